import PyProof.Rows.All
import Wide.All
import OpenK.AllK
import Wide.FinOn
import HandS.ForMost
import HandS.Codes
import HandS.Evl
import HandS.IsInst
import HandS.RevRange
import HandS.Rev
import HandS.Conv
import HandS.Flow
import HandS.ClsMeth
import HandS.Defaults
import HandS.ExcOwn
import HandS.TryOnly
import HandS.WordsExc
import HandS.SetFor
import HandS.Strs
import HandS.SortInts
import HandS.Walk
import HandS.Replace
import HandS.ExcIs
import HandS.HotCalls
import PySem.Challenge.RW_numberpile_k19_each_refusal_its_own
set_option Elab.async false
set_option linter.all false
set_option maxRecDepth 100000
set_option maxHeartbeats 4000000
set_option Elab.async false
set_option maxRecDepth 100000
set_option maxHeartbeats 4000000
namespace Np
/-! ### counts -/
/-- counts as the document tells them -/
structure Good (ns : List Int) : Prop where
  pos : 0 < ns.length
  len : ns.length ≤ 100
  nn : ∀ c ∈ ns, 0 ≤ c
  le : ∀ c ∈ ns, c ≤ 999
  sum : 0 < ns.sum
theorem sum_nn : ∀ {ns : List Int}, (∀ c ∈ ns, 0 ≤ c) → 0 ≤ ns.sum
  | [], _ => by simp
  | c :: r, h => by
    have h1 := h c (List.mem_cons_self ..)
    have h2 := sum_nn (ns := r) fun d hd => h d (List.mem_cons_of_mem _ hd)
    rw [List.sum_cons]
    omega
theorem sum_le : ∀ {ns : List Int}, (∀ c ∈ ns, c ≤ 999) → ns.sum ≤ 999 * ns.length
  | [], _ => by simp
  | c :: r, h => by
    have h1 := h c (List.mem_cons_self ..)
    have h2 := sum_le (ns := r) fun d hd => h d (List.mem_cons_of_mem _ hd)
    rw [List.sum_cons, List.length_cons]
    omega
theorem Good.sumle {ns : List Int} (g : Good ns) : ns.sum ≤ 99900 := by
  have h1 := sum_le g.le
  have h2 := g.len
  omega
theorem take_nn {ns : List Int} (h : ∀ c ∈ ns, 0 ≤ c) (k : Nat) : ∀ c ∈ ns.take k, 0 ≤ c := fun c hc => h c (List.mem_of_mem_take hc)
theorem first_le {ns : List Int} (h : ∀ c ∈ ns, 0 ≤ c) (k : Nat) : (ns.take k).sum ≤ ns.sum := by
  have e : (ns.take k).sum + (ns.drop k).sum = ns.sum := by rw [← List.sum_append, List.take_append_drop]
  have h2 : 0 ≤ (ns.drop k).sum := sum_nn fun c hc => h c (List.mem_of_mem_drop hc)
  omega
theorem sum_mono {ns : List Int} (h : ∀ c ∈ ns, 0 ≤ c) {i j : Nat} (hij : i ≤ j) : (ns.take i).sum ≤ (ns.take j).sum := by
  have e : ns.take i = (ns.take j).take i := by rw [List.take_take, Nat.min_eq_left hij]
  rw [e]
  exact first_le (take_nn h j) i
/-- the sign of a slot -/
def holder : List Int → Int → Nat
  | [], _ => 0
  | c :: r, s => if c ≤ s then holder r (s - c) + 1 else 0
theorem holder_spec : ∀ {ns : List Int} {s : Int}, 0 ≤ s → s < ns.sum →
    holder ns s < ns.length ∧ (ns.take (holder ns s)).sum ≤ s ∧ ∃ c, ns[holder ns s]? = some c ∧ s < (ns.take (holder ns s)).sum + c
  | [], s, h0, h1 => by simp at h1; omega
  | c :: r, s, h0, h1 => by
    unfold holder
    by_cases h : c ≤ s
    · rw [if_pos h]
      rw [List.sum_cons] at h1
      obtain ⟨a, b, d, e, f⟩ := holder_spec (ns := r) (s := s - c) (by omega) (by omega)
      refine ⟨by rw [List.length_cons]; omega, ?_, d, ?_, ?_⟩
      · rw [List.take_succ_cons, List.sum_cons]; omega
      · simpa using e
      · rw [List.take_succ_cons, List.sum_cons]; omega
    · rw [if_neg h]
      refine ⟨by rw [List.length_cons]; omega, ?_, c, by simp, ?_⟩
      · simpa using h0
      · simp; omega
/-- one step of the search -/
theorem holder_step {ns : List Int} {j : Nat} {c s : Int} (e : ns[j]? = some c) : holder (ns.drop j) s = if c ≤ s then holder (ns.drop (j + 1)) (s - c) + 1 else 0 := by
  obtain ⟨h, e⟩ := List.getElem?_eq_some_iff.mp e
  rw [List.drop_eq_getElem_cons h, e]
  rfl
theorem sum_drop {ns : List Int} {j : Nat} {c : Int} (e : ns[j]? = some c) : (ns.drop j).sum = c + (ns.drop (j + 1)).sum := by
  obtain ⟨h, e⟩ := List.getElem?_eq_some_iff.mp e
  rw [List.drop_eq_getElem_cons h, e, List.sum_cons]
theorem sum_take1 {ns : List Int} {j : Nat} {c : Int} (e : ns[j]? = some c) : (ns.take (j + 1)).sum = (ns.take j).sum + c := by
  obtain ⟨h, e⟩ := List.getElem?_eq_some_iff.mp e
  rw [List.take_succ_eq_append_getElem h, e, List.sum_append]
  simp
/-! ### the laws' draws -/
def draw (cell k bound : Int) : Int := ((cell % 1000003 * 48271 + k * 69621 + 11) % 2147483647) * ((cell % 7919 + 1) * (k * k + 31 * k + 7) % 65537 + 1) / 4099 % bound
theorem draw_nn {cell k bound : Int} (h : 0 < bound) : 0 ≤ draw cell k bound := Int.emod_nonneg _ (by omega)
theorem draw_lt {cell k bound : Int} (h : 0 < bound) : draw cell k bound < bound := Int.emod_lt_of_pos _ h
def topOf (cell : Int) : Int := if cell % 4 = 0 then 2 else if cell % 4 = 1 then 10 else if cell % 4 = 2 then 1000 else 4
theorem topOf_pos (cell : Int) : 2 ≤ topOf cell ∧ topOf cell ≤ 1000 := by unfold topOf; repeat' split <;> omega
def counts0 (cell many : Int) : List Int := (List.range many.toNat).map fun (k : Nat) => draw (cell / 4) (k : Int) (topOf cell)
def lawCounts (cell many : Int) : List Int := if (counts0 cell many).sum = 0 then (counts0 cell many).set (cell / 4 % many).toNat 1 else counts0 cell many
theorem sum_zero : ∀ {ns : List Int}, (∀ c ∈ ns, 0 ≤ c) → ns.sum = 0 → ∀ c ∈ ns, c = 0
  | [], _, _, c, hc => by cases hc
  | d :: r, h, e, c, hc => by
    have h1 := h d (List.mem_cons_self ..)
    have h2 := sum_nn (ns := r) fun x hx => h x (List.mem_cons_of_mem _ hx)
    rw [List.sum_cons] at e
    rcases List.mem_cons.mp hc with rfl | hc
    · omega
    · exact sum_zero (fun x hx => h x (List.mem_cons_of_mem _ hx)) (by omega) c hc
theorem mem_le_sum : ∀ {ns : List Int} {c : Int}, (∀ c ∈ ns, 0 ≤ c) → c ∈ ns → c ≤ ns.sum
  | d :: r, c, h, hc => by
    have h1 := h d (List.mem_cons_self ..)
    have h2 := sum_nn (ns := r) fun x hx => h x (List.mem_cons_of_mem _ hx)
    rw [List.sum_cons]
    rcases List.mem_cons.mp hc with rfl | hc
    · omega
    · have := mem_le_sum (fun x hx => h x (List.mem_cons_of_mem _ hx)) hc
      omega
theorem counts0_len (cell many : Int) : (counts0 cell many).length = many.toNat := by simp [counts0]
theorem lawCounts_len (cell many : Int) : (lawCounts cell many).length = many.toNat := by
  unfold lawCounts
  split
  · rw [List.length_set, counts0_len]
  · exact counts0_len ..
theorem counts0_in {cell many c : Int} (h : c ∈ counts0 cell many) : 0 ≤ c ∧ c ≤ 999 := by
  obtain ⟨k, _, rfl⟩ := List.mem_map.mp h
  have h1 := topOf_pos cell
  have h2 := draw_nn (cell := cell / 4) (k := k) (bound := topOf cell) (by omega)
  have h3 := draw_lt (cell := cell / 4) (k := k) (bound := topOf cell) (by omega)
  omega
theorem good_counts {cell many : Int} (h1 : 1 ≤ many) (h2 : many ≤ 100) : Good (lawCounts cell many) := by
  have hl := lawCounts_len cell many
  have hin : ∀ c ∈ lawCounts cell many, 0 ≤ c ∧ c ≤ 999 := fun c hc => by
    unfold lawCounts at hc
    split at hc
    · rcases List.mem_or_eq_of_mem_set hc with hc | rfl
      · exact counts0_in hc
      · omega
    · exact counts0_in hc
  refine ⟨by omega, by omega, fun c hc => (hin c hc).1, fun c hc => (hin c hc).2, ?_⟩
  have nn := sum_nn fun c hc => (hin c hc).1
  by_cases e : (counts0 cell many).sum = 0
  · have e2 : lawCounts cell many = (counts0 cell many).set (cell / 4 % many).toNat 1 := if_pos e
    have hk : (cell / 4 % many).toNat < (counts0 cell many).length := by
      rw [counts0_len]
      have := Int.emod_nonneg (cell / 4) (show many ≠ 0 by omega)
      have := Int.emod_lt_of_pos (cell / 4) (show 0 < many by omega)
      omega
    have hm : (1 : Int) ∈ lawCounts cell many := by rw [e2]; exact List.mem_set hk 1
    have := mem_le_sum (fun c hc => (hin c hc).1) hm
    omega
  · have e2 : lawCounts cell many = counts0 cell many := if_neg e
    rw [e2] at nn ⊢
    omega
/-! ### a sign laid, a sign taken -/
def cnt (ns : List Int) (s : Int) : Int := ns.getD s.toNat 0
def first (ns : List Int) (s : Int) : Int := (ns.take s.toNat).sum
def put (p : Int) (ns : List Int) (s : Int) : Int := p / cnt ns s * ns.sum + first ns s + p % cnt ns s
def offS (p : Int) (ns : List Int) : Int := (holder ns (p % ns.sum) : Nat)
def offP (p : Int) (ns : List Int) : Int := p / ns.sum * cnt ns (offS p ns) + p % ns.sum - first ns (offS p ns)
/-- a sign that can be laid -/
structure Sign (ns : List Int) (s : Int) : Prop where
  nn : 0 ≤ s
  lt : s < ns.length
  cp : 0 < cnt ns s
theorem cnt_at {ns : List Int} {s : Int} (h : 0 ≤ s) (h2 : s < ns.length) : ns[s.toNat]? = some (cnt ns s) := by
  have hl : s.toNat < ns.length := by omega
  unfold cnt
  rw [List.getD_eq_getElem?_getD, List.getElem?_eq_getElem hl]
  rfl
theorem cnt_mem {ns : List Int} {s : Int} (h : 0 ≤ s) (h2 : s < ns.length) : cnt ns s ∈ ns := List.mem_of_getElem? (cnt_at h h2)
theorem cnt_le {ns : List Int} {s : Int} (g : Good ns) (h : 0 ≤ s) (h2 : s < ns.length) : 0 ≤ cnt ns s ∧ cnt ns s ≤ 999 := ⟨g.nn _ (cnt_mem h h2), g.le _ (cnt_mem h h2)⟩
theorem first_nn {ns : List Int} (g : Good ns) (s : Int) : 0 ≤ first ns s := sum_nn (take_nn g.nn _)
theorem first_top {ns : List Int} {s : Int} (g : Good ns) (h : 0 ≤ s) (h2 : s < ns.length) : first ns s + cnt ns s ≤ ns.sum := by
  have e := sum_take1 (cnt_at h h2)
  have := first_le g.nn (s.toNat + 1)
  unfold first
  omega
/-- a slot in a sign's stretch is that sign's -/
theorem holder_is : ∀ {ns : List Int} {k : Nat} {c s : Int}, (∀ x ∈ ns, 0 ≤ x) → ns[k]? = some c → (ns.take k).sum ≤ s → s < (ns.take k).sum + c → holder ns s = k
  | [], k, c, s, _, h, _, _ => by simp at h
  | d :: r, 0, c, s, _, h, h1, h2 => by
    simp at h
    subst h
    unfold holder
    simp at h1 h2
    rw [if_neg (by omega)]
  | d :: r, k + 1, c, s, nn, h, h1, h2 => by
    rw [List.take_succ_cons, List.sum_cons] at h1 h2
    have hd := nn d (List.mem_cons_self ..)
    have ht := sum_nn (take_nn (fun x hx => nn x (List.mem_cons_of_mem _ hx)) k)
    have ih := holder_is (ns := r) (k := k) (c := c) (s := s - d) (fun x hx => nn x (List.mem_cons_of_mem _ hx)) (by simpa using h) (by omega) (by omega)
    unfold holder
    rw [if_pos (by omega), ih]
theorem off_sign {ns : List Int} (g : Good ns) (p : Int) : Sign ns (offS p ns) ∧ first ns (offS p ns) ≤ p % ns.sum ∧ p % ns.sum < first ns (offS p ns) + cnt ns (offS p ns) := by
  have gs := g.sum
  have h0 := Int.emod_nonneg p (show ns.sum ≠ 0 by omega)
  have h1 := Int.emod_lt_of_pos p gs
  obtain ⟨a, b, c, d, e⟩ := holder_spec h0 h1
  have ec : cnt ns (offS p ns) = c := by
    unfold cnt offS
    rw [Int.toNat_natCast, List.getD_eq_getElem?_getD, d]
    rfl
  have ef : first ns (offS p ns) = (ns.take (holder ns (p % ns.sum))).sum := by
    unfold first offS
    rw [Int.toNat_natCast]
  refine ⟨⟨by unfold offS; omega, by unfold offS; omega, by omega⟩, by omega, by omega⟩
theorem put_nn {ns : List Int} {p s : Int} (g : Good ns) (h : 0 ≤ p) (x : Sign ns s) : 0 ≤ put p ns s := by
  have h1 : 0 ≤ p / cnt ns s := Int.ediv_nonneg h (by have := x.cp; omega)
  have h2 : 0 ≤ p % cnt ns s := Int.emod_nonneg p (by have := x.cp; omega)
  have h3 : 0 ≤ p / cnt ns s * ns.sum := Int.mul_nonneg h1 (by have := g.sum; omega)
  have h4 := first_nn g s
  unfold put
  omega
theorem offP_nn {ns : List Int} {p : Int} (g : Good ns) (h : 0 ≤ p) : 0 ≤ offP p ns := by
  obtain ⟨x, h1, h2⟩ := off_sign g p
  have h3 : 0 ≤ p / ns.sum := Int.ediv_nonneg h (by have := g.sum; omega)
  have h4 : 0 ≤ p / ns.sum * cnt ns (offS p ns) := Int.mul_nonneg h3 (by have := x.cp; omega)
  unfold offP
  omega
theorem div_rest {q b r : Int} (h0 : 0 ≤ r) (h1 : r < b) : (q * b + r) / b = q ∧ (q * b + r) % b = r := by
  have hb : b ≠ 0 := by omega
  constructor
  · rw [Int.add_comm, Int.add_mul_ediv_right _ _ hb, Int.ediv_eq_zero_of_lt h0 h1, Int.zero_add]
  · rw [Int.add_comm, Int.add_mul_emod_self_right, Int.emod_eq_of_lt h0 h1]
theorem div_back (p b : Int) : p / b * b + p % b = p := by
  have := Int.mul_ediv_add_emod p b
  rw [Int.mul_comm] at this
  exact this
theorem off_put {ns : List Int} {p s : Int} (g : Good ns) (x : Sign ns s) : offS (put p ns s) ns = s ∧ offP (put p ns s) ns = p := by
  have h1 : 0 ≤ p % cnt ns s := Int.emod_nonneg p (by have := x.cp; omega)
  have h2 : p % cnt ns s < cnt ns s := Int.emod_lt_of_pos p x.cp
  have h3 := first_nn g s
  have h4 := first_top g x.nn x.lt
  obtain ⟨e1, e2⟩ := div_rest (q := p / cnt ns s) (b := ns.sum) (r := first ns s + p % cnt ns s) (by omega) (by omega)
  have e0 : put p ns s = p / cnt ns s * ns.sum + (first ns s + p % cnt ns s) := by unfold put; omega
  rw [← e0] at e1 e2
  have e3 : offS (put p ns s) ns = s := by
    have := holder_is (ns := ns) (k := s.toNat) (c := cnt ns s) (s := first ns s + p % cnt ns s) g.nn (cnt_at x.nn x.lt) (by unfold first; unfold first at *; omega) (by unfold first; unfold first at *; omega)
    unfold offS
    rw [e2, this]
    have := x.nn
    omega
  refine ⟨e3, ?_⟩
  unfold offP
  rw [e3, e1, e2]
  have := div_back p (cnt ns s)
  omega
theorem put_off {ns : List Int} (g : Good ns) (p : Int) : put (offP p ns) ns (offS p ns) = p := by
  obtain ⟨x, h1, h2⟩ := off_sign g p
  have e0 : offP p ns = p / ns.sum * cnt ns (offS p ns) + (p % ns.sum - first ns (offS p ns)) := by unfold offP; omega
  obtain ⟨e1, e2⟩ := div_rest (q := p / ns.sum) (b := cnt ns (offS p ns)) (r := p % ns.sum - first ns (offS p ns)) (by omega) (by omega)
  rw [← e0] at e1 e2
  unfold put
  rw [e1, e2]
  have := div_back p ns.sum
  omega
theorem put_level {ns : List Int} {s : Int} (g : Good ns) (x : Sign ns s) (p : Int) : ns.sum * (p / cnt ns s) ≤ put p ns s ∧ put p ns s < ns.sum * (p / cnt ns s + 1) := by
  have h1 : 0 ≤ p % cnt ns s := Int.emod_nonneg p (by have := x.cp; omega)
  have h2 : p % cnt ns s < cnt ns s := Int.emod_lt_of_pos p x.cp
  have h3 := first_nn g s
  have h4 := first_top g x.nn x.lt
  rw [Int.mul_add, Int.mul_one, Int.mul_comm ns.sum]
  unfold put
  omega
/-! ### the signs that are held -/
def held (ns : List Int) : List Int := ((List.range ns.length).filter fun i => decide (0 < ns.getD i 0)).map fun (i : Nat) => (i : Int)
theorem mem_held {ns : List Int} {s : Int} : s ∈ held ns ↔ Sign ns s := by
  constructor
  · intro h
    obtain ⟨i, hi, rfl⟩ := List.mem_map.mp h
    obtain ⟨h1, h2⟩ := List.mem_filter.mp hi
    have h1 := List.mem_range.mp h1
    have h2 := of_decide_eq_true h2
    exact ⟨by omega, by omega, by unfold cnt; rw [Int.toNat_natCast]; exact h2⟩
  · intro x
    have h1 := x.nn
    have h2 := x.lt
    refine List.mem_map.mpr ⟨s.toNat, List.mem_filter.mpr ⟨List.mem_range.mpr (by omega), decide_eq_true x.cp⟩, by omega⟩
theorem held_pos {ns : List Int} (g : Good ns) : 0 < (held ns).length := by
  have h := mem_held.mpr (off_sign g 0).1
  exact List.length_pos_of_mem h
theorem held_len (ns : List Int) : (held ns).length ≤ ns.length := by
  unfold held
  rw [List.length_map]
  have := List.length_filter_le (fun i => decide (0 < ns.getD i 0)) (List.range ns.length)
  rw [List.length_range] at this
  exact this
theorem at_mem {ns : List Int} {i : Nat} (h : i < ns.length) : ns.getD i 0 ∈ ns := by
  rw [List.getD_eq_getElem?_getD, List.getElem?_eq_getElem h]
  exact List.getElem_mem h
theorem held_at {ns : List Int} (g : Good ns) (c : Int) : Sign ns ((held ns).getD (c % ((held ns).length : Int)).toNat 0) := by
  have hp := held_pos g
  have h0 := Int.emod_nonneg c (show ((held ns).length : Int) ≠ 0 by omega)
  have h1 := Int.emod_lt_of_pos c (show 0 < ((held ns).length : Int) by omega)
  exact mem_held.mp (at_mem (by omega))
def lawPile (c : Int) : Int := if c % 4 = 1 then c / 4 % 30 else c / 4 % 10 ^ 60
theorem lawPile_nn (c : Int) : 0 ≤ lawPile c := by
  unfold lawPile
  split
  · exact Int.emod_nonneg _ (by decide)
  · exact Int.emod_nonneg _ (by decide)
/-! ### rows -/
def layRow (p : Int) (ns row : List Int) : Int := row.foldr (fun s acc => put acc ns s) p
/-- the pile when i signs are off -/
def pileAt (ns : List Int) (p : Int) : Nat → Int
  | 0 => p
  | i + 1 => offP (pileAt ns p i) ns
def takenRow (ns : List Int) (p : Int) (n : Nat) : List Int := (List.range n).map fun i => offS (pileAt ns p i) ns
theorem pileAt_nn {ns : List Int} {p : Int} (g : Good ns) (h : 0 ≤ p) : ∀ i, 0 ≤ pileAt ns p i
  | 0 => h
  | i + 1 => offP_nn g (pileAt_nn g h i)
theorem takenRow_succ (ns : List Int) (p : Int) (n : Nat) : takenRow ns p (n + 1) = takenRow ns p n ++ [offS (pileAt ns p n) ns] := by
  unfold takenRow
  rw [List.range_succ, List.map_append]
  rfl
theorem takenRow_len (ns : List Int) (p : Int) (n : Nat) : (takenRow ns p n).length = n := by simp [takenRow]
theorem takenRow_at {ns : List Int} {p : Int} {n i : Nat} (h : i < n) : (takenRow ns p n)[i]? = some (offS (pileAt ns p i) ns) := by
  unfold takenRow
  rw [List.getElem?_map, List.getElem?_range h]
  rfl
theorem layRow_nn {ns : List Int} {p : Int} (g : Good ns) (h : 0 ≤ p) : ∀ {row : List Int}, (∀ s ∈ row, Sign ns s) → 0 ≤ layRow p ns row
  | [], _ => h
  | s :: r, hr => put_nn g (layRow_nn g h fun x hx => hr x (List.mem_cons_of_mem _ hx)) (hr s (List.mem_cons_self ..))
theorem layRow_drop {p : Int} {ns row : List Int} {i : Nat} {s : Int} (e : row[i]? = some s) : layRow p ns (row.drop i) = put (layRow p ns (row.drop (i + 1))) ns s := by
  obtain ⟨h, e⟩ := List.getElem?_eq_some_iff.mp e
  rw [List.drop_eq_getElem_cons h, e]
  rfl
theorem pile_lay {ns : List Int} {p : Int} {row : List Int} (g : Good ns) (hr : ∀ s ∈ row, Sign ns s) : ∀ i, i ≤ row.length → pileAt ns (layRow p ns row) i = layRow p ns (row.drop i)
  | 0, _ => by rw [List.drop_zero]; rfl
  | i + 1, h => by
    have hi : row[i]? = some row[i] := List.getElem?_eq_getElem (by omega)
    show offP (pileAt ns (layRow p ns row) i) ns = _
    rw [pile_lay g hr i (by omega), layRow_drop hi]
    exact (off_put g (hr _ (List.getElem_mem _))).2
theorem row_back {ns : List Int} {p : Int} {row : List Int} (g : Good ns) (hr : ∀ s ∈ row, Sign ns s) : takenRow ns (layRow p ns row) row.length = row ∧ pileAt ns (layRow p ns row) row.length = p := by
  constructor
  · refine List.ext_getElem? fun i => ?_
    by_cases h : i < row.length
    · rw [takenRow_at h, pile_lay g hr i (by omega), layRow_drop (List.getElem?_eq_getElem h), List.getElem?_eq_getElem h]
      exact congrArg some (off_put g (hr _ (List.getElem_mem _))).1
    · rw [List.getElem?_eq_none (by rw [takenRow_len]; omega), List.getElem?_eq_none (by omega)]
  · rw [pile_lay g hr _ (Nat.le_refl _), List.drop_length]
    rfl
theorem lay_append (p : Int) (ns r u : List Int) : layRow p ns (r ++ u) = layRow (layRow p ns u) ns r := by
  unfold layRow
  rw [List.foldr_append]
theorem lay_back {ns : List Int} (g : Good ns) (p : Int) : ∀ n, layRow (pileAt ns p n) ns (takenRow ns p n) = p
  | 0 => rfl
  | n + 1 => by
    rw [takenRow_succ, lay_append]
    show layRow (put (offP (pileAt ns p n) ns) ns (offS (pileAt ns p n) ns)) ns (takenRow ns p n) = p
    rw [put_off g]
    exact lay_back g p n
theorem taken_sign {ns : List Int} (g : Good ns) (p : Int) (n : Nat) : ∀ s ∈ takenRow ns p n, Sign ns s := fun s h => by
  obtain ⟨i, _, rfl⟩ := List.mem_map.mp h
  exact (off_sign g _).1
/-! ### signs with hidden ones -/
structure Full (ns : List Int) : Prop where
  good : Good ns
  lo : ∀ c ∈ ns, 1 ≤ c
theorem Full.sign {ns : List Int} (f : Full ns) {s : Int} (h0 : 0 ≤ s) (h1 : s < ns.length) : Sign ns s := ⟨h0, h1, by have := f.lo _ (cnt_mem (ns := ns) h0 h1); omega⟩
def lawFull (cell many top : Int) : List Int := (List.range many.toNat).map fun (k : Nat) => 1 + draw cell (k : Int) top
theorem lawFull_len (cell many top : Int) : (lawFull cell many top).length = many.toNat := by simp [lawFull]
theorem full_law (cell : Int) {many top : Int} (h1 : 1 ≤ many) (h2 : many ≤ 100) (h3 : 1 ≤ top) (h4 : top ≤ 999) : Full (lawFull cell many top) := by
  have hm : ∀ c ∈ lawFull cell many top, 1 ≤ c ∧ c ≤ 999 := fun c hc => by
    obtain ⟨k, _, rfl⟩ := List.mem_map.mp hc
    have d0 := draw_nn (cell := cell) (k := k) (bound := top) (by omega)
    have d1 := draw_lt (cell := cell) (k := k) (bound := top) (by omega)
    omega
  have hl := lawFull_len cell many top
  have nn : ∀ c ∈ lawFull cell many top, 0 ≤ c := fun c hc => by have := (hm c hc).1; omega
  have hp : 0 < (lawFull cell many top).length := by omega
  refine ⟨⟨by omega, by omega, nn, fun c hc => (hm c hc).2, ?_⟩, fun c hc => (hm c hc).1⟩
  have h0 := List.getElem_mem (l := lawFull cell many top) (n := 0) hp
  have := mem_le_sum nn h0
  have := (hm _ h0).1
  omega
structure Tabs (prior : List Int) (given back : List (List Int)) : Prop where
  p : Full prior
  gl : given.length = prior.length
  g : ∀ t ∈ given, Full t ∧ t.length = back.length
  b : ∀ t ∈ back, Full t ∧ t.length = prior.length
def rowOf (ts : List (List Int)) (s : Int) : List Int := ts.getD s.toNat []
theorem row_at {ts : List (List Int)} {s : Int} (h0 : 0 ≤ s) (h1 : s < ts.length) : ts[s.toNat]? = some (rowOf ts s) := by
  have h : s.toNat < ts.length := by omega
  unfold rowOf
  rw [List.getD_eq_getElem?_getD, List.getElem?_eq_getElem h]
  rfl
def layH (p : Int) (prior : List Int) (given back : List (List Int)) (s : Int) : Int := put (put (offP p (rowOf back s)) (rowOf given (offS p (rowOf back s))) s) prior (offS p (rowOf back s))
def takeS (p : Int) (prior : List Int) (given : List (List Int)) : Int := offS (offP p prior) (rowOf given (offS p prior))
def takeP (p : Int) (prior : List Int) (given back : List (List Int)) : Int := put (offP (offP p prior) (rowOf given (offS p prior))) (rowOf back (takeS p prior given)) (offS p prior)
section
variable {prior : List Int} {given back : List (List Int)}
structure LayF (p : Int) (prior : List Int) (given back : List (List Int)) (s h : Int) : Prop where
  bi : back[s.toNat]? = some (rowOf back s)
  bg : Good (rowOf back s)
  h0 : 0 ≤ h
  bs : Sign (rowOf back s) h
  gi : given[h.toNat]? = some (rowOf given h)
  gg : Good (rowOf given h)
  gs : Sign (rowOf given h) s
  pg : Good prior
  ps : Sign prior h
theorem lay_facts (T : Tabs prior given back) {s h : Int} (s0 : 0 ≤ s) (s1 : s < back.length) (h0 : 0 ≤ h) (h1 : h < prior.length) (p : Int) : LayF p prior given back s h := by
  have bi := row_at s0 s1
  have hb := T.b _ (List.mem_of_getElem? bi)
  have gi := row_at (ts := given) h0 (by rw [T.gl]; exact h1)
  have hg := T.g _ (List.mem_of_getElem? gi)
  exact ⟨bi, hb.1.good, h0, hb.1.sign h0 (by omega), gi, hg.1.good, hg.1.sign s0 (by omega), T.p.good, T.p.sign h0 h1⟩
theorem lay_in (T : Tabs prior given back) {s : Int} (s0 : 0 ≤ s) (s1 : s < back.length) (p : Int) : 0 ≤ offS p (rowOf back s) ∧ offS p (rowOf back s) < prior.length := by
  have hb := T.b _ (List.mem_of_getElem? (row_at s0 s1))
  have x := (off_sign hb.1.good p).1
  have := x.lt
  exact ⟨x.nn, by omega⟩
theorem take_in (T : Tabs prior given back) (p : Int) : 0 ≤ offS p prior ∧ offS p prior < prior.length ∧ 0 ≤ takeS p prior given ∧ takeS p prior given < back.length := by
  have x := (off_sign T.p.good p).1
  have hg := T.g _ (List.mem_of_getElem? (row_at (ts := given) x.nn (by rw [T.gl]; exact x.lt)))
  have y := (off_sign hg.1.good (offP p prior)).1
  have := y.lt
  exact ⟨x.nn, x.lt, y.nn, by unfold takeS; omega⟩
theorem take_lay (T : Tabs prior given back) {s : Int} (s0 : 0 ≤ s) (s1 : s < back.length) (p : Int) : takeS (layH p prior given back s) prior given = s ∧ takeP (layH p prior given back s) prior given back = p := by
  obtain ⟨h0, h1⟩ := lay_in T s0 s1 p
  have f := lay_facts T s0 s1 h0 h1 p
  obtain ⟨a1, a2⟩ := off_put (p := put (offP p (rowOf back s)) (rowOf given (offS p (rowOf back s))) s) f.pg f.ps
  obtain ⟨b1, b2⟩ := off_put (p := offP p (rowOf back s)) f.gg f.gs
  have e1 : takeS (layH p prior given back s) prior given = s := by
    unfold takeS layH
    rw [a1, a2, b1]
  refine ⟨e1, ?_⟩
  unfold takeP
  rw [e1]
  unfold layH
  rw [a1, a2, b2]
  exact put_off f.bg p
theorem lay_take (T : Tabs prior given back) (p : Int) : layH (takeP p prior given back) prior given back (takeS p prior given) = p := by
  obtain ⟨h0, h1, s0, s1⟩ := take_in T p
  have f := lay_facts T s0 s1 h0 h1 p
  obtain ⟨a1, a2⟩ := off_put (p := offP (offP p prior) (rowOf given (offS p prior))) f.bg f.bs
  have e : put (offP (offP p prior) (rowOf given (offS p prior))) (rowOf given (offS p prior)) (takeS p prior given) = offP p prior := put_off f.gg (offP p prior)
  unfold layH takeP
  rw [a1, a2, e]
  exact put_off f.pg p
theorem layH_nn (T : Tabs prior given back) {s p : Int} (s0 : 0 ≤ s) (s1 : s < back.length) (hp : 0 ≤ p) : 0 ≤ layH p prior given back s := by
  obtain ⟨h0, h1⟩ := lay_in T s0 s1 p
  have f := lay_facts T s0 s1 h0 h1 p
  exact put_nn f.pg (put_nn f.gg (offP_nn f.bg hp) f.gs) f.ps
theorem takeP_nn (T : Tabs prior given back) {p : Int} (hp : 0 ≤ p) : 0 ≤ takeP p prior given back := by
  obtain ⟨h0, h1, s0, s1⟩ := take_in T p
  have f := lay_facts T s0 s1 h0 h1 p
  exact put_nn f.bg (offP_nn f.gg (offP_nn f.pg hp)) f.bs
end
end Np

set_option Elab.async false
set_option maxRecDepth 100000
set_option maxHeartbeats 4000000
/-! Steps of a reading, one small theorem a form; and the facts of heaps. -/
namespace Np
open PySem PySem.Spec PyProof.Rows L2
open Evl (Ex)
open C8 (Cal Met Mak pe_c pe_mk pe_mt pe_mt0 pe_gc)

abbrev iL (ns : List Int) : List V := ns.map V.int
/-- what a test's value is handed to -/
def kB (Q : Bool → Hp → Prop) : VK := fun x H => ∃ k, x = .bl k ∧ Q k H
def kI (Q : Option Int → Hp → Prop) : VK := fun x H => ∃ i, x = .int i ∧ Q (some i) H
/-- a new tuple | list -/
def rNewT (xs : List V) (H : Hp) (Q : VK) : Prop := xs.length ≤ sizeLine ∧ ∀ p, H p = none → Q (.ref p) (upd H p (.tup xs))
def rNewL (xs : List V) (H : Hp) (Q : VK) : Prop := xs.length ≤ sizeLine ∧ ∀ p, H p = none → Q (.ref p) (upd H p (.lst xs))
def rLenS (K : PySem.W.Frag) : List V → Hp → VK → Prop := fun xs H Q => ∃ p ys, xs = [.ref p] ∧ (SqL K H p ys ∨ SqT K H p ys) ∧ Q (.int ys.length) H
def rListS (K : PySem.W.Frag) : List V → Hp → VK → Prop := fun xs H Q => ∃ p ys, xs = [.ref p] ∧ (SqL K H p ys ∨ SqT K H p ys) ∧ ∀ l, H l = none → Q (.ref l) (upd H l (.lst ys))
def rDivmod : List V → Hp → VK → Prop := fun xs H Q => ∃ i j, xs = [.int i, .int j] ∧ CDiv i j ∧ ∀ p, H p = none → Q (.ref p) (upd H p (.tup [.int (i / j), .int (i % j)]))
def rNon (neg : Bool) : R2 := fun x y H Q => y = .non ∧ Q (.bl (if neg then !decide (x = .non) else decide (x = .non))) H
section
variable {X : Cx} {K : PySem.W.Frag}
theorem n_len (e : X.K = K) : CallR X (.builtin "len") (rLenS K) := by subst e; exact call_len_seq
theorem n_list (e : X.K = K) : CallR X (.type "list") (rListS K) := by subst e; exact call_list_of
theorem n_divmod : CallR X (.builtin "divmod") rDivmod := call_divmod
theorem n_isN : OpR X (compareOp .Is) (rNon false) := op_isN
theorem n_notN : OpR X (compareOp .IsNot) (rNon true) := op_notN
theorem n_sum (e : X.K = K) (hc : X.calm = true) : CallR X (.builtin "sum") (rSum K) := by subst e; exact cr_sum hc
theorem n_min (e : X.K = K) (hc : X.calm = true) : CallR X (.builtin "min") (rMin K) := by subst e; exact cr_min hc
theorem n_max (e : X.K = K) (hc : X.calm = true) : CallR X (.builtin "max") (rMax K) := by subst e; exact cr_max hc
theorem n_ixL (e : X.K = K) : IxR X (rIxL K) := by subst e; exact ix_list
theorem n_ixT (e : X.K = K) : IxR X (rIxT K) := by subst e; exact ix_tup
theorem n_slL (e : X.K = K) : SlR X (rSlL K) := by subst e; exact sl_list
theorem n_slT (e : X.K = K) : SlR X (rSlT K) := by subst e; exact sl_tup
theorem n_in (e : X.K = K) : OpR X (compareOp .In) (rIn K false) := by subst e; exact op_in_seq
theorem n_notIn (e : X.K = K) : OpR X (compareOp .NotIn) (rIn K true) := by subst e; exact op_notIn_seq
theorem n_eqD (e : X.K = K) (hu : X.A.units + 64 < cLine) : OpR X (compareOp .Eq) (rEqD K) := by subst e; exact op_eqD hu
theorem n_neD (e : X.K = K) (hu : X.A.units + 64 < cLine) : OpR X (compareOp .NotEq) (rNeD K) := by subst e; exact op_neD hu
theorem n_isi (e : X.K = K) : CallR X (.builtin "isinstance") (rIsi K) := by subst e; exact call_isi
theorem n_pi {tg l : Expr} {tl : TE} (e : X.K = K) (hl : PE X l tl) : PI X tg l (iList K tl) := by subst e; exact pi_list hl
theorem n_pirev {tg e : Expr} {ta : TA} {p pos : Pos} (ek : X.K = K) (hg : Gl X "reversed") (hm : X.mg "reversed" = none) (ha : PA X [e] ta) (hs : starEach [e] X.env = [(false, eval e X.env)] := by rfl) : PI X tg (.Call (.Name "reversed" p) [e] [] pos) (iRev K ta) := by subst ek; exact pi_reversed hg hm ha hs
theorem n_fld {e : Expr} {ta : TE} {f : Str} {pos : Pos} (ek : X.K = K) (he : PE X e ta) (hb : attributeBase e f X.env (eval e X.env) = eval e X.env) : PE X (.Attribute e f pos) (tFld K ta f) := by subst ek; exact pe_fld he hb
theorem n_setF {o value : Expr} {ta tv : TE} {f : Str} {pos pos' : Pos} (ek : X.K = K) (ha : PE X o ta) (hv : PE X value tv) (hs : swapsWith value (some (.Attribute o f pos')) pos.line X.env = pure false) : PS X (.Assign [.Attribute o f pos'] value pos) (sFld K ta tv f) := by subst ek; exact ps_fld ha hv hs
end
section
variable {K : PySem.W.Frag} {σ : L2.St} {H H' : Hp} {D : Ends} {Q : VK} {QB : Bool → Hp → Prop} {ta tb te tc : TE} {t u c : TT} {tl tr : TA} {r r' : R2} {x y v : V} {s1 s2 : TS} {i j : Int} {a p : Addr} {xs ys : List V} {ns : List Int}
/-! ### expressions -/
theorem w_var {k : Nat} (h : σ[k]? = some (some v)) (q : Q v H) : tVar k σ H Q := ⟨v, h, q⟩
theorem w_c (q : Q v H) : tC v σ H Q := q
theorem w_op (q : ta σ H fun x H1 => tb σ H1 fun y H2 => r x y H2 Q) : tOp r ta tb σ H Q := q
theorem w_un {r : V → Hp → VK → Prop} (q : ta σ H fun x H1 => r x H1 Q) : tUn r ta σ H Q := q
theorem w_I0 {g : Int → Int → V} (q : Q (g i j) H) : rI0 g (.int i) (.int j) H Q := ⟨i, j, rfl, rfl, q⟩
theorem w_I {C : Int → Int → Prop} {g : Int → Int → V} (h : C i j) (q : Q (g i j) H) : rI C g (.int i) (.int j) H Q := ⟨i, j, rfl, rfl, h, q⟩
theorem cmulL (h0 : -18446744073709551616 < i) (h1 : i < 18446744073709551616) : CMul i j := .inl ⟨Int.lt_of_le_of_lt (by decide) h0, Int.lt_of_lt_of_le h1 (by decide)⟩
theorem cmulR (h0 : -18446744073709551616 < j) (h1 : j < 18446744073709551616) : CMul i j := .inr ⟨Int.lt_of_le_of_lt (by decide) h0, Int.lt_of_lt_of_le h1 (by decide)⟩
theorem w_U {g : Int → V} (q : Q (g i) H) : rU g (.int i) H Q := ⟨i, rfl, q⟩
theorem w_eqI (q : Q (.bl (decide (i = j))) H) : rEq (.int i) (.int j) H Q := ⟨rfl, by
  have e : decide (V.int i = V.int j) = decide (i = j) := decide_eq_decide.mpr ⟨fun h => V.int.inj h, fun h => congrArg V.int h⟩
  rw [e]; exact q⟩
theorem w_neI (q : Q (.bl (!decide (i = j))) H) : rNe (.int i) (.int j) H Q := ⟨rfl, by
  have e : decide (V.int i = V.int j) = decide (i = j) := decide_eq_decide.mpr ⟨fun h => V.int.inj h, fun h => congrArg V.int h⟩
  rw [e]; exact q⟩
theorem w_eqS {m n : Str} (q : Q (.bl (decide (m = n))) H) : rEq (.str m) (.str n) H Q := ⟨rfl, by
  have e : decide (V.str m = V.str n) = decide (m = n) := decide_eq_decide.mpr ⟨fun h => V.str.inj h, fun h => congrArg V.str h⟩
  rw [e]; exact q⟩
theorem w_neS {m n : Str} (q : Q (.bl (!decide (m = n))) H) : rNe (.str m) (.str n) H Q := ⟨rfl, by
  have e : decide (V.str m = V.str n) = decide (m = n) := decide_eq_decide.mpr ⟨fun h => V.str.inj h, fun h => congrArg V.str h⟩
  rw [e]; exact q⟩
theorem w_isN (q : Q (.bl (decide (x = .non))) H) : rNon false x .non H Q := ⟨rfl, q⟩
theorem w_notN (q : Q (.bl (!decide (x = .non))) H) : rNon true x .non H Q := ⟨rfl, q⟩
theorem w_chain (q : ta σ H fun x H1 => tb σ H1 fun y H2 => r x y H2 (kB fun k H3 => if k = true then tc σ H3 fun w' H4 => r' y w' H4 Q else Q (.bl false) H3)) : tChain r r' ta tb tc σ H Q := q
theorem w_iteT {A B : Prop} (h : A) : if true = true then A else B := iteT h
theorem w_iteF {A B : Prop} (h : B) : if false = true then A else B := iteF h
theorem w_iteNT {A B : Prop} (h : B) : if (!true) = true then A else B := iteF h
theorem w_iteNF {A B : Prop} (h : A) : if (!false) = true then A else B := iteT h
/-- a test that the facts decide -/
theorem w_yes {A B C : Prop} {_ : Decidable C} (c : C) (h : A) : if decide C = true then A else B := by rw [decide_eq_true c]; exact iteT h
theorem w_no {A B C : Prop} {_ : Decidable C} (c : ¬ C) (h : B) : if decide C = true then A else B := by rw [decide_eq_false c]; exact iteF h
theorem w_yesN {A B C : Prop} {_ : Decidable C} (c : ¬ C) (h : A) : if (!decide C) = true then A else B := by rw [decide_eq_false c]; exact iteT h
theorem w_noN {A B C : Prop} {_ : Decidable C} (c : C) (h : B) : if (!decide C) = true then A else B := by rw [decide_eq_true c]; exact iteF h
/-- both ways -/
theorem w_both {A B C : Prop} {_ : Decidable C} (h1 : C → A) (h2 : ¬ C → B) : if decide C = true then A else B := by
  by_cases c : C
  · exact w_yes c (h1 c)
  · exact w_no c (h2 c)
theorem w_bothN {A B C : Prop} {_ : Decidable C} (h1 : ¬ C → A) (h2 : C → B) : if (!decide C) = true then A else B := by
  by_cases c : C
  · exact w_noN c (h2 c)
  · exact w_yesN c (h1 c)
theorem w_bool {A B : Prop} {b : Bool} (h1 : b = true → A) (h2 : b = false → B) : if b = true then A else B := by
  cases b with
  | true => exact iteT (h1 rfl)
  | false => exact iteF (h2 rfl)
/-! ### tests -/
theorem w_test (q : te σ H (kB QB)) : tTest te σ H QB := q
theorem w_tB (q : te σ H (kB QB)) : tB te σ H QB := q
theorem w_kB {b : Bool} (q : QB b H) : kB QB (.bl b) H := ⟨b, rfl, q⟩
theorem w_and (q : t σ H fun b H1 => if b = true then u σ H1 QB else QB false H1) : tAnd t u σ H QB := q
theorem w_or (q : t σ H fun b H1 => if b = true then QB true H1 else u σ H1 QB) : tOr t u σ H QB := q
theorem w_tYes (q : QB true H) : tYes σ H QB := q
theorem w_not (q : t σ H fun b H1 => QB (!b) H1) : tNot t σ H QB := q
theorem w_andV (q : ta σ H (kB fun b H1 => if b = true then tb σ H1 Q else Q (.bl false) H1)) : tAndV ta tb σ H Q := q
theorem w_orV (q : ta σ H (kB fun b H1 => if b = true then Q (.bl true) H1 else tb σ H1 Q)) : tOrV ta tb σ H Q := q
theorem w_notV (q : ta σ H (kB fun b H1 => Q (.bl (!b)) H1)) : tNotV ta σ H Q := q
theorem w_ifE (q : t σ H fun b H1 => if b = true then ta σ H1 Q else tb σ H1 Q) : tIf t ta tb σ H Q := q
/-! ### == of lists, tuples -/
theorem dpAllI : ∀ (ns : List Int), DpAll K H (iL ns) (ns.map PyData.int)
  | [] => .nil
  | n :: r => .cons (.int n) (dpAllI r)
theorem dpL (h : SqL K H a (iL ns)) : Dp K H (.ref a) (.list (ns.map PyData.int)) := .lst h (dpAllI ns)
theorem dpT (h : SqT K H a (iL ns)) : Dp K H (.ref a) (.tuple (ns.map PyData.int)) := .tup h (dpAllI ns)
theorem canI : ∀ ns : List Int, PyData.canLayAll0 (ns.map PyData.int) = true
  | [] => by rw [List.map_nil, PyData.canLayAll0]
  | n :: r => by rw [List.map_cons, PyData.canLayAll0, canI r, PyData.canLay0]; rfl
theorem depI : ∀ ns : List Int, PyData.depthAll (ns.map PyData.int) = 0
  | [] => by rw [List.map_nil, PyData.depthAll]
  | n :: r => by rw [List.map_cons, PyData.depthAll, depI r, PyData.depth]; rfl
theorem shL (ns : List Int) : SeqAt.shaped (.list (ns.map PyData.int)) = true := by
  unfold SeqAt.shaped
  rw [PyData.canLay0, canI, PyData.depth, depI]
  rfl
theorem shT (ns : List Int) : SeqAt.shaped (.tuple (ns.map PyData.int)) = true := by
  unfold SeqAt.shaped
  rw [PyData.canLay0, canI, PyData.depth, depI]
  rfl
theorem eqvAllI : ∀ ns ms : List Int, PyData.eqvAll (ns.map PyData.int) (ms.map PyData.int) = decide (ns = ms)
  | [], [] => by simp [PyData.eqvAll]
  | [], _ :: _ => by simp [PyData.eqvAll]
  | _ :: _, [] => by simp [PyData.eqvAll]
  | n :: r, m :: u => by
    rw [List.map_cons, List.map_cons, PyData.eqvAll, eqvAllI r u, PyData.eqv]
    by_cases h1 : n = m <;> by_cases h2 : r = u <;> simp [h1, h2]
theorem w_eqL {b : Addr} {ms : List Int} (h : SqL K H a (iL ns)) (h' : SqL K H b (iL ms)) (q : Q (.bl (decide (ns = ms))) H) : rEqD K (.ref a) (.ref b) H Q :=
  ⟨_, _, dpL h, dpL h', shL ns, shL ms, by rw [PyData.eqv, eqvAllI]; exact q⟩
theorem w_neL {b : Addr} {ms : List Int} (h : SqL K H a (iL ns)) (h' : SqL K H b (iL ms)) (q : Q (.bl (!decide (ns = ms))) H) : rNeD K (.ref a) (.ref b) H Q :=
  ⟨_, _, dpL h, dpL h', shL ns, shL ms, by rw [PyData.eqv, eqvAllI]; exact q⟩
theorem w_eqT {b : Addr} {ms : List Int} (h : SqT K H a (iL ns)) (h' : SqT K H b (iL ms)) (q : Q (.bl (decide (ns = ms))) H) : rEqD K (.ref a) (.ref b) H Q :=
  ⟨_, _, dpT h, dpT h', shT ns, shT ms, by rw [PyData.eqv, eqvAllI]; exact q⟩
theorem dT {c : Prop} {_ : Decidable c} {R : V → Hp → Prop} (h : c) (q : R (.bl true) H) : R (.bl (decide c)) H := by rw [decide_eq_true h]; exact q
theorem inV_int : ∀ ns : List Int, inV (.int i) (iL ns) = decide (i ∈ ns)
  | [] => by simp [inV]
  | n :: r => by
    have ih := inV_int r
    unfold inV at ih ⊢
    show (eqV (.int n) (.int i) || ((iL r).any fun y => eqV y (.int i))) = _
    rw [ih]
    have e : eqV (.int n) (.int i) = decide (n = i) := by
      show (n == i) = decide (n = i)
      rw [Bool.beq_eq_decide_eq]
    rw [e]
    by_cases h1 : n = i <;> by_cases h2 : i ∈ r <;> simp [h1, h2]
    exact fun h => h1 h.symm
theorem flat_ints (ns : List Int) : (iL ns).all flatV = true := by
  refine List.all_eq_true.mpr fun v hv => ?_
  obtain ⟨n, _, rfl⟩ := List.mem_map.mp hv
  rfl
theorem w_inI (h : SqL K H a (iL ns)) (q : Q (.bl (decide (i ∈ ns))) H) : rIn K false (.int i) (.ref a) H Q := ⟨a, iL ns, rfl, .inl h, rfl, flat_ints ns, by rw [inV_int]; exact q⟩
theorem w_niI (h : SqL K H a (iL ns)) (q : Q (.bl (!decide (i ∈ ns))) H) : rIn K true (.int i) (.ref a) H Q := ⟨a, iL ns, rfl, .inl h, rfl, flat_ints ns, by rw [inV_int]; exact q⟩
/-! ### arguments, calls -/
theorem w_nil {QA : List V → Hp → Prop} (q : QA [] H) : tNil σ H QA := q
theorem w_cons {QA : List V → Hp → Prop} (q : te σ H fun x H1 => tr σ H1 fun xs H2 => QA (x :: xs) H2) : tCons te tr σ H QA := q
theorem w_call {sp : Sp} {E : XK} (q : tl σ H fun vs H1 => sp vs H1 Q E) : tCall sp [] E tl σ H Q := by
  have e : (fun (vs : List V) (H1 : Hp) => sp (vs ++ []) H1 Q E) = fun vs H1 => sp vs H1 Q E := by
    funext vs H1
    rw [List.append_nil]
  show tl σ H fun vs H1 => sp (vs ++ []) H1 Q E
  rw [e]
  exact q
theorem w_callD {sp : Sp} {dvs : List V} {E : XK} (q : tl σ H fun vs H1 => sp (vs ++ dvs) H1 Q E) : tCall sp dvs E tl σ H Q := q
theorem w_cb {r : List V → Hp → VK → Prop} (q : tl σ H fun vs H1 => r vs H1 Q) : tCB r tl σ H Q := q
theorem w_tup (q : tl σ H fun xs H1 => rNewT xs H1 Q) : tTup tl σ H Q := q
theorem w_lst (q : tl σ H fun xs H1 => rNewL xs H1 Q) : tLst tl σ H Q := q
theorem w_newT (hl : xs.length ≤ 1000) (q : ∀ p H1, H p = none → Ex H H1 → H1 p = some (.tup xs) → Q (.ref p) H1) : rNewT xs H Q :=
  ⟨Nat.le_trans hl (by decide), fun p hp => q p _ hp (Evl.Ex.new hp) upd_same⟩
theorem w_newL (hl : xs.length ≤ 1000) (q : ∀ p H1, H p = none → Ex H H1 → H1 p = some (.lst xs) → Q (.ref p) H1) : rNewL xs H Q :=
  ⟨Nat.le_trans hl (by decide), fun p hp => q p _ hp (Evl.Ex.new hp) upd_same⟩
theorem w_len (h : SqL K H a xs) (q : Q (.int xs.length) H) : rLenS K [.ref a] H Q := ⟨a, xs, rfl, .inl h, q⟩
theorem w_lenT (h : SqT K H a xs) (q : Q (.int xs.length) H) : rLenS K [.ref a] H Q := ⟨a, xs, rfl, .inr h, q⟩
theorem w_list (h : SqL K H a xs) (q : ∀ p H1, H p = none → Ex H H1 → H1 p = some (.lst xs) → Q (.ref p) H1) : rListS K [.ref a] H Q :=
  ⟨a, xs, rfl, .inl h, fun p hp => q p _ hp (Evl.Ex.new hp) upd_same⟩
theorem w_sum (h : SqL K H a (iL ns)) (q : Q (.int ns.sum) H) : rSum K [.ref a] H Q := ⟨a, ns, rfl, h, q⟩
theorem w_divmod (h : CDiv i j) (q : ∀ p H1, H p = none → Ex H H1 → H1 p = some (.tup [.int (i / j), .int (i % j)]) → Q (.ref p) H1) : rDivmod [.int i, .int j] H Q :=
  ⟨i, j, rfl, h, fun p hp => q p _ hp (Evl.Ex.new hp) upd_same⟩
/-! ### items, slices -/
theorem w_ixL (h : SqL K H a xs) (e : atI xs i = some v) (q : Q v H) : rIxL K (.ref a) (.int i) H Q := ⟨a, xs, i, v, rfl, rfl, h, e, q⟩
theorem w_ixT (h : SqT K H a xs) (e : atI xs i = some v) (q : Q v H) : rIxT K (.ref a) (.int i) H Q := ⟨a, xs, i, v, rfl, rfl, h, e, q⟩
theorem w_sl {rs : V → Option Int → Option Int → Hp → VK → Prop} {t1 t2 : TO} (q : te σ H fun x H1 => t1 σ H1 fun l H2 => t2 σ H2 fun h H3 => rs x l h H3 Q) : tSl rs te t1 t2 σ H Q := q
theorem w_part {QO : Option Int → Hp → Prop} (q : te σ H (kI QO)) : tPart te σ H QO := q
theorem w_kI {QO : Option Int → Hp → Prop} (q : QO (some i) H) : kI QO (.int i) H := ⟨i, rfl, q⟩
theorem w_noPart {QO : Option Int → Hp → Prop} (q : QO none H) : tNoPart σ H QO := q
theorem w_slL {lo hi : Option Int} (h : SqL K H a xs) (q : ∀ p H1, H p = none → Ex H H1 → H1 p = some (.lst (cutV xs lo hi)) → Q (.ref p) H1) : rSlL K (.ref a) lo hi H Q :=
  ⟨a, xs, rfl, h, fun p hp => q p _ hp (Evl.Ex.new hp) upd_same⟩
theorem w_lenI (h : SqL K H a (iL ns)) (q : Q (.int ns.length) H) : rLenS K [.ref a] H Q := ⟨a, iL ns, rfl, .inl h, by rw [List.length_map]; exact q⟩
theorem w_ixI {k : Nat} {n : Int} (h : SqL K H a (iL ns)) (e : i = (k : Int)) (e2 : ns[k]? = some n) (q : Q (.int n) H) : rIxL K (.ref a) (.int i) H Q :=
  ⟨a, iL ns, i, .int n, rfl, rfl, h, by rw [e]; exact atI_nat (by rw [List.getElem?_map, e2]; rfl), q⟩
/-- an item of a list at an open place in its bounds -/
theorem w_ixD (h : SqL K H a (iL ns)) (h0 : 0 ≤ i) (h1 : i < ns.length) (q : Q (.int (ns.getD i.toNat 0)) H) : rIxL K (.ref a) (.int i) H Q := by
  have hl : i.toNat < ns.length := by omega
  have e : ns[i.toNat]? = some (ns.getD i.toNat 0) := by
    rw [List.getD_eq_getElem?_getD, List.getElem?_eq_getElem hl]
    rfl
  exact w_ixI h (k := i.toNat) (by omega) e q
theorem cut_to {k : Nat} (ns : List Int) : cutV (iL ns) none (some (k : Int)) = iL (ns.take k) := by
  have e : cutV (iL ns) none (some (k : Int)) = (iL ns).take (min k (iL ns).length) := by
    show ((iL ns).drop (HT.sIx (iL ns).length 0 none)).take (HT.sIx (iL ns).length (iL ns).length (some (k : Int)) - HT.sIx (iL ns).length 0 none) = _
    rw [HT.sIx_none, HT.sIx_nat]
    rfl
  rw [e]
  show (ns.map V.int).take (min k (ns.map V.int).length) = (ns.take k).map V.int
  rw [List.map_take]
  by_cases h : k ≤ (ns.map V.int).length
  · rw [Nat.min_eq_left h]
  · rw [Nat.min_eq_right (by omega), List.take_of_length_le (Nat.le_refl _), List.take_of_length_le (by omega)]
theorem cut_last (xs : List V) : cutV xs none (some (-1)) = xs.take (xs.length - 1) := by
  have e : HT.sIx xs.length xs.length (some (-1)) = xs.length - 1 := by
    show (if (-1 : Int) < 0 then ((-1 : Int) + (xs.length : Int)).toNat else min (-1 : Int).toNat xs.length) = xs.length - 1
    rw [if_pos (by decide)]
    omega
  show (xs.drop (HT.sIx xs.length 0 none)).take (HT.sIx xs.length xs.length (some (-1)) - HT.sIx xs.length 0 none) = _
  rw [HT.sIx_none, e]
  rfl
theorem cut_from {k : Nat} (ns : List Int) : cutV (iL ns) (some (k : Int)) none = iL (ns.drop k) := by
  show ((iL ns).drop (HT.sIx (iL ns).length 0 (some (k : Int)))).take (HT.sIx (iL ns).length (iL ns).length none - HT.sIx (iL ns).length 0 (some (k : Int))) = _
  rw [HT.sIx_none, HT.sIx_nat]
  show ((ns.map V.int).drop (min k (ns.map V.int).length)).take _ = (ns.drop k).map V.int
  rw [List.take_of_length_le (by rw [List.length_drop]; exact Nat.le_refl _), List.map_drop]
  by_cases h : k ≤ (ns.map V.int).length
  · rw [Nat.min_eq_left h]
  · rw [Nat.min_eq_right (by omega), List.drop_length, List.drop_eq_nil_of_le (by omega)]
theorem cut_both {k m : Nat} (ns : List Int) (hkm : k ≤ m) : cutV (iL ns) (some (k : Int)) (some (m : Int)) = iL ((ns.take m).drop k) := by
  show ((iL ns).drop (HT.sIx (iL ns).length 0 (some (k : Int)))).take (HT.sIx (iL ns).length (iL ns).length (some (m : Int)) - HT.sIx (iL ns).length 0 (some (k : Int))) = _
  rw [HT.sIx_nat, HT.sIx_nat, ← List.drop_take]
  show ((ns.map V.int).take (min m (ns.map V.int).length)).drop (min k (ns.map V.int).length) = ((ns.take m).drop k).map V.int
  rw [List.map_drop, List.map_take]
  by_cases h : m ≤ (ns.map V.int).length
  · rw [Nat.min_eq_left h, Nat.min_eq_left (by omega)]
  · have e : min m (ns.map V.int).length = (ns.map V.int).length := Nat.min_eq_right (by omega)
    rw [e, List.take_of_length_le (Nat.le_refl _), List.take_of_length_le (by omega)]
    by_cases h2 : k ≤ (ns.map V.int).length
    · rw [Nat.min_eq_left h2]
    · rw [Nat.min_eq_right (by omega), List.drop_length, List.drop_eq_nil_of_le (by omega)]
/-- counts[:sign] -/
theorem w_slTo (h : SqL K H a (iL ns)) (h0 : 0 ≤ i) (q : ∀ p H1, H p = none → Ex H H1 → H1 p = some (.lst (iL (ns.take i.toNat))) → Q (.ref p) H1) : rSlL K (.ref a) none (some i) H Q :=
  w_slL h fun p H1 hp e h1 => q p H1 hp e (by
    have e2 : i = ((i.toNat : Nat) : Int) := by omega
    rw [e2] at h1
    rw [cut_to] at h1
    exact h1)
/-! ### methods of lists, isinstance -/
theorem w_bm {T : String} {r : V → List V → Hp → VK → Prop} (q : te σ H fun x H1 => tyV K T x H1 ∧ tl σ H1 fun xs H2 => r x xs H2 Q) : tBM K T r te tl σ H Q := q
theorem w_bm0 {T : String} {r : V → List V → Hp → VK → Prop} (q : te σ H fun x H1 => tyV K T x H1 ∧ r x [] H1 Q) : tBM0 K T r te σ H Q := q
theorem w_tyL {B : Prop} (h : H a = some (.lst xs)) (q : B) : tyV K "list" (.ref a) H ∧ B := ⟨.inl ⟨rfl, _, SqL.of h⟩, q⟩
theorem w_append (h : H a = some (.lst xs)) (hz : xs.length < 100000) (q : Q .non (upd H a (.lst (xs ++ [y])))) : rAppend (.ref a) [y] H Q := ⟨a, xs, y, rfl, rfl, h, Evl.sz_lt hz, q⟩
theorem w_pop (h : H a = some (.lst (xs ++ [y]))) (q : Q y (upd H a (.lst xs))) : rPop (.ref a) [] H Q := ⟨a, xs ++ [y], y, rfl, rfl, h, by simp, by rw [List.dropLast_concat]; exact q⟩
theorem w_isi {t u : Value} {b : Bool} (hx : TyX K H x t) (hc : ClsV y u) (hk : PySem.W.kitOne K t u = some b) (q : Q (.bl b) H) : rIsi K [x, y] H Q := ⟨x, y, t, u, b, rfl, hc, hx, hk, q⟩
theorem w_isiT {n m : String} {b : Bool} (hx : TyX K H x (.type n)) (hk : kitB n m = some b) (q : Q (.bl b) H) : rIsi K [x, .ty m] H Q := w_isi hx (.ty m) (kit_ty hk) q
theorem w_isiII (q : Q (.bl true) H) : rIsi K [.int i, .ty "int"] H Q := w_isiT (.base (.int i)) (by decide +kernel) q
theorem w_isiIB (q : Q (.bl false) H) : rIsi K [.int i, .ty "bool"] H Q := w_isiT (.base (.int i)) (by decide +kernel) q
theorem w_isiSS {z : Str} (q : Q (.bl true) H) : rIsi K [.str z, .ty "str"] H Q := w_isiT (.base (.str z)) (by decide +kernel) q
theorem w_isiLL (h : H a = some (.lst xs)) (q : Q (.bl true) H) : rIsi K [.ref a, .ty "list"] H Q := w_isiT (.base (.lst h)) (by decide +kernel) q
theorem w_isiUU (h : H a = some (.tup xs)) (q : Q (.bl true) H) : rIsi K [.ref a, .ty "tuple"] H Q := w_isiT (.base (.tup h)) (by decide +kernel) q
/-! ### statements -/
theorem w_seq (q : s1 { D with nx := s2 D } σ H) : tSeq s1 s2 D σ H := q
theorem w_asg {g : TG} (q : te σ H fun x H1 => g x σ H1 D.nx) : tAsg te g D σ H := q
theorem w_gName {k : Nat} {R : L2.St → Hp → Prop} (q : R (σ.set k (some v)) H) : gName k v σ H R := q
theorem w_gSub {ts : TSet} {R : L2.St → Hp → Prop} (q : ta σ H fun o H1 => tb σ H1 fun i H2 => ts o i v H2 fun H3 => R σ H3) : gSub ta tb ts v σ H R := q
theorem w_setL {k : Nat} {R : Hp → Prop} (h : H a = some (.lst xs)) (e : i = (k : Int)) (hk : k < xs.length) (q : R (upd H a (.lst (xs.set k v)))) : rSetL (.ref a) (.int i) v H R :=
  ⟨a, xs, i, k, rfl, rfl, h, by rw [e]; exact Evl.ixN_nat hk, q⟩
theorem w_ret (q : te σ H D.rt) : tRet te D σ H := q
theorem w_retN (q : D.rt .non H) : tRetN D σ H := q
theorem w_drop (q : te σ H fun _ H1 => D.nx σ H1) : tDrop te D σ H := q
theorem w_if (q : c σ H fun b H1 => if b = true then s1 D σ H1 else s2 D σ H1) : tIfS c s1 s2 D σ H := q
theorem w_next (q : D.nx σ H) : tNext D σ H := q
theorem w_cut (Mid : L2.St → Hp → Prop) (q : s1 { D with nx := Mid } σ H) (r : ∀ σ' H', Mid σ' H' → s2 D σ' H') : Evl.tCut s1 s2 D σ H := ⟨Mid, q, r⟩
/-! ### loops -/
/-- what a for asks once its iterator has come -/
def rFor (J : It) (g : TG) (tb : TS) : TS := fun D σ H1 => ∃ W : Nat → Nat → L2.St → Hp → Prop, (∃ m, W 0 m σ H1) ∧ ∀ i m σ H, W i m σ H →
  (J.stop i H ∧ D.nx σ H) ∨ (J.go i H ∧ ∃ N : L2.St → Hp → Prop, (∀ σ' H', N σ' H' → ∃ m', m' < m ∧ W (i + 1) m' σ' H') ∧ ∀ x H', J.yld i H x H' → g x σ H' fun σ2 H2 => tb { D with nx := N, ct := N, bk := D.nx } σ2 H2)
def kItl (K : PySem.W.Frag) (R : It → Hp → Prop) : VK := fun x H => ∃ a, x = .ref a ∧ (∃ xs, SqL K H a xs) ∧ R (Itl K a) H
def kIr1 (R : It → Hp → Prop) : List V → Hp → Prop := fun vs H => ∃ j : Int, vs = [.int j] ∧ -(2 ^ 62) ≤ j ∧ j < 2 ^ 62 ∧ R (Itr 0 j.toNat) H
def kIr2 (R : It → Hp → Prop) : List V → Hp → Prop := fun vs H => ∃ i j : Int, vs = [.int i, .int j] ∧ (-(2 ^ 62) ≤ i ∧ i < 2 ^ 62 ∧ -(2 ^ 62) ≤ j ∧ j < 2 ^ 62) ∧ R (Itr i (j - i).toNat) H
def kItv (K : PySem.W.Frag) (R : It → Hp → Prop) : List V → Hp → Prop := fun vs H => ∃ (a : Addr) (xs : List V), vs = [.ref a] ∧ SqL K H a xs ∧ R (Itv K a xs.length) H
theorem w_for {wi : TI} {g : TG} (q : wi σ H fun J H1 => rFor J g s1 D σ H1) : tFor wi g s1 D σ H := q
variable {R : It → Hp → Prop}
theorem w_iList (q : te σ H (kItl K R)) : iList K te σ H R := q
theorem w_kItl (h : SqL K H a xs) (q : R (Itl K a) H) : kItl K R (.ref a) H := ⟨a, rfl, ⟨xs, h⟩, q⟩
theorem w_iR1 (q : tl σ H (kIr1 R)) : iRng1 tl σ H R := q
theorem w_kIr1 (h0 : -1000000000 ≤ j) (h1 : j ≤ 1000000000) (q : R (Itr 0 j.toNat) H) : kIr1 R [.int j] H := ⟨j, rfl, Int.le_trans (by decide) h0, Int.lt_of_le_of_lt h1 (by decide), q⟩
theorem w_iR2 (q : tl σ H (kIr2 R)) : iRng2 tl σ H R := q
theorem w_kIr2 (h0 : -1000000000 ≤ i) (h1 : i ≤ 1000000000) (h2 : -1000000000 ≤ j) (h3 : j ≤ 1000000000) (q : R (Itr i (j - i).toNat) H) : kIr2 R [.int i, .int j] H :=
  ⟨i, j, rfl, ⟨Int.le_trans (by decide) h0, Int.lt_of_le_of_lt h1 (by decide), Int.le_trans (by decide) h2, Int.lt_of_le_of_lt h3 (by decide)⟩, q⟩
theorem w_iRev (q : tl σ H (kItv K R)) : iRev K tl σ H R := q
theorem w_kItv (h : SqL K H a xs) (q : R (Itv K a xs.length) H) : kItv K R [.ref a] H := ⟨a, xs, rfl, h, q⟩
/-- over a list of ints -/
theorem w_loopI {k : Nat} (ns : List Int) (Pv : Nat → L2.St → Hp → Prop) (h0 : Pv 0 σ H) (hl : ∀ i σ H, Pv i σ H → SqL K H a (iL ns))
    (hs : ∀ i n σ H, ns[i]? = some n → i < ns.length → Pv i σ H → s1 { D with nx := Pv (i + 1), ct := Pv (i + 1), bk := D.nx } (σ.set k (some (.int n))) H) (hd : ∀ σ H, Pv ns.length σ H → D.nx σ H) : rFor (Itl K a) (gName k) s1 D σ H :=
  for_list (xs := iL ns) Pv h0 (fun i σ H _ p => hl i σ H p) (fun i x σ H hi p => by
    rw [List.getElem?_map] at hi
    cases e : ns[i]? with
    | none => rw [e] at hi; cases hi
    | some n =>
      rw [e] at hi
      cases hi
      exact hs i n σ H e (List.getElem?_eq_some_iff.mp e).1 p) (fun σ H p => hd σ H (by rw [List.length_map] at p; exact p))
/-- over a list of ints from its end: so many taken -/
theorem w_loopV {k : Nat} (ns : List Int) {m : Nat} (hm : m = ns.length) (Pv : Nat → L2.St → Hp → Prop) (h0 : Pv 0 σ H) (hl : ∀ i σ H, Pv i σ H → SqL K H a (iL ns))
    (hs : ∀ i n σ H, ns[ns.length - 1 - i]? = some n → i < ns.length → Pv i σ H → s1 { D with nx := Pv (i + 1), ct := Pv (i + 1), bk := D.nx } (σ.set k (some (.int n))) H) (hd : ∀ σ H, Pv ns.length σ H → D.nx σ H) : rFor (Itv K a m) (gName k) s1 D σ H := by
  have e0 : m = (iL ns).length := by rw [List.length_map]; exact hm
  subst e0
  exact RT.for_Itv (xs := iL ns) Pv h0 (fun i σ H p => hl i σ H p) (fun i x σ H hlt hi p => by
    rw [List.length_map] at hlt
    rw [List.length_map, List.getElem?_map] at hi
    cases e : ns[ns.length - 1 - i]? with
    | none => rw [e] at hi; cases hi
    | some n =>
      rw [e] at hi
      cases hi
      exact hs i n σ H e hlt p) (fun σ H p => hd σ H (by rw [List.length_map] at p; exact p))
/-- over range(n) -/
theorem w_loopR {k n : Nat} (Pv : Nat → L2.St → Hp → Prop) (h0 : Pv 0 σ H)
    (hs : ∀ (i : Nat) σ H, i < n → Pv i σ H → s1 { D with nx := Pv (i + 1), ct := Pv (i + 1), bk := D.nx } (σ.set k (some (.int (i : Int)))) H) (hd : ∀ σ H, Pv n σ H → D.nx σ H) : rFor (Itr 0 n) (gName k) s1 D σ H :=
  for_range (lo := 0) Pv h0 (fun i σ H hi p => by
    have e : (0 : Int) + (i : Int) = (i : Int) := Int.zero_add _
    rw [e]
    exact hs i σ H hi p) hd
/-- over range(lo, hi) -/
theorem w_loopS {k n : Nat} {lo : Int} (Pv : Nat → L2.St → Hp → Prop) (h0 : Pv 0 σ H)
    (hs : ∀ (i : Nat) σ H, i < n → Pv i σ H → s1 { D with nx := Pv (i + 1), ct := Pv (i + 1), bk := D.nx } (σ.set k (some (.int (lo + (i : Int))))) H) (hd : ∀ σ H, Pv n σ H → D.nx σ H) : rFor (Itr lo n) (gName k) s1 D σ H :=
  for_range (lo := lo) Pv h0 hs hd
/-- list(range(n)) -/
def upto (n : Nat) : List Int := (List.range n).map fun (k : Nat) => (k : Int)
theorem mem_upto {n : Nat} {s : Int} : s ∈ upto n ↔ 0 ≤ s ∧ s < n := by
  constructor
  · intro h
    obtain ⟨k, hk, rfl⟩ := List.mem_map.mp h
    have := List.mem_range.mp hk
    omega
  · rintro ⟨h0, h1⟩
    exact List.mem_map.mpr ⟨s.toNat, List.mem_range.mpr (by omega), by omega⟩
def kLr (Q : VK) : VK := fun x H1 => ∃ n : Int, x = .int n ∧ (RgOk 0 n ∧ ∀ q, H1 q = none → Q (.ref q) (upd H1 q (.lst (rgV 0 n))))
theorem rg_upto (n : Nat) : rgV 0 (n : Int) = iL (upto n) := by
  show (List.range ((n : Int) - 0).toNat).map _ = ((List.range n).map _).map V.int
  have e : ((n : Int) - 0).toNat = n := by omega
  rw [e, List.map_map]
  refine List.map_congr_left fun k _ => ?_
  show V.int (0 + (k : Int)) = V.int (k : Int)
  rw [Int.zero_add]
theorem w_kLr (h0 : 0 ≤ i) (h1 : i ≤ 1000000) (q : ∀ p H1, H p = none → Ex H H1 → H1 p = some (.lst (iL (upto i.toNat))) → Q (.ref p) H1) : kLr Q (.int i) H :=
  ⟨i, rfl, RgOk.of_le (by decide) (by omega) (by decide) h0, fun p hp => q p _ hp (Evl.Ex.new hp) (by
    rw [upd_same]
    have e : i = ((i.toNat : Nat) : Int) := by omega
    rw [e, rg_upto, Int.toNat_natCast])⟩
theorem w_lrg (q : te σ H (kLr Q)) : tLstRg (tRg1 te) σ H Q := q
def kRv (R : It → Hp → Prop) : VK := fun x H1 => ∃ n : Int, x = .int n ∧ (-(2 ^ 62) ≤ (0 : Int) ∧ (0 : Int) < 2 ^ 62 ∧ -(2 ^ 62) ≤ n ∧ n < 2 ^ 62 ∧ R (Itc (0 + (((n - 0).toNat : Nat) : Int) - 1) (-1) (n - 0).toNat) H1)
theorem w_iRv (q : te σ H (kRv R)) : iRevR (tRg1 te) σ H R := q
theorem w_kRv (h0 : 0 ≤ i) (h1 : i ≤ 1000000000) (q : R (Itc ((i.toNat : Int) - 1) (-1) i.toNat) H) : kRv R (.int i) H :=
  ⟨i, rfl, by decide, by decide, Int.le_trans (by decide) h0, Int.lt_of_le_of_lt h1 (by decide), by
    have e1 : (0 : Int) + (((i - 0).toNat : Nat) : Int) - 1 = (i.toNat : Int) - 1 := by omega
    have e2 : (i - 0).toNat = i.toNat := by omega
    rw [e1, e2]
    exact q⟩
/-- over reversed(range(m)) -/
theorem w_loopD {k m : Nat} (Pv : Nat → L2.St → Hp → Prop) (h0 : Pv 0 σ H)
    (hs : ∀ (i : Nat) σ H, i < m → Pv i σ H → s1 { D with nx := Pv (i + 1), ct := Pv (i + 1), bk := D.nx } (σ.set k (some (.int ((m - 1 - i : Nat) : Int)))) H) (hd : ∀ σ H, Pv m σ H → D.nx σ H) : rFor (Itc ((m : Int) - 1) (-1) m) (gName k) s1 D σ H :=
  for_rangeC (lo := (m : Int) - 1) (c := -1) Pv h0 (fun i σ H hi p => by
    have e : (m : Int) - 1 + ((i : Nat) : Int) * (-1) = ((m - 1 - i : Nat) : Int) := by omega
    rw [e]
    exact hs i σ H hi p) hd
/-- while: W by a measure -/
theorem w_while (W : Nat → L2.St → Hp → Prop) (m0 : Nat) (h0 : W m0 σ H)
    (hs : ∀ m σ H, W m σ H → c σ H fun b H1 => if b = true then ∃ N : L2.St → Hp → Prop, (∀ σ' H', N σ' H' → ∃ m', m' < m ∧ W m' σ' H') ∧ s1 { D with nx := N, ct := N, bk := D.nx } σ H1 else D.nx σ H1) : tWhile c s1 D σ H := ⟨W, ⟨m0, h0⟩, hs⟩
/-- one turn: W again, by less -/
theorem w_turn {W : Nat → L2.St → Hp → Prop} {m : Nat} (q : s1 { D with nx := fun σ' H' => ∃ m', m' < m ∧ W m' σ' H', ct := fun σ' H' => ∃ m', m' < m ∧ W m' σ' H', bk := D.nx } σ H) :
    ∃ N : L2.St → Hp → Prop, (∀ σ' H', N σ' H' → ∃ m', m' < m ∧ W m' σ' H') ∧ s1 { D with nx := N, ct := N, bk := D.nx } σ H := ⟨_, fun _ _ h => h, q⟩
/-! ### comprehensions -/
def rLc (J : It) (g : TG) (tt : TT) (te : TE) (vs : List Nat) (σ : L2.St) (H1 : Hp) (Q : VK) : Prop := ∀ D, H1 D = none → ∃ W : Nat → Nat → Hp → Prop, (∃ m, W 0 m (upd H1 D (.lst []))) ∧ ∀ i m H, W i m H →
  (J.stop i H ∧ Q (.ref D) H) ∨ (J.go i H ∧ ∃ Nx : Hp → Prop, (∀ H', Nx H' → ∃ m', m' < m ∧ W (i + 1) m' H') ∧ ∀ x H', J.yld i H x H' → g x (wipe σ vs) H' fun σ2 H2 => wipe σ2 vs = wipe σ vs ∧ tt σ2 H2 fun b H3 => if b = true then te σ2 H3 fun y H4 => ∃ acc, H4 D = some (.lst acc) ∧ acc.length < sizeLine ∧ Nx (upd H4 D (.lst (acc ++ [y]))) else Nx H3)
theorem w_lc {wi : TI} {g : TG} {vs : List Nat} (q : wi σ H fun J H1 => rLc J g t te vs σ H1 Q) : tLc wi g t te vs σ H Q := q
/-- what a part gives, the heap but grown -/
def gv (v : V) (H : Hp) : VK := fun x H1 => x = v ∧ Ex H H1
def gb (b : Bool) (H : Hp) : Bool → Hp → Prop := fun x H1 => x = b ∧ Ex H H1
theorem given_all (n : Nat) (v : Nat → V) : Evl.given n (fun _ => true) v = (List.range n).map v := by
  unfold Evl.given
  rw [List.filter_eq_self.mpr (fun _ _ => rfl)]
theorem ev_yes : Evl.EvT tYes σ H true := fun H1 _ _ q => q H1 (Evl.Ex.refl H1)
/-- [e for k in range(n) if c] -/
theorem w_lcF {n k : Nat} {vs : List Nat} (f : Nat → Bool) (g : Nat → V) (hn : n ≤ 40000) (hw : ∀ x, wipe ((wipe σ vs).set k (some x)) vs = wipe σ vs)
    (ht : ∀ i H1, Ex H H1 → i < n → Evl.EvT t ((wipe σ vs).set k (some (.int (i : Int)))) H1 (f i))
    (he : ∀ i H1, Ex H H1 → i < n → f i = true → Evl.Ev te ((wipe σ vs).set k (some (.int (i : Int)))) H1 (g i))
    (q : ∀ p H1, H p = none → Ex H H1 → H1 p = some (.lst (Evl.given n f g)) → Q (.ref p) H1) : rLc (Itr 0 n) (gName k) t te vs σ H Q := fun Dl hD =>
  lc_range (lo := 0) (n := n) (Evl.Cw H f g Dl) ⟨hD, Evl.Ex.new hD, upd_same⟩ (fun i H' hi p => by
    have e0 : (0 : Int) + (i : Int) = (i : Int) := Int.zero_add _
    show wipe ((wipe σ vs).set k (some (.int ((0 : Int) + (i : Int))))) vs = wipe σ vs ∧ t ((wipe σ vs).set k (some (.int ((0 : Int) + (i : Int))))) H' fun b H3 => if b = true then te ((wipe σ vs).set k (some (.int ((0 : Int) + (i : Int))))) H3 fun y H4 => ∃ acc, H4 Dl = some (.lst acc) ∧ acc.length < sizeLine ∧ Evl.Cw H f g Dl (i + 1) (upd H4 Dl (.lst (acc ++ [y]))) else Evl.Cw H f g Dl (i + 1) H3
    rw [e0]
    exact ⟨hw _, Evl.cw_turn p (by omega) (ht i H (Evl.Ex.refl H) hi) (fun hf => he i H (Evl.Ex.refl H) hi hf)⟩) (fun H' p => q Dl H' hD p.2.1 p.2.2)
/-- [e for k in range(n)] -/
theorem w_lcR {n k : Nat} {vs : List Nat} (g : Nat → V) (hn : n ≤ 40000) (hw : ∀ x, wipe ((wipe σ vs).set k (some x)) vs = wipe σ vs)
    (he : ∀ i H1, Ex H H1 → i < n → Evl.Ev te ((wipe σ vs).set k (some (.int (i : Int)))) H1 (g i))
    (q : ∀ p H1, H p = none → Ex H H1 → H1 p = some (.lst ((List.range n).map g)) → Q (.ref p) H1) : rLc (Itr 0 n) (gName k) tYes te vs σ H Q :=
  w_lcF (fun _ => true) g hn hw (fun _ _ _ _ => ev_yes) (fun i H1 e hi _ => he i H1 e hi) fun p H1 hp e h => q p H1 hp e (by rw [given_all] at h; exact h)
/-- [e for x in xs if c] -/
theorem w_lcLF {k : Nat} {vs : List Nat} (f : Nat → Bool) (g : Nat → V) (hx : SqL K H a xs) (hn : xs.length ≤ 40000) (hw : ∀ x, wipe ((wipe σ vs).set k (some x)) vs = wipe σ vs)
    (ht : ∀ (i : Nat) (x : V) H1, Ex H H1 → xs[i]? = some x → Evl.EvT t ((wipe σ vs).set k (some x)) H1 (f i))
    (he : ∀ (i : Nat) (x : V) H1, Ex H H1 → xs[i]? = some x → f i = true → Evl.Ev te ((wipe σ vs).set k (some x)) H1 (g i))
    (q : ∀ p H1, H p = none → Ex H H1 → H1 p = some (.lst (Evl.given xs.length f g)) → Q (.ref p) H1) : rLc (Itl K a) (gName k) t te vs σ H Q := fun Dl hD =>
  lc_list (xs := xs) (Evl.Cw H f g Dl) ⟨hD, Evl.Ex.new hD, upd_same⟩ (fun i H' _ p => Evl.ex_l p.2.1 hx) (fun i x H' hi p => ⟨hw x, Evl.cw_turn p (by have := (List.getElem?_eq_some_iff.mp hi).1; omega) (ht i x H (Evl.Ex.refl H) hi) (fun hf => he i x H (Evl.Ex.refl H) hi hf)⟩)
    (fun H' p => q Dl H' hD p.2.1 p.2.2)
/-- [e for x in ns], the items ints -/
theorem w_lcI {k : Nat} {vs : List Nat} {ns : List Int} (g : Int → V) (hx : SqL K H a (iL ns)) (hn : ns.length ≤ 40000) (hw : ∀ x, wipe ((wipe σ vs).set k (some x)) vs = wipe σ vs)
    (he : ∀ (n : Int) H1, Ex H H1 → n ∈ ns → Evl.Ev te ((wipe σ vs).set k (some (.int n))) H1 (g n))
    (q : ∀ p H1, H p = none → Ex H H1 → H1 p = some (.lst (ns.map g)) → Q (.ref p) H1) : rLc (Itl K a) (gName k) tYes te vs σ H Q :=
  w_lcLF (fun _ => true) (fun i => g (ns.getD i 0)) hx (by rw [List.length_map]; exact hn) hw (fun _ _ _ _ _ => ev_yes) (fun i x H1 e hi _ => by
    rw [List.getElem?_map] at hi
    cases e2 : ns[i]? with
    | none => rw [e2] at hi; cases hi
    | some n =>
      rw [e2] at hi
      cases hi
      have e3 : ns.getD i 0 = n := by rw [List.getD_eq_getElem?_getD, e2]; rfl
      rw [e3]
      exact he n H1 e (List.mem_of_getElem? e2)) fun p H1 hp e h => q p H1 hp e (by
    rw [given_all, List.length_map] at h
    have e4 : (List.range ns.length).map (fun i => g (ns.getD i 0)) = ns.map g := by
      refine List.ext_getElem? fun i => ?_
      rw [List.getElem?_map, List.getElem?_map]
      by_cases hi : i < ns.length
      · rw [List.getElem?_range hi, List.getElem?_eq_getElem hi]
        show some (g (ns.getD i 0)) = some (g ns[i])
        rw [List.getD_eq_getElem?_getD, List.getElem?_eq_getElem hi]
        rfl
      · rw [List.getElem?_eq_none (by simpa using hi), List.getElem?_eq_none (by omega)]
        rfl
    rw [e4] at h
    exact h)
/-- a part's value, shown step by step -/
theorem to_ev (h : ∀ H1, Ex H H1 → ∀ Q : VK, (∀ H2, Ex H1 H2 → Q v H2) → te σ H1 Q) : Evl.Ev te σ H v := h
theorem to_evT {b : Bool} (h : ∀ H1, Ex H H1 → ∀ Q : Bool → Hp → Prop, (∀ H2, Ex H1 H2 → Q b H2) → t σ H1 Q) : Evl.EvT t σ H b := h
/-! ### lists of lists of ints -/
def TabAt (K : PySem.W.Frag) (H : Hp) (p : Addr) (ts : List (List Int)) : Prop := ∃ as : List Addr, SqL K H p (as.map V.ref) ∧ as.length = ts.length ∧ ∀ (i : Nat) (x : Addr) (t : List Int), as[i]? = some x → ts[i]? = some t → SqL K H x (iL t)
theorem TabAt.up {p : Addr} {ts : List (List Int)} {H' : Hp} (r : TabAt K H p ts) (e : Ex H H') : TabAt K H' p ts := by
  obtain ⟨as, h1, h2, h3⟩ := r
  exact ⟨as, Evl.ex_l e h1, h2, fun i x t a b => Evl.ex_l e (h3 i x t a b)⟩
theorem w_ixTab {ts : List (List Int)} {k : Nat} {t : List Int} (r : TabAt K H a ts) (e : i = (k : Int)) (h : ts[k]? = some t) (q : ∀ x, SqL K H x (iL t) → Q (.ref x) H) : rIxL K (.ref a) (.int i) H Q := by
  obtain ⟨as, h1, h2, h3⟩ := r
  obtain ⟨x, hx⟩ : ∃ x, as[k]? = some x := ⟨_, List.getElem?_eq_getElem (by rw [h2]; exact (List.getElem?_eq_some_iff.mp h).1)⟩
  subst e
  exact w_ixL h1 (v := .ref x) (atI_nat (by rw [List.getElem?_map, hx]; rfl)) (q x (h3 k x t hx h))
theorem w_lenTab {ts : List (List Int)} (r : TabAt K H a ts) (q : Q (.int ts.length) H) : rLenS K [.ref a] H Q := by
  obtain ⟨as, h1, h2, h3⟩ := r
  exact w_len h1 (by rw [List.length_map, h2]; exact q)
theorem w_loopTab {k : Nat} {ts : List (List Int)} (r : TabAt K H a ts) (Pv : Nat → L2.St → Prop) (h0 : Pv 0 σ)
    (hs : ∀ (i : Nat) (t : List Int) (x : Addr) σ, ts[i]? = some t → SqL K H x (iL t) → Pv i σ → s1 { D with nx := fun σ' H' => H' = H ∧ Pv (i + 1) σ', ct := fun σ' H' => H' = H ∧ Pv (i + 1) σ', bk := D.nx } (σ.set k (some (.ref x))) H)
    (hd : ∀ σ, Pv ts.length σ → D.nx σ H) : rFor (Itl K a) (gName k) s1 D σ H := by
  obtain ⟨as, h1, h2, h3⟩ := r
  refine for_list (xs := as.map V.ref) (fun i σ H' => H' = H ∧ Pv i σ) ⟨rfl, h0⟩ (fun i σ H' _ p => by rw [p.1]; exact h1) (fun i x σ H' hi p => ?_) (fun σ H' p => ?_)
  · obtain ⟨rfl, pv⟩ := p
    rw [List.getElem?_map] at hi
    cases e : as[i]? with
    | none => rw [e] at hi; cases hi
    | some n =>
      rw [e] at hi
      cases hi
      obtain ⟨t, ht⟩ : ∃ t, ts[i]? = some t := ⟨_, List.getElem?_eq_getElem (by rw [← h2]; exact (List.getElem?_eq_some_iff.mp e).1)⟩
      exact hs i t n σ ht (h3 i n t e ht) pv
  · obtain ⟨rfl, pv⟩ := p
    rw [List.length_map, h2] at pv
    exact hd σ pv
def tabD (ts : List (List Int)) : List PyData := ts.map fun t => .list (t.map PyData.int)
theorem dpTabAll : ∀ (as : List Addr) (ts : List (List Int)), as.length = ts.length → (∀ (i : Nat) (x : Addr) (t : List Int), as[i]? = some x → ts[i]? = some t → SqL K H x (iL t)) → DpAll K H (as.map V.ref) (tabD ts)
  | [], [], _, _ => .nil
  | x :: r, t :: u, h, q => .cons (dpL (q 0 x t rfl rfl)) (dpTabAll r u (Nat.succ.inj h) fun i y z a b => q (i + 1) y z a b)
theorem dpTab {ts : List (List Int)} (r : TabAt K H a ts) : Dp K H (.ref a) (.list (tabD ts)) := by
  obtain ⟨as, h1, h2, h3⟩ := r
  exact .lst h1 (dpTabAll as ts h2 h3)
theorem canTab : ∀ ts : List (List Int), PyData.canLayAll0 (tabD ts) = true
  | [] => rfl
  | t :: r => by
    show PyData.canLayAll0 (PyData.list (t.map PyData.int) :: tabD r) = true
    rw [PyData.canLayAll0, canTab r, PyData.canLay0, canI]
    rfl
theorem depTab : ∀ ts : List (List Int), PyData.depthAll (tabD ts) ≤ 1
  | [] => by simp [tabD, PyData.depthAll]
  | t :: r => by
    show PyData.depthAll (PyData.list (t.map PyData.int) :: tabD r) ≤ 1
    rw [PyData.depthAll, PyData.depth, depI]
    have := depTab r
    omega
theorem w_eq3 {b p1 p2 g1 g2 b1 b2 : Addr} {ts us : List (List Int)} (h1 : SqL K H a [.ref p1, .ref g1, .ref b1]) (h2 : SqL K H b [.ref p2, .ref g2, .ref b2]) (x1 : SqL K H p1 (iL ns)) (x2 : SqL K H p2 (iL ns))
    (y1 : TabAt K H g1 ts) (y2 : TabAt K H g2 ts) (z1 : TabAt K H b1 us) (z2 : TabAt K H b2 us) (q : Q (.bl true) H) : rEqD K (.ref a) (.ref b) H Q := by
  have sh : SeqAt.shaped (.list [.list (ns.map PyData.int), .list (tabD ts), .list (tabD us)]) = true := by
    unfold SeqAt.shaped
    have d1 := depTab ts
    have d2 := depTab us
    simp only [PyData.canLay0, PyData.canLayAll0, canI, canTab, PyData.depth, PyData.depthAll, depI, Bool.true_and, decide_eq_true_eq]
    omega
  refine ⟨_, _, .lst h1 (.cons (dpL x1) (.cons (dpTab y1) (.cons (dpTab z1) .nil))), .lst h2 (.cons (dpL x2) (.cons (dpTab y2) (.cons (dpTab z2) .nil))), sh, sh, ?_⟩
  rw [SeqAt.eqv_refl _ (SeqAt.canLay_of_shaped sh)]
  exact q
def Tw (H : Hp) (g : Nat → List Int) (D : Addr) (i : Nat) (H' : Hp) : Prop := H D = none ∧ Ex H H' ∧ ∃ as : List Addr, H' D = some (.lst (as.map V.ref)) ∧ as.length = i ∧ ∀ (j : Nat) (x : Addr), as[j]? = some x → H' x = some (.lst (iL (g j))) ∧ x ≠ D
theorem tw_turn {g : Nat → List Int} {Dl : Addr} {i : Nat} {H' : Hp} (p : Tw H g Dl i H') (hi : i < 40000) (he : ∀ Q : VK, (∀ p H2, H' p = none → Ex H' H2 → H2 p = some (.lst (iL (g i))) → Q (.ref p) H2) → te σ H' Q) :
    te σ H' fun y H4 => ∃ acc, H4 Dl = some (.lst acc) ∧ acc.length < sizeLine ∧ Tw H g Dl (i + 1) (upd H4 Dl (.lst (acc ++ [y]))) := by
  obtain ⟨hD, e, as, hl, hn, ha⟩ := p
  refine he _ fun x H2 nx e2 hx => ⟨_, e2 _ _ hl, Nat.lt_of_lt_of_le (show (as.map V.ref).length < 40000 by rw [List.length_map]; omega) (by decide), hD, Evl.Ex.mut (e.trans e2) hD, as ++ [x], by rw [upd_same, List.map_append]; rfl, by rw [List.length_append, hn]; rfl, fun j y hj => ?_⟩
  have xD : x ≠ Dl := fun z => by rw [z, hl] at nx; cases nx
  rw [List.getElem?_append] at hj
  split at hj
  · obtain ⟨h1, h2⟩ := ha j y hj
    exact ⟨(upd_ne h2).trans (e2 _ _ h1), h2⟩
  · have : j - as.length = 0 := by
      have := (List.getElem?_eq_some_iff.mp hj).1
      simp at this
      omega
    rw [this] at hj
    have hj : x = y := by simpa using hj
    subst hj
    have : j = i := by omega
    subst this
    exact ⟨(upd_ne xD).trans hx, xD⟩
theorem tw_done {g : Nat → List Int} {Dl : Addr} {n : Nat} {H' : Hp} (p : Tw H g Dl n H') : TabAt K H' Dl ((List.range n).map g) := by
  obtain ⟨hD, e, as, hl, hn, ha⟩ := p
  refine ⟨as, SqL.of hl, by simp [hn], fun i x t h1 h2 => ?_⟩
  obtain ⟨h, e2⟩ := List.getElem?_eq_some_iff.mp h2
  simp at e2
  rw [← e2]
  exact SqL.of (ha i x h1).1
/-- [a new list of ints for k in range(n)] -/
theorem w_lcTab {n k : Nat} {vs : List Nat} (g : Nat → List Int) (hn : n ≤ 40000) (hw : ∀ x, wipe ((wipe σ vs).set k (some x)) vs = wipe σ vs)
    (he : ∀ i H1 (Q : VK), Ex H H1 → i < n → (∀ p H2, H1 p = none → Ex H1 H2 → H2 p = some (.lst (iL (g i))) → Q (.ref p) H2) → te ((wipe σ vs).set k (some (.int (i : Int)))) H1 Q)
    (q : ∀ p H1, H p = none → Ex H H1 → TabAt K H1 p ((List.range n).map g) → Q (.ref p) H1) : rLc (Itr 0 n) (gName k) tYes te vs σ H Q := fun Dl hD =>
  lc_range (lo := 0) (n := n) (Tw H g Dl) ⟨hD, Evl.Ex.new hD, [], upd_same, rfl, fun j x h => by simp at h⟩ (fun i H' hi p => by
    have e0 : (0 : Int) + (i : Int) = (i : Int) := Int.zero_add _
    show wipe ((wipe σ vs).set k (some (.int ((0 : Int) + (i : Int))))) vs = wipe σ vs ∧ tYes ((wipe σ vs).set k (some (.int ((0 : Int) + (i : Int))))) H' fun b H3 => if b = true then te ((wipe σ vs).set k (some (.int ((0 : Int) + (i : Int))))) H3 fun y H4 => ∃ acc, H4 Dl = some (.lst acc) ∧ acc.length < sizeLine ∧ Tw H g Dl (i + 1) (upd H4 Dl (.lst (acc ++ [y]))) else Tw H g Dl (i + 1) H3
    rw [e0]
    exact ⟨hw _, w_tYes (w_iteT (tw_turn p (by omega) fun Q hq => he i H' Q p.2.1 hi hq))⟩) (fun H' p => q Dl H' hD p.2.1 (tw_done p))
/-- .. the lists told apart -/
def Tn (H : Hp) (g : Nat → List Int) (D : Addr) (i : Nat) (H' : Hp) : Prop := H D = none ∧ Ex H H' ∧ ∃ as : List Addr, H' D = some (.lst (as.map V.ref)) ∧ as.length = i ∧ (∀ (j : Nat) (x : Addr), as[j]? = some x → H' x = some (.lst (iL (g j))) ∧ x ≠ D ∧ H x = none) ∧ as.Nodup
theorem tn_turn {g : Nat → List Int} {Dl : Addr} {i : Nat} {H' : Hp} (p : Tn H g Dl i H') (hi : i < 40000) (he : ∀ Q : VK, (∀ p H2, H' p = none → Ex H' H2 → H2 p = some (.lst (iL (g i))) → Q (.ref p) H2) → te σ H' Q) :
    te σ H' fun y H4 => ∃ acc, H4 Dl = some (.lst acc) ∧ acc.length < sizeLine ∧ Tn H g Dl (i + 1) (upd H4 Dl (.lst (acc ++ [y]))) := by
  obtain ⟨hD, e, as, hl, hn, ha, nd⟩ := p
  refine he _ fun x H2 nx e2 hx => ⟨_, e2 _ _ hl, Nat.lt_of_lt_of_le (show (as.map V.ref).length < 40000 by rw [List.length_map]; omega) (by decide), hD, Evl.Ex.mut (e.trans e2) hD, as ++ [x], by rw [upd_same, List.map_append]; rfl, by rw [List.length_append, hn]; rfl, fun j y hj => ?_, ?_⟩
  · have xD : x ≠ Dl := fun z => by rw [z, hl] at nx; cases nx
    rw [List.getElem?_append] at hj
    split at hj
    · obtain ⟨h1, h2, h3⟩ := ha j y hj
      exact ⟨(upd_ne h2).trans (e2 _ _ h1), h2, h3⟩
    · have : j - as.length = 0 := by
        have := (List.getElem?_eq_some_iff.mp hj).1
        simp at this
        omega
      rw [this] at hj
      have hj : x = y := by simpa using hj
      subst hj
      have : j = i := by omega
      subst this
      exact ⟨(upd_ne xD).trans hx, xD, Evl.fresh_back e nx⟩
  · refine List.nodup_append.mpr ⟨nd, by simp, fun a h1 b h2 => ?_⟩
    rw [List.mem_singleton.mp h2]
    intro z
    obtain ⟨j, hj, ej⟩ := List.getElem_of_mem h1
    have := (ha j a (by rw [← ej]; exact List.getElem?_eq_getElem hj)).1
    rw [z, nx] at this
    cases this
theorem w_lcNew {n k : Nat} {vs : List Nat} (g : Nat → List Int) (hn : n ≤ 40000) (hw : ∀ x, wipe ((wipe σ vs).set k (some x)) vs = wipe σ vs)
    (he : ∀ i H1 (Q : VK), Ex H H1 → i < n → (∀ p H2, H1 p = none → Ex H1 H2 → H2 p = some (.lst (iL (g i))) → Q (.ref p) H2) → te ((wipe σ vs).set k (some (.int (i : Int)))) H1 Q)
    (q : ∀ p H1 (as : List Addr), H p = none → Ex H H1 → H1 p = some (.lst (as.map V.ref)) → as.length = n → (∀ (j : Nat) (x : Addr), as[j]? = some x → H1 x = some (.lst (iL (g j))) ∧ x ≠ p ∧ H x = none) → as.Nodup → Q (.ref p) H1) : rLc (Itr 0 n) (gName k) tYes te vs σ H Q := fun Dl hD =>
  lc_range (lo := 0) (n := n) (Tn H g Dl) ⟨hD, Evl.Ex.new hD, [], upd_same, rfl, (fun j x h => by simp at h), List.nodup_nil⟩ (fun i H' hi p => by
    have e0 : (0 : Int) + (i : Int) = (i : Int) := Int.zero_add _
    show wipe ((wipe σ vs).set k (some (.int ((0 : Int) + (i : Int))))) vs = wipe σ vs ∧ tYes ((wipe σ vs).set k (some (.int ((0 : Int) + (i : Int))))) H' fun b H3 => if b = true then te ((wipe σ vs).set k (some (.int ((0 : Int) + (i : Int))))) H3 fun y H4 => ∃ acc, H4 Dl = some (.lst acc) ∧ acc.length < sizeLine ∧ Tn H g Dl (i + 1) (upd H4 Dl (.lst (acc ++ [y]))) else Tn H g Dl (i + 1) H3
    rw [e0]
    exact ⟨hw _, w_tYes (w_iteT (tn_turn p (by omega) fun Q hq => he i H' Q p.2.1 hi hq))⟩) (fun H' ⟨_, e, as, h1, h2, h3, h4⟩ => q Dl H' as hD e h1 h2 h3 h4)
/-- [a new list of ints for x in xs], of a list of lists -/
theorem w_lcTabL {k : Nat} {vs : List Nat} {ts : List (List Int)} (g : Nat → List Int) (r : TabAt K H a ts) (hn : ts.length ≤ 40000) (hw : ∀ x, wipe ((wipe σ vs).set k (some x)) vs = wipe σ vs)
    (he : ∀ (i : Nat) (t : List Int) (x : Addr) H1 (Q : VK), Ex H H1 → ts[i]? = some t → SqL K H1 x (iL t) → (∀ p H2, H1 p = none → Ex H1 H2 → H2 p = some (.lst (iL (g i))) → Q (.ref p) H2) → te ((wipe σ vs).set k (some (.ref x))) H1 Q)
    (q : ∀ p H1, H p = none → Ex H H1 → TabAt K H1 p ((List.range ts.length).map g) → Q (.ref p) H1) : rLc (Itl K a) (gName k) tYes te vs σ H Q := fun Dl hD => by
  obtain ⟨as, h1, h2, h3⟩ := r
  refine lc_list (xs := as.map V.ref) (Tw H g Dl) ⟨hD, Evl.Ex.new hD, [], upd_same, rfl, fun j x h => by simp at h⟩ (fun i H' _ p => Evl.ex_l p.2.1 h1) (fun i x H' hi p => ⟨hw x, w_tYes (w_iteT ?_)⟩) (fun H' p => ?_)
  · rw [List.getElem?_map] at hi
    cases e : as[i]? with
    | none => rw [e] at hi; cases hi
    | some n =>
      rw [e] at hi
      cases hi
      have hi : i < ts.length := by rw [← h2]; exact (List.getElem?_eq_some_iff.mp e).1
      exact tw_turn p (by omega) fun Q hq => he i _ n H' Q p.2.1 (List.getElem?_eq_getElem hi) (Evl.ex_l p.2.1 (h3 i n _ e (List.getElem?_eq_getElem hi))) hq
  · rw [List.length_map, h2] at p
    exact q Dl H' hD p.2.1 (tw_done p)
theorem range_at (ts : List (List Int)) : (List.range ts.length).map (fun i => ts.getD i []) = ts := by
  refine List.ext_getElem (by simp) fun i h1 h2 => ?_
  simp [List.getElem?_eq_getElem h2]
end

/-! ### defs -/
/-- where the classes stand -/
structure Zs where
  plain : Addr
  learner : Addr
  follower : Addr
  stream : Addr
  slots : Addr
  model : Addr
  noshares : Addr
  nopile : Addr
  nosign : Addr
  noslot : Addr
  nomore : Addr
  notext : Addr
  notleaf : Addr
  pileerror : Addr
section
variable {P : Program} {w : World} {K : PySem.W.Frag} {mg : Str → Option Value} {base : Heap}
theorem cal_of {x qual : Str} {st : Stmt} {f : Addr} {fd : FuncData} {N ps : List Str} {k : Nat} {sp : Sp} (F : Fun K x qual st f fd) (hm : mg x = some (.ref f)) (b : Binds K fd ps []) (S : FnScope N ps (defScope st)) (len : ∀ vs H Q E, sp vs H Q E → vs.length = ps.length)
    (hbody : ∀ (cdv : Value) (A : Around) (outer : List Env) (s : Shared) (H : Hp) (vs : List V) (Q : VK) (E : XK), Room k (A.deeper (envOfC qual (defScope st) s.heap.objs.size f cdv)) → sp vs H Q E →
      ∃ t, PSs (cxOf CX0 P w K mg base N qual (defScope st) f cdv A outer s H E).nox (defBody st) t ∧ t { nx := fun _ H' => Q .non H', rt := Q } (start N vs) H) : Cal P w K mg base (k + 1) x sp [] :=
  ⟨f, fd, ps, [], F.ok S len hbody, hm, F.kp, b, .nil⟩
end

/-! ### the laws' own small defs -/
/-- script[i], or 0 -/
def cell (ns : List Int) (i : Int) : Int := ns.getD i.toNat 0
def sp__law_cell_at (K : PySem.W.Frag) (_ : Zs) : Sp := fun vs H Q _ => ∃ (a : Addr) (ns : List Int) (i : Int), vs = [.ref a, .int i] ∧ SqL K H a (iL ns) ∧ 0 ≤ i ∧ Q (.int (cell ns i)) H
def sp__law_whole (_ : PySem.W.Frag) (_ : Zs) : Sp := fun vs H Q _ => ∃ (i : Int), vs = [.int i] ∧ Q (.bl true) H
section
variable {K : PySem.W.Frag} {Z : Zs} {H : Hp} {Q : VK} {E : XK} {a : Addr} {ns : List Int} {i : Int}
theorem in_cell (h : SqL K H a (iL ns)) (h0 : 0 ≤ i) (q : Q (.int (cell ns i)) H) : sp__law_cell_at K Z [.ref a, .int i] H Q E := ⟨a, ns, i, rfl, h, h0, q⟩
theorem in_whole (q : Q (.bl true) H) : sp__law_whole K Z [.int i] H Q E := ⟨i, rfl, q⟩
end
/-! ### heaps -/
section
variable {K : PySem.W.Frag} {H H1 H2 : Hp} {a p : Addr} {xs : List V} {o : HO}
theorem sq (h : H a = some (.lst xs)) : SqL K H a xs := .inl (.inl h)
theorem sqt (h : H a = some (.tup xs)) : SqT K H a xs := .inl (.inl h)
/-- facts of an older heap -/
theorem up_o (e : Ex H H1) (h : H a = some o) : H1 a = some o := e a o h
theorem up_l (e : Ex H H1) (h : SqL K H a xs) : SqL K H1 a xs := Evl.ex_l e h
theorem up_t (e : Ex H H1) (h : SqT K H a xs) : SqT K H1 a xs := Evl.ex_t e h
theorem dn_n (e : Ex H H1) (h : H1 p = none) : H p = none := Evl.fresh_back e h
end
end Np

set_option Elab.async false
set_option linter.all false
set_option maxRecDepth 100000
set_option maxHeartbeats 4000000
/-! The fields of the program's classes: this text was printed by classes.py. -/
namespace Np
open PySem PySem.Spec PyProof.Rows L2
open Evl (Ex)
theorem look_hit {f : Str} {v : V} {r : List (Str × V)} : ((f, v) :: r).lookup f = some v := by simp [List.lookup]
theorem look_miss {f g : Str} {v : V} {r : List (Str × V)} (h : (f == g) = false) : ((g, v) :: r).lookup f = r.lookup f := by simp [List.lookup, h]
theorem put_hit {f : Str} {v z : V} {r : List (Str × V)} : putF f v ((f, z) :: r) = (f, v) :: r := by
  show (if f = f then (f, v) :: r else (f, z) :: putF f v r) = _
  rw [if_pos rfl]
theorem put_miss {f g : Str} {v z : V} {r : List (Str × V)} (h : ¬ g = f) : putF f v ((g, z) :: r) = (g, z) :: putF f v r := by
  show (if g = f then (g, v) :: r else (g, z) :: putF f v r) = _
  rw [if_neg h]
theorem put_nil {f : Str} {v : V} : putF f v [] = [(f, v)] := rfl
theorem nq_many_fixed : (("many" : Str) == "fixed") = false := by decide +kernel
theorem ne_many_fixed : ¬ ("many" : Str) = "fixed" := by decide +kernel
theorem nq_fixed_many : (("fixed" : Str) == "many") = false := by decide +kernel
theorem ne_fixed_many : ¬ ("fixed" : Str) = "many" := by decide +kernel
theorem nq_many_step : (("many" : Str) == "step") = false := by decide +kernel
theorem ne_many_step : ¬ ("many" : Str) = "step" := by decide +kernel
theorem nq_many_tally : (("many" : Str) == "tally") = false := by decide +kernel
theorem ne_many_tally : ¬ ("many" : Str) = "tally" := by decide +kernel
theorem nq_step_many : (("step" : Str) == "many") = false := by decide +kernel
theorem ne_step_many : ¬ ("step" : Str) = "many" := by decide +kernel
theorem nq_step_tally : (("step" : Str) == "tally") = false := by decide +kernel
theorem ne_step_tally : ¬ ("step" : Str) = "tally" := by decide +kernel
theorem nq_tally_many : (("tally" : Str) == "many") = false := by decide +kernel
theorem ne_tally_many : ¬ ("tally" : Str) = "many" := by decide +kernel
theorem nq_tally_step : (("tally" : Str) == "step") = false := by decide +kernel
theorem ne_tally_step : ¬ ("tally" : Str) = "step" := by decide +kernel
theorem nq_many_learners : (("many" : Str) == "learners") = false := by decide +kernel
theorem ne_many_learners : ¬ ("many" : Str) = "learners" := by decide +kernel
theorem nq_many_at : (("many" : Str) == "at") = false := by decide +kernel
theorem ne_many_at : ¬ ("many" : Str) = "at" := by decide +kernel
theorem nq_step_learners : (("step" : Str) == "learners") = false := by decide +kernel
theorem ne_step_learners : ¬ ("step" : Str) = "learners" := by decide +kernel
theorem nq_step_at : (("step" : Str) == "at") = false := by decide +kernel
theorem ne_step_at : ¬ ("step" : Str) = "at" := by decide +kernel
theorem nq_learners_many : (("learners" : Str) == "many") = false := by decide +kernel
theorem ne_learners_many : ¬ ("learners" : Str) = "many" := by decide +kernel
theorem nq_learners_step : (("learners" : Str) == "step") = false := by decide +kernel
theorem ne_learners_step : ¬ ("learners" : Str) = "step" := by decide +kernel
theorem nq_learners_at : (("learners" : Str) == "at") = false := by decide +kernel
theorem ne_learners_at : ¬ ("learners" : Str) = "at" := by decide +kernel
theorem nq_at_many : (("at" : Str) == "many") = false := by decide +kernel
theorem ne_at_many : ¬ ("at" : Str) = "many" := by decide +kernel
theorem nq_at_step : (("at" : Str) == "step") = false := by decide +kernel
theorem ne_at_step : ¬ ("at" : Str) = "step" := by decide +kernel
theorem nq_at_learners : (("at" : Str) == "learners") = false := by decide +kernel
theorem ne_at_learners : ¬ ("at" : Str) = "learners" := by decide +kernel
theorem nq_shares_base : (("shares" : Str) == "base") = false := by decide +kernel
theorem ne_shares_base : ¬ ("shares" : Str) = "base" := by decide +kernel
theorem nq_shares_grain : (("shares" : Str) == "grain") = false := by decide +kernel
theorem ne_shares_grain : ¬ ("shares" : Str) = "grain" := by decide +kernel
theorem nq_shares_low : (("shares" : Str) == "low") = false := by decide +kernel
theorem ne_shares_low : ¬ ("shares" : Str) = "low" := by decide +kernel
theorem nq_shares_number : (("shares" : Str) == "number") = false := by decide +kernel
theorem ne_shares_number : ¬ ("shares" : Str) = "number" := by decide +kernel
theorem nq_shares_words : (("shares" : Str) == "words") = false := by decide +kernel
theorem ne_shares_words : ¬ ("shares" : Str) = "words" := by decide +kernel
theorem nq_base_shares : (("base" : Str) == "shares") = false := by decide +kernel
theorem ne_base_shares : ¬ ("base" : Str) = "shares" := by decide +kernel
theorem nq_base_grain : (("base" : Str) == "grain") = false := by decide +kernel
theorem ne_base_grain : ¬ ("base" : Str) = "grain" := by decide +kernel
theorem nq_base_low : (("base" : Str) == "low") = false := by decide +kernel
theorem ne_base_low : ¬ ("base" : Str) = "low" := by decide +kernel
theorem nq_base_number : (("base" : Str) == "number") = false := by decide +kernel
theorem ne_base_number : ¬ ("base" : Str) = "number" := by decide +kernel
theorem nq_base_words : (("base" : Str) == "words") = false := by decide +kernel
theorem ne_base_words : ¬ ("base" : Str) = "words" := by decide +kernel
theorem nq_grain_shares : (("grain" : Str) == "shares") = false := by decide +kernel
theorem ne_grain_shares : ¬ ("grain" : Str) = "shares" := by decide +kernel
theorem nq_grain_base : (("grain" : Str) == "base") = false := by decide +kernel
theorem ne_grain_base : ¬ ("grain" : Str) = "base" := by decide +kernel
theorem nq_grain_low : (("grain" : Str) == "low") = false := by decide +kernel
theorem ne_grain_low : ¬ ("grain" : Str) = "low" := by decide +kernel
theorem nq_grain_number : (("grain" : Str) == "number") = false := by decide +kernel
theorem ne_grain_number : ¬ ("grain" : Str) = "number" := by decide +kernel
theorem nq_grain_words : (("grain" : Str) == "words") = false := by decide +kernel
theorem ne_grain_words : ¬ ("grain" : Str) = "words" := by decide +kernel
theorem nq_low_shares : (("low" : Str) == "shares") = false := by decide +kernel
theorem ne_low_shares : ¬ ("low" : Str) = "shares" := by decide +kernel
theorem nq_low_base : (("low" : Str) == "base") = false := by decide +kernel
theorem ne_low_base : ¬ ("low" : Str) = "base" := by decide +kernel
theorem nq_low_grain : (("low" : Str) == "grain") = false := by decide +kernel
theorem ne_low_grain : ¬ ("low" : Str) = "grain" := by decide +kernel
theorem nq_low_number : (("low" : Str) == "number") = false := by decide +kernel
theorem ne_low_number : ¬ ("low" : Str) = "number" := by decide +kernel
theorem nq_low_words : (("low" : Str) == "words") = false := by decide +kernel
theorem ne_low_words : ¬ ("low" : Str) = "words" := by decide +kernel
theorem nq_number_shares : (("number" : Str) == "shares") = false := by decide +kernel
theorem ne_number_shares : ¬ ("number" : Str) = "shares" := by decide +kernel
theorem nq_number_base : (("number" : Str) == "base") = false := by decide +kernel
theorem ne_number_base : ¬ ("number" : Str) = "base" := by decide +kernel
theorem nq_number_grain : (("number" : Str) == "grain") = false := by decide +kernel
theorem ne_number_grain : ¬ ("number" : Str) = "grain" := by decide +kernel
theorem nq_number_low : (("number" : Str) == "low") = false := by decide +kernel
theorem ne_number_low : ¬ ("number" : Str) = "low" := by decide +kernel
theorem nq_number_words : (("number" : Str) == "words") = false := by decide +kernel
theorem ne_number_words : ¬ ("number" : Str) = "words" := by decide +kernel
theorem nq_words_shares : (("words" : Str) == "shares") = false := by decide +kernel
theorem ne_words_shares : ¬ ("words" : Str) = "shares" := by decide +kernel
theorem nq_words_base : (("words" : Str) == "base") = false := by decide +kernel
theorem ne_words_base : ¬ ("words" : Str) = "base" := by decide +kernel
theorem nq_words_grain : (("words" : Str) == "grain") = false := by decide +kernel
theorem ne_words_grain : ¬ ("words" : Str) = "grain" := by decide +kernel
theorem nq_words_low : (("words" : Str) == "low") = false := by decide +kernel
theorem ne_words_low : ¬ ("words" : Str) = "low" := by decide +kernel
theorem nq_words_number : (("words" : Str) == "number") = false := by decide +kernel
theorem ne_words_number : ¬ ("words" : Str) = "number" := by decide +kernel
theorem nq_shares_size : (("shares" : Str) == "size") = false := by decide +kernel
theorem ne_shares_size : ¬ ("shares" : Str) = "size" := by decide +kernel
theorem nq_shares_holders : (("shares" : Str) == "holders") = false := by decide +kernel
theorem ne_shares_holders : ¬ ("shares" : Str) = "holders" := by decide +kernel
theorem nq_shares_places : (("shares" : Str) == "places") = false := by decide +kernel
theorem ne_shares_places : ¬ ("shares" : Str) = "places" := by decide +kernel
theorem nq_shares_numbers : (("shares" : Str) == "numbers") = false := by decide +kernel
theorem ne_shares_numbers : ¬ ("shares" : Str) = "numbers" := by decide +kernel
theorem nq_size_shares : (("size" : Str) == "shares") = false := by decide +kernel
theorem ne_size_shares : ¬ ("size" : Str) = "shares" := by decide +kernel
theorem nq_size_holders : (("size" : Str) == "holders") = false := by decide +kernel
theorem ne_size_holders : ¬ ("size" : Str) = "holders" := by decide +kernel
theorem nq_size_places : (("size" : Str) == "places") = false := by decide +kernel
theorem ne_size_places : ¬ ("size" : Str) = "places" := by decide +kernel
theorem nq_size_numbers : (("size" : Str) == "numbers") = false := by decide +kernel
theorem ne_size_numbers : ¬ ("size" : Str) = "numbers" := by decide +kernel
theorem nq_holders_shares : (("holders" : Str) == "shares") = false := by decide +kernel
theorem ne_holders_shares : ¬ ("holders" : Str) = "shares" := by decide +kernel
theorem nq_holders_size : (("holders" : Str) == "size") = false := by decide +kernel
theorem ne_holders_size : ¬ ("holders" : Str) = "size" := by decide +kernel
theorem nq_holders_places : (("holders" : Str) == "places") = false := by decide +kernel
theorem ne_holders_places : ¬ ("holders" : Str) = "places" := by decide +kernel
theorem nq_holders_numbers : (("holders" : Str) == "numbers") = false := by decide +kernel
theorem ne_holders_numbers : ¬ ("holders" : Str) = "numbers" := by decide +kernel
theorem nq_places_shares : (("places" : Str) == "shares") = false := by decide +kernel
theorem ne_places_shares : ¬ ("places" : Str) = "shares" := by decide +kernel
theorem nq_places_size : (("places" : Str) == "size") = false := by decide +kernel
theorem ne_places_size : ¬ ("places" : Str) = "size" := by decide +kernel
theorem nq_places_holders : (("places" : Str) == "holders") = false := by decide +kernel
theorem ne_places_holders : ¬ ("places" : Str) = "holders" := by decide +kernel
theorem nq_places_numbers : (("places" : Str) == "numbers") = false := by decide +kernel
theorem ne_places_numbers : ¬ ("places" : Str) = "numbers" := by decide +kernel
theorem nq_numbers_shares : (("numbers" : Str) == "shares") = false := by decide +kernel
theorem ne_numbers_shares : ¬ ("numbers" : Str) = "shares" := by decide +kernel
theorem nq_numbers_size : (("numbers" : Str) == "size") = false := by decide +kernel
theorem ne_numbers_size : ¬ ("numbers" : Str) = "size" := by decide +kernel
theorem nq_numbers_holders : (("numbers" : Str) == "holders") = false := by decide +kernel
theorem ne_numbers_holders : ¬ ("numbers" : Str) = "holders" := by decide +kernel
theorem nq_numbers_places : (("numbers" : Str) == "places") = false := by decide +kernel
theorem ne_numbers_places : ¬ ("numbers" : Str) = "places" := by decide +kernel
def fsPlain (v0 : Int) (v1 : Addr) : List (Str × V) := [("many", V.int v0), ("fixed", V.ref v1)]
/-- no field -/
def nfPlain (m : Str) : Bool := !(m == "many") && !(m == "fixed")
section
variable {K : PySem.W.Frag} {H : Hp} {a dx C : Addr} {Q : VK} {R : Hp → Prop} {v0 : Int} {v1 : Addr}
theorem noPlain {m : Str} (h : nfPlain m = true) : (fsPlain v0 v1).lookup m = none := by
  simp only [nfPlain, Bool.and_eq_true, Bool.not_eq_true'] at h
  obtain ⟨h0, h1⟩ := h
  unfold fsPlain
  rw [look_miss h0, look_miss h1]
  rfl
theorem lookPlain_many : (fsPlain v0 v1).lookup ("many" : Str) = some (V.int v0) := by
  unfold fsPlain
  rw [look_hit]
theorem putPlain_many {z : Int} : putF "many" (V.int z) (fsPlain v0 v1) = fsPlain z v1 := by
  unfold fsPlain
  rw [put_hit]
theorem lookPlain_fixed : (fsPlain v0 v1).lookup ("fixed" : Str) = some (V.ref v1) := by
  unfold fsPlain
  rw [look_miss nq_fixed_many, look_hit]
theorem putPlain_fixed {z : Addr} : putF "fixed" (V.ref z) (fsPlain v0 v1) = fsPlain v0 z := by
  unfold fsPlain
  rw [put_miss ne_many_fixed, put_hit]
theorem newPlain_many : putF "many" (V.int v0) [] = [(("many" : Str), V.int v0)] := by
  exact put_nil
theorem newPlain_fixed : putF "fixed" (V.ref v1) [(("many" : Str), V.int v0)] = [(("many" : Str), V.int v0), (("fixed" : Str), V.ref v1)] := by
  rw [put_miss ne_many_fixed, put_nil]
end
def fsLearner (v0 : Int) (v1 : Int) (v2 : Addr) : List (Str × V) := [("many", V.int v0), ("step", V.int v1), ("tally", V.ref v2)]
/-- no field -/
def nfLearner (m : Str) : Bool := !(m == "many") && !(m == "step") && !(m == "tally")
section
variable {K : PySem.W.Frag} {H : Hp} {a dx C : Addr} {Q : VK} {R : Hp → Prop} {v0 : Int} {v1 : Int} {v2 : Addr}
theorem noLearner {m : Str} (h : nfLearner m = true) : (fsLearner v0 v1 v2).lookup m = none := by
  simp only [nfLearner, Bool.and_eq_true, Bool.not_eq_true'] at h
  obtain ⟨⟨h0, h1⟩, h2⟩ := h
  unfold fsLearner
  rw [look_miss h0, look_miss h1, look_miss h2]
  rfl
theorem lookLearner_many : (fsLearner v0 v1 v2).lookup ("many" : Str) = some (V.int v0) := by
  unfold fsLearner
  rw [look_hit]
theorem putLearner_many {z : Int} : putF "many" (V.int z) (fsLearner v0 v1 v2) = fsLearner z v1 v2 := by
  unfold fsLearner
  rw [put_hit]
theorem lookLearner_step : (fsLearner v0 v1 v2).lookup ("step" : Str) = some (V.int v1) := by
  unfold fsLearner
  rw [look_miss nq_step_many, look_hit]
theorem putLearner_step {z : Int} : putF "step" (V.int z) (fsLearner v0 v1 v2) = fsLearner v0 z v2 := by
  unfold fsLearner
  rw [put_miss ne_many_step, put_hit]
theorem lookLearner_tally : (fsLearner v0 v1 v2).lookup ("tally" : Str) = some (V.ref v2) := by
  unfold fsLearner
  rw [look_miss nq_tally_many, look_miss nq_tally_step, look_hit]
theorem putLearner_tally {z : Addr} : putF "tally" (V.ref z) (fsLearner v0 v1 v2) = fsLearner v0 v1 z := by
  unfold fsLearner
  rw [put_miss ne_many_tally, put_miss ne_step_tally, put_hit]
theorem newLearner_many : putF "many" (V.int v0) [] = [(("many" : Str), V.int v0)] := by
  exact put_nil
theorem newLearner_step : putF "step" (V.int v1) [(("many" : Str), V.int v0)] = [(("many" : Str), V.int v0), (("step" : Str), V.int v1)] := by
  rw [put_miss ne_many_step, put_nil]
theorem newLearner_tally : putF "tally" (V.ref v2) [(("many" : Str), V.int v0), (("step" : Str), V.int v1)] = [(("many" : Str), V.int v0), (("step" : Str), V.int v1), (("tally" : Str), V.ref v2)] := by
  rw [put_miss ne_many_tally, put_miss ne_step_tally, put_nil]
end
def fsFollower (v0 : Int) (v1 : Int) (v2 : Addr) (v3 : Int) : List (Str × V) := [("many", V.int v0), ("step", V.int v1), ("learners", V.ref v2), ("at", V.int v3)]
/-- no field -/
def nfFollower (m : Str) : Bool := !(m == "many") && !(m == "step") && !(m == "learners") && !(m == "at")
section
variable {K : PySem.W.Frag} {H : Hp} {a dx C : Addr} {Q : VK} {R : Hp → Prop} {v0 : Int} {v1 : Int} {v2 : Addr} {v3 : Int}
theorem noFollower {m : Str} (h : nfFollower m = true) : (fsFollower v0 v1 v2 v3).lookup m = none := by
  simp only [nfFollower, Bool.and_eq_true, Bool.not_eq_true'] at h
  obtain ⟨⟨⟨h0, h1⟩, h2⟩, h3⟩ := h
  unfold fsFollower
  rw [look_miss h0, look_miss h1, look_miss h2, look_miss h3]
  rfl
theorem lookFollower_many : (fsFollower v0 v1 v2 v3).lookup ("many" : Str) = some (V.int v0) := by
  unfold fsFollower
  rw [look_hit]
theorem putFollower_many {z : Int} : putF "many" (V.int z) (fsFollower v0 v1 v2 v3) = fsFollower z v1 v2 v3 := by
  unfold fsFollower
  rw [put_hit]
theorem lookFollower_step : (fsFollower v0 v1 v2 v3).lookup ("step" : Str) = some (V.int v1) := by
  unfold fsFollower
  rw [look_miss nq_step_many, look_hit]
theorem putFollower_step {z : Int} : putF "step" (V.int z) (fsFollower v0 v1 v2 v3) = fsFollower v0 z v2 v3 := by
  unfold fsFollower
  rw [put_miss ne_many_step, put_hit]
theorem lookFollower_learners : (fsFollower v0 v1 v2 v3).lookup ("learners" : Str) = some (V.ref v2) := by
  unfold fsFollower
  rw [look_miss nq_learners_many, look_miss nq_learners_step, look_hit]
theorem putFollower_learners {z : Addr} : putF "learners" (V.ref z) (fsFollower v0 v1 v2 v3) = fsFollower v0 v1 z v3 := by
  unfold fsFollower
  rw [put_miss ne_many_learners, put_miss ne_step_learners, put_hit]
theorem lookFollower_at : (fsFollower v0 v1 v2 v3).lookup ("at" : Str) = some (V.int v3) := by
  unfold fsFollower
  rw [look_miss nq_at_many, look_miss nq_at_step, look_miss nq_at_learners, look_hit]
theorem putFollower_at {z : Int} : putF "at" (V.int z) (fsFollower v0 v1 v2 v3) = fsFollower v0 v1 v2 z := by
  unfold fsFollower
  rw [put_miss ne_many_at, put_miss ne_step_at, put_miss ne_learners_at, put_hit]
theorem newFollower_many : putF "many" (V.int v0) [] = [(("many" : Str), V.int v0)] := by
  exact put_nil
theorem newFollower_step : putF "step" (V.int v1) [(("many" : Str), V.int v0)] = [(("many" : Str), V.int v0), (("step" : Str), V.int v1)] := by
  rw [put_miss ne_many_step, put_nil]
theorem newFollower_learners : putF "learners" (V.ref v2) [(("many" : Str), V.int v0), (("step" : Str), V.int v1)] = [(("many" : Str), V.int v0), (("step" : Str), V.int v1), (("learners" : Str), V.ref v2)] := by
  rw [put_miss ne_many_learners, put_miss ne_step_learners, put_nil]
theorem newFollower_at : putF "at" (V.int v3) [(("many" : Str), V.int v0), (("step" : Str), V.int v1), (("learners" : Str), V.ref v2)] = [(("many" : Str), V.int v0), (("step" : Str), V.int v1), (("learners" : Str), V.ref v2), (("at" : Str), V.int v3)] := by
  rw [put_miss ne_many_at, put_miss ne_step_at, put_miss ne_learners_at, put_nil]
end
def fsStream (v0 : Addr) (v1 : Int) (v2 : Int) (v3 : Int) (v4 : Int) (v5 : Addr) : List (Str × V) := [("shares", V.ref v0), ("base", V.int v1), ("grain", V.int v2), ("low", V.int v3), ("number", V.int v4), ("words", V.ref v5)]
/-- no field -/
def nfStream (m : Str) : Bool := !(m == "shares") && !(m == "base") && !(m == "grain") && !(m == "low") && !(m == "number") && !(m == "words")
section
variable {K : PySem.W.Frag} {H : Hp} {a dx C : Addr} {Q : VK} {R : Hp → Prop} {v0 : Addr} {v1 : Int} {v2 : Int} {v3 : Int} {v4 : Int} {v5 : Addr}
theorem noStream {m : Str} (h : nfStream m = true) : (fsStream v0 v1 v2 v3 v4 v5).lookup m = none := by
  simp only [nfStream, Bool.and_eq_true, Bool.not_eq_true'] at h
  obtain ⟨⟨⟨⟨⟨h0, h1⟩, h2⟩, h3⟩, h4⟩, h5⟩ := h
  unfold fsStream
  rw [look_miss h0, look_miss h1, look_miss h2, look_miss h3, look_miss h4, look_miss h5]
  rfl
theorem lookStream_shares : (fsStream v0 v1 v2 v3 v4 v5).lookup ("shares" : Str) = some (V.ref v0) := by
  unfold fsStream
  rw [look_hit]
theorem putStream_shares {z : Addr} : putF "shares" (V.ref z) (fsStream v0 v1 v2 v3 v4 v5) = fsStream z v1 v2 v3 v4 v5 := by
  unfold fsStream
  rw [put_hit]
theorem lookStream_base : (fsStream v0 v1 v2 v3 v4 v5).lookup ("base" : Str) = some (V.int v1) := by
  unfold fsStream
  rw [look_miss nq_base_shares, look_hit]
theorem putStream_base {z : Int} : putF "base" (V.int z) (fsStream v0 v1 v2 v3 v4 v5) = fsStream v0 z v2 v3 v4 v5 := by
  unfold fsStream
  rw [put_miss ne_shares_base, put_hit]
theorem lookStream_grain : (fsStream v0 v1 v2 v3 v4 v5).lookup ("grain" : Str) = some (V.int v2) := by
  unfold fsStream
  rw [look_miss nq_grain_shares, look_miss nq_grain_base, look_hit]
theorem putStream_grain {z : Int} : putF "grain" (V.int z) (fsStream v0 v1 v2 v3 v4 v5) = fsStream v0 v1 z v3 v4 v5 := by
  unfold fsStream
  rw [put_miss ne_shares_grain, put_miss ne_base_grain, put_hit]
theorem lookStream_low : (fsStream v0 v1 v2 v3 v4 v5).lookup ("low" : Str) = some (V.int v3) := by
  unfold fsStream
  rw [look_miss nq_low_shares, look_miss nq_low_base, look_miss nq_low_grain, look_hit]
theorem putStream_low {z : Int} : putF "low" (V.int z) (fsStream v0 v1 v2 v3 v4 v5) = fsStream v0 v1 v2 z v4 v5 := by
  unfold fsStream
  rw [put_miss ne_shares_low, put_miss ne_base_low, put_miss ne_grain_low, put_hit]
theorem lookStream_number : (fsStream v0 v1 v2 v3 v4 v5).lookup ("number" : Str) = some (V.int v4) := by
  unfold fsStream
  rw [look_miss nq_number_shares, look_miss nq_number_base, look_miss nq_number_grain, look_miss nq_number_low, look_hit]
theorem putStream_number {z : Int} : putF "number" (V.int z) (fsStream v0 v1 v2 v3 v4 v5) = fsStream v0 v1 v2 v3 z v5 := by
  unfold fsStream
  rw [put_miss ne_shares_number, put_miss ne_base_number, put_miss ne_grain_number, put_miss ne_low_number, put_hit]
theorem lookStream_words : (fsStream v0 v1 v2 v3 v4 v5).lookup ("words" : Str) = some (V.ref v5) := by
  unfold fsStream
  rw [look_miss nq_words_shares, look_miss nq_words_base, look_miss nq_words_grain, look_miss nq_words_low, look_miss nq_words_number, look_hit]
theorem putStream_words {z : Addr} : putF "words" (V.ref z) (fsStream v0 v1 v2 v3 v4 v5) = fsStream v0 v1 v2 v3 v4 z := by
  unfold fsStream
  rw [put_miss ne_shares_words, put_miss ne_base_words, put_miss ne_grain_words, put_miss ne_low_words, put_miss ne_number_words, put_hit]
theorem newStream_shares : putF "shares" (V.ref v0) [] = [(("shares" : Str), V.ref v0)] := by
  exact put_nil
theorem newStream_base : putF "base" (V.int v1) [(("shares" : Str), V.ref v0)] = [(("shares" : Str), V.ref v0), (("base" : Str), V.int v1)] := by
  rw [put_miss ne_shares_base, put_nil]
theorem newStream_grain : putF "grain" (V.int v2) [(("shares" : Str), V.ref v0), (("base" : Str), V.int v1)] = [(("shares" : Str), V.ref v0), (("base" : Str), V.int v1), (("grain" : Str), V.int v2)] := by
  rw [put_miss ne_shares_grain, put_miss ne_base_grain, put_nil]
theorem newStream_low : putF "low" (V.int v3) [(("shares" : Str), V.ref v0), (("base" : Str), V.int v1), (("grain" : Str), V.int v2)] = [(("shares" : Str), V.ref v0), (("base" : Str), V.int v1), (("grain" : Str), V.int v2), (("low" : Str), V.int v3)] := by
  rw [put_miss ne_shares_low, put_miss ne_base_low, put_miss ne_grain_low, put_nil]
theorem newStream_number : putF "number" (V.int v4) [(("shares" : Str), V.ref v0), (("base" : Str), V.int v1), (("grain" : Str), V.int v2), (("low" : Str), V.int v3)] = [(("shares" : Str), V.ref v0), (("base" : Str), V.int v1), (("grain" : Str), V.int v2), (("low" : Str), V.int v3), (("number" : Str), V.int v4)] := by
  rw [put_miss ne_shares_number, put_miss ne_base_number, put_miss ne_grain_number, put_miss ne_low_number, put_nil]
theorem newStream_words : putF "words" (V.ref v5) [(("shares" : Str), V.ref v0), (("base" : Str), V.int v1), (("grain" : Str), V.int v2), (("low" : Str), V.int v3), (("number" : Str), V.int v4)] = [(("shares" : Str), V.ref v0), (("base" : Str), V.int v1), (("grain" : Str), V.int v2), (("low" : Str), V.int v3), (("number" : Str), V.int v4), (("words" : Str), V.ref v5)] := by
  rw [put_miss ne_shares_words, put_miss ne_base_words, put_miss ne_grain_words, put_miss ne_low_words, put_miss ne_number_words, put_nil]
end
def fsSlots (v0 : Addr) (v1 : Int) (v2 : Addr) (v3 : Addr) (v4 : Addr) : List (Str × V) := [("shares", V.ref v0), ("size", V.int v1), ("holders", V.ref v2), ("places", V.ref v3), ("numbers", V.ref v4)]
/-- no field -/
def nfSlots (m : Str) : Bool := !(m == "shares") && !(m == "size") && !(m == "holders") && !(m == "places") && !(m == "numbers")
section
variable {K : PySem.W.Frag} {H : Hp} {a dx C : Addr} {Q : VK} {R : Hp → Prop} {v0 : Addr} {v1 : Int} {v2 : Addr} {v3 : Addr} {v4 : Addr}
theorem noSlots {m : Str} (h : nfSlots m = true) : (fsSlots v0 v1 v2 v3 v4).lookup m = none := by
  simp only [nfSlots, Bool.and_eq_true, Bool.not_eq_true'] at h
  obtain ⟨⟨⟨⟨h0, h1⟩, h2⟩, h3⟩, h4⟩ := h
  unfold fsSlots
  rw [look_miss h0, look_miss h1, look_miss h2, look_miss h3, look_miss h4]
  rfl
theorem lookSlots_shares : (fsSlots v0 v1 v2 v3 v4).lookup ("shares" : Str) = some (V.ref v0) := by
  unfold fsSlots
  rw [look_hit]
theorem putSlots_shares {z : Addr} : putF "shares" (V.ref z) (fsSlots v0 v1 v2 v3 v4) = fsSlots z v1 v2 v3 v4 := by
  unfold fsSlots
  rw [put_hit]
theorem lookSlots_size : (fsSlots v0 v1 v2 v3 v4).lookup ("size" : Str) = some (V.int v1) := by
  unfold fsSlots
  rw [look_miss nq_size_shares, look_hit]
theorem putSlots_size {z : Int} : putF "size" (V.int z) (fsSlots v0 v1 v2 v3 v4) = fsSlots v0 z v2 v3 v4 := by
  unfold fsSlots
  rw [put_miss ne_shares_size, put_hit]
theorem lookSlots_holders : (fsSlots v0 v1 v2 v3 v4).lookup ("holders" : Str) = some (V.ref v2) := by
  unfold fsSlots
  rw [look_miss nq_holders_shares, look_miss nq_holders_size, look_hit]
theorem putSlots_holders {z : Addr} : putF "holders" (V.ref z) (fsSlots v0 v1 v2 v3 v4) = fsSlots v0 v1 z v3 v4 := by
  unfold fsSlots
  rw [put_miss ne_shares_holders, put_miss ne_size_holders, put_hit]
theorem lookSlots_places : (fsSlots v0 v1 v2 v3 v4).lookup ("places" : Str) = some (V.ref v3) := by
  unfold fsSlots
  rw [look_miss nq_places_shares, look_miss nq_places_size, look_miss nq_places_holders, look_hit]
theorem putSlots_places {z : Addr} : putF "places" (V.ref z) (fsSlots v0 v1 v2 v3 v4) = fsSlots v0 v1 v2 z v4 := by
  unfold fsSlots
  rw [put_miss ne_shares_places, put_miss ne_size_places, put_miss ne_holders_places, put_hit]
theorem lookSlots_numbers : (fsSlots v0 v1 v2 v3 v4).lookup ("numbers" : Str) = some (V.ref v4) := by
  unfold fsSlots
  rw [look_miss nq_numbers_shares, look_miss nq_numbers_size, look_miss nq_numbers_holders, look_miss nq_numbers_places, look_hit]
theorem putSlots_numbers {z : Addr} : putF "numbers" (V.ref z) (fsSlots v0 v1 v2 v3 v4) = fsSlots v0 v1 v2 v3 z := by
  unfold fsSlots
  rw [put_miss ne_shares_numbers, put_miss ne_size_numbers, put_miss ne_holders_numbers, put_miss ne_places_numbers, put_hit]
theorem newSlots_shares : putF "shares" (V.ref v0) [] = [(("shares" : Str), V.ref v0)] := by
  exact put_nil
theorem newSlots_size : putF "size" (V.int v1) [(("shares" : Str), V.ref v0)] = [(("shares" : Str), V.ref v0), (("size" : Str), V.int v1)] := by
  rw [put_miss ne_shares_size, put_nil]
theorem newSlots_holders : putF "holders" (V.ref v2) [(("shares" : Str), V.ref v0), (("size" : Str), V.int v1)] = [(("shares" : Str), V.ref v0), (("size" : Str), V.int v1), (("holders" : Str), V.ref v2)] := by
  rw [put_miss ne_shares_holders, put_miss ne_size_holders, put_nil]
theorem newSlots_places : putF "places" (V.ref v3) [(("shares" : Str), V.ref v0), (("size" : Str), V.int v1), (("holders" : Str), V.ref v2)] = [(("shares" : Str), V.ref v0), (("size" : Str), V.int v1), (("holders" : Str), V.ref v2), (("places" : Str), V.ref v3)] := by
  rw [put_miss ne_shares_places, put_miss ne_size_places, put_miss ne_holders_places, put_nil]
theorem newSlots_numbers : putF "numbers" (V.ref v4) [(("shares" : Str), V.ref v0), (("size" : Str), V.int v1), (("holders" : Str), V.ref v2), (("places" : Str), V.ref v3)] = [(("shares" : Str), V.ref v0), (("size" : Str), V.int v1), (("holders" : Str), V.ref v2), (("places" : Str), V.ref v3), (("numbers" : Str), V.ref v4)] := by
  rw [put_miss ne_shares_numbers, put_miss ne_size_numbers, put_miss ne_holders_numbers, put_miss ne_places_numbers, put_nil]
end
end Np

set_option Elab.async false
set_option linter.all false
set_option maxRecDepth 100000
set_option maxHeartbeats 4000000
/-! Objects: what an object owns, methods, models. -/
namespace Np
open PySem PySem.Spec PyProof.Rows L2
open Evl (Ex)
open C8 (Cal Met Mak pe_c pe_mk pe_mt pe_mt0 pe_gc)
/-! ### C.m(..), C a class, m a plain def of it -/
structure CF (P : Program) (w : World) (K : PySem.W.Frag) (mg : Str → Option Value) (base : Heap) (k : Nat) (C : Addr) (m : Str) (sp : Sp) : Prop where
  ex : ∃ (mc : Value) (f : Addr) (fd : FuncData) (ps : List Str), ClX.CRead K C mc ∧ PySem.W.findCls K (.ref C) mc m = some (.val (.ref f)) ∧ PySem.W.keepIn K (.ref f) = true ∧ FnOk P w K mg base CX0 k f fd ps sp ∧ Binds K fd ps []
theorem pe_cf {X : Cx} {k j : Nat} {C : Addr} {m : Str} {sp : Sp} {o e : Expr} {es : List Expr} {t : TA} {pos apos : Pos} {pl : Sem Bool} (c : CF X.prog X.w X.K X.mg X.base k C m sp) (hr : Room j X.A) (hk : k ≤ j) (he : PE X o (tC (.ref C))) (ha : PA X (e :: es) t)
    (hst : starEach (e :: es) X.env = (false, eval e X.env) :: starEach es X.env := by rfl) (hpl : (backTo pos (starEach es X.env)).any (·.1) = false := by rfl)
    (ht : eval (.Call (.Attribute o m apos) (e :: es) [] pos) X.env = (do
      let ov ← eval o X.env
      standAt apos.atName
      let (f, first) ← holding [ov] (getMethod ov m pl)
      callWith pos f first (backTo pos (starEach (e :: es) X.env)) (backToKw pos (keywordEach [] X.env))) := by rfl) :
    PE X (.Call (.Attribute o m apos) (e :: es) [] pos) (tCall sp [] C8.E0 t) := by
  obtain ⟨mc, f, fd, ps, r, hf, kp, F, hb⟩ := c.ex
  refine ⟨fun pins s σ H Q I h => ?_⟩
  refine PySem.W.methodCall_KW (pl := pl) (thn (he.run pins s σ H (fun x H1 => x = .ref C ∧ H1 = H) I ⟨rfl, rfl⟩) fun u s1 ⟨x, H1, I1, rx, ex, eh⟩ => ?_) ht
  subst ex
  subst eh
  obtain rfl : u = Value.ref C := rx
  refine PySem.W.method_cls I1.kIn r.ga (PySem.W.cls_value I1.kIn r.rd hf (handed_of (v := .ref f) rfl) ?_)
  refine PySem.W.callWith_K (first := []) (h₀ := X.base) I1.ok.mod.kin kp (thn (ha.run pos pins _ σ H1 _ (I1.tok _) h) fun us s2 ⟨vs, H2, I2, r2, q2⟩ => ⟨I2.kIn, ?_⟩) hst hpl
  exact run_fn F (hr.mono hk) hb .nil pass0 I2 r2 q2
/-- two readings of one expression -/
theorem pe_or {X : Cx} {e : Expr} {t u : TE} (h1 : PE X e t) (h2 : PE X e u) : PE X e (fun σ H Q => t σ H Q ∨ u σ H Q) :=
  ⟨fun pins s σ H Q I h => h.elim (h1.run pins s σ H Q I) (h2.run pins s σ H Q I)⟩
section
variable {P : Program} {w : World} {K : PySem.W.Frag} {mg : Str → Option Value} {base : Heap}
/-- a def's promise over a family -/
theorem fn_ex {α : Type 1} {k : Nat} {f : Addr} {fd : FuncData} {ps : List Str} {A : α → Prop} {sp : α → Sp} (F : ∀ a, A a → FnOk P w K mg base CX0 k f fd ps (sp a)) : FnOk P w K mg base CX0 k f fd ps (fun vs H Q E => ∃ a, A a ∧ sp a vs H Q E) :=
  ⟨fun vs H Q E ⟨a, ha, h⟩ => (F a ha).len vs H Q E h, fun A' outer s H args us vs Q E hr e0 hb r ⟨a, ha, h⟩ => (F a ha).run A' outer s H args us vs Q E hr e0 hb r h⟩
theorem met_of {C : Addr} {m qual : Str} {st : Stmt} {f : Addr} {fd : FuncData} {N ps : List Str} {k : Nat} {sp : Sp} (c : Cls K C) (me : Meth K C m f) (F : Fun K m qual st f fd) (b : Binds K fd ps []) (S : FnScope N ps (defScope st)) (len : ∀ vs H Q E, sp vs H Q E → vs.length = ps.length)
    (hbody : ∀ (cdv : Value) (A : Around) (outer : List Env) (s : Shared) (H : Hp) (vs : List V) (Q : VK) (E : XK), Room k (A.deeper (envOfC qual (defScope st) s.heap.objs.size f cdv)) → sp vs H Q E →
      ∃ t, PSs (cxOf CX0 P w K mg base N qual (defScope st) f cdv A outer s H E).nox (defBody st) t ∧ t { nx := fun _ H' => Q .non H', rt := Q } (start N vs) H) : Met P w K mg base (k + 1) C m sp [] :=
  ⟨f, fd, ps, [], c, me, F.ok S len hbody, b, .nil⟩
theorem Met.imp {C : Addr} {m : Str} {k : Nat} {sp sp' : Sp} {dvs : List V} (M : Met P w K mg base k C m sp dvs) (h : ∀ vs H Q E, sp' vs H Q E → sp vs H Q E) : Met P w K mg base k C m sp' dvs := by
  obtain ⟨f, fd, ps, ds, c, me, F, b, d⟩ := M.ex
  exact ⟨f, fd, ps, ds, c, me, F.imp h, b, d⟩
end
section
variable {P : Program} {w : World} {K : PySem.W.Frag} {mg : Str → Option Value} {base : Heap}
theorem fund_mk {x qual : Str} {params : Arguments} {body : List Stmt} {scope : Scope} {dvs : List V} {f : Addr} {oc : Value} {od an : Option Addr} {osl : Array (Option Value)} {dV kV doc pm cdv ct : Value} (l : K.lookup f = some ⟨oc, od, .func (PySem.W.fnOf x qual params body scope dV kV doc pm an cdv ct), osl⟩)
    (c : PySem.W.codeIn K cdv qual = true) (k : PySem.W.keepIn K (.ref f) = true) (d : DflV K dV dvs) : FunD K x qual params body scope dvs [] f (PySem.W.fnOf x qual params body scope dV kV doc pm an cdv ct) :=
  ⟨⟨oc, od, dV, kV, doc, pm, an, cdv, ct, osl, rfl, l, c, d, .inl rfl⟩, k⟩
theorem _root_.L2.FunD.ok0 {x qual : Str} {params : Arguments} {body : List Stmt} {scope : Scope} {dvs : List V} {f : Addr} {fd : FuncData} {N ps : List Str} {k : Nat} {sp : Sp} (F : FunD K x qual params body scope dvs [] f fd) (S : FnScope N ps scope) (len : ∀ vs H Q E, sp vs H Q E → vs.length = ps.length)
    (hbody : ∀ (cdv : Value) (A : Around) (outer : List Env) (s : Shared) (H : Hp) (vs : List V) (Q : VK) (E : XK), Room k (A.deeper (envOfC qual scope s.heap.objs.size f cdv)) → sp vs H Q E →
      ∃ t, PSs (cxOf CX0 P w K mg base N qual scope f cdv A outer s H E).nox body t ∧ t { nx := fun _ H' => Q .non H', rt := Q } (start N vs) H) : FnOk P w K mg base CX0 (k + 1) f fd ps sp :=
  F.ok S len fun cdv A outer s H vs Q E hr h => by
    obtain ⟨t, h1, h2⟩ := hbody cdv A outer s H vs Q E hr h
    exact ⟨t, h1.nox, h2⟩
end
/-! ### what is owned -/
def Keep (F : List Addr) (H H' : Hp) : Prop := ∀ b o, b ∉ F → H b = some o → H' b = some o
def Grow (F F' : List Addr) (H : Hp) : Prop := ∀ b ∈ F', b ∈ F ∨ H b = none
def New (F : List Addr) (H : Hp) : Prop := ∀ b ∈ F, H b = none
def Own (F : List Addr) (H : Hp) : Prop := ∀ b ∈ F, ∃ o, H b = some o
/-- what stood ahead stands, where it is not owned by the object that turned -/
theorem Keep.at {F : List Addr} {H H' : Hp} {b : Addr} {o : HO} (k : Keep F H H') (h : H b = some o) (n : b ∉ F) : H' b = some o := k b o n h
theorem Keep.ex {F : List Addr} {H0 H H' : Hp} (e : Ex H0 H) (k : Keep F H H') (n : New F H0) : Ex H0 H' := fun b o h => k b o (fun hb => by rw [n b hb] at h; cases h) (e b o h)
theorem New.grow {F F' : List Addr} {H0 H : Hp} (n : New F H0) (e : Ex H0 H) (g : Grow F F' H) : New F' H0 := fun b hb => (g b hb).elim (n b) (fun h => Evl.fresh_back e h)
theorem New.out {F : List Addr} {H : Hp} {b : Addr} {o : HO} (n : New F H) (h : H b = some o) : b ∉ F := fun hb => by rw [n b hb] at h; cases h
theorem Keep.refl (F : List Addr) (H : Hp) : Keep F H H := fun _ _ _ h => h
theorem Keep.trans {F : List Addr} {H H1 H2 : Hp} (a : Keep F H H1) (b : Keep F H1 H2) : Keep F H H2 := fun c o n h => b c o n (a c o n h)
theorem Keep.of {F : List Addr} {H H' : Hp} (e : Ex H H') : Keep F H H' := fun b o _ h => e b o h
theorem Keep.mono {F G : List Addr} {H H' : Hp} (k : Keep F H H') (h : ∀ b ∈ F, b ∈ G) : Keep G H H' := fun b o n q => k b o (fun z => n (h b z)) q
theorem Grow.refl (F : List Addr) (H : Hp) : Grow F F H := fun _ h => .inl h
theorem Grow.out {F F' : List Addr} {H : Hp} {b : Addr} {o : HO} (g : Grow F F' H) (n : b ∉ F) (h : H b = some o) : b ∉ F' := fun z => (g b z).elim n (fun q => by rw [h] at q; cases q)
theorem Keep.seq {K : PySem.W.Frag} {x C dx b : Addr} {fs : List (Str × V)} {H H' : Hp} {xs : List V} (k : Keep [x] H H') (hx : H x = some (.ins C dx fs)) (h : SqL K H b xs) : SqL K H' b xs := by
  have ne : ∀ o, H b = some o → (∀ C' dx' fs', o ≠ .ins C' dx' fs') → b ∉ [x] := fun o e n z => by
    rw [List.mem_singleton.mp z, hx] at e
    exact n _ _ _ (Option.some.inj e).symm
  rcases h with (h | ⟨o, h⟩) | h
  · exact .inl (.inl (k _ _ (ne _ h fun _ _ _ z => by cases z) h))
  · exact .inl (.inr ⟨o, k _ _ (ne _ h fun _ _ _ z => by cases z) h⟩)
  · exact .inr h
/-- an object made at H (by way of H1) -/
theorem made_ex {H H1 H2 : Hp} {x : Addr} (nx : H x = none) (e : Ex H H1) (k : Keep [x] H1 H2) : Ex H H2 := Keep.ex e k fun b hb => by rw [List.mem_singleton.mp hb]; exact nx
theorem made_new {H H1 : Hp} {x : Addr} {F : List Addr} (nx : H x = none) (f : ∀ b, H1 b = none → H b = none) (g : Grow [x] F H1) : New F H := fun b hb => (g b hb).elim (fun z => by rw [List.mem_singleton.mp z]; exact nx) (f b)
theorem Own.new {F G : List Addr} {H : Hp} (o : Own F H) (n : New G H) : ∀ b ∈ F, b ∉ G := fun b hb hg => by
  obtain ⟨u, e⟩ := o b hb
  rw [n b hg] at e
  cases e
theorem Own.out {F : List Addr} {H : Hp} {b : Addr} (o : Own F H) (n : H b = none) : b ∉ F := fun hb => by
  obtain ⟨u, e⟩ := o b hb
  rw [n] at e
  cases e
/-! ### steps of fields and methods -/
def kFld (K : PySem.W.Frag) (f : Str) (Q : VK) : VK := fun x H1 => ∃ a C dx fs v, x = .ref a ∧ H1 a = some (.ins C dx fs) ∧ Cls K C ∧ NoAttr K C f ∧ fs.lookup f = some v ∧ Q v H1
def kSetF (K : PySem.W.Frag) (f : Str) (y : V) (R : Hp → Prop) : VK := fun x H2 => ∃ a C dx fs, x = .ref a ∧ H2 a = some (.ins C dx fs) ∧ Cls K C ∧ NoAttr K C f ∧ fs.length < 1000 ∧ R (upd H2 a (.ins C dx (putF f y fs)))
def kMeth (C : Addr) (m : Str) (sp : Sp) (E : XK) (t : TA) (σ : L2.St) (Q : VK) : VK := fun x H1 => ∃ a dx fs, x = .ref a ∧ H1 a = some (.ins C dx fs) ∧ fs.lookup m = none ∧ t σ H1 fun vs H2 => sp (x :: (vs ++ [])) H2 Q E
def rMk (C : Addr) (sp : Sp) (dvs : List V) (E : XK) (vs : List V) (H1 : Hp) (Q : VK) : Prop := ∀ x dx, H1 x = none → H1 dx = none → dx ≠ x → sp (.ref x :: (vs ++ dvs)) (upd (upd H1 dx (.own x)) x (.ins C dx [])) (fun v H2 => v = .non ∧ Q (.ref x) H2) E
section
variable {K : PySem.W.Frag} {σ : L2.St} {H : Hp} {D : Ends} {Q : VK} {ta tv : TE} {t : TA} {f m : Str} {C a dx : Addr} {fs : List (Str × V)} {v y : V} {R : Hp → Prop} {sp : Sp} {E : XK} {dvs vs : List V}
theorem w_fld (q : ta σ H (kFld K f Q)) : tFld K ta f σ H Q := q
theorem w_kFld (h : H a = some (.ins C dx fs)) (l : fs.lookup f = some v) (c : Cls K C) (n : NoAttr K C f) (q : Q v H) : kFld K f Q (.ref a) H := ⟨a, C, dx, fs, v, rfl, h, c, n, l, q⟩
theorem w_setF (q : tv σ H fun y H1 => ta σ H1 (kSetF K f y fun H3 => D.nx σ H3)) : sFld K ta tv f D σ H := q
theorem w_kSetF {fs' : List (Str × V)} (h : H a = some (.ins C dx fs)) (e : putF f y fs = fs') (c : Cls K C) (n : NoAttr K C f) (l : fs.length < 1000) (q : ∀ H1, Keep [a] H H1 → H1 a = some (.ins C dx fs') → (∀ b, H1 b = none → H b = none) → R H1) : kSetF K f y R (.ref a) H :=
  ⟨a, C, dx, fs, rfl, h, c, n, l, by
    rw [e]
    refine q _ (fun b o hb hh => ?_) upd_same fun b hb => ?_
    · rw [upd_ne (fun z => hb (by rw [z]; simp))]
      exact hh
    · by_cases z : b = a
      · rw [z, upd_same] at hb
        cases hb
      · rw [upd_ne z] at hb
        exact hb⟩
theorem w_meth (q : ta σ H (kMeth C m sp E t σ Q)) : tMeth C m sp [] E ta t σ H Q := q
theorem w_kMeth (h : H a = some (.ins C dx fs)) (n : fs.lookup m = none) (q : t σ H fun vs H2 => sp (.ref a :: vs) H2 Q E) : kMeth C m sp E t σ Q (.ref a) H :=
  ⟨a, dx, fs, rfl, h, n, by
    have e : (fun (vs : List V) (H2 : Hp) => sp (.ref a :: (vs ++ [])) H2 Q E) = fun vs H2 => sp (.ref a :: vs) H2 Q E := by
      funext vs H2
      rw [List.append_nil]
    rw [e]
    exact q⟩
theorem w_make (q : t σ H fun vs H1 => rMk C sp dvs E vs H1 Q) : tMake C sp dvs E t σ H Q := q
/-- an object is made: its place x, then __init__'s promise at the heap H1 -/
theorem w_rMk (q : ∀ x dx H1, H x = none → Ex H H1 → H1 x = some (.ins C dx []) → (∀ b, H1 b = none → H b = none) → sp (.ref x :: (vs ++ dvs)) H1 (fun v H2 => v = .non ∧ Q (.ref x) H2) E) : rMk C sp dvs E vs H Q := fun x dx hx hdx ne =>
  q x dx _ hx (fun b o hb => by rw [upd_ne (ne_of_none hb hx), upd_ne (ne_of_none hb hdx)]; exact hb) upd_same fun b hb => by
    by_cases h1 : b = x
    · rw [h1]; exact hx
    · rw [upd_ne h1] at hb
      by_cases h2 : b = dx
      · rw [h2]; exact hdx
      · rw [upd_ne h2] at hb
        exact hb
end
/-- isinstance(o, C), o an own instance -/
structure IsF (K : PySem.W.Frag) (C : Addr) : Prop where
  cl : Cls K C
  h1 : PySem.W.findIn K (.ref C) "__class__" = some (some (.builtin "object.__class__"))
  h2 : PySem.W.specialIn K (.builtin "object.__class__") "__get__" = some (some (.builtin "getset_descriptor.__get__"))
  h3 : PySem.W.takesIn K (.builtin "object.__class__") = some true
  h4 : PySem.W.mroIn K C (.type "object") = some true
theorem kit_own {K : PySem.W.Frag} {C B : Addr} (h1 : PySem.W.isClsIn K B = true) (h2 : PySem.W.typeIn K (.ref B) = some (.type "type")) (h3 : PySem.W.subIn K (.ref C) (.ref B) = some true) : PySem.W.kitOne K (.ref C) (.ref B) = some true := by
  unfold PySem.W.kitOne
  split
  · rfl
  · have e : PySem.W.kitCls K (.ref C) (.ref B) = if ((PySem.W.clsIn K B).isSome && PySem.W.typeIn K (.ref B) == some (.type "type")) = true then PySem.W.subIn K (.ref C) (.ref B) else none := rfl
    have e1 : (PySem.W.clsIn K B).isSome = true := h1
    rw [e, e1, h2, if_pos (by simp), h3]
theorem w_isiO {K : PySem.W.Frag} {H : Hp} {Q : VK} {C B a dx : Addr} {fs : List (Str × V)} (c : IsF K C) (k : PySem.W.kitOne K (.ref C) (.ref B) = some true) (h : H a = some (.ins C dx fs)) (q : Q (.bl true) H) : rIsi K [.ref a, .ref B] H Q :=
  w_isi (.base (.ins h c.cl c.h1 c.h2 c.h3 c.h4)) (.own B) k q
/-! ### models -/
/-- a kind of model: its numbers are fixed, S are its states -/
structure Mdl where
  C : Addr
  many : Int
  S : Type
  init : S
  counts : S → List Int
  see : S → Int → S
  ok : S → Prop
  rep : Hp → Addr → S → List Addr → Prop
/-- what holds of each kind -/
structure MdlOk (M : Mdl) : Prop where
  okI : M.ok M.init
  okS : ∀ s n, M.ok s → 0 ≤ n → n < M.many → M.ok (M.see s n)
  good : ∀ s, M.ok s → Good (M.counts s)
  len : ∀ s, M.ok s → (M.counts s).length = M.many
  ok : ∀ H p s F, M.rep H p s F → M.ok s
  frame : ∀ H H' p s F, M.rep H p s F → (∀ b ∈ F, ∀ o, H b = some o → H' b = some o) → M.rep H' p s F
  own : ∀ H p s F, M.rep H p s F → Own F H
  ins : ∀ H p s F, M.rep H p s F → ∃ dx fs, H p = some (.ins M.C dx fs) ∧ fs.lookup ("many" : Str) = some (.int M.many) ∧ fs.lookup ("counts" : Str) = none ∧ fs.lookup ("see" : Str) = none ∧ fs.lookup ("fresh" : Str) = none
theorem MdlOk.up {M : Mdl} (o : MdlOk M) {H H' : Hp} {p : Addr} {s : M.S} {F : List Addr} (r : M.rep H p s F) (e : Ex H H') : M.rep H' p s F := o.frame H H' p s F r fun b _ u h => e b u h
theorem MdlOk.keep {M : Mdl} (o : MdlOk M) {H H' : Hp} {p : Addr} {s : M.S} {F G : List Addr} (r : M.rep H p s F) (k : Keep G H H') (d : ∀ b ∈ F, b ∉ G) : M.rep H' p s F := o.frame H H' p s F r fun b hb u h => k b u (d b hb) h
/-- the promises of the methods -/
def sp_counts (M : Mdl) : Sp := fun vs H Q _ => ∃ (p : Addr) (s : M.S) (F : List Addr), vs = [.ref p] ∧ M.rep H p s F ∧ ∀ l H', H l = none → Ex H H' → H' l = some (.lst (iL (M.counts s))) → Q (.ref l) H'
def sp_see (M : Mdl) : Sp := fun vs H Q _ => ∃ (p : Addr) (s : M.S) (F : List Addr) (n : Int), vs = [.ref p, .int n] ∧ M.rep H p s F ∧ 0 ≤ n ∧ n < M.many ∧ ∀ H' F', M.rep H' p (M.see s n) F' → Keep F H H' → Grow F F' H → Q .non H'
def sp_fresh (M : Mdl) : Sp := fun vs H Q _ => ∃ (p : Addr) (s : M.S) (F : List Addr), vs = [.ref p] ∧ M.rep H p s F ∧ ∀ q H' F', M.rep H' q M.init F' → Ex H H' → New F' H → Q (.ref q) H'
/-! Plain -/
def plainM (Z : Zs) (cs : List Int) : Mdl where
  C := Z.plain
  many := cs.length
  S := Unit
  init := ()
  counts := fun _ => cs
  see := fun s _ => s
  ok := fun _ => Good cs
  rep := fun H p _ F => Good cs ∧ ∃ dx l, H p = some (.ins Z.plain dx (fsPlain (cs.length : Int) l)) ∧ H l = some (.lst (iL cs)) ∧ F = [p, l]
theorem plainOk {Z : Zs} {cs : List Int} (g : Good cs) : MdlOk (plainM Z cs) where
  okI := g
  okS := fun _ _ h _ _ => h
  good := fun _ h => h
  len := fun _ _ => rfl
  ok := fun _ _ _ _ h => h.1
  frame := fun H H' p s F ⟨g, dx, l, h1, h2, e⟩ k => ⟨g, dx, l, k p (by rw [e]; simp) _ h1, k l (by rw [e]; simp) _ h2, e⟩
  own := fun H p s F ⟨g, dx, l, h1, h2, e⟩ b hb => by
    rw [e] at hb
    rcases List.mem_cons.mp hb with rfl | hb
    · exact ⟨_, h1⟩
    · rcases List.mem_cons.mp hb with rfl | hb
      · exact ⟨_, h2⟩
      · cases hb
  ins := fun H p s F ⟨g, dx, l, h1, h2, e⟩ => ⟨dx, _, h1, lookPlain_many, noPlain (by decide +kernel), noPlain (by decide +kernel), noPlain (by decide +kernel)⟩
/-! Learner -/
def seeL (step : Int) (t : List Int) (n : Int) : List Int :=
  let u := t.set n.toNat (t.getD n.toNat 0 + step)
  if 999 < u.getD n.toNat 0 then u.map (fun c => (c + 1) / 2) else u
structure LOk (many step : Int) (t : List Int) : Prop where
  len : t.length = many
  m0 : 1 ≤ many
  m1 : many ≤ 100
  s0 : 1 ≤ step
  s1 : step ≤ 9
  lo : ∀ c ∈ t, 1 ≤ c
  hi : ∀ c ∈ t, c ≤ 999
theorem LOk.good {many step : Int} {t : List Int} (o : LOk many step t) : Good t := by
  have l := o.len
  have m0 := o.m0
  have m1 := o.m1
  refine ⟨by omega, by omega, fun c hc => by have := o.lo c hc; omega, o.hi, ?_⟩
  have hm := at_mem (ns := t) (i := 0) (by omega)
  have h1 := o.lo _ hm
  have h2 := mem_le_sum (fun c hc => by have := o.lo c hc; omega) hm
  omega
theorem LOk.init {many step : Int} (m0 : 1 ≤ many) (m1 : many ≤ 100) (s0 : 1 ≤ step) (s1 : step ≤ 9) : LOk many step (List.replicate many.toNat 1) :=
  ⟨by rw [List.length_replicate]; omega, m0, m1, s0, s1, fun c hc => by rw [(List.mem_replicate.mp hc).2]; omega, fun c hc => by rw [(List.mem_replicate.mp hc).2]; omega⟩
theorem seeL_at {t : List Int} {n : Int} {z : Int} (h : n.toNat < t.length) : (t.set n.toNat z).getD n.toNat 0 = z := by
  rw [List.getD_eq_getElem?_getD, List.getElem?_set_self h]
  rfl
theorem LOk.see {many step : Int} {t : List Int} (o : LOk many step t) {n : Int} (h0 : 0 ≤ n) (h1 : n < many) : LOk many step (seeL step t n) := by
  have l := o.len
  have hn : n.toNat < t.length := by omega
  have hm := at_mem hn
  have g0 := o.lo _ hm
  have g1 := o.hi _ hm
  have s0 := o.s0
  have s1 := o.s1
  have hin : ∀ c ∈ t.set n.toNat (t.getD n.toNat 0 + step), 1 ≤ c ∧ c ≤ 1008 := fun c hc => by
    rcases List.mem_or_eq_of_mem_set hc with hc | rfl
    · have := o.lo c hc; have := o.hi c hc; omega
    · omega
  unfold seeL
  dsimp only
  rw [seeL_at hn]
  split
  · rename_i hb
    refine ⟨by rw [List.length_map, List.length_set]; exact l, o.m0, o.m1, s0, s1, fun c hc => ?_, fun c hc => ?_⟩
    · obtain ⟨d, hd, rfl⟩ := List.mem_map.mp hc
      have := hin d hd
      omega
    · obtain ⟨d, hd, rfl⟩ := List.mem_map.mp hc
      have := hin d hd
      omega
  · rename_i hb
    refine ⟨by rw [List.length_set]; exact l, o.m0, o.m1, s0, s1, fun c hc => (hin c hc).1, fun c hc => ?_⟩
    rcases List.mem_or_eq_of_mem_set hc with hc | rfl
    · exact o.hi c hc
    · omega
def LrAt (Z : Zs) (many step : Int) (H : Hp) (p : Addr) (t : List Int) (F : List Addr) : Prop := LOk many step t ∧ ∃ dx l, H p = some (.ins Z.learner dx (fsLearner many step l)) ∧ H l = some (.lst (iL t)) ∧ F = [p, l]
def learnerM (Z : Zs) (many step : Int) : Mdl where
  C := Z.learner
  many := many
  S := List Int
  init := List.replicate many.toNat 1
  counts := fun t => t
  see := seeL step
  ok := LOk many step
  rep := LrAt Z many step
theorem learnerOk {Z : Zs} {many step : Int} (m0 : 1 ≤ many) (m1 : many ≤ 100) (s0 : 1 ≤ step) (s1 : step ≤ 9) : MdlOk (learnerM Z many step) where
  okI := LOk.init m0 m1 s0 s1
  okS := fun _ _ h h0 h1 => h.see h0 h1
  good := fun _ h => h.good
  len := fun _ h => h.len
  ok := fun _ _ _ _ h => h.1
  frame := fun H H' p s F ⟨g, dx, l, h1, h2, e⟩ k => ⟨g, dx, l, k p (by rw [e]; simp) _ h1, k l (by rw [e]; simp) _ h2, e⟩
  own := fun H p s F ⟨g, dx, l, h1, h2, e⟩ b hb => by
    rw [e] at hb
    rcases List.mem_cons.mp hb with rfl | hb
    · exact ⟨_, h1⟩
    · rcases List.mem_cons.mp hb with rfl | hb
      · exact ⟨_, h2⟩
      · cases hb
  ins := fun H p s F ⟨g, dx, l, h1, h2, e⟩ => ⟨dx, _, h1, lookLearner_many, noLearner (by decide +kernel), noLearner (by decide +kernel), noLearner (by decide +kernel)⟩
/-! ### lists again -/
section
variable {K : PySem.W.Frag} {H : Hp} {Q : VK} {a b : Addr} {xs ys : List V} {v : V} {i : Int} {R : Hp → Prop}
theorem w_rep (h : H a = some (.lst xs)) (h0 : 0 ≤ i) (h1 : i ≤ 1000) (hz : xs.length ≤ 1000) (q : ∀ p H1, H p = none → Ex H H1 → H1 p = some (.lst (List.replicate i.toNat xs).flatten) → Q (.ref p) H1) : rRep (.ref a) (.int i) H Q :=
  ⟨a, i, xs, rfl, rfl, h, Int.le_trans (by decide) h0, Int.lt_of_le_of_lt h1 (by decide), Nat.le_trans (Nat.mul_le_mul hz (show i.toNat ≤ 1000 by omega)) (by decide), fun p hp => q p _ hp (Evl.Ex.new hp) upd_same⟩
theorem w_rep1 {z : V} (h : H a = some (.lst [z])) (h0 : 0 ≤ i) (h1 : i ≤ 1000000) (q : ∀ p H1, H p = none → Ex H H1 → H1 p = some (.lst (List.replicate i.toNat [z]).flatten) → Q (.ref p) H1) : rRep (.ref a) (.int i) H Q :=
  ⟨a, i, [z], rfl, rfl, h, Int.le_trans (by decide) h0, Int.lt_of_le_of_lt h1 (by decide), Nat.le_trans (Nat.mul_le_mul (show [z].length ≤ 1 from Nat.le_refl _) (show i.toNat ≤ 1000000 by omega)) (by decide), fun p hp => q p _ hp (Evl.Ex.new hp) upd_same⟩
theorem rep_one (n : Nat) (z : Int) : (List.replicate n [V.int z]).flatten = iL (List.replicate n z) := by
  induction n with
  | zero => rfl
  | succ n ih =>
    rw [List.replicate_succ, List.flatten_cons, ih, List.replicate_succ]
    rfl
theorem w_cat (h : H a = some (.lst xs)) (h' : H b = some (.lst ys)) (hx : xs.length ≤ 1000) (hy : ys.length ≤ 1000) (q : ∀ p H1, H p = none → Ex H H1 → H1 p = some (.lst (xs ++ ys)) → Q (.ref p) H1) : rCat (.ref a) (.ref b) H Q :=
  ⟨a, b, xs, ys, rfl, rfl, h, h', Nat.le_trans (Nat.add_le_add hx hy) (by decide), fun p hp => q p _ hp (Evl.Ex.new hp) upd_same⟩
theorem w_setLK {k : Nat} (h : H a = some (.lst xs)) (e : i = (k : Int)) (hk : k < xs.length) (q : ∀ H1, Keep [a] H H1 → H1 a = some (.lst (xs.set k v)) → (∀ b, H1 b = none → H b = none) → R H1) : rSetL (.ref a) (.int i) v H R :=
  w_setL h e hk (q _ (fun b o hb hh => by rw [upd_ne (fun z => hb (by rw [z]; simp))]; exact hh) upd_same fun b hb => by
    by_cases z : b = a
    · rw [z, upd_same] at hb
      cases hb
    · rw [upd_ne z] at hb
      exact hb)
theorem w_appendK {y : V} (h : H a = some (.lst xs)) (hz : xs.length < 100000) (q : ∀ H1, Keep [a] H H1 → H1 a = some (.lst (xs ++ [y])) → (∀ b, H1 b = none → H b = none) → Q .non H1) : rAppend (.ref a) [y] H Q :=
  w_append h hz (q _ (fun b o hb hh => by rw [upd_ne (fun z => hb (by rw [z]; simp))]; exact hh) upd_same fun b hb => by
    by_cases z : b = a
    · rw [z, upd_same] at hb
      cases hb
    · rw [upd_ne z] at hb
      exact hb)
/-- a change of what is new -/
theorem ex_keep {H0 H1 : Hp} {F : List Addr} (e : Ex H0 H) (k : Keep F H H1) (n : New F H0) : Ex H0 H1 := Keep.ex e k n
theorem new1 (h : H a = none) : New [a] H := fun b hb => by rw [List.mem_singleton.mp hb]; exact h
end
/-! ### what a law knows of each kind -/
structure MI (P : Program) (w : World) (K : PySem.W.Frag) (mg : Str → Option Value) (base : Heap) (k : Nat) (Z : Zs) (M : Mdl) : Prop where
  mo : MdlOk M
  is : IsF K M.C
  kit : PySem.W.kitOne K (.ref M.C) (.ref Z.model) = some true
  nm : NoAttr K M.C "many"
  counts : Met P w K mg base k M.C "counts" (sp_counts M) []
  see : Met P w K mg base k M.C "see" (sp_see M) []
  fresh : Met P w K mg base k M.C "fresh" (sp_fresh M) []
theorem Met.up {P : Program} {w : World} {K : PySem.W.Frag} {mg : Str → Option Value} {base : Heap} {C : Addr} {m : Str} {j k : Nat} {sp : Sp} {dvs : List V} (M : Met P w K mg base j C m sp dvs) (h : j ≤ k) : Met P w K mg base k C m sp dvs := by
  obtain ⟨f, fd, ps, ds, c, me, F, b, d⟩ := M.ex
  exact ⟨f, fd, ps, ds, c, me, F.mono h, b, d⟩
end Np

set_option Elab.async false
set_option linter.all false
set_option maxRecDepth 100000
set_option maxHeartbeats 4000000
/-! Followers; rows pressed and read by models. -/
namespace Np
open PySem PySem.Spec PyProof.Rows L2
open Evl (Ex)
def flat (ls : List (Addr × Addr)) : List Addr := ls.flatMap fun x => [x.1, x.2]
theorem mem_flat {ls : List (Addr × Addr)} {b : Addr} : b ∈ flat ls ↔ ∃ x ∈ ls, b = x.1 ∨ b = x.2 := by
  unfold flat
  rw [List.mem_flatMap]
  constructor
  · rintro ⟨x, hx, hb⟩
    refine ⟨x, hx, ?_⟩
    simpa using hb
  · rintro ⟨x, hx, hb⟩
    exact ⟨x, hx, by simpa using hb⟩
structure FoIs (Z : Zs) (many step : Int) (H : Hp) (p : Addr) (s : List (List Int) × Int) (F : List Addr) (dx q : Addr) (ls : List (Addr × Addr)) : Prop where
  m0 : 1 ≤ many
  m1 : many ≤ 100
  s0 : 1 ≤ step
  s1 : step ≤ 9
  hp : H p = some (.ins Z.follower dx (fsFollower many step q s.2))
  hq : H q = some (.lst (ls.map fun x => V.ref x.1))
  ll : (ls.length : Int) = many + 1
  tl : s.1.length = ls.length
  a0 : 0 ≤ s.2
  a1 : s.2 ≤ many
  lr : ∀ (i : Nat) (x : Addr × Addr) (t : List Int), ls[i]? = some x → s.1[i]? = some t → LOk many step t ∧ (∃ dy, H x.1 = some (.ins Z.learner dy (fsLearner many step x.2))) ∧ H x.2 = some (.lst (iL t))
  d1 : ∀ (i j : Nat) (x y : Addr × Addr), ls[i]? = some x → ls[j]? = some y → i ≠ j → x.1 ≠ y.1 ∧ x.2 ≠ y.2
  fe : F = p :: q :: flat ls
def FoAt (Z : Zs) (many step : Int) (H : Hp) (p : Addr) (s : List (List Int) × Int) (F : List Addr) : Prop := ∃ dx q ls, FoIs Z many step H p s F dx q ls
section
variable {Z : Zs} {many step : Int} {H H' : Hp} {p dx q : Addr} {s : List (List Int) × Int} {F : List Addr} {ls : List (Addr × Addr)}
theorem FoIs.at_ (f : FoIs Z many step H p s F dx q ls) {i : Nat} (h : i < ls.length) : ∃ x t, ls[i]? = some x ∧ s.1[i]? = some t := ⟨ls[i], s.1[i]'(by rw [f.tl]; exact h), List.getElem?_eq_getElem h, List.getElem?_eq_getElem _⟩
theorem FoIs.ok (f : FoIs Z many step H p s F dx q ls) : ∀ t ∈ s.1, LOk many step t := fun t ht => by
  obtain ⟨i, hi, e⟩ := List.getElem_of_mem ht
  obtain ⟨x, t', e1, e2⟩ := f.at_ (i := i) (by rw [← f.tl]; exact hi)
  have e3 : s.1[i]? = some t := by rw [List.getElem?_eq_getElem hi, e]
  exact (f.lr i x t e1 e3).1
theorem FoIs.frame (f : FoIs Z many step H p s F dx q ls) (k : ∀ b ∈ F, ∀ o, H b = some o → H' b = some o) : FoIs Z many step H' p s F dx q ls :=
  { f with
    hp := k p (by rw [f.fe]; simp) _ f.hp
    hq := k q (by rw [f.fe]; simp) _ f.hq
    lr := fun i x t h1 h2 => by
      obtain ⟨a, ⟨dy, b⟩, c⟩ := f.lr i x t h1 h2
      have hx := List.mem_of_getElem? h1
      exact ⟨a, ⟨dy, k _ (by rw [f.fe]; exact List.mem_cons_of_mem _ (List.mem_cons_of_mem _ (mem_flat.mpr ⟨x, hx, .inl rfl⟩))) _ b⟩, k _ (by rw [f.fe]; exact List.mem_cons_of_mem _ (List.mem_cons_of_mem _ (mem_flat.mpr ⟨x, hx, .inr rfl⟩))) _ c⟩ }
theorem FoIs.own (f : FoIs Z many step H p s F dx q ls) : Own F H := fun b hb => by
  rw [f.fe] at hb
  rcases List.mem_cons.mp hb with rfl | hb
  · exact ⟨_, f.hp⟩
  rcases List.mem_cons.mp hb with rfl | hb
  · exact ⟨_, f.hq⟩
  obtain ⟨x, hx, hb⟩ := mem_flat.mp hb
  obtain ⟨i, hi, e⟩ := List.getElem_of_mem hx
  obtain ⟨x', t, e1, e2⟩ := f.at_ hi
  have e3 : x' = x := by rw [List.getElem?_eq_getElem hi, e] at e1; exact (Option.some.inj e1).symm
  subst e3
  obtain ⟨_, ⟨dy, b1⟩, b2⟩ := f.lr i x' t e1 e2
  rcases hb with rfl | rfl
  · exact ⟨_, b1⟩
  · exact ⟨_, b2⟩
/-- the learner at turn has seen n, then the place is stored -/
theorem FoIs.see {H1 H2 : Hp} {F1 : List Addr} {x : Addr × Addr} {t : List Int} {n : Int} (f : FoIs Z many step H p s F dx q ls) (hx : ls[s.2.toNat]? = some x) (ht : s.1[s.2.toNat]? = some t) (n0 : 0 ≤ n) (n1 : n < many)
    (r : LrAt Z many step H1 x.1 (seeL step t n) F1) (k1 : Keep [x.1, x.2] H H1) (g1 : Grow [x.1, x.2] F1 H) (k2 : Keep [p] H1 H2) (h2 : H2 p = some (.ins Z.follower dx (fsFollower many step q n))) :
    ∃ F', FoAt Z many step H2 p (s.1.set s.2.toNat (seeL step t n), n) F' ∧ Keep F H H2 ∧ Grow F F' H := by
  obtain ⟨ok, dy, l', b1, b2, eF⟩ := r
  obtain ⟨okt, ⟨dz, c1⟩, c2⟩ := f.lr _ x t hx ht
  have hxm := List.mem_of_getElem? hx
  have il : s.2.toNat < ls.length := (List.getElem?_eq_some_iff.mp hx).1
  have px : p ≠ x.1 := ne_of f.hp c1 (by
    intro z
    injection z with z1 z2 z3
    have := congrArg List.length z3
    simp [fsFollower, fsLearner] at this)
  have pl : p ≠ l' := fun z => by
    rcases g1 l' (by rw [eF]; simp) with h | h
    · rcases List.mem_cons.mp h with h | h
      · exact px (z.trans h)
      · have e := f.hp
        rw [z, List.mem_singleton.mp h, c2] at e
        cases e
    · have e := f.hp
      rw [z, h] at e
      cases e
  have qx1 : q ≠ x.1 := ne_of f.hq c1 (by intro z; cases z)
  have qx2 : q ≠ x.2 := ne_of f.hq c2 (by
    intro z
    injection z with z
    have l1 : 0 < ls.length := by omega
    obtain ⟨y, r', e⟩ : ∃ y r', ls = y :: r' := by
      cases hls : ls with
      | nil => rw [hls] at l1; cases l1
      | cons y r' => exact ⟨y, r', rfl⟩
    rw [e] at z
    cases t with
    | nil => cases z
    | cons c u => cases z)
  have hq1 : H1 q = some (.lst (ls.map fun x => V.ref x.1)) := k1 _ _ (by simp [qx1, qx2]) f.hq
  have qp : q ≠ p := ne_of f.hq f.hp (by intro z; cases z)
  have lfr : l' = x.2 ∨ H l' = none := by
    rcases g1 l' (by rw [eF]; simp) with h | h
    · rcases List.mem_cons.mp h with h | h
      · exact absurd h (ne_of b2 b1 (by intro z; cases z))
      · exact .inl (List.mem_singleton.mp h)
    · exact .inr h
  refine ⟨p :: q :: flat (ls.set s.2.toNat (x.1, l')), ⟨dx, q, ls.set s.2.toNat (x.1, l'), { f with hp := h2, hq := ?_, ll := ?_, tl := ?_, a0 := n0, a1 := by show n ≤ many; omega, lr := ?_, d1 := ?_, fe := rfl }⟩, ?_, ?_⟩
  · rw [k2 _ _ (by simp [qp]) hq1]
    congr 2
    refine List.ext_getElem? fun i => ?_
    rw [List.getElem?_map, List.getElem?_map, List.getElem?_set]
    by_cases hi : s.2.toNat = i
    · subst hi
      rw [if_pos rfl, if_pos il, hx]
      rfl
    · rw [if_neg hi]
  · rw [List.length_set]
    exact f.ll
  · show (s.1.set s.2.toNat (seeL step t n)).length = _
    rw [List.length_set, List.length_set]
    exact f.tl
  · intro i y u h1 h3
    have h3 : (s.1.set s.2.toNat (seeL step t n))[i]? = some u := h3
    rw [List.getElem?_set] at h1 h3
    by_cases hi : s.2.toNat = i
    · rw [if_pos hi, if_pos il] at h1
      rw [if_pos hi, if_pos (by rw [f.tl]; exact il)] at h3
      cases h1
      cases h3
      exact ⟨ok, ⟨dy, k2 _ _ (by simp [px.symm]) b1⟩, k2 _ _ (by simp [pl.symm]) b2⟩
    · rw [if_neg hi] at h1 h3
      obtain ⟨a, ⟨dw, b⟩, c⟩ := f.lr i y u h1 h3
      obtain ⟨n1, n2⟩ := f.d1 _ _ _ _ h1 hx (fun z => hi z.symm)
      have y1 : y.1 ≠ x.2 := ne_of b c2 (by intro z; cases z)
      have y2 : y.2 ≠ x.1 := ne_of c c1 (by intro z; cases z)
      have p1 : y.1 ≠ p := (ne_of f.hp b (by
        intro z
        injection z with z1 z2 z3
        have := congrArg List.length z3
        simp [fsFollower, fsLearner] at this)).symm
      have p2 : y.2 ≠ p := ne_of c f.hp (by intro z; cases z)
      exact ⟨a, ⟨dw, k2 _ _ (by simp [p1]) (k1 _ _ (by simp [n1, y1]) b)⟩, k2 _ _ (by simp [p2]) (k1 _ _ (by simp [n2, y2]) c)⟩
  · have key : ∀ i y, ls[i]? = some y → i ≠ s.2.toNat → y.1 ≠ x.1 ∧ y.2 ≠ l' := fun i y h1 hi => by
      obtain ⟨n1, n2⟩ := f.d1 _ _ _ _ h1 hx hi
      refine ⟨n1, fun z => ?_⟩
      rcases lfr with h | h
      · exact n2 (z.trans h)
      · obtain ⟨t', e⟩ : ∃ t', s.1[i]? = some t' := ⟨s.1[i]'(by rw [f.tl]; exact (List.getElem?_eq_some_iff.mp h1).1), List.getElem?_eq_getElem _⟩
        obtain ⟨_, _, c⟩ := f.lr i y t' h1 e
        rw [z, h] at c
        cases c
    intro i j y z h1 h3 hij
    rw [List.getElem?_set] at h1 h3
    by_cases hi : s.2.toNat = i
    · rw [if_pos hi, if_pos il] at h1
      rw [if_neg (fun w => hij (hi.symm.trans w))] at h3
      cases h1
      obtain ⟨a, b⟩ := key j z h3 (fun w => hij (hi.symm.trans w.symm))
      exact ⟨a.symm, b.symm⟩
    · rw [if_neg hi] at h1
      by_cases hj : s.2.toNat = j
      · rw [if_pos hj, if_pos il] at h3
        cases h3
        exact key i y h1 (fun w => hi w.symm)
      · rw [if_neg hj] at h3
        exact f.d1 i j y z h1 h3 hij
  · rw [f.fe]
    refine Keep.trans (k1.mono fun b hb => ?_) (k2.mono fun b hb => ?_)
    · refine List.mem_cons_of_mem _ (List.mem_cons_of_mem _ (mem_flat.mpr ⟨x, hxm, ?_⟩))
      simpa using hb
    · rw [List.mem_singleton.mp hb]
      simp
  · intro b hb
    rw [f.fe]
    rcases List.mem_cons.mp hb with rfl | hb
    · exact .inl (by simp)
    rcases List.mem_cons.mp hb with rfl | hb
    · exact .inl (by simp)
    obtain ⟨y, hy, hb⟩ := mem_flat.mp hb
    rcases List.mem_or_eq_of_mem_set hy with hy | rfl
    · exact .inl (List.mem_cons_of_mem _ (List.mem_cons_of_mem _ (mem_flat.mpr ⟨y, hy, hb⟩)))
    · rcases hb with rfl | rfl
      · exact .inl (List.mem_cons_of_mem _ (List.mem_cons_of_mem _ (mem_flat.mpr ⟨x, hxm, .inl rfl⟩)))
      · rcases lfr with h | h
        · exact .inl (List.mem_cons_of_mem _ (List.mem_cons_of_mem _ (mem_flat.mpr ⟨x, hxm, .inr h⟩)))
        · exact .inr h
end
def seeF (step : Int) (s : List (List Int) × Int) (n : Int) : List (List Int) × Int := (s.1.set s.2.toNat (seeL step (s.1.getD s.2.toNat []) n), n)
structure FOk (many step : Int) (s : List (List Int) × Int) : Prop where
  len : (s.1.length : Int) = many + 1
  a0 : 0 ≤ s.2
  a1 : s.2 ≤ many
  all : ∀ t ∈ s.1, LOk many step t
theorem FOk.at_ {many step : Int} {s : List (List Int) × Int} (o : FOk many step s) : s.1[s.2.toNat]? = some (s.1.getD s.2.toNat []) ∧ LOk many step (s.1.getD s.2.toNat []) := by
  have h : s.2.toNat < s.1.length := by have := o.len; have := o.a0; have := o.a1; omega
  have e : s.1.getD s.2.toNat [] = s.1[s.2.toNat] := by rw [List.getD_eq_getElem?_getD, List.getElem?_eq_getElem h]; rfl
  rw [e]
  exact ⟨List.getElem?_eq_getElem h, o.all _ (List.getElem_mem h)⟩
theorem FOk.see {many step : Int} {s : List (List Int) × Int} (o : FOk many step s) {n : Int} (n0 : 0 ≤ n) (n1 : n < many) : FOk many step (seeF step s n) := by
  refine ⟨?_, n0, by show n ≤ many; omega, fun t ht => ?_⟩
  · show ((s.1.set _ _).length : Int) = _
    rw [List.length_set]
    exact o.len
  · rcases List.mem_or_eq_of_mem_set ht with ht | rfl
    · exact o.all t ht
    · exact o.at_.2.see n0 n1
theorem FoIs.fok {Z : Zs} {many step : Int} {H : Hp} {p dx q : Addr} {s : List (List Int) × Int} {F : List Addr} {ls : List (Addr × Addr)} (f : FoIs Z many step H p s F dx q ls) : FOk many step s := ⟨by rw [f.tl]; exact f.ll, f.a0, f.a1, f.ok⟩
def followerM (Z : Zs) (many step : Int) : Mdl where
  C := Z.follower
  many := many
  S := List (List Int) × Int
  init := (List.replicate (many + 1).toNat (List.replicate many.toNat 1), many)
  counts := fun s => s.1.getD s.2.toNat []
  see := seeF step
  ok := FOk many step
  rep := FoAt Z many step
theorem FOk.init {many step : Int} (m0 : 1 ≤ many) (m1 : many ≤ 100) (s0 : 1 ≤ step) (s1 : step ≤ 9) : FOk many step (List.replicate (many + 1).toNat (List.replicate many.toNat 1), many) :=
  ⟨by rw [List.length_replicate]; omega, by show 0 ≤ many; omega, Int.le_refl _, fun t ht => by rw [(List.mem_replicate.mp ht).2]; exact LOk.init m0 m1 s0 s1⟩
theorem followerOk {Z : Zs} {many step : Int} (m0 : 1 ≤ many) (m1 : many ≤ 100) (s0 : 1 ≤ step) (s1 : step ≤ 9) : MdlOk (followerM Z many step) where
  okI := FOk.init m0 m1 s0 s1
  okS := fun _ _ h h0 h1 => h.see h0 h1
  good := fun _ h => h.at_.2.good
  len := fun _ h => h.at_.2.len
  ok := fun _ _ _ _ ⟨_, _, _, f⟩ => f.fok
  frame := fun _ _ _ _ _ ⟨dx, q, ls, f⟩ k => ⟨dx, q, ls, f.frame k⟩
  own := fun _ _ _ _ ⟨_, _, _, f⟩ => f.own
  ins := fun H p s F ⟨dx, q, ls, f⟩ => ⟨dx, _, f.hp, lookFollower_many, noFollower (by decide +kernel), noFollower (by decide +kernel), noFollower (by decide +kernel)⟩
/-! ### rows pressed, rows read: plain -/
section
variable (M : Mdl)
/-- each sign of the row can be laid when it comes -/
def Valid : M.S → List Int → Prop
  | _, [] => True
  | s, x :: r => Sign (M.counts s) x ∧ Valid (M.see s x) r
def pressed : M.S → List Int → Int → Int
  | _, [], p => p
  | s, x :: r, p => put (pressed (M.see s x) r p) (M.counts s) x
def readS (s : M.S) (p : Int) : Nat → M.S × Int
  | 0 => (s, p)
  | i + 1 => (M.see (readS s p i).1 (offS (readS s p i).2 (M.counts (readS s p i).1)), offP (readS s p i).2 (M.counts (readS s p i).1))
def readX (s : M.S) (p : Int) (i : Nat) : Int := offS (readS M s p i).2 (M.counts (readS M s p i).1)
def readRow (s : M.S) (p : Int) (n : Nat) : List Int := (List.range n).map (readX M s p)
end
section
variable {M : Mdl}
theorem readRow_len (s : M.S) (p : Int) (n : Nat) : (readRow M s p n).length = n := by simp [readRow]
theorem readRow_succ (s : M.S) (p : Int) (n : Nat) : readRow M s p (n + 1) = readRow M s p n ++ [readX M s p n] := by
  unfold readRow
  rw [List.range_succ, List.map_append]
  rfl
theorem readS_shift (s : M.S) (p : Int) : ∀ i, readS M s p (i + 1) = readS M (readS M s p 1).1 (readS M s p 1).2 i
  | 0 => rfl
  | i + 1 => by
    have ih := readS_shift s p i
    show (M.see (readS M s p (i + 1)).1 _, _) = (M.see (readS M _ _ i).1 _, _)
    rw [ih]
theorem readRow_cons (s : M.S) (p : Int) (n : Nat) : readRow M s p (n + 1) = readX M s p 0 :: readRow M (readS M s p 1).1 (readS M s p 1).2 n := by
  unfold readRow
  rw [List.range_succ_eq_map, List.map_cons, List.map_map]
  congr 1
  refine List.map_congr_left fun i _ => ?_
  show offS (readS M s p (i + 1)).2 _ = offS (readS M _ _ i).2 _
  rw [readS_shift]
theorem ok_sign (o : MdlOk M) {s : M.S} (h : M.ok s) {x : Int} (hx : Sign (M.counts s) x) : M.ok (M.see s x) := o.okS s x h hx.nn (by have := hx.lt; have := o.len s h; omega)
theorem readS_ok (o : MdlOk M) {s : M.S} {p : Int} (h : M.ok s) : ∀ i, M.ok (readS M s p i).1
  | 0 => h
  | i + 1 => ok_sign o (readS_ok o h i) (off_sign (o.good _ (readS_ok o h i)) _).1
theorem readS_nn (o : MdlOk M) {s : M.S} {p : Int} (h : M.ok s) (hp : 0 ≤ p) : ∀ i, 0 ≤ (readS M s p i).2
  | 0 => hp
  | i + 1 => offP_nn (o.good _ (readS_ok o h i)) (readS_nn o h hp i)
theorem pressed_nn (o : MdlOk M) {p : Int} (hp : 0 ≤ p) : ∀ {row : List Int} {s : M.S}, M.ok s → Valid M s row → 0 ≤ pressed M s row p
  | [], _, _, _ => hp
  | x :: r, s, h, ⟨hx, hr⟩ => put_nn (o.good s h) (pressed_nn o hp (ok_sign o h hx) hr) hx
/-- what was pressed is read -/
theorem read_pressed (o : MdlOk M) {p : Int} : ∀ {row : List Int} {s : M.S}, M.ok s → Valid M s row → readRow M s (pressed M s row p) row.length = row ∧ (readS M s (pressed M s row p) row.length).2 = p
  | [], _, _, _ => ⟨rfl, rfl⟩
  | x :: r, s, h, ⟨hx, hr⟩ => by
    obtain ⟨e1, e2⟩ := off_put (p := pressed M (M.see s x) r p) (o.good s h) hx
    have e3 : readX M s (pressed M s (x :: r) p) 0 = x := e1
    have e4 : readS M s (pressed M s (x :: r) p) 1 = (M.see s x, pressed M (M.see s x) r p) := by
      show (M.see s (offS (put (pressed M (M.see s x) r p) (M.counts s) x) (M.counts s)), offP (put (pressed M (M.see s x) r p) (M.counts s) x) (M.counts s)) = _
      rw [e1, e2]
    obtain ⟨i1, i2⟩ := read_pressed o (p := p) (ok_sign o h hx) hr
    refine ⟨?_, ?_⟩
    · rw [List.length_cons, readRow_cons, e3, e4]
      exact congrArg _ i1
    · rw [List.length_cons, readS_shift, e4]
      exact i2
/-- what is read can be pressed again -/
theorem pressed_read (o : MdlOk M) : ∀ (n : Nat) {s : M.S} {p : Int}, M.ok s → Valid M s (readRow M s p n) ∧ pressed M s (readRow M s p n) (readS M s p n).2 = p
  | 0, _, _, _ => ⟨trivial, rfl⟩
  | n + 1, s, p, h => by
    have x := off_sign (o.good s h) p
    obtain ⟨i1, i2⟩ := pressed_read o n (s := (readS M s p 1).1) (p := (readS M s p 1).2) (ok_sign o h x.1)
    rw [readRow_cons, readS_shift s p n]
    refine ⟨⟨x.1, i1⟩, ?_⟩
    show put (pressed M (readS M s p 1).1 _ _) _ _ = p
    rw [i2]
    exact put_off (o.good s h) p
/-- the state behind i signs, what was told then -/
def stAt (M : Mdl) (s : M.S) (row : List Int) (i : Nat) : M.S := (row.take i).foldl M.see s
theorem stAt_succ {s : M.S} {row : List Int} {i : Nat} {x : Int} (h : row[i]? = some x) : stAt M s row (i + 1) = M.see (stAt M s row i) x := by
  obtain ⟨hi, e⟩ := List.getElem?_eq_some_iff.mp h
  unfold stAt
  rw [List.take_succ_eq_append_getElem hi, e, List.foldl_append]
  rfl
theorem valid_at (o : MdlOk M) : ∀ {row : List Int} {s : M.S} {i : Nat} {x : Int}, M.ok s → Valid M s row → row[i]? = some x → M.ok (stAt M s row i) ∧ Sign (M.counts (stAt M s row i)) x
  | [], _, _, _, _, _, e => by simp at e
  | y :: r, s, 0, x, h, ⟨hy, _⟩, e => by
    have e : y = x := by simpa using e
    subst e
    exact ⟨h, hy⟩
  | y :: r, s, i + 1, x, h, ⟨hy, hr⟩, e => valid_at o (row := r) (s := M.see s y) (i := i) (ok_sign o h hy) hr (by simpa using e)
theorem pressed_drop {row : List Int} {s : M.S} {i : Nat} {x p : Int} (h : row[i]? = some x) : pressed M (stAt M s row i) (row.drop i) p = put (pressed M (stAt M s row (i + 1)) (row.drop (i + 1)) p) (M.counts (stAt M s row i)) x := by
  obtain ⟨hi, e⟩ := List.getElem?_eq_some_iff.mp h
  rw [List.drop_eq_getElem_cons hi, e, stAt_succ h]
  rfl
end
def wayM (Z : Zs) (way many step : Int) (cs : List Int) : Mdl := if way = 0 then plainM Z cs else if way = 1 then learnerM Z many step else followerM Z many step
theorem wayMany {Z : Zs} {way many step : Int} {cs : List Int} (h : (cs.length : Int) = many) : (wayM Z way many step cs).many = many := by
  unfold wayM
  split
  · exact h
  · split <;> rfl
theorem valid_of {M : Mdl} (o : MdlOk M) : ∀ {row : List Int} {s : M.S}, M.ok s → (∀ s, M.ok s → ∀ z ∈ row, Sign (M.counts s) z) → Valid M s row
  | [], _, _, _ => trivial
  | x :: r, s, hs, h => ⟨h s hs x List.mem_cons_self, valid_of o (ok_sign o hs (h s hs x List.mem_cons_self)) fun s hs z hz => h s hs z (List.mem_cons_of_mem _ hz)⟩
theorem LOk.sign {many step z : Int} {t : List Int} (o : LOk many step t) (h0 : 0 ≤ z) (h1 : z < many) : Sign t z :=
  have l := o.len
  ⟨h0, by omega, by have := o.lo _ (cnt_mem (ns := t) h0 (by omega)); omega⟩
theorem way0 {Z : Zs} {way many step : Int} {cs : List Int} (h : way = 0) : wayM Z way many step cs = plainM Z cs := if_pos h
theorem way1 {Z : Zs} {way many step : Int} {cs : List Int} (h : way = 1) : wayM Z way many step cs = learnerM Z many step := (if_neg (by omega)).trans (if_pos h)
theorem way2 {Z : Zs} {way many step : Int} {cs : List Int} (h : ¬ way = 0) (h1 : ¬ way = 1) : wayM Z way many step cs = followerM Z many step := (if_neg h).trans (if_neg h1)
theorem wayValid {Z : Zs} {way many step : Int} {cs row : List Int} (o : MdlOk (wayM Z way many step cs)) (h0 : way = 0 → ∀ z ∈ row, Sign cs z) (h1 : way ≠ 0 → ∀ z ∈ row, 0 ≤ z ∧ z < many) : Valid (wayM Z way many step cs) (wayM Z way many step cs).init row := by
  refine valid_of o o.okI ?_
  by_cases h : way = 0
  · rw [way0 h]
    exact fun _ _ z hz => h0 h z hz
  · by_cases h' : way = 1
    · rw [way1 h']
      exact fun s hs z hz => LOk.sign hs (h1 h z hz).1 (h1 h z hz).2
    · rw [way2 h h']
      exact fun s hs z hz => LOk.sign (FOk.at_ hs).2 (h1 h z hz).1 (h1 h z hz).2
def tallyAt (many step : Int) (row : List Int) (j : Nat) : List Int := (row.take j).foldl (seeL step) (List.replicate many.toNat 1)
def toldAt (way many step : Int) (cs row : List Int) (j : Nat) : List Int := if way = 0 then cs else tallyAt many step row j
theorem tally_succ {many step s : Int} {row : List Int} {i : Nat} (hn : row[i]? = some s) : tallyAt many step row (i + 1) = seeL step (tallyAt many step row i) s := by
  obtain ⟨h, e⟩ := List.getElem?_eq_some_iff.mp hn
  unfold tallyAt
  rw [List.take_succ_eq_append_getElem h, e, List.foldl_append]
  rfl
theorem tally_ok {many step : Int} {row : List Int} (m0 : 1 ≤ many) (m1 : many ≤ 100) (s0 : 1 ≤ step) (s1 : step ≤ 9) (hr : ∀ z ∈ row, 0 ≤ z ∧ z < many) : ∀ i, i ≤ row.length → LOk many step (tallyAt many step row i)
  | 0, _ => LOk.init m0 m1 s0 s1
  | i + 1, hi => by
    have h := hr _ (List.getElem_mem (l := row) (n := i) (by omega))
    rw [tally_succ (List.getElem?_eq_getElem (l := row) (i := i) (by omega))]
    exact (tally_ok m0 m1 s0 s1 hr i (by omega)).see h.1 h.2
theorem way_told {Z : Zs} {way many step : Int} {cs row : List Int} (h : way < 2) (h' : 0 ≤ way) (j : Nat) : (wayM Z way many step cs).counts (stAt (wayM Z way many step cs) (wayM Z way many step cs).init row j) = toldAt way many step cs row j := by
  by_cases e : way = 0
  · rw [way0 e]
    exact (if_pos e).symm
  · rw [way1 (show way = 1 by omega)]
    exact (if_neg e).symm
end Np

/-! Raise: exceptions of own classes: raised in a method, caught by a clause without a name. -/
namespace Np
open PySem PySem.Spec PyProof.Rows L2
/-- what the text says of an own exception class -/
structure ExcF (K : PySem.W.Frag) (mg : Str → Option Value) (n : Str) (C : Addr) : Prop where
  gP : mg n = some (.ref C)
  xP : PySem.W.excIn K C [.type "ValueError", .type "Exception", .type "BaseException", .type "object"] "ValueError.__new__" = true
  kP : PySem.W.keepIn K (.ref C) = true
  bP : PySem.W.subIn K (.ref C) (.type "BaseException") = some true
  tP : PySem.W.typeIn K (.ref C) = some (.type "type")
  iP : PySem.W.isClsIn K C = true
  sP : PySem.W.subIn K (.ref C) (.ref C) = some true
theorem ExcF.te {K : PySem.W.Frag} {mg : Str → Option Value} {n : Str} {C : Addr} (x : ExcF K mg n C) : PySem.W.exmOne K (.ref C) (.ref C) = some true := by
  have e1 : (PySem.W.subIn K (.ref C) (.type "BaseException") == some true) = true := by rw [x.bP] <;> rfl
  have e2 : ((PySem.W.clsIn K C).isSome && PySem.W.typeIn K (.ref C) == some (.type "type")) = true := by
    have h2' : (PySem.W.clsIn K C).isSome = true := x.iP
    rw [h2', x.tP] <;> rfl
  show (if (PySem.W.subIn K (.ref C) (.type "BaseException") == some true) = true then (if ((PySem.W.clsIn K C).isSome && PySem.W.typeIn K (.ref C) == some (.type "type")) = true then PySem.W.subIn K (.ref C) (.ref C) else none) else none) = some true
  rw [if_pos e1, if_pos e2]
  exact x.sP
/-- a method that may raise -/
structure MetX (P : Program) (w : World) (K : PySem.W.Frag) (mg : Str → Option Value) (base : Heap) (k : Nat) (C : Addr) (m : Str) (sp : Sp) : Prop where
  ex : ∃ (f : Addr) (fd : FuncData) (ps : List Str), Cls K C ∧ Meth K C m f ∧ FnOk P w K mg base (L2.CX P w) k f fd ps sp ∧ Binds K fd ps []
def tMethX (C : Addr) (m : Str) (sp : Sp) (W : WX) (ta : TE) (t : TA) : TE := fun σ H Q => ta σ H fun x H1 => ∃ a dx fs, x = .ref a ∧ H1 a = some (.ins C dx fs) ∧ fs.lookup m = none ∧ t σ H1 fun vs H2 => sp (x :: vs) H2 Q (WE W σ)
section
variable {X : Cx} {k j : Nat} {C : Addr} {x m : Str} {sp : Sp} {W : WX} {p pos apos : Pos} {e o : Expr} {es : List Expr} {ta : TE} {t : TA}
theorem pe_mtX {pl : Sem Bool} (c : MetX X.prog X.w X.K X.mg X.base k C m sp) (hr : Room j X.A) (hk : k ≤ j) (tk : Takes X W) (he : PE X o ta) (ha : PA X (e :: es) t)
    (hst : starEach (e :: es) X.env = (false, eval e X.env) :: starEach es X.env := by rfl) (hpl : (backTo pos (starEach es X.env)).any (·.1) = false := by rfl)
    (ht : eval (.Call (.Attribute o m apos) (e :: es) [] pos) X.env = (do
      let ov ← eval o X.env
      standAt apos.atName
      let (f, first) ← holding [ov] (getMethod ov m pl)
      callWith pos f first (backTo pos (starEach (e :: es) X.env)) (backToKw pos (keywordEach [] X.env))) := by rfl) :
    PE X (.Call (.Attribute o m apos) (e :: es) [] pos) (tMethX C m sp W ta t) := by
  obtain ⟨f, fd, ps, hc, hm, F, hb⟩ := c.ex
  refine ⟨fun pins s σ H Q I h => ?_⟩
  refine PySem.W.methodCall_KW (pl := pl) (thn (he.run pins s σ H _ I h) fun u s1 ⟨x, H1, I1, rx, a, dx, fs, ex, ea, l, q⟩ => ?_) ht
  subst ex
  obtain rfl : u = Value.ref a := rx
  refine getmeth_ok I1 ea hc hm l ?_
  refine PySem.W.callWith_K (first := [.ref a]) (h₀ := X.base) I.ok.mod.kin hm.kp (thn (ha.run pos pins s1 σ H1 _ I1 q) fun us s2 ⟨vs, H2, I2, r, q2⟩ => ⟨I2.kIn, ?_⟩) hst hpl
  exact run_fnS (E := WE W) (us := .ref a :: us) (vs := .ref a :: vs) F (hr.mono hk) hb (passAt tk σ) I2 (.cons rfl r) q2
theorem pe_mtX0 {pl : Sem Bool} (c : MetX X.prog X.w X.K X.mg X.base k C m sp) (hr : Room j X.A) (hk : k ≤ j) (tk : Takes X W) (he : PE X o ta)
    (ht : eval (.Call (.Attribute o m apos) [] [] pos) X.env = (do
      let ov ← eval o X.env
      standAt apos.atName
      let (f, first) ← holding [ov] (getMethod ov m pl)
      callWith pos f first (backTo pos (starEach [] X.env)) (backToKw pos (keywordEach [] X.env))) := by rfl) :
    PE X (.Call (.Attribute o m apos) [] [] pos) (tMethX C m sp W ta tNil) := by
  obtain ⟨f, fd, ps, hc, hm, F, hb⟩ := c.ex
  refine ⟨fun pins s σ H Q I h => ?_⟩
  refine PySem.W.methodCall_KW (pl := pl) (thn (he.run pins s σ H _ I h) fun u s1 ⟨x, H1, I1, rx, a, dx, fs, ex, ea, l, q⟩ => ?_) ht
  subst ex
  obtain rfl : u = Value.ref a := rx
  refine getmeth_ok I1 ea hc hm l ?_
  exact PySem.W.callWith_K0 (first := [.ref a]) I1.kIn hm.kp (run_fnS (E := WE W) (us := [.ref a]) (vs := [.ref a]) F (hr.mono hk) hb (passAt tk σ) I1 (.cons rfl .nil) q)
/-- .. called where it lets nothing out -/
theorem pe_mtL {pl : Sem Bool} (c : MetX X.prog X.w X.K X.mg X.base k C m sp) (hr : Room j X.A) (hk : k ≤ j) (he : PE X o ta) (ha : PA X (e :: es) t)
    (hst : starEach (e :: es) X.env = (false, eval e X.env) :: starEach es X.env := by rfl) (hpl : (backTo pos (starEach es X.env)).any (·.1) = false := by rfl)
    (ht : eval (.Call (.Attribute o m apos) (e :: es) [] pos) X.env = (do
      let ov ← eval o X.env
      standAt apos.atName
      let (f, first) ← holding [ov] (getMethod ov m pl)
      callWith pos f first (backTo pos (starEach (e :: es) X.env)) (backToKw pos (keywordEach [] X.env))) := by rfl) :
    PE X (.Call (.Attribute o m apos) (e :: es) [] pos) (tMeth C m sp [] C8.E0 ta t) := by
  obtain ⟨f, fd, ps, hc, hm, F, hb⟩ := c.ex
  exact pe_meth (pl := pl) he hc hm F (hr.mono hk) hb .nil passL ha hst hpl ht
theorem pe_mtL0 {pl : Sem Bool} (c : MetX X.prog X.w X.K X.mg X.base k C m sp) (hr : Room j X.A) (hk : k ≤ j) (he : PE X o ta)
    (ht : eval (.Call (.Attribute o m apos) [] [] pos) X.env = (do
      let ov ← eval o X.env
      standAt apos.atName
      let (f, first) ← holding [ov] (getMethod ov m pl)
      callWith pos f first (backTo pos (starEach [] X.env)) (backToKw pos (keywordEach [] X.env))) := by rfl) :
    PE X (.Call (.Attribute o m apos) [] [] pos) (tMeth C m sp [] C8.E0 ta tNil) := by
  obtain ⟨f, fd, ps, hc, hm, F, hb⟩ := c.ex
  exact pe_meth0 (pl := pl) he hc hm F (hr.mono hk) hb .nil passL ht
end
section
variable {K : PySem.W.Frag} {σ : L2.St} {H : Hp} {D : Ends} {Q : VK} {C a dx : Addr} {m : Str} {sp : Sp} {W : WX} {ta : TE} {t : TA} {fs : List (Str × V)}
def kMethX (C : Addr) (m : Str) (sp : Sp) (W : WX) (t : TA) (σ : L2.St) (Q : VK) : VK := fun x H1 => ∃ a dx fs, x = .ref a ∧ H1 a = some (.ins C dx fs) ∧ fs.lookup m = none ∧ t σ H1 fun vs H2 => sp (x :: vs) H2 Q (WE W σ)
theorem w_methX (q : ta σ H (kMethX C m sp W t σ Q)) : tMethX C m sp W ta t σ H Q := q
theorem w_kMethX (h : H a = some (.ins C dx fs)) (n : fs.lookup m = none) (q : t σ H fun vs H2 => sp (.ref a :: vs) H2 Q (WE W σ)) : kMethX C m sp W t σ Q (.ref a) H := ⟨a, dx, fs, rfl, h, n, q⟩
/-- raise X('..') -/
def tRaise (C : Addr) (W : WX) : TS := fun _ σ H => W (.ref C) none σ H
theorem w_raise (q : W (.ref C) none σ H) : tRaise C W D σ H := q
/-- try: .. except X: .. -/
def tTry (K : PySem.W.Frag) (c : Value) (ts : Addr → Value → Option Addr → TS) (tb : WX → TS) : TS := fun D σ H => tb (wOnly K c ts (fun _ _ _ _ => False) D) D σ H
theorem w_try {c : Value} {ts : Addr → Value → Option Addr → TS} {tb : WX → TS} (q : tb (wOnly K c ts (fun _ _ _ _ => False) D) D σ H) : tTry K c ts tb D σ H := q
theorem w_caught {cls c : Value} {d : Option Addr} {ts : Addr → Value → Option Addr → TS} {Wout : WX} (h : PySem.W.exmOne K cls c = some true) (q : ∀ a, H a = none → ts a cls d D σ H) : wOnly K c ts Wout D cls d σ H :=
  ⟨true, h, fun _ => q, fun z => nomatch z⟩
end
section
variable {X : Cx} {K : PySem.W.Frag} {x : Str} {body suite : List Stmt} {b₀ : Stmt} {np pos pos' : Pos} {tb : WX → TS} {ts : Addr → Value → Option Addr → TS} {C : Addr}
theorem ps_tryO (eK : X.K = K) (hs : X.stack = X.env :: X.outer) (hf : X.env.frame = some X.env.locals) (hg : Gl X x) (hd : (x == ("__debug__" : Str)) = false) (T : ExcF K X.mg x C)
    (hb : ∀ (W : WX) (pn : List (Addr × Obj)) (xe : Value → Shared → Prop), Takes (X.tr pn xe) W → PassesOwn (model X.prog X.w) X.A X.env xe → PSs (X.tr pn xe) body (tb W))
    (hsu : ∀ (a : Addr) (oe : Obj) (cls : Value) (d : Option Addr) (pn : List (Addr × Obj)), Zc cls d oe → (∃ vs, oe.data = .fields vs) → PSs (X.suite a ((a, oe) :: pn)) (b₀ :: suite) (ts a cls d)) :
    PS X (.Try body [.ExceptHandler (some (.Name x np)) none (b₀ :: suite) pos'] [] [] pos) (tTry K (.ref C) ts tb) := by
  subst eK
  exact ps_try_only hs hf ⟨hg, hd, .inl T.gP⟩ takes0 hb hsu
theorem ps_raiseO {mm : Str} {j : Nat} {p p2 pos2 : Pos} {W : WX} (hc : X.calm = true) (tk : Takes X W) (T : ExcF X.K X.mg x C) (hg : Gl X x) (hd : (x == ("__debug__" : Str)) = false) :
    PS X (.Raise (some (.Call (.Name x p) [.Constant (.str mm) j p2] [] pos)) none pos2) (tRaise C W) :=
  ps_raise hc tk (pmk_own PySem.F.excBase_ValueError T.xP T.gP T.kP (raises_own T.bP T.tP) hg hd)
end
end Np

/-! Stream: a number within bounds, out of which words flow. -/
namespace Np
open PySem PySem.Spec PyProof.Rows L2
theorem div_less {n b : Int} (h : 2 ≤ b) (h1 : 1 ≤ n) : 0 ≤ n / b ∧ n / b < n := by
  have h0 : 0 ≤ n / b := Int.ediv_nonneg (by omega) (by omega)
  refine ⟨h0, ?_⟩
  have e := div_back n b
  have m := Int.emod_nonneg n (show b ≠ 0 by omega)
  have : 2 * (n / b) ≤ n / b * b := by
    rw [Int.mul_comm (n / b) b]
    exact Int.mul_le_mul_of_nonneg_right h h0
  omega
/-- words flow out, as long as the number is not below lim -/
def flowOut (lim base n : Int) (w : List Int) : Int × List Int :=
  if h : 2 ≤ base ∧ 1 ≤ lim ∧ lim ≤ n then flowOut lim base (n / base) (w ++ [n % base]) else (n, w)
termination_by n.toNat
decreasing_by
  have := div_less (n := n) h.1 (by omega)
  omega
theorem flowOut_go {lim base n : Int} {w : List Int} (h1 : 2 ≤ base) (h2 : 1 ≤ lim) (h : lim ≤ n) : flowOut lim base n w = flowOut lim base (n / base) (w ++ [n % base]) := by
  rw [flowOut, dif_pos ⟨h1, h2, h⟩]
theorem flowOut_end {lim base n : Int} {w : List Int} (h : n < lim) : flowOut lim base n w = (n, w) := by
  rw [flowOut, dif_neg (by omega)]
/-- words flow back, the last first, as long as the number is below low; w: the words turned round -/
def flowR (low base : Int) : Int → List Int → Option (Int × List Int)
  | n, [] => if low ≤ n then some (n, []) else none
  | n, x :: r => if low ≤ n then some (n, x :: r) else flowR low base (n * base + x) r
def flowIn (low base n : Int) (w : List Int) : Option (Int × List Int) := (flowR low base n w.reverse).map fun x => (x.1, x.2.reverse)
theorem flowIn_end {low base n : Int} {w : List Int} (h : low ≤ n) : flowIn low base n w = some (n, w) := by
  unfold flowIn
  cases e : w.reverse with
  | nil =>
    have : w = [] := by simpa using e
    subst this
    simp [flowR, h]
  | cons x r =>
    have : w = r.reverse ++ [x] := by
      have := congrArg List.reverse e
      simpa using this
    subst this
    simp [flowR, h]
theorem flowIn_go {low base n x : Int} {v : List Int} (h : n < low) : flowIn low base n (v ++ [x]) = flowIn low base (n * base + x) v := by
  unfold flowIn
  have e : (v ++ [x]).reverse = x :: v.reverse := by simp
  rw [e]
  show Option.map _ (if low ≤ n then _ else _) = _
  rw [if_neg (by omega)]
theorem flowIn_none {low base n : Int} (h : n < low) : flowIn low base n [] = none := by
  show Option.map _ (if low ≤ n then some (n, ([] : List Int)) else none) = none
  rw [if_neg (by omega)]
  rfl
/-- what stream and words may be -/
structure StOk (cs : List Int) (base grain : Int) (st : Int × List Int) : Prop where
  g : Good cs
  b0 : 2 ≤ base
  b1 : base ≤ 1000
  g0 : 1 ≤ grain
  g1 : grain ≤ 100
  lo : grain * cs.sum ≤ st.1
  hi : st.1 < grain * cs.sum * base
  ws : ∀ x ∈ st.2, 0 ≤ x ∧ x < base
def streamed (cs : List Int) (base grain : Int) (st : Int × List Int) (s : Int) : Int × List Int :=
  (put (flowOut (grain * base * cnt cs s) base st.1 st.2).1 cs s, (flowOut (grain * base * cnt cs s) base st.1 st.2).2)
def flowed (cs : List Int) (base grain : Int) (st : Int × List Int) : Option (Int × List Int) := flowIn (grain * cs.sum) base (offP st.1 cs) st.2
/-- what law_k11 keeps of a taking: the sign, or -1, and the state -/
def flowedC (cs : List Int) (base grain : Int) (st : Int × List Int) : Int × (Int × List Int) := match flowed cs base grain st with
  | none => (-1, st)
  | some r => (offS st.1 cs, r)
theorem flowedC_none {cs : List Int} {base grain : Int} {st : Int × List Int} (h : flowed cs base grain st = none) : flowedC cs base grain st = (-1, st) := by
  unfold flowedC
  rw [h]
theorem flowedC_some {cs : List Int} {base grain : Int} {st r : Int × List Int} (h : flowed cs base grain st = some r) : flowedC cs base grain st = (offS st.1 cs, r) := by
  unfold flowedC
  rw [h]
theorem mul_mono {a b c : Int} (h : a ≤ b) (h0 : 0 ≤ c) : a * c ≤ b * c := Int.mul_le_mul_of_nonneg_right h h0
section
variable {cs : List Int} {base grain s : Int} {st : Int × List Int}
/-- the number stays at grain * count at least while words flow out -/
theorem out_ok (b0 : 2 ≤ base) {c : Int} (c1 : 1 ≤ c) (g0 : 1 ≤ grain) : ∀ (k : Nat) (n : Int) (w : List Int), n.toNat ≤ k → grain * c ≤ n → n < 2 ^ 40 → (∀ x ∈ w, 0 ≤ x ∧ x < base) →
    let r := flowOut (grain * base * c) base n w
    grain * c ≤ r.1 ∧ r.1 < grain * base * c ∧ (∀ x ∈ r.2, 0 ≤ x ∧ x < base)
  | 0, n, w, hk, h1, _, hw => by
    have : 1 * 1 ≤ grain * c := Int.mul_le_mul g0 c1 (by omega) (by omega)
    omega
  | k + 1, n, w, hk, h1, h2, hw => by
    have gc : 1 * 1 ≤ grain * c := Int.mul_le_mul g0 c1 (by omega) (by omega)
    have e : grain * base * c = grain * c * base := by rw [Int.mul_assoc, Int.mul_comm base c, ← Int.mul_assoc]
    have l1 : 1 ≤ grain * base * c := by
      rw [e]
      have := Int.mul_le_mul gc b0 (by omega) (by omega)
      omega
    by_cases h : grain * base * c ≤ n
    · rw [flowOut_go b0 l1 h]
      have d := div_less (n := n) b0 (by omega)
      refine out_ok b0 c1 g0 k (n / base) _ (by omega) ?_ (by omega) ?_
      · rw [e] at h
        exact Int.le_ediv_of_mul_le (by omega) h
      · intro x hx
        rcases List.mem_append.mp hx with hx | hx
        · exact hw x hx
        · rw [List.mem_singleton.mp hx]
          exact ⟨Int.emod_nonneg _ (by omega), Int.emod_lt_of_pos _ (by omega)⟩
    · rw [flowOut_end (by omega)]
      exact ⟨h1, by omega, hw⟩
theorem out_len (b0 : 2 ≤ base) {lim : Int} (l1 : 1 ≤ lim) : ∀ (k : Nat) (n : Int) (w : List Int), n < 2 ^ k → (flowOut lim base n w).2.length ≤ w.length + k
  | 0, n, w, h => by
    rw [flowOut_end (by simp at h; omega)]
    exact Nat.le_refl _
  | k + 1, n, w, h => by
    by_cases hl : lim ≤ n
    · rw [flowOut_go b0 l1 hl]
      have e := div_back n base
      have m := Int.emod_nonneg n (show base ≠ 0 by omega)
      have d := div_less (n := n) b0 (by omega)
      have : 2 * (n / base) ≤ n / base * base := by
        rw [Int.mul_comm (n / base) base]
        exact Int.mul_le_mul_of_nonneg_right b0 d.1
      rw [Int.pow_succ] at h
      have := out_len b0 l1 k (n / base) (w ++ [n % base]) (by omega)
      rw [List.length_append] at this
      simp at this
      omega
    · rw [flowOut_end (by omega)]
      exact Nat.le_add_right _ _
theorem StOk.small (o : StOk cs base grain st) : st.1 < 2 ^ 40 := by
  have h1 := o.hi
  have h2 := o.g.sumle
  have h3 : grain * cs.sum ≤ 100 * 99900 := Int.mul_le_mul o.g1 h2 (by have := o.g.sum; omega) (by decide)
  have h4 : grain * cs.sum * base ≤ 100 * 99900 * 1000 := Int.mul_le_mul h3 o.b1 (by have := o.b0; omega) (by decide)
  omega
theorem StOk.sum1 (o : StOk cs base grain st) : 1 ≤ grain * cs.sum := by
  have := Int.mul_le_mul o.g0 (show (1 : Int) ≤ cs.sum from o.g.sum) (by decide) (by have := o.g0; omega)
  omega
theorem StOk.lay (o : StOk cs base grain st) (x : Sign cs s) : StOk cs base grain (streamed cs base grain st s) := by
  have c1 : 1 ≤ cnt cs s := x.cp
  have ct := first_top o.g x.nn x.lt
  have fn := first_nn o.g s
  have low : grain * cnt cs s ≤ st.1 := Int.le_trans (Int.mul_le_mul_of_nonneg_left (by omega) (by have := o.g0; omega)) o.lo
  obtain ⟨r1, r2, r3⟩ := out_ok (grain := grain) o.b0 c1 o.g0 st.1.toNat st.1 st.2 (Nat.le_refl _) low o.small o.ws
  obtain ⟨p1, p2⟩ := put_level o.g x (flowOut (grain * base * cnt cs s) base st.1 st.2).1
  have q1 : grain ≤ (flowOut (grain * base * cnt cs s) base st.1 st.2).1 / cnt cs s := Int.le_ediv_of_mul_le (by omega) r1
  have q2 : (flowOut (grain * base * cnt cs s) base st.1 st.2).1 / cnt cs s < grain * base := Int.ediv_lt_of_lt_mul (by omega) r2
  have sp := o.g.sum
  refine ⟨o.g, o.b0, o.b1, o.g0, o.g1, ?_, ?_, r3⟩
  · refine Int.le_trans ?_ p1
    rw [Int.mul_comm grain]
    exact Int.mul_le_mul_of_nonneg_left q1 (by omega)
  · refine Int.lt_of_lt_of_le p2 ?_
    have : cs.sum * ((flowOut (grain * base * cnt cs s) base st.1 st.2).1 / cnt cs s + 1) ≤ cs.sum * (grain * base) := Int.mul_le_mul_of_nonneg_left (by omega) (by omega)
    rw [show grain * cs.sum * base = cs.sum * (grain * base) from by rw [Int.mul_comm grain, Int.mul_assoc]]
    exact this
theorem StOk.grown (o : StOk cs base grain st) (x : Sign cs s) : (streamed cs base grain st s).2.length ≤ st.2.length + 40 := by
  have l1 : 1 ≤ grain * base * cnt cs s := by
    have h1 : 1 * 1 ≤ grain * base := Int.mul_le_mul o.g0 (by have := o.b0; omega) (by decide) (by have := o.g0; omega)
    have h2 := Int.mul_le_mul h1 (show (1 : Int) ≤ cnt cs s from x.cp) (by decide) (by omega)
    omega
  exact out_len o.b0 l1 40 st.1 st.2 o.small
theorem in_ok (b0 : 2 ≤ base) {low : Int} (l0 : 1 ≤ low) : ∀ (w : List Int) (n : Int) (r : Int × List Int), 0 ≤ n → n < low * base → (∀ x ∈ w, 0 ≤ x ∧ x < base) → flowR low base n w = some r → low ≤ r.1 ∧ r.1 < low * base ∧ (∀ x ∈ r.2, 0 ≤ x ∧ x < base) ∧ r.2.length ≤ w.length
  | [], n, r, h0, h1, hw, e => by
    unfold flowR at e
    split at e
    · cases e
      exact ⟨by assumption, h1, hw, Nat.le_refl _⟩
    · cases e
  | x :: u, n, r, h0, h1, hw, e => by
    unfold flowR at e
    split at e
    · cases e
      exact ⟨by assumption, h1, hw, Nat.le_refl _⟩
    · rename_i hn
      have hx := hw x List.mem_cons_self
      have h2 : n * base ≤ (low - 1) * base := Int.mul_le_mul_of_nonneg_right (by omega) (by omega)
      rw [Int.sub_mul, Int.one_mul] at h2
      have h3 : 0 ≤ n * base := Int.mul_nonneg h0 (by omega)
      obtain ⟨a1, a2, a3, a4⟩ := in_ok b0 l0 u (n * base + x) r (by omega) (by omega) (fun y hy => hw y (List.mem_cons_of_mem _ hy)) e
      exact ⟨a1, a2, a3, Nat.le_succ_of_le a4⟩
theorem off_low (o : StOk cs base grain st) : 0 ≤ offP st.1 cs ∧ offP st.1 cs < grain * cs.sum * base := by
  have h0 := offP_nn o.g (p := st.1) (by have := o.lo; have := o.sum1; omega)
  refine ⟨h0, ?_⟩
  obtain ⟨x, f1, f2⟩ := off_sign o.g st.1
  have ct := first_top o.g x.nn x.lt
  have fn := first_nn o.g (offS st.1 cs)
  have sp := o.g.sum
  have hb := div_back st.1 cs.sum
  have q0 : 0 ≤ st.1 / cs.sum := Int.ediv_nonneg (by have := o.lo; have := o.sum1; omega) (by omega)
  have : st.1 / cs.sum * cnt cs (offS st.1 cs) ≤ st.1 / cs.sum * cs.sum := Int.mul_le_mul_of_nonneg_left (by omega) q0
  have := o.hi
  unfold offP
  omega
theorem StOk.take (o : StOk cs base grain st) {r : Int × List Int} (h : flowed cs base grain st = some r) : StOk cs base grain r ∧ r.2.length ≤ st.2.length := by
  unfold flowed flowIn at h
  obtain ⟨r', h1, rfl⟩ := Option.map_eq_some_iff.mp h
  obtain ⟨z0, z1⟩ := off_low o
  obtain ⟨a1, a2, a3, a4⟩ := in_ok o.b0 o.sum1 _ _ _ z0 z1 (fun x hx => o.ws x (List.mem_reverse.mp hx)) h1
  refine ⟨⟨o.g, o.b0, o.b1, o.g0, o.g1, a1, a2, fun x hx => a3 x (List.mem_reverse.mp hx)⟩, ?_⟩
  rw [List.length_reverse] at a4
  show r'.2.reverse.length ≤ _
  rw [List.length_reverse]
  exact a4
end
/-- a stream on the heap -/
def StrAt (Z : Zs) (cs : List Int) (base grain : Int) (H : Hp) (p : Addr) (st : Int × List Int) (F : List Addr) : Prop :=
  StOk cs base grain st ∧ ∃ (dx lc lw : Addr), H p = some (.ins Z.stream dx (fsStream lc base grain (grain * cs.sum) st.1 lw)) ∧ H lc = some (.lst (iL cs)) ∧ H lw = some (.lst (iL st.2)) ∧ lc ≠ lw ∧ F = [p, lc, lw]
theorem StrAt.frame {Z : Zs} {cs : List Int} {base grain : Int} {H H' : Hp} {p : Addr} {st : Int × List Int} {F : List Addr} (r : StrAt Z cs base grain H p st F) (k : ∀ b ∈ F, ∀ o, H b = some o → H' b = some o) : StrAt Z cs base grain H' p st F := by
  obtain ⟨o, dx, lc, lw, h1, h2, h3, h4, rfl⟩ := r
  exact ⟨o, dx, lc, lw, k p (by simp) _ h1, k lc (by simp) _ h2, k lw (by simp) _ h3, h4, rfl⟩
theorem StrAt.up {Z : Zs} {cs : List Int} {base grain : Int} {H H' : Hp} {p : Addr} {st : Int × List Int} {F : List Addr} (r : StrAt Z cs base grain H p st F) (e : Evl.Ex H H') : StrAt Z cs base grain H' p st F := r.frame fun b _ o h => e b o h
theorem StrAt.keep {Z : Zs} {cs : List Int} {base grain : Int} {H H' : Hp} {p : Addr} {st : Int × List Int} {F G : List Addr} (r : StrAt Z cs base grain H p st F) (k : Keep G H H') (d : ∀ b ∈ F, b ∉ G) : StrAt Z cs base grain H' p st F := r.frame fun b hb o h => k b o (d b hb) h
theorem StrAt.own {Z : Zs} {cs : List Int} {base grain : Int} {H : Hp} {p : Addr} {st : Int × List Int} {F : List Addr} (r : StrAt Z cs base grain H p st F) : Own F H := by
  obtain ⟨o, dx, lc, lw, h1, h2, h3, h4, rfl⟩ := r
  intro b hb
  rcases List.mem_cons.mp hb with rfl | hb
  · exact ⟨_, h1⟩
  rcases List.mem_cons.mp hb with rfl | hb
  · exact ⟨_, h2⟩
  · rw [List.mem_singleton.mp hb]
    exact ⟨_, h3⟩
section
variable {H : Hp} {Q : VK} {a : Addr} {xs : List V} {y : V}
theorem w_popK (h : H a = some (.lst (xs ++ [y]))) (q : ∀ H1, Keep [a] H H1 → H1 a = some (.lst xs) → (∀ b, H1 b = none → H b = none) → Q y H1) : rPop (.ref a) [] H Q :=
  w_pop h (q _ (fun b o n e => (upd_ne (fun z => n (by rw [z]; simp))).trans e) upd_same fun b e => by
    by_cases z : b = a
    · rw [z, upd_same] at e
      cases e
    · rw [← upd_ne (H := H) (o := .lst xs) z]
      exact e)
end
/-! ### flowing out, and back -/
theorem flow_back0 {low lim base : Int} (b0 : 2 ≤ base) (l1 : 1 ≤ lim) : ∀ (k : Nat) (n : Int) (w : List Int), n.toNat ≤ k → n < low → flowIn low base (flowOut lim base n w).1 (flowOut lim base n w).2 = flowIn low base n w
  | 0, n, w, hk, _ => by
    rw [flowOut_end (by omega)]
  | k + 1, n, w, hk, hn => by
    by_cases h : lim ≤ n
    · have d := div_less (n := n) b0 (by omega)
      rw [flowOut_go b0 l1 h, flow_back0 b0 l1 k (n / base) _ (by omega) (by omega), flowIn_go (by omega), div_back]
    · rw [flowOut_end (by omega)]
theorem flow_back {low lim base n : Int} {w : List Int} (b0 : 2 ≤ base) (l1 : 1 ≤ lim) (h0 : low ≤ n) (h1 : n < low * base) (hp : 0 < n) : flowIn low base (flowOut lim base n w).1 (flowOut lim base n w).2 = some (n, w) := by
  by_cases h : lim ≤ n
  · have d := div_less (n := n) b0 (by omega)
    have hq : n / base < low := Int.ediv_lt_of_lt_mul (by omega) h1
    rw [flowOut_go b0 l1 h, flow_back0 b0 l1 (n / base).toNat (n / base) _ (Nat.le_refl _) hq, flowIn_go hq, div_back]
    exact flowIn_end h0
  · rw [flowOut_end (by omega)]
    exact flowIn_end h0
/-- words that lie ahead -/
theorem flowOut_pre {lim base : Int} (b0 : 2 ≤ base) (l1 : 1 ≤ lim) (u : List Int) : ∀ (k : Nat) (n : Int) (w : List Int), n.toNat ≤ k → flowOut lim base n (u ++ w) = ((flowOut lim base n w).1, u ++ (flowOut lim base n w).2)
  | 0, n, w, hk => by
    rw [flowOut_end (by omega), flowOut_end (by omega)]
  | k + 1, n, w, hk => by
    by_cases h : lim ≤ n
    · have d := div_less (n := n) b0 (by omega)
      rw [flowOut_go b0 l1 h, flowOut_go b0 l1 h, List.append_assoc, flowOut_pre b0 l1 u k (n / base) _ (by omega)]
    · rw [flowOut_end (by omega), flowOut_end (by omega)]
theorem flowR_pre {low base : Int} (u : List Int) : ∀ (w : List Int) (n : Int) (r : Int × List Int), flowR low base n w = some r → flowR low base n (w ++ u) = some (r.1, r.2 ++ u)
  | [], n, r, h => by
    unfold flowR at h
    split at h
    · rename_i hl
      cases h
      cases u with
      | nil => simp [flowR, hl]
      | cons x u => simp [flowR, hl]
    · cases h
  | x :: w, n, r, h => by
    unfold flowR at h
    split at h
    · rename_i hl
      cases h
      simp [flowR, hl]
    · rename_i hl
      rw [List.cons_append]
      unfold flowR
      rw [if_neg hl]
      exact flowR_pre u w _ r h
theorem flowIn_pre {low base n : Int} {w : List Int} {r : Int × List Int} (u : List Int) (h : flowIn low base n w = some r) : flowIn low base n (u ++ w) = some (r.1, u ++ r.2) := by
  unfold flowIn at h ⊢
  obtain ⟨r', h1, rfl⟩ := Option.map_eq_some_iff.mp h
  rw [List.reverse_append, flowR_pre u.reverse _ _ _ h1]
  simp
end Np

set_option Elab.async false
set_option linter.all false
set_option maxRecDepth 100000
set_option maxHeartbeats 4000000
/-! SetL: set(xs) of a list of ints, sorted(s) of any number of ints (the library has them for tuples, and below 64). -/
namespace Np
open PySem PySem.Spec PyProof.Rows L2
section
variable {P : Program} {w : World} {A : Around} {E : Value → Shared → Prop} {s : Shared}
/-- the new empty set -/
abbrev newSet (w : World) : Obj := { cls := .type "set", dict := none, data := .set #[] 0 (.fresh 0 0 (!w.params.followText "set-order")) }
set_option maxHeartbeats 8000000 in
theorem call_set_listI {l : Addr} {items : Array Value} (ns : List Int) {Q : Value → Shared → Prop} (hh : A.handled = none) (hl : s.heap.IsList l items) (hit : IntsAre items.toList ns) (hb : ns.length + 1 < scanBound)
    (h : ∀ (h' : Heap) (tk c : Nat), SetR w h' s.heap.objs.size (fun j => decide (j ∈ ns)) c → c ≤ ns.length → (∀ b o, s.heap.get? b = some o → h'.get? b = some o) → Q (.ref s.heap.objs.size) { s with heap := h', toks := tk }) :
    wpAny (model P w) A (call (.type "set") [.ref l]) Q E s := by
  have len : items.size = ns.length := by
    have q := IntsAre.length hit
    rw [Array.length_toList] at q
    exact q
  obtain ⟨c, tl, hmro⟩ := F.called_set.mro
  have hmade := F.called_set.made
  have hsub := F.called_set.sub
  refine wpAny_call (codeAny_of_tree ?_)
  show wpAny _ _ (callAny (.type "set") _) _ _ _
  refine wpAny_pure ⟨Code.quiet_builtin _ (by decide +kernel), codeAny_builtin F.entry_type_call ?_⟩
  rw [Around.under_plain (weight_type_call_type "set" [.ref l] []) rfl]
  have h1 := F.called_set.notType
  have h2 := F.called_set.canCreate
  have hct := F.typeCall_set_1 (.ref l)
  repeat (any_goals (first | assumption | wp_step))
  refine codeAny_mono (code_set_led1 (.ref l) (E := E) (Q₁ := fun o s₁ => o = .ref s.heap.objs.size ∧ s₁ = { s with heap := s.heap.push (newSet w) }) ⟨rfl, rfl⟩) fun r s₁ hr => ?_
  cases r with
  | error e => exact hr
  | ok fl =>
    cases fl with
    | ret o =>
      obtain ⟨rfl, rfl⟩ := hr
      have hS : (s.heap.push (newSet w)).get? s.heap.objs.size = some (newSet w) := Heap.get?_push_size _ rfl
      have hT : Shared.TypeIs { s with heap := s.heap.push (newSet w) } (.ref s.heap.objs.size) "set" := ⟨_, hS, rfl⟩
      have hli := F.called_set.init.lookup
      have hbi := F.called_set.init.bind (.ref s.heap.objs.size)
      repeat (any_goals (first | assumption | wp_step))
      refine codeAny_mono (codeAny_call_builtin (R := wants (fun r s₂ => r = .none ∧ ∃ h' tk c, s₂ = { s with heap := h', toks := tk } ∧ SetR w h' s.heap.objs.size (fun j => decide (j ∈ ns)) c ∧ c ≤ ns.length ∧
          (∀ b o, s.heap.get? b = some o → h'.get? b = some o)) E) F.called_set.init.plain F.entry_set_init (check_set_init_1 hT ?_)) fun r₂ s₂ hr₂ => ?_
      · obtain ⟨ol, hol, hcl, nl, hdl⟩ := hl
        obtain ⟨oc, od, oda, osl⟩ := ol
        simp only at hcl hdl
        subst hcl; subst hdl
        have up : (s.heap.push (newSet w)).get? l = some { cls := .type "list", dict := od, data := .seq items nl, slots := osl } := Heap.get?_push_of_some _ hol
        have q1 := F.sub_list_set
        have q2 := F.sub_list_frozenset
        have q3 : (Value.type "list" == Value.type "dict") = false := by decide
        have hl1 : (s.heap.push (newSet w)).IsList l items := ⟨_, up, rfl, nl, rfl⟩
        unfold Builtin.«set.__init__» noKeywords Builtin.Frozenset.updateFrom
        generalize hPI : pyIter = PI
        wp_walk
        subst hPI
        refine wpAny_pyIter_list hl1 ?_
        refine wpAny_bind (wpAny_runValue ?_)
        have lt : l < s.heap.objs.size := Heap.lt_size hol
        have h3 : A.in1.in1.in1.handled = none := by simp [hh]
        have ne : l ≠ (s.heap.push (newSet w)).objs.size := by
          rw [Heap.size_push]; exact Nat.ne_of_lt (Nat.lt_succ_of_lt lt)
        have out : s.heap.objs.size ∉ [(s.heap.push (newSet w)).objs.size, l] := by
          rw [Heap.size_push]; simp only [List.mem_cons, List.mem_singleton, List.not_mem_nil, or_false, not_or]
          exact ⟨Nat.ne_of_lt (Nat.lt_succ_self _), Nat.ne_of_gt lt⟩
        have val : ∀ (i : Nat) (v : Value), items[i]? = some v → ∃ k t, ns[i]? = some k ∧ v = .int k t := fun i v hv => by
          have hi : i < ns.length := by rw [← len]; exact (Array.getElem?_eq_some_iff.mp hv).1
          obtain ⟨t, e⟩ := PyProof.Rows.IntsAre.int_at hit i v (by rw [Array.getElem?_toList]; exact hv)
          refine ⟨ns[i], t, List.getElem?_eq_getElem hi, ?_⟩
          rw [e, List.getD_eq_getElem?_getD, List.getElem?_eq_getElem hi] <;> rfl
        refine set_update_ints ((Walks.list h3 _ l ne items).toS) s.heap.objs.size out ns len hb val (items.size - 0) 0 _ (by omega) (Nat.zero_le _)
          ⟨⟨_, Heap.get?_push_size _ rfl, rfl, rfl⟩, (hl1.push _)⟩ ?start ?stop
        case start =>
          exact ⟨0, Nat.le_refl 0, setR_new_at (Heap.get?_push_of_some _ hS)⟩
        case stop =>
          intro s' c' hm hc' hS'
          obtain ⟨h', g2, d', tk', os'⟩ := s'
          have eg : g2 = s.gens := hm.gens
          have ed : d' = s.drawn := hm.drawn
          have eo : os' = s.os := hm.os
          subst eg; subst ed; subst eo
          refine wpAny_pure ?_
          show wpAny _ _ (ret Value.none) _ _ _
          rw [len] at hc'
          refine wpAny_pure ⟨rfl, h', tk', c', rfl, hS', hc', fun b o e => ?_⟩
          have b0 : b < s.heap.objs.size := Heap.lt_size e
          have b2 : b ≠ (s.heap.push (newSet w)).objs.size := by
            rw [Heap.size_push]; exact Nat.ne_of_lt (Nat.lt_succ_of_lt b0)
          exact hm.heap b o (by simp only [List.mem_cons, List.mem_singleton, List.not_mem_nil, or_false, not_or]; exact ⟨Nat.ne_of_lt b0, b2⟩) (Heap.get?_push_of_some _ (Heap.get?_push_of_some _ e))
      · cases r₂ with
        | error e => exact hr₂
        | ok fl₂ =>
          cases fl₂ with
          | ret r =>
            obtain ⟨rfl, h', tk, c', rfl, hS', hc', hk'⟩ := hr₂
            repeat (any_goals (first | assumption | wp_step))
            exact h _ _ _ hS' hc' hk'
          | _ => exact hr₂.elim
    | _ => exact hr.elim
theorem sorted_setB {a : Addr} {S : Int → Bool} {n : Nat} {Q : Value → Shared → Prop} (R : SetR w s.heap a S n) (hh : A.handled = none) (hz : n ≤ 100000)
    (hQ : ∀ s' p (out : Array Value) (c : Nat) (ns : List Int), (∀ b o, s.heap.get? b = some o → s'.heap.get? b = some o) → s'.gens = s.gens → s'.os = s.os → s.heap.objs.size ≤ p →
      s'.heap.get? p = some (seqObj "list" out c) → IntsAre out.toList ns → ns.Pairwise (· < ·) → (∀ k, k ∈ ns ↔ S k = true) → ns.length = n → Q (.ref p) s') :
    wpAny (model P w) A (call (.builtin "sorted") [.ref a]) Q E s := by
  obtain ⟨o, es, ep, t, ho, hex, hd, g, nd, hm, hb, hf, hn, hr, hl⟩ := R
  refine Calls.call_function_entry kind_sorted plain_sorted entry_sorted (args_sorted1 _) ?_
  unfold Builtin.«sorted»
  refine wpAny_bind (m := checkCount "sorted" 1 1 _) (wpAny_pure ?_)
  refine wpAny_bind (collect_set (A := A.in1) hh ⟨o, ho, hex.1, hd⟩ hf hb hr hl fun s1 vs k1 z1 g1 o1 pm => ?_)
  have vl : vs.length = n := by rw [pm.length_eq, List.length_map, Array.length_toList]; exact hn
  have iI : IntsAre vs (vs.map Builtin.Re.reRawOf) := ints_of vs fun v hv => by
    obtain ⟨e, he, q⟩ := List.mem_map.mp (pm.mem_iff.mp hv)
    obtain ⟨k, tk, h1, _⟩ := g e he
    exact ⟨k, tk, by rw [← q]; exact h1⟩
  have pk : (vs.map Builtin.Re.reRawOf).Perm (es.toList.map keyOf) := by
    have q := pm.map Builtin.Re.reRawOf
    rw [List.map_map] at q
    exact q
  have zl : vs.length ≤ sizeLine := by rw [vl, sizeLine_eq]; omega
  refine wpAny_bind (wpAny_newList ?_ zl)
  have hoL : (s1.heap.push (seqObj "list" vs.toArray 0)).get? s1.heap.objs.size = some (seqObj "list" vs.toArray 0) := Heap.get?_push_size _ rfl
  refine wpAny_bind (wpAny_holding (wpAny_call_entry slot_list_sort ⟨_, hoL, rfl⟩ entry_list_sort (SrtO.list_sort_ord SrtO.swo_int hoL zl (fun h2 => SrtO.ints_sortable iI h2) fun out h1 h2 => ⟨_, rfl, ?_⟩) (args_list_sort _)))
  obtain ⟨a1, a2, a3⟩ := SrtO.ints_out iI h1 h2
  obtain ⟨c, hc⟩ := sortedHeap_at (vs := vs) (out := out.toArray) hoL
  have pn : (out.map SrtO.iv).Perm (es.toList.map keyOf) := a2.trans pk
  refine wpAny_pure ⟨_, rfl, hQ _ s1.heap.objs.size out.toArray c (out.map SrtO.iv) (fun b u e => ?_) g1 o1 z1 hc a1 (lt_of_le_nodup _ a3 (pn.nodup_iff.mpr nd)) (fun k => by rw [pn.mem_iff, ← hm k]) ?_⟩
  · have q := k1 b u e
    have hlt := Heap.lt_size q
    show (sortedHeap (s1.heap.push (seqObj "list" vs.toArray 0)) s1.heap.objs.size vs out.toArray).get? b = some u
    rw [sortedHeap_old (Nat.ne_of_lt hlt) (by rw [size_push']; exact Nat.lt_succ_of_lt hlt)]
    exact Heap.get?_push_of_some _ q
  · rw [pn.length_eq, List.length_map, Array.length_toList]; exact hn
end
/-- set(xs), sorted(s) -/
def rSetL (K : PySem.W.Frag) (w : World) : List V → Hp → VK → Prop := fun xs H Q => ∃ (l : Addr) (ns : List Int), xs = [V.ref l] ∧ SqL K H l (ns.map V.int) ∧ ns.length ≤ 1000 ∧
  ∀ p n, H p = none → n ≤ ns.length → Q (.ref p) (upd H p (SetO w p (fun j => decide (j ∈ ns)) n))
def rSortB (w : World) : List V → Hp → VK → Prop := fun vs H Q => ∃ (a : Addr) (S : Int → Bool) (n : Nat), vs = [V.ref a] ∧ H a = some (SetO w a S n) ∧ n ≤ 100000 ∧
  ∀ (ns : List Int) (p : Addr), ns.Pairwise (· < ·) → (∀ k : Int, k ∈ ns ↔ S k = true) → H p = none → Q (.ref p) (upd H p (.lst (ns.map V.int)))
section
variable {X : Cx} {K : PySem.W.Frag} {w : World}
theorem n_setL (ek : X.K = K) (ew : X.w = w) (hc : X.calm = true) : CallR X (.type "set") (rSetL K w) := by
  subst ek
  subst ew
  intro pins s σ H vs us Q I r h
  obtain ⟨l, ns, rfl, hs, hz, q⟩ := h
  obtain ⟨its, rv, hl, _⟩ := I.list hs
  rw [Vals.ref1 r]
  refine call_set_listI ns (I.ok.hd hc) hl.isList rv.ints (Nat.lt_of_le_of_lt (Nat.succ_le_succ hz) (by decide)) fun h' tk c R hn k => ?_
  exact ⟨.ref _, upd H s.heap.objs.size (SetO X.w s.heap.objs.size (fun j => decide (j ∈ ns)) c), I.laid (t' := tk) k (Nat.le_refl _) (setO_new R), rfl, q _ _ (I.hok.fresh (Nat.le_refl _)) hn⟩
theorem n_sortB (ew : X.w = w) (hc : X.calm = true) : CallR X (.builtin "sorted") (rSortB w) := by
  subst ew
  intro pins s σ H vs us Q I r h
  obtain ⟨a, S, n, rfl, ha, hz, q⟩ := h
  have R := setO_get I ha
  rw [Vals.ref1 r]
  refine sorted_setB R (I.ok.hd hc) hz fun s' p out c ns k g o hp hg hi hs hm hl => ?_
  have hlen : (ns.map V.int).length ≤ sizeLine := by rw [List.length_map, hl, sizeLine_eq]; omega
  have hn : H p = none := I.hok.fresh hp
  have J : Inv X pins σ (upd H p (.lst (ns.map V.int))) { s with heap := s'.heap, gens := s'.gens, drawn := s'.drawn, toks := s'.toks } :=
    I.call (ch := []) (Un.laid k hp hn) (I.hok.laid k hp ⟨hlen, out.toList, c, vals_of_ints hi, hg⟩) (by rw [g]; exact I.bare) (fun _ z => nomatch z)
  have e : s' = { s with heap := s'.heap, gens := s'.gens, drawn := s'.drawn, toks := s'.toks } := by
    cases s'
    cases s
    cases o
    rfl
  rw [e]
  exact ⟨.ref p, _, J, rfl, q ns p hs hm hn⟩
end
end Np

set_option Elab.async false
set_option linter.all false
set_option maxRecDepth 100000
set_option maxHeartbeats 4000000
/-! Text: steps over texts told as lists of codes; defs that may raise, called by name. -/
namespace Np
open PySem PySem.Spec PyProof.Rows L2 TL
open Evl (Ex)
/-- a text by its codes -/
abbrev S (l : List Nat) : Str := ⟨l.toArray⟩
theorem S_tl (z : Str) : S (tl z) = z := mk_tl z
theorem tl_S (l : List Nat) : tl (S l) = l := rfl
theorem S_inj {a b : List Nat} (h : S a = S b) : a = b := congrArg tl h
theorem S_eq {a b : List Nat} : (S a = S b) = (a = b) := propext ⟨S_inj, fun h => by rw [h]⟩
theorem S_len (l : List Nat) : (S l).length = l.length := by rw [len_tl]
theorem S_add (a b : List Nat) : S a ++ S b = S (a ++ b) := ext_tl (by rw [tl_append])
theorem of_tl {z : Str} {l : List Nat} (h : tl z = l) : z = S l := by rw [← h, S_tl]
/-! rules -/
def rAddStr : R2 := fun x y H Q => ∃ i j, x = .str i ∧ y = .str j ∧ i.length + j.length ≤ sizeLine ∧ Q (.str (i ++ j)) H
def rInS : R2 := fun x y H Q => ∃ (c : Nat) (z : Str), x = .str ⟨#[c]⟩ ∧ y = .str z ∧ Q (.bl (decide (c ∈ z.cps.toList))) H
def rNiS : R2 := fun x y H Q => ∃ (c : Nat) (z : Str), x = .str ⟨#[c]⟩ ∧ y = .str z ∧ Q (.bl (!decide (c ∈ z.cps.toList))) H
def rStrInt : List V → Hp → VK → Prop := fun xs H Q => ∃ i, xs = [.int i] ∧ i.natAbs.log2 < 1920 ∧ Q (.str (toString i)) H
def rIntStr : List V → Hp → VK → Prop := fun xs H Q => ∃ a n, xs = [.str a] ∧ PySem.intText? a = some n ∧ a.length ≤ 640 ∧ Q (.int n) H
def rLenStr : List V → Hp → VK → Prop := fun xs H Q => ∃ a, xs = [.str a] ∧ a.length ≤ sizeLine ∧ Q (.int a.length) H
def rCountS : V → List V → Hp → VK → Prop := fun x xs H Q => ∃ a b, x = .str a ∧ xs = [.str b] ∧ Q (.int (Txt.count a b)) H
def rFindS : V → List V → Hp → VK → Prop := fun x xs H Q => ∃ a b, x = .str a ∧ xs = [.str b] ∧ Q (.int (Txt.find a b)) H
def rIndexS : V → List V → Hp → VK → Prop := fun x xs H Q => ∃ a b i rest, x = .str a ∧ xs = [.str b] ∧ Builtin.Str.occurrences a b 0 a.length 1 = i :: rest ∧ Q (.int (i : Nat)) H
def rJoin (K : PySem.W.Frag) : V → List V → Hp → VK → Prop := fun x xs H Q => ∃ a p, ∃ ys : List Str, x = .str a ∧ xs = [.ref p] ∧ (SqL K H p (ys.map V.str) ∨ SqT K H p (ys.map V.str)) ∧ (ys.map (·.length)).sum + ys.length * a.length ≤ 16777216 ∧ Q (.str (Txt.join a ys)) H
def rSplit : V → List V → Hp → VK → Prop := fun x xs H Q => ∃ a b, x = .str a ∧ xs = [.str b] ∧ (b.length == 0) = false ∧ a.length + 2 ≤ sizeLine ∧ rNewStrs (Txt.split a b) H Q
def rPart : V → List V → Hp → VK → Prop := fun x xs H Q => ∃ a b, x = .str a ∧ xs = [.str b] ∧ (b.length == 0) = false ∧ a.length ≤ sizeLine ∧ ∀ p, H p = none → Q (.ref p) (upd H p (.tup [.str (Txt.partition a b).1, .str (Txt.partition a b).2.1, .str (Txt.partition a b).2.2]))
section
variable {X : Cx} {K : PySem.W.Frag}
theorem n_addS : OpR X (binaryOp .Add) rAddStr := op_add_str
theorem n_inS : OpR X (compareOp .In) rInS := op_in_sign
theorem n_niS : OpR X (compareOp .NotIn) rNiS := op_notIn_sign
theorem n_strI : CallR X (.type "str") rStrInt := call_str_int
theorem n_intS : CallR X (.type "int") rIntStr := call_int_str
theorem n_lenS : CallR X (.builtin "len") rLenStr := call_len_str
theorem n_count : MtR X "str.count" rCountS := mt_count
theorem n_find : MtR X "str.find" rFindS := mt_find
theorem n_sindex : MtR X "str.index" rIndexS := mt_sindex
theorem n_lindex (e : X.K = K) : MtR X "list.index" (rIndex K) := by subst e; exact mt_index
theorem n_lcount (e : X.K = K) : MtR X "list.count" (rCntI K) := by subst e; exact mt_lcount
theorem n_str {s : Str} {k : Nat} {pos : Pos} {l : List Nat} (h : s = S l) : PE X (.Constant (.str s) k pos) (tC (.str (S l))) := by subst h; exact pe_str
theorem n_bm {K : PySem.W.Frag} {T : String} {id : String} {name : Str} {r : V → List V → Hp → VK → Prop} {o e : Expr} {es : List Expr} {to : TE} {t : TA} {apos cpos : Pos} (ek : X.K = K) (pa : PlainAttrs T) (slot : Slot T name id) (hty : typeOf (.builtin id) = pure (.type "method_descriptor")) (hm : MtR X id r) (ho : PE X o to) (ha : PA X (e :: es) t)
    (hbase : attributeBase o name X.env (eval o X.env) = eval o X.env := by rfl)
    (hfew : ((backTo cpos (starEach (e :: es) X.env)).all (fun x => !x.1) && (backToKw cpos (keywordEach [] X.env)).all (fun x => x.1.isSome)
      && decide ((e :: es).length + ([] : List Keyword).length + (if ([] : List Keyword).isEmpty then 0 else 1) < 30)) = true := by rfl)
    (hline : (apos.endLine == cpos.line) = true := by rfl) (hs : starEach (e :: es) X.env = (false, eval e X.env) :: starEach es X.env := by rfl) (hplain : (backTo cpos (starEach es X.env)).any (·.1) = false := by rfl) :
    PE X (.Call (.Attribute o name apos) (e :: es) [] cpos) (tBM K T r to t) := by
  subst ek
  exact pe_bm pa slot hty hm ho ha hbase hfew hline hs hplain
theorem n_join {o e : Expr} {to te : TE} {apos pos : Pos} (ek : X.K = K) (ho : PE X o to) (he : PE X e te) (hs : starEach [e] X.env = [(false, eval e X.env)] := by rfl) (hbase : attributeBase o "join" X.env (eval o X.env) = eval o X.env := by rfl) (hline : (apos.endLine == pos.line) = true := by rfl) :
    PE X (.Call (.Attribute o "join" apos) [e] [] pos) (tM1 (rJoin K) to te) := by subst ek; exact pe_join ho he hs hbase hline
theorem n_split {o e : Expr} {to te : TE} {apos pos : Pos} (ho : PE X o to) (he : PE X e te) (hs : starEach [e] X.env = [(false, eval e X.env)] := by rfl) (hbase : attributeBase o "split" X.env (eval o X.env) = eval o X.env := by rfl) (hline : (apos.endLine == pos.line) = true := by rfl) :
    PE X (.Call (.Attribute o "split" apos) [e] [] pos) (tM1 rSplit to te) := pe_split ho he hs hbase hline
theorem n_part {o e : Expr} {to te : TE} {apos pos : Pos} (ho : PE X o to) (he : PE X e te) (hs : starEach [e] X.env = [(false, eval e X.env)] := by rfl) (hbase : attributeBase o "partition" X.env (eval o X.env) = eval o X.env := by rfl) (hline : (apos.endLine == pos.line) = true := by rfl) :
    PE X (.Call (.Attribute o "partition" apos) [e] [] pos) (tM1 rPart to te) := pe_partition ho he hs hbase hline
end
/-! occurrences of one sign -/
theorem cnt_count (c : Nat) : ∀ l : List Nat, PyProof.Rows.cnt c l = (l.count c : Nat)
  | [] => rfl
  | n :: r => by
    rw [PyProof.Rows.cnt_cons, cnt_count c r, List.count_cons]
    by_cases h : n = c
    · rw [if_pos h]
      simp [h]
      omega
    · rw [if_neg h]
      simp [h]
theorem count_S (l : List Nat) (c : Nat) : Txt.count (S l) (S [c]) = (l.count c : Nat) := by
  rw [show (S [c]) = (⟨#[c]⟩ : Str) from rfl, PyProof.Rows.count_is]
  exact cnt_count c l
open Builtin Builtin.Str StrLaws in
theorem occ_first (x : Str) (c : Nat) : ∀ (n a : Nat), a + n = x.length + 1 → (∀ i, i < a → x.cps.toList[i]? ≠ some c) →
    (forIn (List.range' a n) ((#[] : Array Nat), (0 : Nat)) (occBody x ⟨#[c]⟩ x.length 1)).run.fst.toList = (if c ∈ x.cps.toList then [x.cps.toList.idxOf c] else [])
  | 0, a, ha, hn => by
    have : c ∉ x.cps.toList := fun hm => by
      obtain ⟨i, hi⟩ := List.getElem?_of_mem hm
      have hl := (List.getElem?_eq_some_iff.mp hi).1
      have : x.cps.toList.length = x.length := Array.length_toList
      exact hn i (by omega) hi
    rw [if_neg this]
    simp
  | n + 1, a, ha, hn => by
    rw [List.range'_succ, List.forIn_cons]
    by_cases h : x.cps.toList[a]? = some c
    · have hb := (subAt_one x c a).mpr h
      have e1 : occBody x ⟨#[c]⟩ x.length 1 a ((#[] : Array Nat), (0 : Nat)) = pure (ForInStep.yield ((#[] : Array Nat).push a, a + (⟨#[c]⟩ : Str).length)) := by
        unfold occBody
        rw [if_pos ⟨⟨⟨by simp, Nat.zero_le _⟩, hb.1⟩, hb.2⟩]
      rw [e1]
      have hm : c ∈ x.cps.toList := List.mem_of_getElem? h
      have hi : x.cps.toList.idxOf c = a := by
        obtain ⟨hl, he⟩ := List.getElem?_eq_some_iff.mp h
        have h1 : x.cps.toList.idxOf c ≤ a := by
          refine Classical.byContradiction fun hlt => ?_
          have := List.not_of_lt_findIdx (p := fun y => y == c) (xs := x.cps.toList) (i := a) (by
            show a < List.findIdx (fun y => y == c) x.cps.toList
            have : List.idxOf c x.cps.toList = List.findIdx (fun y => y == c) x.cps.toList := rfl
            omega)
          rw [he] at this
          simp at this
        rcases Nat.lt_or_eq_of_le h1 with h2 | h2
        · have hl2 := List.idxOf_lt_length_of_mem hm
          exact absurd (by rw [List.getElem?_eq_getElem hl2, List.getElem_idxOf]) (hn _ h2)
        · exact h2
      rw [if_pos hm, hi]
      have go : ∀ (l : List Nat) (st : Array Nat × Nat), st.1 = #[a] → (forIn l st (occBody x ⟨#[c]⟩ x.length 1)).run.fst = #[a] := by
        intro l
        induction l with
        | nil => intro st h; exact h
        | cons b r ih =>
          intro st h
          rw [List.forIn_cons]
          have e2 : occBody x ⟨#[c]⟩ x.length 1 b st = pure (ForInStep.yield (st.1, st.2)) := by
            unfold occBody
            rw [if_neg fun z => by have := z.1.1.1; rw [h] at this; simp at this]
          rw [e2]
          exact ih (st.1, st.2) h
      have := go (List.range' (a + 1) n) ((#[] : Array Nat).push a, a + (⟨#[c]⟩ : Str).length) rfl
      show (forIn (List.range' (a + 1) n) ((#[] : Array Nat).push a, a + (⟨#[c]⟩ : Str).length) (occBody x ⟨#[c]⟩ x.length 1)).run.fst.toList = [a]
      rw [this]
    · have e1 : occBody x ⟨#[c]⟩ x.length 1 a ((#[] : Array Nat), (0 : Nat)) = pure (ForInStep.yield ((#[] : Array Nat), (0 : Nat))) := by
        unfold occBody
        rw [if_neg fun z => h ((subAt_one x c a).mp ⟨z.1.2, z.2⟩)]
      rw [e1]
      exact occ_first x c n (a + 1) (by omega) fun i hi => by
        rcases Nat.lt_or_eq_of_le (Nat.le_of_lt_succ hi) with h2 | h2
        · exact hn i h2
        · rw [h2]; exact h
theorem occ_S (l : List Nat) (c : Nat) : Builtin.Str.occurrences (S l) (S [c]) 0 (S l).length 1 = if c ∈ l then [l.idxOf c] else [] := by
  rw [StrLaws.occ_eq]
  exact occ_first (S l) c ((S l).length + 1) 0 (by omega) (fun i hi => by omega)
theorem find_S (l : List Nat) (c : Nat) : Txt.find (S l) (S [c]) = if c ∈ l then ((l.idxOf c : Nat) : Int) else -1 := by
  unfold Txt.find
  rw [occ_S]
  by_cases h : c ∈ l
  · rw [if_pos h, if_pos h]
  · rw [if_neg h, if_neg h]
/-! steps -/
section
variable {K : PySem.W.Frag} {σ : L2.St} {H : Hp} {D : Ends} {Q : VK} {te to : TE} {s1 : TS} {a b l : List Nat} {c : Nat} {i : Int} {p : Addr} {R : It → Hp → Prop} {t : TT}
theorem w_addS (hz : a.length + b.length ≤ 1000000) (q : Q (.str (S (a ++ b))) H) : rAddStr (.str (S a)) (.str (S b)) H Q :=
  ⟨_, _, rfl, rfl, by rw [S_len, S_len]; exact Nat.le_trans hz (by decide), by rw [S_add]; exact q⟩
theorem w_inS (q : Q (.bl (decide (c ∈ l))) H) : rInS (.str (S [c])) (.str (S l)) H Q := ⟨c, S l, rfl, rfl, q⟩
theorem w_niS (q : Q (.bl (!decide (c ∈ l))) H) : rNiS (.str (S [c])) (.str (S l)) H Q := ⟨c, S l, rfl, rfl, q⟩
theorem w_eqTx (q : Q (.bl (decide (a = b))) H) : rEq (.str (S a)) (.str (S b)) H Q := w_eqS (by
  have e : decide (S a = S b) = decide (a = b) := decide_eq_decide.mpr (by rw [S_eq])
  rw [e]; exact q)
theorem w_neTx (q : Q (.bl (!decide (a = b))) H) : rNe (.str (S a)) (.str (S b)) H Q := w_neS (by
  have e : decide (S a = S b) = decide (a = b) := decide_eq_decide.mpr (by rw [S_eq])
  rw [e]; exact q)
theorem w_lenS (hz : a.length ≤ 1000000) (q : Q (.int a.length) H) : rLenStr [.str (S a)] H Q := ⟨_, rfl, by rw [S_len]; exact Nat.le_trans hz (by decide), by rw [S_len]; exact q⟩
theorem w_ixS {k : Nat} (e : i = (k : Int)) (h : l[k]? = some c) (hz : l.length ≤ 1000000) (q : Q (.str (S [c])) H) : rIxS (.str (S l)) (.int i) H Q :=
  ⟨S l, i, c, rfl, rfl, by rw [S_len]; exact Nat.le_trans hz (by decide), by rw [e]; exact atI_nat h, q⟩
theorem w_strI {n : Nat} (hn : n < 100000) (q : Q (.str (S (numL n))) H) : rStrInt [.int (n : Int)] H Q :=
  ⟨_, rfl, by
    have : (n : Int).natAbs.log2 ≤ n := by
      rw [Int.natAbs_natCast]
      exact Nat.le_trans (Nat.log2_le_self n) (Nat.le_refl _)
    by_cases h0 : n = 0
    · subst h0
      decide
    · have h2 : (n : Int).natAbs.log2 < 17 := by
        rw [Int.natAbs_natCast]
        exact (Nat.log2_lt h0).mpr (Nat.lt_of_lt_of_le hn (by decide))
      omega, by
    have e : (toString (n : Int) : Str) = S (numL n) := of_tl (tl_num n)
    rw [e]
    exact q⟩
theorem w_intS {n : Nat} (hd : NumText.AllDigits l) (h0 : l ≠ []) (hl : l.length ≤ 600) (e : NumText.digitsVal l = n) (q : Q (.int (n : Int)) H) : rIntStr [.str (S l)] H Q :=
  ⟨S l, _, rfl, intText_digits (x := S l) hd h0 (by rw [S_len]; omega), by rw [S_len]; omega, by
    show Q (.int ((NumText.digitsVal l : Nat) : Int)) H
    rw [e]
    exact q⟩
theorem w_tyS {z : Str} {B : Prop} (q : B) : tyV K "str" (.str z) H ∧ B := ⟨rfl, q⟩
theorem w_countS (q : Q (.int (l.count c : Nat)) H) : rCountS (.str (S l)) [.str (S [c])] H Q := ⟨_, _, rfl, rfl, by rw [count_S]; exact q⟩
theorem w_findS (q : Q (.int (if c ∈ l then ((l.idxOf c : Nat) : Int) else -1)) H) : rFindS (.str (S l)) [.str (S [c])] H Q := ⟨_, _, rfl, rfl, by rw [find_S]; exact q⟩
theorem w_indexS (h : c ∈ l) (q : Q (.int (l.idxOf c : Nat)) H) : rIndexS (.str (S l)) [.str (S [c])] H Q := ⟨_, _, l.idxOf c, [], rfl, rfl, by rw [occ_S, if_pos h], q⟩
/-- a list of texts of one sign -/
abbrev sL (l : List Nat) : List V := l.map fun c => V.str (S [c])
abbrev tL (ys : List (List Nat)) : List V := ys.map fun y => V.str (S y)
theorem tL_map (ys : List (List Nat)) : tL ys = (ys.map S).map V.str := by rw [List.map_map]; rfl
theorem w_m1 {r : V → List V → Hp → VK → Prop} (q : to σ H fun x H1 => (∃ a, x = .str a) ∧ te σ H1 fun y H2 => r x [y] H2 Q) : tM1 r to te σ H Q := q
theorem w_isS {z : Str} {B : Prop} (q : B) : (∃ a : Str, V.str z = .str a) ∧ B := ⟨⟨z, rfl⟩, q⟩
theorem w_join {ys : List (List Nat)} (h : SqL K H p (tL ys)) (hz : (ys.map List.length).sum + ys.length * a.length ≤ 16777216) (q : Q (.str (S (joinL a ys))) H) : rJoin K (.str (S a)) [.ref p] H Q := by
  refine ⟨S a, p, ys.map S, rfl, rfl, .inl (by rw [← tL_map]; exact h), ?_, ?_⟩
  · rw [List.map_map, List.length_map, S_len]
    have e : ys.map ((fun x : Str => x.length) ∘ S) = ys.map List.length := List.map_congr_left fun y _ => S_len y
    rw [e]
    exact hz
  · have e : Txt.join (S a) (ys.map S) = S (joinL a ys) := of_tl (by
      rw [join_eq, tl_join, List.map_map]
      have e2 : ys.map (tl ∘ S) = ys := by
        rw [show (tl ∘ S) = id from rfl, List.map_id]
      rw [e2])
    rw [e]
    exact q
theorem w_split {s : Nat} (hs : s < 256) (hz : l.length ≤ 1000000) (q : ∀ p H1, H p = none → Ex H H1 → H1 p = some (.lst (tL (spl [s] 0 [] l))) → Q (.ref p) H1) : rSplit (.str (S l)) [.str (S [s])] H Q := by
  have hk : ¬ Builtin.Str.strKind (S l) < Builtin.Str.strKind (S [s]) := kind_ok (by simp [hs])
  have e := split_spl (S l) (S [s]) (by simp) hk
  refine ⟨S l, S [s], rfl, rfl, rfl, by rw [S_len]; exact Nat.le_trans (Nat.add_le_add_right hz 2) (by decide), fun p hp => q p _ hp (Evl.Ex.new hp) ?_⟩
  rw [upd_same]
  have e2 : Txt.split (S l) (S [s]) = (spl [s] 0 [] l).map S := map_tl_inj (by
    rw [e, List.map_map, show (tl ∘ S) = id from rfl, List.map_id])
  rw [e2, tL_map]
/-- what stands ahead of a sign, and behind it -/
def cutAt (s : Nat) (l : List Nat) : List Nat × List Nat := match par [s] [] l with
  | some (x, y) => (x, y)
  | none => (l, [])
theorem w_ptn {s : Nat} (hs : s < 256) (hz : l.length ≤ 1000000) (q : ∀ p H1 m, H p = none → Ex H H1 → H1 p = some (.tup [.str (S (cutAt s l).1), .str m, .str (S (cutAt s l).2)]) → Q (.ref p) H1) : rPart (.str (S l)) [.str (S [s])] H Q := by
  have e := partition_par (S l) (S [s]) (by simp)
  refine ⟨S l, S [s], rfl, rfl, rfl, by rw [S_len]; exact Nat.le_trans hz (by decide), fun p hp => q p _ (Txt.partition (S l) (S [s])).2.1 hp (Evl.Ex.new hp) ?_⟩
  rw [upd_same]
  have e1 : (Txt.partition (S l) (S [s])).1 = S (cutAt s l).1 ∧ (Txt.partition (S l) (S [s])).2.2 = S (cutAt s l).2 := by
    rw [e]
    unfold cutAt
    have et : par (tl (S [s])) [] (tl (S l)) = par [s] [] l := rfl
    rw [et]
    cases h : par [s] [] l with
    | none => exact ⟨rfl, rfl⟩
    | some z => exact ⟨rfl, rfl⟩
  rw [e1.1, e1.2]
/-! walks over a text -/
def kStr (R : It → Hp → Prop) : VK := fun v H1 => ∃ x, v = .str x ∧ R (Its x) H1
theorem w_iStr (q : te σ H (kStr R)) : iStr te σ H R := q
theorem w_kStr (q : R (Its (S l)) H) : kStr R (.str (S l)) H := ⟨_, rfl, q⟩
theorem w_loopStr {k : Nat} (Pv : Nat → L2.St → Hp → Prop) (h0 : Pv 0 σ H)
    (hs : ∀ i c σ H, l[i]? = some c → i < l.length → Pv i σ H → s1 { D with nx := Pv (i + 1), ct := Pv (i + 1), bk := D.nx } (σ.set k (some (.str (S [c])))) H) (hd : ∀ σ H, Pv l.length σ H → D.nx σ H) : rFor (Its (S l)) (gName k) s1 D σ H :=
  for_it (walk_str (z := S l)) Pv h0 (fun _ _ _ _ _ => trivial) (fun i x σ H H' hi p y => by
    obtain ⟨rfl, c, hc, rfl⟩ := y
    have hc : l[i]? = some c := by
      rw [← hc]
      exact (List.getElem?_toArray).symm
    exact hs i c σ _ hc (List.getElem?_eq_some_iff.mp hc).1 p) (fun σ H p => hd σ H (by
    have e : (S l).cps.size = l.length := by simp
    rw [e] at p
    exact p))
/-- [e for c in text if t] -/
theorem w_lcStrF {k : Nat} {vs : List Nat} (f : Nat → Bool) (g : Nat → V) (hn : l.length ≤ 40000) (hw : ∀ x, wipe ((wipe σ vs).set k (some x)) vs = wipe σ vs)
    (ht : ∀ (i c : Nat) H1, Ex H H1 → l[i]? = some c → Evl.EvT t ((wipe σ vs).set k (some (.str (S [c])))) H1 (f i))
    (he : ∀ (i c : Nat) H1, Ex H H1 → l[i]? = some c → f i = true → Evl.Ev te ((wipe σ vs).set k (some (.str (S [c])))) H1 (g i))
    (q : ∀ p H1, H p = none → Ex H H1 → H1 p = some (.lst (Evl.given l.length f g)) → Q (.ref p) H1) : rLc (Its (S l)) (gName k) t te vs σ H Q := fun Dl hD =>
  lc_it (walk_str (z := S l)) (Evl.Cw H f g Dl) ⟨hD, Evl.Ex.new hD, upd_same⟩ (fun _ _ _ _ => trivial) (fun i x H' H'' hi p y => by
    obtain ⟨rfl, c, hc, rfl⟩ := y
    have hc : l[i]? = some c := by
      rw [← hc]
      exact (List.getElem?_toArray).symm
    have hl := (List.getElem?_eq_some_iff.mp hc).1
    exact ⟨hw _, Evl.cw_turn p (by omega) (ht i c H (Evl.Ex.refl H) hc) (fun hf => he i c H (Evl.Ex.refl H) hc hf)⟩) (fun H' p => by
    have e : (S l).cps.size = l.length := by simp
    rw [e] at p
    exact q Dl H' hD p.2.1 p.2.2)
theorem w_lcStr {k : Nat} {vs : List Nat} (g : Nat → V) (hn : l.length ≤ 40000) (hw : ∀ x, wipe ((wipe σ vs).set k (some x)) vs = wipe σ vs)
    (he : ∀ (c : Nat) H1, Ex H H1 → c ∈ l → Evl.Ev te ((wipe σ vs).set k (some (.str (S [c])))) H1 (g c))
    (q : ∀ p H1, H p = none → Ex H H1 → H1 p = some (.lst (l.map g)) → Q (.ref p) H1) : rLc (Its (S l)) (gName k) tYes te vs σ H Q :=
  w_lcStrF (fun _ => true) (fun i => g (l.getD i 0)) hn hw (fun _ _ _ _ _ => ev_yes) (fun i c H1 e hi _ => by
    have e3 : l.getD i 0 = c := by rw [List.getD_eq_getElem?_getD, hi]; rfl
    rw [e3]
    exact he c H1 e (List.mem_of_getElem? hi)) fun p H1 hp e h => q p H1 hp e (by
    rw [given_all] at h
    have e4 : (List.range l.length).map (fun i => g (l.getD i 0)) = l.map g := by
      refine List.ext_getElem (by simp) fun i h1 h2 => ?_
      simp at h1
      simp [List.getElem?_eq_getElem h1]
    rw [e4] at h
    exact h)
/-- [e for x in xs], the items texts of one sign -/
theorem w_lcSg {k : Nat} {vs : List Nat} (g : Nat → V) (hx : SqL K H p (sL l)) (hn : l.length ≤ 40000) (hw : ∀ x, wipe ((wipe σ vs).set k (some x)) vs = wipe σ vs)
    (he : ∀ (c : Nat) H1, Ex H H1 → c ∈ l → Evl.Ev te ((wipe σ vs).set k (some (.str (S [c])))) H1 (g c))
    (q : ∀ p H1, H p = none → Ex H H1 → H1 p = some (.lst (l.map g)) → Q (.ref p) H1) : rLc (Itl K p) (gName k) tYes te vs σ H Q :=
  w_lcLF (fun _ => true) (fun i => g (l.getD i 0)) hx (by rw [List.length_map]; exact hn) hw (fun _ _ _ _ _ => ev_yes) (fun i x H1 e hi _ => by
    rw [List.getElem?_map] at hi
    cases e2 : l[i]? with
    | none => rw [e2] at hi; cases hi
    | some c =>
      rw [e2] at hi
      cases hi
      have e3 : l.getD i 0 = c := by rw [List.getD_eq_getElem?_getD, e2]; rfl
      rw [e3]
      exact he c H1 e (List.mem_of_getElem? e2)) fun p H1 hp e h => q p H1 hp e (by
    rw [given_all, List.length_map] at h
    have e4 : (List.range l.length).map (fun i => g (l.getD i 0)) = l.map g := by
      refine List.ext_getElem (by simp) fun i h1 h2 => ?_
      simp at h1
      simp [List.getElem?_eq_getElem h1]
    rw [e4] at h
    exact h)
/-- over a list of texts -/
theorem w_loopTx {k : Nat} (ys : List (List Nat)) (Pv : Nat → L2.St → Hp → Prop) (h0 : Pv 0 σ H) (hl : ∀ i σ H, Pv i σ H → SqL K H p (tL ys))
    (hs : ∀ i y σ H, ys[i]? = some y → i < ys.length → Pv i σ H → s1 { D with nx := Pv (i + 1), ct := Pv (i + 1), bk := D.nx } (σ.set k (some (.str (S y)))) H) (hd : ∀ σ H, Pv ys.length σ H → D.nx σ H) : rFor (Itl K p) (gName k) s1 D σ H :=
  for_list (xs := tL ys) Pv h0 (fun i σ H _ p => hl i σ H p) (fun i x σ H hi p => by
    rw [List.getElem?_map] at hi
    cases e : ys[i]? with
    | none => rw [e] at hi; cases hi
    | some n =>
      rw [e] at hi
      cases hi
      exact hs i n σ H e (List.getElem?_eq_some_iff.mp e).1 p) (fun σ H p => hd σ H (by rw [List.length_map] at p; exact p))
/-- .index of a list of signs; of ints; .count of ints -/
theorem eqV_sg (a b : Nat) : eqV (.str (S [a])) (.str (S [b])) = decide (a = b) := by
  show (S [a] == S [b]) = decide (a = b)
  have e : (S [a] = S [b]) = (a = b) := by
    rw [S_eq]
    simp
  by_cases h : a = b
  · subst h
    simp
  · rw [decide_eq_false h]
    exact beq_eq_false_iff_ne.mpr (fun z => h (e.mp z))
theorem flat_sg (l : List Nat) : (sL l).all flatV = true := List.all_eq_true.mpr fun v hv => by
  obtain ⟨n, _, rfl⟩ := List.mem_map.mp hv
  rfl
theorem idx_lt {α : Type} [DecidableEq α] {l : List α} {c : α} {m : Nat} (h : m < l.idxOf c) {x : α} (hx : l[m]? = some x) : x ≠ c := fun e => by
  obtain ⟨hl, e2⟩ := List.getElem?_eq_some_iff.mp hx
  have := List.not_of_lt_findIdx (p := fun y => y == c) (xs := l) (i := m) h
  rw [e2, e] at this
  simp at this
theorem idx_at {α : Type} [DecidableEq α] {l : List α} {c : α} (h : c ∈ l) : l[l.idxOf c]? = some c := by
  have hl := List.idxOf_lt_length_of_mem h
  rw [List.getElem?_eq_getElem hl, List.getElem_idxOf]
theorem w_indexSg (hx : SqL K H p (sL l)) (h : c ∈ l) (q : Q (.int (l.idxOf c : Nat)) H) : rIndex K (.ref p) [.str (S [c])] H Q :=
  ⟨p, sL l, _, l.idxOf c, .str (S [c]), rfl, rfl, hx, rfl, flat_sg l, by rw [List.getElem?_map, idx_at h]; rfl, by rw [eqV_sg]; simp, fun m z hm hz => by
    rw [List.getElem?_map] at hz
    cases e : l[m]? with
    | none => rw [e] at hz; cases hz
    | some d =>
      rw [e] at hz
      cases hz
      rw [eqV_sg]
      exact decide_eq_false (idx_lt hm e), q⟩
theorem w_indexI {ns : List Int} (hx : SqL K H p (iL ns)) (h : i ∈ ns) (q : Q (.int (ns.idxOf i : Nat)) H) : rIndex K (.ref p) [.int i] H Q :=
  ⟨p, iL ns, _, ns.idxOf i, .int i, rfl, rfl, hx, rfl, flat_ints ns, by rw [List.getElem?_map, idx_at h]; rfl, by show (i == i) = true; simp, fun m z hm hz => by
    rw [List.getElem?_map] at hz
    cases e : ns[m]? with
    | none => rw [e] at hz; cases hz
    | some d =>
      rw [e] at hz
      cases hz
      show (d == i) = false
      exact beq_eq_false_iff_ne.mpr (idx_lt hm e), q⟩
theorem w_cntI {ns : List Int} (hx : SqL K H p (iL ns)) (q : Q (.int (ns.count i : Nat)) H) : rCntI K (.ref p) [.int i] H Q := ⟨p, ns, i, rfl, rfl, hx, q⟩
theorem w_tyLq {T : String} {xs : List V} {B : Prop} (h : SqL K H p xs) (q : B) : tyV K "list" (.ref p) H ∧ B := ⟨.inl ⟨rfl, _, h⟩, q⟩
end
/-! set, sorted -/
section
variable {K : PySem.W.Frag} {w : World} {H : Hp} {Q : VK} {p : Addr} {ns : List Int}
theorem w_mkset (h : SqL K H p (iL ns)) (hz : ns.length ≤ 1000) (q : ∀ s n H1, H s = none → n ≤ ns.length → Ex H H1 → H1 s = some (SetO w s (fun j => decide (j ∈ ns)) n) → Q (.ref s) H1) : rSetL K w [.ref p] H Q :=
  ⟨p, ns, rfl, h, hz, fun s n hs hn => q s n _ hs hn (Evl.Ex.new hs) upd_same⟩
theorem w_sortB {S : Int → Bool} {n : Nat} (h : H p = some (SetO w p S n)) (hz : n ≤ 100000) (q : ∀ (ms : List Int) l H1, ms.Pairwise (· < ·) → (∀ k : Int, k ∈ ms ↔ S k = true) → H l = none → Ex H H1 → H1 l = some (.lst (iL ms)) → Q (.ref l) H1) : rSortB w [.ref p] H Q :=
  ⟨p, S, n, rfl, h, hz, fun ms l h1 h2 hl => q ms l _ h1 h2 hl (Evl.Ex.new hl) upd_same⟩
end
/-! a def that may raise, called by its name -/
structure CalX (P : Program) (w : World) (K : PySem.W.Frag) (mg : Str → Option Value) (base : Heap) (k : Nat) (x : Str) (sp : Sp) : Prop where
  ex : ∃ (f : Addr) (fd : FuncData) (ps : List Str), FnOk P w K mg base (L2.CX P w) k f fd ps sp ∧ mg x = some (.ref f) ∧ PySem.W.keepIn K (.ref f) = true ∧ Binds K fd ps []
def tCallX (sp : Sp) (W : WX) (t : TA) : TE := fun σ H Q => t σ H fun vs H1 => sp vs H1 Q (WE W σ)
section
variable {X : Cx} {k j : Nat} {x : Str} {sp : Sp} {W : WX} {p pos : Pos} {e : Expr} {es : List Expr} {t : TA}
theorem pe_cX (c : CalX X.prog X.w X.K X.mg X.base k x sp) (hr : Room j X.A) (hk : k ≤ j) (tk : Takes X W) (hg : Gl X x) (ha : PA X (e :: es) t)
    (hdb : (x == ("__debug__" : Str)) = false := by decide) (he : starEach (e :: es) X.env = (false, eval e X.env) :: starEach es X.env := by rfl) (hpl : (backTo pos (starEach es X.env)).any (·.1) = false := by rfl) :
    PE X (.Call (.Name x p) (e :: es) [] pos) (tCallX sp W t) := by
  obtain ⟨f, fd, ps, F, hm, kp, b⟩ := c.ex
  exact pe_callS F (hr.mono hk) hg hm kp b (fun σ => passAt tk σ) ha hdb he hpl
theorem pe_cL (c : CalX X.prog X.w X.K X.mg X.base k x sp) (hr : Room j X.A) (hk : k ≤ j) (hg : Gl X x) (ha : PA X (e :: es) t)
    (hdb : (x == ("__debug__" : Str)) = false := by decide) (he : starEach (e :: es) X.env = (false, eval e X.env) :: starEach es X.env := by rfl) (hpl : (backTo pos (starEach es X.env)).any (·.1) = false := by rfl) :
    PE X (.Call (.Name x p) (e :: es) [] pos) (tCall sp [] C8.E0 t) := by
  obtain ⟨f, fd, ps, F, hm, kp, b⟩ := c.ex
  exact pe_call F (hr.mono hk) hg hm kp b .nil passL ha hdb he hpl
end
theorem w_callX {sp : Sp} {W : WX} {tl : TA} {σ : L2.St} {H : Hp} {Q : VK} (q : tl σ H fun vs H1 => sp vs H1 Q (WE W σ)) : tCallX sp W tl σ H Q := q
end Np

set_option Elab.async false
set_option linter.all false
set_option maxRecDepth 100000
set_option maxHeartbeats 4000000
/-! Leaf: texts as lists of places, their leaves, and what a leaf tells (plain Lean). -/
namespace Np
open PySem TL
/-! signs, letters, figures -/
def cod (p : Nat) : Nat := if p < 5 then 32 + p else 33 + p
def plc (c : Nat) : Nat := if c < 37 then c - 32 else c - 33
def sgs : List Nat := (List.range 94).map cod
def lts : List Nat := (List.range 26).map (97 + ·)
def fgs : List Nat := (List.range 10).map (48 + ·)
theorem plc_code (p : Nat) : plc (cod p) = p := by
  unfold plc cod
  split <;> split <;> omega
theorem code_inj {p q : Nat} (h : cod p = cod q) : p = q := by rw [← plc_code p, h, plc_code]
theorem mem_sgs {c : Nat} : c ∈ sgs ↔ ∃ p, p < 94 ∧ c = cod p := by
  unfold sgs
  rw [List.mem_map]
  exact ⟨fun ⟨p, h, e⟩ => ⟨p, List.mem_range.mp h, e.symm⟩, fun ⟨p, h, e⟩ => ⟨p, List.mem_range.mpr h, e.symm⟩⟩
theorem sgs_at {p : Nat} (h : p < 94) : sgs[p]? = some (cod p) := by
  unfold sgs
  rw [List.getElem?_map, List.getElem?_range h]
  rfl
theorem idx_of {α : Type} [DecidableEq α] {l : List α} (nd : l.Nodup) {i : Nat} {x : α} (h : l[i]? = some x) : l.idxOf x = i := by
  obtain ⟨hl, e⟩ := List.getElem?_eq_some_iff.mp h
  have hm : x ∈ l := List.mem_of_getElem? h
  have h2 := idx_at hm
  obtain ⟨hl2, e2⟩ := List.getElem?_eq_some_iff.mp h2
  exact (List.getElem_inj nd).mp (e2.trans e.symm)
theorem sgs_nodup : sgs.Nodup := by
  unfold sgs
  exact List.pairwise_map.mpr ((List.nodup_range (n := 94)).imp fun {a b} ne e => ne (code_inj e))
theorem sgs_idx {p : Nat} (h : p < 94) : sgs.idxOf (cod p) = p := idx_of sgs_nodup (sgs_at h)
theorem lts_at {d : Nat} (h : d < 26) : lts[d]? = some (97 + d) := by
  unfold lts
  rw [List.getElem?_map, List.getElem?_range h]
  rfl
theorem mem_lts {c : Nat} : c ∈ lts ↔ 97 ≤ c ∧ c ≤ 122 := by
  unfold lts
  rw [List.mem_map]
  constructor
  · rintro ⟨d, h, rfl⟩
    have := List.mem_range.mp h
    omega
  · intro h
    exact ⟨c - 97, List.mem_range.mpr (by omega), by omega⟩
theorem lts_idx {c : Nat} (h : 97 ≤ c ∧ c ≤ 122) : lts.idxOf c = c - 97 := by
  have nd : lts.Nodup := List.pairwise_map.mpr ((List.nodup_range (n := 26)).imp fun {a b} ne e => ne (by omega))
  refine idx_of nd ?_
  rw [lts_at (by omega)]
  congr 1
  omega
theorem mem_fgs {c : Nat} : c ∈ fgs ↔ 48 ≤ c ∧ c ≤ 57 := by
  unfold fgs
  rw [List.mem_map]
  constructor
  · rintro ⟨d, h, rfl⟩
    have := List.mem_range.mp h
    omega
  · intro h
    exact ⟨c - 48, List.mem_range.mpr (by omega), by omega⟩
/-! piles by letters -/
def toL (n : Nat) (acc : List Nat) : List Nat := if h : 0 < n then toL (n / 26) ((97 + n % 26) :: acc) else acc
termination_by n
decreasing_by exact Nat.div_lt_self h (by decide)
theorem toL_go {n : Nat} {acc : List Nat} (h : 0 < n) : toL n acc = toL (n / 26) ((97 + n % 26) :: acc) := by rw [toL, dif_pos h]
theorem toL_end {acc : List Nat} : toL 0 acc = acc := by rw [toL, dif_neg (by omega)]
def ltL (n : Nat) : List Nat := if n = 0 then [97] else toL n []
def fromL (l : List Nat) : Nat := l.foldl (fun a c => 26 * a + (c - 97)) 0
theorem toL_from : ∀ (k n : Nat) (acc : List Nat), n ≤ k → fromL (toL n acc) = acc.foldl (fun a c => 26 * a + (c - 97)) n
  | 0, n, acc, h => by
    have : n = 0 := by omega
    subst this
    rw [toL_end]
    rfl
  | k + 1, n, acc, h => by
    by_cases h0 : 0 < n
    · rw [toL_go h0, toL_from k (n / 26) _ (by have := Nat.div_lt_self h0 (show 1 < 26 by decide); omega), List.foldl_cons]
      congr 1
      omega
    · have : n = 0 := by omega
      subst this
      rw [toL_end]
      rfl
theorem from_lt (n : Nat) : fromL (ltL n) = n := by
  unfold ltL
  by_cases h : n = 0
  · rw [if_pos h, h]
    rfl
  · rw [if_neg h, toL_from n n [] (Nat.le_refl _)]
    rfl
theorem toL_in : ∀ (k n : Nat) (acc : List Nat), n ≤ k → (∀ c ∈ acc, 97 ≤ c ∧ c ≤ 122) → ∀ c ∈ toL n acc, 97 ≤ c ∧ c ≤ 122
  | 0, n, acc, h, ha => by
    have : n = 0 := by omega
    subst this
    rw [toL_end]
    exact ha
  | k + 1, n, acc, h, ha => by
    by_cases h0 : 0 < n
    · rw [toL_go h0]
      refine toL_in k (n / 26) _ (by have := Nat.div_lt_self h0 (show 1 < 26 by decide); omega) fun c hc => ?_
      rcases List.mem_cons.mp hc with rfl | hc
      · have := Nat.mod_lt n (show 0 < 26 by decide)
        omega
      · exact ha c hc
    · have : n = 0 := by omega
      subst this
      rw [toL_end]
      exact ha
theorem ltL_in (n : Nat) : ∀ c ∈ ltL n, 97 ≤ c ∧ c ≤ 122 := by
  unfold ltL
  split
  · intro c hc
    rw [List.mem_singleton.mp hc]
    decide
  · exact toL_in n n [] (Nat.le_refl _) (fun c hc => by cases hc)
theorem toL_len : ∀ (k n : Nat) (acc : List Nat), n < 2 ^ k → (toL n acc).length ≤ acc.length + k
  | 0, n, acc, h => by
    have : n = 0 := by
      simp at h
      exact h
    subst this
    rw [toL_end]
    exact Nat.le_refl _
  | k + 1, n, acc, h => by
    by_cases h0 : 0 < n
    · rw [toL_go h0]
      have := toL_len k (n / 26) ((97 + n % 26) :: acc) (by rw [Nat.pow_succ] at h; omega)
      rw [List.length_cons] at this
      omega
    · have : n = 0 := by omega
      subst this
      rw [toL_end]
      omega
theorem ltL_len {n k : Nat} (h : n < 2 ^ k) : (ltL n).length ≤ k + 1 := by
  unfold ltL
  split
  · simp
  · have := toL_len k n [] h
    simp at this
    omega
theorem toL_grows : ∀ (k n : Nat) (acc : List Nat), n ≤ k → acc.length ≤ (toL n acc).length
  | 0, n, acc, h => by
    have : n = 0 := by omega
    subst this
    rw [toL_end]
    exact Nat.le_refl _
  | k + 1, n, acc, h => by
    by_cases h0 : 0 < n
    · rw [toL_go h0]
      have := toL_grows k (n / 26) ((97 + n % 26) :: acc) (by have := Nat.div_lt_self h0 (show 1 < 26 by decide); omega)
      rw [List.length_cons] at this
      omega
    · have : n = 0 := by omega
      subst this
      rw [toL_end]
      exact Nat.le_refl _
theorem toL_ne {n : Nat} (h : 0 < n) : toL n [] ≠ [] := fun e => by
  rw [toL_go h] at e
  have := toL_grows (n / 26) (n / 26) [97 + n % 26] (Nat.le_refl _)
  rw [e] at this
  simp at this
/-! a text: places of signs -/
structure Tx (ps : List Nat) : Prop where
  lt : ∀ p ∈ ps, p < 94
  len : ps.length ≤ 150
def kinds (ps : List Nat) : List Nat := (List.range 94).filter (fun k => decide (k ∈ ps))
def cntL (ps : List Nat) : List Int := (kinds ps).map fun k => ((ps.count k : Nat) : Int)
def rowL (ps : List Nat) : List Int := ps.map fun p => (((kinds ps).idxOf p : Nat) : Int)
def piece (p n : Nat) : List Nat := numL p ++ [120] ++ numL n
def headL (ps : List Nat) : List Nat := joinL [44] ((kinds ps).map fun k => piece k (ps.count k))
def pileL (ps : List Nat) : Nat := (layRow 0 (cntL ps) (rowL ps)).toNat
def leafL (ps : List Nat) : List Nat := headL ps ++ [59] ++ ltL (pileL ps)
theorem mem_kinds {ps : List Nat} {k : Nat} : k ∈ kinds ps ↔ k < 94 ∧ k ∈ ps := by
  unfold kinds
  rw [List.mem_filter, List.mem_range, decide_eq_true_eq]
theorem kinds_nodup (ps : List Nat) : (kinds ps).Nodup := List.nodup_range.filter _
theorem kinds_len (ps : List Nat) : (kinds ps).length ≤ 94 := by
  unfold kinds
  have := List.length_filter_le (fun k => decide (k ∈ ps)) (List.range 94)
  rw [List.length_range] at this
  exact this
theorem kinds_up (ps : List Nat) : (kinds ps).Pairwise (· < ·) := List.pairwise_lt_range.filter _
theorem count_sum : ∀ (ps ks : List Nat), ks.Nodup → (∀ p ∈ ps, p ∈ ks) → (ks.map fun k => ((ps.count k : Nat) : Int)).sum = ps.length
  | [], ks, _, _ => by
    have : ks.map (fun k => ((([] : List Nat).count k : Nat) : Int)) = List.replicate ks.length 0 := List.eq_replicate_iff.mpr ⟨by simp, fun b hb => by
      obtain ⟨k, _, rfl⟩ := List.mem_map.mp hb
      rfl⟩
    rw [this]
    generalize ks.length = n
    induction n with
    | zero => rfl
    | succ n ih => rw [List.replicate_succ, List.sum_cons, ih]; rfl
  | p :: r, ks, nd, h => by
    have ih := count_sum r ks nd fun x hx => h x (List.mem_cons_of_mem _ hx)
    have key : ∀ (ks : List Nat), ks.Nodup → (ks.map fun k => (((p :: r).count k : Nat) : Int)).sum = (ks.map fun k => ((r.count k : Nat) : Int)).sum + (if p ∈ ks then 1 else 0) := by
      intro ks
      induction ks with
      | nil => intro _; simp
      | cons k ks ih2 =>
        intro nd
        obtain ⟨n1, n2⟩ := List.nodup_cons.mp nd
        rw [List.map_cons, List.sum_cons, ih2 n2, List.map_cons, List.sum_cons, List.count_cons]
        by_cases e : p = k
        · subst e
          rw [if_neg n1, if_pos List.mem_cons_self]
          simp
          omega
        · have e2 : (p ∈ k :: ks) = (p ∈ ks) := by
            rw [List.mem_cons]
            exact propext ⟨fun h => h.resolve_left e, .inr⟩
          simp only [e2]
          have : (p == k) = false := beq_eq_false_iff_ne.mpr e
          rw [this]
          simp
          omega
    rw [key ks nd, ih, if_pos (h p List.mem_cons_self), List.length_cons]
    omega
section
variable {ps : List Nat}
theorem cntL_sum (t : Tx ps) : (cntL ps).sum = ps.length := count_sum ps (kinds ps) (kinds_nodup ps) fun p hp => mem_kinds.mpr ⟨t.lt p hp, hp⟩
theorem cntL_len (ps : List Nat) : (cntL ps).length = (kinds ps).length := by simp [cntL]
theorem cntL_in (t : Tx ps) : ∀ c ∈ cntL ps, 1 ≤ c ∧ c ≤ 150 := fun c hc => by
  obtain ⟨k, hk, rfl⟩ := List.mem_map.mp hc
  have h1 := List.count_pos_iff.mpr (mem_kinds.mp hk).2
  have h2 := List.count_le_length (a := k) (l := ps)
  have := t.len
  omega
theorem kinds_pos (t : Tx ps) (ne : ps ≠ []) : 0 < (kinds ps).length := by
  obtain ⟨p, r, rfl⟩ := List.exists_cons_of_ne_nil ne
  exact List.length_pos_of_mem (mem_kinds.mpr ⟨t.lt p List.mem_cons_self, List.mem_cons_self⟩)
theorem cntL_good (t : Tx ps) (ne : ps ≠ []) : Good (cntL ps) := by
  have kl := kinds_len ps
  have kp := kinds_pos t ne
  have cl := cntL_len ps
  have s := cntL_sum t
  have hp := List.length_pos_iff.mpr ne
  exact ⟨by omega, by omega, fun c hc => by have := cntL_in t c hc; omega, fun c hc => by have := cntL_in t c hc; omega, by omega⟩
theorem rowL_len (ps : List Nat) : (rowL ps).length = ps.length := by simp [rowL]
theorem rowL_sign (t : Tx ps) : ∀ s ∈ rowL ps, Sign (cntL ps) s := fun s hs => by
  obtain ⟨p, hp, rfl⟩ := List.mem_map.mp hs
  have hm := mem_kinds.mpr ⟨t.lt p hp, hp⟩
  have hl := List.idxOf_lt_length_of_mem hm
  have cl := cntL_len ps
  have ec := cnt_at (ns := cntL ps) (s := (((kinds ps).idxOf p : Nat) : Int)) (by omega) (by omega)
  refine ⟨by omega, by omega, ?_⟩
  have := (cntL_in t _ (List.mem_of_getElem? ec)).1
  omega
theorem row_back_text (t : Tx ps) : (rowL ps).map (fun s => (kinds ps).getD s.toNat 0) = ps := by
  unfold rowL
  rw [List.map_map]
  refine (List.map_congr_left fun p hp => ?_).trans (List.map_id ps)
  show (kinds ps).getD (((kinds ps).idxOf p : Nat) : Int).toNat 0 = p
  rw [Int.toNat_natCast, List.getD_eq_getElem?_getD, idx_at (mem_kinds.mpr ⟨t.lt p hp, hp⟩)]
  rfl
theorem lay_nn (t : Tx ps) : 0 ≤ layRow 0 (cntL ps) (rowL ps) := by
  by_cases h : ps = []
  · subst h
    exact Int.le_refl _
  · exact layRow_nn (cntL_good t h) (Int.le_refl _) (rowL_sign t)
theorem pileL_eq (t : Tx ps) : ((pileL ps : Nat) : Int) = layRow 0 (cntL ps) (rowL ps) := by
  have := lay_nn t
  unfold pileL
  omega
end
theorem lay_top {ns : List Int} (g : Good ns) {p : Int} (hp : 0 ≤ p) : ∀ {row : List Int}, (∀ s ∈ row, Sign ns s) → layRow p ns row + 1 ≤ (p + 1) * ns.sum ^ row.length
  | [], _ => by
    show p + 1 ≤ (p + 1) * ns.sum ^ 0
    rw [Int.pow_zero, Int.mul_one]
    exact Int.le_refl _
  | s :: r, hr => by
    have ih := lay_top g hp (row := r) fun x hx => hr x (List.mem_cons_of_mem _ hx)
    have sg := hr s List.mem_cons_self
    have nn := layRow_nn g hp (row := r) fun x hx => hr x (List.mem_cons_of_mem _ hx)
    have l := (put_level g sg (layRow p ns r)).2
    have c := sg.cp
    have sp := g.sum
    have d : layRow p ns r / cnt ns s ≤ layRow p ns r := Int.ediv_le_self _ nn
    have m : ns.sum * (layRow p ns r / cnt ns s + 1) ≤ ns.sum * (layRow p ns r + 1) := Int.mul_le_mul_of_nonneg_left (by omega) (by omega)
    have m2 : ns.sum * (layRow p ns r + 1) ≤ ns.sum * ((p + 1) * ns.sum ^ r.length) := Int.mul_le_mul_of_nonneg_left ih (by omega)
    show put (layRow p ns r) ns s + 1 ≤ _
    rw [List.length_cons, Int.pow_succ, Int.mul_comm (ns.sum ^ r.length), ← Int.mul_assoc, Int.mul_comm (p + 1), Int.mul_assoc]
    omega
theorem pow_top {b : Int} (b0 : 1 ≤ b) (b1 : b ≤ 256) : ∀ n : Nat, b ^ n ≤ ((2 ^ (8 * n) : Nat) : Int)
  | 0 => by
    rw [Int.pow_zero]
    decide
  | n + 1 => by
    have ih := pow_top b0 b1 n
    have e : 2 ^ (8 * (n + 1)) = 2 ^ (8 * n) * 256 := by
      rw [show 8 * (n + 1) = 8 * n + 8 by omega, Nat.pow_add]
    rw [Int.pow_succ, e]
    have h0 : 0 ≤ b ^ n := Int.pow_nonneg (by omega)
    have := Int.mul_le_mul ih b1 (by omega) (by omega)
    rw [Int.natCast_mul]
    exact this
theorem pileL_top {ps : List Nat} (t : Tx ps) : pileL ps < 2 ^ 1200 := by
  by_cases h : ps = []
  · subst h
    exact Nat.lt_of_lt_of_le (show pileL [] < 1 from Nat.lt_succ_self 0) (Nat.one_le_two_pow)
  · have g := cntL_good t h
    have l := lay_top g (Int.le_refl 0) (rowL_sign t)
    have s := cntL_sum t
    have tl := t.len
    have b := pow_top (b := (cntL ps).sum) (by have := g.sum; omega) (by omega) (rowL ps).length
    have e := pileL_eq t
    have rl := rowL_len ps
    have h2 : 2 ^ (8 * (rowL ps).length) ≤ 2 ^ 1200 := Nat.pow_le_pow_right (by decide) (by omega)
    omega
/-! what a leaf tells -/
def figL (w : List Nat) : Option Nat := if w ≠ [] ∧ w.length ≤ 3 ∧ (∀ c ∈ w, 48 ≤ c ∧ c ≤ 57) then some (NumText.digitsVal w) else none
def pieceL (q : List Nat) : Option (Nat × Nat) := match figL (cutAt 120 q).1, figL (cutAt 120 q).2 with
  | some p, some n => if p < 94 ∧ n ≠ 0 then some (p, n) else none
  | _, _ => none
def piecesL : List (List Nat) → Option (List (Nat × Nat))
  | [] => some []
  | q :: r => match pieceL q, piecesL r with
    | some x, some xs => some (x :: xs)
    | _, _ => none
def csOf (xs : List (Nat × Nat)) : List Int := xs.map fun x => ((x.2 : Nat) : Int)
def textOf (xs : List (Nat × Nat)) (n : Nat) : List Nat := (takenRow (csOf xs) n (csOf xs).sum.toNat).map fun s => (xs.map (·.1)).getD s.toNat 0
def partsL (L : List Nat) : List (List Nat) := spl [44] 0 [] (cutAt 59 L).1
def told (L : List Nat) : Option (List Nat) := match piecesL (partsL L) with
  | none => none
  | some xs => if xs.length ≤ 94 ∧ (csOf xs).sum ≤ 150 ∧ (∀ c ∈ (cutAt 59 L).2, 97 ≤ c ∧ c ≤ 122) then some (textOf xs (fromL (cutAt 59 L).2)) else none
def unpackL (L : List Nat) : Option (List Nat) := if L = [59, 97] then some [] else match told L with
  | none => none
  | some ps => if leafL ps = L then some ps else none
theorem cut_at {s : Nat} {a b : List Nat} (h : s ∉ a) : cutAt s (a ++ [s] ++ b) = (a, b) := by
  unfold cutAt
  have e := par_part1 (s := s) (S := []) (p := a) (rest := b) (acc := []) h
  rw [List.append_assoc]
  have e : par [s] [] (a ++ ([s] ++ b)) = some (a, b) := e
  rw [e]
theorem cut_no {s : Nat} {a : List Nat} (h : s ∉ a) : cutAt s a = (a, []) := by
  unfold cutAt
  rw [par_none1 (s := s) (S := []) (p := a) (acc := []) h]
theorem join_in {s : List Nat} : ∀ {parts : List (List Nat)} {c : Nat}, c ∈ joinL s parts → c ∈ s ∨ ∃ p ∈ parts, c ∈ p
  | [], c, h => by cases h
  | [p], c, h => .inr ⟨p, List.mem_singleton.mpr rfl, h⟩
  | p :: q :: r, c, h => by
    have h : c ∈ p ++ (s ++ joinL s (q :: r)) := h
    rcases List.mem_append.mp h with h | h
    · exact .inr ⟨p, List.mem_cons_self, h⟩
    rcases List.mem_append.mp h with h | h
    · exact .inl h
    · rcases join_in h with h | ⟨x, hx, hc⟩
      · exact .inl h
      · exact .inr ⟨x, List.mem_cons_of_mem _ hx, hc⟩
theorem piece_in {p n c : Nat} (h : c ∈ piece p n) : c = 120 ∨ (48 ≤ c ∧ c ≤ 57) := by
  unfold piece at h
  rcases List.mem_append.mp h with h | h
  · rcases List.mem_append.mp h with h | h
    · exact .inr (numL_digits p c h)
    · exact .inl (List.mem_singleton.mp h)
  · exact .inr (numL_digits n c h)
theorem fig_num {n : Nat} (h : n < 1000) : figL (numL n) = some n := by
  unfold figL
  rw [if_pos ⟨numL_ne n, numL_len (by decide) h, numL_digits n⟩, numL_val]
theorem piece_told {p n : Nat} (hp : p < 94) (hn : n ≠ 0) (h2 : n < 1000) : pieceL (piece p n) = some (p, n) := by
  unfold pieceL piece
  rw [cut_at (numL_free (by omega))]
  rw [fig_num (by omega), fig_num h2]
  show (if p < 94 ∧ n ≠ 0 then some (p, n) else none) = _
  rw [if_pos ⟨hp, hn⟩]
theorem pieces_told : ∀ (ks : List Nat) (f : Nat → Nat), (∀ k ∈ ks, k < 94 ∧ f k ≠ 0 ∧ f k < 1000) → piecesL (ks.map fun k => piece k (f k)) = some (ks.map fun k => (k, f k))
  | [], _, _ => rfl
  | k :: r, f, h => by
    obtain ⟨h1, h2, h3⟩ := h k List.mem_cons_self
    rw [List.map_cons]
    unfold piecesL
    rw [piece_told h1 h2 h3, pieces_told r f fun x hx => h x (List.mem_cons_of_mem _ hx)]
    rfl
section
variable {ps : List Nat}
theorem headL_free (s : Nat) (h1 : s ≠ 44) (h2 : s ≠ 120) (h3 : s < 48 ∨ 57 < s) : s ∉ headL ps := fun hm => by
  rcases join_in hm with h | ⟨q, hq, h⟩
  · exact h1 (List.mem_singleton.mp h)
  · obtain ⟨k, _, rfl⟩ := List.mem_map.mp hq
    rcases piece_in h with h | h <;> omega
theorem leaf_cut : cutAt 59 (leafL ps) = (headL ps, ltL (pileL ps)) := cut_at (headL_free 59 (by decide) (by decide) (by decide))
theorem leaf_pieces (t : Tx ps) (ne : ps ≠ []) : piecesL (partsL (leafL ps)) = some ((kinds ps).map fun k => (k, ps.count k)) := by
  unfold partsL
  rw [leaf_cut]
  have kp := kinds_pos t ne
  have hne : ((kinds ps).map fun k => piece k (ps.count k)) ≠ [] := fun e => by
    have := congrArg List.length e
    rw [List.length_map] at this
    simp at this
    rw [this] at kp
    simp at kp
  have e : spl [44] 0 [] (headL ps) = (kinds ps).map fun k => piece k (ps.count k) := spl_join (s := 44) (S := []) hne fun p hp => by
    obtain ⟨k, _, rfl⟩ := List.mem_map.mp hp
    intro hm
    rcases piece_in hm with h | h <;> omega
  show piecesL (spl [44] 0 [] (headL ps)) = _
  rw [e]
  refine pieces_told (kinds ps) (fun k => ps.count k) fun k hk => ?_
  obtain ⟨k1, k2⟩ := mem_kinds.mp hk
  have h1 := List.count_pos_iff.mpr k2
  have h2 := List.count_le_length (a := k) (l := ps)
  have := t.len
  exact ⟨k1, by omega, by omega⟩
theorem told_leaf (t : Tx ps) (ne : ps ≠ []) : told (leafL ps) = some ps := by
  unfold told
  rw [leaf_pieces t ne, leaf_cut]
  have e1 : csOf ((kinds ps).map fun k => (k, ps.count k)) = cntL ps := by
    unfold csOf cntL
    rw [List.map_map]
    rfl
  have e2 : ((kinds ps).map fun k => (k, ps.count k)).map (·.1) = kinds ps := by
    rw [List.map_map]
    exact List.map_id _
  have s := cntL_sum t
  have tl := t.len
  show (if _ ∧ _ ∧ _ then some (textOf _ (fromL (ltL (pileL ps)))) else none) = _
  rw [if_pos ⟨by rw [List.length_map]; exact kinds_len ps, by rw [e1]; omega, ltL_in _⟩]
  congr 1
  unfold textOf
  rw [e1, e2, from_lt, pileL_eq t, show (cntL ps).sum.toNat = (rowL ps).length by rw [rowL_len]; omega, (row_back (cntL_good t ne) (rowL_sign t)).1]
  exact row_back_text t
theorem leaf_empty : leafL [] = [59, 97] := by decide
theorem leaf_ne (t : Tx ps) (ne : ps ≠ []) : leafL ps ≠ [59, 97] := fun e => by
  have h := told_leaf t ne
  rw [e] at h
  have : told [59, 97] = none := by decide
  rw [this] at h
  cases h
theorem unpack_leaf (t : Tx ps) : unpackL (leafL ps) = some ps := by
  unfold unpackL
  by_cases ne : ps = []
  · subst ne
    rw [if_pos leaf_empty]
  · rw [if_neg (leaf_ne t ne), told_leaf t ne]
    show (if leafL ps = leafL ps then some ps else none) = _
    rw [if_pos rfl]
end
/-! what is told is a text -/
theorem fig_lt {w : List Nat} {n : Nat} (h : figL w = some n) : n < 1000 := by
  unfold figL at h
  split at h
  · rename_i hc
    cases h
    obtain ⟨h0, h1, h2⟩ := hc
    match w, h1, h2 with
    | [], _, _ => decide
    | [a], _, h2 =>
      have ha := h2 a (by simp)
      show 0 * 10 + (a - 48) < 1000
      omega
    | [a, b], _, h2 =>
      have ha := h2 a (by simp)
      have hb := h2 b (by simp)
      show (0 * 10 + (a - 48)) * 10 + (b - 48) < 1000
      omega
    | [a, b, c], _, h2 =>
      have ha := h2 a (by simp)
      have hb := h2 b (by simp)
      have hc := h2 c (by simp)
      show ((0 * 10 + (a - 48)) * 10 + (b - 48)) * 10 + (c - 48) < 1000
      omega
    | _ :: _ :: _ :: _ :: _, h1, _ => simp at h1
  · cases h
theorem piece_ok {q : List Nat} {x : Nat × Nat} (h : pieceL q = some x) : x.1 < 94 ∧ 1 ≤ x.2 ∧ x.2 < 1000 := by
  unfold pieceL at h
  cases e1 : figL (cutAt 120 q).1 with
  | none => rw [e1] at h; cases h
  | some p =>
    cases e2 : figL (cutAt 120 q).2 with
    | none => rw [e1, e2] at h; cases h
    | some n =>
      rw [e1, e2] at h
      have h : (if p < 94 ∧ n ≠ 0 then some (p, n) else none) = some x := h
      split at h
      · rename_i hc
        cases h
        exact ⟨hc.1, by have := hc.2; omega, fig_lt e2⟩
      · cases h
theorem pieces_ok : ∀ {qs : List (List Nat)} {xs : List (Nat × Nat)}, piecesL qs = some xs → xs.length = qs.length ∧ ∀ x ∈ xs, x.1 < 94 ∧ 1 ≤ x.2 ∧ x.2 < 1000
  | [], xs, h => by
    cases h
    exact ⟨rfl, fun x hx => by cases hx⟩
  | q :: r, xs, h => by
    unfold piecesL at h
    cases e1 : pieceL q with
    | none => rw [e1] at h; cases h
    | some y =>
      cases e2 : piecesL r with
      | none => rw [e1, e2] at h; cases h
      | some ys =>
        rw [e1, e2] at h
        cases h
        obtain ⟨h1, h2⟩ := pieces_ok e2
        refine ⟨by rw [List.length_cons, List.length_cons, h1], fun x hx => ?_⟩
        rcases List.mem_cons.mp hx with rfl | hx
        · exact piece_ok e1
        · exact h2 x hx
theorem spl_ne (S : List Nat) : ∀ (l : List Nat) (k : Nat) (acc : List Nat), spl S k acc l ≠ []
  | [], k, acc => by
    rw [spl_nil]
    simp
  | c :: r, 0, acc => by
    cases h : pre S (c :: r) with
    | true =>
      rw [spl_hit h]
      simp
    | false =>
      rw [spl_miss h]
      exact spl_ne S r 0 _
  | c :: r, k + 1, acc => by
    show spl S k acc r ≠ []
    exact spl_ne S r k acc
theorem csOf_good {xs : List (Nat × Nat)} (h0 : xs ≠ []) (h : ∀ x ∈ xs, x.1 < 94 ∧ 1 ≤ x.2 ∧ x.2 < 1000) (hl : xs.length ≤ 94) : Good (csOf xs) := by
  have hin : ∀ c ∈ csOf xs, 1 ≤ c ∧ c ≤ 999 := fun c hc => by
    obtain ⟨x, hx, rfl⟩ := List.mem_map.mp hc
    have := h x hx
    omega
  have ln : (csOf xs).length = xs.length := by simp [csOf]
  have hp := List.length_pos_iff.mpr h0
  refine ⟨by omega, by omega, fun c hc => by have := hin c hc; omega, fun c hc => (hin c hc).2, ?_⟩
  obtain ⟨x, r, rfl⟩ := List.exists_cons_of_ne_nil h0
  have hm : ((x.2 : Nat) : Int) ∈ csOf (x :: r) := List.mem_cons_self
  have h1 := mem_le_sum (fun c hc => by have := hin c hc; omega) hm
  have := hin _ hm
  omega
theorem told_tx {L ps : List Nat} (h : told L = some ps) : Tx ps := by
  unfold told at h
  cases e : piecesL (partsL L) with
  | none => rw [e] at h; cases h
  | some xs =>
    rw [e] at h
    have h : (if xs.length ≤ 94 ∧ (csOf xs).sum ≤ 150 ∧ (∀ c ∈ (cutAt 59 L).2, 97 ≤ c ∧ c ≤ 122) then some (textOf xs (fromL (cutAt 59 L).2)) else none) = some ps := h
    split at h
    · rename_i hc
      cases h
      refine ⟨fun p hp => ?_, ?_⟩
      · obtain ⟨s, _, rfl⟩ := List.mem_map.mp hp
        rw [List.getD_eq_getElem?_getD]
        cases e2 : (xs.map (·.1))[s.toNat]? with
        | none => decide
        | some y =>
          obtain ⟨x, hx, rfl⟩ := List.mem_map.mp (List.mem_of_getElem? e2)
          exact ((pieces_ok e).2 x hx).1
      · unfold textOf
        rw [List.length_map, takenRow_len]
        have := hc.2.1
        omega
    · cases h
theorem unpack_tx {L ps : List Nat} (h : unpackL L = some ps) : Tx ps ∧ leafL ps = L := by
  unfold unpackL at h
  split at h
  · rename_i e
    cases h
    exact ⟨⟨(fun p hp => by cases hp), Nat.zero_le _⟩, by rw [e]; exact leaf_empty⟩
  · cases e : told L with
    | none => rw [e] at h; cases h
    | some qs =>
      rw [e] at h
      have h : (if leafL qs = L then some qs else none) = some ps := h
      split at h
      · rename_i e2
        cases h
        exact ⟨told_tx e, e2⟩
      · cases h
/-! lengths -/
theorem num_len {n : Nat} (h : n < 1000) : (numL n).length ≤ 3 := numL_len (by decide) h
theorem piece_len {p n : Nat} (hp : p < 94) (hn : n < 1000) : (piece p n).length ≤ 7 := by
  unfold piece
  have h1 := num_len (n := p) (by omega)
  have h2 := num_len hn
  simp only [List.length_append, List.length_singleton]
  omega
theorem join_len {s : List Nat} : ∀ (parts : List (List Nat)) (k : Nat), (∀ p ∈ parts, p.length ≤ k) → (joinL s parts).length ≤ parts.length * (k + s.length)
  | [], k, _ => Nat.zero_le _
  | [p], k, h => by
    have := h p List.mem_cons_self
    show p.length ≤ 1 * (k + s.length)
    omega
  | p :: q :: r, k, h => by
    have h1 := h p List.mem_cons_self
    have ih := join_len (s := s) (q :: r) k fun x hx => h x (List.mem_cons_of_mem _ hx)
    show (p ++ (s ++ joinL s (q :: r))).length ≤ _
    rw [List.length_append, List.length_append, List.length_cons, Nat.succ_mul]
    omega
theorem headL_len {ps : List Nat} (t : Tx ps) : (headL ps).length ≤ 752 := by
  have h := join_len (s := [44]) ((kinds ps).map fun k => piece k (ps.count k)) 7 fun p hp => by
    obtain ⟨k, hk, rfl⟩ := List.mem_map.mp hp
    have h2 := List.count_le_length (a := k) (l := ps)
    have := t.len
    exact piece_len (mem_kinds.mp hk).1 (by omega)
  rw [List.length_map] at h
  have := kinds_len ps
  show (joinL [44] _).length ≤ 752
  refine Nat.le_trans h ?_
  show (kinds ps).length * 8 ≤ 752
  omega
theorem leafL_len {ps : List Nat} (t : Tx ps) : (leafL ps).length ≤ 1960 := by
  have h1 := headL_len t
  have h2 := ltL_len (pileL_top t)
  unfold leafL
  simp only [List.length_append, List.length_singleton]
  omega
/-! what the walks ask -/
theorem given_kinds (ps : List Nat) (f : Nat → Bool) (g : Nat → L2.V) (hf : ∀ i, i < 94 → f i = decide (i ∈ ps)) (hg : ∀ i, i < 94 → g i = .str (S [cod i])) : Evl.given sgs.length f g = sL ((kinds ps).map cod) := by
  have e : sgs.length = 94 := by simp [sgs]
  unfold Evl.given kinds
  rw [e]
  show _ = (((List.range 94).filter (fun k => decide (k ∈ ps))).map cod).map fun c => L2.V.str (S [c])
  rw [List.map_map]
  have e1 : (List.range 94).filter f = (List.range 94).filter (fun k => decide (k ∈ ps)) := List.filter_congr fun i hi => hf i (List.mem_range.mp hi)
  rw [e1]
  refine List.map_congr_left fun i hi => ?_
  rw [hg i (List.mem_range.mp (List.mem_filter.mp hi).1)]
  rfl
theorem mem_code {ps : List Nat} {k : Nat} : cod k ∈ ps.map cod ↔ k ∈ ps := by
  rw [List.mem_map]
  exact ⟨fun ⟨p, hp, e⟩ => by rw [← code_inj e]; exact hp, fun h => ⟨k, h, rfl⟩⟩
theorem count_code : ∀ (ps : List Nat) (k : Nat), (ps.map cod).count (cod k) = ps.count k
  | [], _ => rfl
  | p :: r, k => by
    rw [List.map_cons, List.count_cons, List.count_cons, count_code r k]
    by_cases h : p = k
    · subst h
      simp
    · have h2 : ¬ cod p = cod k := fun e => h (code_inj e)
      have e1 : (cod p == cod k) = false := beq_eq_false_iff_ne.mpr h2
      have e2 : (p == k) = false := beq_eq_false_iff_ne.mpr h
      rw [e1, e2]
theorem idx_code {ks : List Nat} {k : Nat} (nd : ks.Nodup) (h : k ∈ ks) : (ks.map cod).idxOf (cod k) = ks.idxOf k := by
  have nd2 : (ks.map cod).Nodup := List.pairwise_map.mpr (nd.imp fun {a b} ne e => ne (code_inj e))
  refine idx_of nd2 ?_
  rw [List.getElem?_map, idx_at h]
  rfl
theorem kinds_nil {ps : List Nat} (t : Tx ps) (h : (kinds ps).length = 0) : ps = [] := by
  refine Classical.byContradiction fun ne => ?_
  have := kinds_pos t ne
  omega
/-- pieces, one after the other -/
theorem pieces_snoc : ∀ {qs : List (List Nat)} {xs : List (Nat × Nat)} {q : List Nat} {x : Nat × Nat}, piecesL qs = some xs → pieceL q = some x → piecesL (qs ++ [q]) = some (xs ++ [x])
  | [], xs, q, x, h, hx => by
    cases h
    show piecesL [q] = _
    unfold piecesL
    rw [hx]
    rfl
  | p :: r, xs, q, x, h, hx => by
    unfold piecesL at h
    cases e1 : pieceL p with
    | none => rw [e1] at h; cases h
    | some y =>
      cases e2 : piecesL r with
      | none => rw [e1, e2] at h; cases h
      | some ys =>
        rw [e1, e2] at h
        cases h
        rw [List.cons_append]
        unfold piecesL
        rw [e1, pieces_snoc e2 hx]
        rfl
theorem pieces_fail : ∀ {qs : List (List Nat)} {q : List Nat}, q ∈ qs → pieceL q = none → piecesL qs = none
  | p :: r, q, hm, h => by
    unfold piecesL
    rcases List.mem_cons.mp hm with rfl | hm
    · rw [h]
    · rw [pieces_fail hm h]
      cases pieceL p <;> rfl
theorem unpack_none {L : List Nat} (h : told L = none) (h2 : L ≠ [59, 97]) : unpackL L = none := by
  unfold unpackL
  rw [if_neg h2, h]
theorem told_none {L : List Nat} (h : piecesL (partsL L) = none) : told L = none := by
  unfold told
  rw [h]
theorem told_some {L : List Nat} {xs : List (Nat × Nat)} (h : piecesL (partsL L) = some xs) : told L = if xs.length ≤ 94 ∧ (csOf xs).sum ≤ 150 ∧ (∀ c ∈ (cutAt 59 L).2, 97 ≤ c ∧ c ≤ 122) then some (textOf xs (fromL (cutAt 59 L).2)) else none := by
  unfold told
  rw [h]
theorem fig_none {w : List Nat} (h : ¬ (w ≠ [] ∧ w.length ≤ 3 ∧ (∀ c ∈ w, 48 ≤ c ∧ c ≤ 57))) : figL w = none := by
  unfold figL
  rw [if_neg h]
theorem fig_some {w : List Nat} (h : w ≠ [] ∧ w.length ≤ 3 ∧ (∀ c ∈ w, 48 ≤ c ∧ c ≤ 57)) : figL w = some (NumText.digitsVal w) := by
  unfold figL
  rw [if_pos h]
theorem piece_a {q : List Nat} (h : figL (cutAt 120 q).1 = none) : pieceL q = none := by
  unfold pieceL
  rw [h]
theorem piece_b {q : List Nat} {p : Nat} (h1 : figL (cutAt 120 q).1 = some p) (h : figL (cutAt 120 q).2 = none) : pieceL q = none := by
  unfold pieceL
  rw [h1, h]
theorem piece_c {q : List Nat} {p n : Nat} (h1 : figL (cutAt 120 q).1 = some p) (h : figL (cutAt 120 q).2 = some n) : pieceL q = if p < 94 ∧ n ≠ 0 then some (p, n) else none := by
  unfold pieceL
  rw [h1, h]
theorem piece_d {q : List Nat} {p : Nat} (h1 : figL (cutAt 120 q).1 = some p) (h : ¬ p < 94) : pieceL q = none := by
  cases e : figL (cutAt 120 q).2 with
  | none => exact piece_b h1 e
  | some n => rw [piece_c h1 e, if_neg fun z => h z.1]
theorem from_snoc {l : List Nat} {i c : Nat} (h : l[i]? = some c) : fromL (l.take (i + 1)) = 26 * fromL (l.take i) + (c - 97) := by
  obtain ⟨hl, e⟩ := List.getElem?_eq_some_iff.mp h
  unfold fromL
  rw [List.take_succ_eq_append_getElem hl, e, List.foldl_append]
  rfl
theorem join_sg : ∀ (l : List Nat), joinL [] (l.map fun c => [c]) = l
  | [] => rfl
  | [c] => rfl
  | c :: d :: r => by
    show [c] ++ ([] ++ joinL [] ((d :: r).map fun c => [c])) = _
    rw [join_sg (d :: r)]
    rfl
theorem sum_singles (l : List Nat) : ((l.map fun c => [c]).map List.length).sum = l.length := by
  induction l with
  | nil => rfl
  | cons c r ih =>
    rw [List.map_cons, List.map_cons, List.sum_cons, ih, List.length_cons]
    exact Nat.add_comm 1 r.length
theorem par_len {S : List Nat} : ∀ (l acc : List Nat) {x y : List Nat}, par S acc l = some (x, y) → x.length ≤ acc.length + l.length ∧ y.length ≤ l.length
  | [], acc, x, y, h => by cases h
  | c :: r, acc, x, y, h => by
    cases hp : pre S (c :: r) with
    | true =>
      rw [par_hit hp] at h
      cases h
      refine ⟨Nat.le_add_right _ _, ?_⟩
      rw [List.length_drop]
      omega
    | false =>
      rw [par_miss hp] at h
      have := par_len r _ h
      rw [List.length_append] at this
      simp at this ⊢
      omega
theorem cut_len (s : Nat) (l : List Nat) : (cutAt s l).1.length ≤ l.length ∧ (cutAt s l).2.length ≤ l.length := by
  unfold cutAt
  cases h : par [s] [] l with
  | none => exact ⟨Nat.le_refl _, Nat.zero_le _⟩
  | some z =>
    have := par_len l [] (x := z.1) (y := z.2) h
    simp at this
    exact this
theorem spl_len (S : List Nat) : ∀ (l : List Nat) (k : Nat) (acc : List Nat), ∀ p ∈ spl S k acc l, p.length ≤ acc.length + l.length
  | [], k, acc, p, h => by
    rw [spl_nil] at h
    rw [List.mem_singleton.mp h]
    exact Nat.le_refl _
  | c :: r, 0, acc, p, h => by
    cases hp : pre S (c :: r) with
    | true =>
      rw [spl_hit hp] at h
      rcases List.mem_cons.mp h with rfl | h
      · exact Nat.le_add_right _ _
      · have := spl_len S r _ _ p h
        simp at this ⊢
        omega
    | false =>
      rw [spl_miss hp] at h
      have := spl_len S r _ _ p h
      rw [List.length_append] at this
      simp at this ⊢
      omega
  | c :: r, k + 1, acc, p, h => by
    have h : p ∈ spl S k acc r := h
    have := spl_len S r k acc p h
    simp
    omega
theorem spl_many (S : List Nat) : ∀ (l : List Nat) (k : Nat) (acc : List Nat), (spl S k acc l).length ≤ l.length + 1
  | [], k, acc => by
    rw [spl_nil]
    exact Nat.le_refl _
  | c :: r, 0, acc => by
    cases hp : pre S (c :: r) with
    | true =>
      rw [spl_hit hp, List.length_cons, List.length_cons]
      exact Nat.succ_le_succ (spl_many S r _ _)
    | false =>
      rw [spl_miss hp]
      exact Nat.le_trans (spl_many S r _ _) (by simp)
  | c :: r, k + 1, acc => by
    show (spl S k acc r).length ≤ _
    exact Nat.le_trans (spl_many S r k acc) (by simp)
theorem csOf_snoc (xs : List (Nat × Nat)) (p n : Nat) : iL (csOf (xs ++ [(p, n)])) = iL (csOf xs) ++ [L2.V.int (n : Int)] := by
  unfold csOf
  rw [List.map_append]
  show List.map L2.V.int (_ ++ _) = _
  rw [List.map_append]
  rfl
theorem sL_snoc (xs : List (Nat × Nat)) (p n : Nat) : sL ((xs ++ [(p, n)]).map fun x => cod x.1) = sL (xs.map fun x => cod x.1) ++ [L2.V.str (S [cod p])] := by
  rw [List.map_append]
  show List.map _ (_ ++ _) = _
  rw [List.map_append]
  rfl
theorem csOf_len (xs : List (Nat × Nat)) : (csOf xs).length = xs.length := by simp [csOf]
theorem told_then {L : List Nat} {xs : List (Nat × Nat)} (h : piecesL (partsL L) = some xs) (h1 : xs.length ≤ 94) (h2 : (csOf xs).sum ≤ 150) (h3 : ∀ c ∈ (cutAt 59 L).2, 97 ≤ c ∧ c ≤ 122) : told L = some (textOf xs (fromL (cutAt 59 L).2)) := by
  rw [told_some h, if_pos ⟨h1, h2, h3⟩]
theorem told_else {L : List Nat} {xs : List (Nat × Nat)} (h : piecesL (partsL L) = some xs) (h1 : ¬ (xs.length ≤ 94 ∧ (csOf xs).sum ≤ 150 ∧ ∀ c ∈ (cutAt 59 L).2, 97 ≤ c ∧ c ≤ 122)) : told L = none := by
  rw [told_some h, if_neg h1]
theorem unpack_then {L ps : List Nat} (h : told L = some ps) (h2 : L ≠ [59, 97]) : unpackL L = if leafL ps = L then some ps else none := by
  unfold unpackL
  rw [if_neg h2, h]
/-! the law's own leaf -/
theorem sgs_cat : [32, 33, 34, 35, 36, 38, 39, 40, 41, 42, 43, 44, 45, 46, 47, 48, 49, 50, 51, 52, 53, 54, 55, 56, 57, 58, 59, 60, 61, 62, 63, 64, 65, 66, 67, 68, 69, 70, 71, 72, 73, 74, 75, 76, 77, 78, 79, 80, 81, 82, 83, 84, 85, 86, 87, 88, 89, 90, 91, 92, 93, 94, 95, 96] ++ [97, 98, 99, 100, 101, 102, 103, 104, 105, 106, 107, 108, 109, 110, 111, 112, 113, 114, 115, 116, 117, 118, 119, 120, 121, 122, 123, 124, 125, 126] = sgs := by decide
theorem w_addSg {H : L2.Hp} {Q : L2.VK} (q : Q (.str (S sgs)) H) : rAddStr (.str (S [32, 33, 34, 35, 36, 38, 39, 40, 41, 42, 43, 44, 45, 46, 47, 48, 49, 50, 51, 52, 53, 54, 55, 56, 57, 58, 59, 60, 61, 62, 63, 64, 65, 66, 67, 68, 69, 70, 71, 72, 73, 74, 75, 76, 77, 78, 79, 80, 81, 82, 83, 84, 85, 86, 87, 88, 89, 90, 91, 92, 93, 94, 95, 96])) (.str (S [97, 98, 99, 100, 101, 102, 103, 104, 105, 106, 107, 108, 109, 110, 111, 112, 113, 114, 115, 116, 117, 118, 119, 120, 121, 122, 123, 124, 125, 126])) H Q :=
  w_addS (by decide) (by rw [sgs_cat]; exact q)
theorem lts_lit : [97, 98, 99, 100, 101, 102, 103, 104, 105, 106, 107, 108, 109, 110, 111, 112, 113, 114, 115, 116, 117, 118, 119, 120, 121, 122] = lts := by decide
theorem lit_at {d : Nat} (h : d < 26) : ([97, 98, 99, 100, 101, 102, 103, 104, 105, 106, 107, 108, 109, 110, 111, 112, 113, 114, 115, 116, 117, 118, 119, 120, 121, 122] : List Nat)[d]? = some (97 + d) := by
  rw [lts_lit]
  exact lts_at h
theorem ints_uniq : ∀ {as bs : List Int}, as.Pairwise (· < ·) → bs.Pairwise (· < ·) → (∀ x, x ∈ as ↔ x ∈ bs) → as = bs
  | [], [], _, _, _ => rfl
  | [], b :: r, _, _, h => by
    have := (h b).mpr List.mem_cons_self
    cases this
  | a :: r, [], _, _, h => by
    have := (h a).mp List.mem_cons_self
    cases this
  | a :: r, b :: t, ha, hb, h => by
    obtain ⟨a1, a2⟩ := List.pairwise_cons.mp ha
    obtain ⟨b1, b2⟩ := List.pairwise_cons.mp hb
    have e : a = b := by
      rcases List.mem_cons.mp ((h a).mp List.mem_cons_self) with e | m1
      · exact e
      · rcases List.mem_cons.mp ((h b).mpr List.mem_cons_self) with e | m2
        · exact e.symm
        · have h1 := a1 _ m2
          have h2 := b1 _ m1
          omega
    subst e
    refine congrArg (a :: ·) (ints_uniq a2 b2 fun x => ⟨fun hx => ?_, fun hx => ?_⟩)
    · have hlt := a1 x hx
      rcases List.mem_cons.mp ((h x).mp (List.mem_cons_of_mem _ hx)) with e | m
      · omega
      · exact m
    · have hlt := b1 x hx
      rcases List.mem_cons.mp ((h x).mpr (List.mem_cons_of_mem _ hx)) with e | m
      · omega
      · exact m
def kdI (ps : List Nat) : List Int := (kinds ps).map fun k => ((k : Nat) : Int)
def pI (ps : List Nat) : List Int := ps.map fun k => ((k : Nat) : Int)
theorem kdI_up (ps : List Nat) : (kdI ps).Pairwise (· < ·) := List.pairwise_map.mpr ((kinds_up ps).imp fun {a b} h => by omega)
theorem mem_pI {ps : List Nat} {k : Nat} : (k : Int) ∈ pI ps ↔ k ∈ ps := by
  unfold pI
  rw [List.mem_map]
  exact ⟨fun ⟨p, hp, e⟩ => by rw [show k = p by omega]; exact hp, fun h => ⟨k, h, rfl⟩⟩
theorem mem_kdI {ps : List Nat} (t : Tx ps) {x : Int} : x ∈ kdI ps ↔ x ∈ pI ps := by
  unfold kdI pI
  rw [List.mem_map, List.mem_map]
  exact ⟨fun ⟨k, hk, e⟩ => ⟨k, (mem_kinds.mp hk).2, e⟩, fun ⟨k, hk, e⟩ => ⟨k, mem_kinds.mpr ⟨t.lt k hk, hk⟩, e⟩⟩
theorem kdI_nodup (ps : List Nat) : (kdI ps).Nodup := List.pairwise_map.mpr ((kinds_nodup ps).imp fun {a b} ne e => ne (by omega))
theorem kdI_len (ps : List Nat) : (kdI ps).length = (kinds ps).length := by simp [kdI]
theorem kdI_idx {ps : List Nat} (t : Tx ps) {p : Nat} (h : p ∈ ps) : (kdI ps).idxOf (p : Int) = (kinds ps).idxOf p := by
  refine idx_of (kdI_nodup ps) ?_
  unfold kdI
  rw [List.getElem?_map, idx_at (mem_kinds.mpr ⟨t.lt p h, h⟩)]
  rfl
theorem kdI_at {ps : List Nat} {i : Nat} (h : i < (kinds ps).length) : (kdI ps)[i]? = some ((((kinds ps).getD i 0 : Nat)) : Int) := by
  unfold kdI
  rw [List.getElem?_map, List.getD_eq_getElem?_getD, List.getElem?_eq_getElem h]
  rfl
theorem row_count {ps : List Nat} (t : Tx ps) {i : Nat} (h : i < (kinds ps).length) : (rowL ps).count ((i : Nat) : Int) = ps.count ((kinds ps).getD i 0) := by
  unfold rowL
  rw [List.count, List.countP_map, List.count]
  refine List.countP_congr fun p hp => ?_
  have hk : (kinds ps)[i]? = some ((kinds ps).getD i 0) := by
    rw [List.getD_eq_getElem?_getD, List.getElem?_eq_getElem h]
    rfl
  have hm := mem_kinds.mpr ⟨t.lt p hp, hp⟩
  show ((((kinds ps).idxOf p : Nat) : Int) == ((i : Nat) : Int)) = true ↔ (p == (kinds ps).getD i 0) = true
  rw [beq_iff_eq, beq_iff_eq]
  constructor
  · intro e
    have e : (kinds ps).idxOf p = i := by omega
    have h2 := idx_at hm
    rw [e, hk] at h2
    exact (Option.some.inj h2).symm
  · intro e
    have := idx_of (kinds_nodup ps) (i := i) (x := p) (by rw [hk, e])
    omega
theorem range_getD (l : List Nat) : (List.range l.length).map (fun i => l.getD i 0) = l := by
  refine List.ext_getElem (by simp) fun i h1 h2 => ?_
  simp at h1
  simp [List.getElem?_eq_getElem h1]
theorem range_kinds {α : Type} (ps : List Nat) (f : Nat → α) : (List.range (kinds ps).length).map (fun i => f ((kinds ps).getD i 0)) = (kinds ps).map f := by
  have := congrArg (List.map f) (range_getD (kinds ps))
  rw [List.map_map] at this
  exact this
theorem cntL_at {ps : List Nat} {i : Nat} (h : i < (kinds ps).length) : (cntL ps)[i]? = some ((ps.count ((kinds ps).getD i 0) : Nat) : Int) := by
  unfold cntL
  rw [List.getElem?_map, List.getD_eq_getElem?_getD, List.getElem?_eq_getElem h]
  rfl
theorem ltL_go {n : Nat} (h : 0 < n) : toL (n / 26) [97 + n % 26] = ltL n := by
  unfold ltL
  rw [if_neg (by omega), ← toL_go h]
theorem ltL_nil : toL 0 [97] = ltL 0 := by
  rw [toL_end]
  rfl
theorem head_bound {ps : List Nat} (t : Tx ps) : (((kinds ps).map fun k => piece k (ps.count k)).map List.length).sum + ((kinds ps).map fun k => piece k (ps.count k)).length * 1 ≤ 16777216 := by
  have tl := t.len
  have kl := kinds_len ps
  have h : ∀ ys : List (List Nat), (∀ y ∈ ys, y.length ≤ 7) → (ys.map List.length).sum ≤ 7 * ys.length := fun ys => by
    induction ys with
    | nil => intro _; exact Nat.le_refl _
    | cons y r ih =>
      intro hy
      have h1 := hy y List.mem_cons_self
      have h2 := ih fun z hz => hy z (List.mem_cons_of_mem _ hz)
      rw [List.map_cons, List.sum_cons, List.length_cons]
      omega
  have h2 := h ((kinds ps).map fun k => piece k (ps.count k)) fun y hy => by
    obtain ⟨k, hk, rfl⟩ := List.mem_map.mp hy
    have h2 := List.count_le_length (a := k) (l := ps)
    exact piece_len (mem_kinds.mp hk).1 (by omega)
  rw [List.length_map] at h2 ⊢
  refine Nat.le_trans (Nat.add_le_add h2 (Nat.le_refl _)) ?_
  show 7 * (kinds ps).length + (kinds ps).length * 1 ≤ _
  omega
/-- one turn of the letters, the law's own -/
theorem lt_turn {y b n0 : Nat} {acc : List Nat} (inv : (acc = [] ∧ y = n0) ∨ (acc ≠ [] ∧ toL y acc = ltL n0)) (hy : y < 2 ^ b) (hb : acc.length + b ≤ 2000) (ho : 0 < y ∨ acc = []) :
    toL (y / 26) ((97 + y % 26) :: acc) = ltL n0 ∧ (∃ b', y / 26 < 2 ^ b' ∧ (acc.length + 1) + b' ≤ 2000) ∧ y / 26 + (if (97 + y % 26) :: acc = [] then 1 else 0) < y + (if acc = [] then 1 else 0) := by
  have c0 : ¬ (97 + y % 26) :: acc = [] := fun h => by cases h
  rw [if_neg c0]
  by_cases h : 0 < y
  · refine ⟨?_, ?_, ?_⟩
    · rcases inv with ⟨rfl, rfl⟩ | ⟨_, et⟩
      · exact ltL_go h
      · rw [← et, toL_go h]
    · cases b with
      | zero => simp at hy; omega
      | succ b => exact ⟨b, by rw [Nat.pow_succ] at hy; omega, by omega⟩
    · have := Nat.div_lt_self h (show 1 < 26 by decide)
      omega
  · have y0 : y = 0 := by omega
    subst y0
    have ea : acc = [] := ho.resolve_left h
    subst ea
    refine ⟨?_, ⟨0, by decide, by decide⟩, by decide⟩
    rcases inv with ⟨_, e⟩ | ⟨z, _⟩
    · rw [← e]
      exact ltL_nil
    · exact absurd rfl z
theorem lt_done {n0 : Nat} {acc : List Nat} (inv : (acc = [] ∧ 0 = n0) ∨ (acc ≠ [] ∧ toL 0 acc = ltL n0)) (ne : ¬ acc = []) : acc = ltL n0 := by
  rcases inv with ⟨e, _⟩ | ⟨_, e⟩
  · exact absurd e ne
  · rw [toL_end] at e
    exact e
end Np

set_option Elab.async false
set_option linter.all false
set_option maxRecDepth 100000
set_option maxHeartbeats 4000000
/-! Ask: an exception caught by a name and asked for its class; slices, min and max, lists of texts. -/
namespace Np
open PySem PySem.Spec PyProof.Rows L2 TL
open Evl (Ex)
/-! a clause with a name -/
/-- the suite's reading, the exception of the class D -/
def tIs (D : Addr) (cls : Value) (d : Option Addr) (t : TS) : TS := fun E σ H => cls = .ref D ∧ d = none ∧ t E σ H
def tTryAs (K : PySem.W.Frag) (c : Value) (i : Nat) (D : Addr) (ts : Addr → TS) (tb : WX → TS) : TS := fun E σ H => tb (wAs K c i (fun a cls d => tIs D cls d (ts a)) (fun _ _ _ _ => False) E) E σ H
section
variable {X : Cx} {K : PySem.W.Frag} {x n : Str} {i : Nat} {body suite : List Stmt} {b₀ : Stmt} {np pos pos' : Pos} {tb : WX → TS} {ts : Addr → TS} {C D : Addr}
theorem ps_tryAs (eK : X.K = K) (hs : X.stack = X.env :: X.outer) (hf : X.env.frame = some X.env.locals) (hN : X.N.Nodup) (hi : X.N[i]? = some n) (hln : X.env.kindOf n = some .local) (hg : Gl X x) (hd : (x == ("__debug__" : Str)) = false) (hm : X.mg x = some (.ref C))
    (hb : ∀ (W : WX) (pn : List (Addr × Obj)) (xe : Value → Shared → Prop), Takes (X.tr pn xe) W → PassesOwn (model X.prog X.w) X.A X.env xe → PSs (X.tr pn xe) body (tb W))
    (hsu : ∀ (a : Addr) (oe : Obj) (pn : List (Addr × Obj)), Zc (.ref D) none oe → (∃ vs, oe.data = .fields vs) → PSs (X.suite a ((a, oe) :: pn)) (b₀ :: suite) (ts a)) :
    PS X (.Try body [.ExceptHandler (some (.Name x np)) (some n) (b₀ :: suite) pos'] [] [] pos) (tTryAs K (.ref C) i D ts tb) := by
  subst eK
  refine ps_try_as hs hf hN hi hln ⟨hg, hd, .inl hm⟩ takes0 hb fun a oe cls d pn hz hv => ⟨fun pins s σ H E I h => ?_⟩
  obtain ⟨rfl, rfl, h⟩ := h
  exact (hsu a oe pn hz hv).run pins s σ H E I h
theorem n_isE {a : Addr} {oe : Obj} {pn : List (Addr × Obj)} (e : X.K = K) (c : ExcC K D) (hz : Zc (.ref D) none oe) (hf : ∃ vs, oe.data = .fields vs) : CallR (X.suite a ((a, oe) :: pn)) (.builtin "isinstance") (rIsE K D a) := by
  subst e
  exact call_isE c hz hf
theorem n_max2 (hc : X.calm = true) : CallR X (.builtin "max") Evl.rMax2 := call_max2 hc
end
theorem kit_no {K : PySem.W.Frag} {C B : Addr} {b : Bool} (ne : PySem.W.subIn K (.ref C) (.ref C) = some true) (h1 : PySem.W.isClsIn K B = true) (h2 : PySem.W.typeIn K (.ref B) = some (.type "type")) (h3 : PySem.W.subIn K (.ref C) (.ref B) = some b) : PySem.W.kitOne K (.ref C) (.ref B) = some b := by
  unfold PySem.W.kitOne
  split
  · rename_i h
    have e : C = B := Value.ref.inj (beq_iff_eq.mp h)
    subst e
    rw [ne] at h3
    exact h3
  · have e : PySem.W.kitCls K (.ref C) (.ref B) = if ((PySem.W.clsIn K B).isSome && PySem.W.typeIn K (.ref B) == some (.type "type")) = true then PySem.W.subIn K (.ref C) (.ref B) else none := rfl
    have e1 : (PySem.W.clsIn K B).isSome = true := h1
    rw [e, e1, h2, if_pos (by simp), h3]
theorem kit_val {K : PySem.W.Frag} {C : Addr} {b : Bool} (h3 : PySem.W.subIn K (.ref C) (.type "ValueError") = some b) : PySem.W.kitOne K (.ref C) (.type "ValueError") = some b := by
  unfold PySem.W.kitOne
  rw [if_neg (by intro h; cases beq_iff_eq.mp h)]
  have e : PySem.W.kitCls K (.ref C) (.type "ValueError") = if PySem.W.kitMeta "ValueError" = true then PySem.W.subIn K (.ref C) (.type "ValueError") else none := rfl
  rw [e, if_pos (by decide +kernel), h3]
section
variable {K : PySem.W.Frag} {σ : L2.St} {H : Hp} {E : Ends} {Q : VK} {C D a b : Addr} {c : Value} {i : Nat} {ts : Addr → TS} {tb : WX → TS} {l : List Nat} {n j : Int} {ns : List Int} {xs ys : List V} {Wo : WX}
theorem w_tryAs (q : tb (wAs K c i (fun a cls d => tIs D cls d (ts a)) (fun _ _ _ _ => False) E) E σ H) : tTryAs K c i D ts tb E σ H := q
theorem w_caughtAs (h : PySem.W.exmOne K (.ref D) c = some true) (q : ∀ a, H a = none → ts a { nx := fun σ' H' => E.nx (σ'.set i none) H', rt := E.rt, bk := fun σ' H' => E.bk (σ'.set i none) H', ct := fun σ' H' => E.ct (σ'.set i none) H' } (σ.set i (some (.ref a))) H) :
    wAs K c i (fun a cls d => tIs D cls d (ts a)) Wo E (.ref D) none σ H := ⟨true, h, fun _ a ha => ⟨rfl, rfl, q a ha⟩, fun z => nomatch z⟩
theorem w_isE {bo : Bool} (h : PySem.W.kitOne K (.ref D) (.ref C) = some bo) (q : Q (.bl bo) H) : rIsE K D a [.ref a, .ref C] H Q := ⟨.ref C, .ref C, bo, rfl, fun _ h => h, h, q⟩
theorem w_isEV {bo : Bool} (h : PySem.W.kitOne K (.ref D) (.type "ValueError") = some bo) (q : Q (.bl bo) H) : rIsE K D a [.ref a, .ty "ValueError"] H Q := ⟨.ty "ValueError", _, bo, rfl, fun _ h => (ClsV.ty "ValueError").eq h, h, q⟩
theorem w_isiUS (h : H a = some (.tup xs)) (q : Q (.bl false) H) : rIsi K [.ref a, .ty "str"] H Q := w_isiT (.base (.tup h)) (by decide +kernel) q
theorem w_slS {lo hi : Option Int} (hz : l.length ≤ 1000000) (q : ∀ l' : List Nat, l'.length ≤ l.length → Q (.str (S l')) H) : rSlS (.str (S l)) lo hi H Q :=
  ⟨S l, rfl, by rw [S_len]; exact Nat.le_trans hz (by decide), by
    have h := cutS_length (S l) lo hi
    rw [S_len, len_tl] at h
    have q2 := q _ h
    rw [S_tl] at q2
    exact q2⟩
theorem w_max2 (q : Q (.int (if j > n then j else n)) H) : Evl.rMax2 [.int n, .int j] H Q := ⟨n, j, rfl, q⟩
theorem w_minI (h : SqL K H a (iL ns)) (h0 : 0 < ns.length) (q : ∀ m, m ∈ ns → (∀ y, y ∈ ns → m ≤ y) → Q (.int m) H) : rMin K [.ref a] H Q := ⟨a, ns, rfl, h, h0, q⟩
theorem w_maxI (h : SqL K H a (iL ns)) (h0 : 0 < ns.length) (q : ∀ m, m ∈ ns → (∀ y, y ∈ ns → y ≤ m) → Q (.int m) H) : rMax K [.ref a] H Q := ⟨a, ns, rfl, h, h0, q⟩
theorem w_catL (h1 : H a = some (.lst xs)) (h2 : H b = some (.lst ys)) (hz : xs.length + ys.length ≤ 1000) (q : ∀ p H1, H p = none → Ex H H1 → H1 p = some (.lst (xs ++ ys)) → Q (.ref p) H1) : rCat (.ref a) (.ref b) H Q :=
  ⟨a, b, xs, ys, rfl, rfl, h1, h2, Nat.le_trans hz (by decide), fun p hp => q p _ hp (Evl.Ex.new hp) upd_same⟩
theorem dpB3 {x y z : Bool} (h : SqT K H a [.bl x, .bl y, .bl z]) : Dp K H (.ref a) (.tuple [.bool x, .bool y, .bool z]) := .tup h (.cons (.bl x) (.cons (.bl y) (.cons (.bl z) .nil)))
theorem w_eqB3 {x y z : Bool} (h1 : SqT K H a [.bl x, .bl y, .bl z]) (h2 : SqT K H b [.bl x, .bl y, .bl z]) (q : Q (.bl true) H) : rEqD K (.ref a) (.ref b) H Q := by
  have sh : SeqAt.shaped (.tuple [.bool x, .bool y, .bool z]) = true := by
    unfold SeqAt.shaped
    simp [PyData.canLay0, PyData.canLayAll0, PyData.depth, PyData.depthAll]
  refine ⟨_, _, dpB3 h1, dpB3 h2, sh, sh, ?_⟩
  rw [SeqAt.eqv_refl _ (SeqAt.canLay_of_shaped sh)]
  exact q
end
/-! numbers -/
theorem iL_snoc (ns : List Int) (n : Int) : iL (ns ++ [n]) = iL ns ++ [V.int n] := List.map_append ..
theorem lits_f {c : Nat} : c ∈ ([48, 49, 50, 51, 52, 53, 54, 55, 56, 57] : List Nat) ↔ 48 ≤ c ∧ c ≤ 57 := by
  simp
  omega
theorem sum_len : ∀ {ns : List Int}, (∀ c ∈ ns, 1 ≤ c) → (ns.length : Int) ≤ ns.sum
  | [], _ => Int.le_refl _
  | c :: r, h => by
    have := sum_len fun x hx => h x (List.mem_cons_of_mem _ hx)
    have := h c List.mem_cons_self
    rw [List.length_cons, List.sum_cons]
    omega
theorem mem_sum : ∀ {ns : List Int}, (∀ c ∈ ns, 1 ≤ c) → ∀ c ∈ ns, c ≤ ns.sum
  | [], _, c, h => by cases h
  | d :: r, h, c, hc => by
    have h1 := h d List.mem_cons_self
    have h2 := sum_len fun x hx => h x (List.mem_cons_of_mem _ hx)
    rw [List.sum_cons]
    rcases List.mem_cons.mp hc with rfl | hc
    · omega
    · have := mem_sum (fun x hx => h x (List.mem_cons_of_mem _ hx)) c hc
      omega
theorem mem_at {ns : List Int} {i : Nat} (h : i < ns.length) : ns[i]? = some (ns.getD i 0) ∧ ns.getD i 0 ∈ ns := by
  have e : ns[i]? = some (ns.getD i 0) := by
    rw [List.getD_eq_getElem?_getD, List.getElem?_eq_getElem h]
    rfl
  exact ⟨e, List.mem_of_getElem? e⟩
end Np

/-! Deal: slots dealt by a step that has nothing in common with the whole (plain Lean). -/
namespace Np
/-- the i-th slot dealt -/
def spot (step size : Int) (i : Nat) : Int := (i : Int) * step % size
theorem spot_zero {step size : Int} : spot step size 0 = 0 := by
  unfold spot
  simp
theorem spot_succ {step size : Int} (i : Nat) : spot step size (i + 1) = (spot step size i + step) % size := by
  unfold spot
  rw [Int.natCast_succ, Int.add_mul, Int.one_mul, Int.emod_add_emod]
theorem spot_in {step size : Int} (h : 0 < size) (i : Nat) : 0 ≤ spot step size i ∧ spot step size i < size := ⟨Int.emod_nonneg _ (by omega), Int.emod_lt_of_pos _ h⟩
theorem coprime_dvd {step size d : Int} (hc : Int.gcd step size = 1) (h : size ∣ d * step) : size ∣ d := by
  have h1 : size.natAbs ∣ (d * step).natAbs := Int.natAbs_dvd_natAbs.mpr h
  rw [Int.natAbs_mul] at h1
  have h2 : Nat.Coprime size.natAbs step.natAbs := by
    unfold Nat.Coprime
    rw [Nat.gcd_comm]
    exact hc
  exact Int.natAbs_dvd_natAbs.mp (h2.dvd_of_dvd_mul_right h1)
theorem spot_inj {step size : Int} (h0 : 0 < size) (hc : Int.gcd step size = 1) {i j : Nat} (hi : (i : Int) < size) (hj : (j : Int) < size) (h : spot step size i = spot step size j) : i = j := by
  unfold spot at h
  have h1 : size ∣ ((i : Int) - j) * step := by
    rw [Int.sub_mul]
    exact Int.dvd_of_emod_eq_zero (Int.emod_eq_emod_iff_emod_sub_eq_zero.mp h)
  have h2 := coprime_dvd hc h1
  obtain ⟨k, hk⟩ := h2
  have : k = 0 := by
    refine Classical.byContradiction fun hk0 => ?_
    rcases Int.lt_or_lt_of_ne hk0 with h | h
    · have : size * k ≤ size * (-1) := Int.mul_le_mul_of_nonneg_left (by omega) (by omega)
      omega
    · have : size * 1 ≤ size * k := Int.mul_le_mul_of_nonneg_left (by omega) (by omega)
      omega
  rw [this] at hk
  omega
/-- the greatest number that goes into both, as the loop finds it -/
theorem gcd_turn {one other : Int} (h : other ≠ 0) : Int.gcd one other = Int.gcd other (one % other) := by
  have e : one % other + other * (one / other) = one := by
    have := div_back one other
    rw [Int.mul_comm other]
    omega
  have h2 : Int.gcd other (one % other + other * (one / other)) = Int.gcd other (one % other) := Int.gcd_add_mul_left_right _ _ _
  rw [e] at h2
  rw [Int.gcd_comm]
  exact h2
/-- from any number on there is one that has nothing in common with the whole -/
theorem coprime_ahead {size : Int} (h : 1 ≤ size) (step : Int) : ∃ k : Nat, Int.gcd (step + k) size = 1 := by
  refine ⟨(size * (step.natAbs + 1) + 1 - step).toNat, ?_⟩
  have h1 : (step.natAbs : Int) + 1 ≤ size * (step.natAbs + 1) := by
    have := Int.mul_le_mul_of_nonneg_right h (show (0 : Int) ≤ (step.natAbs : Int) + 1 by omega)
    omega
  have h2 : step + ((size * (step.natAbs + 1) + 1 - step).toNat : Int) = 1 + size * ((step.natAbs : Int) + 1) := by omega
  rw [h2, Int.gcd_comm]
  rw [Int.gcd_add_mul_left_right]
  exact Int.gcd_one_right _
/-! ### a row of numbers without repeats -/
theorem nodup_le : ∀ (n : Nat) (l : List Nat), l.Nodup → (∀ x ∈ l, x < n) → l.length ≤ n
  | 0, l, _, h => by
    cases l with
    | nil => exact Nat.le_refl _
    | cons x r => exact absurd (h x List.mem_cons_self) (by omega)
  | n + 1, l, hn, h => by
    have h1 := nodup_le n (l.erase n) (hn.erase n) fun x hx => by
      have h2 := hn.mem_erase_iff.mp hx
      have h3 := h x h2.2
      omega
    by_cases hm : n ∈ l
    · rw [List.length_erase_of_mem hm] at h1
      omega
    · rw [List.erase_of_not_mem hm] at h1
      omega
theorem nodup_full {n : Nat} {l : List Nat} (hn : l.Nodup) (h : ∀ x ∈ l, x < n) (hl : l.length = n) {a : Nat} (ha : a < n) : a ∈ l := by
  refine Classical.byContradiction fun hm => ?_
  have := nodup_le n (a :: l) (List.nodup_cons.mpr ⟨hm, hn⟩) fun x hx => by
    rcases List.mem_cons.mp hx with rfl | hx
    · exact ha
    · exact h x hx
  rw [List.length_cons] at this
  omega
def spots (step size : Int) : List Nat := (List.range size.toNat).map fun j => (spot step size j).toNat
theorem spots_nodup {step size : Int} (h0 : 0 < size) (hc : Int.gcd step size = 1) : (spots step size).Nodup := by
  unfold spots
  refine List.pairwise_map.mpr ((List.nodup_range (n := size.toNat)).imp_of_mem fun {a b} ha hb ne e => ne ?_)
  have h1 := spot_in (step := step) h0 a
  have h2 := spot_in (step := step) h0 b
  have h3 := List.mem_range.mp ha
  have h4 := List.mem_range.mp hb
  exact spot_inj h0 hc (by omega) (by omega) (by omega)
theorem spots_in {step size : Int} (h0 : 0 < size) : ∀ x ∈ spots step size, x < size.toNat := fun x hx => by
  obtain ⟨j, _, rfl⟩ := List.mem_map.mp hx
  have := spot_in (step := step) h0 j
  omega
theorem spots_perm {step size : Int} (h0 : 0 < size) (hc : Int.gcd step size = 1) : (spots step size).Perm (List.range size.toNat) :=
  (List.perm_ext_iff_of_nodup (spots_nodup h0 hc) List.nodup_range).mpr fun a => ⟨fun h => List.mem_range.mpr (spots_in h0 a h), fun h => nodup_full (spots_nodup h0 hc) (spots_in h0) (by simp [spots]) (List.mem_range.mp h)⟩
/-- each slot is dealt once -/
theorem spot_all {step size : Int} (h0 : 0 < size) (hc : Int.gcd step size = 1) {k : Nat} (hk : k < size.toNat) : ∃ j, j < size.toNat ∧ (spot step size j).toNat = k := by
  obtain ⟨j, hj, e⟩ := List.mem_map.mp ((spots_perm h0 hc).mem_iff.mpr (List.mem_range.mpr hk))
  exact ⟨j, List.mem_range.mp hj, e⟩
/-! ### the signs in a row, each as often as it counts -/
def signsTo (cs : List Int) (n : Nat) : List Int := (List.range n).flatMap fun (s : Nat) => List.replicate (cnt cs (s : Int)).toNat (s : Int)
theorem signsTo_succ (cs : List Int) (n : Nat) : signsTo cs (n + 1) = signsTo cs n ++ List.replicate (cnt cs n).toNat (n : Int) := by
  unfold signsTo
  rw [List.range_succ, List.flatMap_append]
  simp
theorem signsTo_len {cs : List Int} (g : Good cs) : ∀ n, n ≤ cs.length → ((signsTo cs n).length : Int) = (cs.take n).sum
  | 0, _ => by simp [signsTo]
  | n + 1, h => by
    have ei : cs[n]? = some (cnt cs n) := cnt_at (s := (n : Int)) (by omega) (by omega)
    have c0 := (cnt_le g (s := (n : Int)) (by omega) (by omega)).1
    rw [signsTo_succ, List.length_append, List.length_replicate, sum_take1 ei, ← signsTo_len g n (by omega)]
    omega
theorem signsTo_count (cs : List Int) (s : Nat) : ∀ n, (signsTo cs n).count (s : Int) = if s < n then (cnt cs s).toNat else 0
  | 0 => by simp [signsTo]
  | n + 1 => by
    rw [signsTo_succ, List.count_append, signsTo_count cs s n, List.count_replicate]
    by_cases h : s < n
    · have h2 : ((n : Int) == (s : Int)) = false := beq_eq_false_iff_ne.mpr (by omega)
      rw [if_pos h, h2, if_pos (show s < n + 1 by omega)]
      simp
    · by_cases h3 : s = n
      · subst h3
        simp
      · have h2 : ((n : Int) == (s : Int)) = false := beq_eq_false_iff_ne.mpr (by omega)
        rw [if_neg h, h2, if_neg (show ¬ s < n + 1 by omega)]
        simp
def signs (cs : List Int) : List Int := signsTo cs cs.length
theorem signs_len {cs : List Int} (g : Good cs) : ((signs cs).length : Int) = cs.sum := by
  unfold signs
  rw [signsTo_len g _ (Nat.le_refl _), List.take_length]
theorem signs_at {cs : List Int} (g : Good cs) {s t : Nat} (h : s < cs.length) (ht : (t : Int) < cnt cs s) : (signs cs).getD ((cs.take s).sum.toNat + t) 0 = s := by
  have key : ∀ n, s < n → n ≤ cs.length → (signsTo cs n).getD ((cs.take s).sum.toNat + t) 0 = s := by
    intro n
    induction n with
    | zero => intro h; omega
    | succ n ih =>
      intro h1 h2
      have l1 := signsTo_len g n (by omega)
      have ls := signsTo_len g s (by omega)
      have nn := sum_nn (take_nn g.nn s)
      rw [signsTo_succ, List.getD_eq_getElem?_getD, List.getElem?_append]
      by_cases h3 : s < n
      · have ei : cs[s]? = some (cnt cs s) := cnt_at (s := (s : Int)) (by omega) (by omega)
        have m1 := sum_mono g.nn (i := s + 1) (j := n) (by omega)
        rw [sum_take1 ei] at m1
        rw [if_pos (by omega), ← List.getD_eq_getElem?_getD]
        exact ih h3 (by omega)
      · have h4 : s = n := by omega
        subst h4
        rw [if_neg (by omega), List.getElem?_replicate, if_pos (by omega)]
        rfl
  exact key _ h (Nat.le_refl _)
/-! ### the slots dealt -/
def dealtTo (cs : List Int) (step : Int) (i : Nat) : List Int := (List.range i).foldl (fun h j => h.set (spot step cs.sum j).toNat ((signs cs).getD j 0)) (List.replicate cs.sum.toNat 0)
theorem dealtTo_succ (cs : List Int) (step : Int) (i : Nat) : dealtTo cs step (i + 1) = (dealtTo cs step i).set (spot step cs.sum i).toNat ((signs cs).getD i 0) := by
  unfold dealtTo
  rw [List.range_succ, List.foldl_append]
  rfl
theorem dealtTo_len (cs : List Int) (step : Int) : ∀ i, (dealtTo cs step i).length = cs.sum.toNat
  | 0 => by simp [dealtTo]
  | i + 1 => by rw [dealtTo_succ, List.length_set, dealtTo_len cs step i]
theorem dealtTo_at {cs : List Int} {step : Int} (g : Good cs) (hc : Int.gcd step cs.sum = 1) {j : Nat} : ∀ i, j < i → i ≤ cs.sum.toNat → (dealtTo cs step i).getD (spot step cs.sum j).toNat 0 = (signs cs).getD j 0
  | 0, h, _ => by omega
  | i + 1, h, hi => by
    have gs := g.sum
    have sj := spot_in (step := step) gs j
    rw [dealtTo_succ, List.getD_eq_getElem?_getD, List.getElem?_set]
    by_cases e : (spot step cs.sum i).toNat = (spot step cs.sum j).toNat
    · have si := spot_in (step := step) gs i
      have : i = j := spot_inj gs hc (by omega) (by omega) (by omega)
      subst this
      rw [if_pos rfl, if_pos (by rw [dealtTo_len]; omega)]
      rfl
    · rw [if_neg e, ← List.getD_eq_getElem?_getD]
      exact dealtTo_at g hc i (by
        have : j ≠ i := fun z => e (by rw [z])
        omega) (by omega)
def dealt (cs : List Int) (step : Int) : List Int := dealtTo cs step cs.sum.toNat
/-- each sign has as many slots as it counts -/
theorem dealt_count {cs : List Int} {step : Int} (g : Good cs) (hc : Int.gcd step cs.sum = 1) {s : Nat} (hs : s < cs.length) : (List.range cs.sum.toNat).countP (fun k => decide ((dealt cs step).getD k 0 = (s : Int))) = (cnt cs s).toNat := by
  have gs := g.sum
  have sl := signs_len g
  rw [← (spots_perm gs hc).countP_eq]
  unfold spots
  rw [List.countP_map]
  have e1 : (List.range cs.sum.toNat).countP ((fun k => decide ((dealt cs step).getD k 0 = (s : Int))) ∘ fun j => (spot step cs.sum j).toNat) = (List.range cs.sum.toNat).countP fun j => decide ((signs cs).getD j 0 = (s : Int)) := by
    refine List.countP_congr fun j hj => ?_
    have := dealtTo_at g hc cs.sum.toNat (List.mem_range.mp hj) (Nat.le_refl _)
    show (decide ((dealtTo cs step cs.sum.toNat).getD _ 0 = (s : Int)) = true) ↔ _
    rw [this]
  rw [e1]
  have e2 : (List.range (signs cs).length).map (fun j => (signs cs).getD j 0) = signs cs := by
    refine List.ext_getElem (by simp) fun i h1 h2 => ?_
    simp [List.getElem?_eq_getElem h2]
  have e3 : cs.sum.toNat = (signs cs).length := by omega
  have e4 := signsTo_count cs s cs.length
  rw [if_pos hs] at e4
  rw [← e4]
  show _ = (signs cs).count (s : Int)
  rw [List.count_eq_countP]
  conv => rhs; rw [← e2, List.countP_map]
  rw [e3]
  rfl
/-- nothing in common, told by trying all -/
theorem alone_no {step size part : Int} (h : 2 ≤ part) (h1 : step % part = 0) (h2 : size % part = 0) : ¬ Int.gcd step size = 1 := fun e => by
  have := Int.dvd_coe_gcd (Int.dvd_of_emod_eq_zero h1) (Int.dvd_of_emod_eq_zero h2)
  rw [e] at this
  have := Int.le_of_dvd (by decide) this
  omega
theorem alone_yes {step size : Int} (hs : 1 ≤ size) (h : ∀ part : Int, 2 ≤ part → part ≤ size → ¬ (step % part = 0 ∧ size % part = 0)) : Int.gcd step size = 1 := by
  refine Classical.byContradiction fun e => ?_
  have d1 : ((Int.gcd step size : Nat) : Int) ∣ step := Int.gcd_dvd_left ..
  have d2 : ((Int.gcd step size : Nat) : Int) ∣ size := Int.gcd_dvd_right ..
  have l := Int.le_of_dvd (by omega) d2
  have z : Int.gcd step size ≠ 0 := fun z => by
    rw [z] at d2
    have : size = 0 := by
      obtain ⟨k, hk⟩ := d2
      rw [hk]
      simp
    omega
  exact h (Int.gcd step size : Nat) (by omega) l ⟨Int.emod_eq_zero_of_dvd d1, Int.emod_eq_zero_of_dvd d2⟩
/-- the step of a dealing: the first number from step0 on that has nothing in common with the whole -/
def step0 (cs : List Int) : Int := cs.sum / 2 + cs.sum / 8 + 3
structure StepIs (cs : List Int) (step : Int) : Prop where
  co : Int.gcd step cs.sum = 1
  lo : step0 cs ≤ step
  least : ∀ t, step0 cs ≤ t → t < step → ¬ Int.gcd t cs.sum = 1
theorem StepIs.uniq {cs : List Int} {a b : Int} (x : StepIs cs a) (y : StepIs cs b) : a = b := by
  rcases Int.lt_trichotomy a b with h | h | h
  · exact absurd x.co (y.least a x.lo h)
  · exact h
  · exact absurd y.co (x.least b y.lo h)
/-! ### the slots of a sign, the numbers of the slots -/
def signAt (cs : List Int) (step : Int) (k : Nat) : Int := (dealt cs step).getD k 0
def mine (cs : List Int) (step : Int) (s : Int) (k : Nat) : List Int := ((List.range k).filter fun j => decide (signAt cs step j = s)).map fun (j : Nat) => (j : Int)
def nums (cs : List Int) (step : Int) (k : Nat) : List Int := (List.range k).map fun j => cnt cs (signAt cs step j) + (mine cs step (signAt cs step j) j).length
theorem mine_succ (cs : List Int) (step : Int) (s : Int) (k : Nat) : mine cs step s (k + 1) = if signAt cs step k = s then mine cs step s k ++ [(k : Int)] else mine cs step s k := by
  unfold mine
  rw [List.range_succ, List.filter_append, List.map_append]
  by_cases h : signAt cs step k = s
  · rw [if_pos h]
    simp [h]
  · rw [if_neg h]
    simp [h]
theorem nums_succ (cs : List Int) (step : Int) (k : Nat) : nums cs step (k + 1) = nums cs step k ++ [cnt cs (signAt cs step k) + (mine cs step (signAt cs step k) k).length] := by
  unfold nums
  rw [List.range_succ, List.map_append]
  rfl
theorem mine_len (cs : List Int) (step : Int) (s : Int) (k : Nat) : (mine cs step s k).length = (List.range k).countP fun j => decide (signAt cs step j = s) := by
  unfold mine
  rw [List.length_map, List.countP_eq_length_filter]
theorem signsTo_in {cs : List Int} : ∀ n, n ≤ cs.length → ∀ z ∈ signsTo cs n, Sign cs z
  | 0, _, z, h => by simp [signsTo] at h
  | n + 1, hn, z, h => by
    rw [signsTo_succ] at h
    rcases List.mem_append.mp h with h | h
    · exact signsTo_in n (by omega) z h
    · obtain ⟨h1, rfl⟩ := List.mem_replicate.mp h
      exact ⟨by omega, by omega, by omega⟩
theorem signAt_in {cs : List Int} {step : Int} (g : Good cs) (hc : Int.gcd step cs.sum = 1) {k : Nat} (hk : k < cs.sum.toNat) : Sign cs (signAt cs step k) := by
  obtain ⟨j, hj, e⟩ := spot_all g.sum hc hk
  have h := dealtTo_at g hc cs.sum.toNat hj (Nat.le_refl _)
  rw [e] at h
  have sl := signs_len g
  unfold signAt dealt
  rw [h]
  exact signsTo_in cs.length (Nat.le_refl _) _ (at_mem (ns := signs cs) (by omega))
theorem mine_at {cs : List Int} {step s : Int} {k : Nat} (h : signAt cs step k = s) : ∀ n, k < n → (mine cs step s n)[(mine cs step s k).length]? = some (k : Int)
  | 0, hn => by omega
  | n + 1, hn => by
    rw [mine_succ]
    by_cases e : k = n
    · subst e
      rw [if_pos h, List.getElem?_append_right (Nat.le_refl _), Nat.sub_self]
      rfl
    · have ih := mine_at h n (by omega)
      split
      · rw [List.getElem?_append_left (List.getElem?_eq_some_iff.mp ih).1]
        exact ih
      · exact ih
theorem mine_all {cs : List Int} {step s : Int} (g : Good cs) (hc : Int.gcd step cs.sum = 1) (h0 : 0 ≤ s) (h1 : s < cs.length) : ((mine cs step s cs.sum.toNat).length : Int) = cnt cs s := by
  have h := dealt_count g hc (s := s.toNat) (by omega)
  have e : ((s.toNat : Nat) : Int) = s := by omega
  rw [e] at h
  rw [mine_len]
  have c0 := cnt_le g h0 h1
  show ((List.countP (fun j => decide ((dealt cs step).getD j 0 = s)) (List.range cs.sum.toNat) : Nat) : Int) = cnt cs s
  omega
theorem mine_mem {cs : List Int} {step s x : Int} {n : Nat} (h : x ∈ mine cs step s n) : ∃ k : Nat, x = (k : Int) ∧ k < n ∧ signAt cs step k = s := by
  obtain ⟨k, hk, rfl⟩ := List.mem_map.mp h
  obtain ⟨h1, h2⟩ := List.mem_filter.mp hk
  exact ⟨k, rfl, List.mem_range.mp h1, of_decide_eq_true h2⟩
theorem mine_nodup (cs : List Int) (step s : Int) (n : Nat) : (mine cs step s n).Nodup := by
  unfold mine
  refine List.pairwise_map.mpr ((List.nodup_range.filter _).imp fun {a b} ne e => ne (by omega))
theorem not_ahead {l : List Int} (nd : l.Nodup) {t : Nat} {x : Int} (h : l[t]? = some x) : x ∉ l.take t := fun hm => by
  obtain ⟨i, hi, e⟩ := List.getElem_of_mem hm
  rw [List.length_take] at hi
  rw [List.getElem_take] at e
  obtain ⟨ht, e2⟩ := List.getElem?_eq_some_iff.mp h
  have := (List.getElem_inj nd).mp (e.trans e2.symm)
  omega
/-- raised, lowered -/
def raisedN (cs : List Int) (step s n : Int) : Int := cs.sum + (mine cs step s cs.sum.toNat).getD (n - cnt cs s).toNat 0
def lowN (cs : List Int) (step : Int) (k : Nat) : Int := cnt cs (signAt cs step k) + (mine cs step (signAt cs step k) k).length
theorem nums_at {cs : List Int} {step : Int} {n k : Nat} (h : k < n) : (nums cs step n)[k]? = some (lowN cs step k) := by
  unfold nums
  rw [List.getElem?_map, List.getElem?_range h]
  rfl
theorem low_in {cs : List Int} {step : Int} (g : Good cs) (hc : Int.gcd step cs.sum = 1) {k : Nat} (hk : k < cs.sum.toNat) : cnt cs (signAt cs step k) ≤ lowN cs step k ∧ lowN cs step k < 2 * cnt cs (signAt cs step k) := by
  have sg := signAt_in g hc hk
  have h := mine_at (cs := cs) (step := step) (s := signAt cs step k) rfl _ hk
  have hl := (List.getElem?_eq_some_iff.mp h).1
  have ha := mine_all g hc sg.nn sg.lt
  unfold lowN
  omega
theorem raised_low {cs : List Int} {step : Int} (g : Good cs) (hc : Int.gcd step cs.sum = 1) {k : Nat} (hk : k < cs.sum.toNat) : raisedN cs step (signAt cs step k) (lowN cs step k) = cs.sum + k := by
  have h := mine_at (cs := cs) (step := step) (s := signAt cs step k) rfl _ hk
  unfold raisedN lowN
  rw [show (cnt cs (signAt cs step k) + ((mine cs step (signAt cs step k) k).length : Int) - cnt cs (signAt cs step k)).toNat = (mine cs step (signAt cs step k) k).length by omega]
  rw [List.getD_eq_getElem?_getD, h]
  rfl
/-- what raised gives for the t-th number of a sign -/
theorem raised_at {cs : List Int} {step s : Int} (g : Good cs) (hc : Int.gcd step cs.sum = 1) (h0 : 0 ≤ s) (h1 : s < cs.length) {t : Nat} (ht : (t : Int) < cnt cs s) :
    ∃ k : Nat, (mine cs step s cs.sum.toNat)[t]? = some (k : Int) ∧ k < cs.sum.toNat ∧ signAt cs step k = s ∧ raisedN cs step s (cnt cs s + t) = cs.sum + k ∧ lowN cs step k = cnt cs s + t := by
  have ha := mine_all g hc h0 h1
  have hl : t < (mine cs step s cs.sum.toNat).length := by omega
  have e := List.getElem?_eq_getElem hl
  obtain ⟨k, ek, kn, ks⟩ := mine_mem (List.mem_of_getElem? e)
  rw [ek] at e
  have e3 := mine_at (cs := cs) (step := step) (s := s) ks _ kn
  obtain ⟨i1, i2⟩ := List.getElem?_eq_some_iff.mp e
  obtain ⟨j1, j2⟩ := List.getElem?_eq_some_iff.mp e3
  have et := (List.getElem_inj (mine_nodup cs step s cs.sum.toNat)).mp (i2.trans j2.symm)
  refine ⟨k, e, kn, ks, ?_, ?_⟩
  · unfold raisedN
    rw [show (cnt cs s + (t : Int) - cnt cs s).toNat = t by omega, List.getD_eq_getElem?_getD, e]
    rfl
  · unfold lowN
    rw [ks, ← et]
end Np

set_option Elab.async false
set_option linter.all false
set_option maxRecDepth 100000
set_option maxHeartbeats 4000000
/-! Slots: the object of dealt slots on the heap. -/
namespace Np
open PySem PySem.Spec PyProof.Rows L2
open Evl (Ex)
theorem Keep.fresh {F G : List Addr} {H H1 H2 : Hp} (k : Keep G H H1) (k2 : Keep F H1 H2) (n : New F H) : Keep G H H2 := fun b o hb h => k2 b o (fun z => by rw [n b z] at h; cases h) (k b o hb h)
/-- the slots object: it never turns behind __init__ -/
def SlAt (Z : Zs) (cs : List Int) (step : Int) (H : Hp) (p : Addr) (F : List Addr) : Prop :=
  Good cs ∧ StepIs cs step ∧ ∃ (dx lc lh lp ln : Addr) (as : List Addr), H p = some (.ins Z.slots dx (fsSlots lc cs.sum lh lp ln)) ∧ H lc = some (.lst (iL cs)) ∧ H lh = some (.lst (iL (dealt cs step))) ∧ H lp = some (.lst (as.map V.ref)) ∧ H ln = some (.lst (iL (nums cs step cs.sum.toNat))) ∧
    as.length = cs.length ∧ (∀ (j : Nat) (y : Addr), as[j]? = some y → H y = some (.lst (iL (mine cs step (j : Int) cs.sum.toNat)))) ∧ F = p :: lc :: lh :: lp :: ln :: as
theorem SlAt.frame {Z : Zs} {cs : List Int} {step : Int} {H H' : Hp} {p : Addr} {F : List Addr} (r : SlAt Z cs step H p F) (k : ∀ b ∈ F, ∀ o, H b = some o → H' b = some o) : SlAt Z cs step H' p F := by
  obtain ⟨g, s, dx, lc, lh, lp, ln, as, h1, h2, h3, h4, h5, h6, h7, rfl⟩ := r
  exact ⟨g, s, dx, lc, lh, lp, ln, as, k p (by simp) _ h1, k lc (by simp) _ h2, k lh (by simp) _ h3, k lp (by simp) _ h4, k ln (by simp) _ h5, h6, fun j y hy => k y (by simp [List.mem_of_getElem? hy]) _ (h7 j y hy), rfl⟩
theorem SlAt.up {Z : Zs} {cs : List Int} {step : Int} {H H' : Hp} {p : Addr} {F : List Addr} (r : SlAt Z cs step H p F) (e : Ex H H') : SlAt Z cs step H' p F := r.frame fun b _ o h => e b o h
theorem SlAt.keep {Z : Zs} {cs : List Int} {step : Int} {H H' : Hp} {p : Addr} {F G : List Addr} (r : SlAt Z cs step H p F) (k : Keep G H H') (d : ∀ b ∈ F, b ∉ G) : SlAt Z cs step H' p F := r.frame fun b hb o h => k b o (d b hb) h
/-! dicts whose keys are ints -/
def kDin (y : V) (Q : VK) : VK := fun x H2 => ∃ a o, x = .ref a ∧ DGet H2 a y o ∧ Q (.bl o.isSome) H2
def kDput (x v : V) (R : Hp → Prop) : VK := fun y H3 => ∃ a H4, x = .ref a ∧ DPut H3 a y v H4 ∧ R H4
def rLenD : List V → Hp → VK → Prop := fun xs H Q => ∃ a kvs, xs = [V.ref a] ∧ H a = some (.dK kvs) ∧ Q (.int kvs.length) H
theorem n_lenD {X : Cx} : CallR X (.builtin "len") rLenD := call_lenD
section
variable {K : PySem.W.Frag} {σ : L2.St} {H : Hp} {D : Ends} {Q : VK} {ta td ty tv : TE} {a : Addr} {kvs : List (Key × V)} {i : Int} {v : V} {R : Hp → Prop}
theorem w_dnew (q : ∀ p H1, H p = none → Ex H H1 → H1 p = some (.dK []) → Q (.ref p) H1) : tDNewK σ H Q := fun p hp => q p _ hp (Evl.Ex.new hp) upd_same
theorem w_din (q : ty σ H fun y H1 => td σ H1 (kDin y Q)) : tDIn ty td σ H Q := q
theorem w_kDinN (h : H a = some (.dK kvs)) (n : valV kvs (Sum.inl i) = none) (q : Q (.bl false) H) : kDin (.int i) Q (.ref a) H := ⟨a, _, rfl, DGet.k (k := Sum.inl i) h, by rw [n]; exact q⟩
theorem w_dput (q : tv σ H fun v H1 => td σ H1 fun x H2 => ty σ H2 (kDput x v fun H4 => D.nx σ H4)) : sDPut td ty tv D σ H := q
theorem w_kDput (h : H a = some (.dK kvs)) (hl : kvs.length < 1000000) (q : ∀ H1, Keep [a] H H1 → H1 a = some (.dK (putK kvs (Sum.inl i) v)) → (∀ b, H1 b = none → H b = none) → R H1) : kDput (.ref a) v R (.int i) H :=
  ⟨a, _, rfl, DPut.k (k := Sum.inl i) h (Nat.lt_of_lt_of_le hl (by decide)), q _ (fun b o hb hh => by rw [upd_ne (fun z => hb (by rw [z]; simp))]; exact hh) upd_same fun b hb => by
    by_cases z : b = a
    · rw [z, upd_same] at hb
      cases hb
    · rw [upd_ne z] at hb
      exact hb⟩
theorem w_lenD (h : H a = some (.dK kvs)) (q : Q (.int kvs.length) H) : rLenD [.ref a] H Q := ⟨a, kvs, rfl, h, q⟩
end
theorem w_catB {H : Hp} {Q : VK} {a b : Addr} {xs ys : List V} (h : H a = some (.lst xs)) (h' : H b = some (.lst ys)) (hx : xs.length ≤ 1000000) (hy : ys.length ≤ 1000000) (q : ∀ p H1, H p = none → Ex H H1 → H1 p = some (.lst (xs ++ ys)) → Q (.ref p) H1) : rCat (.ref a) (.ref b) H Q :=
  ⟨a, b, xs, ys, rfl, rfl, h, h', Nat.le_trans (Nat.add_le_add hx hy) (by decide), fun p hp => q p _ hp (Evl.Ex.new hp) upd_same⟩
theorem given_ones (f : Nat → Bool) (n : Nat) : Evl.given n f (fun _ => V.int 1) = iL (List.replicate ((List.range n).countP f) 1) := by
  unfold Evl.given
  rw [List.countP_eq_length_filter]
  generalize (List.range n).filter f = l
  induction l with
  | nil => rfl
  | cons x r ih =>
    rw [List.map_cons, ih, List.length_cons, List.replicate_succ]
    rfl
theorem sum_ones (n : Nat) : (List.replicate n (1 : Int)).sum = n := by
  induction n with
  | zero => rfl
  | succ n ih =>
    rw [List.replicate_succ, List.sum_cons, ih]
    omega
theorem dealt_at {cs : List Int} {step : Int} {k : Nat} (h : k < cs.sum.toNat) : (dealt cs step)[k]? = some (signAt cs step k) := by
  have hl : k < (dealt cs step).length := by
    unfold dealt
    rw [dealtTo_len]
    exact h
  unfold signAt
  rw [List.getD_eq_getElem?_getD, List.getElem?_eq_getElem hl]
  rfl
/-- what law_k14 has met: the slots of the signs ahead, and so many of this one -/
def inMet (cs : List Int) (step : Int) (s : Int) (t : Nat) (z : Int) : Prop := ∃ k : Nat, z = cs.sum + (k : Int) ∧ (signAt cs step k < s ∨ (signAt cs step k = s ∧ (k : Int) ∈ (mine cs step s cs.sum.toNat).take t))
theorem met_new {cs : List Int} {step s : Int} {t k : Nat} {kvs : List (Key × V)} (hk : (mine cs step s cs.sum.toNat)[t]? = some (k : Int)) (hs : signAt cs step k = s) (h : ∀ z : Int, (valV kvs (Sum.inl z : Key)).isSome = true → inMet cs step s t z) : valV kvs (Sum.inl (cs.sum + (k : Int)) : Key) = none := by
  cases e : valV kvs (Sum.inl (cs.sum + (k : Int)) : Key) with
  | none => rfl
  | some x =>
    obtain ⟨j, e1, h1⟩ := h (cs.sum + (k : Int)) (by rw [e]; rfl)
    have : j = k := by omega
    subst this
    rcases h1 with h1 | ⟨_, h1⟩
    · omega
    · exact absurd h1 (not_ahead (mine_nodup ..) hk)
theorem met_put {cs : List Int} {step s : Int} {t k : Nat} {kvs : List (Key × V)} {v : V} (hk : (mine cs step s cs.sum.toNat)[t]? = some (k : Int)) (hs : signAt cs step k = s) (h : ∀ z : Int, (valV kvs (Sum.inl z : Key)).isSome = true → inMet cs step s t z) :
    ∀ z : Int, (valV (putK kvs (Sum.inl (cs.sum + (k : Int)) : Key) v) (Sum.inl z : Key)).isSome = true → inMet cs step s (t + 1) z := fun z hz => by
  rw [valV_put] at hz
  obtain ⟨ht, et⟩ := List.getElem?_eq_some_iff.mp hk
  split at hz
  · rename_i e
    have e : z = cs.sum + (k : Int) := Sum.inl.inj e
    refine ⟨k, e, .inr ⟨hs, ?_⟩⟩
    rw [List.take_succ_eq_append_getElem ht, et]
    simp
  · obtain ⟨j, e1, h1⟩ := h z hz
    refine ⟨j, e1, h1.imp id fun h1 => ⟨h1.1, ?_⟩⟩
    rw [List.take_succ_eq_append_getElem ht]
    exact List.mem_append_left _ h1.2
theorem met_turn {cs : List Int} {step : Int} {s : Nat} {t : Nat} {kvs : List (Key × V)} (h : ∀ z : Int, (valV kvs (Sum.inl z : Key)).isSome = true → inMet cs step (s : Int) t z) :
    ∀ z : Int, (valV kvs (Sum.inl z : Key)).isSome = true → inMet cs step ((s + 1 : Nat) : Int) 0 z := fun z hz => by
  obtain ⟨j, e1, h1⟩ := h z hz
  exact ⟨j, e1, .inl (by rcases h1 with h1 | h1 <;> omega)⟩
theorem good_two {x y : Int} (x0 : 0 ≤ x) (x1 : x ≤ 999) (y0 : 1 ≤ y) (y1 : y ≤ 999) : Good [x, y] := by
  refine ⟨by simp, by simp, fun c hc => ?_, fun c hc => ?_, by simp; omega⟩
  · simp at hc
    omega
  · simp at hc
    omega
section
variable {σ : L2.St} {H : Hp} {Q : VK} {te : TE} {t : TT}
theorem cw_turnB {H' : Hp} {f : Nat → Bool} {v : Nat → V} {Dl : Addr} {i : Nat} {σ2 : L2.St} (p : Evl.Cw H f v Dl i H') (hi : i < 1000000) (ht : Evl.EvT t σ2 H (f i)) (he : f i = true → Evl.Ev te σ2 H (v i)) :
    t σ2 H' fun b H3 => if b = true then te σ2 H3 fun y H4 => ∃ acc, H4 Dl = some (.lst acc) ∧ acc.length < sizeLine ∧ Evl.Cw H f v Dl (i + 1) (upd H4 Dl (.lst (acc ++ [y]))) else Evl.Cw H f v Dl (i + 1) H3 := by
  obtain ⟨p1, p2, p3⟩ := p
  refine ht H' p2 _ fun H3 e3 => ?_
  cases hf : f i with
  | true =>
    refine iteT ?_
    refine he hf H3 (p2.trans e3) _ fun H4 e4 => ⟨Evl.given i f v, e4 Dl _ (e3 Dl _ p3), Nat.lt_of_lt_of_le (show (Evl.given i f v).length < 1000000 by have := Evl.given_len i f v; omega) (by decide), p1, Evl.Ex.mut ((p2.trans e3).trans e4) p1, ?_⟩
    rw [Evl.given_yes hf]
    exact upd_same
  | false =>
    refine iteF ?_
    refine ⟨p1, p2.trans e3, ?_⟩
    rw [Evl.given_no hf]
    exact e3 Dl _ p3
theorem w_lcFB {n k : Nat} {vs : List Nat} (f : Nat → Bool) (g : Nat → V) (hn : n ≤ 1000000) (hw : ∀ x, wipe ((wipe σ vs).set k (some x)) vs = wipe σ vs)
    (ht : ∀ i H1, Ex H H1 → i < n → Evl.EvT t ((wipe σ vs).set k (some (.int (i : Int)))) H1 (f i))
    (he : ∀ i H1, Ex H H1 → i < n → f i = true → Evl.Ev te ((wipe σ vs).set k (some (.int (i : Int)))) H1 (g i))
    (q : ∀ p H1, H p = none → Ex H H1 → H1 p = some (.lst (Evl.given n f g)) → Q (.ref p) H1) : rLc (Itr 0 n) (gName k) t te vs σ H Q := fun Dl hD =>
  lc_range (lo := 0) (n := n) (Evl.Cw H f g Dl) ⟨hD, Evl.Ex.new hD, upd_same⟩ (fun i H' hi p => by
    have e0 : (0 : Int) + (i : Int) = (i : Int) := Int.zero_add _
    show wipe ((wipe σ vs).set k (some (.int ((0 : Int) + (i : Int))))) vs = wipe σ vs ∧ t ((wipe σ vs).set k (some (.int ((0 : Int) + (i : Int))))) H' fun b H3 => if b = true then te ((wipe σ vs).set k (some (.int ((0 : Int) + (i : Int))))) H3 fun y H4 => ∃ acc, H4 Dl = some (.lst acc) ∧ acc.length < sizeLine ∧ Evl.Cw H f g Dl (i + 1) (upd H4 Dl (.lst (acc ++ [y]))) else Evl.Cw H f g Dl (i + 1) H3
    rw [e0]
    exact ⟨hw _, cw_turnB p (by omega) (ht i H (Evl.Ex.refl H) hi) (fun hf => he i H (Evl.Ex.refl H) hi hf)⟩) (fun H' p => q Dl H' hD p.2.1 p.2.2)
end
theorem SlAt.own {Z : Zs} {cs : List Int} {step : Int} {H : Hp} {p : Addr} {F : List Addr} (r : SlAt Z cs step H p F) : Own F H := by
  obtain ⟨g, s, dx, lc, lh, lp, ln, as, h1, h2, h3, h4, h5, h6, h7, rfl⟩ := r
  intro b hb
  rcases List.mem_cons.mp hb with rfl | hb
  · exact ⟨_, h1⟩
  rcases List.mem_cons.mp hb with rfl | hb
  · exact ⟨_, h2⟩
  rcases List.mem_cons.mp hb with rfl | hb
  · exact ⟨_, h3⟩
  rcases List.mem_cons.mp hb with rfl | hb
  · exact ⟨_, h4⟩
  rcases List.mem_cons.mp hb with rfl | hb
  · exact ⟨_, h5⟩
  · obtain ⟨j, hj, ej⟩ := List.getElem_of_mem hb
    exact ⟨_, h7 j b (by rw [← ej]; exact List.getElem?_eq_getElem hj)⟩
end Np

set_option Elab.async false
set_option linter.all false
set_option maxRecDepth 100000
set_option maxHeartbeats 4000000
/-! Seven: refusals of seven classes; classes whose making may raise; a def asked about the exception that is handled. -/
namespace Np
open PySem PySem.Spec PyProof.Rows L2 TL
open Evl (Ex)
/-! a class whose __init__ may raise -/
structure MakX (P : Program) (w : World) (K : PySem.W.Frag) (mg : Str → Option Value) (base : Heap) (k : Nat) (x : Str) (C : Addr) (sp : Sp) (dvs : List V) : Prop where
  ex : ∃ (f : Addr) (fd : FuncData) (ps : List Str) (ds : List Value), Mk K C f ∧ FnOk P w K mg base (L2.CX P w) k f fd ps sp ∧ mg x = some (.ref C) ∧ Binds K fd ps ds ∧ Vals dvs ds
section
variable {X : Cx} {k j : Nat} {C : Addr} {x : Str} {sp : Sp} {dvs : List V} {E : XK} {p pos : Pos} {e : Expr} {es : List Expr} {t : TA}
theorem pe_mkX (c : MakX X.prog X.w X.K X.mg X.base k x C sp dvs) (hr : Room j X.A) (hk : k + 1 ≤ j) (tk : Takes X (fun cls d _ H => E cls d H)) (hg : Gl X x) (ha : PA X (e :: es) t)
    (hdb : (x == ("__debug__" : Str)) = false := by decide) (he : starEach (e :: es) X.env = (false, eval e X.env) :: starEach es X.env := by rfl) (hpl : (backTo pos (starEach es X.env)).any (·.1) = false := by rfl) :
    PE X (.Call (.Name x p) (e :: es) [] pos) (tMake C sp dvs E t) := by
  obtain ⟨f, fd, ps, ds, M, F, hm, b, d⟩ := c.ex
  exact pe_make M F (hr.mono hk) hg hm b d (passes_call tk fun _ _ _ _ h => h) ha hdb he hpl
/-- .. where it lets nothing out -/
theorem pe_mkL (c : MakX X.prog X.w X.K X.mg X.base k x C sp dvs) (hr : Room j X.A) (hk : k + 1 ≤ j) (hg : Gl X x) (ha : PA X (e :: es) t)
    (hdb : (x == ("__debug__" : Str)) = false := by decide) (he : starEach (e :: es) X.env = (false, eval e X.env) :: starEach es X.env := by rfl) (hpl : (backTo pos (starEach es X.env)).any (·.1) = false := by rfl) :
    PE X (.Call (.Name x p) (e :: es) [] pos) (tMake C sp dvs C8.E0 t) := by
  obtain ⟨f, fd, ps, ds, M, F, hm, b, d⟩ := c.ex
  exact pe_make M F (hr.mono hk) hg hm b d passL ha hdb he hpl
end
theorem roomS {X : Cx} {k : Nat} {a : Addr} {pn : List (Addr × Obj)} (r : Room k X.A) : L2H.RoomH k (X.suite a pn).A := ⟨r.dp, r.un⟩
/-! isinstance of an exception that is pinned -/
theorem n_isP {X : Cx} {K : PySem.W.Frag} {a D : Addr} {oe : Obj} (ek : X.K = K) (C : ExcC K D) (hp : (a, oe) ∈ X.pn) (hz : Zc (.ref D) none oe) (hf : ∃ vs, oe.data = .fields vs) : CallR X (.builtin "isinstance") (rIsE K D a) := by
  subst ek
  rintro pins st τ G ys zs QQ J rr ⟨cc, cv, bb, rfl, same, ek, qq⟩
  rcases rr with _ | ⟨r1, _ | ⟨r2, _ | _⟩⟩
  cases r1
  have eq2 := same _ r2
  subst eq2
  have at1 := (J.pin (a, oe) (List.mem_append_left _ hp)).1
  have look : PySem.W.InstAt st.heap a oe D none := by
    obtain ⟨fs, eqf⟩ := hf
    cases oe with
    | mk o1 o2 o3 o4 =>
      obtain ⟨z1, z2⟩ := hz
      cases z1
      cases z2
      cases eqf
      exact ⟨at1, rfl, rfl, trivial⟩
  have kx := PySem.W.handS_kitx_exc (x := a) (ox := oe) C.hg C.hk C.hs C.hd C.ha C.hn C.ht C.hm
  exact PySem.W.kia_one kx J.kIn look ek (fun h => nomatch h) (fun tk => ⟨.bl bb, G, J.kept (t' := tk) (fun _ _ h => h), rfl, qq⟩)
/-! a def called with the exception that is handled -/
structure FnE (P : Program) (w : World) (K : PySem.W.Frag) (mg : Str → Option Value) (base : Heap) (k : Nat) (f : Addr) (fd : FuncData) (ps : List Str) (cl : Nat → Addr) (sp : Addr → Nat → Sp) : Prop where
  len : ∀ a i vs H Q E, sp a i vs H Q E → vs.length = ps.length
  run : ∀ (A : Around) (outer : List Env) (s : Shared) (H : Hp) (args : Args) (us : List Value) (vs : List V) (Q : VK) (E : XK) (a : Addr) (oe : Obj) (i : Nat), L2H.RoomH k A → Zc (.ref (cl i)) none oe → (∃ xs, oe.data = .fields xs) → L2H.PinOk outer H s (a, oe) →
    Env0 P w K mg base A outer s H → BindsTo s fd args (ps.zip us) → Vals vs us → sp a i vs H Q E → codeAny (model P w) A (.call (.ref f) args) (CR CX0 outer P w H s Q E) s
section
variable {P : Program} {w : World} {K : PySem.W.Frag} {mg : Str → Option Value} {base : Heap}
theorem _root_.L2.Fun.okE {x qual : Str} {st : Stmt} {f : Addr} {fd : FuncData} {N ps : List Str} {k : Nat} {cl : Nat → Addr} {sp : Addr → Nat → Sp} (F : Fun K x qual st f fd) (S : FnScope N ps (defScope st)) (len : ∀ a i vs H Q E, sp a i vs H Q E → vs.length = ps.length)
    (hbody : ∀ (cdv : Value) (A : Around) (outer : List Env) (s : Shared) (H : Hp) (vs : List V) (Q : VK) (E : XK) (a : Addr) (oe : Obj) (i : Nat), L2H.RoomH k (A.deeper (envOfC qual (defScope st) s.heap.objs.size f cdv)) → Zc (.ref (cl i)) none oe → (∃ xs, oe.data = .fields xs) → sp a i vs H Q E →
      ∃ t, PSs (L2H.cxH CX0 P w K mg base N qual (defScope st) f cdv A outer s H E (a, oe)) (defBody st) t ∧ t { nx := fun _ H' => Q .non H', rt := Q } (start N vs) H) : FnE P w K mg base (k + 1) f fd ps cl sp := by
  obtain ⟨oc, od, kV, doc, pm, an, cdv, ct, osl, rfl, lk, hcd⟩ := F.ex
  refine ⟨len, fun A outer s H args us vs Q E a oe i room hz hf pin env bind vals want => ?_⟩
  have KI : K.In s.heap := env.mod.kin.keeps (fun c o h => (env.bs c o h).1)
  have nolim : s.heap.NoLimit := env.mod.nolimit.keeps (fun c o h => (env.bs c o h).1)
  refine codeAny_call_function room.depth (KI _ _ lk) rfl S.co S.gen rfl (PySem.W.codeRec_of KI hcd) (bind _ _ _ _ (wpAny_newFunctionEnv_cells S.kind (fun ⟨n, v⟩ hy => ?_) (fun env1 he s1 x1 => ?_)))
  · rcases S.par n (List.of_mem_zip hy).1 with h | h
    · exact Or.inl h
    · exact Or.inr ⟨h, PySem.W.cellsFrom_some _ _ _ (Or.inl h)⟩
  · subst he
    obtain ⟨t, body, now⟩ := hbody cdv A outer s H vs Q E a oe i (room.deeper _) hz hf want
    have J := L2H.inv_startH (CX := CX0) (E := E) S pin env (len _ _ _ _ _ _ want) vals x1
    refine ⟨nolim.keeps x1.toInCall.keep, codeAny_func (wpAny_mono (body.run [] s1 _ H _ J now) (fun fl s2 h2 => ?_) (fun _ _ h => h))⟩
    rcases fl with _ | _ | _ | u
    · obtain ⟨τ, G, J2, q2⟩ := h2
      exact ⟨V.non, G, J2.os, J2.bare, J2.base, J2.hok, rfl, q2⟩
    · exact (h2.choose_spec.choose_spec.2 : False).elim
    · exact (h2.choose_spec.choose_spec.2 : False).elim
    · obtain ⟨v, τ, G, J2, rv, q2⟩ := h2
      exact ⟨v, G, J2.os, J2.bare, J2.base, J2.hok, rv, q2⟩
end
structure CalE (P : Program) (w : World) (K : PySem.W.Frag) (mg : Str → Option Value) (base : Heap) (k : Nat) (x : Str) (cl : Nat → Addr) (sp : Addr → Nat → Sp) : Prop where
  ex : ∃ (f : Addr) (fd : FuncData) (ps : List Str), FnE P w K mg base k f fd ps cl sp ∧ mg x = some (.ref f) ∧ PySem.W.keepIn K (.ref f) = true ∧ Binds K fd ps []
def tCallE (sp : Addr → Nat → Sp) (a : Addr) (i : Nat) (t : TA) : TE := fun σ H Q => t σ H fun vs H1 => sp a i vs H1 Q C8.E0
theorem pe_cE {X : Cx} {k j i : Nat} {x : Str} {cl : Nat → Addr} {sp : Addr → Nat → Sp} {p pos : Pos} {e : Expr} {es : List Expr} {t : TA} {a : Addr} {oe : Obj} {pn : List (Addr × Obj)} (c : CalE X.prog X.w X.K X.mg X.base k x cl sp) (hr : L2H.RoomH j (X.suite a ((a, oe) :: pn)).A) (hk : k ≤ j)
    (hz : Zc (.ref (cl i)) none oe) (hf : ∃ vs, oe.data = .fields vs) (hg : Gl (X.suite a ((a, oe) :: pn)) x) (ha : PA (X.suite a ((a, oe) :: pn)) (e :: es) t)
    (hdb : (x == ("__debug__" : Str)) = false := by decide) (he : starEach (e :: es) X.env = (false, eval e X.env) :: starEach es X.env := by rfl) (hpl : (backTo pos (starEach es X.env)).any (·.1) = false := by rfl) :
    PE (X.suite a ((a, oe) :: pn)) (.Call (.Name x p) (e :: es) [] pos) (tCallE sp a i t) := by
  obtain ⟨f, fd, ps, F, hm, kp, hb⟩ := c.ex
  refine ⟨fun pins s σ H Q I h => wpAny_Call_Name_kw (ld_glob I hg hm (PySem.W.callWith_K (h₀ := X.base) I.ok.mod.kin kp (thn (ha.run pos pins s σ H _ I h) fun us s1 ⟨vs, H1, I1, r, q⟩ => ⟨I1.kIn, ?_⟩) he hpl) hdb)⟩
  have e1 : us.length = ps.length := by rw [← r.length]; exact F.len _ _ _ _ _ _ q
  have b := hb s1 us I1.kIn (by rw [List.append_nil]; exact e1)
  rw [List.append_nil] at b
  obtain ⟨p1, p2, p3, p4, p5⟩ := I1.pin (a, oe) (List.mem_append_left _ List.mem_cons_self)
  have pin : L2H.PinOk X.stack H1 s1 (a, oe) := ⟨p1, p2, fun hm => (List.mem_cons.mp (I1.stkSub a hm)).elim p3 p4, p5⟩
  refine wpAny_call (codeAny_mono (F.run _ X.stack s1 H1 ⟨us, []⟩ us vs Q C8.E0 a oe i (hr.mono hk) hz hf pin I1.env0 b r q) fun rz s2 h2 => ?_)
  rcases rz with e2 | fl
  · exact h2.elim
  · rcases fl with _ | _ | _ | u
    · exact h2.elim
    · exact h2.elim
    · exact h2.elim
    · exact I1.after h2
/-! try: .. except X as e: one of several classes -/
def tIn (cl : Nat → Addr) (n : Nat) (cls : Value) (d : Option Addr) (t : Nat → TS) : TS := fun E σ H => ∃ i, i < n ∧ cls = .ref (cl i) ∧ d = none ∧ t i E σ H
def tTryIn (K : PySem.W.Frag) (c : Value) (i : Nat) (cl : Nat → Addr) (n : Nat) (ts : Addr → Nat → TS) (tb : WX → TS) : TS := fun E σ H => tb (wAs K c i (fun a cls d => tIn cl n cls d (ts a)) (fun _ _ _ _ => False) E) E σ H
section
variable {X : Cx} {K : PySem.W.Frag} {x n : Str} {i m : Nat} {body suite : List Stmt} {b₀ : Stmt} {np pos pos' : Pos} {tb : WX → TS} {cl : Nat → Addr} {ts : Addr → Nat → TS} {C : Addr}
theorem ps_tryIn (eK : X.K = K) (hs : X.stack = X.env :: X.outer) (hf : X.env.frame = some X.env.locals) (hN : X.N.Nodup) (hi : X.N[i]? = some n) (hln : X.env.kindOf n = some .local) (hg : Gl X x) (hd : (x == ("__debug__" : Str)) = false) (hm : X.mg x = some (.ref C))
    (hb : ∀ (W : WX) (pn : List (Addr × Obj)) (xe : Value → Shared → Prop), Takes (X.tr pn xe) W → PassesOwn (model X.prog X.w) X.A X.env xe → PSs (X.tr pn xe) body (tb W))
    (hsu : ∀ (a : Addr) (oe : Obj) (pn : List (Addr × Obj)) (h : Nat), h < m → Zc (.ref (cl h)) none oe → (∃ vs, oe.data = .fields vs) → PSs (X.suite a ((a, oe) :: pn)) (b₀ :: suite) (ts a h)) :
    PS X (.Try body [.ExceptHandler (some (.Name x np)) (some n) (b₀ :: suite) pos'] [] [] pos) (tTryIn K (.ref C) i cl m ts tb) := by
  subst eK
  refine ps_try_as hs hf hN hi hln ⟨hg, hd, .inl hm⟩ takes0 hb fun a oe cls d pn hz hv => ⟨fun pins s σ H E I h => ?_⟩
  obtain ⟨y, hy, rfl, rfl, h⟩ := h
  exact (hsu a oe pn y hy hz hv).run pins s σ H E I h
end
section
variable {K : PySem.W.Frag} {σ : L2.St} {H : Hp} {E : Ends} {Q : VK} {a b : Addr} {c : Value} {i n h : Nat} {cl : Nat → Addr} {ts : Addr → Nat → TS} {tb : WX → TS} {Wo : WX} {sp : Addr → Nat → Sp} {t : TA} {ta tc : TE}
theorem w_tryIn (q : tb (wAs K c i (fun a cls d => tIn cl n cls d (ts a)) (fun _ _ _ _ => False) E) E σ H) : tTryIn K c i cl n ts tb E σ H := q
theorem w_caughtIn (hh : h < n) (te : PySem.W.exmOne K (.ref (cl h)) c = some true) (q : ∀ a, H a = none → ts a h { nx := fun σ' H' => E.nx (σ'.set i none) H', rt := E.rt, bk := fun σ' H' => E.bk (σ'.set i none) H', ct := fun σ' H' => E.ct (σ'.set i none) H' } (σ.set i (some (.ref a))) H) :
    wAs K c i (fun a cls d => tIn cl n cls d (ts a)) Wo E (.ref (cl h)) none σ H := ⟨true, te, fun _ a ha => ⟨h, hh, rfl, rfl, q a ha⟩, fun z => nomatch z⟩
theorem w_callE (q : t σ H fun vs H1 => sp a i vs H1 Q C8.E0) : tCallE sp a i t σ H Q := q
theorem w_L (q : ta σ H Q) : (fun σ H Q => ta σ H Q ∨ tc σ H Q) σ H Q := Or.inl q
theorem w_R (q : tc σ H Q) : (fun σ H Q => ta σ H Q ∨ tc σ H Q) σ H Q := Or.inr q
end
/-- a refusal, in whatever heap -/
def Due (E : XK) (c : Addr) : Prop := ∀ H' : Hp, E (.ref c) none H'
/-- the seven classes -/
def cl7 (Z : Zs) : Nat → Addr
  | 0 => Z.noshares
  | 1 => Z.nopile
  | 2 => Z.nosign
  | 3 => Z.noslot
  | 4 => Z.nomore
  | 5 => Z.notext
  | _ => Z.notleaf
theorem seven {B : Nat → Prop} (h0 : B 0) (h1 : B 1) (h2 : B 2) (h3 : B 3) (h4 : B 4) (h5 : B 5) (h6 : B 6) : ∀ i, i < 7 → B i
  | 0, _ => h0
  | 1, _ => h1
  | 2, _ => h2
  | 3, _ => h3
  | 4, _ => h4
  | 5, _ => h5
  | 6, _ => h6
  | n + 7, h => absurd h (by omega)
/-- what a test asks: q where A holds, else d -/
def Ask (A q d : Prop) : Prop := (A → q) ∧ (¬ A → d)
theorem ask_y {A q d : Prop} (h : A) (k : q) : Ask A q d := ⟨fun _ => k, fun n => absurd h n⟩
theorem ask_n {A q d : Prop} (h : ¬ A) (k : d) : Ask A q d := ⟨fun y => absurd y h, fun _ => k⟩
/-! counts -/
theorem good_iff {ns : List Int} : Good ns ↔ (0 < ns.length ∧ ns.length ≤ 100 ∧ (∀ c ∈ ns, 0 ≤ c ∧ c ≤ 999) ∧ 0 < ns.sum) :=
  ⟨fun g => ⟨g.pos, g.len, fun c hc => ⟨g.nn c hc, g.le c hc⟩, g.sum⟩, fun ⟨a, b, c, d⟩ => ⟨a, b, fun x hx => (c x hx).1, fun x hx => (c x hx).2, d⟩⟩
instance {ns : List Int} : Decidable (Good ns) := decidable_of_iff _ good_iff.symm
/-- a sign that can be laid, as it is asked -/
def Sgn (ns : List Int) (s : Int) : Prop := 0 ≤ s ∧ s < ns.length ∧ cnt ns s ≠ 0
instance {ns : List Int} {s : Int} : Decidable (Sgn ns s) := inferInstanceAs (Decidable (_ ∧ _ ∧ _))
theorem Sgn.sign {ns : List Int} {s : Int} (x : Sgn ns s) (g : Good ns) : Sign ns s := ⟨x.1, x.2.1, by have := (cnt_le g x.1 x.2.1).1; have := x.2.2; omega⟩
theorem sgn_of {ns : List Int} {s : Int} (x : Sign ns s) : Sgn ns s := ⟨x.nn, x.lt, by have := x.cp; omega⟩
/-- counts that go together -/
def Fit (ns : List Int) (many : Int) : Prop := Good ns ∧ (ns.length : Int) = many ∧ ∀ c ∈ ns, 1 ≤ c
instance {ns : List Int} {many : Int} : Decidable (Fit ns many) := inferInstanceAs (Decidable (_ ∧ _ ∧ _))
def Fits (prior : List Int) (given back : List (List Int)) : Prop := Fit prior prior.length ∧ given.length = prior.length ∧ (∀ t ∈ given, Fit t back.length) ∧ ∀ t ∈ back, Fit t prior.length
instance {prior : List Int} {given back : List (List Int)} : Decidable (Fits prior given back) := inferInstanceAs (Decidable (_ ∧ _ ∧ _ ∧ _))
/-- a learner's numbers -/
def Lrn (many step : Int) : Prop := 1 ≤ many ∧ many ≤ 100 ∧ 1 ≤ step ∧ step ≤ 9
/-! texts repeated; lists of truth values -/
def rMulS : R2 := fun x y H Q => ∃ z n, x = .str z ∧ y = .int n ∧ 0 ≤ n ∧ n ≤ 100000 ∧ z.length ≤ 100 ∧ Q (.str (Txt.mul z n)) H
theorem n_mulS {X : Cx} : OpR X (binaryOp .Mult) rMulS := by
  intro pins s σ H x y v u Q I rx ry h
  obtain ⟨z, n, rfl, rfl, h0, h1, hz, q⟩ := h
  obtain ⟨t, rfl⟩ := rx
  obtain ⟨t', rfl⟩ := ry
  exact SB.mul (mulOk_of 100 100000 hz h1 (Int.le_trans (by decide) h0) (by decide) (by decide)) fun t' k => ⟨.str (Txt.mul z n), H, I.tok _, ⟨_, rfl⟩, q⟩
theorem rep_S (c : Nat) : ∀ (n : Nat) (b : List Nat), (List.replicate n (#[c] : Array Nat)).foldl (· ++ ·) b.toArray = (b ++ List.replicate n c).toArray
  | 0, b => by simp
  | n + 1, b => by
    rw [List.replicate_succ, List.foldl_cons]
    have e : b.toArray ++ #[c] = (b ++ [c]).toArray := by simp
    rw [e, rep_S c n (b ++ [c]), List.replicate_succ]
    simp
theorem w_mulS {H : Hp} {Q : VK} {c : Nat} {n : Int} (h0 : 0 ≤ n) (h1 : n ≤ 100000) (q : Q (.str (S (List.replicate n.toNat c))) H) : rMulS (.str (S [c])) (.int n) H Q := by
  refine ⟨S [c], n, rfl, rfl, h0, h1, by rw [S_len]; exact Nat.succ_le_succ (Nat.zero_le _), ?_⟩
  have e : Txt.mul (S [c]) n = S (List.replicate n.toNat c) := by
    unfold Txt.mul
    by_cases h : n < 1
    · rw [if_pos h]
      have : n.toNat = 0 := by omega
      rw [this]
      rfl
    · rw [if_neg h]
      split
      · rename_i h2
        have e1 : n = 1 := by
          rcases Bool.or_eq_true_iff.mp h2 with h2 | h2
          · exact of_decide_eq_true (by simpa using h2)
          · rw [S_len] at h2
            cases h2
        rw [e1]
        rfl
      · have := rep_S c n.toNat []
        rw [List.nil_append] at this
        show (⟨_⟩ : Str) = _
        rw [show (#[] : Array Nat) = ([] : List Nat).toArray from rfl, show (S [c]).cps = (#[c] : Array Nat) from rfl, this]
  rw [e]
  exact q
abbrev bL (bs : List Bool) : List V := bs.map V.bl
theorem dpAllB {K : PySem.W.Frag} {H : Hp} : ∀ (bs : List Bool), DpAll K H (bL bs) (bs.map PyData.bool)
  | [] => .nil
  | b :: r => .cons (.bl b) (dpAllB r)
theorem canB : ∀ bs : List Bool, PyData.canLayAll0 (bs.map PyData.bool) = true
  | [] => by rw [List.map_nil, PyData.canLayAll0]
  | n :: r => by rw [List.map_cons, PyData.canLayAll0, canB r, PyData.canLay0]; rfl
theorem depB : ∀ bs : List Bool, PyData.depthAll (bs.map PyData.bool) = 0
  | [] => by rw [List.map_nil, PyData.depthAll]
  | n :: r => by rw [List.map_cons, PyData.depthAll, depB r, PyData.depth]; rfl
theorem shB (bs : List Bool) : SeqAt.shaped (.list (bs.map PyData.bool)) = true := by
  unfold SeqAt.shaped
  rw [PyData.canLay0, canB, PyData.depth, depB]
  rfl
theorem w_eqB {K : PySem.W.Frag} {H : Hp} {Q : VK} {a b : Addr} {bs : List Bool} (h1 : SqL K H a (bL bs)) (h2 : SqL K H b (bL bs)) (q : Q (.bl true) H) : rEqD K (.ref a) (.ref b) H Q := by
  refine ⟨_, _, .lst h1 (dpAllB bs), .lst h2 (dpAllB bs), shB bs, shB bs, ?_⟩
  rw [SeqAt.eqv_refl _ (SeqAt.canLay_of_shaped (shB bs))]
  exact q
/-- what is told of the class i -/
def told7 (i : Nat) : List Bool := [decide (i = 0), decide (i = 1), decide (i = 2), decide (i = 3), decide (i = 4), decide (i = 5), decide (i = 6), true]
theorem take_all {α : Type} {xs : List α} {i : Nat} {x : α} {B : α → Prop} (h : xs[i]? = some x) (hp : ∀ y ∈ xs.take i, B y) (hx : B x) : ∀ y ∈ xs.take (i + 1), B y := fun y hy => by
  obtain ⟨hl, e⟩ := List.getElem?_eq_some_iff.mp h
  rw [List.take_succ_eq_append_getElem hl, e] at hy
  rcases List.mem_append.mp hy with hy | hy
  · exact hp y hy
  · rw [List.mem_singleton.mp hy]
    exact hx
section
variable {K : PySem.W.Frag} {H : Hp} {Q : VK} {a p : Addr} {i : Int} {ys : List V} {ns : List Int}
/-- an item of a list, whichever -/
theorem w_pickL (h : SqL K H a ys) (h0 : 0 ≤ i) (h1 : i < ys.length) (q : ∀ v ∈ ys, Q v H) : rIxL K (.ref a) (.int i) H Q := by
  have hl : i.toNat < ys.length := by omega
  refine w_ixL h (v := ys[i.toNat]) ?_ (q _ (List.getElem_mem hl))
  obtain ⟨k, rfl⟩ : ∃ k : Nat, i = (k : Int) := ⟨i.toNat, by omega⟩
  exact atI_nat (List.getElem?_eq_getElem hl)
theorem w_pickI (h : H a = some (.lst (iL ns))) (h0 : 0 ≤ i) (h1 : i < ns.length) (q : ∀ n ∈ ns, Q (.int n) H) : rIxL K (.ref a) (.int i) H Q :=
  w_pickL (SqL.of h) h0 (by rw [List.length_map]; exact h1) fun v hv => by
    obtain ⟨n, hn, rfl⟩ := List.mem_map.mp hv
    exact q n hn
theorem tab0 (h : H p = some (.lst [])) : TabAt K H p [] := ⟨[], SqL.of h, rfl, fun i x t h _ => by simp at h⟩
theorem tab_cons {x : Addr} {t : List Int} {as : List Addr} {ts : List (List Int)} (h : H p = some (.lst ((x :: as).map V.ref))) (hx : SqL K H x (iL t)) (hl : as.length = ts.length) (r : ∀ (i : Nat) (y : Addr) (u : List Int), as[i]? = some y → ts[i]? = some u → SqL K H y (iL u)) : TabAt K H p (t :: ts) :=
  ⟨x :: as, SqL.of h, by rw [List.length_cons, List.length_cons, hl], fun i y u h1 h2 => by
    cases i with
    | zero =>
      obtain rfl : x = y := Option.some.inj h1
      obtain rfl : t = u := Option.some.inj h2
      exact hx
    | succ i => exact r i y u h1 h2⟩
theorem tab1 {x : Addr} {t : List Int} (h : H p = some (.lst [.ref x])) (hx : SqL K H x (iL t)) : TabAt K H p [t] := tab_cons (as := []) h hx rfl fun i y u h _ => by simp at h
theorem tab2 {x y : Addr} {t u : List Int} (h : H p = some (.lst [.ref x, .ref y])) (hx : SqL K H x (iL t)) (hy : SqL K H y (iL u)) : TabAt K H p [t, u] := tab_cons (as := [y]) h hx rfl fun i z v h1 h2 => by
  cases i with
  | zero =>
    obtain rfl : y = z := Option.some.inj h1
    obtain rfl : u = v := Option.some.inj h2
    exact hy
  | succ i => simp at h1
theorem tab3 {x y z : Addr} {t u v : List Int} (h : H p = some (.lst [.ref x, .ref y, .ref z])) (hx : SqL K H x (iL t)) (hy : SqL K H y (iL u)) (hz : SqL K H z (iL v)) : TabAt K H p [t, u, v] := tab_cons (as := [y, z]) h hx rfl fun i a b h1 h2 => by
  rcases i with _ | _ | i
  · obtain rfl : y = a := Option.some.inj h1
    obtain rfl : u = b := Option.some.inj h2
    exact hy
  · obtain rfl : z = a := Option.some.inj h1
    obtain rfl : v = b := Option.some.inj h2
    exact hz
  · simp at h1
end
/-- a stream at its beginning has no word to give -/
theorem stream_lacks {g : Int} (h : 1 ≤ g) : flowed [1, 2] 10 g (g * ([1, 2] : List Int).sum, []) = none := by
  have es : ([1, 2] : List Int).sum = 3 := rfl
  have e1 : g * 3 % 3 = 0 := Int.mul_emod_left ..
  have e2 : g * 3 / 3 = g := Int.mul_ediv_cancel _ (by decide)
  have eh : offS (g * 3) [1, 2] = 0 := by
    unfold offS
    rw [es, e1]
    rfl
  have ep : offP (g * 3) [1, 2] = g := by
    unfold offP
    rw [eh, es, e1, e2]
    show g * 1 + 0 - 0 = g
    omega
  unfold flowed
  rw [es, ep]
  exact flowIn_none (by omega)
/-- of 1, 2 and 3 slots none is lowered to a number from 6 on -/
theorem slots_lack {step : Int} (g : Good [1, 2, 3]) (si : StepIs [1, 2, 3] step) : ∀ k, k < ([1, 2, 3] : List Int).sum.toNat → lowN [1, 2, 3] step k < ([1, 2, 3] : List Int).sum := fun k hk => by
  have h := (low_in g si.co hk).2
  have x := signAt_in g si.co hk
  have x0 := x.nn
  have x1 : signAt [1, 2, 3] step k < 3 := x.lt
  obtain ⟨z, ez⟩ : ∃ z, z = signAt [1, 2, 3] step k := ⟨_, rfl⟩
  rw [← ez] at h x0 x1
  show lowN [1, 2, 3] step k < 6
  have : z = 0 ∨ z = 1 ∨ z = 2 := by omega
  rcases this with e | e | e
  · rw [e] at h
    have : cnt [1, 2, 3] 0 = 1 := rfl
    omega
  · rw [e] at h
    have : cnt [1, 2, 3] 1 = 2 := rfl
    omega
  · rw [e] at h
    have : cnt [1, 2, 3] 2 = 3 := rfl
    omega
end Np

namespace Pf
open PySem PySem.Spec PyProof.Rows L2 Np
open Evl (Ex)
open C8 (Cal Met Mak pe_c pe_mk pe_mt pe_mt0 pe_gc)
-- "hp": a fact of the heap at hand out of older ones
local macro_rules | `(tactic| walk_at "hp") => `(tactic| first
  | assumption
  | exact upd_same
  | (apply sq; walk_at "hp1")
  | (apply sqt; walk_at "hp1")
  | (apply up_l; (· assumption); walk_at "hp")
  | (apply up_t; (· assumption); walk_at "hp")
  | walk_at "hp1")
local macro_rules | `(tactic| walk_at "hp1") => `(tactic| first
  | assumption
  | exact upd_same
  | (apply up_o; (· assumption); walk_at "hp1")
  | (apply dn_n; (· assumption); walk_at "hp1"))
-- "ar": a side fact of numbers
local macro_rules | `(tactic| walk_at "ar") => `(tactic| first
  | assumption
  | omega
  | (show CDiv _ _; exact ⟨by omega, by omega⟩)
  | (refine cmulR ?_ ?_ <;> omega)
  | (refine cmulL ?_ ?_ <;> omega)
  | (show CPow _ _; exact ⟨by decide, by decide, by decide⟩)
  | decide)
-- "st1": one step that needs no word; "st": as many as go
local macro_rules | `(tactic| walk_at "st1") => `(tactic| first
  | (with_reducible refine w_op ?_)
  | ((with_reducible apply w_var); · exact rfl)
  | (with_reducible refine w_c ?_)
  | (with_reducible refine w_I0 ?_)
  | ((with_reducible refine w_I ?_ ?_); · walk_at "ar")
  | (with_reducible refine w_seq ?_)
  | (with_reducible refine w_asg ?_)
  | (with_reducible refine w_cons ?_)
  | (with_reducible refine w_nil ?_)
  | (with_reducible refine w_call ?_)
  | (with_reducible refine w_cb ?_)
  | (with_reducible refine w_if ?_)
  | (with_reducible refine w_test ?_)
  | (with_reducible refine w_tB ?_)
  | (with_reducible refine w_kB ?_)
  | (with_reducible refine w_ret ?_)
  | (with_reducible refine w_iteT ?_)
  | (with_reducible refine w_iteF ?_)
  | (with_reducible refine w_iteNT ?_)
  | (with_reducible refine w_iteNF ?_)
  | (with_reducible refine w_drop ?_)
  | (with_reducible refine w_next ?_)
  | (with_reducible refine w_eqI ?_)
  | (with_reducible refine w_neI ?_)
  | (with_reducible refine w_and ?_)
  | (with_reducible refine w_or ?_)
  | (with_reducible refine w_not ?_)
  | (with_reducible refine w_andV ?_)
  | (with_reducible refine w_orV ?_)
  | (with_reducible refine w_notV ?_)
  | (with_reducible refine w_ifE ?_)
  | (with_reducible refine w_sl ?_)
  | (with_reducible refine w_part ?_)
  | (with_reducible refine w_kI ?_)
  | (with_reducible refine w_noPart ?_)
  | (with_reducible refine w_tup ?_)
  | (with_reducible refine w_lst ?_)
  | (with_reducible refine w_chain ?_)
  | (with_reducible refine w_un ?_)
  | (with_reducible refine w_U ?_)
  | (with_reducible refine w_isN ?_)
  | (with_reducible refine w_notN ?_)
  | (with_reducible refine w_eqS ?_)
  | (with_reducible refine w_neS ?_)
  | (with_reducible refine w_retN ?_)
  | ((with_reducible apply w_sum); · walk_at "hp")
  | ((with_reducible apply w_lenI); · walk_at "hp")
  | ((with_reducible apply w_len); · walk_at "hp")
  | ((with_reducible apply in_cell); (· walk_at "hp"); (· decide))
  | (with_reducible refine in_whole ?_)
  | ((with_reducible apply w_lenT); · walk_at "hp")
  | ((with_reducible apply w_ixT); (· walk_at "hp"); (· exact rfl))
  | (with_reducible refine w_gName ?_)
  | (with_reducible refine w_gSub ?_)
  | (with_reducible refine w_for ?_)
  | (with_reducible refine w_iList ?_)
  | ((with_reducible apply w_kItl); · walk_at "hp")
  | (with_reducible refine w_iR1 ?_)
  | ((with_reducible refine w_kIr1 ?_ ?_ ?_); (· omega); (· omega))
  | (with_reducible refine w_iR2 ?_)
  | ((with_reducible refine w_kIr2 ?_ ?_ ?_ ?_ ?_); (· omega); (· omega); (· omega); (· omega))
  | (with_reducible refine w_iRev ?_)
  | ((with_reducible apply w_kItv); · walk_at "hp")
  | (with_reducible refine w_lrg ?_)
  | (with_reducible refine w_iRv ?_)
  | ((with_reducible refine w_kRv ?_ ?_ ?_); (· omega); (· omega))
  | (with_reducible refine w_tYes ?_)
  | (with_reducible refine w_lc ?_)
  | (with_reducible refine w_bm ?_)
  | (with_reducible refine w_bm0 ?_)
  | ((with_reducible apply w_tyL); · walk_at "hp1")
  | (with_reducible refine w_isiII ?_)
  | (with_reducible refine w_isiIB ?_)
  | (with_reducible refine w_isiSS ?_)
  | ((with_reducible apply w_isiLL); · walk_at "hp1")
  | ((with_reducible apply w_isiUU); · walk_at "hp1")
  | ((with_reducible refine w_no ?_ ?_); · omega)
  | ((with_reducible refine w_yes ?_ ?_); · first | omega | exact rfl)
  | ((with_reducible refine w_noN ?_ ?_); · first | omega | exact rfl)
  | ((with_reducible refine w_yesN ?_ ?_); · omega))
local macro_rules | `(tactic| walk_at "st") => `(tactic| repeat walk_at "st1")
-- "both": the two ways of an open test
local macro_rules | `(tactic| walk_at "both") => `(tactic| first | (with_reducible refine w_both ?_ ?_) | (with_reducible refine w_bothN ?_ ?_))

-- "lk", "pf": a field read, a field stored
local macro_rules | `(tactic| walk_at "lk") => `(tactic| first
  | exact lookLearner_tally | exact lookLearner_step | exact lookLearner_many
  | exact lookPlain_fixed | exact lookPlain_many
  | exact lookFollower_at | exact lookFollower_learners | exact lookFollower_step | exact lookFollower_many
  | exact lookStream_number | exact lookStream_words | exact lookStream_shares | exact lookStream_base | exact lookStream_grain | exact lookStream_low
  | exact lookSlots_size | exact lookSlots_holders | exact lookSlots_places | exact lookSlots_numbers | exact lookSlots_shares
  | assumption)
local macro_rules | `(tactic| walk_at "no") => `(tactic| first
  | exact noLearner (by decide +kernel) | exact noPlain (by decide +kernel) | exact noFollower (by decide +kernel) | exact noStream (by decide +kernel) | exact noSlots (by decide +kernel) | assumption)
local macro_rules | `(tactic| walk_at "st1") => `(tactic| first
  | (with_reducible refine w_fld ?_)
  | (with_reducible refine w_setF ?_)
  | (with_reducible refine w_meth ?_)
  | (with_reducible refine w_make ?_)
  | ((with_reducible apply w_kFld); (· walk_at "hp1"); (· walk_at "lk"); (· assumption); (· assumption))
  | ((with_reducible apply w_kMeth); (· walk_at "hp1"); (· walk_at "no")))

-- exceptions
local macro_rules | `(tactic| walk_at "st1") => `(tactic| first
  | (with_reducible refine w_methX ?_)
  | ((with_reducible apply w_kMethX); (· walk_at "hp1"); (· walk_at "no"))
  | (with_reducible refine w_raise ?_)
  | (with_reducible refine w_try ?_))

-- texts
local macro_rules | `(tactic| walk_at "st1") => `(tactic| first
  | (with_reducible refine w_eqTx ?_)
  | (with_reducible refine w_neTx ?_)
  | (with_reducible refine w_inS ?_)
  | (with_reducible refine w_niS ?_)
  | (with_reducible refine w_tyS ?_)
  | (with_reducible refine w_countS ?_)
  | (with_reducible refine w_m1 ?_)
  | (with_reducible refine w_isS ?_)
  | (with_reducible refine w_iStr ?_)
  | (with_reducible refine w_kStr ?_)
  | (with_reducible refine w_callX ?_)
  | (with_reducible refine w_raise ?_)
  | (with_reducible refine w_try ?_)
  | ((with_reducible apply w_tyLq); · walk_at "hp"))

-- exceptions by a name
local macro_rules | `(tactic| walk_at "st1") => `(tactic| first
  | (with_reducible refine w_tryAs ?_)
  | (with_reducible refine w_max2 ?_)
  | ((with_reducible apply w_isiUS); · walk_at "hp1"))

-- refusals
local macro_rules | `(tactic| walk_at "st1") => `(tactic| first
  | (with_reducible refine w_tryIn ?_)
  | (with_reducible refine w_callE ?_))

def top (i : Nat) : Stmt := PySem.Challenge.pw_numberpile_k19_each_refusal_its_own.main.body.getD i (.Pass ⟨0, 0, 0, 0⟩)
abbrev s__wall : Stmt := top 0
abbrev s_ask_counts : Stmt := top 13
abbrev s_holder : Stmt := top 14
abbrev s_whole : Stmt := top 15
abbrev s_first_of : Stmt := top 16
abbrev s_sign_of : Stmt := top 17
abbrev s_ask_pile : Stmt := top 19
abbrev s_ask_sign : Stmt := top 20
abbrev s_put_on : Stmt := top 21
abbrev s_taken_off : Stmt := top 22
abbrev s_lay : Stmt := top 23
abbrev s_take : Stmt := top 24
abbrev s_lay_row : Stmt := top 25
abbrev s_take_row : Stmt := top 26
abbrev s_ask_full : Stmt := top 28
abbrev s_ask_tables : Stmt := top 29
abbrev s_lay_hidden : Stmt := top 30
abbrev s_take_hidden : Stmt := top 31
abbrev s_by_letters : Stmt := top 37
abbrev s_by_pile : Stmt := top 38
abbrev s_figures_of : Stmt := top 39
abbrev s_packed : Stmt := top 40
abbrev s_unpacked : Stmt := top 41
abbrev s_ask_learner : Stmt := top 44
abbrev s_Model_init : Stmt := inClass (top 45) 0
abbrev s_Model_ask : Stmt := inClass (top 45) 1
abbrev s_Plain_init : Stmt := inClass (top 46) 0
abbrev s_Plain_counts : Stmt := inClass (top 46) 1
abbrev s_Plain_see : Stmt := inClass (top 46) 2
abbrev s_Plain_fresh : Stmt := inClass (top 46) 3
abbrev s_Learner_init : Stmt := inClass (top 47) 0
abbrev s_Learner_counts : Stmt := inClass (top 47) 1
abbrev s_Learner_see : Stmt := inClass (top 47) 2
abbrev s_Learner_fresh : Stmt := inClass (top 47) 3
abbrev s_Follower_init : Stmt := inClass (top 48) 0
abbrev s_Follower_counts : Stmt := inClass (top 48) 1
abbrev s_Follower_see : Stmt := inClass (top 48) 2
abbrev s_Follower_fresh : Stmt := inClass (top 48) 3
abbrev s_press : Stmt := top 49
abbrev s_read : Stmt := top 50
abbrev s_shared : Stmt := top 52
abbrev s_Slots_init : Stmt := inClass (top 53) 0
abbrev s_Slots_ask_number : Stmt := inClass (top 53) 1
abbrev s_Slots_dealt : Stmt := inClass (top 53) 2
abbrev s_Slots_raised : Stmt := inClass (top 53) 3
abbrev s_Slots_lowered : Stmt := inClass (top 53) 4
abbrev s_Slots_laid : Stmt := inClass (top 53) 5
abbrev s_Slots_taken : Stmt := inClass (top 53) 6
abbrev s_Stream_init : Stmt := inClass (top 55) 0
abbrev s_Stream_lay_sign : Stmt := inClass (top 55) 1
abbrev s_Stream_take_sign : Stmt := inClass (top 55) 2
abbrev s_Stream_told : Stmt := inClass (top 55) 3
abbrev s__law_cell_at : Stmt := top 57
abbrev s__law_which : Stmt := top 58
abbrev s__law_bad : Stmt := top 59
abbrev s__law_by_counts : Stmt := top 60
abbrev s__law_more_shares : Stmt := top 61
abbrev s__law_no_shares : Stmt := top 62
abbrev s__law_no_pile : Stmt := top 63
abbrev s__law_no_sign : Stmt := top 64
abbrev s__law_no_slot : Stmt := top 65
abbrev s__law_done : Stmt := top 66
abbrev s_law : Stmt := top 67
structure Txt (K : PySem.W.Frag) (mg : Str → Option Value) (Z : Zs) : Prop where
  b_ValueError : mg "ValueError" = none
  b_int : mg "int" = none
  b_isinstance : mg "isinstance" = none
  b_len : mg "len" = none
  b_list : mg "list" = none
  b_min : mg "min" = none
  b_range : mg "range" = none
  b_reversed : mg "reversed" = none
  b_str : mg "str" = none
  b_sum : mg "sum" = none
  k_MOST_SIGNS : ∃ u, mg "MOST_SIGNS" = some u ∧ RelV (.int 100) u
  k_MOST_COUNT : ∃ u, mg "MOST_COUNT" = some u ∧ RelV (.int 999) u
  k_SIGNS : ∃ u, mg "SIGNS" = some u ∧ RelV (.str (S sgs)) u
  k_LETTERS : ∃ u, mg "LETTERS" = some u ∧ RelV (.str (S lts)) u
  k_FIGURES : ∃ u, mg "FIGURES" = some u ∧ RelV (.str (S fgs)) u
  k_MOST : ∃ u, mg "MOST" = some u ∧ RelV (.int 150) u
  k_MOST_STEP : ∃ u, mg "MOST_STEP" = some u ∧ RelV (.int 9) u
  g_Model : mg "Model" = some (.ref Z.model)
  g_Plain : mg "Plain" = some (.ref Z.plain)
  is_Plain : IsF K Z.plain
  n_Plain_many : NoAttr K Z.plain "many"
  n_Plain_fixed : NoAttr K Z.plain "fixed"
  kit_Plain : PySem.W.kitOne K (.ref Z.plain) (.ref Z.model) = some true
  self_Plain : PySem.W.kitOne K (.ref Z.plain) (.ref Z.plain) = some true
  g_Learner : mg "Learner" = some (.ref Z.learner)
  is_Learner : IsF K Z.learner
  n_Learner_many : NoAttr K Z.learner "many"
  n_Learner_step : NoAttr K Z.learner "step"
  n_Learner_tally : NoAttr K Z.learner "tally"
  kit_Learner : PySem.W.kitOne K (.ref Z.learner) (.ref Z.model) = some true
  self_Learner : PySem.W.kitOne K (.ref Z.learner) (.ref Z.learner) = some true
  g_Follower : mg "Follower" = some (.ref Z.follower)
  is_Follower : IsF K Z.follower
  n_Follower_many : NoAttr K Z.follower "many"
  n_Follower_step : NoAttr K Z.follower "step"
  n_Follower_learners : NoAttr K Z.follower "learners"
  n_Follower_at : NoAttr K Z.follower "at"
  kit_Follower : PySem.W.kitOne K (.ref Z.follower) (.ref Z.model) = some true
  self_Follower : PySem.W.kitOne K (.ref Z.follower) (.ref Z.follower) = some true
  g_Slots : mg "Slots" = some (.ref Z.slots)
  is_Slots : IsF K Z.slots
  n_Slots_shares : NoAttr K Z.slots "shares"
  n_Slots_size : NoAttr K Z.slots "size"
  n_Slots_holders : NoAttr K Z.slots "holders"
  n_Slots_places : NoAttr K Z.slots "places"
  n_Slots_numbers : NoAttr K Z.slots "numbers"
  self_Slots : PySem.W.kitOne K (.ref Z.slots) (.ref Z.slots) = some true
  g_Stream : mg "Stream" = some (.ref Z.stream)
  is_Stream : IsF K Z.stream
  n_Stream_shares : NoAttr K Z.stream "shares"
  n_Stream_base : NoAttr K Z.stream "base"
  n_Stream_grain : NoAttr K Z.stream "grain"
  n_Stream_low : NoAttr K Z.stream "low"
  n_Stream_number : NoAttr K Z.stream "number"
  n_Stream_words : NoAttr K Z.stream "words"
  self_Stream : PySem.W.kitOne K (.ref Z.stream) (.ref Z.stream) = some true
  x_NoShares : ExcF K mg "NoShares" Z.noshares
  x_NoPile : ExcF K mg "NoPile" Z.nopile
  x_NoSign : ExcF K mg "NoSign" Z.nosign
  x_NoSlot : ExcF K mg "NoSlot" Z.noslot
  x_NoMore : ExcF K mg "NoMore" Z.nomore
  x_NoText : ExcF K mg "NoText" Z.notext
  x_NotLeaf : ExcF K mg "NotLeaf" Z.notleaf
  ec_NoMore : mg "NoMore" = some (.ref Z.nomore)
  ec_NoPile : mg "NoPile" = some (.ref Z.nopile)
  ec_NoShares : mg "NoShares" = some (.ref Z.noshares)
  ec_NoSign : mg "NoSign" = some (.ref Z.nosign)
  ec_NoSlot : mg "NoSlot" = some (.ref Z.noslot)
  ec_NoText : mg "NoText" = some (.ref Z.notext)
  ec_NotLeaf : mg "NotLeaf" = some (.ref Z.notleaf)
  ec_PileError : mg "PileError" = some (.ref Z.pileerror)
  ex_NoShares : ExcC K Z.noshares
  em_NoShares : PySem.W.exmOne K (.ref Z.noshares) (.ref Z.pileerror) = some true
  ev_NoShares : PySem.W.kitOne K (.ref Z.noshares) (.type "ValueError") = some true
  ek_NoShares_NoShares : PySem.W.kitOne K (.ref Z.noshares) (.ref Z.noshares) = some true
  ek_NoShares_NoPile : PySem.W.kitOne K (.ref Z.noshares) (.ref Z.nopile) = some false
  ek_NoShares_NoSign : PySem.W.kitOne K (.ref Z.noshares) (.ref Z.nosign) = some false
  ek_NoShares_NoSlot : PySem.W.kitOne K (.ref Z.noshares) (.ref Z.noslot) = some false
  ek_NoShares_NoMore : PySem.W.kitOne K (.ref Z.noshares) (.ref Z.nomore) = some false
  ek_NoShares_NoText : PySem.W.kitOne K (.ref Z.noshares) (.ref Z.notext) = some false
  ek_NoShares_NotLeaf : PySem.W.kitOne K (.ref Z.noshares) (.ref Z.notleaf) = some false
  ex_NoPile : ExcC K Z.nopile
  em_NoPile : PySem.W.exmOne K (.ref Z.nopile) (.ref Z.pileerror) = some true
  ev_NoPile : PySem.W.kitOne K (.ref Z.nopile) (.type "ValueError") = some true
  ek_NoPile_NoShares : PySem.W.kitOne K (.ref Z.nopile) (.ref Z.noshares) = some false
  ek_NoPile_NoPile : PySem.W.kitOne K (.ref Z.nopile) (.ref Z.nopile) = some true
  ek_NoPile_NoSign : PySem.W.kitOne K (.ref Z.nopile) (.ref Z.nosign) = some false
  ek_NoPile_NoSlot : PySem.W.kitOne K (.ref Z.nopile) (.ref Z.noslot) = some false
  ek_NoPile_NoMore : PySem.W.kitOne K (.ref Z.nopile) (.ref Z.nomore) = some false
  ek_NoPile_NoText : PySem.W.kitOne K (.ref Z.nopile) (.ref Z.notext) = some false
  ek_NoPile_NotLeaf : PySem.W.kitOne K (.ref Z.nopile) (.ref Z.notleaf) = some false
  ex_NoSign : ExcC K Z.nosign
  em_NoSign : PySem.W.exmOne K (.ref Z.nosign) (.ref Z.pileerror) = some true
  ev_NoSign : PySem.W.kitOne K (.ref Z.nosign) (.type "ValueError") = some true
  ek_NoSign_NoShares : PySem.W.kitOne K (.ref Z.nosign) (.ref Z.noshares) = some false
  ek_NoSign_NoPile : PySem.W.kitOne K (.ref Z.nosign) (.ref Z.nopile) = some false
  ek_NoSign_NoSign : PySem.W.kitOne K (.ref Z.nosign) (.ref Z.nosign) = some true
  ek_NoSign_NoSlot : PySem.W.kitOne K (.ref Z.nosign) (.ref Z.noslot) = some false
  ek_NoSign_NoMore : PySem.W.kitOne K (.ref Z.nosign) (.ref Z.nomore) = some false
  ek_NoSign_NoText : PySem.W.kitOne K (.ref Z.nosign) (.ref Z.notext) = some false
  ek_NoSign_NotLeaf : PySem.W.kitOne K (.ref Z.nosign) (.ref Z.notleaf) = some false
  ex_NoSlot : ExcC K Z.noslot
  em_NoSlot : PySem.W.exmOne K (.ref Z.noslot) (.ref Z.pileerror) = some true
  ev_NoSlot : PySem.W.kitOne K (.ref Z.noslot) (.type "ValueError") = some true
  ek_NoSlot_NoShares : PySem.W.kitOne K (.ref Z.noslot) (.ref Z.noshares) = some false
  ek_NoSlot_NoPile : PySem.W.kitOne K (.ref Z.noslot) (.ref Z.nopile) = some false
  ek_NoSlot_NoSign : PySem.W.kitOne K (.ref Z.noslot) (.ref Z.nosign) = some false
  ek_NoSlot_NoSlot : PySem.W.kitOne K (.ref Z.noslot) (.ref Z.noslot) = some true
  ek_NoSlot_NoMore : PySem.W.kitOne K (.ref Z.noslot) (.ref Z.nomore) = some false
  ek_NoSlot_NoText : PySem.W.kitOne K (.ref Z.noslot) (.ref Z.notext) = some false
  ek_NoSlot_NotLeaf : PySem.W.kitOne K (.ref Z.noslot) (.ref Z.notleaf) = some false
  ex_NoMore : ExcC K Z.nomore
  em_NoMore : PySem.W.exmOne K (.ref Z.nomore) (.ref Z.pileerror) = some true
  ev_NoMore : PySem.W.kitOne K (.ref Z.nomore) (.type "ValueError") = some true
  ek_NoMore_NoShares : PySem.W.kitOne K (.ref Z.nomore) (.ref Z.noshares) = some false
  ek_NoMore_NoPile : PySem.W.kitOne K (.ref Z.nomore) (.ref Z.nopile) = some false
  ek_NoMore_NoSign : PySem.W.kitOne K (.ref Z.nomore) (.ref Z.nosign) = some false
  ek_NoMore_NoSlot : PySem.W.kitOne K (.ref Z.nomore) (.ref Z.noslot) = some false
  ek_NoMore_NoMore : PySem.W.kitOne K (.ref Z.nomore) (.ref Z.nomore) = some true
  ek_NoMore_NoText : PySem.W.kitOne K (.ref Z.nomore) (.ref Z.notext) = some false
  ek_NoMore_NotLeaf : PySem.W.kitOne K (.ref Z.nomore) (.ref Z.notleaf) = some false
  ex_NoText : ExcC K Z.notext
  em_NoText : PySem.W.exmOne K (.ref Z.notext) (.ref Z.pileerror) = some true
  ev_NoText : PySem.W.kitOne K (.ref Z.notext) (.type "ValueError") = some true
  ek_NoText_NoShares : PySem.W.kitOne K (.ref Z.notext) (.ref Z.noshares) = some false
  ek_NoText_NoPile : PySem.W.kitOne K (.ref Z.notext) (.ref Z.nopile) = some false
  ek_NoText_NoSign : PySem.W.kitOne K (.ref Z.notext) (.ref Z.nosign) = some false
  ek_NoText_NoSlot : PySem.W.kitOne K (.ref Z.notext) (.ref Z.noslot) = some false
  ek_NoText_NoMore : PySem.W.kitOne K (.ref Z.notext) (.ref Z.nomore) = some false
  ek_NoText_NoText : PySem.W.kitOne K (.ref Z.notext) (.ref Z.notext) = some true
  ek_NoText_NotLeaf : PySem.W.kitOne K (.ref Z.notext) (.ref Z.notleaf) = some false
  ex_NotLeaf : ExcC K Z.notleaf
  em_NotLeaf : PySem.W.exmOne K (.ref Z.notleaf) (.ref Z.pileerror) = some true
  ev_NotLeaf : PySem.W.kitOne K (.ref Z.notleaf) (.type "ValueError") = some true
  ek_NotLeaf_NoShares : PySem.W.kitOne K (.ref Z.notleaf) (.ref Z.noshares) = some false
  ek_NotLeaf_NoPile : PySem.W.kitOne K (.ref Z.notleaf) (.ref Z.nopile) = some false
  ek_NotLeaf_NoSign : PySem.W.kitOne K (.ref Z.notleaf) (.ref Z.nosign) = some false
  ek_NotLeaf_NoSlot : PySem.W.kitOne K (.ref Z.notleaf) (.ref Z.noslot) = some false
  ek_NotLeaf_NoMore : PySem.W.kitOne K (.ref Z.notleaf) (.ref Z.nomore) = some false
  ek_NotLeaf_NoText : PySem.W.kitOne K (.ref Z.notleaf) (.ref Z.notext) = some false
  ek_NotLeaf_NotLeaf : PySem.W.kitOne K (.ref Z.notleaf) (.ref Z.notleaf) = some true
/-- the kinds of models at hand -/
inductive Kd (Z : Zs) : Mdl → Prop
  | p {cs : List Int} (g : Good cs) : Kd Z (plainM Z cs)
  | l {many step : Int} (m0 : 1 ≤ many) (m1 : many ≤ 100) (s0 : 1 ≤ step) (s1 : step ≤ 9) : Kd Z (learnerM Z many step)
  | f {many step : Int} (m0 : 1 ≤ many) (m1 : many ≤ 100) (s0 : 1 ≤ step) (s1 : step ≤ 9) : Kd Z (followerM Z many step)
section
variable {P : Program} {w : World} {K : PySem.W.Frag} {mg : Str → Option Value} {base : Heap} {Z : Zs}
-- no part for _wall
theorem sc_ask_counts : FnScope ["counts", "count"] ["counts"] (defScope s_ask_counts) := ⟨rfl, rfl, rfl, by decide +kernel, rfl, by decide +kernel, by decide +kernel⟩
def sp_ask_counts (K : PySem.W.Frag) (Z : Zs) : Sp := fun vs H Q E => ∃ (a : Addr) (ns : List Int), vs = [.ref a] ∧ SqL K H a (iL ns) ∧ Ask (Good ns) (Q .non H) (Due E Z.noshares)
theorem f_ask_counts {f : Addr} {fd : FuncData} (F : Fun K "ask_counts" "ask_counts" s_ask_counts f fd) (T : Txt K mg Z)   : FnOk P w K mg base (L2.CX P w) 1 f fd ["counts"] (sp_ask_counts K Z) := by
  refine F.okX sc_ask_counts (fun vs H Q E h => ?_) (fun cdv A outer s H vs Q E hr h => ?_)
  · obtain ⟨a, ns, rfl, hS, k⟩ := h
    rfl
  · obtain ⟨a, ns, rfl, hS, k⟩ := h
    refine ⟨_, (pss_cons (ps_if (PW.pt (pw_or (pt_cmpR op_lt (pe_callB (n_len (K := K) rfl) (by rfl) T.b_len (by decide +kernel) (pa_cons (pv 0) pa_nil)) pe_int (nomark _)) (pw_or1 (pt_cmpR op_gt (pe_callB (n_len (K := K) rfl) (by rfl) T.b_len (by decide +kernel) (pa_cons (pv 0) pa_nil)) (pe_gc rfl T.k_MOST_SIGNS) (nomark _))))) (pss_one (ps_raiseO rfl (takes_of rfl rfl rfl rfl) T.x_NoShares (by rfl) (by decide))) pss_nil)
      (pss_cons (ps_for (passes_of rfl) rfl (n_pi (K := K) rfl (pv 0)) (pg_name (i := 1) sc_ask_counts.nd rfl (Or.inl rfl)) (pss_one (ps_if (PW.pt (pw_or (pt_cmpR op_lt (pv 1) pe_int (nomark _)) (pw_or1 (pt_cmpR op_gt (pv 1) (pe_gc rfl T.k_MOST_COUNT) (nomark _))))) (pss_one (ps_raiseO rfl (takes_of rfl rfl rfl rfl) T.x_NoShares (by rfl) (by decide))) pss_nil)))
      (pss_one (ps_if (pt_cmpR op_eq (pe_callB (n_sum (K := K) rfl rfl) (by rfl) T.b_sum (by decide +kernel) (pa_cons (pv 0) pa_nil)) pe_int (nomark _)) (pss_one (ps_raiseO rfl (takes_of rfl rfl rfl rfl) T.x_NoShares (by rfl) (by decide))) pss_nil)))), ?_⟩
    walk_at "st"
    walk_at "both" <;> intro h1
    · walk_at "st"
      exact k.2 (fun g => by have := g.pos; omega) _
    walk_at "st"
    walk_at "both" <;> intro h2
    · walk_at "st"
      exact k.2 (fun g => by have := g.len; omega) _
    walk_at "st"
    refine w_loopI ns (fun i σ H' => H' = H ∧ (∀ c ∈ ns.take i, 0 ≤ c ∧ c ≤ 999) ∧ ∃ v, σ = [some (.ref a), v]) ⟨rfl, (fun c hc => by simp at hc), _, rfl⟩ (fun i σ H' ⟨e, _⟩ => by rw [e]; exact hS) ?_ ?_
    · rintro i n σ H' hn hi ⟨eH, hp, v, rfl⟩
      obtain rfl : H = H' := eH.symm
      have hm := List.mem_of_getElem? hn
      walk_at "st"
      walk_at "both" <;> intro h3
      · walk_at "st"
        exact k.2 (fun g => by have := g.nn n hm; omega) _
      walk_at "st"
      walk_at "both" <;> intro h4
      · walk_at "st"
        exact k.2 (fun g => by have := g.le n hm; omega) _
      walk_at "st"
      exact ⟨rfl, take_all hn hp ⟨by omega, by omega⟩, _, rfl⟩
    rintro σ H' ⟨eH, hp, v, rfl⟩
    obtain rfl : H = H' := eH.symm
    rw [List.take_length] at hp
    walk_at "st"
    walk_at "both" <;> intro h5
    · walk_at "st"
      exact k.2 (fun g => by have := g.sum; omega) _
    walk_at "st"
    exact k.1 (good_iff.mpr ⟨by omega, by omega, hp, by have := sum_nn fun c hc => (hp c hc).1; omega⟩)
theorem sc_holder : FnScope ["counts", "slot", "sign"] ["counts", "slot"] (defScope s_holder) := ⟨rfl, rfl, rfl, by decide +kernel, rfl, by decide +kernel, by decide +kernel⟩
def sp_holder (K : PySem.W.Frag) (_ : Zs) : Sp := fun vs H Q _ => ∃ (a : Addr) (ns : List Int) (s : Int), vs = [.ref a, .int s] ∧ SqL K H a (iL ns) ∧ 0 ≤ s ∧ s < ns.sum ∧ Q (.int (holder ns s : Nat)) H
theorem c_holder {f : Addr} {fd : FuncData} (F : Fun K "holder" "holder" s_holder f fd) (hm : mg "holder" = some (.ref f)) (T : Txt K mg Z)   : Cal P w K mg base 1 "holder" (sp_holder K Z) [] := by
  refine cal_of F hm (F.binds (ps := ["counts", "slot"]) (fun _ _ _ _ _ _ us hl => match us, hl with | [_, _], _ => rfl)) sc_holder (fun vs H Q E h => ?_) (fun cdv A outer s H vs Q E hr h => ?_)
  · obtain ⟨a, ns, s0, rfl, hS, h0, h1, k⟩ := h
    rfl
  · obtain ⟨a, ns, s0, rfl, hS, h0, h1, k⟩ := h
    refine ⟨_, (pss_cons (ps_set (i := 2) sc_holder.nd rfl (Or.inl rfl) pe_int)
      (pss_cons (ps_while PassesOwn.never (pt_cmpR op_ge (pv 1) (pe_ix (n_ixL (K := K) rfl) (pv 0) (pv 2) (fun _ _ => rfl)) (nomark _)) (pss_cons (ps_set (i := 1) sc_holder.nd rfl (Or.inl rfl) (pe_op op_sub (pv 1) (pe_ix (n_ixL (K := K) rfl) (pv 0) (pv 2) (fun _ _ => rfl))))
      (pss_one (ps_set (i := 2) sc_holder.nd rfl (Or.inl rfl) (pe_op op_add (pv 2) pe_int)))))
      (pss_one (ps_ret (pv 2))))), ?_⟩
    walk_at "st"
    refine w_while (fun m σ H' => H' = H ∧ ∃ (j : Nat) (s : Int), σ = [some (.ref a), some (.int s), some (.int (j : Int))] ∧ m = ns.length - j ∧ 0 ≤ s ∧ s < (ns.drop j).sum ∧ holder ns s0 = j + holder (ns.drop j) s) ns.length ⟨rfl, 0, s0, rfl, rfl, h0, h1, by simp⟩ ?_
    rintro m σ H' ⟨rfl, j, s, rfl, rfl, b0, b1, e⟩
    have hj : j < ns.length := by
      refine Classical.byContradiction fun q => ?_
      rw [List.drop_eq_nil_of_le (by omega)] at b1
      simp at b1
      omega
    obtain ⟨c, ec⟩ : ∃ c, ns[j]? = some c := ⟨_, List.getElem?_eq_getElem hj⟩
    have st := holder_step (s := s) ec
    have sd := sum_drop ec
    walk_at "st"
    refine w_ixI hS rfl ec ?_
    walk_at "st"
    walk_at "both" <;> intro hc
    · refine w_turn ?_
      walk_at "st"
      refine w_ixI hS rfl ec ?_
      walk_at "st"
      refine ⟨ns.length - (j + 1), by omega, rfl, j + 1, s - c, ?_, rfl, by omega, by omega, ?_⟩
      · show [_, _, _] = _
        rw [Int.natCast_succ]
      · rw [if_pos hc] at st
        omega
    · walk_at "st"
      rw [if_neg hc] at st
      have e2 : (j : Int) = ((holder ns s0 : Nat) : Int) := by omega
      rw [e2]
      exact k
theorem sc_whole : FnScope ["counts"] ["counts"] (defScope s_whole) := ⟨rfl, rfl, rfl, by decide +kernel, rfl, by decide +kernel, by decide +kernel⟩
def sp_whole (K : PySem.W.Frag) (Z : Zs) : Sp := fun vs H _ E => ∃ (a : Addr) (ns : List Int), vs = [.ref a] ∧ SqL K H a (iL ns) ∧ ¬ Good ns ∧ Due E Z.noshares
theorem f_whole {f : Addr} {fd : FuncData} (F : Fun K "whole" "whole" s_whole f fd) (T : Txt K mg Z) (xf_ask_counts : CalX P w K mg base 1 "ask_counts" (sp_ask_counts K Z))  : FnOk P w K mg base (L2.CX P w) 2 f fd ["counts"] (sp_whole K Z) := by
  refine F.okX sc_whole (fun vs H Q E h => ?_) (fun cdv A outer s H vs Q E hr h => ?_)
  · obtain ⟨a, ns, rfl, hS, nb, k⟩ := h
    rfl
  · obtain ⟨a, ns, rfl, hS, nb, k⟩ := h
    refine ⟨_, (pss_cons (ps_expr (pe_cX xf_ask_counts hr (by decide) (takes_of rfl rfl rfl rfl) rfl (pa_cons (pv 0) pa_nil)))
      (pss_one (ps_ret (pe_callB (n_sum (K := K) rfl rfl) (by rfl) T.b_sum (by decide +kernel) (pa_cons (pv 0) pa_nil))))), ?_⟩
    walk_at "st"
    exact ⟨a, ns, rfl, hS, ask_n nb k⟩
theorem sc_first_of : FnScope ["counts", "sign"] ["counts", "sign"] (defScope s_first_of) := ⟨rfl, rfl, rfl, by decide +kernel, rfl, by decide +kernel, by decide +kernel⟩
def sp_first_of (K : PySem.W.Frag) (Z : Zs) : Sp := fun vs H _ E => ∃ (a : Addr) (ns : List Int) (s : Int), vs = [.ref a, .int s] ∧ SqL K H a (iL ns) ∧ Ask (Good ns) (¬ (0 ≤ s ∧ s < ns.length) ∧ Due E Z.nosign) (Due E Z.noshares)
theorem f_first_of {f : Addr} {fd : FuncData} (F : Fun K "first_of" "first_of" s_first_of f fd) (T : Txt K mg Z) (xf_ask_counts : CalX P w K mg base 1 "ask_counts" (sp_ask_counts K Z))  : FnOk P w K mg base (L2.CX P w) 2 f fd ["counts", "sign"] (sp_first_of K Z) := by
  refine F.okX sc_first_of (fun vs H Q E h => ?_) (fun cdv A outer s H vs Q E hr h => ?_)
  · obtain ⟨a, ns, s0, rfl, hS, k⟩ := h
    rfl
  · obtain ⟨a, ns, s0, rfl, hS, k⟩ := h
    refine ⟨_, (pss_cons (ps_expr (pe_cX xf_ask_counts hr (by decide) (takes_of rfl rfl rfl rfl) rfl (pa_cons (pv 0) pa_nil)))
      (pss_cons (ps_if (PW.pt (pw_or (pt_cmpR op_lt (pv 1) pe_int (nomark _)) (pw_or1 (pt_cmpR op_ge (pv 1) (pe_callB (n_len (K := K) rfl) (by rfl) T.b_len (by decide +kernel) (pa_cons (pv 0) pa_nil)) (nomark _))))) (pss_one (ps_raiseO rfl (takes_of rfl rfl rfl rfl) T.x_NoSign (by rfl) (by decide))) pss_nil)
      (pss_one (ps_ret (pe_callB (n_sum (K := K) rfl rfl) (by rfl) T.b_sum (by decide +kernel) (pa_cons (pe_slice (n_slL (K := K) rfl) (pv 0) po_none (po_some (pv 1))) pa_nil)))))), ?_⟩
    walk_at "st"
    refine ⟨a, ns, rfl, hS, fun g => ?_, k.2⟩
    obtain ⟨nb, d⟩ := k.1 g
    walk_at "st"
    walk_at "both" <;> intro h1
    · walk_at "st"
      exact d _
    walk_at "st"
    exact d _
theorem sc_sign_of : FnScope ["counts", "slot"] ["counts", "slot"] (defScope s_sign_of) := ⟨rfl, rfl, rfl, by decide +kernel, rfl, by decide +kernel, by decide +kernel⟩
def sp_sign_of (K : PySem.W.Frag) (Z : Zs) : Sp := fun vs H _ E => ∃ (a : Addr) (ns : List Int) (s : Int), vs = [.ref a, .int s] ∧ SqL K H a (iL ns) ∧ Ask (Good ns) (¬ (0 ≤ s ∧ s < ns.sum) ∧ Due E Z.noslot) (Due E Z.noshares)
theorem f_sign_of {f : Addr} {fd : FuncData} (F : Fun K "sign_of" "sign_of" s_sign_of f fd) (T : Txt K mg Z) (xf_ask_counts : CalX P w K mg base 1 "ask_counts" (sp_ask_counts K Z)) (c_holder : Cal P w K mg base 1 "holder" (sp_holder K Z) [])  : FnOk P w K mg base (L2.CX P w) 2 f fd ["counts", "slot"] (sp_sign_of K Z) := by
  refine F.okX sc_sign_of (fun vs H Q E h => ?_) (fun cdv A outer s H vs Q E hr h => ?_)
  · obtain ⟨a, ns, s0, rfl, hS, k⟩ := h
    rfl
  · obtain ⟨a, ns, s0, rfl, hS, k⟩ := h
    refine ⟨_, (pss_cons (ps_expr (pe_cX xf_ask_counts hr (by decide) (takes_of rfl rfl rfl rfl) rfl (pa_cons (pv 0) pa_nil)))
      (pss_cons (ps_if (PW.pt (pw_or (pt_cmpR op_lt (pv 1) pe_int (nomark _)) (pw_or1 (pt_cmpR op_ge (pv 1) (pe_callB (n_sum (K := K) rfl rfl) (by rfl) T.b_sum (by decide +kernel) (pa_cons (pv 0) pa_nil)) (nomark _))))) (pss_one (ps_raiseO rfl (takes_of rfl rfl rfl rfl) T.x_NoSlot (by rfl) (by decide))) pss_nil)
      (pss_one (ps_ret (pe_c c_holder hr (by decide) rfl (pa_cons (pv 0) (pa_cons (pv 1) pa_nil))))))), ?_⟩
    walk_at "st"
    refine ⟨a, ns, rfl, hS, fun g => ?_, k.2⟩
    obtain ⟨nb, d⟩ := k.1 g
    walk_at "st"
    walk_at "both" <;> intro h1
    · walk_at "st"
      exact d _
    walk_at "st"
    exact d _
theorem sc_ask_pile : FnScope ["pile"] ["pile"] (defScope s_ask_pile) := ⟨rfl, rfl, rfl, by decide +kernel, rfl, by decide +kernel, by decide +kernel⟩
def sp_ask_pile (_ : PySem.W.Frag) (Z : Zs) : Sp := fun vs H Q E => ∃ (p : Int), vs = [.int p] ∧ Ask (0 ≤ p) (Q .non H) (Due E Z.nopile)
theorem f_ask_pile {f : Addr} {fd : FuncData} (F : Fun K "ask_pile" "ask_pile" s_ask_pile f fd) (T : Txt K mg Z)   : FnOk P w K mg base (L2.CX P w) 1 f fd ["pile"] (sp_ask_pile K Z) := by
  refine F.okX sc_ask_pile (fun vs H Q E h => ?_) (fun cdv A outer s H vs Q E hr h => ?_)
  · obtain ⟨p, rfl, k⟩ := h
    rfl
  · obtain ⟨p, rfl, k⟩ := h
    refine ⟨_, (pss_one (ps_if (pt_cmpR op_lt (pv 0) pe_int (nomark _)) (pss_one (ps_raiseO rfl (takes_of rfl rfl rfl rfl) T.x_NoPile (by rfl) (by decide))) pss_nil)), ?_⟩
    walk_at "st"
    walk_at "both" <;> intro h1
    · walk_at "st"
      exact k.2 (by omega) _
    walk_at "st"
    exact k.1 (by omega)
theorem sc_ask_sign : FnScope ["counts", "sign"] ["counts", "sign"] (defScope s_ask_sign) := ⟨rfl, rfl, rfl, by decide +kernel, rfl, by decide +kernel, by decide +kernel⟩
def sp_ask_sign (K : PySem.W.Frag) (Z : Zs) : Sp := fun vs H Q E => ∃ (a : Addr) (ns : List Int) (s : Int), vs = [.ref a, .int s] ∧ SqL K H a (iL ns) ∧ Ask (Sgn ns s) (Q .non H) (Due E Z.nosign)
theorem f_ask_sign {f : Addr} {fd : FuncData} (F : Fun K "ask_sign" "ask_sign" s_ask_sign f fd) (T : Txt K mg Z)   : FnOk P w K mg base (L2.CX P w) 1 f fd ["counts", "sign"] (sp_ask_sign K Z) := by
  refine F.okX sc_ask_sign (fun vs H Q E h => ?_) (fun cdv A outer s H vs Q E hr h => ?_)
  · obtain ⟨a, ns, s0, rfl, hS, k⟩ := h
    rfl
  · obtain ⟨a, ns, s0, rfl, hS, k⟩ := h
    refine ⟨_, (pss_one (ps_if (PW.pt (pw_or (pt_cmpR op_lt (pv 1) pe_int (nomark _)) (pw_or (pt_cmpR op_ge (pv 1) (pe_callB (n_len (K := K) rfl) (by rfl) T.b_len (by decide +kernel) (pa_cons (pv 0) pa_nil)) (nomark _)) (pw_or1 (pt_cmpR op_eq (pe_ix (n_ixL (K := K) rfl) (pv 0) (pv 1) (fun _ _ => rfl)) pe_int (nomark _)))))) (pss_one (ps_raiseO rfl (takes_of rfl rfl rfl rfl) T.x_NoSign (by rfl) (by decide))) pss_nil)), ?_⟩
    walk_at "st"
    walk_at "both" <;> intro h1
    · walk_at "st"
      exact k.2 (fun x => by have := x.1; omega) _
    walk_at "st"
    walk_at "both" <;> intro h2
    · walk_at "st"
      exact k.2 (fun x => by have := x.2.1; omega) _
    walk_at "st"
    refine w_ixI hS (k := s0.toNat) (by omega) (cnt_at (by omega) (by omega)) ?_
    walk_at "st"
    walk_at "both" <;> intro h3
    · walk_at "st"
      exact k.2 (fun x => x.2.2 h3) _
    walk_at "st"
    exact k.1 ⟨by omega, by omega, h3⟩
theorem sc_put_on : FnScope ["pile", "counts", "sign", "count"] ["pile", "counts", "sign"] (defScope s_put_on) := ⟨rfl, rfl, rfl, by decide +kernel, rfl, by decide +kernel, by decide +kernel⟩
def sp_put_on (K : PySem.W.Frag) (_ : Zs) : Sp := fun vs H Q _ => ∃ (p : Int) (a : Addr) (ns : List Int) (s : Int), vs = [.int p, .ref a, .int s] ∧ SqL K H a (iL ns) ∧ Good ns ∧ Sign ns s ∧ ∀ H', Ex H H' → Q (.int (put p ns s)) H'
theorem c_put_on {f : Addr} {fd : FuncData} (F : Fun K "put_on" "put_on" s_put_on f fd) (hm : mg "put_on" = some (.ref f)) (T : Txt K mg Z)   : Cal P w K mg base 1 "put_on" (sp_put_on K Z) [] := by
  refine cal_of F hm (F.binds (ps := ["pile", "counts", "sign"]) (fun _ _ _ _ _ _ us hl => match us, hl with | [_, _, _], _ => rfl)) sc_put_on (fun vs H Q E h => ?_) (fun cdv A outer s H vs Q E hr h => ?_)
  · obtain ⟨p, a, ns, s0, rfl, hS, g, x, k⟩ := h
    rfl
  · obtain ⟨p, a, ns, s0, rfl, hS, g, x, k⟩ := h
    refine ⟨_, (pss_cons (ps_set (i := 3) sc_put_on.nd rfl (Or.inl rfl) (pe_ix (n_ixL (K := K) rfl) (pv 1) (pv 2) (fun _ _ => rfl)))
      (pss_one (ps_ret (pe_op op_add (pe_op op_add (pe_op op_mul (pe_op op_fdiv (pv 0) (pv 3)) (pe_callB (n_sum (K := K) rfl rfl) (by rfl) T.b_sum (by decide +kernel) (pa_cons (pv 1) pa_nil))) (pe_callB (n_sum (K := K) rfl rfl) (by rfl) T.b_sum (by decide +kernel) (pa_cons (pe_slice (n_slL (K := K) rfl) (pv 1) po_none (po_some (pv 2))) pa_nil))) (pe_op op_mod (pv 0) (pv 3)))))), ?_⟩
    have x0 := x.nn
    have x1 := x.lt
    have x2 := x.cp
    have x3 := (cnt_le g x0 x1).2
    have g1 := g.sum
    have g2 := g.sumle
    walk_at "st"
    refine w_ixI hS (k := s0.toNat) (by omega) (cnt_at x0 x1) ?_
    walk_at "st"
    refine w_slTo hS x0 fun q H1 nq e1 hq => ?_
    walk_at "st"
    exact k _ e1
theorem sc_taken_off : FnScope ["pile", "counts", "slot", "sign"] ["pile", "counts"] (defScope s_taken_off) := ⟨rfl, rfl, rfl, by decide +kernel, rfl, by decide +kernel, by decide +kernel⟩
def sp_taken_off (K : PySem.W.Frag) (_ : Zs) : Sp := fun vs H Q _ => ∃ (p : Int) (a : Addr) (ns : List Int), vs = [.int p, .ref a] ∧ SqL K H a (iL ns) ∧ Good ns ∧ ∀ q H', H q = none → Ex H H' → H' q = some (.tup [.int (offS p ns), .int (offP p ns)]) → Q (.ref q) H'
theorem c_taken_off {f : Addr} {fd : FuncData} (F : Fun K "taken_off" "taken_off" s_taken_off f fd) (hm : mg "taken_off" = some (.ref f)) (T : Txt K mg Z) (c_holder : Cal P w K mg base 1 "holder" (sp_holder K Z) [])  : Cal P w K mg base 2 "taken_off" (sp_taken_off K Z) [] := by
  refine cal_of F hm (F.binds (ps := ["pile", "counts"]) (fun _ _ _ _ _ _ us hl => match us, hl with | [_, _], _ => rfl)) sc_taken_off (fun vs H Q E h => ?_) (fun cdv A outer s H vs Q E hr h => ?_)
  · obtain ⟨p, a, ns, rfl, hS, g, k⟩ := h
    rfl
  · obtain ⟨p, a, ns, rfl, hS, g, k⟩ := h
    refine ⟨_, (pss_cons (ps_set (i := 2) sc_taken_off.nd rfl (Or.inl rfl) (pe_op op_mod (pv 0) (pe_callB (n_sum (K := K) rfl rfl) (by rfl) T.b_sum (by decide +kernel) (pa_cons (pv 1) pa_nil))))
      (pss_cons (ps_set (i := 3) sc_taken_off.nd rfl (Or.inl rfl) (pe_c c_holder hr (by decide) rfl (pa_cons (pv 1) (pa_cons (pv 2) pa_nil))))
      (pss_one (ps_ret (pe_tup (pa_cons (pv 3) (pa_cons (pe_op op_sub (pe_op op_add (pe_op op_mul (pe_op op_fdiv (pv 0) (pe_callB (n_sum (K := K) rfl rfl) (by rfl) T.b_sum (by decide +kernel) (pa_cons (pv 1) pa_nil))) (pe_ix (n_ixL (K := K) rfl) (pv 1) (pv 3) (fun _ _ => rfl))) (pv 2)) (pe_callB (n_sum (K := K) rfl rfl) (by rfl) T.b_sum (by decide +kernel) (pa_cons (pe_slice (n_slL (K := K) rfl) (pv 1) po_none (po_some (pv 3))) pa_nil))) pa_nil))))))), ?_⟩
    have g1 := g.sum
    have g2 := g.sumle
    have m0 := Int.emod_nonneg p (show ns.sum ≠ 0 by omega)
    have m1 := Int.emod_lt_of_pos p g1
    obtain ⟨x, f1, f2⟩ := off_sign g p
    have x0 := x.nn
    have x1 := x.lt
    have x2 := x.cp
    have x3 := (cnt_le g x0 x1).2
    walk_at "st"
    refine ⟨a, ns, _, rfl, hS, m0, m1, ?_⟩
    walk_at "st"
    refine w_ixI hS (k := (offS p ns).toNat) (show offS p ns = _ by omega) (cnt_at x0 x1) ?_
    walk_at "st"
    refine w_slTo hS x0 fun q H1 nq e1 hq => ?_
    walk_at "st"
    refine w_newT (Nat.le_of_ble_eq_true rfl) fun q2 H2 nq2 e2 hq2 => ?_
    exact k _ _ (dn_n e1 nq2) (e1.trans e2) hq2
theorem sc_lay : FnScope ["pile", "counts", "sign"] ["pile", "counts", "sign"] (defScope s_lay) := ⟨rfl, rfl, rfl, by decide +kernel, rfl, by decide +kernel, by decide +kernel⟩
def sp_lay (K : PySem.W.Frag) (Z : Zs) : Sp := fun vs H _ E => ∃ (p : Int) (a : Addr) (ns : List Int) (s : Int), vs = [.int p, .ref a, .int s] ∧ SqL K H a (iL ns) ∧ Ask (Good ns) (Ask (0 ≤ p) (¬ Sgn ns s ∧ Due E Z.nosign) (Due E Z.nopile)) (Due E Z.noshares)
theorem f_lay {f : Addr} {fd : FuncData} (F : Fun K "lay" "lay" s_lay f fd) (T : Txt K mg Z) (xf_ask_counts : CalX P w K mg base 1 "ask_counts" (sp_ask_counts K Z)) (xf_ask_pile : CalX P w K mg base 1 "ask_pile" (sp_ask_pile K Z)) (xf_ask_sign : CalX P w K mg base 1 "ask_sign" (sp_ask_sign K Z)) (c_put_on : Cal P w K mg base 1 "put_on" (sp_put_on K Z) [])  : FnOk P w K mg base (L2.CX P w) 2 f fd ["pile", "counts", "sign"] (sp_lay K Z) := by
  refine F.okX sc_lay (fun vs H Q E h => ?_) (fun cdv A outer s H vs Q E hr h => ?_)
  · obtain ⟨p, a, ns, s0, rfl, hS, k⟩ := h
    rfl
  · obtain ⟨p, a, ns, s0, rfl, hS, k⟩ := h
    refine ⟨_, (pss_cons (ps_expr (pe_cX xf_ask_counts hr (by decide) (takes_of rfl rfl rfl rfl) rfl (pa_cons (pv 1) pa_nil)))
      (pss_cons (ps_expr (pe_cX xf_ask_pile hr (by decide) (takes_of rfl rfl rfl rfl) rfl (pa_cons (pv 0) pa_nil)))
      (pss_cons (ps_expr (pe_cX xf_ask_sign hr (by decide) (takes_of rfl rfl rfl rfl) rfl (pa_cons (pv 1) (pa_cons (pv 2) pa_nil))))
      (pss_one (ps_ret (pe_c c_put_on hr (by decide) rfl (pa_cons (pv 0) (pa_cons (pv 1) (pa_cons (pv 2) pa_nil))))))))), ?_⟩
    walk_at "st"
    refine ⟨a, ns, rfl, hS, fun g => ?_, k.2⟩
    have k := k.1 g
    walk_at "st"
    refine ⟨p, rfl, fun p0 => ?_, k.2⟩
    obtain ⟨nb, d⟩ := k.1 p0
    walk_at "st"
    exact ⟨a, ns, s0, rfl, hS, ask_n nb d⟩
theorem sc_take : FnScope ["pile", "counts"] ["pile", "counts"] (defScope s_take) := ⟨rfl, rfl, rfl, by decide +kernel, rfl, by decide +kernel, by decide +kernel⟩
def sp_take (K : PySem.W.Frag) (Z : Zs) : Sp := fun vs H _ E => ∃ (p : Int) (a : Addr) (ns : List Int), vs = [.int p, .ref a] ∧ SqL K H a (iL ns) ∧ Ask (Good ns) (¬ 0 ≤ p ∧ Due E Z.nopile) (Due E Z.noshares)
theorem f_take {f : Addr} {fd : FuncData} (F : Fun K "take" "take" s_take f fd) (T : Txt K mg Z) (xf_ask_counts : CalX P w K mg base 1 "ask_counts" (sp_ask_counts K Z)) (xf_ask_pile : CalX P w K mg base 1 "ask_pile" (sp_ask_pile K Z)) (c_taken_off : Cal P w K mg base 2 "taken_off" (sp_taken_off K Z) [])  : FnOk P w K mg base (L2.CX P w) 3 f fd ["pile", "counts"] (sp_take K Z) := by
  refine F.okX sc_take (fun vs H Q E h => ?_) (fun cdv A outer s H vs Q E hr h => ?_)
  · obtain ⟨p, a, ns, rfl, hS, k⟩ := h
    rfl
  · obtain ⟨p, a, ns, rfl, hS, k⟩ := h
    refine ⟨_, (pss_cons (ps_expr (pe_cX xf_ask_counts hr (by decide) (takes_of rfl rfl rfl rfl) rfl (pa_cons (pv 1) pa_nil)))
      (pss_cons (ps_expr (pe_cX xf_ask_pile hr (by decide) (takes_of rfl rfl rfl rfl) rfl (pa_cons (pv 0) pa_nil)))
      (pss_one (ps_ret (pe_c c_taken_off hr (by decide) rfl (pa_cons (pv 0) (pa_cons (pv 1) pa_nil))))))), ?_⟩
    walk_at "st"
    refine ⟨a, ns, rfl, hS, fun g => ?_, k.2⟩
    obtain ⟨nb, d⟩ := k.1 g
    walk_at "st"
    exact ⟨p, rfl, ask_n nb d⟩
theorem sc_lay_row : FnScope ["pile", "counts", "row", "sign"] ["pile", "counts", "row"] (defScope s_lay_row) := ⟨rfl, rfl, rfl, by decide +kernel, rfl, by decide +kernel, by decide +kernel⟩
def sp_lay_row (K : PySem.W.Frag) (Z : Zs) : Sp := fun vs H Q E => ∃ (p : Int) (a b : Addr) (ns row : List Int), vs = [.int p, .ref a, .ref b] ∧ SqL K H a (iL ns) ∧ SqL K H b (iL row) ∧ Ask (Good ns) (Ask (0 ≤ p) (Ask (∀ s ∈ row, Sgn ns s) (∀ H', Ex H H' → Q (.int (layRow p ns row)) H') (Due E Z.nosign)) (Due E Z.nopile)) (Due E Z.noshares)
theorem f_lay_row {f : Addr} {fd : FuncData} (F : Fun K "lay_row" "lay_row" s_lay_row f fd) (T : Txt K mg Z) (xf_ask_counts : CalX P w K mg base 1 "ask_counts" (sp_ask_counts K Z)) (xf_ask_pile : CalX P w K mg base 1 "ask_pile" (sp_ask_pile K Z)) (xf_ask_sign : CalX P w K mg base 1 "ask_sign" (sp_ask_sign K Z)) (c_put_on : Cal P w K mg base 1 "put_on" (sp_put_on K Z) [])  : FnOk P w K mg base (L2.CX P w) 2 f fd ["pile", "counts", "row"] (sp_lay_row K Z) := by
  refine F.okX sc_lay_row (fun vs H Q E h => ?_) (fun cdv A outer s H vs Q E hr h => ?_)
  · obtain ⟨p, a, b, ns, row, rfl, hS, hR, k⟩ := h
    rfl
  · obtain ⟨p, a, b, ns, row, rfl, hS, hR, k⟩ := h
    refine ⟨_, (pss_cons (ps_expr (pe_cX xf_ask_counts hr (by decide) (takes_of rfl rfl rfl rfl) rfl (pa_cons (pv 1) pa_nil)))
      (pss_cons (ps_expr (pe_cX xf_ask_pile hr (by decide) (takes_of rfl rfl rfl rfl) rfl (pa_cons (pv 0) pa_nil)))
      (pss_cons (ps_for (passes_of rfl) rfl (n_pi (K := K) rfl (pv 2)) (pg_name (i := 3) sc_lay_row.nd rfl (Or.inl rfl)) (pss_one (ps_expr (pe_cX xf_ask_sign hr (by decide) (takes_of rfl rfl rfl rfl) rfl (pa_cons (pv 1) (pa_cons (pv 3) pa_nil))))))
      (pss_cons (ps_for (passes_of rfl) rfl (n_pirev (K := K) rfl (by rfl) T.b_reversed (pa_cons (pv 2) pa_nil)) (pg_name (i := 3) sc_lay_row.nd rfl (Or.inl rfl)) (pss_one (ps_set (i := 0) sc_lay_row.nd rfl (Or.inl rfl) (pe_c c_put_on hr (by decide) rfl (pa_cons (pv 0) (pa_cons (pv 1) (pa_cons (pv 3) pa_nil)))))))
      (pss_one (ps_ret (pv 0))))))), ?_⟩
    walk_at "st"
    refine ⟨a, ns, rfl, hS, fun g => ?_, k.2⟩
    have k := k.1 g
    walk_at "st"
    refine ⟨p, rfl, fun p0 => ?_, k.2⟩
    have k := k.1 p0
    walk_at "st"
    refine w_loopI row (fun i σ H' => H' = H ∧ (∀ s ∈ row.take i, Sgn ns s) ∧ ∃ v, σ = [some (.int p), some (.ref a), some (.ref b), v]) ⟨rfl, (fun c hc => by simp at hc), _, rfl⟩ (fun i σ H' ⟨e, _⟩ => by rw [e]; exact hR) ?_ ?_
    · rintro i s σ H' hn hi ⟨eH, hp, v, rfl⟩
      obtain rfl : H = H' := eH.symm
      walk_at "st"
      refine ⟨a, ns, s, rfl, hS, fun x => ?_, fun n => k.2 fun q => n (q s (List.mem_of_getElem? hn))⟩
      walk_at "st"
      exact ⟨rfl, take_all hn hp x, _, rfl⟩
    rintro σ H' ⟨eH, hp, v, rfl⟩
    obtain rfl : H = H' := eH.symm
    rw [List.take_length] at hp
    have k := k.1 hp
    have hx : ∀ s ∈ row, Sign ns s := fun s hs => (hp s hs).sign g
    walk_at "st"
    refine w_loopV row (by rw [List.length_map]) (fun i σ H1 => Ex H H1 ∧ ∃ v, σ = [some (.int (layRow p ns (row.drop (row.length - i)))), some (.ref a), some (.ref b), v]) ⟨Evl.Ex.refl _, v, ?_⟩ (fun i σ H1 ⟨e, _⟩ => up_l e hR) ?_ ?_
    · rw [Nat.sub_zero, List.drop_length]
      rfl
    · rintro i s σ H1 hn hi ⟨e1, v1, rfl⟩
      have e2 := layRow_drop (p := p) (ns := ns) hn
      have e3 : row.length - 1 - i + 1 = row.length - i := by omega
      have e4 : row.length - 1 - i = row.length - (i + 1) := by omega
      rw [e3, e4] at e2
      walk_at "st"
      refine ⟨_, a, ns, s, rfl, up_l e1 hS, g, hx s (List.mem_of_getElem? hn), fun H2 e5 => ?_⟩
      walk_at "st"
      refine ⟨e1.trans e5, some (.int s), ?_⟩
      rw [e2]
      rfl
    · rintro σ H1 ⟨e1, v1, rfl⟩
      walk_at "st"
      have e2 : row.drop (row.length - row.length) = row := by rw [Nat.sub_self, List.drop_zero]
      rw [e2]
      exact k _ e1
theorem sc_take_row : FnScope ["pile", "counts", "many", "row", "turn", "found"] ["pile", "counts", "many"] (defScope s_take_row) := ⟨rfl, rfl, rfl, by decide +kernel, rfl, by decide +kernel, by decide +kernel⟩
def sp_take_row (K : PySem.W.Frag) (Z : Zs) : Sp := fun vs H Q E => ∃ (p : Int) (a : Addr) (ns : List Int) (n : Nat), vs = [.int p, .ref a, .int (n : Int)] ∧ SqL K H a (iL ns) ∧ Ask (Good ns) (Ask (0 ≤ p) (n ≤ 1000 ∧
  ∀ q l H', H q = none → H l = none → Ex H H' → H' q = some (.tup [.ref l, .int (pileAt ns p n)]) → H' l = some (.lst (iL (takenRow ns p n))) → Q (.ref q) H') (Due E Z.nopile)) (Due E Z.noshares)
theorem f_take_row {f : Addr} {fd : FuncData} (F : Fun K "take_row" "take_row" s_take_row f fd) (T : Txt K mg Z) (xf_ask_counts : CalX P w K mg base 1 "ask_counts" (sp_ask_counts K Z)) (xf_ask_pile : CalX P w K mg base 1 "ask_pile" (sp_ask_pile K Z)) (c_taken_off : Cal P w K mg base 2 "taken_off" (sp_taken_off K Z) [])  : FnOk P w K mg base (L2.CX P w) 3 f fd ["pile", "counts", "many"] (sp_take_row K Z) := by
  refine F.okX sc_take_row (fun vs H Q E h => ?_) (fun cdv A outer s H vs Q E hr h => ?_)
  · obtain ⟨p, a, ns, n, rfl, hS, k⟩ := h
    rfl
  · obtain ⟨p, a, ns, n, rfl, hS, k⟩ := h
    refine ⟨_, (pss_cons (ps_expr (pe_cX xf_ask_counts hr (by decide) (takes_of rfl rfl rfl rfl) rfl (pa_cons (pv 1) pa_nil)))
      (pss_cons (ps_expr (pe_cX xf_ask_pile hr (by decide) (takes_of rfl rfl rfl rfl) rfl (pa_cons (pv 0) pa_nil)))
      (pss_cons (ps_set (i := 3) sc_take_row.nd rfl (Or.inl rfl) (pe_lst pa_nil))
      (pss_cons (ps_for (passes_of rfl) rfl (pi_range1 rfl T.b_range (pa_cons (pv 2) pa_nil)) (pg_name (i := 4) sc_take_row.nd rfl (Or.inl rfl)) (pss_cons (ps_set (i := 5) sc_take_row.nd rfl (Or.inl rfl) (pe_c c_taken_off hr (by decide) rfl (pa_cons (pv 0) (pa_cons (pv 1) pa_nil))))
      (pss_cons (ps_expr (pe_bm PySem.F.plainAttrs_list PySem.F.slot_list_append PySem.F.type_list_append mt_append (pv 3) (pa_cons (pe_ix (n_ixT (K := K) rfl) (pv 5) pe_int (fun _ _ => rfl)) pa_nil)))
      (pss_one (ps_set (i := 0) sc_take_row.nd rfl (Or.inl rfl) (pe_ix (n_ixT (K := K) rfl) (pv 5) pe_int (fun _ _ => rfl)))))))
      (pss_one (ps_ret (pe_tup (pa_cons (pv 3) (pa_cons (pv 0) pa_nil))))))))), ?_⟩
    walk_at "st"
    refine ⟨a, ns, rfl, hS, fun g => ?_, k.2⟩
    have k := k.1 g
    walk_at "st"
    refine ⟨p, rfl, fun p0 => ?_, k.2⟩
    obtain ⟨hn, k⟩ := k.1 p0
    walk_at "st"
    refine w_newL (Nat.zero_le _) fun l H1 nl e1 hl => ?_
    walk_at "st"
    refine w_loopR (fun i σ H' => Ex H H' ∧ H' l = some (.lst (iL (takenRow ns p i))) ∧ ∃ v w, σ = [some (.int (pileAt ns p i)), some (.ref a), some (.int (n : Int)), some (.ref l), v, w]) ⟨e1, hl, none, none, rfl⟩ ?_ ?_
    · rintro i σ H2 hi ⟨e2, hl2, v, w, rfl⟩
      have hi' : i < n := by omega
      walk_at "st"
      refine ⟨_, a, ns, rfl, up_l e2 hS, g, fun q H3 nq e3 hq => ?_⟩
      have hl3 := e3 _ _ hl2
      walk_at "st"
      have nql : q ≠ l := ne_of hq hl3 (by intro z; cases z)
      refine w_append hl3 (by rw [List.length_map, takenRow_len]; omega) ?_
      walk_at "st"
      refine w_ixT (SqT.of ((upd_ne nql).trans hq)) rfl ?_
      walk_at "st"
      refine ⟨Evl.Ex.mut (e2.trans e3) nl, ?_, some (.int (i : Int)), some (.ref q), rfl⟩
      rw [upd_same, takenRow_succ]
      show some (HO.lst _) = some (HO.lst ((takenRow ns p i ++ [_]).map V.int))
      rw [List.map_append]
      rfl
    · rintro σ H2 ⟨e2, hl2, v, w, rfl⟩
      walk_at "st"
      refine w_newT (Nat.le_of_ble_eq_true rfl) fun q H3 nq e3 hq => ?_
      rw [Int.toNat_natCast] at hq hl2
      exact k _ _ _ (dn_n e2 nq) nl (e2.trans e3) hq (e3 _ _ hl2)
theorem sc_ask_full : FnScope ["counts", "many"] ["counts", "many"] (defScope s_ask_full) := ⟨rfl, rfl, rfl, by decide +kernel, rfl, by decide +kernel, by decide +kernel⟩
def sp_ask_full (K : PySem.W.Frag) (Z : Zs) : Sp := fun vs H Q E => ∃ (a : Addr) (ns : List Int) (many : Int), vs = [.ref a, .int many] ∧ SqL K H a (iL ns) ∧ Ask (Fit ns many) (Q .non H) (Due E Z.noshares)
theorem f_ask_full {f : Addr} {fd : FuncData} (F : Fun K "ask_full" "ask_full" s_ask_full f fd) (T : Txt K mg Z) (xf_ask_counts : CalX P w K mg base 1 "ask_counts" (sp_ask_counts K Z))  : FnOk P w K mg base (L2.CX P w) 2 f fd ["counts", "many"] (sp_ask_full K Z) := by
  refine F.okX sc_ask_full (fun vs H Q E h => ?_) (fun cdv A outer s H vs Q E hr h => ?_)
  · obtain ⟨a, ns, many, rfl, hS, k⟩ := h
    rfl
  · obtain ⟨a, ns, many, rfl, hS, k⟩ := h
    refine ⟨_, (pss_cons (ps_expr (pe_cX xf_ask_counts hr (by decide) (takes_of rfl rfl rfl rfl) rfl (pa_cons (pv 0) pa_nil)))
      (pss_one (ps_if (PW.pt (pw_or (pt_cmpR op_ne (pe_callB (n_len (K := K) rfl) (by rfl) T.b_len (by decide +kernel) (pa_cons (pv 0) pa_nil)) (pv 1) (nomark _)) (pw_or1 (pt_cmpR op_lt (pe_callB (n_min (K := K) rfl rfl) (by rfl) T.b_min (by decide +kernel) (pa_cons (pv 0) pa_nil)) pe_int (nomark _))))) (pss_one (ps_raiseO rfl (takes_of rfl rfl rfl rfl) T.x_NoShares (by rfl) (by decide))) pss_nil))), ?_⟩
    walk_at "st"
    refine ⟨a, ns, rfl, hS, fun g => ?_, fun n => k.2 fun f => n f.1⟩
    have g1 := g.pos
    walk_at "st"
    walk_at "both" <;> intro h1
    · walk_at "st"
      exact k.2 (fun f => h1 f.2.1) _
    walk_at "st"
    refine ⟨a, ns, rfl, hS, by omega, fun m hm lm => ?_⟩
    walk_at "st"
    walk_at "both" <;> intro h2
    · walk_at "st"
      exact k.2 (fun f => by have := f.2.2 m hm; omega) _
    walk_at "st"
    exact k.1 ⟨g, h1, fun c hc => by have := lm c hc; omega⟩
theorem sc_ask_tables : FnScope ["prior", "given", "back", "counts"] ["prior", "given", "back"] (defScope s_ask_tables) := ⟨rfl, rfl, rfl, by decide +kernel, rfl, by decide +kernel, by decide +kernel⟩
def sp_ask_tables (K : PySem.W.Frag) (Z : Zs) : Sp := fun vs H Q E => ∃ (a b c : Addr) (prior : List Int) (given back : List (List Int)), vs = [.ref a, .ref b, .ref c] ∧ SqL K H a (iL prior) ∧ TabAt K H b given ∧ TabAt K H c back ∧ Ask (Fits prior given back) (Q .non H) (Due E Z.noshares)
theorem f_ask_tables {f : Addr} {fd : FuncData} (F : Fun K "ask_tables" "ask_tables" s_ask_tables f fd) (T : Txt K mg Z) (xf_ask_full : CalX P w K mg base 2 "ask_full" (sp_ask_full K Z))  : FnOk P w K mg base (L2.CX P w) 3 f fd ["prior", "given", "back"] (sp_ask_tables K Z) := by
  refine F.okX sc_ask_tables (fun vs H Q E h => ?_) (fun cdv A outer s H vs Q E hr h => ?_)
  · obtain ⟨a, b, c, prior, given, back, rfl, ha, hb, hc, k⟩ := h
    rfl
  · obtain ⟨a, b, c, prior, given, back, rfl, ha, hb, hc, k⟩ := h
    refine ⟨_, (pss_cons (ps_expr (pe_cX xf_ask_full hr (by decide) (takes_of rfl rfl rfl rfl) rfl (pa_cons (pv 0) (pa_cons (pe_callB (n_len (K := K) rfl) (by rfl) T.b_len (by decide +kernel) (pa_cons (pv 0) pa_nil)) pa_nil))))
      (pss_cons (ps_if (pt_cmpR op_ne (pe_callB (n_len (K := K) rfl) (by rfl) T.b_len (by decide +kernel) (pa_cons (pv 1) pa_nil)) (pe_callB (n_len (K := K) rfl) (by rfl) T.b_len (by decide +kernel) (pa_cons (pv 0) pa_nil)) (nomark _)) (pss_one (ps_raiseO rfl (takes_of rfl rfl rfl rfl) T.x_NoShares (by rfl) (by decide))) pss_nil)
      (pss_cons (ps_for (passes_of rfl) rfl (n_pi (K := K) rfl (pv 1)) (pg_name (i := 3) sc_ask_tables.nd rfl (Or.inl rfl)) (pss_one (ps_expr (pe_cX xf_ask_full hr (by decide) (takes_of rfl rfl rfl rfl) rfl (pa_cons (pv 3) (pa_cons (pe_callB (n_len (K := K) rfl) (by rfl) T.b_len (by decide +kernel) (pa_cons (pv 2) pa_nil)) pa_nil))))))
      (pss_one (ps_for (passes_of rfl) rfl (n_pi (K := K) rfl (pv 2)) (pg_name (i := 3) sc_ask_tables.nd rfl (Or.inl rfl)) (pss_one (ps_expr (pe_cX xf_ask_full hr (by decide) (takes_of rfl rfl rfl rfl) rfl (pa_cons (pv 3) (pa_cons (pe_callB (n_len (K := K) rfl) (by rfl) T.b_len (by decide +kernel) (pa_cons (pv 0) pa_nil)) pa_nil)))))))))), ?_⟩
    walk_at "st"
    refine ⟨a, prior, _, rfl, ha, fun f1 => ?_, fun n => k.2 fun f => n f.1⟩
    walk_at "st"
    refine w_lenTab hb ?_
    walk_at "st"
    walk_at "both" <;> intro h1
    · walk_at "st"
      exact k.2 (fun f => h1 (by have := f.2.1; omega)) _
    walk_at "st"
    obtain ⟨as1, hb1, _, _⟩ := id hb
    refine w_kItl hb1 ?_
    walk_at "st"
    refine w_loopTab hb (fun i σ => (∀ t ∈ given.take i, Fit t back.length) ∧ ∃ v, σ = [some (.ref a), some (.ref b), some (.ref c), v]) ⟨(fun t ht => by simp at ht), none, rfl⟩ ?_ ?_
    · rintro i t x σ ht hx ⟨hp, v, rfl⟩
      walk_at "st"
      refine w_lenTab hc ?_
      walk_at "st"
      refine ⟨x, t, _, rfl, hx, fun f => ?_, fun n => k.2 fun q => n (q.2.2.1 t (List.mem_of_getElem? ht))⟩
      walk_at "st"
      exact ⟨rfl, take_all ht hp f, _, rfl⟩
    rintro σ ⟨hp, v, rfl⟩
    rw [List.take_length] at hp
    walk_at "st"
    obtain ⟨as2, hc1, _, _⟩ := id hc
    refine w_kItl hc1 ?_
    walk_at "st"
    refine w_loopTab hc (fun i σ => (∀ t ∈ back.take i, Fit t prior.length) ∧ ∃ v, σ = [some (.ref a), some (.ref b), some (.ref c), v]) ⟨(fun t ht => by simp at ht), v, rfl⟩ ?_ ?_
    · rintro i t x σ ht hx ⟨hp2, v, rfl⟩
      walk_at "st"
      refine ⟨x, t, _, rfl, hx, fun f => ?_, fun n => k.2 fun q => n (q.2.2.2 t (List.mem_of_getElem? ht))⟩
      walk_at "st"
      exact ⟨rfl, take_all ht hp2 f, _, rfl⟩
    rintro σ ⟨hp2, v, rfl⟩
    rw [List.take_length] at hp2
    walk_at "st"
    exact k.1 ⟨f1, by omega, hp, hp2⟩
theorem sc_lay_hidden : FnScope ["pile", "prior", "given", "back", "sign", "found"] ["pile", "prior", "given", "back", "sign"] (defScope s_lay_hidden) := ⟨rfl, rfl, rfl, by decide +kernel, rfl, by decide +kernel, by decide +kernel⟩
def sp_lay_hidden (K : PySem.W.Frag) (Z : Zs) : Sp := fun vs H _ E => ∃ (p s : Int) (a b c : Addr) (prior : List Int) (given back : List (List Int)), vs = [.int p, .ref a, .ref b, .ref c, .int s] ∧ SqL K H a (iL prior) ∧ TabAt K H b given ∧ TabAt K H c back ∧
  Ask (Fits prior given back) (Ask (0 ≤ p) (¬ (0 ≤ s ∧ s < back.length) ∧ Due E Z.nosign) (Due E Z.nopile)) (Due E Z.noshares)
theorem f_lay_hidden {f : Addr} {fd : FuncData} (F : Fun K "lay_hidden" "lay_hidden" s_lay_hidden f fd) (T : Txt K mg Z) (xf_ask_tables : CalX P w K mg base 3 "ask_tables" (sp_ask_tables K Z)) (xf_ask_pile : CalX P w K mg base 1 "ask_pile" (sp_ask_pile K Z)) (c_taken_off : Cal P w K mg base 2 "taken_off" (sp_taken_off K Z) []) (c_put_on : Cal P w K mg base 1 "put_on" (sp_put_on K Z) [])  : FnOk P w K mg base (L2.CX P w) 4 f fd ["pile", "prior", "given", "back", "sign"] (sp_lay_hidden K Z) := by
  refine F.okX sc_lay_hidden (fun vs H Q E h => ?_) (fun cdv A outer s H vs Q E hr h => ?_)
  · obtain ⟨p, s0, a, b, c, prior, given, back, rfl, ha, hb, hc, k⟩ := h
    rfl
  · obtain ⟨p, s0, a, b, c, prior, given, back, rfl, ha, hb, hc, k⟩ := h
    refine ⟨_, (pss_cons (ps_expr (pe_cX xf_ask_tables hr (by decide) (takes_of rfl rfl rfl rfl) rfl (pa_cons (pv 1) (pa_cons (pv 2) (pa_cons (pv 3) pa_nil)))))
      (pss_cons (ps_expr (pe_cX xf_ask_pile hr (by decide) (takes_of rfl rfl rfl rfl) rfl (pa_cons (pv 0) pa_nil)))
      (pss_cons (ps_if (PW.pt (pw_or (pt_cmpR op_lt (pv 4) pe_int (nomark _)) (pw_or1 (pt_cmpR op_ge (pv 4) (pe_callB (n_len (K := K) rfl) (by rfl) T.b_len (by decide +kernel) (pa_cons (pv 3) pa_nil)) (nomark _))))) (pss_one (ps_raiseO rfl (takes_of rfl rfl rfl rfl) T.x_NoSign (by rfl) (by decide))) pss_nil)
      (pss_cons (ps_set (i := 5) sc_lay_hidden.nd rfl (Or.inl rfl) (pe_c c_taken_off hr (by decide) rfl (pa_cons (pv 0) (pa_cons (pe_ix (n_ixL (K := K) rfl) (pv 3) (pv 4) (fun _ _ => rfl)) pa_nil))))
      (pss_one (ps_ret (pe_c c_put_on hr (by decide) rfl (pa_cons (pe_c c_put_on hr (by decide) rfl (pa_cons (pe_ix (n_ixT (K := K) rfl) (pv 5) pe_int (fun _ _ => rfl)) (pa_cons (pe_ix (n_ixL (K := K) rfl) (pv 2) (pe_ix (n_ixT (K := K) rfl) (pv 5) pe_int (fun _ _ => rfl)) (fun _ _ => rfl)) (pa_cons (pv 4) pa_nil)))) (pa_cons (pv 1) (pa_cons (pe_ix (n_ixT (K := K) rfl) (pv 5) pe_int (fun _ _ => rfl)) pa_nil)))))))))), ?_⟩
    walk_at "st"
    refine ⟨a, b, c, prior, given, back, rfl, ha, hb, hc, fun f => ?_, k.2⟩
    have k := k.1 f
    walk_at "st"
    refine ⟨p, rfl, fun p0 => ?_, k.2⟩
    obtain ⟨nb, d⟩ := k.1 p0
    walk_at "st"
    walk_at "both" <;> intro h1
    · walk_at "st"
      exact d _
    walk_at "st"
    refine w_lenTab hc ?_
    walk_at "st"
    exact d _
theorem sc_take_hidden : FnScope ["pile", "prior", "given", "back", "hid", "found"] ["pile", "prior", "given", "back"] (defScope s_take_hidden) := ⟨rfl, rfl, rfl, by decide +kernel, rfl, by decide +kernel, by decide +kernel⟩
def sp_take_hidden (K : PySem.W.Frag) (Z : Zs) : Sp := fun vs H _ E => ∃ (p : Int) (a b c : Addr) (prior : List Int) (given back : List (List Int)), vs = [.int p, .ref a, .ref b, .ref c] ∧ SqL K H a (iL prior) ∧ TabAt K H b given ∧ TabAt K H c back ∧ ¬ Fits prior given back ∧ Due E Z.noshares
theorem f_take_hidden {f : Addr} {fd : FuncData} (F : Fun K "take_hidden" "take_hidden" s_take_hidden f fd) (T : Txt K mg Z) (xf_ask_tables : CalX P w K mg base 3 "ask_tables" (sp_ask_tables K Z)) (xf_ask_pile : CalX P w K mg base 1 "ask_pile" (sp_ask_pile K Z)) (c_taken_off : Cal P w K mg base 2 "taken_off" (sp_taken_off K Z) []) (c_put_on : Cal P w K mg base 1 "put_on" (sp_put_on K Z) [])  : FnOk P w K mg base (L2.CX P w) 4 f fd ["pile", "prior", "given", "back"] (sp_take_hidden K Z) := by
  refine F.okX sc_take_hidden (fun vs H Q E h => ?_) (fun cdv A outer s H vs Q E hr h => ?_)
  · obtain ⟨p, a, b, c, prior, given, back, rfl, ha, hb, hc, nb, k⟩ := h
    rfl
  · obtain ⟨p, a, b, c, prior, given, back, rfl, ha, hb, hc, nb, k⟩ := h
    refine ⟨_, (pss_cons (ps_expr (pe_cX xf_ask_tables hr (by decide) (takes_of rfl rfl rfl rfl) rfl (pa_cons (pv 1) (pa_cons (pv 2) (pa_cons (pv 3) pa_nil)))))
      (pss_cons (ps_expr (pe_cX xf_ask_pile hr (by decide) (takes_of rfl rfl rfl rfl) rfl (pa_cons (pv 0) pa_nil)))
      (pss_cons (ps_set (i := 4) sc_take_hidden.nd rfl (Or.inl rfl) (pe_c c_taken_off hr (by decide) rfl (pa_cons (pv 0) (pa_cons (pv 1) pa_nil))))
      (pss_cons (ps_set (i := 5) sc_take_hidden.nd rfl (Or.inl rfl) (pe_c c_taken_off hr (by decide) rfl (pa_cons (pe_ix (n_ixT (K := K) rfl) (pv 4) pe_int (fun _ _ => rfl)) (pa_cons (pe_ix (n_ixL (K := K) rfl) (pv 2) (pe_ix (n_ixT (K := K) rfl) (pv 4) pe_int (fun _ _ => rfl)) (fun _ _ => rfl)) pa_nil))))
      (pss_one (ps_ret (pe_tup (pa_cons (pe_ix (n_ixT (K := K) rfl) (pv 5) pe_int (fun _ _ => rfl)) (pa_cons (pe_c c_put_on hr (by decide) rfl (pa_cons (pe_ix (n_ixT (K := K) rfl) (pv 5) pe_int (fun _ _ => rfl)) (pa_cons (pe_ix (n_ixL (K := K) rfl) (pv 3) (pe_ix (n_ixT (K := K) rfl) (pv 5) pe_int (fun _ _ => rfl)) (fun _ _ => rfl)) (pa_cons (pe_ix (n_ixT (K := K) rfl) (pv 4) pe_int (fun _ _ => rfl)) pa_nil)))) pa_nil))))))))), ?_⟩
    walk_at "st"
    exact ⟨a, b, c, prior, given, back, rfl, ha, hb, hc, ask_n nb k⟩
theorem sc_by_letters : FnScope ["pile", "text"] ["pile"] (defScope s_by_letters) := ⟨rfl, rfl, rfl, by decide +kernel, rfl, by decide +kernel, by decide +kernel⟩
def sp_by_letters (_ : PySem.W.Frag) (_ : Zs) : Sp := fun vs H Q _ => ∃ (n k : Nat), vs = [.int (n : Int)] ∧ n < 2 ^ k ∧ k ≤ 100000 ∧ Q (.str (S (ltL n))) H
theorem c_by_letters {f : Addr} {fd : FuncData} (F : Fun K "by_letters" "by_letters" s_by_letters f fd) (hm : mg "by_letters" = some (.ref f)) (T : Txt K mg Z)   : Cal P w K mg base 1 "by_letters" (sp_by_letters K Z) [] := by
  refine cal_of F hm (F.binds (ps := ["pile"]) (fun _ _ _ _ _ _ us hl => match us, hl with | [_], _ => rfl)) sc_by_letters (fun vs H Q E h => ?_) (fun cdv A outer s H vs Q E hr h => ?_)
  · obtain ⟨n, kx, rfl, hn, hk, k⟩ := h
    rfl
  · obtain ⟨n, kx, rfl, hn, hk, k⟩ := h
    refine ⟨_, (pss_cons (ps_set (i := 1) sc_by_letters.nd rfl (Or.inl rfl) (n_str (l := []) (by decide +kernel)))
      (pss_cons (ps_while PassesOwn.never (pt_cmpR op_gt (pv 0) pe_int (nomark _)) (pss_cons (ps_set (i := 1) sc_by_letters.nd rfl (Or.inl rfl) (pe_op n_addS (pe_ix ix_str (pe_gc rfl T.k_LETTERS) (pe_op op_mod (pv 0) pe_int) (fun _ _ => rfl)) (pv 1)))
      (pss_one (ps_set (i := 0) sc_by_letters.nd rfl (Or.inl rfl) (pe_op op_fdiv (pv 0) pe_int)))))
      (pss_cons (ps_if (pt_cmpR op_eq (pv 1) (n_str (l := []) (by decide +kernel)) (nomark _)) (pss_one (ps_ret (n_str (l := [97]) (by decide +kernel)))) pss_nil)
      (pss_one (ps_ret (pv 1)))))), ?_⟩
    walk_at "st"
    refine w_while (fun y σ H' => H' = H ∧ ∃ (b : Nat) (acc : List Nat), σ = [some (.int (y : Int)), some (.str (S acc))] ∧ toL y acc = toL n [] ∧ y < 2 ^ b ∧ acc.length + b ≤ 100000) n ⟨rfl, kx, [], rfl, rfl, hn, by simpa using hk⟩ ?_
    rintro y σ H' ⟨eH, b, acc, rfl, et, hy, hb⟩
    obtain rfl : H = H' := eH.symm
    walk_at "st"
    walk_at "both" <;> intro hc
    · refine w_turn ?_
      have y0 : 0 < y := by omega
      have ml := Nat.mod_lt y (show 0 < 26 by decide)
      walk_at "st"
      refine w_ixS (k := y % 26) (by omega) (lts_at ml) (by decide) ?_
      walk_at "st"
      cases b with
      | zero => simp at hy; omega
      | succ b =>
        refine w_addS (by simp; omega) ?_
        walk_at "st"
        refine ⟨y / 26, Nat.div_lt_self y0 (by decide), rfl, b, (97 + y % 26) :: acc, rfl, ?_, by rw [Nat.pow_succ] at hy; omega, by simp; omega⟩
        rw [← et, toL_go y0]
    · have y0 : y = 0 := by omega
      subst y0
      rw [toL_end] at et
      walk_at "st"
      walk_at "both" <;> intro hd
      · walk_at "st"
        have n0 : n = 0 := by
          refine Classical.byContradiction fun h => ?_
          rw [hd] at et
          exact toL_ne (show 0 < n by omega) et.symm
        subst n0
        exact k
      · walk_at "st"
        have n0 : ¬ n = 0 := fun h => by
          rw [h, toL_end] at et
          exact hd et
        have : ltL n = acc := by
          unfold ltL
          rw [if_neg n0, et]
        rw [this] at k
        exact k
theorem sc_by_pile : FnScope ["letters", "pile", "letter"] ["letters"] (defScope s_by_pile) := ⟨rfl, rfl, rfl, by decide +kernel, rfl, by decide +kernel, by decide +kernel⟩
def sp_by_pile (_ : PySem.W.Frag) (Z : Zs) : Sp := fun vs H Q E => ∃ (l : List Nat), vs = [.str (S l)] ∧ l.length ≤ 100000 ∧ ((∀ c ∈ l, 97 ≤ c ∧ c ≤ 122) → Q (.int ((fromL l : Nat) : Int)) H) ∧ (¬ (∀ c ∈ l, 97 ≤ c ∧ c ≤ 122) → E (.ref Z.notleaf) none H)
theorem f_by_pile {f : Addr} {fd : FuncData} (F : Fun K "by_pile" "by_pile" s_by_pile f fd) (T : Txt K mg Z)   : FnOk P w K mg base (L2.CX P w) 1 f fd ["letters"] (sp_by_pile K Z) := by
  refine F.okX sc_by_pile (fun vs H Q E h => ?_) (fun cdv A outer s H vs Q E hr h => ?_)
  · obtain ⟨l, rfl, hl, kY, kN⟩ := h
    rfl
  · obtain ⟨l, rfl, hl, kY, kN⟩ := h
    refine ⟨_, (pss_cons (ps_set (i := 1) sc_by_pile.nd rfl (Or.inl rfl) pe_int)
      (pss_cons (ps_for (passes_of rfl) rfl (pi_str (pv 0)) (pg_name (i := 2) sc_by_pile.nd rfl (Or.inl rfl)) (pss_cons (ps_if (pt_cmpR n_niS (pv 2) (pe_gc rfl T.k_LETTERS) (by rfl)) (pss_one (ps_raiseO rfl (takes_of rfl rfl rfl rfl) T.x_NotLeaf (by rfl) (by decide))) pss_nil)
      (pss_one (ps_set (i := 1) sc_by_pile.nd rfl (Or.inl rfl) (pe_op op_add (pe_op op_mul pe_int (pv 1)) (n_bm (K := K) rfl PySem.F.plainAttrs_str PySem.F.slot_str_index PySem.F.type_str_index n_sindex (pe_gc rfl T.k_LETTERS) (pa_cons (pv 2) pa_nil)))))))
      (pss_one (ps_ret (pv 1))))), ?_⟩
    walk_at "st"
    refine w_loopStr (fun i σ H' => H' = H ∧ (∀ c ∈ l.take i, 97 ≤ c ∧ c ≤ 122) ∧ ∃ v, σ = [some (.str (S l)), some (.int ((fromL (l.take i) : Nat) : Int)), v]) ⟨rfl, (fun c hc => by simp at hc), _, rfl⟩ ?_ ?_
    · rintro i c σ H' hi hil ⟨eH, hp, v, rfl⟩
      obtain rfl : H = H' := eH.symm
      walk_at "st"
      walk_at "both" <;> intro hc
      · walk_at "st"
        exact kN fun all => hc (mem_lts.mpr (all c (List.mem_of_getElem? hi)))
      · have hc2 := mem_lts.mp hc
        walk_at "st"
        refine w_indexS hc ?_
        rw [lts_idx hc2]
        walk_at "st"
        refine ⟨rfl, fun d hd => ?_, some (.str (S [c])), ?_⟩
        · obtain ⟨h, e⟩ := List.getElem?_eq_some_iff.mp hi
          rw [List.take_succ_eq_append_getElem h, e] at hd
          rcases List.mem_append.mp hd with hd | hd
          · exact hp d hd
          · rw [List.mem_singleton.mp hd]
            exact hc2
        · rw [from_snoc hi, Int.natCast_add, Int.natCast_mul]
          rfl
    · rintro σ H' ⟨eH, hp, v, rfl⟩
      obtain rfl : H = H' := eH.symm
      rw [List.take_length] at hp ⊢
      walk_at "st"
      exact kY hp
theorem sc_figures_of : FnScope ["word", "sign"] ["word"] (defScope s_figures_of) := ⟨rfl, rfl, rfl, by decide +kernel, rfl, by decide +kernel, by decide +kernel⟩
def sp_figures_of (_ : PySem.W.Frag) (Z : Zs) : Sp := fun vs H Q E => ∃ (l : List Nat), vs = [.str (S l)] ∧ l.length ≤ 100000 ∧ (∀ n : Nat, figL l = some n → Q (.int (n : Int)) H) ∧ (figL l = none → E (.ref Z.notleaf) none H)
theorem f_figures_of {f : Addr} {fd : FuncData} (F : Fun K "figures_of" "figures_of" s_figures_of f fd) (T : Txt K mg Z)   : FnOk P w K mg base (L2.CX P w) 1 f fd ["word"] (sp_figures_of K Z) := by
  refine F.okX sc_figures_of (fun vs H Q E h => ?_) (fun cdv A outer s H vs Q E hr h => ?_)
  · obtain ⟨l, rfl, hl, kY, kN⟩ := h
    rfl
  · obtain ⟨l, rfl, hl, kY, kN⟩ := h
    refine ⟨_, (pss_cons (ps_if (PW.pt (pw_or (pt_cmpR op_eq (pv 0) (n_str (l := []) (by decide +kernel)) (nomark _)) (pw_or1 (pt_cmpR op_gt (pe_callB n_lenS (by rfl) T.b_len (by decide +kernel) (pa_cons (pv 0) pa_nil)) pe_int (nomark _))))) (pss_one (ps_raiseO rfl (takes_of rfl rfl rfl rfl) T.x_NotLeaf (by rfl) (by decide))) pss_nil)
      (pss_cons (ps_for (passes_of rfl) rfl (pi_str (pv 0)) (pg_name (i := 1) sc_figures_of.nd rfl (Or.inl rfl)) (pss_one (ps_if (pt_cmpR n_niS (pv 1) (pe_gc rfl T.k_FIGURES) (by rfl)) (pss_one (ps_raiseO rfl (takes_of rfl rfl rfl rfl) T.x_NotLeaf (by rfl) (by decide))) pss_nil)))
      (pss_one (ps_ret (pe_callTy n_intS (by rfl) T.b_int (by decide +kernel) (pa_cons (pv 0) pa_nil)))))), ?_⟩
    walk_at "st"
    walk_at "both" <;> intro hc
    · walk_at "st"
      exact kN (fig_none fun h => h.1 hc)
    walk_at "st"
    refine w_lenS (by omega) ?_
    walk_at "st"
    walk_at "both" <;> intro hd
    · walk_at "st"
      exact kN (fig_none fun h => by have := h.2.1; omega)
    walk_at "st"
    refine w_loopStr (fun i σ H' => H' = H ∧ (∀ c ∈ l.take i, 48 ≤ c ∧ c ≤ 57) ∧ ∃ v, σ = [some (.str (S l)), v]) ⟨rfl, (fun c hc => by simp at hc), _, rfl⟩ ?_ ?_
    · rintro i c σ H' hi hil ⟨eH, hp, v, rfl⟩
      obtain rfl : H = H' := eH.symm
      walk_at "st"
      walk_at "both" <;> intro he
      · walk_at "st"
        exact kN (fig_none fun h => he (mem_fgs.mpr (h.2.2 c (List.mem_of_getElem? hi))))
      · have hc2 := mem_fgs.mp he
        walk_at "st"
        refine ⟨rfl, fun d hd => ?_, some (.str (S [c])), rfl⟩
        obtain ⟨h, e⟩ := List.getElem?_eq_some_iff.mp hi
        rw [List.take_succ_eq_append_getElem h, e] at hd
        rcases List.mem_append.mp hd with hd | hd
        · exact hp d hd
        · rw [List.mem_singleton.mp hd]
          exact hc2
    · rintro σ H' ⟨eH, hp, v, rfl⟩
      obtain rfl : H = H' := eH.symm
      rw [List.take_length] at hp
      walk_at "st"
      refine w_intS hp hc (by omega) rfl ?_
      exact kY _ (fig_some ⟨hc, by omega, hp⟩)
theorem sc_packed : FnScope ["text", "sign", "order", "counts", "head", "row"] ["text"] (defScope s_packed) := ⟨rfl, rfl, rfl, by decide +kernel, rfl, by decide +kernel, by decide +kernel⟩
def sp_packed (_ : PySem.W.Frag) (Z : Zs) : Sp := fun vs H Q E => ∃ (l : List Nat), vs = [.str (S l)] ∧ l.length ≤ 5000 ∧ ((¬ (l.length ≤ 150 ∧ ∀ c ∈ l, c ∈ sgs) ∧ Due E Z.notext) ∨ ∃ ps, l = ps.map cod ∧ Tx ps ∧ ∀ H', Ex H H' → Q (.str (S (leafL ps))) H')
theorem f_packed {f : Addr} {fd : FuncData} (F : Fun K "packed" "packed" s_packed f fd) (T : Txt K mg Z) (c_by_letters : Cal P w K mg base 1 "by_letters" (sp_by_letters K Z) []) (xf_lay_row : CalX P w K mg base 2 "lay_row" (sp_lay_row K Z))  : FnOk P w K mg base (L2.CX P w) 3 f fd ["text"] (sp_packed K Z) := by
  refine F.okX sc_packed (fun vs H Q E h => ?_) (fun cdv A outer s H vs Q E hr h => ?_)
  · obtain ⟨l, rfl, ll, k⟩ := h
    rfl
  · obtain ⟨l, rfl, ll, k⟩ := h
    refine ⟨_, (pss_cons (ps_if (pt_cmpR op_gt (pe_callB n_lenS (by rfl) T.b_len (by decide +kernel) (pa_cons (pv 0) pa_nil)) (pe_gc rfl T.k_MOST) (nomark _)) (pss_one (ps_raiseO rfl (takes_of rfl rfl rfl rfl) T.x_NoText (by rfl) (by decide))) pss_nil)
      (pss_cons (ps_for (passes_of rfl) rfl (pi_str (pv 0)) (pg_name (i := 1) sc_packed.nd rfl (Or.inl rfl)) (pss_one (ps_if (pt_cmpR n_niS (pv 1) (pe_gc rfl T.k_SIGNS) (by rfl)) (pss_one (ps_raiseO rfl (takes_of rfl rfl rfl rfl) T.x_NoText (by rfl) (by decide))) pss_nil)))
      (pss_cons (ps_set (i := 2) sc_packed.nd rfl (Or.inr rfl) (pe_lc (own := [("sign", 1)]) (g := gName 1) rfl sc_packed.nd (pi_str (pe_gc rfl T.k_SIGNS)) (blkOk_by (own := [("sign", 1)]) (N := ["text", "sign", "order", "counts", "head", "row"]) (sc := defScope s_packed) (by decide +kernel)) (fun _ _ _ _ _ => pg_name (i := 1) sc_packed.nd rfl (Or.inl rfl)) (fun _ _ _ _ _ => (pts_one (pt_cmpR n_inS (pv 1) (pv 0) (by rfl)))) (fun _ _ _ _ _ => by exact (pv 1))))
      (pss_cons (ps_if (pt_cmpR op_eq (pe_callB (n_len (K := K) rfl) (by rfl) T.b_len (by decide +kernel) (pa_cons (pv 2) pa_nil)) pe_int (nomark _)) (pss_one (ps_ret (n_str (l := [59, 97]) (by decide +kernel)))) pss_nil)
      (pss_cons (ps_setLc (i := 3) (own := [("sign", 1)]) (g := gName 1) (tt := tYes) rfl sc_packed.nd rfl rfl (sw_true rfl rfl rfl (by decide +kernel)) (n_pi (K := K) rfl (pv 2)) (blkOk_by (own := [("sign", 1)]) (N := ["text", "sign", "order", "counts", "head", "row"]) (sc := defScope s_packed) (by decide +kernel)) (fun _ _ _ _ _ => pg_name (i := 1) sc_packed.nd rfl (Or.inl rfl)) (fun _ _ _ _ _ => pts_nil) (fun _ _ _ _ _ => by exact (n_bm (K := K) rfl PySem.F.plainAttrs_str PySem.F.slot_str_count PySem.F.type_str_count n_count (pv 0) (pa_cons (pv 1) pa_nil))))
      (pss_cons (ps_set (i := 4) sc_packed.nd rfl (Or.inl rfl) (n_join (K := K) rfl (n_str (l := [44]) (by decide +kernel)) (pe_lc (own := [("sign", 1)]) (g := gName 1) (tt := tYes) rfl sc_packed.nd (n_pi (K := K) rfl (pv 2)) (blkOk_by (own := [("sign", 1)]) (N := ["text", "sign", "order", "counts", "head", "row"]) (sc := defScope s_packed) (by decide +kernel)) (fun _ _ _ _ _ => pg_name (i := 1) sc_packed.nd rfl (Or.inl rfl)) (fun _ _ _ _ _ => pts_nil) (fun _ _ _ _ _ => by exact (pe_op n_addS (pe_op n_addS (pe_callTy n_strI (by rfl) T.b_str (by decide +kernel) (pa_cons (n_bm (K := K) rfl PySem.F.plainAttrs_str PySem.F.slot_str_index PySem.F.type_str_index n_sindex (pe_gc rfl T.k_SIGNS) (pa_cons (pv 1) pa_nil)) pa_nil)) (n_str (l := [120]) (by decide +kernel))) (pe_callTy n_strI (by rfl) T.b_str (by decide +kernel) (pa_cons (n_bm (K := K) rfl PySem.F.plainAttrs_str PySem.F.slot_str_count PySem.F.type_str_count n_count (pv 0) (pa_cons (pv 1) pa_nil)) pa_nil)))))))
      (pss_cons (ps_setLc (i := 5) (own := [("sign", 1)]) (g := gName 1) (tt := tYes) rfl sc_packed.nd rfl rfl (sw_true rfl rfl rfl (by decide +kernel)) (pi_str (pv 0)) (blkOk_by (own := [("sign", 1)]) (N := ["text", "sign", "order", "counts", "head", "row"]) (sc := defScope s_packed) (by decide +kernel)) (fun _ _ _ _ _ => pg_name (i := 1) sc_packed.nd rfl (Or.inl rfl)) (fun _ _ _ _ _ => pts_nil) (fun _ _ _ _ _ => by exact (n_bm (K := K) rfl PySem.F.plainAttrs_list PySem.F.slot_list_index PySem.F.type_list_index (n_lindex (K := K) rfl) (pv 2) (pa_cons (pv 1) pa_nil))))
      (pss_one (ps_ret (pe_op n_addS (pe_op n_addS (pv 4) (n_str (l := [59]) (by decide +kernel))) (pe_c c_by_letters hr (by decide) rfl (pa_cons (pe_cX xf_lay_row hr (by decide) (takes_of rfl rfl rfl rfl) rfl (pa_cons pe_int (pa_cons (pv 3) (pa_cons (pv 5) pa_nil)))) pa_nil)))))))))))), ?_⟩
    rcases k with ⟨nb, d⟩ | ⟨ps, rfl, t, k⟩
    · walk_at "st"
      refine w_lenS (by omega) ?_
      walk_at "st"
      walk_at "both" <;> intro h1
      · walk_at "st"
        exact d _
      walk_at "st"
      refine w_loopStr (fun i σ H' => H' = H ∧ (∀ c ∈ l.take i, c ∈ sgs) ∧ ∃ v, σ = [some (.str (S l)), v, none, none, none, none]) ⟨rfl, (fun c hc => by simp at hc), _, rfl⟩ ?_ ?_
      · rintro i c σ H' hi hil ⟨eH, hp, v, rfl⟩
        obtain rfl : H = H' := eH.symm
        walk_at "st"
        walk_at "both" <;> intro h2
        · walk_at "st"
          exact d _
        walk_at "st"
        exact ⟨rfl, take_all hi hp h2, _, rfl⟩
      rintro σ H' ⟨eH, hp, v, rfl⟩
      rw [List.take_length] at hp
      exact absurd ⟨by omega, hp⟩ nb
    have tl := t.len
    have kl := kinds_len ps
    have lm : (ps.map cod).length = ps.length := List.length_map ..
    have km : ((kinds ps).map cod).length = (kinds ps).length := List.length_map ..
    have sl : sgs.length = 94 := by simp [sgs]
    walk_at "st"
    refine w_lenS (by omega) ?_
    walk_at "st"
    refine w_loopStr (fun i σ H' => H' = H ∧ ∃ v, σ = [some (.str (S (ps.map cod))), v, none, none, none, none]) ⟨rfl, _, rfl⟩ ?_ ?_
    · rintro i c σ H' hi hil ⟨eH, v, rfl⟩
      obtain rfl : H = H' := eH.symm
      have hc : c ∈ sgs := by
        obtain ⟨p, hp, rfl⟩ := List.mem_map.mp (List.mem_of_getElem? hi)
        exact mem_sgs.mpr ⟨p, t.lt p hp, rfl⟩
      walk_at "st"
      exact ⟨rfl, _, rfl⟩
    rintro σ H' ⟨eH, v, rfl⟩
    obtain rfl : H = H' := eH.symm
    walk_at "st"
    refine w_lcStrF (fun i => decide (i ∈ ps)) (fun i => .str (S [cod i])) (by omega) (fun _ => rfl) (fun i c G1 e hi => to_evT fun G2 e' QQ qq => ?_) (fun i c G1 e hi _ => to_ev fun G2 e' QQ qq => ?_) fun o H1 no e1 ho => ?_
    · have i94 : i < 94 := by rw [← sl]; exact (List.getElem?_eq_some_iff.mp hi).1
      rw [sgs_at i94] at hi
      cases hi
      walk_at "st"
      rw [decide_eq_decide.mpr (mem_code (ps := ps) (k := i))]
      exact qq _ (Ex.refl _)
    · have i94 : i < 94 := by rw [← sl]; exact (List.getElem?_eq_some_iff.mp hi).1
      rw [sgs_at i94] at hi
      cases hi
      walk_at "st"
      exact qq _ (Ex.refl _)
    rw [given_kinds ps _ _ (fun _ _ => rfl) (fun _ _ => rfl)] at ho
    walk_at "st"
    rw [List.length_map, km]
    walk_at "both" <;> intro hc
    · have pe := kinds_nil t (by omega)
      subst pe
      walk_at "st"
      rw [leaf_empty] at k
      exact k _ e1
    walk_at "st"
    refine w_lcSg (fun c => .int ((ps.map cod).count c : Nat)) (SqL.of ho) (by omega) (fun _ => rfl) (fun c G1 e hm => to_ev fun G2 e' QQ qq => ?_) fun cp H2 ncp e2 hcp => ?_
    · walk_at "st"
      exact qq _ (Ex.refl _)
    have ec : ((kinds ps).map cod).map (fun c => L2.V.int ((ps.map cod).count c : Nat)) = iL (cntL ps) := by
      show _ = ((kinds ps).map fun k => ((ps.count k : Nat) : Int)).map L2.V.int
      rw [List.map_map, List.map_map]
      refine List.map_congr_left fun k _ => ?_
      show L2.V.int ((ps.map cod).count (cod k) : Nat) = _
      rw [count_code]
      rfl
    rw [ec] at hcp
    have ho2 := e2 _ _ ho
    walk_at "st"
    refine w_lcSg (fun c => .str (S (piece (plc c) (ps.count (plc c))))) (SqL.of ho2) (by omega) (fun _ => rfl) (fun c G1 e hm => to_ev fun G2 e' QQ qq => ?_) fun hp H3 nhp e3 hhp => ?_
    · obtain ⟨p, hp, rfl⟩ := List.mem_map.mp hm
      obtain ⟨p94, pm⟩ := mem_kinds.mp hp
      have cl := List.count_le_length (a := p) (l := ps)
      have n1 := num_len (n := p) (by omega)
      have n2 := num_len (n := ps.count p) (by omega)
      rw [plc_code] at qq
      walk_at "st"
      refine w_indexS (mem_sgs.mpr ⟨p, p94, rfl⟩) ?_
      rw [sgs_idx p94]
      walk_at "st"
      refine w_strI (by omega) ?_
      walk_at "st"
      refine w_addS (by simp; omega) ?_
      walk_at "st"
      rw [count_code]
      refine w_strI (by omega) ?_
      refine w_addS (by simp; omega) ?_
      exact qq _ (Ex.refl _)
    have eh : ((kinds ps).map cod).map (fun c => L2.V.str (S (piece (plc c) (ps.count (plc c))))) = tL ((kinds ps).map fun k => piece k (ps.count k)) := by
      rw [List.map_map]
      show _ = ((kinds ps).map fun k => piece k (ps.count k)).map fun y => L2.V.str (S y)
      rw [List.map_map]
      refine List.map_congr_left fun k _ => ?_
      show L2.V.str (S (piece (plc (cod k)) (ps.count (plc (cod k))))) = _
      rw [plc_code]
      rfl
    rw [eh] at hhp
    have jl := headL_len t
    walk_at "st"
    refine w_join (SqL.of hhp) ?_ ?_
    · have h : ∀ ys : List (List Nat), (∀ y ∈ ys, y.length ≤ 7) → (ys.map List.length).sum ≤ 7 * ys.length := fun ys => by
        induction ys with
        | nil => intro _; exact Nat.le_refl _
        | cons y r ih =>
          intro hy
          have h1 := hy y List.mem_cons_self
          have h2 := ih fun z hz => hy z (List.mem_cons_of_mem _ hz)
          rw [List.map_cons, List.sum_cons, List.length_cons]
          omega
      have h2 := h ((kinds ps).map fun k => piece k (ps.count k)) fun y hy => by
        obtain ⟨k, hk, rfl⟩ := List.mem_map.mp hy
        have h2 := List.count_le_length (a := k) (l := ps)
        exact piece_len (mem_kinds.mp hk).1 (by omega)
      rw [List.length_map] at h2 ⊢
      refine Nat.le_trans (Nat.add_le_add h2 (Nat.le_refl _)) ?_
      show 7 * (kinds ps).length + (kinds ps).length * 1 ≤ _
      omega
    have ho3 := e3 _ _ ho2
    have hcp3 := e3 _ _ hcp
    walk_at "st"
    refine w_lcStr (fun c => .int (((kinds ps).map cod).idxOf c : Nat)) (by omega) (fun _ => rfl) (fun c G1 e hm => to_ev fun G2 e' QQ qq => ?_) fun rp H4 nrp e4 hrp => ?_
    · obtain ⟨p, hp, rfl⟩ := List.mem_map.mp hm
      have ho4 := e' _ _ (e _ _ ho3)
      walk_at "st"
      refine w_indexSg (SqL.of ho4) (List.mem_map.mpr ⟨p, mem_kinds.mpr ⟨t.lt p hp, hp⟩, rfl⟩) ?_
      exact qq _ (Ex.refl _)
    have er : (ps.map cod).map (fun c => L2.V.int (((kinds ps).map cod).idxOf c : Nat)) = iL (rowL ps) := by
      show _ = (ps.map fun p => (((kinds ps).idxOf p : Nat) : Int)).map L2.V.int
      rw [List.map_map, List.map_map]
      refine List.map_congr_left fun p hp => ?_
      show L2.V.int (((kinds ps).map cod).idxOf (cod p) : Nat) = _
      rw [idx_code (kinds_nodup ps) (mem_kinds.mpr ⟨t.lt p hp, hp⟩)]
      rfl
    rw [er] at hrp
    have ne : ps ≠ [] := fun e => hc (by rw [e]; rfl)
    have g := cntL_good t ne
    walk_at "st"
    refine w_addS (by show (headL ps).length + 1 ≤ _; omega) ?_
    walk_at "st"
    refine ⟨0, cp, rp, cntL ps, rowL ps, rfl, SqL.of (e4 _ _ hcp3), SqL.of hrp, ask_y g (ask_y (by decide) (ask_y (fun s hs => sgn_of (rowL_sign t s hs)) fun H5 e5 => ?_))⟩
    rw [← pileL_eq t]
    walk_at "st"
    refine ⟨pileL ps, 1200, rfl, pileL_top t, by decide, ?_⟩
    have ll := ltL_len (pileL_top t)
    refine w_addS (by simp only [List.length_append, List.length_singleton]; show (headL ps).length + 1 + _ ≤ _; omega) ?_
    walk_at "st"
    exact k _ ((((e1.trans e2).trans e3).trans e4).trans e5)
theorem sc_unpacked : FnScope ["leaf", "parts", "order", "counts", "piece", "pair", "place", "row", "text", "sign"] ["leaf"] (defScope s_unpacked) := ⟨rfl, rfl, rfl, by decide +kernel, rfl, by decide +kernel, by decide +kernel⟩
def sp_unpacked (_ : PySem.W.Frag) (Z : Zs) : Sp := fun vs H Q E => ∃ (L : List Nat), vs = [.str (S L)] ∧ L.length ≤ 10000 ∧ (∀ ps, unpackL L = some ps → ∀ H', Ex H H' → Q (.str (S (ps.map cod))) H') ∧ (unpackL L = none → ∀ H', Ex H H' → E (.ref Z.notleaf) none H')
theorem f_unpacked {f : Addr} {fd : FuncData} (F : Fun K "unpacked" "unpacked" s_unpacked f fd) (T : Txt K mg Z) (xf_figures_of : CalX P w K mg base 1 "figures_of" (sp_figures_of K Z)) (xf_take_row : CalX P w K mg base 3 "take_row" (sp_take_row K Z)) (xf_by_pile : CalX P w K mg base 1 "by_pile" (sp_by_pile K Z)) (xf_packed : CalX P w K mg base 3 "packed" (sp_packed K Z))  : FnOk P w K mg base (L2.CX P w) 4 f fd ["leaf"] (sp_unpacked K Z) := by
  refine F.okX sc_unpacked (fun vs H Q E h => ?_) (fun cdv A outer s H vs Q E hr h => ?_)
  · obtain ⟨L, rfl, hl, kY, kN⟩ := h
    rfl
  · obtain ⟨L, rfl, hl, kY, kN⟩ := h
    refine ⟨_, (pss_cons (ps_if (pt_cmpR op_eq (pv 0) (n_str (l := [59, 97]) (by decide +kernel)) (nomark _)) (pss_one (ps_ret (n_str (l := []) (by decide +kernel)))) pss_nil)
      (pss_cons (ps_set (i := 1) sc_unpacked.nd rfl (Or.inl rfl) (n_part (pv 0) (n_str (l := [59]) (by decide +kernel))))
      (pss_cons (ps_set (i := 2) sc_unpacked.nd rfl (Or.inr rfl) (pe_lst pa_nil))
      (pss_cons (ps_set (i := 3) sc_unpacked.nd rfl (Or.inl rfl) (pe_lst pa_nil))
      (pss_cons (ps_for (passes_of rfl) rfl (n_pi (K := K) rfl (n_split (pe_ix (n_ixT (K := K) rfl) (pv 1) pe_int (fun _ _ => rfl)) (n_str (l := [44]) (by decide +kernel)))) (pg_name (i := 4) sc_unpacked.nd rfl (Or.inl rfl)) (pss_cons (ps_set (i := 5) sc_unpacked.nd rfl (Or.inl rfl) (n_part (pv 4) (n_str (l := [120]) (by decide +kernel))))
      (pss_cons (ps_set (i := 6) sc_unpacked.nd rfl (Or.inl rfl) (pe_cX xf_figures_of hr (by decide) (takes_of rfl rfl rfl rfl) rfl (pa_cons (pe_ix (n_ixT (K := K) rfl) (pv 5) pe_int (fun _ _ => rfl)) pa_nil)))
      (pss_cons (ps_if (PW.pt (pw_or (pt_cmpR op_ge (pv 6) (pe_callB n_lenS (by rfl) T.b_len (by decide +kernel) (pa_cons (pe_gc rfl T.k_SIGNS) pa_nil)) (nomark _)) (pw_or1 (pt_cmpR op_eq (pe_cX xf_figures_of hr (by decide) (takes_of rfl rfl rfl rfl) rfl (pa_cons (pe_ix (n_ixT (K := K) rfl) (pv 5) pe_int (fun _ _ => rfl)) pa_nil)) pe_int (nomark _))))) (pss_one (ps_raiseO rfl (takes_of rfl rfl rfl rfl) T.x_NotLeaf (by rfl) (by decide))) pss_nil)
      (pss_cons (ps_expr (n_bm (K := K) rfl PySem.F.plainAttrs_list PySem.F.slot_list_append PySem.F.type_list_append mt_append (pv 2) (pa_cons (pe_ix ix_str (pe_gc rfl T.k_SIGNS) (pv 6) (fun _ _ => rfl)) pa_nil)))
      (pss_one (ps_expr (n_bm (K := K) rfl PySem.F.plainAttrs_list PySem.F.slot_list_append PySem.F.type_list_append mt_append (pv 3) (pa_cons (pe_cX xf_figures_of hr (by decide) (takes_of rfl rfl rfl rfl) rfl (pa_cons (pe_ix (n_ixT (K := K) rfl) (pv 5) pe_int (fun _ _ => rfl)) pa_nil)) pa_nil)))))))))
      (pss_cons (ps_if (PW.pt (pw_or (pt_cmpR op_gt (pe_callB (n_len (K := K) rfl) (by rfl) T.b_len (by decide +kernel) (pa_cons (pv 3) pa_nil)) (pe_callB n_lenS (by rfl) T.b_len (by decide +kernel) (pa_cons (pe_gc rfl T.k_SIGNS) pa_nil)) (nomark _)) (pw_or1 (pt_cmpR op_gt (pe_callB (n_sum (K := K) rfl rfl) (by rfl) T.b_sum (by decide +kernel) (pa_cons (pv 3) pa_nil)) (pe_gc rfl T.k_MOST) (nomark _))))) (pss_one (ps_raiseO rfl (takes_of rfl rfl rfl rfl) T.x_NotLeaf (by rfl) (by decide))) pss_nil)
      (pss_cons (ps_set (i := 7) sc_unpacked.nd rfl (Or.inl rfl) (pe_ix (n_ixT (K := K) rfl) (pe_cX xf_take_row hr (by decide) (takes_of rfl rfl rfl rfl) rfl (pa_cons (pe_cX xf_by_pile hr (by decide) (takes_of rfl rfl rfl rfl) rfl (pa_cons (pe_ix (n_ixT (K := K) rfl) (pv 1) pe_int (fun _ _ => rfl)) pa_nil)) (pa_cons (pv 3) (pa_cons (pe_callB (n_sum (K := K) rfl rfl) (by rfl) T.b_sum (by decide +kernel) (pa_cons (pv 3) pa_nil)) pa_nil)))) pe_int (fun _ _ => rfl)))
      (pss_cons (ps_set (i := 8) sc_unpacked.nd rfl (Or.inl rfl) (n_join (K := K) rfl (n_str (l := []) (by decide +kernel)) (pe_lc (own := [("sign", 9)]) (g := gName 9) (tt := tYes) rfl sc_unpacked.nd (n_pi (K := K) rfl (pv 7)) (blkOk_by (own := [("sign", 9)]) (N := ["leaf", "parts", "order", "counts", "piece", "pair", "place", "row", "text", "sign"]) (sc := defScope s_unpacked) (by decide +kernel)) (fun _ _ _ _ _ => pg_name (i := 9) sc_unpacked.nd rfl (Or.inl rfl)) (fun _ _ _ _ _ => pts_nil) (fun _ _ _ _ _ => by exact (pe_ix (n_ixL (K := K) rfl) (pv 2) (pv 9) (fun _ _ => rfl))))))
      (pss_cons (ps_if (pt_cmpR op_ne (pe_cX xf_packed hr (by decide) (takes_of rfl rfl rfl rfl) rfl (pa_cons (pv 8) pa_nil)) (pv 0) (nomark _)) (pss_one (ps_raiseO rfl (takes_of rfl rfl rfl rfl) T.x_NotLeaf (by rfl) (by decide))) pss_nil)
      (pss_one (ps_ret (pv 8)))))))))))), ?_⟩
    have sl : sgs.length = 94 := by simp [sgs]
    have c1 := (cut_len 59 L).1
    have c2 := (cut_len 59 L).2
    have qm : (partsL L).length ≤ 10001 := Nat.le_trans (spl_many [44] (cutAt 59 L).1 0 []) (by omega)
    have ql : ∀ q ∈ partsL L, q.length ≤ 10000 := fun q hq => by
      have := spl_len [44] (cutAt 59 L).1 0 [] q hq
      simp at this
      omega
    walk_at "st"
    walk_at "both" <;> intro hc
    · walk_at "st"
      exact kY [] (by rw [hc]; rfl) _ (Ex.refl _)
    walk_at "st"
    refine w_ptn (by decide) (by omega) fun pa H1 mid npa e1 hpa => ?_
    walk_at "st"
    refine w_newL (Nat.zero_le _) fun od H2 nod e2 hod => ?_
    walk_at "st"
    refine w_newL (Nat.zero_le _) fun cp H3 ncp e3 hcp => ?_
    have hpa3 := (e2.trans e3) _ _ hpa
    have noc : od ≠ cp := fun z => by rw [← z, hod] at ncp; cases ncp
    have nod0 : H od = none := Evl.fresh_back e1 nod
    have ncp0 : H cp = none := Evl.fresh_back (e1.trans e2) ncp
    walk_at "st"
    refine w_split (by decide) (by omega) fun sp H4 nsp e4 hsp => ?_
    have hsp : H4 sp = some (.lst (tL (partsL L))) := hsp
    have nw : New [od, cp] H := fun z hz => by
      rcases List.mem_cons.mp hz with rfl | hz
      · exact nod0
      · rw [List.mem_singleton.mp hz]; exact ncp0
    have e04 := ((e1.trans e2).trans e3).trans e4
    have spo : sp ≠ od := fun z => by rw [z, e3 _ _ hod] at nsp; cases nsp
    have spc : sp ≠ cp := fun z => by rw [z, hcp] at nsp; cases nsp
    have pao : pa ≠ od := fun z => by rw [← z, hpa] at nod; cases nod
    have pac : pa ≠ cp := fun z => by rw [← z, e2 _ _ hpa] at ncp; cases ncp
    walk_at "st"
    refine w_loopTx (partsL L) (fun i σ H' => ∃ (xs : List (Nat × Nat)) (v4 v5 v6 : Option V), piecesL ((partsL L).take i) = some xs ∧ xs.length = i ∧ Keep [od, cp] H4 H' ∧ (∀ b, H' b = none → H4 b = none) ∧ H' od = some (.lst (sL (xs.map fun x => cod x.1))) ∧ H' cp = some (.lst (iL (csOf xs))) ∧
      σ = [some (.str (S L)), some (.ref pa), some (.ref od), some (.ref cp), v4, v5, v6, none, none, none]) ⟨[], none, none, none, rfl, rfl, Keep.refl _ _, fun _ h => h, (e3.trans e4) _ _ hod, e4 _ _ hcp, rfl⟩ (fun i σ H' ⟨_, _, _, _, _, _, kk, _, _, _, _⟩ => SqL.of (kk.at hsp (by simp [spo, spc]))) ?_ ?_
    · rintro i q σ H5 hq hi ⟨xs, v4, v5, v6, ep, xl, k5, f5, od5, cp5, rfl⟩
      have hm := List.mem_of_getElem? hq
      have qlen := ql q hm
      have d1 := (cut_len 120 q).1
      have d2 := (cut_len 120 q).2
      have e5 := ex_keep e04 k5 nw
      have fail : pieceL q = none → ∀ H', Ex H H' → E (.ref Z.notleaf) none H' := fun h H' e => kN (unpack_none (told_none (pieces_fail hm h)) hc) H' e
      walk_at "st"
      refine w_ptn (by decide) (by omega) fun pr H6 mid2 npr e6 hpr => ?_
      have e56 := e5.trans e6
      walk_at "st"
      refine ⟨_, rfl, by omega, fun p hp => ?_, fun hn => fail (piece_a hn) _ e56⟩
      walk_at "st"
      refine w_lenS (by rw [sl]; decide) ?_
      rw [sl]
      walk_at "st"
      walk_at "both" <;> intro hd
      · walk_at "st"
        exact fail (piece_d hp (by omega)) _ e56
      walk_at "st"
      refine ⟨_, rfl, by omega, fun n hn => ?_, fun hn => fail (piece_b hp hn) _ e56⟩
      walk_at "st"
      walk_at "both" <;> intro hz
      · walk_at "st"
        exact fail (by rw [piece_c hp hn, if_neg (fun z => z.2 (by omega))]) _ e56
      have hx : pieceL q = some (p, n) := by rw [piece_c hp hn, if_pos ⟨by omega, by omega⟩]
      have od6 := e6 _ _ od5
      have cp6 := e6 _ _ cp5
      walk_at "st"
      refine w_ixS (k := p) rfl (sgs_at (by omega)) (by rw [sl]; decide) ?_
      walk_at "st"
      refine w_appendK od6 (by rw [List.length_map, List.length_map]; omega) fun H7 k7 od7 f7 => ?_
      have cp7 := k7.at cp6 (by simp [Ne.symm noc])
      have pro : pr ≠ od := fun z => by rw [z, od5] at npr; cases npr
      have hpr7 := k7.at hpr (by simp [pro])
      have k47 : Keep [od, cp] H4 H7 := (k5.trans (Keep.of e6)).trans (k7.mono (by simp))
      have e7 := ex_keep e04 k47 nw
      walk_at "st"
      refine ⟨_, rfl, by omega, fun n' hn' => ?_, fun hn' => by rw [hn] at hn'; cases hn'⟩
      rw [hn] at hn'
      cases hn'
      walk_at "st"
      refine w_appendK cp7 (by rw [List.length_map, csOf_len]; omega) fun H8 k8 cp8 f8 => ?_
      walk_at "st"
      refine ⟨xs ++ [(p, n)], _, _, _, ?_, (by rw [List.length_append, xl]; rfl), k47.trans (k8.mono (by simp)), fun b h => f5 _ (Evl.fresh_back e6 (f7 _ (f8 _ h))), ?_, ?_, rfl⟩
      · obtain ⟨hi2, eq⟩ := List.getElem?_eq_some_iff.mp hq
        rw [List.take_succ_eq_append_getElem hi2, eq]
        exact pieces_snoc ep hx
      · rw [k8.at od7 (by simp [noc]), sL_snoc]
      · rw [cp8, csOf_snoc]
    rintro σ H5 ⟨xs, v4, v5, v6, ep, xl, k5, f5, od5, cp5, rfl⟩
    rw [List.take_length] at ep
    have e5 := ex_keep e04 k5 nw
    obtain ⟨xl2, xok⟩ := pieces_ok ep
    have hpa5 := k5.at (e4 _ _ hpa3) (by simp [pao, pac])
    walk_at "st"
    refine w_lenS (by rw [sl]; decide) ?_
    rw [sl, csOf_len]
    walk_at "st"
    walk_at "both" <;> intro hd
    · walk_at "st"
      exact kN (unpack_none (told_else ep (fun z => by have := z.1; omega)) hc) _ e5
    walk_at "st"
    walk_at "both" <;> intro he
    · walk_at "st"
      exact kN (unpack_none (told_else ep (fun z => by have := z.2.1; omega)) hc) _ e5
    have xne : xs ≠ [] := fun z => by
      rw [z] at xl
      exact spl_ne [44] (cutAt 59 L).1 0 [] (List.length_eq_zero_iff.mp xl.symm)
    have g := csOf_good xne xok (by omega)
    have gs := g.sum
    walk_at "st"
    refine ⟨_, rfl, by omega, fun all => ?_, fun nall => kN (unpack_none (told_else ep (fun z => nall z.2.2)) hc) _ e5⟩
    have tt := told_then ep (by omega) (by omega) all
    have tx := told_tx tt
    have ut := unpack_then tt hc
    obtain ⟨n, en⟩ : ∃ n, n = fromL (cutAt 59 L).2 := ⟨_, rfl⟩
    rw [← en] at tt tx ut ⊢
    walk_at "st"
    refine ⟨_, cp, csOf xs, (csOf xs).sum.toNat, (by rw [Int.toNat_of_nonneg (by omega)]), SqL.of cp5, ask_y g (ask_y (by omega) ⟨by omega, fun tq rl H6 ntq nrl e6 htq hrl => ?_⟩)⟩
    walk_at "st"
    have od6 := e6 _ _ od5
    have sgn := taken_sign g (n : Int) (csOf xs).sum.toNat
    have tlen := takenRow_len (csOf xs) (n : Int) (csOf xs).sum.toNat
    walk_at "st"
    refine w_lcI (fun s => .str (S [cod ((xs.map (·.1)).getD s.toNat 0)])) (SqL.of hrl) (by omega) (fun _ => rfl) (fun s G1 e hm => to_ev fun G2 e' QQ qq => ?_) fun jp H7 njp e7 hjp => ?_
    · have x := sgn s hm
      have x0 := x.nn
      have x1 := x.lt
      rw [csOf_len] at x1
      have odg := e' _ _ (e _ _ od6)
      walk_at "st"
      refine w_ixL (SqL.of odg) (v := .str (S [cod ((xs.map (·.1)).getD s.toNat 0)])) ?_ ?_
      · rw [show s = ((s.toNat : Nat) : Int) by omega]
        refine atI_nat ?_
        have hl : s.toNat < xs.length := by omega
        rw [List.getElem?_map, List.getElem?_map, List.getElem?_eq_getElem hl, Int.toNat_natCast, List.getD_eq_getElem?_getD, List.getElem?_map, List.getElem?_eq_getElem hl]
        rfl
      · exact qq _ (Ex.refl _)
    have ej : (takenRow (csOf xs) (n : Int) (csOf xs).sum.toNat).map (fun s => L2.V.str (S [cod ((xs.map (·.1)).getD s.toNat 0)])) = tL (((textOf xs n).map cod).map fun c => [c]) := by
      unfold textOf
      show _ = ((((takenRow (csOf xs) (n : Int) (csOf xs).sum.toNat).map fun s => (xs.map (·.1)).getD s.toNat 0).map cod).map fun c => [c]).map fun y => L2.V.str (S y)
      rw [List.map_map, List.map_map, List.map_map]
      rfl
    rw [ej] at hjp
    have tlx := tx.len
    walk_at "st"
    refine w_join (SqL.of hjp) (by rw [sum_singles, List.length_map, List.length_map]; simp; omega) ?_
    rw [join_sg]
    walk_at "st"
    refine ⟨_, rfl, (by rw [List.length_map]; omega), .inr ⟨textOf xs n, rfl, tx, fun H8 e8 => ?_⟩⟩
    have e58 := ((e5.trans e6).trans e7).trans e8
    walk_at "st"
    walk_at "both" <;> intro hf
    · walk_at "st"
      exact kN (by rw [ut, if_neg hf]) _ e58
    · walk_at "st"
      exact kY _ (by rw [ut, if_pos hf]) _ e58
theorem sc_ask_learner : FnScope ["many", "step"] ["many", "step"] (defScope s_ask_learner) := ⟨rfl, rfl, rfl, by decide +kernel, rfl, by decide +kernel, by decide +kernel⟩
def sp_ask_learner (_ : PySem.W.Frag) (Z : Zs) : Sp := fun vs H Q E => ∃ (many step : Int), vs = [.int many, .int step] ∧ Ask (Lrn many step) (Q .non H) (Due E Z.noshares)
theorem f_ask_learner {f : Addr} {fd : FuncData} (F : Fun K "ask_learner" "ask_learner" s_ask_learner f fd) (T : Txt K mg Z)   : FnOk P w K mg base (L2.CX P w) 1 f fd ["many", "step"] (sp_ask_learner K Z) := by
  refine F.okX sc_ask_learner (fun vs H Q E h => ?_) (fun cdv A outer s H vs Q E hr h => ?_)
  · obtain ⟨many, step, rfl, k⟩ := h
    rfl
  · obtain ⟨many, step, rfl, k⟩ := h
    refine ⟨_, (pss_one (ps_if (PW.pt (pw_or (pt_cmpR op_lt (pv 0) pe_int (nomark _)) (pw_or (pt_cmpR op_gt (pv 0) (pe_gc rfl T.k_MOST_SIGNS) (nomark _)) (pw_or (pt_cmpR op_lt (pv 1) pe_int (nomark _)) (pw_or1 (pt_cmpR op_gt (pv 1) (pe_gc rfl T.k_MOST_STEP) (nomark _))))))) (pss_one (ps_raiseO rfl (takes_of rfl rfl rfl rfl) T.x_NoShares (by rfl) (by decide))) pss_nil)), ?_⟩
    walk_at "st"
    walk_at "both" <;> intro h1
    · walk_at "st"
      exact k.2 (fun x => by have := x.1; omega) _
    walk_at "st"
    walk_at "both" <;> intro h2
    · walk_at "st"
      exact k.2 (fun x => by have := x.2.1; omega) _
    walk_at "st"
    walk_at "both" <;> intro h3
    · walk_at "st"
      exact k.2 (fun x => by have := x.2.2.1; omega) _
    walk_at "st"
    walk_at "both" <;> intro h4
    · walk_at "st"
      exact k.2 (fun x => by have := x.2.2.2; omega) _
    walk_at "st"
    exact k.1 ⟨by omega, by omega, by omega, by omega⟩
theorem sc_Model_init : FnScope ["self", "many"] ["self", "many"] (defScope s_Model_init) := ⟨rfl, rfl, rfl, by decide +kernel, rfl, by decide +kernel, by decide +kernel⟩
def sp_Model_init (K : PySem.W.Frag) (_ : Zs) : Sp := fun vs H Q _ => ∃ (a C dx : Addr) (n : Int), vs = [.ref a, .int n] ∧ H a = some (.ins C dx []) ∧ Cls K C ∧ NoAttr K C "many" ∧
  ∀ H', Keep [a] H H' → H' a = some (.ins C dx [("many", .int n)]) → (∀ b, H' b = none → H b = none) → Q .non H'
theorem f_Model_init {f : Addr} {fd : FuncData} (F : Fun K "__init__" "Model.__init__" s_Model_init f fd) (T : Txt K mg Z)   : FnOk P w K mg base CX0 1 f fd ["self", "many"] (sp_Model_init K Z) := by
  refine F.ok sc_Model_init (fun vs H Q E h => ?_) (fun cdv A outer s H vs Q E hr h => ?_)
  · obtain ⟨a, C, dx, n, rfl, ha, cls, nm, k⟩ := h
    rfl
  · obtain ⟨a, C, dx, n, rfl, ha, cls, nm, k⟩ := h
    refine ⟨_, (pss_one (n_setF (K := K) rfl (pv 0) (pv 1) rfl)), ?_⟩
    walk_at "st"
    refine w_kSetF ha newPlain_many cls nm (Nat.le_of_ble_eq_true rfl) fun H1 k1 h1 f1 => ?_
    exact k H1 k1 h1 f1
theorem sc_Model_ask : FnScope ["self", "sign"] ["self", "sign"] (defScope s_Model_ask) := ⟨rfl, rfl, rfl, by decide +kernel, rfl, by decide +kernel, by decide +kernel⟩
def sp_Model_ask (K : PySem.W.Frag) (Z : Zs) : Sp := fun vs H Q E => ∃ (a C dx : Addr) (fs : List (Str × V)) (n s : Int), vs = [.ref a, .int s] ∧ H a = some (.ins C dx fs) ∧ Cls K C ∧ NoAttr K C "many" ∧ fs.lookup ("many" : Str) = some (.int n) ∧ Ask (0 ≤ s ∧ s < n) (Q .non H) (Due E Z.nosign)
theorem f_Model_ask {f : Addr} {fd : FuncData} (F : Fun K "ask" "Model.ask" s_Model_ask f fd) (T : Txt K mg Z)   : FnOk P w K mg base (L2.CX P w) 1 f fd ["self", "sign"] (sp_Model_ask K Z) := by
  refine F.okX sc_Model_ask (fun vs H Q E h => ?_) (fun cdv A outer s H vs Q E hr h => ?_)
  · obtain ⟨a, C, dx, fs, n, s0, rfl, ha, cls, nm, lk, k⟩ := h
    rfl
  · obtain ⟨a, C, dx, fs, n, s0, rfl, ha, cls, nm, lk, k⟩ := h
    refine ⟨_, (pss_one (ps_if (PW.pt (pw_or (pt_cmpR op_lt (pv 1) pe_int (nomark _)) (pw_or1 (pt_cmpR op_ge (pv 1) (n_fld (K := K) rfl (pv 0) rfl) (nomark _))))) (pss_one (ps_raiseO rfl (takes_of rfl rfl rfl rfl) T.x_NoSign (by rfl) (by decide))) pss_nil)), ?_⟩
    walk_at "st"
    walk_at "both" <;> intro h1
    · walk_at "st"
      exact k.2 (by omega) _
    walk_at "st"
    walk_at "both" <;> intro h2
    · walk_at "st"
      exact k.2 (by omega) _
    walk_at "st"
    exact k.1 (by omega)
theorem sc_Plain_init : FnScope ["self", "counts"] ["self", "counts"] (defScope s_Plain_init) := ⟨rfl, rfl, rfl, by decide +kernel, rfl, by decide +kernel, by decide +kernel⟩
def sp_Plain_init (K : PySem.W.Frag) (Z : Zs) : Sp := fun vs H Q E => ∃ (x dx b : Addr) (cs : List Int), vs = [.ref x, .ref b] ∧ H x = some (.ins Z.plain dx []) ∧ SqL K H b (iL cs) ∧
  Ask (Good cs) (∀ H' F, (plainM Z cs).rep H' x () F → Keep [x] H H' → Grow [x] F H → Q .non H') (Due E Z.noshares)
theorem f_Plain_init {f : Addr} {fd : FuncData} (F : Fun K "__init__" "Plain.__init__" s_Plain_init f fd) (T : Txt K mg Z) (xf_ask_counts : CalX P w K mg base 1 "ask_counts" (sp_ask_counts K Z)) (cf_Model_init : CF P w K mg base 1 Z.model "__init__" (sp_Model_init K Z))  : FnOk P w K mg base (L2.CX P w) 2 f fd ["self", "counts"] (sp_Plain_init K Z) := by
  refine F.okX sc_Plain_init (fun vs H Q E h => ?_) (fun cdv A outer s H vs Q E hr h => ?_)
  · obtain ⟨x, dx, b, cs, rfl, hx, hb, k⟩ := h
    rfl
  · obtain ⟨x, dx, b, cs, rfl, hx, hb, k⟩ := h
    have n_many := T.n_Plain_many
    have n_fixed := T.n_Plain_fixed
    have cls := T.is_Plain.cl
    refine ⟨_, (pss_cons (ps_expr (pe_cX xf_ask_counts hr (by decide) (takes_of rfl rfl rfl rfl) rfl (pa_cons (pv 1) pa_nil)))
      (pss_cons (ps_expr (pe_cf cf_Model_init hr (by decide) (pe_glob rfl T.g_Model rfl) (pa_cons (pv 0) (pa_cons (pe_callB (n_len (K := K) rfl) (by rfl) T.b_len (by decide +kernel) (pa_cons (pv 1) pa_nil)) pa_nil))))
      (pss_one (n_setF (K := K) rfl (pv 0) (pe_callTy (n_list (K := K) rfl) (by rfl) T.b_list (by decide +kernel) (pa_cons (pv 1) pa_nil)) rfl)))), ?_⟩
    walk_at "st"
    refine ⟨b, cs, rfl, hb, fun g => ?_, k.2⟩
    have k := k.1 g
    walk_at "st"
    refine ⟨x, Z.plain, dx, _, rfl, hx, cls, n_many, fun H1 k1 h1 f1 => ?_⟩
    walk_at "st"
    refine w_list (k1.seq hx hb) fun l H2 nl e2 hl => ?_
    walk_at "st"
    refine w_kSetF (e2 _ _ h1) newPlain_fixed cls n_fixed (Nat.le_of_ble_eq_true rfl) fun H3 k3 h3 f3 => ?_
    have lx : l ≠ x := ne_of hl (e2 _ _ h1) (by intro z; cases z)
    refine k H3 [x, l] ⟨g, dx, l, h3, k3 _ _ (by simp [lx]) hl, rfl⟩ ((k1.trans (Keep.of e2)).trans k3) fun c hc => ?_
    rcases List.mem_cons.mp hc with rfl | hc
    · exact .inl (by simp)
    · rw [List.mem_singleton.mp hc]
      exact .inr (f1 _ nl)
theorem sc_Plain_counts : FnScope ["self"] ["self"] (defScope s_Plain_counts) := ⟨rfl, rfl, rfl, by decide +kernel, rfl, by decide +kernel, by decide +kernel⟩
def sp_Plain_counts (K : PySem.W.Frag) (Z : Zs) : Sp := fun vs H Q E => ∃ cs, sp_counts (plainM Z cs) vs H Q E
theorem f_Plain_counts {f : Addr} {fd : FuncData} (F : Fun K "counts" "Plain.counts" s_Plain_counts f fd) (T : Txt K mg Z)   : FnOk P w K mg base CX0 1 f fd ["self"] (sp_Plain_counts K Z) := by
  refine F.ok sc_Plain_counts (fun vs H Q E h => ?_) (fun cdv A outer s H vs Q E hr h => ?_)
  · obtain ⟨cs, p, s0, F, rfl, ⟨g, dx, l, h1, h2, eF⟩, k⟩ := h
    rfl
  · obtain ⟨cs, p, s0, F, rfl, ⟨g, dx, l, h1, h2, eF⟩, k⟩ := h
    have n_many := T.n_Plain_many
    have n_fixed := T.n_Plain_fixed
    have cls := T.is_Plain.cl
    refine ⟨_, (pss_one (ps_ret (pe_callTy (n_list (K := K) rfl) (by rfl) T.b_list (by decide +kernel) (pa_cons (n_fld (K := K) rfl (pv 0) rfl) pa_nil)))), ?_⟩
    walk_at "st"
    refine w_list (SqL.of h2) fun q H1 nq e1 hq => ?_
    exact k q H1 nq e1 hq
theorem sc_Plain_see : FnScope ["self", "sign"] ["self", "sign"] (defScope s_Plain_see) := ⟨rfl, rfl, rfl, by decide +kernel, rfl, by decide +kernel, by decide +kernel⟩
def sp_Plain_see (K : PySem.W.Frag) (Z : Zs) : Sp := fun vs H Q E => ∃ (cs : List Int) (p : Addr) (F : List Addr) (n : Int), vs = [.ref p, .int n] ∧ (plainM Z cs).rep H p () F ∧ Ask (0 ≤ n ∧ n < cs.length) (Q .non H) (Due E Z.nosign)
theorem f_Plain_see {f : Addr} {fd : FuncData} (F : Fun K "see" "Plain.see" s_Plain_see f fd) (T : Txt K mg Z) (mx_Plain_ask : MetX P w K mg base 1 Z.plain "ask" (sp_Model_ask K Z))  : FnOk P w K mg base (L2.CX P w) 2 f fd ["self", "sign"] (sp_Plain_see K Z) := by
  refine F.okX sc_Plain_see (fun vs H Q E h => ?_) (fun cdv A outer s H vs Q E hr h => ?_)
  · obtain ⟨cs, p, F, n, rfl, ⟨g, dx, l, h1, h2, eF⟩, k⟩ := h
    rfl
  · obtain ⟨cs, p, F, n, rfl, ⟨g, dx, l, h1, h2, eF⟩, k⟩ := h
    have n_many := T.n_Plain_many
    have n_fixed := T.n_Plain_fixed
    have cls := T.is_Plain.cl
    refine ⟨_, (pss_one (ps_expr (pe_mtX mx_Plain_ask hr (by decide) (takes_of rfl rfl rfl rfl) (pv 0) (pa_cons (pv 1) pa_nil)))), ?_⟩
    walk_at "st"
    exact ⟨p, Z.plain, dx, _, _, n, rfl, h1, cls, n_many, lookPlain_many, k⟩
theorem sc_Plain_fresh : FnScope ["self"] ["self"] (defScope s_Plain_fresh) := ⟨rfl, rfl, rfl, by decide +kernel, rfl, by decide +kernel, by decide +kernel⟩
def sp_Plain_fresh (K : PySem.W.Frag) (Z : Zs) : Sp := fun vs H Q E => ∃ cs, sp_fresh (plainM Z cs) vs H Q E
theorem f_Plain_fresh {f : Addr} {fd : FuncData} (F : Fun K "fresh" "Plain.fresh" s_Plain_fresh f fd) (T : Txt K mg Z) (nx_Plain_1 : MakX P w K mg base 2 "Plain" Z.plain (sp_Plain_init K Z) [])  : FnOk P w K mg base CX0 4 f fd ["self"] (sp_Plain_fresh K Z) := by
  refine F.ok sc_Plain_fresh (fun vs H Q E h => ?_) (fun cdv A outer s H vs Q E hr h => ?_)
  · obtain ⟨cs, p, s0, F, rfl, ⟨g, dx, l, h1, h2, eF⟩, k⟩ := h
    rfl
  · obtain ⟨cs, p, s0, F, rfl, ⟨g, dx, l, h1, h2, eF⟩, k⟩ := h
    have n_many := T.n_Plain_many
    have n_fixed := T.n_Plain_fixed
    have cls := T.is_Plain.cl
    refine ⟨_, (pss_one (ps_ret (pe_mkL nx_Plain_1 hr (by decide) rfl (pa_cons (n_fld (K := K) rfl (pv 0) rfl) pa_nil)))), ?_⟩
    walk_at "st"
    refine w_rMk fun x dy H1 nx e1 hx f1 => ?_
    exact ⟨x, dy, l, cs, rfl, hx, SqL.of (e1 _ _ h2), ask_y g fun H2 F2 r k2 g2 => ⟨rfl, k x H2 F2 r (made_ex nx e1 k2) (made_new nx f1 g2)⟩⟩
theorem sc_Learner_init : FnScope ["self", "many", "step"] ["self", "many", "step"] (defScope s_Learner_init) := ⟨rfl, rfl, rfl, by decide +kernel, rfl, by decide +kernel, by decide +kernel⟩
def sp_Learner_init (K : PySem.W.Frag) (Z : Zs) : Sp := fun vs H Q E => ∃ (x dx : Addr) (many step : Int), vs = [.ref x, .int many, .int step] ∧ H x = some (.ins Z.learner dx []) ∧
  Ask (Lrn many step) (∀ H' F, LrAt Z many step H' x (List.replicate many.toNat 1) F → Keep [x] H H' → Grow [x] F H → Q .non H') (Due E Z.noshares)
theorem f_Learner_init {f : Addr} {fd : FuncData} (F : FunD K "__init__" "Learner.__init__" (defArgs s_Learner_init) (defBody s_Learner_init) (defScope s_Learner_init) [V.int 1] [] f fd) (T : Txt K mg Z) (xf_ask_learner : CalX P w K mg base 1 "ask_learner" (sp_ask_learner K Z)) (cf_Model_init : CF P w K mg base 1 Z.model "__init__" (sp_Model_init K Z))  : FnOk P w K mg base (L2.CX P w) 2 f fd ["self", "many", "step"] (sp_Learner_init K Z) := by
  refine F.ok sc_Learner_init (fun vs H Q E h => ?_) (fun cdv A outer s H vs Q E hr h => ?_)
  · obtain ⟨x, dx, many, step, rfl, hx, k⟩ := h
    rfl
  · obtain ⟨x, dx, many, step, rfl, hx, k⟩ := h
    have n_many := T.n_Learner_many
    have n_step := T.n_Learner_step
    have n_tally := T.n_Learner_tally
    have cls := T.is_Learner.cl
    refine ⟨_, (pss_cons (ps_expr (pe_cX xf_ask_learner hr (by decide) (takes_of rfl rfl rfl rfl) rfl (pa_cons (pv 1) (pa_cons (pv 2) pa_nil))))
      (pss_cons (ps_expr (pe_cf cf_Model_init hr (by decide) (pe_glob rfl T.g_Model rfl) (pa_cons (pv 0) (pa_cons (pv 1) pa_nil))))
      (pss_cons (n_setF (K := K) rfl (pv 0) (pv 2) rfl)
      (pss_one (n_setF (K := K) rfl (pv 0) (pe_op op_rep (pe_lst (pa_cons pe_int pa_nil)) (pv 1)) rfl))))), ?_⟩
    walk_at "st"
    refine ⟨many, step, rfl, fun lr => ?_, k.2⟩
    have k := k.1 lr
    obtain ⟨m0, m1, s0, s1⟩ := lr
    walk_at "st"
    refine ⟨x, Z.learner, dx, _, rfl, hx, cls, n_many, fun H1 k1 h1 f1 => ?_⟩
    walk_at "st"
    refine w_kSetF h1 newLearner_step cls n_step (Nat.le_of_ble_eq_true rfl) fun H2 k2 h2 f2 => ?_
    walk_at "st"
    refine w_newL (Nat.le_of_ble_eq_true rfl) fun q H3 nq e3 hq => ?_
    walk_at "st"
    refine w_rep hq (by omega) (by omega) (Nat.le_of_ble_eq_true rfl) fun l H4 nl e4 hl => ?_
    rw [rep_one] at hl
    walk_at "st"
    refine w_kSetF (e4 _ _ (e3 _ _ h2)) newLearner_tally cls n_tally (Nat.le_of_ble_eq_true rfl) fun H5 k5 h5 f5 => ?_
    have lx : l ≠ x := ne_of hl (e4 _ _ (e3 _ _ h2)) (by intro z; cases z)
    refine k H5 [x, l] ⟨LOk.init m0 m1 s0 s1, dx, l, h5, k5 _ _ (by simp [lx]) hl, rfl⟩ ((((k1.trans k2).trans (Keep.of e3)).trans (Keep.of e4)).trans k5) fun c hc => ?_
    rcases List.mem_cons.mp hc with rfl | hc
    · exact .inl (by simp)
    · rw [List.mem_singleton.mp hc]
      exact .inr (f1 _ (f2 _ (Evl.fresh_back e3 nl)))
theorem sc_Learner_counts : FnScope ["self"] ["self"] (defScope s_Learner_counts) := ⟨rfl, rfl, rfl, by decide +kernel, rfl, by decide +kernel, by decide +kernel⟩
def sp_Learner_counts (K : PySem.W.Frag) (Z : Zs) : Sp := fun vs H Q E => ∃ many step, sp_counts (learnerM Z many step) vs H Q E
theorem f_Learner_counts {f : Addr} {fd : FuncData} (F : Fun K "counts" "Learner.counts" s_Learner_counts f fd) (T : Txt K mg Z)   : FnOk P w K mg base CX0 1 f fd ["self"] (sp_Learner_counts K Z) := by
  refine F.ok sc_Learner_counts (fun vs H Q E h => ?_) (fun cdv A outer s H vs Q E hr h => ?_)
  · obtain ⟨many, step, p, t, F, rfl, ⟨o, dx, l, h1, h2, eF⟩, k⟩ := h
    rfl
  · obtain ⟨many, step, p, t, F, rfl, ⟨o, dx, l, h1, h2, eF⟩, k⟩ := h
    have n_many := T.n_Learner_many
    have n_step := T.n_Learner_step
    have n_tally := T.n_Learner_tally
    have cls := T.is_Learner.cl
    refine ⟨_, (pss_one (ps_ret (pe_callTy (n_list (K := K) rfl) (by rfl) T.b_list (by decide +kernel) (pa_cons (n_fld (K := K) rfl (pv 0) rfl) pa_nil)))), ?_⟩
    walk_at "st"
    refine w_list (SqL.of h2) fun q H1 nq e1 hq => ?_
    exact k q H1 nq e1 hq
theorem sc_Learner_see : FnScope ["self", "sign", "count"] ["self", "sign"] (defScope s_Learner_see) := ⟨rfl, rfl, rfl, by decide +kernel, rfl, by decide +kernel, by decide +kernel⟩
def sp_Learner_see (K : PySem.W.Frag) (Z : Zs) : Sp := fun vs H _ E => ∃ (many step : Int) (p : Addr) (t : List Int) (F : List Addr) (n : Int), vs = [.ref p, .int n] ∧ LrAt Z many step H p t F ∧ ¬ (0 ≤ n ∧ n < many) ∧ Due E Z.nosign
theorem f_Learner_see {f : Addr} {fd : FuncData} (F : Fun K "see" "Learner.see" s_Learner_see f fd) (T : Txt K mg Z) (mx_Learner_ask : MetX P w K mg base 1 Z.learner "ask" (sp_Model_ask K Z))  : FnOk P w K mg base (L2.CX P w) 2 f fd ["self", "sign"] (sp_Learner_see K Z) := by
  refine F.okX sc_Learner_see (fun vs H Q E h => ?_) (fun cdv A outer s H vs Q E hr h => ?_)
  · obtain ⟨many, step, p, t, F, n, rfl, ⟨o, dx, l, h1, h2, eF⟩, nb, k⟩ := h
    rfl
  · obtain ⟨many, step, p, t, F, n, rfl, ⟨o, dx, l, h1, h2, eF⟩, nb, k⟩ := h
    have n_many := T.n_Learner_many
    have n_step := T.n_Learner_step
    have n_tally := T.n_Learner_tally
    have cls := T.is_Learner.cl
    refine ⟨_, (pss_cons (ps_expr (pe_mtX mx_Learner_ask hr (by decide) (takes_of rfl rfl rfl rfl) (pv 0) (pa_cons (pv 1) pa_nil)))
      (pss_cons (ps_asg (pe_op op_add (pe_ix (n_ixL (K := K) rfl) (n_fld (K := K) rfl (pv 0) rfl) (pv 1) (fun _ _ => rfl)) (n_fld (K := K) rfl (pv 0) rfl)) (pg_sub (n_fld (K := K) rfl (pv 0) rfl) (pv 1) set_list))
      (pss_one (ps_if (pt_cmpR op_gt (pe_ix (n_ixL (K := K) rfl) (n_fld (K := K) rfl (pv 0) rfl) (pv 1) (fun _ _ => rfl)) (pe_gc rfl T.k_MOST_COUNT) (nomark _)) (pss_one (n_setF (K := K) rfl (pv 0) (pe_lc (own := [("count", 2)]) (g := gName 2) (tt := tYes) rfl sc_Learner_see.nd (n_pi (K := K) rfl (n_fld (K := K) rfl (pv 0) rfl)) (blkOk_by (own := [("count", 2)]) (N := ["self", "sign", "count"]) (sc := defScope s_Learner_see) (by decide +kernel)) (fun _ _ _ _ _ => pg_name (i := 2) sc_Learner_see.nd rfl (Or.inl rfl)) (fun _ _ _ _ _ => pts_nil) (fun _ _ _ _ _ => (pe_op op_fdiv (pe_op op_add (pv 2) pe_int) pe_int))) rfl)) pss_nil)))), ?_⟩
    walk_at "st"
    exact ⟨p, Z.learner, dx, _, _, n, rfl, h1, cls, n_many, lookLearner_many, ask_n nb k⟩
theorem sc_Learner_fresh : FnScope ["self"] ["self"] (defScope s_Learner_fresh) := ⟨rfl, rfl, rfl, by decide +kernel, rfl, by decide +kernel, by decide +kernel⟩
def sp_Learner_fresh (K : PySem.W.Frag) (Z : Zs) : Sp := fun vs H Q E => ∃ many step, sp_fresh (learnerM Z many step) vs H Q E
theorem f_Learner_fresh {f : Addr} {fd : FuncData} (F : Fun K "fresh" "Learner.fresh" s_Learner_fresh f fd) (T : Txt K mg Z) (nx_Learner_2 : MakX P w K mg base 2 "Learner" Z.learner (sp_Learner_init K Z) [])  : FnOk P w K mg base CX0 4 f fd ["self"] (sp_Learner_fresh K Z) := by
  refine F.ok sc_Learner_fresh (fun vs H Q E h => ?_) (fun cdv A outer s H vs Q E hr h => ?_)
  · obtain ⟨many, step, p, t, F, rfl, ⟨o, dx, l, h1, h2, eF⟩, k⟩ := h
    rfl
  · obtain ⟨many, step, p, t, F, rfl, ⟨o, dx, l, h1, h2, eF⟩, k⟩ := h
    have n_many := T.n_Learner_many
    have n_step := T.n_Learner_step
    have n_tally := T.n_Learner_tally
    have cls := T.is_Learner.cl
    refine ⟨_, (pss_one (ps_ret (pe_mkL nx_Learner_2 hr (by decide) rfl (pa_cons (n_fld (K := K) rfl (pv 0) rfl) (pa_cons (n_fld (K := K) rfl (pv 0) rfl) pa_nil))))), ?_⟩
    walk_at "st"
    refine w_rMk fun x dy H1 nx e1 hx f1 => ?_
    exact ⟨x, dy, many, step, rfl, hx, ask_y ⟨o.m0, o.m1, o.s0, o.s1⟩ fun H2 F2 r k2 g2 => ⟨rfl, k x H2 F2 r (made_ex nx e1 k2) (made_new nx f1 g2)⟩⟩
theorem sc_Follower_init : FnScope ["self", "many", "step", "k"] ["self", "many", "step"] (defScope s_Follower_init) := ⟨rfl, rfl, rfl, by decide +kernel, rfl, by decide +kernel, by decide +kernel⟩
def sp_Follower_init (K : PySem.W.Frag) (Z : Zs) : Sp := fun vs H Q E => ∃ (x dx : Addr) (many step : Int), vs = [.ref x, .int many, .int step] ∧ H x = some (.ins Z.follower dx []) ∧
  Ask (Lrn many step) (∀ H' F, FoAt Z many step H' x (List.replicate (many + 1).toNat (List.replicate many.toNat 1), many) F → Keep [x] H H' → Grow [x] F H → Q .non H') (Due E Z.noshares)
theorem f_Follower_init {f : Addr} {fd : FuncData} (F : FunD K "__init__" "Follower.__init__" (defArgs s_Follower_init) (defBody s_Follower_init) (defScope s_Follower_init) [V.int 1] [] f fd) (T : Txt K mg Z) (xf_ask_learner : CalX P w K mg base 1 "ask_learner" (sp_ask_learner K Z)) (cf_Model_init : CF P w K mg base 1 Z.model "__init__" (sp_Model_init K Z)) (nx_Learner_2 : MakX P w K mg base 2 "Learner" Z.learner (sp_Learner_init K Z) [])  : FnOk P w K mg base (L2.CX P w) 4 f fd ["self", "many", "step"] (sp_Follower_init K Z) := by
  refine F.ok sc_Follower_init (fun vs H Q E h => ?_) (fun cdv A outer s H vs Q E hr h => ?_)
  · obtain ⟨x, dx, many, step, rfl, hx, k⟩ := h
    rfl
  · obtain ⟨x, dx, many, step, rfl, hx, k⟩ := h
    have n_many := T.n_Follower_many
    have n_step := T.n_Follower_step
    have n_learners := T.n_Follower_learners
    have n_at := T.n_Follower_at
    have cls := T.is_Follower.cl
    refine ⟨_, (pss_cons (ps_expr (pe_cX xf_ask_learner hr (by decide) (takes_of rfl rfl rfl rfl) rfl (pa_cons (pv 1) (pa_cons (pv 2) pa_nil))))
      (pss_cons (ps_expr (pe_cf cf_Model_init hr (by decide) (pe_glob rfl T.g_Model rfl) (pa_cons (pv 0) (pa_cons (pv 1) pa_nil))))
      (pss_cons (n_setF (K := K) rfl (pv 0) (pv 2) rfl)
      (pss_cons (n_setF (K := K) rfl (pv 0) (pe_lc (own := [("k", 3)]) (g := gName 3) (tt := tYes) rfl sc_Follower_init.nd (pi_range1 rfl T.b_range (pa_cons (pe_op op_add (pv 1) pe_int) pa_nil)) (blkOk_by (own := [("k", 3)]) (N := ["self", "many", "step", "k"]) (sc := defScope s_Follower_init) (by decide +kernel)) (fun _ _ _ _ _ => pg_name (i := 3) sc_Follower_init.nd rfl (Or.inl rfl)) (fun _ _ _ _ _ => pts_nil) (fun _ _ _ _ _ => (pe_mkL nx_Learner_2 hr (by decide) rfl (pa_cons (pv 1) (pa_cons (pv 2) pa_nil))))) rfl)
      (pss_one (n_setF (K := K) rfl (pv 0) (pv 1) rfl)))))), ?_⟩
    walk_at "st"
    refine ⟨many, step, rfl, fun lr => ?_, k.2⟩
    have k := k.1 lr
    obtain ⟨m0, m1, s0, s1⟩ := id lr
    walk_at "st"
    refine ⟨x, Z.follower, dx, _, rfl, hx, cls, n_many, fun H1 k1 h1 f1 => ?_⟩
    walk_at "st"
    refine w_kSetF h1 newFollower_step cls n_step (Nat.le_of_ble_eq_true rfl) fun H2 k2 h2 f2 => ?_
    walk_at "st"
    intro Dl hD
    refine lc_range (lo := 0) (n := (many + 1).toNat) (fun i H' => ∃ ls : List (Addr × Addr), ls.length = i ∧ Ex H2 H' ∧ H' Dl = some (.lst (ls.map fun x => V.ref x.1)) ∧
        (∀ (j : Nat) (y : Addr × Addr), ls[j]? = some y → (∃ dy, H' y.1 = some (.ins Z.learner dy (fsLearner many step y.2))) ∧ H' y.2 = some (.lst (iL (List.replicate many.toNat 1))) ∧ H2 y.1 = none ∧ H2 y.2 = none ∧ y.2 ≠ Dl) ∧
        (∀ (i j : Nat) (y z : Addr × Addr), ls[i]? = some y → ls[j]? = some z → i ≠ j → y.1 ≠ z.1 ∧ y.2 ≠ z.2))
      ⟨[], rfl, Evl.Ex.new hD, upd_same, fun j y h => by simp at h, fun i j y z h => by simp at h⟩ ?_ ?_
    · rintro i H3 hi ⟨ls, el, e3, hL, hA, hD1⟩
      refine ⟨rfl, ?_⟩
      refine w_tYes ?_
      walk_at "st"
      refine w_rMk fun y dy H4 ny e4 hy f4 => ?_
      refine ⟨y, dy, many, step, rfl, hy, ask_y lr fun H5 F5 r5 k5 g5 => ⟨rfl, ?_⟩⟩
      obtain ⟨_, dz, l, b1, b2, eF⟩ := r5
      have e5 := made_ex ny e4 k5
      have n5 := made_new ny f4 g5
      have nl : H3 l = none := n5 l (by rw [eF]; simp)
      have yD : y ≠ Dl := fun z => by rw [z, hL] at ny; cases ny
      have lD : l ≠ Dl := fun z => by rw [z, hL] at nl; cases nl
      refine ⟨_, e5 _ _ hL, Nat.lt_of_le_of_lt (show (ls.map fun x => V.ref x.1).length ≤ 1000 by rw [List.length_map]; omega) (by decide), ls ++ [(y, l)], by rw [List.length_append, el]; rfl, ?_, ?_, ?_, ?_⟩
      · exact Evl.Ex.mut (e3.trans e5) hD
      · rw [upd_same, List.map_append]
        rfl
      · intro j z hz
        rw [List.getElem?_append] at hz
        split at hz
        · obtain ⟨⟨dw, c1⟩, c2, c3, c4, c5⟩ := hA j z hz
          have z1 : z.1 ≠ Dl := fun w => by rw [w, hL] at c1; cases c1
          exact ⟨⟨dw, (upd_ne z1).trans (e5 _ _ c1)⟩, (upd_ne c5).trans (e5 _ _ c2), c3, c4, c5⟩
        · obtain ⟨rfl⟩ : (y, l) = z := by
            have : j - ls.length = 0 := by
              have := (List.getElem?_eq_some_iff.mp hz).1
              simp at this
              omega
            rw [this] at hz
            simpa using hz
          exact ⟨⟨dz, (upd_ne yD).trans b1⟩, (upd_ne lD).trans b2, Evl.fresh_back e3 ny, Evl.fresh_back e3 nl, lD⟩
      · have key : ∀ (j : Nat) (z : Addr × Addr), ls[j]? = some z → z.1 ≠ y ∧ z.2 ≠ l := fun j z hz => by
          obtain ⟨⟨dw, c1⟩, c2, _⟩ := hA j z hz
          exact ⟨fun w => (by rw [w, ny] at c1; cases c1), fun w => (by rw [w, nl] at c2; cases c2)⟩
        have last : ∀ (j : Nat) (z : Addr × Addr), ¬ j < ls.length → [(y, l)][j - ls.length]? = some z → j = ls.length ∧ z = (y, l) := fun j z hj hz => by
          have : j - ls.length = 0 := by
            have := (List.getElem?_eq_some_iff.mp hz).1
            simp at this
            omega
          rw [this] at hz
          exact ⟨by omega, by simpa using hz.symm⟩
        intro a b z w hz hw hab
        rw [List.getElem?_append] at hz hw
        split at hz
        · split at hw
          · exact hD1 a b z w hz hw hab
          · rename_i hb
            obtain ⟨_, rfl⟩ := last b w hb hw
            exact key a z hz
        · rename_i ha
          obtain ⟨ea, rfl⟩ := last a z ha hz
          split at hw
          · obtain ⟨c, d⟩ := key b w hw
            exact ⟨c.symm, d.symm⟩
          · rename_i hb
            obtain ⟨eb, _⟩ := last b w hb hw
            omega
    rintro H3 ⟨ls, el, e3, hL, hA, hD1⟩
    walk_at "st"
    refine w_kSetF (e3 _ _ h2) newFollower_learners cls n_learners (Nat.le_of_ble_eq_true rfl) fun H4 k4 h4 f4 => ?_
    walk_at "st"
    refine w_kSetF h4 newFollower_at cls n_at (Nat.le_of_ble_eq_true rfl) fun H5 k5 h5 f5 => ?_
    have Dx : Dl ≠ x := ne_of hL (e3 _ _ h2) (by intro z; cases z)
    have k45 := k4.trans k5
    refine k H5 (x :: Dl :: flat ls) ⟨dx, Dl, ls, ⟨m0, m1, s0, s1, h5, k45 _ _ (by simp [Dx]) hL, by rw [el]; omega, by rw [List.length_replicate, el], by show 0 ≤ many; omega, Int.le_refl _, ?_, hD1, rfl⟩⟩ (((k1.trans k2).trans (Keep.of e3)).trans k45) ?_
    · intro i y t hy ht
      obtain ⟨⟨dy, c1⟩, c2, c3, c4, c5⟩ := hA i y hy
      have et : t = List.replicate many.toNat 1 := (List.mem_replicate.mp (List.mem_of_getElem? ht)).2
      have y1 : y.1 ≠ x := fun z => by rw [z, h2] at c3; cases c3
      have y2 : y.2 ≠ x := fun z => by rw [z, h2] at c4; cases c4
      rw [et]
      exact ⟨LOk.init m0 m1 s0 s1, ⟨dy, k45 _ _ (by simp [y1]) c1⟩, k45 _ _ (by simp [y2]) c2⟩
    · intro b hb
      rcases List.mem_cons.mp hb with rfl | hb
      · exact .inl (by simp)
      rcases List.mem_cons.mp hb with rfl | hb
      · exact .inr (f1 _ (f2 _ hD))
      obtain ⟨y, hy, hb⟩ := mem_flat.mp hb
      obtain ⟨i, hi, e⟩ := List.getElem_of_mem hy
      obtain ⟨_, _, c3, c4, _⟩ := hA i y (by rw [List.getElem?_eq_getElem hi, e])
      rcases hb with rfl | rfl
      · exact .inr (f1 _ (f2 _ c3))
      · exact .inr (f1 _ (f2 _ c4))
-- no part for Follower_counts
theorem sc_Follower_see : FnScope ["self", "sign"] ["self", "sign"] (defScope s_Follower_see) := ⟨rfl, rfl, rfl, by decide +kernel, rfl, by decide +kernel, by decide +kernel⟩
def sp_Follower_see (K : PySem.W.Frag) (Z : Zs) : Sp := fun vs H _ E => ∃ (many step : Int) (p : Addr) (s : List (List Int) × Int) (F : List Addr) (n : Int), vs = [.ref p, .int n] ∧ FoAt Z many step H p s F ∧ ¬ (0 ≤ n ∧ n < many) ∧ Due E Z.nosign
theorem f_Follower_see {f : Addr} {fd : FuncData} (F : Fun K "see" "Follower.see" s_Follower_see f fd) (T : Txt K mg Z) (mx_Follower_ask : MetX P w K mg base 1 Z.follower "ask" (sp_Model_ask K Z)) (mx_Learner_see : MetX P w K mg base 2 Z.learner "see" (sp_Learner_see K Z))  : FnOk P w K mg base (L2.CX P w) 3 f fd ["self", "sign"] (sp_Follower_see K Z) := by
  refine F.okX sc_Follower_see (fun vs H Q E h => ?_) (fun cdv A outer s H vs Q E hr h => ?_)
  · obtain ⟨many, step, p, s0, F, n, rfl, ⟨dx, q, ls, f⟩, nb, k⟩ := h
    rfl
  · obtain ⟨many, step, p, s0, F, n, rfl, ⟨dx, q, ls, f⟩, nb, k⟩ := h
    have n_many := T.n_Follower_many
    have n_step := T.n_Follower_step
    have n_learners := T.n_Follower_learners
    have n_at := T.n_Follower_at
    have cls := T.is_Follower.cl
    refine ⟨_, (pss_cons (ps_expr (pe_mtX mx_Follower_ask hr (by decide) (takes_of rfl rfl rfl rfl) (pv 0) (pa_cons (pv 1) pa_nil)))
      (pss_cons (ps_expr (pe_mtX mx_Learner_see hr (by decide) (takes_of rfl rfl rfl rfl) (pe_ix (n_ixL (K := K) rfl) (n_fld (K := K) rfl (pv 0) rfl) (n_fld (K := K) rfl (pv 0) rfl) (fun _ _ => rfl)) (pa_cons (pv 1) pa_nil)))
      (pss_one (n_setF (K := K) rfl (pv 0) (pv 1) rfl)))), ?_⟩
    have hp := f.hp
    walk_at "st"
    exact ⟨p, Z.follower, dx, _, _, n, rfl, hp, cls, n_many, lookFollower_many, ask_n nb k⟩
-- no part for Follower_fresh
theorem sc_press : FnScope ["pile", "model", "row", "reader", "told", "sign", "counts", "k"] ["pile", "model", "row"] (defScope s_press) := ⟨rfl, rfl, rfl, by decide +kernel, rfl, by decide +kernel, by decide +kernel⟩
def sp_press (K : PySem.W.Frag) (Z : Zs) : Sp := fun vs H _ E => ∃ (p : Int) (x b : Addr) (row : List Int), vs = [.int p, .ref x, .ref b] ∧ Ask (0 ≤ p) (SqL K H b (iL row) ∧ row.length ≤ 1000 ∧ Due E Z.nosign ∧
  ((∃ cs F, (plainM Z cs).rep H x () F ∧ ∃ s ∈ row, ¬ Sgn cs s) ∨ ∃ many step t F s r, LrAt Z many step H x t F ∧ row = s :: r ∧ ¬ (0 ≤ s ∧ s < many))) (Due E Z.nopile)
theorem f_press {f : Addr} {fd : FuncData} (F : Fun K "press" "press" s_press f fd) (T : Txt K mg Z) (xf_ask_pile : CalX P w K mg base 1 "ask_pile" (sp_ask_pile K Z)) (m_Plain_fresh : Met P w K mg base 4 Z.plain "fresh" (sp_Plain_fresh K Z) []) (m_Learner_fresh : Met P w K mg base 4 Z.learner "fresh" (sp_Learner_fresh K Z) []) (m_Plain_counts : Met P w K mg base 1 Z.plain "counts" (sp_Plain_counts K Z) []) (m_Learner_counts : Met P w K mg base 1 Z.learner "counts" (sp_Learner_counts K Z) []) (xf_ask_sign : CalX P w K mg base 1 "ask_sign" (sp_ask_sign K Z)) (mx_Plain_see : MetX P w K mg base 2 Z.plain "see" (sp_Plain_see K Z)) (mx_Learner_see : MetX P w K mg base 2 Z.learner "see" (sp_Learner_see K Z)) (c_put_on : Cal P w K mg base 1 "put_on" (sp_put_on K Z) [])  : FnOk P w K mg base (L2.CX P w) 5 f fd ["pile", "model", "row"] (sp_press K Z) := by
  refine F.okX sc_press (fun vs H Q E h => ?_) (fun cdv A outer s H vs Q E hr h => ?_)
  · obtain ⟨p, x, b, row, rfl, k⟩ := h
    rfl
  · obtain ⟨p, x, b, row, rfl, k⟩ := h
    refine ⟨_, (pss_cons (ps_expr (pe_cX xf_ask_pile hr (by decide) (takes_of rfl rfl rfl rfl) rfl (pa_cons (pv 0) pa_nil)))
      (pss_cons (ps_set (i := 3) sc_press.nd rfl (Or.inl rfl) (pe_or (pe_mt0 m_Plain_fresh hr (by decide) (pv 1)) (pe_mt0 m_Learner_fresh hr (by decide) (pv 1))))
      (pss_cons (ps_set (i := 4) sc_press.nd rfl (Or.inl rfl) (pe_lst pa_nil))
      (pss_cons (ps_for (passes_of rfl) rfl (n_pi (K := K) rfl (pv 2)) (pg_name (i := 5) sc_press.nd rfl (Or.inl rfl)) (pss_cons (ps_set (i := 6) sc_press.nd rfl (Or.inl rfl) (pe_or (pe_mt0 m_Plain_counts hr (by decide) (pv 3)) (pe_mt0 m_Learner_counts hr (by decide) (pv 3))))
      (pss_cons (ps_expr (pe_cX xf_ask_sign hr (by decide) (takes_of rfl rfl rfl rfl) rfl (pa_cons (pv 6) (pa_cons (pv 5) pa_nil))))
      (pss_cons (ps_expr (pe_bm PySem.F.plainAttrs_list PySem.F.slot_list_append PySem.F.type_list_append mt_append (pv 4) (pa_cons (pv 6) pa_nil)))
      (pss_one (ps_expr (pe_or (pe_mtX mx_Plain_see hr (by decide) (takes_of rfl rfl rfl rfl) (pv 3) (pa_cons (pv 5) pa_nil)) (pe_mtX mx_Learner_see hr (by decide) (takes_of rfl rfl rfl rfl) (pv 3) (pa_cons (pv 5) pa_nil)))))))))
      (pss_cons (ps_for (passes_of rfl) rfl (pi_revR (by rfl) T.b_reversed (prg_1 (by rfl) T.b_range (pe_callB (n_len (K := K) rfl) (by rfl) T.b_len (by decide +kernel) (pa_cons (pv 2) pa_nil)))) (pg_name (i := 7) sc_press.nd rfl (Or.inl rfl)) (pss_one (ps_set (i := 0) sc_press.nd rfl (Or.inl rfl) (pe_c c_put_on hr (by decide) rfl (pa_cons (pv 0) (pa_cons (pe_ix (n_ixL (K := K) rfl) (pv 4) (pv 7) (fun _ _ => rfl)) (pa_cons (pe_ix (n_ixL (K := K) rfl) (pv 2) (pv 7) (fun _ _ => rfl)) pa_nil)))))))
      (pss_one (ps_ret (pv 0)))))))), ?_⟩
    walk_at "st"
    refine ⟨p, rfl, fun p0 => ?_, k.2⟩
    obtain ⟨hb, rl, d, k⟩ := k.1 p0
    walk_at "st"
    rcases k with ⟨cs, F, r, s1, hs1, nb⟩ | ⟨many, step, t, F, s1, r1, r, er, nb⟩
    · obtain ⟨g, dx, l0, h1, h2, eF⟩ := id r
      refine Or.inl ?_
      walk_at "st"
      refine ⟨cs, x, (), F, rfl, r, fun y H1 G rG e1 nG => ?_⟩
      walk_at "st"
      refine w_newL (Nat.zero_le _) fun l H2 nl e2 hl => ?_
      have hb2 := up_l (e1.trans e2) hb
      have oG := (plainOk (Z := Z) g).own _ _ _ _ rG
      have lG : l ∉ G := oG.out nl
      have rG2 := (plainOk (Z := Z) g).up rG e2
      walk_at "st"
      refine w_loopI row (fun i σ H' => (∀ s ∈ row.take i, Sgn cs s) ∧ Keep [l] H2 H' ∧ (∃ ts : List V, H' l = some (.lst ts) ∧ ts.length = i) ∧ ∃ v w, σ = [some (.int p), some (.ref x), some (.ref b), some (.ref y), some (.ref l), v, w, none]) ⟨(fun s hs => by simp at hs), Keep.refl _ _, ⟨[], hl, rfl⟩, none, none, rfl⟩ (fun i σ H' ⟨_, kk, _⟩ => up_l (ex_keep (e1.trans e2) kk (new1 (Evl.fresh_back e1 nl))) hb) ?_ ?_
      · rintro i s σ H3 hn hi ⟨hp, k3, ⟨ts, hl3, tl⟩, v, w, rfl⟩
        have rG3 := (plainOk (Z := Z) g).keep rG2 k3 (fun c hc z => lG (by rw [← List.mem_singleton.mp z]; exact hc))
        obtain ⟨_, dy, ly, g1, g2, eG⟩ := id rG3
        walk_at "st"
        refine Or.inl ?_
        walk_at "st"
        refine ⟨cs, y, (), G, rfl, rG3, fun t H4 nt e4 ht4 => ?_⟩
        walk_at "st"
        refine ⟨t, cs, s, rfl, SqL.of ht4, fun xs => ?_, fun _ => d⟩
        walk_at "st"
        refine w_appendK (e4 _ _ hl3) (by omega) fun H5 k5 hl5 f5 => ?_
        have rG5 := (plainOk (Z := Z) g).keep ((plainOk (Z := Z) g).up rG3 e4) k5 (fun c hc z => lG (by rw [← List.mem_singleton.mp z]; exact hc))
        obtain ⟨_, dz, lz, z1, z2, eZ⟩ := id rG5
        walk_at "st"
        refine Or.inl ?_
        walk_at "st"
        refine ⟨cs, y, G, s, rfl, rG5, ask_y ⟨xs.1, xs.2.1⟩ ?_⟩
        walk_at "st"
        exact ⟨take_all hn hp xs, (k3.trans (Keep.of e4)).trans k5, ⟨_, hl5, by rw [List.length_append, tl]; rfl⟩, _, _, rfl⟩
      · rintro σ H3 ⟨hp, k3, hl3, v, w, rfl⟩
        rw [List.take_length] at hp
        exact absurd (hp s1 hs1) nb
    · obtain ⟨o, dx, l0, h1, h2, eF⟩ := id r
      refine Or.inr ?_
      walk_at "st"
      refine ⟨many, step, x, t, F, rfl, r, fun y H1 G rG e1 nG => ?_⟩
      walk_at "st"
      refine w_newL (Nat.zero_le _) fun l H2 nl e2 hl => ?_
      have rG2 := (learnerOk o.m0 o.m1 o.s0 o.s1 (Z := Z)).up rG e2
      walk_at "st"
      refine w_loopI row (fun i σ H' => i = 0 ∧ H' = H2 ∧ ∃ v w, σ = [some (.int p), some (.ref x), some (.ref b), some (.ref y), some (.ref l), v, w, none]) ⟨rfl, rfl, none, none, rfl⟩ (fun i σ H' ⟨_, e, _⟩ => by rw [e]; exact up_l (e1.trans e2) hb) ?_ ?_
      · rintro i s σ H3 hn hi ⟨rfl, eH, v, w, rfl⟩
        obtain rfl : H2 = H3 := eH.symm
        rw [er] at hn
        obtain rfl : s1 = s := Option.some.inj hn
        obtain ⟨_, dy, ly, g1, g2, eG⟩ := id rG2
        walk_at "st"
        refine Or.inr ?_
        walk_at "st"
        refine ⟨many, step, y, _, G, rfl, rG2, fun t4 H4 nt e4 ht4 => ?_⟩
        walk_at "st"
        refine ⟨t4, _, s1, rfl, SqL.of ht4, ask_n (fun xs => nb ⟨xs.1, ?_⟩) d⟩
        have x2 := xs.2.1
        have m0 := o.m0
        have e : ((learnerM Z many step).counts (learnerM Z many step).init).length = many.toNat := by
          show (List.replicate many.toNat (1 : Int)).length = _
          rw [List.length_replicate]
        rw [e] at x2
        omega
      · rintro σ H3 ⟨e0, _⟩
        rw [er] at e0
        cases e0
theorem sc_read : FnScope ["pile", "model", "many", "reader", "row", "turn", "found"] ["pile", "model", "many"] (defScope s_read) := ⟨rfl, rfl, rfl, by decide +kernel, rfl, by decide +kernel, by decide +kernel⟩
def sp_read (_ : PySem.W.Frag) (Z : Zs) : Sp := fun vs H _ E => ∃ (p n : Int) (x : Addr), vs = [.int p, .ref x, .int n] ∧ ¬ 0 ≤ p ∧ Due E Z.nopile
theorem f_read {f : Addr} {fd : FuncData} (F : Fun K "read" "read" s_read f fd) (T : Txt K mg Z) (xf_ask_pile : CalX P w K mg base 1 "ask_pile" (sp_ask_pile K Z)) (m_Learner_fresh : Met P w K mg base 4 Z.learner "fresh" (sp_Learner_fresh K Z) []) (c_taken_off : Cal P w K mg base 2 "taken_off" (sp_taken_off K Z) []) (m_Learner_counts : Met P w K mg base 1 Z.learner "counts" (sp_Learner_counts K Z) []) (mx_Learner_see : MetX P w K mg base 2 Z.learner "see" (sp_Learner_see K Z))  : FnOk P w K mg base (L2.CX P w) 5 f fd ["pile", "model", "many"] (sp_read K Z) := by
  refine F.okX sc_read (fun vs H Q E h => ?_) (fun cdv A outer s H vs Q E hr h => ?_)
  · obtain ⟨p, n, x, rfl, nb, k⟩ := h
    rfl
  · obtain ⟨p, n, x, rfl, nb, k⟩ := h
    refine ⟨_, (pss_cons (ps_expr (pe_cX xf_ask_pile hr (by decide) (takes_of rfl rfl rfl rfl) rfl (pa_cons (pv 0) pa_nil)))
      (pss_cons (ps_set (i := 3) sc_read.nd rfl (Or.inl rfl) (pe_mt0 m_Learner_fresh hr (by decide) (pv 1)))
      (pss_cons (ps_set (i := 4) sc_read.nd rfl (Or.inl rfl) (pe_lst pa_nil))
      (pss_cons (ps_for (passes_of rfl) rfl (pi_range1 rfl T.b_range (pa_cons (pv 2) pa_nil)) (pg_name (i := 5) sc_read.nd rfl (Or.inl rfl)) (pss_cons (ps_set (i := 6) sc_read.nd rfl (Or.inl rfl) (pe_c c_taken_off hr (by decide) rfl (pa_cons (pv 0) (pa_cons (pe_mt0 m_Learner_counts hr (by decide) (pv 3)) pa_nil))))
      (pss_cons (ps_expr (pe_bm PySem.F.plainAttrs_list PySem.F.slot_list_append PySem.F.type_list_append mt_append (pv 4) (pa_cons (pe_ix (n_ixT (K := K) rfl) (pv 6) pe_int (fun _ _ => rfl)) pa_nil)))
      (pss_cons (ps_set (i := 0) sc_read.nd rfl (Or.inl rfl) (pe_ix (n_ixT (K := K) rfl) (pv 6) pe_int (fun _ _ => rfl)))
      (pss_one (ps_expr (pe_mtX mx_Learner_see hr (by decide) (takes_of rfl rfl rfl rfl) (pv 3) (pa_cons (pe_ix (n_ixT (K := K) rfl) (pv 6) pe_int (fun _ _ => rfl)) pa_nil))))))))
      (pss_one (ps_ret (pe_tup (pa_cons (pv 4) (pa_cons (pv 0) pa_nil))))))))), ?_⟩
    walk_at "st"
    exact ⟨p, rfl, ask_n nb k⟩
theorem sc_shared : FnScope ["one", "other", "kept"] ["one", "other"] (defScope s_shared) := ⟨rfl, rfl, rfl, by decide +kernel, rfl, by decide +kernel, by decide +kernel⟩
def sp_shared (_ : PySem.W.Frag) (_ : Zs) : Sp := fun vs H Q _ => ∃ (one other : Int), vs = [.int one, .int other] ∧ 0 ≤ one ∧ 0 ≤ other ∧ Q (.int (Int.gcd one other : Nat)) H
theorem c_shared {f : Addr} {fd : FuncData} (F : Fun K "shared" "shared" s_shared f fd) (hm : mg "shared" = some (.ref f)) (T : Txt K mg Z)   : Cal P w K mg base 1 "shared" (sp_shared K Z) [] := by
  refine cal_of F hm (F.binds (ps := ["one", "other"]) (fun _ _ _ _ _ _ us hl => match us, hl with | [_, _], _ => rfl)) sc_shared (fun vs H Q E h => ?_) (fun cdv A outer s H vs Q E hr h => ?_)
  · obtain ⟨one, other, rfl, h0, h1, k⟩ := h
    rfl
  · obtain ⟨one, other, rfl, h0, h1, k⟩ := h
    refine ⟨_, (pss_cons (ps_while PassesOwn.never (pt_cmpR op_ne (pv 1) pe_int (nomark _)) (pss_cons (ps_set (i := 2) sc_shared.nd rfl (Or.inl rfl) (pe_op op_mod (pv 0) (pv 1)))
      (pss_cons (ps_set (i := 0) sc_shared.nd rfl (Or.inl rfl) (pv 1))
      (pss_one (ps_set (i := 1) sc_shared.nd rfl (Or.inl rfl) (pv 2))))))
      (pss_one (ps_ret (pv 0)))), ?_⟩
    walk_at "st"
    refine w_while (fun m σ H' => H' = H ∧ ∃ (x y : Int) (v : Option V), σ = [some (.int x), some (.int y), v] ∧ m = y.toNat ∧ 0 ≤ x ∧ 0 ≤ y ∧ Int.gcd x y = Int.gcd one other) other.toNat ⟨rfl, one, other, none, rfl, rfl, h0, h1, rfl⟩ ?_
    rintro m σ H' ⟨rfl, x, y, v, rfl, rfl, x0, y0, e⟩
    walk_at "st"
    walk_at "both" <;> intro hc
    · refine w_turn ?_
      walk_at "st"
      have m0 := Int.emod_nonneg x hc
      have m1 := Int.emod_lt_of_pos x (show 0 < y by omega)
      exact ⟨(x % y).toNat, by omega, rfl, y, x % y, _, rfl, rfl, y0, m0, by rw [← gcd_turn hc]; exact e⟩
    · subst hc
      walk_at "st"
      rw [← e, Int.gcd_zero_right] at k
      rw [show x = ((x.natAbs : Nat) : Int) by omega]
      exact k
theorem sc_Slots_init : FnScope ["self", "counts", "step", "at", "sign", "turn", "slot"] ["self", "counts"] (defScope s_Slots_init) := ⟨rfl, rfl, rfl, by decide +kernel, rfl, by decide +kernel, by decide +kernel⟩
def sp_Slots_init (K : PySem.W.Frag) (Z : Zs) : Sp := fun vs H Q E => ∃ (x dx a : Addr) (cs : List Int), vs = [.ref x, .ref a] ∧ H x = some (.ins Z.slots dx []) ∧ H a = some (.lst (iL cs)) ∧
  Ask (Good cs) (∀ H' F step, SlAt Z cs step H' x F → Keep [x] H H' → Grow [x] F H → Q .non H') (Due E Z.noshares)
theorem f_Slots_init {f : Addr} {fd : FuncData} (F : Fun K "__init__" "Slots.__init__" s_Slots_init f fd) (T : Txt K mg Z) (xf_ask_counts : CalX P w K mg base 1 "ask_counts" (sp_ask_counts K Z)) (c_shared : Cal P w K mg base 1 "shared" (sp_shared K Z) [])  : FnOk P w K mg base (L2.CX P w) 2 f fd ["self", "counts"] (sp_Slots_init K Z) := by
  refine F.okX sc_Slots_init (fun vs H Q E h => ?_) (fun cdv A outer s H vs Q E hr h => ?_)
  · obtain ⟨x, dx, a, cs, rfl, hx, ha, k⟩ := h
    rfl
  · obtain ⟨x, dx, a, cs, rfl, hx, ha, k⟩ := h
    have n_shares := T.n_Slots_shares
    have n_size := T.n_Slots_size
    have n_holders := T.n_Slots_holders
    have n_places := T.n_Slots_places
    have n_numbers := T.n_Slots_numbers
    have cls := T.is_Slots.cl
    refine ⟨_, (pss_cons (ps_expr (pe_cX xf_ask_counts hr (by decide) (takes_of rfl rfl rfl rfl) rfl (pa_cons (pv 1) pa_nil)))
      (pss_cons (n_setF (K := K) rfl (pv 0) (pe_callTy (n_list (K := K) rfl) (by rfl) T.b_list (by decide +kernel) (pa_cons (pv 1) pa_nil)) rfl)
      (pss_cons (n_setF (K := K) rfl (pv 0) (pe_callB (n_sum (K := K) rfl rfl) (by rfl) T.b_sum (by decide +kernel) (pa_cons (pv 1) pa_nil)) rfl)
      (pss_cons (n_setF (K := K) rfl (pv 0) (pe_op op_rep (pe_lst (pa_cons pe_int pa_nil)) (n_fld (K := K) rfl (pv 0) rfl)) rfl)
      (pss_cons (ps_set (i := 2) sc_Slots_init.nd rfl (Or.inl rfl) (pe_op op_add (pe_op op_add (pe_op op_fdiv (n_fld (K := K) rfl (pv 0) rfl) pe_int) (pe_op op_fdiv (n_fld (K := K) rfl (pv 0) rfl) pe_int)) pe_int))
      (pss_cons (ps_while (passes_of rfl) (pt_cmpR op_ne (pe_c c_shared hr (by decide) rfl (pa_cons (pv 2) (pa_cons (n_fld (K := K) rfl (pv 0) rfl) pa_nil))) pe_int (nomark _)) (pss_one (ps_set (i := 2) sc_Slots_init.nd rfl (Or.inl rfl) (pe_op op_add (pv 2) pe_int))))
      (pss_cons (ps_set (i := 3) sc_Slots_init.nd rfl (Or.inl rfl) pe_int)
      (pss_cons (ps_for (passes_of rfl) rfl (pi_range1 rfl T.b_range (pa_cons (pe_callB (n_len (K := K) rfl) (by rfl) T.b_len (by decide +kernel) (pa_cons (pv 1) pa_nil)) pa_nil)) (pg_name (i := 4) sc_Slots_init.nd rfl (Or.inl rfl)) (pss_one (ps_for (passes_of rfl) rfl (pi_range1 rfl T.b_range (pa_cons (pe_ix (n_ixL (K := K) rfl) (pv 1) (pv 4) (fun _ _ => rfl)) pa_nil)) (pg_name (i := 5) sc_Slots_init.nd rfl (Or.inl rfl)) (pss_cons (ps_asg (pv 4) (pg_sub (n_fld (K := K) rfl (pv 0) rfl) (pv 3) set_list))
      (pss_one (ps_set (i := 3) sc_Slots_init.nd rfl (Or.inl rfl) (pe_op op_mod (pe_op op_add (pv 3) (pv 2)) (n_fld (K := K) rfl (pv 0) rfl))))))))
      (pss_cons (n_setF (K := K) rfl (pv 0) (pe_lc (own := [("sign", 4)]) (g := gName 4) (tt := tYes) rfl sc_Slots_init.nd (pi_range1 rfl T.b_range (pa_cons (pe_callB (n_len (K := K) rfl) (by rfl) T.b_len (by decide +kernel) (pa_cons (pv 1) pa_nil)) pa_nil)) (blkOk_by (own := [("sign", 4)]) (N := ["self", "counts", "step", "at", "sign", "turn", "slot"]) (sc := defScope s_Slots_init) (by decide +kernel)) (fun _ _ _ _ _ => pg_name (i := 4) sc_Slots_init.nd rfl (Or.inl rfl)) (fun _ _ _ _ _ => pts_nil) (fun _ _ _ _ _ => (pe_lst pa_nil))) rfl)
      (pss_cons (n_setF (K := K) rfl (pv 0) (pe_lst pa_nil) rfl)
      (pss_one (ps_for (passes_of rfl) rfl (pi_range1 rfl T.b_range (pa_cons (n_fld (K := K) rfl (pv 0) rfl) pa_nil)) (pg_name (i := 6) sc_Slots_init.nd rfl (Or.inl rfl)) (pss_cons (ps_set (i := 4) sc_Slots_init.nd rfl (Or.inl rfl) (pe_ix (n_ixL (K := K) rfl) (n_fld (K := K) rfl (pv 0) rfl) (pv 6) (fun _ _ => rfl)))
      (pss_cons (ps_expr (pe_bm PySem.F.plainAttrs_list PySem.F.slot_list_append PySem.F.type_list_append mt_append (n_fld (K := K) rfl (pv 0) rfl) (pa_cons (pe_op op_add (pe_ix (n_ixL (K := K) rfl) (pv 1) (pv 4) (fun _ _ => rfl)) (pe_callB (n_len (K := K) rfl) (by rfl) T.b_len (by decide +kernel) (pa_cons (pe_ix (n_ixL (K := K) rfl) (n_fld (K := K) rfl (pv 0) rfl) (pv 4) (fun _ _ => rfl)) pa_nil))) pa_nil)))
      (pss_one (ps_expr (pe_bm PySem.F.plainAttrs_list PySem.F.slot_list_append PySem.F.type_list_append mt_append (pe_ix (n_ixL (K := K) rfl) (n_fld (K := K) rfl (pv 0) rfl) (pv 4) (fun _ _ => rfl)) (pa_cons (pv 6) pa_nil)))))))))))))))))), ?_⟩
    walk_at "st"
    refine ⟨a, cs, rfl, SqL.of ha, fun g => ?_, k.2⟩
    have k := k.1 g
    have sp := g.sum
    have sl := g.sumle
    have gl := g.len
    have ax : a ≠ x := ne_of ha hx (by intro z; cases z)
    walk_at "st"
    refine w_list (SqL.of ha) fun lc H1 nlc e1 hlc => ?_
    walk_at "st"
    refine w_kSetF (e1 _ _ hx) newSlots_shares cls n_shares (Nat.le_of_ble_eq_true rfl) fun H2 k2 h2 f2 => ?_
    have ha2 := k2.at (e1 _ _ ha) (by simp [ax])
    walk_at "st"
    refine w_kSetF h2 newSlots_size cls n_size (Nat.le_of_ble_eq_true rfl) fun H3 k3 h3 f3 => ?_
    have ha3 := k3.at ha2 (by simp [ax])
    have lk2 : List.lookup ("size" : Str) [(("shares" : Str), V.ref lc), (("size" : Str), V.int cs.sum)] = some (.int cs.sum) := rfl
    walk_at "st"
    refine w_newL (Nat.le_of_ble_eq_true rfl) fun z0 H4 nz0 e4 hz0 => ?_
    have h4 := e4 _ _ h3
    walk_at "st"
    refine w_rep1 hz0 (by omega) (by omega) fun lh H5 nlh e5 hlh => ?_
    rw [rep_one] at hlh
    have h5 := e5 _ _ h4
    have ha5 := (e4.trans e5) _ _ ha3
    walk_at "st"
    refine w_kSetF h5 newSlots_holders cls n_holders (Nat.le_of_ble_eq_true rfl) fun H6 k6 h6 f6 => ?_
    have ha6 := k6.at ha5 (by simp [ax])
    have lhx : lh ≠ x := ne_of hlh h5 (by intro z; cases z)
    have hlh6 := k6.at hlh (by simp [lhx])
    have lk3 : List.lookup ("size" : Str) [(("shares" : Str), V.ref lc), (("size" : Str), V.int cs.sum), (("holders" : Str), V.ref lh)] = some (.int cs.sum) := rfl
    have lk4 : List.lookup ("holders" : Str) [(("shares" : Str), V.ref lc), (("size" : Str), V.int cs.sum), (("holders" : Str), V.ref lh)] = some (.ref lh) := rfl
    walk_at "st"
    obtain ⟨k0, hk0⟩ := coprime_ahead (size := cs.sum) (by omega) (step0 cs)
    have s0 : 0 ≤ step0 cs := by unfold step0; omega
    refine w_while (fun m σ H' => H' = H6 ∧ ∃ i : Nat, i ≤ k0 ∧ m = k0 - i ∧ (∀ t, step0 cs ≤ t → t < step0 cs + (i : Int) → ¬ Int.gcd t cs.sum = 1) ∧ σ = [some (.ref x), some (.ref a), some (.int (step0 cs + (i : Int))), none, none, none, none]) k0 ⟨rfl, 0, Nat.zero_le _, rfl, (fun t h1 h2 => by omega), (by rw [Int.natCast_zero, Int.add_zero]; rfl)⟩ ?_
    rintro m σ H7 ⟨eH, i, hi, rfl, hle, rfl⟩
    obtain rfl : H6 = H7 := eH.symm
    walk_at "st"
    refine ⟨_, _, rfl, by omega, by omega, ?_⟩
    walk_at "st"
    walk_at "both" <;> intro hc
    · refine w_turn ?_
      walk_at "st"
      have ne : i ≠ k0 := fun z => hc (by rw [z, hk0]; rfl)
      refine ⟨k0 - (i + 1), by omega, rfl, i + 1, by omega, rfl, fun t h1 h2 => ?_, ?_⟩
      · by_cases z : t = step0 cs + (i : Int)
        · rw [z]
          exact fun w => hc (by rw [w]; rfl)
        · exact hle t h1 (by omega)
      · rw [Int.natCast_succ, ← Int.add_assoc]
        rfl
    have co : Int.gcd (step0 cs + (i : Int)) cs.sum = 1 := by omega
    have si : StepIs cs (step0 cs + (i : Int)) := ⟨co, by omega, hle⟩
    generalize step0 cs + (i : Int) = step at si co
    clear hle hk0 hc
    have al : a ≠ lh := fun z => by rw [← z, e4 _ _ ha3] at nlh; cases nlh
    have len0 := dealtTo_len cs step
    walk_at "st"
    refine w_loopR (fun i σ H' => ∃ (v4 v5 : Option V), Keep [lh] H6 H' ∧ (∀ b, H' b = none → H6 b = none) ∧ H' lh = some (.lst (iL (dealtTo cs step (cs.take i).sum.toNat))) ∧
      σ = [some (.ref x), some (.ref a), some (.int step), some (.int (spot step cs.sum (cs.take i).sum.toNat)), v4, v5, none]) ⟨none, none, Keep.refl _ _, fun _ h => h, hlh6, (by rw [show (cs.take 0).sum.toNat = 0 by simp, spot_zero]; rfl)⟩ ?_ ?_
    · rintro s σ H7 hs ⟨v4, v5, k7, f7, q7, rfl⟩
      have hs' : s < cs.length := hs
      have ei : cs[s]? = some (cnt cs s) := cnt_at (s := (s : Int)) (by omega) (by omega)
      have c0 := cnt_le g (s := (s : Int)) (by omega) (by omega)
      have nn := sum_nn (take_nn g.nn s)
      have m1 := first_le g.nn (s + 1)
      rw [sum_take1 ei] at m1
      have x7 := k7.at h6 (by simp [lhx.symm])
      have a7 := k7.at ha6 (by simp [al])
      walk_at "st"
      refine w_ixI (SqL.of a7) rfl ei ?_
      walk_at "st"
      refine w_loopR (fun t σ H' => ∃ (v5 : Option V), Keep [lh] H6 H' ∧ (∀ b, H' b = none → H6 b = none) ∧ H' lh = some (.lst (iL (dealtTo cs step ((cs.take s).sum.toNat + t)))) ∧
        σ = [some (.ref x), some (.ref a), some (.int step), some (.int (spot step cs.sum ((cs.take s).sum.toNat + t))), some (.int (s : Int)), v5, none]) ⟨v5, k7, f7, q7, rfl⟩ ?_ ?_
      · rintro t σ H8 ht ⟨v5, k8, f8, q8, rfl⟩
        have ht' : (t : Int) < cnt cs s := by omega
        have x8 := k8.at h6 (by simp [lhx.symm])
        have sj := spot_in (step := step) sp ((cs.take s).sum.toNat + t)
        walk_at "st"
        refine w_setLK q8 (k := (spot step cs.sum ((cs.take s).sum.toNat + t)).toNat) (by omega) (by rw [List.length_map, len0]; omega) fun H9 k9 q9 f9 => ?_
        have x9 := k9.at x8 (by simp [lhx.symm])
        walk_at "st"
        refine ⟨some (.int (t : Int)), k8.trans k9, fun b h => f8 _ (f9 _ h), ?_, ?_⟩
        · rw [q9, ← Nat.add_assoc, dealtTo_succ, signs_at g hs' ht']
          show some (HO.lst _) = some (HO.lst ((List.set _ _ _).map V.int))
          rw [List.map_set]
        · rw [← Nat.add_assoc, spot_succ]
          rfl
      · rintro σ H8 ⟨v5, k8, f8, q8, rfl⟩
        have e : (cs.take s).sum.toNat + (cnt cs s).toNat = (cs.take (s + 1)).sum.toNat := by
          rw [sum_take1 ei]
          omega
        rw [e] at q8 ⊢
        walk_at "st"
        exact ⟨_, _, k8, f8, q8, rfl⟩
    rintro σ H7 ⟨v4, v5, k7, f7, q7, rfl⟩
    rw [show (cs.take (cs.length : Int).toNat).sum.toNat = cs.sum.toNat by rw [Int.toNat_natCast, List.take_length]] at q7 ⊢
    have x7 := k7.at h6 (by simp [lhx.symm])
    have a7 := k7.at ha6 (by simp [al])
    walk_at "st"
    refine w_lcNew (fun _ => []) (by omega) (fun _ => rfl) (fun i H8 QQ e8 hi qq => ?_) fun lp H8 as nlp e8 hlp asl has nd => ?_
    · walk_at "st"
      exact w_newL (Nat.zero_le _) qq
    walk_at "st"
    refine w_kSetF (e8 _ _ x7) newSlots_places cls n_places (Nat.le_of_ble_eq_true rfl) fun H9 k9 h9 f9 => ?_
    walk_at "st"
    refine w_newL (Nat.zero_le _) fun ln H10 nln e10 hln => ?_
    walk_at "st"
    refine w_kSetF (e10 _ _ h9) newSlots_numbers cls n_numbers (Nat.le_of_ble_eq_true rfl) fun H11 k11 h11 f11 => ?_
    have lpx : lp ≠ x := ne_of hlp (e8 _ _ x7) (by intro z; cases z)
    have lnx : ln ≠ x := ne_of hln (e10 _ _ h9) (by intro z; cases z)
    have lh11 := k11.at (e10 _ _ (k9.at (e8 _ _ q7) (by simp [lhx]))) (by simp [lhx])
    have a11 := k11.at (e10 _ _ (k9.at (e8 _ _ a7) (by simp [ax]))) (by simp [ax])
    have lp11 := k11.at (e10 _ _ (k9.at hlp (by simp [lpx]))) (by simp [lpx])
    have ln11 := k11.at hln (by simp [lnx])
    have old : ∀ b o, H7 b = some o → b ≠ x → b ∉ ln :: as := fun b o h n z => by
      rcases List.mem_cons.mp z with rfl | z
      · rw [k9.at (e8 _ _ h) (by simp [n])] at nln
        cases nln
      · obtain ⟨j, hj, ej⟩ := List.getElem_of_mem z
        have := (has j b (by rw [← ej]; exact List.getElem?_eq_getElem hj)).2.2
        rw [h] at this
        cases this
    have xo : x ∉ ln :: as := fun z => by
      rcases List.mem_cons.mp z with z | z
      · exact lnx z.symm
      · obtain ⟨j, hj, ej⟩ := List.getElem_of_mem z
        have := (has j x (by rw [← ej]; exact List.getElem?_eq_getElem hj)).2.2
        rw [x7] at this
        cases this
    have lho := old lh _ q7 lhx
    have ao := old a _ a7 ax
    have asx : ∀ (j : Nat) (y : Addr), as[j]? = some y → y ≠ x ∧ y ≠ ln := fun j y hy => by
      obtain ⟨b1, b2, b3⟩ := has j y hy
      have yx : y ≠ x := fun z => by rw [z, x7] at b3; cases b3
      exact ⟨yx, fun z => by rw [← z, k9.at b1 (by simp [yx])] at nln; cases nln⟩
    have lpo : lp ∉ ln :: as := fun z => by
      rcases List.mem_cons.mp z with z | z
      · rw [← z, k9.at hlp (by simp [lpx])] at nln
        cases nln
      · obtain ⟨j, hj, ej⟩ := List.getElem_of_mem z
        exact (has j lp (by rw [← ej]; exact List.getElem?_eq_getElem hj)).2.1 rfl
    walk_at "st"
    refine w_loopR (fun i σ H' => ∃ (v4 v6 : Option V), Keep (ln :: as) H11 H' ∧ (∀ b, H' b = none → H11 b = none) ∧ H' ln = some (.lst (iL (nums cs step i))) ∧ (∀ (j : Nat) (y : Addr), as[j]? = some y → H' y = some (.lst (iL (mine cs step (j : Int) i)))) ∧
      σ = [some (.ref x), some (.ref a), some (.int step), some (.int (spot step cs.sum cs.sum.toNat)), v4, v5, v6]) ⟨v4, none, Keep.refl _ _, fun _ h => h, ln11, (fun j y hy => k11.at (e10 _ _ (k9.at (has j y hy).1 (by simp [(asx j y hy).1]))) (by simp [(asx j y hy).1])), rfl⟩ ?_ ?_
    · rintro i σ H12 hi ⟨v4, v6, k12, f12, n12, p12, rfl⟩
      have hi' : i < cs.sum.toNat := hi
      have x12 := k12.at h11 xo
      have lh12 := k12.at lh11 lho
      have a12 := k12.at a11 ao
      have lp12 := k12.at lp11 lpo
      have sg := signAt_in g si.co hi'
      have s0' := sg.nn
      have s1' := sg.lt
      walk_at "st"
      refine w_ixD (SqL.of lh12) (by omega) (by rw [len0]; omega) ?_
      have e0 : (dealtTo cs step cs.sum.toNat).getD (i : Int).toNat 0 = signAt cs step i := rfl
      rw [e0]
      have en := nums_succ cs step i
      have em := mine_succ cs step
      obtain ⟨z, ez⟩ : ∃ z, z = signAt cs step i := ⟨_, rfl⟩
      rw [← ez] at s0' s1' en ⊢
      obtain ⟨y, hy⟩ : ∃ y, as[z.toNat]? = some y := ⟨_, List.getElem?_eq_getElem (by omega)⟩
      have aty : atI (as.map V.ref) z = some (V.ref y) := by
        rw [show z = ((z.toNat : Nat) : Int) by omega]
        exact atI_nat (by rw [List.getElem?_map, hy]; rfl)
      have y12 := p12 _ y hy
      rw [show ((z.toNat : Nat) : Int) = z by omega] at y12
      have c0 := cnt_le g (s := z) (by omega) (by omega)
      have ml : (mine cs step z i).length ≤ i := by
        rw [mine_len]
        exact Nat.le_trans List.countP_le_length (by simp)
      have nl : (nums cs step i).length = i := by simp [nums]
      walk_at "st"
      refine w_ixI (SqL.of a12) (k := z.toNat) (by omega) (cnt_at (by omega) (by omega)) ?_
      walk_at "st"
      refine w_ixL (SqL.of lp12) aty ?_
      walk_at "st"
      refine w_appendK n12 (by rw [List.length_map, nl]; omega) fun H13 k13 n13 f13 => ?_
      have yn := (asx _ y hy).2
      have nin : ∀ b, b ∉ ln :: as → b ∉ [ln] := fun b h w => h (by rw [List.mem_singleton.mp w]; exact List.mem_cons_self)
      have x13 := k13.at x12 (nin _ xo)
      have lp13 := k13.at lp12 (nin _ lpo)
      have y13 := k13.at y12 (by simp [yn])
      walk_at "st"
      refine w_ixL (SqL.of lp13) aty ?_
      walk_at "st"
      refine w_appendK y13 (by rw [List.length_map]; omega) fun H14 k14 y14 f14 => ?_
      walk_at "st"
      refine ⟨some (.int z), some (.int (i : Int)), (k12.trans (k13.mono (by simp))).trans (k14.mono fun b hb => List.mem_cons_of_mem _ (by rw [List.mem_singleton.mp hb]; exact List.mem_of_getElem? hy)), fun b h => f12 _ (f13 _ (f14 _ h)), ?_, fun j u hu => ?_, rfl⟩
      · rw [k14.at n13 (by simp [Ne.symm yn]), en]
        show some (HO.lst _) = some (HO.lst (List.map V.int (_ ++ _)))
        rw [List.map_append]
        rfl
      · rw [em, ← ez]
        by_cases w : z = (j : Int)
        · rw [if_pos w]
          have : u = y := by
            rw [show z.toNat = j by omega] at hy
            exact Option.some.inj (hu.symm.trans hy)
          rw [this, y14, ← w]
          show some (HO.lst _) = some (HO.lst (List.map V.int (_ ++ _)))
          rw [List.map_append]
          rfl
        · rw [if_neg w]
          have uy : u ≠ y := fun v => by
            rw [v] at hu
            have hj := (List.getElem?_eq_some_iff.mp hu).1
            have := (List.getElem?_inj hj nd).mp (hu.trans hy.symm)
            omega
          exact k14.at (k13.at (p12 j u hu) (by simp [(asx j u hu).2])) (by simp [uy])
    rintro σ H12 ⟨v4, v6, k12, f12, n12, p12, rfl⟩
    walk_at "st"
    have b3 : ∀ b, H3 b = none → H b = none := fun b h => Evl.fresh_back e1 (f2 _ (f3 _ h))
    have b5 : ∀ b, H5 b = none → H b = none := fun b h => b3 _ (Evl.fresh_back (e4.trans e5) h)
    have b7 : ∀ b, H7 b = none → H b = none := fun b h => b5 _ (f6 _ (f7 _ h))
    have b9 : ∀ b, H9 b = none → H b = none := fun b h => b7 _ (Evl.fresh_back e8 (f9 _ h))
    have nlh0 : H lh = none := b3 _ (Evl.fresh_back e4 nlh)
    have nas : ∀ (j : Nat) (y : Addr), as[j]? = some y → H y = none := fun j y hy => b7 _ (has j y hy).2.2
    have nla : New (ln :: as) H := fun b hb => by
      rcases List.mem_cons.mp hb with rfl | hb
      · exact b9 _ nln
      · obtain ⟨j, hj, ej⟩ := List.getElem_of_mem hb
        exact nas j b (by rw [← ej]; exact List.getElem?_eq_getElem hj)
    have lc3 := k3.at (k2.at hlc (by simp [ne_of hlc (e1 _ _ hx) (by intro z; cases z)])) (by simp [ne_of hlc (e1 _ _ hx) (by intro z; cases z)])
    have lcx : lc ≠ x := ne_of hlc (e1 _ _ hx) (by intro z; cases z)
    have lclh : lc ≠ lh := fun z => by rw [← z, e4 _ _ lc3] at nlh; cases nlh
    have lc7 := k7.at (k6.at ((e4.trans e5) _ _ lc3) (by simp [lcx])) (by simp [lclh])
    have lc11 := k11.at (e10 _ _ (k9.at (e8 _ _ lc7) (by simp [lcx]))) (by simp [lcx])
    have lco := old lc _ lc7 lcx
    have kAll : Keep [x] H H12 := by
      have q1 : Keep [x] H H5 := (((Keep.of e1).trans k2).trans k3).trans (Keep.of (e4.trans e5))
      have q2 : Keep [x] H H7 := (q1.trans k6).fresh k7 (new1 nlh0)
      have q3 : Keep [x] H H11 := (((q2.trans (Keep.of e8)).trans k9).trans (Keep.of e10)).trans k11
      exact q3.fresh k12 nla
    refine k H12 (x :: lc :: lh :: lp :: ln :: as) step ⟨g, si, dx, lc, lh, lp, ln, as, k12.at h11 xo, k12.at lc11 lco, k12.at lh11 lho, k12.at lp11 lpo, n12, by simpa using asl, p12, rfl⟩ kAll fun b hb => ?_
    rcases List.mem_cons.mp hb with rfl | hb
    · exact .inl (by simp)
    rcases List.mem_cons.mp hb with rfl | hb
    · exact .inr nlc
    rcases List.mem_cons.mp hb with rfl | hb
    · exact .inr nlh0
    rcases List.mem_cons.mp hb with rfl | hb
    · exact .inr (b7 _ nlp)
    · exact .inr (nla b hb)
theorem sc_Slots_ask_number : FnScope ["self", "number"] ["self", "number"] (defScope s_Slots_ask_number) := ⟨rfl, rfl, rfl, by decide +kernel, rfl, by decide +kernel, by decide +kernel⟩
def sp_Slots_ask_number (K : PySem.W.Frag) (Z : Zs) : Sp := fun vs H Q E => ∃ (cs : List Int) (step : Int) (p : Addr) (F : List Addr) (n : Int), vs = [.ref p, .int n] ∧ SlAt Z cs step H p F ∧ Ask (cs.sum ≤ n ∧ n < 2 * cs.sum) (Q .non H) (Due E Z.nopile)
theorem f_Slots_ask_number {f : Addr} {fd : FuncData} (F : Fun K "ask_number" "Slots.ask_number" s_Slots_ask_number f fd) (T : Txt K mg Z)   : FnOk P w K mg base (L2.CX P w) 1 f fd ["self", "number"] (sp_Slots_ask_number K Z) := by
  refine F.okX sc_Slots_ask_number (fun vs H Q E h => ?_) (fun cdv A outer s H vs Q E hr h => ?_)
  · obtain ⟨cs, step, p, F, n, rfl, ⟨g, si, dx, lc, lh, lp, ln, as, h1, h2, h3, h4, h5, h6, h7, eF⟩, k⟩ := h
    rfl
  · obtain ⟨cs, step, p, F, n, rfl, ⟨g, si, dx, lc, lh, lp, ln, as, h1, h2, h3, h4, h5, h6, h7, eF⟩, k⟩ := h
    have n_shares := T.n_Slots_shares
    have n_size := T.n_Slots_size
    have n_holders := T.n_Slots_holders
    have n_places := T.n_Slots_places
    have n_numbers := T.n_Slots_numbers
    have cls := T.is_Slots.cl
    refine ⟨_, (pss_one (ps_if (PW.pt (pw_or (pt_cmpR op_lt (pv 1) (n_fld (K := K) rfl (pv 0) rfl) (nomark _)) (pw_or1 (pt_cmpR op_ge (pv 1) (pe_op op_mul pe_int (n_fld (K := K) rfl (pv 0) rfl)) (nomark _))))) (pss_one (ps_raiseO rfl (takes_of rfl rfl rfl rfl) T.x_NoPile (by rfl) (by decide))) pss_nil)), ?_⟩
    walk_at "st"
    walk_at "both" <;> intro c1
    · walk_at "st"
      exact k.2 (by omega) _
    walk_at "st"
    walk_at "both" <;> intro c2
    · walk_at "st"
      exact k.2 (by omega) _
    walk_at "st"
    exact k.1 (by omega)
-- no part for Slots_dealt
theorem sc_Slots_raised : FnScope ["self", "sign", "number", "count"] ["self", "sign", "number"] (defScope s_Slots_raised) := ⟨rfl, rfl, rfl, by decide +kernel, rfl, by decide +kernel, by decide +kernel⟩
def sp_Slots_raised (K : PySem.W.Frag) (Z : Zs) : Sp := fun vs H _ E => ∃ (cs : List Int) (step : Int) (p : Addr) (F : List Addr) (s n : Int), vs = [.ref p, .int s, .int n] ∧ SlAt Z cs step H p F ∧ Ask (Sgn cs s) (¬ (cnt cs s ≤ n ∧ n < 2 * cnt cs s) ∧ Due E Z.noslot) (Due E Z.nosign)
theorem f_Slots_raised {f : Addr} {fd : FuncData} (F : Fun K "raised" "Slots.raised" s_Slots_raised f fd) (T : Txt K mg Z) (xf_ask_sign : CalX P w K mg base 1 "ask_sign" (sp_ask_sign K Z))  : FnOk P w K mg base (L2.CX P w) 2 f fd ["self", "sign", "number"] (sp_Slots_raised K Z) := by
  refine F.okX sc_Slots_raised (fun vs H Q E h => ?_) (fun cdv A outer s H vs Q E hr h => ?_)
  · obtain ⟨cs, step, p, F, s0, n, rfl, ⟨g, si, dx, lc, lh, lp, ln, as, h1, h2, h3, h4, h5, h6, h7, eF⟩, k⟩ := h
    rfl
  · obtain ⟨cs, step, p, F, s0, n, rfl, ⟨g, si, dx, lc, lh, lp, ln, as, h1, h2, h3, h4, h5, h6, h7, eF⟩, k⟩ := h
    have n_shares := T.n_Slots_shares
    have n_size := T.n_Slots_size
    have n_holders := T.n_Slots_holders
    have n_places := T.n_Slots_places
    have n_numbers := T.n_Slots_numbers
    have cls := T.is_Slots.cl
    refine ⟨_, (pss_cons (ps_expr (pe_cX xf_ask_sign hr (by decide) (takes_of rfl rfl rfl rfl) rfl (pa_cons (n_fld (K := K) rfl (pv 0) rfl) (pa_cons (pv 1) pa_nil))))
      (pss_cons (ps_set (i := 3) sc_Slots_raised.nd rfl (Or.inl rfl) (pe_ix (n_ixL (K := K) rfl) (n_fld (K := K) rfl (pv 0) rfl) (pv 1) (fun _ _ => rfl)))
      (pss_cons (ps_if (PW.pt (pw_or (pt_cmpR op_lt (pv 2) (pv 3) (nomark _)) (pw_or1 (pt_cmpR op_ge (pv 2) (pe_op op_mul pe_int (pv 3)) (nomark _))))) (pss_one (ps_raiseO rfl (takes_of rfl rfl rfl rfl) T.x_NoSlot (by rfl) (by decide))) pss_nil)
      (pss_one (ps_ret (pe_op op_add (n_fld (K := K) rfl (pv 0) rfl) (pe_ix (n_ixL (K := K) rfl) (pe_ix (n_ixL (K := K) rfl) (n_fld (K := K) rfl (pv 0) rfl) (pv 1) (fun _ _ => rfl)) (pe_op op_sub (pv 2) (pv 3)) (fun _ _ => rfl)))))))), ?_⟩
    have sl := g.sumle
    walk_at "st"
    refine ⟨lc, cs, s0, rfl, SqL.of h2, fun x => ?_, k.2⟩
    obtain ⟨nb, d⟩ := k.1 x
    have s0p := x.1
    have s1 := x.2.1
    walk_at "st"
    refine w_ixI (SqL.of h2) (k := s0.toNat) (by omega) (cnt_at s0p s1) ?_
    walk_at "st"
    walk_at "both" <;> intro c1
    · walk_at "st"
      exact d _
    walk_at "st"
    exact d _
theorem sc_Slots_lowered : FnScope ["self", "number", "slot"] ["self", "number"] (defScope s_Slots_lowered) := ⟨rfl, rfl, rfl, by decide +kernel, rfl, by decide +kernel, by decide +kernel⟩
def sp_Slots_lowered (K : PySem.W.Frag) (Z : Zs) : Sp := fun vs H Q E => ∃ (cs : List Int) (step : Int) (p : Addr) (F : List Addr) (n : Int), vs = [.ref p, .int n] ∧ SlAt Z cs step H p F ∧ Ask (cs.sum ≤ n ∧ n < 2 * cs.sum)
  (∀ q H', H q = none → Ex H H' → H' q = some (.tup [.int (signAt cs step (n - cs.sum).toNat), .int (lowN cs step (n - cs.sum).toNat)]) → Q (.ref q) H') (Due E Z.nopile)
theorem f_Slots_lowered {f : Addr} {fd : FuncData} (F : Fun K "lowered" "Slots.lowered" s_Slots_lowered f fd) (T : Txt K mg Z) (mx_Slots_ask_number : MetX P w K mg base 1 Z.slots "ask_number" (sp_Slots_ask_number K Z))  : FnOk P w K mg base (L2.CX P w) 2 f fd ["self", "number"] (sp_Slots_lowered K Z) := by
  refine F.okX sc_Slots_lowered (fun vs H Q E h => ?_) (fun cdv A outer s H vs Q E hr h => ?_)
  · obtain ⟨cs, step, p, F, n, rfl, r, k⟩ := h
    rfl
  · obtain ⟨cs, step, p, F, n, rfl, r, k⟩ := h
    have n_shares := T.n_Slots_shares
    have n_size := T.n_Slots_size
    have n_holders := T.n_Slots_holders
    have n_places := T.n_Slots_places
    have n_numbers := T.n_Slots_numbers
    have cls := T.is_Slots.cl
    refine ⟨_, (pss_cons (ps_expr (pe_mtX mx_Slots_ask_number hr (by decide) (takes_of rfl rfl rfl rfl) (pv 0) (pa_cons (pv 1) pa_nil)))
      (pss_cons (ps_set (i := 2) sc_Slots_lowered.nd rfl (Or.inl rfl) (pe_op op_sub (pv 1) (n_fld (K := K) rfl (pv 0) rfl)))
      (pss_one (ps_ret (pe_tup (pa_cons (pe_ix (n_ixL (K := K) rfl) (n_fld (K := K) rfl (pv 0) rfl) (pv 2) (fun _ _ => rfl)) (pa_cons (pe_ix (n_ixL (K := K) rfl) (n_fld (K := K) rfl (pv 0) rfl) (pv 2) (fun _ _ => rfl)) pa_nil))))))), ?_⟩
    obtain ⟨g, si, dx, lc, lh, lp, ln, as, h1, h2, h3, h4, h5, h6, h7, eF⟩ := id r
    have dl : (dealt cs step).length = cs.sum.toNat := dealtTo_len cs step _
    walk_at "st"
    refine ⟨cs, step, p, F, n, rfl, r, fun x => ?_, k.2⟩
    have k := k.1 x
    obtain ⟨n0, n1⟩ := x
    walk_at "st"
    refine w_ixD (SqL.of h3) (by omega) (by omega) ?_
    walk_at "st"
    refine w_ixI (SqL.of h5) (k := (n - cs.sum).toNat) (by omega) (nums_at (by omega)) ?_
    walk_at "st"
    exact w_newT (Nat.le_of_ble_eq_true rfl) k
theorem sc_Slots_laid : FnScope ["self", "number", "row", "sign", "bits"] ["self", "number", "row"] (defScope s_Slots_laid) := ⟨rfl, rfl, rfl, by decide +kernel, rfl, by decide +kernel, by decide +kernel⟩
def sp_Slots_laid (K : PySem.W.Frag) (Z : Zs) : Sp := fun vs H _ E => ∃ (cs : List Int) (step : Int) (p : Addr) (F : List Addr) (n : Int) (l : Addr) (row : List Int), vs = [.ref p, .int n, .ref l] ∧ SlAt Z cs step H p F ∧ SqL K H l (iL row) ∧ Ask (cs.sum ≤ n ∧ n < 2 * cs.sum) ((∃ s ∈ row, ¬ Sgn cs s) ∧ Due E Z.nosign) (Due E Z.nopile)
theorem f_Slots_laid {f : Addr} {fd : FuncData} (F : Fun K "laid" "Slots.laid" s_Slots_laid f fd) (T : Txt K mg Z) (mx_Slots_ask_number : MetX P w K mg base 1 Z.slots "ask_number" (sp_Slots_ask_number K Z)) (xf_ask_sign : CalX P w K mg base 1 "ask_sign" (sp_ask_sign K Z)) (mx_Slots_raised : MetX P w K mg base 2 Z.slots "raised" (sp_Slots_raised K Z))  : FnOk P w K mg base (L2.CX P w) 3 f fd ["self", "number", "row"] (sp_Slots_laid K Z) := by
  refine F.okX sc_Slots_laid (fun vs H Q E h => ?_) (fun cdv A outer s H vs Q E hr h => ?_)
  · obtain ⟨cs, step, p, F, n, l, row, rfl, r, hl, k⟩ := h
    rfl
  · obtain ⟨cs, step, p, F, n, l, row, rfl, r, hl, k⟩ := h
    have n_shares := T.n_Slots_shares
    have n_size := T.n_Slots_size
    have n_holders := T.n_Slots_holders
    have n_places := T.n_Slots_places
    have n_numbers := T.n_Slots_numbers
    have cls := T.is_Slots.cl
    refine ⟨_, (pss_cons (ps_expr (pe_mtX mx_Slots_ask_number hr (by decide) (takes_of rfl rfl rfl rfl) (pv 0) (pa_cons (pv 1) pa_nil)))
      (pss_cons (ps_for (passes_of rfl) rfl (n_pi (K := K) rfl (pv 2)) (pg_name (i := 3) sc_Slots_laid.nd rfl (Or.inl rfl)) (pss_one (ps_expr (pe_cX xf_ask_sign hr (by decide) (takes_of rfl rfl rfl rfl) rfl (pa_cons (n_fld (K := K) rfl (pv 0) rfl) (pa_cons (pv 3) pa_nil))))))
      (pss_cons (ps_set (i := 4) sc_Slots_laid.nd rfl (Or.inl rfl) (pe_lst pa_nil))
      (pss_cons (ps_for (passes_of rfl) rfl (n_pirev (K := K) rfl (by rfl) T.b_reversed (pa_cons (pv 2) pa_nil)) (pg_name (i := 3) sc_Slots_laid.nd rfl (Or.inl rfl)) (pss_cons (ps_while (passes_of rfl) (pt_cmpR op_ge (pv 1) (pe_op op_mul pe_int (pe_ix (n_ixL (K := K) rfl) (n_fld (K := K) rfl (pv 0) rfl) (pv 3) (fun _ _ => rfl))) (nomark _)) (pss_cons (ps_expr (pe_bm PySem.F.plainAttrs_list PySem.F.slot_list_append PySem.F.type_list_append mt_append (pv 4) (pa_cons (pe_op op_mod (pv 1) pe_int) pa_nil)))
      (pss_one (ps_set (i := 1) sc_Slots_laid.nd rfl (Or.inl rfl) (pe_op op_fdiv (pv 1) pe_int)))))
      (pss_one (ps_set (i := 1) sc_Slots_laid.nd rfl (Or.inl rfl) (pe_mtX mx_Slots_raised hr (by decide) (takes_of rfl rfl rfl rfl) (pv 0) (pa_cons (pv 3) (pa_cons (pv 1) pa_nil)))))))
      (pss_one (ps_ret (pe_tup (pa_cons (pv 1) (pa_cons (pv 4) pa_nil))))))))), ?_⟩
    obtain ⟨g, si, dx, lc, lh, lp, ln, as, h1, h2, h3, h4, h5, h6, h7, eF⟩ := id r
    walk_at "st"
    refine ⟨cs, step, p, F, n, rfl, r, fun x => ?_, k.2⟩
    obtain ⟨⟨s1, hs1, nb⟩, d⟩ := k.1 x
    walk_at "st"
    refine w_loopI row (fun i σ H' => H' = H ∧ (∀ s ∈ row.take i, Sgn cs s) ∧ ∃ v, σ = [some (.ref p), some (.int n), some (.ref l), v, none]) ⟨rfl, (fun s hs => by simp at hs), none, rfl⟩ (fun i σ H' ⟨e, _⟩ => by rw [e]; exact hl) ?_ ?_
    · rintro i s0 σ H' hs hi ⟨eH, hp, v, rfl⟩
      obtain rfl : H = H' := eH.symm
      walk_at "st"
      refine ⟨lc, cs, s0, rfl, SqL.of h2, fun x => ?_, fun _ => d⟩
      walk_at "st"
      exact ⟨rfl, take_all hs hp x, _, rfl⟩
    rintro σ H' ⟨eH, hp, v, rfl⟩
    rw [List.take_length] at hp
    exact absurd (hp s1 hs1) nb
theorem sc_Slots_taken : FnScope ["self", "number", "bits", "many", "left", "row", "turn", "found"] ["self", "number", "bits", "many"] (defScope s_Slots_taken) := ⟨rfl, rfl, rfl, by decide +kernel, rfl, by decide +kernel, by decide +kernel⟩
def sp_Slots_taken (K : PySem.W.Frag) (Z : Zs) : Sp := fun vs H _ E => ∃ (cs : List Int) (step : Int) (p : Addr) (F : List Addr) (n : Int) (b : Addr) (many : Int), vs = [.ref p, .int n, .ref b, .int many] ∧ SlAt Z cs step H p F ∧ SqL K H b [] ∧ Ask (cs.sum ≤ n ∧ n < 2 * cs.sum) (1 ≤ many ∧ many ≤ 200 ∧ (∀ k, k < cs.sum.toNat → lowN cs step k < cs.sum) ∧ Due E Z.nomore) (Due E Z.nopile)
theorem f_Slots_taken {f : Addr} {fd : FuncData} (F : Fun K "taken" "Slots.taken" s_Slots_taken f fd) (T : Txt K mg Z) (mx_Slots_ask_number : MetX P w K mg base 1 Z.slots "ask_number" (sp_Slots_ask_number K Z)) (mx_Slots_lowered : MetX P w K mg base 2 Z.slots "lowered" (sp_Slots_lowered K Z))  : FnOk P w K mg base (L2.CX P w) 3 f fd ["self", "number", "bits", "many"] (sp_Slots_taken K Z) := by
  refine F.okX sc_Slots_taken (fun vs H Q E h => ?_) (fun cdv A outer s H vs Q E hr h => ?_)
  · obtain ⟨cs, step, p, F, n, b, many, rfl, r, hb, k⟩ := h
    rfl
  · obtain ⟨cs, step, p, F, n, b, many, rfl, r, hb, k⟩ := h
    have n_shares := T.n_Slots_shares
    have n_size := T.n_Slots_size
    have n_holders := T.n_Slots_holders
    have n_places := T.n_Slots_places
    have n_numbers := T.n_Slots_numbers
    have cls := T.is_Slots.cl
    refine ⟨_, (pss_cons (ps_expr (pe_mtX mx_Slots_ask_number hr (by decide) (takes_of rfl rfl rfl rfl) (pv 0) (pa_cons (pv 1) pa_nil)))
      (pss_cons (ps_set (i := 4) sc_Slots_taken.nd rfl (Or.inl rfl) (pe_callTy (n_list (K := K) rfl) (by rfl) T.b_list (by decide +kernel) (pa_cons (pv 2) pa_nil)))
      (pss_cons (ps_set (i := 5) sc_Slots_taken.nd rfl (Or.inl rfl) (pe_lst pa_nil))
      (pss_cons (ps_for (passes_of rfl) rfl (pi_range1 rfl T.b_range (pa_cons (pv 3) pa_nil)) (pg_name (i := 6) sc_Slots_taken.nd rfl (Or.inl rfl)) (pss_cons (ps_set (i := 7) sc_Slots_taken.nd rfl (Or.inl rfl) (pe_mtX mx_Slots_lowered hr (by decide) (takes_of rfl rfl rfl rfl) (pv 0) (pa_cons (pv 1) pa_nil)))
      (pss_cons (ps_expr (pe_bm PySem.F.plainAttrs_list PySem.F.slot_list_append PySem.F.type_list_append mt_append (pv 5) (pa_cons (pe_ix (n_ixT (K := K) rfl) (pv 7) pe_int (fun _ _ => rfl)) pa_nil)))
      (pss_cons (ps_set (i := 1) sc_Slots_taken.nd rfl (Or.inl rfl) (pe_ix (n_ixT (K := K) rfl) (pv 7) pe_int (fun _ _ => rfl)))
      (pss_one (ps_while (passes_of rfl) (pt_cmpR op_lt (pv 1) (n_fld (K := K) rfl (pv 0) rfl) (nomark _)) (pss_cons (ps_if (pt_cmpR op_eq (pe_callB (n_len (K := K) rfl) (by rfl) T.b_len (by decide +kernel) (pa_cons (pv 4) pa_nil)) pe_int (nomark _)) (pss_one (ps_raiseO rfl (takes_of rfl rfl rfl rfl) T.x_NoMore (by rfl) (by decide))) pss_nil)
      (pss_one (ps_set (i := 1) sc_Slots_taken.nd rfl (Or.inl rfl) (pe_op op_add (pe_op op_mul pe_int (pv 1)) (pe_bm0 PySem.F.plainAttrs_list PySem.F.slot_list_pop PySem.F.type_list_pop mt_pop (pv 4))))))))))))
      (pss_one (ps_ret (pe_tup (pa_cons (pv 5) (pa_cons (pv 1) (pa_cons (pv 4) pa_nil)))))))))), ?_⟩
    obtain ⟨g, si, dx, lc, lh, lp, ln, as, h1, h2, h3, h4, h5, h6, h7, eF⟩ := id r
    have sl := g.sumle
    have own := r.own
    walk_at "st"
    refine ⟨cs, step, p, F, n, rfl, r, fun x => ?_, k.2⟩
    obtain ⟨m0, m1, lw, d⟩ := k.1 x
    obtain ⟨n0, n1⟩ := x
    walk_at "st"
    refine w_list hb fun lf H1 nlf e1 hlf => ?_
    walk_at "st"
    refine w_newL (Nat.zero_le _) fun rw' H2 nrw e2 hrw => ?_
    have e12 := e1.trans e2
    have hlf2 := e2 _ _ hlf
    have lr : lf ≠ rw' := fun z => by rw [← z, hlf] at nrw; cases nrw
    have r2 := r.up e12
    have h12 := e12 _ _ h1
    have prw : p ≠ rw' := fun z => by rw [← z, e1 _ _ h1] at nrw; cases nrw
    walk_at "st"
    refine w_loopR (fun i σ H' => i = 0 ∧ H' = H2 ∧ σ = [some (.ref p), some (.int n), some (.ref b), some (.int many), some (.ref lf), some (.ref rw'), none, none]) ⟨rfl, rfl, rfl⟩ ?_ ?_
    · rintro i σ H3 hi ⟨rfl, eH, rfl⟩
      obtain rfl : H2 = H3 := eH.symm
      walk_at "st"
      refine ⟨cs, step, p, F, n, rfl, r2, ask_y ⟨n0, n1⟩ fun q H4 nq e4 hq => ?_⟩
      walk_at "st"
      have hrw4 := e4 _ _ hrw
      refine w_appendK hrw4 (by simp) fun H5 k5 rw5 f5 => ?_
      have qrw : q ≠ rw' := fun z => by rw [z, hrw] at nq; cases nq
      have hq5 := k5.at hq (by simp [qrw])
      have lf5 := k5.at (e4 _ _ hlf2) (by simp [lr])
      have p5 := k5.at (e4 _ _ h12) (by simp [prw])
      have low := lw (n - cs.sum).toNat (by omega)
      walk_at "st"
      refine w_while (fun m σ H' => H' = H5 ∧ σ = [some (.ref p), some (.int (lowN cs step (n - cs.sum).toNat)), some (.ref b), some (.int many), some (.ref lf), some (.ref rw'), some (.int ((0 : Nat) : Int)), some (.ref q)]) 0 ⟨rfl, rfl⟩ ?_
      rintro m σ H6 ⟨eH, rfl⟩
      obtain rfl : H5 = H6 := eH.symm
      walk_at "st"
      refine w_turn ?_
      walk_at "st"
      exact d _
    · rintro σ H3 ⟨e0, _⟩
      omega
theorem sc_Stream_init : FnScope ["self", "counts", "base", "grain"] ["self", "counts", "base", "grain"] (defScope s_Stream_init) := ⟨rfl, rfl, rfl, by decide +kernel, rfl, by decide +kernel, by decide +kernel⟩
def sp_Stream_init (K : PySem.W.Frag) (Z : Zs) : Sp := fun vs H Q E => ∃ (x dx a : Addr) (cs : List Int) (base grain : Int), vs = [.ref x, .ref a, .int base, .int grain] ∧ H x = some (.ins Z.stream dx []) ∧ SqL K H a (iL cs) ∧
  Ask (Good cs) (Ask (2 ≤ base ∧ base ≤ 1000 ∧ 1 ≤ grain ∧ grain ≤ 100) (∀ H' F, StrAt Z cs base grain H' x (grain * cs.sum, []) F → Keep [x] H H' → Grow [x] F H → Q .non H') (Due E Z.noshares)) (Due E Z.noshares)
theorem f_Stream_init {f : Addr} {fd : FuncData} (F : FunD K "__init__" "Stream.__init__" (defArgs s_Stream_init) (defBody s_Stream_init) (defScope s_Stream_init) [V.int 4] [] f fd) (T : Txt K mg Z) (xf_ask_counts : CalX P w K mg base 1 "ask_counts" (sp_ask_counts K Z))  : FnOk P w K mg base (L2.CX P w) 2 f fd ["self", "counts", "base", "grain"] (sp_Stream_init K Z) := by
  refine F.ok sc_Stream_init (fun vs H Q E h => ?_) (fun cdv A outer s H vs Q E hr h => ?_)
  · obtain ⟨x, dx, a, cs, bas, grain, rfl, hx, ha, k⟩ := h
    rfl
  · obtain ⟨x, dx, a, cs, bas, grain, rfl, hx, ha, k⟩ := h
    have n_shares := T.n_Stream_shares
    have n_base := T.n_Stream_base
    have n_grain := T.n_Stream_grain
    have n_low := T.n_Stream_low
    have n_number := T.n_Stream_number
    have n_words := T.n_Stream_words
    have cls := T.is_Stream.cl
    refine ⟨_, (pss_cons (ps_expr (pe_cX xf_ask_counts hr (by decide) (takes_of rfl rfl rfl rfl) rfl (pa_cons (pv 1) pa_nil)))
      (pss_cons (ps_if (PW.pt (pw_or (pt_cmpR op_lt (pv 2) pe_int (nomark _)) (pw_or (pt_cmpR op_gt (pv 2) pe_int (nomark _)) (pw_or (pt_cmpR op_lt (pv 3) pe_int (nomark _)) (pw_or1 (pt_cmpR op_gt (pv 3) pe_int (nomark _))))))) (pss_one (ps_raiseO rfl (takes_of rfl rfl rfl rfl) T.x_NoShares (by rfl) (by decide))) pss_nil)
      (pss_cons (n_setF (K := K) rfl (pv 0) (pe_callTy (n_list (K := K) rfl) (by rfl) T.b_list (by decide +kernel) (pa_cons (pv 1) pa_nil)) rfl)
      (pss_cons (n_setF (K := K) rfl (pv 0) (pv 2) rfl)
      (pss_cons (n_setF (K := K) rfl (pv 0) (pv 3) rfl)
      (pss_cons (n_setF (K := K) rfl (pv 0) (pe_op op_mul (pv 3) (pe_callB (n_sum (K := K) rfl rfl) (by rfl) T.b_sum (by decide +kernel) (pa_cons (pv 1) pa_nil))) rfl)
      (pss_cons (n_setF (K := K) rfl (pv 0) (n_fld (K := K) rfl (pv 0) rfl) rfl)
      (pss_one (n_setF (K := K) rfl (pv 0) (pe_lst pa_nil) rfl))))))))), ?_⟩
    walk_at "st"
    refine ⟨a, cs, rfl, ha, fun g => ?_, k.2⟩
    have k := k.1 g
    have sp := g.sum
    have sl := g.sumle
    have c0 : CMul grain cs.sum := cmulR (by omega) (by omega)
    walk_at "st"
    walk_at "both" <;> intro q1
    · walk_at "st"
      exact k.2 (by omega) _
    walk_at "st"
    walk_at "both" <;> intro q2
    · walk_at "st"
      exact k.2 (by omega) _
    walk_at "st"
    walk_at "both" <;> intro q3
    · walk_at "st"
      exact k.2 (by omega) _
    walk_at "st"
    walk_at "both" <;> intro q4
    · walk_at "st"
      exact k.2 (by omega) _
    have b0 : 2 ≤ bas := by omega
    have b1 : bas ≤ 1000 := by omega
    have g0 : 1 ≤ grain := by omega
    have g1 : grain ≤ 100 := by omega
    have k := k.1 ⟨b0, b1, g0, g1⟩
    walk_at "st"
    refine w_list ha fun lc H1 nlc e1 hlc => ?_
    walk_at "st"
    refine w_kSetF (e1 _ _ hx) newStream_shares cls n_shares (Nat.le_of_ble_eq_true rfl) fun H2 k2 h2 f2 => ?_
    walk_at "st"
    refine w_kSetF h2 newStream_base cls n_base (Nat.le_of_ble_eq_true rfl) fun H3 k3 h3 f3 => ?_
    walk_at "st"
    refine w_kSetF h3 newStream_grain cls n_grain (Nat.le_of_ble_eq_true rfl) fun H4 k4 h4 f4 => ?_
    have k14 := (k2.trans k3).trans k4
    have ha4 := k14.seq (e1 _ _ hx) (up_l e1 ha)
    walk_at "st"
    refine w_kSetF h4 newStream_low cls n_low (Nat.le_of_ble_eq_true rfl) fun H5 k5 h5 f5 => ?_
    walk_at "st"
    refine w_kFld h5 (v := .int (grain * cs.sum)) (by first | rfl | simp [List.lookup] | decide) cls n_low ?_
    walk_at "st"
    refine w_kSetF h5 newStream_number cls n_number (Nat.le_of_ble_eq_true rfl) fun H6 k6 h6 f6 => ?_
    walk_at "st"
    refine w_newL (Nat.zero_le _) fun lw H7 nlw e7 hlw => ?_
    walk_at "st"
    refine w_kSetF (e7 _ _ h6) newStream_words cls n_words (Nat.le_of_ble_eq_true rfl) fun H8 k8 h8 f8 => ?_
    have lcx : lc ≠ x := ne_of hlc (e1 _ _ hx) (by intro z; cases z)
    have lwx : lw ≠ x := ne_of hlw (e7 _ _ h6) (by intro z; cases z)
    have k16 := (k14.trans k5).trans k6
    have hlc6 := k16.at hlc (by simp [lcx])
    have cw : lc ≠ lw := fun z => by rw [z, nlw] at hlc6; cases hlc6
    have gs : 1 ≤ grain * cs.sum := by
      have := Int.mul_le_mul g0 (show (1 : Int) ≤ cs.sum from g.sum) (by decide) (by omega)
      omega
    have gt : grain * cs.sum * 2 ≤ grain * cs.sum * bas := Int.mul_le_mul_of_nonneg_left b0 (by omega)
    refine k H8 [x, lc, lw] ⟨⟨g, b0, b1, g0, g1, Int.le_refl _, by omega, fun x hx => by cases hx⟩, dx, lc, lw, h8, k8 _ _ (by simp [lcx]) (e7 _ _ hlc6), k8 _ _ (by simp [lwx]) hlw, cw, rfl⟩ ((((Keep.of e1).trans k16).trans (Keep.of e7)).trans k8) fun c hc => ?_
    have back : ∀ b, H6 b = none → H1 b = none := fun b h => f2 _ (f3 _ (f4 _ (f5 _ (f6 _ h))))
    rcases List.mem_cons.mp hc with rfl | hc
    · exact .inl (by simp)
    rcases List.mem_cons.mp hc with rfl | hc
    · exact .inr nlc
    · rw [List.mem_singleton.mp hc]
      exact .inr (Evl.fresh_back e1 (back _ nlw))
theorem sc_Stream_lay_sign : FnScope ["self", "sign"] ["self", "sign"] (defScope s_Stream_lay_sign) := ⟨rfl, rfl, rfl, by decide +kernel, rfl, by decide +kernel, by decide +kernel⟩
def sp_Stream_lay_sign (K : PySem.W.Frag) (Z : Zs) : Sp := fun vs H _ E => ∃ (cs : List Int) (base grain : Int) (st : Int × List Int) (p : Addr) (F : List Addr) (s : Int), vs = [.ref p, .int s] ∧ StrAt Z cs base grain H p st F ∧ ¬ Sgn cs s ∧ Due E Z.nosign
theorem f_Stream_lay_sign {f : Addr} {fd : FuncData} (F : Fun K "lay_sign" "Stream.lay_sign" s_Stream_lay_sign f fd) (T : Txt K mg Z) (xf_ask_sign : CalX P w K mg base 1 "ask_sign" (sp_ask_sign K Z)) (c_put_on : Cal P w K mg base 1 "put_on" (sp_put_on K Z) [])  : FnOk P w K mg base (L2.CX P w) 2 f fd ["self", "sign"] (sp_Stream_lay_sign K Z) := by
  refine F.okX sc_Stream_lay_sign (fun vs H Q E h => ?_) (fun cdv A outer s H vs Q E hr h => ?_)
  · obtain ⟨cs, bas, grain, st, p, F, s0, rfl, ⟨o, dx, lc, lw, h1, h2, h3, h4, eF⟩, nb, k⟩ := h
    rfl
  · obtain ⟨cs, bas, grain, st, p, F, s0, rfl, ⟨o, dx, lc, lw, h1, h2, h3, h4, eF⟩, nb, k⟩ := h
    have n_shares := T.n_Stream_shares
    have n_base := T.n_Stream_base
    have n_grain := T.n_Stream_grain
    have n_low := T.n_Stream_low
    have n_number := T.n_Stream_number
    have n_words := T.n_Stream_words
    have cls := T.is_Stream.cl
    refine ⟨_, (pss_cons (ps_expr (pe_cX xf_ask_sign hr (by decide) (takes_of rfl rfl rfl rfl) rfl (pa_cons (n_fld (K := K) rfl (pv 0) rfl) (pa_cons (pv 1) pa_nil))))
      (pss_cons (ps_while (passes_of rfl) (pt_cmpR op_ge (n_fld (K := K) rfl (pv 0) rfl) (pe_op op_mul (pe_op op_mul (n_fld (K := K) rfl (pv 0) rfl) (n_fld (K := K) rfl (pv 0) rfl)) (pe_ix (n_ixL (K := K) rfl) (n_fld (K := K) rfl (pv 0) rfl) (pv 1) (fun _ _ => rfl))) (nomark _)) (pss_cons (ps_expr (pe_bm PySem.F.plainAttrs_list PySem.F.slot_list_append PySem.F.type_list_append mt_append (n_fld (K := K) rfl (pv 0) rfl) (pa_cons (pe_op op_mod (n_fld (K := K) rfl (pv 0) rfl) (n_fld (K := K) rfl (pv 0) rfl)) pa_nil)))
      (pss_one (n_setF (K := K) rfl (pv 0) (pe_op op_fdiv (n_fld (K := K) rfl (pv 0) rfl) (n_fld (K := K) rfl (pv 0) rfl)) rfl))))
      (pss_one (n_setF (K := K) rfl (pv 0) (pe_c c_put_on hr (by decide) rfl (pa_cons (n_fld (K := K) rfl (pv 0) rfl) (pa_cons (n_fld (K := K) rfl (pv 0) rfl) (pa_cons (pv 1) pa_nil)))) rfl)))), ?_⟩
    walk_at "st"
    exact ⟨lc, cs, s0, rfl, SqL.of h2, ask_n nb k⟩
theorem sc_Stream_take_sign : FnScope ["self", "found", "number", "words"] ["self"] (defScope s_Stream_take_sign) := ⟨rfl, rfl, rfl, by decide +kernel, rfl, by decide +kernel, by decide +kernel⟩
def sp_Stream_take_sign (K : PySem.W.Frag) (Z : Zs) : Sp := fun vs H Q E => ∃ (cs : List Int) (base grain : Int) (st : Int × List Int) (p : Addr) (F : List Addr), vs = [.ref p] ∧ StrAt Z cs base grain H p st F ∧ st.2.length ≤ 50000 ∧
  (∀ r, flowed cs base grain st = some r → ∀ H' F', StrAt Z cs base grain H' p r F' → Keep F H H' → Grow F F' H → Q (.int (offS st.1 cs)) H') ∧ (flowed cs base grain st = none → ∀ H', Ex H H' → E (.ref Z.nomore) none H')
theorem f_Stream_take_sign {f : Addr} {fd : FuncData} (F : Fun K "take_sign" "Stream.take_sign" s_Stream_take_sign f fd) (T : Txt K mg Z) (c_taken_off : Cal P w K mg base 2 "taken_off" (sp_taken_off K Z) [])  : FnOk P w K mg base (L2.CX P w) 3 f fd ["self"] (sp_Stream_take_sign K Z) := by
  refine F.okX sc_Stream_take_sign (fun vs H Q E h => ?_) (fun cdv A outer s H vs Q E hr h => ?_)
  · obtain ⟨cs, bas, grain, st, p, F, rfl, ⟨o, dx, lc, lw, h1, h2, h3, h4, eF⟩, wl, kY, kN⟩ := h
    rfl
  · obtain ⟨cs, bas, grain, st, p, F, rfl, ⟨o, dx, lc, lw, h1, h2, h3, h4, eF⟩, wl, kY, kN⟩ := h
    have n_shares := T.n_Stream_shares
    have n_base := T.n_Stream_base
    have n_grain := T.n_Stream_grain
    have n_low := T.n_Stream_low
    have n_number := T.n_Stream_number
    have n_words := T.n_Stream_words
    have cls := T.is_Stream.cl
    refine ⟨_, (pss_cons (ps_set (i := 1) sc_Stream_take_sign.nd rfl (Or.inl rfl) (pe_c c_taken_off hr (by decide) rfl (pa_cons (n_fld (K := K) rfl (pv 0) rfl) (pa_cons (n_fld (K := K) rfl (pv 0) rfl) pa_nil))))
      (pss_cons (ps_set (i := 2) sc_Stream_take_sign.nd rfl (Or.inl rfl) (pe_ix (n_ixT (K := K) rfl) (pv 1) pe_int (fun _ _ => rfl)))
      (pss_cons (ps_set (i := 3) sc_Stream_take_sign.nd rfl (Or.inl rfl) (pe_callTy (n_list (K := K) rfl) (by rfl) T.b_list (by decide +kernel) (pa_cons (n_fld (K := K) rfl (pv 0) rfl) pa_nil)))
      (pss_cons (ps_while (passes_of rfl) (pt_cmpR op_lt (pv 2) (n_fld (K := K) rfl (pv 0) rfl) (nomark _)) (pss_cons (ps_if (pt_cmpR op_eq (pe_callB (n_len (K := K) rfl) (by rfl) T.b_len (by decide +kernel) (pa_cons (pv 3) pa_nil)) pe_int (nomark _)) (pss_one (ps_raiseO rfl (takes_of rfl rfl rfl rfl) T.x_NoMore (by rfl) (by decide))) pss_nil)
      (pss_one (ps_set (i := 2) sc_Stream_take_sign.nd rfl (Or.inl rfl) (pe_op op_add (pe_op op_mul (pv 2) (n_fld (K := K) rfl (pv 0) rfl)) (pe_bm0 PySem.F.plainAttrs_list PySem.F.slot_list_pop PySem.F.type_list_pop mt_pop (pv 3)))))))
      (pss_cons (n_setF (K := K) rfl (pv 0) (pv 2) rfl)
      (pss_cons (n_setF (K := K) rfl (pv 0) (pv 3) rfl)
      (pss_one (ps_ret (pe_ix (n_ixT (K := K) rfl) (pv 1) pe_int (fun _ _ => rfl)))))))))), ?_⟩
    have otk := fun r (e : flowed cs bas grain st = some r) => o.take e
    have b0 := o.b0
    have b1 := o.b1
    obtain ⟨z0, z1⟩ := off_low o
    walk_at "st"
    refine ⟨_, lc, cs, rfl, SqL.of h2, o.g, fun q H1 nq e1 hq => ?_⟩
    walk_at "st"
    refine w_list (SqL.of (e1 _ _ h3)) fun l H2 nl e2 hl => ?_
    walk_at "st"
    refine w_while (fun m σ H' => ∃ (n : Int) (v : List Int), σ = [some (.ref p), some (.ref q), some (.int n), some (.ref l)] ∧ m = v.length ∧ 0 ≤ n ∧ flowIn (grain * cs.sum) bas n v = flowed cs bas grain st ∧ Ex H1 H' ∧ H' l = some (.lst (iL v)) ∧ (∀ y ∈ v, 0 ≤ y ∧ y < bas)) st.2.length ⟨_, _, rfl, rfl, z0, rfl, e2, hl, o.ws⟩ ?_
    rintro m σ H3 ⟨n, v, rfl, rfl, n0, ef, e3, hl3, hvw⟩
    have e13 := e1.trans e3
    have h13 := e13 _ _ h1
    have h23 := e13 _ _ h2
    walk_at "st"
    walk_at "both" <;> intro hc
    · refine w_turn ?_
      walk_at "st"
      rcases List.eq_nil_or_concat v with ev | ⟨v', x, ev⟩
      · subst ev
        walk_at "st"
        refine kN (by rw [← ef]; exact flowIn_none hc) _ e13
      · rw [List.concat_eq_append] at ev
        subst ev
        have hx := hvw x (by simp)
        walk_at "both" <;> intro hd
        · simp at hd
          omega
        walk_at "st"
        have hl3' : H3 l = some (.lst (v'.map V.int ++ [.int x])) := by
          rw [hl3]
          show some (HO.lst ((v' ++ [x]).map V.int)) = _
          rw [List.map_append]
          rfl
        refine w_popK hl3' fun H4 k4 hl4 f4 => ?_
        have nl1 : H1 l = none := nl
        walk_at "st"
        have nb : 0 ≤ n * bas := Int.mul_nonneg n0 (by omega)
        refine ⟨v'.length, by simp, n * bas + x, v', rfl, rfl, by omega, ?_, ex_keep e3 k4 (new1 nl1), hl4, fun y hy => hvw y (by simp [hy])⟩
        rw [← ef, flowIn_go hc]
    · have er : flowed cs bas grain st = some (n, v) := by
        rw [← ef]
        exact flowIn_end (by omega)
      have lp : l ≠ p := ne_of hl3 h13 (by intro z; cases z)
      walk_at "st"
      refine w_kSetF h13 putStream_number cls n_number (Nat.le_of_ble_eq_true rfl) fun H4 k4 r4 f4 => ?_
      walk_at "st"
      refine w_kSetF r4 putStream_words cls n_words (Nat.le_of_ble_eq_true rfl) fun H5 k5 r5 f5 => ?_
      have hq5 : H5 q = some _ := k5.at (k4.at (e3 _ _ hq) (by simp [ne_of hq (e1 _ _ h1) (by intro z; cases z)])) (by simp [ne_of hq (e1 _ _ h1) (by intro z; cases z)])
      walk_at "st"
      have cp : lc ≠ p := ne_of h2 h1 (by intro z; cases z)
      have cl : lc ≠ l := fun z => by rw [← z, e1 _ _ h2] at nl; cases nl
      refine kY (n, v) er H5 [p, lc, l] ⟨(otk _ er).1, dx, lc, l, r5, k5.at (k4.at h23 (by simp [cp])) (by simp [cp]), k5.at (k4.at hl3 (by simp [lp])) (by simp [lp]), cl, rfl⟩ ((Keep.of e13).trans ((k4.mono (by rw [eF]; simp)).trans (k5.mono (by rw [eF]; simp)))) fun b hb => ?_
      rcases List.mem_cons.mp hb with rfl | hb
      · exact .inl (by rw [eF]; simp)
      rcases List.mem_cons.mp hb with rfl | hb
      · exact .inl (by rw [eF]; simp)
      · rw [List.mem_singleton.mp hb]
        exact .inr (Evl.fresh_back e1 nl)
-- no part for Stream_told
theorem sc__law_cell_at : FnScope ["script", "k"] ["script", "k"] (defScope s__law_cell_at) := ⟨rfl, rfl, rfl, by decide +kernel, rfl, by decide +kernel, by decide +kernel⟩

theorem c__law_cell_at {f : Addr} {fd : FuncData} (F : Fun K "_law_cell_at" "_law_cell_at" s__law_cell_at f fd) (hm : mg "_law_cell_at" = some (.ref f)) (T : Txt K mg Z)   : Cal P w K mg base 1 "_law_cell_at" (sp__law_cell_at K Z) [] := by
  refine cal_of F hm (F.binds (ps := ["script", "k"]) (fun _ _ _ _ _ _ us hl => match us, hl with | [_, _], _ => rfl)) sc__law_cell_at (fun vs H Q E h => ?_) (fun cdv A outer s H vs Q E hr h => ?_)
  · obtain ⟨a, ns, j, rfl, hS, h0, k⟩ := h
    rfl
  · obtain ⟨a, ns, j, rfl, hS, h0, k⟩ := h
    refine ⟨_, (pss_cons (ps_if (pt_cmpR op_lt (pv 1) (pe_callB (n_len (K := K) rfl) (by rfl) T.b_len (by decide +kernel) (pa_cons (pv 0) pa_nil)) (nomark _)) (pss_one (ps_ret (pe_ix (n_ixL (K := K) rfl) (pv 0) (pv 1) (fun _ _ => rfl)))) pss_nil)
      (pss_one (ps_ret pe_int))), ?_⟩
    walk_at "st"
    walk_at "both" <;> intro hc
    · walk_at "st"
      refine w_ixD hS h0 hc ?_
      exact k
    · walk_at "st"
      have e : cell ns j = 0 := by
        unfold cell
        rw [List.getD_eq_getElem?_getD, List.getElem?_eq_none (by omega)]
        rfl
      rw [e] at k
      exact k
theorem sc__law_which : FnScope ["e", "first"] ["e"] (defScope s__law_which) := ⟨rfl, rfl, rfl, by decide +kernel, rfl, by decide +kernel, by decide +kernel⟩
def sp__law_which (_ : PySem.W.Frag) (_ : Zs) : Addr → Nat → Sp := fun a i vs H Q _ => vs = [.ref a] ∧ i < 7 ∧ ∀ p H', Ex H H' → H' p = some (.lst (bL (told7 i))) → Q (.ref p) H'
theorem f__law_which {f : Addr} {fd : FuncData} (F : Fun K "_law_which" "_law_which" s__law_which f fd) (T : Txt K mg Z)   : FnE P w K mg base 1 f fd ["e"] (cl7 Z) (sp__law_which K Z) := by
  refine F.okE sc__law_which (fun a i vs H Q E h => ?_) (fun cdv A outer s H vs Q E a oe i hr hz hf h => ?_)
  · obtain ⟨rfl, hi, k⟩ := h
    rfl
  · obtain ⟨rfl, hi, k⟩ := h
    have ex7 : ExcC K (cl7 Z i) := seven (B := fun i => ExcC K (cl7 Z i)) T.ex_NoShares T.ex_NoPile T.ex_NoSign T.ex_NoSlot T.ex_NoMore T.ex_NoText T.ex_NotLeaf i hi
    refine ⟨_, (pss_cons (ps_set (i := 1) sc__law_which.nd rfl (Or.inl rfl) (pe_lst (pa_cons (pe_callB (n_isP (K := K) rfl ex7 (List.mem_cons_self ..) hz hf) (by rfl) T.b_isinstance (by decide +kernel) (pa_cons (pv 0) (pa_cons (pe_glob (v := .ref Z.noshares) rfl T.ec_NoShares rfl) pa_nil))) (pa_cons (pe_callB (n_isP (K := K) rfl ex7 (List.mem_cons_self ..) hz hf) (by rfl) T.b_isinstance (by decide +kernel) (pa_cons (pv 0) (pa_cons (pe_glob (v := .ref Z.nopile) rfl T.ec_NoPile rfl) pa_nil))) (pa_cons (pe_callB (n_isP (K := K) rfl ex7 (List.mem_cons_self ..) hz hf) (by rfl) T.b_isinstance (by decide +kernel) (pa_cons (pv 0) (pa_cons (pe_glob (v := .ref Z.nosign) rfl T.ec_NoSign rfl) pa_nil))) (pa_cons (pe_callB (n_isP (K := K) rfl ex7 (List.mem_cons_self ..) hz hf) (by rfl) T.b_isinstance (by decide +kernel) (pa_cons (pv 0) (pa_cons (pe_glob (v := .ref Z.noslot) rfl T.ec_NoSlot rfl) pa_nil))) pa_nil))))))
      (pss_one (ps_ret (pe_op op_cat (pv 1) (pe_lst (pa_cons (pe_callB (n_isP (K := K) rfl ex7 (List.mem_cons_self ..) hz hf) (by rfl) T.b_isinstance (by decide +kernel) (pa_cons (pv 0) (pa_cons (pe_glob (v := .ref Z.nomore) rfl T.ec_NoMore rfl) pa_nil))) (pa_cons (pe_callB (n_isP (K := K) rfl ex7 (List.mem_cons_self ..) hz hf) (by rfl) T.b_isinstance (by decide +kernel) (pa_cons (pv 0) (pa_cons (pe_glob (v := .ref Z.notext) rfl T.ec_NoText rfl) pa_nil))) (pa_cons (pe_callB (n_isP (K := K) rfl ex7 (List.mem_cons_self ..) hz hf) (by rfl) T.b_isinstance (by decide +kernel) (pa_cons (pv 0) (pa_cons (pe_glob (v := .ref Z.notleaf) rfl T.ec_NotLeaf rfl) pa_nil))) (pa_cons (pe_callB (n_isP (K := K) rfl ex7 (List.mem_cons_self ..) hz hf) (by rfl) T.b_isinstance (by decide +kernel) (pa_cons (pv 0) (pa_cons (pe_bltn (v := .ty "ValueError") (u := .type "ValueError") (by rfl) T.b_ValueError (by decide +kernel) rfl) pa_nil))) pa_nil))))))))), ?_⟩
    have ev7 : PySem.W.kitOne K (.ref (cl7 Z i)) (.type "ValueError") = some true := seven (B := fun i => PySem.W.kitOne K (.ref (cl7 Z i)) (.type "ValueError") = some true) T.ev_NoShares T.ev_NoPile T.ev_NoSign T.ev_NoSlot T.ev_NoMore T.ev_NoText T.ev_NotLeaf i hi
    have q0 : PySem.W.kitOne K (.ref (cl7 Z i)) (.ref Z.noshares) = some (decide (i = 0)) := seven (B := fun i => PySem.W.kitOne K (.ref (cl7 Z i)) (.ref Z.noshares) = some (decide (i = 0))) T.ek_NoShares_NoShares T.ek_NoPile_NoShares T.ek_NoSign_NoShares T.ek_NoSlot_NoShares T.ek_NoMore_NoShares T.ek_NoText_NoShares T.ek_NotLeaf_NoShares i hi
    have q1 : PySem.W.kitOne K (.ref (cl7 Z i)) (.ref Z.nopile) = some (decide (i = 1)) := seven (B := fun i => PySem.W.kitOne K (.ref (cl7 Z i)) (.ref Z.nopile) = some (decide (i = 1))) T.ek_NoShares_NoPile T.ek_NoPile_NoPile T.ek_NoSign_NoPile T.ek_NoSlot_NoPile T.ek_NoMore_NoPile T.ek_NoText_NoPile T.ek_NotLeaf_NoPile i hi
    have q2 : PySem.W.kitOne K (.ref (cl7 Z i)) (.ref Z.nosign) = some (decide (i = 2)) := seven (B := fun i => PySem.W.kitOne K (.ref (cl7 Z i)) (.ref Z.nosign) = some (decide (i = 2))) T.ek_NoShares_NoSign T.ek_NoPile_NoSign T.ek_NoSign_NoSign T.ek_NoSlot_NoSign T.ek_NoMore_NoSign T.ek_NoText_NoSign T.ek_NotLeaf_NoSign i hi
    have q3 : PySem.W.kitOne K (.ref (cl7 Z i)) (.ref Z.noslot) = some (decide (i = 3)) := seven (B := fun i => PySem.W.kitOne K (.ref (cl7 Z i)) (.ref Z.noslot) = some (decide (i = 3))) T.ek_NoShares_NoSlot T.ek_NoPile_NoSlot T.ek_NoSign_NoSlot T.ek_NoSlot_NoSlot T.ek_NoMore_NoSlot T.ek_NoText_NoSlot T.ek_NotLeaf_NoSlot i hi
    have q4 : PySem.W.kitOne K (.ref (cl7 Z i)) (.ref Z.nomore) = some (decide (i = 4)) := seven (B := fun i => PySem.W.kitOne K (.ref (cl7 Z i)) (.ref Z.nomore) = some (decide (i = 4))) T.ek_NoShares_NoMore T.ek_NoPile_NoMore T.ek_NoSign_NoMore T.ek_NoSlot_NoMore T.ek_NoMore_NoMore T.ek_NoText_NoMore T.ek_NotLeaf_NoMore i hi
    have q5 : PySem.W.kitOne K (.ref (cl7 Z i)) (.ref Z.notext) = some (decide (i = 5)) := seven (B := fun i => PySem.W.kitOne K (.ref (cl7 Z i)) (.ref Z.notext) = some (decide (i = 5))) T.ek_NoShares_NoText T.ek_NoPile_NoText T.ek_NoSign_NoText T.ek_NoSlot_NoText T.ek_NoMore_NoText T.ek_NoText_NoText T.ek_NotLeaf_NoText i hi
    have q6 : PySem.W.kitOne K (.ref (cl7 Z i)) (.ref Z.notleaf) = some (decide (i = 6)) := seven (B := fun i => PySem.W.kitOne K (.ref (cl7 Z i)) (.ref Z.notleaf) = some (decide (i = 6))) T.ek_NoShares_NotLeaf T.ek_NoPile_NotLeaf T.ek_NoSign_NotLeaf T.ek_NoSlot_NotLeaf T.ek_NoMore_NotLeaf T.ek_NoText_NotLeaf T.ek_NotLeaf_NotLeaf i hi
    walk_at "st"
    refine w_isE q0 ?_
    walk_at "st"
    refine w_isE q1 ?_
    walk_at "st"
    refine w_isE q2 ?_
    walk_at "st"
    refine w_isE q3 ?_
    walk_at "st"
    refine w_newL (Nat.le_of_ble_eq_true rfl) fun p1 H1 n1 e1 h1 => ?_
    walk_at "st"
    refine w_isE q4 ?_
    walk_at "st"
    refine w_isE q5 ?_
    walk_at "st"
    refine w_isE q6 ?_
    walk_at "st"
    refine w_isEV ev7 ?_
    walk_at "st"
    refine w_newL (Nat.le_of_ble_eq_true rfl) fun p2 H2 n2 e2 h2 => ?_
    refine w_catL (e2 _ _ h1) h2 (Nat.le_of_ble_eq_true rfl) fun p3 H3 n3 e3 h3 => ?_
    exact k p3 H3 ((e1.trans e2).trans e3) h3
theorem sc__law_bad : FnScope ["cell", "far", "some"] ["cell", "far"] (defScope s__law_bad) := ⟨rfl, rfl, rfl, by decide +kernel, rfl, by decide +kernel, by decide +kernel⟩
def sp__law_bad (K : PySem.W.Frag) (Z : Zs) : Sp := fun vs H Q _ => ∃ (cell far : Int), vs = [.int cell, .int far] ∧ 0 ≤ far ∧ ∀ (p : Addr) (ns : List Int) H', Ex H H' → H' p = some (.lst (iL ns)) → ¬ Good ns → Q (.ref p) H'
theorem c__law_bad {f : Addr} {fd : FuncData} (F : Fun K "_law_bad" "_law_bad" s__law_bad f fd) (hm : mg "_law_bad" = some (.ref f)) (T : Txt K mg Z)   : Cal P w K mg base 1 "_law_bad" (sp__law_bad K Z) [] := by
  refine cal_of F hm (F.binds (ps := ["cell", "far"]) (fun _ _ _ _ _ _ us hl => match us, hl with | [_, _], _ => rfl)) sc__law_bad (fun vs H Q E h => ?_) (fun cdv A outer s H vs Q E hr h => ?_)
  · obtain ⟨cel, far, rfl, f0, k⟩ := h
    rfl
  · obtain ⟨cel, far, rfl, f0, k⟩ := h
    refine ⟨_, (pss_cons (ps_set (i := 2) sc__law_bad.nd rfl (Or.inl rfl) (pe_lst (pa_cons (pe_lst pa_nil) (pa_cons (pe_op op_rep (pe_lst (pa_cons pe_int pa_nil)) pe_int) (pa_cons (pe_lst (pa_cons pe_int (pa_cons (pe_op op_sub (pe_un un_neg pe_int) (pv 1)) (pa_cons pe_int pa_nil)))) (pa_cons (pe_lst (pa_cons pe_int (pa_cons (pe_op op_add pe_int (pv 1)) pa_nil))) (pa_cons (pe_lst (pa_cons pe_int (pa_cons pe_int (pa_cons pe_int pa_nil)))) (pa_cons (pe_lst (pa_cons pe_int pa_nil)) (pa_cons (pe_lst (pa_cons pe_int pa_nil)) (pa_cons (pe_lst (pa_cons pe_int (pa_cons pe_int (pa_cons (pe_op op_pow pe_int pe_int) pa_nil)))) pa_nil))))))))))
      (pss_one (ps_ret (pe_ix (n_ixL (K := K) rfl) (pv 2) (pe_op op_mod (pv 0) pe_int) (fun _ _ => rfl))))), ?_⟩
    walk_at "st"
    refine w_newL (Nat.le_of_ble_eq_true rfl) fun a1 H1 n1 e1 h1 => ?_
    walk_at "st"
    refine w_newL (Nat.le_of_ble_eq_true rfl) fun a2 H2 n2 e2 h2 => ?_
    walk_at "st"
    refine w_rep1 h2 (by decide) (by decide) fun a3 H3 n3 e3 h3 => ?_
    rw [rep_one] at h3
    walk_at "st"
    refine w_newL (Nat.le_of_ble_eq_true rfl) fun a4 H4 n4 e4 h4 => ?_
    walk_at "st"
    refine w_newL (Nat.le_of_ble_eq_true rfl) fun a5 H5 n5 e5 h5 => ?_
    walk_at "st"
    refine w_newL (Nat.le_of_ble_eq_true rfl) fun a6 H6 n6 e6 h6 => ?_
    walk_at "st"
    refine w_newL (Nat.le_of_ble_eq_true rfl) fun a7 H7 n7 e7 h7 => ?_
    walk_at "st"
    refine w_newL (Nat.le_of_ble_eq_true rfl) fun a8 H8 n8 e8 h8 => ?_
    walk_at "st"
    refine w_newL (Nat.le_of_ble_eq_true rfl) fun a9 H9 n9 e9 h9 => ?_
    walk_at "st"
    refine w_newL (Nat.le_of_ble_eq_true rfl) fun a10 H10 n10 e10 h10 => ?_
    walk_at "st"
    refine w_pickL (SqL.of h10) (by omega) (by show _ < (8 : Int); omega) fun v hv => ?_
    simp only [List.mem_cons, List.not_mem_nil, or_false] at hv
    rcases hv with rfl | rfl | rfl | rfl | rfl | rfl | rfl | rfl
    · exact k a1 [] _ (((((((((e1.trans e2).trans e3).trans e4).trans e5).trans e6).trans e7).trans e8).trans e9).trans e10) (by walk_at "hp1") (by decide)
    · exact k a3 _ _ (((((((((e1.trans e2).trans e3).trans e4).trans e5).trans e6).trans e7).trans e8).trans e9).trans e10) (by walk_at "hp1") (fun g => by have := g.len; rw [List.length_replicate] at this; exact absurd this (by decide))
    · exact k a4 [3, -1 - far, 2] _ (((((((((e1.trans e2).trans e3).trans e4).trans e5).trans e6).trans e7).trans e8).trans e9).trans e10) (by walk_at "hp1") (fun g => by have := g.nn (-1 - far) (by simp); omega)
    · exact k a5 [1, 1000 + far] _ (((((((((e1.trans e2).trans e3).trans e4).trans e5).trans e6).trans e7).trans e8).trans e9).trans e10) (by walk_at "hp1") (fun g => by have := g.le (1000 + far) (by simp); omega)
    · exact k a6 [0, 0, 0] _ (((((((((e1.trans e2).trans e3).trans e4).trans e5).trans e6).trans e7).trans e8).trans e9).trans e10) (by walk_at "hp1") (by decide)
    · exact k a7 [0] _ (((((((((e1.trans e2).trans e3).trans e4).trans e5).trans e6).trans e7).trans e8).trans e9).trans e10) (by walk_at "hp1") (by decide)
    · exact k a8 [1000] _ (((((((((e1.trans e2).trans e3).trans e4).trans e5).trans e6).trans e7).trans e8).trans e9).trans e10) (by walk_at "hp1") (by decide)
    · exact k a9 [2, 0, 10 ^ 40] _ (((((((((e1.trans e2).trans e3).trans e4).trans e5).trans e6).trans e7).trans e8).trans e9).trans e10) (by walk_at "hp1") (fun g => by have := g.le (10 ^ 40) (by simp); omega)
theorem sc__law_by_counts : FnScope ["bad", "way"] ["bad", "way"] (defScope s__law_by_counts) := ⟨rfl, rfl, rfl, by decide +kernel, rfl, by decide +kernel, by decide +kernel⟩
def sp__law_by_counts (K : PySem.W.Frag) (Z : Zs) : Sp := fun vs H _ E => ∃ (b : Addr) (ns : List Int) (w : Int), vs = [.ref b, .int w] ∧ H b = some (.lst (iL ns)) ∧ ¬ Good ns ∧ Due E Z.noshares
theorem f__law_by_counts {f : Addr} {fd : FuncData} (F : Fun K "_law_by_counts" "_law_by_counts" s__law_by_counts f fd) (T : Txt K mg Z) (xf_whole : CalX P w K mg base 2 "whole" (sp_whole K Z)) (xf_first_of : CalX P w K mg base 2 "first_of" (sp_first_of K Z)) (xf_sign_of : CalX P w K mg base 2 "sign_of" (sp_sign_of K Z)) (xf_lay : CalX P w K mg base 2 "lay" (sp_lay K Z)) (xf_take : CalX P w K mg base 3 "take" (sp_take K Z)) (xf_lay_row : CalX P w K mg base 2 "lay_row" (sp_lay_row K Z)) (xf_take_row : CalX P w K mg base 3 "take_row" (sp_take_row K Z)) (nx_Plain_1 : MakX P w K mg base 2 "Plain" Z.plain (sp_Plain_init K Z) []) (nx_Stream_2 : MakX P w K mg base 2 "Stream" Z.stream (sp_Stream_init K Z) [.int 4]) (nx_Slots_1 : MakX P w K mg base 2 "Slots" Z.slots (sp_Slots_init K Z) []) (xf_lay_hidden : CalX P w K mg base 4 "lay_hidden" (sp_lay_hidden K Z)) (xf_take_hidden : CalX P w K mg base 4 "take_hidden" (sp_take_hidden K Z))  : FnOk P w K mg base (L2.CX P w) 5 f fd ["bad", "way"] (sp__law_by_counts K Z) := by
  refine F.okX sc__law_by_counts (fun vs H Q E h => ?_) (fun cdv A outer s H vs Q E hr h => ?_)
  · obtain ⟨b, ns, wy, rfl, hb, nb, k⟩ := h
    rfl
  · obtain ⟨b, ns, wy, rfl, hb, nb, k⟩ := h
    refine ⟨_, (pss_one (ps_if (pt_cmpR op_eq (pv 1) pe_int (nomark _)) (pss_one (ps_expr (pe_cX xf_whole hr (by decide) (takes_of rfl rfl rfl rfl) rfl (pa_cons (pv 0) pa_nil)))) (pss_one (ps_if (pt_cmpR op_eq (pv 1) pe_int (nomark _)) (pss_one (ps_expr (pe_cX xf_first_of hr (by decide) (takes_of rfl rfl rfl rfl) rfl (pa_cons (pv 0) (pa_cons (pe_un un_neg pe_int) pa_nil))))) (pss_one (ps_if (pt_cmpR op_eq (pv 1) pe_int (nomark _)) (pss_one (ps_expr (pe_cX xf_sign_of hr (by decide) (takes_of rfl rfl rfl rfl) rfl (pa_cons (pv 0) (pa_cons (pe_un un_neg pe_int) pa_nil))))) (pss_one (ps_if (pt_cmpR op_eq (pv 1) pe_int (nomark _)) (pss_one (ps_expr (pe_cX xf_lay hr (by decide) (takes_of rfl rfl rfl rfl) rfl (pa_cons (pe_un un_neg pe_int) (pa_cons (pv 0) (pa_cons pe_int pa_nil)))))) (pss_one (ps_if (pt_cmpR op_eq (pv 1) pe_int (nomark _)) (pss_one (ps_expr (pe_cX xf_take hr (by decide) (takes_of rfl rfl rfl rfl) rfl (pa_cons (pe_un un_neg pe_int) (pa_cons (pv 0) pa_nil))))) (pss_one (ps_if (pt_cmpR op_eq (pv 1) pe_int (nomark _)) (pss_one (ps_expr (pe_cX xf_lay_row hr (by decide) (takes_of rfl rfl rfl rfl) rfl (pa_cons (pe_un un_neg pe_int) (pa_cons (pv 0) (pa_cons (pe_lst (pa_cons pe_int pa_nil)) pa_nil)))))) (pss_one (ps_if (pt_cmpR op_eq (pv 1) pe_int (nomark _)) (pss_one (ps_expr (pe_cX xf_take_row hr (by decide) (takes_of rfl rfl rfl rfl) rfl (pa_cons pe_int (pa_cons (pv 0) (pa_cons pe_int pa_nil)))))) (pss_one (ps_if (pt_cmpR op_eq (pv 1) pe_int (nomark _)) (pss_one (ps_expr (pe_mkX nx_Plain_1 hr (by decide) (takes_of rfl rfl rfl rfl) rfl (pa_cons (pv 0) pa_nil)))) (pss_one (ps_if (pt_cmpR op_eq (pv 1) pe_int (nomark _)) (pss_one (ps_expr (pe_mkX nx_Stream_2 hr (by decide) (takes_of rfl rfl rfl rfl) rfl (pa_cons (pv 0) (pa_cons pe_int pa_nil))))) (pss_one (ps_if (pt_cmpR op_eq (pv 1) pe_int (nomark _)) (pss_one (ps_expr (pe_mkX nx_Slots_1 hr (by decide) (takes_of rfl rfl rfl rfl) rfl (pa_cons (pv 0) pa_nil)))) (pss_one (ps_if (pt_cmpR op_eq (pv 1) pe_int (nomark _)) (pss_one (ps_expr (pe_cX xf_lay_hidden hr (by decide) (takes_of rfl rfl rfl rfl) rfl (pa_cons (pe_un un_neg pe_int) (pa_cons (pe_lst (pa_cons pe_int pa_nil)) (pa_cons (pe_lst (pa_cons (pe_lst (pa_cons pe_int pa_nil)) pa_nil)) (pa_cons (pe_lst (pa_cons (pv 0) pa_nil)) (pa_cons pe_int pa_nil)))))))) (pss_one (ps_expr (pe_cX xf_take_hidden hr (by decide) (takes_of rfl rfl rfl rfl) rfl (pa_cons (pe_un un_neg pe_int) (pa_cons (pe_lst (pa_cons pe_int (pa_cons pe_int pa_nil))) (pa_cons (pe_lst (pa_cons (pe_lst (pa_cons pe_int pa_nil)) (pa_cons (pv 0) pa_nil))) (pa_cons (pe_lst (pa_cons (pe_lst (pa_cons pe_int (pa_cons pe_int pa_nil))) pa_nil)) pa_nil))))))))))))))))))))))))))))), ?_⟩
    walk_at "st"
    walk_at "both" <;> intro c0
    · walk_at "st"
      exact ⟨b, ns, rfl, SqL.of hb, nb, k⟩
    walk_at "st"
    walk_at "both" <;> intro c1
    · walk_at "st"
      exact ⟨b, ns, _, rfl, SqL.of hb, ask_n nb k⟩
    walk_at "st"
    walk_at "both" <;> intro c2
    · walk_at "st"
      exact ⟨b, ns, _, rfl, SqL.of hb, ask_n nb k⟩
    walk_at "st"
    walk_at "both" <;> intro c3
    · walk_at "st"
      exact ⟨_, b, ns, _, rfl, SqL.of hb, ask_n nb k⟩
    walk_at "st"
    walk_at "both" <;> intro c4
    · walk_at "st"
      exact ⟨_, b, ns, rfl, SqL.of hb, ask_n nb k⟩
    walk_at "st"
    walk_at "both" <;> intro c5
    · walk_at "st"
      refine w_newL (Nat.le_of_ble_eq_true rfl) fun a1 H1 n1 e1 h1 => ?_
      walk_at "st"
      exact ⟨_, b, a1, ns, [0], rfl, SqL.of (e1 _ _ hb), SqL.of h1, ask_n nb k⟩
    walk_at "st"
    walk_at "both" <;> intro c6
    · walk_at "st"
      exact ⟨5, b, ns, 0, rfl, SqL.of hb, ask_n nb k⟩
    walk_at "st"
    walk_at "both" <;> intro c7
    · walk_at "st"
      refine w_rMk fun x dx G nx ex hx fx => ?_
      exact ⟨x, dx, b, ns, rfl, hx, SqL.of (ex _ _ hb), ask_n nb k⟩
    walk_at "st"
    walk_at "both" <;> intro c8
    · walk_at "st"
      refine w_rMk fun x dx G nx ex hx fx => ?_
      exact ⟨x, dx, b, ns, 10, 4, rfl, hx, SqL.of (ex _ _ hb), ask_n nb k⟩
    walk_at "st"
    walk_at "both" <;> intro c9
    · walk_at "st"
      refine w_rMk fun x dx G nx ex hx fx => ?_
      exact ⟨x, dx, b, ns, rfl, hx, ex _ _ hb, ask_n nb k⟩
    walk_at "st"
    walk_at "both" <;> intro c10
    · walk_at "st"
      refine w_newL (Nat.le_of_ble_eq_true rfl) fun a1 H1 n1 e1 h1 => ?_
      walk_at "st"
      refine w_newL (Nat.le_of_ble_eq_true rfl) fun a2 H2 n2 e2 h2 => ?_
      walk_at "st"
      refine w_newL (Nat.le_of_ble_eq_true rfl) fun a3 H3 n3 e3 h3 => ?_
      walk_at "st"
      refine w_newL (Nat.le_of_ble_eq_true rfl) fun a4 H4 n4 e4 h4 => ?_
      walk_at "st"
      exact ⟨_, _, a1, a3, a4, [1], [[1]], [ns], rfl, (SqL.of (by walk_at "hp1")), (tab1 (by walk_at "hp1") (SqL.of (by walk_at "hp1"))), (tab1 (by walk_at "hp1") (SqL.of (by walk_at "hp1"))), ask_n (fun f => nb (f.2.2.2 ns (by simp)).1) k⟩
    walk_at "st"
    refine w_newL (Nat.le_of_ble_eq_true rfl) fun a1 H1 n1 e1 h1 => ?_
    walk_at "st"
    refine w_newL (Nat.le_of_ble_eq_true rfl) fun a2 H2 n2 e2 h2 => ?_
    walk_at "st"
    refine w_newL (Nat.le_of_ble_eq_true rfl) fun a3 H3 n3 e3 h3 => ?_
    walk_at "st"
    refine w_newL (Nat.le_of_ble_eq_true rfl) fun a4 H4 n4 e4 h4 => ?_
    walk_at "st"
    refine w_newL (Nat.le_of_ble_eq_true rfl) fun a5 H5 n5 e5 h5 => ?_
    walk_at "st"
    exact ⟨_, a1, a3, a5, [1, 2], [[1], ns], [[1, 1]], rfl, (SqL.of (by walk_at "hp1")), (tab2 (by walk_at "hp1") (SqL.of (by walk_at "hp1")) (SqL.of (by walk_at "hp1"))), (tab1 (by walk_at "hp1") (SqL.of (by walk_at "hp1"))), (fun f => nb (f.2.2.1 ns (by simp)).1), k⟩
theorem sc__law_more_shares : FnScope ["way", "cell", "far"] ["way", "cell", "far"] (defScope s__law_more_shares) := ⟨rfl, rfl, rfl, by decide +kernel, rfl, by decide +kernel, by decide +kernel⟩
def sp__law_more_shares (K : PySem.W.Frag) (Z : Zs) : Sp := fun vs H _ E => ∃ (w cell far : Int), vs = [.int w, .int cell, .int far] ∧ 0 ≤ far ∧ Due E Z.noshares
theorem f__law_more_shares {f : Addr} {fd : FuncData} (F : Fun K "_law_more_shares" "_law_more_shares" s__law_more_shares f fd) (T : Txt K mg Z) (xf_lay_hidden : CalX P w K mg base 4 "lay_hidden" (sp_lay_hidden K Z)) (xf_take_hidden : CalX P w K mg base 4 "take_hidden" (sp_take_hidden K Z)) (nx_Learner_2 : MakX P w K mg base 2 "Learner" Z.learner (sp_Learner_init K Z) []) (nx_Follower_2 : MakX P w K mg base 4 "Follower" Z.follower (sp_Follower_init K Z) [])  : FnOk P w K mg base (L2.CX P w) 6 f fd ["way", "cell", "far"] (sp__law_more_shares K Z) := by
  refine F.okX sc__law_more_shares (fun vs H Q E h => ?_) (fun cdv A outer s H vs Q E hr h => ?_)
  · obtain ⟨wy, cel, far, rfl, f0, k⟩ := h
    rfl
  · obtain ⟨wy, cel, far, rfl, f0, k⟩ := h
    refine ⟨_, (pss_one (ps_if (pt_cmpR op_eq (pv 0) pe_int (nomark _)) (pss_one (ps_expr (pe_cX xf_lay_hidden hr (by decide) (takes_of rfl rfl rfl rfl) rfl (pa_cons pe_int (pa_cons (pe_lst (pa_cons pe_int (pa_cons pe_int pa_nil))) (pa_cons (pe_lst (pa_cons (pe_lst (pa_cons pe_int (pa_cons pe_int pa_nil))) (pa_cons (pe_lst (pa_cons pe_int (pa_cons pe_int pa_nil))) pa_nil))) (pa_cons (pe_lst (pa_cons (pe_lst (pa_cons pe_int (pa_cons pe_int pa_nil))) (pa_cons (pe_lst (pa_cons pe_int (pa_cons pe_int pa_nil))) pa_nil))) (pa_cons pe_int pa_nil)))))))) (pss_one (ps_if (pt_cmpR op_eq (pv 0) pe_int (nomark _)) (pss_one (ps_expr (pe_cX xf_take_hidden hr (by decide) (takes_of rfl rfl rfl rfl) rfl (pa_cons pe_int (pa_cons (pe_ix (n_ixL (K := K) rfl) (pe_lst (pa_cons (pe_lst pa_nil) (pa_cons (pe_lst (pa_cons pe_int (pa_cons pe_int (pa_cons pe_int pa_nil)))) pa_nil))) (pe_op op_mod (pv 1) pe_int) (fun _ _ => rfl)) (pa_cons (pe_lst (pa_cons (pe_lst (pa_cons pe_int (pa_cons pe_int pa_nil))) (pa_cons (pe_lst (pa_cons pe_int (pa_cons pe_int pa_nil))) pa_nil))) (pa_cons (pe_lst (pa_cons (pe_lst (pa_cons pe_int (pa_cons pe_int pa_nil))) (pa_cons (pe_lst (pa_cons pe_int (pa_cons pe_int pa_nil))) pa_nil))) pa_nil))))))) (pss_one (ps_if (pt_cmpR op_eq (pv 0) pe_int (nomark _)) (pss_one (ps_expr (pe_cX xf_take_hidden hr (by decide) (takes_of rfl rfl rfl rfl) rfl (pa_cons pe_int (pa_cons (pe_lst (pa_cons pe_int (pa_cons pe_int pa_nil))) (pa_cons (pe_lst (pa_cons (pe_lst (pa_cons pe_int (pa_cons pe_int pa_nil))) (pa_cons (pe_lst (pa_cons pe_int (pa_cons pe_int pa_nil))) pa_nil))) (pa_cons (pe_lst (pa_cons (pe_lst (pa_cons pe_int (pa_cons pe_int pa_nil))) (pa_cons (pe_lst (pa_cons pe_int (pa_cons pe_int pa_nil))) pa_nil))) pa_nil))))))) (pss_one (ps_if (pt_cmpR op_eq (pe_op op_mod (pv 1) pe_int) pe_int (nomark _)) (pss_one (ps_expr (pe_mkX nx_Learner_2 hr (by decide) (takes_of rfl rfl rfl rfl) rfl (pa_cons pe_int (pa_cons (pe_ix (n_ixL (K := K) rfl) (pe_lst (pa_cons pe_int (pa_cons (pe_op op_add pe_int (pv 2)) (pa_cons (pe_un un_neg (pv 2)) pa_nil)))) (pe_op op_mod (pe_op op_fdiv (pv 1) pe_int) pe_int) (fun _ _ => rfl)) pa_nil))))) (pss_one (ps_expr (pe_mkX nx_Follower_2 hr (by decide) (takes_of rfl rfl rfl rfl) rfl (pa_cons (pe_ix (n_ixL (K := K) rfl) (pe_lst (pa_cons pe_int (pa_cons (pe_op op_add pe_int (pv 2)) (pa_cons (pe_un un_neg (pv 2)) pa_nil)))) (pe_op op_mod (pe_op op_fdiv (pv 1) pe_int) pe_int) (fun _ _ => rfl)) (pa_cons pe_int pa_nil))))))))))))), ?_⟩
    walk_at "st"
    walk_at "both" <;> intro c0
    · walk_at "st"
      refine w_newL (Nat.le_of_ble_eq_true rfl) fun a1 H1 n1 e1 h1 => ?_
      walk_at "st"
      refine w_newL (Nat.le_of_ble_eq_true rfl) fun a2 H2 n2 e2 h2 => ?_
      walk_at "st"
      refine w_newL (Nat.le_of_ble_eq_true rfl) fun a3 H3 n3 e3 h3 => ?_
      walk_at "st"
      refine w_newL (Nat.le_of_ble_eq_true rfl) fun a4 H4 n4 e4 h4 => ?_
      walk_at "st"
      refine w_newL (Nat.le_of_ble_eq_true rfl) fun a5 H5 n5 e5 h5 => ?_
      walk_at "st"
      refine w_newL (Nat.le_of_ble_eq_true rfl) fun a6 H6 n6 e6 h6 => ?_
      walk_at "st"
      refine w_newL (Nat.le_of_ble_eq_true rfl) fun a7 H7 n7 e7 h7 => ?_
      walk_at "st"
      exact ⟨_, _, a1, a4, a7, [1, 0], [[1, 1], [1, 1]], [[1, 1], [1, 1]], rfl, (SqL.of (by walk_at "hp1")), (tab2 (by walk_at "hp1") (SqL.of (by walk_at "hp1")) (SqL.of (by walk_at "hp1"))), (tab2 (by walk_at "hp1") (SqL.of (by walk_at "hp1")) (SqL.of (by walk_at "hp1"))), ask_n (by decide) k⟩
    walk_at "st"
    walk_at "both" <;> intro c1
    · walk_at "st"
      refine w_newL (Nat.le_of_ble_eq_true rfl) fun a1 H1 n1 e1 h1 => ?_
      walk_at "st"
      refine w_newL (Nat.le_of_ble_eq_true rfl) fun a2 H2 n2 e2 h2 => ?_
      walk_at "st"
      refine w_newL (Nat.le_of_ble_eq_true rfl) fun a3 H3 n3 e3 h3 => ?_
      walk_at "st"
      refine w_pickL (SqL.of h3) (by omega) (by show _ < (2 : Int); omega) fun v hv => ?_
      simp only [List.mem_cons, List.not_mem_nil, or_false] at hv
      obtain ⟨v, ns, rfl, hv3, nb⟩ : ∃ (y : Addr) (ns : List Int), v = .ref y ∧ H3 y = some (.lst (iL ns)) ∧ ¬ Fit ns ns.length := by
        rcases hv with rfl | rfl
        · exact ⟨a1, [], rfl, by walk_at "hp1", by decide⟩
        · exact ⟨a2, [2, 0, 1], rfl, by walk_at "hp1", by decide⟩
      walk_at "st"
      refine w_newL (Nat.le_of_ble_eq_true rfl) fun a4 H4 n4 e4 h4 => ?_
      walk_at "st"
      refine w_newL (Nat.le_of_ble_eq_true rfl) fun a5 H5 n5 e5 h5 => ?_
      walk_at "st"
      refine w_newL (Nat.le_of_ble_eq_true rfl) fun a6 H6 n6 e6 h6 => ?_
      walk_at "st"
      refine w_newL (Nat.le_of_ble_eq_true rfl) fun a7 H7 n7 e7 h7 => ?_
      walk_at "st"
      refine w_newL (Nat.le_of_ble_eq_true rfl) fun a8 H8 n8 e8 h8 => ?_
      walk_at "st"
      refine w_newL (Nat.le_of_ble_eq_true rfl) fun a9 H9 n9 e9 h9 => ?_
      walk_at "st"
      exact ⟨_, v, a6, a9, ns, [[1, 1], [1, 1]], [[1, 1], [1, 1]], rfl, (SqL.of (by walk_at "hp1")), (tab2 (by walk_at "hp1") (SqL.of (by walk_at "hp1")) (SqL.of (by walk_at "hp1"))), (tab2 (by walk_at "hp1") (SqL.of (by walk_at "hp1")) (SqL.of (by walk_at "hp1"))), (fun f => nb f.1), k⟩
    walk_at "st"
    walk_at "both" <;> intro c2
    · walk_at "st"
      refine w_newL (Nat.le_of_ble_eq_true rfl) fun a1 H1 n1 e1 h1 => ?_
      walk_at "st"
      refine w_newL (Nat.le_of_ble_eq_true rfl) fun a2 H2 n2 e2 h2 => ?_
      walk_at "st"
      refine w_newL (Nat.le_of_ble_eq_true rfl) fun a3 H3 n3 e3 h3 => ?_
      walk_at "st"
      refine w_newL (Nat.le_of_ble_eq_true rfl) fun a4 H4 n4 e4 h4 => ?_
      walk_at "st"
      refine w_newL (Nat.le_of_ble_eq_true rfl) fun a5 H5 n5 e5 h5 => ?_
      walk_at "st"
      refine w_newL (Nat.le_of_ble_eq_true rfl) fun a6 H6 n6 e6 h6 => ?_
      walk_at "st"
      refine w_newL (Nat.le_of_ble_eq_true rfl) fun a7 H7 n7 e7 h7 => ?_
      walk_at "st"
      exact ⟨_, a1, a4, a7, [1, 2], [[1, 1], [1, 1]], [[1, 0], [1, 1]], rfl, (SqL.of (by walk_at "hp1")), (tab2 (by walk_at "hp1") (SqL.of (by walk_at "hp1")) (SqL.of (by walk_at "hp1"))), (tab2 (by walk_at "hp1") (SqL.of (by walk_at "hp1")) (SqL.of (by walk_at "hp1"))), by decide, k⟩
    walk_at "st"
    walk_at "both" <;> intro c4
    · walk_at "st"
      refine w_newL (Nat.le_of_ble_eq_true rfl) fun a1 H1 n1 e1 h1 => ?_
      walk_at "st"
      refine w_pickI (ns := [0, 10 + far, -far]) h1 (by omega) (by show _ < (3 : Int); omega) fun n hn => ?_
      have hn : n = 0 ∨ n = 10 + far ∨ n = -far := by simpa using hn
      walk_at "st"
      refine w_rMk fun x dx G nx ex hx fx => ?_
      exact ⟨x, dx, 3, n, rfl, hx, ask_n (fun x => by have := x.2.2; omega) k⟩
    walk_at "st"
    refine w_newL (Nat.le_of_ble_eq_true rfl) fun a1 H1 n1 e1 h1 => ?_
    walk_at "st"
    refine w_pickI (ns := [0, 101 + far, -far]) h1 (by omega) (by show _ < (3 : Int); omega) fun n hn => ?_
    have hn : n = 0 ∨ n = 101 + far ∨ n = -far := by simpa using hn
    walk_at "st"
    refine w_rMk fun x dx G nx ex hx fx => ?_
    exact ⟨x, dx, n, 2, rfl, hx, ask_n (fun x => by have := x.1; have := x.2.1; omega) k⟩
theorem sc__law_no_shares : FnScope ["cell", "far", "way"] ["cell", "far"] (defScope s__law_no_shares) := ⟨rfl, rfl, rfl, by decide +kernel, rfl, by decide +kernel, by decide +kernel⟩
def sp__law_no_shares (K : PySem.W.Frag) (Z : Zs) : Sp := fun vs H _ E => ∃ (cell far : Int), vs = [.int cell, .int far] ∧ 0 ≤ far ∧ Due E Z.noshares
theorem f__law_no_shares {f : Addr} {fd : FuncData} (F : Fun K "_law_no_shares" "_law_no_shares" s__law_no_shares f fd) (T : Txt K mg Z) (xf__law_by_counts : CalX P w K mg base 5 "_law_by_counts" (sp__law_by_counts K Z)) (c__law_bad : Cal P w K mg base 1 "_law_bad" (sp__law_bad K Z) []) (nx_Learner_2 : MakX P w K mg base 2 "Learner" Z.learner (sp_Learner_init K Z) []) (nx_Follower_2 : MakX P w K mg base 4 "Follower" Z.follower (sp_Follower_init K Z) []) (nx_Stream_2 : MakX P w K mg base 2 "Stream" Z.stream (sp_Stream_init K Z) [.int 4]) (nx_Stream_3 : MakX P w K mg base 2 "Stream" Z.stream (sp_Stream_init K Z) []) (xf_lay_hidden : CalX P w K mg base 4 "lay_hidden" (sp_lay_hidden K Z)) (xf_take_hidden : CalX P w K mg base 4 "take_hidden" (sp_take_hidden K Z)) (xf__law_more_shares : CalX P w K mg base 6 "_law_more_shares" (sp__law_more_shares K Z))  : FnOk P w K mg base (L2.CX P w) 7 f fd ["cell", "far"] (sp__law_no_shares K Z) := by
  refine F.okX sc__law_no_shares (fun vs H Q E h => ?_) (fun cdv A outer s H vs Q E hr h => ?_)
  · obtain ⟨cel, far, rfl, f0, k⟩ := h
    rfl
  · obtain ⟨cel, far, rfl, f0, k⟩ := h
    refine ⟨_, (pss_cons (ps_set (i := 2) sc__law_no_shares.nd rfl (Or.inl rfl) (pe_op op_mod (pe_op op_fdiv (pv 0) pe_int) pe_int))
      (pss_one (ps_if (pt_cmpR op_lt (pv 2) pe_int (nomark _)) (pss_one (ps_expr (pe_cX xf__law_by_counts hr (by decide) (takes_of rfl rfl rfl rfl) rfl (pa_cons (pe_c c__law_bad hr (by decide) rfl (pa_cons (pv 0) (pa_cons (pv 1) pa_nil))) (pa_cons (pv 2) pa_nil))))) (pss_one (ps_if (pt_cmpR op_eq (pv 2) pe_int (nomark _)) (pss_one (ps_expr (pe_mkX nx_Learner_2 hr (by decide) (takes_of rfl rfl rfl rfl) rfl (pa_cons (pe_ix (n_ixL (K := K) rfl) (pe_lst (pa_cons pe_int (pa_cons (pe_op op_add pe_int (pv 1)) (pa_cons (pe_un un_neg (pv 1)) pa_nil)))) (pe_op op_mod (pv 0) pe_int) (fun _ _ => rfl)) (pa_cons pe_int pa_nil))))) (pss_one (ps_if (pt_cmpR op_eq (pv 2) pe_int (nomark _)) (pss_one (ps_expr (pe_mkX nx_Follower_2 hr (by decide) (takes_of rfl rfl rfl rfl) rfl (pa_cons pe_int (pa_cons (pe_ix (n_ixL (K := K) rfl) (pe_lst (pa_cons pe_int (pa_cons (pe_op op_add pe_int (pv 1)) (pa_cons (pe_un un_neg (pv 1)) pa_nil)))) (pe_op op_mod (pv 0) pe_int) (fun _ _ => rfl)) pa_nil))))) (pss_one (ps_if (pt_cmpR op_eq (pv 2) pe_int (nomark _)) (pss_one (ps_expr (pe_mkX nx_Stream_2 hr (by decide) (takes_of rfl rfl rfl rfl) rfl (pa_cons (pe_lst (pa_cons pe_int (pa_cons pe_int pa_nil))) (pa_cons (pe_ix (n_ixL (K := K) rfl) (pe_lst (pa_cons pe_int (pa_cons (pe_op op_add pe_int (pv 1)) (pa_cons (pe_un un_neg (pv 1)) pa_nil)))) (pe_op op_mod (pv 0) pe_int) (fun _ _ => rfl)) pa_nil))))) (pss_one (ps_if (pt_cmpR op_eq (pv 2) pe_int (nomark _)) (pss_one (ps_expr (pe_mkX nx_Stream_3 hr (by decide) (takes_of rfl rfl rfl rfl) rfl (pa_cons (pe_lst (pa_cons pe_int (pa_cons pe_int pa_nil))) (pa_cons pe_int (pa_cons (pe_ix (n_ixL (K := K) rfl) (pe_lst (pa_cons pe_int (pa_cons (pe_op op_add pe_int (pv 1)) (pa_cons (pe_un un_neg (pv 1)) pa_nil)))) (pe_op op_mod (pv 0) pe_int) (fun _ _ => rfl)) pa_nil)))))) (pss_one (ps_if (pt_cmpR op_eq (pv 2) pe_int (nomark _)) (pss_one (ps_expr (pe_cX xf_lay_hidden hr (by decide) (takes_of rfl rfl rfl rfl) rfl (pa_cons pe_int (pa_cons (pe_lst (pa_cons pe_int (pa_cons pe_int pa_nil))) (pa_cons (pe_lst (pa_cons (pe_lst (pa_cons pe_int (pa_cons pe_int pa_nil))) pa_nil)) (pa_cons (pe_lst (pa_cons (pe_lst (pa_cons pe_int (pa_cons pe_int pa_nil))) (pa_cons (pe_lst (pa_cons pe_int (pa_cons pe_int pa_nil))) pa_nil))) (pa_cons pe_int pa_nil)))))))) (pss_one (ps_if (pt_cmpR op_eq (pv 2) pe_int (nomark _)) (pss_one (ps_expr (pe_cX xf_lay_hidden hr (by decide) (takes_of rfl rfl rfl rfl) rfl (pa_cons (pe_un un_neg pe_int) (pa_cons (pe_lst (pa_cons pe_int (pa_cons pe_int pa_nil))) (pa_cons (pe_lst (pa_cons (pe_lst (pa_cons pe_int (pa_cons pe_int pa_nil))) (pa_cons (pe_lst (pa_cons pe_int pa_nil)) pa_nil))) (pa_cons (pe_lst (pa_cons (pe_lst (pa_cons pe_int (pa_cons pe_int pa_nil))) (pa_cons (pe_lst (pa_cons pe_int (pa_cons pe_int pa_nil))) pa_nil))) (pa_cons pe_int pa_nil)))))))) (pss_one (ps_if (pt_cmpR op_eq (pv 2) pe_int (nomark _)) (pss_one (ps_expr (pe_cX xf_take_hidden hr (by decide) (takes_of rfl rfl rfl rfl) rfl (pa_cons pe_int (pa_cons (pe_lst (pa_cons pe_int (pa_cons pe_int pa_nil))) (pa_cons (pe_lst (pa_cons (pe_lst (pa_cons pe_int (pa_cons pe_int pa_nil))) (pa_cons (pe_lst (pa_cons pe_int (pa_cons pe_int pa_nil))) pa_nil))) (pa_cons (pe_lst (pa_cons (pe_lst (pa_cons pe_int (pa_cons pe_int pa_nil))) (pa_cons (pe_lst (pa_cons pe_int (pa_cons pe_int pa_nil))) pa_nil))) pa_nil))))))) (pss_one (ps_if (pt_cmpR op_eq (pv 2) pe_int (nomark _)) (pss_one (ps_expr (pe_cX xf_take_hidden hr (by decide) (takes_of rfl rfl rfl rfl) rfl (pa_cons pe_int (pa_cons (pe_lst (pa_cons pe_int (pa_cons pe_int pa_nil))) (pa_cons (pe_lst (pa_cons (pe_lst (pa_cons pe_int (pa_cons pe_int pa_nil))) (pa_cons (pe_lst (pa_cons pe_int (pa_cons pe_int pa_nil))) pa_nil))) (pa_cons (pe_lst (pa_cons (pe_lst (pa_cons pe_int (pa_cons pe_int pa_nil))) (pa_cons (pe_lst (pa_cons pe_int (pa_cons pe_int (pa_cons pe_int pa_nil)))) pa_nil))) pa_nil))))))) (pss_one (ps_expr (pe_cX xf__law_more_shares hr (by decide) (takes_of rfl rfl rfl rfl) rfl (pa_cons (pv 2) (pa_cons (pv 0) (pa_cons (pv 1) pa_nil))))))))))))))))))))))))), ?_⟩
    walk_at "st"
    walk_at "both" <;> intro c0
    · walk_at "st"
      refine ⟨_, _, rfl, f0, fun p ns H' e hp nb => ?_⟩
      walk_at "st"
      exact ⟨p, ns, _, rfl, hp, nb, k⟩
    walk_at "st"
    walk_at "both" <;> intro c1
    · walk_at "st"
      refine w_newL (Nat.le_of_ble_eq_true rfl) fun a1 H1 n1 e1 h1 => ?_
      walk_at "st"
      refine w_pickI (ns := [0, 101 + far, -far]) h1 (by omega) (by show _ < (3 : Int); omega) fun n hn => ?_
      have hn : n = 0 ∨ n = 101 + far ∨ n = -far := by simpa using hn
      walk_at "st"
      refine w_rMk fun x dx G nx ex hx fx => ?_
      exact ⟨x, dx, n, 1, rfl, hx, ask_n (fun x => by have := x.1; have := x.2.1; have := x.2.2.1; have := x.2.2.2; omega) k⟩
    walk_at "st"
    walk_at "both" <;> intro c2
    · walk_at "st"
      refine w_newL (Nat.le_of_ble_eq_true rfl) fun a1 H1 n1 e1 h1 => ?_
      walk_at "st"
      refine w_pickI (ns := [0, 10 + far, -far]) h1 (by omega) (by show _ < (3 : Int); omega) fun n hn => ?_
      have hn : n = 0 ∨ n = 10 + far ∨ n = -far := by simpa using hn
      walk_at "st"
      refine w_rMk fun x dx G nx ex hx fx => ?_
      exact ⟨x, dx, 3, n, rfl, hx, ask_n (fun x => by have := x.1; have := x.2.1; have := x.2.2.1; have := x.2.2.2; omega) k⟩
    walk_at "st"
    walk_at "both" <;> intro c3
    · walk_at "st"
      refine w_newL (Nat.le_of_ble_eq_true rfl) fun a1 H1 n1 e1 h1 => ?_
      walk_at "st"
      refine w_newL (Nat.le_of_ble_eq_true rfl) fun a2 H2 n2 e2 h2 => ?_
      walk_at "st"
      refine w_pickI (ns := [1, 1001 + far, -far]) h2 (by omega) (by show _ < (3 : Int); omega) fun n hn => ?_
      have hn : n = 1 ∨ n = 1001 + far ∨ n = -far := by simpa using hn
      walk_at "st"
      refine w_rMk fun x dx G nx ex hx fx => ?_
      exact ⟨x, dx, a1, [1, 2], n, 4, rfl, hx, (SqL.of (by walk_at "hp1")), ask_y (by decide) (ask_n (fun x => by have := x.1; have := x.2.1; have := x.2.2.1; have := x.2.2.2; omega) k)⟩
    walk_at "st"
    walk_at "both" <;> intro c4
    · walk_at "st"
      refine w_newL (Nat.le_of_ble_eq_true rfl) fun a1 H1 n1 e1 h1 => ?_
      walk_at "st"
      refine w_newL (Nat.le_of_ble_eq_true rfl) fun a2 H2 n2 e2 h2 => ?_
      walk_at "st"
      refine w_pickI (ns := [0, 101 + far, -far]) h2 (by omega) (by show _ < (3 : Int); omega) fun n hn => ?_
      have hn : n = 0 ∨ n = 101 + far ∨ n = -far := by simpa using hn
      walk_at "st"
      refine w_rMk fun x dx G nx ex hx fx => ?_
      exact ⟨x, dx, a1, [1, 2], 10, n, rfl, hx, (SqL.of (by walk_at "hp1")), ask_y (by decide) (ask_n (fun x => by have := x.1; have := x.2.1; have := x.2.2.1; have := x.2.2.2; omega) k)⟩
    walk_at "st"
    walk_at "both" <;> intro c5
    · walk_at "st"
      refine w_newL (Nat.le_of_ble_eq_true rfl) fun a1 H1 n1 e1 h1 => ?_
      walk_at "st"
      refine w_newL (Nat.le_of_ble_eq_true rfl) fun a2 H2 n2 e2 h2 => ?_
      walk_at "st"
      refine w_newL (Nat.le_of_ble_eq_true rfl) fun a3 H3 n3 e3 h3 => ?_
      walk_at "st"
      refine w_newL (Nat.le_of_ble_eq_true rfl) fun a4 H4 n4 e4 h4 => ?_
      walk_at "st"
      refine w_newL (Nat.le_of_ble_eq_true rfl) fun a5 H5 n5 e5 h5 => ?_
      walk_at "st"
      refine w_newL (Nat.le_of_ble_eq_true rfl) fun a6 H6 n6 e6 h6 => ?_
      walk_at "st"
      exact ⟨_, _, a1, a3, a6, [1, 2], [[1, 1]], [[1, 1], [1, 1]], rfl, (SqL.of (by walk_at "hp1")), (tab1 (by walk_at "hp1") (SqL.of (by walk_at "hp1"))), (tab2 (by walk_at "hp1") (SqL.of (by walk_at "hp1")) (SqL.of (by walk_at "hp1"))), ask_n (by decide) k⟩
    walk_at "st"
    walk_at "both" <;> intro c6
    · walk_at "st"
      refine w_newL (Nat.le_of_ble_eq_true rfl) fun a1 H1 n1 e1 h1 => ?_
      walk_at "st"
      refine w_newL (Nat.le_of_ble_eq_true rfl) fun a2 H2 n2 e2 h2 => ?_
      walk_at "st"
      refine w_newL (Nat.le_of_ble_eq_true rfl) fun a3 H3 n3 e3 h3 => ?_
      walk_at "st"
      refine w_newL (Nat.le_of_ble_eq_true rfl) fun a4 H4 n4 e4 h4 => ?_
      walk_at "st"
      refine w_newL (Nat.le_of_ble_eq_true rfl) fun a5 H5 n5 e5 h5 => ?_
      walk_at "st"
      refine w_newL (Nat.le_of_ble_eq_true rfl) fun a6 H6 n6 e6 h6 => ?_
      walk_at "st"
      refine w_newL (Nat.le_of_ble_eq_true rfl) fun a7 H7 n7 e7 h7 => ?_
      walk_at "st"
      exact ⟨_, _, a1, a4, a7, [1, 2], [[1, 1], [1]], [[1, 1], [1, 1]], rfl, (SqL.of (by walk_at "hp1")), (tab2 (by walk_at "hp1") (SqL.of (by walk_at "hp1")) (SqL.of (by walk_at "hp1"))), (tab2 (by walk_at "hp1") (SqL.of (by walk_at "hp1")) (SqL.of (by walk_at "hp1"))), ask_n (by decide) k⟩
    walk_at "st"
    walk_at "both" <;> intro c7
    · walk_at "st"
      refine w_newL (Nat.le_of_ble_eq_true rfl) fun a1 H1 n1 e1 h1 => ?_
      walk_at "st"
      refine w_newL (Nat.le_of_ble_eq_true rfl) fun a2 H2 n2 e2 h2 => ?_
      walk_at "st"
      refine w_newL (Nat.le_of_ble_eq_true rfl) fun a3 H3 n3 e3 h3 => ?_
      walk_at "st"
      refine w_newL (Nat.le_of_ble_eq_true rfl) fun a4 H4 n4 e4 h4 => ?_
      walk_at "st"
      refine w_newL (Nat.le_of_ble_eq_true rfl) fun a5 H5 n5 e5 h5 => ?_
      walk_at "st"
      refine w_newL (Nat.le_of_ble_eq_true rfl) fun a6 H6 n6 e6 h6 => ?_
      walk_at "st"
      refine w_newL (Nat.le_of_ble_eq_true rfl) fun a7 H7 n7 e7 h7 => ?_
      walk_at "st"
      exact ⟨_, a1, a4, a7, [1, 2], [[1, 0], [1, 1]], [[1, 1], [1, 1]], rfl, (SqL.of (by walk_at "hp1")), (tab2 (by walk_at "hp1") (SqL.of (by walk_at "hp1")) (SqL.of (by walk_at "hp1"))), (tab2 (by walk_at "hp1") (SqL.of (by walk_at "hp1")) (SqL.of (by walk_at "hp1"))), by decide, k⟩
    walk_at "st"
    walk_at "both" <;> intro c8
    · walk_at "st"
      refine w_newL (Nat.le_of_ble_eq_true rfl) fun a1 H1 n1 e1 h1 => ?_
      walk_at "st"
      refine w_newL (Nat.le_of_ble_eq_true rfl) fun a2 H2 n2 e2 h2 => ?_
      walk_at "st"
      refine w_newL (Nat.le_of_ble_eq_true rfl) fun a3 H3 n3 e3 h3 => ?_
      walk_at "st"
      refine w_newL (Nat.le_of_ble_eq_true rfl) fun a4 H4 n4 e4 h4 => ?_
      walk_at "st"
      refine w_newL (Nat.le_of_ble_eq_true rfl) fun a5 H5 n5 e5 h5 => ?_
      walk_at "st"
      refine w_newL (Nat.le_of_ble_eq_true rfl) fun a6 H6 n6 e6 h6 => ?_
      walk_at "st"
      refine w_newL (Nat.le_of_ble_eq_true rfl) fun a7 H7 n7 e7 h7 => ?_
      walk_at "st"
      exact ⟨_, a1, a4, a7, [1, 2], [[1, 1], [1, 1]], [[1, 1], [1, 1, 1]], rfl, (SqL.of (by walk_at "hp1")), (tab2 (by walk_at "hp1") (SqL.of (by walk_at "hp1")) (SqL.of (by walk_at "hp1"))), (tab2 (by walk_at "hp1") (SqL.of (by walk_at "hp1")) (SqL.of (by walk_at "hp1"))), by decide, k⟩
    walk_at "st"
    exact ⟨_, cel, far, rfl, f0, k⟩
theorem sc__law_no_pile : FnScope ["cell", "far", "way", "low"] ["cell", "far"] (defScope s__law_no_pile) := ⟨rfl, rfl, rfl, by decide +kernel, rfl, by decide +kernel, by decide +kernel⟩
def sp__law_no_pile (K : PySem.W.Frag) (Z : Zs) : Sp := fun vs H _ E => ∃ (cell far : Int), vs = [.int cell, .int far] ∧ 0 ≤ far ∧ Due E Z.nopile
theorem f__law_no_pile {f : Addr} {fd : FuncData} (F : Fun K "_law_no_pile" "_law_no_pile" s__law_no_pile f fd) (T : Txt K mg Z) (xf_lay : CalX P w K mg base 2 "lay" (sp_lay K Z)) (xf_take : CalX P w K mg base 3 "take" (sp_take K Z)) (xf_lay_row : CalX P w K mg base 2 "lay_row" (sp_lay_row K Z)) (xf_take_row : CalX P w K mg base 3 "take_row" (sp_take_row K Z)) (xf_press : CalX P w K mg base 5 "press" (sp_press K Z)) (nx_Learner_1 : MakX P w K mg base 2 "Learner" Z.learner (sp_Learner_init K Z) [.int 1]) (xf_read : CalX P w K mg base 5 "read" (sp_read K Z)) (nx_Follower_1 : MakX P w K mg base 4 "Follower" Z.follower (sp_Follower_init K Z) [.int 1]) (xf_lay_hidden : CalX P w K mg base 4 "lay_hidden" (sp_lay_hidden K Z)) (mx_Slots_lowered : MetX P w K mg base 2 Z.slots "lowered" (sp_Slots_lowered K Z)) (nx_Slots_1 : MakX P w K mg base 2 "Slots" Z.slots (sp_Slots_init K Z) []) (mx_Slots_laid : MetX P w K mg base 3 Z.slots "laid" (sp_Slots_laid K Z)) (mx_Slots_taken : MetX P w K mg base 3 Z.slots "taken" (sp_Slots_taken K Z))  : FnOk P w K mg base (L2.CX P w) 6 f fd ["cell", "far"] (sp__law_no_pile K Z) := by
  refine F.okX sc__law_no_pile (fun vs H Q E h => ?_) (fun cdv A outer s H vs Q E hr h => ?_)
  · obtain ⟨cel, far, rfl, f0, k⟩ := h
    rfl
  · obtain ⟨cel, far, rfl, f0, k⟩ := h
    refine ⟨_, (pss_cons (ps_set (i := 2) sc__law_no_pile.nd rfl (Or.inl rfl) (pe_op op_mod (pv 0) pe_int))
      (pss_cons (ps_set (i := 3) sc__law_no_pile.nd rfl (Or.inl rfl) (pe_op op_sub (pe_un un_neg pe_int) (pv 1)))
      (pss_one (ps_if (pt_cmpR op_eq (pv 2) pe_int (nomark _)) (pss_one (ps_expr (pe_cX xf_lay hr (by decide) (takes_of rfl rfl rfl rfl) rfl (pa_cons (pv 3) (pa_cons (pe_lst (pa_cons pe_int (pa_cons pe_int pa_nil))) (pa_cons pe_int pa_nil)))))) (pss_one (ps_if (pt_cmpR op_eq (pv 2) pe_int (nomark _)) (pss_one (ps_expr (pe_cX xf_take hr (by decide) (takes_of rfl rfl rfl rfl) rfl (pa_cons (pv 3) (pa_cons (pe_lst (pa_cons pe_int (pa_cons pe_int pa_nil))) pa_nil))))) (pss_one (ps_if (pt_cmpR op_eq (pv 2) pe_int (nomark _)) (pss_one (ps_expr (pe_cX xf_lay_row hr (by decide) (takes_of rfl rfl rfl rfl) rfl (pa_cons (pv 3) (pa_cons (pe_lst (pa_cons pe_int (pa_cons pe_int pa_nil))) (pa_cons (pe_lst (pa_cons pe_int pa_nil)) pa_nil)))))) (pss_one (ps_if (pt_cmpR op_eq (pv 2) pe_int (nomark _)) (pss_one (ps_expr (pe_cX xf_take_row hr (by decide) (takes_of rfl rfl rfl rfl) rfl (pa_cons (pv 3) (pa_cons (pe_lst (pa_cons pe_int (pa_cons pe_int pa_nil))) (pa_cons pe_int pa_nil)))))) (pss_one (ps_if (pt_cmpR op_eq (pv 2) pe_int (nomark _)) (pss_one (ps_expr (pe_cX xf_press hr (by decide) (takes_of rfl rfl rfl rfl) rfl (pa_cons (pv 3) (pa_cons (pe_mkX nx_Learner_1 hr (by decide) (takes_of rfl rfl rfl rfl) rfl (pa_cons pe_int pa_nil)) (pa_cons (pe_lst (pa_cons pe_int pa_nil)) pa_nil)))))) (pss_one (ps_if (pt_cmpR op_eq (pv 2) pe_int (nomark _)) (pss_one (ps_expr (pe_cX xf_read hr (by decide) (takes_of rfl rfl rfl rfl) rfl (pa_cons (pv 3) (pa_cons (pe_mkX nx_Follower_1 hr (by decide) (takes_of rfl rfl rfl rfl) rfl (pa_cons pe_int pa_nil)) (pa_cons pe_int pa_nil)))))) (pss_one (ps_if (pt_cmpR op_eq (pv 2) pe_int (nomark _)) (pss_one (ps_expr (pe_cX xf_lay_hidden hr (by decide) (takes_of rfl rfl rfl rfl) rfl (pa_cons (pv 3) (pa_cons (pe_lst (pa_cons pe_int pa_nil)) (pa_cons (pe_lst (pa_cons (pe_lst (pa_cons pe_int pa_nil)) pa_nil)) (pa_cons (pe_lst (pa_cons (pe_lst (pa_cons pe_int pa_nil)) pa_nil)) (pa_cons pe_int pa_nil)))))))) (pss_one (ps_if (pt_cmpR op_eq (pv 2) pe_int (nomark _)) (pss_one (ps_expr (pe_mtX mx_Slots_lowered hr (by decide) (takes_of rfl rfl rfl rfl) (pe_mkX nx_Slots_1 hr (by decide) (takes_of rfl rfl rfl rfl) rfl (pa_cons (pe_lst (pa_cons pe_int (pa_cons pe_int pa_nil))) pa_nil)) (pa_cons (pe_ix (n_ixL (K := K) rfl) (pe_lst (pa_cons pe_int (pa_cons pe_int (pa_cons (pv 3) (pa_cons (pe_op op_add pe_int (pv 1)) pa_nil))))) (pe_op op_mod (pe_op op_fdiv (pv 0) pe_int) pe_int) (fun _ _ => rfl)) pa_nil)))) (pss_one (ps_if (pt_cmpR op_eq (pv 2) pe_int (nomark _)) (pss_one (ps_expr (pe_mtX mx_Slots_laid hr (by decide) (takes_of rfl rfl rfl rfl) (pe_mkX nx_Slots_1 hr (by decide) (takes_of rfl rfl rfl rfl) rfl (pa_cons (pe_lst (pa_cons pe_int (pa_cons pe_int pa_nil))) pa_nil)) (pa_cons (pe_ix (n_ixL (K := K) rfl) (pe_lst (pa_cons pe_int (pa_cons pe_int (pa_cons (pv 3) (pa_cons (pe_op op_add pe_int (pv 1)) pa_nil))))) (pe_op op_mod (pe_op op_fdiv (pv 0) pe_int) pe_int) (fun _ _ => rfl)) (pa_cons (pe_lst (pa_cons pe_int pa_nil)) pa_nil))))) (pss_one (ps_expr (pe_mtX mx_Slots_taken hr (by decide) (takes_of rfl rfl rfl rfl) (pe_mkX nx_Slots_1 hr (by decide) (takes_of rfl rfl rfl rfl) rfl (pa_cons (pe_lst (pa_cons pe_int (pa_cons pe_int pa_nil))) pa_nil)) (pa_cons (pe_ix (n_ixL (K := K) rfl) (pe_lst (pa_cons pe_int (pa_cons pe_int (pa_cons (pv 3) (pa_cons (pe_op op_add pe_int (pv 1)) pa_nil))))) (pe_op op_mod (pe_op op_fdiv (pv 0) pe_int) pe_int) (fun _ _ => rfl)) (pa_cons (pe_lst pa_nil) (pa_cons pe_int pa_nil)))))))))))))))))))))))))), ?_⟩
    walk_at "st"
    walk_at "both" <;> intro c0
    · walk_at "st"
      refine w_newL (Nat.le_of_ble_eq_true rfl) fun a1 H1 n1 e1 h1 => ?_
      walk_at "st"
      exact ⟨_, a1, [1, 2], _, rfl, SqL.of h1, ask_y (by decide) (ask_n (by omega) k)⟩
    walk_at "st"
    walk_at "both" <;> intro c1
    · walk_at "st"
      refine w_newL (Nat.le_of_ble_eq_true rfl) fun a1 H1 n1 e1 h1 => ?_
      walk_at "st"
      exact ⟨_, a1, [1, 2], rfl, SqL.of h1, ask_y (by decide) ⟨by omega, k⟩⟩
    walk_at "st"
    walk_at "both" <;> intro c2
    · walk_at "st"
      refine w_newL (Nat.le_of_ble_eq_true rfl) fun a1 H1 n1 e1 h1 => ?_
      walk_at "st"
      refine w_newL (Nat.le_of_ble_eq_true rfl) fun a2 H2 n2 e2 h2 => ?_
      walk_at "st"
      exact ⟨_, a1, a2, [1, 2], [9], rfl, SqL.of (e2 _ _ h1), SqL.of h2, ask_y (by decide) (ask_n (by omega) k)⟩
    walk_at "st"
    walk_at "both" <;> intro c3
    · walk_at "st"
      refine w_newL (Nat.le_of_ble_eq_true rfl) fun a1 H1 n1 e1 h1 => ?_
      walk_at "st"
      exact ⟨_, a1, [1, 2], 0, rfl, SqL.of h1, ask_y (by decide) (ask_n (by omega) k)⟩
    walk_at "st"
    walk_at "both" <;> intro c4
    · walk_at "st"
      refine w_rMk fun x dx G nx ex hx fx => ?_
      refine ⟨x, dx, 3, 1, rfl, hx, ask_y ⟨by decide, by decide, by decide, by decide⟩ fun G2 F r kk gg => ⟨rfl, ?_⟩⟩
      walk_at "st"
      refine w_newL (Nat.le_of_ble_eq_true rfl) fun a1 H1 n1 e1 h1 => ?_
      walk_at "st"
      exact ⟨_, x, a1, [5], rfl, ask_n (by omega) k⟩
    walk_at "st"
    walk_at "both" <;> intro c5
    · walk_at "st"
      refine w_rMk fun x dx G nx ex hx fx => ?_
      refine ⟨x, dx, 2, 1, rfl, hx, ask_y ⟨by decide, by decide, by decide, by decide⟩ fun G2 F r kk gg => ⟨rfl, ?_⟩⟩
      walk_at "st"
      exact ⟨_, _, x, rfl, (by omega), k⟩
    walk_at "st"
    walk_at "both" <;> intro c6
    · walk_at "st"
      refine w_newL (Nat.le_of_ble_eq_true rfl) fun a1 H1 n1 e1 h1 => ?_
      walk_at "st"
      refine w_newL (Nat.le_of_ble_eq_true rfl) fun a2 H2 n2 e2 h2 => ?_
      walk_at "st"
      refine w_newL (Nat.le_of_ble_eq_true rfl) fun a3 H3 n3 e3 h3 => ?_
      walk_at "st"
      refine w_newL (Nat.le_of_ble_eq_true rfl) fun a4 H4 n4 e4 h4 => ?_
      walk_at "st"
      refine w_newL (Nat.le_of_ble_eq_true rfl) fun a5 H5 n5 e5 h5 => ?_
      walk_at "st"
      exact ⟨_, _, a1, a3, a5, [1], [[1]], [[1]], rfl, (SqL.of (by walk_at "hp1")), (tab1 (by walk_at "hp1") (SqL.of (by walk_at "hp1"))), (tab1 (by walk_at "hp1") (SqL.of (by walk_at "hp1"))), ask_y (by decide) (ask_n (by omega) k)⟩
    walk_at "st"
    walk_at "both" <;> intro c7
    · walk_at "st"
      refine w_newL (Nat.le_of_ble_eq_true rfl) fun a1 H1 n1 e1 h1 => ?_
      walk_at "st"
      refine w_rMk fun x dx G nx ex hx fx => ?_
      refine ⟨x, dx, a1, [2, 3], rfl, hx, (by walk_at "hp1"), ask_y (by decide) fun G2 F step r kk gg => ⟨rfl, ?_⟩⟩
      obtain ⟨_, _, dy, _, _, _, _, _, hi, _, _, _, _, _, _, _⟩ := id r
      walk_at "st"
      refine w_newL (Nat.le_of_ble_eq_true rfl) fun a2 H2 n2 e2 h2 => ?_
      walk_at "st"
      refine w_pickI (ns := [4, 10, -1 - far, 10 + far]) h2 (by omega) (by show _ < (4 : Int); omega) fun n hn => ?_
      have hn : n = 4 ∨ n = 10 ∨ n = -1 - far ∨ n = 10 + far := by simpa using hn
      walk_at "st"
      exact ⟨_, step, x, F, n, rfl, r.up e2, ask_n (by simp; omega) k⟩
    walk_at "st"
    walk_at "both" <;> intro c8
    · walk_at "st"
      refine w_newL (Nat.le_of_ble_eq_true rfl) fun a1 H1 n1 e1 h1 => ?_
      walk_at "st"
      refine w_rMk fun x dx G nx ex hx fx => ?_
      refine ⟨x, dx, a1, [2, 3], rfl, hx, (by walk_at "hp1"), ask_y (by decide) fun G2 F step r kk gg => ⟨rfl, ?_⟩⟩
      obtain ⟨_, _, dy, _, _, _, _, _, hi, _, _, _, _, _, _, _⟩ := id r
      walk_at "st"
      refine w_newL (Nat.le_of_ble_eq_true rfl) fun a2 H2 n2 e2 h2 => ?_
      walk_at "st"
      refine w_pickI (ns := [4, 10, -1 - far, 10 + far]) h2 (by omega) (by show _ < (4 : Int); omega) fun n hn => ?_
      have hn : n = 4 ∨ n = 10 ∨ n = -1 - far ∨ n = 10 + far := by simpa using hn
      walk_at "st"
      refine w_newL (Nat.le_of_ble_eq_true rfl) fun a3 H3 n3 e3 h3 => ?_
      walk_at "st"
      exact ⟨_, step, x, F, n, a3, [7], rfl, r.up (e2.trans e3), SqL.of h3, ask_n (by simp; omega) k⟩
    walk_at "st"
    refine w_newL (Nat.le_of_ble_eq_true rfl) fun a1 H1 n1 e1 h1 => ?_
    walk_at "st"
    refine w_rMk fun x dx G nx ex hx fx => ?_
    refine ⟨x, dx, a1, [2, 3], rfl, hx, (by walk_at "hp1"), ask_y (by decide) fun G2 F step r kk gg => ⟨rfl, ?_⟩⟩
    obtain ⟨_, _, dy, _, _, _, _, _, hi, _, _, _, _, _, _, _⟩ := id r
    walk_at "st"
    refine w_newL (Nat.le_of_ble_eq_true rfl) fun a2 H2 n2 e2 h2 => ?_
    walk_at "st"
    refine w_pickI (ns := [4, 10, -1 - far, 10 + far]) h2 (by omega) (by show _ < (4 : Int); omega) fun n hn => ?_
    have hn : n = 4 ∨ n = 10 ∨ n = -1 - far ∨ n = 10 + far := by simpa using hn
    walk_at "st"
    refine w_newL (Nat.le_of_ble_eq_true rfl) fun a3 H3 n3 e3 h3 => ?_
    walk_at "st"
    exact ⟨_, step, x, F, n, a3, 0, rfl, r.up (e2.trans e3), SqL.of h3, ask_n (by simp; omega) k⟩
theorem sc__law_no_sign : FnScope ["cell", "far", "sign", "way", "model"] ["cell", "far"] (defScope s__law_no_sign) := ⟨rfl, rfl, rfl, by decide +kernel, rfl, by decide +kernel, by decide +kernel⟩
def sp__law_no_sign (K : PySem.W.Frag) (Z : Zs) : Sp := fun vs H _ E => ∃ (cell far : Int), vs = [.int cell, .int far] ∧ 0 ≤ far ∧ Due E Z.nosign
theorem f__law_no_sign {f : Addr} {fd : FuncData} (F : Fun K "_law_no_sign" "_law_no_sign" s__law_no_sign f fd) (T : Txt K mg Z) (xf_lay : CalX P w K mg base 2 "lay" (sp_lay K Z)) (xf_lay_row : CalX P w K mg base 2 "lay_row" (sp_lay_row K Z)) (xf_first_of : CalX P w K mg base 2 "first_of" (sp_first_of K Z)) (xf_press : CalX P w K mg base 5 "press" (sp_press K Z)) (nx_Plain_1 : MakX P w K mg base 2 "Plain" Z.plain (sp_Plain_init K Z) []) (nx_Learner_1 : MakX P w K mg base 2 "Learner" Z.learner (sp_Learner_init K Z) [.int 1]) (nx_Follower_1 : MakX P w K mg base 4 "Follower" Z.follower (sp_Follower_init K Z) [.int 1]) (mx_Follower_see : MetX P w K mg base 3 Z.follower "see" (sp_Follower_see K Z)) (mx_Learner_see : MetX P w K mg base 2 Z.learner "see" (sp_Learner_see K Z)) (mx_Plain_see : MetX P w K mg base 2 Z.plain "see" (sp_Plain_see K Z)) (mx_Stream_lay_sign : MetX P w K mg base 2 Z.stream "lay_sign" (sp_Stream_lay_sign K Z)) (nx_Stream_2 : MakX P w K mg base 2 "Stream" Z.stream (sp_Stream_init K Z) [.int 4]) (xf_lay_hidden : CalX P w K mg base 4 "lay_hidden" (sp_lay_hidden K Z)) (mx_Slots_raised : MetX P w K mg base 2 Z.slots "raised" (sp_Slots_raised K Z)) (nx_Slots_1 : MakX P w K mg base 2 "Slots" Z.slots (sp_Slots_init K Z) []) (mx_Slots_laid : MetX P w K mg base 3 Z.slots "laid" (sp_Slots_laid K Z))  : FnOk P w K mg base (L2.CX P w) 6 f fd ["cell", "far"] (sp__law_no_sign K Z) := by
  refine F.okX sc__law_no_sign (fun vs H Q E h => ?_) (fun cdv A outer s H vs Q E hr h => ?_)
  · obtain ⟨cel, far, rfl, f0, k⟩ := h
    rfl
  · obtain ⟨cel, far, rfl, f0, k⟩ := h
    refine ⟨_, (pss_cons (ps_set (i := 2) sc__law_no_sign.nd rfl (Or.inl rfl) (pe_ix (n_ixL (K := K) rfl) (pe_lst (pa_cons (pe_op op_sub (pe_un un_neg pe_int) (pv 1)) (pa_cons pe_int (pa_cons (pe_op op_add pe_int (pv 1)) (pa_cons pe_int pa_nil))))) (pe_op op_mod (pe_op op_fdiv (pv 0) pe_int) pe_int) (fun _ _ => rfl)))
      (pss_cons (ps_set (i := 3) sc__law_no_sign.nd rfl (Or.inl rfl) (pe_op op_mod (pv 0) pe_int))
      (pss_one (ps_if (pt_cmpR op_eq (pv 3) pe_int (nomark _)) (pss_one (ps_expr (pe_cX xf_lay hr (by decide) (takes_of rfl rfl rfl rfl) rfl (pa_cons pe_int (pa_cons (pe_lst (pa_cons pe_int (pa_cons pe_int (pa_cons pe_int pa_nil)))) (pa_cons (pv 2) pa_nil)))))) (pss_one (ps_if (pt_cmpR op_eq (pv 3) pe_int (nomark _)) (pss_one (ps_expr (pe_cX xf_lay_row hr (by decide) (takes_of rfl rfl rfl rfl) rfl (pa_cons pe_int (pa_cons (pe_lst (pa_cons pe_int (pa_cons pe_int (pa_cons pe_int pa_nil)))) (pa_cons (pe_lst (pa_cons pe_int (pa_cons (pv 2) (pa_cons pe_int pa_nil)))) pa_nil)))))) (pss_one (ps_if (pt_cmpR op_eq (pv 3) pe_int (nomark _)) (pss_one (ps_expr (pe_cX xf_first_of hr (by decide) (takes_of rfl rfl rfl rfl) rfl (pa_cons (pe_lst (pa_cons pe_int (pa_cons pe_int (pa_cons pe_int pa_nil)))) (pa_cons (pe_ix (n_ixL (K := K) rfl) (pe_lst (pa_cons (pe_op op_sub (pe_un un_neg pe_int) (pv 1)) (pa_cons pe_int (pa_cons (pe_op op_add pe_int (pv 1)) pa_nil)))) (pe_op op_mod (pe_op op_fdiv (pv 0) pe_int) pe_int) (fun _ _ => rfl)) pa_nil))))) (pss_one (ps_if (pt_cmpR op_eq (pv 3) pe_int (nomark _)) (pss_one (ps_expr (pe_cX xf_press hr (by decide) (takes_of rfl rfl rfl rfl) rfl (pa_cons pe_int (pa_cons (pe_mkX nx_Plain_1 hr (by decide) (takes_of rfl rfl rfl rfl) rfl (pa_cons (pe_lst (pa_cons pe_int (pa_cons pe_int (pa_cons pe_int pa_nil)))) pa_nil)) (pa_cons (pe_lst (pa_cons pe_int (pa_cons pe_int (pa_cons (pv 2) pa_nil)))) pa_nil)))))) (pss_one (ps_if (pt_cmpR op_eq (pv 3) pe_int (nomark _)) (pss_one (ps_expr (pe_cX xf_press hr (by decide) (takes_of rfl rfl rfl rfl) rfl (pa_cons pe_int (pa_cons (pe_mkX nx_Learner_1 hr (by decide) (takes_of rfl rfl rfl rfl) rfl (pa_cons pe_int pa_nil)) (pa_cons (pe_lst (pa_cons (pe_ix (n_ixL (K := K) rfl) (pe_lst (pa_cons (pe_op op_sub (pe_un un_neg pe_int) (pv 1)) (pa_cons pe_int (pa_cons (pe_op op_add pe_int (pv 1)) pa_nil)))) (pe_op op_mod (pe_op op_fdiv (pv 0) pe_int) pe_int) (fun _ _ => rfl)) (pa_cons pe_int pa_nil))) pa_nil)))))) (pss_one (ps_if (pt_cmpR op_eq (pv 3) pe_int (nomark _)) (pss_cons (ps_set (i := 4) sc__law_no_sign.nd rfl (Or.inl rfl) (pe_ix (n_ixL (K := K) rfl) (pe_lst (pa_cons (pe_mkX nx_Follower_1 hr (by decide) (takes_of rfl rfl rfl rfl) rfl (pa_cons pe_int pa_nil)) (pa_cons (pe_mkX nx_Learner_1 hr (by decide) (takes_of rfl rfl rfl rfl) rfl (pa_cons pe_int pa_nil)) (pa_cons (pe_mkX nx_Plain_1 hr (by decide) (takes_of rfl rfl rfl rfl) rfl (pa_cons (pe_lst (pa_cons pe_int (pa_cons pe_int (pa_cons pe_int pa_nil)))) pa_nil)) pa_nil)))) (pe_op op_mod (pe_op op_fdiv (pv 0) pe_int) pe_int) (fun _ _ => rfl)))
      (pss_one (ps_expr (pe_or (pe_mtX mx_Follower_see hr (by decide) (takes_of rfl rfl rfl rfl) (pv 4) (pa_cons (pe_ix (n_ixL (K := K) rfl) (pe_lst (pa_cons (pe_op op_sub (pe_un un_neg pe_int) (pv 1)) (pa_cons pe_int (pa_cons (pe_op op_add pe_int (pv 1)) pa_nil)))) (pe_op op_mod (pe_op op_fdiv (pv 0) pe_int) pe_int) (fun _ _ => rfl)) pa_nil)) (pe_or (pe_mtX mx_Learner_see hr (by decide) (takes_of rfl rfl rfl rfl) (pv 4) (pa_cons (pe_ix (n_ixL (K := K) rfl) (pe_lst (pa_cons (pe_op op_sub (pe_un un_neg pe_int) (pv 1)) (pa_cons pe_int (pa_cons (pe_op op_add pe_int (pv 1)) pa_nil)))) (pe_op op_mod (pe_op op_fdiv (pv 0) pe_int) pe_int) (fun _ _ => rfl)) pa_nil)) (pe_mtX mx_Plain_see hr (by decide) (takes_of rfl rfl rfl rfl) (pv 4) (pa_cons (pe_ix (n_ixL (K := K) rfl) (pe_lst (pa_cons (pe_op op_sub (pe_un un_neg pe_int) (pv 1)) (pa_cons pe_int (pa_cons (pe_op op_add pe_int (pv 1)) pa_nil)))) (pe_op op_mod (pe_op op_fdiv (pv 0) pe_int) pe_int) (fun _ _ => rfl)) pa_nil))))))) (pss_one (ps_if (pt_cmpR op_eq (pv 3) pe_int (nomark _)) (pss_one (ps_expr (pe_mtX mx_Stream_lay_sign hr (by decide) (takes_of rfl rfl rfl rfl) (pe_mkX nx_Stream_2 hr (by decide) (takes_of rfl rfl rfl rfl) rfl (pa_cons (pe_lst (pa_cons pe_int (pa_cons pe_int (pa_cons pe_int pa_nil)))) (pa_cons pe_int pa_nil))) (pa_cons (pv 2) pa_nil)))) (pss_one (ps_if (pt_cmpR op_eq (pv 3) pe_int (nomark _)) (pss_one (ps_expr (pe_cX xf_lay_hidden hr (by decide) (takes_of rfl rfl rfl rfl) rfl (pa_cons pe_int (pa_cons (pe_lst (pa_cons pe_int pa_nil)) (pa_cons (pe_lst (pa_cons (pe_lst (pa_cons pe_int (pa_cons pe_int (pa_cons pe_int pa_nil)))) pa_nil)) (pa_cons (pe_lst (pa_cons (pe_lst (pa_cons pe_int pa_nil)) (pa_cons (pe_lst (pa_cons pe_int pa_nil)) (pa_cons (pe_lst (pa_cons pe_int pa_nil)) pa_nil)))) (pa_cons (pe_ix (n_ixL (K := K) rfl) (pe_lst (pa_cons (pe_op op_sub (pe_un un_neg pe_int) (pv 1)) (pa_cons pe_int (pa_cons (pe_op op_add pe_int (pv 1)) pa_nil)))) (pe_op op_mod (pe_op op_fdiv (pv 0) pe_int) pe_int) (fun _ _ => rfl)) pa_nil)))))))) (pss_one (ps_if (pt_cmpR op_eq (pv 3) pe_int (nomark _)) (pss_one (ps_expr (pe_mtX mx_Slots_raised hr (by decide) (takes_of rfl rfl rfl rfl) (pe_mkX nx_Slots_1 hr (by decide) (takes_of rfl rfl rfl rfl) rfl (pa_cons (pe_lst (pa_cons pe_int (pa_cons pe_int (pa_cons pe_int pa_nil)))) pa_nil)) (pa_cons (pv 2) (pa_cons pe_int pa_nil))))) (pss_one (ps_expr (pe_mtX mx_Slots_laid hr (by decide) (takes_of rfl rfl rfl rfl) (pe_mkX nx_Slots_1 hr (by decide) (takes_of rfl rfl rfl rfl) rfl (pa_cons (pe_lst (pa_cons pe_int (pa_cons pe_int (pa_cons pe_int pa_nil)))) pa_nil)) (pa_cons pe_int (pa_cons (pe_lst (pa_cons pe_int (pa_cons (pv 2) pa_nil))) pa_nil))))))))))))))))))))))))), ?_⟩
    walk_at "st"
    refine w_newL (Nat.le_of_ble_eq_true rfl) fun a0 H0 n0 e0 h0 => ?_
    walk_at "st"
    refine w_pickI (ns := [-1 - far, 3, 3 + far, 1]) h0 (by omega) (by show _ < (4 : Int); omega) fun sg hs => ?_
    have hs : sg = -1 - far ∨ sg = 3 ∨ sg = 3 + far ∨ sg = 1 := by simpa using hs
    have nb : ¬ Sgn [1, 0, 2] sg := fun x => by
      have x0 := x.1
      have x1 : sg < 3 := x.2.1
      obtain rfl : sg = 1 := by omega
      exact x.2.2 rfl
    walk_at "st"
    walk_at "both" <;> intro c0
    · walk_at "st"
      refine w_newL (Nat.le_of_ble_eq_true rfl) fun a1 H1 n1 e1 h1 => ?_
      walk_at "st"
      exact ⟨_, a1, [1, 0, 2], sg, rfl, SqL.of h1, ask_y (by decide) (ask_y (by decide) ⟨nb, k⟩)⟩
    walk_at "st"
    walk_at "both" <;> intro c1
    · walk_at "st"
      refine w_newL (Nat.le_of_ble_eq_true rfl) fun a1 H1 n1 e1 h1 => ?_
      walk_at "st"
      refine w_newL (Nat.le_of_ble_eq_true rfl) fun a2 H2 n2 e2 h2 => ?_
      walk_at "st"
      exact ⟨_, a1, a2, [1, 0, 2], [0, sg, 2], rfl, SqL.of (e2 _ _ h1), SqL.of h2, ask_y (by decide) (ask_y (by decide) (ask_n (fun q => nb (q sg (by simp))) k))⟩
    walk_at "st"
    walk_at "both" <;> intro c2
    · walk_at "st"
      refine w_newL (Nat.le_of_ble_eq_true rfl) fun a1 H1 n1 e1 h1 => ?_
      walk_at "st"
      refine w_newL (Nat.le_of_ble_eq_true rfl) fun a2 H2 n2 e2 h2 => ?_
      walk_at "st"
      refine w_pickI (ns := [-1 - far, 3, 3 + far]) h2 (by omega) (by show _ < (3 : Int); omega) fun n hn => ?_
      have hn : n = -1 - far ∨ n = 3 ∨ n = 3 + far := by simpa using hn
      walk_at "st"
      exact ⟨a1, [1, 0, 2], n, rfl, SqL.of (e2 _ _ h1), ask_y (by decide) ⟨by simp; omega, k⟩⟩
    walk_at "st"
    walk_at "both" <;> intro c3
    · walk_at "st"
      refine w_newL (Nat.le_of_ble_eq_true rfl) fun a1 H1 n1 e1 h1 => ?_
      walk_at "st"
      refine w_rMk fun x dx G nx ex hx fx => ?_
      refine ⟨x, dx, a1, [1, 0, 2], rfl, hx, SqL.of (ex _ _ h1), ask_y (by decide) fun G2 F r kk gg => ⟨rfl, ?_⟩⟩
      walk_at "st"
      refine w_newL (Nat.le_of_ble_eq_true rfl) fun a2 H2 n2 e2 h2 => ?_
      walk_at "st"
      exact ⟨_, x, a2, [2, 0, sg], rfl, ask_y (by decide) ⟨SqL.of h2, (Nat.le_of_ble_eq_true rfl), k, .inl ⟨[1, 0, 2], F, (plainOk (Z := Z) (cs := [1, 0, 2]) (by decide)).up r e2, sg, (by simp), nb⟩⟩⟩
    walk_at "st"
    walk_at "both" <;> intro c4
    · walk_at "st"
      refine w_rMk fun x dx G nx ex hx fx => ?_
      refine ⟨x, dx, 3, 1, rfl, hx, ask_y ⟨by decide, by decide, by decide, by decide⟩ fun G2 F r kk gg => ⟨rfl, ?_⟩⟩
      walk_at "st"
      refine w_newL (Nat.le_of_ble_eq_true rfl) fun a1 H1 n1 e1 h1 => ?_
      walk_at "st"
      refine w_pickI (ns := [-1 - far, 3, 3 + far]) h1 (by omega) (by show _ < (3 : Int); omega) fun n hn => ?_
      have hn : n = -1 - far ∨ n = 3 ∨ n = 3 + far := by simpa using hn
      walk_at "st"
      refine w_newL (Nat.le_of_ble_eq_true rfl) fun a2 H2 n2 e2 h2 => ?_
      walk_at "st"
      exact ⟨_, x, a2, [n, 0], rfl, ask_y (by decide) ⟨SqL.of h2, (Nat.le_of_ble_eq_true rfl), k, .inr ⟨3, 1, _, F, n, [0], (learnerOk (Z := Z) (many := 3) (step := 1) (by decide) (by decide) (by decide) (by decide)).up r (e1.trans e2), rfl, (by omega)⟩⟩⟩
    walk_at "st"
    walk_at "both" <;> intro c5
    · walk_at "st"
      refine w_rMk fun x dx G nx ex hx fx => ?_
      refine ⟨x, dx, 3, 1, rfl, hx, ask_y ⟨by decide, by decide, by decide, by decide⟩ fun G1 F1 r1 kk1 gg1 => ⟨rfl, ?_⟩⟩
      walk_at "st"
      refine w_rMk fun y dy G2 ny ey hy fy => ?_
      refine ⟨y, dy, 3, 1, rfl, hy, ask_y ⟨by decide, by decide, by decide, by decide⟩ fun G3 F3 r3 kk3 gg3 => ⟨rfl, ?_⟩⟩
      have ea := made_ex ny ey kk3
      walk_at "st"
      refine w_newL (Nat.le_of_ble_eq_true rfl) fun a1 H1 n1 e1 h1 => ?_
      walk_at "st"
      refine w_rMk fun z dz G4 nz ez hz fz => ?_
      refine ⟨z, dz, a1, [1, 2, 3], rfl, hz, SqL.of (ez _ _ h1), ask_y (by decide) fun G5 F5 r5 kk5 gg5 => ⟨rfl, ?_⟩⟩
      have eb := made_ex nz ez kk5
      walk_at "st"
      refine w_newL (Nat.le_of_ble_eq_true rfl) fun a2 H2 n2 e2 h2 => ?_
      walk_at "st"
      refine w_pickL (SqL.of h2) (by omega) (by show _ < (3 : Int); omega) fun v hv => ?_
      simp only [List.mem_cons, List.not_mem_nil, or_false] at hv
      walk_at "st"
      rcases hv with rfl | rfl | rfl
      · refine Or.inl ?_
        have rr : FoAt Z 3 1 H2 x (List.replicate ((3 : Int) + 1).toNat (List.replicate (3 : Int).toNat 1), 3) F1 := by
          obtain ⟨d1, q1, l1, f1⟩ := r1
          exact ⟨d1, q1, l1, f1.frame fun b _ o h => e2 b o (eb b o (e1 b o (ea b o h)))⟩
        obtain ⟨d1, q1, l1, f1⟩ := id rr
        have hi := f1.hp
        walk_at "st"
        refine w_newL (Nat.le_of_ble_eq_true rfl) fun a3 H3 n3 e3 h3 => ?_
        walk_at "st"
        refine w_pickI (ns := [-1 - far, 3, 3 + far]) h3 (by omega) (by show _ < (3 : Int); omega) fun n hn => ?_
        have hn : n = -1 - far ∨ n = 3 ∨ n = 3 + far := by simpa using hn
        walk_at "st"
        exact ⟨3, 1, x, (List.replicate ((3 : Int) + 1).toNat (List.replicate (3 : Int).toNat 1), 3), F1, n, rfl, (by obtain ⟨d1, q1, l1, f1⟩ := rr; exact ⟨d1, q1, l1, f1.frame fun b _ o h => e3 b o h⟩), (by omega), k⟩
      · refine Or.inr (Or.inl ?_)
        have rr := (learnerOk (Z := Z) (many := 3) (step := 1) (by decide) (by decide) (by decide) (by decide)).up r3 ((e1.trans eb).trans e2)
        obtain ⟨o1, d1, l1, hi, _, _⟩ := id rr
        walk_at "st"
        refine w_newL (Nat.le_of_ble_eq_true rfl) fun a3 H3 n3 e3 h3 => ?_
        walk_at "st"
        refine w_pickI (ns := [-1 - far, 3, 3 + far]) h3 (by omega) (by show _ < (3 : Int); omega) fun n hn => ?_
        have hn : n = -1 - far ∨ n = 3 ∨ n = 3 + far := by simpa using hn
        walk_at "st"
        exact ⟨3, 1, y, _, F3, n, rfl, (learnerOk (Z := Z) (many := 3) (step := 1) (by decide) (by decide) (by decide) (by decide)).up rr e3, (by omega), k⟩
      · refine Or.inr (Or.inr ?_)
        have rr := (plainOk (Z := Z) (cs := [1, 2, 3]) (by decide)).up r5 e2
        obtain ⟨o1, d1, l1, hi, _, _⟩ := id rr
        walk_at "st"
        refine w_newL (Nat.le_of_ble_eq_true rfl) fun a3 H3 n3 e3 h3 => ?_
        walk_at "st"
        refine w_pickI (ns := [-1 - far, 3, 3 + far]) h3 (by omega) (by show _ < (3 : Int); omega) fun n hn => ?_
        have hn : n = -1 - far ∨ n = 3 ∨ n = 3 + far := by simpa using hn
        walk_at "st"
        exact ⟨[1, 2, 3], z, F5, n, rfl, (plainOk (Z := Z) (cs := [1, 2, 3]) (by decide)).up rr e3, ask_n (by simp; omega) k⟩
    walk_at "st"
    walk_at "both" <;> intro c6
    · walk_at "st"
      refine w_newL (Nat.le_of_ble_eq_true rfl) fun a1 H1 n1 e1 h1 => ?_
      walk_at "st"
      refine w_rMk fun x dx G nx ex hx fx => ?_
      refine ⟨x, dx, a1, [1, 0, 2], 10, 4, rfl, hx, SqL.of (ex _ _ h1), ask_y (by decide) (ask_y (by decide) fun G2 F r kk gg => ⟨rfl, ?_⟩)⟩
      obtain ⟨_, dy, _, _, hi, _⟩ := id r
      walk_at "st"
      exact ⟨_, _, _, _, x, F, sg, rfl, r, nb, k⟩
    walk_at "st"
    walk_at "both" <;> intro c7
    · walk_at "st"
      refine w_newL (Nat.le_of_ble_eq_true rfl) fun a1 H1 n1 e1 h1 => ?_
      walk_at "st"
      refine w_newL (Nat.le_of_ble_eq_true rfl) fun a2 H2 n2 e2 h2 => ?_
      walk_at "st"
      refine w_newL (Nat.le_of_ble_eq_true rfl) fun a3 H3 n3 e3 h3 => ?_
      walk_at "st"
      refine w_newL (Nat.le_of_ble_eq_true rfl) fun a4 H4 n4 e4 h4 => ?_
      walk_at "st"
      refine w_newL (Nat.le_of_ble_eq_true rfl) fun a5 H5 n5 e5 h5 => ?_
      walk_at "st"
      refine w_newL (Nat.le_of_ble_eq_true rfl) fun a6 H6 n6 e6 h6 => ?_
      walk_at "st"
      refine w_newL (Nat.le_of_ble_eq_true rfl) fun a7 H7 n7 e7 h7 => ?_
      walk_at "st"
      refine w_newL (Nat.le_of_ble_eq_true rfl) fun a8 H8 n8 e8 h8 => ?_
      walk_at "st"
      refine w_pickI (ns := [-1 - far, 3, 3 + far]) h8 (by omega) (by show _ < (3 : Int); omega) fun n hn => ?_
      have hn : n = -1 - far ∨ n = 3 ∨ n = 3 + far := by simpa using hn
      walk_at "st"
      exact ⟨_, n, a1, a3, a7, [1], [[1, 1, 1]], [[1], [1], [1]], rfl, (SqL.of (by walk_at "hp1")), (tab1 (by walk_at "hp1") (SqL.of (by walk_at "hp1"))), (tab3 (by walk_at "hp1") (SqL.of (by walk_at "hp1")) (SqL.of (by walk_at "hp1")) (SqL.of (by walk_at "hp1"))), ask_y (by decide) (ask_y (by decide) ⟨by simp; omega, k⟩)⟩
    walk_at "st"
    walk_at "both" <;> intro c8
    · walk_at "st"
      refine w_newL (Nat.le_of_ble_eq_true rfl) fun a1 H1 n1 e1 h1 => ?_
      walk_at "st"
      refine w_rMk fun x dx G nx ex hx fx => ?_
      refine ⟨x, dx, a1, [1, 0, 2], rfl, hx, (by walk_at "hp1"), ask_y (by decide) fun G2 F step r kk gg => ⟨rfl, ?_⟩⟩
      obtain ⟨_, _, dy, _, _, _, _, _, hi, _, _, _, _, _, _, _⟩ := id r
      walk_at "st"
      exact ⟨_, step, x, F, sg, 1, rfl, r, ask_n nb k⟩
    walk_at "st"
    refine w_newL (Nat.le_of_ble_eq_true rfl) fun a1 H1 n1 e1 h1 => ?_
    walk_at "st"
    refine w_rMk fun x dx G nx ex hx fx => ?_
    refine ⟨x, dx, a1, [1, 0, 2], rfl, hx, (by walk_at "hp1"), ask_y (by decide) fun G2 F step r kk gg => ⟨rfl, ?_⟩⟩
    obtain ⟨_, _, dy, _, _, _, _, _, hi, _, _, _, _, _, _, _⟩ := id r
    walk_at "st"
    refine w_newL (Nat.le_of_ble_eq_true rfl) fun a2 H2 n2 e2 h2 => ?_
    walk_at "st"
    exact ⟨_, step, x, F, 4, a2, [2, sg], rfl, r.up e2, SqL.of h2, ask_y (by decide) ⟨⟨sg, by simp, nb⟩, k⟩⟩
theorem sc__law_no_slot : FnScope ["cell", "far"] ["cell", "far"] (defScope s__law_no_slot) := ⟨rfl, rfl, rfl, by decide +kernel, rfl, by decide +kernel, by decide +kernel⟩
def sp__law_no_slot (K : PySem.W.Frag) (Z : Zs) : Sp := fun vs H _ E => ∃ (cell far : Int), vs = [.int cell, .int far] ∧ 0 ≤ far ∧ Due E Z.noslot
theorem f__law_no_slot {f : Addr} {fd : FuncData} (F : Fun K "_law_no_slot" "_law_no_slot" s__law_no_slot f fd) (T : Txt K mg Z) (xf_sign_of : CalX P w K mg base 2 "sign_of" (sp_sign_of K Z)) (mx_Slots_raised : MetX P w K mg base 2 Z.slots "raised" (sp_Slots_raised K Z)) (nx_Slots_1 : MakX P w K mg base 2 "Slots" Z.slots (sp_Slots_init K Z) [])  : FnOk P w K mg base (L2.CX P w) 4 f fd ["cell", "far"] (sp__law_no_slot K Z) := by
  refine F.okX sc__law_no_slot (fun vs H Q E h => ?_) (fun cdv A outer s H vs Q E hr h => ?_)
  · obtain ⟨cel, far, rfl, f0, k⟩ := h
    rfl
  · obtain ⟨cel, far, rfl, f0, k⟩ := h
    refine ⟨_, (pss_one (ps_if (pt_cmpR op_eq (pe_op op_mod (pv 0) pe_int) pe_int (nomark _)) (pss_one (ps_expr (pe_cX xf_sign_of hr (by decide) (takes_of rfl rfl rfl rfl) rfl (pa_cons (pe_lst (pa_cons pe_int (pa_cons pe_int (pa_cons pe_int pa_nil)))) (pa_cons (pe_ix (n_ixL (K := K) rfl) (pe_lst (pa_cons (pe_op op_sub (pe_un un_neg pe_int) (pv 1)) (pa_cons pe_int (pa_cons (pe_op op_add pe_int (pv 1)) pa_nil)))) (pe_op op_mod (pe_op op_fdiv (pv 0) pe_int) pe_int) (fun _ _ => rfl)) pa_nil))))) (pss_one (ps_expr (pe_mtX mx_Slots_raised hr (by decide) (takes_of rfl rfl rfl rfl) (pe_mkX nx_Slots_1 hr (by decide) (takes_of rfl rfl rfl rfl) rfl (pa_cons (pe_lst (pa_cons pe_int (pa_cons pe_int (pa_cons pe_int pa_nil)))) pa_nil)) (pa_cons pe_int (pa_cons (pe_ix (n_ixL (K := K) rfl) (pe_lst (pa_cons pe_int (pa_cons pe_int (pa_cons (pe_un un_neg (pv 1)) (pa_cons (pe_op op_add pe_int (pv 1)) pa_nil))))) (pe_op op_mod (pe_op op_fdiv (pv 0) pe_int) pe_int) (fun _ _ => rfl)) pa_nil))))))), ?_⟩
    walk_at "st"
    walk_at "both" <;> intro c0
    · walk_at "st"
      refine w_newL (Nat.le_of_ble_eq_true rfl) fun a1 H1 n1 e1 h1 => ?_
      walk_at "st"
      refine w_newL (Nat.le_of_ble_eq_true rfl) fun a2 H2 n2 e2 h2 => ?_
      walk_at "st"
      refine w_pickI (ns := [-1 - far, 3, 3 + far]) h2 (by omega) (by show _ < (3 : Int); omega) fun n hn => ?_
      have hn : n = -1 - far ∨ n = 3 ∨ n = 3 + far := by simpa using hn
      walk_at "st"
      exact ⟨a1, [1, 0, 2], n, rfl, SqL.of (e2 _ _ h1), ask_y (by decide) ⟨by simp; omega, k⟩⟩
    walk_at "st"
    refine w_newL (Nat.le_of_ble_eq_true rfl) fun a1 H1 n1 e1 h1 => ?_
    walk_at "st"
    refine w_rMk fun x dx G nx ex hx fx => ?_
    refine ⟨x, dx, a1, [1, 0, 2], rfl, hx, (by walk_at "hp1"), ask_y (by decide) fun G2 F step r kk gg => ⟨rfl, ?_⟩⟩
    obtain ⟨_, _, dy, _, _, _, _, _, hi, _, _, _, _, _, _, _⟩ := id r
    walk_at "st"
    refine w_newL (Nat.le_of_ble_eq_true rfl) fun a2 H2 n2 e2 h2 => ?_
    walk_at "st"
    refine w_pickI (ns := [1, 4, -far, 4 + far]) h2 (by omega) (by show _ < (4 : Int); omega) fun n hn => ?_
    have hn : n = 1 ∨ n = 4 ∨ n = -far ∨ n = 4 + far := by simpa using hn
    walk_at "st"
    exact ⟨_, step, x, F, 2, n, rfl, r.up e2, ask_y (by decide) ⟨(fun z => by
      have z0 : (2 : Int) ≤ n := z.1
      have z1 : n < 2 * (2 : Int) := z.2
      omega), k⟩⟩
theorem sc__law_done : FnScope ["way", "cell", "far"] ["way", "cell", "far"] (defScope s__law_done) := ⟨rfl, rfl, rfl, by decide +kernel, rfl, by decide +kernel, by decide +kernel⟩
def sp__law_done (K : PySem.W.Frag) (Z : Zs) : Sp := fun vs H _ E => ∃ (i : Nat) (cell far : Int), vs = [.int (i : Int), .int cell, .int far] ∧ i < 7 ∧ 0 ≤ far ∧ Due E (cl7 Z i)
theorem f__law_done {f : Addr} {fd : FuncData} (F : Fun K "_law_done" "_law_done" s__law_done f fd) (T : Txt K mg Z) (xf__law_no_shares : CalX P w K mg base 7 "_law_no_shares" (sp__law_no_shares K Z)) (xf__law_no_pile : CalX P w K mg base 6 "_law_no_pile" (sp__law_no_pile K Z)) (xf__law_no_sign : CalX P w K mg base 6 "_law_no_sign" (sp__law_no_sign K Z)) (xf__law_no_slot : CalX P w K mg base 4 "_law_no_slot" (sp__law_no_slot K Z)) (mx_Stream_take_sign : MetX P w K mg base 3 Z.stream "take_sign" (sp_Stream_take_sign K Z)) (nx_Stream_3 : MakX P w K mg base 2 "Stream" Z.stream (sp_Stream_init K Z) []) (mx_Slots_taken : MetX P w K mg base 3 Z.slots "taken" (sp_Slots_taken K Z)) (nx_Slots_1 : MakX P w K mg base 2 "Slots" Z.slots (sp_Slots_init K Z) []) (xf_packed : CalX P w K mg base 3 "packed" (sp_packed K Z)) (xf_unpacked : CalX P w K mg base 4 "unpacked" (sp_unpacked K Z))  : FnOk P w K mg base (L2.CX P w) 8 f fd ["way", "cell", "far"] (sp__law_done K Z) := by
  refine F.okX sc__law_done (fun vs H Q E h => ?_) (fun cdv A outer s H vs Q E hr h => ?_)
  · obtain ⟨i, cel, far, rfl, hi, f0, k⟩ := h
    rfl
  · obtain ⟨i, cel, far, rfl, hi, f0, k⟩ := h
    refine ⟨_, (pss_one (ps_if (pt_cmpR op_eq (pv 0) pe_int (nomark _)) (pss_one (ps_expr (pe_cX xf__law_no_shares hr (by decide) (takes_of rfl rfl rfl rfl) rfl (pa_cons (pv 1) (pa_cons (pv 2) pa_nil))))) (pss_one (ps_if (pt_cmpR op_eq (pv 0) pe_int (nomark _)) (pss_one (ps_expr (pe_cX xf__law_no_pile hr (by decide) (takes_of rfl rfl rfl rfl) rfl (pa_cons (pv 1) (pa_cons (pv 2) pa_nil))))) (pss_one (ps_if (pt_cmpR op_eq (pv 0) pe_int (nomark _)) (pss_one (ps_expr (pe_cX xf__law_no_sign hr (by decide) (takes_of rfl rfl rfl rfl) rfl (pa_cons (pv 1) (pa_cons (pv 2) pa_nil))))) (pss_one (ps_if (pt_cmpR op_eq (pv 0) pe_int (nomark _)) (pss_one (ps_expr (pe_cX xf__law_no_slot hr (by decide) (takes_of rfl rfl rfl rfl) rfl (pa_cons (pv 1) (pa_cons (pv 2) pa_nil))))) (pss_one (ps_if (PW.pt (pw_and (pt_cmpR op_eq (pv 0) pe_int (nomark _)) (pw_and1 (pt_cmpR op_eq (pe_op op_mod (pv 1) pe_int) pe_int (nomark _))))) (pss_one (ps_expr (pe_mtX0 mx_Stream_take_sign hr (by decide) (takes_of rfl rfl rfl rfl) (pe_mkX nx_Stream_3 hr (by decide) (takes_of rfl rfl rfl rfl) rfl (pa_cons (pe_lst (pa_cons pe_int (pa_cons pe_int pa_nil))) (pa_cons pe_int (pa_cons (pe_op op_add pe_int (pe_op op_mod (pe_op op_fdiv (pv 1) pe_int) pe_int)) pa_nil))))))) (pss_one (ps_if (pt_cmpR op_eq (pv 0) pe_int (nomark _)) (pss_one (ps_expr (pe_mtX mx_Slots_taken hr (by decide) (takes_of rfl rfl rfl rfl) (pe_mkX nx_Slots_1 hr (by decide) (takes_of rfl rfl rfl rfl) rfl (pa_cons (pe_lst (pa_cons pe_int (pa_cons pe_int (pa_cons pe_int pa_nil)))) pa_nil)) (pa_cons (pe_op op_add pe_int (pe_op op_mod (pe_op op_fdiv (pv 1) pe_int) pe_int)) (pa_cons (pe_lst pa_nil) (pa_cons pe_int pa_nil)))))) (pss_one (ps_if (pt_cmpR op_eq (pv 0) pe_int (nomark _)) (pss_one (ps_expr (pe_cX xf_packed hr (by decide) (takes_of rfl rfl rfl rfl) rfl (pa_cons (pe_ix (n_ixL (K := K) rfl) (pe_lst (pa_cons (pe_op n_mulS (n_str (l := [120]) (by decide +kernel)) pe_int) (pa_cons (n_str (l := [97, 10, 98]) (by decide +kernel)) (pa_cons (n_str (l := [9]) (by decide +kernel)) (pa_cons (pe_op n_mulS (n_str (l := [120]) (by decide +kernel)) (pe_op op_add pe_int (pe_op op_mod (pv 2) pe_int))) pa_nil))))) (pe_op op_mod (pv 1) pe_int) (fun _ _ => rfl)) pa_nil)))) (pss_one (ps_expr (pe_cX xf_unpacked hr (by decide) (takes_of rfl rfl rfl rfl) rfl (pa_cons (pe_ix (n_ixL (K := K) rfl) (pe_lst (pa_cons (n_str (l := []) (by decide +kernel)) (pa_cons (n_str (l := [59]) (by decide +kernel)) (pa_cons (n_str (l := [49, 120, 49]) (by decide +kernel)) (pa_cons (n_str (l := [49, 120, 49, 59, 98, 59]) (by decide +kernel)) (pa_cons (n_str (l := [57, 120, 57]) (by decide +kernel)) pa_nil)))))) (pe_op op_mod (pv 1) pe_int) (fun _ _ => rfl)) pa_nil)))))))))))))))))), ?_⟩
    walk_at "st"
    walk_at "both" <;> intro c0
    · obtain rfl : i = 0 := by omega
      walk_at "st"
      exact ⟨cel, far, rfl, f0, k⟩
    walk_at "st"
    walk_at "both" <;> intro c1
    · obtain rfl : i = 1 := by omega
      walk_at "st"
      exact ⟨cel, far, rfl, f0, k⟩
    walk_at "st"
    walk_at "both" <;> intro c2
    · obtain rfl : i = 2 := by omega
      walk_at "st"
      exact ⟨cel, far, rfl, f0, k⟩
    walk_at "st"
    walk_at "both" <;> intro c3
    · obtain rfl : i = 3 := by omega
      walk_at "st"
      exact ⟨cel, far, rfl, f0, k⟩
    walk_at "st"
    walk_at "both" <;> intro c4
    · walk_at "st"
      walk_at "both" <;> intro d4
      · obtain rfl : i = 4 := by omega
        walk_at "st"
        refine w_newL (Nat.le_of_ble_eq_true rfl) fun a1 H1 n1 e1 h1 => ?_
        walk_at "st"
        refine w_rMk fun x dx G nx ex hx fx => ?_
        refine ⟨x, dx, a1, [1, 2], 10, 1 + cel / 2 % 100, rfl, hx, SqL.of (ex _ _ h1), ask_y (by decide) (ask_y ⟨by decide, by decide, by omega, by omega⟩ fun G2 F r kk gg => ⟨rfl, ?_⟩)⟩
        obtain ⟨_, dy, _, _, hi2, _⟩ := id r
        walk_at "st"
        have fl : flowed [1, 2] 10 (1 + cel / 2 % 100) ((1 + cel / 2 % 100) * ([1, 2] : List Int).sum, []) = none := stream_lacks (by omega)
        refine ⟨_, _, _, _, x, F, rfl, r, by simp, fun r2 h => ?_, fun _ H' _ => k H'⟩
        rw [fl] at h
        cases h
      walk_at "st"
      obtain rfl : i = 4 := by omega
      walk_at "st"
      refine w_newL (Nat.le_of_ble_eq_true rfl) fun a1 H1 n1 e1 h1 => ?_
      walk_at "st"
      refine w_rMk fun x dx G nx ex hx fx => ?_
      refine ⟨x, dx, a1, [1, 2, 3], rfl, hx, (by walk_at "hp1"), ask_y (by decide) fun G2 F step r kk gg => ⟨rfl, ?_⟩⟩
      obtain ⟨_, _, dy, _, _, _, _, _, hi, _, _, _, _, _, _, _⟩ := id r
      walk_at "st"
      refine w_newL (Nat.le_of_ble_eq_true rfl) fun a2 H2 n2 e2 h2 => ?_
      walk_at "st"
      exact ⟨_, step, x, F, _, a2, 9, rfl, r.up e2, SqL.of h2, ask_y (by simp; omega) ⟨by decide, by decide, slots_lack r.1 r.2.1, k⟩⟩
    walk_at "st"
    walk_at "both" <;> intro c5
    · obtain rfl : i = 5 := by omega
      walk_at "st"
      refine w_mulS (by decide) (by decide) ?_
      walk_at "st"
      refine w_mulS (by omega) (by omega) ?_
      walk_at "st"
      refine w_newL (Nat.le_of_ble_eq_true rfl) fun a1 H1 n1 e1 h1 => ?_
      walk_at "st"
      refine w_pickL (SqL.of h1) (by omega) (by show _ < (4 : Int); omega) fun v hv => ?_
      simp only [List.mem_cons, List.not_mem_nil, or_false] at hv
      walk_at "st"
      rcases hv with rfl | rfl | rfl | rfl
      · exact ⟨_, rfl, (by rw [List.length_replicate]; decide), .inl ⟨fun z => by have := z.1; rw [List.length_replicate] at this; exact absurd this (by decide), k⟩⟩
      · exact ⟨_, rfl, (by decide), .inl ⟨(by decide), k⟩⟩
      · exact ⟨_, rfl, (by decide), .inl ⟨(by decide), k⟩⟩
      · exact ⟨_, rfl, (by rw [List.length_replicate]; omega), .inl ⟨fun z => by have := z.1; rw [List.length_replicate] at this; omega, k⟩⟩
    obtain rfl : i = 6 := by omega
    walk_at "st"
    refine w_newL (Nat.le_of_ble_eq_true rfl) fun a1 H1 n1 e1 h1 => ?_
    walk_at "st"
    refine w_pickL (SqL.of h1) (by omega) (by show _ < (5 : Int); omega) fun v hv => ?_
    simp only [List.mem_cons, List.not_mem_nil, or_false] at hv
    walk_at "st"
    obtain ⟨l, rfl, hl, hn⟩ : ∃ l, v = .str (S l) ∧ l.length ≤ 10000 ∧ unpackL l = none := by
      rcases hv with rfl | rfl | rfl | rfl | rfl
      · exact ⟨_, rfl, (by decide), (by decide +kernel)⟩
      · exact ⟨_, rfl, (by decide), (by decide +kernel)⟩
      · exact ⟨_, rfl, (by decide), (by decide +kernel)⟩
      · exact ⟨_, rfl, (by decide), (by decide +kernel)⟩
      · exact ⟨_, rfl, (by decide), (by decide +kernel)⟩
    refine ⟨l, rfl, hl, fun ps h => ?_, fun _ H' _ => k H'⟩
    rw [hn] at h
    cases h
theorem sc_law : FnScope ["script", "way", "far", "told", "e", "k"] ["script"] (defScope s_law) := ⟨rfl, rfl, rfl, by decide +kernel, rfl, by decide +kernel, by decide +kernel⟩
def sp_law (K : PySem.W.Frag) : Sp := fun vs H Q _ => ∃ (a : Addr) (ns : List Int), vs = [.ref a] ∧ SqL K H a (iL ns) ∧ ns.length ≤ 63 ∧ ∀ H', Q (.bl true) H'
theorem f_law {f : Addr} {fd : FuncData} (F : Fun K "law" "law" s_law f fd) (T : Txt K mg Z) (c__law_cell_at : Cal P w K mg base 1 "_law_cell_at" (sp__law_cell_at K Z) []) (xf__law_done : CalX P w K mg base 8 "_law_done" (sp__law_done K Z)) (ce__law_which : CalE P w K mg base 1 "_law_which" (cl7 Z) (sp__law_which K Z))  : FnOk P w K mg base CX0 9 f fd ["script"] (sp_law K) := by
  refine F.ok sc_law (fun vs H Q E h => ?_) (fun cdv A outer s H vs Q E hr h => ?_)
  · obtain ⟨a, ns, rfl, hS, hl, k⟩ := h
    rfl
  · obtain ⟨a, ns, rfl, hS, hl, k⟩ := h
    refine ⟨_, (pss_cons (ps_set (i := 1) sc_law.nd rfl (Or.inr rfl) (pe_op op_mod (pe_c c__law_cell_at hr (by decide) rfl (pa_cons (pv 0) (pa_cons pe_int pa_nil))) pe_int))
      (pss_cons (ps_set (i := 2) sc_law.nd rfl (Or.inl rfl) (pe_op op_mod (pe_c c__law_cell_at hr (by decide) rfl (pa_cons (pv 0) (pa_cons pe_int pa_nil))) (pe_op op_pow pe_int pe_int)))
      (pss_cons (ps_set (i := 3) sc_law.nd rfl (Or.inl rfl) (pe_lst pa_nil))
      (pss_cons (ps_tryIn (K := K) (i := 4) (m := 7) (cl := cl7 Z) rfl rfl rfl sc_law.nd rfl rfl (by rfl) (by decide) T.ec_PileError (fun W pn xe tk _ => (pss_one (ps_expr (pe_cX xf__law_done hr (by decide) tk rfl (pa_cons (pv 1) (pa_cons (pe_c c__law_cell_at hr (by decide) rfl (pa_cons (pv 0) (pa_cons pe_int pa_nil))) (pa_cons (pv 2) pa_nil))))))) (fun a oe pn h hh hz hf => (pss_one (ps_set (i := 3) sc_law.nd rfl (Or.inl rfl) (pe_cE (i := h) ce__law_which (roomS hr) (by decide) hz hf rfl (pa_cons (pv 4) pa_nil))))))
      (pss_one (ps_ret (pe_cmpR (n_eqD (K := K) rfl hr.units) (pv 3) (pe_lc (own := [("k", 5)]) (g := gName 5) (tt := tYes) rfl sc_law.nd (pi_range1 rfl T.b_range (pa_cons pe_int pa_nil)) (blkOk_by (own := [("k", 5)]) (N := ["script", "way", "far", "told", "e", "k"]) (sc := defScope s_law) (by decide +kernel)) (fun _ _ _ _ _ => pg_name (i := 5) sc_law.nd rfl (Or.inl rfl)) (fun _ _ _ _ _ => pts_nil) (fun _ _ _ _ _ => by exact (pe_or (pe_cmpR op_eq (pv 5) (pv 1) (nomark _)) (pe_one (pe_cmpR op_eq (pv 5) pe_int (nomark _)))))) (nomark _)))))))), ?_⟩
    have f0 := Int.emod_nonneg (cell ns 2) (show (10 ^ 59 : Int) ≠ 0 by decide)
    obtain ⟨i, ei⟩ : ∃ i : Nat, cell ns 0 % 7 = (i : Int) := ⟨(cell ns 0 % 7).toNat, by omega⟩
    have hi : i < 7 := by omega
    have em : ∀ i, i < 7 → PySem.W.exmOne K (.ref (cl7 Z i)) (.ref Z.pileerror) = some true := seven (B := fun i => PySem.W.exmOne K (.ref (cl7 Z i)) (.ref Z.pileerror) = some true) T.em_NoShares T.em_NoPile T.em_NoSign T.em_NoSlot T.em_NoMore T.em_NoText T.em_NotLeaf
    walk_at "st"
    rw [ei]
    refine w_newL (Nat.zero_le _) fun t0 H0 n0 e0 h0 => ?_
    walk_at "st"
    refine ⟨i, _, _, rfl, hi, f0, fun G => ?_⟩
    refine w_caughtIn hi (em i hi) fun x _ => ?_
    walk_at "st"
    refine ⟨rfl, hi, fun p H' e hp => ?_⟩
    walk_at "st"
    refine w_lcR (fun j => .bl (decide (j = i) || decide (j = 7))) (by decide) (fun _ => rfl) (fun j G1 e1 hj => to_ev fun G2 e2 QQ qq => ?_) fun q H2 nq e2 hq => ?_
    · walk_at "st"
      walk_at "both" <;> intro c
      · have ej : j = i := by omega
        rw [decide_eq_true ej, Bool.true_or] at qq
        walk_at "st"
        exact qq _ (Ex.refl _)
      · have ej : ¬ j = i := by omega
        rw [decide_eq_false ej, Bool.false_or, show decide (j = 7) = decide ((j : Int) = 7) from decide_eq_decide.mpr (by omega)] at qq
        walk_at "st"
        exact qq _ (Ex.refl _)
    have ht : ∀ i, i < 7 → (List.range 8).map (fun j : Nat => V.bl (decide (j = i) || decide (j = 7))) = bL (told7 i) := seven (B := fun i => (List.range 8).map (fun j : Nat => V.bl (decide (j = i) || decide (j = 7))) = bL (told7 i)) rfl rfl rfl rfl rfl rfl rfl
    refine w_eqB (bs := told7 i) (SqL.of (e2 _ _ hp)) (SqL.of ?_) ?_
    · rw [hq]
      exact congrArg (fun z => some (HO.lst z)) (ht i hi)
    exact k _
end
theorem all_mk {l : PySem.W.OpenLaw} {w : World} {K : PySem.W.Frag} {h : Heap} {mg : Str → Option Value} {fa f0 f1 f2 f3 f4 f5 f6 f7 f8 f9 f10 f11 f12 f13 f14 f15 f16 f17 f18 f19 f20 f21 f22 f23 f24 f25 f26 f27 f28 f29 f30 f31 f32 f33 f34 f35 f36 f37 f38 f39 f40 f41 f42 f43 f44 f45 f46 f47 f48 f49 f50 f51 f52 f53 f54 f55 f56 f57 f58 f59 f60 f61 f62 CModel CPlain CLearner CFollower CSlots CStream CNoShares CNoPile CNoSign CNoSlot CNoMore CNoText CNotLeaf : Addr} (X : K.In h) (G : h.Ns mainGlobals mg) (hfa : mg "law" = some (.ref fa))
    {od0 an0 od1 an1 od2 an2 od3 an3 od4 an4 od5 an5 od6 an6 od7 an7 od8 an8 od9 an9 od10 an10 od11 an11 od12 an12 od13 an13 od14 an14 od15 an15 od16 an16 od17 an17 od18 an18 od19 an19 od20 an20 od21 an21 od22 an22 od23 an23 od24 an24 od25 an25 od26 an26 od27 an27 od28 an28 od29 an29 od30 an30 od31 an31 od32 an32 od33 an33 od34 an34 od35 an35 od36 an36 od37 an37 od38 an38 od39 an39 od40 an40 od41 an41 od42 an42 od43 an43 od44 an44 od45 an45 od46 an46 od47 an47 od48 an48 od49 an49 od50 an50 od51 an51 od52 an52 od53 an53 od54 an54 od55 an55 od56 an56 od57 an57 od58 an58 od59 an59 od60 an60 od61 an61 od62 an62 : Option Addr} {sl0 sl1 sl2 sl3 sl4 sl5 sl6 sl7 sl8 sl9 sl10 sl11 sl12 sl13 sl14 sl15 sl16 sl17 sl18 sl19 sl20 sl21 sl22 sl23 sl24 sl25 sl26 sl27 sl28 sl29 sl30 sl31 sl32 sl33 sl34 sl35 sl36 sl37 sl38 sl39 sl40 sl41 sl42 sl43 sl44 sl45 sl46 sl47 sl48 sl49 sl50 sl51 sl52 sl53 sl54 sl55 sl56 sl57 sl58 sl59 sl60 sl61 sl62 : Array (Option Value)} {oc0 kV0 dc0 pm0 cd0 ct0 oc1 kV1 dc1 pm1 cd1 ct1 oc2 kV2 dc2 pm2 cd2 ct2 oc3 kV3 dc3 pm3 cd3 ct3 oc4 kV4 dc4 pm4 cd4 ct4 oc5 kV5 dc5 pm5 cd5 ct5 oc6 kV6 dc6 pm6 cd6 ct6 oc7 kV7 dc7 pm7 cd7 ct7 oc8 kV8 dc8 pm8 cd8 ct8 oc9 kV9 dc9 pm9 cd9 ct9 oc10 kV10 dc10 pm10 cd10 ct10 oc11 kV11 dc11 pm11 cd11 ct11 oc12 kV12 dc12 pm12 cd12 ct12 oc13 kV13 dc13 pm13 cd13 ct13 oc14 kV14 dc14 pm14 cd14 ct14 oc15 kV15 dc15 pm15 cd15 ct15 oc16 kV16 dc16 pm16 cd16 ct16 oc17 kV17 dc17 pm17 cd17 ct17 oc18 kV18 dc18 pm18 cd18 ct18 oc19 kV19 dc19 pm19 cd19 ct19 oc20 kV20 dc20 pm20 cd20 ct20 oc21 kV21 dc21 pm21 cd21 ct21 oc22 kV22 dc22 pm22 cd22 ct22 oc23 kV23 dc23 pm23 cd23 ct23 oc24 kV24 dc24 pm24 cd24 ct24 oc25 kV25 dc25 pm25 cd25 ct25 oc26 kV26 dc26 pm26 cd26 ct26 oc27 kV27 dc27 pm27 cd27 ct27 oc28 kV28 dc28 pm28 cd28 ct28 oc29 kV29 dc29 pm29 cd29 ct29 oc30 kV30 dc30 pm30 cd30 ct30 oc31 kV31 dc31 pm31 cd31 ct31 oc32 kV32 dc32 pm32 cd32 ct32 oc33 kV33 dc33 pm33 cd33 ct33 oc34 kV34 dc34 pm34 cd34 ct34 oc35 kV35 dc35 pm35 cd35 ct35 oc36 kV36 dc36 pm36 cd36 ct36 oc37 kV37 dc37 pm37 cd37 ct37 oc38 kV38 dc38 pm38 cd38 ct38 oc39 kV39 dc39 pm39 cd39 ct39 oc40 kV40 dc40 pm40 cd40 ct40 oc41 kV41 dc41 pm41 cd41 ct41 oc42 kV42 dc42 pm42 cd42 ct42 oc43 kV43 dc43 pm43 cd43 ct43 oc44 kV44 dc44 pm44 cd44 ct44 oc45 kV45 dc45 pm45 cd45 ct45 oc46 kV46 dc46 pm46 cd46 ct46 oc47 kV47 dc47 pm47 cd47 ct47 oc48 kV48 dc48 pm48 cd48 ct48 oc49 kV49 dc49 pm49 cd49 ct49 oc50 kV50 dc50 pm50 cd50 ct50 oc51 kV51 dc51 pm51 cd51 ct51 oc52 kV52 dc52 pm52 cd52 ct52 oc53 kV53 dc53 pm53 cd53 ct53 oc54 kV54 dc54 pm54 cd54 ct54 oc55 kV55 dc55 pm55 cd55 ct55 oc56 kV56 dc56 pm56 cd56 ct56 oc57 kV57 dc57 pm57 cd57 ct57 oc58 kV58 dc58 pm58 cd58 ct58 oc59 kV59 dc59 pm59 cd59 ct59 oc60 kV60 dc60 pm60 cd60 ct60 oc61 kV61 dc61 pm61 cd61 ct61 oc62 kV62 dc62 pm62 cd62 ct62 : Value}
    (z_Model : PySem.W.nsIn K mainGlobals "Model" = some (some (.ref CModel)))
    (z_Plain : PySem.W.nsIn K mainGlobals "Plain" = some (some (.ref CPlain)))
    (z_Learner : PySem.W.nsIn K mainGlobals "Learner" = some (some (.ref CLearner)))
    (z_Follower : PySem.W.nsIn K mainGlobals "Follower" = some (some (.ref CFollower)))
    (z_Slots : PySem.W.nsIn K mainGlobals "Slots" = some (some (.ref CSlots)))
    (z_Stream : PySem.W.nsIn K mainGlobals "Stream" = some (some (.ref CStream)))
    (a0 : PySem.W.nsIn K mainGlobals "_wall" = some (some (.ref f0)))
    (l0 : K.lookup f0 = some ⟨oc0, od0, .func (PySem.W.fnOf "_wall" "_wall" (defArgs s__wall) (defBody s__wall) (defScope s__wall) .none kV0 dc0 pm0 an0 cd0 ct0), sl0⟩)
    (c0 : PySem.W.codeIn K cd0 "_wall" = true)
    (k0 : PySem.W.keepIn K (.ref f0) = true)
    (a1 : PySem.W.nsIn K mainGlobals "ask_counts" = some (some (.ref f1)))
    (l1 : K.lookup f1 = some ⟨oc1, od1, .func (PySem.W.fnOf "ask_counts" "ask_counts" (defArgs s_ask_counts) (defBody s_ask_counts) (defScope s_ask_counts) .none kV1 dc1 pm1 an1 cd1 ct1), sl1⟩)
    (c1 : PySem.W.codeIn K cd1 "ask_counts" = true)
    (k1 : PySem.W.keepIn K (.ref f1) = true)
    (a2 : PySem.W.nsIn K mainGlobals "holder" = some (some (.ref f2)))
    (l2 : K.lookup f2 = some ⟨oc2, od2, .func (PySem.W.fnOf "holder" "holder" (defArgs s_holder) (defBody s_holder) (defScope s_holder) .none kV2 dc2 pm2 an2 cd2 ct2), sl2⟩)
    (c2 : PySem.W.codeIn K cd2 "holder" = true)
    (k2 : PySem.W.keepIn K (.ref f2) = true)
    (a3 : PySem.W.nsIn K mainGlobals "whole" = some (some (.ref f3)))
    (l3 : K.lookup f3 = some ⟨oc3, od3, .func (PySem.W.fnOf "whole" "whole" (defArgs s_whole) (defBody s_whole) (defScope s_whole) .none kV3 dc3 pm3 an3 cd3 ct3), sl3⟩)
    (c3 : PySem.W.codeIn K cd3 "whole" = true)
    (k3 : PySem.W.keepIn K (.ref f3) = true)
    (a4 : PySem.W.nsIn K mainGlobals "first_of" = some (some (.ref f4)))
    (l4 : K.lookup f4 = some ⟨oc4, od4, .func (PySem.W.fnOf "first_of" "first_of" (defArgs s_first_of) (defBody s_first_of) (defScope s_first_of) .none kV4 dc4 pm4 an4 cd4 ct4), sl4⟩)
    (c4 : PySem.W.codeIn K cd4 "first_of" = true)
    (k4 : PySem.W.keepIn K (.ref f4) = true)
    (a5 : PySem.W.nsIn K mainGlobals "sign_of" = some (some (.ref f5)))
    (l5 : K.lookup f5 = some ⟨oc5, od5, .func (PySem.W.fnOf "sign_of" "sign_of" (defArgs s_sign_of) (defBody s_sign_of) (defScope s_sign_of) .none kV5 dc5 pm5 an5 cd5 ct5), sl5⟩)
    (c5 : PySem.W.codeIn K cd5 "sign_of" = true)
    (k5 : PySem.W.keepIn K (.ref f5) = true)
    (a6 : PySem.W.nsIn K mainGlobals "ask_pile" = some (some (.ref f6)))
    (l6 : K.lookup f6 = some ⟨oc6, od6, .func (PySem.W.fnOf "ask_pile" "ask_pile" (defArgs s_ask_pile) (defBody s_ask_pile) (defScope s_ask_pile) .none kV6 dc6 pm6 an6 cd6 ct6), sl6⟩)
    (c6 : PySem.W.codeIn K cd6 "ask_pile" = true)
    (k6 : PySem.W.keepIn K (.ref f6) = true)
    (a7 : PySem.W.nsIn K mainGlobals "ask_sign" = some (some (.ref f7)))
    (l7 : K.lookup f7 = some ⟨oc7, od7, .func (PySem.W.fnOf "ask_sign" "ask_sign" (defArgs s_ask_sign) (defBody s_ask_sign) (defScope s_ask_sign) .none kV7 dc7 pm7 an7 cd7 ct7), sl7⟩)
    (c7 : PySem.W.codeIn K cd7 "ask_sign" = true)
    (k7 : PySem.W.keepIn K (.ref f7) = true)
    (a8 : PySem.W.nsIn K mainGlobals "put_on" = some (some (.ref f8)))
    (l8 : K.lookup f8 = some ⟨oc8, od8, .func (PySem.W.fnOf "put_on" "put_on" (defArgs s_put_on) (defBody s_put_on) (defScope s_put_on) .none kV8 dc8 pm8 an8 cd8 ct8), sl8⟩)
    (c8 : PySem.W.codeIn K cd8 "put_on" = true)
    (k8 : PySem.W.keepIn K (.ref f8) = true)
    (a9 : PySem.W.nsIn K mainGlobals "taken_off" = some (some (.ref f9)))
    (l9 : K.lookup f9 = some ⟨oc9, od9, .func (PySem.W.fnOf "taken_off" "taken_off" (defArgs s_taken_off) (defBody s_taken_off) (defScope s_taken_off) .none kV9 dc9 pm9 an9 cd9 ct9), sl9⟩)
    (c9 : PySem.W.codeIn K cd9 "taken_off" = true)
    (k9 : PySem.W.keepIn K (.ref f9) = true)
    (a10 : PySem.W.nsIn K mainGlobals "lay" = some (some (.ref f10)))
    (l10 : K.lookup f10 = some ⟨oc10, od10, .func (PySem.W.fnOf "lay" "lay" (defArgs s_lay) (defBody s_lay) (defScope s_lay) .none kV10 dc10 pm10 an10 cd10 ct10), sl10⟩)
    (c10 : PySem.W.codeIn K cd10 "lay" = true)
    (k10 : PySem.W.keepIn K (.ref f10) = true)
    (a11 : PySem.W.nsIn K mainGlobals "take" = some (some (.ref f11)))
    (l11 : K.lookup f11 = some ⟨oc11, od11, .func (PySem.W.fnOf "take" "take" (defArgs s_take) (defBody s_take) (defScope s_take) .none kV11 dc11 pm11 an11 cd11 ct11), sl11⟩)
    (c11 : PySem.W.codeIn K cd11 "take" = true)
    (k11 : PySem.W.keepIn K (.ref f11) = true)
    (a12 : PySem.W.nsIn K mainGlobals "lay_row" = some (some (.ref f12)))
    (l12 : K.lookup f12 = some ⟨oc12, od12, .func (PySem.W.fnOf "lay_row" "lay_row" (defArgs s_lay_row) (defBody s_lay_row) (defScope s_lay_row) .none kV12 dc12 pm12 an12 cd12 ct12), sl12⟩)
    (c12 : PySem.W.codeIn K cd12 "lay_row" = true)
    (k12 : PySem.W.keepIn K (.ref f12) = true)
    (a13 : PySem.W.nsIn K mainGlobals "take_row" = some (some (.ref f13)))
    (l13 : K.lookup f13 = some ⟨oc13, od13, .func (PySem.W.fnOf "take_row" "take_row" (defArgs s_take_row) (defBody s_take_row) (defScope s_take_row) .none kV13 dc13 pm13 an13 cd13 ct13), sl13⟩)
    (c13 : PySem.W.codeIn K cd13 "take_row" = true)
    (k13 : PySem.W.keepIn K (.ref f13) = true)
    (a14 : PySem.W.nsIn K mainGlobals "ask_full" = some (some (.ref f14)))
    (l14 : K.lookup f14 = some ⟨oc14, od14, .func (PySem.W.fnOf "ask_full" "ask_full" (defArgs s_ask_full) (defBody s_ask_full) (defScope s_ask_full) .none kV14 dc14 pm14 an14 cd14 ct14), sl14⟩)
    (c14 : PySem.W.codeIn K cd14 "ask_full" = true)
    (k14 : PySem.W.keepIn K (.ref f14) = true)
    (a15 : PySem.W.nsIn K mainGlobals "ask_tables" = some (some (.ref f15)))
    (l15 : K.lookup f15 = some ⟨oc15, od15, .func (PySem.W.fnOf "ask_tables" "ask_tables" (defArgs s_ask_tables) (defBody s_ask_tables) (defScope s_ask_tables) .none kV15 dc15 pm15 an15 cd15 ct15), sl15⟩)
    (c15 : PySem.W.codeIn K cd15 "ask_tables" = true)
    (k15 : PySem.W.keepIn K (.ref f15) = true)
    (a16 : PySem.W.nsIn K mainGlobals "lay_hidden" = some (some (.ref f16)))
    (l16 : K.lookup f16 = some ⟨oc16, od16, .func (PySem.W.fnOf "lay_hidden" "lay_hidden" (defArgs s_lay_hidden) (defBody s_lay_hidden) (defScope s_lay_hidden) .none kV16 dc16 pm16 an16 cd16 ct16), sl16⟩)
    (c16 : PySem.W.codeIn K cd16 "lay_hidden" = true)
    (k16 : PySem.W.keepIn K (.ref f16) = true)
    (a17 : PySem.W.nsIn K mainGlobals "take_hidden" = some (some (.ref f17)))
    (l17 : K.lookup f17 = some ⟨oc17, od17, .func (PySem.W.fnOf "take_hidden" "take_hidden" (defArgs s_take_hidden) (defBody s_take_hidden) (defScope s_take_hidden) .none kV17 dc17 pm17 an17 cd17 ct17), sl17⟩)
    (c17 : PySem.W.codeIn K cd17 "take_hidden" = true)
    (k17 : PySem.W.keepIn K (.ref f17) = true)
    (a18 : PySem.W.nsIn K mainGlobals "by_letters" = some (some (.ref f18)))
    (l18 : K.lookup f18 = some ⟨oc18, od18, .func (PySem.W.fnOf "by_letters" "by_letters" (defArgs s_by_letters) (defBody s_by_letters) (defScope s_by_letters) .none kV18 dc18 pm18 an18 cd18 ct18), sl18⟩)
    (c18 : PySem.W.codeIn K cd18 "by_letters" = true)
    (k18 : PySem.W.keepIn K (.ref f18) = true)
    (a19 : PySem.W.nsIn K mainGlobals "by_pile" = some (some (.ref f19)))
    (l19 : K.lookup f19 = some ⟨oc19, od19, .func (PySem.W.fnOf "by_pile" "by_pile" (defArgs s_by_pile) (defBody s_by_pile) (defScope s_by_pile) .none kV19 dc19 pm19 an19 cd19 ct19), sl19⟩)
    (c19 : PySem.W.codeIn K cd19 "by_pile" = true)
    (k19 : PySem.W.keepIn K (.ref f19) = true)
    (a20 : PySem.W.nsIn K mainGlobals "figures_of" = some (some (.ref f20)))
    (l20 : K.lookup f20 = some ⟨oc20, od20, .func (PySem.W.fnOf "figures_of" "figures_of" (defArgs s_figures_of) (defBody s_figures_of) (defScope s_figures_of) .none kV20 dc20 pm20 an20 cd20 ct20), sl20⟩)
    (c20 : PySem.W.codeIn K cd20 "figures_of" = true)
    (k20 : PySem.W.keepIn K (.ref f20) = true)
    (a21 : PySem.W.nsIn K mainGlobals "packed" = some (some (.ref f21)))
    (l21 : K.lookup f21 = some ⟨oc21, od21, .func (PySem.W.fnOf "packed" "packed" (defArgs s_packed) (defBody s_packed) (defScope s_packed) .none kV21 dc21 pm21 an21 cd21 ct21), sl21⟩)
    (c21 : PySem.W.codeIn K cd21 "packed" = true)
    (k21 : PySem.W.keepIn K (.ref f21) = true)
    (a22 : PySem.W.nsIn K mainGlobals "unpacked" = some (some (.ref f22)))
    (l22 : K.lookup f22 = some ⟨oc22, od22, .func (PySem.W.fnOf "unpacked" "unpacked" (defArgs s_unpacked) (defBody s_unpacked) (defScope s_unpacked) .none kV22 dc22 pm22 an22 cd22 ct22), sl22⟩)
    (c22 : PySem.W.codeIn K cd22 "unpacked" = true)
    (k22 : PySem.W.keepIn K (.ref f22) = true)
    (a23 : PySem.W.nsIn K mainGlobals "ask_learner" = some (some (.ref f23)))
    (l23 : K.lookup f23 = some ⟨oc23, od23, .func (PySem.W.fnOf "ask_learner" "ask_learner" (defArgs s_ask_learner) (defBody s_ask_learner) (defScope s_ask_learner) .none kV23 dc23 pm23 an23 cd23 ct23), sl23⟩)
    (c23 : PySem.W.codeIn K cd23 "ask_learner" = true)
    (k23 : PySem.W.keepIn K (.ref f23) = true)
    (a24 : PySem.W.findIn K (.ref CModel) "__init__" = some (some (.ref f24)))
    (i24 : PySem.W.isFn K (.ref f24) = true)
    (l24 : K.lookup f24 = some ⟨oc24, od24, .func (PySem.W.fnOf "__init__" "Model.__init__" (defArgs s_Model_init) (defBody s_Model_init) (defScope s_Model_init) .none kV24 dc24 pm24 an24 cd24 ct24), sl24⟩)
    (c24 : PySem.W.codeIn K cd24 "Model.__init__" = true)
    (k24 : PySem.W.keepIn K (.ref f24) = true)
    (a25 : PySem.W.findIn K (.ref CModel) "ask" = some (some (.ref f25)))
    (i25 : PySem.W.isFn K (.ref f25) = true)
    (l25 : K.lookup f25 = some ⟨oc25, od25, .func (PySem.W.fnOf "ask" "Model.ask" (defArgs s_Model_ask) (defBody s_Model_ask) (defScope s_Model_ask) .none kV25 dc25 pm25 an25 cd25 ct25), sl25⟩)
    (c25 : PySem.W.codeIn K cd25 "Model.ask" = true)
    (k25 : PySem.W.keepIn K (.ref f25) = true)
    (a26 : PySem.W.findIn K (.ref CPlain) "__init__" = some (some (.ref f26)))
    (i26 : PySem.W.isFn K (.ref f26) = true)
    (l26 : K.lookup f26 = some ⟨oc26, od26, .func (PySem.W.fnOf "__init__" "Plain.__init__" (defArgs s_Plain_init) (defBody s_Plain_init) (defScope s_Plain_init) .none kV26 dc26 pm26 an26 cd26 ct26), sl26⟩)
    (c26 : PySem.W.codeIn K cd26 "Plain.__init__" = true)
    (k26 : PySem.W.keepIn K (.ref f26) = true)
    (a27 : PySem.W.findIn K (.ref CPlain) "counts" = some (some (.ref f27)))
    (i27 : PySem.W.isFn K (.ref f27) = true)
    (l27 : K.lookup f27 = some ⟨oc27, od27, .func (PySem.W.fnOf "counts" "Plain.counts" (defArgs s_Plain_counts) (defBody s_Plain_counts) (defScope s_Plain_counts) .none kV27 dc27 pm27 an27 cd27 ct27), sl27⟩)
    (c27 : PySem.W.codeIn K cd27 "Plain.counts" = true)
    (k27 : PySem.W.keepIn K (.ref f27) = true)
    (a28 : PySem.W.findIn K (.ref CPlain) "see" = some (some (.ref f28)))
    (i28 : PySem.W.isFn K (.ref f28) = true)
    (l28 : K.lookup f28 = some ⟨oc28, od28, .func (PySem.W.fnOf "see" "Plain.see" (defArgs s_Plain_see) (defBody s_Plain_see) (defScope s_Plain_see) .none kV28 dc28 pm28 an28 cd28 ct28), sl28⟩)
    (c28 : PySem.W.codeIn K cd28 "Plain.see" = true)
    (k28 : PySem.W.keepIn K (.ref f28) = true)
    (a29 : PySem.W.findIn K (.ref CPlain) "fresh" = some (some (.ref f29)))
    (i29 : PySem.W.isFn K (.ref f29) = true)
    (l29 : K.lookup f29 = some ⟨oc29, od29, .func (PySem.W.fnOf "fresh" "Plain.fresh" (defArgs s_Plain_fresh) (defBody s_Plain_fresh) (defScope s_Plain_fresh) .none kV29 dc29 pm29 an29 cd29 ct29), sl29⟩)
    (c29 : PySem.W.codeIn K cd29 "Plain.fresh" = true)
    (k29 : PySem.W.keepIn K (.ref f29) = true)
    (a30 : PySem.W.findIn K (.ref CLearner) "__init__" = some (some (.ref f30)))
    (i30 : PySem.W.isFn K (.ref f30) = true)
    {t30 : Addr} {ot30 : Value} {dt30 : Option Addr} {st30 : Array (Option Value)} {nt30 : Nat} {tk30_0 : Tok}
    (l30 : K.lookup f30 = some ⟨oc30, od30, .func (PySem.W.fnOf "__init__" "Learner.__init__" (defArgs s_Learner_init) (defBody s_Learner_init) (defScope s_Learner_init) (.ref t30) kV30 dc30 pm30 an30 cd30 ct30), sl30⟩)
    (d30 : K.lookup t30 = some ⟨ot30, dt30, .seq #[.int 1 tk30_0] nt30, st30⟩)
    (c30 : PySem.W.codeIn K cd30 "Learner.__init__" = true)
    (k30 : PySem.W.keepIn K (.ref f30) = true)
    (a31 : PySem.W.findIn K (.ref CLearner) "counts" = some (some (.ref f31)))
    (i31 : PySem.W.isFn K (.ref f31) = true)
    (l31 : K.lookup f31 = some ⟨oc31, od31, .func (PySem.W.fnOf "counts" "Learner.counts" (defArgs s_Learner_counts) (defBody s_Learner_counts) (defScope s_Learner_counts) .none kV31 dc31 pm31 an31 cd31 ct31), sl31⟩)
    (c31 : PySem.W.codeIn K cd31 "Learner.counts" = true)
    (k31 : PySem.W.keepIn K (.ref f31) = true)
    (a32 : PySem.W.findIn K (.ref CLearner) "see" = some (some (.ref f32)))
    (i32 : PySem.W.isFn K (.ref f32) = true)
    (l32 : K.lookup f32 = some ⟨oc32, od32, .func (PySem.W.fnOf "see" "Learner.see" (defArgs s_Learner_see) (defBody s_Learner_see) (defScope s_Learner_see) .none kV32 dc32 pm32 an32 cd32 ct32), sl32⟩)
    (c32 : PySem.W.codeIn K cd32 "Learner.see" = true)
    (k32 : PySem.W.keepIn K (.ref f32) = true)
    (a33 : PySem.W.findIn K (.ref CLearner) "fresh" = some (some (.ref f33)))
    (i33 : PySem.W.isFn K (.ref f33) = true)
    (l33 : K.lookup f33 = some ⟨oc33, od33, .func (PySem.W.fnOf "fresh" "Learner.fresh" (defArgs s_Learner_fresh) (defBody s_Learner_fresh) (defScope s_Learner_fresh) .none kV33 dc33 pm33 an33 cd33 ct33), sl33⟩)
    (c33 : PySem.W.codeIn K cd33 "Learner.fresh" = true)
    (k33 : PySem.W.keepIn K (.ref f33) = true)
    (a34 : PySem.W.findIn K (.ref CFollower) "__init__" = some (some (.ref f34)))
    (i34 : PySem.W.isFn K (.ref f34) = true)
    {t34 : Addr} {ot34 : Value} {dt34 : Option Addr} {st34 : Array (Option Value)} {nt34 : Nat} {tk34_0 : Tok}
    (l34 : K.lookup f34 = some ⟨oc34, od34, .func (PySem.W.fnOf "__init__" "Follower.__init__" (defArgs s_Follower_init) (defBody s_Follower_init) (defScope s_Follower_init) (.ref t34) kV34 dc34 pm34 an34 cd34 ct34), sl34⟩)
    (d34 : K.lookup t34 = some ⟨ot34, dt34, .seq #[.int 1 tk34_0] nt34, st34⟩)
    (c34 : PySem.W.codeIn K cd34 "Follower.__init__" = true)
    (k34 : PySem.W.keepIn K (.ref f34) = true)
    (a35 : PySem.W.findIn K (.ref CFollower) "counts" = some (some (.ref f35)))
    (i35 : PySem.W.isFn K (.ref f35) = true)
    (l35 : K.lookup f35 = some ⟨oc35, od35, .func (PySem.W.fnOf "counts" "Follower.counts" (defArgs s_Follower_counts) (defBody s_Follower_counts) (defScope s_Follower_counts) .none kV35 dc35 pm35 an35 cd35 ct35), sl35⟩)
    (c35 : PySem.W.codeIn K cd35 "Follower.counts" = true)
    (k35 : PySem.W.keepIn K (.ref f35) = true)
    (a36 : PySem.W.findIn K (.ref CFollower) "see" = some (some (.ref f36)))
    (i36 : PySem.W.isFn K (.ref f36) = true)
    (l36 : K.lookup f36 = some ⟨oc36, od36, .func (PySem.W.fnOf "see" "Follower.see" (defArgs s_Follower_see) (defBody s_Follower_see) (defScope s_Follower_see) .none kV36 dc36 pm36 an36 cd36 ct36), sl36⟩)
    (c36 : PySem.W.codeIn K cd36 "Follower.see" = true)
    (k36 : PySem.W.keepIn K (.ref f36) = true)
    (a37 : PySem.W.findIn K (.ref CFollower) "fresh" = some (some (.ref f37)))
    (i37 : PySem.W.isFn K (.ref f37) = true)
    (l37 : K.lookup f37 = some ⟨oc37, od37, .func (PySem.W.fnOf "fresh" "Follower.fresh" (defArgs s_Follower_fresh) (defBody s_Follower_fresh) (defScope s_Follower_fresh) .none kV37 dc37 pm37 an37 cd37 ct37), sl37⟩)
    (c37 : PySem.W.codeIn K cd37 "Follower.fresh" = true)
    (k37 : PySem.W.keepIn K (.ref f37) = true)
    (a38 : PySem.W.nsIn K mainGlobals "press" = some (some (.ref f38)))
    (l38 : K.lookup f38 = some ⟨oc38, od38, .func (PySem.W.fnOf "press" "press" (defArgs s_press) (defBody s_press) (defScope s_press) .none kV38 dc38 pm38 an38 cd38 ct38), sl38⟩)
    (c38 : PySem.W.codeIn K cd38 "press" = true)
    (k38 : PySem.W.keepIn K (.ref f38) = true)
    (a39 : PySem.W.nsIn K mainGlobals "read" = some (some (.ref f39)))
    (l39 : K.lookup f39 = some ⟨oc39, od39, .func (PySem.W.fnOf "read" "read" (defArgs s_read) (defBody s_read) (defScope s_read) .none kV39 dc39 pm39 an39 cd39 ct39), sl39⟩)
    (c39 : PySem.W.codeIn K cd39 "read" = true)
    (k39 : PySem.W.keepIn K (.ref f39) = true)
    (a40 : PySem.W.nsIn K mainGlobals "shared" = some (some (.ref f40)))
    (l40 : K.lookup f40 = some ⟨oc40, od40, .func (PySem.W.fnOf "shared" "shared" (defArgs s_shared) (defBody s_shared) (defScope s_shared) .none kV40 dc40 pm40 an40 cd40 ct40), sl40⟩)
    (c40 : PySem.W.codeIn K cd40 "shared" = true)
    (k40 : PySem.W.keepIn K (.ref f40) = true)
    (a41 : PySem.W.findIn K (.ref CSlots) "__init__" = some (some (.ref f41)))
    (i41 : PySem.W.isFn K (.ref f41) = true)
    (l41 : K.lookup f41 = some ⟨oc41, od41, .func (PySem.W.fnOf "__init__" "Slots.__init__" (defArgs s_Slots_init) (defBody s_Slots_init) (defScope s_Slots_init) .none kV41 dc41 pm41 an41 cd41 ct41), sl41⟩)
    (c41 : PySem.W.codeIn K cd41 "Slots.__init__" = true)
    (k41 : PySem.W.keepIn K (.ref f41) = true)
    (a42 : PySem.W.findIn K (.ref CSlots) "ask_number" = some (some (.ref f42)))
    (i42 : PySem.W.isFn K (.ref f42) = true)
    (l42 : K.lookup f42 = some ⟨oc42, od42, .func (PySem.W.fnOf "ask_number" "Slots.ask_number" (defArgs s_Slots_ask_number) (defBody s_Slots_ask_number) (defScope s_Slots_ask_number) .none kV42 dc42 pm42 an42 cd42 ct42), sl42⟩)
    (c42 : PySem.W.codeIn K cd42 "Slots.ask_number" = true)
    (k42 : PySem.W.keepIn K (.ref f42) = true)
    (a43 : PySem.W.findIn K (.ref CSlots) "dealt" = some (some (.ref f43)))
    (i43 : PySem.W.isFn K (.ref f43) = true)
    (l43 : K.lookup f43 = some ⟨oc43, od43, .func (PySem.W.fnOf "dealt" "Slots.dealt" (defArgs s_Slots_dealt) (defBody s_Slots_dealt) (defScope s_Slots_dealt) .none kV43 dc43 pm43 an43 cd43 ct43), sl43⟩)
    (c43 : PySem.W.codeIn K cd43 "Slots.dealt" = true)
    (k43 : PySem.W.keepIn K (.ref f43) = true)
    (a44 : PySem.W.findIn K (.ref CSlots) "raised" = some (some (.ref f44)))
    (i44 : PySem.W.isFn K (.ref f44) = true)
    (l44 : K.lookup f44 = some ⟨oc44, od44, .func (PySem.W.fnOf "raised" "Slots.raised" (defArgs s_Slots_raised) (defBody s_Slots_raised) (defScope s_Slots_raised) .none kV44 dc44 pm44 an44 cd44 ct44), sl44⟩)
    (c44 : PySem.W.codeIn K cd44 "Slots.raised" = true)
    (k44 : PySem.W.keepIn K (.ref f44) = true)
    (a45 : PySem.W.findIn K (.ref CSlots) "lowered" = some (some (.ref f45)))
    (i45 : PySem.W.isFn K (.ref f45) = true)
    (l45 : K.lookup f45 = some ⟨oc45, od45, .func (PySem.W.fnOf "lowered" "Slots.lowered" (defArgs s_Slots_lowered) (defBody s_Slots_lowered) (defScope s_Slots_lowered) .none kV45 dc45 pm45 an45 cd45 ct45), sl45⟩)
    (c45 : PySem.W.codeIn K cd45 "Slots.lowered" = true)
    (k45 : PySem.W.keepIn K (.ref f45) = true)
    (a46 : PySem.W.findIn K (.ref CSlots) "laid" = some (some (.ref f46)))
    (i46 : PySem.W.isFn K (.ref f46) = true)
    (l46 : K.lookup f46 = some ⟨oc46, od46, .func (PySem.W.fnOf "laid" "Slots.laid" (defArgs s_Slots_laid) (defBody s_Slots_laid) (defScope s_Slots_laid) .none kV46 dc46 pm46 an46 cd46 ct46), sl46⟩)
    (c46 : PySem.W.codeIn K cd46 "Slots.laid" = true)
    (k46 : PySem.W.keepIn K (.ref f46) = true)
    (a47 : PySem.W.findIn K (.ref CSlots) "taken" = some (some (.ref f47)))
    (i47 : PySem.W.isFn K (.ref f47) = true)
    (l47 : K.lookup f47 = some ⟨oc47, od47, .func (PySem.W.fnOf "taken" "Slots.taken" (defArgs s_Slots_taken) (defBody s_Slots_taken) (defScope s_Slots_taken) .none kV47 dc47 pm47 an47 cd47 ct47), sl47⟩)
    (c47 : PySem.W.codeIn K cd47 "Slots.taken" = true)
    (k47 : PySem.W.keepIn K (.ref f47) = true)
    (a48 : PySem.W.findIn K (.ref CStream) "__init__" = some (some (.ref f48)))
    (i48 : PySem.W.isFn K (.ref f48) = true)
    {t48 : Addr} {ot48 : Value} {dt48 : Option Addr} {st48 : Array (Option Value)} {nt48 : Nat} {tk48_0 : Tok}
    (l48 : K.lookup f48 = some ⟨oc48, od48, .func (PySem.W.fnOf "__init__" "Stream.__init__" (defArgs s_Stream_init) (defBody s_Stream_init) (defScope s_Stream_init) (.ref t48) kV48 dc48 pm48 an48 cd48 ct48), sl48⟩)
    (d48 : K.lookup t48 = some ⟨ot48, dt48, .seq #[.int 4 tk48_0] nt48, st48⟩)
    (c48 : PySem.W.codeIn K cd48 "Stream.__init__" = true)
    (k48 : PySem.W.keepIn K (.ref f48) = true)
    (a49 : PySem.W.findIn K (.ref CStream) "lay_sign" = some (some (.ref f49)))
    (i49 : PySem.W.isFn K (.ref f49) = true)
    (l49 : K.lookup f49 = some ⟨oc49, od49, .func (PySem.W.fnOf "lay_sign" "Stream.lay_sign" (defArgs s_Stream_lay_sign) (defBody s_Stream_lay_sign) (defScope s_Stream_lay_sign) .none kV49 dc49 pm49 an49 cd49 ct49), sl49⟩)
    (c49 : PySem.W.codeIn K cd49 "Stream.lay_sign" = true)
    (k49 : PySem.W.keepIn K (.ref f49) = true)
    (a50 : PySem.W.findIn K (.ref CStream) "take_sign" = some (some (.ref f50)))
    (i50 : PySem.W.isFn K (.ref f50) = true)
    (l50 : K.lookup f50 = some ⟨oc50, od50, .func (PySem.W.fnOf "take_sign" "Stream.take_sign" (defArgs s_Stream_take_sign) (defBody s_Stream_take_sign) (defScope s_Stream_take_sign) .none kV50 dc50 pm50 an50 cd50 ct50), sl50⟩)
    (c50 : PySem.W.codeIn K cd50 "Stream.take_sign" = true)
    (k50 : PySem.W.keepIn K (.ref f50) = true)
    (a51 : PySem.W.findIn K (.ref CStream) "told" = some (some (.ref f51)))
    (i51 : PySem.W.isFn K (.ref f51) = true)
    (l51 : K.lookup f51 = some ⟨oc51, od51, .func (PySem.W.fnOf "told" "Stream.told" (defArgs s_Stream_told) (defBody s_Stream_told) (defScope s_Stream_told) .none kV51 dc51 pm51 an51 cd51 ct51), sl51⟩)
    (c51 : PySem.W.codeIn K cd51 "Stream.told" = true)
    (k51 : PySem.W.keepIn K (.ref f51) = true)
    (a52 : PySem.W.nsIn K mainGlobals "_law_cell_at" = some (some (.ref f52)))
    (l52 : K.lookup f52 = some ⟨oc52, od52, .func (PySem.W.fnOf "_law_cell_at" "_law_cell_at" (defArgs s__law_cell_at) (defBody s__law_cell_at) (defScope s__law_cell_at) .none kV52 dc52 pm52 an52 cd52 ct52), sl52⟩)
    (c52 : PySem.W.codeIn K cd52 "_law_cell_at" = true)
    (k52 : PySem.W.keepIn K (.ref f52) = true)
    (a53 : PySem.W.nsIn K mainGlobals "_law_which" = some (some (.ref f53)))
    (l53 : K.lookup f53 = some ⟨oc53, od53, .func (PySem.W.fnOf "_law_which" "_law_which" (defArgs s__law_which) (defBody s__law_which) (defScope s__law_which) .none kV53 dc53 pm53 an53 cd53 ct53), sl53⟩)
    (c53 : PySem.W.codeIn K cd53 "_law_which" = true)
    (k53 : PySem.W.keepIn K (.ref f53) = true)
    (a54 : PySem.W.nsIn K mainGlobals "_law_bad" = some (some (.ref f54)))
    (l54 : K.lookup f54 = some ⟨oc54, od54, .func (PySem.W.fnOf "_law_bad" "_law_bad" (defArgs s__law_bad) (defBody s__law_bad) (defScope s__law_bad) .none kV54 dc54 pm54 an54 cd54 ct54), sl54⟩)
    (c54 : PySem.W.codeIn K cd54 "_law_bad" = true)
    (k54 : PySem.W.keepIn K (.ref f54) = true)
    (a55 : PySem.W.nsIn K mainGlobals "_law_by_counts" = some (some (.ref f55)))
    (l55 : K.lookup f55 = some ⟨oc55, od55, .func (PySem.W.fnOf "_law_by_counts" "_law_by_counts" (defArgs s__law_by_counts) (defBody s__law_by_counts) (defScope s__law_by_counts) .none kV55 dc55 pm55 an55 cd55 ct55), sl55⟩)
    (c55 : PySem.W.codeIn K cd55 "_law_by_counts" = true)
    (k55 : PySem.W.keepIn K (.ref f55) = true)
    (a56 : PySem.W.nsIn K mainGlobals "_law_more_shares" = some (some (.ref f56)))
    (l56 : K.lookup f56 = some ⟨oc56, od56, .func (PySem.W.fnOf "_law_more_shares" "_law_more_shares" (defArgs s__law_more_shares) (defBody s__law_more_shares) (defScope s__law_more_shares) .none kV56 dc56 pm56 an56 cd56 ct56), sl56⟩)
    (c56 : PySem.W.codeIn K cd56 "_law_more_shares" = true)
    (k56 : PySem.W.keepIn K (.ref f56) = true)
    (a57 : PySem.W.nsIn K mainGlobals "_law_no_shares" = some (some (.ref f57)))
    (l57 : K.lookup f57 = some ⟨oc57, od57, .func (PySem.W.fnOf "_law_no_shares" "_law_no_shares" (defArgs s__law_no_shares) (defBody s__law_no_shares) (defScope s__law_no_shares) .none kV57 dc57 pm57 an57 cd57 ct57), sl57⟩)
    (c57 : PySem.W.codeIn K cd57 "_law_no_shares" = true)
    (k57 : PySem.W.keepIn K (.ref f57) = true)
    (a58 : PySem.W.nsIn K mainGlobals "_law_no_pile" = some (some (.ref f58)))
    (l58 : K.lookup f58 = some ⟨oc58, od58, .func (PySem.W.fnOf "_law_no_pile" "_law_no_pile" (defArgs s__law_no_pile) (defBody s__law_no_pile) (defScope s__law_no_pile) .none kV58 dc58 pm58 an58 cd58 ct58), sl58⟩)
    (c58 : PySem.W.codeIn K cd58 "_law_no_pile" = true)
    (k58 : PySem.W.keepIn K (.ref f58) = true)
    (a59 : PySem.W.nsIn K mainGlobals "_law_no_sign" = some (some (.ref f59)))
    (l59 : K.lookup f59 = some ⟨oc59, od59, .func (PySem.W.fnOf "_law_no_sign" "_law_no_sign" (defArgs s__law_no_sign) (defBody s__law_no_sign) (defScope s__law_no_sign) .none kV59 dc59 pm59 an59 cd59 ct59), sl59⟩)
    (c59 : PySem.W.codeIn K cd59 "_law_no_sign" = true)
    (k59 : PySem.W.keepIn K (.ref f59) = true)
    (a60 : PySem.W.nsIn K mainGlobals "_law_no_slot" = some (some (.ref f60)))
    (l60 : K.lookup f60 = some ⟨oc60, od60, .func (PySem.W.fnOf "_law_no_slot" "_law_no_slot" (defArgs s__law_no_slot) (defBody s__law_no_slot) (defScope s__law_no_slot) .none kV60 dc60 pm60 an60 cd60 ct60), sl60⟩)
    (c60 : PySem.W.codeIn K cd60 "_law_no_slot" = true)
    (k60 : PySem.W.keepIn K (.ref f60) = true)
    (a61 : PySem.W.nsIn K mainGlobals "_law_done" = some (some (.ref f61)))
    (l61 : K.lookup f61 = some ⟨oc61, od61, .func (PySem.W.fnOf "_law_done" "_law_done" (defArgs s__law_done) (defBody s__law_done) (defScope s__law_done) .none kV61 dc61 pm61 an61 cd61 ct61), sl61⟩)
    (c61 : PySem.W.codeIn K cd61 "_law_done" = true)
    (k61 : PySem.W.keepIn K (.ref f61) = true)
    (a62 : PySem.W.nsIn K mainGlobals "law" = some (some (.ref f62)))
    (l62 : K.lookup f62 = some ⟨oc62, od62, .func (PySem.W.fnOf "law" "law" (defArgs s_law) (defBody s_law) (defScope s_law) .none kV62 dc62 pm62 an62 cd62 ct62), sl62⟩)
    (c62 : PySem.W.codeIn K cd62 "law" = true)
    (k62 : PySem.W.keepIn K (.ref f62) = true)
    (z_NoShares : PySem.W.nsIn K mainGlobals "NoShares" = some (some (.ref CNoShares)))
    (xp_NoShares : PySem.W.excIn K CNoShares [.type "ValueError", .type "Exception", .type "BaseException", .type "object"] "ValueError.__new__" = true)
    (kp_NoShares : PySem.W.keepIn K (.ref CNoShares) = true)
    (bp_NoShares : PySem.W.subIn K (.ref CNoShares) (.type "BaseException") = some true)
    (tp_NoShares : PySem.W.typeIn K (.ref CNoShares) = some (.type "type"))
    (ip_NoShares : PySem.W.isClsIn K CNoShares = true)
    (sp_NoShares : PySem.W.subIn K (.ref CNoShares) (.ref CNoShares) = some true)
    (z_NoPile : PySem.W.nsIn K mainGlobals "NoPile" = some (some (.ref CNoPile)))
    (xp_NoPile : PySem.W.excIn K CNoPile [.type "ValueError", .type "Exception", .type "BaseException", .type "object"] "ValueError.__new__" = true)
    (kp_NoPile : PySem.W.keepIn K (.ref CNoPile) = true)
    (bp_NoPile : PySem.W.subIn K (.ref CNoPile) (.type "BaseException") = some true)
    (tp_NoPile : PySem.W.typeIn K (.ref CNoPile) = some (.type "type"))
    (ip_NoPile : PySem.W.isClsIn K CNoPile = true)
    (sp_NoPile : PySem.W.subIn K (.ref CNoPile) (.ref CNoPile) = some true)
    (z_NoSign : PySem.W.nsIn K mainGlobals "NoSign" = some (some (.ref CNoSign)))
    (xp_NoSign : PySem.W.excIn K CNoSign [.type "ValueError", .type "Exception", .type "BaseException", .type "object"] "ValueError.__new__" = true)
    (kp_NoSign : PySem.W.keepIn K (.ref CNoSign) = true)
    (bp_NoSign : PySem.W.subIn K (.ref CNoSign) (.type "BaseException") = some true)
    (tp_NoSign : PySem.W.typeIn K (.ref CNoSign) = some (.type "type"))
    (ip_NoSign : PySem.W.isClsIn K CNoSign = true)
    (sp_NoSign : PySem.W.subIn K (.ref CNoSign) (.ref CNoSign) = some true)
    (z_NoSlot : PySem.W.nsIn K mainGlobals "NoSlot" = some (some (.ref CNoSlot)))
    (xp_NoSlot : PySem.W.excIn K CNoSlot [.type "ValueError", .type "Exception", .type "BaseException", .type "object"] "ValueError.__new__" = true)
    (kp_NoSlot : PySem.W.keepIn K (.ref CNoSlot) = true)
    (bp_NoSlot : PySem.W.subIn K (.ref CNoSlot) (.type "BaseException") = some true)
    (tp_NoSlot : PySem.W.typeIn K (.ref CNoSlot) = some (.type "type"))
    (ip_NoSlot : PySem.W.isClsIn K CNoSlot = true)
    (sp_NoSlot : PySem.W.subIn K (.ref CNoSlot) (.ref CNoSlot) = some true)
    (z_NoMore : PySem.W.nsIn K mainGlobals "NoMore" = some (some (.ref CNoMore)))
    (xp_NoMore : PySem.W.excIn K CNoMore [.type "ValueError", .type "Exception", .type "BaseException", .type "object"] "ValueError.__new__" = true)
    (kp_NoMore : PySem.W.keepIn K (.ref CNoMore) = true)
    (bp_NoMore : PySem.W.subIn K (.ref CNoMore) (.type "BaseException") = some true)
    (tp_NoMore : PySem.W.typeIn K (.ref CNoMore) = some (.type "type"))
    (ip_NoMore : PySem.W.isClsIn K CNoMore = true)
    (sp_NoMore : PySem.W.subIn K (.ref CNoMore) (.ref CNoMore) = some true)
    (z_NoText : PySem.W.nsIn K mainGlobals "NoText" = some (some (.ref CNoText)))
    (xp_NoText : PySem.W.excIn K CNoText [.type "ValueError", .type "Exception", .type "BaseException", .type "object"] "ValueError.__new__" = true)
    (kp_NoText : PySem.W.keepIn K (.ref CNoText) = true)
    (bp_NoText : PySem.W.subIn K (.ref CNoText) (.type "BaseException") = some true)
    (tp_NoText : PySem.W.typeIn K (.ref CNoText) = some (.type "type"))
    (ip_NoText : PySem.W.isClsIn K CNoText = true)
    (sp_NoText : PySem.W.subIn K (.ref CNoText) (.ref CNoText) = some true)
    (z_NotLeaf : PySem.W.nsIn K mainGlobals "NotLeaf" = some (some (.ref CNotLeaf)))
    (xp_NotLeaf : PySem.W.excIn K CNotLeaf [.type "ValueError", .type "Exception", .type "BaseException", .type "object"] "ValueError.__new__" = true)
    (kp_NotLeaf : PySem.W.keepIn K (.ref CNotLeaf) = true)
    (bp_NotLeaf : PySem.W.subIn K (.ref CNotLeaf) (.type "BaseException") = some true)
    (tp_NotLeaf : PySem.W.typeIn K (.ref CNotLeaf) = some (.type "type"))
    (ip_NotLeaf : PySem.W.isClsIn K CNotLeaf = true)
    (sp_NotLeaf : PySem.W.subIn K (.ref CNotLeaf) (.ref CNotLeaf) = some true)
    (z_PileError : PySem.W.nsIn K mainGlobals "PileError" = some (some (.ref CPileError)))
    (eb_NoMore : PySem.W.subIn K (.ref CNoMore) (.type "BaseException") = some true)
    (eh_NoMore : PySem.W.hasDictIn K CNoMore = true)
    (et_NoMore : PySem.W.typeIn K (.ref CNoMore) = some (.type "type"))
    (ei_NoMore : PySem.W.isClsIn K CNoMore = true)
    (eb_NoPile : PySem.W.subIn K (.ref CNoPile) (.type "BaseException") = some true)
    (eh_NoPile : PySem.W.hasDictIn K CNoPile = true)
    (et_NoPile : PySem.W.typeIn K (.ref CNoPile) = some (.type "type"))
    (ei_NoPile : PySem.W.isClsIn K CNoPile = true)
    (eb_NoShares : PySem.W.subIn K (.ref CNoShares) (.type "BaseException") = some true)
    (eh_NoShares : PySem.W.hasDictIn K CNoShares = true)
    (et_NoShares : PySem.W.typeIn K (.ref CNoShares) = some (.type "type"))
    (ei_NoShares : PySem.W.isClsIn K CNoShares = true)
    (eb_NoSign : PySem.W.subIn K (.ref CNoSign) (.type "BaseException") = some true)
    (eh_NoSign : PySem.W.hasDictIn K CNoSign = true)
    (et_NoSign : PySem.W.typeIn K (.ref CNoSign) = some (.type "type"))
    (ei_NoSign : PySem.W.isClsIn K CNoSign = true)
    (eb_NoSlot : PySem.W.subIn K (.ref CNoSlot) (.type "BaseException") = some true)
    (eh_NoSlot : PySem.W.hasDictIn K CNoSlot = true)
    (et_NoSlot : PySem.W.typeIn K (.ref CNoSlot) = some (.type "type"))
    (ei_NoSlot : PySem.W.isClsIn K CNoSlot = true)
    (eb_NoText : PySem.W.subIn K (.ref CNoText) (.type "BaseException") = some true)
    (eh_NoText : PySem.W.hasDictIn K CNoText = true)
    (et_NoText : PySem.W.typeIn K (.ref CNoText) = some (.type "type"))
    (ei_NoText : PySem.W.isClsIn K CNoText = true)
    (eb_NotLeaf : PySem.W.subIn K (.ref CNotLeaf) (.type "BaseException") = some true)
    (eh_NotLeaf : PySem.W.hasDictIn K CNotLeaf = true)
    (et_NotLeaf : PySem.W.typeIn K (.ref CNotLeaf) = some (.type "type"))
    (ei_NotLeaf : PySem.W.isClsIn K CNotLeaf = true)
    (eb_PileError : PySem.W.subIn K (.ref CPileError) (.type "BaseException") = some true)
    (eh_PileError : PySem.W.hasDictIn K CPileError = true)
    (et_PileError : PySem.W.typeIn K (.ref CPileError) = some (.type "type"))
    (ei_PileError : PySem.W.isClsIn K CPileError = true)
    (xg_NoShares : PySem.W.findIn K (.ref CNoShares) "__getattribute__" = some (some (.builtin "BaseException.__getattribute__")))
    (xk_NoShares : PySem.W.findIn K (.ref CNoShares) "__getattr__" = some none)
    (xa_NoShares : PySem.W.findIn K (.ref CNoShares) "__class__" = some (some (.builtin "object.__class__")))
    (xn_NoShares : PySem.W.specialIn K (.builtin "object.__class__") "__get__" = some (some (.builtin "getset_descriptor.__get__")))
    (xt_NoShares : PySem.W.takesIn K (.builtin "object.__class__") = some true)
    (xm_NoShares : PySem.W.mroIn K CNoShares (.type "object") = some true)
    (xs_NoShares : PySem.W.subIn K (.ref CNoShares) (.ref CNoShares) = some true)
    (xv_NoShares : PySem.W.subIn K (.ref CNoShares) (.type "ValueError") = some true)
    (xe_NoShares_PileError : PySem.W.subIn K (.ref CNoShares) (.ref CPileError) = some true)
    (xe_NoShares_NoShares : PySem.W.subIn K (.ref CNoShares) (.ref CNoShares) = some true)
    (xe_NoShares_NoPile : PySem.W.subIn K (.ref CNoShares) (.ref CNoPile) = some false)
    (xe_NoShares_NoSign : PySem.W.subIn K (.ref CNoShares) (.ref CNoSign) = some false)
    (xe_NoShares_NoSlot : PySem.W.subIn K (.ref CNoShares) (.ref CNoSlot) = some false)
    (xe_NoShares_NoMore : PySem.W.subIn K (.ref CNoShares) (.ref CNoMore) = some false)
    (xe_NoShares_NoText : PySem.W.subIn K (.ref CNoShares) (.ref CNoText) = some false)
    (xe_NoShares_NotLeaf : PySem.W.subIn K (.ref CNoShares) (.ref CNotLeaf) = some false)
    (xg_NoPile : PySem.W.findIn K (.ref CNoPile) "__getattribute__" = some (some (.builtin "BaseException.__getattribute__")))
    (xk_NoPile : PySem.W.findIn K (.ref CNoPile) "__getattr__" = some none)
    (xa_NoPile : PySem.W.findIn K (.ref CNoPile) "__class__" = some (some (.builtin "object.__class__")))
    (xn_NoPile : PySem.W.specialIn K (.builtin "object.__class__") "__get__" = some (some (.builtin "getset_descriptor.__get__")))
    (xt_NoPile : PySem.W.takesIn K (.builtin "object.__class__") = some true)
    (xm_NoPile : PySem.W.mroIn K CNoPile (.type "object") = some true)
    (xs_NoPile : PySem.W.subIn K (.ref CNoPile) (.ref CNoPile) = some true)
    (xv_NoPile : PySem.W.subIn K (.ref CNoPile) (.type "ValueError") = some true)
    (xe_NoPile_PileError : PySem.W.subIn K (.ref CNoPile) (.ref CPileError) = some true)
    (xe_NoPile_NoShares : PySem.W.subIn K (.ref CNoPile) (.ref CNoShares) = some false)
    (xe_NoPile_NoPile : PySem.W.subIn K (.ref CNoPile) (.ref CNoPile) = some true)
    (xe_NoPile_NoSign : PySem.W.subIn K (.ref CNoPile) (.ref CNoSign) = some false)
    (xe_NoPile_NoSlot : PySem.W.subIn K (.ref CNoPile) (.ref CNoSlot) = some false)
    (xe_NoPile_NoMore : PySem.W.subIn K (.ref CNoPile) (.ref CNoMore) = some false)
    (xe_NoPile_NoText : PySem.W.subIn K (.ref CNoPile) (.ref CNoText) = some false)
    (xe_NoPile_NotLeaf : PySem.W.subIn K (.ref CNoPile) (.ref CNotLeaf) = some false)
    (xg_NoSign : PySem.W.findIn K (.ref CNoSign) "__getattribute__" = some (some (.builtin "BaseException.__getattribute__")))
    (xk_NoSign : PySem.W.findIn K (.ref CNoSign) "__getattr__" = some none)
    (xa_NoSign : PySem.W.findIn K (.ref CNoSign) "__class__" = some (some (.builtin "object.__class__")))
    (xn_NoSign : PySem.W.specialIn K (.builtin "object.__class__") "__get__" = some (some (.builtin "getset_descriptor.__get__")))
    (xt_NoSign : PySem.W.takesIn K (.builtin "object.__class__") = some true)
    (xm_NoSign : PySem.W.mroIn K CNoSign (.type "object") = some true)
    (xs_NoSign : PySem.W.subIn K (.ref CNoSign) (.ref CNoSign) = some true)
    (xv_NoSign : PySem.W.subIn K (.ref CNoSign) (.type "ValueError") = some true)
    (xe_NoSign_PileError : PySem.W.subIn K (.ref CNoSign) (.ref CPileError) = some true)
    (xe_NoSign_NoShares : PySem.W.subIn K (.ref CNoSign) (.ref CNoShares) = some false)
    (xe_NoSign_NoPile : PySem.W.subIn K (.ref CNoSign) (.ref CNoPile) = some false)
    (xe_NoSign_NoSign : PySem.W.subIn K (.ref CNoSign) (.ref CNoSign) = some true)
    (xe_NoSign_NoSlot : PySem.W.subIn K (.ref CNoSign) (.ref CNoSlot) = some false)
    (xe_NoSign_NoMore : PySem.W.subIn K (.ref CNoSign) (.ref CNoMore) = some false)
    (xe_NoSign_NoText : PySem.W.subIn K (.ref CNoSign) (.ref CNoText) = some false)
    (xe_NoSign_NotLeaf : PySem.W.subIn K (.ref CNoSign) (.ref CNotLeaf) = some false)
    (xg_NoSlot : PySem.W.findIn K (.ref CNoSlot) "__getattribute__" = some (some (.builtin "BaseException.__getattribute__")))
    (xk_NoSlot : PySem.W.findIn K (.ref CNoSlot) "__getattr__" = some none)
    (xa_NoSlot : PySem.W.findIn K (.ref CNoSlot) "__class__" = some (some (.builtin "object.__class__")))
    (xn_NoSlot : PySem.W.specialIn K (.builtin "object.__class__") "__get__" = some (some (.builtin "getset_descriptor.__get__")))
    (xt_NoSlot : PySem.W.takesIn K (.builtin "object.__class__") = some true)
    (xm_NoSlot : PySem.W.mroIn K CNoSlot (.type "object") = some true)
    (xs_NoSlot : PySem.W.subIn K (.ref CNoSlot) (.ref CNoSlot) = some true)
    (xv_NoSlot : PySem.W.subIn K (.ref CNoSlot) (.type "ValueError") = some true)
    (xe_NoSlot_PileError : PySem.W.subIn K (.ref CNoSlot) (.ref CPileError) = some true)
    (xe_NoSlot_NoShares : PySem.W.subIn K (.ref CNoSlot) (.ref CNoShares) = some false)
    (xe_NoSlot_NoPile : PySem.W.subIn K (.ref CNoSlot) (.ref CNoPile) = some false)
    (xe_NoSlot_NoSign : PySem.W.subIn K (.ref CNoSlot) (.ref CNoSign) = some false)
    (xe_NoSlot_NoSlot : PySem.W.subIn K (.ref CNoSlot) (.ref CNoSlot) = some true)
    (xe_NoSlot_NoMore : PySem.W.subIn K (.ref CNoSlot) (.ref CNoMore) = some false)
    (xe_NoSlot_NoText : PySem.W.subIn K (.ref CNoSlot) (.ref CNoText) = some false)
    (xe_NoSlot_NotLeaf : PySem.W.subIn K (.ref CNoSlot) (.ref CNotLeaf) = some false)
    (xg_NoMore : PySem.W.findIn K (.ref CNoMore) "__getattribute__" = some (some (.builtin "BaseException.__getattribute__")))
    (xk_NoMore : PySem.W.findIn K (.ref CNoMore) "__getattr__" = some none)
    (xa_NoMore : PySem.W.findIn K (.ref CNoMore) "__class__" = some (some (.builtin "object.__class__")))
    (xn_NoMore : PySem.W.specialIn K (.builtin "object.__class__") "__get__" = some (some (.builtin "getset_descriptor.__get__")))
    (xt_NoMore : PySem.W.takesIn K (.builtin "object.__class__") = some true)
    (xm_NoMore : PySem.W.mroIn K CNoMore (.type "object") = some true)
    (xs_NoMore : PySem.W.subIn K (.ref CNoMore) (.ref CNoMore) = some true)
    (xv_NoMore : PySem.W.subIn K (.ref CNoMore) (.type "ValueError") = some true)
    (xe_NoMore_PileError : PySem.W.subIn K (.ref CNoMore) (.ref CPileError) = some true)
    (xe_NoMore_NoShares : PySem.W.subIn K (.ref CNoMore) (.ref CNoShares) = some false)
    (xe_NoMore_NoPile : PySem.W.subIn K (.ref CNoMore) (.ref CNoPile) = some false)
    (xe_NoMore_NoSign : PySem.W.subIn K (.ref CNoMore) (.ref CNoSign) = some false)
    (xe_NoMore_NoSlot : PySem.W.subIn K (.ref CNoMore) (.ref CNoSlot) = some false)
    (xe_NoMore_NoMore : PySem.W.subIn K (.ref CNoMore) (.ref CNoMore) = some true)
    (xe_NoMore_NoText : PySem.W.subIn K (.ref CNoMore) (.ref CNoText) = some false)
    (xe_NoMore_NotLeaf : PySem.W.subIn K (.ref CNoMore) (.ref CNotLeaf) = some false)
    (xg_NoText : PySem.W.findIn K (.ref CNoText) "__getattribute__" = some (some (.builtin "BaseException.__getattribute__")))
    (xk_NoText : PySem.W.findIn K (.ref CNoText) "__getattr__" = some none)
    (xa_NoText : PySem.W.findIn K (.ref CNoText) "__class__" = some (some (.builtin "object.__class__")))
    (xn_NoText : PySem.W.specialIn K (.builtin "object.__class__") "__get__" = some (some (.builtin "getset_descriptor.__get__")))
    (xt_NoText : PySem.W.takesIn K (.builtin "object.__class__") = some true)
    (xm_NoText : PySem.W.mroIn K CNoText (.type "object") = some true)
    (xs_NoText : PySem.W.subIn K (.ref CNoText) (.ref CNoText) = some true)
    (xv_NoText : PySem.W.subIn K (.ref CNoText) (.type "ValueError") = some true)
    (xe_NoText_PileError : PySem.W.subIn K (.ref CNoText) (.ref CPileError) = some true)
    (xe_NoText_NoShares : PySem.W.subIn K (.ref CNoText) (.ref CNoShares) = some false)
    (xe_NoText_NoPile : PySem.W.subIn K (.ref CNoText) (.ref CNoPile) = some false)
    (xe_NoText_NoSign : PySem.W.subIn K (.ref CNoText) (.ref CNoSign) = some false)
    (xe_NoText_NoSlot : PySem.W.subIn K (.ref CNoText) (.ref CNoSlot) = some false)
    (xe_NoText_NoMore : PySem.W.subIn K (.ref CNoText) (.ref CNoMore) = some false)
    (xe_NoText_NoText : PySem.W.subIn K (.ref CNoText) (.ref CNoText) = some true)
    (xe_NoText_NotLeaf : PySem.W.subIn K (.ref CNoText) (.ref CNotLeaf) = some false)
    (xg_NotLeaf : PySem.W.findIn K (.ref CNotLeaf) "__getattribute__" = some (some (.builtin "BaseException.__getattribute__")))
    (xk_NotLeaf : PySem.W.findIn K (.ref CNotLeaf) "__getattr__" = some none)
    (xa_NotLeaf : PySem.W.findIn K (.ref CNotLeaf) "__class__" = some (some (.builtin "object.__class__")))
    (xn_NotLeaf : PySem.W.specialIn K (.builtin "object.__class__") "__get__" = some (some (.builtin "getset_descriptor.__get__")))
    (xt_NotLeaf : PySem.W.takesIn K (.builtin "object.__class__") = some true)
    (xm_NotLeaf : PySem.W.mroIn K CNotLeaf (.type "object") = some true)
    (xs_NotLeaf : PySem.W.subIn K (.ref CNotLeaf) (.ref CNotLeaf) = some true)
    (xv_NotLeaf : PySem.W.subIn K (.ref CNotLeaf) (.type "ValueError") = some true)
    (xe_NotLeaf_PileError : PySem.W.subIn K (.ref CNotLeaf) (.ref CPileError) = some true)
    (xe_NotLeaf_NoShares : PySem.W.subIn K (.ref CNotLeaf) (.ref CNoShares) = some false)
    (xe_NotLeaf_NoPile : PySem.W.subIn K (.ref CNotLeaf) (.ref CNoPile) = some false)
    (xe_NotLeaf_NoSign : PySem.W.subIn K (.ref CNotLeaf) (.ref CNoSign) = some false)
    (xe_NotLeaf_NoSlot : PySem.W.subIn K (.ref CNotLeaf) (.ref CNoSlot) = some false)
    (xe_NotLeaf_NoMore : PySem.W.subIn K (.ref CNotLeaf) (.ref CNoMore) = some false)
    (xe_NotLeaf_NoText : PySem.W.subIn K (.ref CNotLeaf) (.ref CNoText) = some false)
    (xe_NotLeaf_NotLeaf : PySem.W.subIn K (.ref CNotLeaf) (.ref CNotLeaf) = some true)
    (rd_Model : PySem.W.readsIn K CModel (.type "type") = true)
    (ga_Model : PySem.W.specialIn K (.ref CModel) "__getattribute__" = some (some (.builtin "type.__getattribute__")))
    (fc_Model : PySem.W.findCls K (.ref CModel) (.type "type") "__init__" = some (.val (.ref f24)))
    (ic_Model : PySem.W.isClsIn K CModel = true)
    (ty_Model : PySem.W.typeIn K (.ref CModel) = some (.type "type"))
    (pg_Plain : PySem.W.plainGet K CPlain Str.empty = true)
    (hd_Plain : PySem.W.hasDictIn K CPlain = true)
    (po_Plain : PySem.W.plainOver K CPlain = true)
    (sa_Plain : PySem.W.findIn K (.ref CPlain) "__setattr__" = some (some (.builtin "object.__setattr__")))
    (mk_Plain : PySem.W.makesIn K CPlain = true)
    (kc_Plain : PySem.W.keepIn K (.ref CPlain) = true)
    (x1_Plain : PySem.W.findIn K (.ref CPlain) "__class__" = some (some (.builtin "object.__class__")))
    (x2_Plain : PySem.W.specialIn K (.builtin "object.__class__") "__get__" = some (some (.builtin "getset_descriptor.__get__")))
    (x3_Plain : PySem.W.takesIn K (.builtin "object.__class__") = some true)
    (x4_Plain : PySem.W.mroIn K CPlain (.type "object") = some true)
    (pg_Learner : PySem.W.plainGet K CLearner Str.empty = true)
    (hd_Learner : PySem.W.hasDictIn K CLearner = true)
    (po_Learner : PySem.W.plainOver K CLearner = true)
    (sa_Learner : PySem.W.findIn K (.ref CLearner) "__setattr__" = some (some (.builtin "object.__setattr__")))
    (mk_Learner : PySem.W.makesIn K CLearner = true)
    (kc_Learner : PySem.W.keepIn K (.ref CLearner) = true)
    (x1_Learner : PySem.W.findIn K (.ref CLearner) "__class__" = some (some (.builtin "object.__class__")))
    (x2_Learner : PySem.W.specialIn K (.builtin "object.__class__") "__get__" = some (some (.builtin "getset_descriptor.__get__")))
    (x3_Learner : PySem.W.takesIn K (.builtin "object.__class__") = some true)
    (x4_Learner : PySem.W.mroIn K CLearner (.type "object") = some true)
    (pg_Follower : PySem.W.plainGet K CFollower Str.empty = true)
    (hd_Follower : PySem.W.hasDictIn K CFollower = true)
    (po_Follower : PySem.W.plainOver K CFollower = true)
    (sa_Follower : PySem.W.findIn K (.ref CFollower) "__setattr__" = some (some (.builtin "object.__setattr__")))
    (mk_Follower : PySem.W.makesIn K CFollower = true)
    (kc_Follower : PySem.W.keepIn K (.ref CFollower) = true)
    (x1_Follower : PySem.W.findIn K (.ref CFollower) "__class__" = some (some (.builtin "object.__class__")))
    (x2_Follower : PySem.W.specialIn K (.builtin "object.__class__") "__get__" = some (some (.builtin "getset_descriptor.__get__")))
    (x3_Follower : PySem.W.takesIn K (.builtin "object.__class__") = some true)
    (x4_Follower : PySem.W.mroIn K CFollower (.type "object") = some true)
    (pg_Slots : PySem.W.plainGet K CSlots Str.empty = true)
    (hd_Slots : PySem.W.hasDictIn K CSlots = true)
    (po_Slots : PySem.W.plainOver K CSlots = true)
    (sa_Slots : PySem.W.findIn K (.ref CSlots) "__setattr__" = some (some (.builtin "object.__setattr__")))
    (mk_Slots : PySem.W.makesIn K CSlots = true)
    (kc_Slots : PySem.W.keepIn K (.ref CSlots) = true)
    (x1_Slots : PySem.W.findIn K (.ref CSlots) "__class__" = some (some (.builtin "object.__class__")))
    (x2_Slots : PySem.W.specialIn K (.builtin "object.__class__") "__get__" = some (some (.builtin "getset_descriptor.__get__")))
    (x3_Slots : PySem.W.takesIn K (.builtin "object.__class__") = some true)
    (x4_Slots : PySem.W.mroIn K CSlots (.type "object") = some true)
    (pg_Stream : PySem.W.plainGet K CStream Str.empty = true)
    (hd_Stream : PySem.W.hasDictIn K CStream = true)
    (po_Stream : PySem.W.plainOver K CStream = true)
    (sa_Stream : PySem.W.findIn K (.ref CStream) "__setattr__" = some (some (.builtin "object.__setattr__")))
    (mk_Stream : PySem.W.makesIn K CStream = true)
    (kc_Stream : PySem.W.keepIn K (.ref CStream) = true)
    (x1_Stream : PySem.W.findIn K (.ref CStream) "__class__" = some (some (.builtin "object.__class__")))
    (x2_Stream : PySem.W.specialIn K (.builtin "object.__class__") "__get__" = some (some (.builtin "getset_descriptor.__get__")))
    (x3_Stream : PySem.W.takesIn K (.builtin "object.__class__") = some true)
    (x4_Stream : PySem.W.mroIn K CStream (.type "object") = some true)
    (ih_Plain_ask : PySem.W.findIn K (.ref CPlain) "ask" = some (some (.ref f25)))
    (ih_Learner_ask : PySem.W.findIn K (.ref CLearner) "ask" = some (some (.ref f25)))
    (ih_Follower_ask : PySem.W.findIn K (.ref CFollower) "ask" = some (some (.ref f25)))
    (z_ValueError : PySem.W.nsIn K mainGlobals "ValueError" = some none)
    (z_int : PySem.W.nsIn K mainGlobals "int" = some none)
    (z_isinstance : PySem.W.nsIn K mainGlobals "isinstance" = some none)
    (z_len : PySem.W.nsIn K mainGlobals "len" = some none)
    (z_list : PySem.W.nsIn K mainGlobals "list" = some none)
    (z_min : PySem.W.nsIn K mainGlobals "min" = some none)
    (z_range : PySem.W.nsIn K mainGlobals "range" = some none)
    (z_reversed : PySem.W.nsIn K mainGlobals "reversed" = some none)
    (z_str : PySem.W.nsIn K mainGlobals "str" = some none)
    (z_sum : PySem.W.nsIn K mainGlobals "sum" = some none)
    {t_MOST_SIGNS : Tok}
    (z_MOST_SIGNS : PySem.W.nsIn K mainGlobals "MOST_SIGNS" = some (some (.int 100 t_MOST_SIGNS)))
    {t_MOST_COUNT : Tok}
    (z_MOST_COUNT : PySem.W.nsIn K mainGlobals "MOST_COUNT" = some (some (.int 999 t_MOST_COUNT)))
    {t_SIGNS : Tok}
    (z_SIGNS : PySem.W.nsIn K mainGlobals "SIGNS" = some (some (.str (S sgs) t_SIGNS)))
    {t_LETTERS : Tok}
    (z_LETTERS : PySem.W.nsIn K mainGlobals "LETTERS" = some (some (.str (S lts) t_LETTERS)))
    {t_FIGURES : Tok}
    (z_FIGURES : PySem.W.nsIn K mainGlobals "FIGURES" = some (some (.str (S fgs) t_FIGURES)))
    {t_MOST : Tok}
    (z_MOST : PySem.W.nsIn K mainGlobals "MOST" = some (some (.int 150 t_MOST)))
    {t_MOST_STEP : Tok}
    (z_MOST_STEP : PySem.W.nsIn K mainGlobals "MOST_STEP" = some (some (.int 9 t_MOST_STEP)))
    (n_Plain_many : PySem.W.findIn K (.ref CPlain) "many" = some none)
    (n_Plain_fixed : PySem.W.findIn K (.ref CPlain) "fixed" = some none)
    (sb_Plain : PySem.W.subIn K (.ref CPlain) (.ref CModel) = some true)
    (n_Learner_many : PySem.W.findIn K (.ref CLearner) "many" = some none)
    (n_Learner_step : PySem.W.findIn K (.ref CLearner) "step" = some none)
    (n_Learner_tally : PySem.W.findIn K (.ref CLearner) "tally" = some none)
    (sb_Learner : PySem.W.subIn K (.ref CLearner) (.ref CModel) = some true)
    (n_Follower_many : PySem.W.findIn K (.ref CFollower) "many" = some none)
    (n_Follower_step : PySem.W.findIn K (.ref CFollower) "step" = some none)
    (n_Follower_learners : PySem.W.findIn K (.ref CFollower) "learners" = some none)
    (n_Follower_at : PySem.W.findIn K (.ref CFollower) "at" = some none)
    (sb_Follower : PySem.W.subIn K (.ref CFollower) (.ref CModel) = some true)
    (n_Slots_shares : PySem.W.findIn K (.ref CSlots) "shares" = some none)
    (n_Slots_size : PySem.W.findIn K (.ref CSlots) "size" = some none)
    (n_Slots_holders : PySem.W.findIn K (.ref CSlots) "holders" = some none)
    (n_Slots_places : PySem.W.findIn K (.ref CSlots) "places" = some none)
    (n_Slots_numbers : PySem.W.findIn K (.ref CSlots) "numbers" = some none)
    (n_Stream_shares : PySem.W.findIn K (.ref CStream) "shares" = some none)
    (n_Stream_base : PySem.W.findIn K (.ref CStream) "base" = some none)
    (n_Stream_grain : PySem.W.findIn K (.ref CStream) "grain" = some none)
    (n_Stream_low : PySem.W.findIn K (.ref CStream) "low" = some none)
    (n_Stream_number : PySem.W.findIn K (.ref CStream) "number" = some none)
    (n_Stream_words : PySem.W.findIn K (.ref CStream) "words" = some none)
    : ∃ fd : FuncData, (∀ (s : Shared) (v : Value), BindsTo s fd ⟨[v], []⟩ [("script", v)]) ∧ ∀ base : Heap, K.In base → base.Ns mainGlobals mg → FnOk l.prog w K mg base CX0 9 fa fd ["script"] (sp_law K) := by
  have e := hfa.symm.trans (PySem.W.mg_of X G a62)
  cases e
  let Z : Zs := ⟨CPlain, CLearner, CFollower, CStream, CSlots, CModel, CNoShares, CNoPile, CNoSign, CNoSlot, CNoMore, CNoText, CNotLeaf, CPileError⟩
  have T : Txt K mg Z := ⟨PySem.W.mg_none_of X G z_ValueError, PySem.W.mg_none_of X G z_int, PySem.W.mg_none_of X G z_isinstance, PySem.W.mg_none_of X G z_len, PySem.W.mg_none_of X G z_list, PySem.W.mg_none_of X G z_min, PySem.W.mg_none_of X G z_range, PySem.W.mg_none_of X G z_reversed, PySem.W.mg_none_of X G z_str, PySem.W.mg_none_of X G z_sum, ⟨_, PySem.W.mg_of X G z_MOST_SIGNS, ⟨_, rfl⟩⟩, ⟨_, PySem.W.mg_of X G z_MOST_COUNT, ⟨_, rfl⟩⟩, ⟨_, PySem.W.mg_of X G z_SIGNS, ⟨_, rfl⟩⟩, ⟨_, PySem.W.mg_of X G z_LETTERS, ⟨_, rfl⟩⟩, ⟨_, PySem.W.mg_of X G z_FIGURES, ⟨_, rfl⟩⟩, ⟨_, PySem.W.mg_of X G z_MOST, ⟨_, rfl⟩⟩, ⟨_, PySem.W.mg_of X G z_MOST_STEP, ⟨_, rfl⟩⟩, PySem.W.mg_of X G z_Model, PySem.W.mg_of X G z_Plain, ⟨⟨pg_Plain, hd_Plain, po_Plain, sa_Plain⟩, x1_Plain, x2_Plain, x3_Plain, x4_Plain⟩, n_Plain_many, n_Plain_fixed, kit_own ic_Model ty_Model sb_Plain, by simp [PySem.W.kitOne], PySem.W.mg_of X G z_Learner, ⟨⟨pg_Learner, hd_Learner, po_Learner, sa_Learner⟩, x1_Learner, x2_Learner, x3_Learner, x4_Learner⟩, n_Learner_many, n_Learner_step, n_Learner_tally, kit_own ic_Model ty_Model sb_Learner, by simp [PySem.W.kitOne], PySem.W.mg_of X G z_Follower, ⟨⟨pg_Follower, hd_Follower, po_Follower, sa_Follower⟩, x1_Follower, x2_Follower, x3_Follower, x4_Follower⟩, n_Follower_many, n_Follower_step, n_Follower_learners, n_Follower_at, kit_own ic_Model ty_Model sb_Follower, by simp [PySem.W.kitOne], PySem.W.mg_of X G z_Slots, ⟨⟨pg_Slots, hd_Slots, po_Slots, sa_Slots⟩, x1_Slots, x2_Slots, x3_Slots, x4_Slots⟩, n_Slots_shares, n_Slots_size, n_Slots_holders, n_Slots_places, n_Slots_numbers, by simp [PySem.W.kitOne], PySem.W.mg_of X G z_Stream, ⟨⟨pg_Stream, hd_Stream, po_Stream, sa_Stream⟩, x1_Stream, x2_Stream, x3_Stream, x4_Stream⟩, n_Stream_shares, n_Stream_base, n_Stream_grain, n_Stream_low, n_Stream_number, n_Stream_words, by simp [PySem.W.kitOne], ⟨PySem.W.mg_of X G z_NoShares, xp_NoShares, kp_NoShares, bp_NoShares, tp_NoShares, ip_NoShares, sp_NoShares⟩, ⟨PySem.W.mg_of X G z_NoPile, xp_NoPile, kp_NoPile, bp_NoPile, tp_NoPile, ip_NoPile, sp_NoPile⟩, ⟨PySem.W.mg_of X G z_NoSign, xp_NoSign, kp_NoSign, bp_NoSign, tp_NoSign, ip_NoSign, sp_NoSign⟩, ⟨PySem.W.mg_of X G z_NoSlot, xp_NoSlot, kp_NoSlot, bp_NoSlot, tp_NoSlot, ip_NoSlot, sp_NoSlot⟩, ⟨PySem.W.mg_of X G z_NoMore, xp_NoMore, kp_NoMore, bp_NoMore, tp_NoMore, ip_NoMore, sp_NoMore⟩, ⟨PySem.W.mg_of X G z_NoText, xp_NoText, kp_NoText, bp_NoText, tp_NoText, ip_NoText, sp_NoText⟩, ⟨PySem.W.mg_of X G z_NotLeaf, xp_NotLeaf, kp_NotLeaf, bp_NotLeaf, tp_NotLeaf, ip_NotLeaf, sp_NotLeaf⟩, PySem.W.mg_of X G z_NoMore, PySem.W.mg_of X G z_NoPile, PySem.W.mg_of X G z_NoShares, PySem.W.mg_of X G z_NoSign, PySem.W.mg_of X G z_NoSlot, PySem.W.mg_of X G z_NoText, PySem.W.mg_of X G z_NotLeaf, PySem.W.mg_of X G z_PileError, ⟨xg_NoShares, xk_NoShares, eb_NoShares, eh_NoShares, xa_NoShares, xn_NoShares, xt_NoShares, xm_NoShares⟩, PySem.W.exm_ref eb_PileError eh_PileError et_PileError xe_NoShares_PileError, kit_val xv_NoShares, kit_no xs_NoShares ei_NoShares et_NoShares xe_NoShares_NoShares, kit_no xs_NoShares ei_NoPile et_NoPile xe_NoShares_NoPile, kit_no xs_NoShares ei_NoSign et_NoSign xe_NoShares_NoSign, kit_no xs_NoShares ei_NoSlot et_NoSlot xe_NoShares_NoSlot, kit_no xs_NoShares ei_NoMore et_NoMore xe_NoShares_NoMore, kit_no xs_NoShares ei_NoText et_NoText xe_NoShares_NoText, kit_no xs_NoShares ei_NotLeaf et_NotLeaf xe_NoShares_NotLeaf, ⟨xg_NoPile, xk_NoPile, eb_NoPile, eh_NoPile, xa_NoPile, xn_NoPile, xt_NoPile, xm_NoPile⟩, PySem.W.exm_ref eb_PileError eh_PileError et_PileError xe_NoPile_PileError, kit_val xv_NoPile, kit_no xs_NoPile ei_NoShares et_NoShares xe_NoPile_NoShares, kit_no xs_NoPile ei_NoPile et_NoPile xe_NoPile_NoPile, kit_no xs_NoPile ei_NoSign et_NoSign xe_NoPile_NoSign, kit_no xs_NoPile ei_NoSlot et_NoSlot xe_NoPile_NoSlot, kit_no xs_NoPile ei_NoMore et_NoMore xe_NoPile_NoMore, kit_no xs_NoPile ei_NoText et_NoText xe_NoPile_NoText, kit_no xs_NoPile ei_NotLeaf et_NotLeaf xe_NoPile_NotLeaf, ⟨xg_NoSign, xk_NoSign, eb_NoSign, eh_NoSign, xa_NoSign, xn_NoSign, xt_NoSign, xm_NoSign⟩, PySem.W.exm_ref eb_PileError eh_PileError et_PileError xe_NoSign_PileError, kit_val xv_NoSign, kit_no xs_NoSign ei_NoShares et_NoShares xe_NoSign_NoShares, kit_no xs_NoSign ei_NoPile et_NoPile xe_NoSign_NoPile, kit_no xs_NoSign ei_NoSign et_NoSign xe_NoSign_NoSign, kit_no xs_NoSign ei_NoSlot et_NoSlot xe_NoSign_NoSlot, kit_no xs_NoSign ei_NoMore et_NoMore xe_NoSign_NoMore, kit_no xs_NoSign ei_NoText et_NoText xe_NoSign_NoText, kit_no xs_NoSign ei_NotLeaf et_NotLeaf xe_NoSign_NotLeaf, ⟨xg_NoSlot, xk_NoSlot, eb_NoSlot, eh_NoSlot, xa_NoSlot, xn_NoSlot, xt_NoSlot, xm_NoSlot⟩, PySem.W.exm_ref eb_PileError eh_PileError et_PileError xe_NoSlot_PileError, kit_val xv_NoSlot, kit_no xs_NoSlot ei_NoShares et_NoShares xe_NoSlot_NoShares, kit_no xs_NoSlot ei_NoPile et_NoPile xe_NoSlot_NoPile, kit_no xs_NoSlot ei_NoSign et_NoSign xe_NoSlot_NoSign, kit_no xs_NoSlot ei_NoSlot et_NoSlot xe_NoSlot_NoSlot, kit_no xs_NoSlot ei_NoMore et_NoMore xe_NoSlot_NoMore, kit_no xs_NoSlot ei_NoText et_NoText xe_NoSlot_NoText, kit_no xs_NoSlot ei_NotLeaf et_NotLeaf xe_NoSlot_NotLeaf, ⟨xg_NoMore, xk_NoMore, eb_NoMore, eh_NoMore, xa_NoMore, xn_NoMore, xt_NoMore, xm_NoMore⟩, PySem.W.exm_ref eb_PileError eh_PileError et_PileError xe_NoMore_PileError, kit_val xv_NoMore, kit_no xs_NoMore ei_NoShares et_NoShares xe_NoMore_NoShares, kit_no xs_NoMore ei_NoPile et_NoPile xe_NoMore_NoPile, kit_no xs_NoMore ei_NoSign et_NoSign xe_NoMore_NoSign, kit_no xs_NoMore ei_NoSlot et_NoSlot xe_NoMore_NoSlot, kit_no xs_NoMore ei_NoMore et_NoMore xe_NoMore_NoMore, kit_no xs_NoMore ei_NoText et_NoText xe_NoMore_NoText, kit_no xs_NoMore ei_NotLeaf et_NotLeaf xe_NoMore_NotLeaf, ⟨xg_NoText, xk_NoText, eb_NoText, eh_NoText, xa_NoText, xn_NoText, xt_NoText, xm_NoText⟩, PySem.W.exm_ref eb_PileError eh_PileError et_PileError xe_NoText_PileError, kit_val xv_NoText, kit_no xs_NoText ei_NoShares et_NoShares xe_NoText_NoShares, kit_no xs_NoText ei_NoPile et_NoPile xe_NoText_NoPile, kit_no xs_NoText ei_NoSign et_NoSign xe_NoText_NoSign, kit_no xs_NoText ei_NoSlot et_NoSlot xe_NoText_NoSlot, kit_no xs_NoText ei_NoMore et_NoMore xe_NoText_NoMore, kit_no xs_NoText ei_NoText et_NoText xe_NoText_NoText, kit_no xs_NoText ei_NotLeaf et_NotLeaf xe_NoText_NotLeaf, ⟨xg_NotLeaf, xk_NotLeaf, eb_NotLeaf, eh_NotLeaf, xa_NotLeaf, xn_NotLeaf, xt_NotLeaf, xm_NotLeaf⟩, PySem.W.exm_ref eb_PileError eh_PileError et_PileError xe_NotLeaf_PileError, kit_val xv_NotLeaf, kit_no xs_NotLeaf ei_NoShares et_NoShares xe_NotLeaf_NoShares, kit_no xs_NotLeaf ei_NoPile et_NoPile xe_NotLeaf_NoPile, kit_no xs_NotLeaf ei_NoSign et_NoSign xe_NotLeaf_NoSign, kit_no xs_NotLeaf ei_NoSlot et_NoSlot xe_NotLeaf_NoSlot, kit_no xs_NotLeaf ei_NoMore et_NoMore xe_NotLeaf_NoMore, kit_no xs_NotLeaf ei_NoText et_NoText xe_NotLeaf_NoText, kit_no xs_NotLeaf ei_NotLeaf et_NotLeaf xe_NotLeaf_NotLeaf⟩
  refine ⟨PySem.W.fnOf "law" "law" (defArgs s_law) (defBody s_law) (defScope s_law) .none kV62 dc62 pm62 an62 cd62 ct62, fun s v => .of_eq rfl, fun base _ _ => ?_⟩
  have m1 : mg "ask_counts" = some (.ref f1) := PySem.W.mg_of X G a1
  have F1 := fun_mk (st := s_ask_counts) l1 c1 k1
  have g_ask_counts := f_ask_counts (P := l.prog) (w := w) (base := base) F1 T  
  have m2 : mg "holder" = some (.ref f2) := PySem.W.mg_of X G a2
  have c_holder := c_holder (P := l.prog) (w := w) (base := base) (fun_mk (st := s_holder) l2 c2 k2) m2 T  
  have xf_ask_counts : CalX l.prog w K mg base 1 "ask_counts" (sp_ask_counts K Z) := ⟨_, _, _, g_ask_counts, m1, k1, F1.binds (ps := ["counts"]) (fun _ _ _ _ _ _ us hl => match us, hl with | [_], _ => rfl)⟩
  have m3 : mg "whole" = some (.ref f3) := PySem.W.mg_of X G a3
  have F3 := fun_mk (st := s_whole) l3 c3 k3
  have g_whole := f_whole (P := l.prog) (w := w) (base := base) F3 T xf_ask_counts 
  have m4 : mg "first_of" = some (.ref f4) := PySem.W.mg_of X G a4
  have F4 := fun_mk (st := s_first_of) l4 c4 k4
  have g_first_of := f_first_of (P := l.prog) (w := w) (base := base) F4 T xf_ask_counts 
  have m5 : mg "sign_of" = some (.ref f5) := PySem.W.mg_of X G a5
  have F5 := fun_mk (st := s_sign_of) l5 c5 k5
  have g_sign_of := f_sign_of (P := l.prog) (w := w) (base := base) F5 T xf_ask_counts c_holder 
  have m6 : mg "ask_pile" = some (.ref f6) := PySem.W.mg_of X G a6
  have F6 := fun_mk (st := s_ask_pile) l6 c6 k6
  have g_ask_pile := f_ask_pile (P := l.prog) (w := w) (base := base) F6 T  
  have m7 : mg "ask_sign" = some (.ref f7) := PySem.W.mg_of X G a7
  have F7 := fun_mk (st := s_ask_sign) l7 c7 k7
  have g_ask_sign := f_ask_sign (P := l.prog) (w := w) (base := base) F7 T  
  have m8 : mg "put_on" = some (.ref f8) := PySem.W.mg_of X G a8
  have c_put_on := c_put_on (P := l.prog) (w := w) (base := base) (fun_mk (st := s_put_on) l8 c8 k8) m8 T  
  have m9 : mg "taken_off" = some (.ref f9) := PySem.W.mg_of X G a9
  have c_taken_off := c_taken_off (P := l.prog) (w := w) (base := base) (fun_mk (st := s_taken_off) l9 c9 k9) m9 T c_holder 
  have xf_ask_pile : CalX l.prog w K mg base 1 "ask_pile" (sp_ask_pile K Z) := ⟨_, _, _, g_ask_pile, m6, k6, F6.binds (ps := ["pile"]) (fun _ _ _ _ _ _ us hl => match us, hl with | [_], _ => rfl)⟩
  have xf_ask_sign : CalX l.prog w K mg base 1 "ask_sign" (sp_ask_sign K Z) := ⟨_, _, _, g_ask_sign, m7, k7, F7.binds (ps := ["counts", "sign"]) (fun _ _ _ _ _ _ us hl => match us, hl with | [_, _], _ => rfl)⟩
  have m10 : mg "lay" = some (.ref f10) := PySem.W.mg_of X G a10
  have F10 := fun_mk (st := s_lay) l10 c10 k10
  have g_lay := f_lay (P := l.prog) (w := w) (base := base) F10 T xf_ask_counts xf_ask_pile xf_ask_sign c_put_on 
  have m11 : mg "take" = some (.ref f11) := PySem.W.mg_of X G a11
  have F11 := fun_mk (st := s_take) l11 c11 k11
  have g_take := f_take (P := l.prog) (w := w) (base := base) F11 T xf_ask_counts xf_ask_pile c_taken_off 
  have m12 : mg "lay_row" = some (.ref f12) := PySem.W.mg_of X G a12
  have F12 := fun_mk (st := s_lay_row) l12 c12 k12
  have g_lay_row := f_lay_row (P := l.prog) (w := w) (base := base) F12 T xf_ask_counts xf_ask_pile xf_ask_sign c_put_on 
  have m13 : mg "take_row" = some (.ref f13) := PySem.W.mg_of X G a13
  have F13 := fun_mk (st := s_take_row) l13 c13 k13
  have g_take_row := f_take_row (P := l.prog) (w := w) (base := base) F13 T xf_ask_counts xf_ask_pile c_taken_off 
  have m14 : mg "ask_full" = some (.ref f14) := PySem.W.mg_of X G a14
  have F14 := fun_mk (st := s_ask_full) l14 c14 k14
  have g_ask_full := f_ask_full (P := l.prog) (w := w) (base := base) F14 T xf_ask_counts 
  have xf_ask_full : CalX l.prog w K mg base 2 "ask_full" (sp_ask_full K Z) := ⟨_, _, _, g_ask_full, m14, k14, F14.binds (ps := ["counts", "many"]) (fun _ _ _ _ _ _ us hl => match us, hl with | [_, _], _ => rfl)⟩
  have m15 : mg "ask_tables" = some (.ref f15) := PySem.W.mg_of X G a15
  have F15 := fun_mk (st := s_ask_tables) l15 c15 k15
  have g_ask_tables := f_ask_tables (P := l.prog) (w := w) (base := base) F15 T xf_ask_full 
  have xf_ask_tables : CalX l.prog w K mg base 3 "ask_tables" (sp_ask_tables K Z) := ⟨_, _, _, g_ask_tables, m15, k15, F15.binds (ps := ["prior", "given", "back"]) (fun _ _ _ _ _ _ us hl => match us, hl with | [_, _, _], _ => rfl)⟩
  have m16 : mg "lay_hidden" = some (.ref f16) := PySem.W.mg_of X G a16
  have F16 := fun_mk (st := s_lay_hidden) l16 c16 k16
  have g_lay_hidden := f_lay_hidden (P := l.prog) (w := w) (base := base) F16 T xf_ask_tables xf_ask_pile c_taken_off c_put_on 
  have m17 : mg "take_hidden" = some (.ref f17) := PySem.W.mg_of X G a17
  have F17 := fun_mk (st := s_take_hidden) l17 c17 k17
  have g_take_hidden := f_take_hidden (P := l.prog) (w := w) (base := base) F17 T xf_ask_tables xf_ask_pile c_taken_off c_put_on 
  have m18 : mg "by_letters" = some (.ref f18) := PySem.W.mg_of X G a18
  have c_by_letters := c_by_letters (P := l.prog) (w := w) (base := base) (fun_mk (st := s_by_letters) l18 c18 k18) m18 T  
  have m19 : mg "by_pile" = some (.ref f19) := PySem.W.mg_of X G a19
  have F19 := fun_mk (st := s_by_pile) l19 c19 k19
  have g_by_pile := f_by_pile (P := l.prog) (w := w) (base := base) F19 T  
  have m20 : mg "figures_of" = some (.ref f20) := PySem.W.mg_of X G a20
  have F20 := fun_mk (st := s_figures_of) l20 c20 k20
  have g_figures_of := f_figures_of (P := l.prog) (w := w) (base := base) F20 T  
  have xf_lay_row : CalX l.prog w K mg base 2 "lay_row" (sp_lay_row K Z) := ⟨_, _, _, g_lay_row, m12, k12, F12.binds (ps := ["pile", "counts", "row"]) (fun _ _ _ _ _ _ us hl => match us, hl with | [_, _, _], _ => rfl)⟩
  have m21 : mg "packed" = some (.ref f21) := PySem.W.mg_of X G a21
  have F21 := fun_mk (st := s_packed) l21 c21 k21
  have g_packed := f_packed (P := l.prog) (w := w) (base := base) F21 T c_by_letters xf_lay_row 
  have xf_figures_of : CalX l.prog w K mg base 1 "figures_of" (sp_figures_of K Z) := ⟨_, _, _, g_figures_of, m20, k20, F20.binds (ps := ["word"]) (fun _ _ _ _ _ _ us hl => match us, hl with | [_], _ => rfl)⟩
  have xf_take_row : CalX l.prog w K mg base 3 "take_row" (sp_take_row K Z) := ⟨_, _, _, g_take_row, m13, k13, F13.binds (ps := ["pile", "counts", "many"]) (fun _ _ _ _ _ _ us hl => match us, hl with | [_, _, _], _ => rfl)⟩
  have xf_by_pile : CalX l.prog w K mg base 1 "by_pile" (sp_by_pile K Z) := ⟨_, _, _, g_by_pile, m19, k19, F19.binds (ps := ["letters"]) (fun _ _ _ _ _ _ us hl => match us, hl with | [_], _ => rfl)⟩
  have xf_packed : CalX l.prog w K mg base 3 "packed" (sp_packed K Z) := ⟨_, _, _, g_packed, m21, k21, F21.binds (ps := ["text"]) (fun _ _ _ _ _ _ us hl => match us, hl with | [_], _ => rfl)⟩
  have m22 : mg "unpacked" = some (.ref f22) := PySem.W.mg_of X G a22
  have F22 := fun_mk (st := s_unpacked) l22 c22 k22
  have g_unpacked := f_unpacked (P := l.prog) (w := w) (base := base) F22 T xf_figures_of xf_take_row xf_by_pile xf_packed 
  have m23 : mg "ask_learner" = some (.ref f23) := PySem.W.mg_of X G a23
  have F23 := fun_mk (st := s_ask_learner) l23 c23 k23
  have g_ask_learner := f_ask_learner (P := l.prog) (w := w) (base := base) F23 T  
  have F24 := fun_mk (st := s_Model_init) l24 c24 k24
  have g_Model_init := f_Model_init (P := l.prog) (w := w) (base := base) F24 T  
  have F25 := fun_mk (st := s_Model_ask) l25 c25 k25
  have g_Model_ask := f_Model_ask (P := l.prog) (w := w) (base := base) F25 T  
  have cf_Model_init : CF l.prog w K mg base 1 Z.model "__init__" (sp_Model_init K Z) := ⟨_, _, _, _, ⟨rd_Model, ga_Model⟩, fc_Model, k24, g_Model_init, F24.binds (ps := ["self", "many"]) (fun _ _ _ _ _ _ us hl => match us, hl with | [_, _], _ => rfl)⟩
  have F26 := fun_mk (st := s_Plain_init) l26 c26 k26
  have g_Plain_init := f_Plain_init (P := l.prog) (w := w) (base := base) F26 T xf_ask_counts cf_Model_init 
  have F27 := fun_mk (st := s_Plain_counts) l27 c27 k27
  have g_Plain_counts := f_Plain_counts (P := l.prog) (w := w) (base := base) F27 T  
  have mx_Plain_ask : MetX l.prog w K mg base 1 Z.plain "ask" (sp_Model_ask K Z) := ⟨_, _, _, T.is_Plain.cl, ⟨ih_Plain_ask, i25, k25⟩, g_Model_ask, F25.binds (ps := ["self", "sign"]) (fun _ _ _ _ _ _ us hl => match us, hl with | [_, _], _ => rfl)⟩
  have F28 := fun_mk (st := s_Plain_see) l28 c28 k28
  have g_Plain_see := f_Plain_see (P := l.prog) (w := w) (base := base) F28 T mx_Plain_ask 
  have nx_Plain_1 : MakX l.prog w K mg base 2 "Plain" Z.plain (sp_Plain_init K Z) [] := ⟨_, _, _, _, ⟨mk_Plain, a26, i26, kc_Plain⟩, g_Plain_init, T.g_Plain, F26.binds (ps := ["self", "counts"]) (fun _ _ _ _ _ _ us hl => match us, hl with | [_, _], _ => rfl), .nil⟩
  have F29 := fun_mk (st := s_Plain_fresh) l29 c29 k29
  have g_Plain_fresh := f_Plain_fresh (P := l.prog) (w := w) (base := base) F29 T nx_Plain_1 
  have xf_ask_learner : CalX l.prog w K mg base 1 "ask_learner" (sp_ask_learner K Z) := ⟨_, _, _, g_ask_learner, m23, k23, F23.binds (ps := ["many", "step"]) (fun _ _ _ _ _ _ us hl => match us, hl with | [_, _], _ => rfl)⟩
  have F30 : FunD K "__init__" "Learner.__init__" (defArgs s_Learner_init) (defBody s_Learner_init) (defScope s_Learner_init) [V.int 1] [] f30 _ := fund_mk l30 c30 k30 (.inr ⟨List.cons_ne_nil _ _, _, _, [.int 1 tk30_0], _, rfl, d30, rfl, .cons ⟨_, rfl⟩ (.nil)⟩)
  have g_Learner_init := f_Learner_init (P := l.prog) (w := w) (base := base) F30 T xf_ask_learner cf_Model_init 
  have F31 := fun_mk (st := s_Learner_counts) l31 c31 k31
  have g_Learner_counts := f_Learner_counts (P := l.prog) (w := w) (base := base) F31 T  
  have mx_Learner_ask : MetX l.prog w K mg base 1 Z.learner "ask" (sp_Model_ask K Z) := ⟨_, _, _, T.is_Learner.cl, ⟨ih_Learner_ask, i25, k25⟩, g_Model_ask, F25.binds (ps := ["self", "sign"]) (fun _ _ _ _ _ _ us hl => match us, hl with | [_, _], _ => rfl)⟩
  have F32 := fun_mk (st := s_Learner_see) l32 c32 k32
  have g_Learner_see := f_Learner_see (P := l.prog) (w := w) (base := base) F32 T mx_Learner_ask 
  have nx_Learner_2 : MakX l.prog w K mg base 2 "Learner" Z.learner (sp_Learner_init K Z) [] := by
    obtain ⟨ds, v, b⟩ := F30.binds1 (ps := ["self", "many", "step"]) 3 1 (List.cons_ne_nil _ _) rfl (fun _ _ _ _ _ _ _ us its h1 h2 => match us, its, h1, h2 with | [_, _, _], [_], _, _ => ⟨_, rfl, rfl⟩)
    exact ⟨_, _, _, _, ⟨mk_Learner, a30, i30, kc_Learner⟩, g_Learner_init, T.g_Learner, b, v⟩
  have F33 := fun_mk (st := s_Learner_fresh) l33 c33 k33
  have g_Learner_fresh := f_Learner_fresh (P := l.prog) (w := w) (base := base) F33 T nx_Learner_2 
  have F34 : FunD K "__init__" "Follower.__init__" (defArgs s_Follower_init) (defBody s_Follower_init) (defScope s_Follower_init) [V.int 1] [] f34 _ := fund_mk l34 c34 k34 (.inr ⟨List.cons_ne_nil _ _, _, _, [.int 1 tk34_0], _, rfl, d34, rfl, .cons ⟨_, rfl⟩ (.nil)⟩)
  have g_Follower_init := f_Follower_init (P := l.prog) (w := w) (base := base) F34 T xf_ask_learner cf_Model_init nx_Learner_2 
  have mx_Follower_ask : MetX l.prog w K mg base 1 Z.follower "ask" (sp_Model_ask K Z) := ⟨_, _, _, T.is_Follower.cl, ⟨ih_Follower_ask, i25, k25⟩, g_Model_ask, F25.binds (ps := ["self", "sign"]) (fun _ _ _ _ _ _ us hl => match us, hl with | [_, _], _ => rfl)⟩
  have mx_Learner_see : MetX l.prog w K mg base 2 Z.learner "see" (sp_Learner_see K Z) := ⟨_, _, _, T.is_Learner.cl, ⟨a32, i32, k32⟩, g_Learner_see, F32.binds (ps := ["self", "sign"]) (fun _ _ _ _ _ _ us hl => match us, hl with | [_, _], _ => rfl)⟩
  have F36 := fun_mk (st := s_Follower_see) l36 c36 k36
  have g_Follower_see := f_Follower_see (P := l.prog) (w := w) (base := base) F36 T mx_Follower_ask mx_Learner_see 
  have m_Plain_fresh : Met l.prog w K mg base 4 Z.plain "fresh" (sp_Plain_fresh K Z) [] := ⟨_, _, _, _, T.is_Plain.cl, ⟨a29, i29, k29⟩, g_Plain_fresh, F29.binds (ps := ["self"]) (fun _ _ _ _ _ _ us hl => match us, hl with | [_], _ => rfl), .nil⟩
  have m_Learner_fresh : Met l.prog w K mg base 4 Z.learner "fresh" (sp_Learner_fresh K Z) [] := ⟨_, _, _, _, T.is_Learner.cl, ⟨a33, i33, k33⟩, g_Learner_fresh, F33.binds (ps := ["self"]) (fun _ _ _ _ _ _ us hl => match us, hl with | [_], _ => rfl), .nil⟩
  have m_Plain_counts : Met l.prog w K mg base 1 Z.plain "counts" (sp_Plain_counts K Z) [] := ⟨_, _, _, _, T.is_Plain.cl, ⟨a27, i27, k27⟩, g_Plain_counts, F27.binds (ps := ["self"]) (fun _ _ _ _ _ _ us hl => match us, hl with | [_], _ => rfl), .nil⟩
  have m_Learner_counts : Met l.prog w K mg base 1 Z.learner "counts" (sp_Learner_counts K Z) [] := ⟨_, _, _, _, T.is_Learner.cl, ⟨a31, i31, k31⟩, g_Learner_counts, F31.binds (ps := ["self"]) (fun _ _ _ _ _ _ us hl => match us, hl with | [_], _ => rfl), .nil⟩
  have mx_Plain_see : MetX l.prog w K mg base 2 Z.plain "see" (sp_Plain_see K Z) := ⟨_, _, _, T.is_Plain.cl, ⟨a28, i28, k28⟩, g_Plain_see, F28.binds (ps := ["self", "sign"]) (fun _ _ _ _ _ _ us hl => match us, hl with | [_, _], _ => rfl)⟩
  have m38 : mg "press" = some (.ref f38) := PySem.W.mg_of X G a38
  have F38 := fun_mk (st := s_press) l38 c38 k38
  have g_press := f_press (P := l.prog) (w := w) (base := base) F38 T xf_ask_pile m_Plain_fresh m_Learner_fresh m_Plain_counts m_Learner_counts xf_ask_sign mx_Plain_see mx_Learner_see c_put_on 
  have m39 : mg "read" = some (.ref f39) := PySem.W.mg_of X G a39
  have F39 := fun_mk (st := s_read) l39 c39 k39
  have g_read := f_read (P := l.prog) (w := w) (base := base) F39 T xf_ask_pile m_Learner_fresh c_taken_off m_Learner_counts mx_Learner_see 
  have m40 : mg "shared" = some (.ref f40) := PySem.W.mg_of X G a40
  have c_shared := c_shared (P := l.prog) (w := w) (base := base) (fun_mk (st := s_shared) l40 c40 k40) m40 T  
  have F41 := fun_mk (st := s_Slots_init) l41 c41 k41
  have g_Slots_init := f_Slots_init (P := l.prog) (w := w) (base := base) F41 T xf_ask_counts c_shared 
  have F42 := fun_mk (st := s_Slots_ask_number) l42 c42 k42
  have g_Slots_ask_number := f_Slots_ask_number (P := l.prog) (w := w) (base := base) F42 T  
  have F44 := fun_mk (st := s_Slots_raised) l44 c44 k44
  have g_Slots_raised := f_Slots_raised (P := l.prog) (w := w) (base := base) F44 T xf_ask_sign 
  have mx_Slots_ask_number : MetX l.prog w K mg base 1 Z.slots "ask_number" (sp_Slots_ask_number K Z) := ⟨_, _, _, T.is_Slots.cl, ⟨a42, i42, k42⟩, g_Slots_ask_number, F42.binds (ps := ["self", "number"]) (fun _ _ _ _ _ _ us hl => match us, hl with | [_, _], _ => rfl)⟩
  have F45 := fun_mk (st := s_Slots_lowered) l45 c45 k45
  have g_Slots_lowered := f_Slots_lowered (P := l.prog) (w := w) (base := base) F45 T mx_Slots_ask_number 
  have mx_Slots_raised : MetX l.prog w K mg base 2 Z.slots "raised" (sp_Slots_raised K Z) := ⟨_, _, _, T.is_Slots.cl, ⟨a44, i44, k44⟩, g_Slots_raised, F44.binds (ps := ["self", "sign", "number"]) (fun _ _ _ _ _ _ us hl => match us, hl with | [_, _, _], _ => rfl)⟩
  have F46 := fun_mk (st := s_Slots_laid) l46 c46 k46
  have g_Slots_laid := f_Slots_laid (P := l.prog) (w := w) (base := base) F46 T mx_Slots_ask_number xf_ask_sign mx_Slots_raised 
  have mx_Slots_lowered : MetX l.prog w K mg base 2 Z.slots "lowered" (sp_Slots_lowered K Z) := ⟨_, _, _, T.is_Slots.cl, ⟨a45, i45, k45⟩, g_Slots_lowered, F45.binds (ps := ["self", "number"]) (fun _ _ _ _ _ _ us hl => match us, hl with | [_, _], _ => rfl)⟩
  have F47 := fun_mk (st := s_Slots_taken) l47 c47 k47
  have g_Slots_taken := f_Slots_taken (P := l.prog) (w := w) (base := base) F47 T mx_Slots_ask_number mx_Slots_lowered 
  have F48 : FunD K "__init__" "Stream.__init__" (defArgs s_Stream_init) (defBody s_Stream_init) (defScope s_Stream_init) [V.int 4] [] f48 _ := fund_mk l48 c48 k48 (.inr ⟨List.cons_ne_nil _ _, _, _, [.int 4 tk48_0], _, rfl, d48, rfl, .cons ⟨_, rfl⟩ (.nil)⟩)
  have g_Stream_init := f_Stream_init (P := l.prog) (w := w) (base := base) F48 T xf_ask_counts 
  have F49 := fun_mk (st := s_Stream_lay_sign) l49 c49 k49
  have g_Stream_lay_sign := f_Stream_lay_sign (P := l.prog) (w := w) (base := base) F49 T xf_ask_sign c_put_on 
  have F50 := fun_mk (st := s_Stream_take_sign) l50 c50 k50
  have g_Stream_take_sign := f_Stream_take_sign (P := l.prog) (w := w) (base := base) F50 T c_taken_off 
  have m52 : mg "_law_cell_at" = some (.ref f52) := PySem.W.mg_of X G a52
  have c__law_cell_at := c__law_cell_at (P := l.prog) (w := w) (base := base) (fun_mk (st := s__law_cell_at) l52 c52 k52) m52 T  
  have m53 : mg "_law_which" = some (.ref f53) := PySem.W.mg_of X G a53
  have F53 := fun_mk (st := s__law_which) l53 c53 k53
  have g__law_which := f__law_which (P := l.prog) (w := w) (base := base) F53 T  
  have m54 : mg "_law_bad" = some (.ref f54) := PySem.W.mg_of X G a54
  have c__law_bad := c__law_bad (P := l.prog) (w := w) (base := base) (fun_mk (st := s__law_bad) l54 c54 k54) m54 T  
  have xf_whole : CalX l.prog w K mg base 2 "whole" (sp_whole K Z) := ⟨_, _, _, g_whole, m3, k3, F3.binds (ps := ["counts"]) (fun _ _ _ _ _ _ us hl => match us, hl with | [_], _ => rfl)⟩
  have xf_first_of : CalX l.prog w K mg base 2 "first_of" (sp_first_of K Z) := ⟨_, _, _, g_first_of, m4, k4, F4.binds (ps := ["counts", "sign"]) (fun _ _ _ _ _ _ us hl => match us, hl with | [_, _], _ => rfl)⟩
  have xf_sign_of : CalX l.prog w K mg base 2 "sign_of" (sp_sign_of K Z) := ⟨_, _, _, g_sign_of, m5, k5, F5.binds (ps := ["counts", "slot"]) (fun _ _ _ _ _ _ us hl => match us, hl with | [_, _], _ => rfl)⟩
  have xf_lay : CalX l.prog w K mg base 2 "lay" (sp_lay K Z) := ⟨_, _, _, g_lay, m10, k10, F10.binds (ps := ["pile", "counts", "sign"]) (fun _ _ _ _ _ _ us hl => match us, hl with | [_, _, _], _ => rfl)⟩
  have xf_take : CalX l.prog w K mg base 3 "take" (sp_take K Z) := ⟨_, _, _, g_take, m11, k11, F11.binds (ps := ["pile", "counts"]) (fun _ _ _ _ _ _ us hl => match us, hl with | [_, _], _ => rfl)⟩
  have nx_Stream_2 : MakX l.prog w K mg base 2 "Stream" Z.stream (sp_Stream_init K Z) [.int 4] := by
    obtain ⟨ds, v, b⟩ := F48.binds1 (ps := ["self", "counts", "base", "grain"]) 3 0 (List.cons_ne_nil _ _) rfl (fun _ _ _ _ _ _ _ us its h1 h2 => match us, its, h1, h2 with | [_, _, _], [_], _, _ => ⟨_, rfl, rfl⟩)
    exact ⟨_, _, _, _, ⟨mk_Stream, a48, i48, kc_Stream⟩, g_Stream_init, T.g_Stream, b, v⟩
  have nx_Slots_1 : MakX l.prog w K mg base 2 "Slots" Z.slots (sp_Slots_init K Z) [] := ⟨_, _, _, _, ⟨mk_Slots, a41, i41, kc_Slots⟩, g_Slots_init, T.g_Slots, F41.binds (ps := ["self", "counts"]) (fun _ _ _ _ _ _ us hl => match us, hl with | [_, _], _ => rfl), .nil⟩
  have xf_lay_hidden : CalX l.prog w K mg base 4 "lay_hidden" (sp_lay_hidden K Z) := ⟨_, _, _, g_lay_hidden, m16, k16, F16.binds (ps := ["pile", "prior", "given", "back", "sign"]) (fun _ _ _ _ _ _ us hl => match us, hl with | [_, _, _, _, _], _ => rfl)⟩
  have xf_take_hidden : CalX l.prog w K mg base 4 "take_hidden" (sp_take_hidden K Z) := ⟨_, _, _, g_take_hidden, m17, k17, F17.binds (ps := ["pile", "prior", "given", "back"]) (fun _ _ _ _ _ _ us hl => match us, hl with | [_, _, _, _], _ => rfl)⟩
  have m55 : mg "_law_by_counts" = some (.ref f55) := PySem.W.mg_of X G a55
  have F55 := fun_mk (st := s__law_by_counts) l55 c55 k55
  have g__law_by_counts := f__law_by_counts (P := l.prog) (w := w) (base := base) F55 T xf_whole xf_first_of xf_sign_of xf_lay xf_take xf_lay_row xf_take_row nx_Plain_1 nx_Stream_2 nx_Slots_1 xf_lay_hidden xf_take_hidden 
  have nx_Follower_2 : MakX l.prog w K mg base 4 "Follower" Z.follower (sp_Follower_init K Z) [] := by
    obtain ⟨ds, v, b⟩ := F34.binds1 (ps := ["self", "many", "step"]) 3 1 (List.cons_ne_nil _ _) rfl (fun _ _ _ _ _ _ _ us its h1 h2 => match us, its, h1, h2 with | [_, _, _], [_], _, _ => ⟨_, rfl, rfl⟩)
    exact ⟨_, _, _, _, ⟨mk_Follower, a34, i34, kc_Follower⟩, g_Follower_init, T.g_Follower, b, v⟩
  have m56 : mg "_law_more_shares" = some (.ref f56) := PySem.W.mg_of X G a56
  have F56 := fun_mk (st := s__law_more_shares) l56 c56 k56
  have g__law_more_shares := f__law_more_shares (P := l.prog) (w := w) (base := base) F56 T xf_lay_hidden xf_take_hidden nx_Learner_2 nx_Follower_2 
  have xf__law_by_counts : CalX l.prog w K mg base 5 "_law_by_counts" (sp__law_by_counts K Z) := ⟨_, _, _, g__law_by_counts, m55, k55, F55.binds (ps := ["bad", "way"]) (fun _ _ _ _ _ _ us hl => match us, hl with | [_, _], _ => rfl)⟩
  have nx_Stream_3 : MakX l.prog w K mg base 2 "Stream" Z.stream (sp_Stream_init K Z) [] := by
    obtain ⟨ds, v, b⟩ := F48.binds1 (ps := ["self", "counts", "base", "grain"]) 4 1 (List.cons_ne_nil _ _) rfl (fun _ _ _ _ _ _ _ us its h1 h2 => match us, its, h1, h2 with | [_, _, _, _], [_], _, _ => ⟨_, rfl, rfl⟩)
    exact ⟨_, _, _, _, ⟨mk_Stream, a48, i48, kc_Stream⟩, g_Stream_init, T.g_Stream, b, v⟩
  have xf__law_more_shares : CalX l.prog w K mg base 6 "_law_more_shares" (sp__law_more_shares K Z) := ⟨_, _, _, g__law_more_shares, m56, k56, F56.binds (ps := ["way", "cell", "far"]) (fun _ _ _ _ _ _ us hl => match us, hl with | [_, _, _], _ => rfl)⟩
  have m57 : mg "_law_no_shares" = some (.ref f57) := PySem.W.mg_of X G a57
  have F57 := fun_mk (st := s__law_no_shares) l57 c57 k57
  have g__law_no_shares := f__law_no_shares (P := l.prog) (w := w) (base := base) F57 T xf__law_by_counts c__law_bad nx_Learner_2 nx_Follower_2 nx_Stream_2 nx_Stream_3 xf_lay_hidden xf_take_hidden xf__law_more_shares 
  have xf_press : CalX l.prog w K mg base 5 "press" (sp_press K Z) := ⟨_, _, _, g_press, m38, k38, F38.binds (ps := ["pile", "model", "row"]) (fun _ _ _ _ _ _ us hl => match us, hl with | [_, _, _], _ => rfl)⟩
  have nx_Learner_1 : MakX l.prog w K mg base 2 "Learner" Z.learner (sp_Learner_init K Z) [.int 1] := by
    obtain ⟨ds, v, b⟩ := F30.binds1 (ps := ["self", "many", "step"]) 2 0 (List.cons_ne_nil _ _) rfl (fun _ _ _ _ _ _ _ us its h1 h2 => match us, its, h1, h2 with | [_, _], [_], _, _ => ⟨_, rfl, rfl⟩)
    exact ⟨_, _, _, _, ⟨mk_Learner, a30, i30, kc_Learner⟩, g_Learner_init, T.g_Learner, b, v⟩
  have xf_read : CalX l.prog w K mg base 5 "read" (sp_read K Z) := ⟨_, _, _, g_read, m39, k39, F39.binds (ps := ["pile", "model", "many"]) (fun _ _ _ _ _ _ us hl => match us, hl with | [_, _, _], _ => rfl)⟩
  have nx_Follower_1 : MakX l.prog w K mg base 4 "Follower" Z.follower (sp_Follower_init K Z) [.int 1] := by
    obtain ⟨ds, v, b⟩ := F34.binds1 (ps := ["self", "many", "step"]) 2 0 (List.cons_ne_nil _ _) rfl (fun _ _ _ _ _ _ _ us its h1 h2 => match us, its, h1, h2 with | [_, _], [_], _, _ => ⟨_, rfl, rfl⟩)
    exact ⟨_, _, _, _, ⟨mk_Follower, a34, i34, kc_Follower⟩, g_Follower_init, T.g_Follower, b, v⟩
  have mx_Slots_laid : MetX l.prog w K mg base 3 Z.slots "laid" (sp_Slots_laid K Z) := ⟨_, _, _, T.is_Slots.cl, ⟨a46, i46, k46⟩, g_Slots_laid, F46.binds (ps := ["self", "number", "row"]) (fun _ _ _ _ _ _ us hl => match us, hl with | [_, _, _], _ => rfl)⟩
  have mx_Slots_taken : MetX l.prog w K mg base 3 Z.slots "taken" (sp_Slots_taken K Z) := ⟨_, _, _, T.is_Slots.cl, ⟨a47, i47, k47⟩, g_Slots_taken, F47.binds (ps := ["self", "number", "bits", "many"]) (fun _ _ _ _ _ _ us hl => match us, hl with | [_, _, _, _], _ => rfl)⟩
  have m58 : mg "_law_no_pile" = some (.ref f58) := PySem.W.mg_of X G a58
  have F58 := fun_mk (st := s__law_no_pile) l58 c58 k58
  have g__law_no_pile := f__law_no_pile (P := l.prog) (w := w) (base := base) F58 T xf_lay xf_take xf_lay_row xf_take_row xf_press nx_Learner_1 xf_read nx_Follower_1 xf_lay_hidden mx_Slots_lowered nx_Slots_1 mx_Slots_laid mx_Slots_taken 
  have mx_Follower_see : MetX l.prog w K mg base 3 Z.follower "see" (sp_Follower_see K Z) := ⟨_, _, _, T.is_Follower.cl, ⟨a36, i36, k36⟩, g_Follower_see, F36.binds (ps := ["self", "sign"]) (fun _ _ _ _ _ _ us hl => match us, hl with | [_, _], _ => rfl)⟩
  have mx_Stream_lay_sign : MetX l.prog w K mg base 2 Z.stream "lay_sign" (sp_Stream_lay_sign K Z) := ⟨_, _, _, T.is_Stream.cl, ⟨a49, i49, k49⟩, g_Stream_lay_sign, F49.binds (ps := ["self", "sign"]) (fun _ _ _ _ _ _ us hl => match us, hl with | [_, _], _ => rfl)⟩
  have m59 : mg "_law_no_sign" = some (.ref f59) := PySem.W.mg_of X G a59
  have F59 := fun_mk (st := s__law_no_sign) l59 c59 k59
  have g__law_no_sign := f__law_no_sign (P := l.prog) (w := w) (base := base) F59 T xf_lay xf_lay_row xf_first_of xf_press nx_Plain_1 nx_Learner_1 nx_Follower_1 mx_Follower_see mx_Learner_see mx_Plain_see mx_Stream_lay_sign nx_Stream_2 xf_lay_hidden mx_Slots_raised nx_Slots_1 mx_Slots_laid 
  have m60 : mg "_law_no_slot" = some (.ref f60) := PySem.W.mg_of X G a60
  have F60 := fun_mk (st := s__law_no_slot) l60 c60 k60
  have g__law_no_slot := f__law_no_slot (P := l.prog) (w := w) (base := base) F60 T xf_sign_of mx_Slots_raised nx_Slots_1 
  have xf__law_no_shares : CalX l.prog w K mg base 7 "_law_no_shares" (sp__law_no_shares K Z) := ⟨_, _, _, g__law_no_shares, m57, k57, F57.binds (ps := ["cell", "far"]) (fun _ _ _ _ _ _ us hl => match us, hl with | [_, _], _ => rfl)⟩
  have xf__law_no_pile : CalX l.prog w K mg base 6 "_law_no_pile" (sp__law_no_pile K Z) := ⟨_, _, _, g__law_no_pile, m58, k58, F58.binds (ps := ["cell", "far"]) (fun _ _ _ _ _ _ us hl => match us, hl with | [_, _], _ => rfl)⟩
  have xf__law_no_sign : CalX l.prog w K mg base 6 "_law_no_sign" (sp__law_no_sign K Z) := ⟨_, _, _, g__law_no_sign, m59, k59, F59.binds (ps := ["cell", "far"]) (fun _ _ _ _ _ _ us hl => match us, hl with | [_, _], _ => rfl)⟩
  have xf__law_no_slot : CalX l.prog w K mg base 4 "_law_no_slot" (sp__law_no_slot K Z) := ⟨_, _, _, g__law_no_slot, m60, k60, F60.binds (ps := ["cell", "far"]) (fun _ _ _ _ _ _ us hl => match us, hl with | [_, _], _ => rfl)⟩
  have mx_Stream_take_sign : MetX l.prog w K mg base 3 Z.stream "take_sign" (sp_Stream_take_sign K Z) := ⟨_, _, _, T.is_Stream.cl, ⟨a50, i50, k50⟩, g_Stream_take_sign, F50.binds (ps := ["self"]) (fun _ _ _ _ _ _ us hl => match us, hl with | [_], _ => rfl)⟩
  have xf_unpacked : CalX l.prog w K mg base 4 "unpacked" (sp_unpacked K Z) := ⟨_, _, _, g_unpacked, m22, k22, F22.binds (ps := ["leaf"]) (fun _ _ _ _ _ _ us hl => match us, hl with | [_], _ => rfl)⟩
  have m61 : mg "_law_done" = some (.ref f61) := PySem.W.mg_of X G a61
  have F61 := fun_mk (st := s__law_done) l61 c61 k61
  have g__law_done := f__law_done (P := l.prog) (w := w) (base := base) F61 T xf__law_no_shares xf__law_no_pile xf__law_no_sign xf__law_no_slot mx_Stream_take_sign nx_Stream_3 mx_Slots_taken nx_Slots_1 xf_packed xf_unpacked 
  have xf__law_done : CalX l.prog w K mg base 8 "_law_done" (sp__law_done K Z) := ⟨_, _, _, g__law_done, m61, k61, F61.binds (ps := ["way", "cell", "far"]) (fun _ _ _ _ _ _ us hl => match us, hl with | [_, _, _], _ => rfl)⟩
  have ce__law_which : CalE l.prog w K mg base 1 "_law_which" (cl7 Z) (sp__law_which K Z) := ⟨_, _, _, g__law_which, m53, k53, F53.binds (ps := ["e"]) (fun _ _ _ _ _ _ us hl => match us, hl with | [_], _ => rfl)⟩
  exact f_law (fun_mk (st := s_law) l62 c62 k62) T c__law_cell_at xf__law_done ce__law_which 
theorem walk {l : PySem.W.OpenLaw} {q : Program} {loose : List Str} {XP : (Str → Option Value) → Heap → Prop} {YP : World → Heap → Prop} {d : DefRec} {K : Params → PySem.W.Frag} (hn : l.most = some 63) (hdf : d.params.defaults = [])
    (hY : ∀ (w : World) (h : Heap), YP w h → (K w.params).In h)
    (F : ∀ (w : World) (mg : Str → Option Value) (fa : Addr) (h : Heap), (K w.params).In h → h.Ns mainGlobals mg → mg d.name = some (.ref fa) →
      ∃ fd : FuncData, (∀ (s : Shared) (u : Value), BindsTo s fd ⟨[u], []⟩ [("script", u)]) ∧ ∀ base : Heap, (K w.params).In base → base.Ns mainGlobals mg → FnOk l.prog w (K w.params) mg base CX0 9 fa fd ["script"] (sp_law (K w.params))) :
    PySem.W.WalkO q loose XP YP l.row.toRowW d [] (fun f vs => PySem.call f vs) :=
  L2.walk_of (n := 63) (k := 9) (x := "script") (CX := fun _ => CX0) (sp := fun w => sp_law (K w.params)) hn (by decide) hdf ⟨rfl, by decide, by decide⟩ hY F (fun _ _ a ns hl _ hS => ⟨a, ns, rfl, hS, hl, fun _ => rfl⟩) fun _ _ _ _ _ z => z
end Pf
open PySem PySem.W PyProof.Rows in
set_option maxRecDepth 100000 in
set_option maxHeartbeats 0 in
theorem PySem.Challenge.cw_numberpile_k19_each_refusal_its_own_holds : PySem.Challenge.rw_numberpile_k19_each_refusal_its_own.Holds := by
  w_on; o_law; k_head; (case hw => w_witness2)
  k_fill
  refine Pf.walk (l := PySem.Challenge.rw_numberpile_k19_each_refusal_its_own) rfl rfl (fun w h Y => PySem.W.kIn_of Y) ?F
  case F =>
    intro w mg fa h KX G hmg
    refine' Pf.all_mk KX G hmg ?z_Model ?z_Plain ?z_Learner ?z_Follower ?z_Slots ?z_Stream ?a0 ?l0 ?c0 ?k0 ?a1 ?l1 ?c1 ?k1 ?a2 ?l2 ?c2 ?k2 ?a3 ?l3 ?c3 ?k3 ?a4 ?l4 ?c4 ?k4 ?a5 ?l5 ?c5 ?k5 ?a6 ?l6 ?c6 ?k6 ?a7 ?l7 ?c7 ?k7 ?a8 ?l8 ?c8 ?k8 ?a9 ?l9 ?c9 ?k9 ?a10 ?l10 ?c10 ?k10 ?a11 ?l11 ?c11 ?k11 ?a12 ?l12 ?c12 ?k12 ?a13 ?l13 ?c13 ?k13 ?a14 ?l14 ?c14 ?k14 ?a15 ?l15 ?c15 ?k15 ?a16 ?l16 ?c16 ?k16 ?a17 ?l17 ?c17 ?k17 ?a18 ?l18 ?c18 ?k18 ?a19 ?l19 ?c19 ?k19 ?a20 ?l20 ?c20 ?k20 ?a21 ?l21 ?c21 ?k21 ?a22 ?l22 ?c22 ?k22 ?a23 ?l23 ?c23 ?k23 ?a24 ?i24 ?l24 ?c24 ?k24 ?a25 ?i25 ?l25 ?c25 ?k25 ?a26 ?i26 ?l26 ?c26 ?k26 ?a27 ?i27 ?l27 ?c27 ?k27 ?a28 ?i28 ?l28 ?c28 ?k28 ?a29 ?i29 ?l29 ?c29 ?k29 ?a30 ?i30 ?l30 ?d30 ?c30 ?k30 ?a31 ?i31 ?l31 ?c31 ?k31 ?a32 ?i32 ?l32 ?c32 ?k32 ?a33 ?i33 ?l33 ?c33 ?k33 ?a34 ?i34 ?l34 ?d34 ?c34 ?k34 ?a35 ?i35 ?l35 ?c35 ?k35 ?a36 ?i36 ?l36 ?c36 ?k36 ?a37 ?i37 ?l37 ?c37 ?k37 ?a38 ?l38 ?c38 ?k38 ?a39 ?l39 ?c39 ?k39 ?a40 ?l40 ?c40 ?k40 ?a41 ?i41 ?l41 ?c41 ?k41 ?a42 ?i42 ?l42 ?c42 ?k42 ?a43 ?i43 ?l43 ?c43 ?k43 ?a44 ?i44 ?l44 ?c44 ?k44 ?a45 ?i45 ?l45 ?c45 ?k45 ?a46 ?i46 ?l46 ?c46 ?k46 ?a47 ?i47 ?l47 ?c47 ?k47 ?a48 ?i48 ?l48 ?d48 ?c48 ?k48 ?a49 ?i49 ?l49 ?c49 ?k49 ?a50 ?i50 ?l50 ?c50 ?k50 ?a51 ?i51 ?l51 ?c51 ?k51 ?a52 ?l52 ?c52 ?k52 ?a53 ?l53 ?c53 ?k53 ?a54 ?l54 ?c54 ?k54 ?a55 ?l55 ?c55 ?k55 ?a56 ?l56 ?c56 ?k56 ?a57 ?l57 ?c57 ?k57 ?a58 ?l58 ?c58 ?k58 ?a59 ?l59 ?c59 ?k59 ?a60 ?l60 ?c60 ?k60 ?a61 ?l61 ?c61 ?k61 ?a62 ?l62 ?c62 ?k62 ?z_NoShares ?xp_NoShares ?kp_NoShares ?bp_NoShares ?tp_NoShares ?ip_NoShares ?sp_NoShares ?z_NoPile ?xp_NoPile ?kp_NoPile ?bp_NoPile ?tp_NoPile ?ip_NoPile ?sp_NoPile ?z_NoSign ?xp_NoSign ?kp_NoSign ?bp_NoSign ?tp_NoSign ?ip_NoSign ?sp_NoSign ?z_NoSlot ?xp_NoSlot ?kp_NoSlot ?bp_NoSlot ?tp_NoSlot ?ip_NoSlot ?sp_NoSlot ?z_NoMore ?xp_NoMore ?kp_NoMore ?bp_NoMore ?tp_NoMore ?ip_NoMore ?sp_NoMore ?z_NoText ?xp_NoText ?kp_NoText ?bp_NoText ?tp_NoText ?ip_NoText ?sp_NoText ?z_NotLeaf ?xp_NotLeaf ?kp_NotLeaf ?bp_NotLeaf ?tp_NotLeaf ?ip_NotLeaf ?sp_NotLeaf ?z_PileError ?eb_NoMore ?eh_NoMore ?et_NoMore ?ei_NoMore ?eb_NoPile ?eh_NoPile ?et_NoPile ?ei_NoPile ?eb_NoShares ?eh_NoShares ?et_NoShares ?ei_NoShares ?eb_NoSign ?eh_NoSign ?et_NoSign ?ei_NoSign ?eb_NoSlot ?eh_NoSlot ?et_NoSlot ?ei_NoSlot ?eb_NoText ?eh_NoText ?et_NoText ?ei_NoText ?eb_NotLeaf ?eh_NotLeaf ?et_NotLeaf ?ei_NotLeaf ?eb_PileError ?eh_PileError ?et_PileError ?ei_PileError ?xg_NoShares ?xk_NoShares ?xa_NoShares ?xn_NoShares ?xt_NoShares ?xm_NoShares ?xs_NoShares ?xv_NoShares ?xe_NoShares_PileError ?xe_NoShares_NoShares ?xe_NoShares_NoPile ?xe_NoShares_NoSign ?xe_NoShares_NoSlot ?xe_NoShares_NoMore ?xe_NoShares_NoText ?xe_NoShares_NotLeaf ?xg_NoPile ?xk_NoPile ?xa_NoPile ?xn_NoPile ?xt_NoPile ?xm_NoPile ?xs_NoPile ?xv_NoPile ?xe_NoPile_PileError ?xe_NoPile_NoShares ?xe_NoPile_NoPile ?xe_NoPile_NoSign ?xe_NoPile_NoSlot ?xe_NoPile_NoMore ?xe_NoPile_NoText ?xe_NoPile_NotLeaf ?xg_NoSign ?xk_NoSign ?xa_NoSign ?xn_NoSign ?xt_NoSign ?xm_NoSign ?xs_NoSign ?xv_NoSign ?xe_NoSign_PileError ?xe_NoSign_NoShares ?xe_NoSign_NoPile ?xe_NoSign_NoSign ?xe_NoSign_NoSlot ?xe_NoSign_NoMore ?xe_NoSign_NoText ?xe_NoSign_NotLeaf ?xg_NoSlot ?xk_NoSlot ?xa_NoSlot ?xn_NoSlot ?xt_NoSlot ?xm_NoSlot ?xs_NoSlot ?xv_NoSlot ?xe_NoSlot_PileError ?xe_NoSlot_NoShares ?xe_NoSlot_NoPile ?xe_NoSlot_NoSign ?xe_NoSlot_NoSlot ?xe_NoSlot_NoMore ?xe_NoSlot_NoText ?xe_NoSlot_NotLeaf ?xg_NoMore ?xk_NoMore ?xa_NoMore ?xn_NoMore ?xt_NoMore ?xm_NoMore ?xs_NoMore ?xv_NoMore ?xe_NoMore_PileError ?xe_NoMore_NoShares ?xe_NoMore_NoPile ?xe_NoMore_NoSign ?xe_NoMore_NoSlot ?xe_NoMore_NoMore ?xe_NoMore_NoText ?xe_NoMore_NotLeaf ?xg_NoText ?xk_NoText ?xa_NoText ?xn_NoText ?xt_NoText ?xm_NoText ?xs_NoText ?xv_NoText ?xe_NoText_PileError ?xe_NoText_NoShares ?xe_NoText_NoPile ?xe_NoText_NoSign ?xe_NoText_NoSlot ?xe_NoText_NoMore ?xe_NoText_NoText ?xe_NoText_NotLeaf ?xg_NotLeaf ?xk_NotLeaf ?xa_NotLeaf ?xn_NotLeaf ?xt_NotLeaf ?xm_NotLeaf ?xs_NotLeaf ?xv_NotLeaf ?xe_NotLeaf_PileError ?xe_NotLeaf_NoShares ?xe_NotLeaf_NoPile ?xe_NotLeaf_NoSign ?xe_NotLeaf_NoSlot ?xe_NotLeaf_NoMore ?xe_NotLeaf_NoText ?xe_NotLeaf_NotLeaf ?rd_Model ?ga_Model ?fc_Model ?ic_Model ?ty_Model ?pg_Plain ?hd_Plain ?po_Plain ?sa_Plain ?mk_Plain ?kc_Plain ?x1_Plain ?x2_Plain ?x3_Plain ?x4_Plain ?pg_Learner ?hd_Learner ?po_Learner ?sa_Learner ?mk_Learner ?kc_Learner ?x1_Learner ?x2_Learner ?x3_Learner ?x4_Learner ?pg_Follower ?hd_Follower ?po_Follower ?sa_Follower ?mk_Follower ?kc_Follower ?x1_Follower ?x2_Follower ?x3_Follower ?x4_Follower ?pg_Slots ?hd_Slots ?po_Slots ?sa_Slots ?mk_Slots ?kc_Slots ?x1_Slots ?x2_Slots ?x3_Slots ?x4_Slots ?pg_Stream ?hd_Stream ?po_Stream ?sa_Stream ?mk_Stream ?kc_Stream ?x1_Stream ?x2_Stream ?x3_Stream ?x4_Stream ?ih_Plain_ask ?ih_Learner_ask ?ih_Follower_ask ?z_ValueError ?z_int ?z_isinstance ?z_len ?z_list ?z_min ?z_range ?z_reversed ?z_str ?z_sum ?z_MOST_SIGNS ?z_MOST_COUNT ?z_SIGNS ?z_LETTERS ?z_FIGURES ?z_MOST ?z_MOST_STEP ?n_Plain_many ?n_Plain_fixed ?sb_Plain ?n_Learner_many ?n_Learner_step ?n_Learner_tally ?sb_Learner ?n_Follower_many ?n_Follower_step ?n_Follower_learners ?n_Follower_at ?sb_Follower ?n_Slots_shares ?n_Slots_size ?n_Slots_holders ?n_Slots_places ?n_Slots_numbers ?n_Stream_shares ?n_Stream_base ?n_Stream_grain ?n_Stream_low ?n_Stream_number ?n_Stream_words
    (case z_Model => k_is)
    (case z_Plain => k_is)
    (case z_Learner => k_is)
    (case z_Follower => k_is)
    (case z_Slots => k_is)
    (case z_Stream => k_is)
    (case a0 => k_is)
    (case l0 => k_is)
    (case c0 => k_is)
    (case k0 => k_is)
    (case a1 => k_is)
    (case l1 => k_is)
    (case c1 => k_is)
    (case k1 => k_is)
    (case a2 => k_is)
    (case l2 => k_is)
    (case c2 => k_is)
    (case k2 => k_is)
    (case a3 => k_is)
    (case l3 => k_is)
    (case c3 => k_is)
    (case k3 => k_is)
    (case a4 => k_is)
    (case l4 => k_is)
    (case c4 => k_is)
    (case k4 => k_is)
    (case a5 => k_is)
    (case l5 => k_is)
    (case c5 => k_is)
    (case k5 => k_is)
    (case a6 => k_is)
    (case l6 => k_is)
    (case c6 => k_is)
    (case k6 => k_is)
    (case a7 => k_is)
    (case l7 => k_is)
    (case c7 => k_is)
    (case k7 => k_is)
    (case a8 => k_is)
    (case l8 => k_is)
    (case c8 => k_is)
    (case k8 => k_is)
    (case a9 => k_is)
    (case l9 => k_is)
    (case c9 => k_is)
    (case k9 => k_is)
    (case a10 => k_is)
    (case l10 => k_is)
    (case c10 => k_is)
    (case k10 => k_is)
    (case a11 => k_is)
    (case l11 => k_is)
    (case c11 => k_is)
    (case k11 => k_is)
    (case a12 => k_is)
    (case l12 => k_is)
    (case c12 => k_is)
    (case k12 => k_is)
    (case a13 => k_is)
    (case l13 => k_is)
    (case c13 => k_is)
    (case k13 => k_is)
    (case a14 => k_is)
    (case l14 => k_is)
    (case c14 => k_is)
    (case k14 => k_is)
    (case a15 => k_is)
    (case l15 => k_is)
    (case c15 => k_is)
    (case k15 => k_is)
    (case a16 => k_is)
    (case l16 => k_is)
    (case c16 => k_is)
    (case k16 => k_is)
    (case a17 => k_is)
    (case l17 => k_is)
    (case c17 => k_is)
    (case k17 => k_is)
    (case a18 => k_is)
    (case l18 => k_is)
    (case c18 => k_is)
    (case k18 => k_is)
    (case a19 => k_is)
    (case l19 => k_is)
    (case c19 => k_is)
    (case k19 => k_is)
    (case a20 => k_is)
    (case l20 => k_is)
    (case c20 => k_is)
    (case k20 => k_is)
    (case a21 => k_is)
    (case l21 => k_is)
    (case c21 => k_is)
    (case k21 => k_is)
    (case a22 => k_is)
    (case l22 => k_is)
    (case c22 => k_is)
    (case k22 => k_is)
    (case a23 => k_is)
    (case l23 => k_is)
    (case c23 => k_is)
    (case k23 => k_is)
    (case a24 => k_is)
    (case i24 => k_is)
    (case l24 => k_is)
    (case c24 => k_is)
    (case k24 => k_is)
    (case a25 => k_is)
    (case i25 => k_is)
    (case l25 => k_is)
    (case c25 => k_is)
    (case k25 => k_is)
    (case a26 => k_is)
    (case i26 => k_is)
    (case l26 => k_is)
    (case c26 => k_is)
    (case k26 => k_is)
    (case a27 => k_is)
    (case i27 => k_is)
    (case l27 => k_is)
    (case c27 => k_is)
    (case k27 => k_is)
    (case a28 => k_is)
    (case i28 => k_is)
    (case l28 => k_is)
    (case c28 => k_is)
    (case k28 => k_is)
    (case a29 => k_is)
    (case i29 => k_is)
    (case l29 => k_is)
    (case c29 => k_is)
    (case k29 => k_is)
    (case a30 => k_is)
    (case i30 => k_is)
    (case l30 => k_is)
    (case d30 => k_is)
    (case c30 => k_is)
    (case k30 => k_is)
    (case a31 => k_is)
    (case i31 => k_is)
    (case l31 => k_is)
    (case c31 => k_is)
    (case k31 => k_is)
    (case a32 => k_is)
    (case i32 => k_is)
    (case l32 => k_is)
    (case c32 => k_is)
    (case k32 => k_is)
    (case a33 => k_is)
    (case i33 => k_is)
    (case l33 => k_is)
    (case c33 => k_is)
    (case k33 => k_is)
    (case a34 => k_is)
    (case i34 => k_is)
    (case l34 => k_is)
    (case d34 => k_is)
    (case c34 => k_is)
    (case k34 => k_is)
    (case a35 => k_is)
    (case i35 => k_is)
    (case l35 => k_is)
    (case c35 => k_is)
    (case k35 => k_is)
    (case a36 => k_is)
    (case i36 => k_is)
    (case l36 => k_is)
    (case c36 => k_is)
    (case k36 => k_is)
    (case a37 => k_is)
    (case i37 => k_is)
    (case l37 => k_is)
    (case c37 => k_is)
    (case k37 => k_is)
    (case a38 => k_is)
    (case l38 => k_is)
    (case c38 => k_is)
    (case k38 => k_is)
    (case a39 => k_is)
    (case l39 => k_is)
    (case c39 => k_is)
    (case k39 => k_is)
    (case a40 => k_is)
    (case l40 => k_is)
    (case c40 => k_is)
    (case k40 => k_is)
    (case a41 => k_is)
    (case i41 => k_is)
    (case l41 => k_is)
    (case c41 => k_is)
    (case k41 => k_is)
    (case a42 => k_is)
    (case i42 => k_is)
    (case l42 => k_is)
    (case c42 => k_is)
    (case k42 => k_is)
    (case a43 => k_is)
    (case i43 => k_is)
    (case l43 => k_is)
    (case c43 => k_is)
    (case k43 => k_is)
    (case a44 => k_is)
    (case i44 => k_is)
    (case l44 => k_is)
    (case c44 => k_is)
    (case k44 => k_is)
    (case a45 => k_is)
    (case i45 => k_is)
    (case l45 => k_is)
    (case c45 => k_is)
    (case k45 => k_is)
    (case a46 => k_is)
    (case i46 => k_is)
    (case l46 => k_is)
    (case c46 => k_is)
    (case k46 => k_is)
    (case a47 => k_is)
    (case i47 => k_is)
    (case l47 => k_is)
    (case c47 => k_is)
    (case k47 => k_is)
    (case a48 => k_is)
    (case i48 => k_is)
    (case l48 => k_is)
    (case d48 => k_is)
    (case c48 => k_is)
    (case k48 => k_is)
    (case a49 => k_is)
    (case i49 => k_is)
    (case l49 => k_is)
    (case c49 => k_is)
    (case k49 => k_is)
    (case a50 => k_is)
    (case i50 => k_is)
    (case l50 => k_is)
    (case c50 => k_is)
    (case k50 => k_is)
    (case a51 => k_is)
    (case i51 => k_is)
    (case l51 => k_is)
    (case c51 => k_is)
    (case k51 => k_is)
    (case a52 => k_is)
    (case l52 => k_is)
    (case c52 => k_is)
    (case k52 => k_is)
    (case a53 => k_is)
    (case l53 => k_is)
    (case c53 => k_is)
    (case k53 => k_is)
    (case a54 => k_is)
    (case l54 => k_is)
    (case c54 => k_is)
    (case k54 => k_is)
    (case a55 => k_is)
    (case l55 => k_is)
    (case c55 => k_is)
    (case k55 => k_is)
    (case a56 => k_is)
    (case l56 => k_is)
    (case c56 => k_is)
    (case k56 => k_is)
    (case a57 => k_is)
    (case l57 => k_is)
    (case c57 => k_is)
    (case k57 => k_is)
    (case a58 => k_is)
    (case l58 => k_is)
    (case c58 => k_is)
    (case k58 => k_is)
    (case a59 => k_is)
    (case l59 => k_is)
    (case c59 => k_is)
    (case k59 => k_is)
    (case a60 => k_is)
    (case l60 => k_is)
    (case c60 => k_is)
    (case k60 => k_is)
    (case a61 => k_is)
    (case l61 => k_is)
    (case c61 => k_is)
    (case k61 => k_is)
    (case a62 => k_is)
    (case l62 => k_is)
    (case c62 => k_is)
    (case k62 => k_is)
    (case z_NoShares => k_is)
    (case xp_NoShares => k_exc)
    (case kp_NoShares => k_is)
    (case bp_NoShares => k_is)
    (case tp_NoShares => k_is)
    (case ip_NoShares => k_is)
    (case sp_NoShares => (first | rfl | k_is))
    (case z_NoPile => k_is)
    (case xp_NoPile => k_exc)
    (case kp_NoPile => k_is)
    (case bp_NoPile => k_is)
    (case tp_NoPile => k_is)
    (case ip_NoPile => k_is)
    (case sp_NoPile => (first | rfl | k_is))
    (case z_NoSign => k_is)
    (case xp_NoSign => k_exc)
    (case kp_NoSign => k_is)
    (case bp_NoSign => k_is)
    (case tp_NoSign => k_is)
    (case ip_NoSign => k_is)
    (case sp_NoSign => (first | rfl | k_is))
    (case z_NoSlot => k_is)
    (case xp_NoSlot => k_exc)
    (case kp_NoSlot => k_is)
    (case bp_NoSlot => k_is)
    (case tp_NoSlot => k_is)
    (case ip_NoSlot => k_is)
    (case sp_NoSlot => (first | rfl | k_is))
    (case z_NoMore => k_is)
    (case xp_NoMore => k_exc)
    (case kp_NoMore => k_is)
    (case bp_NoMore => k_is)
    (case tp_NoMore => k_is)
    (case ip_NoMore => k_is)
    (case sp_NoMore => (first | rfl | k_is))
    (case z_NoText => k_is)
    (case xp_NoText => k_exc)
    (case kp_NoText => k_is)
    (case bp_NoText => k_is)
    (case tp_NoText => k_is)
    (case ip_NoText => k_is)
    (case sp_NoText => (first | rfl | k_is))
    (case z_NotLeaf => k_is)
    (case xp_NotLeaf => k_exc)
    (case kp_NotLeaf => k_is)
    (case bp_NotLeaf => k_is)
    (case tp_NotLeaf => k_is)
    (case ip_NotLeaf => k_is)
    (case sp_NotLeaf => (first | rfl | k_is))
    (case z_PileError => k_is)
    (case eb_NoMore => k_is)
    (case eh_NoMore => k_is)
    (case et_NoMore => k_is)
    (case ei_NoMore => k_is)
    (case eb_NoPile => k_is)
    (case eh_NoPile => k_is)
    (case et_NoPile => k_is)
    (case ei_NoPile => k_is)
    (case eb_NoShares => k_is)
    (case eh_NoShares => k_is)
    (case et_NoShares => k_is)
    (case ei_NoShares => k_is)
    (case eb_NoSign => k_is)
    (case eh_NoSign => k_is)
    (case et_NoSign => k_is)
    (case ei_NoSign => k_is)
    (case eb_NoSlot => k_is)
    (case eh_NoSlot => k_is)
    (case et_NoSlot => k_is)
    (case ei_NoSlot => k_is)
    (case eb_NoText => k_is)
    (case eh_NoText => k_is)
    (case et_NoText => k_is)
    (case ei_NoText => k_is)
    (case eb_NotLeaf => k_is)
    (case eh_NotLeaf => k_is)
    (case et_NotLeaf => k_is)
    (case ei_NotLeaf => k_is)
    (case eb_PileError => k_is)
    (case eh_PileError => k_is)
    (case et_PileError => k_is)
    (case ei_PileError => k_is)
    (case xg_NoShares => k_is)
    (case xk_NoShares => k_is)
    (case xa_NoShares => k_is)
    (case xn_NoShares => k_is)
    (case xt_NoShares => k_is)
    (case xm_NoShares => k_is)
    (case xs_NoShares => k_is)
    (case xv_NoShares => k_is)
    (case xe_NoShares_PileError => k_is)
    (case xe_NoShares_NoShares => k_is)
    (case xe_NoShares_NoPile => k_is)
    (case xe_NoShares_NoSign => k_is)
    (case xe_NoShares_NoSlot => k_is)
    (case xe_NoShares_NoMore => k_is)
    (case xe_NoShares_NoText => k_is)
    (case xe_NoShares_NotLeaf => k_is)
    (case xg_NoPile => k_is)
    (case xk_NoPile => k_is)
    (case xa_NoPile => k_is)
    (case xn_NoPile => k_is)
    (case xt_NoPile => k_is)
    (case xm_NoPile => k_is)
    (case xs_NoPile => k_is)
    (case xv_NoPile => k_is)
    (case xe_NoPile_PileError => k_is)
    (case xe_NoPile_NoShares => k_is)
    (case xe_NoPile_NoPile => k_is)
    (case xe_NoPile_NoSign => k_is)
    (case xe_NoPile_NoSlot => k_is)
    (case xe_NoPile_NoMore => k_is)
    (case xe_NoPile_NoText => k_is)
    (case xe_NoPile_NotLeaf => k_is)
    (case xg_NoSign => k_is)
    (case xk_NoSign => k_is)
    (case xa_NoSign => k_is)
    (case xn_NoSign => k_is)
    (case xt_NoSign => k_is)
    (case xm_NoSign => k_is)
    (case xs_NoSign => k_is)
    (case xv_NoSign => k_is)
    (case xe_NoSign_PileError => k_is)
    (case xe_NoSign_NoShares => k_is)
    (case xe_NoSign_NoPile => k_is)
    (case xe_NoSign_NoSign => k_is)
    (case xe_NoSign_NoSlot => k_is)
    (case xe_NoSign_NoMore => k_is)
    (case xe_NoSign_NoText => k_is)
    (case xe_NoSign_NotLeaf => k_is)
    (case xg_NoSlot => k_is)
    (case xk_NoSlot => k_is)
    (case xa_NoSlot => k_is)
    (case xn_NoSlot => k_is)
    (case xt_NoSlot => k_is)
    (case xm_NoSlot => k_is)
    (case xs_NoSlot => k_is)
    (case xv_NoSlot => k_is)
    (case xe_NoSlot_PileError => k_is)
    (case xe_NoSlot_NoShares => k_is)
    (case xe_NoSlot_NoPile => k_is)
    (case xe_NoSlot_NoSign => k_is)
    (case xe_NoSlot_NoSlot => k_is)
    (case xe_NoSlot_NoMore => k_is)
    (case xe_NoSlot_NoText => k_is)
    (case xe_NoSlot_NotLeaf => k_is)
    (case xg_NoMore => k_is)
    (case xk_NoMore => k_is)
    (case xa_NoMore => k_is)
    (case xn_NoMore => k_is)
    (case xt_NoMore => k_is)
    (case xm_NoMore => k_is)
    (case xs_NoMore => k_is)
    (case xv_NoMore => k_is)
    (case xe_NoMore_PileError => k_is)
    (case xe_NoMore_NoShares => k_is)
    (case xe_NoMore_NoPile => k_is)
    (case xe_NoMore_NoSign => k_is)
    (case xe_NoMore_NoSlot => k_is)
    (case xe_NoMore_NoMore => k_is)
    (case xe_NoMore_NoText => k_is)
    (case xe_NoMore_NotLeaf => k_is)
    (case xg_NoText => k_is)
    (case xk_NoText => k_is)
    (case xa_NoText => k_is)
    (case xn_NoText => k_is)
    (case xt_NoText => k_is)
    (case xm_NoText => k_is)
    (case xs_NoText => k_is)
    (case xv_NoText => k_is)
    (case xe_NoText_PileError => k_is)
    (case xe_NoText_NoShares => k_is)
    (case xe_NoText_NoPile => k_is)
    (case xe_NoText_NoSign => k_is)
    (case xe_NoText_NoSlot => k_is)
    (case xe_NoText_NoMore => k_is)
    (case xe_NoText_NoText => k_is)
    (case xe_NoText_NotLeaf => k_is)
    (case xg_NotLeaf => k_is)
    (case xk_NotLeaf => k_is)
    (case xa_NotLeaf => k_is)
    (case xn_NotLeaf => k_is)
    (case xt_NotLeaf => k_is)
    (case xm_NotLeaf => k_is)
    (case xs_NotLeaf => k_is)
    (case xv_NotLeaf => k_is)
    (case xe_NotLeaf_PileError => k_is)
    (case xe_NotLeaf_NoShares => k_is)
    (case xe_NotLeaf_NoPile => k_is)
    (case xe_NotLeaf_NoSign => k_is)
    (case xe_NotLeaf_NoSlot => k_is)
    (case xe_NotLeaf_NoMore => k_is)
    (case xe_NotLeaf_NoText => k_is)
    (case xe_NotLeaf_NotLeaf => k_is)
    (case rd_Model => k_is)
    (case ga_Model => k_is)
    (case fc_Model => k_is)
    (case ic_Model => k_is)
    (case ty_Model => k_is)
    (case pg_Plain => k_is)
    (case hd_Plain => k_is)
    (case po_Plain => k_is)
    (case sa_Plain => k_is)
    (case mk_Plain => k_is)
    (case kc_Plain => k_is)
    (case x1_Plain => k_is)
    (case x2_Plain => k_is)
    (case x3_Plain => k_is)
    (case x4_Plain => k_is)
    (case pg_Learner => k_is)
    (case hd_Learner => k_is)
    (case po_Learner => k_is)
    (case sa_Learner => k_is)
    (case mk_Learner => k_is)
    (case kc_Learner => k_is)
    (case x1_Learner => k_is)
    (case x2_Learner => k_is)
    (case x3_Learner => k_is)
    (case x4_Learner => k_is)
    (case pg_Follower => k_is)
    (case hd_Follower => k_is)
    (case po_Follower => k_is)
    (case sa_Follower => k_is)
    (case mk_Follower => k_is)
    (case kc_Follower => k_is)
    (case x1_Follower => k_is)
    (case x2_Follower => k_is)
    (case x3_Follower => k_is)
    (case x4_Follower => k_is)
    (case pg_Slots => k_is)
    (case hd_Slots => k_is)
    (case po_Slots => k_is)
    (case sa_Slots => k_is)
    (case mk_Slots => k_is)
    (case kc_Slots => k_is)
    (case x1_Slots => k_is)
    (case x2_Slots => k_is)
    (case x3_Slots => k_is)
    (case x4_Slots => k_is)
    (case pg_Stream => k_is)
    (case hd_Stream => k_is)
    (case po_Stream => k_is)
    (case sa_Stream => k_is)
    (case mk_Stream => k_is)
    (case kc_Stream => k_is)
    (case x1_Stream => k_is)
    (case x2_Stream => k_is)
    (case x3_Stream => k_is)
    (case x4_Stream => k_is)
    (case ih_Plain_ask => k_is)
    (case ih_Learner_ask => k_is)
    (case ih_Follower_ask => k_is)
    (case z_ValueError => k_is)
    (case z_int => k_is)
    (case z_isinstance => k_is)
    (case z_len => k_is)
    (case z_list => k_is)
    (case z_min => k_is)
    (case z_range => k_is)
    (case z_reversed => k_is)
    (case z_str => k_is)
    (case z_sum => k_is)
    (case z_MOST_SIGNS => k_is)
    (case z_MOST_COUNT => k_is)
    (case z_SIGNS => k_is)
    (case z_LETTERS => k_is)
    (case z_FIGURES => k_is)
    (case z_MOST => k_is)
    (case z_MOST_STEP => k_is)
    (case n_Plain_many => k_is)
    (case n_Plain_fixed => k_is)
    (case sb_Plain => k_is)
    (case n_Learner_many => k_is)
    (case n_Learner_step => k_is)
    (case n_Learner_tally => k_is)
    (case sb_Learner => k_is)
    (case n_Follower_many => k_is)
    (case n_Follower_step => k_is)
    (case n_Follower_learners => k_is)
    (case n_Follower_at => k_is)
    (case sb_Follower => k_is)
    (case n_Slots_shares => k_is)
    (case n_Slots_size => k_is)
    (case n_Slots_holders => k_is)
    (case n_Slots_places => k_is)
    (case n_Slots_numbers => k_is)
    (case n_Stream_shares => k_is)
    (case n_Stream_base => k_is)
    (case n_Stream_grain => k_is)
    (case n_Stream_low => k_is)
    (case n_Stream_number => k_is)
    (case n_Stream_words => k_is)
#print axioms PySem.Challenge.cw_numberpile_k19_each_refusal_its_own_holds
