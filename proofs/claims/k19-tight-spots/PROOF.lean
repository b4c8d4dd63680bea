import PyProof.Rows.All
import Wide.All
import OpenK.AllK
import Wide.FinOn
import HandS.ForMost
import HandS.Walk
import HandS.Zip
import HandS.Star
import HandS.Deep
import HandS.TupAny
import HandS.Conv
import HandS.Style
import HandS.IsInst
import HandS.CallLocal
import HandS.Defaults
import HandS.Strs
import KE.GoesNew
import PySem.Challenge.RW_hiddenties_k19_whole_tight_spots_and_hea
set_option Elab.async false
set_option linter.all false
set_option maxRecDepth 100000
/-! Mathematics, 1: sums, choices, offsets: no span is below a weight; equal just on tight spots. -/
namespace Hid

/-! ### sums over 0 .. n - 1 -/
def sumN (n : Nat) (f : Nat → Int) : Int := ((List.range n).map f).sum
theorem sumN_zero (f : Nat → Int) : sumN 0 f = 0 := rfl
theorem sumN_succ (n : Nat) (f : Nat → Int) : sumN (n + 1) f = sumN n f + f n := by
  unfold sumN
  rw [List.range_succ, List.map_append, List.sum_append]
  simp
theorem sumN_le {f g : Nat → Int} : ∀ {n : Nat}, (∀ i, i < n → f i ≤ g i) → sumN n f ≤ sumN n g
  | 0, _ => Int.le_refl _
  | n + 1, h => by
    have h1 := sumN_le (n := n) fun i hi => h i (by omega)
    have h2 := h n (by omega)
    rw [sumN_succ, sumN_succ]
    omega
theorem sumN_eq {f g : Nat → Int} : ∀ {n : Nat}, (∀ i, i < n → f i = g i) → sumN n f = sumN n g
  | 0, _ => rfl
  | n + 1, h => by
    rw [sumN_succ, sumN_succ, sumN_eq (n := n) fun i hi => h i (by omega), h n (by omega)]
/-- equal sums of numbers none of which is greater: all are equal -/
theorem sumN_tight {f g : Nat → Int} : ∀ {n : Nat}, (∀ i, i < n → f i ≤ g i) → sumN n f = sumN n g → ∀ i, i < n → f i = g i
  | 0, _, _, i, hi => absurd hi (Nat.not_lt_zero _)
  | n + 1, h, e, i, hi => by
    have h1 := sumN_le (n := n) fun i hi => h i (by omega)
    have h2 := h n (by omega)
    rw [sumN_succ, sumN_succ] at e
    by_cases q : i = n
    · subst q
      omega
    · exact sumN_tight (n := n) (fun i hi => h i (by omega)) (by omega) i (by omega)
theorem sumN_sub (f g : Nat → Int) : ∀ n : Nat, sumN n (fun i => f i - g i) = sumN n f - sumN n g
  | 0 => rfl
  | n + 1 => by
    rw [sumN_succ, sumN_succ, sumN_succ, sumN_sub f g n]
    omega
theorem sumN_set (f : Nat → Int) (k : Nat) (v : Int) : ∀ n : Nat, k < n → sumN n (fun i => if i = k then v else f i) = sumN n f - f k + v
  | 0, h => absurd h (Nat.not_lt_zero _)
  | n + 1, h => by
    rw [sumN_succ, sumN_succ]
    by_cases e : k = n
    · subst e
      have q : sumN k (fun i => if i = k then v else f i) = sumN k f := sumN_eq fun i hi => if_neg (by omega)
      rw [q, if_pos rfl]
      omega
    · rw [sumN_set f k v n (by omega), if_neg (fun q => e q.symm)]
      omega
theorem perm_sum {a b : List Int} (h : a.Perm b) : a.sum = b.sum := by
  induction h with
  | nil => rfl
  | cons x _ ih => rw [List.sum_cons, List.sum_cons, ih]
  | swap x y l =>
    rw [List.sum_cons, List.sum_cons, List.sum_cons, List.sum_cons]
    omega
  | trans _ _ h1 h2 => rw [h1, h2]

/-! ### lists of unlike small numbers -/
theorem few {l : List Nat} {n : Nat} (hn : l.Nodup) (h : ∀ x, x ∈ l → x < n) : l.length ≤ n := by
  have q := hn.length_le_of_subset (l₂ := List.range n) fun x hx => List.mem_range.mpr (h x hx)
  rwa [List.length_range] at q
/-- n unlike numbers below n: all of them -/
theorem all_of {l : List Nat} {n : Nat} (hn : l.Nodup) (h : ∀ x, x ∈ l → x < n) (hl : l.length = n) : ∀ j, j < n → j ∈ l := by
  intro j hj
  apply Classical.byContradiction
  intro hm
  have h1 : (j :: l).Nodup := List.nodup_cons.mpr ⟨hm, hn⟩
  have h2 := few h1 (n := n) fun x hx => by
    rcases List.mem_cons.mp hx with e | e
    · rw [e]; exact hj
    · exact h x e
  rw [List.length_cons] at h2
  omega
theorem perm_range {l : List Nat} {n : Nat} (hn : l.Nodup) (h : ∀ x, x ∈ l → x < n) (hl : l.length = n) : l.Perm (List.range n) :=
  (List.perm_ext_iff_of_nodup hn List.nodup_range).mpr fun a => ⟨fun ha => List.mem_range.mpr (h a ha), fun ha => all_of hn h hl a (List.mem_range.mp ha)⟩
theorem map_range (l : List Nat) (f : Nat → Int) : ((List.range l.length).map fun i => f (l.getD i 0)) = l.map f := by
  apply List.ext_getElem?
  intro i
  rw [List.getElem?_map, List.getElem?_map]
  by_cases h : i < l.length
  · rw [List.getElem?_range h, List.getElem?_eq_getElem h]
    show some (f (l.getD i 0)) = some (f l[i])
    rw [List.getD_eq_getElem?_getD, List.getElem?_eq_getElem h]
    rfl
  · rw [List.getElem?_eq_none (by simpa using h), List.getElem?_eq_none (by omega)]
    rfl
/-- a sum along a list of all numbers below n is the sum over them -/
theorem sumN_perm {l : List Nat} {n : Nat} (hn : l.Nodup) (h : ∀ x, x ∈ l → x < n) (hl : l.length = n) (f : Nat → Int) : sumN n (fun i => f (l.getD i 0)) = sumN n f := by
  have e : sumN n (fun i => f (l.getD i 0)) = (l.map f).sum := by
    unfold sumN
    rw [← hl, map_range]
  rw [e]
  exact perm_sum ((perm_range hn h hl).map f)

/-! ### patterns, choices, offsets -/
abbrev Pat := Nat → Nat → Option Int
/-- l is a choice of the first k equations of a pattern of n unknowns -/
structure Part (n : Nat) (o : Pat) (k : Nat) (l : List Nat) : Prop where
  len : l.length = k
  nd : l.Nodup
  lt : ∀ j, j ∈ l → j < n
  at_ : ∀ i, i < k → o i (l.getD i 0) ≠ none
abbrev Ch (n : Nat) (o : Pat) (l : List Nat) : Prop := Part n o n l
def val (o : Pat) (i j : Nat) : Int := (o i j).getD 0
def wt (n : Nat) (o : Pat) (l : List Nat) : Int := sumN n fun i => val o i (l.getD i 0)
/-- offsets: no order is above d_j - c_i -/
def Feas (n : Nat) (o : Pat) (c d : Nat → Int) : Prop := ∀ i, i < n → ∀ j, j < n → ∀ w, o i j = some w → w ≤ d j - c i
def Tight (o : Pat) (c d : Nat → Int) (i j : Nat) : Prop := o i j = some (d j - c i)
def TightAll (n : Nat) (o : Pat) (c d : Nat → Int) (l : List Nat) : Prop := ∀ i, i < n → Tight o c d i (l.getD i 0)
def span (n : Nat) (c d : Nat → Int) : Int := sumN n d - sumN n c
theorem Part.get {n : Nat} {o : Pat} {k : Nat} {l : List Nat} (h : Part n o k l) {i : Nat} (hi : i < k) : l.getD i 0 < n ∧ l[i]? = some (l.getD i 0) := by
  have q : i < l.length := by rw [h.len]; exact hi
  have e : l.getD i 0 = l[i] := by rw [List.getD_eq_getElem?_getD, List.getElem?_eq_getElem q]; rfl
  rw [e]
  exact ⟨h.lt _ (List.getElem_mem q), List.getElem?_eq_getElem q⟩
section
variable {n : Nat} {o : Pat} {c d : Nat → Int} {l : List Nat}
theorem val_le (hf : Feas n o c d) (h : Ch n o l) {i : Nat} (hi : i < n) : val o i (l.getD i 0) ≤ d (l.getD i 0) - c i := by
  have hj := (h.get hi).1
  unfold val
  cases e : o i (l.getD i 0) with
  | none => exact absurd e (h.at_ i hi)
  | some w => exact hf i hi _ hj w e
theorem span_eq (h : Ch n o l) (c d : Nat → Int) : span n c d = sumN n fun i => d (l.getD i 0) - c i := by
  rw [sumN_sub (fun i => d (l.getD i 0)) c, sumN_perm h.nd h.lt h.len]
  rfl
/-- no span is below a weight -/
theorem wt_le (hf : Feas n o c d) (h : Ch n o l) : wt n o l ≤ span n c d := by
  rw [span_eq h]
  exact sumN_le fun i hi => val_le hf h hi
/-- a weight is the span just on tight spots -/
theorem wt_eq (hf : Feas n o c d) (h : Ch n o l) : wt n o l = span n c d ↔ TightAll n o c d l := by
  rw [span_eq h]
  constructor
  · intro e i hi
    have q := sumN_tight (fun i hi => val_le hf h hi) e i hi
    unfold val at q
    unfold Tight
    cases e2 : o i (l.getD i 0) with
    | none => exact absurd e2 (h.at_ i hi)
    | some w =>
      rw [e2] at q
      have q' : w = d (l.getD i 0) - c i := q
      rw [q']
  · intro t
    refine sumN_eq fun i hi => ?_
    have q : o i (l.getD i 0) = some (d (l.getD i 0) - c i) := t i hi
    show (o i (l.getD i 0)).getD 0 = _
    rw [q]
    rfl
end
/-- W is the heaviest weight: of some choice, of none a greater one -/
structure Heavy (n : Nat) (o : Pat) (W : Int) : Prop where
  some_ : ∃ l, Ch n o l ∧ wt n o l = W
  top : ∀ l, Ch n o l → wt n o l ≤ W
theorem Heavy.uniq {n : Nat} {o : Pat} {W W' : Int} (h : Heavy n o W) (h' : Heavy n o W') : W = W' := by
  obtain ⟨l, hl, e⟩ := h.some_
  obtain ⟨l', hl', e'⟩ := h'.some_
  have h1 := h'.top l hl
  have h2 := h.top l' hl'
  omega
theorem Heavy.of_tight {n : Nat} {o : Pat} {c d : Nat → Int} {l : List Nat} (hf : Feas n o c d) (h : Ch n o l) (t : TightAll n o c d l) : Heavy n o (span n c d) :=
  ⟨⟨l, h, (wt_eq hf h).mpr t⟩, fun _ hl => wt_le hf hl⟩
/-- offsets with the heaviest weight as span: the choices on tight spots are the heaviest ones -/
theorem best_tight {n : Nat} {o : Pat} {c d : Nat → Int} {W : Int} (hf : Feas n o c d) (hw : Heavy n o W) {l : List Nat} (h : Ch n o l) (e : span n c d = W) : TightAll n o c d l ↔ wt n o l = W := by
  rw [← e]
  exact (wt_eq hf h).symm
/-- others: no choice lies on tight spots alone -/
theorem worse_tight {n : Nat} {o : Pat} {c d : Nat → Int} {W : Int} (hf : Feas n o c d) (hw : Heavy n o W) {l : List Nat} (h : Ch n o l) (e : span n c d ≠ W) : ¬ TightAll n o c d l := by
  intro t
  exact e ((Heavy.of_tight hf h t).uniq hw)
end Hid
/-! Mathematics, 2: equations reached along tight spots, offsets raised, unknowns handed on. -/
namespace Hid

/-- how far the spots of equation e are from being tight -/
def gapsL (n : Nat) (o : Pat) (g t : Nat → Int) (e : Nat) : List (Nat × Int) := (List.range n).filterMap fun u => (o e u).map fun w => (u, t u - g e - w)
theorem mem_gaps {n : Nat} {o : Pat} {g t : Nat → Int} {e u : Nat} {x : Int} : (u, x) ∈ gapsL n o g t e ↔ u < n ∧ ∃ w, o e u = some w ∧ x = t u - g e - w := by
  unfold gapsL
  rw [List.mem_filterMap]
  constructor
  · rintro ⟨a, ha, h⟩
    cases q : o e a with
    | none =>
      rw [q] at h
      cases h
    | some w =>
      rw [q] at h
      have h' : (a, t a - g e - w) = (u, x) := Option.some.inj h
      have h1 : a = u := congrArg Prod.fst h'
      have h2 : t a - g e - w = x := congrArg Prod.snd h'
      subst h1
      exact ⟨List.mem_range.mp ha, w, q, h2.symm⟩
  · rintro ⟨hu, w, q, rfl⟩
    exact ⟨u, List.mem_range.mpr hu, by rw [q]; rfl⟩
theorem tight_gaps {n : Nat} {o : Pat} {g t : Nat → Int} {e u : Nat} : (u, (0 : Int)) ∈ gapsL n o g t e ↔ u < n ∧ Tight o g t e u := by
  rw [mem_gaps]
  unfold Tight
  constructor
  · rintro ⟨hu, w, q, h⟩
    refine ⟨hu, ?_⟩
    rw [q]
    congr 1
    omega
  · rintro ⟨hu, q⟩
    exact ⟨hu, _, q, by omega⟩
theorem gaps_len (n : Nat) (o : Pat) (g t : Nat → Int) (e : Nat) : (gapsL n o g t e).length ≤ n := by
  unfold gapsL
  have h := List.length_filterMap_le (fun u => (o e u).map fun w => (u, t u - g e - w)) (List.range n)
  rwa [List.length_range] at h
theorem gaps_lt {n : Nat} {o : Pat} {g t : Nat → Int} {e : Nat} {q : Nat × Int} (h : q ∈ gapsL n o g t e) : q.1 < n := (mem_gaps (u := q.1) (x := q.2)).mp h |>.1

/-- who has which unknown: no equation two, none from eq on any, all below eq one -/
structure Mat (n : Nat) (own : Nat → Option Nat) (eq : Nat) : Prop where
  inj : ∀ u v e, own u = some e → own v = some e → u = v
  rng : ∀ u e, own u = some e → u < n ∧ e < eq
  all : ∀ e, e < eq → ∃ u, own u = some e
/-- the state while equation eq is taken in -/
structure Mid (n : Nat) (o : Pat) (own : Nat → Option Nat) (g t : Nat → Int) (eq : Nat) : Prop where
  mat : Mat n own eq
  lt : eq < n
  on : ∀ u e, own u = some e → Tight o g t e u
  feas : ∀ i, i ≤ eq → ∀ j, j < n → ∀ w, o i j = some w → w ≤ t j - g i
  zero : ∀ i, eq < i → g i = 0
/-- the state between two equations -/
structure Vld (n : Nat) (o : Pat) (own : Nat → Option Nat) (g t : Nat → Int) (eq : Nat) : Prop where
  mat : Mat n own eq
  on : ∀ u e, own u = some e → Tight o g t e u
  feas : ∀ i, i < eq → ∀ j, j < n → ∀ w, o i j = some w → w ≤ t j - g i
  zero : ∀ i, eq ≤ i → g i = 0
def keys (came : List (Nat × Nat)) : List Nat := came.map (·.1)
/-- what is reached from equation st: lot (equations), came (unknowns, each with the equation by which it came); at: so many of lot are done -/
structure Bfs (n : Nat) (o : Pat) (g t : Nat → Int) (own : Nat → Option Nat) (st : Nat) (lot : List Nat) (came : List (Nat × Nat)) (at_ : Nat) : Prop where
  lot_eq : lot = st :: came.filterMap fun p => own p.1
  nd : (keys came).Nodup
  lt : ∀ u, u ∈ keys came → u < n
  frm : ∀ (k : Nat) (u e : Nat), came[k]? = some (u, e) → ∃ r : Nat, lot[r]? = some e ∧ Tight o g t e u ∧ ∀ e', own u = some e' → ∃ r' : Nat, lot[r']? = some e' ∧ r < r'
  clo : ∀ (k : Nat) (e : Nat), k < at_ → lot[k]? = some e → ∀ u, u < n → Tight o g t e u → u ∈ keys came
  le : at_ ≤ lot.length
section
variable {n : Nat} {o : Pat} {g t : Nat → Int} {own : Nat → Option Nat} {st : Nat} {lot : List Nat} {came : List (Nat × Nat)} {k : Nat}
theorem bfs_start : Bfs n o g t own st [st] [] 0 :=
  ⟨rfl, List.nodup_nil, (fun _ h => absurd h List.not_mem_nil), (fun k u e h => by simp at h), (fun k e h => absurd h (Nat.not_lt_zero _)), Nat.zero_le _⟩
theorem bfs_add (B : Bfs n o g t own st lot came k) {e u : Nat} (hk : lot[k]? = some e) (hu : u < n) (ht : Tight o g t e u) (hn : u ∉ keys came) :
    Bfs n o g t own st (lot ++ (own u).toList) (came ++ [(u, e)]) k := by
  have hkl : k < lot.length := (List.getElem?_eq_some_iff.mp hk).1
  have pre : ∀ (r : Nat) (x : Nat), lot[r]? = some x → (lot ++ (own u).toList)[r]? = some x := fun r x h => by
    rw [List.getElem?_append_left (List.getElem?_eq_some_iff.mp h).1]
    exact h
  refine ⟨?_, ?_, ?_, ?_, ?_, ?_⟩
  · rw [List.filterMap_append, ← List.cons_append, ← B.lot_eq]
    cases q : own u with
    | none => simp [q]
    | some x => simp [q]
  · unfold keys
    rw [List.map_append, List.nodup_append]
    refine ⟨B.nd, by simp, fun a ha b hb => ?_⟩
    have e2 : b = u := by simpa using hb
    intro e3
    rw [e3, e2] at ha
    exact hn ha
  · intro x hx
    unfold keys at hx
    rw [List.map_append, List.mem_append] at hx
    rcases hx with hx | hx
    · exact B.lt x hx
    · have e2 : x = u := by simpa using hx
      rw [e2]
      exact hu
  · intro j x y hj
    by_cases hjl : j < came.length
    · rw [List.getElem?_append_left hjl] at hj
      obtain ⟨r, h1, h2, h3⟩ := B.frm j x y hj
      refine ⟨r, pre r _ h1, h2, fun e' he' => ?_⟩
      obtain ⟨r', h4, h5⟩ := h3 e' he'
      exact ⟨r', pre r' _ h4, h5⟩
    · rw [List.getElem?_append_right (by omega)] at hj
      have hz : j - came.length = 0 := by
        have q := (List.getElem?_eq_some_iff.mp hj).1
        simp at q
        omega
      rw [hz] at hj
      have e2 : (u, e) = (x, y) := Option.some.inj hj
      have e3 : u = x := congrArg Prod.fst e2
      have e4 : e = y := congrArg Prod.snd e2
      subst e3 e4
      refine ⟨k, pre k _ hk, ht, fun e' he' => ⟨lot.length, ?_, hkl⟩⟩
      rw [he', List.getElem?_append_right (Nat.le_refl _), Nat.sub_self]
      rfl
  · intro j x hj hx u' hu' ht'
    rw [List.getElem?_append_left (by omega)] at hx
    have q := B.clo j x hj hx u' hu' ht'
    unfold keys
    rw [List.map_append, List.mem_append]
    exact .inl q
  · rw [List.length_append]
    have := B.le
    omega
theorem bfs_next (B : Bfs n o g t own st lot came k) {e : Nat} (hk : lot[k]? = some e) (h : ∀ q, q ∈ gapsL n o g t e → q.2 = 0 → q.1 ∈ keys came) : Bfs n o g t own st lot came (k + 1) := by
  have hkl : k < lot.length := (List.getElem?_eq_some_iff.mp hk).1
  refine ⟨B.lot_eq, B.nd, B.lt, B.frm, fun j x hj hx u hu ht => ?_, hkl⟩
  by_cases hjk : j < k
  · exact B.clo j x hjk hx u hu ht
  · have e2 : j = k := by omega
    subst e2
    rw [hk] at hx
    cases hx
    exact h (u, 0) (tight_gaps.mpr ⟨hu, ht⟩) rfl
theorem lot_mem (B : Bfs n o g t own st lot came k) {e : Nat} : e ∈ lot ↔ e = st ∨ ∃ u, u ∈ keys came ∧ own u = some e := by
  rw [B.lot_eq, List.mem_cons, List.mem_filterMap]
  constructor
  · rintro (h | ⟨p, hp, h⟩)
    · exact .inl h
    · exact .inr ⟨p.1, List.mem_map.mpr ⟨p, hp, rfl⟩, h⟩
  · rintro (h | ⟨u, hu, h⟩)
    · exact .inl h
    · obtain ⟨p, hp, rfl⟩ := List.mem_map.mp hu
      exact .inr ⟨p, hp, h⟩
end
section
variable {n : Nat} {o : Pat} {g t : Nat → Int} {own : Nat → Option Nat} {eq : Nat} {lot : List Nat} {came : List (Nat × Nat)} {k : Nat}
theorem lot_le (M : Mat n own eq) (B : Bfs n o g t own eq lot came k) {e : Nat} (h : e ∈ lot) : e ≤ eq := by
  rcases (lot_mem B).mp h with h | ⟨u, _, h⟩
  · exact Nat.le_of_eq h
  · exact Nat.le_of_lt (M.rng u e h).2
theorem owners_nd (M : Mat n own eq) : ∀ came : List (Nat × Nat), (keys came).Nodup → (came.filterMap fun p => own p.1).Nodup
  | [], _ => List.nodup_nil
  | p :: r, h => by
    have h' : p.1 ∉ keys r ∧ (keys r).Nodup := List.nodup_cons.mp h
    cases q : own p.1 with
    | none =>
      rw [List.filterMap_cons, q]
      exact owners_nd M r h'.2
    | some e =>
      rw [List.filterMap_cons, q]
      refine List.nodup_cons.mpr ⟨fun hm => ?_, owners_nd M r h'.2⟩
      obtain ⟨p', hp', e'⟩ := List.mem_filterMap.mp hm
      have z := M.inj _ _ _ q e'
      exact h'.1 (by rw [z]; exact List.mem_map.mpr ⟨p', hp', rfl⟩)
theorem lot_nd (M : Mat n own eq) (B : Bfs n o g t own eq lot came k) : lot.Nodup := by
  rw [B.lot_eq]
  refine List.nodup_cons.mpr ⟨fun hm => ?_, owners_nd M came B.nd⟩
  obtain ⟨p, _, e⟩ := List.mem_filterMap.mp hm
  exact absurd (M.rng _ _ e).2 (Nat.lt_irrefl _)
theorem lot_len (M : Mat n own eq) (hlt : eq < n) (B : Bfs n o g t own eq lot came k) : lot.length ≤ n :=
  few (lot_nd M B) fun x hx => Nat.lt_of_le_of_lt (lot_le M B hx) hlt
theorem came_len (B : Bfs n o g t own eq lot came k) : came.length ≤ n := by
  have h := few B.nd B.lt
  unfold keys at h
  rwa [List.length_map] at h
theorem rank_uniq (M : Mat n own eq) (B : Bfs n o g t own eq lot came k) {r r' : Nat} {e : Nat} (h : lot[r]? = some e) (h' : lot[r']? = some e) : r = r' := by
  obtain ⟨h1, e1⟩ := List.getElem?_eq_some_iff.mp h
  obtain ⟨h2, e2⟩ := List.getElem?_eq_some_iff.mp h'
  exact (List.getElem_inj (lot_nd M B)).mp (e1.trans e2.symm)
theorem came_at {u : Nat} (h : u ∈ keys came) : ∃ (j : Nat) (e : Nat), came[j]? = some (u, e) := by
  obtain ⟨p, hp, rfl⟩ := List.mem_map.mp h
  obtain ⟨j, hj⟩ := List.getElem?_of_mem hp
  exact ⟨j, p.2, hj⟩

/-! ### raising -/
/-- the gaps from the lot to unknowns that did not come -/
def outs (n : Nat) (o : Pat) (g t : Nat → Int) (lot : List Nat) (came : List (Nat × Nat)) : List Int := lot.flatMap fun e => (gapsL n o g t e).filterMap fun q => if q.1 ∈ keys came then none else some q.2
theorem mem_outs {x : Int} : x ∈ outs n o g t lot came ↔ ∃ e, e ∈ lot ∧ ∃ u, (u, x) ∈ gapsL n o g t e ∧ u ∉ keys came := by
  unfold outs
  rw [List.mem_flatMap]
  constructor
  · rintro ⟨e, he, h⟩
    obtain ⟨q, hq, h⟩ := List.mem_filterMap.mp h
    by_cases hc : q.1 ∈ keys came
    · rw [if_pos hc] at h
      cases h
    · rw [if_neg hc] at h
      have h' : q.2 = x := Option.some.inj h
      subst h'
      exact ⟨e, he, q.1, hq, hc⟩
  · rintro ⟨e, he, u, hq, hc⟩
    exact ⟨e, he, List.mem_filterMap.mpr ⟨(u, x), hq, if_neg hc⟩⟩
def upG (lot : List Nat) (m : Int) (g : Nat → Int) : Nat → Int := fun e => if e ∈ lot then g e + m else g e
/-- all is done, no unknown that came is free -/
structure Stuck (n : Nat) (o : Pat) (own : Nat → Option Nat) (g t : Nat → Int) (eq : Nat) (lot : List Nat) (came : List (Nat × Nat)) : Prop where
  mid : Mid n o own g t eq
  bfs : Bfs n o g t own eq lot came lot.length
  full : ∀ u, u ∈ keys came → own u ≠ none
theorem Stuck.out_pos (S : Stuck n o own g t eq lot came) {x : Int} (h : x ∈ outs n o g t lot came) : 0 < x := by
  obtain ⟨e, he, u, hq, hc⟩ := mem_outs.mp h
  obtain ⟨hu, w, hw, rfl⟩ := mem_gaps.mp hq
  have h1 := S.mid.feas e (lot_le S.mid.mat S.bfs he) u hu w hw
  have h2 : t u - g e - w ≠ 0 := fun z => by
    have ht : Tight o g t e u := by
      unfold Tight
      rw [hw]
      congr 1
      omega
    obtain ⟨j, hj⟩ := List.getElem?_of_mem he
    exact hc (S.bfs.clo j e (List.getElem?_eq_some_iff.mp hj).1 hj u hu ht)
  omega
/-- equation and unknown stand together: both are reached or neither -/
theorem Stuck.both (S : Stuck n o own g t eq lot came) {u e : Nat} (h : own u = some e) : e ∈ lot ↔ u ∈ keys came := by
  rw [lot_mem S.bfs]
  constructor
  · rintro (z | ⟨v, hv, z⟩)
    · subst z
      exact absurd (S.mid.mat.rng _ _ h).2 (Nat.lt_irrefl _)
    · rw [S.mid.mat.inj _ _ _ h z]
      exact hv
  · intro hu
    exact .inr ⟨u, hu, h⟩
theorem raise_mid (S : Stuck n o own g t eq lot came) {m : Int} (hm : m ∈ outs n o g t lot came) (hle : ∀ y, y ∈ outs n o g t lot came → m ≤ y) : Mid n o own (upG lot m g) (upG (keys came) m t) eq := by
  have hp := S.out_pos hm
  refine ⟨S.mid.mat, S.mid.lt, fun u e h => ?_, fun i hi j hj w hw => ?_, fun i hi => ?_⟩
  · have q := S.mid.on u e h
    have b := S.both h
    unfold Tight at q ⊢
    rw [q]
    congr 1
    unfold upG
    by_cases he : e ∈ lot
    · rw [if_pos he, if_pos (b.mp he)]
      omega
    · rw [if_neg he, if_neg (fun z => he (b.mpr z))]
  · have f := S.mid.feas i hi j hj w hw
    unfold upG
    by_cases hl : i ∈ lot
    · by_cases hk : j ∈ keys came
      · rw [if_pos hl, if_pos hk]
        omega
      · rw [if_pos hl, if_neg hk]
        have q := hle _ (mem_outs.mpr ⟨i, hl, j, mem_gaps.mpr ⟨hj, w, hw, rfl⟩, hk⟩)
        omega
    · rw [if_neg hl]
      split <;> omega
  · unfold upG
    rw [if_neg (fun z => absurd (lot_le S.mid.mat S.bfs z) (by omega))]
    exact S.mid.zero i hi
/-- behind a raising more unknowns come -/
theorem raise_more (S : Stuck n o own g t eq lot came) {m : Int} (hm : m ∈ outs n o g t lot came) {lot' : List Nat} {came' : List (Nat × Nat)} (B' : Bfs n o (upG lot m g) (upG (keys came) m t) own eq lot' came' lot'.length) : came.length < came'.length := by
  have clo' : ∀ e u, e ∈ lot' → u < n → Tight o (upG lot m g) (upG (keys came) m t) e u → u ∈ keys came' := fun e u he hu ht => by
    obtain ⟨j, hj⟩ := List.getElem?_of_mem he
    exact B'.clo j e (List.getElem?_eq_some_iff.mp hj).1 hj u hu ht
  -- what was reached is reached again
  have key_of : ∀ u e, (∃ j : Nat, came[j]? = some (u, e)) → e ∈ lot → e ∈ lot' → u ∈ keys came' := fun u e ⟨j, hj⟩ hl he => by
    obtain ⟨r, h1, h2, _⟩ := S.bfs.frm j u e hj
    have hk : u ∈ keys came := List.mem_map.mpr ⟨(u, e), List.mem_of_getElem? hj, rfl⟩
    refine clo' e u he (S.bfs.lt u hk) ?_
    unfold Tight at h2 ⊢
    rw [h2]
    congr 1
    unfold upG
    rw [if_pos hl, if_pos hk]
    omega
  have reach : ∀ (N : Nat) (r : Nat) (e : Nat), r < N → lot[r]? = some e → e ∈ lot' := by
    intro N
    induction N with
    | zero => intro r e h; exact absurd h (Nat.not_lt_zero _)
    | succ N ih =>
      intro r e hr he
      rcases (lot_mem S.bfs).mp (List.mem_of_getElem? he) with z | ⟨u, hu, z⟩
      · exact (lot_mem B').mpr (.inl z)
      · obtain ⟨j, e2, hj⟩ := came_at hu
        obtain ⟨r2, h1, h2, h3⟩ := S.bfs.frm j u e2 hj
        obtain ⟨r3, h4, h5⟩ := h3 e z
        have e3 : r3 = r := rank_uniq S.mid.mat S.bfs h4 he
        have hk := key_of u e2 ⟨j, hj⟩ (List.mem_of_getElem? h1) (ih r2 e2 (by omega) h1)
        exact (lot_mem B').mpr (.inr ⟨u, hk, z⟩)
  have sub : ∀ u, u ∈ keys came → u ∈ keys came' := fun u hu => by
    obtain ⟨j, e, hj⟩ := came_at hu
    obtain ⟨r, h1, _⟩ := S.bfs.frm j u e hj
    exact key_of u e ⟨j, hj⟩ (List.mem_of_getElem? h1) (reach (r + 1) r e (Nat.lt_succ_self r) h1)
  -- and one more
  obtain ⟨e, he, u, hq, hc⟩ := mem_outs.mp hm
  obtain ⟨hu, w, hw, hx⟩ := mem_gaps.mp hq
  obtain ⟨r, hr⟩ := List.getElem?_of_mem he
  have he' := reach (r + 1) r e (Nat.lt_succ_self r) hr
  have hu' : u ∈ keys came' := by
    refine clo' e u he' hu ?_
    unfold Tight
    rw [hw]
    congr 1
    unfold upG
    rw [if_pos he, if_neg hc]
    omega
  have h1 : (u :: keys came).Nodup := List.nodup_cons.mpr ⟨hc, S.bfs.nd⟩
  have h2 := h1.length_le_of_subset (l₂ := keys came') fun x hx => by
    rcases List.mem_cons.mp hx with z | z
    · rw [z]; exact hu'
    · exact sub x z
  unfold keys at h2
  rw [List.length_cons, List.length_map, List.length_map] at h2
  omega
/-- nothing to raise by: no choice -/
theorem none_out (S : Stuck n o own g t eq lot came) (h : outs n o g t lot came = []) : ¬ ∃ l, Ch n o l := by
  rintro ⟨l, hl⟩
  have full : ∀ came : List (Nat × Nat), (∀ u, u ∈ keys came → own u ≠ none) → (came.filterMap fun p => own p.1).length = came.length := by
    intro came
    induction came with
    | nil => intro _; rfl
    | cons p r ih =>
      intro h
      have h1 := h p.1 List.mem_cons_self
      cases q : own p.1 with
      | none => exact absurd q h1
      | some e =>
        rw [List.filterMap_cons, q]
        show (r.filterMap fun p => own p.1).length + 1 = r.length + 1
        rw [ih fun u hu => h u (List.mem_cons_of_mem _ hu)]
  have len : lot.length = came.length + 1 := by
    have e := congrArg List.length S.bfs.lot_eq
    rw [List.length_cons, full came S.full] at e
    exact e
  have inj : ∀ a, a ∈ lot → ∀ b, b ∈ lot → l.getD a 0 = l.getD b 0 → a = b := fun a ha b hb e => by
    have hla := hl.get (Nat.lt_of_le_of_lt (lot_le S.mid.mat S.bfs ha) S.mid.lt)
    have hlb := hl.get (Nat.lt_of_le_of_lt (lot_le S.mid.mat S.bfs hb) S.mid.lt)
    have e1 : l[a]? = l[b]? := by rw [hla.2, hlb.2, e]
    obtain ⟨h1, e2⟩ := List.getElem?_eq_some_iff.mp hla.2
    obtain ⟨h2, e3⟩ := List.getElem?_eq_some_iff.mp hlb.2
    exact (List.getElem_inj hl.nd).mp (e2.trans (e.trans e3.symm))
  have nd : ∀ L : List Nat, L.Nodup → (∀ a, a ∈ L → a ∈ lot) → (L.map fun a => l.getD a 0).Nodup := by
    intro L
    induction L with
    | nil => intro _ _; exact List.nodup_nil
    | cons a L ih =>
      intro hn hs
      have hn' := List.nodup_cons.mp hn
      rw [List.map_cons]
      refine List.nodup_cons.mpr ⟨fun hm => ?_, ih hn'.2 fun b hb => hs b (List.mem_cons_of_mem _ hb)⟩
      obtain ⟨b, hb, e⟩ := List.mem_map.mp hm
      have z := inj b (hs b (List.mem_cons_of_mem _ hb)) a (hs a List.mem_cons_self) e
      exact hn'.1 (by rw [← z]; exact hb)
  have q := (nd lot (lot_nd S.mid.mat S.bfs) fun a ha => ha).length_le_of_subset (l₂ := keys came) fun x hx => by
    obtain ⟨a, ha, rfl⟩ := List.mem_map.mp hx
    have han : a < n := Nat.lt_of_le_of_lt (lot_le S.mid.mat S.bfs ha) S.mid.lt
    apply Classical.byContradiction
    intro hc
    cases e : o a (l.getD a 0) with
    | none => exact hl.at_ a han e
    | some w =>
      have hm : t (l.getD a 0) - g a - w ∈ outs n o g t lot came := mem_outs.mpr ⟨a, ha, l.getD a 0, mem_gaps.mpr ⟨(hl.get han).1, w, e, rfl⟩, hc⟩
      rw [h] at hm
      cases hm
  rw [List.length_map, len] at q
  unfold keys at q
  rw [List.length_map] at q
  omega
end
end Hid
/-! Mathematics, 3: an unknown is handed on; an equation taken in; what stands at the end. -/
namespace Hid
section
variable {n : Nat} {o : Pat} {g t : Nat → Int} {own0 : Nat → Option Nat} {eq : Nat} {lot : List Nat} {came : List (Nat × Nat)}

/-- while unknowns are handed on: own is who has which, but for x, which is to be given to equation e -/
structure Hand (n : Nat) (o : Pat) (g t : Nat → Int) (own0 : Nat → Option Nat) (lot : List Nat) (came : List (Nat × Nat)) (own : Nat → Option Nat) (x e r : Nat) : Prop where
  inj : ∀ u v a, u ≠ x → v ≠ x → own u = some a → own v = some a → u = v
  on : ∀ u a, u ≠ x → own u = some a → u < n ∧ Tight o g t a u
  dom : ∀ a, (∃ u, u ≠ x ∧ own u = some a) ↔ ∃ u, own0 u = some a
  cm : ∃ j : Nat, came[j]? = some (x, e)
  rk : lot[r]? = some e
  chg : ∀ u, u ≠ x → own u ≠ own0 u → ∃ a r', own u = some a ∧ lot[r']? = some a ∧ r < r'
  old : ∀ a, own x = some a → ∃ r' : Nat, lot[r']? = some a ∧ r < r'
theorem came_fn (B : Bfs n o g t own0 eq lot came lot.length) {u e e' : Nat} (h : ∃ j : Nat, came[j]? = some (u, e)) (h' : ∃ j : Nat, came[j]? = some (u, e')) : e = e' := by
  obtain ⟨j, hj⟩ := h
  obtain ⟨j', hj'⟩ := h'
  have k1 : (keys came)[j]? = some u := by unfold keys; rw [List.getElem?_map, hj]; rfl
  have k2 : (keys came)[j']? = some u := by unfold keys; rw [List.getElem?_map, hj']; rfl
  obtain ⟨a1, a2⟩ := List.getElem?_eq_some_iff.mp k1
  obtain ⟨b1, b2⟩ := List.getElem?_eq_some_iff.mp k2
  have z : j = j' := (List.getElem_inj B.nd).mp (a2.trans b2.symm)
  subst z
  rw [hj] at hj'
  exact congrArg Prod.snd (Option.some.inj hj')
theorem hand_start (M : Mid n o own0 g t eq) (B : Bfs n o g t own0 eq lot came lot.length) {x : Nat} (hx : x ∈ keys came) (hf : own0 x = none) : ∃ e r, Hand n o g t own0 lot came own0 x e r := by
  obtain ⟨j, e, hj⟩ := came_at hx
  obtain ⟨r, h1, h2, h3⟩ := B.frm j x e hj
  refine ⟨e, r, fun u v a _ _ hu hv => M.mat.inj u v a hu hv, fun u a _ h => ⟨(M.mat.rng u a h).1, M.on u a h⟩, fun a => ⟨fun ⟨u, _, h⟩ => ⟨u, h⟩, fun ⟨u, h⟩ => ⟨u, fun z => ?_, h⟩⟩, ⟨j, hj⟩, h1, fun u _ h => absurd rfl h, fun a h => ?_⟩
  · rw [z, hf] at h
    cases h
  · rw [hf] at h
    cases h
/-- e stands at no other unknown by itself: x's stale owner is another one -/
theorem hand_stale (M : Mid n o own0 g t eq) (B : Bfs n o g t own0 eq lot came lot.length) {own : Nat → Option Nat} {x e r : Nat} (h : Hand n o g t own0 lot came own x e r) : own x ≠ some e := fun z => by
  obtain ⟨r', h1, h2⟩ := h.old e z
  have q := rank_uniq M.mat B h1 h.rk
  omega
theorem hand_tight (B : Bfs n o g t own0 eq lot came lot.length) {own : Nat → Option Nat} {x e r : Nat} (h : Hand n o g t own0 lot came own x e r) : x < n ∧ Tight o g t e x := by
  obtain ⟨j, hj⟩ := h.cm
  obtain ⟨r', h1, h2, h3⟩ := B.frm j x e hj
  exact ⟨B.lt x (List.mem_map.mpr ⟨(x, e), List.mem_of_getElem? hj, rfl⟩), h2⟩
def setO (own : Nat → Option Nat) (x e : Nat) : Nat → Option Nat := fun u => if u = x then some e else own u
/-- e has none else: done -/
theorem hand_end (M : Mid n o own0 g t eq) (B : Bfs n o g t own0 eq lot came lot.length) {own : Nat → Option Nat} {x e r : Nat} (h : Hand n o g t own0 lot came own x e r) (he : ∀ u, own u ≠ some e) :
    Vld n o (setO own x e) g t (eq + 1) := by
  have hee : e = eq := by
    rcases (lot_mem B).mp (List.mem_of_getElem? h.rk) with z | ⟨u, _, z⟩
    · exact z
    · obtain ⟨v, _, hv⟩ := (h.dom e).mpr ⟨u, z⟩
      exact absurd hv (he v)
  obtain ⟨hxn, hxt⟩ := hand_tight B h
  have at_ : ∀ u a, setO own x e u = some a → (u = x ∧ a = e) ∨ (u ≠ x ∧ own u = some a) := fun u a q => by
    unfold setO at q
    by_cases z : u = x
    · rw [if_pos z] at q
      exact .inl ⟨z, (Option.some.inj q).symm⟩
    · rw [if_neg z] at q
      exact .inr ⟨z, q⟩
  refine ⟨⟨fun u v a hu hv => ?_, fun u a hu => ?_, fun a ha => ?_⟩, fun u a hu => ?_, fun i hi => M.feas i (by omega), fun i hi => M.zero i (by omega)⟩
  · rcases at_ u a hu with ⟨z1, z2⟩ | ⟨z1, z2⟩
    · rcases at_ v a hv with ⟨y1, y2⟩ | ⟨y1, y2⟩
      · rw [z1, y1]
      · exact absurd (by rw [y2, z2]) (he v)
    · rcases at_ v a hv with ⟨y1, y2⟩ | ⟨y1, y2⟩
      · exact absurd (by rw [z2, y2]) (he u)
      · exact h.inj u v a z1 y1 z2 y2
  · rcases at_ u a hu with ⟨z1, z2⟩ | ⟨z1, z2⟩
    · rw [z1, z2, hee]
      exact ⟨hxn, Nat.lt_succ_self _⟩
    · obtain ⟨v, hv⟩ := (h.dom a).mp ⟨u, z1, z2⟩
      exact ⟨(h.on u a z1 z2).1, by have := (M.mat.rng v a hv).2; omega⟩
  · by_cases z : a = eq
    · exact ⟨x, by unfold setO; rw [if_pos rfl, z, hee]⟩
    · obtain ⟨u, hu⟩ := M.mat.all a (by omega)
      obtain ⟨v, y1, y2⟩ := (h.dom a).mpr ⟨u, hu⟩
      exact ⟨v, by unfold setO; rw [if_neg y1]; exact y2⟩
  · rcases at_ u a hu with ⟨z1, z2⟩ | ⟨z1, z2⟩
    · rw [z1, z2]
      exact hxt
    · exact (h.on u a z1 z2).2
/-- e has y, too: y is handed on next -/
theorem hand_next (M : Mid n o own0 g t eq) (B : Bfs n o g t own0 eq lot came lot.length) {own : Nat → Option Nat} {x e r : Nat} (h : Hand n o g t own0 lot came own x e r) {y : Nat} (hy : own y = some e) :
    ∃ e' r', r' < r ∧ Hand n o g t own0 lot came (setO own x e) y e' r' := by
  have hyx : y ≠ x := fun z => by
    rw [z] at hy
    exact hand_stale M B h hy
  have same : own y = own0 y := by
    apply Classical.byContradiction
    intro q
    obtain ⟨a, r', h1, h2, h3⟩ := h.chg y hyx q
    rw [hy] at h1
    cases h1
    have z := rank_uniq M.mat B h2 h.rk
    omega
  have hy0 : own0 y = some e := by rw [← same]; exact hy
  have hyk : y ∈ keys came := by
    rcases (lot_mem B).mp (List.mem_of_getElem? h.rk) with z | ⟨u, hu, z⟩
    · exact absurd (M.mat.rng y e hy0).2 (by omega)
    · rw [M.mat.inj y u e hy0 z]
      exact hu
  obtain ⟨j, e', hj⟩ := came_at hyk
  obtain ⟨r', h1, h2, h3⟩ := B.frm j y e' hj
  obtain ⟨r2, h4, h5⟩ := h3 e hy0
  have hr : r2 = r := rank_uniq M.mat B h4 h.rk
  subst hr
  obtain ⟨hxn, hxt⟩ := hand_tight B h
  have atx : setO own x e x = some e := if_pos rfl
  have atn : ∀ u, u ≠ x → setO own x e u = own u := fun u z => if_neg z
  refine ⟨e', r', h5, fun u v a hu hv q1 q2 => ?_, fun u a hu q => ?_, fun a => ⟨?_, ?_⟩, ⟨j, hj⟩, h1, fun u hu q => ?_, fun a q => ?_⟩
  · by_cases z1 : u = x
    · by_cases z2 : v = x
      · rw [z1, z2]
      · rw [z1, atx] at q1
        cases q1
        rw [atn v z2] at q2
        exact absurd (h.inj v y e z2 hyx q2 hy) hv
    · rw [atn u z1] at q1
      by_cases z2 : v = x
      · rw [z2, atx] at q2
        cases q2
        exact absurd (h.inj u y e z1 hyx q1 hy) hu
      · rw [atn v z2] at q2
        exact h.inj u v a z1 z2 q1 q2
  · by_cases z1 : u = x
    · rw [z1, atx] at q
      cases q
      rw [z1]
      exact ⟨hxn, hxt⟩
    · rw [atn u z1] at q
      exact h.on u a z1 q
  · rintro ⟨u, hu, q⟩
    by_cases z1 : u = x
    · rw [z1, atx] at q
      cases q
      exact ⟨y, hy0⟩
    · rw [atn u z1] at q
      exact (h.dom a).mp ⟨u, z1, q⟩
  · intro q
    obtain ⟨u, hu, hq⟩ := (h.dom a).mpr q
    by_cases z1 : u = y
    · rw [z1, hy] at hq
      cases hq
      exact ⟨x, fun z => hyx z.symm, atx⟩
    · exact ⟨u, z1, by rw [atn u hu]; exact hq⟩
  · by_cases z1 : u = x
    · exact ⟨e, r2, by rw [z1]; exact atx, h4, h5⟩
    · rw [atn u z1] at q ⊢
      obtain ⟨a, r3, y1, y2, y3⟩ := h.chg u z1 q
      exact ⟨a, r3, y1, y2, by omega⟩
  · rw [atn y hyx, hy] at q
    cases q
    exact ⟨r2, h4, h5⟩
end

/-! ### an equation is taken in -/
def setG (g : Nat → Int) (k : Nat) (v : Int) : Nat → Int := fun i => if i = k then v else g i
theorem take_mid {n : Nat} {o : Pat} {own : Nat → Option Nat} {g t : Nat → Int} {eq : Nat} (v : Vld n o own g t eq) (hn : eq < n) {m : Int} (hm : ∀ q, q ∈ gapsL n o g t eq → m ≤ q.2) : Mid n o own (setG g eq m) t eq := by
  refine ⟨v.mat, hn, fun u e h => ?_, fun i hi j hj w hw => ?_, fun i hi => ?_⟩
  · have q := v.on u e h
    have l := (v.mat.rng u e h).2
    unfold Tight setG at *
    rw [if_neg (by omega)]
    exact q
  · unfold setG
    by_cases z : i = eq
    · subst z
      rw [if_pos rfl]
      have q : m ≤ t j - g i - w := hm (j, t j - g i - w) (mem_gaps.mpr ⟨hj, w, hw, rfl⟩)
      have e := v.zero i (Nat.le_refl _)
      omega
    · rw [if_neg z]
      exact v.feas i (by omega) j hj w hw
  · unfold setG
    rw [if_neg (by omega)]
    exact v.zero i (by omega)
theorem vld_start (n : Nat) (o : Pat) : Vld n o (fun _ => none) (fun _ => 0) (fun _ => 0) 0 :=
  ⟨⟨(fun _ _ _ h => by cases h), (fun _ _ h => by cases h), (fun e h => absurd h (Nat.not_lt_zero _))⟩, (fun _ _ h => by cases h), (fun i h => absurd h (Nat.not_lt_zero _)), (fun _ _ => rfl)⟩

/-! ### at the end -/
/-- the first unknown that equation e has -/
def firstOf (n : Nat) (own : Nat → Option Nat) (e : Nat) : Nat := ((List.range n).find? fun u => own u = some e).getD 0
theorem firstOf_ok {n : Nat} {own : Nat → Option Nat} {eq e : Nat} (M : Mat n own eq) (h : e < eq) : own (firstOf n own e) = some e := by
  obtain ⟨u, hu⟩ := M.all e h
  unfold firstOf
  cases q : (List.range n).find? fun u => decide (own u = some e) with
  | none =>
    have z := List.find?_eq_none.mp q u (List.mem_range.mpr (M.rng u e hu).1)
    exact absurd (decide_eq_true hu) z
  | some v =>
    have z := List.find?_some q
    exact of_decide_eq_true z
def ownChoice (n : Nat) (own : Nat → Option Nat) : List Nat := (List.range n).map (firstOf n own)
theorem ownChoice_at {n : Nat} {own : Nat → Option Nat} {i : Nat} (hi : i < n) : (ownChoice n own).getD i 0 = firstOf n own i := by
  unfold ownChoice
  rw [List.getD_eq_getElem?_getD, List.getElem?_map, List.getElem?_range hi]
  rfl
theorem ownChoice_ok {n : Nat} {o : Pat} {own : Nat → Option Nat} {g t : Nat → Int} (v : Vld n o own g t n) : Ch n o (ownChoice n own) ∧ TightAll n o g t (ownChoice n own) := by
  have tt : TightAll n o g t (ownChoice n own) := fun i hi => by
    rw [ownChoice_at hi]
    exact v.on _ _ (firstOf_ok v.mat hi)
  refine ⟨⟨by unfold ownChoice; rw [List.length_map, List.length_range], ?_, fun j hj => ?_, fun i hi => ?_⟩, tt⟩
  · unfold ownChoice
    have nd : ∀ L : List Nat, L.Nodup → (∀ e, e ∈ L → e < n) → (L.map (firstOf n own)).Nodup := by
      intro L
      induction L with
      | nil => intro _ _; exact List.nodup_nil
      | cons a L ih =>
        intro hn hs
        have hn' := List.nodup_cons.mp hn
        rw [List.map_cons]
        refine List.nodup_cons.mpr ⟨fun hm => ?_, ih hn'.2 fun b hb => hs b (List.mem_cons_of_mem _ hb)⟩
        obtain ⟨b, hb, e⟩ := List.mem_map.mp hm
        have h1 := firstOf_ok v.mat (hs a List.mem_cons_self)
        have h2 := firstOf_ok v.mat (hs b (List.mem_cons_of_mem _ hb))
        rw [e, h1] at h2
        cases h2
        exact hn'.1 hb
    exact nd _ List.nodup_range fun e he => List.mem_range.mp he
  · unfold ownChoice at hj
    obtain ⟨i, hi, rfl⟩ := List.mem_map.mp hj
    exact (v.mat.rng _ _ (firstOf_ok v.mat (List.mem_range.mp hi))).1
  · rw [tt i hi]
    intro z
    cases z
theorem vld_feas {n : Nat} {o : Pat} {own : Nat → Option Nat} {g t : Nat → Int} (v : Vld n o own g t n) : Feas n o g t := fun i hi => v.feas i hi
theorem vld_heavy {n : Nat} {o : Pat} {own : Nat → Option Nat} {g t : Nat → Int} (v : Vld n o own g t n) : Heavy n o (span n g t) :=
  .of_tight (vld_feas v) (ownChoice_ok v).1 (ownChoice_ok v).2
end Hid
/-! Mathematics, 4: choices listed, ascending; the heaviest ones by begins that some choice has. -/
namespace Hid
/-- all choices of the first k equations, ascending -/
def allC (n : Nat) (o : Pat) : Nat → List (List Nat)
  | 0 => [[]]
  | k + 1 => (allC n o k).flatMap fun s => ((List.range n).filter fun j => decide (o k j ≠ none ∧ j ∉ s)).map fun j => s ++ [j]
theorem getD_left {s r : List Nat} {i : Nat} (h : i < s.length) : (s ++ r).getD i 0 = s.getD i 0 := by
  rw [List.getD_eq_getElem?_getD, List.getD_eq_getElem?_getD, List.getElem?_append_left h]
theorem getD_last (s : List Nat) (j : Nat) : (s ++ [j]).getD s.length 0 = j := by
  rw [List.getD_eq_getElem?_getD, List.getElem?_append_right (Nat.le_refl _), Nat.sub_self]
  rfl
theorem part_snoc {n : Nat} {o : Pat} {k : Nat} {s : List Nat} {j : Nat} : Part n o (k + 1) (s ++ [j]) ↔ Part n o k s ∧ j < n ∧ o k j ≠ none ∧ j ∉ s := by
  constructor
  · intro h
    have hl : s.length = k := by
      have e := h.len
      rw [List.length_append, List.length_singleton] at e
      omega
    have nd := List.nodup_append.mp h.nd
    refine ⟨⟨hl, nd.1, fun x hx => h.lt x (List.mem_append_left _ hx), fun i hi => ?_⟩, h.lt j (by simp), ?_, fun hm => nd.2.2 j hm j (by simp) rfl⟩
    · have q := h.at_ i (by omega)
      rwa [getD_left (by omega)] at q
    · have q := h.at_ k (by omega)
      rw [← hl, getD_last, hl] at q
      exact q
  · rintro ⟨h, hj, ho, hm⟩
    refine ⟨by rw [List.length_append, h.len]; rfl, ?_, fun x hx => ?_, fun i hi => ?_⟩
    · refine List.nodup_append.mpr ⟨h.nd, by simp, fun a ha b hb e => ?_⟩
      have z : b = j := by simpa using hb
      rw [e, z] at ha
      exact hm ha
    · rcases List.mem_append.mp hx with z | z
      · exact h.lt x z
      · have e : x = j := by simpa using z
        rw [e]
        exact hj
    · by_cases z : i < k
      · rw [getD_left (by rw [h.len]; exact z)]
        exact h.at_ i z
      · have e : i = s.length := by rw [h.len]; omega
        rw [e, getD_last, h.len]
        exact ho
theorem mem_allC {n : Nat} {o : Pat} : ∀ {k : Nat} {l : List Nat}, l ∈ allC n o k ↔ Part n o k l
  | 0, l => by
    show l ∈ [[]] ↔ _
    rw [List.mem_singleton]
    constructor
    · intro e
      subst e
      exact ⟨rfl, List.nodup_nil, (fun j h => absurd h List.not_mem_nil), (fun i h => absurd h (Nat.not_lt_zero _))⟩
    · intro h
      exact List.eq_nil_of_length_eq_zero h.len
  | k + 1, l => by
    show l ∈ (allC n o k).flatMap _ ↔ _
    rw [List.mem_flatMap]
    constructor
    · rintro ⟨s, hs, h⟩
      obtain ⟨j, hj, rfl⟩ := List.mem_map.mp h
      obtain ⟨h1, h2⟩ := List.mem_filter.mp hj
      obtain ⟨h3, h4⟩ := of_decide_eq_true h2
      exact part_snoc.mpr ⟨mem_allC.mp hs, List.mem_range.mp h1, h3, h4⟩
    · intro h
      have hne : l ≠ [] := fun e => by
        have q := h.len
        rw [e] at q
        cases q
      have e : l = l.dropLast ++ [l.getLast hne] := (List.dropLast_concat_getLast hne).symm
      rw [e] at h
      obtain ⟨h1, h2, h3, h4⟩ := part_snoc.mp h
      refine ⟨l.dropLast, mem_allC.mpr h1, List.mem_map.mpr ⟨l.getLast hne, List.mem_filter.mpr ⟨List.mem_range.mpr h2, decide_eq_true ⟨h3, h4⟩⟩, e.symm⟩⟩
/-- some choice begins so -/
def Ext (n : Nat) (T : Pat) (b : List Nat) : Prop := ∃ l, Ch n T l ∧ b <+: l
/-- begins of choices, by a look whether a begin goes on -/
def hC (n : Nat) (T : Pat) (cb : List Nat → Bool) : Nat → List (List Nat)
  | 0 => [[]]
  | k + 1 => (hC n T cb k).flatMap fun s => ((List.range n).filter fun u => decide (T k u ≠ none ∧ u ∉ s ∧ cb (s ++ [u]) = true)).map fun u => s ++ [u]
theorem ext_part {n : Nat} {T : Pat} {b : List Nat} (h : Ext n T b) : Part n T b.length b ∧ b.length ≤ n := by
  obtain ⟨l, hl, r, rfl⟩ := h
  have q := hl.len
  rw [List.length_append] at q
  refine ⟨⟨rfl, (List.nodup_append.mp hl.nd).1, fun j hj => hl.lt j (List.mem_append_left _ hj), fun i hi => ?_⟩, by omega⟩
  have z := hl.at_ i (by omega)
  rwa [getD_left hi] at z
theorem ext_pre {n : Nat} {T : Pat} {b r : List Nat} (h : Ext n T (b ++ r)) : Ext n T b := by
  obtain ⟨l, hl, s, rfl⟩ := h
  exact ⟨_, hl, r ++ s, by rw [List.append_assoc]⟩
open Classical in
theorem hC_eq {n : Nat} {o T : Pat} {cb : List Nat → Bool} (hcb : ∀ k b, k < n → Part n T (k + 1) b → (cb b = true ↔ Ext n T b)) (hT : ∃ l, Ch n T l) (hTo : ∀ i j, T i j ≠ none → o i j ≠ none) :
    ∀ k, k ≤ n → hC n T cb k = (allC n o k).filter fun b => decide (Ext n T b)
  | 0, _ => by
    obtain ⟨l, hl⟩ := hT
    have e : Ext n T [] := ⟨l, hl, l, rfl⟩
    show [[]] = List.filter _ [[]]
    rw [List.filter_cons, if_pos (decide_eq_true e)]
    rfl
  | k + 1, hk => by
    have ih := hC_eq hcb hT hTo k (by omega)
    have each : ∀ L : List (List Nat), (∀ s, s ∈ L → Part n o k s) →
        ((L.filter fun b => decide (Ext n T b)).flatMap fun s => ((List.range n).filter fun u => decide (T k u ≠ none ∧ u ∉ s ∧ cb (s ++ [u]) = true)).map fun u => s ++ [u]) =
        (L.flatMap fun s => ((List.range n).filter fun j => decide (o k j ≠ none ∧ j ∉ s)).map fun j => s ++ [j]).filter fun b => decide (Ext n T b) := by
      intro L
      induction L with
      | nil => intro _; rfl
      | cons s L ihL =>
        intro hs
        have hp := hs s List.mem_cons_self
        rw [List.flatMap_cons, List.filter_append, ← ihL fun s' h' => hs s' (List.mem_cons_of_mem _ h'), List.filter_cons]
        by_cases he : Ext n T s
        · rw [if_pos (decide_eq_true he), List.flatMap_cons]
          congr 1
          rw [List.filter_map, List.filter_filter]
          congr 1
          refine List.filter_congr fun u hu => ?_
          have hps : Part n T k s := by
            have q := (ext_part he).1
            rwa [hp.len] at q
          rw [Bool.eq_iff_iff, Bool.and_eq_true]
          simp only [decide_eq_true_eq, Function.comp_apply]
          constructor
          · rintro ⟨h1, h2, h3⟩
            have q := part_snoc.mpr ⟨hps, List.mem_range.mp hu, h1, h2⟩
            exact ⟨(hcb k _ (by omega) q).mp h3, hTo _ _ h1, h2⟩
          · rintro ⟨h1, h2, h3⟩
            have q := (ext_part h1).1
            rw [List.length_append, List.length_singleton, hp.len] at q
            exact ⟨(part_snoc.mp q).2.2.1, h3, (hcb k _ (by omega) q).mpr h1⟩
        · rw [if_neg (by rw [decide_eq_true_eq]; exact he)]
          have e : List.filter (fun b => decide (Ext n T b)) (((List.range n).filter fun j => decide (o k j ≠ none ∧ j ∉ s)).map fun j => s ++ [j]) = [] := by
            rw [List.filter_eq_nil_iff]
            intro b hb
            obtain ⟨j, _, rfl⟩ := List.mem_map.mp hb
            rw [decide_eq_true_eq]
            exact fun z => he (ext_pre z)
          rw [e, List.nil_append]
    show (hC n T cb k).flatMap _ = _
    rw [ih]
    exact each _ fun s hs => mem_allC.mp hs
theorem ext_full {n : Nat} {T : Pat} {l : List Nat} (hl : l.length = n) : Ext n T l ↔ Ch n T l := by
  constructor
  · rintro ⟨l', h', r, rfl⟩
    have q := h'.len
    rw [List.length_append] at q
    have e : r = [] := List.eq_nil_of_length_eq_zero (by omega)
    rw [e, List.append_nil] at h'
    exact h'
  · intro h
    exact ⟨l, h, [], by rw [List.append_nil]⟩
/-- the spots that are tight by offsets, all with order 0 -/
def tightP (o : Pat) (c d : Nat → Int) : Pat := fun i j => if o i j = some (d j - c i) then some 0 else none
theorem tightP_ne {o : Pat} {c d : Nat → Int} {i j : Nat} : tightP o c d i j ≠ none ↔ Tight o c d i j := by
  unfold tightP Tight
  by_cases h : o i j = some (d j - c i)
  · rw [if_pos h]
    exact ⟨fun _ => h, fun _ z => by cases z⟩
  · rw [if_neg h]
    exact ⟨fun z => absurd rfl z, fun z => absurd z h⟩
theorem tightP_o {o : Pat} {c d : Nat → Int} {i j : Nat} (h : tightP o c d i j ≠ none) : o i j ≠ none := by
  have q : o i j = some (d j - c i) := tightP_ne.mp h
  rw [q]
  intro z
  cases z
theorem tightP_ch {n : Nat} {o : Pat} {c d : Nat → Int} {l : List Nat} (h : Ch n o l) : Ch n (tightP o c d) l ↔ TightAll n o c d l :=
  ⟨fun q i hi => tightP_ne.mp (q.at_ i hi), fun q => ⟨h.len, h.nd, h.lt, fun i hi => tightP_ne.mpr (q i hi)⟩⟩
/-- the heaviest choices, ascending -/
def heavies (n : Nat) (o : Pat) (W : Int) : List (List Nat) := (allC n o n).filter fun l => decide (wt n o l = W)
theorem hC_heavies {n : Nat} {o : Pat} {c d : Nat → Int} {cb : List Nat → Bool} {W : Int} (hw : Heavy n o W) (hf : Feas n o c d) (hs : span n c d = W)
    (hcb : ∀ k b, k < n → Part n (tightP o c d) (k + 1) b → (cb b = true ↔ Ext n (tightP o c d) b)) : hC n (tightP o c d) cb n = heavies n o W := by
  classical
  obtain ⟨l0, h0, e0⟩ := hw.some_
  rw [hC_eq (o := o) hcb ⟨l0, (tightP_ch h0).mpr ((best_tight hf hw h0 hs).mpr e0)⟩ (fun i j => tightP_o) n (Nat.le_refl _)]
  unfold heavies
  refine List.filter_congr fun l hl => ?_
  have h := mem_allC.mp hl
  rw [Bool.eq_iff_iff, decide_eq_true_eq, decide_eq_true_eq, ext_full h.len, tightP_ch h]
  exact best_tight hf hw h hs
/-- a pattern held to a begin -/
def fixP (T : Pat) (b : List Nat) : Pat := fun i j => if i < b.length then (if j = b.getD i 0 then some 0 else none) else T i j
theorem fix_ch {n : Nat} {T : Pat} {k : Nat} {b : List Nat} (hk : k ≤ n) (h : Part n T k b) {l : List Nat} : Ch n (fixP T b) l ↔ Ch n T l ∧ b <+: l := by
  constructor
  · intro q
    have eqs : ∀ i, i < k → l.getD i 0 = b.getD i 0 := fun i hi => by
      have z := q.at_ i (by omega)
      unfold fixP at z
      rw [if_pos (by rw [h.len]; exact hi)] at z
      by_cases e : l.getD i 0 = b.getD i 0
      · exact e
      · rw [if_neg e] at z
        exact absurd rfl z
    refine ⟨⟨q.len, q.nd, q.lt, fun i hi => ?_⟩, ?_⟩
    · by_cases z : i < k
      · rw [eqs i z]
        exact h.at_ i z
      · have y := q.at_ i hi
        unfold fixP at y
        rwa [if_neg (by rw [h.len]; exact z)] at y
    · refine ⟨l.drop k, ?_⟩
      have e : b = l.take k := by
        refine List.ext_getElem? fun i => ?_
        by_cases z : i < k
        · have hb := (h.get z).2
          have hl := (q.get (show i < n by omega)).2
          rw [List.getElem?_take, if_pos z, hb, hl, eqs i z]
        · rw [List.getElem?_eq_none (by rw [h.len]; omega), List.getElem?_eq_none (by rw [List.length_take, q.len]; omega)]
      rw [e]
      exact List.take_append_drop k l
  · rintro ⟨q, r, rfl⟩
    refine ⟨q.len, q.nd, q.lt, fun i hi => ?_⟩
    unfold fixP
    by_cases z : i < b.length
    · rw [if_pos z, getD_left z, if_pos rfl]
      intro y
      cases y
    · rw [if_neg z]
      exact q.at_ i hi
theorem fix_ext {n : Nat} {T : Pat} {k : Nat} {b : List Nat} (hk : k ≤ n) (h : Part n T k b) : (∃ l, Ch n (fixP T b) l) ↔ Ext n T b :=
  ⟨fun ⟨l, hl⟩ => ⟨l, (fix_ch hk h).mp hl⟩, fun ⟨l, hl⟩ => ⟨l, (fix_ch hk h).mpr hl⟩⟩

/-! ### the law's own lists -/
/-- the tight spots, ascending -/
def spots (n : Nat) (o : Pat) (c d : Nat → Int) : List (Nat × Nat) := (List.range n).flatMap fun i => ((List.range n).filter fun j => decide (o i j = some (d j - c i))).map fun j => (i, j)
theorem mem_spots {n : Nat} {o : Pat} {c d : Nat → Int} {i j : Nat} : (i, j) ∈ spots n o c d ↔ i < n ∧ j < n ∧ Tight o c d i j := by
  unfold spots Tight
  rw [List.mem_flatMap]
  constructor
  · rintro ⟨a, ha, h⟩
    obtain ⟨b, hb, e⟩ := List.mem_map.mp h
    obtain ⟨h1, h2⟩ := List.mem_filter.mp hb
    have e1 : a = i := congrArg Prod.fst e
    have e2 : b = j := congrArg Prod.snd e
    subst e1 e2
    exact ⟨List.mem_range.mp ha, List.mem_range.mp h1, of_decide_eq_true h2⟩
  · rintro ⟨hi, hj, h⟩
    exact ⟨i, List.mem_range.mpr hi, List.mem_map.mpr ⟨j, List.mem_filter.mpr ⟨List.mem_range.mpr hj, decide_eq_true h⟩, rfl⟩⟩
theorem lies_on {n : Nat} {o : Pat} {c d : Nat → Int} {l : List Nat} (h : Ch n o l) : (∀ i, i < n → (i, l.getD i 0) ∈ spots n o c d) ↔ TightAll n o c d l :=
  ⟨fun q i hi => (mem_spots.mp (q i hi)).2.2, fun q i hi => mem_spots.mpr ⟨hi, (h.get hi).1, q i hi⟩⟩
/-- the choices on tight spots alone -/
def within (n : Nat) (o : Pat) (c d : Nat → Int) : List (List Nat) := (allC n o n).filter fun l => decide (∀ i, i < n → (i, l.getD i 0) ∈ spots n o c d)
theorem within_best {n : Nat} {o : Pat} {c d : Nat → Int} {W : Int} (hf : Feas n o c d) (hw : Heavy n o W) (e : span n c d = W) : within n o c d = heavies n o W := by
  unfold within heavies
  refine List.filter_congr fun l hl => ?_
  have h := mem_allC.mp hl
  rw [Bool.eq_iff_iff, decide_eq_true_eq, decide_eq_true_eq, lies_on h]
  exact best_tight hf hw h e
theorem within_worse {n : Nat} {o : Pat} {c d : Nat → Int} {W : Int} (hf : Feas n o c d) (hw : Heavy n o W) (e : span n c d ≠ W) : within n o c d = [] := by
  unfold within
  rw [List.filter_eq_nil_iff]
  intro l hl
  have h := mem_allC.mp hl
  rw [decide_eq_true_eq, lies_on h]
  exact worse_tight hf hw h e
theorem heavies_ne {n : Nat} {o : Pat} {W : Int} (hw : Heavy n o W) : heavies n o W ≠ [] := by
  obtain ⟨l, hl, e⟩ := hw.some_
  intro z
  have q : l ∈ heavies n o W := List.mem_filter.mpr ⟨mem_allC.mpr hl, decide_eq_true e⟩
  rw [z] at q
  cases q
/-- best just if some choice lies on tight spots -/
theorem best_iff {n : Nat} {o : Pat} {c d : Nat → Int} {W : Int} (hf : Feas n o c d) (hw : Heavy n o W) : (within n o c d ≠ []) ↔ span n c d = W := by
  constructor
  · intro h
    apply Classical.byContradiction
    intro e
    exact h (within_worse hf hw e)
  · intro e
    rw [within_best hf hw e]
    exact heavies_ne hw
end Hid
/-! Mathematics, 5: offsets raised until nothing is short. -/
namespace Hid
/-- the greatest of a list, 0 without one -/
def lmax : List Int → Int
  | [] => 0
  | [x] => x
  | x :: y :: r => if lmax (y :: r) ≤ x then x else lmax (y :: r)
theorem lmax_mem : ∀ {l : List Int}, l ≠ [] → lmax l ∈ l ∧ ∀ y, y ∈ l → y ≤ lmax l
  | [], h => absurd rfl h
  | [x], _ => ⟨List.mem_singleton.mpr rfl, fun y hy => by rw [List.mem_singleton.mp hy]; exact Int.le_refl _⟩
  | x :: y :: r, _ => by
    have ih := lmax_mem (l := y :: r) (by intro z; cases z)
    show (if lmax (y :: r) ≤ x then x else lmax (y :: r)) ∈ x :: y :: r ∧ ∀ z, z ∈ x :: y :: r → z ≤ (if lmax (y :: r) ≤ x then x else lmax (y :: r))
    by_cases h : lmax (y :: r) ≤ x
    · rw [if_pos h]
      refine ⟨List.mem_cons_self, fun z hz => ?_⟩
      rcases List.mem_cons.mp hz with e | e
      · rw [e]; exact Int.le_refl _
      · exact Int.le_trans (ih.2 z e) h
    · rw [if_neg h]
      refine ⟨List.mem_cons_of_mem _ ih.1, fun z hz => ?_⟩
      rcases List.mem_cons.mp hz with e | e
      · rw [e]; omega
      · exact ih.2 z e
theorem lmax_of {l : List Int} {m : Int} (h : m ∈ l) (hle : ∀ y, y ∈ l → y ≤ m) : m = lmax l := by
  have hne : l ≠ [] := fun e => by rw [e] at h; cases h
  obtain ⟨h1, h2⟩ := lmax_mem hne
  have a := hle _ h1
  have b := h2 _ h
  omega
/-- what unknown j must be settled up to -/
def topL (n : Nat) (o : Pat) (c : Nat → Int) (j : Nat) : List Int := (List.range n).filterMap fun i => (o i j).map fun w => w + c i
def topF (n : Nat) (o : Pat) (c : Nat → Int) (j : Nat) : Int := lmax (topL n o c j)
theorem mem_topL {n : Nat} {o : Pat} {c : Nat → Int} {j : Nat} {x : Int} : x ∈ topL n o c j ↔ ∃ i, i < n ∧ ∃ w, o i j = some w ∧ x = w + c i := by
  unfold topL
  rw [List.mem_filterMap]
  constructor
  · rintro ⟨i, hi, h⟩
    cases e : o i j with
    | none =>
      rw [e] at h
      cases h
    | some w =>
      rw [e] at h
      exact ⟨i, List.mem_range.mp hi, w, e, (Option.some.inj h).symm⟩
  · rintro ⟨i, hi, w, e, rfl⟩
    exact ⟨i, List.mem_range.mpr hi, by rw [e]; rfl⟩
/-- the times grown, next -/
def nxt (n : Nat) (o : Pat) (l : List Nat) (c : Nat → Int) : Nat → Int := fun i => topF n o c (l.getD i 0) - val o i (l.getD i 0)
section
variable {n : Nat} {o : Pat} {l : List Nat} {c d u v : Nat → Int}
theorem val_of {i j : Nat} {w : Int} (h : o i j = some w) : val o i j = w := by
  unfold val
  rw [h]
  rfl
/-- each unknown is mentioned by the equation that has chosen it -/
theorem ch_inv (h : Ch n o l) {j : Nat} (hj : j < n) : ∃ i, i < n ∧ l.getD i 0 = j := by
  have q := all_of h.nd h.lt h.len j hj
  obtain ⟨i, hi⟩ := List.getElem?_of_mem q
  have z := (List.getElem?_eq_some_iff.mp hi).1
  exact ⟨i, by rw [← h.len]; exact z, by rw [List.getD_eq_getElem?_getD, hi]; rfl⟩
theorem topL_ne (h : Ch n o l) {j : Nat} (hj : j < n) : topL n o c j ≠ [] := by
  obtain ⟨i, hi, e⟩ := ch_inv h hj
  have q := h.at_ i hi
  rw [e] at q
  cases z : o i j with
  | none => exact absurd z q
  | some w =>
    intro y
    have m : w + c i ∈ topL n o c j := mem_topL.mpr ⟨i, hi, w, z, rfl⟩
    rw [y] at m
    cases m
theorem top_le (h : Ch n o l) {i j : Nat} (hi : i < n) (hj : j < n) {w : Int} (e : o i j = some w) : w + c i ≤ topF n o c j :=
  (lmax_mem (topL_ne h hj)).2 _ (mem_topL.mpr ⟨i, hi, w, e, rfl⟩)
theorem top_at (h : Ch n o l) {j : Nat} (hj : j < n) : ∃ i, i < n ∧ ∃ w, o i j = some w ∧ topF n o c j = w + c i :=
  mem_topL.mp (lmax_mem (topL_ne h hj)).1
theorem ch_val (h : Ch n o l) {i : Nat} (hi : i < n) : o i (l.getD i 0) = some (val o i (l.getD i 0)) := by
  cases e : o i (l.getD i 0) with
  | none => exact absurd e (h.at_ i hi)
  | some w => rw [val_of e]
theorem le_nxt (h : Ch n o l) {i : Nat} (hi : i < n) : c i ≤ nxt n o l c i := by
  have q := top_le (c := c) h hi (h.get hi).1 (ch_val h hi)
  unfold nxt
  omega
theorem nxt_mono (h : Ch n o l) (hcd : ∀ i, i < n → c i ≤ d i) {i : Nat} (hi : i < n) : nxt n o l c i ≤ nxt n o l d i := by
  obtain ⟨a, ha, w, e, q⟩ := top_at (c := c) h (h.get hi).1
  have z := top_le (c := d) h ha (h.get hi).1 e
  have y := hcd a ha
  unfold nxt
  omega
/-- one step leads on by an equation, never above best offsets u, v -/
theorem nxt_pred (h : Ch n o l) (hf : Feas n o u v) (ht : TightAll n o u v l) {i : Nat} (hi : i < n) :
    ∃ a, a < n ∧ (∀ d : Nat → Int, d a - c a ≤ nxt n o l d i - nxt n o l c i) ∧ nxt n o l c i - u i ≤ c a - u a := by
  obtain ⟨a, ha, w, e, q⟩ := top_at (c := c) h (h.get hi).1
  refine ⟨a, ha, fun d => ?_, ?_⟩
  · have z := top_le (c := d) h ha (h.get hi).1 e
    unfold nxt
    omega
  · have f := hf a ha _ (h.get hi).1 w e
    have g : o i (l.getD i 0) = some (v (l.getD i 0) - u i) := ht i hi
    have k := val_of g
    unfold nxt
    omega
/-- never more than M above best offsets -/
theorem nxt_bound (h : Ch n o l) (hf : Feas n o u v) (ht : TightAll n o u v l) {M : Int} (hM : ∀ i, i < n → c i ≤ u i + M) {i : Nat} (hi : i < n) : nxt n o l c i ≤ u i + M := by
  obtain ⟨a, ha, _, q⟩ := nxt_pred (c := c) h hf ht hi
  have z := hM a ha
  omega
theorem nxt_feas (h : Ch n o l) (e : ∀ i, i < n → nxt n o l c i = c i) : Feas n o c (topF n o c) := fun i hi j hj w hw => by
  have q := top_le (c := c) h hi hj hw
  omega
theorem top_nonneg (h : Ch n o l) (hc : ∀ i, i < n → 0 ≤ c i) (ho : ∀ i j w, o i j = some w → 0 ≤ w) {j : Nat} (hj : j < n) : 0 ≤ topF n o c j := by
  obtain ⟨a, ha, w, e, q⟩ := top_at (c := c) h hj
  have z := hc a ha
  have y := ho a j w e
  omega

/-! ### so many steps are enough -/
def it (n : Nat) (o : Pat) (l : List Nat) (c : Nat → Int) : Nat → Nat → Int
  | 0 => c
  | m + 1 => nxt n o l (it n o l c m)
theorem it_up (h : Ch n o l) {m m' : Nat} (hm : m ≤ m') {i : Nat} (hi : i < n) : it n o l c m i ≤ it n o l c m' i := by
  induction hm with
  | refl => exact Int.le_refl _
  | step _ ih => exact Int.le_trans ih (le_nxt h hi)
theorem it_chain (h : Ch n o l) (hf : Feas n o u v) (ht : TightAll n o u v l) : ∀ (m i : Nat), i < n → it n o l c m i < it n o l c (m + 1) i →
    ∃ L : List Nat, L.Nodup ∧ L.length = m + 1 ∧ ∀ x, x ∈ L → x < n ∧ ∃ s, s ≤ m + 1 ∧ it n o l c (m + 1) i - u i ≤ it n o l c s x - u x
  | 0, i, hi, _ => ⟨[i], by simp, rfl, fun x hx => by
      rw [List.mem_singleton.mp hx]
      exact ⟨hi, 1, Nat.le_refl _, Int.le_refl _⟩⟩
  | m + 1, i, hi, hlt => by
    obtain ⟨a, ha, q1, q2⟩ := nxt_pred (c := it n o l c (m + 1)) h hf ht hi
    have q3 := q1 (it n o l c m)
    have e1 : it n o l c (m + 2) i = nxt n o l (it n o l c (m + 1)) i := rfl
    have e2 : it n o l c (m + 1) i = nxt n o l (it n o l c m) i := rfl
    have e3 : it n o l c (m + 1 + 1) i = nxt n o l (it n o l c (m + 1)) i := rfl
    obtain ⟨L, h1, h2, h3⟩ := it_chain h hf ht m a ha (by omega)
    have hi' : i ∉ L := fun hm => by
      obtain ⟨_, s, hs, z⟩ := h3 i hm
      have y := it_up (c := c) h hs hi
      omega
    refine ⟨i :: L, List.nodup_cons.mpr ⟨hi', h1⟩, by rw [List.length_cons, h2], fun x hx => ?_⟩
    rcases List.mem_cons.mp hx with z | z
    · rw [z]
      exact ⟨hi, m + 2, Nat.le_refl _, Int.le_refl _⟩
    · obtain ⟨h4, s, h5, h6⟩ := h3 x z
      exact ⟨h4, s, by omega, by omega⟩
theorem it_stable (h : Ch n o l) (hf : Feas n o u v) (ht : TightAll n o u v l) {m : Nat} (hm : n ≤ m) {i : Nat} (hi : i < n) : nxt n o l (it n o l c m) i = it n o l c m i := by
  have h1 := le_nxt (c := it n o l c m) h hi
  apply Classical.byContradiction
  intro q
  have hlt : it n o l c m i < it n o l c (m + 1) i := by
    show it n o l c m i < nxt n o l (it n o l c m) i
    omega
  obtain ⟨L, h2, h3, h4⟩ := it_chain (c := c) h hf ht m i hi hlt
  have z := few h2 fun x hx => (h4 x hx).1
  omega
end
end Hid
/-! Rules of our own over the hand layer: a list or a tuple walked, enumerated, zipped; repr; keyword calls; stores by an operator. -/
namespace Hid
open PySem PySem.Spec PyProof.Rows L2

/-! ### a list (false) or a tuple (true) -/
def SqB (T : Bool) (K : PySem.W.Frag) (H : Hp) (a : Addr) (xs : List V) : Prop := match T with
  | true => SqT K H a xs
  | false => SqL K H a xs
def SrcB (T : Bool) (h : Heap) (a : Addr) (items : Array Value) : Prop := match T with
  | true => h.IsTuple a items
  | false => h.IsList a items
def IterB (T : Bool) (h : Heap) (it a : Addr) (i : Nat) : Prop := match T with
  | true => h.IsTupleIter it a i
  | false => h.IsListIter it a i
def objB (T : Bool) (a : Addr) : Obj := match T with
  | true => { cls := .type "tuple_iterator", data := .fields #[.ref a, .int 0 0] }
  | false => { cls := .type "list_iterator", data := .fields #[.ref a, .int 0 0] }
theorem beginsB (T : Bool) (a : Addr) (items : Array Value) : Begins (.ref a) (objB T a) fun h => SrcB T h a items := by
  cases T with
  | true => exact begins_tuple a items
  | false => exact begins_list a items
theorem drawsB (T : Bool) {P : Program} {w : World} {A : Around} (hh : A.handled = none) (it a : Addr) (hne : a ≠ it) (items : Array Value) :
    Draws P w A it [it, a] items.size (fun i v => items[i]? = some v) (fun i h => IterB T h it a i ∧ SrcB T h a items) := by
  cases T with
  | true => exact Draws.tuple hh it a hne items
  | false => exact Draws.list hh it a hne items
theorem iterB_get {T : Bool} {h : Heap} {it a : Addr} {i : Nat} (x : IterB T h it a i) : ∃ o, h.get? it = some o ∧ ∀ v, o.data ≠ .cell v := by
  cases T with
  | true =>
    obtain ⟨o, ho, _, hd⟩ := x
    exact ⟨o, ho, fun v q => by rw [hd] at q; cases q⟩
  | false =>
    obtain ⟨o, ho, _, hd⟩ := x
    exact ⟨o, ho, fun v q => by rw [hd] at q; cases q⟩
theorem iterB_at {T : Bool} {h h' : Heap} {it a : Addr} {i : Nat} (x : IterB T h it a i) (k : ∀ o, h.get? it = some o → h'.get? it = some o) : IterB T h' it a i := by
  cases T with
  | true =>
    have y : h.IsTupleIter it a i := x
    exact y.at k
  | false =>
    have y : h.IsListIter it a i := x
    exact y.at k
theorem iterB_new {T : Bool} {h : Heap} {it a : Addr} (e : h.get? it = some (objB T a)) : IterB T h it a 0 := by
  cases T with
  | true => exact ⟨_, e, rfl, rfl⟩
  | false => exact ⟨_, e, rfl, rfl⟩
section
variable {X : Cx} {pins : List (Addr × Obj)} {σ : L2.St} {H : Hp} {s : Shared} {a : Addr} {xs ys : List V} {T : Bool}
theorem srcB (I : Inv X pins σ H s) (h : SqB T X.K H a xs) : ∃ its : List Value, Vals xs its ∧ SrcB T s.heap a its.toArray ∧ xs.length ≤ sizeLine := by
  cases T with
  | true =>
    obtain ⟨its, rv, p, hz⟩ := I.tuple h
    exact ⟨its, rv, p, hz⟩
  | false =>
    obtain ⟨its, rv, p, hz⟩ := I.list h
    exact ⟨its, rv, p.isList, hz⟩
theorem srcB_lt {h : Heap} {items : Array Value} (x : SrcB T h a items) : a < h.objs.size := by
  cases T with
  | true =>
    have y : h.IsTuple a items := x
    obtain ⟨o, ho, _⟩ := y
    exact Heap.lt_size ho
  | false =>
    have y : h.IsList a items := x
    obtain ⟨o, ho, _⟩ := y
    exact Heap.lt_size ho
theorem injB (I : Inv X pins σ H s) (h : SqB T X.K H a xs) (h' : SqB T X.K H a ys) : xs = ys := by
  cases T with
  | true => exact I.tuple_inj h h'
  | false => exact I.list_inj h h'
end

/-! ### for x in xs -/
def ItB (T : Bool) (K : PySem.W.Frag) (a : Addr) : It := match T with
  | true => Itt K a
  | false => Itl K a
theorem walkB {T : Bool} {K : PySem.W.Frag} {a : Addr} {xs : List V} : Walk (ItB T K a) xs.length (fun H => SqB T K H a xs) (YAt xs) := by
  cases T with
  | true => exact walk_tup
  | false => exact walk_list
def iSeqB (K : PySem.W.Frag) (tl : TE) : TI := fun σ H R => tl σ H fun x H1 => ∃ (T : Bool) (a : Addr) (xs : List V), x = .ref a ∧ SqB T K H1 a xs ∧ R (ItB T K a) H1
theorem pi_seqB {X : Cx} {tg l : Expr} {tl : TE} (hl : PE X l tl) : PI X tg l (iSeqB X.K tl) := by
  refine ⟨fun pins s σ H R I h => ?_⟩
  refine thn (hl.run pins s σ H _ I h) fun v s1 ⟨x, H1, I1, r1, q1⟩ => ?_
  obtain ⟨T, a, xs, e, hq, q⟩ := q1
  subst e
  cases r1
  have new : ∀ b, b ∈ [s1.heap.objs.size] → FpOk X pins H1 b := fun b hb => by
    have e : b = s1.heap.objs.size := by simpa using hb
    subst e
    exact I1.fpOk (Nat.le_refl _) (I1.hok.fresh (Nat.le_refl _))
  cases T with
  | true =>
    obtain ⟨its, rv, p, hz⟩ := I1.tuple hq
    refine wpAny_pyIter_tuple (show s1.heap.IsTuple a its.toArray from p) ?_
    exact ⟨s1.heap.objs.size, [s1.heap.objs.size], _, _, H1, rfl, I1.kept (t' := s1.toks) fun b o e => Heap.get?_push_of_some _ e, turn_tuple a _, ⟨_, Heap.get?_push_size _ rfl, rfl, rfl⟩, new, q⟩
  | false =>
    obtain ⟨its, rv, p, hz⟩ := I1.list hq
    refine wpAny_pyIter_list p.isList ?_
    exact ⟨s1.heap.objs.size, [s1.heap.objs.size], _, _, H1, rfl, I1.kept (t' := s1.toks) fun b o e => Heap.get?_push_of_some _ e, turn_list a _, ⟨_, Heap.get?_push_size _ rfl, rfl, rfl⟩, new, q⟩

/-! ### enumerate -/
def IteB (T : Bool) (K : PySem.W.Frag) (a : Addr) : It :=
  ⟨fun i H => ∃ (xs : List V) (x : V), SqB T K H a xs ∧ xs[i]? = some x,
    fun i H v H' => ∃ p x, v = .ref p ∧ H p = none ∧ H' = upd H p (.tup [.int (i : Nat), x]) ∧ ∀ xs, SqB T K H a xs → xs[i]? = some x,
    fun i H => ∃ xs : List V, SqB T K H a xs ∧ xs.length = i⟩
theorem turn_enumB {T : Bool} {P : Program} {w : World} {K : PySem.W.Frag} {elts : List Expr} {kk : Nat} {tpos : Pos} (a e it : Addr) (hei : e ≠ it) (hae : a ≠ e) (hai : a ≠ it) :
    Turn P w K (.Tuple elts kk tpos) (IteB T K a) [e, it] e (fun i h => (∃ old, IsEnum h e it (0 + (i : Int)) old) ∧ IterB T h it a i) where
  mem := by simp
  obj := fun i h st b hb => by
    obtain ⟨⟨old, he⟩, hit⟩ := st
    have e' : b = e ∨ b = it := by simpa using hb
    rcases e' with z | z
    · rw [z]; exact ⟨_, he, fun v q => nomatch q⟩
    · rw [z]; exact iterB_get hit
  keep := fun i h h' st k => by
    obtain ⟨⟨old, he⟩, hit⟩ := st
    exact ⟨⟨old, k e (by simp) _ he⟩, iterB_at hit fun o q => k it (by simp) o q⟩
  item := by
    intro X hP hw hK hc i pins s σ H E I hf st hg
    subst hP hw hK
    obtain ⟨⟨old, he⟩, hit⟩ := st
    obtain ⟨xs, x, hq, hx⟩ := hg
    obtain ⟨its, rv, p, hz⟩ := srcB I hq
    obtain ⟨u, hu, ru⟩ := rv.get hx
    have hil : i < its.toArray.size := by
      have q := (List.getElem?_eq_some_iff.mp hu).1
      simpa using q
    have hef : e ∉ [it, a] := by
      simp only [List.mem_cons, List.not_mem_nil, or_false, not_or]
      exact ⟨hei, fun z => hae z.symm⟩
    have W := GoesN.enumFrom (prog := X.prog) (w := X.w) (A := X.A) (elts := elts) (x1 := kk) (pos := tpos) 0 (drawsB T (P := X.prog) (w := X.w) (A := X.A.in1) (I.ok.hd hc) it a hai its.toArray) e hei hef (by simp)
    refine thn (W.goes i s (fun v s2 => ∃ x H', Inv X pins σ H' s2 ∧ RelV x v ∧ (IteB T X.K a).yld i H x H' ∧ ((∃ old, IsEnum s2.heap e it (0 + ((i + 1 : Nat) : Int)) old) ∧ IterB T s2.heap it a (i + 1)) ∧ ∀ b ∈ [e, it], H' b = none) E hil ⟨⟨old, he⟩, hit, p⟩ ?_) fun r s1 q => q
    rintro v h' tk ⟨p', t, x', rfl, hge, hP, hTup⟩ ⟨he', hit', _⟩ hk _
    have ex : x' = u := by
      rw [show its.toArray[i]? = its[i]? by simp, hu] at hP
      exact (Option.some.inj hP).symm
    subst ex
    obtain ⟨o, ho, hoc, n, hod⟩ := hTup
    have new : ObjOk X.prog X.w (upd H p' (.tup [.int (i : Nat), x])) h' p' (.tup [.int (i : Nat), x]) :=
      ⟨by show 2 ≤ sizeLine; decide, [.int (0 + (i : Int)) t, x'], .cons ⟨t, by rw [Int.zero_add]⟩ (.cons ru .nil), ⟨o, ho, hoc, n, hod⟩⟩
    have I1 : Inv X pins σ (upd H p' (.tup [.int (i : Nat), x])) { s with heap := h', toks := tk } :=
      I.turnedNew (ch := [e, it]) (fun b ob hb q => hk b ob hb q) hf hge new
    refine ⟨.ref p', _, I1, rfl, ⟨p', x, rfl, I.hok.fresh hge, rfl, fun ys hy => by rw [injB I hy hq]; exact hx⟩, ⟨he', hit'⟩, fun b hb => ?_⟩
    have hb' : b < s.heap.objs.size := by
      have e' : b = e ∨ b = it := by simpa using hb
      rcases e' with z | z
      · rw [z]; exact Heap.lt_size he
      · rw [z]
        obtain ⟨o, ho, _⟩ := iterB_get hit
        exact Heap.lt_size ho
    rw [upd_ne (Nat.ne_of_lt (Nat.lt_of_lt_of_le hb' hge))]
    exact (hf b hb).1
  done := by
    intro X hP hw hK hc i pins s σ H E I hf st hg
    subst hP hw hK
    obtain ⟨⟨old, he⟩, hit⟩ := st
    obtain ⟨xs, hq, hx⟩ := hg
    obtain ⟨its, rv, p, hz⟩ := srcB I hq
    have hl : i = its.toArray.size := by
      have q := rv.length
      simp only [List.size_toArray]
      omega
    subst hl
    have hef : e ∉ [it, a] := by
      simp only [List.mem_cons, List.not_mem_nil, or_false, not_or]
      exact ⟨hei, fun z => hae z.symm⟩
    have W := GoesN.enumFrom (prog := X.prog) (w := X.w) (A := X.A) (elts := elts) (x1 := kk) (pos := tpos) 0 (drawsB T (P := X.prog) (w := X.w) (A := X.A.in1) (I.ok.hd hc) it a hai its.toArray) e hei hef (by simp)
    exact W.stops s (fun s1 => Inv X pins σ H s1) E ⟨⟨old, he⟩, hit, p⟩ fun h' tk hk _ => I.turnedL (ch := [e, it]) (fun b o hb q => hk b o hb q) hf
  self := fun A i s Q E st h => by
    obtain ⟨⟨_, he⟩, _⟩ := st
    exact wpAny_pyIter_enum he h
theorem walk_enumB {T : Bool} {K : PySem.W.Frag} {a : Addr} {xs : List V} : Walk (IteB T K a) xs.length (fun H => SqB T K H a xs) (YPair (fun i => some (.int (i : Nat))) (fun i => xs[i]?)) := by
  refine ⟨fun i _ hi q => ⟨xs, xs[i], q, by simp [hi]⟩, fun _ q => ⟨xs, q, rfl⟩, fun i H v H' _ q y => ?_⟩
  obtain ⟨p, x, h1, h2, h3, h4⟩ := y
  exact ⟨p, .int (i : Nat), x, h1, h2, h3, rfl, h4 xs q⟩
def iEnumB (K : PySem.W.Frag) (ta : TA) : TI := fun σ H R => ta σ H fun vs H1 => ∃ (T : Bool) (a : Addr) (xs : List V), vs = [.ref a] ∧ SqB T K H1 a xs ∧ R (IteB T K a) H1
set_option maxHeartbeats 1000000 in
/-- enumerate(v), one argument, over anything whose iterator begins so -/
theorem enum_makes {v : Value} {o : Obj} {Hh : Heap → Prop} (B : Begins v o Hh) :
    Meets (Builtin.«enumerate.__new__» ⟨[.type "enumerate", v], []⟩) (fun _ R s => Hh s.heap ∧
      R (.ok (.ret (.ref (s.heap.push o).objs.size))) { s with heap := (s.heap.push o).push { cls := .type "enumerate", data := .fields #[.none, .bool false, .ref s.heap.objs.size, rawInt 0, .none, .none] } }) :=
  .of_wp fun prog w A R s h => by
    obtain ⟨hp, gs, dr, tk, os⟩ := s
    obtain ⟨h1, h⟩ := h
    have hsub := sub_enumerate
    have begun : ∀ {A' : Around} {E : Value → Shared → Prop} {Q : Value → Shared → Prop}, Q (.ref hp.objs.size) ⟨hp.push o, gs, dr, tk, os⟩ → wpAny (model prog w) A' (pyIter v) Q E ⟨hp, gs, dr, tk, os⟩ :=
      fun q => B.iter prog w _ _ ⟨hp, gs, dr, tk, os⟩ _ h1 q
    wp_walk using begun
    refine wpAny_stack_any fun st => wpAny_pure ?_
    split
    · rename_i c _ _ _ _ _
      cases (c == Value.type "enumerate")
      · wp_walk using begun
        exact ⟨_, rfl, h⟩
      · wp_walk using begun
        exact ⟨_, rfl, h⟩
    · wp_walk using begun
      exact ⟨_, rfl, h⟩
theorem enumB_runs {T : Bool} {P : Program} {w : World} {A : Around} {E : Value → Shared → Prop} {s : Shared} {a : Addr} {items : Array Value} {Q : Value → Shared → Prop} (h1 : SrcB T s.heap a items)
    (h : ∀ h', IsEnum h' (s.heap.objs.size + 1) s.heap.objs.size 0 .none → IterB T h' s.heap.objs.size a 0 → (∀ b o, s.heap.get? b = some o → h'.get? b = some o) → Q (.ref (s.heap.objs.size + 1)) { s with heap := h' }) :
    wpAny (model P w) A (call (.type "enumerate") [.ref a]) Q E s := by
  refine callType_new F.called_enumerate (by decide) (F.typeCall_enumerate_1 _) (F.newCall_enumerate_1 _) (fun obj => F.args_object_init_2 obj _) F.entry_enumerate_new (enum_makes (beginsB T a items)) ⟨h1, ?_⟩
  have free : (objB T a).isFreed = false := (beginsB T a items).free
  have hz : (s.heap.push (objB T a)).objs.size = s.heap.objs.size + 1 := Heap.size_push ..
  have at1 := Heap.get?_push_size (s.heap.push (objB T a)) (o := { cls := .type "enumerate", data := .fields #[.none, .bool false, .ref s.heap.objs.size, rawInt 0, .none, .none] }) rfl
  rw [hz] at at1
  show _ ∧ _
  rw [hz]
  exact ⟨⟨_, at1, rfl⟩, h _ at1 (iterB_new (Heap.get?_push_of_some _ (Heap.get?_push_size _ free))) fun b ob x => Heap.get?_push_of_some _ (Heap.get?_push_of_some _ x)⟩
theorem pi_enumB {X : Cx} {e : Expr} {ta : TA} {p pos tpos : Pos} {elts : List Expr} {kk : Nat} (hg : Gl X "enumerate") (hm : X.mg "enumerate" = none) (ha : PA X [e] ta) (hs : starEach [e] X.env = [(false, eval e X.env)] := by rfl) :
    PI X (.Tuple elts kk tpos) (.Call (.Name "enumerate" p) [e] [] pos) (iEnumB X.K ta) := by
  refine ⟨fun pins s σ H R I h => ?_⟩
  refine Call_ (ld_blt I hg hm boot_enumerate (PyProof.Rows.callWith_type1 (thn (ha.run pos pins s σ H _ I h) fun us s1 ⟨vs, H1, I1, r1, q1⟩ => ?_) hs rfl))
  obtain ⟨T, a, xs, ex, hq, q⟩ := q1
  subst ex
  cases r1 with
  | cons r rr =>
    cases rr
    cases r
    obtain ⟨its, rv, p', hz⟩ := srcB I1 hq
    have hal : a < s1.heap.objs.size := srcB_lt p'
    refine enumB_runs p' fun h' he hit hk => wpAny_pyIter_enum he ?_
    have I2 : Inv X pins σ H1 { s1 with heap := h' } := I1.kept (t' := s1.toks) hk
    refine ⟨s1.heap.objs.size + 1, [s1.heap.objs.size + 1, s1.heap.objs.size], _, _, H1, rfl, I2,
      turn_enumB a (s1.heap.objs.size + 1) s1.heap.objs.size (Nat.succ_ne_self _) (Nat.ne_of_lt (Nat.lt_succ_of_lt hal)) (Nat.ne_of_lt hal), ⟨⟨.none, he⟩, hit⟩, fun b hb => ?_, q⟩
    have e' : b = s1.heap.objs.size + 1 ∨ b = s1.heap.objs.size := by simpa using hb
    have hle : s1.heap.objs.size ≤ b := by
      rcases e' with z | z
      · rw [z]; exact Nat.le_add_right _ _
      · rw [z]; exact Nat.le_refl _
    exact I1.fpOk hle (I1.hok.fresh hle)
end Hid
/-! Rules of our own, further: zip of a list or a tuple each; xs[i] op= e; calls by keywords alone; in over tuples of tuples. -/
namespace Hid
open PySem PySem.Spec PyProof.Rows L2

/-! ### zip(xs, ys), each a list or a tuple -/
def ItzB (T U : Bool) (K : PySem.W.Frag) (a b : Addr) : It :=
  ⟨fun i H => ∃ (xs ys : List V) (x y : V), SqB T K H a xs ∧ SqB U K H b ys ∧ xs[i]? = some x ∧ ys[i]? = some y,
    fun i H v H' => ∃ p x y, v = .ref p ∧ H p = none ∧ H' = upd H p (.tup [x, y]) ∧ (∀ xs, SqB T K H a xs → xs[i]? = some x) ∧ ∀ ys, SqB U K H b ys → ys[i]? = some y,
    fun i H => ∃ xs ys : List V, SqB T K H a xs ∧ SqB U K H b ys ∧ i = min xs.length ys.length⟩
theorem turn_zipB {T U : Bool} {P : Program} {w : World} {K : PySem.W.Frag} {elts : List Expr} {kk : Nat} {tpos : Pos} {a b z TI TO i1 i2 : Addr} (S : ZipSep2 z TI TO i1 i2 [i1, a] [i2, b]) (ha : a ≠ i1) (hb : b ≠ i2) :
    Turn P w K (.Tuple elts kk tpos) (ItzB T U K a b) [z, TI, TO, i1, i2] z
      (fun i h => IsZip h z TI TO .none ∧ IsTupOf2 h TI (.ref i1) (.ref i2) ∧ (∃ a1 a2, IsTupOf2 h TO a1 a2) ∧ IterB T h i1 a i ∧ IterB U h i2 b i) where
  mem := by simp
  obj := fun i h st c hc => by
    obtain ⟨hz, hTI, ⟨x, y, hTO⟩, h1, h2⟩ := st
    have e' : c = z ∨ c = TI ∨ c = TO ∨ c = i1 ∨ c = i2 := by simpa using hc
    rcases e' with q | q | q | q | q
    · rw [q]; exact ⟨_, hz, fun v q => nomatch q⟩
    · rw [q]; exact ⟨_, hTI, fun v q => nomatch q⟩
    · rw [q]; exact ⟨_, hTO, fun v q => nomatch q⟩
    · rw [q]; exact iterB_get h1
    · rw [q]; exact iterB_get h2
  keep := fun i h h' st k => by
    obtain ⟨hz, hTI, ⟨x, y, hTO⟩, h1, h2⟩ := st
    exact ⟨k z (by simp) _ hz, k TI (by simp) _ hTI, ⟨x, y, k TO (by simp) _ hTO⟩, iterB_at h1 fun o q => k i1 (by simp) o q, iterB_at h2 fun o q => k i2 (by simp) o q⟩
  item := by
    intro X hP hw hK hc i pins s σ H E I hf st hg
    subst hP hw hK
    obtain ⟨hz, hTI, hTO, h1, h2⟩ := st
    obtain ⟨xs, ys, x, y, hqx, hqy, hx, hy⟩ := hg
    obtain ⟨its, rv, p1, _⟩ := srcB I hqx
    obtain ⟨its2, rv2, p2, _⟩ := srcB I hqy
    obtain ⟨u, hu, ru⟩ := rv.get hx
    obtain ⟨u2, hu2, ru2⟩ := rv2.get hy
    have l1 := (List.getElem?_eq_some_iff.mp hu).1
    have l2 := (List.getElem?_eq_some_iff.mp hu2).1
    have hin : i < min its.toArray.size its2.toArray.size := by
      simp only [List.size_toArray]
      omega
    have W := GoesN.zip2 (elts := elts) (x1 := kk) (pos := tpos) (A := X.A) S (drawsB T (P := X.prog) (w := X.w) (A := X.A.in1) (I.ok.hd hc) i1 a ha its.toArray) (drawsB U (P := X.prog) (w := X.w) (A := X.A.in1) (I.ok.hd hc) i2 b hb its2.toArray)
    refine thn (W.goes i s (fun v s2 => ∃ x H', Inv X pins σ H' s2 ∧ RelV x v ∧ (ItzB T U X.K a b).yld i H x H' ∧
      (IsZip s2.heap z TI TO .none ∧ IsTupOf2 s2.heap TI (.ref i1) (.ref i2) ∧ (∃ a1 a2, IsTupOf2 s2.heap TO a1 a2) ∧ IterB T s2.heap i1 a (i + 1) ∧ IterB U s2.heap i2 b (i + 1)) ∧ ∀ c ∈ [z, TI, TO, i1, i2], H' c = none) E hin ⟨hz, hTI, hTO, ⟨h1, p1⟩, ⟨h2, p2⟩⟩ ?_) fun r s1 q => q
    rintro v h' tk ⟨p', x', y', rfl, hge, hP1, hP2, hTup⟩ ⟨hz', hTI', hTO', ⟨h1', _⟩, ⟨h2', _⟩⟩ hk _
    have ex : x' = u := by
      rw [show its.toArray[i]? = its[i]? by simp, hu] at hP1
      exact (Option.some.inj hP1).symm
    have ey : y' = u2 := by
      rw [show its2.toArray[i]? = its2[i]? by simp, hu2] at hP2
      exact (Option.some.inj hP2).symm
    subst ex ey
    obtain ⟨o, ho, hoc, n, hod⟩ := hTup
    have new : ObjOk X.prog X.w (upd H p' (.tup [x, y])) h' p' (.tup [x, y]) :=
      ⟨by show 2 ≤ sizeLine; decide, [x', y'], .cons ru (.cons ru2 .nil), ⟨o, ho, hoc, n, hod⟩⟩
    have I1 : Inv X pins σ (upd H p' (.tup [x, y])) { s with heap := h', toks := tk } :=
      I.turnedNew (ch := [z, TI, TO, i1, i2]) (fun c ob hcm q => hk c ob (fun hm => hcm (by
        have e' : c = z ∨ c = TO ∨ c = i1 ∨ c = i2 := by simpa using hm
        rcases e' with r | r | r | r <;> simp [r])) q) hf hge new
    refine ⟨.ref p', _, I1, rfl, ⟨p', x, y, rfl, I.hok.fresh hge, rfl, fun l hl => by rw [injB I hl hqx]; exact hx, fun l hl => by rw [injB I hl hqy]; exact hy⟩, ⟨hz', hTI', hTO', h1', h2'⟩, fun c hcm => ?_⟩
    have hlt : c < s.heap.objs.size := by
      obtain ⟨_, _, hTO⟩ := hTO
      have e' : c = z ∨ c = TI ∨ c = TO ∨ c = i1 ∨ c = i2 := by simpa using hcm
      rcases e' with q | q | q | q | q
      · rw [q]; exact Heap.lt_size hz
      · rw [q]; exact Heap.lt_size hTI
      · rw [q]; exact Heap.lt_size hTO
      · rw [q]
        obtain ⟨_, e1, _⟩ := iterB_get h1
        exact Heap.lt_size e1
      · rw [q]
        obtain ⟨_, e2, _⟩ := iterB_get h2
        exact Heap.lt_size e2
    rw [upd_ne (Nat.ne_of_lt (Nat.lt_of_lt_of_le hlt hge))]
    exact (hf c hcm).1
  done := by
    intro X hP hw hK hc i pins s σ H E I hf st hg
    subst hP hw hK
    obtain ⟨hz, hTI, hTO, h1, h2⟩ := st
    obtain ⟨xs, ys, hqx, hqy, hend⟩ := hg
    obtain ⟨its, rv, p1, _⟩ := srcB I hqx
    obtain ⟨its2, rv2, p2, _⟩ := srcB I hqy
    have hl : i = min its.toArray.size its2.toArray.size := by
      have q1 := rv.length
      have q2 := rv2.length
      simp only [List.size_toArray]
      omega
    subst hl
    have W := GoesN.zip2 (elts := elts) (x1 := kk) (pos := tpos) (A := X.A) S (drawsB T (P := X.prog) (w := X.w) (A := X.A.in1) (I.ok.hd hc) i1 a ha its.toArray) (drawsB U (P := X.prog) (w := X.w) (A := X.A.in1) (I.ok.hd hc) i2 b hb its2.toArray)
    exact W.stops s (fun s1 => Inv X pins σ H s1) E ⟨hz, hTI, hTO, ⟨h1, p1⟩, ⟨h2, p2⟩⟩ fun h' tk hk _ => I.turnedL (ch := [z, TI, TO, i1, i2]) (fun c ob hcm q => hk c ob (fun hm => hcm (by
        have e' : c = z ∨ c = TO ∨ c = i1 ∨ c = i2 := by simpa using hm
        rcases e' with r | r | r | r <;> simp [r])) q) hf
  self := fun A i s Q E st h => wpAny_pyIter_zip st.1 h
theorem walk_zipB {T U : Bool} {K : PySem.W.Frag} {a b : Addr} {xs ys : List V} {n : Nat} (hn : n = min xs.length ys.length) :
    Walk (ItzB T U K a b) n (fun H => SqB T K H a xs ∧ SqB U K H b ys) (YPair (fun i => xs[i]?) (fun i => ys[i]?)) := by
  subst hn
  refine ⟨fun i _ hi q => ?_, fun _ q => ⟨xs, ys, q.1, q.2, rfl⟩, fun i H v H' _ q y => ?_⟩
  · have h1 : i < xs.length := by omega
    have h2 : i < ys.length := by omega
    exact ⟨xs, ys, xs[i], ys[i], q.1, q.2, by simp [h1], by simp [h2]⟩
  · obtain ⟨p, x, z, h1, h2, h3, h4, h5⟩ := y
    exact ⟨p, x, z, h1, h2, h3, h4 xs q.1, h5 ys q.2⟩
def iZipB (K : PySem.W.Frag) (ta : TA) : TI := fun σ H R => ta σ H fun vs H1 => ∃ (T U : Bool) (a b : Addr) (xs ys : List V), vs = [.ref a, .ref b] ∧ SqB T K H1 a xs ∧ SqB U K H1 b ys ∧ R (ItzB T U K a b) H1
theorem pi_zipB {X : Cx} {e e2 : Expr} {ta : TA} {p pos tpos : Pos} {elts : List Expr} {kk : Nat} (hg : Gl X "zip") (hm : X.mg "zip" = none) (ha : PA X [e, e2] ta)
    (hs : starEach [e, e2] X.env = (false, eval e X.env) :: starEach [e2] X.env := by rfl) (hpl : (backTo pos (starEach [e2] X.env)).any (·.1) = false := by rfl) :
    PI X (.Tuple elts kk tpos) (.Call (.Name "zip" p) [e, e2] [] pos) (iZipB X.K ta) := by
  refine ⟨fun pins s σ H R I h => ?_⟩
  refine Call_ (ld_blt I hg hm PyProof.Rows.boot_zip (PyProof.Rows.callWith_type1 (thn (ha.run pos pins s σ H _ I h) fun us s1 ⟨vs, H1, I1, r1, q1⟩ => ?_) hs hpl))
  obtain ⟨T, U, a, b, xs, ys, ex, hqx, hqy, q⟩ := q1
  subst ex
  cases r1 with
  | cons r rr =>
    cases rr with
    | cons r' rr =>
      cases rr
      cases r
      cases r'
      obtain ⟨its, rv, p1, _⟩ := srcB I1 hqx
      obtain ⟨its2, rv2, p2, _⟩ := srcB I1 hqy
      have al : a < s1.heap.objs.size := srcB_lt p1
      have bl : b < s1.heap.objs.size := srcB_lt p2
      refine zip_begins2 (beginsB T a its.toArray) (beginsB U b its2.toArray) p1 p2 fun h' hz hTI hTO g1 g2 hsz hk => wpAny_pyIter_zip hz ?_
      have I2 : Inv X pins σ H1 { s1 with heap := h' } := I1.kept (t' := s1.toks) hk
      have S := zip_sep2 (N := s1.heap.objs.size) (fp1 := [a]) (fp2 := [b]) (fun c hc => by rw [List.mem_singleton.mp hc]; exact al) (fun c hc => by rw [List.mem_singleton.mp hc]; exact bl)
      refine ⟨s1.heap.objs.size + 4, [s1.heap.objs.size + 4, s1.heap.objs.size + 2, s1.heap.objs.size + 3, s1.heap.objs.size, s1.heap.objs.size + 1], _, _, H1, rfl, I2,
        turn_zipB S (Nat.ne_of_lt al) (Nat.ne_of_lt (Nat.lt_succ_of_lt bl)), ⟨hz, hTI, ⟨_, _, hTO⟩, iterB_new g1, iterB_new g2⟩, fun c hcm => ?_, q⟩
      have hle : s1.heap.objs.size ≤ c := by
        have e' : c = s1.heap.objs.size + 4 ∨ c = s1.heap.objs.size + 2 ∨ c = s1.heap.objs.size + 3 ∨ c = s1.heap.objs.size ∨ c = s1.heap.objs.size + 1 := by simpa using hcm
        rcases e' with z | z | z | z | z <;> rw [z] <;> first | exact Nat.le_add_right _ _ | exact Nat.le_refl _
      exact I1.fpOk hle (I1.hok.fresh hle)

/-! ### xs[i] op= e, xs a list -/
def gGetL (K : PySem.W.Frag) : V → V → Hp → VK → Prop := fun o i H Q => ∃ (p : Addr) (xs : List V) (j : Nat) (v : V), o = .ref p ∧ i = .int (j : Int) ∧ SqL K H p xs ∧ xs[j]? = some v ∧ Q v H
theorem get_list {X : Cx} : PGet X (gGetL X.K) := by
  intro pins s σ H o i ov iv Q I ro ri h
  obtain ⟨p, xs, j, v, rfl, rfl, hq, hv, q⟩ := h
  cases ro
  obtain ⟨t, rfl⟩ := ri
  obtain ⟨its, r, pl, hz⟩ := I.list hq
  obtain ⟨u, hu, ru⟩ := r.get hv
  have hl := r.length
  have hj := (List.getElem?_eq_some_iff.mp hv).1
  have hn := line63
  refine wpAny_getItem_list pl.isList (by omega) (by omega) (x := u) ?_ ⟨v, H, I, ru, q⟩
  simpa using hu

/-! ### f(k = v, ..): keywords alone -/
theorem pe_callK0 {X : Cx} {CX : CXT} {k : Nat} {f : Addr} {fd : FuncData} {ps ks : List Str} {sp : Sp} {E : XK} {x : Str} {p pos : Pos} {kws : List Keyword} {tk : TA} {g : List Value → List Value → List Value} {gV : List V → List V → List V}
    (F : FnOk X.prog X.w X.K X.mg X.base CX k f fd ps sp) (hr : Room k X.A) (hg : Gl X x) (hm : X.mg x = some (.ref f)) (hk : PySem.W.keepIn X.K (.ref f) = true) (hb : KBinds X.K fd ps ks g gV) (hx : Passes CX X E)
    (hkw : PK X kws tk) (hall : (backToKw pos (keywordEach kws X.env)).all (·.1.isSome) = true := by rfl) (hks : (backToKw pos (keywordEach kws X.env)).filterMap (·.1) = ks := by rfl)
    (hdb : (x == ("__debug__" : Str)) = false := by decide) (hpl : (backToKw pos (keywordEach kws X.env)).any (·.1.isNone) = false := by rfl) :
    PE X (.Call (.Name x p) [] kws pos) (tCallK sp gV E tNil tk) := by
  refine ⟨fun pins s σ H Q I h => ?_⟩
  refine wpAny_Call_Name_kw (ld_glob I hg hm ?_ hdb)
  refine PySem.W.callWith_KW0 (h₀ := X.base) I.ok.mod.kin hk hall (thn (hkw.run pos pins s σ H _ I h) fun ws s2 ⟨zs, H2, I2, rz, q2⟩ => ⟨I2.kIn, ?_⟩) (by rw [hpl]; rfl)
  rw [hks]
  exact run_fnk (us := []) (vs := []) F hr hb hx I2 .nil rz q2

/-! ### x not in t, t a tuple of data -/
def rNotInT (K : PySem.W.Frag) : R2 := fun x y H Q => ∃ d ds, Dp K H x d ∧ Dp K H y (.tuple ds) ∧ SeqAt.shaped d = true ∧ SeqAt.shaped (.tuple ds) = true ∧ Q (.bl (!ds.any fun z => PyData.eqv z d)) H
theorem op_notInT {X : Cx} (hu : X.A.units + 65 < cLine) : OpR X (compareOp .NotIn) (rNotInT X.K) := by
  intro pins s σ H x y v u Q I rx ry h
  obtain ⟨d, ds, hd, he, sd, se, q⟩ := h
  obtain ⟨as, r1⟩ := Dp.reads I d x v hd rx
  obtain ⟨bs, r2⟩ := Dp.reads I (.tuple ds) y u he ry
  exact SeqAt.notIn_tuple_reads r2 r1 (SeqAt.canLay_of_shaped se) (SeqAt.canLay_of_shaped sd) (room_in_shaped sd hu) ⟨.bl _, H, I, rfl, q⟩
end Hid
/-! Defs that must know that no repr is under way (guards); repr of data; the law's call. -/
namespace Hid
open PySem PySem.Spec PyProof.Rows L2

/-- a def's promise where no guarded operation is under way -/
structure FnG (P : Program) (w : World) (K : PySem.W.Frag) (mg : Str → Option Value) (base : Heap) (k : Nat) (f : Addr) (sp : Sp) : Prop where
  run : ∀ (A : Around) (outer : List Env) (s : Shared) (H : Hp) (us : List Value) (vs : List V) (Q : VK), Room k A → A.guards = some [] → Env0 P w K mg base A outer s H → Vals vs us → sp vs H Q E0 →
    codeAny (model P w) A (.call (.ref f) ⟨us, []⟩) (CR CX0 outer P w H s Q E0) s

/-- such a def by its body -/
theorem fnG {P : Program} {w : World} {K : PySem.W.Frag} {mg : Str → Option Value} {base : Heap} {k : Nat} {f : Addr} {x qual : Str} {st : Stmt} {fd : FuncData} {N ps : List Str} {sp : Sp} (F : Fun K x qual st f fd) (bb : Binds K fd ps []) (S : FnScope N ps (defScope st))
    (len : ∀ vs H Q E, sp vs H Q E → vs.length = ps.length)
    (body : ∀ (cdv : Value) (A : Around) (outer : List Env) (s : Shared) (H : Hp) (vs : List V) (Q : VK), Room k (A.deeper (envOfC qual (defScope st) s.heap.objs.size f cdv)) → A.guards = some [] → sp vs H Q E0 →
      ∃ t, PSs (cxOf CX0 P w K mg base N qual (defScope st) f cdv A outer s H E0).nox (defBody st) t ∧ t { nx := fun _ H' => Q .non H', rt := Q } (start N vs) H) : FnG P w K mg base (k + 1) f sp := by
  obtain ⟨oc, od, kV, doc, pm, an, cdv, ct, osl, rfl, lk, hcd⟩ := F.ex
  refine ⟨fun A outer s H us vs Q hr hgd e0 r hsp => ?_⟩
  have hl := len _ _ _ _ hsp
  have KX : K.In s.heap := e0.mod.kin.keeps fun b o e => (e0.bs b o e).1
  have nolim : s.heap.NoLimit := e0.mod.nolimit.keeps fun b o e => (e0.bs b o e).1
  have par : ∀ y ∈ ps.zip us, (defScope st).names.lookup y.1 = some .local ∨ ((defScope st).names.lookup y.1 = some .cell ∧ ((cellsFrom (s.heap.objs.size + 1) (defScope st).names []).lookup y.1).isSome = true) := by
    rintro ⟨n, v⟩ hy
    rcases S.par n (List.of_mem_zip hy).1 with q | q
    · exact .inl q
    · exact .inr ⟨q, PySem.W.cellsFrom_some _ _ _ (.inl q)⟩
  have hbd := bb s us KX (by rw [List.append_nil, ← r.length]; exact hl)
  rw [List.append_nil] at hbd
  refine codeAny_call_function hr.depth (KX _ _ lk) rfl S.co S.gen rfl (PySem.W.codeRec_of KX hcd) (hbd _ _ _ _ ?_)
  refine wpAny_newFunctionEnv_cells S.kind par fun env he s1 x => ?_
  subst he
  refine ⟨nolim.keeps x.toInCall.keep, codeAny_func ?_⟩
  obtain ⟨t, ht, hq⟩ := body cdv A outer s H vs Q (hr.deeper _) hgd hsp
  have I : Inv (cxOf CX0 P w K mg base N qual (defScope st) f cdv A outer s H E0) [] (start N vs) H s1 := inv_start S hr.hd e0 hl r x
  refine wpAny_mono (ht.nox.run [] s1 (start N vs) H _ I hq) (fun fl s' hs => ?_) fun e s' hs => hs
  cases fl with
  | ret u =>
    obtain ⟨v, σ', H', J, rv, q⟩ := hs
    exact ⟨v, H', J.os, J.bare, J.base, J.hok, rv, q⟩
  | next =>
    obtain ⟨σ', H', J, q⟩ := hs
    exact ⟨.non, H', J.os, J.bare, J.base, J.hok, rfl, q⟩
  | brk =>
    obtain ⟨_, _, _, q⟩ := hs
    exact q.elim
  | cont =>
    obtain ⟨_, _, _, q⟩ := hs
    exact q.elim

/-- a call of such a def -/
theorem pe_callG {X : Cx} {k : Nat} {f : Addr} {sp : Sp} {x : Str} {p pos : Pos} {e : Expr} {es : List Expr} {t : TA} (F : FnG X.prog X.w X.K X.mg X.base k f sp) (hr : Room k X.A) (hgd : X.A.guards = some []) (hg : Gl X x) (hm : X.mg x = some (.ref f)) (hk : PySem.W.keepIn X.K (.ref f) = true)
    (ha : PA X (e :: es) t) (hdb : (x == ("__debug__" : Str)) = false := by decide) (he : starEach (e :: es) X.env = (false, eval e X.env) :: starEach es X.env := by rfl) (hpl : (backTo pos (starEach es X.env)).any (·.1) = false := by rfl) :
    PE X (.Call (.Name x p) (e :: es) [] pos) (tCall sp [] E0 t) := by
  refine ⟨fun pins s σ H Q I h => ?_⟩
  refine wpAny_Call_Name_kw (ld_glob I hg hm ?_ hdb)
  refine PySem.W.callWith_K (h₀ := X.base) I.ok.mod.kin hk (thn (ha.run pos pins s σ H _ I h) fun us s1 ⟨vs, H1, I1, r, q⟩ => ⟨I1.kIn, ?_⟩) he hpl
  have q : sp (vs ++ []) H1 Q E0 := q
  rw [List.append_nil] at q
  refine wpAny_call (codeAny_mono (F.run X.A X.stack s1 H1 us vs Q hr hgd I1.env0 r q) fun r s' hq => ?_)
  cases r with
  | error e => exact hq.elim
  | ok fl =>
    cases fl with
    | ret u => exact I1.after hq
    | next => exact hq.elim
    | brk => exact hq.elim
    | cont => exact hq.elim

/-! ### repr of data -/
def rReprD (K : PySem.W.Frag) : List V → Hp → VK → Prop := fun xs H Q => ∃ (x : V) (d : PyData), xs = [x] ∧ Dp K H x d ∧ d.showable = true ∧ d.hasDict = false ∧ d.depth ≤ 8 ∧ d.shown.length ≤ sizeLine ∧ Q (.str d.shown) H
theorem call_reprD {X : Cx} (hgd : X.A.guards = some []) (hu : X.A.units + 64 < cLine) : CallR X (.builtin "repr") (rReprD X.K) := by
  intro pins s σ H xs us Q I r h
  obtain ⟨x, d, rfl, hd, hs, hnd, hdp, hsz, q⟩ := h
  obtain ⟨u, rfl, rx⟩ := vals1 r
  have fin : ∀ (h' : Heap) (u' tk : Tok), (∀ b o, s.heap.get? b = some o → h'.get? b = some o) → EP X pins σ Q (.str d.shown u') { s with heap := h', toks := tk } := fun h' u' tk hk => ⟨.str d.shown, H, I.kept hk, ⟨u', rfl⟩, q⟩
  have data : ∀ (a : Addr), x = .ref a → wpAny (model X.prog X.w) X.A (call (.builtin "repr") [u]) (EP X pins σ Q) X.xe s := fun a e => by
    subst e
    cases rx
    obtain ⟨as, rd⟩ := Dp.reads I d _ _ hd rfl
    exact repr_of_reads' rd hs (fun z => by rw [hnd] at z; cases z) hgd (by omega) (fun _ _ e => e) fin hsz
  cases hd with
  | non =>
    cases rx
    exact PySem.P.repr_of_none (fin s.heap _ _ fun _ _ e => e)
  | bl b =>
    cases rx
    exact PySem.P.repr_of_bool (fin s.heap _ _ fun _ _ e => e)
  | int i =>
    obtain ⟨t, rfl⟩ := rx
    exact PySem.P.repr_of_int (by simpa [PyData.showable] using hs) (fin s.heap _ _ fun _ _ e => e)
  | str y =>
    obtain ⟨t, rfl⟩ := rx
    exact PySem.P.repr_of_str (fin s.heap _ _ fun _ _ e => e) hsz
  | lst h1 h2 => exact data _ rfl
  | tup h1 h2 => exact data _ rfl

/-! ### the law's call -/
theorem law_callG {P : Program} {w : World} {K : PySem.W.Frag} {mg mb : Str → Option Value} {k : Nat} {fa a : Addr} {sp : Sp} {s₁ : Shared} {vs : List Value} {ns : List Int}
    (KX : K.In s₁.heap) (hns : s₁.heap.Ns mainGlobals mg) (hb : s₁.heap.Ns builtinsNs mb) (hbb : ∀ x : Str, x ≠ "__name__" → mb x = bootBuiltins x) (hlim : s₁.heap.NoLimit) (hg : s₁.gens = #[])
    (ha : s₁.heap.get? a = some { cls := .type "list", data := .seq vs.toArray }) (hi : IntsAre vs ns) (hl : ns.length ≤ sizeLine) (hr : Room k callerA)
    (F : ∀ base : Heap, K.In base → base.Ns mainGlobals mg → FnG P w K mg base k fa sp)
    (hsp : ∀ H : Hp, SqL K H a (ns.map V.int) → sp [.ref a] H (fun v _ => v = .bl true) E0) :
    codeAny (model P w) callerA (.call (.ref fa) ⟨[.ref a], []⟩) (fun r s' => r = .ok (.ret (.bool true)) ∧ OldK s₁.heap s'.heap ∧ s'.os = s₁.os ∧ AllBare s'.gens) s₁ := by
  have rv := vals_ints hi
  have lenV := hi.length
  -- every abstract heap that tracks the script at most will do
  suffices core : ∀ H : Hp, SqL K H a (ns.map V.int) → HOk P w H s₁.heap → (∀ b u, H b = some u → b = a ∧ (∃ xs, u = .frz { cls := .type "list", data := .seq vs.toArray } (.lst xs)) ∧ K.lookup a = none) →
      codeAny (model P w) callerA (.call (.ref fa) ⟨[.ref a], []⟩) (fun r s' => r = .ok (.ret (.bool true)) ∧ OldK s₁.heap s'.heap ∧ s'.os = s₁.os ∧ AllBare s'.gens) s₁ by
    cases hk : K.lookup a with
    | some o =>
      have e := KX a o hk
      rw [ha] at e
      cases e
      exact core (fun _ => none) (.inr ⟨_, vs.toArray, _, hk, rfl, rfl, rfl, by rw [List.size_toArray, lenV]; exact hl, by simpa using rv⟩) (fun b u z => nomatch (show (none : Option HO) = some u from z)) (fun b u z => nomatch (show (none : Option HO) = some u from z))
    | none =>
      have at_ : ∀ b u, (if b = a then some (HO.frz { cls := .type "list", data := .seq vs.toArray } (.lst (ns.map V.int))) else none) = some u → b = a ∧ u = HO.frz { cls := .type "list", data := .seq vs.toArray } (.lst (ns.map V.int)) := by
        intro b u z
        by_cases hba : b = a
        · rw [if_pos hba] at z
          exact ⟨hba, (Option.some.inj z).symm⟩
        · rw [if_neg hba] at z
          cases z
      refine core (fun b => if b = a then some (.frz { cls := .type "list", data := .seq vs.toArray } (.lst (ns.map V.int))) else none) (.inl (.inr ⟨_, if_pos rfl⟩)) (fun b u z => ?_) (fun b u z => ?_)
      · obtain ⟨rfl, rfl⟩ := at_ b u z
        exact ⟨ha, by rw [List.length_map]; exact hl, vs, _, rv, ha⟩
      · obtain ⟨rfl, rfl⟩ := at_ b u z
        exact ⟨rfl, ⟨_, rfl⟩, hk⟩
  intro H hS hok hA
  have untracked : ∀ {b : Addr} {o : Obj}, s₁.heap.get? b = some o → (b ≠ a ∨ K.lookup b = some o ∨ ∃ es ep, o.data = .dict es ep) → H b = none := fun {b o} e n => by
    cases q : H b with
    | none => rfl
    | some u =>
      obtain ⟨rfl, _, hk⟩ := hA b u q
      rcases n with n | n | ⟨es, ep, n⟩
      · exact absurd rfl n
      · rw [hk] at n
        cases n
      · rw [ha] at e
        cases e
        cases n
  have nsK : ∀ {b : Addr} {m : Str → Option Value}, s₁.heap.Ns b m → (hidT s₁.heap H).Ns b m := fun {b m} ⟨o, es, ep, e, d, r⟩ => ⟨o, es, ep, hidT_get e (untracked e (.inr (.inr ⟨es, ep, d⟩))), d, r⟩
  have hKb : K.In (hidT s₁.heap H) := fun b o e => hidT_get (KX b o e) (untracked (KX b o e) (.inr (.inl e)))
  have hM : Mod K mg (hidT s₁.heap H) := ⟨hKb, nsK hns, ⟨mb, nsK hb, hbb⟩, let ⟨mc, h1, h2⟩ := hlim; ⟨mc, nsK h1, h2⟩⟩
  have e0 : Env0 P w K mg (hidT s₁.heap H) callerA [] s₁ H := ⟨rfl, hM, fun b o e => of_hidT e, Nat.le_of_eq (hidT_size _ _), trivial, fun b hb => absurd (show b ∈ ([] : List Addr) from hb) (by simp), hok, .of_eq hg⟩
  refine codeAny_mono ((F _ hKb (nsK hns)).run callerA [] s₁ H [.ref a] [.ref a] _ hr rfl e0 (.cons rfl .nil) (hsp H hS)) fun r s' h => ?_
  cases r with
  | error e => exact h.elim
  | ok fl =>
    cases fl with
    | next => exact h.elim
    | brk => exact h.elim
    | cont => exact h.elim
    | ret u =>
      obtain ⟨v, H', os, bare, un, hok', r', q⟩ := h
      have q' : v = .bl true := q
      subst q'
      obtain rfl : u = Value.bool true := r'
      refine ⟨rfl, OldK.of_keep fun b o e => ?_, os, bare⟩
      cases q : H b with
      | none => exact un.keep b o e q (by intro z; exact absurd (show b ∈ ([] : List Addr) from z) (by simp)) (by simp)
      | some u =>
        obtain ⟨rfl, ⟨xs, rfl⟩, _⟩ := hA b u q
        obtain ⟨e1, _⟩ := hok b _ q
        obtain ⟨e2, _⟩ := hok' b _ (un.frzs b _ _ q)
        rw [e] at e1
        cases e1
        exact e2

/-- the goal that the head leaves, from the law's promise -/
theorem walkG {l : PySem.W.OpenLaw} {n k : Nat} {q : Program} {loose : List Str} {XP : (Str → Option Value) → Heap → Prop} {YP : World → Heap → Prop} {d : DefRec} {K : Params → PySem.W.Frag} {sp : PySem.W.Frag → Sp}
    (hn : l.most = some n) (hn2 : n ≤ sizeLine) (hdf : d.params.defaults = []) (hr : Room k callerA) (hY : ∀ (w : World) (h : Heap), YP w h → (K w.params).In h)
    (F : ∀ (w : World) (mg : Str → Option Value) (fa : Addr) (h : Heap), (K w.params).In h → h.Ns mainGlobals mg → mg d.name = some (.ref fa) →
      ∀ base : Heap, (K w.params).In base → base.Ns mainGlobals mg → FnG l.prog w (K w.params) mg base k fa (sp (K w.params)))
    (hsp : ∀ (K : PySem.W.Frag) (H : Hp) (a : Addr) (ns : List Int), ns.length ≤ n → SqL K H a (ns.map V.int) → sp K [.ref a] H (fun v _ => v = .bl true) E0) :
    PySem.W.WalkO q loose XP YP l.row.toRowW d [] (fun f vs => PySem.call f vs) := by
  refine Att.attach_call hn hdf fun w s₀ s₁ mg mb fa o pm cd doc a vs ns G Y ho hd hcd hmg hobj hints hlen hg => ?_
  have KX := hY w _ Y
  exact law_callG KX G.T.g G.T.b G.T.builtins G.T.nolimit hg hobj hints (Nat.le_trans hlen hn2) hr (F w mg fa _ KX G.T.g hmg) fun H hS => hsp _ H a ns hlen hS
end Hid
/-! The rules again, the written part named: for comprehensions' blocks (their readings may not name the block). -/
namespace Hid
open PySem PySem.Spec PyProof.Rows L2
section
variable {X : Cx} (K : PySem.W.Frag)
theorem seqK {tg l : Expr} {tl : TE} (hl : PE X l tl) (hK : X.K = K := by rfl) : PI X tg l (iSeqB K tl) := by subst hK; exact pi_seqB hl
theorem enumK {e : Expr} {ta : TA} {p pos tpos : Pos} {elts : List Expr} {kk : Nat} (hg : Gl X "enumerate") (hm : X.mg "enumerate" = none) (ha : PA X [e] ta) (hK : X.K = K := by rfl) (hs : starEach [e] X.env = [(false, eval e X.env)] := by rfl) :
    PI X (.Tuple elts kk tpos) (.Call (.Name "enumerate" p) [e] [] pos) (iEnumB K ta) := by subst hK; exact pi_enumB hg hm ha hs
theorem zipK {e e2 : Expr} {ta : TA} {p pos tpos : Pos} {elts : List Expr} {kk : Nat} (hg : Gl X "zip") (hm : X.mg "zip" = none) (ha : PA X [e, e2] ta) (hK : X.K = K := by rfl)
    (hs : starEach [e, e2] X.env = (false, eval e X.env) :: starEach [e2] X.env := by rfl) (hpl : (backTo pos (starEach [e2] X.env)).any (·.1) = false := by rfl) :
    PI X (.Tuple elts kk tpos) (.Call (.Name "zip" p) [e, e2] [] pos) (iZipB K ta) := by subst hK; exact pi_zipB hg hm ha hs hpl
theorem fldK {e : Expr} {f : Str} {ta : TE} {pos : Pos} (he : PE X e ta) (hK : X.K = K := by rfl) (hb : attributeBase e f X.env (eval e X.env) = eval e X.env := by rfl) : PE X (.Attribute e f pos) (tFld K ta f) := by subst hK; exact pe_fld he hb
theorem tupK {es : List Expr} {k : Nat} {t : TGs} {n : Nat} {pos : Pos} (hc : X.calm = true) (h : PGs X es t) (hK : X.K = K := by rfl)
    (hn : (assignEach es X.env).length = n := by rfl) (hst : (assignEach es X.env).findIdx? (·.1) = none := by rfl) : PG X (.Tuple es k pos) (gTup K n t) := by subst hK; exact pg_tup hc h hn hst
theorem starK {e : Expr} {es : List Expr} {te : TE} {t : TA} {p : Pos} (he : PE X e te) (hr : PA X es t) (hK : X.K = K := by rfl) (hs : starEach (.Starred e p :: es) X.env = (true, eval e X.env) :: starEach es X.env := by rfl) :
    PA X (.Starred e p :: es) (StX.tStar K te t) := by subst hK; exact StX.pa_star he hr hs
theorem sumK (hK : X.K = K := by rfl) (hc : X.calm = true := by rfl) : CallR X (.builtin "sum") (rSum K) := by subst hK; exact cr_sum hc
theorem maxK (hK : X.K = K := by rfl) (hc : X.calm = true := by rfl) : CallR X (.builtin "max") (rMax K) := by subst hK; exact cr_max hc
theorem minK (hK : X.K = K := by rfl) (hc : X.calm = true := by rfl) : CallR X (.builtin "min") (rMin K) := by subst hK; exact cr_min hc
theorem allK (hK : X.K = K := by rfl) (hc : X.calm = true := by rfl) : CallR X (.builtin "all") (rAll K) := by subst hK; exact cr_all hc
theorem sortedK (hK : X.K = K := by rfl) : CallR X (.builtin "sorted") (rSorted K) := by subst hK; exact cr_sorted
theorem isiK (hK : X.K = K := by rfl) : CallR X (.builtin "isinstance") (rIsi K) := by subst hK; exact call_isi
/-- len of a list or a tuple -/
def rLenB (K : PySem.W.Frag) : List V → Hp → VK → Prop := fun xs H Q => ∃ (T : Bool) (p : Addr) (ys : List V), xs = [.ref p] ∧ SqB T K H p ys ∧ Q (.int (ys.length : Nat)) H
theorem lenK (hK : X.K = K := by rfl) : CallR X (.builtin "len") (rLenB K) := by
  subst hK
  intro pins s σ H xs us Q I r h
  obtain ⟨T, p, ys, rfl, hq, q⟩ := h
  refine call_len_seq pins s σ H _ us Q I r ⟨p, ys, rfl, ?_, q⟩
  cases T with
  | true => exact .inr hq
  | false => exact .inl hq
/-- tuple(xs) of a list, list(xs) of a list or tuple -/
def rTupL (K : PySem.W.Frag) : List V → Hp → VK → Prop := fun xs H Q => ∃ (p : Addr) (ys : List V), xs = [.ref p] ∧ SqL K H p ys ∧ ∀ l, H l = none → Q (.ref l) (upd H l (.tup ys))
theorem tupleK (hK : X.K = K := by rfl) : CallR X (.type "tuple") (rTupL K) := by
  subst hK
  intro pins s σ H xs us Q I r h
  obtain ⟨p, ys, rfl, hq, q⟩ := h
  exact call_tuple_of pins s σ H _ us Q I r ⟨p, ys, rfl, .inl ⟨hq, q⟩⟩
def rLstB (K : PySem.W.Frag) : List V → Hp → VK → Prop := fun xs H Q => ∃ (T : Bool) (p : Addr) (ys : List V), xs = [.ref p] ∧ SqB T K H p ys ∧ ∀ l, H l = none → Q (.ref l) (upd H l (.lst ys))
theorem listK (hK : X.K = K := by rfl) : CallR X (.type "list") (rLstB K) := by
  subst hK
  intro pins s σ H xs us Q I r h
  obtain ⟨T, p, ys, rfl, hq, q⟩ := h
  refine call_list_of pins s σ H _ us Q I r ⟨p, ys, rfl, ?_, q⟩
  cases T with
  | true => exact .inr hq
  | false => exact .inl hq
theorem reprK (hgd : X.A.guards = some []) (hu : X.A.units + 64 < cLine) (hK : X.K = K := by rfl) : CallR X (.builtin "repr") (rReprD K) := by subst hK; exact call_reprD hgd hu
/-- x in xs, flat items -/
def rInB (K : PySem.W.Frag) (neg : Bool) : R2 := fun x y H Q => ∃ (T : Bool) (p : Addr) (xs : List V), y = .ref p ∧ SqB T K H p xs ∧ flatV x = true ∧ xs.all flatV = true ∧ Q (.bl (if neg then !inV x xs else inV x xs)) H
theorem inK (hK : X.K = K := by rfl) : OpR X (compareOp .In) (rInB K false) := by
  subst hK
  intro pins s σ H x y v u Q I rx ry h
  obtain ⟨T, p, xs, e, hq, h1, h2, q⟩ := h
  refine op_in_seq pins s σ H x y v u Q I rx ry ⟨p, xs, e, ?_, h1, h2, q⟩
  cases T with
  | true => exact .inr hq
  | false => exact .inl hq
theorem notInK (hK : X.K = K := by rfl) : OpR X (compareOp .NotIn) (rInB K true) := by
  subst hK
  intro pins s σ H x y v u Q I rx ry h
  obtain ⟨T, p, xs, e, hq, h1, h2, q⟩ := h
  refine op_notIn_seq pins s σ H x y v u Q I rx ry ⟨p, xs, e, ?_, h1, h2, q⟩
  cases T with
  | true => exact .inr hq
  | false => exact .inl hq
theorem catAK (hK : X.K = K := by rfl) : OpR X (binaryOp .Add) (rCatA K) := by subst hK; exact op_catA
theorem eqDK (hu : X.A.units + 64 < cLine) (hK : X.K = K := by rfl) : OpR X (compareOp .Eq) (rEqD K) := by subst hK; exact op_eqD hu
theorem neDK (hu : X.A.units + 64 < cLine) (hK : X.K = K := by rfl) : OpR X (compareOp .NotEq) (rNeD K) := by subst hK; exact op_neD hu
theorem notInTK (hu : X.A.units + 65 < cLine) (hK : X.K = K := by rfl) : OpR X (compareOp .NotIn) (rNotInT K) := by subst hK; exact op_notInT hu
theorem slK (hK : X.K = K := by rfl) : SlR X (rSlL K) := by subst hK; exact sl_list
theorem getK (hK : X.K = K := by rfl) : PGet X (gGetL K) := by subst hK; exact get_list
theorem indexK (hK : X.K = K := by rfl) : MtR X "list.index" (rIndex K) := by subst hK; exact mt_index
/-- an item of a list or a tuple -/
def rIxB (K : PySem.W.Frag) : R2 := fun x y H Q => ∃ (T : Bool) (p : Addr) (xs : List V) (j : Nat) (v : V), x = .ref p ∧ y = .int (j : Int) ∧ SqB T K H p xs ∧ xs[j]? = some v ∧ Q v H
theorem ixK (hK : X.K = K := by rfl) : IxR X (rIxB K) := by
  subst hK
  intro value slice pins s σ H x y v u Q I rx ry h hs
  obtain ⟨T, p, xs, j, w, rfl, rfl, hq, hx, q⟩ := h
  cases T with
  | true => exact ix_tup value slice pins s σ H _ _ v u Q I rx ry ⟨p, xs, _, w, rfl, rfl, hq, atI_nat hx, q⟩ hs
  | false => exact ix_list value slice pins s σ H _ _ v u Q I rx ry ⟨p, xs, _, w, rfl, rfl, hq, atI_nat hx, q⟩ hs
/-- xs.index(e) -/
theorem idxK {o e : Expr} {es : List Expr} {to : TE} {t : TA} {apos cpos : Pos} (ho : PE X o to) (ha : PA X (e :: es) t) (hK : X.K = K := by rfl) (hbase : attributeBase o "index" X.env (eval o X.env) = eval o X.env := by rfl)
    (hfew : ((backTo cpos (starEach (e :: es) X.env)).all (fun x => !x.1) && (backToKw cpos (keywordEach [] X.env)).all (fun x => x.1.isSome) && decide ((e :: es).length + ([] : List Keyword).length + (if ([] : List Keyword).isEmpty then 0 else 1) < 30)) = true := by rfl)
    (hline : (apos.endLine == cpos.line) = true := by rfl) (hs : starEach (e :: es) X.env = (false, eval e X.env) :: starEach es X.env := by rfl) (hplain : (backTo cpos (starEach es X.env)).any (·.1) = false := by rfl) :
    PE X (.Call (.Attribute o "index" apos) (e :: es) [] cpos) (tBM K "list" (rIndex K) to t) := by
  subst hK
  exact pe_bm PySem.F.plainAttrs_list PySem.F.slot_list_index PySem.F.type_list_index mt_index ho ha hbase hfew hline hs hplain
end
end Hid
/-! sum of a tuple of ints. -/
namespace Hid
open PySem PySem.Spec PyProof.Rows L2
theorem sum_tup_raw {prog : Program} {w : World} {A : Around} {E : Value → Shared → Prop} {s : Shared} {l : Addr} {its : List Value} {ns : List Int} {Q : Value → Shared → Prop} (hh : A.handled = none) (hl : s.heap.IsTuple l its.toArray) (hi : IntsAre its ns)
    (h : ∀ h' tk t', (∀ b o, s.heap.get? b = some o → h'.get? b = some o) → Q (.int ns.sum t') { s with heap := h', toks := tk }) : wpAny (model prog w) A (call (.builtin "sum") [.ref l]) Q E s := by
  obtain ⟨xs, e⟩ := hi.allInts.items
  have hn : numsOf (intItems xs).toList = ns := by rw [← e]; exact hi.numsOf
  rw [nums_intItems] at hn
  rw [e] at hl
  have hlt : l < s.heap.objs.size := by
    obtain ⟨_, e, _⟩ := hl
    exact Heap.lt_size e
  refine call_sum_walkG (wpAny_pyIter_tuple hl ?_)
  refine ⟨_, _, _, _, _, _, numAt xs, rfl, Walks.tuple (A := A.in1) hh _ l (Nat.ne_of_lt hlt) (intItems xs), ⟨⟨_, Heap.get?_push_size _ rfl, rfl, rfl⟩, hl.push _⟩, fun b hb => ?_, (fun _ _ => intItems_at), fun h' tk t' hk => ?_⟩
  · show b < (s.heap.push _).objs.size
    rw [Heap.size_push]
    rcases List.mem_cons.mp hb with rfl | hb
    · exact Nat.lt_succ_self _
    · rcases List.mem_cons.mp hb with rfl | hb
      · exact Nat.lt_succ_of_lt hlt
      · cases hb
  · have q := h h' tk t' fun b o eb => hk b o (fun z => by
      have z' : b = s.heap.objs.size := by simpa using z
      have y := Heap.lt_size eb
      rw [z'] at y
      exact Nat.lt_irrefl _ y) (Heap.get?_push_of_some _ eb)
    have e2 : preSum (numAt xs) (intItems xs).size = ns.sum := by
      rw [preSum_eq, List.take_of_length_le (by simp [intItems]), hn]
    rw [e2]
    exact q
def rSumT (K : PySem.W.Frag) : List V → Hp → VK → Prop := fun vs H Q => ∃ (a : Addr) (ns : List Int), vs = [V.ref a] ∧ SqT K H a (ns.map V.int) ∧ Q (.int ns.sum) H
theorem sumTK {X : Cx} (K : PySem.W.Frag) (hK : X.K = K := by rfl) (hc : X.calm = true := by rfl) : CallR X (.builtin "sum") (rSumT K) := by
  subst hK
  intro pins s σ H vs us Q I r h
  obtain ⟨a, ns, rfl, hs, q⟩ := h
  obtain ⟨its, rv, hl, _⟩ := I.tuple hs
  rw [Vals.ref1 r]
  exact sum_tup_raw (I.ok.hd hc) hl rv.ints fun h' tk t' hk => ⟨.int _, H, I.kept hk, ⟨_, rfl⟩, q⟩
end Hid
/-! The text by places; what the walk asks of the top; heaps. -/
namespace Hid
open PySem PySem.Spec PyProof.Rows L2
def topS (i : Nat) : Stmt := PySem.Challenge.pw_hiddenties_k19_whole_tight_spots_and_hea.main.body.getD i (.Pass ⟨0, 0, 0, 0⟩)
abbrev s_is_whole : Stmt := topS 1
abbrev s_are_wholes : Stmt := topS 2
abbrev s_some_heaviest : Stmt := topS 5
abbrev s_heaviest_number : Stmt := topS 6
abbrev s_short_of : Stmt := topS 7
abbrev s_tight_pattern : Stmt := topS 8
abbrev s_kept_to : Stmt := topS 9
abbrev s_can_begin : Stmt := topS 10
abbrev s_longer_by_one : Stmt := topS 11
abbrev s_heaviest_of : Stmt := topS 12
abbrev s_is_square_of : Stmt := topS 19
abbrev s_is_entry : Stmt := topS 20
abbrev s_is_patterned : Stmt := topS 21
abbrev s_check_pattern : Stmt := topS 22
abbrev s_check_choices : Stmt := topS 24
abbrev s_heaviest_choices : Stmt := topS 25
abbrev s_are_counts : Stmt := topS 27
abbrev s_mentions : Stmt := topS 28
abbrev s_are_offsets_of : Stmt := topS 29
abbrev s_span_by : Stmt := topS 30
abbrev s_tops_over : Stmt := topS 31
abbrev s_least_pair : Stmt := topS 32
abbrev s_tight_by : Stmt := topS 33
abbrev s_check_offsets : Stmt := topS 35
abbrev s_are_best : Stmt := topS 36
abbrev s_least_offsets : Stmt := topS 37
abbrev s_tight_spots : Stmt := topS 38
abbrev s_law_well : Stmt := topS 40
abbrev s_law_draw : Stmt := topS 41
abbrev s_law_pick : Stmt := topS 42
abbrev s_law_order_list : Stmt := topS 43
abbrev s_law_grid : Stmt := topS 44
abbrev s_law_choices : Stmt := topS 45
abbrev s_law_weight : Stmt := topS 46
abbrev s_law_heaviest : Stmt := topS 47
abbrev s_law_best_from : Stmt := topS 48
abbrev s_law_filled : Stmt := topS 49
abbrev s_law_start : Stmt := topS 50
abbrev s_law_any_offsets : Stmt := topS 51
abbrev s_law_tight : Stmt := topS 52
abbrev s_law_lies_on : Stmt := topS 53
abbrev s_law_right : Stmt := topS 54
abbrev s_law : Stmt := topS 55
abbrev s_init : Stmt := inClass (topS 4) 0
abbrev s_gaps_of : Stmt := inClass (topS 4) 1
abbrev s_take_in : Stmt := inClass (topS 4) 2
abbrev s_reached : Stmt := inClass (topS 4) 3
abbrev s_free_in : Stmt := inClass (topS 4) 4
abbrev s_raise_by : Stmt := inClass (topS 4) 5
abbrev s_hand_on : Stmt := inClass (topS 4) 6
abbrev s_choice : Stmt := inClass (topS 4) 7
theorem bz_isinstance : bootBuiltins "isinstance" = some (.builtin "isinstance") := by decide +kernel
theorem bz_int : bootBuiltins "int" = some (.type "int") := by decide +kernel
theorem bz_bool : bootBuiltins "bool" = some (.type "bool") := by decide +kernel
theorem bz_tuple : bootBuiltins "tuple" = some (.type "tuple") := by decide +kernel
theorem bz_len : bootBuiltins "len" = some (.builtin "len") := by decide +kernel
theorem bz_range : bootBuiltins "range" = some (.type "range") := by decide +kernel
theorem bz_enumerate : bootBuiltins "enumerate" = some (.type "enumerate") := by decide +kernel
theorem bz_zip : bootBuiltins "zip" = some (.type "zip") := by decide +kernel
theorem bz_min : bootBuiltins "min" = some (.builtin "min") := by decide +kernel
theorem bz_max : bootBuiltins "max" = some (.builtin "max") := by decide +kernel
theorem bz_sum : bootBuiltins "sum" = some (.builtin "sum") := by decide +kernel
theorem bz_sorted : bootBuiltins "sorted" = some (.builtin "sorted") := by decide +kernel
theorem bz_all : bootBuiltins "all" = some (.builtin "all") := by decide +kernel
theorem bz_list : bootBuiltins "list" = some (.type "list") := by decide +kernel
theorem bz_abs : bootBuiltins "abs" = some (.builtin "abs") := by decide +kernel
theorem bz_divmod : bootBuiltins "divmod" = some (.builtin "divmod") := by decide +kernel
theorem bz_repr : bootBuiltins "repr" = some (.builtin "repr") := by decide +kernel
/-- a def of the module, as the top has left it -/
structure DefAt (K : PySem.W.Frag) (mg : Str → Option Value) (x : Str) (st : Stmt) (ps : List Str) where
  f : Addr
  fd : FuncData
  F : Fun K x x st f fd
  b : Binds K fd ps []
  g : mg x = some (.ref f)
/-- a method of the class at C -/
structure MethAt (K : PySem.W.Frag) (C : Addr) (x qual : Str) (st : Stmt) (ps : List Str) where
  f : Addr
  fd : FuncData
  F : Fun K x qual st f fd
  b : Binds K fd ps []
  m : Meth K C x f
structure Txt (K : PySem.W.Frag) (mg : Str → Option Value) where
  C : Addr
  cls : Cls K C
  gC : mg "Choosing" = some (.ref C)
  n_pattern : NoAttr K C "pattern"
  n_owners : NoAttr K C "owners"
  n_grown : NoAttr K C "grown"
  n_tops : NoAttr K C "tops"
  n_short : NoAttr K C "short"
  m_init : MethAt K C "__init__" "Choosing.__init__" s_init ["self", "pattern"]
  m_gaps_of : MethAt K C "gaps_of" "Choosing.gaps_of" s_gaps_of ["self", "equation"]
  m_take_in : MethAt K C "take_in" "Choosing.take_in" s_take_in ["self", "equation"]
  m_reached : MethAt K C "reached" "Choosing.reached" s_reached ["self", "start"]
  m_free_in : MethAt K C "free_in" "Choosing.free_in" s_free_in ["self", "came"]
  m_raise_by : MethAt K C "raise_by" "Choosing.raise_by" s_raise_by ["self", "lot", "came"]
  m_hand_on : MethAt K C "hand_on" "Choosing.hand_on" s_hand_on ["self", "unknown", "came"]
  m_choice : MethAt K C "choice" "Choosing.choice" s_choice ["self"]
  mkC : Mk K C m_init.f
  f_is_whole : DefAt K mg "is_whole" s_is_whole ["value"]
  f_are_wholes : DefAt K mg "are_wholes" s_are_wholes ["value", "many"]
  f_some_heaviest : DefAt K mg "some_heaviest" s_some_heaviest ["pattern"]
  f_heaviest_number : DefAt K mg "heaviest_number" s_heaviest_number ["pattern"]
  f_short_of : DefAt K mg "short_of" s_short_of ["pattern"]
  f_tight_pattern : DefAt K mg "tight_pattern" s_tight_pattern ["pattern"]
  f_kept_to : DefAt K mg "kept_to" s_kept_to ["row", "unknown"]
  f_can_begin : DefAt K mg "can_begin" s_can_begin ["tight", "begun"]
  f_longer_by_one : DefAt K mg "longer_by_one" s_longer_by_one ["tight", "begun"]
  f_heaviest_of : DefAt K mg "heaviest_of" s_heaviest_of ["pattern"]
  f_is_square_of : DefAt K mg "is_square_of" s_is_square_of ["value", "test"]
  f_is_entry : DefAt K mg "is_entry" s_is_entry ["value"]
  f_is_patterned : DefAt K mg "is_patterned" s_is_patterned ["value"]
  f_check_pattern : DefAt K mg "check_pattern" s_check_pattern ["value"]
  f_check_choices : DefAt K mg "check_choices" s_check_choices ["pattern"]
  f_heaviest_choices : DefAt K mg "heaviest_choices" s_heaviest_choices ["pattern"]
  f_are_counts : DefAt K mg "are_counts" s_are_counts ["value", "many"]
  f_mentions : DefAt K mg "mentions" s_mentions ["pattern"]
  f_are_offsets_of : DefAt K mg "are_offsets_of" s_are_offsets_of ["pattern", "value"]
  f_span_by : DefAt K mg "span_by" s_span_by ["offsets"]
  f_tops_over : DefAt K mg "tops_over" s_tops_over ["pattern", "grown"]
  f_least_pair : DefAt K mg "least_pair" s_least_pair ["pattern"]
  f_tight_by : DefAt K mg "tight_by" s_tight_by ["pattern", "offsets"]
  f_check_offsets : DefAt K mg "check_offsets" s_check_offsets ["pattern", "value"]
  f_are_best : DefAt K mg "are_best" s_are_best ["pattern", "offsets"]
  f_least_offsets : DefAt K mg "least_offsets" s_least_offsets ["pattern"]
  f_tight_spots : DefAt K mg "tight_spots" s_tight_spots ["pattern", "offsets"]
  f_law_well : DefAt K mg "_law_well" s_law_well ["_law_script", "_law_spot"]
  f_law_draw : DefAt K mg "_law_draw" s_law_draw ["_law_well_here", "_law_many"]
  f_law_pick : DefAt K mg "_law_pick" s_law_pick ["_law_well_here", "_law_some"]
  f_law_order_list : DefAt K mg "_law_order_list" s_law_order_list ["_law_well_here", "_law_n"]
  f_law_grid : DefAt K mg "_law_grid" s_law_grid ["_law_well_here", "_law_most"]
  f_law_choices : DefAt K mg "_law_choices" s_law_choices ["_law_rows"]
  f_law_weight : DefAt K mg "_law_weight" s_law_weight ["_law_rows", "_law_some"]
  f_law_heaviest : DefAt K mg "_law_heaviest" s_law_heaviest ["_law_rows"]
  f_law_best_from : DefAt K mg "_law_best_from" s_law_best_from ["_law_rows", "_law_some", "_law_start_here"]
  f_law_filled : DefAt K mg "_law_filled" s_law_filled ["_law_well_here", "_law_most", "_law_high"]
  f_law_start : DefAt K mg "_law_start" s_law_start ["_law_well_here", "_law_n"]
  f_law_any_offsets : DefAt K mg "_law_any_offsets" s_law_any_offsets ["_law_well_here", "_law_rows"]
  f_law_tight : DefAt K mg "_law_tight" s_law_tight ["_law_rows", "_law_c", "_law_d"]
  f_law_lies_on : DefAt K mg "_law_lies_on" s_law_lies_on ["_law_some", "_law_spots"]
  f_law_right : DefAt K mg "_law_right" s_law_right ["_law_well_here"]
  f_law : DefAt K mg "law" s_law ["_law_script"]
  z_isinstance : mg "isinstance" = none
  z_int : mg "int" = none
  z_bool : mg "bool" = none
  z_tuple : mg "tuple" = none
  z_len : mg "len" = none
  z_range : mg "range" = none
  z_enumerate : mg "enumerate" = none
  z_zip : mg "zip" = none
  z_min : mg "min" = none
  z_max : mg "max" = none
  z_sum : mg "sum" = none
  z_sorted : mg "sorted" = none
  z_all : mg "all" = none
  z_list : mg "list" = none
  z_abs : mg "abs" = none
  z_divmod : mg "divmod" = none
  z_repr : mg "repr" = none
theorem hu65 {A : Around} {k : Nat} (hr : Room k A) : A.units + 65 < cLine := by
  have := hr.un
  omega

/-! ### heaps -/
theorem same_upd {H : Hp} {p : Addr} {o : HO} (h : H p = none) : Same H (upd H p o) := fun b x e => by
  rw [upd_ne (ne_of_none e h)]
  exact e
/-- an object that H0 does not know changes -/
theorem same_mut {H0 H : Hp} {p : Addr} {o : HO} (s : Same H0 H) (h : H0 p = none) : Same H0 (upd H p o) := fun b x e => by
  rw [upd_ne (ne_of_none e h)]
  exact s _ _ e
/-- all but the objects of l stand as they stood -/
def SB (l : List Addr) (H H' : Hp) : Prop := ∀ b o, H b = some o → b ∉ l → H' b = some o
theorem same_sb {H H' : Hp} (s : Same H H') (l : List Addr) : SB l H H' := fun b o e _ => s b o e
theorem SB.same {H H' : Hp} (s : SB [] H H') : Same H H' := fun b o e => s b o e List.not_mem_nil
theorem SB.refl (l : List Addr) (H : Hp) : SB l H H := fun _ _ e _ => e
theorem SB.trans {l : List Addr} {H H1 H2 : Hp} (a : SB l H H1) (b : SB l H1 H2) : SB l H H2 := fun c o e n => b c o (a c o e n) n
theorem SB.mono {l l' : List Addr} {H H1 : Hp} (a : SB l H H1) (h : ∀ x, x ∈ l → x ∈ l') : SB l' H H1 := fun c o e n => a c o e fun z => n (h c z)
theorem SB.upd {l : List Addr} {H H' : Hp} {p : Addr} {o : HO} (a : SB l H H') (h : p ∈ l) : SB l H (upd H' p o) := fun b x e n => by
  rw [upd_ne (fun z => n (by rw [z]; exact h))]
  exact a b x e n
theorem SB.new {l : List Addr} {H H' : Hp} {p : Addr} {o : HO} (a : SB l H H') (h : H p = none) : SB l H (L2.upd H' p o) := fun b x e n => by
  rw [upd_ne (ne_of_none e h)]
  exact a b x e n
theorem same_of_sb {l : List Addr} {H0 H H' : Hp} (s : Same H0 H) (a : SB l H H') (h : ∀ x, x ∈ l → H0 x = none) : Same H0 H' := fun b o e => a b o (s b o e) fun z => by
  rw [h b z] at e
  cases e
theorem SqB.keep {T : Bool} {K : PySem.W.Frag} {H H' : Hp} {a : Addr} {xs : List V} (h : SqB T K H a xs) (k : ∀ o, H a = some o → H' a = some o) : SqB T K H' a xs := by
  cases T with
  | true =>
    rcases h with (h | ⟨o, h⟩) | h
    · exact .inl (.inl (k _ h))
    · exact .inl (.inr ⟨o, k _ h⟩)
    · exact .inr h
  | false =>
    rcases h with (h | ⟨o, h⟩) | h
    · exact .inl (.inl (k _ h))
    · exact .inl (.inr ⟨o, k _ h⟩)
    · exact .inr h
theorem SqB.mono {T : Bool} {K : PySem.W.Frag} {H H' : Hp} {a : Addr} {xs : List V} (s : Same H H') (h : SqB T K H a xs) : SqB T K H' a xs := h.keep fun o e => s a o e
theorem SqB.tup {K : PySem.W.Frag} {H : Hp} {a : Addr} {xs : List V} (h : H a = some (.tup xs)) : SqB true K H a xs := SqT.of h
theorem SqB.lst {K : PySem.W.Frag} {H : Hp} {a : Addr} {xs : List V} (h : H a = some (.lst xs)) : SqB false K H a xs := SqL.of h
theorem SqB.or {T : Bool} {K : PySem.W.Frag} {H : Hp} {a : Addr} {xs : List V} (h : SqB T K H a xs) : SqL K H a xs ∨ SqT K H a xs := by
  cases T with
  | true => exact .inr h
  | false => exact .inl h
/-- a tuple stands whatever a list does -/
theorem sqT_upd {K : PySem.W.Frag} {H : Hp} {a p : Addr} {xs : List V} {o : HO} (h : SqT K H a xs) (hp : ∀ ys, H p ≠ some (.tup ys)) (hf : ∀ ob ys, H p ≠ some (.frz ob (.tup ys))) : SqT K (L2.upd H p o) a xs := by
  rcases h with (h | ⟨ob, h⟩) | h
  · exact .inl (.inl (by rw [upd_ne (fun z => hp xs (by rw [← z]; exact h))]; exact h))
  · exact .inl (.inr ⟨ob, by rw [upd_ne (fun z => hf ob xs (by rw [← z]; exact h))]; exact h⟩)
  · exact .inr h

/-! ### numbers 0 .. n - 1 and what stands there -/
def vec (n : Nat) (f : Nat → V) : List V := (List.range n).map f
theorem vec_len (n : Nat) (f : Nat → V) : (vec n f).length = n := by
  unfold vec
  rw [List.length_map, List.length_range]
theorem vec_at {n : Nat} {f : Nat → V} {i : Nat} (h : i < n) : (vec n f)[i]? = some (f i) := by
  unfold vec
  rw [List.getElem?_map, List.getElem?_range h]
  rfl
theorem vec_get {n : Nat} {f : Nat → V} {i : Nat} {x : V} (h : (vec n f)[i]? = some x) : i < n ∧ x = f i := by
  have q := (List.getElem?_eq_some_iff.mp h).1
  rw [vec_len] at q
  rw [vec_at q] at h
  exact ⟨q, (Option.some.inj h).symm⟩
theorem vec_congr {n : Nat} {f g : Nat → V} (h : ∀ i, i < n → f i = g i) : vec n f = vec n g := by
  unfold vec
  exact List.map_congr_left fun i hi => h i (List.mem_range.mp hi)
theorem vec_set {n : Nat} {f : Nat → V} {k : Nat} {v : V} : (vec n f).set k v = vec n fun i => if i = k then v else f i := by
  refine List.ext_getElem? fun i => ?_
  by_cases h : i < n
  · rw [vec_at h]
    by_cases e : i = k
    · rw [if_pos e, e, List.getElem?_set_self (by rw [vec_len, ← e]; exact h)]
    · rw [if_neg e, List.getElem?_set_ne (fun z => e z.symm), vec_at h]
  · rw [List.getElem?_eq_none (by rw [List.length_set, vec_len]; omega), List.getElem?_eq_none (by rw [vec_len]; omega)]
theorem vec_succ (n : Nat) (f : Nat → V) : vec (n + 1) f = vec n f ++ [f n] := by
  unfold vec
  rw [List.range_succ, List.map_append]
  rfl
theorem sz64 {n : Nat} (h : n ≤ 10000) : n ≤ sizeLine := Nat.le_trans h (by decide)
theorem sz64' {n : Nat} (h : n ≤ 10000) : n < sizeLine := Nat.lt_of_le_of_lt h (by decide)
end Hid
/-! Looks at arguments: values, forms. -/
namespace Hid
open PySem PySem.Spec PyProof.Rows L2
section
variable {P : Program} {w : World} {K : PySem.W.Frag} {mg : Str → Option Value} {base : Heap}
theorem tyx_tup {H : Hp} {a : Addr} {xs : List V} (h : SqT K H a xs) : TyX K H (.ref a) (.type "tuple") := by
  rcases h with (h | ⟨o, h⟩) | ⟨o, its, n, h1, h2, _⟩
  · exact .base (.tup h)
  · exact .fTuple h
  · exact .kTuple h1 h2
/-! ### is_whole -/
abbrev N_is_whole : List Str := ["value"]
abbrev P_is_whole : List Str := ["value"]
theorem sc_is_whole : FnScope N_is_whole P_is_whole (defScope s_is_whole) := ⟨rfl, rfl, rfl, by decide +kernel, rfl, by decide +kernel, by decide +kernel⟩
def sp_is_whole : Sp := fun vs H Q _ => ∃ i : Int, vs = [.int i] ∧ Q (.bl true) H
theorem ok_is_whole (T : Txt K mg) : FnOk P w K mg base CX0 1 T.f_is_whole.f T.f_is_whole.fd P_is_whole sp_is_whole := by
  refine T.f_is_whole.F.ok sc_is_whole (fun vs H Q E h => ?_) (fun cdv A outer s H vs Q E hr h => ?_)
  · obtain ⟨i, rfl, _⟩ := h
    rfl
  · obtain ⟨i, rfl, q⟩ := h
    refine ⟨_, (pss_one (ps_ret (pe_and (pe_callB (isiK K) (by rfl) T.z_isinstance bz_isinstance (pa_cons (pv 0) (pa_cons (pe_bltn (v := .ty "int") (by rfl) T.z_int bz_int rfl) pa_nil))) (pe_one (pe_not (pe_callB (isiK K) (by rfl) T.z_isinstance bz_isinstance (pa_cons (pv 0) (pa_cons (pe_bltn (v := .ty "bool") (by rfl) T.z_bool bz_bool rfl) pa_nil)))))))), ?_⟩
    refine ⟨_, rfl, .int i, .ty "int", .type "int", .type "int", true, rfl, .ty _, .base (.int i), kit_ty (by decide +kernel), true, rfl, ?_⟩
    exact iteT ⟨_, rfl, .int i, .ty "bool", .type "int", .type "bool", false, rfl, .ty _, .base (.int i), kit_ty (by decide +kernel), false, rfl, q⟩
/-! ### are_wholes -/
abbrev N_are_wholes : List Str := ["value", "many", "each"]
abbrev P_are_wholes : List Str := ["value", "many"]
theorem sc_are_wholes : FnScope N_are_wholes P_are_wholes (defScope s_are_wholes) := ⟨rfl, rfl, rfl, by decide +kernel, rfl, by decide +kernel, by decide +kernel⟩
def sp_are_wholes (K : PySem.W.Frag) : Sp := fun vs H Q _ => ∃ (a : Addr) (ns : List Int), vs = [.ref a, .int (ns.length : Nat)] ∧ SqT K H a (ns.map V.int) ∧ ns.length ≤ 1000 ∧ ∀ H', Same H H' → Q (.bl true) H'
theorem ok_are_wholes (T : Txt K mg) : FnOk P w K mg base CX0 2 T.f_are_wholes.f T.f_are_wholes.fd P_are_wholes (sp_are_wholes K) := by
  refine T.f_are_wholes.F.ok sc_are_wholes (fun vs H Q E h => ?_) (fun cdv A outer s H vs Q E hr h => ?_)
  · obtain ⟨a, ns, rfl, _⟩ := h
    rfl
  · obtain ⟨a, ns, rfl, hS, hl, q⟩ := h
    refine ⟨_, (pss_one (ps_ret (pe_and (pe_callB (isiK K) (by rfl) T.z_isinstance bz_isinstance (pa_cons (pv 0) (pa_cons (pe_bltn (v := .ty "tuple") (by rfl) T.z_tuple bz_tuple rfl) pa_nil))) (pe_and (pe_cmpR op_eq (pe_callB (lenK K) (by rfl) T.z_len bz_len (pa_cons (pv 0) pa_nil)) (pv 1) (nomark _)) (pe_one (pe_callB (allK K) (by rfl) T.z_all bz_all (pa_cons (pe_lc (own := [("each", 2)]) rfl sc_are_wholes.nd (seqK K (pv 0)) (blkOk_by (own := [("each", 2)]) (N := N_are_wholes) (sc := defScope s_are_wholes) (by decide +kernel)) (fun _ _ _ _ _ => (pg_name (i := 2) sc_are_wholes.nd rfl (Or.inl rfl))) (fun _ _ _ _ _ => pts_nil) (fun _ _ _ _ _ => (pe_call (ok_is_whole T) (hr.mono (by decide)) (by rfl) T.f_is_whole.g T.f_is_whole.F.kp T.f_is_whole.b .nil pass0 (pa_cons (pv 2) pa_nil)))) pa_nil))))))), ?_⟩
    refine ⟨_, rfl, .ref a, .ty "tuple", .type "tuple", .type "tuple", true, rfl, .ty _, tyx_tup hS, kit_ty (by decide +kernel), true, rfl, iteT ?_⟩
    refine ⟨_, rfl, true, a, _, rfl, hS, _, rfl, rfl, true, ?_, iteT ?_⟩
    · rw [List.length_map, decide_eq_true rfl]
    refine ⟨_, rfl, true, a, _, rfl, hS, fun D hD => ?_⟩
    refine lc_it (walkB (T := true)) (fun i H' => Same H H' ∧ H' D = some (.lst ((List.replicate i true).map V.bl))) ⟨same_upd hD, upd_same⟩ (fun i H' _ p => SqB.mono (T := true) p.1 hS) (fun i x H' H2 hi p y => ?_) (fun H' p => ?_)
    · obtain ⟨rfl, hx⟩ := y
      obtain ⟨n, hn, rfl⟩ : ∃ n, ns[i]? = some n ∧ x = V.int n := by
        rw [List.getElem?_map] at hx
        cases e : ns[i]? with
        | none =>
          rw [e] at hx
          cases hx
        | some n =>
          rw [e] at hx
          exact ⟨n, rfl, (Option.some.inj hx).symm⟩
      rw [List.length_map] at hi
      refine ⟨rfl, _, rfl, n, rfl, _, p.2, ?_, same_mut p.1 hD, ?_⟩
      · rw [List.length_map, List.length_replicate]
        exact small1000 (by omega)
      · rw [upd_same, List.replicate_succ', List.map_append]
        rfl
    · refine ⟨D, _, rfl, SqL.of p.2, ?_⟩
      have e : (List.replicate (ns.map V.int).length true).all id = true := by
        rw [List.all_eq_true]
        intro x hx
        rw [List.eq_of_mem_replicate hx]
        rfl
      rw [e]
      exact q _ p.1
end
end Hid
/-! Data at any depth; forms: entries, patterns. -/
namespace Hid
open PySem PySem.Spec PyProof.Rows L2

/-! ### data -/
theorem laid_all : ∀ {ds : List PyData} {k : Nat}, (∀ d, d ∈ ds → d.canLay0 = true ∧ d.depth ≤ k) → PyData.canLayAll0 ds = true ∧ PyData.depthAll ds ≤ k
  | [], k, _ => ⟨by simp [PyData.canLayAll0], by simp [PyData.depthAll]⟩
  | d :: ds, k, h => by
    have h1 := h d List.mem_cons_self
    have h2 := laid_all (ds := ds) (k := k) fun e he => h e (List.mem_cons_of_mem _ he)
    constructor
    · simp only [PyData.canLayAll0, h1.1, h2.1, Bool.and_self]
    · simp only [PyData.depthAll]
      exact Nat.max_le.mpr ⟨h1.2, h2.2⟩
/-- data that may be compared and shown: laid, of a small depth -/
def Lay (k : Nat) (d : PyData) : Prop := d.canLay0 = true ∧ d.depth ≤ k
theorem lay_int (i : Int) : Lay 0 (.int i) := ⟨by simp [PyData.canLay0], by simp [PyData.depth]⟩
theorem lay_none : Lay 0 .none := ⟨by simp [PyData.canLay0], by simp [PyData.depth]⟩
theorem lay_tup {k : Nat} {ds : List PyData} (h : ∀ d, d ∈ ds → Lay k d) : Lay (k + 1) (.tuple ds) := by
  obtain ⟨h1, h2⟩ := laid_all h
  exact ⟨by simpa [PyData.canLay0] using h1, by simp only [PyData.depth]; omega⟩
theorem lay_lst {k : Nat} {ds : List PyData} (h : ∀ d, d ∈ ds → Lay k d) : Lay (k + 1) (.list ds) := by
  obtain ⟨h1, h2⟩ := laid_all h
  exact ⟨by simpa [PyData.canLay0] using h1, by simp only [PyData.depth]; omega⟩
theorem Lay.shaped {k : Nat} {d : PyData} (h : Lay k d) (hk : k ≤ 64) : SeqAt.shaped d = true := by
  show (d.canLay0 && decide (d.depth ≤ 64)) = true
  rw [h.1, decide_eq_true (show d.depth ≤ 64 by have := h.2; omega)]
  rfl
theorem dp_all {K : PySem.W.Frag} {H : Hp} : ∀ {xs : List V} {ds : List PyData}, xs.length = ds.length → (∀ (i : Nat) (x : V) (d : PyData), xs[i]? = some x → ds[i]? = some d → Dp K H x d) → DpAll K H xs ds
  | [], [], _, _ => .nil
  | [], _ :: _, h, _ => by cases h
  | _ :: _, [], h, _ => by cases h
  | x :: xs, d :: ds, h, k => .cons (k 0 x d rfl rfl) (dp_all (by simpa using h) fun i y e hy he => k (i + 1) y e (by simpa using hy) (by simpa using he))
theorem dp_vec {K : PySem.W.Frag} {H : Hp} {n : Nat} {f : Nat → V} {g : Nat → PyData} (h : ∀ i, i < n → Dp K H (f i) (g i)) : DpAll K H (vec n f) ((List.range n).map g) := by
  refine dp_all (by rw [vec_len, List.length_map, List.length_range]) fun i x d hx hd => ?_
  obtain ⟨hi, rfl⟩ := vec_get hx
  rw [List.getElem?_map, List.getElem?_range hi] at hd
  cases hd
  exact h i hi
theorem dp_map {K : PySem.W.Frag} {H : Hp} {α : Type} {f : α → V} {g : α → PyData} (h : ∀ a, Dp K H (f a) (g a)) : ∀ l : List α, DpAll K H (l.map f) (l.map g)
  | [] => .nil
  | a :: l => .cons (h a) (dp_map h l)
theorem dp_seq {T : Bool} {K : PySem.W.Frag} {H : Hp} {a : Addr} {xs : List V} {ds : List PyData} (h : SqB T K H a xs) (k : DpAll K H xs ds) : Dp K H (.ref a) (match T with | true => .tuple ds | false => .list ds) := by
  cases T with
  | true => exact .tup h k
  | false => exact .lst h k
theorem eqv_tup_nil {d : PyData} {ds : List PyData} : PyData.eqv (.tuple (d :: ds)) (.tuple []) = false := by simp [PyData.eqv, PyData.eqvAll]
theorem eqv_lst_nil {d : PyData} {ds : List PyData} : PyData.eqv (.list (d :: ds)) (.list []) = false := by simp [PyData.eqv, PyData.eqvAll]
theorem eqv_nil_tup : PyData.eqv (.tuple []) (.tuple []) = true := by simp [PyData.eqv, PyData.eqvAll]
theorem eqv_nil_lst : PyData.eqv (.list []) (.list []) = true := by simp [PyData.eqv, PyData.eqvAll]

/-! ### patterns -/
def eV : Option Int → V
  | none => .non
  | some i => .int i
def eD : Option Int → PyData
  | none => .none
  | some i => .int i
theorem eV_non {w : Option Int} : decide (eV w = .non) = decide (w = none) := by
  cases w with
  | none => rfl
  | some i => rfl
theorem dp_entry {K : PySem.W.Frag} {H : Hp} (w : Option Int) : Dp K H (eV w) (eD w) := by
  cases w with
  | none => exact .non
  | some i => exact .int i
theorem lay_entry (w : Option Int) : Lay 0 (eD w) := by
  cases w with
  | none => exact lay_none
  | some i => exact lay_int i
/-- a pattern of n unknowns, its rows and itself lists or tuples -/
def PatB (T U : Bool) (K : PySem.W.Frag) (H : Hp) (v : V) (n : Nat) (o : Pat) : Prop := ∃ (a : Addr) (bs : Nat → Addr), v = .ref a ∧ SqB T K H a (vec n fun i => .ref (bs i)) ∧ ∀ i, i < n → SqB U K H (bs i) (vec n fun j => eV (o i j))
theorem PatB.mono {T U : Bool} {K : PySem.W.Frag} {H H' : Hp} {v : V} {n : Nat} {o : Pat} (s : Same H H') (h : PatB T U K H v n o) : PatB T U K H' v n o := by
  obtain ⟨a, bs, e, h1, h2⟩ := h
  exact ⟨a, bs, e, h1.mono s, fun i hi => (h2 i hi).mono s⟩
def NonNeg (n : Nat) (o : Pat) : Prop := ∀ i, i < n → ∀ j, j < n → ∀ w, o i j = some w → 0 ≤ w
theorem dp_rows {K : PySem.W.Frag} {H : Hp} {n : Nat} {o : Pat} {bs : Nat → Addr} (h : ∀ i, i < n → SqT K H (bs i) (vec n fun j => eV (o i j))) :
    DpAll K H (vec n fun i => .ref (bs i)) ((List.range n).map fun i => .tuple ((List.range n).map fun j => eD (o i j))) :=
  dp_vec fun i hi => .tup (h i hi) (dp_vec fun j _ => dp_entry _)
theorem lay_rows (n : Nat) (o : Pat) : Lay 2 (.tuple ((List.range n).map fun i => .tuple ((List.range n).map fun j => eD (o i j)))) := by
  refine lay_tup fun d hd => ?_
  obtain ⟨i, _, rfl⟩ := List.mem_map.mp hd
  refine lay_tup fun e he => ?_
  obtain ⟨j, _, rfl⟩ := List.mem_map.mp he
  exact lay_entry _
section
variable {P : Program} {w : World} {K : PySem.W.Frag} {mg : Str → Option Value} {base : Heap}
/-! ### is_entry -/
abbrev N_is_entry : List Str := ["value"]
abbrev P_is_entry : List Str := ["value"]
theorem sc_is_entry : FnScope N_is_entry P_is_entry (defScope s_is_entry) := ⟨rfl, rfl, rfl, by decide +kernel, rfl, by decide +kernel, by decide +kernel⟩
def sp_is_entry : Sp := fun vs H Q _ => ∃ w : Option Int, vs = [eV w] ∧ (∀ i, w = some i → 0 ≤ i) ∧ Q (.bl true) H
theorem ok_is_entry (T : Txt K mg) : FnOk P w K mg base CX0 2 T.f_is_entry.f T.f_is_entry.fd P_is_entry sp_is_entry := by
  refine T.f_is_entry.F.ok sc_is_entry (fun vs H Q E h => ?_) (fun cdv A outer s H vs Q E hr h => ?_)
  · obtain ⟨i, rfl, _⟩ := h
    rfl
  · obtain ⟨e, rfl, h0, q⟩ := h
    refine ⟨_, (pss_one (ps_ret (pe_or (pe_cmpR op_isN (pv 0) pe_non (nomark _)) (pe_one (pe_and (pe_call (ok_is_whole T) (hr.mono (by decide)) (by rfl) T.f_is_whole.g T.f_is_whole.F.kp T.f_is_whole.b .nil pass0 (pa_cons (pv 0) pa_nil)) (pe_one (pe_cmpR op_ge (pv 0) pe_int (nomark _)))))))), ?_⟩
    cases e with
    | none =>
      refine ⟨_, rfl, rfl, true, rfl, ?_⟩
      exact q
    | some i =>
      refine ⟨_, rfl, rfl, false, rfl, ?_⟩
      refine ⟨_, rfl, i, rfl, true, rfl, iteT ?_⟩
      refine ⟨_, rfl, i, 0, rfl, rfl, ?_⟩
      have e : decide ((0 : Int) ≤ i) = true := decide_eq_true (h0 i rfl)
      show Q (.bl (decide ((0 : Int) ≤ i))) H
      rw [e]
      exact q
/-! ### is_square_of -/
abbrev N_is_square_of : List Str := ["value", "test", "many", "each", "row"]
abbrev P_is_square_of : List Str := ["value", "test"]
theorem sc_is_square_of : FnScope N_is_square_of P_is_square_of (defScope s_is_square_of) := ⟨rfl, rfl, rfl, by decide +kernel, rfl, by decide +kernel, by decide +kernel⟩
def sp_is_square_of (K : PySem.W.Frag) (f : Addr) : Sp := fun vs H Q _ => ∃ (v : V) (n : Nat) (o : Pat), vs = [v, .ref f] ∧ PatB true true K H v n o ∧ 0 < n ∧ n ≤ 1000 ∧ NonNeg n o ∧ ∀ H', Same H H' → Q (.bl true) H'
theorem ok_is_square_of (T : Txt K mg) : FnOk P w K mg base CX0 3 T.f_is_square_of.f T.f_is_square_of.fd P_is_square_of (sp_is_square_of K T.f_is_entry.f) := by
  refine T.f_is_square_of.F.ok sc_is_square_of (fun vs H Q E h => ?_) (fun cdv A outer s H vs Q E hr h => ?_)
  · obtain ⟨v, n, o, rfl, _⟩ := h
    rfl
  · obtain ⟨v, n, o, rfl, ⟨a, bs, rfl, hS, hR⟩, h0, hn, hnn, q⟩ := h
    refine ⟨_, (pss_cons (ps_if (PW.pt (pw_or (pt_not (pt_val (pe_callB (isiK K) (by rfl) T.z_isinstance bz_isinstance (pa_cons (pv 0) (pa_cons (pe_bltn (v := .ty "tuple") (by rfl) T.z_tuple bz_tuple rfl) pa_nil))))) (pw_or1 (pt_cmpR (eqDK K hr.units) (pv 0) (pe_tup pa_nil) (nomark _))))) (pss_one (ps_ret pe_bl)) pss_nil)
      (pss_cons (ps_set (i := 2) sc_is_square_of.nd rfl (Or.inr rfl) (pe_callB (lenK K) (by rfl) T.z_len bz_len (pa_cons (pv 0) pa_nil)))
      (pss_one (ps_ret (pe_callB (allK K) (by rfl) T.z_all bz_all (pa_cons (pe_lc (own := [("row", 4)]) rfl sc_is_square_of.nd (seqK K (pv 0)) (blkOk_by (own := [("row", 4)]) (N := N_is_square_of) (sc := defScope s_is_square_of) (by decide +kernel)) (fun _ _ _ _ _ => (pg_name (i := 4) sc_is_square_of.nd rfl (Or.inl rfl))) (fun _ _ _ _ _ => pts_nil) (fun _ _ _ _ _ => (pe_and (pe_callB (isiK K) (by rfl) T.z_isinstance bz_isinstance (pa_cons (pv 4) (pa_cons (pe_bltn (v := .ty "tuple") (by rfl) T.z_tuple bz_tuple rfl) pa_nil))) (pe_and (pe_cmpR op_eq (pe_callB (lenK K) (by rfl) T.z_len bz_len (pa_cons (pv 4) pa_nil)) (pv 2) (nomark _)) (pe_one (pe_callB (allK K) (by rfl) T.z_all bz_all (pa_cons (pe_lc (own := [("each", 3)]) rfl sc_is_square_of.nd (seqK K (pv 4)) (blkOk_by (own := [("each", 3)]) (N := N_is_square_of) (by rfl)) (fun _ _ _ _ _ => (pg_name (i := 3) sc_is_square_of.nd rfl (Or.inl rfl))) (fun _ _ _ _ _ => pts_nil) (fun _ _ _ _ _ => (pe_callL (i := 1) (ok_is_entry T) (hr.mono (by decide)) rfl (by first | exact Or.inl rfl | exact Or.inr (Or.inl rfl) | exact Or.inr (Or.inr rfl)) T.f_is_entry.F.kp T.f_is_entry.b .nil pass0 (pa_cons (pv 3) pa_nil)))) pa_nil))))))) pa_nil)))))), ?_⟩
    refine ⟨_, rfl, .ref a, .ty "tuple", .type "tuple", .type "tuple", true, rfl, .ty _, tyx_tup hS, kit_ty (by decide +kernel), true, rfl, ?_⟩
    refine ⟨_, rfl, by show 0 ≤ sizeLine; decide, fun p hp => ?_⟩
    have s1 : Same H (upd H p (.tup [])) := same_upd hp
    have hne : (List.range n).map (fun i => PyData.tuple ((List.range n).map fun j => eD (o i j))) ≠ [] := by
      intro z
      have e := congrArg List.length z
      rw [List.length_map, List.length_range] at e
      exact absurd e (by show n ≠ 0; omega)
    obtain ⟨d, ds, hd⟩ := List.exists_cons_of_ne_nil hne
    have hlay : Lay 2 (.tuple (d :: ds)) := by
      rw [← hd]
      exact lay_rows n o
    refine ⟨.tuple (d :: ds), .tuple [], ?_, .tup (SqT.of upd_same) .nil, hlay.shaped (by decide), (lay_tup (k := 0) fun x hx => absurd hx List.not_mem_nil).shaped (by decide), ?_⟩
    · rw [← hd]
      exact .tup (SqB.mono (T := true) s1 hS) (dp_rows fun i hi => SqB.mono (T := true) s1 (hR i hi))
    rw [eqv_tup_nil]
    refine ⟨false, rfl, ?_⟩
    refine ⟨_, rfl, true, a, _, rfl, SqB.mono s1 hS, ?_⟩
    rw [vec_len]
    refine ⟨_, rfl, true, a, _, rfl, SqB.mono s1 hS, fun D hD => ?_⟩
    refine lc_it (walkB (T := true)) (fun i H' => Same H H' ∧ H D = none ∧ H' D = some (.lst ((List.replicate i true).map V.bl))) ⟨s1.trans (same_upd hD), s1.free hD, upd_same⟩ (fun i H' _ p => SqB.mono p.1 hS) (fun i x H' H2 hi p y => ?_) (fun H' p => ?_)
    · obtain ⟨rfl, hx⟩ := y
      obtain ⟨hi, rfl⟩ := vec_get hx
      have hRi : SqT K H2 (bs i) (vec n fun j => eV (o i j)) := SqB.mono (T := true) p.1 (hR i hi)
      refine ⟨rfl, _, rfl, .ref (bs i), .ty "tuple", .type "tuple", .type "tuple", true, rfl, .ty _, tyx_tup hRi, kit_ty (by decide +kernel), true, rfl, iteT ?_⟩
      refine ⟨_, rfl, true, bs i, _, rfl, hRi, _, rfl, rfl, true, ?_, iteT ?_⟩
      · rw [vec_len, decide_eq_true rfl]
      refine ⟨_, rfl, true, bs i, _, rfl, hRi, fun D2 hD2 => ?_⟩
      have nD : D ≠ D2 := ne_of_none p.2.2 hD2
      refine lc_it (walkB (T := true)) (fun j H' => Same H2 H' ∧ H' D2 = some (.lst ((List.replicate j true).map V.bl))) ⟨same_upd hD2, upd_same⟩ (fun j H' _ p => SqB.mono (T := true) p.1 hRi) (fun j x H' H3 hj p3 y => ?_) (fun H' p3 => ?_)
      · obtain ⟨rfl, hx⟩ := y
        obtain ⟨hj, rfl⟩ := vec_get hx
        refine ⟨rfl, rfl, _, rfl, o i j, rfl, fun w e => hnn i hi j hj w e, ?_⟩
        refine ⟨_, p3.2, ?_, same_mut p3.1 hD2, ?_⟩
        · rw [List.length_map, List.length_replicate]
          exact small1000 (by omega)
        · rw [upd_same, List.replicate_succ', List.map_append]
          rfl
      · refine ⟨D2, _, rfl, SqL.of p3.2, ?_⟩
        have e : (List.replicate (vec n fun j => eV (o i j)).length true).all id = true := by
          rw [List.all_eq_true]
          intro x hx
          rw [List.eq_of_mem_replicate hx]
          rfl
        rw [e]
        refine ⟨_, p3.1 _ _ p.2.2, ?_, same_mut (p.1.trans p3.1) p.2.1, p.2.1, ?_⟩
        · rw [List.length_map, List.length_replicate]
          exact small1000 (by omega)
        · rw [upd_same, List.replicate_succ', List.map_append]
          rfl
    · refine ⟨D, _, rfl, SqL.of p.2.2, ?_⟩
      have e : (List.replicate (vec n fun i => V.ref (bs i)).length true).all id = true := by
        rw [List.all_eq_true]
        intro x hx
        rw [List.eq_of_mem_replicate hx]
        rfl
      rw [e]
      exact q _ p.1
/-! ### is_patterned, check_pattern -/
abbrev N_is_patterned : List Str := ["value"]
abbrev P_is_patterned : List Str := ["value"]
theorem sc_is_patterned : FnScope N_is_patterned P_is_patterned (defScope s_is_patterned) := ⟨rfl, rfl, rfl, by decide +kernel, rfl, by decide +kernel, by decide +kernel⟩
def sp_is_patterned (K : PySem.W.Frag) : Sp := fun vs H Q _ => ∃ (v : V) (n : Nat) (o : Pat), vs = [v] ∧ PatB true true K H v n o ∧ 0 < n ∧ n ≤ 1000 ∧ NonNeg n o ∧ ∀ H', Same H H' → Q (.bl true) H'
theorem ok_is_patterned (T : Txt K mg) : FnOk P w K mg base CX0 4 T.f_is_patterned.f T.f_is_patterned.fd P_is_patterned (sp_is_patterned K) := by
  refine T.f_is_patterned.F.ok sc_is_patterned (fun vs H Q E h => ?_) (fun cdv A outer s H vs Q E hr h => ?_)
  · obtain ⟨v, n, o, rfl, _⟩ := h
    rfl
  · obtain ⟨v, n, o, rfl, hP, h0, hn, hnn, q⟩ := h
    refine ⟨_, (pss_one (ps_ret (pe_call (ok_is_square_of T) (hr.mono (by decide)) (by rfl) T.f_is_square_of.g T.f_is_square_of.F.kp T.f_is_square_of.b .nil pass0 (pa_cons (pv 0) (pa_cons (pe_glob (v := .ref T.f_is_entry.f) (by rfl) T.f_is_entry.g rfl) pa_nil))))), ?_⟩
    exact ⟨_, rfl, v, n, o, rfl, hP, h0, hn, hnn, q⟩
abbrev N_check_pattern : List Str := ["value"]
abbrev P_check_pattern : List Str := ["value"]
theorem sc_check_pattern : FnScope N_check_pattern P_check_pattern (defScope s_check_pattern) := ⟨rfl, rfl, rfl, by decide +kernel, rfl, by decide +kernel, by decide +kernel⟩
def sp_check_pattern (K : PySem.W.Frag) : Sp := fun vs H Q _ => ∃ (v : V) (n : Nat) (o : Pat), vs = [v] ∧ PatB true true K H v n o ∧ 0 < n ∧ n ≤ 1000 ∧ NonNeg n o ∧ ∀ H', Same H H' → Q .non H'
theorem ok_check_pattern (T : Txt K mg) : FnOk P w K mg base CX0 5 T.f_check_pattern.f T.f_check_pattern.fd P_check_pattern (sp_check_pattern K) := by
  refine T.f_check_pattern.F.ok sc_check_pattern (fun vs H Q E h => ?_) (fun cdv A outer s H vs Q E hr h => ?_)
  · obtain ⟨v, n, o, rfl, _⟩ := h
    rfl
  · obtain ⟨v, n, o, rfl, hP, h0, hn, hnn, q⟩ := h
    refine ⟨_, (pss_one (ps_if (pt_not (pt_val (pe_call (ok_is_patterned T) (hr.mono (by decide)) (by rfl) T.f_is_patterned.g T.f_is_patterned.F.kp T.f_is_patterned.b .nil pass0 (pa_cons (pv 0) pa_nil)))) (pss_one ps_never) pss_nil)), ?_⟩
    exact ⟨_, rfl, v, n, o, rfl, hP, h0, hn, hnn, fun H' s' => ⟨true, rfl, q H' s'⟩⟩
end
end Hid
/-! The class Choosing: its object; lists of tuples; gaps_of. -/
namespace Hid
open PySem PySem.Spec PyProof.Rows L2

/-! ### lists of new tuples -/
theorem paired_get {α β : Type} {R : α → β → Prop} : ∀ {xs : List α} {ys : List β} {i : Nat} {x : α}, Paired R xs ys → xs[i]? = some x → ∃ y, ys[i]? = some y ∧ R x y
  | _, _, _, _, .nil, e => by simp at e
  | _, _, 0, _, .cons r _, e => by
    simp at e
    subst e
    exact ⟨_, rfl, r⟩
  | _, _, i + 1, x, .cons _ t, e => by
    obtain ⟨u, h1, h2⟩ := paired_get (i := i) (x := x) t (by simpa using e)
    exact ⟨u, by simpa using h1, h2⟩
theorem paired_app {α β : Type} {R : α → β → Prop} : ∀ {xs xs' : List α} {ys ys' : List β}, Paired R xs ys → Paired R xs' ys' → Paired R (xs ++ xs') (ys ++ ys')
  | _, _, _, _, .nil, h => h
  | _, _, _, _, .cons r t, h => .cons r (paired_app t h)
/-- tuples stand -/
def TK (H H' : Hp) : Prop := ∀ b xs, H b = some (.tup xs) → H' b = some (.tup xs)
theorem same_tk {H H' : Hp} (s : Same H H') : TK H H' := fun b xs e => s b _ e
theorem tk_upd {H : Hp} {p : Addr} {o : HO} (h : ∀ xs, H p ≠ some (.tup xs)) : TK H (upd H p o) := fun b xs e => by
  rw [upd_ne (fun z => h xs (by rw [← z]; exact e))]
  exact e
theorem TK.trans {H H1 H2 : Hp} (a : TK H H1) (b : TK H1 H2) : TK H H2 := fun c xs e => b c xs (a c xs e)
section
variable {α : Type} {enc : α → List V}
/-- x is a tuple of what a is written as -/
def IsT (enc : α → List V) (H : Hp) (x : V) (a : α) : Prop := ∃ b, x = .ref b ∧ H b = some (.tup (enc a))
/-- a list of such tuples at D -/
def LT (enc : α → List V) (H : Hp) (D : Addr) (l : List α) : Prop := ∃ xs, H D = some (.lst xs) ∧ Paired (IsT enc H) xs l
theorem IsT.tk {H H' : Hp} {x : V} {a : α} (k : TK H H') (h : IsT enc H x a) : IsT enc H' x a := by
  obtain ⟨b, e, hb⟩ := h
  exact ⟨b, e, k _ _ hb⟩
theorem LT.mono {H H' : Hp} {D : Addr} {l : List α} (s : Same H H') (h : LT enc H D l) : LT enc H' D l := by
  obtain ⟨xs, h1, h2⟩ := h
  exact ⟨xs, s _ _ h1, Paired.mapP h2 fun _ _ q => q.tk (same_tk s)⟩
theorem LT.keep {H H' : Hp} {D : Addr} {l : List α} (k : TK H H') (hD : ∀ o, H D = some o → H' D = some o) (h : LT enc H D l) : LT enc H' D l := by
  obtain ⟨xs, h1, h2⟩ := h
  exact ⟨xs, hD _ h1, Paired.mapP h2 fun _ _ q => q.tk k⟩
theorem lt_nil {H : Hp} {D : Addr} : LT enc (upd H D (.lst [])) D [] := ⟨[], upd_same, .nil⟩
theorem LT.len {H : Hp} {D : Addr} {l : List α} {xs : List V} (h : LT enc H D l) (e : H D = some (.lst xs)) : xs.length = l.length := by
  obtain ⟨ys, h1, h2⟩ := h
  rw [h1] at e
  cases e
  exact Paired.length h2
/-- one more tuple at the end -/
theorem lt_snoc {H : Hp} {D : Addr} {l : List α} {acc : List V} {x : V} {a : α} (h : LT enc H D l) (e : H D = some (.lst acc)) (hx : IsT enc H x a) : LT enc (upd H D (.lst (acc ++ [x]))) D (l ++ [a]) := by
  obtain ⟨ys, h1, h2⟩ := h
  have z : ys = acc := HO.lst.inj (Option.some.inj (h1.symm.trans e))
  subst z
  have k : TK H (upd H D (.lst (ys ++ [x]))) := tk_upd fun xs z => by
    rw [h1] at z
    cases z
  exact ⟨_, upd_same, paired_app (Paired.mapP h2 fun _ _ q => q.tk k) (.cons (hx.tk k) .nil)⟩
theorem LT.seq {K : PySem.W.Frag} {H : Hp} {D : Addr} {l : List α} (h : LT enc H D l) : ∃ xs, SqB false K H D xs ∧ xs.length = l.length ∧ Paired (IsT enc H) xs l ∧ H D = some (.lst xs) := by
  obtain ⟨xs, h1, h2⟩ := h
  exact ⟨xs, SqB.lst h1, Paired.length h2, h2, h1⟩
end
theorem fm_succ {α : Type} (f : Nat → Option α) (n : Nat) : (List.range (n + 1)).filterMap f = (List.range n).filterMap f ++ (f n).toList := by
  rw [List.range_succ, List.filterMap_append]
  cases e : f n with
  | none => simp [e]
  | some a => simp [e]
theorem fm_len {α : Type} (f : Nat → Option α) (n : Nat) : ((List.range n).filterMap f).length ≤ n := by
  have h := List.length_filterMap_le f (List.range n)
  rwa [List.length_range] at h
/-- pairs -/
def enP (q : Nat × Int) : List V := [.int q.1, .int q.2]
/-- unknowns by equations: None or the equation -/
def oV : Option Nat → V
  | none => .non
  | some e => .int e

/-! ### the object -/
structure Self where
  p : Addr
  oa : Addr
  ga : Addr
  ta : Addr
  pv : V
def cfs (z : Self) (sv : V) : List (Str × V) := [("pattern", z.pv), ("owners", .ref z.oa), ("grown", .ref z.ga), ("tops", .ref z.ta), ("short", sv)]
theorem cfs_pattern (z : Self) (sv : V) : (cfs z sv).lookup ("pattern" : Str) = some z.pv := rfl
theorem cfs_owners (z : Self) (sv : V) : (cfs z sv).lookup ("owners" : Str) = some (.ref z.oa) := rfl
theorem cfs_grown (z : Self) (sv : V) : (cfs z sv).lookup ("grown" : Str) = some (.ref z.ga) := rfl
theorem cfs_tops (z : Self) (sv : V) : (cfs z sv).lookup ("tops" : Str) = some (.ref z.ta) := rfl
theorem cfs_short (z : Self) (sv : V) : (cfs z sv).lookup ("short" : Str) = some sv := rfl
theorem cfs_put (z : Self) (sv v : V) : putF "short" v (cfs z sv) = cfs z v := rfl
/-- the object at z.p: who has what, offsets; H0: the heap ahead of it, with its pattern -/
structure Cho (K : PySem.W.Frag) (C : Addr) (H0 H : Hp) (z : Self) (n : Nat) (o : Pat) (own : Nat → Option Nat) (g t : Nat → Int) (sv : V) : Prop where
  s0 : Same H0 H
  pat : ∃ T U, PatB T U K H0 z.pv n o
  fp : H0 z.p = none
  fo : H0 z.oa = none
  fg : H0 z.ga = none
  ft : H0 z.ta = none
  ob : ∃ dx, H z.p = some (.ins C dx (cfs z sv))
  ow : H z.oa = some (.lst (vec n fun u => oV (own u)))
  gr : H z.ga = some (.lst (vec n fun e => .int (g e)))
  tp : H z.ta = some (.lst (vec n fun u => .int (t u)))
  og : z.oa ≠ z.ga
  ot : z.oa ≠ z.ta
  gt : z.ga ≠ z.ta
section
variable {K : PySem.W.Frag} {C : Addr} {H0 H H' : Hp} {z : Self} {n : Nat} {o : Pat} {own : Nat → Option Nat} {g t : Nat → Int} {sv : V}
theorem Cho.mono (c : Cho K C H0 H z n o own g t sv) (s : Same H H') : Cho K C H0 H' z n o own g t sv := by
  obtain ⟨dx, h⟩ := c.ob
  exact ⟨c.s0.trans s, c.pat, c.fp, c.fo, c.fg, c.ft, ⟨dx, s _ _ h⟩, s _ _ c.ow, s _ _ c.gr, s _ _ c.tp, c.og, c.ot, c.gt⟩
theorem Cho.sb {l : List Addr} (c : Cho K C H0 H z n o own g t sv) (s : SB l H H') (h0 : ∀ x, x ∈ l → H0 x = none) (h : z.p ∉ l ∧ z.oa ∉ l ∧ z.ga ∉ l ∧ z.ta ∉ l) : Cho K C H0 H' z n o own g t sv := by
  obtain ⟨dx, q⟩ := c.ob
  exact ⟨same_of_sb c.s0 s h0, c.pat, c.fp, c.fo, c.fg, c.ft, ⟨dx, s _ _ q h.1⟩, s _ _ c.ow h.2.1, s _ _ c.gr h.2.2.1, s _ _ c.tp h.2.2.2, c.og, c.ot, c.gt⟩
theorem Cho.po (c : Cho K C H0 H z n o own g t sv) : z.p ≠ z.oa := by
  obtain ⟨dx, h⟩ := c.ob
  exact ne_of h c.ow (by intro q; cases q)
theorem Cho.pg (c : Cho K C H0 H z n o own g t sv) : z.p ≠ z.ga := by
  obtain ⟨dx, h⟩ := c.ob
  exact ne_of h c.gr (by intro q; cases q)
theorem Cho.pt (c : Cho K C H0 H z n o own g t sv) : z.p ≠ z.ta := by
  obtain ⟨dx, h⟩ := c.ob
  exact ne_of h c.tp (by intro q; cases q)
/-- a row of the pattern -/
theorem Cho.row (c : Cho K C H0 H z n o own g t sv) : ∃ (T U : Bool) (a : Addr) (bs : Nat → Addr), z.pv = .ref a ∧ SqB T K H a (vec n fun i => .ref (bs i)) ∧ ∀ i, i < n → SqB U K H (bs i) (vec n fun j => eV (o i j)) := by
  obtain ⟨T, U, a, bs, e, h1, h2⟩ := c.pat
  exact ⟨T, U, a, bs, e, h1.mono c.s0, fun i hi => (h2 i hi).mono c.s0⟩
theorem Cho.setG (c : Cho K C H0 H z n o own g t sv) {k : Nat} {v : Int} : Cho K C H0 (upd H z.ga (.lst ((vec n fun e => .int (g e)).set k (.int v)))) z n o own (fun i => if i = k then v else g i) t sv := by
  obtain ⟨dx, h⟩ := c.ob
  refine ⟨same_mut c.s0 c.fg, c.pat, c.fp, c.fo, c.fg, c.ft, ⟨dx, by rw [upd_ne c.pg]; exact h⟩, by rw [upd_ne c.og]; exact c.ow, ?_, by rw [upd_ne (fun q => c.gt q.symm)]; exact c.tp, c.og, c.ot, c.gt⟩
  rw [upd_same, vec_set]
  congr 2
  refine vec_congr fun i hi => ?_
  by_cases e : i = k
  · rw [if_pos e, if_pos e]
  · rw [if_neg e, if_neg e]
theorem Cho.setT (c : Cho K C H0 H z n o own g t sv) {k : Nat} {v : Int} : Cho K C H0 (upd H z.ta (.lst ((vec n fun e => .int (t e)).set k (.int v)))) z n o own g (fun i => if i = k then v else t i) sv := by
  obtain ⟨dx, h⟩ := c.ob
  refine ⟨same_mut c.s0 c.ft, c.pat, c.fp, c.fo, c.fg, c.ft, ⟨dx, by rw [upd_ne c.pt]; exact h⟩, by rw [upd_ne c.ot]; exact c.ow, by rw [upd_ne c.gt]; exact c.gr, ?_, c.og, c.ot, c.gt⟩
  rw [upd_same, vec_set]
  congr 2
  refine vec_congr fun i hi => ?_
  by_cases e : i = k
  · rw [if_pos e, if_pos e]
  · rw [if_neg e, if_neg e]
theorem Cho.setO (c : Cho K C H0 H z n o own g t sv) {k e : Nat} : Cho K C H0 (upd H z.oa (.lst ((vec n fun u => oV (own u)).set k (.int (e : Int))))) z n o (setO own k e) g t sv := by
  obtain ⟨dx, h⟩ := c.ob
  refine ⟨same_mut c.s0 c.fo, c.pat, c.fp, c.fo, c.fg, c.ft, ⟨dx, by rw [upd_ne c.po]; exact h⟩, ?_, by rw [upd_ne (fun q => c.og q.symm)]; exact c.gr, by rw [upd_ne (fun q => c.ot q.symm)]; exact c.tp, c.og, c.ot, c.gt⟩
  rw [upd_same, vec_set]
  congr 2
  refine vec_congr fun i hi => ?_
  unfold Hid.setO
  by_cases e : i = k
  · rw [if_pos e, if_pos e]
    rfl
  · rw [if_neg e, if_neg e]
theorem Cho.setS (c : Cho K C H0 H z n o own g t sv) {dx : Addr} {v : V} : Cho K C H0 (upd H z.p (.ins C dx (cfs z v))) z n o own g t v :=
  ⟨same_mut c.s0 c.fp, c.pat, c.fp, c.fo, c.fg, c.ft, ⟨dx, upd_same⟩, by rw [upd_ne (fun q => c.po q.symm)]; exact c.ow, by rw [upd_ne (fun q => c.pg q.symm)]; exact c.gr, by rw [upd_ne (fun q => c.pt q.symm)]; exact c.tp, c.og, c.ot, c.gt⟩
theorem Cho.congr (c : Cho K C H0 H z n o own g t sv) {own' : Nat → Option Nat} {g' t' : Nat → Int} (h1 : ∀ i, i < n → own i = own' i) (h2 : ∀ i, i < n → g i = g' i) (h3 : ∀ i, i < n → t i = t' i) : Cho K C H0 H z n o own' g' t' sv :=
  ⟨c.s0, c.pat, c.fp, c.fo, c.fg, c.ft, c.ob, by rw [c.ow, vec_congr fun i hi => by rw [h1 i hi]], by rw [c.gr, vec_congr fun i hi => by rw [h2 i hi]], by rw [c.tp, vec_congr fun i hi => by rw [h3 i hi]], c.og, c.ot, c.gt⟩
end
section
variable {P : Program} {w : World} {K : PySem.W.Frag} {mg : Str → Option Value} {base : Heap}
/-! ### gaps_of -/
abbrev N_gaps_of : List Str := ["self", "equation", "row", "grown", "found", "unknown", "order"]
abbrev P_gaps_of : List Str := ["self", "equation"]
theorem sc_gaps_of : FnScope N_gaps_of P_gaps_of (defScope s_gaps_of) := ⟨rfl, rfl, rfl, by decide +kernel, rfl, by decide +kernel, by decide +kernel⟩
def sp_gaps_of (K : PySem.W.Frag) (C : Addr) : Sp := fun vs H Q _ => ∃ (H0 : Hp) (z : Self) (n : Nat) (o : Pat) (own : Nat → Option Nat) (g t : Nat → Int) (sv : V) (i : Nat),
  vs = [.ref z.p, .int (i : Int)] ∧ Cho K C H0 H z n o own g t sv ∧ i < n ∧ n ≤ 1000 ∧ ∀ H' r, Same H H' → H r = none → LT enP H' r (gapsL n o g t i) → Q (.ref r) H'
theorem ok_gaps_of (T : Txt K mg) : FnOk P w K mg base CX0 1 T.m_gaps_of.f T.m_gaps_of.fd P_gaps_of (sp_gaps_of K T.C) := by
  refine T.m_gaps_of.F.ok sc_gaps_of (fun vs H Q E h => ?_) (fun cdv A outer s H vs Q E hr h => ?_)
  · obtain ⟨H0, z, n, o, own, g, t, sv, i, rfl, _⟩ := h
    rfl
  · obtain ⟨H0, z, n, o, own, g, t, sv, i, rfl, c, hi, hn, q⟩ := h
    refine ⟨_, (pss_cons (ps_asg (pe_tup (pa_cons (pe_ix (ixK K) (fldK K (pv 0)) (pv 1) (fun _ _ => rfl)) (pa_cons (pe_ix (ixK K) (fldK K (pv 0)) (pv 1) (fun _ _ => rfl)) pa_nil))) (tupK K (n := 2) rfl (pgs_cons (pg_name (i := 2) sc_gaps_of.nd rfl (Or.inl rfl)) (pgs_cons (pg_name (i := 3) sc_gaps_of.nd rfl (Or.inr rfl)) pgs_nil))))
      (pss_cons (ps_setLc (i := 4) (own := [("unknown", 5), ("order", 6)]) rfl sc_gaps_of.nd rfl rfl (sw_true rfl rfl rfl (by decide +kernel)) (enumK K (by rfl) T.z_enumerate (pa_cons (pv 2) pa_nil)) (blkOk_by (own := [("unknown", 5), ("order", 6)]) (N := N_gaps_of) (sc := defScope s_gaps_of) (by decide +kernel)) (fun _ _ _ _ _ => (tupK K (n := 2) rfl (pgs_cons (pg_name (i := 5) sc_gaps_of.nd rfl (Or.inl rfl)) (pgs_cons (pg_name (i := 6) sc_gaps_of.nd rfl (Or.inl rfl)) pgs_nil)))) (fun _ _ _ _ _ => pts_one (pt_cmpR op_notN (pv 6) pe_non (nomark _))) (fun _ _ _ _ _ => (pe_tup (pa_cons (pv 5) (pa_cons (pv 6) pa_nil)))))
      (pss_one (ps_ret (pe_lc (own := [("unknown", 5), ("order", 6)]) rfl sc_gaps_of.nd (seqK K (pv 4)) (blkOk_by (own := [("unknown", 5), ("order", 6)]) (N := N_gaps_of) (sc := defScope s_gaps_of) (by decide +kernel)) (fun _ _ _ _ _ => (tupK K (n := 2) rfl (pgs_cons (pg_name (i := 5) sc_gaps_of.nd rfl (Or.inl rfl)) (pgs_cons (pg_name (i := 6) sc_gaps_of.nd rfl (Or.inl rfl)) pgs_nil)))) (fun _ _ _ _ _ => pts_nil) (fun _ _ _ _ _ => (pe_tup (pa_cons (pv 5) (pa_cons (pe_op op_sub (pe_op op_sub (pe_ix (ixK K) (fldK K (pv 0)) (pv 5) (fun _ _ => rfl)) (pv 3)) (pv 6)) pa_nil))))))))), ?_⟩
    obtain ⟨dx, hob⟩ := id c.ob
    obtain ⟨Tp, U, a, bs, epv, hS, hR⟩ := c.row
    refine ⟨_, rfl, z.p, T.C, dx, _, z.pv, rfl, hob, T.cls, T.n_pattern, cfs_pattern z sv, _, rfl, Tp, a, _, i, .ref (bs i), epv, rfl, hS, vec_at hi, ?_⟩
    refine ⟨_, rfl, z.p, T.C, dx, _, .ref z.ga, rfl, hob, T.cls, T.n_grown, cfs_grown z sv, _, rfl, false, z.ga, _, i, .int (g i), rfl, rfl, SqB.lst c.gr, vec_at hi, ?_⟩
    refine ⟨by show 2 ≤ sizeLine; decide, fun p0 hp0 => ?_⟩
    refine ⟨p0, _, rfl, SqT.of upd_same, rfl, _, _, rfl, _, _, rfl, rfl, ?_⟩
    have s1 : Same H (upd H p0 (.tup [.ref (bs i), .int (g i)])) := same_upd hp0
    generalize upd H p0 (.tup [.ref (bs i), .int (g i)]) = H1 at s1
    refine ⟨_, rfl, U, bs i, _, rfl, (hR i hi).mono s1, fun D hD => ?_⟩
    refine lc_it walk_enumB (fun j H' => Same H1 H' ∧ LT enP H' D ((List.range j).filterMap fun u => (o i u).map fun w => (u, w))) ⟨same_upd hD, lt_nil⟩ (fun j H' _ p => (hR i hi).mono (s1.trans p.1)) (fun j x H' H2 hj p y => ?_) (fun H' p => ?_)
    · obtain ⟨p1, x1, x2, rfl, hp1, rfl, e1, e2⟩ := y
      rw [vec_len] at hj
      obtain ⟨_, rfl⟩ := vec_get (show (vec n fun j => eV (o i j))[j]? = some x2 from e2)
      obtain rfl : V.int (j : Int) = x1 := Option.some.inj e1
      have s2 : Same H' (upd H' p1 (.tup [.int (j : Int), eV (o i j)])) := same_upd hp1
      refine ⟨p1, _, rfl, SqT.of upd_same, rfl, _, _, rfl, _, _, rfl, rfl, rfl, ?_⟩
      refine ⟨_, rfl, rfl, _, rfl, ?_⟩
      rw [fm_succ]
      cases e : o i j with
      | none =>
        rw [e] at s2
        refine ⟨p.1.trans s2, ?_⟩
        have z : LT enP H' D ((List.range j).filterMap (fun u => (o i u).map fun w => (u, w)) ++ ((none : Option Int).map fun w => (j, w)).toList) := by simpa using p.2
        exact z.mono s2
      | some w =>
        rw [e] at s2
        refine ⟨_, rfl, _, rfl, by show 2 ≤ sizeLine; decide, fun p2 hp2 => ?_⟩
        have s3 : Same (upd H' p1 (.tup [.int (j : Int), eV (some w)])) _ := same_upd (o := .tup [.int (j : Int), .int w]) hp2
        have L3 := LT.mono (s2.trans s3) p.2
        obtain ⟨acc, h1, h2, _, h4⟩ := L3.seq (K := K)
        refine ⟨acc, h4, sz64' ?_, same_mut (p.1.trans (s2.trans s3)) hD, ?_⟩
        · have q1 := fm_len (fun u => (o i u).map fun w => (u, w)) j
          omega
        · exact lt_snoc L3 h4 ⟨p2, rfl, upd_same⟩
    ·
      have hlen := vec_len n fun j => eV (o i j)
      obtain ⟨xs, x1, x2, x3, x4⟩ := p.2.seq (K := K)
      have s4 : Same H H' := s1.trans p.1
      have hl1 : ((List.range (vec n fun j => eV (o i j)).length).filterMap fun u => (o i u).map fun w => (u, w)).length ≤ 1000 := by
        have q1 := fm_len (fun u => (o i u).map fun w => (u, w)) (vec n fun j => eV (o i j)).length
        omega
      generalize hl : ((List.range (vec n fun j => eV (o i j)).length).filterMap fun u => (o i u).map fun w => (u, w)) = l1 at x2 x3 hl1
      refine ⟨_, rfl, false, D, xs, rfl, x1, fun D2 hD2 => ?_⟩
      refine lc_it (walkB (T := false)) (fun j H3 => Same H' H3 ∧ LT enP H3 D2 ((l1.take j).map fun q => (q.1, t q.1 - g i - q.2))) ⟨same_upd hD2, lt_nil⟩ (fun j H3 _ p3 => SqB.mono (T := false) p3.1 x1) (fun j x H3 H4 hj p3 y => ?_) (fun H3 p3 => ?_)
      · obtain ⟨rfl, hx⟩ := y
        obtain ⟨⟨u, wd⟩, hq, b, rfl, hb⟩ := paired_get x3 hx
        have hu : u < n := by
          have m := List.mem_of_getElem? hq
          rw [← hl] at m
          obtain ⟨a', ha', e⟩ := List.mem_filterMap.mp m
          cases e2 : o i a' with
          | none =>
            rw [e2] at e
            cases e
          | some v =>
            rw [e2] at e
            cases e
            rw [hlen] at ha'
            exact List.mem_range.mp ha'
        have hb3 : H4 b = some (.tup (enP (u, wd))) := p3.1 _ _ hb
        have c4 := (c.mono s4).mono p3.1
        obtain ⟨dx', hob'⟩ := c4.ob
        refine ⟨b, _, rfl, SqT.of hb3, rfl, _, _, rfl, _, _, rfl, rfl, rfl, ?_⟩
        refine ⟨_, rfl, _, rfl, z.p, T.C, dx', _, .ref z.ta, rfl, hob', T.cls, T.n_tops, cfs_tops z sv, _, rfl, false, z.ta, _, u, .int (t u), rfl, rfl, SqB.lst c4.tp, vec_at hu, _, rfl, _, _, rfl, rfl, _, rfl, _, _, rfl, rfl, ?_⟩
        refine ⟨by show 2 ≤ sizeLine; decide, fun p5 hp5 => ?_⟩
        have s5 : Same H4 (upd H4 p5 (.tup [.int (u : Int), .int (t u - g i - wd)])) := same_upd hp5
        have L5 := p3.2.mono s5
        obtain ⟨acc, h1, h2, _, h4⟩ := L5.seq (K := K)
        refine ⟨acc, h4, sz64' ?_, same_mut (p3.1.trans s5) hD2, ?_⟩
        · rw [h2, List.length_map, List.length_take]
          omega
        · rw [List.take_add_one, hq, List.map_append]
          exact lt_snoc L5 h4 ⟨p5, rfl, upd_same⟩
      · refine q _ _ (s4.trans p3.1) (s4.free hD2) ?_
        have e : gapsL n o g t i = (l1.take xs.length).map fun q => (q.1, t q.1 - g i - q.2) := by
          rw [x2, List.take_length, ← hl, List.map_filterMap, hlen]
          unfold gapsL
          congr 1
          funext u
          cases o i u with
          | none => rfl
          | some wd => rfl
        rw [e]
        exact p3.2
end
end Hid
/-! The class Choosing: reached, free_in. -/
namespace Hid
open PySem PySem.Spec PyProof.Rows L2
/-- a list of numbers; a dict of unknowns with equations -/
def iL (l : List Nat) : List V := l.map fun (j : Nat) => .int (j : Int)
theorem iL_len (l : List Nat) : (iL l).length = l.length := by
  unfold iL
  rw [List.length_map]
theorem iL_at {l : List Nat} {i j : Nat} (h : l[i]? = some j) : (iL l)[i]? = some (.int (j : Int)) := by
  unfold iL
  rw [List.getElem?_map, h]
  rfl
theorem iL_get {l : List Nat} {i : Nat} {x : V} (h : (iL l)[i]? = some x) : ∃ j, l[i]? = some j ∧ x = .int (j : Int) := by
  unfold iL at h
  rw [List.getElem?_map] at h
  cases e : l[i]? with
  | none =>
    rw [e] at h
    cases h
  | some j =>
    rw [e] at h
    exact ⟨j, rfl, (Option.some.inj h).symm⟩
theorem iL_snoc (l : List Nat) (j : Nat) : iL (l ++ [j]) = iL l ++ [.int (j : Int)] := by
  unfold iL
  rw [List.map_append]
  rfl
def dC (came : List (Nat × Nat)) : List (Key × V) := came.map fun p => (Sum.inl (p.1 : Int), .int (p.2 : Int))
theorem dC_len (came : List (Nat × Nat)) : (dC came).length = came.length := by
  unfold dC
  rw [List.length_map]
theorem dC_none : ∀ {came : List (Nat × Nat)} {u : Nat}, u ∉ keys came → valV (dC came) (Sum.inl (u : Int) : Key) = none
  | [], _, _ => rfl
  | p :: r, u, h => by
    have h1 : ¬ p.1 = u := fun z => h (by rw [← z]; exact List.mem_cons_self)
    have h2 : u ∉ keys r := fun z => h (List.mem_cons_of_mem _ z)
    show valV ((Sum.inl (p.1 : Int), V.int (p.2 : Int)) :: dC r) _ = none
    rw [valV_neg (by intro z; have z' : (p.1 : Int) = (u : Int) := Sum.inl.inj z; omega)]
    exact dC_none h2
theorem dC_some : ∀ {came : List (Nat × Nat)} {u : Nat}, u ∈ keys came → ∃ (j e : Nat), came[j]? = some (u, e) ∧ valV (dC came) (Sum.inl (u : Int) : Key) = some (.int (e : Int))
  | [], _, h => absurd h List.not_mem_nil
  | p :: r, u, h => by
    show ∃ (j e : Nat), (p :: r)[j]? = some (u, e) ∧ valV ((Sum.inl (p.1 : Int), V.int (p.2 : Int)) :: dC r) _ = some (.int (e : Int))
    by_cases h1 : p.1 = u
    · refine ⟨0, p.2, by rw [← h1]; rfl, ?_⟩
      rw [valV_pos (by show (Sum.inl (p.1 : Int) : Key) = Sum.inl (u : Int); rw [h1])]
    · have h2 : u ∈ keys r := by
        rcases List.mem_cons.mp h with z | z
        · exact absurd z.symm h1
        · exact z
      obtain ⟨j, e, q1, q2⟩ := dC_some h2
      refine ⟨j + 1, e, by simpa using q1, ?_⟩
      rw [valV_neg (by intro z; have z' : (p.1 : Int) = (u : Int) := Sum.inl.inj z; omega)]
      exact q2
theorem dC_put {came : List (Nat × Nat)} {u e : Nat} (h : u ∉ keys came) : putK (dC came) (Sum.inl (u : Int) : Key) (.int (e : Int)) = dC (came ++ [(u, e)]) := by
  unfold putK
  rw [valV_any, dC_none h]
  unfold dC
  rw [List.map_append]
  rfl
section
variable {P : Program} {w : World} {K : PySem.W.Frag} {mg : Str → Option Value} {base : Heap}
/-! ### reached -/
abbrev N_reached : List Str := ["self", "start", "lot", "came", "at", "unknown", "gap"]
abbrev P_reached : List Str := ["self", "start"]
theorem sc_reached : FnScope N_reached P_reached (defScope s_reached) := ⟨rfl, rfl, rfl, by decide +kernel, rfl, by decide +kernel, by decide +kernel⟩
def sp_reached (K : PySem.W.Frag) (C : Addr) : Sp := fun vs H Q _ => ∃ (H0 : Hp) (z : Self) (n : Nat) (o : Pat) (own : Nat → Option Nat) (g t : Nat → Int) (sv : V) (eq : Nat),
  vs = [.ref z.p, .int (eq : Int)] ∧ Cho K C H0 H z n o own g t sv ∧ Mat n own eq ∧ eq < n ∧ n ≤ 1000 ∧
  ∀ H' r l d lot came, Same H H' → H l = none → H d = none → H' r = some (.tup [.ref l, .ref d]) → H' l = some (.lst (iL lot)) → H' d = some (.dK (dC came)) → Bfs n o g t own eq lot came lot.length → Q (.ref r) H'
theorem ok_reached (T : Txt K mg) : FnOk P w K mg base CX0 2 T.m_reached.f T.m_reached.fd P_reached (sp_reached K T.C) := by
  refine T.m_reached.F.ok sc_reached (fun vs H Q E h => ?_) (fun cdv A outer s H vs Q E hr h => ?_)
  · obtain ⟨H0, z, n, o, own, g, t, sv, i, rfl, _⟩ := h
    rfl
  · obtain ⟨H0, z, n, o, own, g, t, sv, eq, rfl, c, M, hlt, hn, q⟩ := h
    refine ⟨_, (pss_cons (ps_par3 (i := 2) (j := 3) (l := 4) rfl sc_reached.nd rfl rfl rfl (by decide) (by decide) (by decide) rfl rfl rfl (pa_cons (pe_lst (pa_cons (pv 1) pa_nil)) (pa_cons pe_dnewK (pa_cons pe_int pa_nil))) (by rfl))
      (pss_cons (ps_while PassesOwn.never (pt_cmpR op_lt (pv 4) (pe_callB (lenK K) (by rfl) T.z_len bz_len (pa_cons (pv 2) pa_nil)) (nomark _)) (pss_cons (ps_for PassesOwn.never rfl (seqK K (pe_meth (pv 0) T.cls T.m_gaps_of.m (ok_gaps_of T) (hr.mono (by decide)) T.m_gaps_of.b .nil pass0 (pa_cons (pe_ix (ixK K) (pv 2) (pv 4) (fun _ _ => rfl)) pa_nil))) (tupK K (n := 2) rfl (pgs_cons (pg_name (i := 5) sc_reached.nd rfl (Or.inl rfl)) (pgs_cons (pg_name (i := 6) sc_reached.nd rfl (Or.inl rfl)) pgs_nil))) (pss_one (ps_if (PW.pt (pw_and (pt_cmpR op_eq (pv 6) pe_int (nomark _)) (pw_and1 (pt_cmp (pc_dnotin (hu_of hr) (pv 5) (pv 3)))))) (pss_cons (ps_dput (hu_of hr) (pv 3) (pv 5) (pe_ix (ixK K) (pv 2) (pv 4) (fun _ _ => rfl)) rfl)
      (pss_one (ps_if (pt_cmpR op_notN (pe_ix (ixK K) (fldK K (pv 0)) (pv 5) (fun _ _ => rfl)) pe_non (nomark _)) (pss_one (ps_expr (pe_bm PySem.F.plainAttrs_list PySem.F.slot_list_append PySem.F.type_list_append mt_append (pv 2) (pa_cons (pe_ix (ixK K) (fldK K (pv 0)) (pv 5) (fun _ _ => rfl)) pa_nil)))) pss_nil))) pss_nil)))
      (pss_one (ps_aug (i := 4) sc_reached.nd rfl (Or.inl rfl) pe_int ip_add))))
      (pss_one (ps_ret (pe_tup (pa_cons (pv 2) (pa_cons (pv 3) pa_nil))))))), ?_⟩
    refine ⟨_, rfl, by show 1 ≤ sizeLine; decide, fun l hl => ?_⟩
    intro d hd
    have s1 : Same H (upd H l (.lst [.int (eq : Int)])) := same_upd hl
    have hd0 : H d = none := s1.free hd
    have nld : l ≠ d := fun e => by
      rw [← e, upd_same] at hd
      cases hd
    refine ⟨_, _, _, rfl, ?_⟩
    refine ⟨fun m σ H' => ∃ (lot : List Nat) (came : List (Nat × Nat)) (k : Nat) (x5 x6 : Option V), σ = [some (.ref z.p), some (.int (eq : Int)), some (.ref l), some (.ref d), some (.int (k : Int)), x5, x6] ∧ m = n - k ∧
      Same H H' ∧ H' l = some (.lst (iL lot)) ∧ H' d = some (.dK (dC came)) ∧ Bfs n o g t own eq lot came k, ⟨n, [eq], [], 0, none, none, rfl, rfl, s1.trans (same_upd hd), ?_, upd_same, bfs_start⟩, fun m σ H' hw => ?_⟩
    · rw [upd_ne nld, upd_same]
      rfl
    obtain ⟨lot, came, k, x5, x6, rfl, rfl, sH, h1, h2, B⟩ := hw
    have hlen : lot.length ≤ n := lot_len M hlt B
    refine ⟨_, rfl, _, rfl, false, l, _, rfl, SqB.lst h1, _, _, rfl, rfl, _, rfl, ite2 (fun hk => ?_) (fun hk => ?_)⟩
    · have hk' : k < lot.length := by
        have e := of_decide_eq_true hk
        rw [iL_len] at e
        omega
      obtain ⟨e, he⟩ : ∃ e, lot[k]? = some e := ⟨lot[k], List.getElem?_eq_getElem hk'⟩
      have hen : e < n := Nat.lt_of_le_of_lt (lot_le M B (List.mem_of_getElem? he)) hlt
      have c' := c.mono sH
      obtain ⟨dx, hob⟩ := id c'.ob
      refine ⟨fun σ' H2 => ∃ (lot : List Nat) (came : List (Nat × Nat)) (x5 x6 : Option V), σ' = [some (.ref z.p), some (.int (eq : Int)), some (.ref l), some (.ref d), some (.int ((k + 1 : Nat) : Int)), x5, x6] ∧
        Same H H2 ∧ H2 l = some (.lst (iL lot)) ∧ H2 d = some (.dK (dC came)) ∧ Bfs n o g t own eq lot came (k + 1), fun σ' H2 hN => ?_, ?_⟩
      · obtain ⟨lot', came', y5, y6, rfl, a1, a2, a3, a4⟩ := hN
        exact ⟨n - (k + 1), by omega, lot', came', k + 1, y5, y6, rfl, rfl, a1, a2, a3, a4⟩
      refine ⟨_, rfl, z.p, dx, _, rfl, hob, rfl, _, rfl, _, rfl, false, l, _, k, _, rfl, rfl, SqB.lst h1, iL_at he, ?_⟩
      refine ⟨H0, z, n, o, own, g, t, sv, e, rfl, c', hen, hn, fun H3 r s3 hr0 L3 => ?_⟩
      obtain ⟨xs, x1, x2, x3, x4⟩ := L3.seq (K := K)
      have nlr : l ≠ r := ne_of_none h1 hr0
      have ndr : d ≠ r := ne_of_none h2 hr0
      refine ⟨false, r, xs, rfl, x1, ?_⟩
      refine for_it (walkB (T := false)) (fun j σ' H4 => ∃ (lot : List Nat) (came : List (Nat × Nat)) (x5 x6 : Option V), σ' = [some (.ref z.p), some (.int (eq : Int)), some (.ref l), some (.ref d), some (.int (k : Int)), x5, x6] ∧
        Same H H4 ∧ H4 l = some (.lst (iL lot)) ∧ H4 d = some (.dK (dC came)) ∧ Bfs n o g t own eq lot came k ∧ lot[k]? = some e ∧ TK H3 H4 ∧ H4 r = some (.lst xs) ∧ ∀ q, q ∈ (gapsL n o g t e).take j → q.2 = 0 → q.1 ∈ keys came)
        ⟨lot, came, x5, x6, rfl, sH.trans s3, s3 _ _ h1, s3 _ _ h2, B, he, fun _ _ q => q, x4, fun q hq => by simp at hq⟩ (fun j σ' H4 _ ⟨_, _, _, _, _, _, _, _, _, _, _, hx, _⟩ => SqB.lst hx) ?_ ?_
      · rintro j x σ' H4 H5 hj ⟨lot, came, x5, x6, rfl, sH4, h1, h2, B, he, tk, hx4, hall⟩ ⟨rfl, hx⟩
        obtain ⟨⟨u, gap⟩, hq, b, rfl, hb⟩ := paired_get x3 hx
        have hu : u < n := gaps_lt (List.mem_of_getElem? hq)
        have hb5 := tk _ _ hb
        have hlen : lot.length ≤ n := lot_len M hlt B
        have hclen : came.length ≤ n := came_len B
        have tk1 : ∀ q, q ∈ (gapsL n o g t e).take (j + 1) → q ∈ (gapsL n o g t e).take j ∨ q = (u, gap) := fun q hq' => by
          rw [List.take_add_one, hq] at hq'
          rcases List.mem_append.mp hq' with z | z
          · exact .inl z
          · exact .inr (by simpa using z)
        refine ⟨b, _, rfl, SqT.of hb5, rfl, _, _, rfl, _, _, rfl, rfl, ?_⟩
        refine ⟨_, rfl, rfl, _, rfl, ite2 (fun hg => ?_) (fun hg => ?_)⟩
        · have hg0 : gap = 0 := V.int.inj (of_decide_eq_true hg)
          subst hg0
          have hut : Tight o g t e u := (tight_gaps.mp (List.mem_of_getElem? hq)).2
          refine ⟨_, rfl, _, rfl, d, _, rfl, DGet.k (k := Sum.inl (u : Int)) h2, _, rfl, ?_⟩
          by_cases hm : u ∈ keys came
          · obtain ⟨_, _, _, ev⟩ := dC_some hm
            rw [ev]
            exact ⟨lot, came, _, _, rfl, sH4, h1, h2, B, he, tk, hx4, fun q hq' h0 => by
              rcases tk1 q hq' with z | z
              · exact hall q z h0
              · rw [z]; exact hm⟩
          · rw [dC_none hm]
            refine ⟨_, rfl, _, rfl, false, l, _, k, _, rfl, rfl, SqB.lst h1, iL_at he, _, rfl, _, rfl, d, _, rfl, DPut.k (k := Sum.inl (u : Int)) h2 (sz64' (by rw [dC_len]; omega)), ?_⟩
            rw [dC_put hm]
            have c6 : Cho K T.C H0 (upd H5 d (.dK (dC (came ++ [(u, e)])))) z n o own g t sv := c.mono (same_mut sH4 hd0)
            obtain ⟨dx6, hob6⟩ := id c6.ob
            have tk6 : TK H5 (upd H5 d (.dK (dC (came ++ [(u, e)])))) := tk_upd fun xs z => by rw [h2] at z; cases z
            have h16 : upd H5 d (.dK (dC (came ++ [(u, e)]))) l = some (.lst (iL lot)) := by rw [upd_ne nld]; exact h1
            have hx6 : upd H5 d (.dK (dC (came ++ [(u, e)]))) r = some (.lst xs) := by rw [upd_ne (fun z => ndr z.symm)]; exact hx4
            have B' := bfs_add B he hu hut hm
            have hk' : (keys (came ++ [(u, e)])) = keys came ++ [u] := by
              unfold keys
              rw [List.map_append]
              rfl
            have hall' : ∀ q, q ∈ (gapsL n o g t e).take (j + 1) → q.2 = 0 → q.1 ∈ keys (came ++ [(u, e)]) := fun q hq' h0 => by
              rw [hk']
              rcases tk1 q hq' with z | z
              · exact List.mem_append_left _ (hall q z h0)
              · rw [z]; exact List.mem_append_right _ (List.mem_singleton.mpr rfl)
            refine ⟨_, rfl, z.p, T.C, dx6, _, .ref z.oa, rfl, hob6, T.cls, T.n_owners, cfs_owners z sv, _, rfl, false, z.oa, _, u, _, rfl, rfl, SqB.lst c6.ow, vec_at hu, rfl, _, rfl, ?_⟩
            cases eo : own u with
            | none =>
              rw [eo] at B'
              have B2 : Bfs n o g t own eq lot (came ++ [(u, e)]) k := by simpa using B'
              exact ⟨lot, _, _, _, rfl, same_mut sH4 hd0, h16, upd_same, B2, he, tk.trans tk6, hx6, hall'⟩
            | some e' =>
              rw [eo] at B'
              refine ⟨_, rfl, .inl ⟨rfl, _, SqL.of h16⟩, _, rfl, z.p, T.C, dx6, _, .ref z.oa, rfl, hob6, T.cls, T.n_owners, cfs_owners z sv, _, rfl, false, z.oa, _, u, .int (e' : Int), rfl, rfl, SqB.lst c6.ow, ?_, l, _, _, rfl, rfl, h16, sz64' (by rw [iL_len]; omega), ?_⟩
              · rw [vec_at hu, eo]
                rfl
              · have tk7 : TK (upd H5 d (.dK (dC (came ++ [(u, e)])))) (upd (upd H5 d (.dK (dC (came ++ [(u, e)])))) l (.lst (iL lot ++ [.int (e' : Int)]))) := tk_upd fun xs z => by rw [h16] at z; cases z
                refine ⟨lot ++ [e'], _, _, _, rfl, same_mut (same_mut sH4 hd0) hl, ?_, ?_, B', ?_, (tk.trans tk6).trans tk7, ?_, hall'⟩
                · rw [upd_same, iL_snoc]
                · rw [upd_ne (fun z => nld z.symm), upd_same]
                · rw [List.getElem?_append_left (List.getElem?_eq_some_iff.mp he).1]
                  exact he
                · rw [upd_ne (fun z => nlr z.symm)]
                  exact hx6
        · refine ⟨lot, came, _, _, rfl, sH4, h1, h2, B, he, tk, hx4, fun q hq' h0 => ?_⟩
          rcases tk1 q hq' with z | z
          · exact hall q z h0
          · rw [z] at h0
            have h0' : gap = 0 := h0
            exact absurd (decide_eq_true (by rw [h0'])) hg
      · rintro σ' H4 ⟨lot, came, x5, x6, rfl, sH4, h1, h2, B, he, tk, hx4, hall⟩
        refine ⟨_, rfl, _, _, rfl, rfl, ?_⟩
        refine ⟨lot, came, x5, x6, rfl, sH4, h1, h2, bfs_next B he fun q hq h0 => hall q ?_ h0⟩
        rw [x2, List.take_length]
        exact hq
    · have hk' : k = lot.length := by
        have e : ¬ ((k : Int) < ((iL lot).length : Nat)) := fun z => hk (decide_eq_true z)
        rw [iL_len] at e
        have := B.le
        omega
      subst hk'
      refine ⟨_, rfl, _, rfl, by show 2 ≤ sizeLine; decide, fun r hr0 => ?_⟩
      have s5 : Same H' (upd H' r (.tup [.ref l, .ref d])) := same_upd hr0
      exact q _ r l d lot came (sH.trans s5) hl hd0 upd_same (s5 _ _ h1) (s5 _ _ h2) B
end
end Hid
/-! The class Choosing: free_in, raise_by. -/
namespace Hid
open PySem PySem.Spec PyProof.Rows L2
/-! ### comprehensions of two fors -/
section
variable {J J1 : It} {n n1 : Nat} {G G1 : Hp → Prop} {Y Y1 : Nat → Hp → V → Hp → Prop} {g g1 : TG} {tt tt1 : TT} {te : TE} {wi1 : TI} {vs vs1 : List Nat} {σ σ2 : L2.St} {H1 H4 : Hp} {D : Addr} {Qd Nx : Hp → Prop}
theorem lc2_it (w : Walk J n G Y) (Pv : Nat → Hp → Prop) (h0 : Pv 0 (upd H1 D (.lst []))) (hG : ∀ i H, i ≤ n → Pv i H → G H)
    (hs : ∀ i x H H', i < n → Pv i H → Y i H x H' → g x (wipe σ vs) H' fun σ2 H2 => wipe σ2 vs = wipe σ vs ∧ tt σ2 H2 fun b H3 =>
      if b = true then wi1 σ2 H3 fun J1 H4 => ∃ W1 : Nat → Nat → Hp → Prop, (∃ m, W1 0 m H4) ∧ ∀ j k H, W1 j k H →
        (J1.stop j H ∧ Pv (i + 1) H) ∨ (J1.go j H ∧ ∃ Nx1 : Hp → Prop, (∀ H', Nx1 H' → ∃ k', k' < k ∧ W1 (j + 1) k' H') ∧ ∀ x H', J1.yld j H x H' → g1 x (wipe σ2 vs1) H' fun σ3 H5 => wipe σ3 vs1 = wipe σ2 vs1 ∧ tt1 σ3 H5 fun b H6 =>
          if b = true then te σ3 H6 fun y H7 => ∃ acc, H7 D = some (.lst acc) ∧ acc.length < sizeLine ∧ Nx1 (upd H7 D (.lst (acc ++ [y]))) else Nx1 H6)
      else Pv (i + 1) H3) (hd : ∀ H, Pv n H → Qd H) :
    ∃ W : Nat → Nat → Hp → Prop, (∃ m, W 0 m (upd H1 D (.lst []))) ∧ ∀ i m H, W i m H →
      (J.stop i H ∧ Qd H) ∨ (J.go i H ∧ ∃ Nx : Hp → Prop, (∀ H', Nx H' → ∃ m', m' < m ∧ W (i + 1) m' H') ∧ ∀ x H', J.yld i H x H' → g x (wipe σ vs) H' fun σ2 H2 => wipe σ2 vs = wipe σ vs ∧ tt σ2 H2 fun b H3 =>
        if b = true then wi1 σ2 H3 fun J1 H4 => ∃ W1 : Nat → Nat → Hp → Prop, (∃ m, W1 0 m H4) ∧ ∀ j k H, W1 j k H →
          (J1.stop j H ∧ Nx H) ∨ (J1.go j H ∧ ∃ Nx1 : Hp → Prop, (∀ H', Nx1 H' → ∃ k', k' < k ∧ W1 (j + 1) k' H') ∧ ∀ x H', J1.yld j H x H' → g1 x (wipe σ2 vs1) H' fun σ3 H5 => wipe σ3 vs1 = wipe σ2 vs1 ∧ tt1 σ3 H5 fun b H6 =>
            if b = true then te σ3 H6 fun y H7 => ∃ acc, H7 D = some (.lst acc) ∧ acc.length < sizeLine ∧ Nx1 (upd H7 D (.lst (acc ++ [y]))) else Nx1 H6)
        else Nx H3) := by
  refine ⟨fun i m H => m = n - i ∧ i ≤ n ∧ Pv i H, ⟨n, by simp, Nat.zero_le _, h0⟩, ?_⟩
  rintro i m H ⟨rfl, hi, p⟩
  have q := hG i H hi p
  by_cases hlt : i < n
  · exact .inr ⟨w.goes i H hlt q, Pv (i + 1), fun H' p' => ⟨n - (i + 1), by omega, rfl, hlt, p'⟩, fun x H' y => hs i x H H' hlt p (w.yields i H x H' hlt q y)⟩
  · have e : i = n := by omega
    subst e
    exact .inl ⟨w.stops H q, hd H p⟩
theorem in_it (w : Walk J1 n1 G1 Y1) (Pw : Nat → Hp → Prop) (h0 : Pw 0 H4) (hG : ∀ j H, j ≤ n1 → Pw j H → G1 H)
    (hs : ∀ j x H H', j < n1 → Pw j H → Y1 j H x H' → g1 x (wipe σ2 vs1) H' fun σ3 H5 => wipe σ3 vs1 = wipe σ2 vs1 ∧ tt1 σ3 H5 fun b H6 =>
      if b = true then te σ3 H6 fun y H7 => ∃ acc, H7 D = some (.lst acc) ∧ acc.length < sizeLine ∧ Pw (j + 1) (upd H7 D (.lst (acc ++ [y]))) else Pw (j + 1) H6) (hd : ∀ H, Pw n1 H → Nx H) :
    ∃ W1 : Nat → Nat → Hp → Prop, (∃ m, W1 0 m H4) ∧ ∀ j k H, W1 j k H →
      (J1.stop j H ∧ Nx H) ∨ (J1.go j H ∧ ∃ Nx1 : Hp → Prop, (∀ H', Nx1 H' → ∃ k', k' < k ∧ W1 (j + 1) k' H') ∧ ∀ x H', J1.yld j H x H' → g1 x (wipe σ2 vs1) H' fun σ3 H5 => wipe σ3 vs1 = wipe σ2 vs1 ∧ tt1 σ3 H5 fun b H6 =>
        if b = true then te σ3 H6 fun y H7 => ∃ acc, H7 D = some (.lst acc) ∧ acc.length < sizeLine ∧ Nx1 (upd H7 D (.lst (acc ++ [y]))) else Nx1 H6) := by
  refine ⟨fun i m H => m = n1 - i ∧ i ≤ n1 ∧ Pw i H, ⟨n1, by simp, Nat.zero_le _, h0⟩, ?_⟩
  rintro i m H ⟨rfl, hi, p⟩
  have q := hG i H hi p
  by_cases hlt : i < n1
  · exact .inr ⟨w.goes i H hlt q, Pw (i + 1), fun H' p' => ⟨n1 - (i + 1), by omega, rfl, hlt, p'⟩, fun x H' y => hs i x H H' hlt p (w.yields i H x H' hlt q y)⟩
  · have e : i = n1 := by omega
    subst e
    exact .inl ⟨w.stops H q, hd H p⟩
end
/-! ### a thing that is locked and let go -/
theorem unlock {H H' : Hp} {d : Addr} {u : HO} (s : SB [d] H H') (e : H d = some u) : Same H (upd H' d u) := fun b o h => by
  by_cases hb : b = d
  · rw [hb] at h ⊢
    rw [upd_same]
    rw [e] at h
    exact h
  · rw [upd_ne hb]
    exact s b o h (by simpa using hb)
theorem Cho.upd {K : PySem.W.Frag} {C : Addr} {H0 H : Hp} {z : Self} {n : Nat} {o : Pat} {own : Nat → Option Nat} {g t : Nat → Int} {sv : V} (c : Cho K C H0 H z n o own g t sv) {d : Addr} {u : HO} (h0 : H0 d = none)
    (hp : z.p ≠ d) (ho : z.oa ≠ d) (hg : z.ga ≠ d) (ht : z.ta ≠ d) : Cho K C H0 (L2.upd H d u) z n o own g t sv := by
  obtain ⟨dx, h⟩ := c.ob
  exact ⟨same_mut c.s0 h0, c.pat, c.fp, c.fo, c.fg, c.ft, ⟨dx, by rw [upd_ne hp]; exact h⟩, by rw [upd_ne ho]; exact c.ow, by rw [upd_ne hg]; exact c.gr, by rw [upd_ne ht]; exact c.tp, c.og, c.ot, c.gt⟩
theorem Cho.dict {K : PySem.W.Frag} {C : Addr} {H0 H : Hp} {z : Self} {n : Nat} {o : Pat} {own : Nat → Option Nat} {g t : Nat → Int} {sv : V} (c : Cho K C H0 H z n o own g t sv) {d : Addr} {kvs : List (Key × V)} {u : HO} (h0 : H0 d = none)
    (hd : H d = some (.dK kvs)) : Cho K C H0 (L2.upd H d u) z n o own g t sv := by
  obtain ⟨dx, h⟩ := c.ob
  exact c.upd h0 (ne_of h hd (by intro q; cases q)) (ne_of c.ow hd (by intro q; cases q)) (ne_of c.gr hd (by intro q; cases q)) (ne_of c.tp hd (by intro q; cases q))
theorem ixn {n j : Nat} (h : j < n) : ixN n (j : Int) = some j := by
  unfold ixN
  rw [if_pos (by omega), if_pos (by omega)]
  simp
/-- the first unknown that came and is free -/
def freeK (own : Nat → Option Nat) (came : List (Nat × Nat)) : Option Nat := (keys came).find? fun u => decide (own u = none)
theorem freeK_some {own : Nat → Option Nat} {came : List (Nat × Nat)} {u : Nat} (h : freeK own came = some u) : u ∈ keys came ∧ own u = none :=
  ⟨List.mem_of_find?_eq_some h, of_decide_eq_true (List.find?_some (p := fun u => decide (own u = none)) h)⟩
theorem freeK_none {own : Nat → Option Nat} {came : List (Nat × Nat)} (h : freeK own came = none) : ∀ u, u ∈ keys came → own u ≠ none := fun u hu e => by
  have q := List.find?_eq_none.mp h u hu
  exact q (decide_eq_true e)
theorem eqv_ints_nil (l : List Int) : PyData.eqv (.list (l.map .int)) (.list []) = l.isEmpty := by
  cases l with
  | nil => exact eqv_nil_lst
  | cons x r => exact eqv_lst_nil
theorem dp_ints {K : PySem.W.Frag} {H : Hp} {D : Addr} {l : List Int} (h : H D = some (.lst (l.map V.int))) : Dp K H (.ref D) (.list (l.map .int)) := .lst (SqL.of h) (dp_map (fun i => .int i) l)
theorem lay_ints (l : List Int) : SeqAt.shaped (.list (l.map PyData.int)) = true := (lay_lst (k := 0) fun d hd => by
  obtain ⟨i, _, rfl⟩ := List.mem_map.mp hd
  exact lay_int i).shaped (by decide)
theorem lay_nil : SeqAt.shaped (.list []) = true := lay_ints []
theorem iL_int (l : List Nat) : iL l = (l.map fun (j : Nat) => (j : Int)).map V.int := by
  unfold iL
  rw [List.map_map]
  rfl
section
variable {P : Program} {w : World} {K : PySem.W.Frag} {mg : Str → Option Value} {base : Heap}
/-! ### free_in -/
abbrev N_free_in : List Str := ["self", "came", "found", "unknown"]
abbrev P_free_in : List Str := ["self", "came"]
theorem sc_free_in : FnScope N_free_in P_free_in (defScope s_free_in) := ⟨rfl, rfl, rfl, by decide +kernel, rfl, by decide +kernel, by decide +kernel⟩
def sp_free_in (K : PySem.W.Frag) (C : Addr) : Sp := fun vs H Q _ => ∃ (H0 : Hp) (z : Self) (n : Nat) (o : Pat) (own : Nat → Option Nat) (g t : Nat → Int) (sv : V) (d : Addr) (came : List (Nat × Nat)),
  vs = [.ref z.p, .ref d] ∧ Cho K C H0 H z n o own g t sv ∧ H0 d = none ∧ H d = some (.dK (dC came)) ∧ (∀ u, u ∈ keys came → u < n) ∧ came.length ≤ 1000 ∧
  ∀ H', Same H H' → Q (oV (freeK own came)) H'
theorem ok_free_in (T : Txt K mg) : FnOk P w K mg base CX0 1 T.m_free_in.f T.m_free_in.fd P_free_in (sp_free_in K T.C) := by
  refine T.m_free_in.F.ok sc_free_in (fun vs H Q E h => ?_) (fun cdv A outer s H vs Q E hr h => ?_)
  · obtain ⟨H0, z, n, o, own, g, t, sv, d, came, rfl, _⟩ := h
    rfl
  · obtain ⟨H0, z, n, o, own, g, t, sv, d, came, rfl, c, hd0, hd, hlt, hlen, q⟩ := h
    refine ⟨_, (pss_cons (ps_lock (ps_setLc (i := 2) (own := [("unknown", 3)]) rfl sc_free_in.nd rfl rfl (sw_true rfl rfl rfl (by decide +kernel)) (pi_keys (pv 1)) (blkOk_by (own := [("unknown", 3)]) (N := N_free_in) (sc := defScope s_free_in) (by decide +kernel)) (fun _ _ _ _ _ => (pg_name (i := 3) sc_free_in.nd rfl (Or.inl rfl))) (fun _ _ _ _ _ => pts_one (pt_cmpR op_isN (pe_ix (ixK K) (fldK K (pv 0)) (pv 3) (fun _ _ => rfl)) pe_non (nomark _))) (fun _ _ _ _ _ => (pv 3))))
      (pss_one (ps_ret (pe_ifExp (pt_cmpR (neDK K hr.units) (pv 2) (pe_lst pa_nil) (nomark _)) (pe_ix (ixK K) (pv 2) pe_int (fun _ _ => rfl)) pe_non)))), ?_⟩
    refine ⟨d, _, hd, trivial, fun od => ?_⟩
    have cl : Cho K T.C H0 (upd H d (.frz od (.dK (dC came)))) z n o own g t sv := c.dict hd0 hd
    have sl : SB [d] H (upd H d (.frz od (.dK (dC came)))) := (SB.refl [d] H).upd (by simp)
    refine ⟨_, rfl, d, od, rfl, .inl ⟨dC came, upd_same, fun D hD => ?_⟩⟩
    have hDd : D ≠ d := fun e => by
      rw [e, upd_same] at hD
      cases hD
    have hDH : H D = none := by
      rw [upd_ne hDd] at hD
      exact hD
    refine lc_it walk_keys (fun i H' => SB [d] H H' ∧ Same (upd H d (.frz od (.dK (dC came)))) H' ∧ H' D = some (.lst (iL (((keys came).take i).filter fun u => decide (own u = none))))) ⟨sl.new hDH, same_upd hD, upd_same⟩ (fun i H' _ p => p.2.1 _ _ upd_same) (fun i x H' H2 hi p y => ?_) (fun H' p => ?_)
    · obtain ⟨rfl, k, v, hk, rfl⟩ := y
      unfold dC at hk
      rw [List.getElem?_map] at hk
      cases ec : came[i]? with
      | none =>
        rw [ec] at hk
        cases hk
      | some pr =>
        rw [ec] at hk
        cases hk
        have hki : (keys came)[i]? = some pr.1 := by
          unfold keys
          rw [List.getElem?_map, ec]
          rfl
        have hu : pr.1 < n := hlt _ (List.mem_of_getElem? hki)
        have c2 := cl.mono p.2.1
        obtain ⟨dx, hob⟩ := id c2.ob
        refine ⟨rfl, _, rfl, z.p, T.C, dx, _, .ref z.oa, rfl, hob, T.cls, T.n_owners, cfs_owners z sv, _, rfl, false, z.oa, _, pr.1, _, rfl, rfl, SqB.lst c2.ow, vec_at hu, rfl, _, rfl, ?_⟩
        rw [List.take_add_one, hki, List.filter_append]
        cases eo : own pr.1 with
        | none =>
          refine ⟨_, rfl, _, p.2.2, sz64' ?_, p.1.new hDH, same_mut p.2.1 hD, ?_⟩
          · rw [iL_len]
            have h1 := List.length_filter_le (fun u => decide (own u = none)) ((keys came).take i)
            have h2 : ((keys came).take i).length ≤ came.length := by
              unfold keys
              rw [List.length_take, List.length_map]
              omega
            omega
          · rw [upd_same]
            have e : List.filter (fun u => decide (own u = none)) (some pr.1).toList = [pr.1] := by
              show List.filter _ [pr.1] = _
              rw [List.filter_cons, if_pos (decide_eq_true eo)]
              rfl
            rw [e, iL_snoc]
            rfl
        | some e' =>
          have e : List.filter (fun u => decide (own u = none)) (some pr.1).toList = [] := by
            show List.filter _ [pr.1] = _
            rw [List.filter_cons, if_neg (by rw [decide_eq_true_eq, eo]; intro z; cases z)]
            rfl
          rw [e, List.append_nil]
          exact p
    · obtain ⟨p1, p2, p3⟩ := p
      rw [dC_len] at p3
      have e1 : (keys came).take came.length = keys came := by
        rw [List.take_of_length_le (by unfold keys; rw [List.length_map]; exact Nat.le_refl _)]
      rw [e1] at p3
      refine ⟨p2 _ _ upd_same, ?_⟩
      have sF : Same H (upd H' d (.dK (dC came))) := unlock p1 hd
      have p4 : upd H' d (.dK (dC came)) D = some (.lst (iL ((keys came).filter fun u => decide (own u = none)))) := by
        rw [upd_ne hDd]
        exact p3
      generalize upd H' d (.dK (dC came)) = H5 at sF p4
      generalize hfl : (keys came).filter (fun u => decide (own u = none)) = fl at p4
      refine ⟨_, rfl, by show 0 ≤ sizeLine; decide, fun p0 hp0 => ?_⟩
      have s6 : Same H5 (upd H5 p0 (.lst [])) := same_upd hp0
      have p6 := s6 _ _ p4
      rw [iL_int] at p6
      refine ⟨_, .list [], dp_ints p6, .lst (SqL.of upd_same) .nil, lay_ints _, lay_nil, ?_⟩
      rw [eqv_ints_nil]
      refine ⟨_, rfl, ?_⟩
      have hf : freeK own came = fl.head? := by
        unfold freeK
        rw [← hfl, List.head?_filter]
      rw [hf] at q
      cases fl with
      | nil =>
        exact q _ (sF.trans s6)
      | cons u r =>
        rw [← iL_int] at p6
        refine ⟨_, rfl, false, D, _, 0, .int (u : Int), rfl, rfl, SqB.lst p6, rfl, ?_⟩
        exact q _ (sF.trans s6)
end
end Hid
/-! The class Choosing: raise_by. -/
namespace Hid
open PySem PySem.Spec PyProof.Rows L2
theorem exists_min : ∀ {l : List Int}, l ≠ [] → ∃ m, m ∈ l ∧ ∀ y, y ∈ l → m ≤ y
  | [], h => absurd rfl h
  | [x], _ => ⟨x, List.mem_singleton.mpr rfl, fun y hy => by rw [List.mem_singleton.mp hy]; exact Int.le_refl _⟩
  | x :: y :: r, _ => by
    obtain ⟨m, h1, h2⟩ := exists_min (l := y :: r) (by intro z; cases z)
    by_cases h : x ≤ m
    · refine ⟨x, List.mem_cons_self, fun z hz => ?_⟩
      rcases List.mem_cons.mp hz with e | e
      · rw [e]; exact Int.le_refl _
      · exact Int.le_trans h (h2 z e)
    · refine ⟨m, List.mem_cons_of_mem _ h1, fun z hz => ?_⟩
      rcases List.mem_cons.mp hz with e | e
      · rw [e]; omega
      · exact h2 z e
theorem min_uniq {l : List Int} {m m' : Int} (h : m ∈ l) (hle : ∀ y, y ∈ l → m ≤ y) (h' : m' ∈ l) (hle' : ∀ y, y ∈ l → m' ≤ y) : m = m' := by
  have a := hle _ h'
  have b := hle' _ h
  omega
/-- one more gap, if its unknown did not come -/
def outF (came : List (Nat × Nat)) (q : Nat × Int) : Option Int := if q.1 ∈ keys came then none else some q.2
theorem outs_len (n : Nat) (o : Pat) (g t : Nat → Int) (came : List (Nat × Nat)) : ∀ lot : List Nat, (outs n o g t lot came).length ≤ lot.length * n
  | [] => by simp [outs]
  | e :: r => by
    have h := outs_len n o g t came r
    have h1 := List.length_filterMap_le (fun q => if q.1 ∈ keys came then none else some q.2) (gapsL n o g t e)
    have h2 := gaps_len n o g t e
    unfold outs at h ⊢
    rw [List.flatMap_cons, List.length_append, List.length_cons, Nat.succ_mul]
    omega
theorem upG_nil (m : Int) (g : Nat → Int) : upG [] m g = g := by
  funext e
  unfold upG
  rw [if_neg List.not_mem_nil]
theorem upG_step {l : List Nat} {j e : Nat} {m : Int} {g : Nat → Int} (hn : l.Nodup) (h : l[j]? = some e) : (fun i => if i = e then upG (l.take j) m g e + m else upG (l.take j) m g i) = upG (l.take (j + 1)) m g := by
  have hne : e ∉ l.take j := fun hm => by
    obtain ⟨k, hk⟩ := List.getElem?_of_mem hm
    rw [List.getElem?_take] at hk
    split at hk
    · rename_i hkj
      obtain ⟨h1, e1⟩ := List.getElem?_eq_some_iff.mp hk
      obtain ⟨h2, e2⟩ := List.getElem?_eq_some_iff.mp h
      have z := (List.getElem_inj hn).mp (e1.trans e2.symm)
      omega
    · cases hk
  funext i
  have hm : i ∈ l.take (j + 1) ↔ i ∈ l.take j ∨ i = e := by
    rw [List.take_add_one, h, List.mem_append]
    simp
  unfold upG
  by_cases z : i = e
  · rw [if_pos z, if_neg hne, if_pos (hm.mpr (.inr z)), z]
  · rw [if_neg z]
    by_cases y : i ∈ l.take j
    · rw [if_pos y, if_pos (hm.mpr (.inl y))]
    · rw [if_neg y, if_neg (fun x => (hm.mp x).elim y z)]
section
variable {P : Program} {w : World} {K : PySem.W.Frag} {mg : Str → Option Value} {base : Heap}
abbrev N_raise_by : List Str := ["self", "lot", "came", "gaps", "equation", "unknown", "gap"]
abbrev P_raise_by : List Str := ["self", "lot", "came"]
theorem sc_raise_by : FnScope N_raise_by P_raise_by (defScope s_raise_by) := ⟨rfl, rfl, rfl, by decide +kernel, rfl, by decide +kernel, by decide +kernel⟩
def sp_raise_by (K : PySem.W.Frag) (C : Addr) : Sp := fun vs H Q _ => ∃ (H0 : Hp) (z : Self) (n : Nat) (o : Pat) (own : Nat → Option Nat) (g t : Nat → Int) (sv : V) (l d : Addr) (lot : List Nat) (came : List (Nat × Nat)),
  vs = [.ref z.p, .ref l, .ref d] ∧ Cho K C H0 H z n o own g t sv ∧ n ≤ 60 ∧ H0 l = none ∧ H0 d = none ∧ H l = some (.lst (iL lot)) ∧ H d = some (.dK (dC came)) ∧ z.oa ≠ l ∧ z.ga ≠ l ∧ z.ta ≠ l ∧
  lot.Nodup ∧ (keys came).Nodup ∧ (∀ e, e ∈ lot → e < n) ∧ (∀ u, u ∈ keys came → u < n) ∧
  (outs n o g t lot came = [] → ∀ H' x, SB [z.p] H H' → Cho K C H0 H' z n o own g t (.ref x) → Q .non H') ∧
  (∀ m, m ∈ outs n o g t lot came → (∀ y, y ∈ outs n o g t lot came → m ≤ y) → ∀ H', SB [z.ga, z.ta] H H' → Cho K C H0 H' z n o own (upG lot m g) (upG (keys came) m t) sv → Q .non H')
theorem ok_raise_by (T : Txt K mg) : FnOk P w K mg base CX0 2 T.m_raise_by.f T.m_raise_by.fd P_raise_by (sp_raise_by K T.C) := by
  refine T.m_raise_by.F.ok sc_raise_by (fun vs H Q E h => ?_) (fun cdv A outer s H vs Q E hr h => ?_)
  · obtain ⟨H0, z, n, o, own, g, t, sv, l, d, lot, came, rfl, _⟩ := h
    rfl
  · obtain ⟨H0, z, n, o, own, g, t, sv, l, d, lot, came, rfl, c, hn, hl0, hd0, hl, hd, ol, gl, tl, ndl, ndk, hlt, hlk, qA, qB⟩ := h
    have hlotn : lot.length ≤ n := few ndl hlt
    have hcamen : came.length ≤ n := by
      have := few ndk hlk
      unfold keys at this
      rwa [List.length_map] at this
    refine ⟨_, (pss_cons (ps_setLc2 (i := 3) (own := [("equation", 4), ("unknown", 5), ("gap", 6)]) (vs1 := [5, 6]) rfl sc_raise_by.nd rfl rfl (sw_true rfl rfl rfl (by decide +kernel)) (seqK K (pv 1)) (blkOk_by (own := [("equation", 4), ("unknown", 5), ("gap", 6)]) (N := N_raise_by) (sc := defScope s_raise_by) (by decide +kernel)) (by decide) (fun _ _ _ _ _ => (pg_name (i := 4) sc_raise_by.nd rfl (Or.inl rfl))) (fun _ _ _ _ _ => pts_nil) (fun _ _ _ _ _ => (seqK K (pe_meth (pv 0) T.cls T.m_gaps_of.m (ok_gaps_of T) (hr.mono (by decide)) T.m_gaps_of.b .nil pass0 (pa_cons (pv 4) pa_nil)))) (fun _ _ _ _ _ => (tupK K (n := 2) rfl (pgs_cons (pg_name (i := 5) sc_raise_by.nd rfl (Or.inl rfl)) (pgs_cons (pg_name (i := 6) sc_raise_by.nd rfl (Or.inl rfl)) pgs_nil)))) (fun _ _ _ _ _ => pts_one (pt_cmp (pc_dnotin (hu_of hr) (pv 5) (pv 2)))) (fun _ _ _ _ _ => (pv 6)))
      (pss_cons (ps_if (pt_cmpR (eqDK K hr.units) (pv 3) (pe_lst pa_nil) (nomark _)) (pss_cons (ps_fld (pv 0) (pe_callTy (tupleK K) (by rfl) T.z_tuple bz_tuple (pa_cons (pe_callB (sortedK K) (by rfl) T.z_sorted bz_sorted (pa_cons (pv 1) pa_nil)) pa_nil)) rfl)
      (pss_one ps_retN)) pss_nil)
      (pss_cons (ps_for PassesOwn.never rfl (seqK K (pv 1)) (pg_name (i := 4) sc_raise_by.nd rfl (Or.inl rfl)) (pss_one (ps_augS (fldK K (pv 0)) (pv 4) (getK K) (pe_callB (minK K) (by rfl) T.z_min bz_min (pa_cons (pv 3) pa_nil)) ip_add set_list)))
      (pss_one (ps_lock (ps_for PassesOwn.never rfl (pi_keys (pv 2)) (pg_name (i := 5) sc_raise_by.nd rfl (Or.inl rfl)) (pss_one (ps_augS (fldK K (pv 0)) (pv 5) (getK K) (pe_callB (minK K) (by rfl) T.z_min bz_min (pa_cons (pv 3) pa_nil)) ip_add set_list)))))))), ?_⟩
    refine ⟨_, rfl, false, l, _, rfl, SqB.lst hl, fun D hD => ?_⟩
    refine lc2_it (walkB (T := false)) (fun i H' => Same H H' ∧ H' D = some (.lst ((outs n o g t (lot.take i) came).map V.int))) ⟨same_upd hD, upd_same⟩ (fun i H' _ p => SqB.lst (p.1 _ _ hl)) (fun i x H1 H2 hi p y => ?_) (fun H' p => ?_)
    · obtain ⟨rfl, hx⟩ := y
      obtain ⟨e, he, rfl⟩ := iL_get hx
      have hen : e < n := hlt _ (List.mem_of_getElem? he)
      have hil : i < lot.length := (List.getElem?_eq_some_iff.mp he).1
      have c2 := c.mono p.1
      obtain ⟨dx, hob⟩ := id c2.ob
      refine ⟨rfl, ?_⟩
      refine ⟨_, rfl, z.p, dx, _, rfl, hob, rfl, _, rfl, H0, z, n, o, own, g, t, sv, e, rfl, c2, hen, by omega, fun H3 r s3 hr0 L3 => ?_⟩
      obtain ⟨xs, x1, x2, x3, x4⟩ := L3.seq (K := K)
      have hDr : D ≠ r := ne_of_none p.2 hr0
      refine ⟨false, r, xs, rfl, x1, ?_⟩
      refine in_it (walkB (T := false)) (fun j H' => SB [D] H3 H' ∧ Same H H' ∧ H' D = some (.lst ((outs n o g t (lot.take i) came ++ ((gapsL n o g t e).take j).filterMap (outF came)).map V.int))) ⟨SB.refl _ _, p.1.trans s3, ?_⟩ (fun j H' _ p3 => SqB.lst (p3.1 _ _ x4 (by simpa using fun z => hDr z.symm))) (fun j x H4 H5 hj p3 y => ?_) (fun H' p3 => ?_)
      · rw [List.take_zero, List.filterMap_nil, List.append_nil]
        exact s3 _ _ p.2
      · obtain ⟨rfl, hx⟩ := y
        obtain ⟨⟨u, gap⟩, hq, b, rfl, hb⟩ := paired_get x3 hx
        have hbD : b ≠ D := ne_of hb (s3 _ _ p.2) (by intro q; cases q)
        have hb5 : H5 b = some (.tup (enP (u, gap))) := p3.1 _ _ hb (by simpa using hbD)
        have hd5 : H5 d = some (.dK (dC came)) := p3.2.1 _ _ hd
        refine ⟨b, _, rfl, SqT.of hb5, rfl, _, _, rfl, _, _, rfl, rfl, rfl, ?_⟩
        refine ⟨_, rfl, _, rfl, d, _, rfl, DGet.k (k := Sum.inl (u : Int)) hd5, _, rfl, ?_⟩
        rw [List.take_add_one, hq, List.filterMap_append]
        by_cases hm : u ∈ keys came
        · obtain ⟨_, _, _, ev⟩ := dC_some hm
          rw [ev]
          have e1 : (some (u, gap)).toList.filterMap (outF came) = [] := by
            show [(u, gap)].filterMap _ = []
            rw [List.filterMap_cons]
            unfold outF
            rw [if_pos hm]
            rfl
          rw [e1, List.append_nil]
          exact p3
        · rw [dC_none hm]
          have e1 : (some (u, gap)).toList.filterMap (outF came) = [gap] := by
            show [(u, gap)].filterMap _ = [gap]
            rw [List.filterMap_cons]
            unfold outF
            rw [if_neg hm]
            rfl
          refine ⟨_, rfl, _, p3.2.2, sz64' ?_, p3.1.upd (by simp), same_mut p3.2.1 hD, ?_⟩
          · have h1 := outs_len n o g t came (lot.take i)
            have h2 := List.length_filterMap_le (outF came) ((gapsL n o g t e).take j)
            have h3 := gaps_len n o g t e
            rw [List.length_take] at h1 h2
            rw [List.length_map, List.length_append]
            have h4 : min i lot.length * n ≤ 60 * 60 := Nat.mul_le_mul (by omega) hn
            omega
          · rw [upd_same, e1]
            simp only [List.map_append, List.append_assoc]
            rfl
      · refine ⟨p3.2.1, ?_⟩
        rw [p3.2.2, x2, List.take_length, List.take_add_one, he]
        congr 3
        unfold outs
        rw [List.flatMap_append]
        congr 1
        show _ = [e].flatMap _
        rw [List.flatMap_cons, List.flatMap_nil, List.append_nil]
        rfl
    · obtain ⟨sH, hD'⟩ := p
      rw [iL_len, List.take_length] at hD'
      generalize hout : outs n o g t lot came = out at hD' qA qB
      have c1 := c.mono sH
      refine ⟨_, rfl, by show 0 ≤ sizeLine; decide, fun p0 hp0 => ?_⟩
      have s2 : Same H' (upd H' p0 (.lst [])) := same_upd hp0
      refine ⟨_, .list [], dp_ints (s2 _ _ hD'), .lst (SqL.of upd_same) .nil, lay_ints _, lay_nil, ?_⟩
      rw [eqv_ints_nil]
      have sH2 := sH.trans s2
      have hD2 := s2 _ _ hD'
      generalize upd H' p0 (.lst []) = H2 at sH2 hD2
      refine ⟨_, rfl, ?_⟩
      cases hempty : out.isEmpty with
      | true =>
        have ho : out = [] := List.isEmpty_iff.mp hempty
        have hl2 := sH2 _ _ hl
        rw [iL_int] at hl2
        refine ⟨_, rfl, l, _, rfl, SqL.of hl2, by rw [List.length_map]; omega, fun ns' p1 _ _ hp1 => ?_⟩
        have s3 : Same H2 (upd H2 p1 (.lst (ns'.map V.int))) := same_upd hp1
        refine ⟨p1, _, rfl, SqL.of upd_same, fun x hx => ?_⟩
        have s4 := same_upd (o := .tup (ns'.map V.int)) hx
        have c4 := ((c.mono sH2).mono s3).mono s4
        have sb := (sH2.trans (s3.trans s4))
        generalize upd (upd H2 p1 (.lst (ns'.map V.int))) x (.tup (ns'.map V.int)) = H4 at c4 sb
        obtain ⟨dx, hob⟩ := id c4.ob
        refine ⟨_, rfl, z.p, T.C, dx, _, rfl, hob, T.cls, T.n_short, by show 5 < 1000; decide, ?_⟩
        rw [cfs_put]
        exact qA ho _ x ((same_sb sb [z.p]).upd (by simp)) c4.setS
      | false =>
        have ho : out ≠ [] := fun e => by
          rw [e] at hempty
          cases hempty
        obtain ⟨m, hm, hmle⟩ := exists_min ho
        have hpos : 0 < out.length := List.length_pos_iff.mpr ho
        have hDp : D ≠ z.p := by
          obtain ⟨dx, hob⟩ := id c.ob
          exact fun e => by rw [e, hob] at hD; cases hD
        have hDg : D ≠ z.ga := fun e => by rw [e, c.gr] at hD; cases hD
        have hDt : D ≠ z.ta := fun e => by rw [e, c.tp] at hD; cases hD
        have hDd : D ≠ d := fun e => by rw [e, hd] at hD; cases hD
        have hlg : l ≠ z.ga := fun e => gl e.symm
        have hdg : d ≠ z.ga := ne_of hd c.gr (by intro q; cases q)
        have hdt : d ≠ z.ta := ne_of hd c.tp (by intro q; cases q)
        refine ⟨_, rfl, false, l, _, rfl, SqB.lst (sH2 _ _ hl), ?_⟩
        refine for_it (walkB (T := false)) (fun j σ' H4 => (∃ x4, σ' = [some (.ref z.p), some (.ref l), some (.ref d), some (.ref D), x4, none, none]) ∧ Cho K T.C H0 H4 z n o own (upG (lot.take j) m g) t sv ∧ SB [z.ga] H H4 ∧ H4 D = some (.lst (out.map V.int)))
          ⟨⟨none, rfl⟩, by rw [List.take_zero, upG_nil]; exact c.mono sH2, same_sb sH2 _, hD2⟩ (fun j σ' H4 _ q => SqB.lst (q.2.2.1 _ _ hl (by simpa using hlg))) ?_ ?_
        · rintro j x σ' H4 H5 hj ⟨⟨x4, rfl⟩, c4, sb4, hD4⟩ ⟨rfl, hx⟩
          obtain ⟨e, he, rfl⟩ := iL_get hx
          have hen : e < n := hlt _ (List.mem_of_getElem? he)
          obtain ⟨dx, hob⟩ := id c4.ob
          refine ⟨_, rfl, z.p, T.C, dx, _, .ref z.ga, rfl, hob, T.cls, T.n_grown, cfs_grown z sv, _, rfl, z.ga, _, e, _, rfl, rfl, SqL.of c4.gr, vec_at hen, _, rfl, D, out, rfl, SqL.of hD4, hpos, fun m' hm' hle' => ?_⟩
          have em : m' = m := min_uniq hm' hle' hm hmle
          subst em
          refine ⟨_, _, rfl, rfl, z.ga, _, _, e, rfl, rfl, c4.gr, by rw [vec_len]; exact ixn hen, ?_⟩
          have c5 := c4.setG (k := e) (v := upG (lot.take j) m' g e + m')
          rw [upG_step ndl he] at c5
          exact ⟨⟨_, rfl⟩, c5, sb4.upd (by simp), by rw [upd_ne hDg]; exact hD4⟩
        · rintro σ' H4 ⟨⟨x4, rfl⟩, c4, sb4, hD4⟩
          rw [iL_len, List.take_length] at c4
          have hd4 : H4 d = some (.dK (dC came)) := sb4 _ _ hd (by simpa using hdg)
          refine ⟨d, _, hd4, trivial, fun od => ?_⟩
          have cl : Cho K T.C H0 (upd H4 d (.frz od (.dK (dC came)))) z n o own (upG lot m g) t sv := c4.dict hd0 hd4
          refine ⟨_, rfl, d, od, rfl, .inl ⟨dC came, upd_same, ?_⟩⟩
          refine for_it walk_keys (fun j σ' H5 => (∃ x5, σ' = [some (.ref z.p), some (.ref l), some (.ref d), some (.ref D), x4, x5, none]) ∧ Cho K T.C H0 H5 z n o own (upG lot m g) (upG ((keys came).take j) m t) sv ∧ SB [z.ta] (upd H4 d (.frz od (.dK (dC came)))) H5 ∧ H5 D = some (.lst (out.map V.int)))
            ⟨⟨none, rfl⟩, by rw [List.take_zero, upG_nil]; exact cl, SB.refl _ _, by rw [upd_ne hDd]; exact hD4⟩ (fun j σ' H5 _ q => q.2.2.1 _ _ upd_same (by simpa using hdt)) ?_ ?_
          · rintro j x σ' H5 H6 hj ⟨⟨x5, rfl⟩, c5, sb5, hD5⟩ ⟨rfl, k, v, hk, rfl⟩
            unfold dC at hk
            rw [List.getElem?_map] at hk
            cases ec : came[j]? with
            | none =>
              rw [ec] at hk
              cases hk
            | some pr =>
              rw [ec] at hk
              cases hk
              have hki : (keys came)[j]? = some pr.1 := by
                unfold keys
                rw [List.getElem?_map, ec]
                rfl
              have hu : pr.1 < n := hlk _ (List.mem_of_getElem? hki)
              obtain ⟨dx, hob⟩ := id c5.ob
              refine ⟨_, rfl, z.p, T.C, dx, _, .ref z.ta, rfl, hob, T.cls, T.n_tops, cfs_tops z sv, _, rfl, z.ta, _, pr.1, _, rfl, rfl, SqL.of c5.tp, vec_at hu, _, rfl, D, out, rfl, SqL.of hD5, hpos, fun m' hm' hle' => ?_⟩
              have em : m' = m := min_uniq hm' hle' hm hmle
              subst em
              refine ⟨_, _, rfl, rfl, z.ta, _, _, pr.1, rfl, rfl, c5.tp, by rw [vec_len]; exact ixn hu, ?_⟩
              have c6 := c5.setT (k := pr.1) (v := upG ((keys came).take j) m' t pr.1 + m')
              rw [upG_step ndk hki] at c6
              exact ⟨⟨_, rfl⟩, c6, sb5.upd (by simp), by rw [upd_ne hDt]; exact hD5⟩
          · rintro σ' H5 ⟨⟨x5, rfl⟩, c5, sb5, hD5⟩
            have e1 : (keys came).take (dC came).length = keys came := by
              rw [dC_len, List.take_of_length_le (by unfold keys; rw [List.length_map]; exact Nat.le_refl _)]
            rw [e1] at c5
            refine ⟨sb5 _ _ upd_same (by simpa using hdt), ?_⟩
            have dz : z.p ≠ d ∧ z.oa ≠ d ∧ z.ga ≠ d ∧ z.ta ≠ d := by
              obtain ⟨dx, hob⟩ := id c.ob
              exact ⟨ne_of hob hd (by intro q; cases q), ne_of c.ow hd (by intro q; cases q), fun e => hdg e.symm, fun e => hdt e.symm⟩
            refine qB m hm hmle _ (fun b ob hb hnb => ?_) (c5.upd hd0 dz.1 dz.2.1 dz.2.2.1 dz.2.2.2)
            have hb1 : b ≠ z.ga := fun e => hnb (by simp [e])
            have hb2 : b ≠ z.ta := fun e => hnb (by simp [e])
            by_cases hbd : b = d
            · rw [hbd, upd_same]
              rw [hbd, hd] at hb
              exact hb
            · rw [upd_ne hbd]
              refine sb5 _ _ ?_ (by simpa using hb2)
              rw [upd_ne hbd]
              exact sb4 _ _ hb (by simpa using hb1)
end
end Hid
/-! The class Choosing: hand_on, choice. -/
namespace Hid
open PySem PySem.Spec PyProof.Rows L2
theorem find_min {p : Nat → Bool} : ∀ {n v : Nat}, (List.range n).find? p = some v → v < n ∧ p v = true ∧ ∀ m, m < v → p m = false
  | 0, v, h => by cases h
  | n + 1, v, h => by
    rw [List.range_succ, List.find?_append] at h
    cases q : (List.range n).find? p with
    | some u =>
      rw [q] at h
      have e : u = v := Option.some.inj h
      subst e
      obtain ⟨h1, h2, h3⟩ := find_min q
      exact ⟨by omega, h2, h3⟩
    | none =>
      rw [q] at h
      have h' : List.find? p [n] = some v := h
      rw [List.find?_cons] at h'
      cases e : p n with
      | false =>
        rw [e] at h'
        cases h'
      | true =>
        rw [e] at h'
        have z : n = v := Option.some.inj h'
        subst z
        refine ⟨by omega, e, fun m hm => ?_⟩
        have y := List.find?_eq_none.mp q m (List.mem_range.mpr hm)
        simpa using y
theorem exists_first {p : Nat → Bool} {n : Nat} (h : ∃ u, u < n ∧ p u = true) : ∃ v, v < n ∧ p v = true ∧ ∀ m, m < v → p m = false := by
  obtain ⟨u, hu, hp⟩ := h
  cases q : (List.range n).find? p with
  | none =>
    have y := List.find?_eq_none.mp q u (List.mem_range.mpr hu)
    exact absurd hp y
  | some v => exact ⟨v, find_min q⟩
theorem eqV_own (x : Option Nat) (e : Nat) : eqV (oV x) (.int (e : Int)) = decide (x = some e) := by
  cases x with
  | none => rfl
  | some a =>
    show ((a : Int) == (e : Int)) = _
    by_cases h : a = e
    · subst h
      simp
    · rw [decide_eq_false (fun z => h (Option.some.inj z))]
      exact beq_eq_false_iff_ne.mpr (by omega)
theorem flat_own (n : Nat) (own : Nat → Option Nat) : (vec n fun u => oV (own u)).all flatV = true := by
  rw [List.all_eq_true]
  intro x hx
  obtain ⟨u, _, rfl⟩ := List.mem_map.mp hx
  cases own u with
  | none => rfl
  | some a => rfl
theorem in_own {n : Nat} {own : Nat → Option Nat} {e : Nat} : inV (.int (e : Int)) (vec n fun u => oV (own u)) = true ↔ ∃ u, u < n ∧ own u = some e := by
  unfold inV
  rw [List.any_eq_true]
  constructor
  · rintro ⟨x, hx, h⟩
    obtain ⟨u, hu, rfl⟩ := List.mem_map.mp hx
    rw [eqV_own] at h
    exact ⟨u, List.mem_range.mp hu, of_decide_eq_true h⟩
  · rintro ⟨u, hu, h⟩
    exact ⟨_, List.mem_map.mpr ⟨u, List.mem_range.mpr hu, rfl⟩, by rw [eqV_own]; exact decide_eq_true h⟩
section
variable {P : Program} {w : World} {K : PySem.W.Frag} {mg : Str → Option Value} {base : Heap}
/-! ### hand_on -/
abbrev N_hand_on : List Str := ["self", "unknown", "came", "equation", "before"]
abbrev P_hand_on : List Str := ["self", "unknown", "came"]
theorem sc_hand_on : FnScope N_hand_on P_hand_on (defScope s_hand_on) := ⟨rfl, rfl, rfl, by decide +kernel, rfl, by decide +kernel, by decide +kernel⟩
def sp_hand_on (K : PySem.W.Frag) (C : Addr) : Sp := fun vs H Q _ => ∃ (H0 : Hp) (z : Self) (n : Nat) (o : Pat) (own : Nat → Option Nat) (g t : Nat → Int) (sv : V) (eq x : Nat) (d : Addr) (lot : List Nat) (came : List (Nat × Nat)),
  vs = [.ref z.p, .int (x : Int), .ref d] ∧ Cho K C H0 H z n o own g t sv ∧ Mid n o own g t eq ∧ Bfs n o g t own eq lot came lot.length ∧ x ∈ keys came ∧ own x = none ∧ H d = some (.dK (dC came)) ∧
  ∀ H' own', SB [z.oa] H H' → Cho K C H0 H' z n o own' g t sv → Vld n o own' g t (eq + 1) → Q .non H'
theorem ok_hand_on (T : Txt K mg) : FnOk P w K mg base CX0 1 T.m_hand_on.f T.m_hand_on.fd P_hand_on (sp_hand_on K T.C) := by
  refine T.m_hand_on.F.ok sc_hand_on (fun vs H Q E h => ?_) (fun cdv A outer s H vs Q E hr h => ?_)
  · obtain ⟨H0, z, n, o, own, g, t, sv, eq, x, d, lot, came, rfl, _⟩ := h
    rfl
  · obtain ⟨H0, z, n, o, own0, g, t, sv, eq, x0, d, lot, came, rfl, c, M, B, hx0, hf0, hd, q⟩ := h
    refine ⟨_, (pss_one (ps_while PassesOwn.never (pt_cmpR op_notN (pv 1) pe_non (nomark _)) (pss_cons (ps_set (i := 3) sc_hand_on.nd rfl (Or.inl rfl) (pe_dget (hu_of hr) (pv 2) (pv 1) (fun _ _ => rfl)))
      (pss_cons (ps_set (i := 4) sc_hand_on.nd rfl (Or.inl rfl) (pe_ifExp (pt_cmpR (inK K) (pv 3) (fldK K (pv 0)) (by rfl)) (idxK K (fldK K (pv 0)) (pa_cons (pv 3) pa_nil)) pe_non))
      (pss_cons (ps_asg (pv 3) (pg_sub (fldK K (pv 0)) (pv 1) set_list))
      (pss_one (ps_set (i := 1) sc_hand_on.nd rfl (Or.inl rfl) (pv 4)))))))), ?_⟩
    have hdo : d ≠ z.oa := ne_of hd c.ow (by intro q; cases q)
    refine ⟨fun m σ H' => ∃ own : Nat → Option Nat, Cho K T.C H0 H' z n o own g t sv ∧ SB [z.oa] H H' ∧ ((∃ (x e r : Nat) (x3 x4 : Option V), σ = [some (.ref z.p), some (.int (x : Int)), some (.ref d), x3, x4] ∧ m = r + 1 ∧ Hand n o g t own0 lot came own x e r) ∨
      (∃ (x3 x4 : Option V), σ = [some (.ref z.p), some .non, some (.ref d), x3, x4] ∧ m = 0 ∧ Vld n o own g t (eq + 1))), ?_, fun m σ H' hw => ?_⟩
    · obtain ⟨e, r, h⟩ := hand_start M B hx0 hf0
      exact ⟨r + 1, own0, c, SB.refl _ _, .inl ⟨x0, e, r, none, none, rfl, rfl, h⟩⟩
    obtain ⟨own, c1, sb, ⟨x, e, r, x3, x4, rfl, rfl, h⟩ | ⟨x3, x4, rfl, rfl, v⟩⟩ := hw
    ·
      refine ⟨_, rfl, rfl, true, rfl, ?_⟩
      refine ⟨fun σ' H2 => ∃ own' : Nat → Option Nat, Cho K T.C H0 H2 z n o own' g t sv ∧ SB [z.oa] H H2 ∧ ((∃ (y e' r' : Nat) (x3 x4 : Option V), r' < r ∧ σ' = [some (.ref z.p), some (.int (y : Int)), some (.ref d), x3, x4] ∧ Hand n o g t own0 lot came own' y e' r') ∨
        (∃ (x3 x4 : Option V), σ' = [some (.ref z.p), some .non, some (.ref d), x3, x4] ∧ Vld n o own' g t (eq + 1))), fun σ' H2 hN => ?_, ?_⟩
      · obtain ⟨own', a1, a2, ⟨y, e', r', y3, y4, hr', rfl, a3⟩ | ⟨y3, y4, rfl, a3⟩⟩ := hN
        · exact ⟨r' + 1, by omega, own', a1, a2, .inl ⟨y, e', r', y3, y4, rfl, rfl, a3⟩⟩
        · exact ⟨0, by omega, own', a1, a2, .inr ⟨y3, y4, rfl, rfl, a3⟩⟩
      have hd1 : H' d = some (.dK (dC came)) := sb _ _ hd (by simpa using hdo)
      obtain ⟨hxn, hxt⟩ := hand_tight B h
      have hxk : x ∈ keys came := by
        obtain ⟨j, hj⟩ := h.cm
        exact List.mem_map.mpr ⟨(x, e), List.mem_of_getElem? hj, rfl⟩
      obtain ⟨j, e2, hj, ev⟩ := dC_some hxk
      have ee : e2 = e := came_fn B ⟨j, hj⟩ h.cm
      subst ee
      have hget : DGet H' d (.int (x : Int)) (some (.int (e2 : Int))) := by
        have y := DGet.k (k := (Sum.inl (x : Int) : Key)) hd1
        rw [ev] at y
        exact y
      obtain ⟨dx, hob⟩ := id c1.ob
      refine ⟨_, rfl, _, rfl, d, _, rfl, hget, ?_⟩
      refine ⟨_, rfl, _, rfl, z.p, T.C, dx, _, .ref z.oa, rfl, hob, T.cls, T.n_owners, cfs_owners z sv, false, z.oa, _, rfl, SqB.lst c1.ow, rfl, flat_own n own, _, rfl, ?_⟩
      have hin := in_own (n := n) (own := own) (e := e2)
      have bound : ∀ u, own u = some e2 → u < n := fun u hu => by
        by_cases z1 : u = x
        · rw [z1]; exact hxn
        · exact (h.on u e2 z1 hu).1
      have fin : ∀ b : Option Nat, (∀ H2, SB [z.oa] H H2 → Cho K T.C H0 H2 z n o (setO own x e2) g t sv →
          (∃ own' : Nat → Option Nat, Cho K T.C H0 H2 z n o own' g t sv ∧ SB [z.oa] H H2 ∧ ((∃ (y e' r' : Nat) (x3 x4 : Option V), r' < r ∧ [some (.ref z.p), some (oV b), some (.ref d), some (.int (e2 : Int)), some (oV b)] = [some (.ref z.p), some (.int (y : Int)), some (.ref d), x3, x4] ∧ Hand n o g t own0 lot came own' y e' r') ∨
            (∃ (x3 x4 : Option V), [some (.ref z.p), some (oV b), some (.ref d), some (.int (e2 : Int)), some (oV b)] = [some (.ref z.p), some .non, some (.ref d), x3, x4] ∧ Vld n o own' g t (eq + 1))))) →
          ∃ own' : Nat → Option Nat, Cho K T.C H0 (L2.upd H' z.oa (.lst ((vec n fun u => oV (own u)).set x (.int (e2 : Int))))) z n o own' g t sv ∧ SB [z.oa] H (L2.upd H' z.oa (.lst ((vec n fun u => oV (own u)).set x (.int (e2 : Int))))) ∧
            ((∃ (y e' r' : Nat) (x3 x4 : Option V), r' < r ∧ [some (.ref z.p), some (oV b), some (.ref d), some (.int (e2 : Int)), some (oV b)] = [some (.ref z.p), some (.int (y : Int)), some (.ref d), x3, x4] ∧ Hand n o g t own0 lot came own' y e' r') ∨
            (∃ (x3 x4 : Option V), [some (.ref z.p), some (oV b), some (.ref d), some (.int (e2 : Int)), some (oV b)] = [some (.ref z.p), some .non, some (.ref d), x3, x4] ∧ Vld n o own' g t (eq + 1))) :=
        fun b k => k _ (sb.upd (by simp)) c1.setO
      cases hb : inV (.int (e2 : Int)) (vec n fun u => oV (own u)) with
      | true =>
        obtain ⟨u0, hu0, hou0⟩ := hin.mp hb
        obtain ⟨y, hy, hpy, hmin⟩ := exists_first (p := fun u => decide (own u = some e2)) ⟨u0, hu0, decide_eq_true hou0⟩
        have hoy : own y = some e2 := of_decide_eq_true hpy
        refine ⟨_, rfl, z.p, T.C, dx, _, .ref z.oa, rfl, hob, T.cls, T.n_owners, cfs_owners z sv, .inl ⟨rfl, _, SqL.of c1.ow⟩, _, rfl, z.oa, _, _, y, _, rfl, rfl, SqL.of c1.ow, rfl, flat_own n own, vec_at hy, by rw [hoy, eqV_own]; exact decide_eq_true rfl, fun m z' hm hz' => ?_, ?_⟩
        · obtain ⟨_, rfl⟩ := vec_get hz'
          rw [eqV_own]
          exact hmin m hm
        refine ⟨_, rfl, _, rfl, z.p, T.C, dx, _, .ref z.oa, rfl, hob, T.cls, T.n_owners, cfs_owners z sv, _, rfl, z.oa, _, _, x, rfl, rfl, c1.ow, by rw [vec_len]; exact ixn hxn, ?_⟩
        refine ⟨_, rfl, fin (some y) fun H2 sb2 c2 => ?_⟩
        obtain ⟨e', r', hr', hn⟩ := hand_next M B h hoy
        exact ⟨_, c2, sb2, .inl ⟨y, e', r', _, _, hr', rfl, hn⟩⟩
      | false =>
        refine ⟨_, rfl, _, rfl, z.p, T.C, dx, _, .ref z.oa, rfl, hob, T.cls, T.n_owners, cfs_owners z sv, _, rfl, z.oa, _, _, x, rfl, rfl, c1.ow, by rw [vec_len]; exact ixn hxn, ?_⟩
        refine ⟨_, rfl, fin none fun H2 sb2 c2 => ?_⟩
        refine ⟨_, c2, sb2, .inr ⟨_, _, rfl, hand_end M B h fun u hu => ?_⟩⟩
        rw [hin.mpr ⟨u, bound u hu, hu⟩] at hb
        cases hb
    · refine ⟨_, rfl, rfl, false, rfl, ?_⟩
      exact q _ own sb c1 v
/-! ### choice -/
abbrev N_choice : List Str := ["self", "equation"]
abbrev P_choice : List Str := ["self"]
theorem sc_choice : FnScope N_choice P_choice (defScope s_choice) := ⟨rfl, rfl, rfl, by decide +kernel, rfl, by decide +kernel, by decide +kernel⟩
def sp_choice (K : PySem.W.Frag) (C : Addr) : Sp := fun vs H Q _ => ∃ (H0 : Hp) (z : Self) (n : Nat) (o : Pat) (own : Nat → Option Nat) (g t : Nat → Int) (sv : V),
  vs = [.ref z.p] ∧ Cho K C H0 H z n o own g t sv ∧ Vld n o own g t n ∧ n ≤ 1000 ∧ ∀ H' r, Same H H' → H r = none → H' r = some (.tup (iL (ownChoice n own))) → Q (.ref r) H'
theorem ok_choice (T : Txt K mg) : FnOk P w K mg base CX0 1 T.m_choice.f T.m_choice.fd P_choice (sp_choice K T.C) := by
  refine T.m_choice.F.ok sc_choice (fun vs H Q E h => ?_) (fun cdv A outer s H vs Q E hr h => ?_)
  · obtain ⟨H0, z, n, o, own, g, t, sv, rfl, _⟩ := h
    rfl
  · obtain ⟨H0, z, n, o, own, g, t, sv, rfl, c, v, hn, q⟩ := h
    refine ⟨_, (pss_one (ps_ret (pe_callTy (tupleK K) (by rfl) T.z_tuple bz_tuple (pa_cons (pe_lc (own := [("equation", 1)]) rfl sc_choice.nd (pi_range1 (by rfl) T.z_range (pa_cons (pe_callB (lenK K) (by rfl) T.z_len bz_len (pa_cons (fldK K (pv 0)) pa_nil)) pa_nil)) (blkOk_by (own := [("equation", 1)]) (N := N_choice) (sc := defScope s_choice) (by decide +kernel)) (fun _ _ _ _ _ => (pg_name (i := 1) sc_choice.nd rfl (Or.inl rfl))) (fun _ _ _ _ _ => pts_nil) (fun _ _ _ _ _ => (idxK K (fldK K (pv 0)) (pa_cons (pv 1) pa_nil)))) pa_nil)))), ?_⟩
    obtain ⟨dx, hob⟩ := id c.ob
    refine ⟨_, rfl, z.p, T.C, dx, _, .ref z.oa, rfl, hob, T.cls, T.n_owners, cfs_owners z sv, false, z.oa, _, rfl, SqB.lst c.ow, (n : Int), by rw [vec_len], by omega, by omega, fun D hD => ?_⟩
    refine lc_range (lo := 0) (n := ((n : Int)).toNat) (fun i H' => Same H H' ∧ H' D = some (.lst (iL ((List.range i).map (firstOf n own))))) ⟨same_upd hD, upd_same⟩ (fun i H' hi p => ?_) (fun H' p => ?_)
    · have hi' : i < n := by omega
      have c1 := c.mono p.1
      obtain ⟨dx1, hob1⟩ := id c1.ob
      have hfo := firstOf_ok v.mat hi'
      have hfl : firstOf n own i < n := (v.mat.rng _ _ hfo).1
      have e0 : (0 : Int) + (i : Int) = (i : Int) := Int.zero_add _
      refine ⟨rfl, _, rfl, z.p, T.C, dx1, _, .ref z.oa, rfl, hob1, T.cls, T.n_owners, cfs_owners z sv, .inl ⟨rfl, _, SqL.of c1.ow⟩, _, rfl, z.oa, _, _, firstOf n own i, _, rfl, rfl, SqL.of c1.ow, rfl, flat_own n own, vec_at hfl, by rw [e0, hfo, eqV_own]; exact decide_eq_true rfl, fun m z' hm hz' => ?_, ?_⟩
      · obtain ⟨_, rfl⟩ := vec_get hz'
        rw [e0, eqV_own]
        unfold firstOf at hm
        cases hq : (List.range n).find? fun u => decide (own u = some i) with
        | none =>
          rw [hq] at hm
          exact absurd hm (Nat.not_lt_zero _)
        | some y =>
          rw [hq] at hm
          exact (find_min hq).2.2 m hm
      · refine ⟨_, p.2, sz64' ?_, same_mut p.1 hD, ?_⟩
        · rw [iL_len, List.length_map, List.length_range]
          omega
        · rw [upd_same, List.range_succ, List.map_append]
          exact congrArg (fun x => some (HO.lst x)) (iL_snoc _ _).symm
    · obtain ⟨p1, p2⟩ := p
      rw [show ((n : Int)).toNat = n by omega] at p2
      refine ⟨D, _, rfl, SqL.of p2, fun r hr0 => ?_⟩
      exact q _ r (p1.trans (same_upd hr0)) (p1.free hr0) upd_same
end
end Hid
/-! The class Choosing: take_in, __init__. -/
namespace Hid
open PySem PySem.Spec PyProof.Rows L2
theorem eqv_ints_ne (l : List Int) : PyData.eqv (.list (l.map .int)) (.list []) = l.isEmpty := eqv_ints_nil l
/-- how it stands with the object: all of eq equations are taken in, or there is no choice -/
def Done (n : Nat) (o : Pat) (own : Nat → Option Nat) (g t : Nat → Int) (sv : V) (eq : Nat) : Prop := (sv = .non ∧ Vld n o own g t eq) ∨ ∃ x, sv = .ref x ∧ ¬ ∃ l, Ch n o l
theorem min_or {K : PySem.W.Frag} {σ : L2.St} {H : Hp} {t : TA} {Qk : VK} {b : Bool} {D : Addr} {l : List Int} (hD : H D = some (.lst (l.map V.int))) (hb : b = !l.isEmpty) (ht : ∀ R : List V → Hp → Prop, R [.ref D] H → t σ H R)
    (h : ∀ m, (∀ y, y ∈ l → m ≤ y) → Qk (.int m) H) : if b = true then tCB (rMin K) t σ H Qk else Qk (.int 0) H := by
  subst hb
  cases l with
  | nil => exact h 0 fun y hy => absurd hy List.not_mem_nil
  | cons x r => exact ht _ ⟨D, x :: r, rfl, SqL.of hD, Nat.succ_pos _, fun m _ hle => h m hle⟩
section
variable {P : Program} {w : World} {K : PySem.W.Frag} {mg : Str → Option Value} {base : Heap}
/-! ### take_in -/
abbrev N_take_in : List Str := ["self", "equation", "gaps", "unknown", "gap", "lot", "came"]
abbrev P_take_in : List Str := ["self", "equation"]
theorem sc_take_in : FnScope N_take_in P_take_in (defScope s_take_in) := ⟨rfl, rfl, rfl, by decide +kernel, rfl, by decide +kernel, by decide +kernel⟩
def sp_take_in (K : PySem.W.Frag) (C : Addr) : Sp := fun vs H Q _ => ∃ (H0 : Hp) (z : Self) (n : Nat) (o : Pat) (own : Nat → Option Nat) (g t : Nat → Int) (eq : Nat),
  vs = [.ref z.p, .int (eq : Int)] ∧ Cho K C H0 H z n o own g t .non ∧ Vld n o own g t eq ∧ eq < n ∧ n ≤ 60 ∧
  ∀ H' own' g' t' sv', SB [z.p, z.oa, z.ga, z.ta] H H' → Cho K C H0 H' z n o own' g' t' sv' → Done n o own' g' t' sv' (eq + 1) → Q .non H'
theorem ok_take_in (T : Txt K mg) : FnOk P w K mg base CX0 3 T.m_take_in.f T.m_take_in.fd P_take_in (sp_take_in K T.C) := by
  refine T.m_take_in.F.ok sc_take_in (fun vs H Q E h => ?_) (fun cdv A outer s H vs Q E hr h => ?_)
  · obtain ⟨H0, z, n, o, own, g, t, eq, rfl, _⟩ := h
    rfl
  · obtain ⟨H0, z, n, o, own, g, t, eq, rfl, c, v, hlt, hn, q⟩ := h
    refine ⟨_, (pss_cons (ps_setLc (i := 2) (own := [("unknown", 3), ("gap", 4)]) rfl sc_take_in.nd rfl rfl (sw_true rfl rfl rfl (by decide +kernel)) (seqK K (pe_meth (pv 0) T.cls T.m_gaps_of.m (ok_gaps_of T) (hr.mono (by decide)) T.m_gaps_of.b .nil pass0 (pa_cons (pv 1) pa_nil))) (blkOk_by (own := [("unknown", 3), ("gap", 4)]) (N := N_take_in) (sc := defScope s_take_in) (by decide +kernel)) (fun _ _ _ _ _ => (tupK K (n := 2) rfl (pgs_cons (pg_name (i := 3) sc_take_in.nd rfl (Or.inl rfl)) (pgs_cons (pg_name (i := 4) sc_take_in.nd rfl (Or.inl rfl)) pgs_nil)))) (fun _ _ _ _ _ => pts_nil) (fun _ _ _ _ _ => (pv 4)))
      (pss_cons (ps_asg (pe_ifExp (pt_cmpR (neDK K hr.units) (pv 2) (pe_lst pa_nil) (nomark _)) (pe_callB (minK K) (by rfl) T.z_min bz_min (pa_cons (pv 2) pa_nil)) pe_int) (pg_sub (fldK K (pv 0)) (pv 1) set_list))
      (pss_cons (ps_asg (pe_meth (pv 0) T.cls T.m_reached.m (ok_reached T) (hr.mono (by decide)) T.m_reached.b .nil pass0 (pa_cons (pv 1) pa_nil)) (tupK K (n := 2) rfl (pgs_cons (pg_name (i := 5) sc_take_in.nd rfl (Or.inl rfl)) (pgs_cons (pg_name (i := 6) sc_take_in.nd rfl (Or.inl rfl)) pgs_nil))))
      (pss_cons (ps_while PassesOwn.never (PW.pt (pw_and (pt_cmpR op_isN (fldK K (pv 0)) pe_non (nomark _)) (pw_and1 (pt_cmpR op_isN (pe_meth (pv 0) T.cls T.m_free_in.m (ok_free_in T) (hr.mono (by decide)) T.m_free_in.b .nil pass0 (pa_cons (pv 6) pa_nil)) pe_non (nomark _))))) (pss_cons (ps_expr (pe_meth (pv 0) T.cls T.m_raise_by.m (ok_raise_by T) (hr.mono (by decide)) T.m_raise_by.b .nil pass0 (pa_cons (pv 5) (pa_cons (pv 6) pa_nil))))
      (pss_one (ps_asg (pe_meth (pv 0) T.cls T.m_reached.m (ok_reached T) (hr.mono (by decide)) T.m_reached.b .nil pass0 (pa_cons (pv 1) pa_nil)) (tupK K (n := 2) rfl (pgs_cons (pg_name (i := 5) sc_take_in.nd rfl (Or.inl rfl)) (pgs_cons (pg_name (i := 6) sc_take_in.nd rfl (Or.inl rfl)) pgs_nil)))))))
      (pss_one (ps_if (pt_cmpR op_isN (fldK K (pv 0)) pe_non (nomark _)) (pss_one (ps_expr (pe_meth (pv 0) T.cls T.m_hand_on.m (ok_hand_on T) (hr.mono (by decide)) T.m_hand_on.b .nil pass0 (pa_cons (pe_meth (pv 0) T.cls T.m_free_in.m (ok_free_in T) (hr.mono (by decide)) T.m_free_in.b .nil pass0 (pa_cons (pv 6) pa_nil)) (pa_cons (pv 6) pa_nil))))) pss_nil)))))), ?_⟩
    obtain ⟨dx, hob⟩ := id c.ob
    refine ⟨_, rfl, z.p, dx, _, rfl, hob, rfl, _, rfl, H0, z, n, o, own, g, t, .non, eq, rfl, c, hlt, by omega, fun H1 r s1 hr0 L1 => ?_⟩
    obtain ⟨xs, x1, x2, x3, x4⟩ := L1.seq (K := K)
    refine ⟨false, r, xs, rfl, x1, fun D hD => ?_⟩
    refine lc_it (walkB (T := false)) (fun j H' => Same H1 H' ∧ H' D = some (.lst ((((gapsL n o g t eq).take j).map (·.2)).map V.int))) ⟨same_upd hD, upd_same⟩ (fun j H' _ p => SqB.mono (T := false) p.1 x1) (fun j x H' H2 hj p y => ?_) (fun H2 p => ?_)
    · obtain ⟨rfl, hx⟩ := y
      obtain ⟨⟨u, gap⟩, hq, b, rfl, hb⟩ := paired_get x3 hx
      have hb3 := p.1 _ _ hb
      refine ⟨b, _, rfl, SqT.of hb3, rfl, _, _, rfl, _, _, rfl, rfl, rfl, ?_⟩
      refine ⟨_, rfl, _, p.2, sz64' ?_, same_mut p.1 hD, ?_⟩
      · have := gaps_len n o g t eq
        rw [List.length_map, List.length_map, List.length_take]
        omega
      · rw [upd_same, List.take_add_one, hq, List.map_append, List.map_append]
        rfl
    · obtain ⟨p1, p2⟩ := p
      rw [x2, List.take_length] at p2
      have sH2 := s1.trans p1
      refine ⟨_, rfl, by show 0 ≤ sizeLine; decide, fun p0 hp0 => ?_⟩
      have s3 : Same H2 (upd H2 p0 (.lst [])) := same_upd hp0
      refine ⟨_, .list [], dp_ints (s3 _ _ p2), .lst (SqL.of upd_same) .nil, lay_ints _, lay_nil, ?_⟩
      rw [eqv_ints_nil]
      refine ⟨_, rfl, ?_⟩
      have sH3 := sH2.trans s3
      refine min_or (s3 _ _ p2) rfl (fun R hR => ⟨_, rfl, hR⟩) fun m hm => ?_
      have hm' : ∀ q, q ∈ gapsL n o g t eq → m ≤ q.2 := fun q hq => hm _ (List.mem_map.mpr ⟨q, hq, rfl⟩)
      have c3 := c.mono sH3
      generalize upd H2 p0 (.lst []) = H3 at sH3 c3
      obtain ⟨dx3, hob3⟩ := id c3.ob
      refine ⟨_, rfl, z.p, T.C, dx3, _, .ref z.ga, rfl, hob3, T.cls, T.n_grown, cfs_grown z .non, _, rfl, z.ga, _, _, eq, rfl, rfl, c3.gr, by rw [vec_len]; exact ixn hlt, ?_⟩
      have c4 := c3.setG (k := eq) (v := m)
      have sb4 : SB [z.p, z.oa, z.ga, z.ta] H (upd H3 z.ga (.lst ((vec n fun e => .int (g e)).set eq (.int m)))) := (same_sb sH3 _).upd (by simp)
      have M4 : Mid n o own (setG g eq m) t eq := take_mid v hlt hm'
      generalize upd H3 z.ga (.lst ((vec n fun e => .int (g e)).set eq (.int m))) = H4 at c4 sb4
      change Cho K T.C H0 H4 z n o own (setG g eq m) t .non at c4
      obtain ⟨dx4, hob4⟩ := id c4.ob
      refine ⟨_, rfl, z.p, dx4, _, rfl, hob4, rfl, _, rfl, H0, z, n, o, own, setG g eq m, t, .non, eq, rfl, c4, M4.mat, hlt, by omega, fun H5 r5 l5 d5 lot came s5 hl5 hd5 hr5 hl hd B5 => ?_⟩
      refine ⟨r5, _, rfl, SqT.of hr5, rfl, _, _, rfl, _, _, rfl, rfl, ?_⟩
      refine ⟨fun k σ H' => ∃ (g t : Nat → Int) (sv : V) (l d : Addr) (lot : List Nat) (came : List (Nat × Nat)),
        σ = [some (.ref z.p), some (.int (eq : Int)), some (.ref D), none, none, some (.ref l), some (.ref d)] ∧ SB [z.p, z.oa, z.ga, z.ta] H H' ∧ Cho K T.C H0 H' z n o own g t sv ∧
        H' l = some (.lst (iL lot)) ∧ H' d = some (.dK (dC came)) ∧ H0 l = none ∧ H0 d = none ∧ z.oa ≠ l ∧ z.ga ≠ l ∧ z.ta ≠ l ∧
        ((sv = .non ∧ k = n + 1 - came.length ∧ Mid n o own g t eq ∧ Bfs n o g t own eq lot came lot.length) ∨ (∃ x, sv = .ref x ∧ k = 0 ∧ ¬ ∃ l, Ch n o l)), ?_, fun k σ H' hw => ?_⟩
      · have c5 := c4.mono s5
        exact ⟨n + 1 - came.length, setG g eq m, t, .non, l5, d5, lot, came, rfl, sb4.trans (same_sb s5 _), c5, hl, hd, c4.s0.free hl5, c4.s0.free hd5, ne_of_none c4.ow hl5, ne_of_none c4.gr hl5, ne_of_none c4.tp hl5, .inl ⟨rfl, rfl, M4, B5⟩⟩
      obtain ⟨g, t, sv, l, d, lot, came, rfl, sb, c, hl, hd, hl0, hd0, n1, n2, n3, h⟩ := hw
      obtain ⟨dx, hob⟩ := id c.ob
      refine ⟨_, rfl, z.p, T.C, dx, _, sv, rfl, hob, T.cls, T.n_short, cfs_short z sv, rfl, _, rfl, ?_⟩
      rcases h with ⟨rfl, rfl, M, B⟩ | ⟨x, rfl, rfl, hno⟩
      ·
        have hlen := came_len B
        refine ⟨_, rfl, z.p, dx, _, rfl, hob, rfl, _, rfl, H0, z, n, o, own, g, t, .non, d, came, rfl, c, hd0, hd, B.lt, by omega, fun H6 s6 => ?_⟩
        have c6 := c.mono s6
        have sb6 := sb.trans (same_sb s6 _)
        refine ⟨rfl, _, rfl, ?_⟩
        obtain ⟨dx6, hob6⟩ := id c6.ob
        cases hf : freeK own came with
        | none =>
          have S : Stuck n o own g t eq lot came := ⟨M, B, freeK_none hf⟩
          refine ⟨fun σ' H7 => ∃ (g' t' : Nat → Int) (sv : V) (l d : Addr) (lot' : List Nat) (came' : List (Nat × Nat)),
            σ' = [some (.ref z.p), some (.int (eq : Int)), some (.ref D), none, none, some (.ref l), some (.ref d)] ∧ SB [z.p, z.oa, z.ga, z.ta] H H7 ∧ Cho K T.C H0 H7 z n o own g' t' sv ∧
            H7 l = some (.lst (iL lot')) ∧ H7 d = some (.dK (dC came')) ∧ H0 l = none ∧ H0 d = none ∧ z.oa ≠ l ∧ z.ga ≠ l ∧ z.ta ≠ l ∧
            ((sv = .non ∧ came.length < came'.length ∧ Mid n o own g' t' eq ∧ Bfs n o g' t' own eq lot' came' lot'.length) ∨ (∃ x, sv = .ref x ∧ ¬ ∃ l, Ch n o l)), fun σ' H7 hN => ?_, ?_⟩
          · obtain ⟨g', t', sv, l, d, lot', came', a1, a2, a3, a4, a5, a6, a7, a8, a9, a10, a11⟩ := hN
            rcases a11 with ⟨b1, b2, b3, b4⟩ | ⟨x, b1, b2⟩
            · exact ⟨n + 1 - came'.length, by omega, g', t', sv, l, d, lot', came', a1, a2, a3, a4, a5, a6, a7, a8, a9, a10, .inl ⟨b1, rfl, b3, b4⟩⟩
            · exact ⟨0, by omega, g', t', sv, l, d, lot', came', a1, a2, a3, a4, a5, a6, a7, a8, a9, a10, .inr ⟨x, b1, rfl, b2⟩⟩
          refine ⟨_, rfl, z.p, dx6, _, rfl, hob6, rfl, _, rfl, _, rfl, H0, z, n, o, own, g, t, .non, l, d, lot, came, rfl, c6, hn, hl0, hd0, s6 _ _ hl, s6 _ _ hd, n1, n2, n3, lot_nd M.mat B, B.nd, fun e he => Nat.lt_of_le_of_lt (lot_le M.mat B he) hlt, B.lt, fun hout H7 x sb7 c7 => ?_, fun m hm hle H7 sb7 c7 => ?_⟩
          · obtain ⟨dx7, hob7⟩ := id c7.ob
            refine ⟨_, rfl, z.p, dx7, _, rfl, hob7, rfl, _, rfl, H0, z, n, o, own, g, t, .ref x, eq, rfl, c7, M.mat, hlt, by omega, fun H8 r8 l8 d8 lot8 came8 s8 hl8 hd8 hr8 hlo hda B8 => ?_⟩
            refine ⟨r8, _, rfl, SqT.of hr8, rfl, _, _, rfl, _, _, rfl, rfl, ?_⟩
            exact ⟨g, t, .ref x, l8, d8, lot8, came8, rfl, (sb6.trans (sb7.mono (by simp))).trans (same_sb s8 _), c7.mono s8, hlo, hda, c7.s0.free hl8, c7.s0.free hd8, ne_of_none c7.ow hl8, ne_of_none c7.gr hl8, ne_of_none c7.tp hl8, .inr ⟨x, rfl, none_out S hout⟩⟩
          · have M7 := raise_mid S hm hle
            obtain ⟨dx7, hob7⟩ := id c7.ob
            refine ⟨_, rfl, z.p, dx7, _, rfl, hob7, rfl, _, rfl, H0, z, n, o, own, upG lot m g, upG (keys came) m t, .non, eq, rfl, c7, M7.mat, hlt, by omega, fun H8 r8 l8 d8 lot8 came8 s8 hl8 hd8 hr8 hlo hda B8 => ?_⟩
            refine ⟨r8, _, rfl, SqT.of hr8, rfl, _, _, rfl, _, _, rfl, rfl, ?_⟩
            exact ⟨upG lot m g, upG (keys came) m t, .non, l8, d8, lot8, came8, rfl, (sb6.trans (sb7.mono (by simp))).trans (same_sb s8 _), c7.mono s8, hlo, hda, c7.s0.free hl8, c7.s0.free hd8, ne_of_none c7.ow hl8, ne_of_none c7.gr hl8, ne_of_none c7.tp hl8, .inl ⟨rfl, raise_more S hm B8, M7, B8⟩⟩
        | some u =>
          obtain ⟨hu, hou⟩ := freeK_some hf
          refine ⟨_, rfl, z.p, T.C, dx6, _, .non, rfl, hob6, T.cls, T.n_short, cfs_short z .non, rfl, _, rfl, ?_⟩
          refine ⟨_, rfl, z.p, dx6, _, rfl, hob6, rfl, _, rfl, z.p, dx6, _, rfl, hob6, rfl, _, rfl, H0, z, n, o, own, g, t, .non, d, came, rfl, c6, hd0, s6 _ _ hd, B.lt, by omega, fun H7 s7 => ?_⟩
          have c7 := c6.mono s7
          rw [hf]
          refine ⟨_, rfl, H0, z, n, o, own, g, t, .non, eq, u, d, lot, came, rfl, c7, M, B, hu, hou, s7 _ _ (s6 _ _ hd), fun H8 own' sb8 c8 v8 => ?_⟩
          exact q _ _ _ _ _ ((sb6.trans (same_sb s7 _)).trans (sb8.mono (by simp))) c8 (.inl ⟨rfl, v8⟩)
      · refine ⟨_, rfl, z.p, T.C, dx, _, .ref x, rfl, hob, T.cls, T.n_short, cfs_short z (.ref x), rfl, _, rfl, ?_⟩
        exact q _ _ _ _ _ sb c (.inr ⟨x, rfl, hno⟩)
end
end Hid
/-! The class Choosing is made; what is asked of it. -/
namespace Hid
open PySem PySem.Spec PyProof.Rows L2
theorem rep_vec (n : Nat) (v : V) : (List.replicate n [v]).flatten = vec n fun _ => v := by
  induction n with
  | zero => rfl
  | succ n ih =>
    rw [List.replicate_succ', List.flatten_append, ih, vec_succ]
    rfl
section
variable {P : Program} {w : World} {K : PySem.W.Frag} {mg : Str → Option Value} {base : Heap}
/-! ### __init__ -/
abbrev N_init : List Str := ["self", "pattern", "equation"]
abbrev P_init : List Str := ["self", "pattern"]
theorem sc_init : FnScope N_init P_init (defScope s_init) := ⟨rfl, rfl, rfl, by decide +kernel, rfl, by decide +kernel, by decide +kernel⟩
def sp_init (K : PySem.W.Frag) (C : Addr) : Sp := fun vs H Q _ => ∃ (H0 : Hp) (x dx : Addr) (pt0 : V) (n : Nat) (o : Pat),
  vs = [.ref x, pt0] ∧ H0 x = none ∧ Same H0 H ∧ H x = some (.ins C dx []) ∧ (∃ T U, PatB T U K H0 pt0 n o) ∧ n ≤ 60 ∧
  ∀ H' z own g t sv, z.p = x → Cho K C H0 H' z n o own g t sv → Done n o own g t sv n → Q .non H'
theorem ok_init (T : Txt K mg) : FnOk P w K mg base CX0 4 T.m_init.f T.m_init.fd P_init (sp_init K T.C) := by
  refine T.m_init.F.ok sc_init (fun vs H Q E h => ?_) (fun cdv A outer s H vs Q E hr h => ?_)
  · obtain ⟨H0, x, dx, pt0, n, o, rfl, _⟩ := h
    rfl
  · obtain ⟨H0, x, dx, pt0, n, o, rfl, hx0, s0, hx, hpat, hn, q⟩ := h
    refine ⟨_, (pss_cons (ps_fld (pv 0) (pv 1) rfl)
      (pss_cons (ps_fld (pv 0) (pe_op op_rep (pe_lst (pa_cons pe_non pa_nil)) (pe_callB (lenK K) (by rfl) T.z_len bz_len (pa_cons (pv 1) pa_nil))) rfl)
      (pss_cons (ps_fld (pv 0) (pe_op op_rep (pe_lst (pa_cons pe_int pa_nil)) (pe_callB (lenK K) (by rfl) T.z_len bz_len (pa_cons (pv 1) pa_nil))) rfl)
      (pss_cons (ps_fld (pv 0) (pe_op op_rep (pe_lst (pa_cons pe_int pa_nil)) (pe_callB (lenK K) (by rfl) T.z_len bz_len (pa_cons (pv 1) pa_nil))) rfl)
      (pss_cons (ps_fld (pv 0) pe_non rfl)
      (pss_one (ps_for PassesOwn.never rfl (pi_range1 (by rfl) T.z_range (pa_cons (pe_callB (lenK K) (by rfl) T.z_len bz_len (pa_cons (pv 1) pa_nil)) pa_nil)) (pg_name (i := 2) sc_init.nd rfl (Or.inl rfl)) (pss_one (ps_if (pt_cmpR op_isN (fldK K (pv 0)) pe_non (nomark _)) (pss_one (ps_expr (pe_meth (pv 0) T.cls T.m_take_in.m (ok_take_in T) (hr.mono (by decide)) T.m_take_in.b .nil pass0 (pa_cons (pv 2) pa_nil)))) pss_nil))))))))), ?_⟩
    obtain ⟨Tp, U, a, bs, epv, hS, hR⟩ := id hpat
    refine ⟨_, rfl, _, rfl, x, T.C, dx, _, rfl, hx, T.cls, T.n_pattern, by show 0 < 1000; decide, ?_⟩
    have s1 : Same H0 (upd H x (.ins T.C dx (putF "pattern" pt0 []))) := same_mut s0 hx0
    have h1 : upd H x (.ins T.C dx (putF "pattern" pt0 [])) x = some (.ins T.C dx [("pattern", pt0)]) := upd_same
    generalize upd H x (.ins T.C dx (putF "pattern" pt0 [])) = H1 at s1 h1
    refine ⟨by show 1 ≤ sizeLine; decide, fun p0 hp0 => ?_⟩
    have s2 : Same H0 (upd H1 p0 (.lst [.non])) := s1.trans (same_upd hp0)
    have h2 : upd H1 p0 (.lst [.non]) x = some (.ins T.C dx [("pattern", pt0)]) := same_upd hp0 _ _ h1
    have e2 : upd H1 p0 (.lst [.non]) p0 = some (.lst [.non]) := upd_same
    generalize upd H1 p0 (.lst [.non]) = H2 at s2 h2 e2
    refine ⟨_, rfl, Tp, a, _, by rw [epv], hS.mono s2, p0, (n : Int), _, rfl, by rw [vec_len], e2, by omega, by omega, sz64 (by simp; omega), fun oa hoa => ?_⟩
    rw [show ((n : Int)).toNat = n by omega, rep_vec]
    have s3 : Same H0 (upd H2 oa (.lst (vec n fun _ => .non))) := s2.trans (same_upd hoa)
    have h3 : upd H2 oa (.lst (vec n fun _ => .non)) x = some (.ins T.C dx [("pattern", pt0)]) := same_upd hoa _ _ h2
    have o3 : upd H2 oa (.lst (vec n fun _ => .non)) oa = some (.lst (vec n fun _ => .non)) := upd_same
    have fo : H0 oa = none := s2.free hoa
    generalize upd H2 oa (.lst (vec n fun _ => .non)) = H3 at s3 h3 o3
    have xo : x ≠ oa := ne_of h3 o3 (by intro q; cases q)
    refine ⟨_, rfl, x, T.C, dx, _, rfl, h3, T.cls, T.n_owners, by show 1 < 1000; decide, ?_⟩
    have s4 : Same H0 (upd H3 x (.ins T.C dx (putF "owners" (.ref oa) [("pattern", pt0)]))) := same_mut s3 hx0
    have h4 : upd H3 x (.ins T.C dx (putF "owners" (.ref oa) [("pattern", pt0)])) x = some (.ins T.C dx [("pattern", pt0), ("owners", .ref oa)]) := upd_same
    have o4 : upd H3 x (.ins T.C dx (putF "owners" (.ref oa) [("pattern", pt0)])) oa = some (.lst (vec n fun _ => .non)) := by rw [upd_ne xo.symm]; exact o3
    generalize upd H3 x (.ins T.C dx (putF "owners" (.ref oa) [("pattern", pt0)])) = H4 at s4 h4 o4
    refine ⟨by show 1 ≤ sizeLine; decide, fun p1 hp1 => ?_⟩
    have k5 : Same H4 (upd H4 p1 (.lst [.int 0])) := same_upd hp1
    have e5 : upd H4 p1 (.lst [.int 0]) p1 = some (.lst [.int 0]) := upd_same
    have s5 := s4.trans k5
    have h5 := k5 _ _ h4
    have o5 := k5 _ _ o4
    generalize upd H4 p1 (.lst [.int 0]) = H5 at s5 h5 o5 e5
    refine ⟨_, rfl, Tp, a, _, by rw [epv], hS.mono s5, p1, (n : Int), _, rfl, by rw [vec_len], e5, by omega, by omega, sz64 (by simp; omega), fun ga hga => ?_⟩
    rw [show ((n : Int)).toNat = n by omega, rep_vec]
    have fg : H0 ga = none := s5.free hga
    have og : oa ≠ ga := ne_of_none o5 hga
    have k6 : Same H5 (upd H5 ga (.lst (vec n fun _ => .int 0))) := same_upd hga
    have g6 : upd H5 ga (.lst (vec n fun _ => .int 0)) ga = some (.lst (vec n fun _ => .int 0)) := upd_same
    have s6 := s5.trans k6
    have h6 := k6 _ _ h5
    have o6 := k6 _ _ o5
    generalize upd H5 ga (.lst (vec n fun _ => .int 0)) = H6 at s6 h6 o6 g6
    have xg : x ≠ ga := ne_of h6 g6 (by intro q; cases q)
    refine ⟨_, rfl, x, T.C, dx, _, rfl, h6, T.cls, T.n_grown, by show 2 < 1000; decide, ?_⟩
    have s7 : Same H0 (upd H6 x (.ins T.C dx (putF "grown" (.ref ga) [("pattern", pt0), ("owners", .ref oa)]))) := same_mut s6 hx0
    have h7 : upd H6 x (.ins T.C dx (putF "grown" (.ref ga) [("pattern", pt0), ("owners", .ref oa)])) x = some (.ins T.C dx [("pattern", pt0), ("owners", .ref oa), ("grown", .ref ga)]) := upd_same
    have o7 : upd H6 x (.ins T.C dx (putF "grown" (.ref ga) [("pattern", pt0), ("owners", .ref oa)])) oa = some (.lst (vec n fun _ => .non)) := by rw [upd_ne xo.symm]; exact o6
    have g7 : upd H6 x (.ins T.C dx (putF "grown" (.ref ga) [("pattern", pt0), ("owners", .ref oa)])) ga = some (.lst (vec n fun _ => .int 0)) := by rw [upd_ne xg.symm]; exact g6
    generalize upd H6 x (.ins T.C dx (putF "grown" (.ref ga) [("pattern", pt0), ("owners", .ref oa)])) = H7 at s7 h7 o7 g7
    refine ⟨by show 1 ≤ sizeLine; decide, fun p2 hp2 => ?_⟩
    have k8 : Same H7 (upd H7 p2 (.lst [.int 0])) := same_upd hp2
    have e8 : upd H7 p2 (.lst [.int 0]) p2 = some (.lst [.int 0]) := upd_same
    have s8 := s7.trans k8
    have h8 := k8 _ _ h7
    have o8 := k8 _ _ o7
    have g8 := k8 _ _ g7
    generalize upd H7 p2 (.lst [.int 0]) = H8 at s8 h8 o8 g8 e8
    refine ⟨_, rfl, Tp, a, _, by rw [epv], hS.mono s8, p2, (n : Int), _, rfl, by rw [vec_len], e8, by omega, by omega, sz64 (by simp; omega), fun ta hta => ?_⟩
    rw [show ((n : Int)).toNat = n by omega, rep_vec]
    have ft : H0 ta = none := s8.free hta
    have ot : oa ≠ ta := ne_of_none o8 hta
    have gt : ga ≠ ta := ne_of_none g8 hta
    have k9 : Same H8 (upd H8 ta (.lst (vec n fun _ => .int 0))) := same_upd hta
    have t9 : upd H8 ta (.lst (vec n fun _ => .int 0)) ta = some (.lst (vec n fun _ => .int 0)) := upd_same
    have s9 := s8.trans k9
    have h9 := k9 _ _ h8
    have o9 := k9 _ _ o8
    have g9 := k9 _ _ g8
    generalize upd H8 ta (.lst (vec n fun _ => .int 0)) = H9 at s9 h9 o9 g9 t9
    have xt : x ≠ ta := ne_of h9 t9 (by intro q; cases q)
    refine ⟨_, rfl, x, T.C, dx, _, rfl, h9, T.cls, T.n_tops, by show 3 < 1000; decide, ?_⟩
    refine ⟨_, rfl, x, T.C, dx, _, rfl, upd_same, T.cls, T.n_short, by show 4 < 1000; decide, ?_⟩
    generalize hz : (⟨x, oa, ga, ta, pt0⟩ : Self) = z
    have ex : z.p = x := by rw [← hz]
    have cA : Cho K T.C H0 (upd (upd H9 x (.ins T.C dx (putF "tops" (.ref ta) [("pattern", pt0), ("owners", .ref oa), ("grown", .ref ga)]))) x (.ins T.C dx (putF "short" .non (putF "tops" (.ref ta) [("pattern", pt0), ("owners", .ref oa), ("grown", .ref ga)])))) z n o (fun _ => none) (fun _ => 0) (fun _ => 0) .non := by
      rw [← hz]
      refine ⟨same_mut (same_mut s9 hx0) hx0, hpat, hx0, fo, fg, ft, ⟨dx, upd_same⟩, ?_, ?_, ?_, og, ot, gt⟩
      · show upd (upd H9 x _) x _ oa = _
        rw [upd_ne xo.symm, upd_ne xo.symm]
        exact o9
      · show upd (upd H9 x _) x _ ga = _
        rw [upd_ne xg.symm, upd_ne xg.symm]
        exact g9
      · show upd (upd H9 x _) x _ ta = _
        rw [upd_ne xt.symm, upd_ne xt.symm]
        exact t9
    generalize upd (upd H9 x (.ins T.C dx (putF "tops" (.ref ta) [("pattern", pt0), ("owners", .ref oa), ("grown", .ref ga)]))) x (.ins T.C dx (putF "short" .non (putF "tops" (.ref ta) [("pattern", pt0), ("owners", .ref oa), ("grown", .ref ga)]))) = H10 at cA
    have s10 := cA.s0
    refine ⟨_, rfl, Tp, a, _, by rw [epv], hS.mono s10, (n : Int), by rw [vec_len], by omega, by omega, ?_⟩
    refine for_range (lo := 0) (n := ((n : Int)).toNat) (fun i σ H' => (∃ x2, σ = [some (.ref x), some pt0, x2]) ∧ ∃ (own : Nat → Option Nat) (g t : Nat → Int) (sv : V), Cho K T.C H0 H' z n o own g t sv ∧ Done n o own g t sv i)
      ⟨⟨none, rfl⟩, _, _, _, _, cA, .inl ⟨rfl, vld_start n o⟩⟩ (fun i σ H' hi p => ?_) (fun σ H' p => ?_)
    · obtain ⟨⟨x2, rfl⟩, own, g, t, sv, c, D⟩ := p
      obtain ⟨dxx, hob⟩ := id c.ob
      rw [ex] at hob
      refine ⟨_, rfl, x, T.C, dxx, _, sv, rfl, hob, T.cls, T.n_short, cfs_short z sv, rfl, _, rfl, ?_⟩
      rcases D with ⟨rfl, v⟩ | ⟨y, rfl, hno⟩
      · refine ⟨_, rfl, x, dxx, _, rfl, hob, rfl, _, rfl, H0, z, n, o, own, g, t, i, by rw [ex, Int.zero_add]; rfl, c, v, by omega, hn, fun H' own' g' t' sv' _ c' D' => ?_⟩
        exact ⟨⟨_, rfl⟩, _, _, _, _, c', D'⟩
      · exact ⟨⟨_, rfl⟩, _, _, _, _, c, .inr ⟨y, rfl, hno⟩⟩
    · obtain ⟨_, own, g, t, sv, c, D⟩ := p
      rw [show ((n : Int)).toNat = n by omega] at D
      exact q _ z own g t sv ex c D
/-- what a made object says: the pattern stood in H0 -/
def spC (K : PySem.W.Frag) (F : (n : Nat) → (o : Pat) → VK → Hp → Prop) : Sp := fun vs H Q _ => ∃ (pt0 : V) (n : Nat) (o : Pat), vs = [pt0] ∧ (∃ T U, PatB T U K H pt0 n o) ∧ n ≤ 60 ∧ F n o Q H
theorem vec_ints (n : Nat) (f : Nat → Int) : (vec n fun e => .int (f e)) = ((List.range n).map f).map V.int := by
  unfold vec
  rw [List.map_map]
  rfl
/-! ### some_heaviest -/
abbrev N_some_heaviest : List Str := ["pattern", "found"]
abbrev P_some_heaviest : List Str := ["pattern"]
theorem sc_some_heaviest : FnScope N_some_heaviest P_some_heaviest (defScope s_some_heaviest) := ⟨rfl, rfl, rfl, by decide +kernel, rfl, by decide +kernel, by decide +kernel⟩
def sp_some_heaviest (K : PySem.W.Frag) : Sp := spC K fun n o Q H => ((¬ ∃ l, Ch n o l) → ∀ H', Same H H' → Q .non H') ∧ (∀ H' r l g t, Same H H' → H r = none → H' r = some (.tup (iL l)) → Ch n o l → Feas n o g t → TightAll n o g t l → Q (.ref r) H')
theorem ok_some_heaviest (T : Txt K mg) : FnOk P w K mg base CX0 6 T.f_some_heaviest.f T.f_some_heaviest.fd P_some_heaviest (sp_some_heaviest K) := by
  refine T.f_some_heaviest.F.ok sc_some_heaviest (fun vs H Q E h => ?_) (fun cdv A outer s H vs Q E hr h => ?_)
  · obtain ⟨pt0, n, o, rfl, _⟩ := h
    rfl
  · obtain ⟨pt0, n, o, rfl, hpat, hn, q0, q1⟩ := h
    refine ⟨_, (pss_cons (ps_set (i := 1) sc_some_heaviest.nd rfl (Or.inl rfl) (pe_make T.mkC (ok_init T) (hr.mono (by decide)) (by rfl) T.gC T.m_init.b .nil pass0 (pa_cons (pv 0) pa_nil)))
      (pss_one (ps_ret (pe_ifExp (pt_cmpR op_isN (fldK K (pv 1)) pe_non (nomark _)) (pe_meth0 (pv 1) T.cls T.m_choice.m (ok_choice T) (hr.mono (by decide)) T.m_choice.b .nil pass0) pe_non)))), ?_⟩
    refine ⟨_, rfl, fun x dx hx hdx hne => ⟨H, x, dx, pt0, n, o, rfl, hx, (same_upd hdx).trans (same_upd (by rw [upd_ne (fun e => hne e.symm)]; exact hx)), upd_same, hpat, hn, fun H1 z own g t sv ez c D => ⟨rfl, ?_⟩⟩⟩
    obtain ⟨dx1, hob⟩ := id c.ob
    rw [ez] at hob
    refine ⟨_, rfl, x, T.C, dx1, _, sv, rfl, hob, T.cls, T.n_short, cfs_short z sv, rfl, _, rfl, ?_⟩
    rcases D with ⟨rfl, v⟩ | ⟨y, rfl, hno⟩
    · refine ⟨_, rfl, x, dx1, _, rfl, hob, rfl, H, z, n, o, own, g, t, .non, by rw [ez]; rfl, c, v, by omega, fun H2 r s2 hr0 hr => ?_⟩
      obtain ⟨h1, h2⟩ := ownChoice_ok v
      exact q1 _ r _ g t (c.s0.trans s2) (c.s0.free hr0) hr h1 (vld_feas v) h2
    · exact q0 hno _ c.s0
/-! ### heaviest_number -/
abbrev N_heaviest_number : List Str := ["pattern", "found"]
abbrev P_heaviest_number : List Str := ["pattern"]
theorem sc_heaviest_number : FnScope N_heaviest_number P_heaviest_number (defScope s_heaviest_number) := ⟨rfl, rfl, rfl, by decide +kernel, rfl, by decide +kernel, by decide +kernel⟩
def sp_heaviest_number (K : PySem.W.Frag) : Sp := spC K fun n o Q H => ((¬ ∃ l, Ch n o l) → ∀ H', Same H H' → Q .non H') ∧ (∀ H' W, Same H H' → Heavy n o W → Q (.int W) H')
theorem ok_heaviest_number (T : Txt K mg) : FnOk P w K mg base CX0 6 T.f_heaviest_number.f T.f_heaviest_number.fd P_heaviest_number (sp_heaviest_number K) := by
  refine T.f_heaviest_number.F.ok sc_heaviest_number (fun vs H Q E h => ?_) (fun cdv A outer s H vs Q E hr h => ?_)
  · obtain ⟨pt0, n, o, rfl, _⟩ := h
    rfl
  · obtain ⟨pt0, n, o, rfl, hpat, hn, q0, q1⟩ := h
    refine ⟨_, (pss_cons (ps_set (i := 1) sc_heaviest_number.nd rfl (Or.inl rfl) (pe_make T.mkC (ok_init T) (hr.mono (by decide)) (by rfl) T.gC T.m_init.b .nil pass0 (pa_cons (pv 0) pa_nil)))
      (pss_one (ps_ret (pe_ifExp (pt_cmpR op_isN (fldK K (pv 1)) pe_non (nomark _)) (pe_op op_sub (pe_callB (sumK K) (by rfl) T.z_sum bz_sum (pa_cons (fldK K (pv 1)) pa_nil)) (pe_callB (sumK K) (by rfl) T.z_sum bz_sum (pa_cons (fldK K (pv 1)) pa_nil))) pe_non)))), ?_⟩
    refine ⟨_, rfl, fun x dx hx hdx hne => ⟨H, x, dx, pt0, n, o, rfl, hx, (same_upd hdx).trans (same_upd (by rw [upd_ne (fun e => hne e.symm)]; exact hx)), upd_same, hpat, hn, fun H1 z own g t sv ez c D => ⟨rfl, ?_⟩⟩⟩
    obtain ⟨dx1, hob⟩ := id c.ob
    rw [ez] at hob
    refine ⟨_, rfl, x, T.C, dx1, _, sv, rfl, hob, T.cls, T.n_short, cfs_short z sv, rfl, _, rfl, ?_⟩
    rcases D with ⟨rfl, v⟩ | ⟨y, rfl, hno⟩
    · have ht := c.tp
      have hg := c.gr
      rw [vec_ints] at ht hg
      refine ⟨_, rfl, x, T.C, dx1, _, .ref z.ta, rfl, hob, T.cls, T.n_tops, cfs_tops z .non, z.ta, _, rfl, SqL.of ht, ?_⟩
      refine ⟨_, rfl, x, T.C, dx1, _, .ref z.ga, rfl, hob, T.cls, T.n_grown, cfs_grown z .non, z.ga, _, rfl, SqL.of hg, ?_⟩
      exact ⟨_, _, rfl, rfl, q1 _ _ c.s0 (vld_heavy v)⟩
    · exact q0 hno _ c.s0
/-! ### short_of -/
abbrev N_short_of : List Str := ["pattern"]
abbrev P_short_of : List Str := ["pattern"]
theorem sc_short_of : FnScope N_short_of P_short_of (defScope s_short_of) := ⟨rfl, rfl, rfl, by decide +kernel, rfl, by decide +kernel, by decide +kernel⟩
def sp_short_of (K : PySem.W.Frag) : Sp := spC K fun n o Q H => ((¬ ∃ l, Ch n o l) → ∀ H' r, Same H H' → Q (.ref r) H') ∧ ((∃ l, Ch n o l) → ∀ H', Same H H' → Q .non H')
theorem ok_short_of (T : Txt K mg) : FnOk P w K mg base CX0 6 T.f_short_of.f T.f_short_of.fd P_short_of (sp_short_of K) := by
  refine T.f_short_of.F.ok sc_short_of (fun vs H Q E h => ?_) (fun cdv A outer s H vs Q E hr h => ?_)
  · obtain ⟨pt0, n, o, rfl, _⟩ := h
    rfl
  · obtain ⟨pt0, n, o, rfl, hpat, hn, q0, q1⟩ := h
    refine ⟨_, (pss_one (ps_ret (fldK K (pe_make T.mkC (ok_init T) (hr.mono (by decide)) (by rfl) T.gC T.m_init.b .nil pass0 (pa_cons (pv 0) pa_nil))))), ?_⟩
    refine ⟨_, rfl, fun x dx hx hdx hne => ⟨H, x, dx, pt0, n, o, rfl, hx, (same_upd hdx).trans (same_upd (by rw [upd_ne (fun e => hne e.symm)]; exact hx)), upd_same, hpat, hn, fun H1 z own g t sv ez c D => ⟨rfl, ?_⟩⟩⟩
    obtain ⟨dx1, hob⟩ := id c.ob
    rw [ez] at hob
    refine ⟨x, T.C, dx1, _, sv, rfl, hob, T.cls, T.n_short, cfs_short z sv, ?_⟩
    rcases D with ⟨rfl, v⟩ | ⟨y, rfl, hno⟩
    · exact q1 ⟨_, (ownChoice_ok v).1⟩ _ c.s0
    · exact q0 hno _ y c.s0
end
end Hid
/-! Tight patterns, and whether a begin goes on. -/
namespace Hid
open PySem PySem.Spec PyProof.Rows L2
theorem in_iL {l : List Nat} {j : Nat} : inV (.int (j : Int)) (iL l) = decide (j ∈ l) := by
  rw [Bool.eq_iff_iff, decide_eq_true_eq]
  unfold inV
  rw [List.any_eq_true]
  constructor
  · rintro ⟨x, hx, h⟩
    obtain ⟨u, hu, rfl⟩ := List.mem_map.mp hx
    have e : (u : Int) = (j : Int) := eq_of_beq h
    have e' : u = j := by omega
    rw [← e']
    exact hu
  · intro h
    refine ⟨.int (j : Int), List.mem_map.mpr ⟨j, h, rfl⟩, ?_⟩
    show ((j : Int) == (j : Int)) = true
    exact beq_self_eq_true _
theorem flat_iL (l : List Nat) : (iL l).all flatV = true := by
  rw [List.all_eq_true]
  intro x hx
  obtain ⟨u, _, rfl⟩ := List.mem_map.mp hx
  rfl
/-- the unknowns of the gaps that are 0 -/
def tL (l : List (Nat × Int)) : List Nat := (l.filter fun q => decide (q.2 = 0)).map (·.1)
theorem mem_tL {n : Nat} {o : Pat} {g t : Nat → Int} {i j : Nat} (hj : j < n) : j ∈ tL (gapsL n o g t i) ↔ Tight o g t i j := by
  unfold tL
  rw [List.mem_map]
  constructor
  · rintro ⟨⟨u, x⟩, hq, rfl⟩
    obtain ⟨h1, h2⟩ := List.mem_filter.mp hq
    have e : x = 0 := of_decide_eq_true h2
    subst e
    exact (tight_gaps.mp h1).2
  · intro h
    exact ⟨(j, 0), List.mem_filter.mpr ⟨tight_gaps.mpr ⟨hj, h⟩, decide_eq_true rfl⟩, rfl⟩
theorem tL_snoc (l : List (Nat × Int)) (q : Nat × Int) : tL (l ++ [q]) = if q.2 = 0 then tL l ++ [q.1] else tL l := by
  unfold tL
  rw [List.filter_append, List.map_append]
  by_cases h : q.2 = 0
  · rw [if_pos h, List.filter_cons, if_pos (decide_eq_true h)]
    rfl
  · rw [if_neg h, List.filter_cons, if_neg (by rw [decide_eq_true_eq]; exact h)]
    simp
theorem tL_len (l : List (Nat × Int)) : (tL l).length ≤ l.length := by
  unfold tL
  rw [List.length_map]
  exact List.length_filter_le _ _
theorem tight_eV {n : Nat} {o : Pat} {g t : Nat → Int} {i j : Nat} (hj : j < n) : (if j ∈ tL (gapsL n o g t i) then V.int 0 else V.non) = eV (tightP o g t i j) := by
  by_cases h : Tight o g t i j
  · rw [if_pos ((mem_tL hj).mpr h)]
    unfold tightP
    rw [if_pos (show o i j = some (t j - g i) from h)]
    rfl
  · rw [if_neg (fun z => h ((mem_tL hj).mp z))]
    unfold tightP
    rw [if_neg (show ¬ o i j = some (t j - g i) from h)]
    rfl
section
variable {P : Program} {w : World} {K : PySem.W.Frag} {mg : Str → Option Value} {base : Heap}
/-- one more address -/
def ex1 (bs : Nat → Addr) (i : Nat) (D : Addr) : Nat → Addr := fun k => if k = i then D else bs k
theorem ex1_at (bs : Nat → Addr) (i : Nat) (D : Addr) : ex1 bs i D i = D := if_pos rfl
theorem ex1_ne {bs : Nat → Addr} {i k : Nat} {D : Addr} (h : k ≠ i) : ex1 bs i D k = bs k := if_neg h
theorem vec_ex1 {bs : Nat → Addr} {i : Nat} {D : Addr} : (vec (i + 1) fun k => V.ref (ex1 bs i D k)) = (vec i fun k => V.ref (bs k)) ++ [.ref D] := by
  rw [vec_succ, ex1_at]
  congr 1
  exact vec_congr fun k hk => by rw [ex1_ne (by omega)]
/-! ### tight_pattern -/
abbrev N_tight_pattern : List Str := ["pattern", "found", "rows", "equation", "tight", "unknown", "gap"]
abbrev P_tight_pattern : List Str := ["pattern"]
theorem sc_tight_pattern : FnScope N_tight_pattern P_tight_pattern (defScope s_tight_pattern) := ⟨rfl, rfl, rfl, by decide +kernel, rfl, by decide +kernel, by decide +kernel⟩
def sp_tight_pattern (K : PySem.W.Frag) : Sp := spC K fun n o Q H => (∃ l, Ch n o l) ∧ ∀ (H' : Hp) (r : Addr) (bs : Nat → Addr) (g t : Nat → Int), Same H H' → H r = none → H' r = some (.lst (vec n fun i => .ref (bs i))) → (∀ i, i < n → H' (bs i) = some (.lst (vec n fun j => eV (tightP o g t i j)))) → Feas n o g t → Heavy n o (span n g t) → Q (.ref r) H'
theorem ok_tight_pattern (T : Txt K mg) : FnOk P w K mg base CX0 6 T.f_tight_pattern.f T.f_tight_pattern.fd P_tight_pattern (sp_tight_pattern K) := by
  refine T.f_tight_pattern.F.ok sc_tight_pattern (fun vs H Q E h => ?_) (fun cdv A outer s H vs Q E hr h => ?_)
  · obtain ⟨pt0, n, o, rfl, _⟩ := h
    rfl
  · obtain ⟨pt0, n, o, rfl, hpat, hn, hch, q⟩ := h
    refine ⟨_, (pss_cons (ps_set (i := 1) sc_tight_pattern.nd rfl (Or.inl rfl) (pe_make T.mkC (ok_init T) (hr.mono (by decide)) (by rfl) T.gC T.m_init.b .nil pass0 (pa_cons (pv 0) pa_nil)))
      (pss_cons (ps_set (i := 2) sc_tight_pattern.nd rfl (Or.inl rfl) (pe_lst pa_nil))
      (pss_cons (ps_for PassesOwn.never rfl (pi_range1 (by rfl) T.z_range (pa_cons (pe_callB (lenK K) (by rfl) T.z_len bz_len (pa_cons (pv 0) pa_nil)) pa_nil)) (pg_name (i := 3) sc_tight_pattern.nd rfl (Or.inl rfl)) (pss_cons (ps_set (i := 4) sc_tight_pattern.nd rfl (Or.inr rfl) (pe_lc (own := [("unknown", 5), ("gap", 6)]) rfl sc_tight_pattern.nd (seqK K (pe_meth (pv 1) T.cls T.m_gaps_of.m (ok_gaps_of T) (hr.mono (by decide)) T.m_gaps_of.b .nil pass0 (pa_cons (pv 3) pa_nil))) (blkOk_by (own := [("unknown", 5), ("gap", 6)]) (N := N_tight_pattern) (sc := defScope s_tight_pattern) (by decide +kernel)) (fun _ _ _ _ _ => (tupK K (n := 2) rfl (pgs_cons (pg_name (i := 5) sc_tight_pattern.nd rfl (Or.inl rfl)) (pgs_cons (pg_name (i := 6) sc_tight_pattern.nd rfl (Or.inl rfl)) pgs_nil)))) (fun _ _ _ _ _ => pts_one (pt_cmpR op_eq (pv 6) pe_int (nomark _))) (fun _ _ _ _ _ => (pv 5))))
      (pss_one (ps_expr (pe_bm PySem.F.plainAttrs_list PySem.F.slot_list_append PySem.F.type_list_append mt_append (pv 2) (pa_cons (pe_lc (own := [("unknown", 5)]) rfl sc_tight_pattern.nd (pi_range1 (by rfl) T.z_range (pa_cons (pe_callB (lenK K) (by rfl) T.z_len bz_len (pa_cons (pv 0) pa_nil)) pa_nil)) (blkOk_by (own := [("unknown", 5)]) (N := N_tight_pattern) (sc := defScope s_tight_pattern) (by decide +kernel)) (fun _ _ _ _ _ => (pg_name (i := 5) sc_tight_pattern.nd rfl (Or.inl rfl))) (fun _ _ _ _ _ => pts_nil) (fun _ _ _ _ _ => (pe_ifExp (pt_cmpR (inK K) (pv 5) (pv 4) (by rfl)) pe_int pe_non))) pa_nil))))))
      (pss_one (ps_ret (pv 2)))))), ?_⟩
    refine ⟨_, rfl, fun x dx hx hdx hne => ⟨H, x, dx, pt0, n, o, rfl, hx, (same_upd hdx).trans (same_upd (by rw [upd_ne (fun e => hne e.symm)]; exact hx)), upd_same, hpat, hn, fun H1 z own g t sv ez c D => ⟨rfl, ?_⟩⟩⟩
    rcases D with ⟨rfl, v⟩ | ⟨y, rfl, hno⟩
    rotate_left
    · exact absurd hch hno
    obtain ⟨Tp, U, a, bs0, epv, hS, hR0⟩ := hpat
    refine ⟨by show 0 ≤ sizeLine; decide, fun R hR => ?_⟩
    have kR : Same H1 (upd H1 R (.lst [])) := same_upd hR
    have c2 := c.mono kR
    have hRn : upd H1 R (.lst []) R = some (.lst []) := upd_same
    have fR : H R = none := c.s0.free hR
    have nz : z.p ≠ R ∧ z.oa ≠ R ∧ z.ga ≠ R ∧ z.ta ≠ R := by
      obtain ⟨dx1, hob⟩ := id c.ob
      exact ⟨ne_of_none hob hR, ne_of_none c.ow hR, ne_of_none c.gr hR, ne_of_none c.tp hR⟩
    generalize upd H1 R (.lst []) = H2 at c2 hRn
    refine ⟨_, rfl, Tp, a, _, by rw [epv], hS.mono c2.s0, (n : Int), by rw [vec_len], by omega, by omega, ?_⟩
    refine for_range (lo := 0) (n := ((n : Int)).toNat) (fun i σ H' => (∃ x3 x4, σ = [some pt0, some (.ref x), some (.ref R), x3, x4, none, none]) ∧ Cho K T.C H H' z n o own g t .non ∧
      ∃ bs : Nat → Addr, H' R = some (.lst (vec i fun k => .ref (bs k))) ∧ ∀ k, k < i → bs k ≠ R ∧ H' (bs k) = some (.lst (vec n fun j => eV (tightP o g t k j))))
      ⟨⟨none, none, rfl⟩, c2, fun _ => 0, hRn, fun k hk => absurd hk (Nat.not_lt_zero _)⟩ (fun i σ H' hi p => ?_) (fun σ H' p => ?_)
    · obtain ⟨⟨x3, x4, rfl⟩, c3, bs, h3, hbs⟩ := p
      have hi' : i < n := by omega
      obtain ⟨dx3, hob⟩ := id c3.ob
      rw [ez] at hob
      rw [show (0 : Int) + (i : Int) = (i : Int) by omega]
      refine ⟨_, rfl, x, dx3, _, rfl, hob, rfl, _, rfl, H, z, n, o, own, g, t, .non, i, by rw [ez]; rfl, c3, hi', by omega, fun H4 r4 s4 hr4 L4 => ?_⟩
      obtain ⟨xs, x1, x2, x5, x6⟩ := L4.seq (K := K)
      refine ⟨false, r4, xs, rfl, x1, fun D hD => ?_⟩
      refine lc_it (walkB (T := false)) (fun j H' => Same H4 H' ∧ H' D = some (.lst (iL (tL ((gapsL n o g t i).take j))))) ⟨same_upd hD, upd_same⟩ (fun j H' _ p => SqB.mono (T := false) p.1 x1) (fun j y H5 H6 hj p hy => ?_) (fun H5 p => ?_)
      · obtain ⟨rfl, hx⟩ := hy
        obtain ⟨⟨u, gap⟩, hq, b, rfl, hb⟩ := paired_get x5 hx
        refine ⟨b, _, rfl, SqT.of (p.1 _ _ hb), rfl, _, _, rfl, _, _, rfl, rfl, rfl, ?_⟩
        rw [List.take_add_one, hq]
        have e1 : tL ((gapsL n o g t i).take j ++ (some (u, gap)).toList) = if gap = 0 then tL ((gapsL n o g t i).take j) ++ [u] else tL ((gapsL n o g t i).take j) := tL_snoc _ (u, gap)
        refine ⟨_, rfl, rfl, _, rfl, ite2 (fun hg => ?_) (fun hg => ?_)⟩
        · have hg0 : gap = 0 := V.int.inj (of_decide_eq_true hg)
          rw [if_pos hg0] at e1
          refine ⟨_, rfl, _, p.2, sz64' ?_, same_mut p.1 hD, ?_⟩
          · rw [iL_len]
            have h1 := tL_len ((gapsL n o g t i).take j)
            have h2 := gaps_len n o g t i
            rw [List.length_take] at h1
            omega
          · rw [upd_same, e1, iL_snoc]
        · have hg0 : ¬ gap = 0 := fun z => hg (decide_eq_true (by rw [z]))
          rw [if_neg hg0] at e1
          rw [e1]
          exact p
      · obtain ⟨p1, p2⟩ := p
        rw [x2, List.take_length] at p2
        have s5 : Same H' H5 := s4.trans p1
        have c5 := c3.mono s5
        have h5 := s5 _ _ h3
        have b5 : ∀ k, k < i → bs k ≠ R ∧ H5 (bs k) = some (.lst (vec n fun j => eV (tightP o g t k j))) := fun k hk => ⟨(hbs k hk).1, s5 _ _ (hbs k hk).2⟩
        refine ⟨_, rfl, .inl ⟨rfl, _, SqL.of h5⟩, _, rfl, Tp, a, _, by rw [epv], hS.mono c5.s0, (n : Int), by rw [vec_len], by omega, by omega, fun D2 hD2 => ?_⟩
        have nR : D2 ≠ R := fun e => by
          rw [e, h5] at hD2
          cases hD2
        refine lc_range (lo := 0) (n := ((n : Int)).toNat) (fun j H' => Same H5 H' ∧ H' D2 = some (.lst (vec j fun j => eV (tightP o g t i j)))) ⟨same_upd hD2, upd_same⟩ (fun j H' hj p => ?_) (fun H' p => ?_)
        · have hj' : j < n := by omega
          rw [show (0 : Int) + (j : Int) = (j : Int) by omega]
          refine ⟨rfl, _, rfl, _, rfl, false, D, _, rfl, SqB.lst (p.1 _ _ p2), rfl, flat_iL _, _, rfl, ?_⟩
          have fin : ∀ vv : V, vv = eV (tightP o g t i j) → ∃ acc, H' D2 = some (.lst acc) ∧ acc.length < sizeLine ∧ Same H5 (upd H' D2 (.lst (acc ++ [vv]))) ∧ upd H' D2 (.lst (acc ++ [vv])) D2 = some (.lst (vec (j + 1) fun j => eV (tightP o g t i j))) := fun vv ev => by
            refine ⟨_, p.2, sz64' (by rw [vec_len]; omega), same_mut p.1 hD2, ?_⟩
            rw [upd_same, vec_succ, ev]
          have key := tight_eV (o := o) (g := g) (t := t) (i := i) hj'
          rw [in_iL]
          by_cases hm : j ∈ tL (gapsL n o g t i)
          · rw [if_pos hm] at key
            rw [decide_eq_true hm]
            exact fin _ key
          · rw [if_neg hm] at key
            rw [decide_eq_false hm]
            exact fin _ key
        · rw [show ((n : Int)).toNat = n by omega] at p
          have c6 := c5.mono p.1
          refine ⟨R, _, _, rfl, rfl, p.1 _ _ h5, sz64' (by rw [vec_len]; omega), ?_⟩
          refine ⟨⟨_, _, rfl⟩, c6.upd fR nz.1 nz.2.1 nz.2.2.1 nz.2.2.2, ex1 bs i D2, ?_, fun k hk => ?_⟩
          · rw [upd_same, vec_ex1]
          · by_cases e : k = i
            · rw [e, ex1_at]
              exact ⟨nR, by rw [upd_ne nR]; exact p.2⟩
            · rw [ex1_ne e]
              have z1 := b5 k (by omega)
              exact ⟨z1.1, by rw [upd_ne z1.1]; exact p.1 _ _ z1.2⟩
    · obtain ⟨⟨x3, x4, rfl⟩, c3, bs, h3, hbs⟩ := p
      rw [show ((n : Int)).toNat = n by omega] at h3 hbs
      exact ⟨_, rfl, q _ R bs g t c3.s0 fR h3 (fun i hi => (hbs i hi).2) (vld_feas v) (vld_heavy v)⟩
end
end Hid
/-! Whether a begin goes on; a begin longer by one. -/
namespace Hid
open PySem PySem.Spec PyProof.Rows L2
theorem vec_glue {n m : Nat} {f g : Nat → V} (h : m ≤ n) : vec m f ++ (vec n g).drop m = vec n fun i => if i < m then f i else g i := by
  refine List.ext_getElem? fun i => ?_
  by_cases hi : i < n
  · rw [vec_at hi]
    by_cases him : i < m
    · rw [if_pos him, List.getElem?_append_left (by rw [vec_len]; exact him), vec_at him]
    · rw [if_neg him, List.getElem?_append_right (by rw [vec_len]; omega), vec_len, List.getElem?_drop, vec_at (by omega)]
      congr 2
      omega
  · rw [List.getElem?_eq_none (by rw [List.length_append, List.length_drop, vec_len, vec_len]; omega), List.getElem?_eq_none (by rw [vec_len]; omega)]
theorem cut_from {n m : Nat} {g : Nat → V} (h : m ≤ n) : cutV (vec n g) (some (m : Int)) none = (vec n g).drop m := by
  unfold cutV
  rw [HT.sIx_nat, HT.sIx_none, vec_len, Nat.min_eq_left h]
  exact List.take_of_length_le (by rw [List.length_drop, vec_len]; exact Nat.le_refl _)
section
variable {P : Program} {w : World} {K : PySem.W.Frag} {mg : Str → Option Value} {base : Heap}
/-! ### kept_to -/
abbrev N_kept_to : List Str := ["row", "unknown", "at"]
abbrev P_kept_to : List Str := ["row", "unknown"]
theorem sc_kept_to : FnScope N_kept_to P_kept_to (defScope s_kept_to) := ⟨rfl, rfl, rfl, by decide +kernel, rfl, by decide +kernel, by decide +kernel⟩
def keepE (u j : Nat) : Option Int := if j = u then some 0 else none
def sp_kept_to (K : PySem.W.Frag) : Sp := fun vs H Q _ => ∃ (a : Addr) (xs : List V) (u : Nat), vs = [.ref a, .int (u : Int)] ∧ SqB false K H a xs ∧ xs.length ≤ 1000 ∧ ∀ H' r, Same H H' → H r = none → H' r = some (.lst (vec xs.length fun j => eV (keepE u j))) → Q (.ref r) H'
theorem ok_kept_to (T : Txt K mg) : FnOk P w K mg base CX0 1 T.f_kept_to.f T.f_kept_to.fd P_kept_to (sp_kept_to K) := by
  refine T.f_kept_to.F.ok sc_kept_to (fun vs H Q E h => ?_) (fun cdv A outer s H vs Q E hr h => ?_)
  · obtain ⟨a, xs, u, rfl, _⟩ := h
    rfl
  · obtain ⟨a, xs, u, rfl, hS, hl, q⟩ := h
    refine ⟨_, (pss_one (ps_ret (pe_lc (own := [("at", 2)]) rfl sc_kept_to.nd (pi_range1 (by rfl) T.z_range (pa_cons (pe_callB (lenK K) (by rfl) T.z_len bz_len (pa_cons (pv 0) pa_nil)) pa_nil)) (blkOk_by (own := [("at", 2)]) (N := N_kept_to) (sc := defScope s_kept_to) (by decide +kernel)) (fun _ _ _ _ _ => (pg_name (i := 2) sc_kept_to.nd rfl (Or.inl rfl))) (fun _ _ _ _ _ => pts_nil) (fun _ _ _ _ _ => (pe_ifExp (pt_cmpR op_eq (pv 2) (pv 1) (nomark _)) pe_int pe_non))))), ?_⟩
    refine ⟨_, rfl, false, a, _, rfl, hS, _, rfl, by omega, by omega, fun D hD => ?_⟩
    refine lc_range (lo := 0) (n := ((xs.length : Int)).toNat) (fun j H' => Same H H' ∧ H' D = some (.lst (vec j fun j => eV (keepE u j)))) ⟨same_upd hD, upd_same⟩ (fun j H' hj p => ?_) (fun H' p => ?_)
    · have fin : ∀ vv : V, vv = eV (keepE u j) → ∃ acc, H' D = some (.lst acc) ∧ acc.length < sizeLine ∧ Same H (upd H' D (.lst (acc ++ [vv]))) ∧ upd H' D (.lst (acc ++ [vv])) D = some (.lst (vec (j + 1) fun j => eV (keepE u j))) := fun vv ev => by
        refine ⟨_, p.2, sz64' (by rw [vec_len]; omega), same_mut p.1 hD, ?_⟩
        rw [upd_same, vec_succ, ev]
      refine ⟨rfl, _, rfl, _, rfl, rfl, _, rfl, ite2 (fun hg => ?_) (fun hg => ?_)⟩
      · have e : j = u := by
          have e := V.int.inj (of_decide_eq_true hg)
          omega
        exact fin _ (by unfold keepE; rw [if_pos e]; rfl)
      · have e : ¬ j = u := fun z => hg (decide_eq_true (by rw [z, Int.zero_add]))
        exact fin _ (by unfold keepE; rw [if_neg e]; rfl)
    · rw [show ((xs.length : Int)).toNat = xs.length by omega] at p
      exact q _ D p.1 hD p.2
/-! ### can_begin -/
abbrev N_can_begin : List Str := ["tight", "begun", "fixed", "row", "unknown"]
abbrev P_can_begin : List Str := ["tight", "begun"]
theorem sc_can_begin : FnScope N_can_begin P_can_begin (defScope s_can_begin) := ⟨rfl, rfl, rfl, by decide +kernel, rfl, by decide +kernel, by decide +kernel⟩
def sp_can_begin (K : PySem.W.Frag) : Sp := fun vs H Q _ => ∃ (r b : Addr) (n : Nat) (T : Pat) (bs : Nat → Addr) (l : List Nat), vs = [.ref r, .ref b] ∧ SqL K H r (vec n fun i => .ref (bs i)) ∧ (∀ i, i < n → SqL K H (bs i) (vec n fun j => eV (T i j))) ∧
  SqT K H b (iL l) ∧ Part n T l.length l ∧ l.length ≤ n ∧ n ≤ 60 ∧ ∀ H' c, Same H H' → (c = true ↔ Ext n T l) → Q (.bl c) H'
theorem ok_can_begin (T : Txt K mg) : FnOk P w K mg base CX0 6 T.f_can_begin.f T.f_can_begin.fd P_can_begin (sp_can_begin K) := by
  refine T.f_can_begin.F.ok sc_can_begin (fun vs H Q E h => ?_) (fun cdv A outer s H vs Q E hr h => ?_)
  · obtain ⟨r, b, n, TP, bs, l, rfl, _⟩ := h
    rfl
  · obtain ⟨r, b, n, TP, bs, l, rfl, hr0, hbs, hb, hpart, hl, hn, q⟩ := h
    refine ⟨_, (pss_cons (ps_setLc (i := 2) (own := [("row", 3), ("unknown", 4)]) rfl sc_can_begin.nd rfl rfl (sw_true rfl rfl rfl (by decide +kernel)) (zipK K (by rfl) T.z_zip (pa_cons (pv 0) (pa_cons (pv 1) pa_nil))) (blkOk_by (own := [("row", 3), ("unknown", 4)]) (N := N_can_begin) (sc := defScope s_can_begin) (by decide +kernel)) (fun _ _ _ _ _ => (tupK K (n := 2) rfl (pgs_cons (pg_name (i := 3) sc_can_begin.nd rfl (Or.inl rfl)) (pgs_cons (pg_name (i := 4) sc_can_begin.nd rfl (Or.inl rfl)) pgs_nil)))) (fun _ _ _ _ _ => pts_nil) (fun _ _ _ _ _ => (pe_call (ok_kept_to T) (hr.mono (by decide)) (by rfl) T.f_kept_to.g T.f_kept_to.F.kp T.f_kept_to.b .nil pass0 (pa_cons (pv 3) (pa_cons (pv 4) pa_nil)))))
      (pss_one (ps_ret (pe_cmpR op_isN (fldK K (pe_make T.mkC (ok_init T) (hr.mono (by decide)) (by rfl) T.gC T.m_init.b .nil pass0 (pa_cons (pe_op op_cat (pv 2) (pe_slice (slK K) (pv 0) (po_some (pe_callB (lenK K) (by rfl) T.z_len bz_len (pa_cons (pv 1) pa_nil))) po_none)) pa_nil))) pe_non (nomark _))))), ?_⟩
    refine ⟨_, rfl, _, rfl, false, true, r, b, _, _, rfl, hr0, hb, fun D hD => ?_⟩
    have hm : l.length = min (vec n fun i => V.ref (bs i)).length (iL l).length := by
      rw [vec_len, iL_len]
      omega
    refine lc_it (walk_zipB (T := false) (U := true) hm) (fun i H' => Same H H' ∧ ∃ cs : Nat → Addr, H' D = some (.lst (vec i fun k => .ref (cs k))) ∧ ∀ k, k < i → cs k ≠ D ∧ H' (cs k) = some (.lst (vec n fun j => eV (keepE (l.getD k 0) j))))
      ⟨same_upd hD, fun _ => 0, upd_same, fun k hk => absurd hk (Nat.not_lt_zero _)⟩ (fun i H' _ p => ⟨SqB.mono (T := false) p.1 hr0, SqB.mono (T := true) p.1 hb⟩) (fun i x H1 H2 hi p y => ?_) (fun H1 p => ?_)
    · obtain ⟨p1, x1, x2, rfl, hp1, rfl, e1, e2⟩ := y
      obtain ⟨s1, cs, h3, hcs⟩ := p
      obtain ⟨hin, rfl⟩ := vec_get (show (vec n fun i => V.ref (bs i))[i]? = some x1 from e1)
      obtain ⟨u, hu, rfl⟩ := iL_get (show (iL l)[i]? = some x2 from e2)
      have eu : l.getD i 0 = u := by
        rw [List.getD_eq_getElem?_getD, hu]
        rfl
      have k2 : Same H1 (upd H1 p1 (.tup [.ref (bs i), .int (u : Int)])) := same_upd hp1
      refine ⟨p1, _, rfl, SqT.of upd_same, rfl, _, _, rfl, _, _, rfl, rfl, rfl, ?_⟩
      have s2 := s1.trans k2
      refine ⟨_, rfl, _, rfl, bs i, _, u, rfl, SqB.mono (T := false) s2 (hbs i hin), by rw [vec_len]; omega, fun H3 r3 s3 hr3 h4 => ?_⟩
      rw [vec_len] at h4
      have k3 : Same H1 H3 := k2.trans s3
      have hD3 := k3 _ _ h3
      have nR : r3 ≠ D := fun e => by
        rw [e, k2 _ _ h3] at hr3
        cases hr3
      refine ⟨_, hD3, sz64' (by rw [vec_len]; omega), same_mut (s2.trans s3) hD, ex1 cs i r3, ?_, fun k hk => ?_⟩
      · rw [upd_same, vec_ex1]
      · by_cases e : k = i
        · rw [e, ex1_at, eu]
          exact ⟨nR, by rw [upd_ne nR]; exact h4⟩
        · rw [ex1_ne e]
          have z1 := hcs k (by omega)
          exact ⟨z1.1, by rw [upd_ne z1.1]; exact k3 _ _ z1.2⟩
    · obtain ⟨s1, cs, h3, hcs⟩ := p
      refine ⟨_, rfl, _, rfl, _, rfl, true, b, _, rfl, SqB.mono (T := true) s1 hb, _, rfl, r, _, rfl, SqB.mono (T := false) s1 hr0, fun p hp => ?_⟩
      rw [iL_len, cut_from hl]
      have k2 : Same H1 (upd H1 p (.lst ((vec n fun i => V.ref (bs i)).drop l.length))) := same_upd hp
      refine ⟨D, p, _, _, rfl, rfl, k2 _ _ h3, upd_same, sz64 (by rw [List.length_drop, vec_len, vec_len]; omega), fun R hR => ?_⟩
      have k3 : Same H1 _ := k2.trans (same_upd (o := .lst ((vec l.length fun k => V.ref (cs k)) ++ (vec n fun i => V.ref (bs i)).drop l.length)) hR)
      have hRR : upd (upd H1 p (.lst ((vec n fun i => V.ref (bs i)).drop l.length))) R (.lst ((vec l.length fun k => V.ref (cs k)) ++ (vec n fun i => V.ref (bs i)).drop l.length)) R = some (.lst ((vec l.length fun k => V.ref (cs k)) ++ (vec n fun i => V.ref (bs i)).drop l.length)) := upd_same
      rw [vec_glue hl] at hRR k3 ⊢
      generalize upd (upd H1 p (.lst ((vec n fun i => V.ref (bs i)).drop l.length))) R (.lst (vec n fun i => if i < l.length then V.ref (cs i) else V.ref (bs i))) = H4 at k3 hRR
      have s4 := s1.trans k3
      have hpat : ∃ T U, PatB T U K H4 (.ref R) n (fixP TP l) := by
        refine ⟨false, false, R, fun i => if i < l.length then cs i else bs i, rfl, ?_, fun i hi => ?_⟩
        · refine SqB.lst ?_
          rw [hRR]
          congr 2
          refine vec_congr fun i hi => ?_
          by_cases z : i < l.length
          · show _ = V.ref (if i < l.length then cs i else bs i)
            rw [if_pos z, if_pos z]
          · show _ = V.ref (if i < l.length then cs i else bs i)
            rw [if_neg z, if_neg z]
        · by_cases z : i < l.length
          · show SqB false K H4 (if i < l.length then cs i else bs i) _
            rw [if_pos z]
            refine SqB.lst ?_
            rw [k3 _ _ (hcs i z).2]
            congr 2
            refine vec_congr fun j hj => ?_
            unfold fixP keepE
            rw [if_pos z]
          · show SqB false K H4 (if i < l.length then cs i else bs i) _
            rw [if_neg z]
            have e : (vec n fun j => eV (fixP TP l i j)) = vec n fun j => eV (TP i j) := vec_congr fun j hj => by
              unfold fixP
              rw [if_neg z]
            rw [e]
            exact SqB.mono (T := false) s4 (hbs i hi)
      refine fun x dx hx hdx hne => ⟨H4, x, dx, .ref R, n, fixP TP l, rfl, hx, (same_upd hdx).trans (same_upd (by rw [upd_ne (fun e => hne e.symm)]; exact hx)), upd_same, hpat, hn, fun H5 z own g t sv ez c D5 => ⟨rfl, ?_⟩⟩
      obtain ⟨dx1, hob⟩ := id c.ob
      rw [ez] at hob
      refine ⟨x, T.C, dx1, _, sv, rfl, hob, T.cls, T.n_short, cfs_short z sv, rfl, ?_⟩
      refine q _ _ (s4.trans c.s0) ?_
      rw [← fix_ext hl hpart]
      rcases D5 with ⟨rfl, v⟩ | ⟨y, rfl, hno⟩
      · exact ⟨fun _ => ⟨_, (ownChoice_ok v).1⟩, fun _ => rfl⟩
      · exact ⟨fun e => (by cases e), fun e => absurd e hno⟩
end
end Hid
/-! The heaviest choices, one more unknown at a time. -/
namespace Hid
open PySem PySem.Spec PyProof.Rows L2
open Classical in
noncomputable def extB (n : Nat) (T : Pat) (b : List Nat) : Bool := decide (Ext n T b)
open Classical in
theorem extB_iff {n : Nat} {T : Pat} {b : List Nat} : extB n T b = true ↔ Ext n T b := by
  unfold extB
  exact decide_eq_true_iff
/-- what goes on from s -/
noncomputable def nextC (n : Nat) (T : Pat) (k : Nat) (s : List Nat) : List (List Nat) := ((List.range n).filter fun u => decide (T k u ≠ none ∧ u ∉ s ∧ extB n T (s ++ [u]) = true)).map fun u => s ++ [u]
theorem nextC_len (n : Nat) (T : Pat) (k : Nat) (s : List Nat) : (nextC n T k s).length ≤ n := by
  unfold nextC
  rw [List.length_map]
  have h := List.length_filter_le (fun u => decide (T k u ≠ none ∧ u ∉ s ∧ extB n T (s ++ [u]) = true)) (List.range n)
  rwa [List.length_range] at h
theorem flat_len {α β : Type} {f : α → List β} {n : Nat} (h : ∀ a, (f a).length ≤ n) : ∀ l : List α, (l.flatMap f).length ≤ l.length * n
  | [] => by simp
  | a :: l => by
    have h1 := flat_len h l
    have h2 := h a
    rw [List.flatMap_cons, List.length_append, List.length_cons, Nat.succ_mul]
    omega
theorem hC_step (n : Nat) (T : Pat) (k : Nat) : hC n T (extB n T) (k + 1) = (hC n T (extB n T) k).flatMap (nextC n T k) := rfl
theorem hC_len (n : Nat) (T : Pat) : ∀ k, (hC n T (extB n T) k).length ≤ n ^ k
  | 0 => Nat.le_refl 1
  | k + 1 => by
    rw [hC_step, Nat.pow_succ]
    exact Nat.le_trans (flat_len (nextC_len n T k) _) (Nat.mul_le_mul_right n (hC_len n T k))
theorem hC_part {n : Nat} {T : Pat} : ∀ {k : Nat} {s : List Nat}, s ∈ hC n T (extB n T) k → Part n T k s
  | 0, s, h => by
    have e : s = [] := List.mem_singleton.mp h
    rw [e]
    exact ⟨rfl, List.nodup_nil, fun j hj => absurd hj List.not_mem_nil, fun i hi => absurd hi (Nat.not_lt_zero _)⟩
  | k + 1, s, h => by
    rw [hC_step] at h
    obtain ⟨s0, hs, h⟩ := List.mem_flatMap.mp h
    obtain ⟨u, hu, rfl⟩ := List.mem_map.mp h
    obtain ⟨h1, h2⟩ := List.mem_filter.mp hu
    obtain ⟨h3, h4, _⟩ := of_decide_eq_true h2
    exact part_snoc.mpr ⟨hC_part hs, List.mem_range.mp h1, h3, h4⟩
theorem pow4 {n k : Nat} (hn : n ≤ 4) (hk : k ≤ 4) : n ^ k ≤ 256 := Nat.le_trans (Nat.pow_le_pow_left hn k) (Nat.le_trans (Nat.pow_le_pow_right (by decide) hk) (by decide))
section
variable {P : Program} {w : World} {K : PySem.W.Frag} {mg : Str → Option Value} {base : Heap}
/-! ### longer_by_one -/
abbrev N_longer_by_one : List Str := ["tight", "begun", "here", "unknown", "order"]
abbrev P_longer_by_one : List Str := ["tight", "begun"]
theorem sc_longer_by_one : FnScope N_longer_by_one P_longer_by_one (defScope s_longer_by_one) := ⟨rfl, rfl, rfl, by decide +kernel, rfl, by decide +kernel, by decide +kernel⟩
def sp_longer_by_one (K : PySem.W.Frag) : Sp := fun vs H Q _ => ∃ (r b : Addr) (n : Nat) (T : Pat) (bs : Nat → Addr) (l : List Nat), vs = [.ref r, .ref b] ∧ SqL K H r (vec n fun i => .ref (bs i)) ∧ (∀ i, i < n → SqL K H (bs i) (vec n fun j => eV (T i j))) ∧
  SqT K H b (iL l) ∧ Part n T l.length l ∧ l.length < n ∧ n ≤ 60 ∧ ∀ H' x, Same H H' → H x = none → LT iL H' x (nextC n T l.length l) → Q (.ref x) H'
theorem ok_longer_by_one (T : Txt K mg) : FnOk P w K mg base CX0 7 T.f_longer_by_one.f T.f_longer_by_one.fd P_longer_by_one (sp_longer_by_one K) := by
  refine T.f_longer_by_one.F.ok sc_longer_by_one (fun vs H Q E h => ?_) (fun cdv A outer s H vs Q E hr h => ?_)
  · obtain ⟨r, b, n, TP, bs, l, rfl, _⟩ := h
    rfl
  · obtain ⟨r, b, n, TP, bs, l, rfl, hr0, hbs, hb, hpart, hl, hn, q⟩ := h
    refine ⟨_, (pss_cons (ps_setLc (i := 2) (own := [("unknown", 3), ("order", 4)]) rfl sc_longer_by_one.nd rfl rfl (sw_true rfl rfl rfl (by decide +kernel)) (enumK K (by rfl) T.z_enumerate (pa_cons (pe_ix (ixK K) (pv 0) (pe_callB (lenK K) (by rfl) T.z_len bz_len (pa_cons (pv 1) pa_nil)) (fun _ _ => rfl)) pa_nil)) (blkOk_by (own := [("unknown", 3), ("order", 4)]) (N := N_longer_by_one) (sc := defScope s_longer_by_one) (by decide +kernel)) (fun _ _ _ _ _ => (tupK K (n := 2) rfl (pgs_cons (pg_name (i := 3) sc_longer_by_one.nd rfl (Or.inl rfl)) (pgs_cons (pg_name (i := 4) sc_longer_by_one.nd rfl (Or.inl rfl)) pgs_nil)))) (fun _ _ _ _ _ => pts_one (pt_cmpR op_notN (pv 4) pe_non (nomark _))) (fun _ _ _ _ _ => (pv 3)))
      (pss_one (ps_ret (pe_lc (own := [("unknown", 3)]) rfl sc_longer_by_one.nd (seqK K (pv 2)) (blkOk_by (own := [("unknown", 3)]) (N := N_longer_by_one) (sc := defScope s_longer_by_one) (by decide +kernel)) (fun _ _ _ _ _ => (pg_name (i := 3) sc_longer_by_one.nd rfl (Or.inl rfl))) (fun _ _ _ _ _ => pts_one (PW.pt (pw_and (pt_cmpR (notInK K) (pv 3) (pv 1) (by rfl)) (pw_and1 (pt_val (pe_call (ok_can_begin T) (hr.mono (by decide)) (by rfl) T.f_can_begin.g T.f_can_begin.F.kp T.f_can_begin.b .nil pass0 (pa_cons (pv 0) (pa_cons (pe_tup (starK K (pv 1) (pa_cons (pv 3) pa_nil))) pa_nil)))))))) (fun _ _ _ _ _ => (pe_tup (starK K (pv 1) (pa_cons (pv 3) pa_nil)))))))), ?_⟩
    refine ⟨_, rfl, _, rfl, true, b, _, rfl, hb, false, r, _, l.length, .ref (bs l.length), rfl, by rw [iL_len], hr0, vec_at hl, false, bs l.length, _, rfl, hbs _ hl, fun D hD => ?_⟩
    refine lc_it walk_enumB (fun j H' => Same H H' ∧ H' D = some (.lst (iL ((List.range j).filter fun u => decide (TP l.length u ≠ none))))) ⟨same_upd hD, upd_same⟩ (fun j H' _ p => SqB.mono (T := false) p.1 (hbs _ hl)) (fun j x H1 H2 hj p y => ?_) (fun H1 p => ?_)
    · obtain ⟨p1, x1, x2, rfl, hp1, rfl, e1, e2⟩ := y
      rw [vec_len] at hj
      obtain ⟨_, rfl⟩ := vec_get (show (vec n fun j => eV (TP l.length j))[j]? = some x2 from e2)
      obtain rfl : V.int (j : Int) = x1 := Option.some.inj e1
      have k2 : Same H1 (upd H1 p1 (.tup [.int (j : Int), eV (TP l.length j)])) := same_upd hp1
      refine ⟨p1, _, rfl, SqT.of upd_same, rfl, _, _, rfl, _, _, rfl, rfl, rfl, ?_⟩
      refine ⟨_, rfl, rfl, _, rfl, ?_⟩
      rw [List.range_succ, List.filter_append]
      cases e : TP l.length j with
      | none =>
        have e0 : [j].filter (fun u => decide (TP l.length u ≠ none)) = [] := by
          rw [List.filter_cons, if_neg (by rw [decide_eq_true_eq]; exact fun z => z e)]
          rfl
        rw [e0, List.append_nil]
        rw [e] at k2
        exact ⟨p.1.trans k2, k2 _ _ p.2⟩
      | some wd =>
        have e0 : [j].filter (fun u => decide (TP l.length u ≠ none)) = [j] := by
          rw [List.filter_cons, if_pos (by rw [decide_eq_true_eq]; intro z; rw [e] at z; cases z)]
          rfl
        rw [e0]
        rw [e] at k2
        refine ⟨_, rfl, _, k2 _ _ p.2, sz64' ?_, same_mut (p.1.trans k2) hD, ?_⟩
        · rw [iL_len]
          have := List.length_filter_le (fun u => decide (TP l.length u ≠ none)) (List.range j)
          rw [List.length_range] at this
          omega
        · rw [upd_same, iL_snoc]
    · obtain ⟨s1, h1⟩ := p
      rw [vec_len] at h1
      generalize hh : (List.range n).filter (fun u => decide (TP l.length u ≠ none)) = here at h1
      have hhl : here.length ≤ n := by
        have := List.length_filter_le (fun u => decide (TP l.length u ≠ none)) (List.range n)
        rwa [List.length_range, hh] at this
      refine ⟨_, rfl, false, D, _, rfl, SqB.lst h1, fun D2 hD2 => ?_⟩
      refine lc_it (walkB (T := false)) (fun j H' => Same H1 H' ∧ LT iL H' D2 (((here.take j).filter fun u => decide (u ∉ l ∧ extB n TP (l ++ [u]) = true)).map fun u => l ++ [u])) ⟨same_upd hD2, lt_nil⟩ (fun j H' _ p => SqB.lst (p.1 _ _ h1)) (fun j x H2 H3 hj p y => ?_) (fun H2 p => ?_)
      · obtain ⟨rfl, hx⟩ := y
        obtain ⟨u, hu, rfl⟩ := iL_get hx
        obtain ⟨s2, hL⟩ := p
        have sH := s1.trans s2
        have humem : u ∈ here := List.mem_of_getElem? hu
        rw [← hh] at humem
        obtain ⟨hu1, hu2⟩ := List.mem_filter.mp humem
        have hun : u < n := List.mem_range.mp hu1
        have hTu : TP l.length u ≠ none := of_decide_eq_true hu2
        rw [List.take_add_one, hu, List.filter_append, List.map_append]
        refine ⟨rfl, _, rfl, _, rfl, true, b, _, rfl, SqB.mono (T := true) sH hb, rfl, flat_iL _, _, rfl, ?_⟩
        have skip : ∀ H4, Same H3 H4 → ¬ (u ∉ l ∧ extB n TP (l ++ [u]) = true) → Same H1 H4 ∧ LT iL H4 D2 (((here.take j).filter fun u => decide (u ∉ l ∧ extB n TP (l ++ [u]) = true)).map (fun u => l ++ [u]) ++ ((some u).toList.filter fun u => decide (u ∉ l ∧ extB n TP (l ++ [u]) = true)).map fun u => l ++ [u]) := fun H4 s4 z => by
          have e0 : (some u).toList.filter (fun u => decide (u ∉ l ∧ extB n TP (l ++ [u]) = true)) = [] := by
            show List.filter _ [u] = []
            rw [List.filter_cons, if_neg (by rw [decide_eq_true_eq]; exact z)]
            rfl
          rw [e0, List.map_nil, List.append_nil]
          exact ⟨s2.trans s4, hL.mono s4⟩
        rw [in_iL]
        by_cases hm : u ∈ l
        · rw [decide_eq_true hm]
          exact skip _ (fun _ _ e => e) fun z => z.1 hm
        · rw [decide_eq_false hm]
          have hp2 : Part n TP (l.length + 1) (l ++ [u]) := part_snoc.mpr ⟨hpart, hun, hTu, hm⟩
          refine ⟨_, rfl, _, rfl, b, _, rfl, .inl (SqB.mono (T := true) sH hb), _, rfl, sz64 (by rw [List.length_append, iL_len]; show l.length + 1 ≤ 10000; omega), fun p3 hp3 => ?_⟩
          have k4 : Same H3 (upd H3 p3 (.tup (iL l ++ [.int (u : Int)]))) := same_upd hp3
          have s4 := sH.trans k4
          refine ⟨r, p3, n, TP, bs, l ++ [u], rfl, SqB.mono (T := false) s4 hr0, fun i hi => SqB.mono (T := false) s4 (hbs i hi), ?_, ?_, ?_, hn, fun H4 c s5 hc => ?_⟩
          · rw [iL_snoc]
            exact SqT.of upd_same
          · rw [List.length_append]
            exact hp2
          · rw [List.length_append]
            show l.length + 1 ≤ n
            omega
          have ec : c = extB n TP (l ++ [u]) := Bool.eq_iff_iff.mpr (hc.trans extB_iff.symm)
          subst ec
          refine ⟨_, rfl, ?_⟩
          cases ee : extB n TP (l ++ [u]) with
          | false =>
            exact skip _ (k4.trans s5) fun z => by
              rw [ee] at z
              exact absurd z.2 (by decide)
          | true =>
            have e0 : (some u).toList.filter (fun u => decide (u ∉ l ∧ extB n TP (l ++ [u]) = true)) = [u] := by
              show List.filter _ [u] = [u]
              rw [List.filter_cons, if_pos (by rw [decide_eq_true_eq]; exact ⟨hm, ee⟩)]
              rfl
            rw [e0]
            have s6 : Same H3 H4 := k4.trans s5
            have b4 : SqT K H4 b (iL l) := SqB.mono (T := true) (sH.trans s6) hb
            refine ⟨_, rfl, b, _, rfl, .inl b4, _, rfl, sz64 (by rw [List.length_append, iL_len]; show l.length + 1 ≤ 10000; omega), fun p5 hp5 => ?_⟩
            have k7 : Same H4 (upd H4 p5 (.tup (iL l ++ [.int (u : Int)]))) := same_upd hp5
            have L7 := hL.mono (s6.trans k7)
            obtain ⟨acc, y1, y2, y3, y4⟩ := L7.seq (K := K)
            refine ⟨acc, y4, sz64' ?_, same_mut (s2.trans (s6.trans k7)) hD2, ?_⟩
            · rw [y2, List.length_map]
              have := List.length_filter_le (fun u => decide (u ∉ l ∧ extB n TP (l ++ [u]) = true)) (here.take j)
              rw [List.length_take] at this
              omega
            · exact lt_snoc L7 y4 ⟨p5, rfl, by rw [iL_snoc]; exact upd_same⟩
      · obtain ⟨s2, hL⟩ := p
        refine q _ D2 (s1.trans s2) (s1.free hD2) ?_
        rw [iL_len, List.take_length] at hL
        have e : nextC n TP l.length l = (here.filter fun u => decide (u ∉ l ∧ extB n TP (l ++ [u]) = true)).map fun u => l ++ [u] := by
          unfold nextC
          rw [← hh, List.filter_filter]
          congr 1
          refine List.filter_congr fun u _ => ?_
          rw [Bool.eq_iff_iff, Bool.and_eq_true, decide_eq_true_eq, decide_eq_true_eq, decide_eq_true_eq]
          exact ⟨fun ⟨a, b⟩ => ⟨b, a⟩, fun ⟨a, b⟩ => ⟨b, a⟩⟩
        rw [e]
        exact hL
end
end Hid
/-! The heaviest choices of a pattern. -/
namespace Hid
open PySem PySem.Spec PyProof.Rows L2
/-- tuples whose parts are raw tuples: they stand whatever else is done -/
def PatT (H : Hp) (v : V) (n : Nat) (o : Pat) : Prop := ∃ (a : Addr) (bs : Nat → Addr), v = .ref a ∧ H a = some (.tup (vec n fun i => .ref (bs i))) ∧ ∀ i, i < n → H (bs i) = some (.tup (vec n fun j => eV (o i j)))
theorem PatT.tk {H H' : Hp} {v : V} {n : Nat} {o : Pat} (k : TK H H') (h : PatT H v n o) : PatT H' v n o := by
  obtain ⟨a, bs, e, h1, h2⟩ := h
  exact ⟨a, bs, e, k _ _ h1, fun i hi => k _ _ (h2 i hi)⟩
theorem PatT.b {K : PySem.W.Frag} {H : Hp} {v : V} {n : Nat} {o : Pat} (h : PatT H v n o) : PatB true true K H v n o := by
  obtain ⟨a, bs, e, h1, h2⟩ := h
  exact ⟨a, bs, e, SqB.tup h1, fun i hi => SqB.tup (h2 i hi)⟩
/-- a tuple of tuples -/
def TT {α : Type} (enc : α → List V) (H : Hp) (D : Addr) (l : List α) : Prop := ∃ xs, H D = some (.tup xs) ∧ Paired (IsT enc H) xs l
theorem TT.tk {α : Type} {enc : α → List V} {H H' : Hp} {D : Addr} {l : List α} (k : TK H H') (h : TT enc H D l) : TT enc H' D l := by
  obtain ⟨xs, h1, h2⟩ := h
  exact ⟨xs, k _ _ h1, Paired.mapP h2 fun _ _ q => q.tk k⟩
section
variable {P : Program} {w : World} {K : PySem.W.Frag} {mg : Str → Option Value} {base : Heap}
/-! ### heaviest_of -/
abbrev N_heaviest_of : List Str := ["pattern", "tight", "found", "step", "begun", "longer"]
abbrev P_heaviest_of : List Str := ["pattern"]
theorem sc_heaviest_of : FnScope N_heaviest_of P_heaviest_of (defScope s_heaviest_of) := ⟨rfl, rfl, rfl, by decide +kernel, rfl, by decide +kernel, by decide +kernel⟩
def sp_heaviest_of (K : PySem.W.Frag) : Sp := spC K fun n o Q H => n ≤ 4 ∧ (∃ l, Ch n o l) ∧ ∀ (H' : Hp) (r : Addr) (W : Int) (g t : Nat → Int), Same H H' → H r = none → Heavy n o W → Feas n o g t → span n g t = W → LT iL H' r (heavies n o W) → Q (.ref r) H'
theorem ok_heaviest_of (T : Txt K mg) : FnOk P w K mg base CX0 8 T.f_heaviest_of.f T.f_heaviest_of.fd P_heaviest_of (sp_heaviest_of K) := by
  refine T.f_heaviest_of.F.ok sc_heaviest_of (fun vs H Q E h => ?_) (fun cdv A outer s H vs Q E hr h => ?_)
  · obtain ⟨pt0, n, o, rfl, _⟩ := h
    rfl
  · obtain ⟨pt0, n, o, rfl, hpat, hn, hn4, hch, q⟩ := h
    refine ⟨_, (pss_cons (ps_if (pt_cmpR op_notN (pe_call (ok_short_of T) (hr.mono (by decide)) (by rfl) T.f_short_of.g T.f_short_of.F.kp T.f_short_of.b .nil pass0 (pa_cons (pv 0) pa_nil)) pe_non (nomark _)) (pss_one (ps_ret (pe_lst pa_nil))) pss_nil)
      (pss_cons (ps_asg (pe_tup (pa_cons (pe_call (ok_tight_pattern T) (hr.mono (by decide)) (by rfl) T.f_tight_pattern.g T.f_tight_pattern.F.kp T.f_tight_pattern.b .nil pass0 (pa_cons (pv 0) pa_nil)) (pa_cons (pe_lst (pa_cons (pe_tup pa_nil) pa_nil)) pa_nil))) (tupK K (n := 2) rfl (pgs_cons (pg_name (i := 1) sc_heaviest_of.nd rfl (Or.inr rfl)) (pgs_cons (pg_name (i := 2) sc_heaviest_of.nd rfl (Or.inl rfl)) pgs_nil))))
      (pss_cons (ps_for PassesOwn.never rfl (pi_range1 (by rfl) T.z_range (pa_cons (pe_callB (lenK K) (by rfl) T.z_len bz_len (pa_cons (pv 0) pa_nil)) pa_nil)) (pg_name (i := 3) sc_heaviest_of.nd rfl (Or.inl rfl)) (pss_one (ps_setLc2 (i := 2) (own := [("begun", 4), ("longer", 5)]) (vs1 := [5]) rfl sc_heaviest_of.nd rfl rfl (sw_true rfl rfl rfl (by decide +kernel)) (seqK K (pv 2)) (blkOk_by (own := [("begun", 4), ("longer", 5)]) (N := N_heaviest_of) (sc := defScope s_heaviest_of) (by decide +kernel)) (by decide) (fun _ _ _ _ _ => (pg_name (i := 4) sc_heaviest_of.nd rfl (Or.inl rfl))) (fun _ _ _ _ _ => pts_nil) (fun _ _ _ _ _ => (seqK K (pe_call (ok_longer_by_one T) (hr.mono (by decide)) (by rfl) T.f_longer_by_one.g T.f_longer_by_one.F.kp T.f_longer_by_one.b .nil pass0 (pa_cons (pv 1) (pa_cons (pv 4) pa_nil))))) (fun _ _ _ _ _ => (pg_name (i := 5) sc_heaviest_of.nd rfl (Or.inl rfl))) (fun _ _ _ _ _ => pts_nil) (fun _ _ _ _ _ => (pv 5)))))
      (pss_one (ps_ret (pv 2)))))), ?_⟩
    refine ⟨_, rfl, pt0, n, o, rfl, hpat, hn, fun z => absurd hch z, fun _ H1 s1 => ?_⟩
    refine ⟨rfl, _, rfl, ?_⟩
    have hpat1 : ∃ T U, PatB T U K H1 pt0 n o := by
      obtain ⟨T1, U1, h1⟩ := hpat
      exact ⟨T1, U1, h1.mono s1⟩
    refine ⟨_, rfl, pt0, n, o, rfl, hpat1, hn, hch, fun H2 R bs g t s2 fR hR hbs hf hw => ?_⟩
    refine ⟨by show 0 ≤ sizeLine; decide, fun p0 hp0 => ?_⟩
    have k3 : Same H2 (upd H2 p0 (.tup [])) := same_upd hp0
    have e3 : upd H2 p0 (.tup []) p0 = some (.tup []) := upd_same
    generalize upd H2 p0 (.tup []) = H3 at k3 e3
    refine ⟨by show 1 ≤ sizeLine; decide, fun F hF => ?_⟩
    have k4 : Same H3 (upd H3 F (.lst [.ref p0])) := same_upd hF
    have e4 : upd H3 F (.lst [.ref p0]) F = some (.lst [.ref p0]) := upd_same
    have fF : H F = none := (s1.trans (s2.trans k3)).free hF
    generalize upd H3 F (.lst [.ref p0]) = H4 at k4 e4
    refine ⟨by show 2 ≤ sizeLine; decide, fun p5 hp5 => ?_⟩
    have k5 : Same H4 (upd H4 p5 (.tup [.ref R, .ref F])) := same_upd hp5
    have e5 : upd H4 p5 (.tup [.ref R, .ref F]) p5 = some (.tup [.ref R, .ref F]) := upd_same
    generalize upd H4 p5 (.tup [.ref R, .ref F]) = H5 at k5 e5
    refine ⟨p5, _, rfl, SqT.of e5, rfl, _, _, rfl, _, _, rfl, rfl, ?_⟩
    have s5 : Same H2 H5 := k3.trans (k4.trans k5)
    have sH5 : Same H H5 := s1.trans (s2.trans s5)
    have L5 : LT iL H5 F (hC n (tightP o g t) (extB n (tightP o g t)) 0) := ⟨[.ref p0], k5 _ _ e4, .cons ⟨p0, rfl, k5 _ _ (k4 _ _ e3)⟩ .nil⟩
    generalize hTP : tightP o g t = TP at hbs L5
    obtain ⟨Tp, U, a, bs0, epv, hS, hR0⟩ := id hpat
    refine ⟨_, rfl, Tp, a, _, by rw [epv], hS.mono sH5, (n : Int), by rw [vec_len], by omega, by omega, ?_⟩
    refine for_range (lo := 0) (n := ((n : Int)).toNat) (fun i σ H' => ∃ (F : Addr) (x3 : Option V), σ = [some pt0, some (.ref R), some (.ref F), x3, none, none] ∧ H F = none ∧ Same H5 H' ∧ LT iL H' F (hC n TP (extB n TP) i))
      ⟨F, none, rfl, fF, fun _ _ e => e, L5⟩ (fun i σ H' hi p => ?_) (fun σ H' p => ?_)
    · obtain ⟨F, x3, rfl, fF, sH, L⟩ := p
      have hi' : i < n := by omega
      have hlen : (hC n TP (extB n TP) i).length ≤ 256 := Nat.le_trans (hC_len n TP i) (pow4 hn4 (by omega))
      obtain ⟨xs, x1, x2, x4, x5⟩ := L.seq (K := K)
      refine ⟨_, rfl, false, F, xs, rfl, x1, fun D hD => ?_⟩
      refine lc2_it (walkB (T := false)) (fun j H6 => Same H' H6 ∧ LT iL H6 D (((hC n TP (extB n TP) i).take j).flatMap (nextC n TP i))) ⟨same_upd hD, lt_nil⟩ (fun j H6 _ p => SqB.mono (T := false) p.1 x1) (fun j x H6 H7 hj p y => ?_) (fun H6 p => ?_)
      · obtain ⟨rfl, hx⟩ := y
        obtain ⟨s, hs, b, rfl, hb⟩ := paired_get x4 hx
        have hpart := hC_part (List.mem_of_getElem? hs)
        have hsl : s.length = i := hpart.len
        have sb := sH.trans p.1
        refine ⟨rfl, ?_⟩
        refine ⟨_, rfl, _, rfl, R, b, n, TP, bs, s, rfl, SqL.of (sb _ _ (s5 _ _ hR)), fun k hk => SqL.of (sb _ _ (s5 _ _ (hbs k hk))), SqT.of (p.1 _ _ hb), by rw [hsl]; exact hpart, by rw [hsl]; exact hi', hn, fun H8 r8 s8 hr8 L8 => ?_⟩
        rw [hsl] at L8
        obtain ⟨ys, y1, y2, y3, y4⟩ := L8.seq (K := K)
        have hDr : D ≠ r8 := by
          obtain ⟨acc, _, _, _, z4⟩ := p.2.seq (K := K)
          exact ne_of_none z4 hr8
        refine ⟨false, r8, ys, rfl, y1, ?_⟩
        refine in_it (walkB (T := false)) (fun k H9 => SB [D] H8 H9 ∧ TK H8 H9 ∧ Same H' H9 ∧ LT iL H9 D (((hC n TP (extB n TP) i).take j).flatMap (nextC n TP i) ++ (nextC n TP i s).take k)) ⟨SB.refl _ _, fun _ _ e => e, p.1.trans s8, ?_⟩ (fun k H9 _ p9 => SqB.lst (p9.1 _ _ y4 (by simpa using fun z => hDr z.symm))) (fun k x H9 H10 hk p9 y => ?_) (fun H9 p9 => ?_)
        · rw [List.take_zero, List.append_nil]
          exact p.2.mono s8
        · obtain ⟨rfl, hx⟩ := y
          obtain ⟨s', hs', hT'⟩ := paired_get y3 hx
          refine ⟨rfl, ?_⟩
          have L10 := p9.2.2.2
          obtain ⟨acc, z1, z2, z3, z4⟩ := L10.seq (K := K)
          refine ⟨_, rfl, acc, z4, sz64' ?_, p9.1.upd (by simp), p9.2.1.trans (tk_upd fun xs z => by rw [z4] at z; cases z), same_mut p9.2.2.1 hD, ?_⟩
          · rw [z2, List.length_append, List.length_take]
            have h1 := flat_len (nextC_len n TP i) ((hC n TP (extB n TP) i).take j)
            have h2 := nextC_len n TP i s
            rw [List.length_take] at h1
            have h3 : min j (hC n TP (extB n TP) i).length * n ≤ 256 * 4 := Nat.mul_le_mul (by omega) hn4
            omega
          · rw [List.take_add_one, hs', ← List.append_assoc]
            exact lt_snoc L10 z4 (hT'.tk p9.2.1)
        · refine ⟨p9.2.2.1, ?_⟩
          have z := p9.2.2.2
          rw [y2, List.take_length] at z
          rw [List.take_add_one, hs, List.flatMap_append]
          have e : (some s).toList.flatMap (nextC n TP i) = nextC n TP i s := by
            show [s].flatMap _ = _
            rw [List.flatMap_cons, List.flatMap_nil, List.append_nil]
          rw [e]
          exact z
      · refine ⟨D, _, rfl, (sH5.trans sH).free hD, sH.trans p.1, ?_⟩
        rw [hC_step]
        have z := p.2
        rw [x2, List.take_length] at z
        exact z
    · obtain ⟨F, x3, rfl, fF, sH, L⟩ := p
      rw [show ((n : Int)).toNat = n by omega, ← hTP, hC_heavies hw hf rfl (fun _ _ _ _ => extB_iff)] at L
      exact ⟨_, rfl, q _ F _ g t (sH5.trans sH) fF hw hf rfl L⟩
/-! ### check_choices, heaviest_choices -/
abbrev N_check_choices : List Str := ["pattern"]
abbrev P_check_choices : List Str := ["pattern"]
theorem sc_check_choices : FnScope N_check_choices P_check_choices (defScope s_check_choices) := ⟨rfl, rfl, rfl, by decide +kernel, rfl, by decide +kernel, by decide +kernel⟩
def sp_check_choices (K : PySem.W.Frag) : Sp := spC K fun n o Q H => (∃ l, Ch n o l) ∧ ∀ H', Same H H' → Q .non H'
theorem ok_check_choices (T : Txt K mg) : FnOk P w K mg base CX0 7 T.f_check_choices.f T.f_check_choices.fd P_check_choices (sp_check_choices K) := by
  refine T.f_check_choices.F.ok sc_check_choices (fun vs H Q E h => ?_) (fun cdv A outer s H vs Q E hr h => ?_)
  · obtain ⟨pt0, n, o, rfl, _⟩ := h
    rfl
  · obtain ⟨pt0, n, o, rfl, hpat, hn, hch, q⟩ := h
    refine ⟨_, (pss_one (ps_if (pt_cmpR op_isN (pe_call (ok_heaviest_number T) (hr.mono (by decide)) (by rfl) T.f_heaviest_number.g T.f_heaviest_number.F.kp T.f_heaviest_number.b .nil pass0 (pa_cons (pv 0) pa_nil)) pe_non (nomark _)) (pss_one ps_never) pss_nil)), ?_⟩
    refine ⟨_, rfl, pt0, n, o, rfl, hpat, hn, fun z => absurd hch z, fun H1 W s1 _ => ?_⟩
    exact ⟨rfl, _, rfl, q _ s1⟩
abbrev N_heaviest_choices : List Str := ["pattern"]
abbrev P_heaviest_choices : List Str := ["pattern"]
theorem sc_heaviest_choices : FnScope N_heaviest_choices P_heaviest_choices (defScope s_heaviest_choices) := ⟨rfl, rfl, rfl, by decide +kernel, rfl, by decide +kernel, by decide +kernel⟩
def sp_heaviest_choices (K : PySem.W.Frag) : Sp := fun vs H Q _ => ∃ (v : V) (n : Nat) (o : Pat), vs = [v] ∧ PatB true true K H v n o ∧ 0 < n ∧ n ≤ 4 ∧ NonNeg n o ∧ (∃ l, Ch n o l) ∧
  ∀ (H' : Hp) (r : Addr) (W : Int) (g t : Nat → Int), Same H H' → H r = none → Heavy n o W → Feas n o g t → span n g t = W → TT iL H' r (heavies n o W) → Q (.ref r) H'
theorem ok_heaviest_choices (T : Txt K mg) : FnOk P w K mg base CX0 9 T.f_heaviest_choices.f T.f_heaviest_choices.fd P_heaviest_choices (sp_heaviest_choices K) := by
  refine T.f_heaviest_choices.F.ok sc_heaviest_choices (fun vs H Q E h => ?_) (fun cdv A outer s H vs Q E hr h => ?_)
  · obtain ⟨pt0, n, o, rfl, _⟩ := h
    rfl
  · obtain ⟨pt0, n, o, rfl, hpat, h0, hn, hnn, hch, q⟩ := h
    refine ⟨_, (pss_cons (ps_expr (pe_call (ok_check_pattern T) (hr.mono (by decide)) (by rfl) T.f_check_pattern.g T.f_check_pattern.F.kp T.f_check_pattern.b .nil pass0 (pa_cons (pv 0) pa_nil)))
      (pss_one (ps_ret (pe_callTy (tupleK K) (by rfl) T.z_tuple bz_tuple (pa_cons (pe_call (ok_heaviest_of T) (hr.mono (by decide)) (by rfl) T.f_heaviest_of.g T.f_heaviest_of.F.kp T.f_heaviest_of.b .nil pass0 (pa_cons (pv 0) pa_nil)) pa_nil))))), ?_⟩
    refine ⟨_, rfl, pt0, n, o, rfl, hpat, h0, by omega, hnn, fun H1 s1 => ?_⟩
    refine ⟨_, rfl, pt0, n, o, rfl, ⟨true, true, hpat.mono s1⟩, by omega, hn, hch, fun H2 r W g t s2 hr0 hw hf hs L => ?_⟩
    obtain ⟨xs, h1, h2⟩ := L
    refine ⟨r, xs, rfl, SqL.of h1, fun x hx => ?_⟩
    have k3 : Same H2 (upd H2 x (.tup xs)) := same_upd hx
    exact q _ x W g t (s1.trans (s2.trans k3)) ((s1.trans s2).free hx) hw hf hs ⟨xs, upd_same, Paired.mapP h2 fun _ _ y => y.tk (same_tk k3)⟩
end
end Hid
/-! Offsets: what a pattern mentions; whether offsets are offsets of it. -/
namespace Hid
open PySem PySem.Spec PyProof.Rows L2
/-! ### what a pattern mentions -/
def enT (q : Nat × Nat × Int) : List V := [.int q.1, .int q.2.1, .int q.2.2]
def enF (q : Nat × Nat × Option Int) : List V := [.int q.1, .int q.2.1, eV q.2.2]
def rowF (n : Nat) (o : Pat) (i : Nat) : List (Nat × Nat × Option Int) := (List.range n).map fun j => (i, j, o i j)
def allF (n : Nat) (o : Pat) : List (Nat × Nat × Option Int) := (List.range n).flatMap (rowF n o)
def keepF (q : Nat × Nat × Option Int) : Option (Nat × Nat × Int) := q.2.2.map fun w => (q.1, q.2.1, w)
def ment (n : Nat) (o : Pat) : List (Nat × Nat × Int) := (allF n o).filterMap keepF
theorem rowF_len (n : Nat) (o : Pat) (i : Nat) : (rowF n o i).length = n := by
  unfold rowF
  rw [List.length_map, List.length_range]
theorem allF_len (n : Nat) (o : Pat) : (allF n o).length ≤ n * n := by
  have h := flat_len (f := rowF n o) (n := n) (fun i => by rw [rowF_len]; exact Nat.le_refl _) (List.range n)
  rwa [List.length_range] at h
theorem mem_ment {n : Nat} {o : Pat} {q : Nat × Nat × Int} : q ∈ ment n o ↔ q.1 < n ∧ q.2.1 < n ∧ o q.1 q.2.1 = some q.2.2 := by
  unfold ment allF rowF
  rw [List.mem_filterMap]
  constructor
  · rintro ⟨f, hf, h⟩
    obtain ⟨i, hi, hf⟩ := List.mem_flatMap.mp hf
    obtain ⟨j, hj, rfl⟩ := List.mem_map.mp hf
    unfold keepF at h
    cases e : o i j with
    | none =>
      rw [show (i, j, o i j).2.2 = o i j from rfl, e] at h
      cases h
    | some w =>
      rw [show (i, j, o i j).2.2 = o i j from rfl, e] at h
      cases h
      exact ⟨List.mem_range.mp hi, List.mem_range.mp hj, e⟩
  · rintro ⟨hi, hj, e⟩
    refine ⟨(q.1, q.2.1, o q.1 q.2.1), List.mem_flatMap.mpr ⟨q.1, List.mem_range.mpr hi, List.mem_map.mpr ⟨q.2.1, List.mem_range.mpr hj, rfl⟩⟩, ?_⟩
    unfold keepF
    rw [show (q.1, q.2.1, o q.1 q.2.1).2.2 = o q.1 q.2.1 from rfl, e]
    rfl
theorem ment_len (n : Nat) (o : Pat) : (ment n o).length ≤ n * n := Nat.le_trans (List.length_filterMap_le _ _) (allF_len n o)
theorem sq60 {n : Nat} (h : n ≤ 60) : n * n ≤ 3600 := Nat.mul_le_mul h h
/-! ### offsets: two tuples of numbers -/
def OffT (H : Hp) (v : V) (n : Nat) (c d : Nat → Int) : Prop := ∃ p a b : Addr, v = .ref p ∧ H p = some (.tup [.ref a, .ref b]) ∧ H a = some (.tup (vec n fun i => .int (c i))) ∧ H b = some (.tup (vec n fun j => .int (d j)))
theorem OffT.tk {H H' : Hp} {v : V} {n : Nat} {c d : Nat → Int} (k : TK H H') (h : OffT H v n c d) : OffT H' v n c d := by
  obtain ⟨p, a, b, e, h1, h2, h3⟩ := h
  exact ⟨p, a, b, e, k _ _ h1, k _ _ h2, k _ _ h3⟩
def Pos0 (n : Nat) (c : Nat → Int) : Prop := ∀ i, i < n → 0 ≤ c i
section
variable {P : Program} {w : World} {K : PySem.W.Frag} {mg : Str → Option Value} {base : Heap}
/-! ### are_counts -/
abbrev N_are_counts : List Str := ["value", "many", "number"]
abbrev P_are_counts : List Str := ["value", "many"]
theorem sc_are_counts : FnScope N_are_counts P_are_counts (defScope s_are_counts) := ⟨rfl, rfl, rfl, by decide +kernel, rfl, by decide +kernel, by decide +kernel⟩
def sp_are_counts (K : PySem.W.Frag) : Sp := fun vs H Q _ => ∃ (a : Addr) (n : Nat) (c : Nat → Int), vs = [.ref a, .int (n : Int)] ∧ SqT K H a (vec n fun i => .int (c i)) ∧ Pos0 n c ∧ n ≤ 1000 ∧ ∀ H', Same H H' → Q (.bl true) H'
theorem ok_are_counts (T : Txt K mg) : FnOk P w K mg base CX0 3 T.f_are_counts.f T.f_are_counts.fd P_are_counts (sp_are_counts K) := by
  refine T.f_are_counts.F.ok sc_are_counts (fun vs H Q E h => ?_) (fun cdv A outer s H vs Q E hr h => ?_)
  · obtain ⟨a, n, c, rfl, _⟩ := h
    rfl
  · obtain ⟨a, n, c, rfl, hS, hpos, hn, q⟩ := h
    refine ⟨_, (pss_one (ps_ret (pe_and (pe_call (ok_are_wholes T) (hr.mono (by decide)) (by rfl) T.f_are_wholes.g T.f_are_wholes.F.kp T.f_are_wholes.b .nil pass0 (pa_cons (pv 0) (pa_cons (pv 1) pa_nil))) (pe_one (pe_callB (allK K) (by rfl) T.z_all bz_all (pa_cons (pe_lc (own := [("number", 2)]) rfl sc_are_counts.nd (seqK K (pv 0)) (blkOk_by (own := [("number", 2)]) (N := N_are_counts) (sc := defScope s_are_counts) (by decide +kernel)) (fun _ _ _ _ _ => (pg_name (i := 2) sc_are_counts.nd rfl (Or.inl rfl))) (fun _ _ _ _ _ => pts_nil) (fun _ _ _ _ _ => (pe_cmpR op_ge (pv 2) pe_int (nomark _)))) pa_nil)))))), ?_⟩
    have hS2 := hS
    rw [vec_ints] at hS2
    have hl : ((List.range n).map c).length = n := by rw [List.length_map, List.length_range]
    refine ⟨_, rfl, _, rfl, a, (List.range n).map c, by rw [hl]; rfl, hS2, by omega, fun H1 s1 => ⟨true, rfl, iteT ?_⟩⟩
    refine ⟨_, rfl, true, a, _, rfl, SqB.mono (T := true) s1 hS, fun D hD => ?_⟩
    refine lc_it (walkB (T := true)) (fun i H' => Same H1 H' ∧ H' D = some (.lst ((List.replicate i true).map V.bl))) ⟨same_upd hD, upd_same⟩ (fun i H' _ p => SqB.mono (T := true) (s1.trans p.1) hS) (fun i x H' H2 hi p y => ?_) (fun H' p => ?_)
    · obtain ⟨rfl, hx⟩ := y
      obtain ⟨hin, rfl⟩ := vec_get hx
      refine ⟨rfl, _, rfl, c i, 0, rfl, rfl, _, p.2, sz64' ?_, same_mut p.1 hD, ?_⟩
      · rw [List.length_map, List.length_replicate]
        omega
      · rw [upd_same, List.replicate_succ', List.map_append]
        show some (HO.lst (_ ++ [V.bl (decide (0 ≤ c i))])) = _
        rw [decide_eq_true (hpos i hin)]
        rfl
    · refine ⟨D, _, rfl, SqL.of p.2, ?_⟩
      have e : (List.replicate (vec n fun i => V.int (c i)).length true).all id = true := by
        rw [List.all_eq_true]
        intro x hx
        rw [List.eq_of_mem_replicate hx]
        rfl
      rw [e]
      exact q _ (s1.trans p.1)
/-! ### mentions -/
abbrev N_mentions : List Str := ["pattern", "found", "at", "row", "unknown", "order", "each"]
abbrev P_mentions : List Str := ["pattern"]
theorem sc_mentions : FnScope N_mentions P_mentions (defScope s_mentions) := ⟨rfl, rfl, rfl, by decide +kernel, rfl, by decide +kernel, by decide +kernel⟩
def sp_mentions (K : PySem.W.Frag) : Sp := spC K fun n o Q H => ∀ (H' : Hp) (r : Addr), Same H H' → H r = none → LT enT H' r (ment n o) → Q (.ref r) H'
theorem ok_mentions (T : Txt K mg) : FnOk P w K mg base CX0 1 T.f_mentions.f T.f_mentions.fd P_mentions (sp_mentions K) := by
  refine T.f_mentions.F.ok sc_mentions (fun vs H Q E h => ?_) (fun cdv A outer s H vs Q E hr h => ?_)
  · obtain ⟨pt0, n, o, rfl, _⟩ := h
    rfl
  · obtain ⟨pt0, n, o, rfl, hpat, hn, q⟩ := h
    refine ⟨_, (pss_cons (ps_setLc2 (i := 1) (own := [("at", 2), ("row", 3), ("unknown", 4), ("order", 5)]) (vs1 := [4, 5]) rfl sc_mentions.nd rfl rfl (sw_true rfl rfl rfl (by decide +kernel)) (enumK K (by rfl) T.z_enumerate (pa_cons (pv 0) pa_nil)) (blkOk_by (own := [("at", 2), ("row", 3), ("unknown", 4), ("order", 5)]) (N := N_mentions) (sc := defScope s_mentions) (by decide +kernel)) (by decide) (fun _ _ _ _ _ => (tupK K (n := 2) rfl (pgs_cons (pg_name (i := 2) sc_mentions.nd rfl (Or.inl rfl)) (pgs_cons (pg_name (i := 3) sc_mentions.nd rfl (Or.inl rfl)) pgs_nil)))) (fun _ _ _ _ _ => pts_nil) (fun _ _ _ _ _ => (enumK K (by rfl) T.z_enumerate (pa_cons (pv 3) pa_nil))) (fun _ _ _ _ _ => (tupK K (n := 2) rfl (pgs_cons (pg_name (i := 4) sc_mentions.nd rfl (Or.inl rfl)) (pgs_cons (pg_name (i := 5) sc_mentions.nd rfl (Or.inl rfl)) pgs_nil)))) (fun _ _ _ _ _ => pts_nil) (fun _ _ _ _ _ => (pe_tup (pa_cons (pv 2) (pa_cons (pv 4) (pa_cons (pv 5) pa_nil))))))
      (pss_one (ps_ret (pe_lc (own := [("each", 6)]) rfl sc_mentions.nd (seqK K (pv 1)) (blkOk_by (own := [("each", 6)]) (N := N_mentions) (sc := defScope s_mentions) (by decide +kernel)) (fun _ _ _ _ _ => (pg_name (i := 6) sc_mentions.nd rfl (Or.inl rfl))) (fun _ _ _ _ _ => pts_one (pt_cmpR op_notN (pe_ix (ixK K) (pv 6) pe_int (fun _ _ => rfl)) pe_non (nomark _))) (fun _ _ _ _ _ => (pv 6)))))), ?_⟩
    obtain ⟨Tp, U, a, bs, rfl, hS, hR⟩ := hpat
    have hsq := sq60 hn
    refine ⟨_, rfl, Tp, a, _, rfl, hS, fun D hD => ?_⟩
    refine lc2_it walk_enumB (fun i H' => Same H H' ∧ LT enF H' D ((List.range i).flatMap (rowF n o))) ⟨same_upd hD, lt_nil⟩ (fun i H' _ p => hS.mono p.1) (fun i x H1 H2 hi p y => ?_) (fun H1 p => ?_)
    · obtain ⟨p1, x1, x2, rfl, hp1, rfl, e1, e2⟩ := y
      rw [vec_len] at hi
      obtain ⟨_, rfl⟩ := vec_get (show (vec n fun i => V.ref (bs i))[i]? = some x2 from e2)
      obtain rfl : V.int (i : Int) = x1 := Option.some.inj e1
      have k2 : Same H1 (upd H1 p1 (.tup [.int (i : Int), .ref (bs i)])) := same_upd hp1
      have s2 := p.1.trans k2
      refine ⟨p1, _, rfl, SqT.of upd_same, rfl, _, _, rfl, _, _, rfl, rfl, rfl, ?_⟩
      refine ⟨_, rfl, U, bs i, _, rfl, (hR i hi).mono s2, ?_⟩
      refine in_it walk_enumB (fun j H' => Same H H' ∧ LT enF H' D ((List.range i).flatMap (rowF n o) ++ (rowF n o i).take j)) ⟨s2, ?_⟩ (fun j H' _ p => (hR i hi).mono p.1) (fun j x H3 H4 hj p3 y => ?_) (fun H3 p3 => ?_)
      · rw [List.take_zero, List.append_nil]
        exact p.2.mono k2
      · obtain ⟨p4, x3, x4, rfl, hp4, rfl, e3, e4⟩ := y
        rw [vec_len] at hj
        obtain ⟨_, rfl⟩ := vec_get (show (vec n fun j => eV (o i j))[j]? = some x4 from e4)
        obtain rfl : V.int (j : Int) = x3 := Option.some.inj e3
        have k5 : Same H3 (upd H3 p4 (.tup [.int (j : Int), eV (o i j)])) := same_upd hp4
        refine ⟨p4, _, rfl, SqT.of upd_same, rfl, _, _, rfl, _, _, rfl, rfl, rfl, ?_⟩
        refine ⟨_, rfl, _, rfl, _, rfl, by show 3 ≤ sizeLine; decide, fun p6 hp6 => ?_⟩
        have k7 : Same (upd H3 p4 (.tup [.int (j : Int), eV (o i j)])) _ := same_upd (o := .tup [.int (i : Int), .int (j : Int), eV (o i j)]) hp6
        have L7 := p3.2.mono (k5.trans k7)
        obtain ⟨acc, z1, z2, z3, z4⟩ := L7.seq (K := K)
        refine ⟨acc, z4, sz64' ?_, same_mut (p3.1.trans (k5.trans k7)) hD, ?_⟩
        · rw [z2, List.length_append, List.length_take]
          have h1 := flat_len (f := rowF n o) (n := n) (fun i => by rw [rowF_len]; exact Nat.le_refl _) (List.range i)
          rw [List.length_range] at h1
          have h2 : i * n ≤ n * n := Nat.mul_le_mul_right n (by omega)
          omega
        · have er : (rowF n o i)[j]? = some (i, j, o i j) := by
            unfold rowF
            rw [List.getElem?_map, List.getElem?_range hj]
            rfl
          rw [List.take_add_one, er, ← List.append_assoc]
          exact lt_snoc L7 z4 ⟨p6, rfl, upd_same⟩
      · refine ⟨p3.1, ?_⟩
        have z := p3.2
        rw [vec_len, List.take_of_length_le (by rw [rowF_len]; exact Nat.le_refl _)] at z
        rw [List.range_succ, List.flatMap_append]
        have e : [i].flatMap (rowF n o) = rowF n o i := by rw [List.flatMap_cons, List.flatMap_nil, List.append_nil]
        rw [e]
        exact z
    ·
      obtain ⟨s1, L⟩ := p
      rw [vec_len] at L
      have L' : LT enF H1 D (allF n o) := L
      obtain ⟨xs, x1, x2, x3, x4⟩ := L'.seq (K := K)
      have hal := allF_len n o
      refine ⟨_, rfl, false, D, xs, rfl, x1, fun D2 hD2 => ?_⟩
      refine lc_it (walkB (T := false)) (fun j H' => Same H1 H' ∧ LT enT H' D2 (((allF n o).take j).filterMap keepF)) ⟨same_upd hD2, lt_nil⟩ (fun j H' _ p => SqB.mono (T := false) p.1 x1) (fun j x H2 H3 hj p y => ?_) (fun H2 p => ?_)
      · obtain ⟨rfl, hx⟩ := y
        obtain ⟨⟨i, u, wd⟩, hq, b, rfl, hb⟩ := paired_get x3 hx
        have hb2 := p.1 _ _ hb
        rw [List.take_add_one, hq, List.filterMap_append]
        refine ⟨rfl, _, rfl, true, b, _, 2, eV wd, rfl, rfl, SqB.tup hb2, rfl, rfl, _, rfl, ?_⟩
        cases wd with
        | none =>
          show Same H1 H3 ∧ LT enT H3 D2 (List.filterMap keepF (List.take j (allF n o)) ++ [])
          rw [List.append_nil]
          exact p
        | some w0 =>
          obtain ⟨acc, z1, z2, z3, z4⟩ := p.2.seq (K := K)
          refine ⟨_, rfl, acc, z4, sz64' ?_, same_mut p.1 hD2, ?_⟩
          · rw [z2]
            have h1 := List.length_filterMap_le keepF ((allF n o).take j)
            rw [List.length_take] at h1
            omega
          · exact lt_snoc p.2 z4 ⟨b, rfl, hb2⟩
      · refine q _ D2 (s1.trans p.1) (s1.free hD2) ?_
        have z := p.2
        rw [x2, List.take_length] at z
        exact z
/-! ### are_offsets_of, check_offsets -/
abbrev N_are_offsets_of : List Str := ["pattern", "value", "many", "each", "at", "unknown", "order"]
abbrev P_are_offsets_of : List Str := ["pattern", "value"]
theorem sc_are_offsets_of : FnScope N_are_offsets_of P_are_offsets_of (defScope s_are_offsets_of) := ⟨rfl, rfl, rfl, by decide +kernel, rfl, by decide +kernel, by decide +kernel⟩
def spO (K : PySem.W.Frag) (F : (n : Nat) → (o : Pat) → (c d : Nat → Int) → VK → Hp → Prop) : Sp := fun vs H Q _ => ∃ (v u : V) (n : Nat) (o : Pat) (c d : Nat → Int), vs = [v, u] ∧ PatT H v n o ∧ 0 < n ∧ n ≤ 60 ∧ OffT H u n c d ∧ Pos0 n c ∧ Pos0 n d ∧ Feas n o c d ∧ F n o c d Q H
def sp_are_offsets_of (K : PySem.W.Frag) : Sp := spO K fun n o c d Q H => ∀ H', Same H H' → Q (.bl true) H'
theorem ok_are_offsets_of (T : Txt K mg) : FnOk P w K mg base CX0 4 T.f_are_offsets_of.f T.f_are_offsets_of.fd P_are_offsets_of (sp_are_offsets_of K) := by
  refine T.f_are_offsets_of.F.ok sc_are_offsets_of (fun vs H Q E h => ?_) (fun cdv A outer s H vs Q E hr h => ?_)
  · obtain ⟨v, u, n, o, c, d, rfl, _⟩ := h
    rfl
  · obtain ⟨v, u, n, o, c, d, rfl, hP, h0, hn, hO, hc, hd, hf, q⟩ := h
    refine ⟨_, (pss_cons (ps_set (i := 2) sc_are_offsets_of.nd rfl (Or.inr rfl) (pe_callB (lenK K) (by rfl) T.z_len bz_len (pa_cons (pv 0) pa_nil)))
      (pss_cons (ps_if (PW.pt (pw_or (pt_not (pt_val (pe_callB (isiK K) (by rfl) T.z_isinstance bz_isinstance (pa_cons (pv 1) (pa_cons (pe_bltn (v := .ty "tuple") (by rfl) T.z_tuple bz_tuple rfl) pa_nil))))) (pw_or (pt_cmpR op_ne (pe_callB (lenK K) (by rfl) T.z_len bz_len (pa_cons (pv 1) pa_nil)) pe_int (nomark _)) (pw_or1 (pt_not (pt_val (pe_callB (allK K) (by rfl) T.z_all bz_all (pa_cons (pe_lc (own := [("each", 3)]) rfl sc_are_offsets_of.nd (seqK K (pv 1)) (blkOk_by (own := [("each", 3)]) (N := N_are_offsets_of) (sc := defScope s_are_offsets_of) (by decide +kernel)) (fun _ _ _ _ _ => (pg_name (i := 3) sc_are_offsets_of.nd rfl (Or.inl rfl))) (fun _ _ _ _ _ => pts_nil) (fun _ _ _ _ _ => (pe_call (ok_are_counts T) (hr.mono (by decide)) (by rfl) T.f_are_counts.g T.f_are_counts.F.kp T.f_are_counts.b .nil pass0 (pa_cons (pv 3) (pa_cons (pv 2) pa_nil))))) pa_nil)))))))) (pss_one (ps_ret pe_bl)) pss_nil)
      (pss_one (ps_ret (pe_callB (allK K) (by rfl) T.z_all bz_all (pa_cons (pe_lc (own := [("at", 4), ("unknown", 5), ("order", 6)]) rfl sc_are_offsets_of.nd (seqK K (pe_call (ok_mentions T) (hr.mono (by decide)) (by rfl) T.f_mentions.g T.f_mentions.F.kp T.f_mentions.b .nil pass0 (pa_cons (pv 0) pa_nil))) (blkOk_by (own := [("at", 4), ("unknown", 5), ("order", 6)]) (N := N_are_offsets_of) (sc := defScope s_are_offsets_of) (by decide +kernel)) (fun _ _ _ _ _ => (tupK K (n := 3) rfl (pgs_cons (pg_name (i := 4) sc_are_offsets_of.nd rfl (Or.inl rfl)) (pgs_cons (pg_name (i := 5) sc_are_offsets_of.nd rfl (Or.inl rfl)) (pgs_cons (pg_name (i := 6) sc_are_offsets_of.nd rfl (Or.inl rfl)) pgs_nil))))) (fun _ _ _ _ _ => pts_nil) (fun _ _ _ _ _ => (pe_cmpR op_ge (pe_op op_sub (pe_ix (ixK K) (pe_ix (ixK K) (pv 1) pe_int (fun _ _ => rfl)) (pv 5) (fun _ _ => rfl)) (pe_ix (ixK K) (pe_ix (ixK K) (pv 1) pe_int (fun _ _ => rfl)) (pv 4) (fun _ _ => rfl))) (pv 6) (nomark _)))) pa_nil)))))), ?_⟩
    obtain ⟨pa, bs, rfl, hpa, hbs⟩ := id hP
    obtain ⟨p, a, b, rfl, hp, ha, hb⟩ := hO
    refine ⟨_, rfl, true, pa, _, rfl, SqB.tup hpa, ?_⟩
    rw [vec_len]
    refine ⟨_, rfl, .ref p, .ty "tuple", .type "tuple", .type "tuple", true, rfl, .ty _, tyx_tup (SqT.of hp), kit_ty (by decide +kernel), true, rfl, ?_⟩
    refine ⟨_, rfl, true, p, _, rfl, SqB.tup hp, rfl, _, rfl, ?_⟩
    refine ⟨_, rfl, true, p, _, rfl, SqB.tup hp, fun D hD => ?_⟩
    refine lc_it (walkB (T := true)) (fun i H' => Same H H' ∧ H' D = some (.lst ((List.replicate i true).map V.bl))) ⟨same_upd hD, upd_same⟩ (fun i H' _ p => SqB.tup (p.1 _ _ hp)) (fun i x H1 H2 hi p y => ?_) (fun H1 p1 => ?_)
    · obtain ⟨rfl, hx⟩ := y
      have fin : ∀ H3, Same H2 H3 → ∃ acc, H3 D = some (.lst acc) ∧ acc.length < sizeLine ∧ Same H (upd H3 D (.lst (acc ++ [.bl true]))) ∧ upd H3 D (.lst (acc ++ [.bl true])) D = some (.lst ((List.replicate (i + 1) true).map V.bl)) := fun H3 s3 => by
        refine ⟨_, s3 _ _ p.2, sz64' ?_, same_mut (p.1.trans s3) hD, ?_⟩
        · have hi' : i < 2 := hi
          rw [List.length_map, List.length_replicate]
          omega
        · rw [upd_same, List.replicate_succ', List.map_append]
          rfl
      have hi2 : i = 0 ∨ i = 1 := by
        have hi' : i < 2 := hi
        omega
      rcases hi2 with rfl | rfl
      · obtain rfl : V.ref a = x := Option.some.inj hx
        exact ⟨rfl, _, rfl, _, rfl, a, n, c, rfl, SqT.of (p.1 _ _ ha), hc, by omega, fin⟩
      · obtain rfl : V.ref b = x := Option.some.inj hx
        exact ⟨rfl, _, rfl, _, rfl, b, n, d, rfl, SqT.of (p.1 _ _ hb), hd, by omega, fin⟩
    · refine ⟨D, _, rfl, SqL.of p1.2, true, rfl, ?_⟩
      have s1 := p1.1
      refine ⟨_, rfl, .ref pa, n, o, rfl, ⟨true, true, (hP.tk (same_tk s1)).b⟩, hn, fun H2 r s2 hr0 L => ?_⟩
      obtain ⟨xs, x1, x2, x3, x4⟩ := L.seq (K := K)
      have hml := ment_len n o
      have hsq := sq60 hn
      refine ⟨false, r, xs, rfl, x1, fun D2 hD2 => ?_⟩
      refine lc_it (walkB (T := false)) (fun j H' => Same H2 H' ∧ H' D2 = some (.lst ((List.replicate j true).map V.bl))) ⟨same_upd hD2, upd_same⟩ (fun j H' _ p => SqB.mono (T := false) p.1 x1) (fun j x H3 H4 hj pI y => ?_) (fun H3 p3 => ?_)
      · obtain ⟨rfl, hx⟩ := y
        obtain ⟨⟨i, u, w0⟩, hq, e, rfl, he⟩ := paired_get x3 hx
        obtain ⟨hi, hu, how⟩ := mem_ment.mp (List.mem_of_getElem? hq)
        have s4 := (s1.trans s2).trans pI.1
        refine ⟨e, _, rfl, SqT.of (pI.1 _ _ he), rfl, _, _, rfl, _, _, rfl, _, _, rfl, rfl, rfl, ?_⟩
        refine ⟨_, rfl, true, p, _, 1, .ref b, rfl, rfl, SqB.tup (s4 _ _ hp), rfl, _, rfl, true, b, _, u, .int (d u), rfl, rfl, SqB.tup (s4 _ _ hb), vec_at hu, ?_⟩
        refine ⟨_, rfl, true, p, _, 0, .ref a, rfl, rfl, SqB.tup (s4 _ _ hp), rfl, _, rfl, true, a, _, i, .int (c i), rfl, rfl, SqB.tup (s4 _ _ ha), vec_at hi, ?_⟩
        refine ⟨_, _, rfl, rfl, _, rfl, _, _, rfl, rfl, _, pI.2, sz64' ?_, same_mut pI.1 hD2, ?_⟩
        · rw [List.length_map, List.length_replicate]
          omega
        · rw [upd_same, List.replicate_succ', List.map_append]
          show some (HO.lst (_ ++ [V.bl (decide (w0 ≤ d u - c i))])) = _
          rw [decide_eq_true (show w0 ≤ d u - c i from hf i hi u hu w0 how)]
          rfl
      · refine ⟨D2, _, rfl, SqL.of p3.2, ?_⟩
        have e : (List.replicate xs.length true).all id = true := by
          rw [List.all_eq_true]
          intro x hx
          rw [List.eq_of_mem_replicate hx]
          rfl
        rw [e]
        exact q _ ((s1.trans s2).trans p3.1)
abbrev N_check_offsets : List Str := ["pattern", "value"]
abbrev P_check_offsets : List Str := ["pattern", "value"]
theorem sc_check_offsets : FnScope N_check_offsets P_check_offsets (defScope s_check_offsets) := ⟨rfl, rfl, rfl, by decide +kernel, rfl, by decide +kernel, by decide +kernel⟩
def sp_check_offsets (K : PySem.W.Frag) : Sp := spO K fun n o c d Q H => ∀ H', Same H H' → Q .non H'
theorem ok_check_offsets (T : Txt K mg) : FnOk P w K mg base CX0 5 T.f_check_offsets.f T.f_check_offsets.fd P_check_offsets (sp_check_offsets K) := by
  refine T.f_check_offsets.F.ok sc_check_offsets (fun vs H Q E h => ?_) (fun cdv A outer s H vs Q E hr h => ?_)
  · obtain ⟨v, u, n, o, c, d, rfl, _⟩ := h
    rfl
  · obtain ⟨v, u, n, o, c, d, rfl, hP, h0, hn, hO, hc, hd, hf, q⟩ := h
    refine ⟨_, (pss_one (ps_if (pt_not (pt_val (pe_call (ok_are_offsets_of T) (hr.mono (by decide)) (by rfl) T.f_are_offsets_of.g T.f_are_offsets_of.F.kp T.f_are_offsets_of.b .nil pass0 (pa_cons (pv 0) (pa_cons (pv 1) pa_nil))))) (pss_one ps_never) pss_nil)), ?_⟩
    exact ⟨_, rfl, _, rfl, v, u, n, o, c, d, rfl, hP, h0, hn, hO, hc, hd, hf, fun H' s' => ⟨true, rfl, q H' s'⟩⟩
end
end Hid
/-! Offsets: span, tops, tight spots. -/
namespace Hid
open PySem PySem.Spec PyProof.Rows L2
theorem fm_ite {α β : Type} (p : α → Bool) (f : α → β) : ∀ l : List α, (l.filter p).map f = l.filterMap fun a => if p a = true then some (f a) else none
  | [] => rfl
  | a :: l => by
    rw [List.filter_cons, List.filterMap_cons]
    by_cases h : p a = true
    · rw [if_pos h, if_pos h, List.map_cons, fm_ite p f l]
    · rw [if_neg h, if_neg h, fm_ite p f l]
/-- a mention that is tight -/
def tightQ (c d : Nat → Int) (q : Nat × Nat × Int) : Option (Nat × Nat) := if d q.2.1 - c q.1 = q.2.2 then some (q.1, q.2.1) else none
theorem tight_ment (n : Nat) (o : Pat) (c d : Nat → Int) : (ment n o).filterMap (tightQ c d) = spots n o c d := by
  unfold ment allF spots
  rw [List.filterMap_filterMap, List.filterMap_flatMap]
  congr 1
  funext i
  unfold rowF
  rw [List.filterMap_map, fm_ite]
  congr 1
  funext j
  show ((keepF (i, j, o i j)).bind (tightQ c d)) = _
  unfold keepF
  show ((o i j).map fun w => (i, j, w)).bind (tightQ c d) = _
  cases e : o i j with
  | none =>
    rw [if_neg (by rw [decide_eq_true_eq]; intro z; cases z)]
    rfl
  | some w =>
    show tightQ c d (i, j, w) = _
    unfold tightQ
    by_cases h : d j - c i = w
    · rw [if_pos h, if_pos (by rw [decide_eq_true_eq, h])]
    · rw [if_neg h, if_neg (by rw [decide_eq_true_eq]; intro z; exact h (Option.some.inj z).symm)]
theorem fm_one {α β : Type} (f : α → Option β) (a : α) : (some a).toList.filterMap f = (f a).toList := by
  show [a].filterMap f = _
  cases h : f a with
  | none => simp [h]
  | some b => simp [h]
def en2 (q : Nat × Nat) : List V := [.int q.1, .int q.2]
theorem sum_ints (n : Nat) (c : Nat → Int) : ((List.range n).map c).sum = sumN n c := rfl
/-- the numbers that unknown j is settled over, by mentions -/
def topQ (c : Nat → Int) (j : Nat) (q : Nat × Nat × Int) : Option Int := if q.2.1 = j then some (q.2.2 + c q.1) else none
theorem mem_topQ {n : Nat} {o : Pat} {c : Nat → Int} {j : Nat} (hj : j < n) {x : Int} : x ∈ (ment n o).filterMap (topQ c j) ↔ x ∈ topL n o c j := by
  rw [List.mem_filterMap, mem_topL]
  constructor
  · rintro ⟨q, hq, h⟩
    obtain ⟨h1, h2, h3⟩ := mem_ment.mp hq
    unfold topQ at h
    by_cases e : q.2.1 = j
    · rw [if_pos e] at h
      rw [e] at h3
      exact ⟨q.1, h1, q.2.2, h3, (Option.some.inj h).symm⟩
    · rw [if_neg e] at h
      cases h
  · rintro ⟨i, hi, w, e, rfl⟩
    refine ⟨(i, j, w), mem_ment.mpr ⟨hi, hj, e⟩, ?_⟩
    unfold topQ
    rw [if_pos rfl]
section
variable {P : Program} {w : World} {K : PySem.W.Frag} {mg : Str → Option Value} {base : Heap}
/-! ### span_by -/
abbrev N_span_by : List Str := ["offsets"]
abbrev P_span_by : List Str := ["offsets"]
theorem sc_span_by : FnScope N_span_by P_span_by (defScope s_span_by) := ⟨rfl, rfl, rfl, by decide +kernel, rfl, by decide +kernel, by decide +kernel⟩
def sp_span_by (K : PySem.W.Frag) : Sp := fun vs H Q _ => ∃ (u : V) (n : Nat) (c d : Nat → Int), vs = [u] ∧ OffT H u n c d ∧ Q (.int (span n c d)) H
theorem ok_span_by (T : Txt K mg) : FnOk P w K mg base CX0 1 T.f_span_by.f T.f_span_by.fd P_span_by (sp_span_by K) := by
  refine T.f_span_by.F.ok sc_span_by (fun vs H Q E h => ?_) (fun cdv A outer s H vs Q E hr h => ?_)
  · obtain ⟨u, n, c, d, rfl, _⟩ := h
    rfl
  · obtain ⟨u, n, c, d, rfl, hO, q⟩ := h
    refine ⟨_, (pss_one (ps_ret (pe_op op_sub (pe_callB (sumTK K) (by rfl) T.z_sum bz_sum (pa_cons (pe_ix (ixK K) (pv 0) pe_int (fun _ _ => rfl)) pa_nil)) (pe_callB (sumTK K) (by rfl) T.z_sum bz_sum (pa_cons (pe_ix (ixK K) (pv 0) pe_int (fun _ _ => rfl)) pa_nil))))), ?_⟩
    obtain ⟨p, a, b, rfl, hp, ha, hb⟩ := hO
    rw [vec_ints] at ha hb
    refine ⟨_, rfl, true, p, _, 1, .ref b, rfl, rfl, SqB.tup hp, rfl, b, _, rfl, SqT.of hb, ?_⟩
    refine ⟨_, rfl, true, p, _, 0, .ref a, rfl, rfl, SqB.tup hp, rfl, a, _, rfl, SqT.of ha, ?_⟩
    exact ⟨_, _, rfl, rfl, q⟩
/-! ### tops_over -/
abbrev N_tops_over : List Str := ["pattern", "grown", "found", "unknown", "at", "other", "order"]
abbrev P_tops_over : List Str := ["pattern", "grown"]
theorem sc_tops_over : FnScope N_tops_over P_tops_over (defScope s_tops_over) := ⟨rfl, rfl, rfl, by decide +kernel, rfl, by decide +kernel, by decide +kernel⟩
def sp_tops_over (K : PySem.W.Frag) : Sp := fun vs H Q _ => ∃ (v : V) (n : Nat) (o : Pat) (G : Addr) (c : Nat → Int) (l : List Nat), vs = [v, .ref G] ∧ (∃ T U, PatB T U K H v n o) ∧ n ≤ 60 ∧ SqL K H G (vec n fun i => .int (c i)) ∧ Ch n o l ∧
  ∀ (H' : Hp) (r : Addr), Same H H' → H r = none → H' r = some (.lst (vec n fun j => .int (topF n o c j))) → Q (.ref r) H'
theorem ok_tops_over (T : Txt K mg) : FnOk P w K mg base CX0 2 T.f_tops_over.f T.f_tops_over.fd P_tops_over (sp_tops_over K) := by
  refine T.f_tops_over.F.ok sc_tops_over (fun vs H Q E h => ?_) (fun cdv A outer s H vs Q E hr h => ?_)
  · obtain ⟨v, n, o, G, c, l, rfl, _⟩ := h
    rfl
  · obtain ⟨v, n, o, G, c, l, rfl, hpat, hn, hG, hch, q⟩ := h
    refine ⟨_, (pss_cons (ps_set (i := 2) sc_tops_over.nd rfl (Or.inl rfl) (pe_lst pa_nil))
      (pss_cons (ps_for PassesOwn.never rfl (pi_range1 (by rfl) T.z_range (pa_cons (pe_callB (lenK K) (by rfl) T.z_len bz_len (pa_cons (pv 0) pa_nil)) pa_nil)) (pg_name (i := 3) sc_tops_over.nd rfl (Or.inr rfl)) (pss_one (ps_expr (pe_bm PySem.F.plainAttrs_list PySem.F.slot_list_append PySem.F.type_list_append mt_append (pv 2) (pa_cons (pe_callB (maxK K) (by rfl) T.z_max bz_max (pa_cons (pe_lc (own := [("at", 4), ("other", 5), ("order", 6)]) rfl sc_tops_over.nd (seqK K (pe_call (ok_mentions T) (hr.mono (by decide)) (by rfl) T.f_mentions.g T.f_mentions.F.kp T.f_mentions.b .nil pass0 (pa_cons (pv 0) pa_nil))) (blkOk_by (own := [("at", 4), ("other", 5), ("order", 6)]) (N := N_tops_over) (sc := defScope s_tops_over) (by decide +kernel)) (fun _ _ _ _ _ => (tupK K (n := 3) rfl (pgs_cons (pg_name (i := 4) sc_tops_over.nd rfl (Or.inl rfl)) (pgs_cons (pg_name (i := 5) sc_tops_over.nd rfl (Or.inl rfl)) (pgs_cons (pg_name (i := 6) sc_tops_over.nd rfl (Or.inl rfl)) pgs_nil))))) (fun _ _ _ _ _ => pts_one (pt_cmpR op_eq (pv 5) (pv 3) (nomark _))) (fun _ _ _ _ _ => (pe_op op_add (pv 6) (pe_ix (ixK K) (pv 1) (pv 4) (fun _ _ => rfl))))) pa_nil)) pa_nil)))))
      (pss_one (ps_ret (pv 2))))), ?_⟩
    have hml := ment_len n o
    have hsq := sq60 hn
    refine ⟨by show 0 ≤ sizeLine; decide, fun R hR => ?_⟩
    have kR : Same H (upd H R (.lst [])) := same_upd hR
    have eR : upd H R (.lst []) R = some (.lst []) := upd_same
    generalize upd H R (.lst []) = H1 at kR eR
    obtain ⟨Tp, U, a, bs, rfl, hS, hRow⟩ := id hpat
    refine ⟨_, rfl, Tp, a, _, rfl, hS.mono kR, (n : Int), by rw [vec_len], by omega, by omega, ?_⟩
    refine for_range (lo := 0) (n := ((n : Int)).toNat) (fun i σ H' => (∃ x3, σ = [some (.ref a), some (.ref G), some (.ref R), x3, none, none, none]) ∧ Same H H' ∧ H' R = some (.lst (vec i fun j => .int (topF n o c j))))
      ⟨⟨none, rfl⟩, kR, eR⟩ (fun j σ H2 hj p => ?_) (fun σ H2 p => ?_)
    · obtain ⟨⟨x3, rfl⟩, s2, hR2⟩ := p
      have hj' : j < n := by omega
      rw [show (0 : Int) + (j : Int) = (j : Int) by omega]
      refine ⟨_, rfl, .inl ⟨rfl, _, SqL.of hR2⟩, ?_⟩
      have hpat2 : ∃ T U, PatB T U K H2 (.ref a) n o := by
        obtain ⟨T1, U1, h1⟩ := hpat
        exact ⟨T1, U1, h1.mono s2⟩
      refine ⟨_, rfl, .ref a, n, o, rfl, hpat2, hn, fun H3 r s3 hr0 L => ?_⟩
      obtain ⟨xs, x1, x2, x3, x4⟩ := L.seq (K := K)
      refine ⟨false, r, xs, rfl, x1, fun D hD => ?_⟩
      refine lc_it (walkB (T := false)) (fun k H' => Same H3 H' ∧ H' D = some (.lst ((((ment n o).take k).filterMap (topQ c j)).map V.int))) ⟨same_upd hD, upd_same⟩ (fun k H' _ p => SqB.mono (T := false) p.1 x1) (fun k x H4 H5 hk pI y => ?_) (fun H4 p4 => ?_)
      · obtain ⟨rfl, hx⟩ := y
        obtain ⟨⟨i, u, w0⟩, hq, e, rfl, he⟩ := paired_get x3 hx
        obtain ⟨hi, hu, how⟩ := mem_ment.mp (List.mem_of_getElem? hq)
        have s5 := (s2.trans s3).trans pI.1
        refine ⟨e, _, rfl, SqT.of (pI.1 _ _ he), rfl, _, _, rfl, _, _, rfl, _, _, rfl, rfl, rfl, ?_⟩
        rw [List.take_add_one, hq, List.filterMap_append]
        have e0 : (some (i, u, w0)).toList.filterMap (topQ c j) = if u = j then [w0 + c i] else [] := by
          rw [fm_one]
          show (if u = j then some (w0 + c i) else none).toList = _
          by_cases z : u = j
          · rw [if_pos z, if_pos z]
            rfl
          · rw [if_neg z, if_neg z]
            rfl
        rw [e0]
        refine ⟨_, rfl, _, rfl, rfl, _, rfl, ite2 (fun hg => ?_) (fun hg => ?_)⟩
        · have z : u = j := by
            have z : (u : Int) = (j : Int) := V.int.inj (of_decide_eq_true hg)
            omega
          rw [if_pos z]
          refine ⟨_, rfl, _, rfl, _, rfl, false, G, _, i, .int (c i), rfl, rfl, SqB.mono (T := false) s5 hG, vec_at hi, _, _, rfl, rfl, _, pI.2, sz64' ?_, same_mut pI.1 hD, ?_⟩
          · rw [List.length_map]
            have h1 := List.length_filterMap_le (topQ c j) ((ment n o).take k)
            rw [List.length_take] at h1
            omega
          · rw [upd_same, List.map_append]
            rfl
        · have z : ¬ u = j := fun z => hg (decide_eq_true (show V.int (u : Int) = V.int (j : Int) by rw [z]))
          rw [if_neg z, List.append_nil]
          exact pI
      · have z4 := p4.2
        rw [x2, List.take_length] at z4
        have hne : (ment n o).filterMap (topQ c j) ≠ [] := fun e => by
          have hm := (lmax_mem (topL_ne (c := c) hch hj')).1
          have hm2 := (mem_topQ hj').mpr hm
          rw [e] at hm2
          cases hm2
        refine ⟨D, _, rfl, SqL.of z4, List.length_pos_iff.mpr hne, fun m hm hle => ?_⟩
        have em : m = topF n o c j := lmax_of ((mem_topQ hj').mp hm) fun y hy => hle y ((mem_topQ hj').mpr hy)
        subst em
        have s6 := s3.trans p4.1
        refine ⟨R, _, _, rfl, rfl, s6 _ _ hR2, sz64' (by rw [vec_len]; omega), ⟨_, rfl⟩, same_mut (s2.trans s6) hR, ?_⟩
        rw [upd_same, vec_succ]
    · obtain ⟨⟨x3, rfl⟩, s2, hR2⟩ := p
      rw [show ((n : Int)).toNat = n by omega] at hR2
      exact ⟨_, rfl, q _ R s2 hR hR2⟩
/-! ### tight_by -/
abbrev N_tight_by : List Str := ["pattern", "offsets", "found", "at", "unknown", "order"]
abbrev P_tight_by : List Str := ["pattern", "offsets"]
theorem sc_tight_by : FnScope N_tight_by P_tight_by (defScope s_tight_by) := ⟨rfl, rfl, rfl, by decide +kernel, rfl, by decide +kernel, by decide +kernel⟩
def sp_tight_by (K : PySem.W.Frag) : Sp := spO K fun n o c d Q H => ∀ (H' : Hp) (r : Addr), Same H H' → H r = none → LT en2 H' r (spots n o c d) → Q (.ref r) H'
theorem ok_tight_by (T : Txt K mg) : FnOk P w K mg base CX0 2 T.f_tight_by.f T.f_tight_by.fd P_tight_by (sp_tight_by K) := by
  refine T.f_tight_by.F.ok sc_tight_by (fun vs H Q E h => ?_) (fun cdv A outer s H vs Q E hr h => ?_)
  · obtain ⟨v, u, n, o, c, d, rfl, _⟩ := h
    rfl
  · obtain ⟨v, u, n, o, c, d, rfl, hP, h0, hn, hO, hc, hd, hf, q⟩ := h
    refine ⟨_, (pss_cons (ps_set (i := 2) sc_tight_by.nd rfl (Or.inl rfl) (pe_call (ok_mentions T) (hr.mono (by decide)) (by rfl) T.f_mentions.g T.f_mentions.F.kp T.f_mentions.b .nil pass0 (pa_cons (pv 0) pa_nil)))
      (pss_one (ps_ret (pe_lc (own := [("at", 3), ("unknown", 4), ("order", 5)]) rfl sc_tight_by.nd (seqK K (pv 2)) (blkOk_by (own := [("at", 3), ("unknown", 4), ("order", 5)]) (N := N_tight_by) (sc := defScope s_tight_by) (by decide +kernel)) (fun _ _ _ _ _ => (tupK K (n := 3) rfl (pgs_cons (pg_name (i := 3) sc_tight_by.nd rfl (Or.inl rfl)) (pgs_cons (pg_name (i := 4) sc_tight_by.nd rfl (Or.inl rfl)) (pgs_cons (pg_name (i := 5) sc_tight_by.nd rfl (Or.inl rfl)) pgs_nil))))) (fun _ _ _ _ _ => pts_one (pt_cmpR op_eq (pe_op op_sub (pe_ix (ixK K) (pe_ix (ixK K) (pv 1) pe_int (fun _ _ => rfl)) (pv 4) (fun _ _ => rfl)) (pe_ix (ixK K) (pe_ix (ixK K) (pv 1) pe_int (fun _ _ => rfl)) (pv 3) (fun _ _ => rfl))) (pv 5) (nomark _))) (fun _ _ _ _ _ => (pe_tup (pa_cons (pv 3) (pa_cons (pv 4) pa_nil)))))))), ?_⟩
    have hml := ment_len n o
    have hsq := sq60 hn
    obtain ⟨p, a, b, rfl, hp, ha, hb⟩ := hO
    refine ⟨_, rfl, v, n, o, rfl, ⟨true, true, hP.b⟩, hn, fun H2 r s2 hr0 L => ?_⟩
    obtain ⟨xs, x1, x2, x3, x4⟩ := L.seq (K := K)
    refine ⟨_, rfl, false, r, xs, rfl, x1, fun D2 hD2 => ?_⟩
    refine lc_it (walkB (T := false)) (fun j H' => Same H2 H' ∧ LT en2 H' D2 (((ment n o).take j).filterMap (tightQ c d))) ⟨same_upd hD2, lt_nil⟩ (fun j H' _ p => SqB.mono (T := false) p.1 x1) (fun j x H3 H4 hj pI y => ?_) (fun H3 p3 => ?_)
    · obtain ⟨rfl, hx⟩ := y
      obtain ⟨⟨i, u, w0⟩, hq, e, rfl, he⟩ := paired_get x3 hx
      obtain ⟨hi, hu, how⟩ := mem_ment.mp (List.mem_of_getElem? hq)
      have s4 := s2.trans pI.1
      refine ⟨e, _, rfl, SqT.of (pI.1 _ _ he), rfl, _, _, rfl, _, _, rfl, _, _, rfl, rfl, rfl, ?_⟩
      refine ⟨_, rfl, true, p, _, 1, .ref b, rfl, rfl, SqB.tup (s4 _ _ hp), rfl, _, rfl, true, b, _, u, .int (d u), rfl, rfl, SqB.tup (s4 _ _ hb), vec_at hu, ?_⟩
      refine ⟨_, rfl, true, p, _, 0, .ref a, rfl, rfl, SqB.tup (s4 _ _ hp), rfl, _, rfl, true, a, _, i, .int (c i), rfl, rfl, SqB.tup (s4 _ _ ha), vec_at hi, ?_⟩
      rw [List.take_add_one, hq, List.filterMap_append]
      refine ⟨_, _, rfl, rfl, _, rfl, rfl, _, rfl, ite2 (fun hg => ?_) (fun hg => ?_)⟩
      · have z : d u - c i = w0 := V.int.inj (of_decide_eq_true hg)
        have e0 : (some (i, u, w0)).toList.filterMap (tightQ c d) = [(i, u)] := by
          rw [fm_one]
          show (if d u - c i = w0 then some (i, u) else none).toList = _
          rw [if_pos z]
          rfl
        rw [e0]
        refine ⟨_, rfl, _, rfl, by show 2 ≤ sizeLine; decide, fun p6 hp6 => ?_⟩
        have k7 : Same H4 _ := same_upd (o := .tup [.int (i : Int), .int (u : Int)]) hp6
        have L7 := pI.2.mono k7
        obtain ⟨acc, z1, z2, z3, z4⟩ := L7.seq (K := K)
        refine ⟨acc, z4, sz64' ?_, same_mut (pI.1.trans k7) hD2, ?_⟩
        · rw [z2]
          have h1 := List.length_filterMap_le (tightQ c d) ((ment n o).take j)
          rw [List.length_take] at h1
          omega
        · exact lt_snoc L7 z4 ⟨p6, rfl, upd_same⟩
      · have z : ¬ d u - c i = w0 := fun z => hg (decide_eq_true (show V.int (d u - c i) = V.int w0 by rw [z]))
        have e0 : (some (i, u, w0)).toList.filterMap (tightQ c d) = [] := by
          rw [fm_one]
          show (if d u - c i = w0 then some (i, u) else none).toList = _
          rw [if_neg z]
          rfl
        rw [e0, List.append_nil]
        exact pI
    · refine q _ D2 (s2.trans p3.1) (s2.free hD2) ?_
      have z := p3.2
      rw [x2, List.take_length, tight_ment] at z
      exact z
/-! ### tight_spots -/
abbrev N_tight_spots : List Str := ["pattern", "offsets"]
abbrev P_tight_spots : List Str := ["pattern", "offsets"]
theorem sc_tight_spots : FnScope N_tight_spots P_tight_spots (defScope s_tight_spots) := ⟨rfl, rfl, rfl, by decide +kernel, rfl, by decide +kernel, by decide +kernel⟩
def sp_tight_spots (K : PySem.W.Frag) : Sp := spO K fun n o c d Q H => NonNeg n o ∧ ∀ (H' : Hp) (r : Addr), Same H H' → H r = none → TT en2 H' r (spots n o c d) → Q (.ref r) H'
theorem ok_tight_spots (T : Txt K mg) : FnOk P w K mg base CX0 6 T.f_tight_spots.f T.f_tight_spots.fd P_tight_spots (sp_tight_spots K) := by
  refine T.f_tight_spots.F.ok sc_tight_spots (fun vs H Q E h => ?_) (fun cdv A outer s H vs Q E hr h => ?_)
  · obtain ⟨v, u, n, o, c, d, rfl, _⟩ := h
    rfl
  · obtain ⟨v, u, n, o, c, d, rfl, hP, h0, hn, hO, hc, hd, hf, hnn, q⟩ := h
    refine ⟨_, (pss_cons (ps_expr (pe_call (ok_check_pattern T) (hr.mono (by decide)) (by rfl) T.f_check_pattern.g T.f_check_pattern.F.kp T.f_check_pattern.b .nil pass0 (pa_cons (pv 0) pa_nil)))
      (pss_cons (ps_expr (pe_call (ok_check_offsets T) (hr.mono (by decide)) (by rfl) T.f_check_offsets.g T.f_check_offsets.F.kp T.f_check_offsets.b .nil pass0 (pa_cons (pv 0) (pa_cons (pv 1) pa_nil))))
      (pss_one (ps_ret (pe_callTy (tupleK K) (by rfl) T.z_tuple bz_tuple (pa_cons (pe_call (ok_tight_by T) (hr.mono (by decide)) (by rfl) T.f_tight_by.g T.f_tight_by.F.kp T.f_tight_by.b .nil pass0 (pa_cons (pv 0) (pa_cons (pv 1) pa_nil))) pa_nil)))))), ?_⟩
    refine ⟨_, rfl, v, n, o, rfl, hP.b, h0, by omega, hnn, fun H1 s1 => ?_⟩
    refine ⟨_, rfl, _, rfl, v, u, n, o, c, d, rfl, hP.tk (same_tk s1), h0, hn, hO.tk (same_tk s1), hc, hd, hf, fun H2 s2 => ?_⟩
    have s3 := s1.trans s2
    refine ⟨_, rfl, _, rfl, v, u, n, o, c, d, rfl, hP.tk (same_tk s3), h0, hn, hO.tk (same_tk s3), hc, hd, hf, fun H4 r s4 hr0 L => ?_⟩
    obtain ⟨xs, h1, h2⟩ := L
    refine ⟨r, xs, rfl, SqL.of h1, fun x hx => ?_⟩
    have k3 : Same H4 (upd H4 x (.tup xs)) := same_upd hx
    exact q _ x (s3.trans (s4.trans k3)) ((s3.trans s4).free hx) ⟨xs, upd_same, Paired.mapP h2 fun _ _ y => y.tk (same_tk k3)⟩
/-! ### are_best -/
abbrev N_are_best : List Str := ["pattern", "offsets"]
abbrev P_are_best : List Str := ["pattern", "offsets"]
theorem sc_are_best : FnScope N_are_best P_are_best (defScope s_are_best) := ⟨rfl, rfl, rfl, by decide +kernel, rfl, by decide +kernel, by decide +kernel⟩
def sp_are_best (K : PySem.W.Frag) : Sp := spO K fun n o c d Q H => NonNeg n o ∧ (∃ l, Ch n o l) ∧ ∀ (H' : Hp) (W : Int), Same H H' → Heavy n o W → Q (.bl (decide (span n c d = W))) H'
theorem ok_are_best (T : Txt K mg) : FnOk P w K mg base CX0 8 T.f_are_best.f T.f_are_best.fd P_are_best (sp_are_best K) := by
  refine T.f_are_best.F.ok sc_are_best (fun vs H Q E h => ?_) (fun cdv A outer s H vs Q E hr h => ?_)
  · obtain ⟨v, u, n, o, c, d, rfl, _⟩ := h
    rfl
  · obtain ⟨v, u, n, o, c, d, rfl, hP, h0, hn, hO, hc, hd, hf, hnn, hch, q⟩ := h
    refine ⟨_, (pss_cons (ps_expr (pe_call (ok_check_pattern T) (hr.mono (by decide)) (by rfl) T.f_check_pattern.g T.f_check_pattern.F.kp T.f_check_pattern.b .nil pass0 (pa_cons (pv 0) pa_nil)))
      (pss_cons (ps_expr (pe_call (ok_check_offsets T) (hr.mono (by decide)) (by rfl) T.f_check_offsets.g T.f_check_offsets.F.kp T.f_check_offsets.b .nil pass0 (pa_cons (pv 0) (pa_cons (pv 1) pa_nil))))
      (pss_cons (ps_expr (pe_call (ok_check_choices T) (hr.mono (by decide)) (by rfl) T.f_check_choices.g T.f_check_choices.F.kp T.f_check_choices.b .nil pass0 (pa_cons (pv 0) pa_nil)))
      (pss_one (ps_ret (pe_cmpR op_eq (pe_call (ok_span_by T) (hr.mono (by decide)) (by rfl) T.f_span_by.g T.f_span_by.F.kp T.f_span_by.b .nil pass0 (pa_cons (pv 1) pa_nil)) (pe_call (ok_heaviest_number T) (hr.mono (by decide)) (by rfl) T.f_heaviest_number.g T.f_heaviest_number.F.kp T.f_heaviest_number.b .nil pass0 (pa_cons (pv 0) pa_nil)) (nomark _))))))), ?_⟩
    refine ⟨_, rfl, v, n, o, rfl, hP.b, h0, by omega, hnn, fun H1 s1 => ?_⟩
    refine ⟨_, rfl, _, rfl, v, u, n, o, c, d, rfl, hP.tk (same_tk s1), h0, hn, hO.tk (same_tk s1), hc, hd, hf, fun H2 s2 => ?_⟩
    have s3 := s1.trans s2
    refine ⟨_, rfl, v, n, o, rfl, ⟨true, true, (hP.tk (same_tk s3)).b⟩, hn, hch, fun H4 s4 => ?_⟩
    have s5 := s3.trans s4
    refine ⟨_, rfl, u, n, c, d, rfl, hO.tk (same_tk s5), ?_⟩
    refine ⟨_, rfl, v, n, o, rfl, ⟨true, true, (hP.tk (same_tk s5)).b⟩, hn, fun z => absurd hch z, fun H6 W s6 hw => ?_⟩
    refine ⟨rfl, ?_⟩
    have e : decide (V.int (span n c d) = V.int W) = decide (span n c d = W) := by
      rw [decide_eq_decide]
      exact ⟨fun z => V.int.inj z, fun z => by rw [z]⟩
    have y := q H6 W (s5.trans s6) hw
    rw [← e] at y
    exact y
end
end Hid
/-! The least offsets. -/
namespace Hid
open PySem PySem.Spec PyProof.Rows L2
theorem eqv_all_ints : ∀ l m : List Int, PyData.eqvAll (l.map .int) (m.map .int) = decide (l = m)
  | [], [] => by simp [PyData.eqvAll]
  | [], _ :: _ => by simp [PyData.eqvAll]
  | _ :: _, [] => by simp [PyData.eqvAll]
  | a :: l, b :: m => by
    have h := eqv_all_ints l m
    simp only [List.map_cons, PyData.eqvAll, h]
    by_cases e : a = b
    · subst e
      by_cases e2 : l = m
      · subst e2
        simp [PyData.eqv]
      · simp [PyData.eqv, e2]
    · simp [PyData.eqv, e]
theorem eqv_ints (l m : List Int) : PyData.eqv (.list (l.map .int)) (.list (m.map .int)) = decide (l = m) := by
  rw [← eqv_all_ints l m]
  simp [PyData.eqv]
theorem eqv_lst_none (l : List PyData) : PyData.eqv (.list l) .none = false := by simp [PyData.eqv]
theorem shaped_none : SeqAt.shaped .none = true := lay_none.shaped (by decide)
def inL (n : Nat) (c : Nat → Int) : List Int := (List.range n).map c
theorem inL_eq {n : Nat} {c d : Nat → Int} : inL n c = inL n d ↔ ∀ i, i < n → c i = d i := by
  unfold inL
  constructor
  · intro h i hi
    have z := congrArg (fun l : List Int => l[i]?) h
    simp only [List.getElem?_map, List.getElem?_range hi] at z
    exact Option.some.inj z
  · intro h
    exact List.map_congr_left fun i hi => h i (List.mem_range.mp hi)
theorem exists_M (c u : Nat → Int) : ∀ n : Nat, ∃ M : Int, ∀ i, i < n → c i ≤ u i + M
  | 0 => ⟨0, fun i hi => absurd hi (Nat.not_lt_zero _)⟩
  | n + 1 => by
    obtain ⟨M, h⟩ := exists_M c u n
    refine ⟨max M (c n - u n), fun i hi => ?_⟩
    by_cases e : i = n
    · subst e
      omega
    · have z := h i (by omega)
      omega
theorem sumN_lt {f g : Nat → Int} {n : Nat} (h : ∀ i, i < n → f i ≤ g i) {k : Nat} (hk : k < n) (hlt : f k < g k) : sumN n f < sumN n g := by
  have h1 := sumN_le h
  apply Classical.byContradiction
  intro z
  have e : sumN n f = sumN n g := by omega
  have y := sumN_tight h e k hk
  omega
/-- how far the numbers grown can still go, and whether they went on last -/
noncomputable def far (n : Nat) (u : Nat → Int) (M : Int) (c : Nat → Int) (stop : Prop) : Nat := by
  classical exact 2 * (sumN n (fun i => u i + M) - sumN n c).toNat + (if stop then 0 else 1)
theorem far_less {n : Nat} {u c c' : Nat → Int} {M : Int} {stop : Prop} (hs : ¬ stop) (hM : ∀ i, i < n → c' i ≤ u i + M) (hle : ∀ i, i < n → c i ≤ c' i) : far n u M c' (∀ i, i < n → c' i = c i) < far n u M c stop := by
  classical
  unfold far
  have h1 : sumN n c' ≤ sumN n fun i => u i + M := sumN_le hM
  rw [if_neg hs]
  by_cases e : ∀ i, i < n → c' i = c i
  · rw [if_pos e, sumN_eq e]
    omega
  · rw [if_neg e]
    have e2 : ∃ k, k < n ∧ c k < c' k := by
      apply Classical.byContradiction
      intro z
      refine e fun i hi => ?_
      have q := hle i hi
      apply Classical.byContradiction
      intro y
      exact z ⟨i, hi, by omega⟩
    obtain ⟨k, hk, hlt⟩ := e2
    have h2 := sumN_lt hle hk hlt
    omega
section
variable {P : Program} {w : World} {K : PySem.W.Frag} {mg : Str → Option Value} {base : Heap}
/-! ### least_pair -/
abbrev N_least_pair : List Str := ["pattern", "choice", "grown", "last", "tops", "at", "unknown"]
abbrev P_least_pair : List Str := ["pattern"]
theorem sc_least_pair : FnScope N_least_pair P_least_pair (defScope s_least_pair) := ⟨rfl, rfl, rfl, by decide +kernel, rfl, by decide +kernel, by decide +kernel⟩
def spL (K : PySem.W.Frag) (G : Nat → Pat → Prop) : Sp := spC K fun n o Q H => (∃ l, Ch n o l) ∧ NonNeg n o ∧ G n o ∧ ∀ (H' : Hp) (v : V) (c d : Nat → Int), Same H H' → OffT H' v n c d → Pos0 n c → Pos0 n d → Feas n o c d → Q v H'
def sp_least_pair (K : PySem.W.Frag) : Sp := spL K fun _ _ => True
theorem ok_least_pair (T : Txt K mg) : FnOk P w K mg base CX0 7 T.f_least_pair.f T.f_least_pair.fd P_least_pair (sp_least_pair K) := by
  refine T.f_least_pair.F.ok sc_least_pair (fun vs H Q E h => ?_) (fun cdv A outer s H vs Q E hr h => ?_)
  · obtain ⟨pt0, n, o, rfl, _⟩ := h
    rfl
  · obtain ⟨pt0, n, o, rfl, hpat, hn, hch, hnn, _, q⟩ := h
    refine ⟨_, (pss_cons (ps_asg (pe_tup (pa_cons (pe_call (ok_some_heaviest T) (hr.mono (by decide)) (by rfl) T.f_some_heaviest.g T.f_some_heaviest.F.kp T.f_some_heaviest.b .nil pass0 (pa_cons (pv 0) pa_nil)) (pa_cons (pe_op op_rep (pe_lst (pa_cons pe_int pa_nil)) (pe_callB (lenK K) (by rfl) T.z_len bz_len (pa_cons (pv 0) pa_nil))) (pa_cons pe_non (pa_cons (pe_lst pa_nil) pa_nil))))) (tupK K (n := 4) rfl (pgs_cons (pg_name (i := 1) sc_least_pair.nd rfl (Or.inl rfl)) (pgs_cons (pg_name (i := 2) sc_least_pair.nd rfl (Or.inl rfl)) (pgs_cons (pg_name (i := 3) sc_least_pair.nd rfl (Or.inl rfl)) (pgs_cons (pg_name (i := 4) sc_least_pair.nd rfl (Or.inr rfl)) pgs_nil))))))
      (pss_cons (ps_while PassesOwn.never (pt_cmpR (neDK K hr.units) (pv 2) (pv 3) (nomark _)) (pss_cons (ps_asg (pe_tup (pa_cons (pv 2) (pa_cons (pe_call (ok_tops_over T) (hr.mono (by decide)) (by rfl) T.f_tops_over.g T.f_tops_over.F.kp T.f_tops_over.b .nil pass0 (pa_cons (pv 0) (pa_cons (pv 2) pa_nil))) pa_nil))) (tupK K (n := 2) rfl (pgs_cons (pg_name (i := 3) sc_least_pair.nd rfl (Or.inl rfl)) (pgs_cons (pg_name (i := 4) sc_least_pair.nd rfl (Or.inr rfl)) pgs_nil))))
      (pss_one (ps_setLc (i := 2) (own := [("at", 5), ("unknown", 6)]) rfl sc_least_pair.nd rfl rfl (sw_true rfl rfl rfl (by decide +kernel)) (enumK K (by rfl) T.z_enumerate (pa_cons (pv 1) pa_nil)) (blkOk_by (own := [("at", 5), ("unknown", 6)]) (N := N_least_pair) (sc := defScope s_least_pair) (by decide +kernel)) (fun _ _ _ _ _ => (tupK K (n := 2) rfl (pgs_cons (pg_name (i := 5) sc_least_pair.nd rfl (Or.inl rfl)) (pgs_cons (pg_name (i := 6) sc_least_pair.nd rfl (Or.inl rfl)) pgs_nil)))) (fun _ _ _ _ _ => pts_nil) (fun _ _ _ _ _ => (pe_op op_sub (pe_ix (ixK K) (pv 4) (pv 6) (fun _ _ => rfl)) (pe_ix (ixK K) (pe_ix (ixK K) (pv 0) (pv 5) (fun _ _ => rfl)) (pv 6) (fun _ _ => rfl))))))))
      (pss_one (ps_ret (pe_tup (pa_cons (pe_callTy (tupleK K) (by rfl) T.z_tuple bz_tuple (pa_cons (pv 2) pa_nil)) (pa_cons (pe_callTy (tupleK K) (by rfl) T.z_tuple bz_tuple (pa_cons (pv 4) pa_nil)) pa_nil))))))), ?_⟩
    refine ⟨_, rfl, pt0, n, o, rfl, hpat, hn, fun z => absurd hch z, fun H1 rc l u0 v0 s1 hrc hc1 hl hf ht => ?_⟩
    obtain ⟨Tp, U, a, bs, rfl, hS, hR⟩ := id hpat
    refine ⟨by show 1 ≤ sizeLine; decide, fun p0 hp0 => ?_⟩
    have k2 : Same H1 (upd H1 p0 (.lst [.int 0])) := same_upd hp0
    have e2 : upd H1 p0 (.lst [.int 0]) p0 = some (.lst [.int 0]) := upd_same
    generalize upd H1 p0 (.lst [.int 0]) = H2 at k2 e2
    refine ⟨_, rfl, Tp, a, _, rfl, hS.mono (s1.trans k2), p0, (n : Int), _, rfl, by rw [vec_len], e2, by omega, by omega, sz64 (by simp; omega), fun G hG => ?_⟩
    rw [show ((n : Int)).toNat = n by omega, rep_vec]
    have k3 : Same H2 (upd H2 G (.lst (vec n fun _ => .int 0))) := same_upd hG
    have e3 : upd H2 G (.lst (vec n fun _ => .int 0)) G = some (.lst (vec n fun _ => .int 0)) := upd_same
    generalize upd H2 G (.lst (vec n fun _ => .int 0)) = H3 at k3 e3
    refine ⟨by show 0 ≤ sizeLine; decide, fun p4 hp4 => ?_⟩
    have k4 : Same H3 (upd H3 p4 (.lst [])) := same_upd hp4
    have e4 : upd H3 p4 (.lst []) p4 = some (.lst []) := upd_same
    generalize upd H3 p4 (.lst []) = H4 at k4 e4
    refine ⟨by show 4 ≤ sizeLine; decide, fun p5 hp5 => ?_⟩
    have k5 : Same H4 (upd H4 p5 (.tup [.ref rc, .ref G, .non, .ref p4])) := same_upd hp5
    have e5 : upd H4 p5 (.tup [.ref rc, .ref G, .non, .ref p4]) p5 = some (.tup [.ref rc, .ref G, .non, .ref p4]) := upd_same
    generalize upd H4 p5 (.tup [.ref rc, .ref G, .non, .ref p4]) = H5 at k5 e5
    refine ⟨p5, _, rfl, SqT.of e5, rfl, _, _, rfl, _, _, rfl, _, _, rfl, _, _, rfl, rfl, ?_⟩
    have s5 : Same H H5 := s1.trans (k2.trans (k3.trans (k4.trans k5)))
    have hrc5 := k5 _ _ (k4 _ _ (k3 _ _ (k2 _ _ hc1)))
    have hG5 := k5 _ _ (k4 _ _ e3)
    obtain ⟨M, hM0⟩ := exists_M (fun _ => 0) u0 n
    refine ⟨fun m σ H' => ∃ (G R : Addr) (last : V) (c : Nat → Int) (stop : Prop) (x5 x6 : Option V), σ = [some (.ref a), some (.ref rc), some (.ref G), some last, some (.ref R), none, none] ∧ m = far n u0 M c stop ∧ Same H5 H' ∧
      H' G = some (.lst (vec n fun i => .int (c i))) ∧ Pos0 n c ∧ (∀ i, i < n → c i ≤ u0 i + M) ∧
      ((last = .non ∧ ¬ stop) ∨ ∃ (L : Addr) (c0 : Nat → Int), last = .ref L ∧ H' L = some (.lst (vec n fun i => .int (c0 i))) ∧ (stop ↔ ∀ i, i < n → c i = c0 i) ∧ (∀ i, i < n → c i = nxt n o l c0 i) ∧ Pos0 n c0 ∧ H' R = some (.lst (vec n fun j => .int (topF n o c0 j)))),
      ⟨_, G, p4, .non, fun _ => 0, False, none, none, rfl, rfl, fun _ _ e => e, hG5, fun _ _ => Int.le_refl _, hM0, .inl ⟨rfl, id⟩⟩, fun m σ H' hw => ?_⟩
    obtain ⟨G, R, last, c, stop, x5, x6, rfl, rfl, sH, hGc, hpos, hM, hlast⟩ := hw
    have hG2 := hGc
    rw [vec_ints] at hG2
    have dG : Dp K H' (.ref G) (.list ((inL n c).map .int)) := dp_ints hG2
    have hE : ∃ e, Dp K H' last e ∧ SeqAt.shaped e = true ∧ (PyData.eqv (.list ((inL n c).map .int)) e = true ↔ stop) := by
      rcases hlast with ⟨rfl, hns⟩ | ⟨L, c0, rfl, hL, hst, _⟩
      · refine ⟨.none, .non, shaped_none, ?_⟩
        rw [eqv_lst_none]
        exact ⟨fun z => (by cases z), fun z => absurd z hns⟩
      · rw [vec_ints] at hL
        refine ⟨.list ((inL n c0).map .int), dp_ints hL, lay_ints _, ?_⟩
        rw [eqv_ints, decide_eq_true_eq, inL_eq, hst]
    obtain ⟨e, hde, hse, hstop⟩ := hE
    refine ⟨_, rfl, _, rfl, _, e, dG, hde, lay_ints _, hse, _, rfl, ?_⟩
    by_cases hs : stop
    rotate_left
    · have eb : PyData.eqv (.list ((inL n c).map .int)) e = false := by
        cases z : PyData.eqv (.list ((inL n c).map .int)) e with
        | false => rfl
        | true => exact absurd (hstop.mp z) hs
      rw [eb]
      have sH0 : Same H H' := s5.trans sH
      have hpat' : ∃ T U, PatB T U K H' (.ref a) n o := by
        obtain ⟨T1, U1, h1⟩ := hpat
        exact ⟨T1, U1, h1.mono sH0⟩
      refine ⟨fun σ' H8 => ∃ (G' R' : Addr), σ' = [some (.ref a), some (.ref rc), some (.ref G'), some (.ref G), some (.ref R'), none, none] ∧ Same H' H8 ∧ H8 G' = some (.lst (vec n fun i => .int (nxt n o l c i))) ∧ H8 R' = some (.lst (vec n fun j => .int (topF n o c j))),
        fun σ' H8 hN => ?_, ?_⟩
      · obtain ⟨G', R', rfl, s8, hG8, hR8⟩ := hN
        have hle : ∀ i, i < n → c i ≤ nxt n o l c i := fun i hi => le_nxt hl hi
        have hM' : ∀ i, i < n → nxt n o l c i ≤ u0 i + M := fun i hi => nxt_bound hl hf ht hM hi
        refine ⟨_, far_less hs hM' hle, G', R', .ref G, nxt n o l c, _, none, none, rfl, rfl, sH.trans s8, hG8, fun i hi => ?_, hM', .inr ⟨G, c, rfl, s8 _ _ hGc, Iff.rfl, fun _ _ => rfl, hpos, hR8⟩⟩
        have y1 := hpos i hi
        have y2 := hle i hi
        omega
      refine ⟨_, rfl, _, rfl, _, rfl, .ref a, n, o, G, c, l, rfl, hpat', hn, SqL.of hGc, hl, fun H6 R' s6 hr0 hR6 => ?_⟩
      refine ⟨by show 2 ≤ sizeLine; decide, fun p7 hp7 => ?_⟩
      have k7 : Same H6 (upd H6 p7 (.tup [.ref G, .ref R'])) := same_upd hp7
      have e7 : upd H6 p7 (.tup [.ref G, .ref R']) p7 = some (.tup [.ref G, .ref R']) := upd_same
      generalize upd H6 p7 (.tup [.ref G, .ref R']) = H7 at k7 e7
      refine ⟨p7, _, rfl, SqT.of e7, rfl, _, _, rfl, _, _, rfl, rfl, ?_⟩
      have s7 : Same H' H7 := s6.trans k7
      have sH7 : Same H H7 := sH0.trans s7
      have hrc7 : H7 rc = some (.tup (iL l)) := s7 _ _ (sH _ _ hrc5)
      refine ⟨_, rfl, true, rc, _, rfl, SqB.tup hrc7, fun D hD => ?_⟩
      refine lc_it walk_enumB (fun i H' => Same H7 H' ∧ H' D = some (.lst (vec i fun i => .int (nxt n o l c i)))) ⟨same_upd hD, upd_same⟩ (fun i H' _ p => SqB.tup (p.1 _ _ hrc7)) (fun i x H8 H9 hi p y => ?_) (fun H8 p => ?_)
      · obtain ⟨p1, x1, x2, rfl, hp1, rfl, e1, e2⟩ := y
        obtain rfl : V.int (i : Int) = x1 := Option.some.inj e1
        obtain ⟨j, hj, rfl⟩ := iL_get (show (iL l)[i]? = some x2 from e2)
        have hin : i < n := by
          have z := (List.getElem?_eq_some_iff.mp hj).1
          rwa [hl.len] at z
        have ej : l.getD i 0 = j := by
          rw [List.getD_eq_getElem?_getD, hj]
          rfl
        have hjn : j < n := by
          have z := (hl.get hin).1
          rwa [ej] at z
        have ew := ch_val hl hin
        rw [ej] at ew
        have k9 : Same H8 (upd H8 p1 (.tup [.int (i : Int), .int (j : Int)])) := same_upd hp1
        have s9 := p.1.trans k9
        have sH9 := sH7.trans s9
        refine ⟨p1, _, rfl, SqT.of upd_same, rfl, _, _, rfl, _, _, rfl, rfl, rfl, ?_⟩
        refine ⟨_, rfl, _, rfl, false, R', _, j, .int (topF n o c j), rfl, rfl, SqB.lst (s9 _ _ (k7 _ _ hR6)), vec_at hjn, ?_⟩
        refine ⟨_, rfl, _, rfl, Tp, a, _, i, .ref (bs i), rfl, rfl, hS.mono sH9, vec_at hin, _, rfl, U, bs i, _, j, .int (val o i j), rfl, rfl, (hR i hin).mono sH9, by rw [vec_at hjn, ew]; rfl, ?_⟩
        refine ⟨_, _, rfl, rfl, _, k9 _ _ p.2, sz64' (by rw [vec_len]; omega), same_mut s9 hD, ?_⟩
        rw [upd_same, vec_succ]
        unfold nxt
        rw [ej]
      · rw [iL_len, hl.len] at p
        exact ⟨D, R', rfl, s7.trans p.1, p.2, p.1 _ _ (k7 _ _ hR6)⟩
    · have eb : PyData.eqv (.list ((inL n c).map .int)) e = true := hstop.mpr hs
      rw [eb]
      rcases hlast with ⟨rfl, hns⟩ | ⟨L, c0, rfl, hL, hst, hcn, hpos0, hR0⟩
      · exact absurd hs hns
      have hcc := hst.mp hs
      have hfix : ∀ i, i < n → nxt n o l c0 i = c0 i := fun i hi => by rw [← hcn i hi, hcc i hi]
      have eG : (vec n fun i => V.int (c i)) = vec n fun i => .int (c0 i) := vec_congr fun i hi => by rw [hcc i hi]
      rw [eG] at hGc
      refine ⟨_, rfl, G, _, rfl, SqL.of hGc, fun ra hra => ?_⟩
      have k6 : Same H' (upd H' ra (.tup (vec n fun i => .int (c0 i)))) := same_upd hra
      have e6 : upd H' ra (.tup (vec n fun i => .int (c0 i))) ra = some (.tup (vec n fun i => .int (c0 i))) := upd_same
      generalize upd H' ra (.tup (vec n fun i => .int (c0 i))) = H6 at k6 e6
      refine ⟨_, rfl, R, _, rfl, SqL.of (k6 _ _ hR0), fun rb hrb => ?_⟩
      have k7 : Same H6 (upd H6 rb (.tup (vec n fun j => .int (topF n o c0 j)))) := same_upd hrb
      have e7 : upd H6 rb (.tup (vec n fun j => .int (topF n o c0 j))) rb = some (.tup (vec n fun j => .int (topF n o c0 j))) := upd_same
      generalize upd H6 rb (.tup (vec n fun j => .int (topF n o c0 j))) = H7 at k7 e7
      refine ⟨by show 2 ≤ sizeLine; decide, fun p8 hp8 => ?_⟩
      have k8 : Same H7 (upd H7 p8 (.tup [.ref ra, .ref rb])) := same_upd hp8
      refine q _ (.ref p8) c0 (topF n o c0) ((s5.trans sH).trans (k6.trans (k7.trans k8))) ⟨p8, ra, rb, rfl, upd_same, k8 _ _ (k7 _ _ e6), k8 _ _ e7⟩ hpos0 (fun j hj => ?_) (nxt_feas hl hfix)
      obtain ⟨i, hi, w0, ew, et⟩ := top_at (c := c0) hl hj
      have y1 := hnn i hi j hj w0 ew
      have y2 := hpos0 i hi
      omega
/-! ### least_offsets -/
abbrev N_least_offsets : List Str := ["pattern"]
abbrev P_least_offsets : List Str := ["pattern"]
theorem sc_least_offsets : FnScope N_least_offsets P_least_offsets (defScope s_least_offsets) := ⟨rfl, rfl, rfl, by decide +kernel, rfl, by decide +kernel, by decide +kernel⟩
def sp_least_offsets (K : PySem.W.Frag) : Sp := fun vs H Q _ => ∃ (v : V) (n : Nat) (o : Pat), vs = [v] ∧ PatB true true K H v n o ∧ 0 < n ∧ n ≤ 60 ∧ NonNeg n o ∧ (∃ l, Ch n o l) ∧
  ∀ (H' : Hp) (v : V) (c d : Nat → Int), Same H H' → OffT H' v n c d → Pos0 n c → Pos0 n d → Feas n o c d → Q v H'
theorem ok_least_offsets (T : Txt K mg) : FnOk P w K mg base CX0 8 T.f_least_offsets.f T.f_least_offsets.fd P_least_offsets (sp_least_offsets K) := by
  refine T.f_least_offsets.F.ok sc_least_offsets (fun vs H Q E h => ?_) (fun cdv A outer s H vs Q E hr h => ?_)
  · obtain ⟨v, n, o, rfl, _⟩ := h
    rfl
  · obtain ⟨v, n, o, rfl, hP, h0, hn, hnn, hch, q⟩ := h
    refine ⟨_, (pss_cons (ps_expr (pe_call (ok_check_pattern T) (hr.mono (by decide)) (by rfl) T.f_check_pattern.g T.f_check_pattern.F.kp T.f_check_pattern.b .nil pass0 (pa_cons (pv 0) pa_nil)))
      (pss_cons (ps_expr (pe_call (ok_check_choices T) (hr.mono (by decide)) (by rfl) T.f_check_choices.g T.f_check_choices.F.kp T.f_check_choices.b .nil pass0 (pa_cons (pv 0) pa_nil)))
      (pss_one (ps_ret (pe_call (ok_least_pair T) (hr.mono (by decide)) (by rfl) T.f_least_pair.g T.f_least_pair.F.kp T.f_least_pair.b .nil pass0 (pa_cons (pv 0) pa_nil)))))), ?_⟩
    refine ⟨_, rfl, v, n, o, rfl, hP, h0, by omega, hnn, fun H1 s1 => ?_⟩
    refine ⟨_, rfl, v, n, o, rfl, ⟨true, true, hP.mono s1⟩, hn, hch, fun H2 s2 => ?_⟩
    have s3 := s1.trans s2
    exact ⟨_, rfl, v, n, o, rfl, ⟨true, true, hP.mono s3⟩, hn, hch, hnn, trivial, fun H' v c d s' hO hc hd hf => q H' v c d (s3.trans s') hO hc hd hf⟩
end
end Hid
/-! The law's drawing. -/
namespace Hid
open PySem PySem.Spec PyProof.Rows L2
/-- the well: a list of three numbers -/
def WA (H : Hp) (W : Addr) : Prop := ∃ a b c : Int, H W = some (.lst [.int a, .int b, .int c])
theorem WA.mono {H H' : Hp} {W : Addr} (s : Same H H') (h : WA H W) : WA H' W := by
  obtain ⟨a, b, c, e⟩ := h
  exact ⟨a, b, c, s _ _ e⟩
theorem WA.ne {H : Hp} {W p : Addr} (h : WA H W) (e : H p = none) : W ≠ p := by
  obtain ⟨a, b, c, hW⟩ := h
  exact ne_of_none hW e
theorem WA.tk {H H' : Hp} {W : Addr} (h : WA H W) (s : SB [W] H H') : TK H H' := fun b xs e => s b _ e fun z => by
  obtain ⟨a, b', c, hW⟩ := h
  have z' : b = W := by simpa using z
  rw [z', hW] at e
  cases e
theorem cut_ints (ns : List Int) (lo hi : Option Int) : ∃ ms : List Int, cutV (ns.map V.int) lo hi = ms.map V.int ∧ ms.length ≤ ns.length := by
  unfold cutV
  refine ⟨(ns.drop (HT.sIx (ns.map V.int).length 0 lo)).take (HT.sIx (ns.map V.int).length (ns.map V.int).length hi - HT.sIx (ns.map V.int).length 0 lo), ?_, ?_⟩
  · rw [List.map_take, List.map_drop]
  · rw [List.length_take, List.length_drop]
    omega
theorem cut_take {xs : List V} {r : Nat} (h : r ≤ xs.length) : cutV xs none (some (r : Int)) = xs.take r := by
  unfold cutV
  rw [HT.sIx_nat, HT.sIx_none, Nat.min_eq_left h, Nat.sub_zero, List.drop_zero]
theorem cut_drop {xs : List V} {r : Nat} (h : r ≤ xs.length) : cutV xs (some (r : Int)) none = xs.drop r := by
  unfold cutV
  rw [HT.sIx_nat, HT.sIx_none, Nat.min_eq_left h]
  exact List.take_of_length_le (by rw [List.length_drop]; exact Nat.le_refl _)
theorem rgV_iL (n : Nat) : rgV 0 (n : Int) = iL (List.range n) := by
  unfold rgV iL
  rw [show ((n : Int) - 0).toNat = n by omega]
  exact List.map_congr_left fun i _ => by rw [Int.zero_add]
theorem iL_take (l : List Nat) (r : Nat) : (iL l).take r = iL (l.take r) := by
  unfold iL
  rw [List.map_take]
theorem iL_drop (l : List Nat) (r : Nat) : (iL l).drop r = iL (l.drop r) := by
  unfold iL
  rw [List.map_drop]
theorem iL_app (l m : List Nat) : iL l ++ iL m = iL (l ++ m) := by
  unfold iL
  rw [List.map_append]
theorem perm_move {left found rest : List Nat} {r x : Nat} (h : (left ++ found).Perm rest) (hx : left[r]? = some x) : ((left.take r ++ left.drop (r + 1)) ++ (found ++ [x])).Perm rest := by
  obtain ⟨h1, h2⟩ := List.getElem?_eq_some_iff.mp hx
  have e : left = left.take r ++ x :: left.drop (r + 1) := by
    rw [← h2, ← List.drop_eq_getElem_cons h1, List.take_append_drop]
  have q : (left.take r ++ x :: left.drop (r + 1)).Perm (x :: (left.take r ++ left.drop (r + 1))) := List.perm_middle
  have p1 : ((left.take r ++ left.drop (r + 1)) ++ (found ++ [x])).Perm (x :: ((left.take r ++ left.drop (r + 1)) ++ found)) := by
    rw [← List.append_assoc]
    exact List.perm_append_singleton x _
  have p2 : (x :: ((left.take r ++ left.drop (r + 1)) ++ found)).Perm (left ++ found) := by
    have y := (q.append_right found).symm
    rw [← e] at y
    exact y
  exact p1.trans (p2.trans h)
/-- a number this way or that: what comes after needs no more than that it is one -/
theorem any_int {b : Bool} {te : TE} {σ : L2.St} {H : Hp} {Qk : VK} {i : Int} (hX : b = true → (∀ v : Int, Qk (.int v) H) → te σ H Qk) (h : ∀ v : Int, Qk (.int v) H) : if b = true then te σ H Qk else tC (V.int i) σ H Qk := by
  cases b with
  | true => exact hX rfl h
  | false => exact h i
section
variable {P : Program} {w : World} {K : PySem.W.Frag} {mg : Str → Option Value} {base : Heap}
/-! ### _law_well -/
abbrev N_law_well : List Str := ["_law_script", "_law_spot", "_law_seed", "_law_cell", "_law_great"]
abbrev P_law_well : List Str := ["_law_script", "_law_spot"]
theorem sc_law_well : FnScope N_law_well P_law_well (defScope s_law_well) := ⟨rfl, rfl, rfl, by decide +kernel, rfl, by decide +kernel, by decide +kernel⟩
def sp_law_well (K : PySem.W.Frag) : Sp := fun vs H Q _ => ∃ (S : Addr) (ns : List Int) (k : Nat), vs = [.ref S, .int (k : Int)] ∧ SqL K H S (ns.map V.int) ∧ k ≤ 1000 ∧ ∀ (H' : Hp) (r : Addr), Same H H' → H r = none → WA H' r → Q (.ref r) H'
theorem ok_law_well (T : Txt K mg) : FnOk P w K mg base CX0 1 T.f_law_well.f T.f_law_well.fd P_law_well (sp_law_well K) := by
  refine T.f_law_well.F.ok sc_law_well (fun vs H Q E h => ?_) (fun cdv A outer s H vs Q E hr h => ?_)
  · obtain ⟨S, ns, k, rfl, _⟩ := h
    rfl
  · obtain ⟨S, ns, k, rfl, hS, hk, q⟩ := h
    refine ⟨_, (pss_cons (ps_set (i := 2) sc_law_well.nd rfl (Or.inl rfl) (pe_op op_add pe_int (pe_op op_mul pe_int (pv 1))))
      (pss_cons (ps_for PassesOwn.never rfl (seqK K (pe_slice (slK K) (pv 0) po_none (po_some pe_int))) (pg_name (i := 3) sc_law_well.nd rfl (Or.inl rfl)) (pss_one (ps_set (i := 2) sc_law_well.nd rfl (Or.inl rfl) (pe_op op_mod (pe_callTy call_int1 (by rfl) T.z_int bz_int (pa_cons (pe_op op_add (pe_op op_add (pe_op op_mul (pv 2) pe_int) (pe_op op_mul (pe_callTy call_int1 (by rfl) T.z_int bz_int (pa_cons (pv 3) pa_nil)) pe_int)) pe_int) pa_nil)) pe_int))))
      (pss_cons (ps_set (i := 3) sc_law_well.nd rfl (Or.inl rfl) (pe_ifExp (pt_cmpR op_lt (pv 1) (pe_callB (lenK K) (by rfl) T.z_len bz_len (pa_cons (pv 0) pa_nil)) (nomark _)) (pe_callTy call_int1 (by rfl) T.z_int bz_int (pa_cons (pe_ix (ixK K) (pv 0) (pv 1) (fun _ _ => rfl)) pa_nil)) pe_int))
      (pss_cons (ps_set (i := 4) sc_law_well.nd rfl (Or.inl rfl) (pe_ifExp (pt_cmpR op_ge (pe_callB call_abs (by rfl) T.z_abs bz_abs (pa_cons (pv 3) pa_nil)) (pe_op op_pow pe_int pe_int) (nomark _)) (pe_callB call_abs (by rfl) T.z_abs bz_abs (pa_cons (pv 3) pa_nil)) pe_int))
      (pss_one (ps_ret (pe_lst (pa_cons (pv 4) (pa_cons (pe_op op_mod (pe_callTy call_int1 (by rfl) T.z_int bz_int (pa_cons (pe_op op_add (pe_op op_add (pe_op op_mul (pv 2) pe_int) (pe_op op_mul (pe_op op_mod (pe_callTy call_int1 (by rfl) T.z_int bz_int (pa_cons (pv 3) pa_nil)) pe_int) pe_int)) pe_int) pa_nil)) pe_int) (pa_cons pe_int pa_nil)))))))))), ?_⟩
    refine ⟨_, rfl, _, _, rfl, rfl, .inl ⟨by decide, by decide⟩, _, _, rfl, rfl, ?_⟩
    refine ⟨_, rfl, _, rfl, S, _, rfl, hS, fun p hp => ?_⟩
    obtain ⟨ms, em, hml⟩ := cut_ints ns none (some 10)
    rw [em]
    have k1 : Same H (upd H p (.lst (ms.map V.int))) := same_upd hp
    have e1 : upd H p (.lst (ms.map V.int)) p = some (.lst (ms.map V.int)) := upd_same
    generalize upd H p (.lst (ms.map V.int)) = H1 at k1 e1
    refine ⟨false, p, _, rfl, SqB.lst e1, ?_⟩
    refine for_it (walkB (T := false)) (fun i σ H' => H' = H1 ∧ ∃ (sd : Int) (x3 : Option V), σ = [some (.ref S), some (.int (k : Int)), some (.int sd), x3, none]) ⟨rfl, _, none, rfl⟩ (fun i σ H' _ p => by rw [p.1]; exact SqB.lst e1) (fun i x σ H2 H3 hi p y => ?_) (fun σ H2 p => ?_)
    · obtain ⟨rfl, sd, x3, rfl⟩ := p
      obtain ⟨rfl, hx⟩ := y
      rw [List.getElem?_map] at hx
      obtain ⟨v, hv, rfl⟩ := Option.map_eq_some_iff.mp hx
      refine ⟨_, rfl, _, _, rfl, rfl, .inr ⟨by decide, by decide⟩, _, rfl, .inl ⟨v, rfl, _, _, rfl, rfl, .inr ⟨by decide, by decide⟩, _, _, rfl, rfl, _, _, rfl, rfl, .inl ⟨_, rfl, _, _, rfl, rfl, (by decide : (0 : Int) < 2147483399), ?_⟩⟩⟩
      exact ⟨rfl, _, _, rfl⟩
    · obtain ⟨rfl, sd, x3, rfl⟩ := p
      have hS1 : SqL K H2 S (ns.map V.int) := SqB.mono (T := false) k1 hS
      refine ⟨_, rfl, _, rfl, false, S, _, rfl, hS1, _, _, rfl, rfl, _, rfl, any_int (fun hlt hk2 => ?_) fun v => ?_⟩
      · have hlt' : k < ns.length := by
          have z := of_decide_eq_true hlt
          rw [List.length_map] at z
          omega
        exact ⟨_, rfl, _, rfl, false, S, _, k, .int ns[k], rfl, rfl, hS1, by rw [List.getElem?_map, List.getElem?_eq_getElem hlt']; rfl, .inl ⟨_, rfl, hk2 _⟩⟩
      ·
        refine ⟨_, rfl, _, rfl, _, _, rfl, rfl, ⟨by decide, by decide, by decide⟩, _, _, rfl, rfl, _, rfl, any_int (fun _ hk2 => ⟨_, rfl, _, rfl, hk2 _⟩) fun v2 => ?_⟩
        refine ⟨_, rfl, _, rfl, _, _, rfl, rfl, .inr ⟨by decide, by decide⟩, _, rfl, .inl ⟨_, rfl, _, _, rfl, rfl, (by decide : (0 : Int) < 2147483353), _, _, rfl, rfl, .inr ⟨by decide, by decide⟩, _, _, rfl, rfl, _, _, rfl, rfl, .inl ⟨_, rfl, _, _, rfl, rfl, (by decide : (0 : Int) < 2147483399), ?_⟩⟩⟩
        exact ⟨by show 3 ≤ sizeLine; decide, fun p3 hp3 => q _ p3 (k1.trans (same_upd hp3)) (k1.free hp3) ⟨_, _, _, upd_same⟩⟩
/-! ### _law_draw -/
abbrev N_law_draw : List Str := ["_law_well_here", "_law_many", "_law_digit", "_law_seed"]
abbrev P_law_draw : List Str := ["_law_well_here", "_law_many"]
theorem sc_law_draw : FnScope N_law_draw P_law_draw (defScope s_law_draw) := ⟨rfl, rfl, rfl, by decide +kernel, rfl, by decide +kernel, by decide +kernel⟩
def sp_law_draw : Sp := fun vs H Q _ => ∃ (W : Addr) (m : Nat), vs = [.ref W, .int (m : Int)] ∧ WA H W ∧ 0 < m ∧ m ≤ 1000000 ∧ ∀ (H' : Hp) (r : Nat), SB [W] H H' → WA H' W → r < m → Q (.int (r : Int)) H'
theorem draw_post {W : Addr} {m : Nat} {H H' : Hp} {Q : VK} {i : Int} (hm : 0 < m) (q : ∀ (H' : Hp) (r : Nat), SB [W] H H' → WA H' W → r < m → Q (.int (r : Int)) H') (s : SB [W] H H') (hW : WA H' W) : Q (.int (i % (m : Int))) H' := by
  have h1 := Int.emod_nonneg i (show (m : Int) ≠ 0 by omega)
  have h2 := Int.emod_lt_of_pos i (show (0 : Int) < m by omega)
  have y := q H' (i % (m : Int)).toNat s hW (by omega)
  rwa [Int.toNat_of_nonneg h1] at y
theorem ok_law_draw (T : Txt K mg) : FnOk P w K mg base CX0 1 T.f_law_draw.f T.f_law_draw.fd P_law_draw sp_law_draw := by
  refine T.f_law_draw.F.ok sc_law_draw (fun vs H Q E h => ?_) (fun cdv A outer s H vs Q E hr h => ?_)
  · obtain ⟨W, m, rfl, _⟩ := h
    rfl
  · obtain ⟨W, m, rfl, ⟨a, b, c, hW⟩, hm, hmb, q⟩ := h
    refine ⟨_, (pss_cons (ps_if (pt_cmpR op_gt (pe_ix (ixK K) (pv 0) pe_int (fun _ _ => rfl)) pe_int (nomark _)) (pss_cons (ps_asg (pe_callB call_divmod (by rfl) T.z_divmod bz_divmod (pa_cons (pe_ix (ixK K) (pv 0) pe_int (fun _ _ => rfl)) (pa_cons (pv 1) pa_nil))) (tupK K (n := 2) rfl (pgs_cons (pg_sub (pv 0) pe_int set_list) (pgs_cons (pg_name (i := 2) sc_law_draw.nd rfl (Or.inl rfl)) pgs_nil))))
      (pss_one (ps_ret (pv 2)))) pss_nil)
      (pss_cons (ps_asg (pe_op op_add (pe_ix (ixK K) (pv 0) pe_int (fun _ _ => rfl)) pe_int) (pg_sub (pv 0) pe_int set_list))
      (pss_cons (ps_set (i := 3) sc_law_draw.nd rfl (Or.inl rfl) (pe_op op_mod (pe_callTy call_int1 (by rfl) T.z_int bz_int (pa_cons (pe_op op_add (pe_ix (ixK K) (pv 0) pe_int (fun _ _ => rfl)) (pe_op op_mul pe_int (pe_ix (ixK K) (pv 0) pe_int (fun _ _ => rfl)))) pa_nil)) pe_int))
      (pss_cons (ps_asg (pe_op op_mod (pe_callTy call_int1 (by rfl) T.z_int bz_int (pa_cons (pe_op op_add (pe_op op_mul (pv 3) (pe_op op_add (pe_op op_mod (pe_callTy call_int1 (by rfl) T.z_int bz_int (pa_cons (pv 3) pa_nil)) pe_int) pe_int)) (pe_op op_mul pe_int (pe_ix (ixK K) (pv 0) pe_int (fun _ _ => rfl)))) pa_nil)) pe_int) (pg_sub (pv 0) pe_int set_list))
      (pss_one (ps_ret (pe_op op_mod (pe_callTy call_int1 (by rfl) T.z_int bz_int (pa_cons (pe_op op_fdiv (pe_ix (ixK K) (pv 0) pe_int (fun _ _ => rfl)) pe_int) pa_nil)) (pv 1)))))))), ?_⟩
    refine ⟨_, rfl, false, W, _, 0, .int a, rfl, rfl, SqB.lst hW, rfl, _, _, rfl, rfl, _, rfl, ite2 (fun _ => ?_) (fun _ => ?_)⟩
    · refine ⟨_, rfl, false, W, _, 0, .int a, rfl, rfl, SqB.lst hW, rfl, _, rfl, a, (m : Int), rfl, ⟨by omega, by omega⟩, fun p hp => ?_⟩
      have k1 : Same H (upd H p (.tup [.int (a / (m : Int)), .int (a % (m : Int))])) := same_upd hp
      refine ⟨p, _, rfl, SqT.of upd_same, rfl, _, _, rfl, ⟨_, rfl, W, _, _, 0, rfl, rfl, k1 _ _ hW, rfl, _, _, rfl, rfl, ?_⟩⟩
      exact ⟨_, rfl, draw_post hm q ((same_sb k1 _).upd (by simp)) ⟨_, _, _, upd_same⟩⟩
    ·
      refine ⟨_, rfl, false, W, _, 2, .int c, rfl, rfl, SqB.lst hW, rfl, _, _, rfl, rfl, _, rfl, W, _, _, 2, rfl, rfl, hW, rfl, ?_⟩
      have s1 : SB [W] H (upd H W (.lst ([.int a, .int b, .int c].set 2 (.int (c + 1))))) := (SB.refl _ _).upd (by simp)
      have h1 : upd H W (.lst ([.int a, .int b, .int c].set 2 (.int (c + 1)))) W = some (.lst [.int a, .int b, .int (c + 1)]) := upd_same
      generalize upd H W (.lst ([.int a, .int b, .int c].set 2 (.int (c + 1)))) = H1 at s1 h1
      refine ⟨_, rfl, false, W, _, 1, .int b, rfl, rfl, SqB.lst h1, rfl, _, rfl, false, W, _, 2, .int (c + 1), rfl, rfl, SqB.lst h1, rfl, _, _, rfl, rfl, .inl ⟨by decide, by decide⟩, _, _, rfl, rfl, .inl ⟨_, rfl, _, _, rfl, rfl, (by decide : (0 : Int) < 2147483399), ?_⟩⟩
      have hb1 := Int.emod_nonneg ((b + 91019 * (c + 1)) % 2147483399) (show (9803 : Int) ≠ 0 by decide)
      have hb2 := Int.emod_lt_of_pos ((b + 91019 * (c + 1)) % 2147483399) (show (0 : Int) < 9803 by decide)
      have hb3 : -(2 ^ 64) < (b + 91019 * (c + 1)) % 2147483399 % 9803 + 29009 ∧ (b + 91019 * (c + 1)) % 2147483399 % 9803 + 29009 < 2 ^ 64 := ⟨by omega, by omega⟩
      refine ⟨_, rfl, _, rfl, .inl ⟨_, rfl, _, _, rfl, rfl, (by decide : (0 : Int) < 9803), _, _, rfl, rfl, _, _, rfl, rfl, .inr hb3, _, rfl, false, W, _, 2, .int (c + 1), rfl, rfl, SqB.lst h1, rfl, _, _, rfl, rfl, .inl ⟨by decide, by decide⟩, _, _, rfl, rfl, .inl ⟨_, rfl, _, _, rfl, rfl, (by decide : (0 : Int) < 2147483399), ?_⟩⟩⟩
      refine ⟨_, rfl, W, _, _, 1, rfl, rfl, h1, rfl, ?_⟩
      refine ⟨_, rfl, false, W, _, 1, _, rfl, rfl, SqB.lst upd_same, rfl, _, _, rfl, rfl, ⟨by decide, by decide⟩, .inl ⟨_, rfl, _, rfl, _, _, rfl, rfl, (show (0 : Int) < m by omega), ?_⟩⟩
      exact draw_post hm q (s1.upd (by simp)) ⟨_, _, _, upd_same⟩
/-! ### _law_pick -/
abbrev N_law_pick : List Str := ["_law_well_here", "_law_some"]
abbrev P_law_pick : List Str := ["_law_well_here", "_law_some"]
theorem sc_law_pick : FnScope N_law_pick P_law_pick (defScope s_law_pick) := ⟨rfl, rfl, rfl, by decide +kernel, rfl, by decide +kernel, by decide +kernel⟩
def sp_law_pick (K : PySem.W.Frag) : Sp := fun vs H Q _ => ∃ (W S : Addr) (T : Bool) (xs : List V), vs = [.ref W, .ref S] ∧ WA H W ∧ SqB T K H S xs ∧ S ≠ W ∧ 0 < xs.length ∧ xs.length ≤ 1000000 ∧ ∀ (H' : Hp) (v : V), SB [W] H H' → WA H' W → v ∈ xs → Q v H'
theorem ok_law_pick (T : Txt K mg) : FnOk P w K mg base CX0 2 T.f_law_pick.f T.f_law_pick.fd P_law_pick (sp_law_pick K) := by
  refine T.f_law_pick.F.ok sc_law_pick (fun vs H Q E h => ?_) (fun cdv A outer s H vs Q E hr h => ?_)
  · obtain ⟨W, S, T1, xs, rfl, _⟩ := h
    rfl
  · obtain ⟨W, S, T1, xs, rfl, hW, hS, hne, h0, hlen, q⟩ := h
    refine ⟨_, (pss_one (ps_ret (pe_ix (ixK K) (pv 1) (pe_call (ok_law_draw T) (hr.mono (by decide)) (by rfl) T.f_law_draw.g T.f_law_draw.F.kp T.f_law_draw.b .nil pass0 (pa_cons (pv 0) (pa_cons (pe_callB (lenK K) (by rfl) T.z_len bz_len (pa_cons (pv 1) pa_nil)) pa_nil))) (fun _ _ => rfl)))), ?_⟩
    refine ⟨_, rfl, _, rfl, _, rfl, T1, S, xs, rfl, hS, W, xs.length, rfl, hW, h0, hlen, fun H1 r sb wa hr1 => ?_⟩
    exact ⟨T1, S, xs, r, xs[r], rfl, rfl, hS.keep fun o e => sb _ _ e (by simpa using hne), List.getElem?_eq_getElem hr1, q _ _ sb wa (List.getElem_mem hr1)⟩
/-! ### _law_order_list -/
abbrev N_law_order_list : List Str := ["_law_well_here", "_law_n", "_law_left", "_law_found", "_law_turn", "_law_at"]
abbrev P_law_order_list : List Str := ["_law_well_here", "_law_n"]
theorem sc_law_order_list : FnScope N_law_order_list P_law_order_list (defScope s_law_order_list) := ⟨rfl, rfl, rfl, by decide +kernel, rfl, by decide +kernel, by decide +kernel⟩
def sp_law_order_list (K : PySem.W.Frag) : Sp := fun vs H Q _ => ∃ (W : Addr) (n : Nat), vs = [.ref W, .int (n : Int)] ∧ WA H W ∧ n ≤ 1000 ∧ ∀ (H' : Hp) (r : Addr) (l : List Nat), SB [W] H H' → WA H' W → H r = none → H' r = some (.lst (iL l)) → l.Perm (List.range n) → Q (.ref r) H'
theorem ok_law_order_list (T : Txt K mg) : FnOk P w K mg base CX0 2 T.f_law_order_list.f T.f_law_order_list.fd P_law_order_list (sp_law_order_list K) := by
  refine T.f_law_order_list.F.ok sc_law_order_list (fun vs H Q E h => ?_) (fun cdv A outer s H vs Q E hr h => ?_)
  · obtain ⟨W, n, rfl, _⟩ := h
    rfl
  · obtain ⟨W, n, rfl, hW, hn, q⟩ := h
    refine ⟨_, (pss_cons (ps_par (i := 2) (j := 3) rfl sc_law_order_list.nd rfl rfl (by decide) rfl rfl (pa_cons (pe_listRg rfl (by rfl) T.z_list (prg_1 (by rfl) T.z_range (pv 1))) (pa_cons (pe_lst pa_nil) pa_nil)) (by rfl))
      (pss_cons (ps_for PassesOwn.never rfl (pi_range1 (by rfl) T.z_range (pa_cons (pv 1) pa_nil)) (pg_name (i := 4) sc_law_order_list.nd rfl (Or.inl rfl)) (pss_cons (ps_set (i := 5) sc_law_order_list.nd rfl (Or.inl rfl) (pe_call (ok_law_draw T) (hr.mono (by decide)) (by rfl) T.f_law_draw.g T.f_law_draw.F.kp T.f_law_draw.b .nil pass0 (pa_cons (pv 0) (pa_cons (pe_callB (lenK K) (by rfl) T.z_len bz_len (pa_cons (pv 2) pa_nil)) pa_nil))))
      (pss_cons (ps_expr (pe_bm PySem.F.plainAttrs_list PySem.F.slot_list_append PySem.F.type_list_append mt_append (pv 3) (pa_cons (pe_ix (ixK K) (pv 2) (pv 5) (fun _ _ => rfl)) pa_nil)))
      (pss_one (ps_set (i := 2) sc_law_order_list.nd rfl (Or.inl rfl) (pe_op op_cat (pe_slice (slK K) (pv 2) po_none (po_some (pv 5))) (pe_slice (slK K) (pv 2) (po_some (pe_op op_add (pv 5) pe_int)) po_none)))))))
      (pss_one (ps_ret (pv 3))))), ?_⟩
    refine ⟨_, rfl, _, rfl, RgOk.of_le (by omega) (by omega) (by omega) (by omega), fun L hL => ?_⟩
    rw [rgV_iL]
    have k1 : Same H (upd H L (.lst (iL (List.range n)))) := same_upd hL
    have e1 : upd H L (.lst (iL (List.range n))) L = some (.lst (iL (List.range n))) := upd_same
    generalize upd H L (.lst (iL (List.range n))) = H1 at k1 e1
    refine ⟨by show 0 ≤ sizeLine; decide, fun F hF => ?_⟩
    have k2 : Same H1 (upd H1 F (.lst [])) := same_upd hF
    have e2 : upd H1 F (.lst []) F = some (.lst []) := upd_same
    have nLF : L ≠ F := ne_of_none e1 hF
    have fF : H F = none := k1.free hF
    generalize upd H1 F (.lst []) = H2 at k2 e2
    refine ⟨_, _, rfl, _, rfl, (n : Int), rfl, by omega, by omega, ?_⟩
    refine for_range (lo := 0) (n := ((n : Int)).toNat) (fun i σ H' => ∃ (L : Addr) (left found : List Nat) (x4 x5 : Option V), σ = [some (.ref W), some (.int (n : Int)), some (.ref L), some (.ref F), x4, x5] ∧ SB [W] H H' ∧ WA H' W ∧
      H' L = some (.lst (iL left)) ∧ H' F = some (.lst (iL found)) ∧ L ≠ F ∧ L ≠ W ∧ (left ++ found).Perm (List.range n) ∧ left.length + i = n)
      ⟨L, List.range n, [], none, none, rfl, same_sb (k1.trans k2) _, hW.mono (k1.trans k2), k2 _ _ e1, e2, nLF, fun z => hW.ne hL z.symm, by rw [List.append_nil], by rw [List.length_range]; rfl⟩ (fun i σ H3 hi p => ?_) (fun σ H3 p => ?_)
    · obtain ⟨L, left, found, x4, x5, rfl, sb, wa, hL3, hF3, nLF, nLW, hp, hlen⟩ := p
      have hi' : i < n := by omega
      have hfl : found.length = i := by
        have z := hp.length_eq
        rw [List.length_append, List.length_range] at z
        omega
      refine ⟨_, rfl, _, rfl, false, L, _, rfl, SqB.lst hL3, W, left.length, by rw [iL_len]; rfl, wa, by omega, by omega, fun H4 r sb4 wa4 hr4 => ?_⟩
      have nF : F ≠ W := fun z => hW.ne fF z.symm
      have hL4 : H4 L = some (.lst (iL left)) := sb4 _ _ hL3 (by simpa using nLW)
      have hF4 : H4 F = some (.lst (iL found)) := sb4 _ _ hF3 (by simpa using nF)
      obtain ⟨x, hx⟩ : ∃ x, left[r]? = some x := ⟨left[r], List.getElem?_eq_getElem hr4⟩
      refine ⟨_, rfl, .inl ⟨rfl, _, SqL.of hF4⟩, _, rfl, _, rfl, false, L, _, r, .int (x : Int), rfl, rfl, SqB.lst hL4, iL_at hx, F, _, _, rfl, rfl, hF4, sz64' (by rw [iL_len]; omega), ?_⟩
      have sb5 : SB [W] H (upd H4 F (.lst (iL found ++ [.int (x : Int)]))) := (sb.trans sb4).new fF
      have wa5 : WA (upd H4 F (.lst (iL found ++ [.int (x : Int)]))) W := by
        obtain ⟨a, b, c, z⟩ := wa4
        exact ⟨a, b, c, by rw [upd_ne (fun y => nF y.symm)]; exact z⟩
      have hL5 : upd H4 F (.lst (iL found ++ [.int (x : Int)])) L = some (.lst (iL left)) := by rw [upd_ne nLF]; exact hL4
      have hF5 : upd H4 F (.lst (iL found ++ [.int (x : Int)])) F = some (.lst (iL (found ++ [x]))) := by rw [upd_same, iL_snoc]
      generalize upd H4 F (.lst (iL found ++ [.int (x : Int)])) = H5 at sb5 wa5 hL5 hF5
      refine ⟨_, rfl, _, rfl, _, rfl, L, _, rfl, SqL.of hL5, fun p1 hp1 => ?_⟩
      rw [cut_take (by rw [iL_len]; omega), iL_take]
      have k6 : Same H5 (upd H5 p1 (.lst (iL (left.take r)))) := same_upd hp1
      have e6 : upd H5 p1 (.lst (iL (left.take r))) p1 = some (.lst (iL (left.take r))) := upd_same
      generalize upd H5 p1 (.lst (iL (left.take r))) = H6 at k6 e6
      refine ⟨_, rfl, _, rfl, _, _, rfl, rfl, _, rfl, L, _, rfl, SqL.of (k6 _ _ hL5), fun p2 hp2 => ?_⟩
      rw [show ((r : Int) + 1) = ((r + 1 : Nat) : Int) by omega, cut_drop (by rw [iL_len]; omega), iL_drop]
      have k7 : Same H6 (upd H6 p2 (.lst (iL (left.drop (r + 1))))) := same_upd hp2
      have e7 : upd H6 p2 (.lst (iL (left.drop (r + 1)))) p2 = some (.lst (iL (left.drop (r + 1)))) := upd_same
      generalize upd H6 p2 (.lst (iL (left.drop (r + 1)))) = H7 at k7 e7
      refine ⟨p1, p2, _, _, rfl, rfl, k7 _ _ e6, e7, sz64 (by rw [iL_len, iL_len, List.length_take, List.length_drop]; omega), fun p3 hp3 => ?_⟩
      rw [iL_app]
      have k8 : Same H7 (upd H7 p3 (.lst (iL (left.take r ++ left.drop (r + 1))))) := same_upd hp3
      have k5 := k6.trans (k7.trans k8)
      refine ⟨p3, _, _, _, _, rfl, sb5.trans (same_sb k5 _), wa5.mono k5, upd_same, k5 _ _ hF5, fun z => ?_, fun z => ?_, perm_move hp hx, ?_⟩
      · rw [z, k7 _ _ (k6 _ _ hF5)] at hp3
        cases hp3
      · exact (wa5.mono (k6.trans k7)).ne hp3 z.symm
      · rw [List.length_append, List.length_take, List.length_drop]
        omega
    · obtain ⟨L, left, found, x4, x5, rfl, sb, wa, hL3, hF3, nLF, nLW, hp, hlen⟩ := p
      have hl0 : left = [] := List.length_eq_zero_iff.mp (by omega)
      rw [hl0, List.nil_append] at hp
      exact ⟨_, rfl, q _ F found sb wa fF hF3 hp⟩
end
end Hid
/-! The law's own lists: choices, weights, tight spots. -/
namespace Hid
open PySem PySem.Spec PyProof.Rows L2
def stepA (n : Nat) (o : Pat) (k : Nat) (s : List Nat) : List (List Nat) := ((List.range n).filter fun j => decide (o k j ≠ none ∧ j ∉ s)).map fun j => s ++ [j]
theorem stepA_len (n : Nat) (o : Pat) (k : Nat) (s : List Nat) : (stepA n o k s).length ≤ n := by
  unfold stepA
  rw [List.length_map]
  have h := List.length_filter_le (fun j => decide (o k j ≠ none ∧ j ∉ s)) (List.range n)
  rwa [List.length_range] at h
theorem allC_step (n : Nat) (o : Pat) (k : Nat) : allC n o (k + 1) = (allC n o k).flatMap (stepA n o k) := rfl
theorem allC_len (n : Nat) (o : Pat) : ∀ k, (allC n o k).length ≤ n ^ k
  | 0 => Nat.le_refl 1
  | k + 1 => by
    rw [allC_step, Nat.pow_succ]
    exact Nat.le_trans (flat_len (stepA_len n o k) _) (Nat.mul_le_mul_right n (allC_len n o k))
theorem filt_succ (p : Nat → Bool) (j : Nat) : (List.range (j + 1)).filter p = (List.range j).filter p ++ (if p j = true then [j] else []) := by
  rw [List.range_succ, List.filter_append, List.filter_cons, List.filter_nil]
theorem filt_len (p : Nat → Bool) (j : Nat) : ((List.range j).filter p).length ≤ j := by
  have h := List.length_filter_le p (List.range j)
  rwa [List.length_range] at h
theorem lt_app {α : Type} {enc : α → List V} {H : Hp} {M D p : Addr} {l1 l2 : List α} {xs ys : List V} (h1 : LT enc H M l1) (e1 : H M = some (.lst xs)) (h2 : LT enc H D l2) (e2 : H D = some (.lst ys)) (hp : H p = none) : LT enc (upd H p (.lst (xs ++ ys))) p (l1 ++ l2) := by
  obtain ⟨xs', a1, a2⟩ := h1
  obtain ⟨ys', b1, b2⟩ := h2
  have ex : xs' = xs := HO.lst.inj (Option.some.inj (a1.symm.trans e1))
  have ey : ys' = ys := HO.lst.inj (Option.some.inj (b1.symm.trans e2))
  subst ex ey
  have k : TK H (upd H p (.lst (xs' ++ ys'))) := same_tk (same_upd hp)
  exact ⟨_, upd_same, Paired.mapP (paired_app a2 b2) fun _ _ q => q.tk k⟩
theorem TK.refl (H : Hp) : TK H H := fun _ _ e => e
section
variable {P : Program} {w : World} {K : PySem.W.Frag} {mg : Str → Option Value} {base : Heap}
/-! ### _law_choices -/
abbrev N_law_choices : List Str := ["_law_rows", "_law_found", "_law_line", "_law_more", "_law_some", "_law_j"]
abbrev P_law_choices : List Str := ["_law_rows"]
theorem sc_law_choices : FnScope N_law_choices P_law_choices (defScope s_law_choices) := ⟨rfl, rfl, rfl, by decide +kernel, rfl, by decide +kernel, by decide +kernel⟩
def sp_law_choices (K : PySem.W.Frag) : Sp := fun vs H Q _ => ∃ (v : V) (n : Nat) (o : Pat), vs = [v] ∧ PatT H v n o ∧ n ≤ 4 ∧ ∀ (H' : Hp) (r : Addr), Same H H' → H r = none → LT iL H' r (allC n o n) → Q (.ref r) H'
theorem ok_law_choices (T : Txt K mg) : FnOk P w K mg base CX0 1 T.f_law_choices.f T.f_law_choices.fd P_law_choices (sp_law_choices K) := by
  refine T.f_law_choices.F.ok sc_law_choices (fun vs H Q E h => ?_) (fun cdv A outer s H vs Q E hr h => ?_)
  · obtain ⟨v, n, o, rfl, _⟩ := h
    rfl
  · obtain ⟨v, n, o, rfl, hP, hn, q⟩ := h
    refine ⟨_, (pss_cons (ps_set (i := 1) sc_law_choices.nd rfl (Or.inl rfl) (pe_lst (pa_cons (pe_tup pa_nil) pa_nil)))
      (pss_cons (ps_for PassesOwn.never rfl (seqK K (pv 0)) (pg_name (i := 2) sc_law_choices.nd rfl (Or.inr rfl)) (pss_cons (ps_set (i := 3) sc_law_choices.nd rfl (Or.inl rfl) (pe_lst pa_nil))
      (pss_cons (ps_for PassesOwn.never rfl (seqK K (pv 1)) (pg_name (i := 4) sc_law_choices.nd rfl (Or.inr rfl)) (pss_one (ps_set (i := 3) sc_law_choices.nd rfl (Or.inl rfl) (pe_op op_cat (pv 3) (pe_lc (own := [("_law_j", 5)]) rfl sc_law_choices.nd (pi_range1 (by rfl) T.z_range (pa_cons (pe_callB (lenK K) (by rfl) T.z_len bz_len (pa_cons (pv 0) pa_nil)) pa_nil)) (blkOk_by (own := [("_law_j", 5)]) (N := N_law_choices) (sc := defScope s_law_choices) (by decide +kernel)) (fun _ _ _ _ _ => (pg_name (i := 5) sc_law_choices.nd rfl (Or.inl rfl))) (fun _ _ _ _ _ => pts_one (PW.pt (pw_and (pt_cmpR op_notN (pe_ix (ixK K) (pv 2) (pv 5) (fun _ _ => rfl)) pe_non (nomark _)) (pw_and1 (pt_cmpR (notInK K) (pv 5) (pv 4) (by rfl)))))) (fun _ _ _ _ _ => (pe_op (catAK K) (pv 4) (pe_tup (pa_cons (pv 5) pa_nil)))))))))
      (pss_one (ps_set (i := 1) sc_law_choices.nd rfl (Or.inl rfl) (pv 3))))))
      (pss_one (ps_ret (pv 1))))), ?_⟩
    obtain ⟨a, bs, rfl, ha, hbs⟩ := hP
    refine ⟨by show 0 ≤ sizeLine; decide, fun p0 hp0 => ?_⟩
    have k1 : Same H (upd H p0 (.tup [])) := same_upd hp0
    have e1 : upd H p0 (.tup []) p0 = some (.tup []) := upd_same
    generalize upd H p0 (.tup []) = H1 at k1 e1
    refine ⟨by show 1 ≤ sizeLine; decide, fun F hF => ?_⟩
    have k2 : Same H1 (upd H1 F (.lst [.ref p0])) := same_upd hF
    have e2 : upd H1 F (.lst [.ref p0]) F = some (.lst [.ref p0]) := upd_same
    have fF : H F = none := k1.free hF
    generalize upd H1 F (.lst [.ref p0]) = H2 at k2 e2
    have s2 : Same H H2 := k1.trans k2
    refine ⟨_, rfl, true, a, _, rfl, SqB.tup (s2 _ _ ha), ?_⟩
    refine for_it (walkB (T := true)) (fun i σ H' => ∃ (F : Addr) (x2 x3 x4 : Option V), σ = [some (.ref a), some (.ref F), x2, x3, x4, none] ∧ H F = none ∧ Same H H' ∧ LT iL H' F (allC n o i))
      ⟨F, none, none, none, rfl, fF, s2, [.ref p0], e2, .cons ⟨p0, rfl, k2 _ _ e1⟩ .nil⟩ (fun i σ H' _ p => by obtain ⟨_, _, _, _, _, _, s, _⟩ := p; exact SqB.tup (s _ _ ha)) (fun i x σ H3 H4 hi p y => ?_) (fun σ H3 p => ?_)
    · obtain ⟨F, x2, x3, x4, rfl, fF, s3, L3⟩ := p
      obtain ⟨rfl, hx⟩ := y
      obtain ⟨hi', rfl⟩ := vec_get hx
      have hAl : (allC n o i).length ≤ 256 := Nat.le_trans (allC_len n o i) (pow4 hn (by omega))
      refine ⟨by show 0 ≤ sizeLine; decide, fun M hM => ?_⟩
      have k4 : Same H4 (upd H4 M (.lst [])) := same_upd hM
      have L4 : LT iL (upd H4 M (.lst [])) M [] := lt_nil
      have fM : H M = none := s3.free hM
      have L3' := L3.mono k4
      generalize upd H4 M (.lst []) = H5 at k4 L4 L3'
      have s5 := s3.trans k4
      obtain ⟨xs, z1, z2, z3, z4⟩ := L3'.seq (K := K)
      refine ⟨_, rfl, false, F, xs, rfl, z1, ?_⟩
      refine for_it (walkB (T := false)) (fun j σ H' => ∃ (M : Addr) (x4 : Option V), σ = [some (.ref a), some (.ref F), some (.ref (bs i)), some (.ref M), x4, none] ∧ H M = none ∧ Same H5 H' ∧ LT iL H' M (((allC n o i).take j).flatMap (stepA n o i)))
        ⟨M, x4, rfl, fM, fun _ _ e => e, L4⟩ (fun j σ H' _ p => by obtain ⟨_, _, _, _, s, _⟩ := p; exact SqB.lst (s _ _ z4)) (fun j x σ H6 H7 hj p y => ?_) (fun σ H6 p => ?_)
      · obtain ⟨M, x4, rfl, fM, s6, L6⟩ := p
        obtain ⟨rfl, hx⟩ := y
        obtain ⟨s, hs, b, rfl, hb⟩ := paired_get z3 hx
        have hsl : s.length = i := (mem_allC.mp (List.mem_of_getElem? hs)).len
        obtain ⟨xm, y1, y2, y3, y4⟩ := L6.seq (K := K)
        have hH7 : Same H H7 := s5.trans s6
        refine ⟨_, rfl, _, rfl, true, a, _, rfl, SqB.tup (hH7 _ _ ha), (n : Int), by rw [vec_len], by omega, by omega, fun D hD => ?_⟩
        refine lc_range (lo := 0) (n := ((n : Int)).toNat) (fun u H' => Same H7 H' ∧ LT iL H' D (((List.range u).filter fun j => decide (o i j ≠ none ∧ j ∉ s)).map fun j => s ++ [j])) ⟨same_upd hD, lt_nil⟩ (fun u H8 hu p => ?_) (fun H8 p => ?_)
        · have hu' : u < n := by omega
          obtain ⟨s8, L8⟩ := p
          rw [show (0 : Int) + (u : Int) = (u : Int) by omega, filt_succ, List.map_append]
          have hH8 := hH7.trans s8
          have hb8 : H8 b = some (.tup (iL s)) := s8 _ _ (s6 _ _ hb)
          refine ⟨rfl, _, rfl, _, rfl, true, bs i, _, u, eV (o i u), rfl, rfl, SqB.tup (hH8 _ _ (hbs i hi')), vec_at hu', rfl, _, rfl, ?_⟩
          have skip : ¬ (o i u ≠ none ∧ u ∉ s) → Same H7 H8 ∧ LT iL H8 D (((List.range u).filter fun j => decide (o i j ≠ none ∧ j ∉ s)).map (fun j => s ++ [j]) ++ (if decide (o i u ≠ none ∧ u ∉ s) = true then [u] else []).map fun j => s ++ [j]) := fun z => by
            rw [if_neg (by rw [decide_eq_true_eq]; exact z), List.map_nil, List.append_nil]
            exact ⟨s8, L8⟩
          cases eo : o i u with
          | none =>
            rw [eo] at skip
            exact skip fun z => z.1 rfl
          | some wd =>
            refine ⟨_, rfl, _, rfl, true, b, _, rfl, SqB.tup hb8, rfl, flat_iL _, _, rfl, ?_⟩
            rw [in_iL]
            by_cases hm : u ∈ s
            · rw [decide_eq_true hm]
              rw [eo] at skip
              exact skip fun z => z.2 hm
            · rw [decide_eq_false hm]
              rw [if_pos (by rw [decide_eq_true_eq]; exact ⟨fun z => (by cases z), hm⟩)]
              refine ⟨_, rfl, _, rfl, by show 1 ≤ sizeLine; decide, fun p1 hp1 => ?_⟩
              have k9 : Same H8 (upd H8 p1 (.tup [.int (u : Int)])) := same_upd hp1
              have e9 : upd H8 p1 (.tup [.int (u : Int)]) p1 = some (.tup [.int (u : Int)]) := upd_same
              generalize upd H8 p1 (.tup [.int (u : Int)]) = H9 at k9 e9
              have fin : ∀ (r : Addr) (H' : Hp), Same H9 H' → H' r = some (.tup (iL s ++ [.int (u : Int)])) → ∃ acc, H' D = some (.lst acc) ∧ acc.length < sizeLine ∧ Same H7 (upd H' D (.lst (acc ++ [.ref r]))) ∧ LT iL (upd H' D (.lst (acc ++ [.ref r]))) D (((List.range u).filter fun j => decide (o i j ≠ none ∧ j ∉ s)).map (fun j => s ++ [j]) ++ [u].map fun j => s ++ [j]) := fun r H' s' hr' => by
                have L' := L8.mono (k9.trans s')
                obtain ⟨acc, w1, w2, w3, w4⟩ := L'.seq (K := K)
                refine ⟨acc, w4, sz64' ?_, same_mut (s8.trans (k9.trans s')) hD, ?_⟩
                · rw [w2, List.length_map]
                  have := filt_len (fun j => decide (o i j ≠ none ∧ j ∉ s)) u
                  omega
                · refine lt_snoc L' w4 ⟨r, rfl, ?_⟩
                  rw [iL_snoc]
                  exact hr'
              refine ⟨b, p1, iL s, _, rfl, rfl, SqT.of (k9 _ _ hb8), SqT.of e9, sz64 (by rw [iL_len]; show s.length + 1 ≤ 10000; omega), fun e => fin p1 H9 (fun _ _ z => z) ?_, (fun _ e => by cases e), fun _ _ p hp => fin p _ (same_upd hp) upd_same⟩
              rw [e9, e]
              rfl
        · obtain ⟨s8, L8⟩ := p
          rw [show ((n : Int)).toNat = n by omega] at L8
          obtain ⟨xd, w1, w2, w3, w4⟩ := L8.seq (K := K)
          have L6' := L6.mono s8
          have y4' := s8 _ _ y4
          refine ⟨M, D, xm, xd, rfl, rfl, y4', w4, sz64 ?_, fun p hp => ?_⟩
          · rw [y2, w2]
            have h1 := flat_len (stepA_len n o i) ((allC n o i).take j)
            rw [List.length_take] at h1
            have h2 : min j (allC n o i).length * n ≤ 256 * 4 := Nat.mul_le_mul (by omega) hn
            have h3 := filt_len (fun j => decide (o i j ≠ none ∧ j ∉ s)) n
            rw [List.length_map]
            omega
          · refine ⟨p, _, rfl, (hH7.trans s8).free hp, s6.trans (s8.trans (same_upd hp)), ?_⟩
            rw [List.take_add_one, hs, List.flatMap_append]
            have e : (some s).toList.flatMap (stepA n o i) = stepA n o i s := by
              show [s].flatMap _ = _
              rw [List.flatMap_cons, List.flatMap_nil, List.append_nil]
            rw [e]
            exact lt_app L6' y4' L8 w4 hp
      · obtain ⟨M, x4, rfl, fM, s6, L6⟩ := p
        refine ⟨_, rfl, M, _, _, _, rfl, fM, s5.trans s6, ?_⟩
        rw [allC_step]
        rw [z2, List.take_length] at L6
        exact L6
    · obtain ⟨F, x2, x3, x4, rfl, fF, s3, L3⟩ := p
      rw [vec_len] at L3
      exact ⟨_, rfl, q _ F s3 fF L3⟩
end
end Hid
/-! The law's own lists: weights, the heaviest choices, tight spots. -/
namespace Hid
open PySem PySem.Spec PyProof.Rows L2
def dL (l : List Nat) : PyData := .tuple (l.map fun (j : Nat) => PyData.int (j : Int))
def d2 (q : Nat × Nat) : PyData := .tuple [.int (q.1 : Int), .int (q.2 : Int)]
theorem dp_isL {K : PySem.W.Frag} {H : Hp} {x : V} {l : List Nat} (h : IsT iL H x l) : Dp K H x (dL l) := by
  obtain ⟨b, rfl, hb⟩ := h
  exact .tup (SqT.of hb) (dp_map (f := fun (j : Nat) => V.int (j : Int)) (g := fun (j : Nat) => PyData.int (j : Int)) (fun j => .int (j : Int)) l)
theorem dp_is2 {K : PySem.W.Frag} {H : Hp} {x : V} {q : Nat × Nat} (h : IsT en2 H x q) : Dp K H x (d2 q) := by
  obtain ⟨b, rfl, hb⟩ := h
  exact .tup (SqT.of hb) (.cons (.int _) (.cons (.int _) .nil))
theorem dp_paired {α : Type} {K : PySem.W.Frag} {H : Hp} {enc : α → List V} {d : α → PyData} (h : ∀ x a, IsT enc H x a → Dp K H x (d a)) : ∀ {xs : List V} {ls : List α}, Paired (IsT enc H) xs ls → DpAll K H xs (ls.map d)
  | _, _, .nil => .nil
  | _, _, .cons r t => .cons (h _ _ r) (dp_paired h t)
theorem dp_lt {α : Type} {K : PySem.W.Frag} {H : Hp} {enc : α → List V} {d : α → PyData} (h : ∀ x a, IsT enc H x a → Dp K H x (d a)) {D : Addr} {ls : List α} (L : LT enc H D ls) : Dp K H (.ref D) (.list (ls.map d)) := by
  obtain ⟨xs, h1, h2⟩ := L
  exact .lst (SqL.of h1) (dp_paired h h2)
theorem dp_tt {α : Type} {K : PySem.W.Frag} {H : Hp} {enc : α → List V} {d : α → PyData} (h : ∀ x a, IsT enc H x a → Dp K H x (d a)) {D : Addr} {ls : List α} (L : TT enc H D ls) : Dp K H (.ref D) (.tuple (ls.map d)) := by
  obtain ⟨xs, h1, h2⟩ := L
  exact .tup (SqT.of h1) (dp_paired h h2)
theorem lay_dL (l : List Nat) : Lay 1 (dL l) := lay_tup fun d hd => by
  obtain ⟨i, _, rfl⟩ := List.mem_map.mp hd
  exact lay_int _
theorem lay_d2 (q : Nat × Nat) : Lay 1 (d2 q) := lay_tup fun d hd => by
  rcases List.mem_cons.mp hd with e | e
  · rw [e]
    exact lay_int _
  · rw [List.mem_singleton.mp e]
    exact lay_int _
theorem lay_map_l {α : Type} {d : α → PyData} (h : ∀ a, Lay 1 (d a)) (ls : List α) : Lay 2 (.list (ls.map d)) := lay_lst fun x hx => by
  obtain ⟨a, _, rfl⟩ := List.mem_map.mp hx
  exact h a
theorem lay_map_t {α : Type} {d : α → PyData} (h : ∀ a, Lay 1 (d a)) (ls : List α) : Lay 2 (.tuple (ls.map d)) := lay_tup fun x hx => by
  obtain ⟨a, _, rfl⟩ := List.mem_map.mp hx
  exact h a
theorem eqv_map_nil {α : Type} {d : α → PyData} (ls : List α) : PyData.eqv (.list (ls.map d)) (.list []) = ls.isEmpty := by
  cases ls with
  | nil => exact eqv_nil_lst
  | cons a l => exact eqv_lst_nil
theorem eqv_d2 (q r : Nat × Nat) : PyData.eqv (d2 q) (d2 r) = decide (q = r) := by
  obtain ⟨a, b⟩ := q
  obtain ⟨c, d⟩ := r
  unfold d2
  rw [Bool.eq_iff_iff, decide_eq_true_eq]
  simp only [PyData.eqv, PyData.eqvAll, Bool.and_eq_true, beq_iff_eq, and_true, Prod.mk.injEq]
  omega
theorem any_d2 (sp : List (Nat × Nat)) (q : Nat × Nat) : ((sp.map d2).any fun z => PyData.eqv z (d2 q)) = decide (q ∈ sp) := by
  rw [Bool.eq_iff_iff, decide_eq_true_eq, List.any_eq_true]
  constructor
  · rintro ⟨x, hx, h⟩
    obtain ⟨r, hr, rfl⟩ := List.mem_map.mp hx
    rw [eqv_d2, decide_eq_true_eq] at h
    rw [← h]
    exact hr
  · intro h
    exact ⟨d2 q, List.mem_map.mpr ⟨q, h, rfl⟩, by rw [eqv_d2]; exact decide_eq_true rfl⟩
section
variable {P : Program} {w : World} {K : PySem.W.Frag} {mg : Str → Option Value} {base : Heap}
/-! ### _law_weight -/
abbrev N_law_weight : List Str := ["_law_rows", "_law_some", "_law_i"]
abbrev P_law_weight : List Str := ["_law_rows", "_law_some"]
theorem sc_law_weight : FnScope N_law_weight P_law_weight (defScope s_law_weight) := ⟨rfl, rfl, rfl, by decide +kernel, rfl, by decide +kernel, by decide +kernel⟩
def sp_law_weight (K : PySem.W.Frag) : Sp := fun vs H Q _ => ∃ (v : V) (b : Addr) (n : Nat) (o : Pat) (l : List Nat), vs = [v, .ref b] ∧ PatT H v n o ∧ n ≤ 1000 ∧ H b = some (.tup (iL l)) ∧ Ch n o l ∧ ∀ H', Same H H' → Q (.int (wt n o l)) H'
theorem ok_law_weight (T : Txt K mg) : FnOk P w K mg base CX0 1 T.f_law_weight.f T.f_law_weight.fd P_law_weight (sp_law_weight K) := by
  refine T.f_law_weight.F.ok sc_law_weight (fun vs H Q E h => ?_) (fun cdv A outer s H vs Q E hr h => ?_)
  · obtain ⟨v, b, n, o, l, rfl, _⟩ := h
    rfl
  · obtain ⟨v, b, n, o, l, rfl, ⟨a, bs, rfl, ha, hbs⟩, hn, hb, hl, q⟩ := h
    refine ⟨_, (pss_one (ps_ret (pe_callB (sumK K) (by rfl) T.z_sum bz_sum (pa_cons (pe_lc (own := [("_law_i", 2)]) rfl sc_law_weight.nd (pi_range1 (by rfl) T.z_range (pa_cons (pe_callB (lenK K) (by rfl) T.z_len bz_len (pa_cons (pv 0) pa_nil)) pa_nil)) (blkOk_by (own := [("_law_i", 2)]) (N := N_law_weight) (sc := defScope s_law_weight) (by decide +kernel)) (fun _ _ _ _ _ => (pg_name (i := 2) sc_law_weight.nd rfl (Or.inl rfl))) (fun _ _ _ _ _ => pts_nil) (fun _ _ _ _ _ => (pe_ix (ixK K) (pe_ix (ixK K) (pv 0) (pv 2) (fun _ _ => rfl)) (pe_ix (ixK K) (pv 1) (pv 2) (fun _ _ => rfl)) (fun _ _ => rfl)))) pa_nil)))), ?_⟩
    refine ⟨_, rfl, true, a, _, rfl, SqB.tup ha, (n : Int), by rw [vec_len], by omega, by omega, fun D hD => ?_⟩
    refine lc_range (lo := 0) (n := ((n : Int)).toNat) (fun i H' => Same H H' ∧ H' D = some (.lst (((List.range i).map fun i => val o i (l.getD i 0)).map V.int))) ⟨same_upd hD, upd_same⟩ (fun i H' hi p => ?_) (fun H' p => ?_)
    · have hi' : i < n := by omega
      rw [show (0 : Int) + (i : Int) = (i : Int) by omega]
      have hj := hl.get hi'
      refine ⟨rfl, _, rfl, _, rfl, true, a, _, i, .ref (bs i), rfl, rfl, SqB.tup (p.1 _ _ ha), vec_at hi', _, rfl, _, rfl, true, b, _, i, .int (l.getD i 0 : Nat), rfl, rfl, SqB.tup (p.1 _ _ hb), iL_at hj.2, true, bs i, _, l.getD i 0, .int (val o i (l.getD i 0)), rfl, rfl, SqB.tup (p.1 _ _ (hbs i hi')), by rw [vec_at hj.1, ch_val hl hi']; rfl, _, p.2, sz64' ?_, same_mut p.1 hD, ?_⟩
      · rw [List.length_map, List.length_map, List.length_range]
        omega
      · rw [upd_same, List.range_succ, List.map_append, List.map_append]
        rfl
    · rw [show ((n : Int)).toNat = n by omega] at p
      exact ⟨D, _, rfl, SqL.of p.2, q _ p.1⟩
/-! ### _law_heaviest -/
abbrev N_law_heaviest : List Str := ["_law_rows", "_law_found", "_law_top", "_law_some"]
abbrev P_law_heaviest : List Str := ["_law_rows"]
theorem sc_law_heaviest : FnScope N_law_heaviest P_law_heaviest (defScope s_law_heaviest) := ⟨rfl, rfl, rfl, by decide +kernel, rfl, by decide +kernel, by decide +kernel⟩
def sp_law_heaviest (K : PySem.W.Frag) : Sp := fun vs H Q _ => ∃ (v : V) (n : Nat) (o : Pat), vs = [v] ∧ PatT H v n o ∧ n ≤ 4 ∧ (∃ l, Ch n o l) ∧
  ∀ (H' : Hp) (r hl : Addr) (W : Int), Same H H' → H' r = some (.tup [.int W, .ref hl]) → H hl = none → Heavy n o W → LT iL H' hl (heavies n o W) → Q (.ref r) H'
theorem ok_law_heaviest (T : Txt K mg) : FnOk P w K mg base CX0 2 T.f_law_heaviest.f T.f_law_heaviest.fd P_law_heaviest (sp_law_heaviest K) := by
  refine T.f_law_heaviest.F.ok sc_law_heaviest (fun vs H Q E h => ?_) (fun cdv A outer s H vs Q E hr h => ?_)
  · obtain ⟨v, n, o, rfl, _⟩ := h
    rfl
  · obtain ⟨v, n, o, rfl, hP, hn, hch, q⟩ := h
    refine ⟨_, (pss_cons (ps_set (i := 1) sc_law_heaviest.nd rfl (Or.inl rfl) (pe_call (ok_law_choices T) (hr.mono (by decide)) (by rfl) T.f_law_choices.g T.f_law_choices.F.kp T.f_law_choices.b .nil pass0 (pa_cons (pv 0) pa_nil)))
      (pss_cons (ps_if (pt_cmpR (eqDK K hr.units) (pv 1) (pe_lst pa_nil) (nomark _)) (pss_one (ps_ret (pe_tup (pa_cons pe_non (pa_cons (pe_lst pa_nil) pa_nil))))) pss_nil)
      (pss_cons (ps_set (i := 2) sc_law_heaviest.nd rfl (Or.inr rfl) (pe_callB (maxK K) (by rfl) T.z_max bz_max (pa_cons (pe_lc (own := [("_law_some", 3)]) rfl sc_law_heaviest.nd (seqK K (pv 1)) (blkOk_by (own := [("_law_some", 3)]) (N := N_law_heaviest) (sc := defScope s_law_heaviest) (by decide +kernel)) (fun _ _ _ _ _ => (pg_name (i := 3) sc_law_heaviest.nd rfl (Or.inl rfl))) (fun _ _ _ _ _ => pts_nil) (fun _ _ _ _ _ => (pe_call (ok_law_weight T) (hr.mono (by decide)) (by rfl) T.f_law_weight.g T.f_law_weight.F.kp T.f_law_weight.b .nil pass0 (pa_cons (pv 0) (pa_cons (pv 3) pa_nil))))) pa_nil)))
      (pss_one (ps_ret (pe_tup (pa_cons (pv 2) (pa_cons (pe_lc (own := [("_law_some", 3)]) rfl sc_law_heaviest.nd (seqK K (pv 1)) (blkOk_by (own := [("_law_some", 3)]) (N := N_law_heaviest) (sc := defScope s_law_heaviest) (by decide +kernel)) (fun _ _ _ _ _ => (pg_name (i := 3) sc_law_heaviest.nd rfl (Or.inl rfl))) (fun _ _ _ _ _ => pts_one (pt_cmpR op_eq (pe_call (ok_law_weight T) (hr.mono (by decide)) (by rfl) T.f_law_weight.g T.f_law_weight.F.kp T.f_law_weight.b .nil pass0 (pa_cons (pv 0) (pa_cons (pv 3) pa_nil))) (pv 2) (nomark _))) (fun _ _ _ _ _ => (pv 3))) pa_nil)))))))), ?_⟩
    refine ⟨_, rfl, v, n, o, rfl, hP, hn, fun H1 F s1 fF L1 => ?_⟩
    have hAl : (allC n o n).length ≤ 256 := Nat.le_trans (allC_len n o n) (pow4 hn hn)
    have hAm : ∀ l, l ∈ allC n o n ↔ Ch n o l := fun l => mem_allC
    generalize hA : allC n o n = A0 at L1 hAl hAm
    have hne : A0 ≠ [] := fun e => by
      obtain ⟨l, hl⟩ := hch
      have z := (hAm l).mpr hl
      rw [e] at z
      cases z
    refine ⟨_, rfl, by show 0 ≤ sizeLine; decide, fun p0 hp0 => ?_⟩
    have k2 : Same H1 (upd H1 p0 (.lst [])) := same_upd hp0
    have L2' := L1.mono k2
    refine ⟨_, .list [], dp_lt (fun _ _ => dp_isL) L2', .lst (SqL.of upd_same) .nil, (lay_map_l lay_dL A0).shaped (by decide), lay_nil, ?_⟩
    rw [eqv_map_nil, List.isEmpty_eq_false_iff.mpr hne]
    refine ⟨_, rfl, ?_⟩
    have s2 := s1.trans k2
    generalize upd H1 p0 (.lst []) = H2 at s2 L2'
    obtain ⟨xs, z1, z2, z3, z4⟩ := L2'.seq (K := K)
    refine ⟨_, rfl, false, F, xs, rfl, z1, fun D hD => ?_⟩
    refine lc_it (walkB (T := false)) (fun i H' => Same H2 H' ∧ H' D = some (.lst (((A0.take i).map (wt n o)).map V.int))) ⟨same_upd hD, upd_same⟩ (fun i H' _ p => SqB.mono (T := false) p.1 z1) (fun i x H3 H4 hi p y => ?_) (fun H3 p => ?_)
    · obtain ⟨rfl, hx⟩ := y
      obtain ⟨l, hl, b, rfl, hb⟩ := paired_get z3 hx
      have hc := (hAm l).mp (List.mem_of_getElem? hl)
      refine ⟨rfl, _, rfl, _, rfl, v, b, n, o, l, rfl, hP.tk (same_tk (s2.trans p.1)), by omega, p.1 _ _ hb, hc, fun H5 s5 => ?_⟩
      refine ⟨_, s5 _ _ p.2, sz64' ?_, same_mut (p.1.trans s5) hD, ?_⟩
      · rw [List.length_map, List.length_map, List.length_take]
        omega
      · rw [upd_same, List.take_add_one, hl, List.map_append, List.map_append]
        rfl
    · obtain ⟨s3, hD3⟩ := p
      rw [z2, List.take_length] at hD3
      have hlen : 0 < (A0.map (wt n o)).length := by
        rw [List.length_map]
        exact List.length_pos_iff.mpr hne
      refine ⟨D, _, rfl, SqL.of hD3, hlen, fun W hW hWle => ?_⟩
      have hw : Heavy n o W := by
        obtain ⟨l, hl, e⟩ := List.mem_map.mp hW
        exact ⟨⟨l, (hAm l).mp hl, e⟩, fun l hl => hWle _ (List.mem_map.mpr ⟨l, (hAm l).mpr hl, rfl⟩)⟩
      have s4 := s2.trans s3
      have L4 := L2'.mono s3
      obtain ⟨xs, z1, z2, z3, z4⟩ := L4.seq (K := K)
      refine ⟨_, rfl, _, rfl, false, F, xs, rfl, z1, fun D2 hD2 => ?_⟩
      refine lc_it (walkB (T := false)) (fun i H' => Same H3 H' ∧ LT iL H' D2 ((A0.take i).filter fun l => decide (wt n o l = W))) ⟨same_upd hD2, lt_nil⟩ (fun i H' _ p => SqB.mono (T := false) p.1 z1) (fun i x H5 H6 hi p y => ?_) (fun H5 p => ?_)
      · obtain ⟨rfl, hx⟩ := y
        obtain ⟨l, hl, b, rfl, hb⟩ := paired_get z3 hx
        have hc := (hAm l).mp (List.mem_of_getElem? hl)
        refine ⟨rfl, _, rfl, _, rfl, v, b, n, o, l, rfl, hP.tk (same_tk (s4.trans p.1)), by omega, p.1 _ _ hb, hc, fun H7 s7 => ?_⟩
        rw [List.take_add_one, hl, List.filter_append]
        have e0 : (some l).toList.filter (fun l => decide (wt n o l = W)) = if wt n o l = W then [l] else [] := by
          show [l].filter _ = _
          rw [List.filter_cons, List.filter_nil]
          by_cases z : wt n o l = W
          · rw [if_pos z, if_pos (decide_eq_true z)]
          · rw [if_neg z, if_neg (by rw [decide_eq_true_eq]; exact z)]
        rw [e0]
        refine ⟨_, rfl, rfl, _, rfl, ite2 (fun hg => ?_) (fun hg => ?_)⟩
        · have z : wt n o l = W := V.int.inj (of_decide_eq_true hg)
          rw [if_pos z]
          have L7 := p.2.mono s7
          obtain ⟨acc, w1, w2, w3, w4⟩ := L7.seq (K := K)
          refine ⟨_, rfl, acc, w4, sz64' ?_, same_mut (p.1.trans s7) hD2, lt_snoc L7 w4 ⟨b, rfl, s7 _ _ (p.1 _ _ hb)⟩⟩
          rw [w2]
          have := List.length_filter_le (fun l => decide (wt n o l = W)) (A0.take i)
          rw [List.length_take] at this
          omega
        · have z : ¬ wt n o l = W := fun z => hg (decide_eq_true (by rw [z]))
          rw [if_neg z, List.append_nil]
          exact ⟨p.1.trans s7, p.2.mono s7⟩
      · obtain ⟨s5, L5⟩ := p
        rw [z2, List.take_length] at L5
        refine ⟨by show 2 ≤ sizeLine; decide, fun p6 hp6 => ?_⟩
        have k7 : Same H5 (upd H5 p6 (.tup [.int W, .ref D2])) := same_upd hp6
        refine q _ p6 D2 W (s4.trans (s5.trans k7)) upd_same (s4.free hD2) hw ?_
        unfold heavies
        rw [hA]
        exact L5.mono k7
/-! ### _law_tight -/
abbrev N_law_tight : List Str := ["_law_rows", "_law_c", "_law_d", "_law_found", "_law_i", "_law_j"]
abbrev P_law_tight : List Str := ["_law_rows", "_law_c", "_law_d"]
theorem sc_law_tight : FnScope N_law_tight P_law_tight (defScope s_law_tight) := ⟨rfl, rfl, rfl, by decide +kernel, rfl, by decide +kernel, by decide +kernel⟩
def rowS (n : Nat) (o : Pat) (c d : Nat → Int) (i : Nat) : List (Nat × Nat) := ((List.range n).filter fun j => decide (o i j = some (d j - c i))).map fun j => (i, j)
theorem rowS_len (n : Nat) (o : Pat) (c d : Nat → Int) (i : Nat) : (rowS n o c d i).length ≤ n := by
  unfold rowS
  rw [List.length_map]
  exact filt_len _ n
theorem spots_flat (n : Nat) (o : Pat) (c d : Nat → Int) : spots n o c d = (List.range n).flatMap (rowS n o c d) := rfl
def sp_law_tight (K : PySem.W.Frag) : Sp := fun vs H Q _ => ∃ (v : V) (ca da : Addr) (n : Nat) (o : Pat) (c d : Nat → Int), vs = [v, .ref ca, .ref da] ∧ PatT H v n o ∧ n ≤ 60 ∧ H ca = some (.tup (vec n fun i => .int (c i))) ∧ H da = some (.tup (vec n fun j => .int (d j))) ∧
  ∀ (H' : Hp) (r : Addr), Same H H' → H r = none → TT en2 H' r (spots n o c d) → Q (.ref r) H'
theorem ok_law_tight (T : Txt K mg) : FnOk P w K mg base CX0 1 T.f_law_tight.f T.f_law_tight.fd P_law_tight (sp_law_tight K) := by
  refine T.f_law_tight.F.ok sc_law_tight (fun vs H Q E h => ?_) (fun cdv A outer s H vs Q E hr h => ?_)
  · obtain ⟨v, ca, da, n, o, c, d, rfl, _⟩ := h
    rfl
  · obtain ⟨v, ca, da, n, o, c, d, rfl, ⟨a, bs, rfl, ha, hbs⟩, hn, hca, hda, q⟩ := h
    refine ⟨_, (pss_cons (ps_set (i := 3) sc_law_tight.nd rfl (Or.inl rfl) (pe_lst pa_nil))
      (pss_cons (ps_for PassesOwn.never rfl (pi_range1 (by rfl) T.z_range (pa_cons (pe_callB (lenK K) (by rfl) T.z_len bz_len (pa_cons (pv 0) pa_nil)) pa_nil)) (pg_name (i := 4) sc_law_tight.nd rfl (Or.inr rfl)) (pss_one (ps_set (i := 3) sc_law_tight.nd rfl (Or.inl rfl) (pe_op op_cat (pv 3) (pe_lc (own := [("_law_j", 5)]) rfl sc_law_tight.nd (pi_range1 (by rfl) T.z_range (pa_cons (pe_callB (lenK K) (by rfl) T.z_len bz_len (pa_cons (pv 0) pa_nil)) pa_nil)) (blkOk_by (own := [("_law_j", 5)]) (N := N_law_tight) (sc := defScope s_law_tight) (by decide +kernel)) (fun _ _ _ _ _ => (pg_name (i := 5) sc_law_tight.nd rfl (Or.inl rfl))) (fun _ _ _ _ _ => pts_one (PW.pt (pw_and (pt_cmpR op_notN (pe_ix (ixK K) (pe_ix (ixK K) (pv 0) (pv 4) (fun _ _ => rfl)) (pv 5) (fun _ _ => rfl)) pe_non (nomark _)) (pw_and1 (pt_cmpR op_eq (pe_op op_sub (pe_ix (ixK K) (pv 2) (pv 5) (fun _ _ => rfl)) (pe_ix (ixK K) (pv 1) (pv 4) (fun _ _ => rfl))) (pe_ix (ixK K) (pe_ix (ixK K) (pv 0) (pv 4) (fun _ _ => rfl)) (pv 5) (fun _ _ => rfl)) (nomark _)))))) (fun _ _ _ _ _ => (pe_tup (pa_cons (pv 4) (pa_cons (pv 5) pa_nil)))))))))
      (pss_one (ps_ret (pe_callTy (tupleK K) (by rfl) T.z_tuple bz_tuple (pa_cons (pv 3) pa_nil)))))), ?_⟩
    have hsq := sq60 hn
    refine ⟨by show 0 ≤ sizeLine; decide, fun F hF => ?_⟩
    have k1 : Same H (upd H F (.lst [])) := same_upd hF
    have L1 : LT en2 (upd H F (.lst [])) F [] := lt_nil
    generalize upd H F (.lst []) = H1 at k1 L1
    refine ⟨_, rfl, true, a, _, rfl, SqB.tup (k1 _ _ ha), (n : Int), by rw [vec_len], by omega, by omega, ?_⟩
    refine for_range (lo := 0) (n := ((n : Int)).toNat) (fun i σ H' => ∃ (F : Addr) (x4 : Option V), σ = [some (.ref a), some (.ref ca), some (.ref da), some (.ref F), x4, none] ∧ H F = none ∧ Same H H' ∧ LT en2 H' F ((List.range i).flatMap (rowS n o c d)))
      ⟨F, none, rfl, hF, k1, L1⟩ (fun i σ H2 hi p => ?_) (fun σ H2 p => ?_)
    · obtain ⟨F, x4, rfl, fF, s2, L2'⟩ := p
      have hi' : i < n := by omega
      rw [show (0 : Int) + (i : Int) = (i : Int) by omega]
      obtain ⟨xm, y1, y2, y3, y4⟩ := L2'.seq (K := K)
      refine ⟨_, rfl, _, rfl, true, a, _, rfl, SqB.tup (s2 _ _ ha), (n : Int), by rw [vec_len], by omega, by omega, fun D hD => ?_⟩
      refine lc_range (lo := 0) (n := ((n : Int)).toNat) (fun u H' => Same H2 H' ∧ LT en2 H' D (((List.range u).filter fun j => decide (o i j = some (d j - c i))).map fun j => (i, j))) ⟨same_upd hD, lt_nil⟩ (fun u H3 hu p => ?_) (fun H3 p => ?_)
      · have hu' : u < n := by omega
        obtain ⟨s3, L3⟩ := p
        rw [show (0 : Int) + (u : Int) = (u : Int) by omega, filt_succ, List.map_append]
        have s4 := s2.trans s3
        refine ⟨rfl, _, rfl, _, rfl, true, a, _, i, .ref (bs i), rfl, rfl, SqB.tup (s4 _ _ ha), vec_at hi', _, rfl, true, bs i, _, u, eV (o i u), rfl, rfl, SqB.tup (s4 _ _ (hbs i hi')), vec_at hu', rfl, _, rfl, ?_⟩
        have skip : ¬ o i u = some (d u - c i) → Same H2 H3 ∧ LT en2 H3 D (((List.range u).filter fun j => decide (o i j = some (d j - c i))).map (fun j => (i, j)) ++ (if decide (o i u = some (d u - c i)) = true then [u] else []).map fun j => (i, j)) := fun z => by
          rw [if_neg (by rw [decide_eq_true_eq]; exact z), List.map_nil, List.append_nil]
          exact ⟨s3, L3⟩
        cases eo : o i u with
        | none =>
          rw [eo] at skip
          exact skip fun z => by cases z
        | some wd =>
          rw [eo] at skip
          refine ⟨_, rfl, _, rfl, true, da, _, u, .int (d u), rfl, rfl, SqB.tup (s4 _ _ hda), vec_at hu', _, rfl, _, rfl, true, ca, _, i, .int (c i), rfl, rfl, SqB.tup (s4 _ _ hca), vec_at hi', _, _, rfl, rfl, ?_⟩
          refine ⟨_, rfl, _, rfl, true, a, _, i, .ref (bs i), rfl, rfl, SqB.tup (s4 _ _ ha), vec_at hi', _, rfl, true, bs i, _, u, .int wd, rfl, rfl, SqB.tup (s4 _ _ (hbs i hi')), by rw [vec_at hu', eo]; rfl, rfl, _, rfl, ite2 (fun hg => ?_) (fun hg => ?_)⟩
          · have z : d u - c i = wd := V.int.inj (of_decide_eq_true hg)
            rw [if_pos (by rw [decide_eq_true_eq, z])]
            refine ⟨_, rfl, _, rfl, by show 2 ≤ sizeLine; decide, fun p6 hp6 => ?_⟩
            have k7 : Same H3 _ := same_upd (o := .tup [.int (i : Int), .int (u : Int)]) hp6
            have L7 := L3.mono k7
            obtain ⟨acc, w1, w2, w3, w4⟩ := L7.seq (K := K)
            refine ⟨acc, w4, sz64' ?_, same_mut (s3.trans k7) hD, lt_snoc L7 w4 ⟨p6, rfl, upd_same⟩⟩
            rw [w2, List.length_map]
            have := filt_len (fun j => decide (o i j = some (d j - c i))) u
            omega
          · exact skip fun z => hg (decide_eq_true (show V.int (d u - c i) = V.int wd by rw [Option.some.inj z]))
      · obtain ⟨s3, L3⟩ := p
        rw [show ((n : Int)).toNat = n by omega] at L3
        obtain ⟨xd, w1, w2, w3, w4⟩ := L3.seq (K := K)
        refine ⟨F, D, xm, xd, rfl, rfl, s3 _ _ y4, w4, sz64 ?_, fun p hp => ?_⟩
        · rw [y2, w2]
          have h1 := flat_len (rowS_len n o c d) (List.range i)
          rw [List.length_range] at h1
          have h2 : i * n ≤ n * n := Nat.mul_le_mul_right n (by omega)
          have h3 := filt_len (fun j => decide (o i j = some (d j - c i))) n
          rw [List.length_map]
          omega
        · refine ⟨p, _, rfl, (s2.trans s3).free hp, s2.trans (s3.trans (same_upd hp)), ?_⟩
          rw [List.range_succ, List.flatMap_append]
          have e : [i].flatMap (rowS n o c d) = rowS n o c d i := by rw [List.flatMap_cons, List.flatMap_nil, List.append_nil]
          rw [e]
          exact lt_app (L2'.mono s3) (s3 _ _ y4) L3 w4 hp
    · obtain ⟨F, x4, rfl, fF, s2, L2'⟩ := p
      rw [show ((n : Int)).toNat = n by omega, ← spots_flat] at L2'
      obtain ⟨xs, h1, h2⟩ := L2'
      refine ⟨_, rfl, F, xs, rfl, SqL.of h1, fun x hx => ?_⟩
      have k3 : Same H2 (upd H2 x (.tup xs)) := same_upd hx
      exact q _ x (s2.trans k3) (s2.free hx) ⟨xs, upd_same, Paired.mapP h2 fun _ _ y => y.tk (same_tk k3)⟩
/-! ### _law_lies_on -/
abbrev N_law_lies_on : List Str := ["_law_some", "_law_spots", "_law_i"]
abbrev P_law_lies_on : List Str := ["_law_some", "_law_spots"]
theorem sc_law_lies_on : FnScope N_law_lies_on P_law_lies_on (defScope s_law_lies_on) := ⟨rfl, rfl, rfl, by decide +kernel, rfl, by decide +kernel, by decide +kernel⟩
def sp_law_lies_on (K : PySem.W.Frag) : Sp := fun vs H Q _ => ∃ (b r : Addr) (n : Nat) (l : List Nat) (sp : List (Nat × Nat)), vs = [.ref b, .ref r] ∧ n ≤ 1000 ∧ l.length = n ∧ H b = some (.tup (iL l)) ∧ TT en2 H r sp ∧ ∀ H', Same H H' → Q (.bl (decide (∀ i, i < n → (i, l.getD i 0) ∈ sp))) H'
theorem ok_law_lies_on (T : Txt K mg) : FnOk P w K mg base CX0 1 T.f_law_lies_on.f T.f_law_lies_on.fd P_law_lies_on (sp_law_lies_on K) := by
  refine T.f_law_lies_on.F.ok sc_law_lies_on (fun vs H Q E h => ?_) (fun cdv A outer s H vs Q E hr h => ?_)
  · obtain ⟨b, r, n, l, sp, rfl, _⟩ := h
    rfl
  · obtain ⟨b, r, n, l, sp, rfl, hn, hl, hb, hT, q⟩ := h
    refine ⟨_, (pss_one (ps_ret (pe_cmpR (eqDK K hr.units) (pe_lc (own := [("_law_i", 2)]) rfl sc_law_lies_on.nd (pi_range1 (by rfl) T.z_range (pa_cons (pe_callB (lenK K) (by rfl) T.z_len bz_len (pa_cons (pv 0) pa_nil)) pa_nil)) (blkOk_by (own := [("_law_i", 2)]) (N := N_law_lies_on) (sc := defScope s_law_lies_on) (by decide +kernel)) (fun _ _ _ _ _ => (pg_name (i := 2) sc_law_lies_on.nd rfl (Or.inl rfl))) (fun _ _ _ _ _ => pts_one (pt_cmpR (notInTK K (hu65 hr)) (pe_tup (pa_cons (pv 2) (pa_cons (pe_ix (ixK K) (pv 0) (pv 2) (fun _ _ => rfl)) pa_nil))) (pv 1) (by rfl))) (fun _ _ _ _ _ => (pv 2))) (pe_lst pa_nil) (nomark _)))), ?_⟩
    refine ⟨_, rfl, true, b, _, rfl, SqB.tup hb, (n : Int), by rw [iL_len, hl], by omega, by omega, fun D hD => ?_⟩
    refine lc_range (lo := 0) (n := ((n : Int)).toNat) (fun i H' => Same H H' ∧ H' D = some (.lst (iL ((List.range i).filter fun i => decide ((i, l.getD i 0) ∉ sp))))) ⟨same_upd hD, upd_same⟩ (fun i H1 hi p => ?_) (fun H1 p => ?_)
    · have hi' : i < l.length := by omega
      obtain ⟨s1, h1⟩ := p
      rw [show (0 : Int) + (i : Int) = (i : Int) by omega, filt_succ]
      have hj : l[i]? = some (l.getD i 0) := by
        rw [List.getD_eq_getElem?_getD, List.getElem?_eq_getElem hi']
        rfl
      refine ⟨rfl, _, rfl, _, rfl, _, rfl, true, b, _, i, .int (l.getD i 0 : Nat), rfl, rfl, SqB.tup (s1 _ _ hb), iL_at hj, by show 2 ≤ sizeLine; decide, fun p2 hp2 => ?_⟩
      have k2 : Same H1 (upd H1 p2 (.tup [.int (i : Int), .int (l.getD i 0 : Nat)])) := same_upd hp2
      have e2 : upd H1 p2 (.tup [.int (i : Int), .int (l.getD i 0 : Nat)]) p2 = some (.tup [.int (i : Int), .int (l.getD i 0 : Nat)]) := upd_same
      generalize upd H1 p2 (.tup [.int (i : Int), .int (l.getD i 0 : Nat)]) = H2 at k2 e2
      have s2 := s1.trans k2
      refine ⟨_, rfl, d2 (i, l.getD i 0), sp.map d2, dp_is2 ⟨p2, rfl, e2⟩, dp_tt (fun _ _ => dp_is2) (hT.tk (same_tk s2)), (lay_d2 _).shaped (by decide), (lay_map_t lay_d2 sp).shaped (by decide), ?_⟩
      rw [any_d2]
      refine ⟨_, rfl, ?_⟩
      by_cases hm : (i, l.getD i 0) ∈ sp
      · rw [decide_eq_true hm, if_neg (by rw [decide_eq_true_eq]; exact fun z => z hm), List.append_nil]
        exact ⟨s2, k2 _ _ h1⟩
      · rw [decide_eq_false hm, if_pos (by rw [decide_eq_true_eq]; exact hm)]
        refine ⟨_, rfl, _, k2 _ _ h1, sz64' ?_, same_mut s2 hD, ?_⟩
        · rw [iL_len]
          have := filt_len (fun i => decide ((i, l.getD i 0) ∉ sp)) i
          omega
        · rw [upd_same, iL_snoc]
    · obtain ⟨s1, h1⟩ := p
      rw [show ((n : Int)).toNat = n by omega] at h1
      refine ⟨by show 0 ≤ sizeLine; decide, fun p0 hp0 => ?_⟩
      have k2 : Same H1 (upd H1 p0 (.lst [])) := same_upd hp0
      have h2 := k2 _ _ h1
      rw [iL_int] at h2
      refine ⟨_, .list [], dp_ints h2, .lst (SqL.of upd_same) .nil, lay_ints _, lay_nil, ?_⟩
      rw [eqv_ints_nil]
      have e : (((List.range n).filter fun i => decide ((i, l.getD i 0) ∉ sp)).map fun (j : Nat) => (j : Int)).isEmpty = decide (∀ i, i < n → (i, l.getD i 0) ∈ sp) := by
        rw [Bool.eq_iff_iff, decide_eq_true_eq, List.isEmpty_iff, List.map_eq_nil_iff, List.filter_eq_nil_iff]
        constructor
        · intro h i hi
          have z := h i (List.mem_range.mpr hi)
          rw [decide_eq_true_eq] at z
          exact Classical.not_not.mp z
        · intro h i hi
          rw [decide_eq_true_eq]
          exact fun z => z (h i (List.mem_range.mp hi))
      rw [e]
      exact q _ (s1.trans k2)
end
end Hid
/-! The law's offsets. -/
namespace Hid
open PySem PySem.Spec PyProof.Rows L2
theorem it_pos {n : Nat} {o : Pat} {l : List Nat} {c : Nat → Int} (h : Ch n o l) (hc : Pos0 n c) : ∀ m, Pos0 n (it n o l c m)
  | 0 => hc
  | m + 1 => fun i hi => by
    have z := le_nxt (c := it n o l c m) h hi
    have y := it_pos h hc m i hi
    show 0 ≤ nxt n o l (it n o l c m) i
    omega
theorem top_pos {n : Nat} {o : Pat} {l : List Nat} {c : Nat → Int} (h : Ch n o l) (hc : Pos0 n c) (hnn : NonNeg n o) : Pos0 n (topF n o c) := fun j hj => by
  obtain ⟨i, hi, w0, ew, et⟩ := top_at (c := c) h hj
  have y1 := hnn i hi j hj w0 ew
  have y2 := hc i hi
  omega
def topR (i : Nat) (o : Pat) (c : Nat → Int) (j : Nat) : List Int := (List.range i).filterMap fun i => (o i j).map fun w => w + c i
theorem topR_len (i : Nat) (o : Pat) (c : Nat → Int) (j : Nat) : (topR i o c j).length ≤ i := fm_len _ i
theorem topR_succ (i : Nat) (o : Pat) (c : Nat → Int) (j : Nat) : topR (i + 1) o c j = topR i o c j ++ ((o i j).map fun w => w + c i).toList := fm_succ _ i
theorem add_last (i : Nat) (f : Nat → Int) (x : Int) : (vec i fun k => V.int (f k)) ++ [V.int x] = vec (i + 1) fun k => V.int ((if k = i then x else f k)) := by
  rw [vec_succ, if_pos rfl]
  congr 1
  exact vec_congr fun k hk => by rw [if_neg (by omega)]
section
variable {P : Program} {w : World} {K : PySem.W.Frag} {mg : Str → Option Value} {base : Heap}
/-! ### _law_start -/
abbrev N_law_start : List Str := ["_law_well_here", "_law_n", "_law_found", "_law_i"]
abbrev P_law_start : List Str := ["_law_well_here", "_law_n"]
theorem sc_law_start : FnScope N_law_start P_law_start (defScope s_law_start) := ⟨rfl, rfl, rfl, by decide +kernel, rfl, by decide +kernel, by decide +kernel⟩
def sp_law_start (K : PySem.W.Frag) : Sp := fun vs H Q _ => ∃ (W : Addr) (n : Nat), vs = [.ref W, .int (n : Int)] ∧ WA H W ∧ n ≤ 1000 ∧ ∀ (H' : Hp) (r : Addr) (c : Nat → Int), SB [W] H H' → WA H' W → H r = none → H' r = some (.lst (vec n fun i => .int (c i))) → Pos0 n c → Q (.ref r) H'
theorem ok_law_start (T : Txt K mg) : FnOk P w K mg base CX0 3 T.f_law_start.f T.f_law_start.fd P_law_start (sp_law_start K) := by
  refine T.f_law_start.F.ok sc_law_start (fun vs H Q E h => ?_) (fun cdv A outer s H vs Q E hr h => ?_)
  · obtain ⟨W, n, rfl, _⟩ := h
    rfl
  · obtain ⟨W, n, rfl, hW, hn, q⟩ := h
    refine ⟨_, (pss_cons (ps_set (i := 2) sc_law_start.nd rfl (Or.inl rfl) (pe_lst pa_nil))
      (pss_cons (ps_for PassesOwn.never rfl (pi_range1 (by rfl) T.z_range (pa_cons (pv 1) pa_nil)) (pg_name (i := 3) sc_law_start.nd rfl (Or.inl rfl)) (pss_one (ps_expr (pe_bm PySem.F.plainAttrs_list PySem.F.slot_list_append PySem.F.type_list_append mt_append (pv 2) (pa_cons (pe_call (ok_law_pick T) (hr.mono (by decide)) (by rfl) T.f_law_pick.g T.f_law_pick.F.kp T.f_law_pick.b .nil pass0 (pa_cons (pv 0) (pa_cons (pe_tup (pa_cons pe_int (pa_cons pe_int (pa_cons pe_int (pa_cons pe_int (pa_cons pe_int (pa_cons pe_int pa_nil))))))) pa_nil))) pa_nil)))))
      (pss_one (ps_ret (pv 2))))), ?_⟩
    refine ⟨by show 0 ≤ sizeLine; decide, fun F hF => ?_⟩
    have k1 : Same H (upd H F (.lst [])) := same_upd hF
    have e1 : upd H F (.lst []) F = some (.lst []) := upd_same
    have nF : F ≠ W := fun z => hW.ne hF z.symm
    generalize upd H F (.lst []) = H1 at k1 e1
    refine ⟨_, rfl, (n : Int), rfl, by omega, by omega, ?_⟩
    refine for_range (lo := 0) (n := ((n : Int)).toNat) (fun i σ H' => ∃ (x3 : Option V) (c : Nat → Int), σ = [some (.ref W), some (.int (n : Int)), some (.ref F), x3] ∧ SB [W] H H' ∧ WA H' W ∧ H' F = some (.lst (vec i fun i => .int (c i))) ∧ Pos0 i c)
      ⟨none, fun _ => 0, rfl, same_sb k1 _, hW.mono k1, e1, fun i hi => absurd hi (Nat.not_lt_zero _)⟩ (fun i σ H2 hi p => ?_) (fun σ H2 p => ?_)
    · obtain ⟨x3, c, rfl, sb, wa, hF2, hpos⟩ := p
      refine ⟨_, rfl, .inl ⟨rfl, _, SqL.of hF2⟩, _, rfl, by show 6 ≤ sizeLine; decide, fun p0 hp0 => ?_⟩
      have k3 : Same H2 (upd H2 p0 (.tup [.int 0, .int 0, .int 0, .int 1, .int 2, .int 4])) := same_upd hp0
      have e3 : upd H2 p0 (.tup [.int 0, .int 0, .int 0, .int 1, .int 2, .int 4]) p0 = some (.tup [.int 0, .int 0, .int 0, .int 1, .int 2, .int 4]) := upd_same
      have np : p0 ≠ W := fun z => wa.ne hp0 z.symm
      generalize upd H2 p0 (.tup [.int 0, .int 0, .int 0, .int 1, .int 2, .int 4]) = H3 at k3 e3
      refine ⟨W, p0, true, _, rfl, wa.mono k3, SqB.tup e3, np, by decide, by decide, fun H4 v sb4 wa4 hv => ?_⟩
      obtain ⟨x, hx, rfl⟩ := List.mem_map.mp (show v ∈ [0, 0, 0, 1, 2, 4].map V.int from hv)
      have hx0 : 0 ≤ x := by
        simp at hx
        omega
      have hF4 := sb4 _ _ (k3 _ _ hF2) (by simpa using nF)
      refine ⟨F, _, _, rfl, rfl, hF4, sz64' (by rw [vec_len]; omega), ?_⟩
      rw [add_last]
      refine ⟨_, fun k => if k = i then x else c k, rfl, (sb.trans ((same_sb k3 _).trans sb4)).new hF, ?_, upd_same, fun k hk => ?_⟩
      · obtain ⟨a, b, d, z⟩ := wa4
        exact ⟨a, b, d, by rw [upd_ne nF.symm]; exact z⟩
      · show 0 ≤ if k = i then x else c k
        by_cases z : k = i
        · rw [if_pos z]
          exact hx0
        · rw [if_neg z]
          exact hpos k (by omega)
    · obtain ⟨x3, c, rfl, sb, wa, hF2, hpos⟩ := p
      rw [show ((n : Int)).toNat = n by omega] at hF2 hpos
      exact ⟨_, rfl, q _ F c sb wa hF hF2 hpos⟩
/-! ### _law_any_offsets -/
abbrev N_law_any_offsets : List Str := ["_law_well_here", "_law_rows", "_law_c", "_law_d", "_law_i", "_law_j", "_law_least"]
abbrev P_law_any_offsets : List Str := ["_law_well_here", "_law_rows"]
theorem sc_law_any_offsets : FnScope N_law_any_offsets P_law_any_offsets (defScope s_law_any_offsets) := ⟨rfl, rfl, rfl, by decide +kernel, rfl, by decide +kernel, by decide +kernel⟩
def sp_law_any_offsets (K : PySem.W.Frag) : Sp := fun vs H Q _ => ∃ (W : Addr) (v : V) (n : Nat) (o : Pat), vs = [.ref W, v] ∧ WA H W ∧ PatT H v n o ∧ n ≤ 60 ∧
  ∀ (H' : Hp) (u : V) (c d : Nat → Int), SB [W] H H' → WA H' W → OffT H' u n c d → Pos0 n c → Pos0 n d → Feas n o c d → Q u H'
theorem ok_law_any_offsets (T : Txt K mg) : FnOk P w K mg base CX0 3 T.f_law_any_offsets.f T.f_law_any_offsets.fd P_law_any_offsets (sp_law_any_offsets K) := by
  refine T.f_law_any_offsets.F.ok sc_law_any_offsets (fun vs H Q E h => ?_) (fun cdv A outer s H vs Q E hr h => ?_)
  · obtain ⟨W, v, n, o, rfl, _⟩ := h
    rfl
  · obtain ⟨W, v, n, o, rfl, hW, hP, hn, q⟩ := h
    refine ⟨_, (pss_cons (ps_asg (pe_tup (pa_cons (pe_lst pa_nil) (pa_cons (pe_lst pa_nil) pa_nil))) (tupK K (n := 2) rfl (pgs_cons (pg_name (i := 2) sc_law_any_offsets.nd rfl (Or.inr rfl)) (pgs_cons (pg_name (i := 3) sc_law_any_offsets.nd rfl (Or.inl rfl)) pgs_nil))))
      (pss_cons (ps_for PassesOwn.never rfl (pi_range1 (by rfl) T.z_range (pa_cons (pe_callB (lenK K) (by rfl) T.z_len bz_len (pa_cons (pv 1) pa_nil)) pa_nil)) (pg_name (i := 4) sc_law_any_offsets.nd rfl (Or.inl rfl)) (pss_one (ps_expr (pe_bm PySem.F.plainAttrs_list PySem.F.slot_list_append PySem.F.type_list_append mt_append (pv 2) (pa_cons (pe_call (ok_law_draw T) (hr.mono (by decide)) (by rfl) T.f_law_draw.g T.f_law_draw.F.kp T.f_law_draw.b .nil pass0 (pa_cons (pv 0) (pa_cons pe_int pa_nil))) pa_nil)))))
      (pss_cons (ps_for PassesOwn.never rfl (pi_range1 (by rfl) T.z_range (pa_cons (pe_callB (lenK K) (by rfl) T.z_len bz_len (pa_cons (pv 1) pa_nil)) pa_nil)) (pg_name (i := 5) sc_law_any_offsets.nd rfl (Or.inr rfl)) (pss_cons (ps_set (i := 6) sc_law_any_offsets.nd rfl (Or.inl rfl) (pe_callB (maxK K) (by rfl) T.z_max bz_max (pa_cons (pe_op op_cat (pe_lst (pa_cons pe_int pa_nil)) (pe_lc (own := [("_law_i", 4)]) rfl sc_law_any_offsets.nd (pi_range1 (by rfl) T.z_range (pa_cons (pe_callB (lenK K) (by rfl) T.z_len bz_len (pa_cons (pv 1) pa_nil)) pa_nil)) (blkOk_by (own := [("_law_i", 4)]) (N := N_law_any_offsets) (sc := defScope s_law_any_offsets) (by decide +kernel)) (fun _ _ _ _ _ => (pg_name (i := 4) sc_law_any_offsets.nd rfl (Or.inl rfl))) (fun _ _ _ _ _ => pts_one (pt_cmpR op_notN (pe_ix (ixK K) (pe_ix (ixK K) (pv 1) (pv 4) (fun _ _ => rfl)) (pv 5) (fun _ _ => rfl)) pe_non (nomark _))) (fun _ _ _ _ _ => (pe_op op_add (pe_ix (ixK K) (pv 2) (pv 4) (fun _ _ => rfl)) (pe_ix (ixK K) (pe_ix (ixK K) (pv 1) (pv 4) (fun _ _ => rfl)) (pv 5) (fun _ _ => rfl)))))) pa_nil)))
      (pss_one (ps_expr (pe_bm PySem.F.plainAttrs_list PySem.F.slot_list_append PySem.F.type_list_append mt_append (pv 3) (pa_cons (pe_op op_add (pv 6) (pe_call (ok_law_pick T) (hr.mono (by decide)) (by rfl) T.f_law_pick.g T.f_law_pick.F.kp T.f_law_pick.b .nil pass0 (pa_cons (pv 0) (pa_cons (pe_tup (pa_cons pe_int (pa_cons pe_int (pa_cons pe_int (pa_cons pe_int (pa_cons pe_int pa_nil)))))) pa_nil)))) pa_nil))))))
      (pss_one (ps_ret (pe_tup (pa_cons (pe_callTy (tupleK K) (by rfl) T.z_tuple bz_tuple (pa_cons (pv 2) pa_nil)) (pa_cons (pe_callTy (tupleK K) (by rfl) T.z_tuple bz_tuple (pa_cons (pv 3) pa_nil)) pa_nil)))))))), ?_⟩
    refine ⟨by show 0 ≤ sizeLine; decide, fun C hC => ?_⟩
    have k1 : Same H (upd H C (.lst [])) := same_upd hC
    have e1 : upd H C (.lst []) C = some (.lst []) := upd_same
    have nC : C ≠ W := fun z => hW.ne hC z.symm
    generalize upd H C (.lst []) = H1 at k1 e1
    refine ⟨by show 0 ≤ sizeLine; decide, fun D hD => ?_⟩
    have k2 : Same H1 (upd H1 D (.lst [])) := same_upd hD
    have e2 : upd H1 D (.lst []) D = some (.lst []) := upd_same
    have fD : H D = none := k1.free hD
    have nD : D ≠ W := fun z => hW.ne fD z.symm
    have nCD : C ≠ D := ne_of_none e1 hD
    generalize upd H1 D (.lst []) = H2 at k2 e2
    refine ⟨by show 2 ≤ sizeLine; decide, fun p hp => ?_⟩
    have k3 : Same H2 (upd H2 p (.tup [.ref C, .ref D])) := same_upd hp
    have e3 : upd H2 p (.tup [.ref C, .ref D]) p = some (.tup [.ref C, .ref D]) := upd_same
    generalize upd H2 p (.tup [.ref C, .ref D]) = H3 at k3 e3
    refine ⟨p, _, rfl, SqT.of e3, rfl, _, _, rfl, _, _, rfl, rfl, ?_⟩
    have s3 : Same H H3 := k1.trans (k2.trans k3)
    obtain ⟨a, bs, rfl, ha, hbs⟩ := hP
    have rowsAt : ∀ {H' : Hp}, SB [W] H H' → H' a = some (.tup (vec n fun i => .ref (bs i))) ∧ ∀ i, i < n → H' (bs i) = some (.tup (vec n fun j => eV (o i j))) := fun sb => ⟨hW.tk sb _ _ ha, fun i hi => hW.tk sb _ _ (hbs i hi)⟩
    refine ⟨_, rfl, true, a, _, rfl, SqB.tup (s3 _ _ ha), (n : Int), by rw [vec_len], by omega, by omega, ?_⟩
    refine for_range (lo := 0) (n := ((n : Int)).toNat) (fun i σ H' => ∃ (x4 : Option V) (c : Nat → Int), σ = [some (.ref W), some (.ref a), some (.ref C), some (.ref D), x4, none, none] ∧ SB [W] H H' ∧ WA H' W ∧ H' C = some (.lst (vec i fun i => .int (c i))) ∧ H' D = some (.lst []) ∧ Pos0 i c)
      ⟨none, fun _ => 0, rfl, same_sb s3 _, hW.mono s3, k3 _ _ (k2 _ _ e1), k3 _ _ e2, fun i hi => absurd hi (Nat.not_lt_zero _)⟩ (fun i σ H4 hi p => ?_) (fun σ H4 p => ?_)
    · obtain ⟨x4, c, rfl, sb, wa, hC4, hD4, hpos⟩ := p
      refine ⟨_, rfl, .inl ⟨rfl, _, SqL.of hC4⟩, _, rfl, W, 4, rfl, wa, by decide, by decide, fun H5 x sb5 wa5 hx => ?_⟩
      have hC5 := sb5 _ _ hC4 (by simpa using nC)
      have hD5 := sb5 _ _ hD4 (by simpa using nD)
      refine ⟨C, _, _, rfl, rfl, hC5, sz64' (by rw [vec_len]; omega), ?_⟩
      rw [add_last]
      refine ⟨_, fun k => if k = i then (x : Int) else c k, rfl, (sb.trans sb5).new hC, ?_, upd_same, by rw [upd_ne nCD.symm]; exact hD5, fun k hk => ?_⟩
      · obtain ⟨a, b, d, z⟩ := wa5
        exact ⟨a, b, d, by rw [upd_ne nC.symm]; exact z⟩
      · show 0 ≤ if k = i then (x : Int) else c k
        by_cases z : k = i
        · rw [if_pos z]
          omega
        · rw [if_neg z]
          exact hpos k (by omega)
    · obtain ⟨x4, c, rfl, sb, wa, hC4, hD4, hpos⟩ := p
      rw [show ((n : Int)).toNat = n by omega] at hC4 hpos
      refine ⟨_, rfl, true, a, _, rfl, SqB.tup (rowsAt sb).1, (n : Int), by rw [vec_len], by omega, by omega, ?_⟩
      refine for_range (lo := 0) (n := ((n : Int)).toNat) (fun j σ H' => ∃ (x5 x6 : Option V) (d : Nat → Int), σ = [some (.ref W), some (.ref a), some (.ref C), some (.ref D), x4, x5, x6] ∧ SB [W] H H' ∧ WA H' W ∧ H' C = some (.lst (vec n fun i => .int (c i))) ∧ H' D = some (.lst (vec j fun j => .int (d j))) ∧
        ∀ k, k < j → 0 ≤ d k ∧ ∀ i, i < n → ∀ w, o i k = some w → w ≤ d k - c i)
        ⟨none, none, fun _ => 0, rfl, sb, wa, hC4, hD4, fun k hk => absurd hk (Nat.not_lt_zero _)⟩ (fun j σ H5 hj p => ?_) (fun σ H5 p => ?_)
      · obtain ⟨x5, x6, d, rfl, sb, wa, hC5, hD5, hd⟩ := p
        have hj' : j < n := by omega
        rw [show (0 : Int) + (j : Int) = (j : Int) by omega]
        refine ⟨by show 1 ≤ sizeLine; decide, fun p0 hp0 => ?_⟩
        have k6 : Same H5 (upd H5 p0 (.lst [.int 0])) := same_upd hp0
        have e6 : upd H5 p0 (.lst [.int 0]) p0 = some (.lst [.int 0]) := upd_same
        generalize upd H5 p0 (.lst [.int 0]) = H6 at k6 e6
        have sb6 := sb.trans (same_sb k6 _)
        refine ⟨_, rfl, true, a, _, rfl, SqB.tup (rowsAt sb6).1, (n : Int), by rw [vec_len], by omega, by omega, fun E1 hE1 => ?_⟩
        refine lc_range (lo := 0) (n := ((n : Int)).toNat) (fun i H' => Same H6 H' ∧ H' E1 = some (.lst ((topR i o c j).map V.int))) ⟨same_upd hE1, upd_same⟩ (fun i H7 hi p => ?_) (fun H7 p => ?_)
        · have hi' : i < n := by omega
          obtain ⟨s7, h7⟩ := p
          have sb7 := sb6.trans (same_sb s7 _)
          obtain ⟨ha7, hb7⟩ := rowsAt sb7
          rw [show (0 : Int) + (i : Int) = (i : Int) by omega, topR_succ]
          refine ⟨rfl, _, rfl, _, rfl, true, a, _, i, .ref (bs i), rfl, rfl, SqB.tup ha7, vec_at hi', _, rfl, true, bs i, _, j, eV (o i j), rfl, rfl, SqB.tup (hb7 i hi'), vec_at hj', rfl, _, rfl, ?_⟩
          cases eo : o i j with
          | none =>
            show Same H6 H7 ∧ H7 E1 = some (.lst ((topR i o c j ++ []).map V.int))
            rw [List.append_nil]
            exact ⟨s7, h7⟩
          | some wd =>
            refine ⟨_, rfl, _, rfl, false, C, _, i, .int (c i), rfl, rfl, SqB.lst (s7 _ _ (k6 _ _ hC5)), vec_at hi', _, rfl, _, rfl, true, a, _, i, .ref (bs i), rfl, rfl, SqB.tup ha7, vec_at hi', _, rfl, true, bs i, _, j, .int wd, rfl, rfl, SqB.tup (hb7 i hi'), by rw [vec_at hj', eo]; rfl, _, _, rfl, rfl, _, h7, sz64' ?_, same_mut s7 hE1, ?_⟩
            · rw [List.length_map]
              have := topR_len i o c j
              omega
            · rw [upd_same, List.map_append]
              show some (HO.lst (_ ++ [V.int (c i + wd)])) = _
              rw [Int.add_comm]
              rfl
        · obtain ⟨s7, h7⟩ := p
          rw [show ((n : Int)).toNat = n by omega] at h7
          refine ⟨p0, E1, _, _, rfl, rfl, s7 _ _ e6, h7, sz64 ?_, fun p8 hp8 => ?_⟩
          · rw [List.length_map]
            have := topR_len n o c j
            show 1 + _ ≤ 10000
            omega
          have k8 : Same H7 (upd H7 p8 (.lst ([.int 0] ++ (topR n o c j).map V.int))) := same_upd hp8
          have e8 : upd H7 p8 (.lst ([.int 0] ++ (topR n o c j).map V.int)) p8 = some (.lst ((0 :: topR n o c j).map V.int)) := upd_same
          generalize upd H7 p8 (.lst ([.int 0] ++ (topR n o c j).map V.int)) = H8 at k8 e8
          refine ⟨p8, 0 :: topR n o c j, rfl, SqL.of e8, Nat.succ_pos _, fun m hm hle => ?_⟩
          have k58 : Same H5 H8 := k6.trans (s7.trans k8)
          refine ⟨_, rfl, .inl ⟨rfl, _, SqL.of (k58 _ _ hD5)⟩, _, rfl, _, rfl, by show 5 ≤ sizeLine; decide, fun p9 hp9 => ?_⟩
          have k9 : Same H8 (upd H8 p9 (.tup [.int 0, .int 0, .int 0, .int 1, .int 2])) := same_upd hp9
          have e9 : upd H8 p9 (.tup [.int 0, .int 0, .int 0, .int 1, .int 2]) p9 = some (.tup [.int 0, .int 0, .int 0, .int 1, .int 2]) := upd_same
          have np : p9 ≠ W := fun z => (wa.mono k58).ne hp9 z.symm
          generalize upd H8 p9 (.tup [.int 0, .int 0, .int 0, .int 1, .int 2]) = H9 at k9 e9
          have k59 := k58.trans k9
          refine ⟨W, p9, true, _, rfl, wa.mono k59, SqB.tup e9, np, by decide, by decide, fun H10 v10 sb10 wa10 hv => ?_⟩
          obtain ⟨x, hx, rfl⟩ := List.mem_map.mp (show v10 ∈ [0, 0, 0, 1, 2].map V.int from hv)
          have hx0 : 0 ≤ x := by
            simp at hx
            omega
          have hC10 := sb10 _ _ (k59 _ _ hC5) (by simpa using nC)
          have hD10 := sb10 _ _ (k59 _ _ hD5) (by simpa using nD)
          refine ⟨_, _, rfl, rfl, D, _, _, rfl, rfl, hD10, sz64' (by rw [vec_len]; omega), ?_⟩
          rw [add_last]
          refine ⟨_, _, fun k => if k = j then m + x else d k, rfl, (sb.trans ((same_sb k59 _).trans sb10)).new fD, ?_, by rw [upd_ne nCD]; exact hC10, upd_same, fun k hk => ?_⟩
          · obtain ⟨a, b, d, z⟩ := wa10
            exact ⟨a, b, d, by rw [upd_ne nD.symm]; exact z⟩
          · show 0 ≤ (if k = j then m + x else d k) ∧ ∀ i, i < n → ∀ w, o i k = some w → w ≤ (if k = j then m + x else d k) - c i
            by_cases z : k = j
            · rw [if_pos z]
              subst z
              have m0 := hle 0 List.mem_cons_self
              refine ⟨by omega, fun i hi w0 hw0 => ?_⟩
              have z2 := hle (w0 + c i) (List.mem_cons_of_mem _ (List.mem_filterMap.mpr ⟨i, List.mem_range.mpr hi, by rw [hw0]; rfl⟩))
              omega
            · rw [if_neg z]
              exact hd k (by omega)
      · obtain ⟨x5, x6, d, rfl, sb, wa, hC5, hD5, hd⟩ := p
        rw [show ((n : Int)).toNat = n by omega] at hD5 hd
        refine ⟨_, rfl, C, _, rfl, SqL.of hC5, fun ra hra => ?_⟩
        have k6 : Same H5 (upd H5 ra (.tup (vec n fun i => .int (c i)))) := same_upd hra
        have e6 : upd H5 ra (.tup (vec n fun i => .int (c i))) ra = some (.tup (vec n fun i => .int (c i))) := upd_same
        generalize upd H5 ra (.tup (vec n fun i => .int (c i))) = H6 at k6 e6
        refine ⟨_, rfl, D, _, rfl, SqL.of (k6 _ _ hD5), fun rb hrb => ?_⟩
        have k7 : Same H6 (upd H6 rb (.tup (vec n fun j => .int (d j)))) := same_upd hrb
        have e7 : upd H6 rb (.tup (vec n fun j => .int (d j))) rb = some (.tup (vec n fun j => .int (d j))) := upd_same
        generalize upd H6 rb (.tup (vec n fun j => .int (d j))) = H7 at k7 e7
        refine ⟨by show 2 ≤ sizeLine; decide, fun p8 hp8 => ?_⟩
        have k8 : Same H7 (upd H7 p8 (.tup [.ref ra, .ref rb])) := same_upd hp8
        have k58 := k6.trans (k7.trans k8)
        exact q _ (.ref p8) c d (sb.trans (same_sb k58 _)) (wa.mono k58) ⟨p8, ra, rb, rfl, upd_same, k8 _ _ (k7 _ _ e6), k8 _ _ e7⟩ hpos (fun j hj => (hd j hj).1) (fun i hi j hj w0 hw0 => (hd j hj).2 i hi w0 hw0)
end
end Hid
/-! The law's best offsets. -/
namespace Hid
open PySem PySem.Spec PyProof.Rows L2
section
variable {P : Program} {w : World} {K : PySem.W.Frag} {mg : Str → Option Value} {base : Heap}
/-! ### _law_best_from -/
abbrev N_law_best_from : List Str := ["_law_rows", "_law_some", "_law_start_here", "_law_n", "_law_c", "_law_turn", "_law_d", "_law_j", "_law_i"]
abbrev P_law_best_from : List Str := ["_law_rows", "_law_some", "_law_start_here"]
theorem sc_law_best_from : FnScope N_law_best_from P_law_best_from (defScope s_law_best_from) := ⟨rfl, rfl, rfl, by decide +kernel, rfl, by decide +kernel, by decide +kernel⟩
def sp_law_best_from (K : PySem.W.Frag) : Sp := fun vs H Q _ => ∃ (v : V) (b S : Addr) (n : Nat) (o : Pat) (l : List Nat) (c0 u0 v0 : Nat → Int), vs = [v, .ref b, .ref S] ∧ PatT H v n o ∧ n ≤ 60 ∧ H b = some (.tup (iL l)) ∧ Ch n o l ∧ H S = some (.lst (vec n fun i => .int (c0 i))) ∧ Pos0 n c0 ∧ NonNeg n o ∧
  Feas n o u0 v0 ∧ TightAll n o u0 v0 l ∧ ∀ (H' : Hp) (u : V) (c d : Nat → Int), Same H H' → OffT H' u n c d → Pos0 n c → Pos0 n d → Feas n o c d → Q u H'
theorem ok_law_best_from (T : Txt K mg) : FnOk P w K mg base CX0 1 T.f_law_best_from.f T.f_law_best_from.fd P_law_best_from (sp_law_best_from K) := by
  refine T.f_law_best_from.F.ok sc_law_best_from (fun vs H Q E h => ?_) (fun cdv A outer s H vs Q E hr h => ?_)
  · obtain ⟨v, b, S, n, o, l, c0, u0, v0, rfl, _⟩ := h
    rfl
  · obtain ⟨v, b, S, n, o, l, c0, u0, v0, rfl, ⟨a, bs, rfl, ha, hbs⟩, hn, hb, hl, hS, hpos, hnn, hf, ht, q⟩ := h
    refine ⟨_, (pss_cons (ps_asg (pe_tup (pa_cons (pe_callB (lenK K) (by rfl) T.z_len bz_len (pa_cons (pv 0) pa_nil)) (pa_cons (pe_callTy (listK K) (by rfl) T.z_list bz_list (pa_cons (pv 2) pa_nil)) pa_nil))) (tupK K (n := 2) rfl (pgs_cons (pg_name (i := 3) sc_law_best_from.nd rfl (Or.inl rfl)) (pgs_cons (pg_name (i := 4) sc_law_best_from.nd rfl (Or.inr rfl)) pgs_nil))))
      (pss_cons (ps_for PassesOwn.never rfl (pi_range1 (by rfl) T.z_range (pa_cons (pe_op op_add (pv 3) pe_int) pa_nil)) (pg_name (i := 5) sc_law_best_from.nd rfl (Or.inl rfl)) (pss_cons (ps_set (i := 6) sc_law_best_from.nd rfl (Or.inr rfl) (pe_lst pa_nil))
      (pss_cons (ps_for PassesOwn.never rfl (pi_range1 (by rfl) T.z_range (pa_cons (pv 3) pa_nil)) (pg_name (i := 7) sc_law_best_from.nd rfl (Or.inr rfl)) (pss_one (ps_expr (pe_bm PySem.F.plainAttrs_list PySem.F.slot_list_append PySem.F.type_list_append mt_append (pv 6) (pa_cons (pe_callB (maxK K) (by rfl) T.z_max bz_max (pa_cons (pe_lc (own := [("_law_i", 8)]) rfl sc_law_best_from.nd (pi_range1 (by rfl) T.z_range (pa_cons (pv 3) pa_nil)) (blkOk_by (own := [("_law_i", 8)]) (N := N_law_best_from) (sc := defScope s_law_best_from) (by decide +kernel)) (fun _ _ _ _ _ => (pg_name (i := 8) sc_law_best_from.nd rfl (Or.inl rfl))) (fun _ _ _ _ _ => pts_one (pt_cmpR op_notN (pe_ix (ixK K) (pe_ix (ixK K) (pv 0) (pv 8) (fun _ _ => rfl)) (pv 7) (fun _ _ => rfl)) pe_non (nomark _))) (fun _ _ _ _ _ => (pe_op op_add (pe_ix (ixK K) (pv 4) (pv 8) (fun _ _ => rfl)) (pe_ix (ixK K) (pe_ix (ixK K) (pv 0) (pv 8) (fun _ _ => rfl)) (pv 7) (fun _ _ => rfl))))) pa_nil)) pa_nil)))))
      (pss_one (ps_set (i := 4) sc_law_best_from.nd rfl (Or.inr rfl) (pe_lc (own := [("_law_i", 8)]) rfl sc_law_best_from.nd (pi_range1 (by rfl) T.z_range (pa_cons (pv 3) pa_nil)) (blkOk_by (own := [("_law_i", 8)]) (N := N_law_best_from) (sc := defScope s_law_best_from) (by decide +kernel)) (fun _ _ _ _ _ => (pg_name (i := 8) sc_law_best_from.nd rfl (Or.inl rfl))) (fun _ _ _ _ _ => pts_nil) (fun _ _ _ _ _ => (pe_op op_sub (pe_ix (ixK K) (pv 6) (pe_ix (ixK K) (pv 1) (pv 8) (fun _ _ => rfl)) (fun _ _ => rfl)) (pe_ix (ixK K) (pe_ix (ixK K) (pv 0) (pv 8) (fun _ _ => rfl)) (pe_ix (ixK K) (pv 1) (pv 8) (fun _ _ => rfl)) (fun _ _ => rfl))))))))))
      (pss_one (ps_ret (pe_tup (pa_cons (pe_callTy (tupleK K) (by rfl) T.z_tuple bz_tuple (pa_cons (pv 4) pa_nil)) (pa_cons (pe_callTy (tupleK K) (by rfl) T.z_tuple bz_tuple (pa_cons (pv 6) pa_nil)) pa_nil))))))), ?_⟩
    refine ⟨_, rfl, true, a, _, rfl, SqB.tup ha, ?_⟩
    rw [vec_len]
    refine ⟨_, rfl, false, S, _, rfl, SqB.lst hS, fun C hC => ?_⟩
    have k1 : Same H (upd H C (.lst (vec n fun i => .int (c0 i)))) := same_upd hC
    have e1 : upd H C (.lst (vec n fun i => .int (c0 i))) C = some (.lst (vec n fun i => .int (c0 i))) := upd_same
    generalize upd H C (.lst (vec n fun i => .int (c0 i))) = H1 at k1 e1
    refine ⟨by show 2 ≤ sizeLine; decide, fun p hp => ?_⟩
    have k2 : Same H1 (upd H1 p (.tup [.int (n : Int), .ref C])) := same_upd hp
    have e2 : upd H1 p (.tup [.int (n : Int), .ref C]) p = some (.tup [.int (n : Int), .ref C]) := upd_same
    generalize upd H1 p (.tup [.int (n : Int), .ref C]) = H2 at k2 e2
    refine ⟨p, _, rfl, SqT.of e2, rfl, _, _, rfl, _, _, rfl, rfl, ?_⟩
    have s2 : Same H H2 := k1.trans k2
    refine ⟨_, rfl, _, _, rfl, rfl, ((n + 2 : Nat) : Int), rfl, by omega, by omega, ?_⟩
    refine for_range (lo := 0) (n := (((n + 2 : Nat) : Int)).toNat) (fun m σ H' => ∃ (C : Addr) (x5 x6 x7 : Option V), σ = [some (.ref a), some (.ref b), some (.ref S), some (.int (n : Int)), some (.ref C), x5, x6, x7, none] ∧ Same H H' ∧ H' C = some (.lst (vec n fun i => .int (it n o l c0 m i))) ∧
      ∀ k, m = k + 1 → ∃ D : Addr, x6 = some (.ref D) ∧ H' D = some (.lst (vec n fun j => .int (topF n o (it n o l c0 k) j))))
      ⟨C, none, none, none, rfl, s2, k2 _ _ e1, fun k hk => absurd hk (by omega)⟩ (fun m σ H3 hm p => ?_) (fun σ H3 p => ?_)
    · obtain ⟨C, x5, x6, x7, rfl, s3, hC3, _⟩ := p
      refine ⟨by show 0 ≤ sizeLine; decide, fun D hD => ?_⟩
      have k4 : Same H3 (upd H3 D (.lst [])) := same_upd hD
      have e4 : upd H3 D (.lst []) D = some (.lst []) := upd_same
      have nCD : C ≠ D := ne_of_none hC3 hD
      have fD : H D = none := s3.free hD
      have hC4 := k4 _ _ hC3
      generalize upd H3 D (.lst []) = H4 at k4 e4 hC4
      generalize hc : it n o l c0 m = c at hC4
      have s4 := s3.trans k4
      refine ⟨_, rfl, (n : Int), rfl, by omega, by omega, ?_⟩
      refine for_range (lo := 0) (n := ((n : Int)).toNat) (fun j σ H' => ∃ (x5 x7 : Option V), σ = [some (.ref a), some (.ref b), some (.ref S), some (.int (n : Int)), some (.ref C), x5, some (.ref D), x7, none] ∧ Same H H' ∧ H' C = some (.lst (vec n fun i => .int (c i))) ∧ H' D = some (.lst (vec j fun j => .int (topF n o c j))))
        ⟨_, _, rfl, s4, hC4, e4⟩ (fun j σ H5 hj p => ?_) (fun σ H5 p => ?_)
      · obtain ⟨x5, x7, rfl, s5, hC5, hD5⟩ := p
        have hj' : j < n := by omega
        rw [show (0 : Int) + (j : Int) = (j : Int) by omega]
        refine ⟨_, rfl, .inl ⟨rfl, _, SqL.of hD5⟩, _, rfl, (n : Int), rfl, by omega, by omega, fun E1 hE1 => ?_⟩
        refine lc_range (lo := 0) (n := ((n : Int)).toNat) (fun i H' => Same H5 H' ∧ H' E1 = some (.lst ((topR i o c j).map V.int))) ⟨same_upd hE1, upd_same⟩ (fun i H7 hi p => ?_) (fun H7 p => ?_)
        · have hi' : i < n := by omega
          obtain ⟨s7, h7⟩ := p
          have sH7 := s5.trans s7
          rw [show (0 : Int) + (i : Int) = (i : Int) by omega, topR_succ]
          refine ⟨rfl, _, rfl, _, rfl, true, a, _, i, .ref (bs i), rfl, rfl, SqB.tup (sH7 _ _ ha), vec_at hi', _, rfl, true, bs i, _, j, eV (o i j), rfl, rfl, SqB.tup (sH7 _ _ (hbs i hi')), vec_at hj', rfl, _, rfl, ?_⟩
          cases eo : o i j with
          | none =>
            show Same H5 H7 ∧ H7 E1 = some (.lst ((topR i o c j ++ []).map V.int))
            rw [List.append_nil]
            exact ⟨s7, h7⟩
          | some wd =>
            refine ⟨_, rfl, _, rfl, false, C, _, i, .int (c i), rfl, rfl, SqB.lst (s7 _ _ hC5), vec_at hi', _, rfl, _, rfl, true, a, _, i, .ref (bs i), rfl, rfl, SqB.tup (sH7 _ _ ha), vec_at hi', _, rfl, true, bs i, _, j, .int wd, rfl, rfl, SqB.tup (sH7 _ _ (hbs i hi')), by rw [vec_at hj', eo]; rfl, _, _, rfl, rfl, _, h7, sz64' ?_, same_mut s7 hE1, ?_⟩
            · rw [List.length_map]
              have := topR_len i o c j
              omega
            · rw [upd_same, List.map_append]
              show some (HO.lst (_ ++ [V.int (c i + wd)])) = _
              rw [Int.add_comm]
              rfl
        · obtain ⟨s7, h7⟩ := p
          rw [show ((n : Int)).toNat = n by omega] at h7
          have hne : topR n o c j ≠ [] := topL_ne hl hj'
          refine ⟨E1, _, rfl, SqL.of h7, List.length_pos_iff.mpr hne, fun mx hm1 hm2 => ?_⟩
          have em : mx = topF n o c j := lmax_of hm1 hm2
          subst em
          refine ⟨D, _, _, rfl, rfl, s7 _ _ hD5, sz64' (by rw [vec_len]; omega), ?_⟩
          refine ⟨_, _, rfl, same_mut (s5.trans s7) fD, by rw [upd_ne nCD]; exact s7 _ _ hC5, ?_⟩
          rw [upd_same, vec_succ]
      · obtain ⟨x5, x7, rfl, s5, hC5, hD5⟩ := p
        rw [show ((n : Int)).toNat = n by omega] at hD5
        refine ⟨_, rfl, (n : Int), rfl, by omega, by omega, fun E1 hE1 => ?_⟩
        refine lc_range (lo := 0) (n := ((n : Int)).toNat) (fun i H' => Same H5 H' ∧ H' E1 = some (.lst (vec i fun i => .int (nxt n o l c i)))) ⟨same_upd hE1, upd_same⟩ (fun i H7 hi p => ?_) (fun H7 p => ?_)
        · have hi' : i < n := by omega
          obtain ⟨s7, h7⟩ := p
          have sH7 := s5.trans s7
          have hj := hl.get hi'
          rw [show (0 : Int) + (i : Int) = (i : Int) by omega]
          refine ⟨rfl, _, rfl, _, rfl, _, rfl, true, b, _, i, .int (l.getD i 0 : Nat), rfl, rfl, SqB.tup (sH7 _ _ hb), iL_at hj.2, false, D, _, l.getD i 0, .int (topF n o c (l.getD i 0)), rfl, rfl, SqB.lst (s7 _ _ hD5), vec_at hj.1, ?_⟩
          refine ⟨_, rfl, _, rfl, true, a, _, i, .ref (bs i), rfl, rfl, SqB.tup (sH7 _ _ ha), vec_at hi', _, rfl, _, rfl, true, b, _, i, .int (l.getD i 0 : Nat), rfl, rfl, SqB.tup (sH7 _ _ hb), iL_at hj.2, true, bs i, _, l.getD i 0, .int (val o i (l.getD i 0)), rfl, rfl, SqB.tup (sH7 _ _ (hbs i hi')), by rw [vec_at hj.1, ch_val hl hi']; rfl, ?_⟩
          refine ⟨_, _, rfl, rfl, _, h7, sz64' (by rw [vec_len]; omega), same_mut s7 hE1, ?_⟩
          rw [upd_same, vec_succ]
          rfl
        · obtain ⟨s7, h7⟩ := p
          rw [show ((n : Int)).toNat = n by omega] at h7
          refine ⟨E1, _, _, _, rfl, s5.trans s7, ?_, fun k hk => ⟨D, rfl, ?_⟩⟩
          · rw [h7, ← hc]
            rfl
          · have e : k = m := by omega
            rw [e, hc]
            exact s7 _ _ hD5
    · obtain ⟨C, x5, x6, x7, rfl, s3, hC3, hD⟩ := p
      rw [show (((n + 2 : Nat) : Int)).toNat = n + 2 by omega] at hC3 hD
      obtain ⟨D, rfl, hD3⟩ := hD (n + 1) rfl
      have hst : ∀ i, i < n → nxt n o l (it n o l c0 (n + 1)) i = it n o l c0 (n + 1) i := fun i hi => it_stable hl hf ht (by omega) hi
      have eC : (vec n fun i => V.int (it n o l c0 (n + 2) i)) = vec n fun i => V.int (it n o l c0 (n + 1) i) := vec_congr fun i hi => by
        rw [← hst i hi]
        rfl
      rw [eC] at hC3
      have hp1 := it_pos hl hpos (n + 1)
      generalize it n o l c0 (n + 1) = c at hC3 hD3 hst hp1
      refine ⟨_, rfl, C, _, rfl, SqL.of hC3, fun ra hra => ?_⟩
      have k6 : Same H3 (upd H3 ra (.tup (vec n fun i => .int (c i)))) := same_upd hra
      have e6 : upd H3 ra (.tup (vec n fun i => .int (c i))) ra = some (.tup (vec n fun i => .int (c i))) := upd_same
      generalize upd H3 ra (.tup (vec n fun i => .int (c i))) = H6 at k6 e6
      refine ⟨_, rfl, D, _, rfl, SqL.of (k6 _ _ hD3), fun rb hrb => ?_⟩
      have k7 : Same H6 (upd H6 rb (.tup (vec n fun j => .int (topF n o c j)))) := same_upd hrb
      have e7 : upd H6 rb (.tup (vec n fun j => .int (topF n o c j))) rb = some (.tup (vec n fun j => .int (topF n o c j))) := upd_same
      generalize upd H6 rb (.tup (vec n fun j => .int (topF n o c j))) = H7 at k7 e7
      refine ⟨by show 2 ≤ sizeLine; decide, fun p8 hp8 => ?_⟩
      have k8 : Same H7 (upd H7 p8 (.tup [.ref ra, .ref rb])) := same_upd hp8
      exact q _ (.ref p8) c (topF n o c) (s3.trans (k6.trans (k7.trans k8))) ⟨p8, ra, rb, rfl, upd_same, k8 _ _ (k7 _ _ e6), k8 _ _ e7⟩ hp1 (top_pos hl hp1 hnn) (nxt_feas hl hst)
end
end Hid
/-! The law's patterns: a grid of lists, drawn. -/
namespace Hid
open PySem PySem.Spec PyProof.Rows L2
/-- what comes after an if without an else needs no more than J -/
theorem if_join {b : Bool} {D : Ends} {tb te : TS} {σ : L2.St} {H : Hp} (J : L2.St → Hp → Prop) (h1 : b = true → (∀ σ' H', J σ' H' → D.nx σ' H') → tb D σ H) (h2 : b = false → (∀ σ' H', J σ' H' → D.nx σ' H') → te D σ H) (hrest : ∀ σ' H', J σ' H' → D.nx σ' H') : if b = true then tb D σ H else te D σ H := by
  cases b with
  | true => exact h1 rfl hrest
  | false => exact h2 rfl hrest
/-- an entry this way or that -/
theorem any_ev {W : Addr} {b : Bool} {te : TE} {σ : L2.St} {H : Hp} {Qk : VK} (wa : WA H W) (hX : (∀ (x : Nat) (H' : Hp), SB [W] H H' → WA H' W → Qk (.int (x : Int)) H') → te σ H Qk) (h : ∀ (w : Option Int) (H' : Hp), (∀ i, w = some i → 0 ≤ i) → SB [W] H H' → WA H' W → Qk (eV w) H') : if b = true then te σ H Qk else tC .non σ H Qk := by
  cases b with
  | true => exact hX fun x H' s wa' => h (some (x : Int)) H' (fun i e => by cases e; omega) s wa'
  | false => exact h none H (fun i e => by cases e) (SB.refl _ _) wa
/-! ### a list of lists -/
structure Grid (H : Hp) (R : Addr) (bs : Nat → Addr) (m n : Nat) (o : Pat) : Prop where
  top : H R = some (.lst (vec m fun i => .ref (bs i)))
  row : ∀ i, i < m → H (bs i) = some (.lst (vec n fun j => eV (o i j)))
  neR : ∀ i, i < m → bs i ≠ R
  inj : ∀ i k, i < m → k < m → bs i = bs k → i = k
theorem Grid.sb {l : List Addr} {H H' : Hp} {R : Addr} {bs : Nat → Addr} {m n : Nat} {o : Pat} (g : Grid H R bs m n o) (s : SB l H H') (hR : R ∉ l) (hb : ∀ i, i < m → bs i ∉ l) : Grid H' R bs m n o :=
  ⟨s _ _ g.top hR, fun i hi => s _ _ (g.row i hi) (hb i hi), g.neR, g.inj⟩
theorem Grid.mono {H H' : Hp} {R : Addr} {bs : Nat → Addr} {m n : Nat} {o : Pat} (g : Grid H R bs m n o) (s : Same H H') : Grid H' R bs m n o :=
  ⟨s _ _ g.top, fun i hi => s _ _ (g.row i hi), g.neR, g.inj⟩
theorem Grid.new {H : Hp} {R : Addr} {bs : Nat → Addr} {n : Nat} {o : Pat} (h : H R = some (.lst [])) : Grid H R bs 0 n o :=
  ⟨h, fun i hi => absurd hi (Nat.not_lt_zero _), fun i hi => absurd hi (Nat.not_lt_zero _), fun i k hi _ _ => absurd hi (Nat.not_lt_zero _)⟩
def rowP (o : Pat) (m : Nat) (r : Nat → Option Int) : Pat := fun a j => if a = m then r j else o a j
theorem Grid.add {H : Hp} {R L : Addr} {bs : Nat → Addr} {m n : Nat} {o : Pat} {r : Nat → Option Int} (g : Grid H R bs m n o) (hL : H L = some (.lst (vec n fun j => eV (r j)))) (nR : L ≠ R) (nb : ∀ i, i < m → bs i ≠ L) :
    Grid (upd H R (.lst ((vec m fun i => V.ref (bs i)) ++ [.ref L]))) R (ex1 bs m L) (m + 1) n (rowP o m r) := by
  refine ⟨by rw [upd_same, vec_ex1], fun i hi => ?_, fun i hi => ?_, fun i k hi hk e => ?_⟩
  · by_cases z : i = m
    · rw [z, ex1_at, upd_ne nR, hL]
      congr 2
      refine vec_congr fun j _ => ?_
      unfold rowP
      rw [if_pos rfl]
    · rw [ex1_ne z, upd_ne (g.neR i (by omega)), g.row i (by omega)]
      congr 2
      refine vec_congr fun j _ => ?_
      unfold rowP
      rw [if_neg z]
  · by_cases z : i = m
    · rw [z, ex1_at]
      exact nR
    · rw [ex1_ne z]
      exact g.neR i (by omega)
  · by_cases z : i = m
    · by_cases y : k = m
      · rw [z, y]
      · rw [z, ex1_at, ex1_ne y] at e
        exact absurd e.symm (nb k (by omega))
    · by_cases y : k = m
      · rw [y, ex1_at, ex1_ne z] at e
        exact absurd e (nb i (by omega))
      · rw [ex1_ne z, ex1_ne y] at e
        exact g.inj i k (by omega) (by omega) e
def setP (o : Pat) (i j : Nat) (v : Int) : Pat := fun a b => if a = i ∧ b = j then some v else o a b
theorem Grid.put {H : Hp} {R : Addr} {bs : Nat → Addr} {m n : Nat} {o : Pat} (g : Grid H R bs m n o) {i j : Nat} {v : Int} (hi : i < m) :
    Grid (upd H (bs i) (.lst ((vec n fun k => eV (o i k)).set j (.int v)))) R bs m n (setP o i j v) := by
  refine ⟨by rw [upd_ne (fun z => g.neR i hi z.symm)]; exact g.top, fun k hk => ?_, g.neR, g.inj⟩
  by_cases z : k = i
  · rw [z, upd_same, vec_set]
    congr 2
    refine vec_congr fun b _ => ?_
    unfold setP
    by_cases y : b = j
    · rw [if_pos y, if_pos ⟨rfl, y⟩]
      rfl
    · rw [if_neg y, if_neg (fun x => y x.2)]
  · rw [upd_ne (fun y => z (g.inj k i hk hi y)), g.row k hk]
    congr 2
    refine vec_congr fun b _ => ?_
    unfold setP
    rw [if_neg (fun x => z x.1)]
theorem setP_nn {n : Nat} {o : Pat} {i j : Nat} {v : Int} (h : NonNeg n o) (hv : 0 ≤ v) : NonNeg n (setP o i j v) := fun a ha b hb w0 e => by
  unfold setP at e
  by_cases z : a = i ∧ b = j
  · rw [if_pos z] at e
    cases e
    exact hv
  · rw [if_neg z] at e
    exact h a ha b hb w0 e
theorem add_lastE {j : Nat} {r : Nat → Option Int} {w0 : Option Int} : (vec j fun k => eV (r k)) ++ [eV w0] = vec (j + 1) fun k => eV (if k = j then w0 else r k) := by
  rw [vec_succ, if_pos rfl]
  congr 1
  exact vec_congr fun k hk => by rw [if_neg (by omega)]
section
variable {P : Program} {w : World} {K : PySem.W.Frag} {mg : Str → Option Value} {base : Heap}
/-! ### _law_grid -/
abbrev N_law_grid : List Str := ["_law_well_here", "_law_most", "_law_n", "_law_style", "_law_high", "_law_rows", "_law_i", "_law_line", "_law_j", "_law_is_there", "_law_way", "_law_order"]
abbrev P_law_grid : List Str := ["_law_well_here", "_law_most"]
theorem sc_law_grid : FnScope N_law_grid P_law_grid (defScope s_law_grid) := ⟨rfl, rfl, rfl, by decide +kernel, rfl, by decide +kernel, by decide +kernel⟩
def sp_law_grid (K : PySem.W.Frag) : Sp := fun vs H Q _ => ∃ W : Addr, vs = [.ref W, .int 4] ∧ WA H W ∧ ∀ (H' : Hp) (v : V) (n : Nat) (o : Pat), SB [W] H H' → WA H' W → PatT H' v n o → 0 < n → n ≤ 4 → NonNeg n o → Q v H'
theorem ok_law_grid (T : Txt K mg) : FnOk P w K mg base CX0 3 T.f_law_grid.f T.f_law_grid.fd P_law_grid (sp_law_grid K) := by
  refine T.f_law_grid.F.ok sc_law_grid (fun vs H Q E h => ?_) (fun cdv A outer s H vs Q E hr h => ?_)
  · obtain ⟨W, rfl, _⟩ := h
    rfl
  · obtain ⟨W, rfl, hW, q⟩ := h
    refine ⟨_, (pss_cons (ps_par (i := 2) (j := 3) rfl sc_law_grid.nd rfl rfl (by decide) rfl rfl (pa_cons (pe_callB (call_min2 rfl) (by rfl) T.z_min bz_min (pa_cons (pv 1) (pa_cons (pe_call (ok_law_pick T) (hr.mono (by decide)) (by rfl) T.f_law_pick.g T.f_law_pick.F.kp T.f_law_pick.b .nil pass0 (pa_cons (pv 0) (pa_cons (pe_tup (pa_cons pe_int (pa_cons pe_int (pa_cons pe_int (pa_cons pe_int (pa_cons pe_int (pa_cons pe_int (pa_cons pe_int pa_nil)))))))) pa_nil))) pa_nil))) (pa_cons (pe_call (ok_law_draw T) (hr.mono (by decide)) (by rfl) T.f_law_draw.g T.f_law_draw.F.kp T.f_law_draw.b .nil pass0 (pa_cons (pv 0) (pa_cons pe_int pa_nil))) pa_nil)) (by rfl))
      (pss_cons (ps_par (i := 4) (j := 5) rfl sc_law_grid.nd rfl rfl (by decide) rfl rfl (pa_cons (pe_call (ok_law_pick T) (hr.mono (by decide)) (by rfl) T.f_law_pick.g T.f_law_pick.F.kp T.f_law_pick.b .nil pass0 (pa_cons (pv 0) (pa_cons (pe_tup (pa_cons pe_int (pa_cons pe_int (pa_cons pe_int (pa_cons pe_int (pa_cons pe_int (pa_cons pe_int pa_nil))))))) pa_nil))) (pa_cons (pe_lst pa_nil) pa_nil)) (by rfl))
      (pss_cons (ps_for PassesOwn.never rfl (pi_range1 (by rfl) T.z_range (pa_cons (pv 2) pa_nil)) (pg_name (i := 6) sc_law_grid.nd rfl (Or.inl rfl)) (pss_cons (ps_set (i := 7) sc_law_grid.nd rfl (Or.inl rfl) (pe_lst pa_nil))
      (pss_cons (ps_for PassesOwn.never rfl (pi_range1 (by rfl) T.z_range (pa_cons (pv 2) pa_nil)) (pg_name (i := 8) sc_law_grid.nd rfl (Or.inl rfl)) (pss_cons (ps_set (i := 9) sc_law_grid.nd rfl (Or.inl rfl) (pe_cmpR op_ge (pe_call (ok_law_draw T) (hr.mono (by decide)) (by rfl) T.f_law_draw.g T.f_law_draw.F.kp T.f_law_draw.b .nil pass0 (pa_cons (pv 0) (pa_cons pe_int pa_nil))) (pe_ix (ixK K) (pe_tup (pa_cons pe_int (pa_cons pe_int (pa_cons pe_int (pa_cons pe_int (pa_cons pe_int pa_nil)))))) (pv 3) (fun _ _ => rfl)) (nomark _)))
      (pss_one (ps_expr (pe_bm PySem.F.plainAttrs_list PySem.F.slot_list_append PySem.F.type_list_append mt_append (pv 7) (pa_cons (pe_ifExp (pt_val (pv 9)) (pe_call (ok_law_draw T) (hr.mono (by decide)) (by rfl) T.f_law_draw.g T.f_law_draw.F.kp T.f_law_draw.b .nil pass0 (pa_cons (pv 0) (pa_cons (pv 4) pa_nil))) pe_non) pa_nil))))))
      (pss_one (ps_expr (pe_bm PySem.F.plainAttrs_list PySem.F.slot_list_append PySem.F.type_list_append mt_append (pv 5) (pa_cons (pv 7) pa_nil)))))))
      (pss_cons (ps_set (i := 10) sc_law_grid.nd rfl (Or.inl rfl) (pe_call (ok_law_draw T) (hr.mono (by decide)) (by rfl) T.f_law_draw.g T.f_law_draw.F.kp T.f_law_draw.b .nil pass0 (pa_cons (pv 0) (pa_cons pe_int pa_nil))))
      (pss_cons (ps_if (pt_cmpR op_gt (pv 10) pe_int (nomark _)) (pss_cons (ps_set (i := 11) sc_law_grid.nd rfl (Or.inl rfl) (pe_call (ok_law_order_list T) (hr.mono (by decide)) (by rfl) T.f_law_order_list.g T.f_law_order_list.F.kp T.f_law_order_list.b .nil pass0 (pa_cons (pv 0) (pa_cons (pv 2) pa_nil))))
      (pss_one (ps_for PassesOwn.never rfl (pi_range1 (by rfl) T.z_range (pa_cons (pv 2) pa_nil)) (pg_name (i := 6) sc_law_grid.nd rfl (Or.inl rfl)) (pss_one (ps_if (pt_cmpR op_isN (pe_ix (ixK K) (pe_ix (ixK K) (pv 5) (pv 6) (fun _ _ => rfl)) (pe_ix (ixK K) (pv 11) (pv 6) (fun _ _ => rfl)) (fun _ _ => rfl)) pe_non (nomark _)) (pss_one (ps_asg (pe_call (ok_law_draw T) (hr.mono (by decide)) (by rfl) T.f_law_draw.g T.f_law_draw.F.kp T.f_law_draw.b .nil pass0 (pa_cons (pv 0) (pa_cons (pv 4) pa_nil))) (pg_sub (pe_ix (ixK K) (pv 5) (pv 6) (fun _ _ => rfl)) (pe_ix (ixK K) (pv 11) (pv 6) (fun _ _ => rfl)) set_list))) pss_nil))))) pss_nil)
      (pss_one (ps_ret (pe_callTy (tupleK K) (by rfl) T.z_tuple bz_tuple (pa_cons (pe_lc (own := [("_law_line", 7)]) rfl sc_law_grid.nd (seqK K (pv 5)) (blkOk_by (own := [("_law_line", 7)]) (N := N_law_grid) (sc := defScope s_law_grid) (by decide +kernel)) (fun _ _ _ _ _ => (pg_name (i := 7) sc_law_grid.nd rfl (Or.inl rfl))) (fun _ _ _ _ _ => pts_nil) (fun _ _ _ _ _ => (pe_callTy (tupleK K) (by rfl) T.z_tuple bz_tuple (pa_cons (pv 7) pa_nil)))) pa_nil))))))))), ?_⟩
    refine ⟨_, rfl, _, rfl, by show 7 ≤ sizeLine; decide, fun p0 hp0 => ?_⟩
    have k1 : Same H (upd H p0 (.tup [.int 1, .int 2, .int 2, .int 3, .int 3, .int 3, .int 4])) := same_upd hp0
    have e1 : upd H p0 (.tup [.int 1, .int 2, .int 2, .int 3, .int 3, .int 3, .int 4]) p0 = some (.tup [.int 1, .int 2, .int 2, .int 3, .int 3, .int 3, .int 4]) := upd_same
    have np0 : p0 ≠ W := fun z => hW.ne hp0 z.symm
    generalize upd H p0 (.tup [.int 1, .int 2, .int 2, .int 3, .int 3, .int 3, .int 4]) = H1 at k1 e1
    refine ⟨W, p0, true, _, rfl, hW.mono k1, SqB.tup e1, np0, by decide, by decide, fun H2 v2 sb2 wa2 hv2 => ?_⟩
    obtain ⟨x, hx, rfl⟩ := List.mem_map.mp (show v2 ∈ [1, 2, 2, 3, 3, 3, 4].map V.int from hv2)
    obtain ⟨n, en, hn0, hn4⟩ : ∃ n : Nat, (if x < 4 then x else 4) = (n : Int) ∧ 0 < n ∧ n ≤ 4 := by
      have hx0 : 1 ≤ x ∧ x ≤ 4 := by
        simp at hx
        omega
      refine ⟨x.toNat, ?_, by omega, by omega⟩
      by_cases z : x < 4
      · rw [if_pos z]
        omega
      · rw [if_neg z]
        omega
    refine ⟨4, x, rfl, ?_⟩
    rw [en]
    refine ⟨_, rfl, W, 5, rfl, wa2, by decide, by decide, fun H3 st sb3 wa3 hst => ?_⟩
    refine ⟨_, _, rfl, ?_⟩
    have sbA : SB [W] H H3 := ((same_sb k1 _).trans sb2).trans sb3
    refine ⟨_, rfl, by show 6 ≤ sizeLine; decide, fun p4 hp4 => ?_⟩
    have k4 : Same H3 (upd H3 p4 (.tup [.int 1, .int 2, .int 3, .int 3, .int 4, .int 10])) := same_upd hp4
    have e4 : upd H3 p4 (.tup [.int 1, .int 2, .int 3, .int 3, .int 4, .int 10]) p4 = some (.tup [.int 1, .int 2, .int 3, .int 3, .int 4, .int 10]) := upd_same
    have np4 : p4 ≠ W := fun z => wa3.ne hp4 z.symm
    generalize upd H3 p4 (.tup [.int 1, .int 2, .int 3, .int 3, .int 4, .int 10]) = H4 at k4 e4
    refine ⟨W, p4, true, _, rfl, wa3.mono k4, SqB.tup e4, np4, by decide, by decide, fun H5 v5 sb5 wa5 hv5 => ?_⟩
    obtain ⟨y, hy, rfl⟩ := List.mem_map.mp (show v5 ∈ [1, 2, 3, 3, 4, 10].map V.int from hv5)
    obtain ⟨hi0, rfl, hh0, hh1⟩ : ∃ k : Nat, y = (k : Int) ∧ 0 < k ∧ k ≤ 10 := by
      have hy0 : 1 ≤ y ∧ y ≤ 10 := by
        simp at hy
        omega
      exact ⟨y.toNat, by omega, by omega, by omega⟩
    refine ⟨by show 0 ≤ sizeLine; decide, fun R hR => ⟨_, _, rfl, ?_⟩⟩
    have k6 : Same H5 (upd H5 R (.lst [])) := same_upd hR
    have e6 : upd H5 R (.lst []) R = some (.lst []) := upd_same
    have nRW : R ≠ W := fun z => wa5.ne hR z.symm
    generalize upd H5 R (.lst []) = H6 at k6 e6
    have sbC : SB [W] H H5 := (sbA.trans (same_sb k4 _)).trans sb5
    refine ⟨_, rfl, (n : Int), rfl, by omega, by omega, ?_⟩
    refine for_range (lo := 0) (n := ((n : Int)).toNat) (fun i σ H' => ∃ (x6 x7 x8 x9 : Option V) (bs : Nat → Addr) (o : Pat), σ = [some (.ref W), some (.int 4), some (.int (n : Int)), some (.int (st : Int)), some (.int (hi0 : Int)), some (.ref R), x6, x7, x8, x9, none, none] ∧
      SB [W] H5 H' ∧ WA H' W ∧ Grid H' R bs i n o ∧ (∀ k, k < i → H5 (bs k) = none) ∧ ∀ k, k < i → ∀ j, j < n → ∀ w, o k j = some w → 0 ≤ w)
      ⟨none, none, none, none, fun _ => 0, fun _ _ => none, rfl, same_sb k6 _, wa5.mono k6, Grid.new e6, fun k hk => absurd hk (Nat.not_lt_zero _), fun k hk => absurd hk (Nat.not_lt_zero _)⟩ (fun i σ H7 hi p => ?_) (fun σ H7 p => ?_)
    · obtain ⟨x6, x7, x8, x9, bs, o, rfl, sb7, wa7, G, fb, hnn⟩ := p
      have hi' : i < n := by omega
      refine ⟨by show 0 ≤ sizeLine; decide, fun L hL => ?_⟩
      have k8 : Same H7 (upd H7 L (.lst [])) := same_upd hL
      have e8 : upd H7 L (.lst []) L = some (.lst []) := upd_same
      have nLW : L ≠ W := fun z => wa7.ne hL z.symm
      have nLR : L ≠ R := fun z => by
        rw [z, G.top] at hL
        cases hL
      have nLb : ∀ k, k < i → bs k ≠ L := fun k hk z => by
        rw [← z, G.row k hk] at hL
        cases hL
      generalize upd H7 L (.lst []) = H8 at k8 e8
      have bW : ∀ k, k < i → bs k ∉ [W] := fun k hk z => by
        have z' : bs k = W := by simpa using z
        have y := fb k hk
        rw [z'] at y
        exact wa5.ne y rfl
      refine ⟨_, rfl, (n : Int), rfl, by omega, by omega, ?_⟩
      refine for_range (lo := 0) (n := ((n : Int)).toNat) (fun j σ H' => ∃ (x6 x8 x9 : Option V) (r : Nat → Option Int), σ = [some (.ref W), some (.int 4), some (.int (n : Int)), some (.int (st : Int)), some (.int (hi0 : Int)), some (.ref R), x6, some (.ref L), x8, x9, none, none] ∧
        SB [W] H7 H' ∧ WA H' W ∧ H' L = some (.lst (vec j fun j => eV (r j))) ∧ ∀ k, k < j → ∀ w, r k = some w → 0 ≤ w)
        ⟨_, _, _, fun _ => none, rfl, same_sb k8 _, wa7.mono k8, e8, fun k hk => absurd hk (Nat.not_lt_zero _)⟩ (fun j σ H9 hj p => ?_) (fun σ H9 p => ?_)
      · obtain ⟨x6, x8, x9, r, rfl, sb9, wa9, hL9, hr9⟩ := p
        refine ⟨_, rfl, W, 6, rfl, wa9, by decide, by decide, fun H10 x10 sb10 wa10 hx10 => ?_⟩
        refine ⟨by show 5 ≤ sizeLine; decide, fun p11 hp11 => ?_⟩
        have k11 : Same H10 (upd H10 p11 (.tup [.int 4, .int 3, .int 2, .int 1, .int 0])) := same_upd hp11
        have e11 : upd H10 p11 (.tup [.int 4, .int 3, .int 2, .int 1, .int 0]) p11 = some (.tup [.int 4, .int 3, .int 2, .int 1, .int 0]) := upd_same
        generalize upd H10 p11 (.tup [.int 4, .int 3, .int 2, .int 1, .int 0]) = H11 at k11 e11
        obtain ⟨y, hy⟩ : ∃ y : Int, [V.int 4, .int 3, .int 2, .int 1, .int 0][st]? = some (.int y) := by
          have z : st = 0 ∨ st = 1 ∨ st = 2 ∨ st = 3 ∨ st = 4 := by omega
          rcases z with rfl | rfl | rfl | rfl | rfl <;> exact ⟨_, rfl⟩
        refine ⟨_, rfl, true, p11, _, st, .int y, rfl, rfl, SqB.tup e11, hy, _, _, rfl, rfl, ?_⟩
        have sb11 := sb9.trans (sb10.trans (same_sb k11 _))
        have wa11 := wa10.mono k11
        have hL11 : H11 L = some (.lst (vec j fun j => eV (r j))) := k11 _ _ (sb10 _ _ hL9 (by simpa using nLW))
        refine ⟨_, rfl, .inl ⟨rfl, _, SqL.of hL11⟩, _, rfl, _, rfl, any_ev wa11 (fun hk => ?_) (fun w0 H12 hw0 sb12 wa12 => ?_)⟩
        · exact ⟨_, rfl, _, rfl, W, hi0, rfl, wa11, hh0, by omega, fun H12 x12 sb12 wa12 _ => hk x12 H12 sb12 wa12⟩
        · have hL12 := sb12 _ _ hL11 (by simpa using nLW)
          refine ⟨L, _, _, rfl, rfl, hL12, sz64' (by rw [vec_len]; omega), ?_⟩
          refine ⟨_, _, _, fun k => if k = j then w0 else r k, rfl, (sb11.trans sb12).new hL, ?_, ?_, fun k hk => ?_⟩
          · obtain ⟨a, b, d, z⟩ := wa12
            exact ⟨a, b, d, by rw [upd_ne nLW.symm]; exact z⟩
          · rw [upd_same]
            exact congrArg (fun x => some (HO.lst x)) add_lastE
          · show ∀ w, (if k = j then w0 else r k) = some w → 0 ≤ w
            by_cases z : k = j
            · rw [if_pos z]
              exact fun w hw => hw0 w hw
            · rw [if_neg z]
              exact hr9 k (by omega)
      · obtain ⟨x6, x8, x9, r, rfl, sb9, wa9, hL9, hr9⟩ := p
        rw [show ((n : Int)).toNat = n by omega] at hL9 hr9
        have G9 := G.sb sb9 (by simpa using nRW) bW
        refine ⟨_, rfl, .inl ⟨rfl, _, SqL.of G9.top⟩, _, rfl, R, _, _, rfl, rfl, G9.top, sz64' (by rw [vec_len]; omega), ?_⟩
        refine ⟨_, _, _, _, ex1 bs i L, rowP o i r, rfl, (sb7.trans sb9).new hR, ?_, G9.add hL9 nLR nLb, fun k hk => ?_, fun k hk j hj w0 hw0 => ?_⟩
        · obtain ⟨a, b, d, z⟩ := wa9
          exact ⟨a, b, d, by rw [upd_ne nRW.symm]; exact z⟩
        · by_cases z : k = i
          · rw [z, ex1_at]
            cases y : H5 L with
            | none => rfl
            | some ob =>
              have y2 := sb7 _ _ y (by simpa using nLW)
              rw [hL] at y2
              cases y2
          · rw [ex1_ne z]
            exact fb k (by omega)
        · unfold rowP at hw0
          by_cases z : k = i
          · rw [if_pos z] at hw0
            exact hr9 j hj w0 hw0
          · rw [if_neg z] at hw0
            exact hnn k (by omega) j hj w0 hw0
    · obtain ⟨x6, x7, x8, x9, bs, o, rfl, sb7, wa7, G, fb, hnn⟩ := p
      rw [show ((n : Int)).toNat = n by omega] at G fb hnn
      have bW : ∀ k, k < n → bs k ∉ [W] := fun k hk z => by
        have z' : bs k = W := by simpa using z
        have y := fb k hk
        rw [z'] at y
        exact wa5.ne y rfl
      refine ⟨_, rfl, W, 8, rfl, wa7, by decide, by decide, fun H8 wy sb8 wa8 _ => ?_⟩
      have G8 := G.sb sb8 (by simpa using nRW) bW
      refine ⟨_, rfl, _, _, rfl, rfl, _, rfl, ?_⟩
      refine if_join (fun σ H' => ∃ (x6 x7 x8 x9 x10 x11 : Option V) (o : Pat), σ = [some (.ref W), some (.int 4), some (.int (n : Int)), some (.int (st : Int)), some (.int (hi0 : Int)), some (.ref R), x6, x7, x8, x9, x10, x11] ∧ SB [W] H5 H' ∧ WA H' W ∧ Grid H' R bs n n o ∧ NonNeg n o)
        (fun _ hrest => ?_) (fun _ hrest => hrest _ _ ⟨_, _, _, _, _, _, o, rfl, sb7.trans sb8, wa8, G8, hnn⟩) fun σ H9 p => ?_
      · refine ⟨_, rfl, _, rfl, W, n, rfl, wa8, by omega, fun H9 O l sb9 wa9 fO hO hp => ?_⟩
        have G9 := G8.sb sb9 (by simpa using nRW) bW
        have hln : l.length = n := by rw [hp.length_eq, List.length_range]
        have hlt : ∀ k, k < n → l.getD k 0 < n ∧ l[k]? = some (l.getD k 0) := fun k hk => by
          have e : l[k]? = some (l.getD k 0) := by
            rw [List.getD_eq_getElem?_getD, List.getElem?_eq_getElem (by omega)]
            rfl
          exact ⟨List.mem_range.mp (hp.mem_iff.mp (List.mem_of_getElem? e)), e⟩
        have nOW : O ≠ W := fun z => wa8.ne fO z.symm
        have nOb : ∀ k, k < n → O ≠ bs k := fun k hk z => by
          rw [z, G8.row k hk] at fO
          cases fO
        refine ⟨_, rfl, (n : Int), rfl, by omega, by omega, ?_⟩
        refine for_range (lo := 0) (n := ((n : Int)).toNat) (fun i σ H' => ∃ (x6 x7 x8 x9 x10 : Option V) (o : Pat), σ = [some (.ref W), some (.int 4), some (.int (n : Int)), some (.int (st : Int)), some (.int (hi0 : Int)), some (.ref R), x6, x7, x8, x9, x10, some (.ref O)] ∧
          SB [W] H5 H' ∧ WA H' W ∧ Grid H' R bs n n o ∧ NonNeg n o ∧ H' O = some (.lst (iL l)))
          ⟨_, _, _, _, _, o, rfl, sb7.trans (sb8.trans sb9), wa9, G9, hnn, hO⟩ (fun i σ H10 hi p => ?_) (fun σ H10 p => ?_)
        · obtain ⟨x6, x7, x8, x9, x10, o, rfl, sb10, wa10, G10, hnn, hO10⟩ := p
          have hi' : i < n := by omega
          obtain ⟨hj, hj2⟩ := hlt i hi'
          rw [show (0 : Int) + (i : Int) = (i : Int) by omega]
          refine ⟨_, rfl, _, rfl, false, R, _, i, .ref (bs i), rfl, rfl, SqB.lst G10.top, vec_at hi', _, rfl, _, rfl, false, O, _, i, .int (l.getD i 0 : Nat), rfl, rfl, SqB.lst hO10, iL_at hj2, false, bs i, _, l.getD i 0, eV (o i (l.getD i 0)), rfl, rfl, SqB.lst (G10.row i hi'), vec_at hj, rfl, _, rfl, ?_⟩
          refine if_join (fun σ H' => ∃ (x6 x7 x8 x9 x10 : Option V) (o : Pat), σ = [some (.ref W), some (.int 4), some (.int (n : Int)), some (.int (st : Int)), some (.int (hi0 : Int)), some (.ref R), x6, x7, x8, x9, x10, some (.ref O)] ∧
            SB [W] H5 H' ∧ WA H' W ∧ Grid H' R bs n n o ∧ NonNeg n o ∧ H' O = some (.lst (iL l))) (fun _ hr2 => ?_) (fun _ hr2 => hr2 _ _ ⟨_, _, _, _, _, o, rfl, sb10, wa10, G10, hnn, hO10⟩) fun σ H11 p => p
          refine ⟨_, rfl, _, rfl, W, hi0, rfl, wa10, hh0, by omega, fun H11 x11 sb11 wa11 _ => ?_⟩
          have G11 := G10.sb sb11 (by simpa using nRW) bW
          have hO11 := sb11 _ _ hO10 (by simpa using nOW)
          refine ⟨_, rfl, _, rfl, false, R, _, i, .ref (bs i), rfl, rfl, SqB.lst G11.top, vec_at hi', _, rfl, _, rfl, false, O, _, i, .int (l.getD i 0 : Nat), rfl, rfl, SqB.lst hO11, iL_at hj2, bs i, _, _, l.getD i 0, rfl, rfl, G11.row i hi', by rw [vec_len]; exact ixn hj, ?_⟩
          refine hr2 _ _ ⟨_, _, _, _, _, setP o i (l.getD i 0) (x11 : Int), rfl, (sb10.trans sb11).new (fb i hi'), ?_, G11.put hi', setP_nn hnn (by omega), by rw [upd_ne (nOb i hi')]; exact hO11⟩
          obtain ⟨a, b, d, z⟩ := wa11
          exact ⟨a, b, d, by rw [upd_ne (fun y => bW i hi' (by simp [y]))]; exact z⟩
        · obtain ⟨x6, x7, x8, x9, x10, o, rfl, sb10, wa10, G10, hnn, hO10⟩ := p
          exact hrest _ _ ⟨_, _, _, _, _, _, o, rfl, sb10, wa10, G10, hnn⟩
      · obtain ⟨x6, x7, x8, x9, x10, x11, o, rfl, sb9, wa9, G9, hnn⟩ := p
        refine ⟨_, rfl, false, R, _, rfl, SqB.lst G9.top, fun D hD => ?_⟩
        refine lc_it (walkB (T := false)) (fun i H' => Same H9 H' ∧ ∃ ts : Nat → Addr, H' D = some (.lst (vec i fun k => .ref (ts k))) ∧ ∀ k, k < i → ts k ≠ D ∧ H' (ts k) = some (.tup (vec n fun j => eV (o k j)))) ⟨same_upd hD, fun _ => 0, upd_same, fun k hk => absurd hk (Nat.not_lt_zero _)⟩ (fun i H' _ p => SqB.lst (p.1 _ _ G9.top)) (fun i x H10 H11 hi p y => ?_) (fun H10 p => ?_)
        · obtain ⟨rfl, hx⟩ := y
          obtain ⟨hi', rfl⟩ := vec_get hx
          obtain ⟨s10, ts, hD10, hts⟩ := p
          refine ⟨rfl, _, rfl, bs i, _, rfl, SqL.of (s10 _ _ (G9.row i hi')), fun t1 ht1 => ?_⟩
          have k12 : Same H11 (upd H11 t1 (.tup (vec n fun j => eV (o i j)))) := same_upd ht1
          have nt : t1 ≠ D := fun z => by
            rw [z, hD10] at ht1
            cases ht1
          refine ⟨_, k12 _ _ hD10, sz64' (by rw [vec_len]; omega), same_mut (s10.trans k12) hD, ex1 ts i t1, by rw [upd_same, vec_ex1], fun k hk => ?_⟩
          by_cases z : k = i
          · rw [z, ex1_at]
            exact ⟨nt, by rw [upd_ne nt]; exact upd_same⟩
          · rw [ex1_ne z]
            have y := hts k (by omega)
            exact ⟨y.1, by rw [upd_ne y.1]; exact k12 _ _ y.2⟩
        · obtain ⟨s10, ts, hD10, hts⟩ := p
          rw [vec_len] at hD10 hts
          refine ⟨D, _, rfl, SqL.of hD10, fun r hr0 => ?_⟩
          have k12 : Same H10 (upd H10 r (.tup (vec n fun k => V.ref (ts k)))) := same_upd hr0
          have s12 := s10.trans k12
          exact q _ (.ref r) n o (sbC.trans (sb9.trans (same_sb s12 _))) (wa9.mono s12) ⟨r, ts, rfl, upd_same, fun k hk => k12 _ _ (hts k hk).2⟩ hn0 hn4 hnn
end
end Hid
/-! The law's patterns: filled, so that there is a choice. -/
namespace Hid
open PySem PySem.Spec PyProof.Rows L2
/-- entries cut at 9 -/
def capE (w : Option Int) : Option Int := w.map fun x => if 9 < x then 9 else x
def capP (o : Pat) : Pat := fun i j => capE (o i j)
theorem capP_nn {n : Nat} {o : Pat} (h : NonNeg n o) : NonNeg n (capP o) := fun i hi j hj w0 e => by
  unfold capP capE at e
  cases eo : o i j with
  | none =>
    rw [eo] at e
    cases e
  | some x =>
    rw [eo] at e
    have e' : (if 9 < x then 9 else x) = w0 := Option.some.inj e
    have y := h i hi j hj x eo
    by_cases z : 9 < x
    · rw [if_pos z] at e'
      omega
    · rw [if_neg z] at e'
      omega
theorem capP_ne {o : Pat} {i j : Nat} (h : o i j ≠ none) : capP o i j ≠ none := fun z => by
  unfold capP capE at z
  exact h (Option.map_eq_none_iff.mp z)
section
variable {P : Program} {w : World} {K : PySem.W.Frag} {mg : Str → Option Value} {base : Heap}
/-! ### _law_filled -/
abbrev N_law_filled : List Str := ["_law_well_here", "_law_most", "_law_high", "_law_rows", "_law_line", "_law_order", "_law_i", "_law_each"]
abbrev P_law_filled : List Str := ["_law_well_here", "_law_most", "_law_high"]
theorem sc_law_filled : FnScope N_law_filled P_law_filled (defScope s_law_filled) := ⟨rfl, rfl, rfl, by decide +kernel, rfl, by decide +kernel, by decide +kernel⟩
def sp_law_filled (K : PySem.W.Frag) : Sp := fun vs H Q _ => ∃ W : Addr, vs = [.ref W, .int 4, .int 9] ∧ WA H W ∧ ∀ (H' : Hp) (v : V) (n : Nat) (o : Pat), SB [W] H H' → WA H' W → PatT H' v n o → 0 < n → n ≤ 4 → NonNeg n o → (∃ l, Ch n o l) → Q v H'
theorem ok_law_filled (T : Txt K mg) : FnOk P w K mg base CX0 4 T.f_law_filled.f T.f_law_filled.fd P_law_filled (sp_law_filled K) := by
  refine T.f_law_filled.F.ok sc_law_filled (fun vs H Q E h => ?_) (fun cdv A outer s H vs Q E hr h => ?_)
  · obtain ⟨W, rfl, _⟩ := h
    rfl
  · obtain ⟨W, rfl, hW, q⟩ := h
    refine ⟨_, (pss_cons (ps_setLc (i := 3) (own := [("_law_line", 4)]) rfl sc_law_filled.nd rfl rfl (sw_true rfl rfl rfl (by decide +kernel)) (seqK K (pe_call (ok_law_grid T) (hr.mono (by decide)) (by rfl) T.f_law_grid.g T.f_law_grid.F.kp T.f_law_grid.b .nil pass0 (pa_cons (pv 0) (pa_cons (pv 1) pa_nil)))) (blkOk_by (own := [("_law_line", 4)]) (N := N_law_filled) (sc := defScope s_law_filled) (by decide +kernel)) (fun _ _ _ _ _ => (pg_name (i := 4) sc_law_filled.nd rfl (Or.inl rfl))) (fun _ _ _ _ _ => pts_nil) (fun _ _ _ _ _ => (pe_callTy (listK K) (by rfl) T.z_list bz_list (pa_cons (pv 4) pa_nil))))
      (pss_cons (ps_set (i := 5) sc_law_filled.nd rfl (Or.inl rfl) (pe_call (ok_law_order_list T) (hr.mono (by decide)) (by rfl) T.f_law_order_list.g T.f_law_order_list.F.kp T.f_law_order_list.b .nil pass0 (pa_cons (pv 0) (pa_cons (pe_callB (lenK K) (by rfl) T.z_len bz_len (pa_cons (pv 3) pa_nil)) pa_nil))))
      (pss_cons (ps_for PassesOwn.never rfl (pi_range1 (by rfl) T.z_range (pa_cons (pe_callB (lenK K) (by rfl) T.z_len bz_len (pa_cons (pv 3) pa_nil)) pa_nil)) (pg_name (i := 6) sc_law_filled.nd rfl (Or.inl rfl)) (pss_one (ps_if (pt_cmpR op_isN (pe_ix (ixK K) (pe_ix (ixK K) (pv 3) (pv 6) (fun _ _ => rfl)) (pe_ix (ixK K) (pv 5) (pv 6) (fun _ _ => rfl)) (fun _ _ => rfl)) pe_non (nomark _)) (pss_one (ps_asg (pe_call (ok_law_draw T) (hr.mono (by decide)) (by rfl) T.f_law_draw.g T.f_law_draw.F.kp T.f_law_draw.b .nil pass0 (pa_cons (pv 0) (pa_cons pe_int pa_nil))) (pg_sub (pe_ix (ixK K) (pv 3) (pv 6) (fun _ _ => rfl)) (pe_ix (ixK K) (pv 5) (pv 6) (fun _ _ => rfl)) set_list))) pss_nil)))
      (pss_one (ps_ret (pe_callTy (tupleK K) (by rfl) T.z_tuple bz_tuple (pa_cons (pe_lc (own := [("_law_line", 4)]) rfl sc_law_filled.nd (seqK K (pv 3)) (blkOk_by (own := [("_law_line", 4)]) (N := N_law_filled) (sc := defScope s_law_filled) (by decide +kernel)) (fun _ _ _ _ _ => (pg_name (i := 4) sc_law_filled.nd rfl (Or.inl rfl))) (fun _ _ _ _ _ => pts_nil) (fun _ _ _ _ _ => (pe_callTy (tupleK K) (by rfl) T.z_tuple bz_tuple (pa_cons (pe_lc (own := [("_law_each", 7)]) rfl sc_law_filled.nd (seqK K (pv 4)) (blkOk_by (own := [("_law_each", 7)]) (N := N_law_filled) (by rfl)) (fun _ _ _ _ _ => (pg_name (i := 7) sc_law_filled.nd rfl (Or.inl rfl))) (fun _ _ _ _ _ => pts_nil) (fun _ _ _ _ _ => (pe_ifExp (pt_cmpR op_isN (pv 7) pe_non (nomark _)) (pv 7) (pe_callB (call_min2 rfl) (by rfl) T.z_min bz_min (pa_cons (pv 7) (pa_cons (pv 2) pa_nil)))))) pa_nil)))) pa_nil))))))), ?_⟩
    refine ⟨_, rfl, _, rfl, W, rfl, hW, fun H1 v n o sb1 wa1 hP hn0 hn4 hnn => ?_⟩
    obtain ⟨a, ts, rfl, ha, hts⟩ := hP
    refine ⟨true, a, _, rfl, SqB.tup ha, fun R hR => ?_⟩
    have nRW : R ≠ W := fun z => wa1.ne hR z.symm
    refine lc_it (walkB (T := true)) (fun i H' => Same H1 H' ∧ ∃ bs : Nat → Addr, Grid H' R bs i n o ∧ ∀ k, k < i → H1 (bs k) = none) ⟨same_upd hR, fun _ => 0, Grid.new upd_same, fun k hk => absurd hk (Nat.not_lt_zero _)⟩ (fun i H' _ p => SqB.tup (p.1 _ _ ha)) (fun i x H2 H3 hi p y => ?_) (fun H2 p => ?_)
    · obtain ⟨rfl, hx⟩ := y
      obtain ⟨hi', rfl⟩ := vec_get hx
      obtain ⟨s2, bs, G, fb⟩ := p
      refine ⟨rfl, _, rfl, true, ts i, _, rfl, SqB.tup (s2 _ _ (hts i hi')), fun L hL => ?_⟩
      have k4 : Same H3 (upd H3 L (.lst (vec n fun j => eV (o i j)))) := same_upd hL
      have e4 : upd H3 L (.lst (vec n fun j => eV (o i j))) L = some (.lst (vec n fun j => eV (o i j))) := upd_same
      have nLR : L ≠ R := fun z => by
        rw [z, G.top] at hL
        cases hL
      have nLb : ∀ k, k < i → bs k ≠ L := fun k hk z => by
        rw [← z, G.row k hk] at hL
        cases hL
      have fL : H1 L = none := s2.free hL
      generalize upd H3 L (.lst (vec n fun j => eV (o i j))) = H4 at k4 e4
      have G4 := G.mono k4
      have G5 := G4.add (r := o i) e4 nLR nLb
      refine ⟨_, G4.top, sz64' (by rw [vec_len]; omega), same_mut (s2.trans k4) hR, ex1 bs i L, ⟨G5.top, fun k hk => ?_, G5.neR, G5.inj⟩, fun k hk => ?_⟩
      · rw [G5.row k hk]
        congr 2
        refine vec_congr fun j _ => ?_
        unfold rowP
        by_cases z : k = i
        · rw [if_pos z, z]
        · rw [if_neg z]
      · by_cases z : k = i
        · rw [z, ex1_at]
          exact fL
        · rw [ex1_ne z]
          exact fb k (by omega)
    · obtain ⟨s2, bs, G, fb⟩ := p
      rw [vec_len] at G fb
      have wa2 := wa1.mono s2
      have bW : ∀ k, k < n → bs k ∉ [W] := fun k hk z => by
        have z' : bs k = W := by simpa using z
        have y := fb k hk
        rw [z'] at y
        exact wa1.ne y rfl
      refine ⟨_, rfl, _, rfl, false, R, _, rfl, SqB.lst G.top, W, n, by rw [vec_len]; rfl, wa2, by omega, fun H3 O l sb3 wa3 fO hO hp => ?_⟩
      have G3 := G.sb sb3 (by simpa using nRW) bW
      have hln : l.length = n := by rw [hp.length_eq, List.length_range]
      have hlt : ∀ k, k < n → l.getD k 0 < n ∧ l[k]? = some (l.getD k 0) := fun k hk => by
        have e : l[k]? = some (l.getD k 0) := by
          rw [List.getD_eq_getElem?_getD, List.getElem?_eq_getElem (by omega)]
          rfl
        exact ⟨List.mem_range.mp (hp.mem_iff.mp (List.mem_of_getElem? e)), e⟩
      have nOW : O ≠ W := fun z => wa2.ne fO z.symm
      have nOb : ∀ k, k < n → O ≠ bs k := fun k hk z => by
        rw [z, G.row k hk] at fO
        cases fO
      refine ⟨_, rfl, false, R, _, rfl, SqB.lst G3.top, (n : Int), by rw [vec_len], by omega, by omega, ?_⟩
      refine for_range (lo := 0) (n := ((n : Int)).toNat) (fun i σ H' => ∃ (x6 : Option V) (o : Pat), σ = [some (.ref W), some (.int 4), some (.int 9), some (.ref R), none, some (.ref O), x6, none] ∧
        SB [W] H1 H' ∧ WA H' W ∧ Grid H' R bs n n o ∧ NonNeg n o ∧ H' O = some (.lst (iL l)) ∧ ∀ k, k < i → o k (l.getD k 0) ≠ none)
        ⟨none, o, rfl, (same_sb s2 _).trans sb3, wa3, G3, hnn, hO, fun k hk => absurd hk (Nat.not_lt_zero _)⟩ (fun i σ H10 hi p => ?_) (fun σ H10 p => ?_)
      · obtain ⟨x6, o, rfl, sb10, wa10, G10, hnn, hO10, hdone⟩ := p
        have hi' : i < n := by omega
        obtain ⟨hj, hj2⟩ := hlt i hi'
        rw [show (0 : Int) + (i : Int) = (i : Int) by omega]
        refine ⟨_, rfl, _, rfl, false, R, _, i, .ref (bs i), rfl, rfl, SqB.lst G10.top, vec_at hi', _, rfl, _, rfl, false, O, _, i, .int (l.getD i 0 : Nat), rfl, rfl, SqB.lst hO10, iL_at hj2, false, bs i, _, l.getD i 0, eV (o i (l.getD i 0)), rfl, rfl, SqB.lst (G10.row i hi'), vec_at hj, rfl, _, rfl, ?_⟩
        cases eo : o i (l.getD i 0) with
        | some w0 =>
          refine ⟨_, o, rfl, sb10, wa10, G10, hnn, hO10, fun k hk => ?_⟩
          by_cases z : k = i
          · rw [z, eo]
            intro y
            cases y
          · exact hdone k (by omega)
        | none =>
          refine ⟨_, rfl, W, 3, rfl, wa10, by decide, by decide, fun H11 x11 sb11 wa11 _ => ?_⟩
          have G11 := G10.sb sb11 (by simpa using nRW) bW
          have hO11 := sb11 _ _ hO10 (by simpa using nOW)
          refine ⟨_, rfl, _, rfl, false, R, _, i, .ref (bs i), rfl, rfl, SqB.lst G11.top, vec_at hi', _, rfl, _, rfl, false, O, _, i, .int (l.getD i 0 : Nat), rfl, rfl, SqB.lst hO11, iL_at hj2, bs i, _, _, l.getD i 0, rfl, rfl, G11.row i hi', by rw [vec_len]; exact ixn hj, ?_⟩
          refine ⟨_, setP o i (l.getD i 0) (x11 : Int), rfl, (sb10.trans sb11).new (fb i hi'), ?_, G11.put hi', setP_nn hnn (by omega), by rw [upd_ne (nOb i hi')]; exact hO11, fun k hk => ?_⟩
          · obtain ⟨a, b, d, z⟩ := wa11
            exact ⟨a, b, d, by rw [upd_ne (fun y => bW i hi' (by simp [y]))]; exact z⟩
          · unfold setP
            by_cases z : k = i
            · rw [z, if_pos ⟨rfl, rfl⟩]
              intro y
              cases y
            · rw [if_neg (fun y => z y.1)]
              exact hdone k (by omega)
      · obtain ⟨x6, o, rfl, sb10, wa10, G10, hnn, hO10, hdone⟩ := p
        rw [show ((n : Int)).toNat = n by omega] at hdone
        have hch : Ch n (capP o) l := ⟨hln, hp.symm.nodup (List.nodup_range), fun j hj => List.mem_range.mp (hp.mem_iff.mp hj), fun i hi => capP_ne (hdone i hi)⟩
        refine ⟨_, rfl, false, R, _, rfl, SqB.lst G10.top, fun D hD => ?_⟩
        refine lc_it (walkB (T := false)) (fun i H' => Same H10 H' ∧ ∃ ts : Nat → Addr, H' D = some (.lst (vec i fun k => .ref (ts k))) ∧ ∀ k, k < i → ts k ≠ D ∧ H' (ts k) = some (.tup (vec n fun j => eV (capP o k j)))) ⟨same_upd hD, fun _ => 0, upd_same, fun k hk => absurd hk (Nat.not_lt_zero _)⟩ (fun i H' _ p => SqB.lst (p.1 _ _ G10.top)) (fun i x H11 H12 hi p y => ?_) (fun H11 p => ?_)
        · obtain ⟨rfl, hx⟩ := y
          obtain ⟨hi', rfl⟩ := vec_get hx
          obtain ⟨s11, ts, hD11, hts⟩ := p
          refine ⟨rfl, _, rfl, false, bs i, _, rfl, SqB.lst (s11 _ _ (G10.row i hi')), fun D2 hD2 => ?_⟩
          refine lc_it (walkB (T := false)) (fun j H' => Same H12 H' ∧ H' D2 = some (.lst (vec j fun j => eV (capP o i j)))) ⟨same_upd hD2, upd_same⟩ (fun j H' _ p => SqB.lst (p.1 _ _ (s11 _ _ (G10.row i hi')))) (fun j x H13 H14 hj p y => ?_) (fun H13 p => ?_)
          · obtain ⟨rfl, hx⟩ := y
            obtain ⟨hj', rfl⟩ := vec_get hx
            obtain ⟨s13, h13⟩ := p
            have fin : ∀ vv : V, vv = eV (capP o i j) → ∃ acc, H14 D2 = some (.lst acc) ∧ acc.length < sizeLine ∧ Same H12 (upd H14 D2 (.lst (acc ++ [vv]))) ∧ upd H14 D2 (.lst (acc ++ [vv])) D2 = some (.lst (vec (j + 1) fun j => eV (capP o i j))) := fun vv ev => by
              refine ⟨_, h13, sz64' (by rw [vec_len]; omega), same_mut s13 hD2, ?_⟩
              rw [upd_same, vec_succ, ev]
            refine ⟨rfl, _, rfl, rfl, _, rfl, ?_⟩
            cases eo : o i j with
            | none => exact ⟨_, rfl, fin _ (by unfold capP capE; rw [eo]; rfl)⟩
            | some x =>
              refine ⟨_, rfl, _, rfl, x, 9, rfl, fin _ ?_⟩
              unfold capP capE
              rw [eo]
              rfl
          · obtain ⟨s13, h13⟩ := p
            rw [vec_len] at h13
            refine ⟨D2, _, rfl, SqL.of h13, fun t1 ht1 => ?_⟩
            have k14 : Same H13 (upd H13 t1 (.tup (vec n fun j => eV (capP o i j)))) := same_upd ht1
            have s14 : Same H12 (upd H13 t1 (.tup (vec n fun j => eV (capP o i j)))) := s13.trans k14
            have nt : t1 ≠ D := fun z => by
              rw [z, s13 _ _ hD11] at ht1
              cases ht1
            refine ⟨_, s14 _ _ hD11, sz64' (by rw [vec_len]; omega), same_mut (s11.trans s14) hD, ex1 ts i t1, by rw [upd_same, vec_ex1], fun k hk => ?_⟩
            by_cases z : k = i
            · rw [z, ex1_at]
              exact ⟨nt, by rw [upd_ne nt]; exact upd_same⟩
            · rw [ex1_ne z]
              have y := hts k (by omega)
              exact ⟨y.1, by rw [upd_ne y.1]; exact s14 _ _ y.2⟩
        · obtain ⟨s11, ts, hD11, hts⟩ := p
          rw [vec_len] at hD11 hts
          refine ⟨D, _, rfl, SqL.of hD11, fun r hr0 => ?_⟩
          have k12 : Same H11 (upd H11 r (.tup (vec n fun k => V.ref (ts k)))) := same_upd hr0
          have s12 := s11.trans k12
          exact q _ (.ref r) n (capP o) (sb1.trans (sb10.trans (same_sb s12 _))) (wa10.mono s12) ⟨r, ts, rfl, upd_same, fun k hk => k12 _ _ (hts k hk).2⟩ hn0 hn4 (capP_nn hnn) ⟨l, hch⟩
end
end Hid
/-! The law's question. -/
namespace Hid
open PySem PySem.Spec PyProof.Rows L2
/-! ### f(q = .., p = ..) for a def of p, q -/
def g2 : List Value → List Value → List Value
  | [], [a, b] => [b, a]
  | _, _ => []
def gV2 : List V → List V → List V
  | [], [a, b] => [b, a]
  | _, _ => []
theorem kb_two {K : PySem.W.Frag} {x qual : Str} {st : Stmt} {f : Addr} {fd : FuncData} {p q : Str} (F : Fun K x qual st f fd)
    (h : ∀ (kV doc pm : Value) (an : Option Addr) (cdv ct a b : Value), bindArgs (PySem.W.fnOf x qual (defArgs st) (defBody st) (defScope st) .none kV doc pm an cdv ct) ⟨[], [(q, a), (p, b)]⟩ = pure [(p, b), (q, a)]) : KBinds K fd [p, q] [q, p] g2 gV2 := by
  obtain ⟨oc, od, kV, doc, pm, an, cdv, ct, osl, rfl, lk, hcd⟩ := F.ex
  refine ⟨fun s us ws _ hl => ?_, fun r rz => ?_⟩
  · match us, ws, hl with
    | [], [a, b], _ => exact .of_eq (h kV doc pm an cdv ct a b)
  · cases r with
    | cons _ _ => exact .nil
    | nil =>
      cases rz with
      | nil => exact .nil
      | cons r1 t1 =>
        cases t1 with
        | nil => exact .nil
        | cons r2 t2 =>
          cases t2 with
          | nil => exact .cons r2 (.cons r1 .nil)
          | cons _ _ => exact .nil
/-! ### data that can be shown -/
structure Nic (m : Nat) (d : PyData) : Prop where
  sh : d.showable = true
  lv : d.leavesShort 8 = true
  wt : d.weight ≤ m
theorem nic_all : ∀ {ds : List PyData} {m : Nat}, (∀ d, d ∈ ds → Nic m d) → PyData.showableAll ds = true ∧ PyData.leavesShortAll 8 ds = true ∧ PyData.weightAll ds ≤ ds.length * (m + 1)
  | [], m, _ => ⟨by simp [PyData.showableAll], by simp [PyData.leavesShortAll], by simp [PyData.weightAll]⟩
  | d :: ds, m, h => by
    have h1 := h d List.mem_cons_self
    obtain ⟨a, b, c⟩ := nic_all (ds := ds) (m := m) fun e he => h e (List.mem_cons_of_mem _ he)
    refine ⟨?_, ?_, ?_⟩
    · simp only [PyData.showableAll, h1.sh, a, Bool.and_self]
    · simp only [PyData.leavesShortAll, h1.lv, b, Bool.and_self]
    · simp only [PyData.weightAll, List.length_cons, Nat.succ_mul]
      have := h1.wt
      omega
theorem nic_tup {ds : List PyData} {m c : Nat} (h : ∀ d, d ∈ ds → Nic m d) (hl : ds.length ≤ c) : Nic (c * (m + 1)) (.tuple ds) := by
  obtain ⟨a, b, e⟩ := nic_all h
  exact ⟨by simpa [PyData.showable] using a, by simpa [PyData.leavesShort] using b, by simp only [PyData.weight]; exact Nat.le_trans e (Nat.mul_le_mul_right _ hl)⟩
theorem nic_lst {ds : List PyData} {m c : Nat} (h : ∀ d, d ∈ ds → Nic m d) (hl : ds.length ≤ c) : Nic (c * (m + 1)) (.list ds) := by
  obtain ⟨a, b, e⟩ := nic_all h
  exact ⟨by simpa [PyData.showable] using a, by simpa [PyData.leavesShort] using b, by simp only [PyData.weight]; exact Nat.le_trans e (Nat.mul_le_mul_right _ hl)⟩
theorem nic_int {j : Nat} (h : j < 4) : Nic 2 (.int (j : Int)) := by
  have z : j = 0 ∨ j = 1 ∨ j = 2 ∨ j = 3 := by omega
  rcases z with rfl | rfl | rfl | rfl <;> exact ⟨by decide +kernel, by decide +kernel, by decide +kernel⟩
theorem nic_bl (b : Bool) : Nic 2 (.bool b) := ⟨by simp [PyData.showable], by simp [PyData.leavesShort], by simp [PyData.weight]⟩
theorem nic_d2 {q : Nat × Nat} (h1 : q.1 < 4) (h2 : q.2 < 4) : Nic 6 (d2 q) := by
  have y := nic_tup (m := 2) (c := 2) (ds := [.int (q.1 : Int), .int (q.2 : Int)]) (fun d hd => by
    rcases List.mem_cons.mp hd with e | e
    · rw [e]
      exact nic_int h1
    · rw [List.mem_singleton.mp e]
      exact nic_int h2) (Nat.le_refl _)
  exact y
theorem nic_dL {l : List Nat} (h : ∀ j, j ∈ l → j < 4) (hl : l.length ≤ 4) : Nic 12 (dL l) := by
  have y := nic_tup (m := 2) (c := 4) (ds := l.map fun (j : Nat) => PyData.int (j : Int)) (fun d hd => by
    obtain ⟨j, hj, rfl⟩ := List.mem_map.mp hd
    exact nic_int (h j hj)) (by rw [List.length_map]; exact hl)
  exact y
theorem nic_dLs {ls : List (List Nat)} (h : ∀ l, l ∈ ls → (∀ j, j ∈ l → j < 4) ∧ l.length ≤ 4) (hl : ls.length ≤ 256) : Nic 3328 (.tuple (ls.map dL)) := by
  have y := nic_tup (m := 12) (c := 256) (ds := ls.map dL) (fun d hd => by
    obtain ⟨l, hm, rfl⟩ := List.mem_map.mp hd
    exact nic_dL (h l hm).1 (h l hm).2) (by rw [List.length_map]; exact hl)
  exact y
theorem nic_d2s {sp : List (Nat × Nat)} (h : ∀ q, q ∈ sp → q.1 < 4 ∧ q.2 < 4) (hl : sp.length ≤ 16) : Nic 112 (.tuple (sp.map d2)) := by
  have y := nic_tup (m := 6) (c := 16) (ds := sp.map d2) (fun d hd => by
    obtain ⟨q, hm, rfl⟩ := List.mem_map.mp hd
    exact nic_d2 (h q hm).1 (h q hm).2) (by rw [List.length_map]; exact hl)
  exact y
/-- what repr asks -/
theorem shows {d : PyData} {m k : Nat} (n : Nic m d) (l : Lay k d) (hm : m ≤ 1048576) (hk : k ≤ 8) : d.showable = true ∧ d.hasDict = false ∧ d.depth ≤ 8 ∧ d.shown.length ≤ sizeLine :=
  ⟨n.sh, PyData.hasDict_of_canLay d l.1, Nat.le_trans l.2 hk, PyData.shown_fits (by decide) (by decide) n.lv (Nat.le_trans n.wt hm)⟩
theorem lay_bl (b : Bool) : Lay 0 (.bool b) := ⟨by simp [PyData.canLay0], by simp [PyData.depth]⟩
theorem eqv_tmap_nil {α : Type} {d : α → PyData} (ls : List α) : PyData.eqv (.tuple (ls.map d)) (.tuple []) = ls.isEmpty := by
  cases ls with
  | nil => exact eqv_nil_tup
  | cons a l => exact eqv_tup_nil
theorem spots_len (n : Nat) (o : Pat) (c d : Nat → Int) : (spots n o c d).length ≤ n * n := by
  have h := flat_len (rowS_len n o c d) (List.range n)
  rw [List.length_range] at h
  exact h
theorem heavies_len (n : Nat) (o : Pat) (W : Int) : (heavies n o W).length ≤ n ^ n := Nat.le_trans (List.length_filter_le _ _) (allC_len n o n)
theorem within_len (n : Nat) (o : Pat) (c d : Nat → Int) : (within n o c d).length ≤ n ^ n := Nat.le_trans (List.length_filter_le _ _) (allC_len n o n)
theorem heavies_ch {n : Nat} {o : Pat} {W : Int} {l : List Nat} (h : l ∈ heavies n o W) : Ch n o l ∧ wt n o l = W := by
  obtain ⟨h1, h2⟩ := List.mem_filter.mp h
  exact ⟨mem_allC.mp h1, of_decide_eq_true h2⟩
theorem within_ch {n : Nat} {o : Pat} {c d : Nat → Int} {l : List Nat} (h : l ∈ within n o c d) : Ch n o l := mem_allC.mp (List.mem_filter.mp h).1
theorem paired_mem {α β : Type} {R : α → β → Prop} {xs : List α} {ys : List β} {x : α} (h : Paired R xs ys) (hx : x ∈ xs) : ∃ y, y ∈ ys ∧ R x y := by
  obtain ⟨i, hi⟩ := List.getElem?_of_mem hx
  obtain ⟨y, h1, h2⟩ := paired_get h hi
  exact ⟨y, List.mem_of_getElem? h1, h2⟩
/-- two tests, one behind the other, without an else -/
theorem and_join {t2 : L2.TT} {b : Bool} {D : Ends} {tb te : TS} {σ : L2.St} {H : Hp} (J : L2.St → Hp → Prop) (h1 : b = true → (∀ σ' H', J σ' H' → D.nx σ' H') → t2 σ H fun c H1 => if c = true then tb D σ H1 else te D σ H1) (h2 : (∀ σ' H', J σ' H' → D.nx σ' H') → te D σ H)
    (hrest : ∀ σ' H', J σ' H' → D.nx σ' H') : if b = true then t2 σ H fun c H1 => if c = true then tb D σ H1 else te D σ H1 else (fun (c : Bool) H1 => if c = true then tb D σ H1 else te D σ H1) false H := by
  cases b with
  | true => exact h1 rfl hrest
  | false => exact h2 hrest
theorem told_or {b : Bool} {te tf : TE} {σ : L2.St} {H : Hp} {Qk : VK} (J : V → Hp → Prop) (h1 : b = true → (∀ x H', J x H' → Qk x H') → te σ H Qk) (h2 : b = false → (∀ x H', J x H' → Qk x H') → tf σ H Qk) (h : ∀ x H', J x H' → Qk x H') : if b = true then te σ H Qk else tf σ H Qk := by
  cases b with
  | true => exact h1 rfl h
  | false => exact h2 rfl h
section
variable {P : Program} {w : World} {K : PySem.W.Frag} {mg : Str → Option Value} {base : Heap}
theorem kb_tight_spots (T : Txt K mg) : KBinds K T.f_tight_spots.fd ["pattern", "offsets"] ["offsets", "pattern"] g2 gV2 := kb_two T.f_tight_spots.F fun _ _ _ _ _ _ _ _ => rfl
theorem kb_are_best (T : Txt K mg) : KBinds K T.f_are_best.fd ["pattern", "offsets"] ["offsets", "pattern"] g2 gV2 := kb_two T.f_are_best.F fun _ _ _ _ _ _ _ _ => rfl
/-! ### _law_right -/
abbrev N_law_right : List Str := ["_law_well_here", "_law_rows", "_law_weight_here", "_law_top", "_law_told", "_law_turn", "_law_some", "_law_spots", "_law_is_best", "_law_within", "_law_each"]
abbrev P_law_right : List Str := ["_law_well_here"]
theorem sc_law_right : FnScope N_law_right P_law_right (defScope s_law_right) := ⟨rfl, rfl, rfl, by decide +kernel, rfl, by decide +kernel, by decide +kernel⟩
def sp_law_right : Sp := fun vs H Q _ => ∃ W : Addr, vs = [.ref W] ∧ WA H W ∧ ∀ H', SB [W] H H' → Q (.bl true) H'
theorem ok_law_right (T : Txt K mg) : FnG P w K mg base 10 T.f_law_right.f sp_law_right := by
  refine fnG T.f_law_right.F T.f_law_right.b sc_law_right (fun vs H Q E h => ?_) (fun cdv A outer s H vs Q hr hgd h => ?_)
  · obtain ⟨W, rfl, _⟩ := h
    rfl
  · obtain ⟨W, rfl, hW, q⟩ := h
    refine ⟨_, (pss_cons (ps_set (i := 1) sc_law_right.nd rfl (Or.inl rfl) (pe_call (ok_law_filled T) (hr.mono (by decide)) (by rfl) T.f_law_filled.g T.f_law_filled.F.kp T.f_law_filled.b .nil pass0 (pa_cons (pv 0) (pa_cons pe_int (pa_cons pe_int pa_nil)))))
      (pss_cons (ps_asg (pe_call (ok_law_heaviest T) (hr.mono (by decide)) (by rfl) T.f_law_heaviest.g T.f_law_heaviest.F.kp T.f_law_heaviest.b .nil pass0 (pa_cons (pv 1) pa_nil)) (tupK K (n := 2) rfl (pgs_cons (pg_name (i := 2) sc_law_right.nd rfl (Or.inl rfl)) (pgs_cons (pg_name (i := 3) sc_law_right.nd rfl (Or.inl rfl)) pgs_nil))))
      (pss_cons (ps_set (i := 4) sc_law_right.nd rfl (Or.inl rfl) (pe_call (ok_heaviest_choices T) (hr.mono (by decide)) (by rfl) T.f_heaviest_choices.g T.f_heaviest_choices.F.kp T.f_heaviest_choices.b .nil pass0 (pa_cons (pv 1) pa_nil)))
      (pss_cons (ps_for PassesOwn.never rfl (pi_range1 (by rfl) T.z_range (pa_cons pe_int pa_nil)) (pg_name (i := 5) sc_law_right.nd rfl (Or.inl rfl)) (pss_cons (ps_set (i := 6) sc_law_right.nd rfl (Or.inl rfl) (pe_call (ok_law_any_offsets T) (hr.mono (by decide)) (by rfl) T.f_law_any_offsets.g T.f_law_any_offsets.F.kp T.f_law_any_offsets.b .nil pass0 (pa_cons (pv 0) (pa_cons (pv 1) pa_nil))))
      (pss_cons (ps_if (pt_cmpR op_eq (pv 5) pe_int (nomark _)) (pss_one (ps_set (i := 6) sc_law_right.nd rfl (Or.inl rfl) (pe_call (ok_least_offsets T) (hr.mono (by decide)) (by rfl) T.f_least_offsets.g T.f_least_offsets.F.kp T.f_least_offsets.b .nil pass0 (pa_cons (pv 1) pa_nil)))) pss_nil)
      (pss_cons (ps_if (PW.pt (pw_and (pt_cmpR op_lt (pv 5) pe_int (nomark _)) (pw_and1 (pt_cmpR op_gt (pv 5) pe_int (nomark _))))) (pss_one (ps_set (i := 6) sc_law_right.nd rfl (Or.inl rfl) (pe_call (ok_law_best_from T) (hr.mono (by decide)) (by rfl) T.f_law_best_from.g T.f_law_best_from.F.kp T.f_law_best_from.b .nil pass0 (pa_cons (pv 1) (pa_cons (pe_call (ok_law_pick T) (hr.mono (by decide)) (by rfl) T.f_law_pick.g T.f_law_pick.F.kp T.f_law_pick.b .nil pass0 (pa_cons (pv 0) (pa_cons (pv 3) pa_nil))) (pa_cons (pe_call (ok_law_start T) (hr.mono (by decide)) (by rfl) T.f_law_start.g T.f_law_start.F.kp T.f_law_start.b .nil pass0 (pa_cons (pv 0) (pa_cons (pe_callB (lenK K) (by rfl) T.z_len bz_len (pa_cons (pv 1) pa_nil)) pa_nil))) pa_nil)))))) pss_nil)
      (pss_cons (ps_asg (pe_tup (pa_cons (pe_call (ok_law_tight T) (hr.mono (by decide)) (by rfl) T.f_law_tight.g T.f_law_tight.F.kp T.f_law_tight.b .nil pass0 (pa_cons (pv 1) (pa_cons (pe_ix (ixK K) (pv 6) pe_int (fun _ _ => rfl)) (pa_cons (pe_ix (ixK K) (pv 6) pe_int (fun _ _ => rfl)) pa_nil)))) (pa_cons (pe_cmpR op_eq (pe_op op_sub (pe_callB (sumTK K) (by rfl) T.z_sum bz_sum (pa_cons (pe_ix (ixK K) (pv 6) pe_int (fun _ _ => rfl)) pa_nil)) (pe_callB (sumTK K) (by rfl) T.z_sum bz_sum (pa_cons (pe_ix (ixK K) (pv 6) pe_int (fun _ _ => rfl)) pa_nil))) (pv 2) (nomark _)) pa_nil))) (tupK K (n := 2) rfl (pgs_cons (pg_name (i := 7) sc_law_right.nd rfl (Or.inr rfl)) (pgs_cons (pg_name (i := 8) sc_law_right.nd rfl (Or.inl rfl)) pgs_nil))))
      (pss_cons (ps_if (pt_cmpR op_ne (pe_callB (reprK K hgd hr.units) (by rfl) T.z_repr bz_repr (pa_cons (pe_lst (pa_cons (pe_call (ok_tight_spots T) (hr.mono (by decide)) (by rfl) T.f_tight_spots.g T.f_tight_spots.F.kp T.f_tight_spots.b .nil pass0 (pa_cons (pv 1) (pa_cons (pv 6) pa_nil))) (pa_cons (pe_callK0 (ok_tight_spots T) (hr.mono (by decide)) (by rfl) T.f_tight_spots.g T.f_tight_spots.F.kp (kb_tight_spots T) pass0 (pk_cons (pv 6) (pk_cons (pv 1) pk_nil))) pa_nil))) pa_nil)) (pe_callB (reprK K hgd hr.units) (by rfl) T.z_repr bz_repr (pa_cons (pe_lst (pa_cons (pv 7) (pa_cons (pv 7) pa_nil))) pa_nil)) (nomark _)) (pss_one (ps_ret pe_bl)) pss_nil)
      (pss_cons (ps_set (i := 9) sc_law_right.nd rfl (Or.inl rfl) (pe_callTy (tupleK K) (by rfl) T.z_tuple bz_tuple (pa_cons (pe_lc (own := [("_law_each", 10)]) rfl sc_law_right.nd (seqK K (pe_call (ok_law_choices T) (hr.mono (by decide)) (by rfl) T.f_law_choices.g T.f_law_choices.F.kp T.f_law_choices.b .nil pass0 (pa_cons (pv 1) pa_nil))) (blkOk_by (own := [("_law_each", 10)]) (N := N_law_right) (sc := defScope s_law_right) (by decide +kernel)) (fun _ _ _ _ _ => (pg_name (i := 10) sc_law_right.nd rfl (Or.inl rfl))) (fun _ _ _ _ _ => pts_one (pt_val (pe_call (ok_law_lies_on T) (hr.mono (by decide)) (by rfl) T.f_law_lies_on.g T.f_law_lies_on.F.kp T.f_law_lies_on.b .nil pass0 (pa_cons (pv 10) (pa_cons (pv 7) pa_nil))))) (fun _ _ _ _ _ => (pv 10))) pa_nil)))
      (pss_cons (ps_if (pt_cmpR op_ne (pe_callB (reprK K hgd hr.units) (by rfl) T.z_repr bz_repr (pa_cons (pv 9) pa_nil)) (pe_callB (reprK K hgd hr.units) (by rfl) T.z_repr bz_repr (pa_cons (pe_ifExp (pt_val (pv 8)) (pv 4) (pe_tup pa_nil)) pa_nil)) (nomark _)) (pss_one (ps_ret pe_bl)) pss_nil)
      (pss_one (ps_if (pt_cmpR op_ne (pe_callB (reprK K hgd hr.units) (by rfl) T.z_repr bz_repr (pa_cons (pe_callK0 (ok_are_best T) (hr.mono (by decide)) (by rfl) T.f_are_best.g T.f_are_best.F.kp (kb_are_best T) pass0 (pk_cons (pv 6) (pk_cons (pv 1) pk_nil))) pa_nil)) (pe_callB (reprK K hgd hr.units) (by rfl) T.z_repr bz_repr (pa_cons (pe_cmpR (neDK K hr.units) (pv 9) (pe_tup pa_nil) (nomark _)) pa_nil)) (nomark _)) (pss_one (ps_ret pe_bl)) pss_nil))))))))))
      (pss_one (ps_ret (pe_cmpR op_eq (pe_callB (reprK K hgd hr.units) (by rfl) T.z_repr bz_repr (pa_cons (pv 4) pa_nil)) (pe_callB (reprK K hgd hr.units) (by rfl) T.z_repr bz_repr (pa_cons (pe_callTy (tupleK K) (by rfl) T.z_tuple bz_tuple (pa_cons (pv 3) pa_nil)) pa_nil)) (nomark _)))))))), ?_⟩
    refine ⟨_, rfl, W, rfl, hW, fun H1 v n o sb1 wa1 hP hn0 hn4 hnn hch => ?_⟩
    refine ⟨_, rfl, v, n, o, rfl, hP, hn4, hch, fun H2 r hl W0 s2 hr2 fhl hw L2' => ?_⟩
    refine ⟨r, _, rfl, SqT.of hr2, rfl, _, _, rfl, _, _, rfl, rfl, ?_⟩
    have hP2 := hP.tk (same_tk s2)
    refine ⟨_, rfl, v, n, o, rfl, hP2.b, hn0, hn4, hnn, hch, fun H3 rt W1 g t s3 frt hw1 hf0 hs0 hT => ?_⟩
    have eW : W1 = W0 := hw1.uniq hw
    subst eW
    have hP3 := hP2.tk (same_tk s3)
    have L3 := L2'.mono s3
    have wa3 : WA H3 W := (wa1.mono s2).mono s3
    have sb3 : SB [W] H H3 := sb1.trans (same_sb (s2.trans s3) _)
    have nhl : hl ≠ W := fun z => wa1.ne fhl z.symm
    obtain ⟨xh, hx1, hx2⟩ := L3
    have hHl : (heavies n o W1).length ≤ 256 := Nat.le_trans (heavies_len n o W1) (pow4 hn4 hn4)
    have nicH : Nic 3328 (.tuple ((heavies n o W1).map dL)) := nic_dLs (fun l hl => ⟨fun j hj => Nat.lt_of_lt_of_le ((heavies_ch hl).1.lt j hj) hn4, by rw [(heavies_ch hl).1.len]; exact hn4⟩) hHl
    have layH : Lay 2 (.tuple ((heavies n o W1).map dL)) := lay_map_t lay_dL _
    have shH := shows nicH layH (by decide) (by decide)
    refine ⟨(5 : Int), rfl, by decide, by decide, ?_⟩
    refine for_range (lo := 0) (n := ((5 : Int)).toNat) (fun i σ H' => ∃ (x5 x6 x7 x8 x9 : Option V), σ = [some (.ref W), some v, some (.int W1), some (.ref hl), some (.ref rt), x5, x6, x7, x8, x9, none] ∧ SB [W] H3 H' ∧ WA H' W)
      ⟨none, none, none, none, none, rfl, SB.refl _ _, wa3⟩ (fun i σ H4 hi p => ?_) (fun σ H4 p => ?_)
    · obtain ⟨x5, x6, x7, x8, x9, rfl, sb4, wa4⟩ := p
      rw [show (0 : Int) + (i : Int) = (i : Int) by omega]
      have hP4 := hP3.tk (wa3.tk sb4)
      refine ⟨_, rfl, _, rfl, W, v, n, o, rfl, wa4, hP4, by omega, fun H5 u5 c5 d5 sb5 wa5 hO5 hc5 hd5 hf5 => ?_⟩
      refine ⟨_, rfl, rfl, _, rfl, ?_⟩
      refine if_join (fun σ H' => ∃ (x7 x8 x9 : Option V) (u : V) (c d : Nat → Int), σ = [some (.ref W), some v, some (.int W1), some (.ref hl), some (.ref rt), some (.int (i : Int)), some u, x7, x8, x9, none] ∧ SB [W] H3 H' ∧ WA H' W ∧ OffT H' u n c d ∧ Pos0 n c ∧ Pos0 n d ∧ Feas n o c d)
        (fun _ hrest => ?_) (fun _ hrest => hrest _ _ ⟨_, _, _, u5, c5, d5, rfl, sb4.trans sb5, wa5, hO5, hc5, hd5, hf5⟩) fun σ H6 p => ?_
      · have hP5 := hP4.tk (wa4.tk sb5)
        exact ⟨_, rfl, v, n, o, rfl, hP5.b, hn0, by omega, hnn, hch, fun H6 u c d s6 hO hc hd hf => hrest _ _ ⟨_, _, _, u, c, d, rfl, (sb4.trans sb5).trans (same_sb s6 _), wa5.mono s6, hO, hc, hd, hf⟩⟩
      obtain ⟨x7, x8, x9, u6, c6, d6, rfl, sb6, wa6, hO6, hc6, hd6, hf6⟩ := p
      refine ⟨_, rfl, _, _, rfl, rfl, _, rfl, ?_⟩
      refine and_join (fun σ H' => ∃ (x7 x8 x9 : Option V) (u : V) (c d : Nat → Int), σ = [some (.ref W), some v, some (.int W1), some (.ref hl), some (.ref rt), some (.int (i : Int)), some u, x7, x8, x9, none] ∧ SB [W] H3 H' ∧ WA H' W ∧ OffT H' u n c d ∧ Pos0 n c ∧ Pos0 n d ∧ Feas n o c d)
        (fun _ hrest => ?_) (fun hrest => hrest _ _ ⟨_, _, _, u6, c6, d6, rfl, sb6, wa6, hO6, hc6, hd6, hf6⟩) fun σ H7 p => ?_
      · refine ⟨_, rfl, _, _, rfl, rfl, _, rfl, ite2 (fun _ => ?_) (fun _ => hrest _ _ ⟨_, _, _, u6, c6, d6, rfl, sb6, wa6, hO6, hc6, hd6, hf6⟩)⟩
        have hx6 : H6 hl = some (.lst xh) := sb6 _ _ hx1 (by simpa using nhl)
        have hxl : xh.length = (heavies n o W1).length := Paired.length hx2
        refine ⟨_, rfl, _, rfl, _, rfl, W, hl, false, xh, rfl, wa6, SqB.lst hx6, nhl, ?_, by omega, fun H7 vb sb7 wa7 hvb => ?_⟩
        · rw [hxl]
          exact List.length_pos_iff.mpr (heavies_ne hw)
        obtain ⟨l, hlm, b, rfl, hb⟩ := paired_mem hx2 hvb
        obtain ⟨hlc, hlw⟩ := heavies_ch hlm
        have tk7 : TK H3 H7 := wa3.tk (sb6.trans sb7)
        have hP7 := hP3.tk tk7
        obtain ⟨a, bs, rfl, ha, hbs⟩ := id hP7
        refine ⟨_, rfl, _, rfl, true, a, _, rfl, SqB.tup ha, W, n, by rw [vec_len]; rfl, wa7, by omega, fun H8 S c0 sb8 wa8 fS hS hc0 => ?_⟩
        have tk8 : TK H3 H8 := wa3.tk ((sb6.trans sb7).trans sb8)
        refine ⟨_, b, S, n, o, l, c0, g, t, rfl, hP3.tk tk8, by omega, tk8 _ _ hb, hlc, hS, hc0, hnn, hf0, (best_tight hf0 hw hlc hs0).mpr hlw, fun H9 u c d s9 hO hc hd hf => ?_⟩
        exact hrest _ _ ⟨_, _, _, u, c, d, rfl, ((sb6.trans sb7).trans sb8).trans (same_sb s9 _), wa8.mono s9, hO, hc, hd, hf⟩
      obtain ⟨x7, x8, x9, u, c, d, rfl, sb7, wa7, hO, hc, hd, hf⟩ := p
      have hP7 := hP3.tk (wa3.tk sb7)
      obtain ⟨p, ca, da, rfl, hp, hca, hda⟩ := id hO
      refine ⟨_, rfl, _, rfl, true, p, _, 0, .ref ca, rfl, rfl, SqB.tup hp, rfl, _, rfl, true, p, _, 1, .ref da, rfl, rfl, SqB.tup hp, rfl, v, ca, da, n, o, c, d, rfl, hP7, by omega, hca, hda, fun H8 sp s8 fsp hSp => ?_⟩
      have hp8 := s8 _ _ hp
      have hca8 := s8 _ _ hca
      have hda8 := s8 _ _ hda
      rw [vec_ints] at hca8 hda8
      refine ⟨_, rfl, true, p, _, 1, .ref da, rfl, rfl, SqB.tup hp8, rfl, da, _, rfl, SqT.of hda8, ?_⟩
      refine ⟨_, rfl, true, p, _, 0, .ref ca, rfl, rfl, SqB.tup hp8, rfl, ca, _, rfl, SqT.of hca8, ?_⟩
      refine ⟨_, _, rfl, rfl, ?_⟩
      dsimp only
      refine ⟨_, rfl, rfl, ?_⟩
      dsimp only
      refine ⟨by show 2 ≤ sizeLine; decide, fun p9 hp9 => ?_⟩
      have eb : decide (V.int (((List.range n).map d).sum - ((List.range n).map c).sum) = V.int W1) = decide (span n c d = W1) := by
        rw [decide_eq_decide]
        exact ⟨fun z => V.int.inj z, fun z => by rw [← z]; rfl⟩
      rw [eb]
      have k9 : Same H8 (upd H8 p9 (.tup [.ref sp, .bl (decide (span n c d = W1))])) := same_upd hp9
      have e9 : upd H8 p9 (.tup [.ref sp, .bl (decide (span n c d = W1))]) p9 = some (.tup [.ref sp, .bl (decide (span n c d = W1))]) := upd_same
      generalize upd H8 p9 (.tup [.ref sp, .bl (decide (span n c d = W1))]) = H9 at k9 e9
      refine ⟨p9, _, rfl, SqT.of e9, rfl, _, _, rfl, _, _, rfl, rfl, ?_⟩
      have s9 : Same H4 H4 := fun _ _ e => e
      have k79 : Same _ H9 := s8.trans k9
      have hO9 := hO.tk (same_tk k79)
      have hP9 := hP7.tk (same_tk k79)
      have hSp9 := hSp.tk (same_tk k9)
      have nicS : Nic 112 (.tuple ((spots n o c d).map d2)) := nic_d2s (fun qq hqq => by
        obtain ⟨q1, q2, _⟩ := mem_spots (i := qq.1) (j := qq.2) |>.mp hqq
        exact ⟨Nat.lt_of_lt_of_le q1 hn4, Nat.lt_of_lt_of_le q2 hn4⟩) (Nat.le_trans (spots_len n o c d) (Nat.le_trans (Nat.mul_le_mul hn4 hn4) (by decide)))
      have layS : Lay 2 (.tuple ((spots n o c d).map d2)) := lay_map_t lay_d2 _
      have nicSS : Nic (2 * (112 + 1)) (.list [.tuple ((spots n o c d).map d2), .tuple ((spots n o c d).map d2)]) := nic_lst (fun dd hdd => by
        rcases List.mem_cons.mp hdd with e | e
        · rw [e]; exact nicS
        · rw [List.mem_singleton.mp e]; exact nicS) (Nat.le_refl _)
      have laySS : Lay 3 (.list [.tuple ((spots n o c d).map d2), .tuple ((spots n o c d).map d2)]) := lay_lst fun dd hdd => by
        rcases List.mem_cons.mp hdd with e | e
        · rw [e]; exact layS
        · rw [List.mem_singleton.mp e]; exact layS
      obtain ⟨sh1, sh2, sh3, sh4⟩ := shows nicSS laySS (by decide) (by decide)
      refine ⟨_, rfl, _, rfl, v, .ref p, n, o, c, d, rfl, hP9, hn0, by omega, hO9, hc, hd, hf, hnn, fun Ha ra sa fa Ta => ?_⟩
      refine ⟨_, rfl, _, rfl, v, .ref p, n, o, c, d, rfl, hP9.tk (same_tk sa), hn0, by omega, hO9.tk (same_tk sa), hc, hd, hf, hnn, fun Hb rb sb' fb Tb => ?_⟩
      refine ⟨by show 2 ≤ sizeLine; decide, fun pl hpl => ?_⟩
      have kc : Same Hb (upd Hb pl (.lst [.ref ra, .ref rb])) := same_upd hpl
      have ec : upd Hb pl (.lst [.ref ra, .ref rb]) pl = some (.lst [.ref ra, .ref rb]) := upd_same
      generalize upd Hb pl (.lst [.ref ra, .ref rb]) = Hc at kc ec
      refine ⟨.ref pl, .list [.tuple ((spots n o c d).map d2), .tuple ((spots n o c d).map d2)], rfl, .lst (SqL.of ec) (.cons (dp_tt (fun _ _ => dp_is2) (Ta.tk (same_tk (sb'.trans kc)))) (.cons (dp_tt (fun _ _ => dp_is2) (Tb.tk (same_tk kc))) .nil)), sh1, sh2, sh3, sh4, ?_⟩
      refine ⟨_, rfl, _, rfl, by show 2 ≤ sizeLine; decide, fun pm hpm => ?_⟩
      have kd : Same Hc (upd Hc pm (.lst [.ref sp, .ref sp])) := same_upd hpm
      have ed : upd Hc pm (.lst [.ref sp, .ref sp]) pm = some (.lst [.ref sp, .ref sp]) := upd_same
      generalize upd Hc pm (.lst [.ref sp, .ref sp]) = Hd at kd ed
      have k9d : Same H9 Hd := sa.trans (sb'.trans (kc.trans kd))
      have hSpd := hSp9.tk (same_tk k9d)
      refine ⟨.ref pm, .list [.tuple ((spots n o c d).map d2), .tuple ((spots n o c d).map d2)], rfl, .lst (SqL.of ed) (.cons (dp_tt (fun _ _ => dp_is2) hSpd) (.cons (dp_tt (fun _ _ => dp_is2) hSpd) .nil)), sh1, sh2, sh3, sh4, ?_⟩
      refine ⟨rfl, _, rfl, ?_⟩
      rw [decide_eq_true rfl]
      have sbd : SB [W] H3 Hd := sb7.trans (same_sb (k79.trans k9d) _)
      have wad : WA Hd W := (wa7.mono k79).mono k9d
      have tkd := wa3.tk sbd
      refine ⟨_, rfl, v, n, o, rfl, hP3.tk tkd, hn4, fun He rc se frc Lc => ?_⟩
      obtain ⟨xc, y1, y2, y3, y4⟩ := Lc.seq (K := K)
      refine ⟨false, rc, xc, rfl, y1, fun D hD => ?_⟩
      refine lc_it (walkB (T := false)) (fun j H' => Same He H' ∧ LT iL H' D (((allC n o n).take j).filter fun l => decide (∀ i, i < n → (i, l.getD i 0) ∈ spots n o c d))) ⟨same_upd hD, lt_nil⟩ (fun j H' _ p => SqB.mono (T := false) p.1 y1) (fun j x Hf Hg hj pI y => ?_) (fun Hf pI => ?_)
      · obtain ⟨rfl, hx⟩ := y
        obtain ⟨l, hl2, b, rfl, hb⟩ := paired_get y3 hx
        have hlc := mem_allC.mp (List.mem_of_getElem? hl2)
        refine ⟨rfl, _, rfl, _, rfl, b, sp, n, l, spots n o c d, rfl, by omega, hlc.len, pI.1 _ _ hb, (hSpd.tk (same_tk se)).tk (same_tk pI.1), fun Hh sh => ⟨_, rfl, ?_⟩⟩
        rw [List.take_add_one, hl2, List.filter_append]
        have e0 : (some l).toList.filter (fun l => decide (∀ i, i < n → (i, l.getD i 0) ∈ spots n o c d)) = if decide (∀ i, i < n → (i, l.getD i 0) ∈ spots n o c d) = true then [l] else [] := by
          show [l].filter _ = _
          rw [List.filter_cons, List.filter_nil]
        rw [e0]
        refine ite2 (fun hg => ?_) (fun hg => ?_)
        · rw [if_pos hg]
          have Lh := pI.2.mono sh
          obtain ⟨acc, w1, w2, w3, w4⟩ := Lh.seq (K := K)
          refine ⟨_, rfl, acc, w4, sz64' ?_, same_mut (pI.1.trans sh) hD, lt_snoc Lh w4 ⟨b, rfl, sh _ _ (pI.1 _ _ hb)⟩⟩
          rw [w2]
          have h1 := List.length_filter_le (fun l => decide (∀ i, i < n → (i, l.getD i 0) ∈ spots n o c d)) ((allC n o n).take j)
          have h2 := Nat.le_trans (allC_len n o n) (pow4 hn4 hn4)
          rw [List.length_take] at h1
          omega
        · rw [if_neg hg, List.append_nil]
          exact ⟨pI.1.trans sh, pI.2.mono sh⟩
      obtain ⟨sf, Lf⟩ := pI
      rw [y2, List.take_length] at Lf
      obtain ⟨xw, w1, w2⟩ := (show LT iL Hf D (within n o c d) from Lf)
      refine ⟨D, xw, rfl, SqL.of w1, fun wp hwp => ?_⟩
      have kg : Same Hf (upd Hf wp (.tup xw)) := same_upd hwp
      have hWp : TT iL (upd Hf wp (.tup xw)) wp (within n o c d) := ⟨xw, upd_same, Paired.mapP w2 fun _ _ y => y.tk (same_tk kg)⟩
      generalize upd Hf wp (.tup xw) = Hg at kg hWp
      have kdg : Same Hd Hg := se.trans (sf.trans kg)
      have nicW : Nic 3328 (.tuple ((within n o c d).map dL)) := nic_dLs (fun l hl => ⟨fun j hj => Nat.lt_of_lt_of_le ((within_ch hl).lt j hj) hn4, by rw [(within_ch hl).len]; exact hn4⟩) (Nat.le_trans (within_len n o c d) (pow4 hn4 hn4))
      have layW : Lay 2 (.tuple ((within n o c d).map dL)) := lay_map_t lay_dL _
      obtain ⟨sw1, sw2, sw3, sw4⟩ := shows nicW layW (by decide) (by decide)
      refine ⟨_, rfl, .ref wp, .tuple ((within n o c d).map dL), rfl, dp_tt (fun _ _ => dp_isL) hWp, sw1, sw2, sw3, sw4, ?_⟩
      refine ⟨_, rfl, _, rfl, ?_⟩
      have sbg : SB [W] H3 Hg := sbd.trans (same_sb kdg _)
      have wag : WA Hg W := wad.mono kdg
      have best : span n c d = W1 ↔ within n o c d ≠ [] := (best_iff hf hw).symm
      have hTg := hT.tk (wa3.tk sbg)
      refine told_or (fun x H' => Same Hg H' ∧ Dp K H' x (.tuple ((within n o c d).map dL))) (fun hb hk => ?_) (fun hb hk => ?_) fun x Hi hJ => ?_
      · have hb' := of_decide_eq_true hb
        refine ⟨_, rfl, hk _ _ ⟨fun _ _ e => e, ?_⟩⟩
        rw [within_best hf hw hb']
        exact dp_tt (fun _ _ => dp_isL) hTg
      · have hb' : ¬ span n c d = W1 := of_decide_eq_false hb
        refine ⟨by show 0 ≤ sizeLine; decide, fun pe0 hpe => hk _ _ ⟨same_upd hpe, ?_⟩⟩
        rw [within_worse hf hw hb']
        exact .tup (SqT.of upd_same) .nil
      obtain ⟨sgi, hdx⟩ := hJ
      refine ⟨x, .tuple ((within n o c d).map dL), rfl, hdx, sw1, sw2, sw3, sw4, ?_⟩
      refine ⟨rfl, _, rfl, ?_⟩
      rw [decide_eq_true rfl]
      have sbi : SB [W] H3 Hi := sbg.trans (same_sb sgi _)
      have wai : WA Hi W := wag.mono sgi
      have k9i : Same H9 Hi := k9d.trans (kdg.trans sgi)
      refine ⟨_, rfl, _, rfl, v, .ref p, n, o, c, d, rfl, hP9.tk (same_tk k9i), hn0, by omega, hO9.tk (same_tk k9i), hc, hd, hf, hnn, hch, fun Hk W2 sk hw2 => ?_⟩
      have eW2 : W2 = W1 := hw2.uniq hw
      subst eW2
      obtain ⟨sa1, sa2, sa3, sa4⟩ := shows (nic_bl (decide (span n c d = W2))) (lay_bl _) (by decide) (by decide)
      refine ⟨.bl _, .bool (decide (span n c d = W2)), rfl, .bl _, sa1, sa2, sa3, sa4, ?_⟩
      refine ⟨_, rfl, by show 0 ≤ sizeLine; decide, fun pz hpz => ?_⟩
      have kz : Same Hk (upd Hk pz (.tup [])) := same_upd hpz
      have ez : upd Hk pz (.tup []) pz = some (.tup []) := upd_same
      generalize upd Hk pz (.tup []) = Hz at kz ez
      have kgz : Same Hg Hz := sgi.trans (sk.trans kz)
      refine ⟨.tuple ((within n o c d).map dL), .tuple [], dp_tt (fun _ _ => dp_isL) (hWp.tk (same_tk kgz)), .tup (SqT.of ez) .nil, layW.shaped (by decide), (lay_tup (k := 0) fun x hx => absurd hx List.not_mem_nil).shaped (by decide), ?_⟩
      have eB : (!PyData.eqv (.tuple ((within n o c d).map dL)) (.tuple [])) = decide (span n c d = W2) := by
        rw [eqv_tmap_nil, Bool.eq_iff_iff, decide_eq_true_eq, best]
        cases within n o c d with
        | nil => exact ⟨fun z => (by cases z), fun z => absurd rfl z⟩
        | cons a r => exact ⟨fun _ z => (by cases z), fun _ => rfl⟩
      rw [eB]
      refine ⟨.bl _, .bool (decide (span n c d = W2)), rfl, .bl _, sa1, sa2, sa3, sa4, ?_⟩
      refine ⟨rfl, _, rfl, ?_⟩
      rw [decide_eq_true rfl]
      exact ⟨_, _, _, _, _, rfl, sbi.trans (same_sb (sk.trans kz) _), wai.mono (sk.trans kz)⟩
    ·
      obtain ⟨x5, x6, x7, x8, x9, rfl, sb4, wa4⟩ := p
      obtain ⟨sh1, sh2, sh3, sh4⟩ := shH
      have tk4 := wa3.tk sb4
      have hx4 : H4 hl = some (.lst xh) := sb4 _ _ hx1 (by simpa using nhl)
      refine ⟨_, rfl, .ref rt, .tuple ((heavies n o W1).map dL), rfl, dp_tt (fun _ _ => dp_isL) (hT.tk tk4), sh1, sh2, sh3, sh4, ?_⟩
      refine ⟨_, rfl, hl, xh, rfl, SqL.of hx4, fun tp htp => ?_⟩
      have kt : Same H4 (upd H4 tp (.tup xh)) := same_upd htp
      refine ⟨.ref tp, .tuple ((heavies n o W1).map dL), rfl, dp_tt (fun _ _ => dp_isL) (show TT iL _ tp (heavies n o W1) from ⟨xh, upd_same, Paired.mapP hx2 fun _ _ y => (y.tk tk4).tk (same_tk kt)⟩), sh1, sh2, sh3, sh4, ?_⟩
      refine ⟨rfl, ?_⟩
      rw [decide_eq_true rfl]
      exact q _ ((sb3.trans sb4).trans (same_sb kt _))
/-! ### law -/
abbrev N_law : List Str := ["_law_script", "_law_spot"]
abbrev P_law : List Str := ["_law_script"]
theorem sc_law : FnScope N_law P_law (defScope s_law) := ⟨rfl, rfl, rfl, by decide +kernel, rfl, by decide +kernel, by decide +kernel⟩
def sp_law (K : PySem.W.Frag) : Sp := fun vs H Q _ => ∃ (S : Addr) (ns : List Int), vs = [.ref S] ∧ SqL K H S (ns.map V.int) ∧ ∀ H', Q (.bl true) H'
theorem ok_law (T : Txt K mg) : FnG P w K mg base 11 T.f_law.f (sp_law K) := by
  refine fnG T.f_law.F T.f_law.b sc_law (fun vs H Q E h => ?_) (fun cdv A outer s H vs Q hr hgd h => ?_)
  · obtain ⟨S, ns, rfl, _⟩ := h
    rfl
  · obtain ⟨S, ns, rfl, hS, q⟩ := h
    refine ⟨_, (pss_cons (ps_for PassesOwn.never rfl (pi_range1 (by rfl) T.z_range (pa_cons (pe_callB (call_max2 rfl) (by rfl) T.z_max bz_max (pa_cons pe_int (pa_cons (pe_callB (call_min2 rfl) (by rfl) T.z_min bz_min (pa_cons (pe_callB (lenK K) (by rfl) T.z_len bz_len (pa_cons (pv 0) pa_nil)) (pa_cons pe_int pa_nil))) pa_nil))) pa_nil)) (pg_name (i := 1) sc_law.nd rfl (Or.inl rfl)) (pss_one (ps_if (pt_not (pt_val (pe_callG (ok_law_right T) (hr.mono (by decide)) hgd (by rfl) T.f_law_right.g T.f_law_right.F.kp (pa_cons (pe_call (ok_law_well T) (hr.mono (by decide)) (by rfl) T.f_law_well.g T.f_law_well.F.kp T.f_law_well.b .nil pass0 (pa_cons (pv 0) (pa_cons (pv 1) pa_nil))) pa_nil)))) (pss_one (ps_ret pe_bl)) pss_nil)))
      (pss_one (ps_ret pe_bl))), ?_⟩
    obtain ⟨J, eJ, hJ0, hJ6⟩ : ∃ J : Nat, (if (if (6 : Int) < ((ns.map V.int).length : Nat) then (6 : Int) else ((ns.map V.int).length : Nat)) > 2 then (if (6 : Int) < ((ns.map V.int).length : Nat) then (6 : Int) else ((ns.map V.int).length : Nat)) else 2) = (J : Int) ∧ 2 ≤ J ∧ J ≤ 6 := by
      refine ⟨(if (if (6 : Int) < ((ns.map V.int).length : Nat) then (6 : Int) else ((ns.map V.int).length : Nat)) > 2 then (if (6 : Int) < ((ns.map V.int).length : Nat) then (6 : Int) else ((ns.map V.int).length : Nat)) else 2).toNat, ?_, ?_, ?_⟩ <;> split <;> split <;> omega
    refine ⟨_, rfl, false, S, _, rfl, hS, _, _, rfl, _, _, rfl, (J : Int), congrArg (fun z => [V.int z]) eJ, by omega, by omega, ?_⟩
    refine for_range (lo := 0) (n := ((J : Int)).toNat) (fun i σ H' => ∃ (x1 : Option V), σ = [some (.ref S), x1] ∧ Same H H') ⟨none, rfl, fun _ _ e => e⟩ (fun i σ H' hi p => ?_) (fun σ H' p => ?_)
    · obtain ⟨x1, rfl, s1⟩ := p
      rw [show (0 : Int) + (i : Int) = (i : Int) by omega]
      refine ⟨_, rfl, _, rfl, S, ns, i, rfl, SqB.mono (T := false) s1 hS, by omega, fun H2 r s2 fr wa => ?_⟩
      refine ⟨r, rfl, wa, fun H3 sb3 => ⟨true, rfl, _, rfl, ?_⟩⟩
      refine same_of_sb (s1.trans s2) sb3 fun x hx => ?_
      have e : x = r := by simpa using hx
      rw [e]
      exact s1.free fr
    · exact q _
end
end Hid
/-! The end: what the top has left, and the law. -/
namespace Hid
open PySem PySem.Spec PyProof.Rows L2
section
variable {K : PySem.W.Frag} {h : Heap} {mg : Str → Option Value}
/-- how a def without defaults binds -/
abbrev Bnd (x qual : Str) (st : Stmt) (ps : List Str) : Prop := ∀ (kV doc pm : Value) (an : Option Addr) (cdv ct : Value) (us : List Value), us.length = ps.length → bindArgs (PySem.W.fnOf x qual (defArgs st) (defBody st) (defScope st) .none kV doc pm an cdv ct) ⟨us, []⟩ = pure (ps.zip us)
def def_mk {x : Str} {st : Stmt} {ps : List Str} {f : Addr} {oc : Value} {od an : Option Addr} {osl : Array (Option Value)} {kV doc pm cdv ct : Value} (X : K.In h) (G : h.Ns mainGlobals mg) (b : Bnd x x st ps) (a : PySem.W.nsIn K mainGlobals x = some (some (.ref f)))
    (l : K.lookup f = some ⟨oc, od, .func (PySem.W.fnOf x x (defArgs st) (defBody st) (defScope st) .none kV doc pm an cdv ct), osl⟩) (c : PySem.W.codeIn K cdv x = true) (k : PySem.W.keepIn K (.ref f) = true) : DefAt K mg x st ps :=
  ⟨f, _, fun_mk l c k, (fun_mk l c k).binds b, PySem.W.mg_of X G a⟩
def meth_mk {C : Addr} {x qual : Str} {st : Stmt} {ps : List Str} {f : Addr} {oc : Value} {od an : Option Addr} {osl : Array (Option Value)} {kV doc pm cdv ct : Value} (b : Bnd x qual st ps) (a : PySem.W.findIn K (.ref C) x = some (some (.ref f))) (i : PySem.W.isFn K (.ref f) = true)
    (l : K.lookup f = some ⟨oc, od, .func (PySem.W.fnOf x qual (defArgs st) (defBody st) (defScope st) .none kV doc pm an cdv ct), osl⟩) (c : PySem.W.codeIn K cdv qual = true) (k : PySem.W.keepIn K (.ref f) = true) : MethAt K C x qual st ps :=
  ⟨f, _, fun_mk l c k, (fun_mk l c k).binds b, ⟨a, i, k⟩⟩
end
theorem bn_is_whole : Bnd "is_whole" "is_whole" s_is_whole ["value"] := fun _ _ _ _ _ _ us hl => match us, hl with | [_], _ => rfl
theorem bn_are_wholes : Bnd "are_wholes" "are_wholes" s_are_wholes ["value", "many"] := fun _ _ _ _ _ _ us hl => match us, hl with | [_, _], _ => rfl
theorem bn_some_heaviest : Bnd "some_heaviest" "some_heaviest" s_some_heaviest ["pattern"] := fun _ _ _ _ _ _ us hl => match us, hl with | [_], _ => rfl
theorem bn_heaviest_number : Bnd "heaviest_number" "heaviest_number" s_heaviest_number ["pattern"] := fun _ _ _ _ _ _ us hl => match us, hl with | [_], _ => rfl
theorem bn_short_of : Bnd "short_of" "short_of" s_short_of ["pattern"] := fun _ _ _ _ _ _ us hl => match us, hl with | [_], _ => rfl
theorem bn_tight_pattern : Bnd "tight_pattern" "tight_pattern" s_tight_pattern ["pattern"] := fun _ _ _ _ _ _ us hl => match us, hl with | [_], _ => rfl
theorem bn_kept_to : Bnd "kept_to" "kept_to" s_kept_to ["row", "unknown"] := fun _ _ _ _ _ _ us hl => match us, hl with | [_, _], _ => rfl
theorem bn_can_begin : Bnd "can_begin" "can_begin" s_can_begin ["tight", "begun"] := fun _ _ _ _ _ _ us hl => match us, hl with | [_, _], _ => rfl
theorem bn_longer_by_one : Bnd "longer_by_one" "longer_by_one" s_longer_by_one ["tight", "begun"] := fun _ _ _ _ _ _ us hl => match us, hl with | [_, _], _ => rfl
theorem bn_heaviest_of : Bnd "heaviest_of" "heaviest_of" s_heaviest_of ["pattern"] := fun _ _ _ _ _ _ us hl => match us, hl with | [_], _ => rfl
theorem bn_is_square_of : Bnd "is_square_of" "is_square_of" s_is_square_of ["value", "test"] := fun _ _ _ _ _ _ us hl => match us, hl with | [_, _], _ => rfl
theorem bn_is_entry : Bnd "is_entry" "is_entry" s_is_entry ["value"] := fun _ _ _ _ _ _ us hl => match us, hl with | [_], _ => rfl
theorem bn_is_patterned : Bnd "is_patterned" "is_patterned" s_is_patterned ["value"] := fun _ _ _ _ _ _ us hl => match us, hl with | [_], _ => rfl
theorem bn_check_pattern : Bnd "check_pattern" "check_pattern" s_check_pattern ["value"] := fun _ _ _ _ _ _ us hl => match us, hl with | [_], _ => rfl
theorem bn_check_choices : Bnd "check_choices" "check_choices" s_check_choices ["pattern"] := fun _ _ _ _ _ _ us hl => match us, hl with | [_], _ => rfl
theorem bn_heaviest_choices : Bnd "heaviest_choices" "heaviest_choices" s_heaviest_choices ["pattern"] := fun _ _ _ _ _ _ us hl => match us, hl with | [_], _ => rfl
theorem bn_are_counts : Bnd "are_counts" "are_counts" s_are_counts ["value", "many"] := fun _ _ _ _ _ _ us hl => match us, hl with | [_, _], _ => rfl
theorem bn_mentions : Bnd "mentions" "mentions" s_mentions ["pattern"] := fun _ _ _ _ _ _ us hl => match us, hl with | [_], _ => rfl
theorem bn_are_offsets_of : Bnd "are_offsets_of" "are_offsets_of" s_are_offsets_of ["pattern", "value"] := fun _ _ _ _ _ _ us hl => match us, hl with | [_, _], _ => rfl
theorem bn_span_by : Bnd "span_by" "span_by" s_span_by ["offsets"] := fun _ _ _ _ _ _ us hl => match us, hl with | [_], _ => rfl
theorem bn_tops_over : Bnd "tops_over" "tops_over" s_tops_over ["pattern", "grown"] := fun _ _ _ _ _ _ us hl => match us, hl with | [_, _], _ => rfl
theorem bn_least_pair : Bnd "least_pair" "least_pair" s_least_pair ["pattern"] := fun _ _ _ _ _ _ us hl => match us, hl with | [_], _ => rfl
theorem bn_tight_by : Bnd "tight_by" "tight_by" s_tight_by ["pattern", "offsets"] := fun _ _ _ _ _ _ us hl => match us, hl with | [_, _], _ => rfl
theorem bn_check_offsets : Bnd "check_offsets" "check_offsets" s_check_offsets ["pattern", "value"] := fun _ _ _ _ _ _ us hl => match us, hl with | [_, _], _ => rfl
theorem bn_are_best : Bnd "are_best" "are_best" s_are_best ["pattern", "offsets"] := fun _ _ _ _ _ _ us hl => match us, hl with | [_, _], _ => rfl
theorem bn_least_offsets : Bnd "least_offsets" "least_offsets" s_least_offsets ["pattern"] := fun _ _ _ _ _ _ us hl => match us, hl with | [_], _ => rfl
theorem bn_tight_spots : Bnd "tight_spots" "tight_spots" s_tight_spots ["pattern", "offsets"] := fun _ _ _ _ _ _ us hl => match us, hl with | [_, _], _ => rfl
theorem bn_law_well : Bnd "_law_well" "_law_well" s_law_well ["_law_script", "_law_spot"] := fun _ _ _ _ _ _ us hl => match us, hl with | [_, _], _ => rfl
theorem bn_law_draw : Bnd "_law_draw" "_law_draw" s_law_draw ["_law_well_here", "_law_many"] := fun _ _ _ _ _ _ us hl => match us, hl with | [_, _], _ => rfl
theorem bn_law_pick : Bnd "_law_pick" "_law_pick" s_law_pick ["_law_well_here", "_law_some"] := fun _ _ _ _ _ _ us hl => match us, hl with | [_, _], _ => rfl
theorem bn_law_order_list : Bnd "_law_order_list" "_law_order_list" s_law_order_list ["_law_well_here", "_law_n"] := fun _ _ _ _ _ _ us hl => match us, hl with | [_, _], _ => rfl
theorem bn_law_grid : Bnd "_law_grid" "_law_grid" s_law_grid ["_law_well_here", "_law_most"] := fun _ _ _ _ _ _ us hl => match us, hl with | [_, _], _ => rfl
theorem bn_law_choices : Bnd "_law_choices" "_law_choices" s_law_choices ["_law_rows"] := fun _ _ _ _ _ _ us hl => match us, hl with | [_], _ => rfl
theorem bn_law_weight : Bnd "_law_weight" "_law_weight" s_law_weight ["_law_rows", "_law_some"] := fun _ _ _ _ _ _ us hl => match us, hl with | [_, _], _ => rfl
theorem bn_law_heaviest : Bnd "_law_heaviest" "_law_heaviest" s_law_heaviest ["_law_rows"] := fun _ _ _ _ _ _ us hl => match us, hl with | [_], _ => rfl
theorem bn_law_best_from : Bnd "_law_best_from" "_law_best_from" s_law_best_from ["_law_rows", "_law_some", "_law_start_here"] := fun _ _ _ _ _ _ us hl => match us, hl with | [_, _, _], _ => rfl
theorem bn_law_filled : Bnd "_law_filled" "_law_filled" s_law_filled ["_law_well_here", "_law_most", "_law_high"] := fun _ _ _ _ _ _ us hl => match us, hl with | [_, _, _], _ => rfl
theorem bn_law_start : Bnd "_law_start" "_law_start" s_law_start ["_law_well_here", "_law_n"] := fun _ _ _ _ _ _ us hl => match us, hl with | [_, _], _ => rfl
theorem bn_law_any_offsets : Bnd "_law_any_offsets" "_law_any_offsets" s_law_any_offsets ["_law_well_here", "_law_rows"] := fun _ _ _ _ _ _ us hl => match us, hl with | [_, _], _ => rfl
theorem bn_law_tight : Bnd "_law_tight" "_law_tight" s_law_tight ["_law_rows", "_law_c", "_law_d"] := fun _ _ _ _ _ _ us hl => match us, hl with | [_, _, _], _ => rfl
theorem bn_law_lies_on : Bnd "_law_lies_on" "_law_lies_on" s_law_lies_on ["_law_some", "_law_spots"] := fun _ _ _ _ _ _ us hl => match us, hl with | [_, _], _ => rfl
theorem bn_law_right : Bnd "_law_right" "_law_right" s_law_right ["_law_well_here"] := fun _ _ _ _ _ _ us hl => match us, hl with | [_], _ => rfl
theorem bn_law : Bnd "law" "law" s_law ["_law_script"] := fun _ _ _ _ _ _ us hl => match us, hl with | [_], _ => rfl
theorem bn_init : Bnd "__init__" "Choosing.__init__" s_init ["self", "pattern"] := fun _ _ _ _ _ _ us hl => match us, hl with | [_, _], _ => rfl
theorem bn_gaps_of : Bnd "gaps_of" "Choosing.gaps_of" s_gaps_of ["self", "equation"] := fun _ _ _ _ _ _ us hl => match us, hl with | [_, _], _ => rfl
theorem bn_take_in : Bnd "take_in" "Choosing.take_in" s_take_in ["self", "equation"] := fun _ _ _ _ _ _ us hl => match us, hl with | [_, _], _ => rfl
theorem bn_reached : Bnd "reached" "Choosing.reached" s_reached ["self", "start"] := fun _ _ _ _ _ _ us hl => match us, hl with | [_, _], _ => rfl
theorem bn_free_in : Bnd "free_in" "Choosing.free_in" s_free_in ["self", "came"] := fun _ _ _ _ _ _ us hl => match us, hl with | [_, _], _ => rfl
theorem bn_raise_by : Bnd "raise_by" "Choosing.raise_by" s_raise_by ["self", "lot", "came"] := fun _ _ _ _ _ _ us hl => match us, hl with | [_, _, _], _ => rfl
theorem bn_hand_on : Bnd "hand_on" "Choosing.hand_on" s_hand_on ["self", "unknown", "came"] := fun _ _ _ _ _ _ us hl => match us, hl with | [_, _, _], _ => rfl
theorem bn_choice : Bnd "choice" "Choosing.choice" s_choice ["self"] := fun _ _ _ _ _ _ us hl => match us, hl with | [_], _ => rfl
theorem all_mk {l : PySem.W.OpenLaw} {w : World} {K : PySem.W.Frag} {h : Heap} {mg : Str → Option Value} {fa C : Addr} (X : K.In h) (G : h.Ns mainGlobals mg) (hfa : mg "law" = some (.ref fa)) (aC : PySem.W.nsIn K mainGlobals "Choosing" = some (some (.ref C)))
    (pg : PySem.W.plainGet K C Str.empty = true) (hd : PySem.W.hasDictIn K C = true) (po : PySem.W.plainOver K C = true) (sa : PySem.W.findIn K (.ref C) "__setattr__" = some (some (.builtin "object.__setattr__"))) (mk : PySem.W.makesIn K C = true) (kc : PySem.W.keepIn K (.ref C) = true)
    (n_pattern : PySem.W.findIn K (.ref C) "pattern" = some none)
    (n_owners : PySem.W.findIn K (.ref C) "owners" = some none)
    (n_grown : PySem.W.findIn K (.ref C) "grown" = some none)
    (n_tops : PySem.W.findIn K (.ref C) "tops" = some none)
    (n_short : PySem.W.findIn K (.ref C) "short" = some none)
    (z_isinstance : PySem.W.nsIn K mainGlobals "isinstance" = some none)
    (z_int : PySem.W.nsIn K mainGlobals "int" = some none)
    (z_bool : PySem.W.nsIn K mainGlobals "bool" = some none)
    (z_tuple : PySem.W.nsIn K mainGlobals "tuple" = some none)
    (z_len : PySem.W.nsIn K mainGlobals "len" = some none)
    (z_range : PySem.W.nsIn K mainGlobals "range" = some none)
    (z_enumerate : PySem.W.nsIn K mainGlobals "enumerate" = some none)
    (z_zip : PySem.W.nsIn K mainGlobals "zip" = some none)
    (z_min : PySem.W.nsIn K mainGlobals "min" = some none)
    (z_max : PySem.W.nsIn K mainGlobals "max" = some none)
    (z_sum : PySem.W.nsIn K mainGlobals "sum" = some none)
    (z_sorted : PySem.W.nsIn K mainGlobals "sorted" = some none)
    (z_all : PySem.W.nsIn K mainGlobals "all" = some none)
    (z_list : PySem.W.nsIn K mainGlobals "list" = some none)
    (z_abs : PySem.W.nsIn K mainGlobals "abs" = some none)
    (z_divmod : PySem.W.nsIn K mainGlobals "divmod" = some none)
    (z_repr : PySem.W.nsIn K mainGlobals "repr" = some none)
    (m_init : MethAt K C "__init__" "Choosing.__init__" s_init ["self", "pattern"])
    (m_gaps_of : MethAt K C "gaps_of" "Choosing.gaps_of" s_gaps_of ["self", "equation"])
    (m_take_in : MethAt K C "take_in" "Choosing.take_in" s_take_in ["self", "equation"])
    (m_reached : MethAt K C "reached" "Choosing.reached" s_reached ["self", "start"])
    (m_free_in : MethAt K C "free_in" "Choosing.free_in" s_free_in ["self", "came"])
    (m_raise_by : MethAt K C "raise_by" "Choosing.raise_by" s_raise_by ["self", "lot", "came"])
    (m_hand_on : MethAt K C "hand_on" "Choosing.hand_on" s_hand_on ["self", "unknown", "came"])
    (m_choice : MethAt K C "choice" "Choosing.choice" s_choice ["self"])
    (f_is_whole : DefAt K mg "is_whole" s_is_whole ["value"])
    (f_are_wholes : DefAt K mg "are_wholes" s_are_wholes ["value", "many"])
    (f_some_heaviest : DefAt K mg "some_heaviest" s_some_heaviest ["pattern"])
    (f_heaviest_number : DefAt K mg "heaviest_number" s_heaviest_number ["pattern"])
    (f_short_of : DefAt K mg "short_of" s_short_of ["pattern"])
    (f_tight_pattern : DefAt K mg "tight_pattern" s_tight_pattern ["pattern"])
    (f_kept_to : DefAt K mg "kept_to" s_kept_to ["row", "unknown"])
    (f_can_begin : DefAt K mg "can_begin" s_can_begin ["tight", "begun"])
    (f_longer_by_one : DefAt K mg "longer_by_one" s_longer_by_one ["tight", "begun"])
    (f_heaviest_of : DefAt K mg "heaviest_of" s_heaviest_of ["pattern"])
    (f_is_square_of : DefAt K mg "is_square_of" s_is_square_of ["value", "test"])
    (f_is_entry : DefAt K mg "is_entry" s_is_entry ["value"])
    (f_is_patterned : DefAt K mg "is_patterned" s_is_patterned ["value"])
    (f_check_pattern : DefAt K mg "check_pattern" s_check_pattern ["value"])
    (f_check_choices : DefAt K mg "check_choices" s_check_choices ["pattern"])
    (f_heaviest_choices : DefAt K mg "heaviest_choices" s_heaviest_choices ["pattern"])
    (f_are_counts : DefAt K mg "are_counts" s_are_counts ["value", "many"])
    (f_mentions : DefAt K mg "mentions" s_mentions ["pattern"])
    (f_are_offsets_of : DefAt K mg "are_offsets_of" s_are_offsets_of ["pattern", "value"])
    (f_span_by : DefAt K mg "span_by" s_span_by ["offsets"])
    (f_tops_over : DefAt K mg "tops_over" s_tops_over ["pattern", "grown"])
    (f_least_pair : DefAt K mg "least_pair" s_least_pair ["pattern"])
    (f_tight_by : DefAt K mg "tight_by" s_tight_by ["pattern", "offsets"])
    (f_check_offsets : DefAt K mg "check_offsets" s_check_offsets ["pattern", "value"])
    (f_are_best : DefAt K mg "are_best" s_are_best ["pattern", "offsets"])
    (f_least_offsets : DefAt K mg "least_offsets" s_least_offsets ["pattern"])
    (f_tight_spots : DefAt K mg "tight_spots" s_tight_spots ["pattern", "offsets"])
    (f_law_well : DefAt K mg "_law_well" s_law_well ["_law_script", "_law_spot"])
    (f_law_draw : DefAt K mg "_law_draw" s_law_draw ["_law_well_here", "_law_many"])
    (f_law_pick : DefAt K mg "_law_pick" s_law_pick ["_law_well_here", "_law_some"])
    (f_law_order_list : DefAt K mg "_law_order_list" s_law_order_list ["_law_well_here", "_law_n"])
    (f_law_grid : DefAt K mg "_law_grid" s_law_grid ["_law_well_here", "_law_most"])
    (f_law_choices : DefAt K mg "_law_choices" s_law_choices ["_law_rows"])
    (f_law_weight : DefAt K mg "_law_weight" s_law_weight ["_law_rows", "_law_some"])
    (f_law_heaviest : DefAt K mg "_law_heaviest" s_law_heaviest ["_law_rows"])
    (f_law_best_from : DefAt K mg "_law_best_from" s_law_best_from ["_law_rows", "_law_some", "_law_start_here"])
    (f_law_filled : DefAt K mg "_law_filled" s_law_filled ["_law_well_here", "_law_most", "_law_high"])
    (f_law_start : DefAt K mg "_law_start" s_law_start ["_law_well_here", "_law_n"])
    (f_law_any_offsets : DefAt K mg "_law_any_offsets" s_law_any_offsets ["_law_well_here", "_law_rows"])
    (f_law_tight : DefAt K mg "_law_tight" s_law_tight ["_law_rows", "_law_c", "_law_d"])
    (f_law_lies_on : DefAt K mg "_law_lies_on" s_law_lies_on ["_law_some", "_law_spots"])
    (f_law_right : DefAt K mg "_law_right" s_law_right ["_law_well_here"])
    (f_law : DefAt K mg "law" s_law ["_law_script"])
    : ∀ base : Heap, K.In base → base.Ns mainGlobals mg → FnG l.prog w K mg base 11 fa (sp_law K) := by
  intro base _ _
  let T : Txt K mg := { C := C, cls := ⟨pg, hd, po, sa⟩, gC := PySem.W.mg_of X G aC, n_pattern := n_pattern, n_owners := n_owners, n_grown := n_grown, n_tops := n_tops, n_short := n_short, m_init := m_init, m_gaps_of := m_gaps_of, m_take_in := m_take_in, m_reached := m_reached, m_free_in := m_free_in, m_raise_by := m_raise_by, m_hand_on := m_hand_on, m_choice := m_choice, mkC := ⟨mk, m_init.m.at_, m_init.m.fn, kc⟩, f_is_whole := f_is_whole, f_are_wholes := f_are_wholes, f_some_heaviest := f_some_heaviest, f_heaviest_number := f_heaviest_number, f_short_of := f_short_of, f_tight_pattern := f_tight_pattern, f_kept_to := f_kept_to, f_can_begin := f_can_begin, f_longer_by_one := f_longer_by_one, f_heaviest_of := f_heaviest_of, f_is_square_of := f_is_square_of, f_is_entry := f_is_entry, f_is_patterned := f_is_patterned, f_check_pattern := f_check_pattern, f_check_choices := f_check_choices, f_heaviest_choices := f_heaviest_choices, f_are_counts := f_are_counts, f_mentions := f_mentions, f_are_offsets_of := f_are_offsets_of, f_span_by := f_span_by, f_tops_over := f_tops_over, f_least_pair := f_least_pair, f_tight_by := f_tight_by, f_check_offsets := f_check_offsets, f_are_best := f_are_best, f_least_offsets := f_least_offsets, f_tight_spots := f_tight_spots, f_law_well := f_law_well, f_law_draw := f_law_draw, f_law_pick := f_law_pick, f_law_order_list := f_law_order_list, f_law_grid := f_law_grid, f_law_choices := f_law_choices, f_law_weight := f_law_weight, f_law_heaviest := f_law_heaviest, f_law_best_from := f_law_best_from, f_law_filled := f_law_filled, f_law_start := f_law_start, f_law_any_offsets := f_law_any_offsets, f_law_tight := f_law_tight, f_law_lies_on := f_law_lies_on, f_law_right := f_law_right, f_law := f_law, z_isinstance := PySem.W.mg_none_of X G z_isinstance, z_int := PySem.W.mg_none_of X G z_int, z_bool := PySem.W.mg_none_of X G z_bool, z_tuple := PySem.W.mg_none_of X G z_tuple, z_len := PySem.W.mg_none_of X G z_len, z_range := PySem.W.mg_none_of X G z_range, z_enumerate := PySem.W.mg_none_of X G z_enumerate, z_zip := PySem.W.mg_none_of X G z_zip, z_min := PySem.W.mg_none_of X G z_min, z_max := PySem.W.mg_none_of X G z_max, z_sum := PySem.W.mg_none_of X G z_sum, z_sorted := PySem.W.mg_none_of X G z_sorted, z_all := PySem.W.mg_none_of X G z_all, z_list := PySem.W.mg_none_of X G z_list, z_abs := PySem.W.mg_none_of X G z_abs, z_divmod := PySem.W.mg_none_of X G z_divmod, z_repr := PySem.W.mg_none_of X G z_repr }
  have e := hfa.symm.trans f_law.g
  have e2 : fa = f_law.f := by injection e with e; injection e
  rw [e2]
  exact ok_law T
end Hid
open PySem PySem.W PyProof.Rows in
set_option maxHeartbeats 0 in
theorem PySem.Challenge.cw_hiddenties_k19_whole_tight_spots_and_hea_holds : PySem.Challenge.rw_hiddenties_k19_whole_tight_spots_and_hea.Holds := by
  w_on; o_law; k_head; (case hw => w_witness2)
  k_fill
  refine Hid.walkG (l := PySem.Challenge.rw_hiddenties_k19_whole_tight_spots_and_hea) (n := 63) (k := 11) (sp := fun K => Hid.sp_law K) rfl (by decide) rfl ⟨rfl, by decide, by decide⟩ (fun w h Y => PySem.W.kIn_of Y) ?F ?hsp
  case hsp => exact fun K H a ns _ hS => ⟨a, ns, rfl, hS, fun _ => rfl⟩
  case F =>
    intro w mg fa h KX G hmg
    refine' Hid.all_mk KX G hmg ?aC ?pg ?hd ?po ?sa ?mk ?kc ?n_pattern ?n_owners ?n_grown ?n_tops ?n_short ?z_isinstance ?z_int ?z_bool ?z_tuple ?z_len ?z_range ?z_enumerate ?z_zip ?z_min ?z_max ?z_sum ?z_sorted ?z_all ?z_list ?z_abs ?z_divmod ?z_repr ?m_init ?m_gaps_of ?m_take_in ?m_reached ?m_free_in ?m_raise_by ?m_hand_on ?m_choice ?f_is_whole ?f_are_wholes ?f_some_heaviest ?f_heaviest_number ?f_short_of ?f_tight_pattern ?f_kept_to ?f_can_begin ?f_longer_by_one ?f_heaviest_of ?f_is_square_of ?f_is_entry ?f_is_patterned ?f_check_pattern ?f_check_choices ?f_heaviest_choices ?f_are_counts ?f_mentions ?f_are_offsets_of ?f_span_by ?f_tops_over ?f_least_pair ?f_tight_by ?f_check_offsets ?f_are_best ?f_least_offsets ?f_tight_spots ?f_law_well ?f_law_draw ?f_law_pick ?f_law_order_list ?f_law_grid ?f_law_choices ?f_law_weight ?f_law_heaviest ?f_law_best_from ?f_law_filled ?f_law_start ?f_law_any_offsets ?f_law_tight ?f_law_lies_on ?f_law_right ?f_law
    (case aC => k_is)
    (case pg => k_is)
    (case hd => k_is)
    (case po => k_is)
    (case sa => k_is)
    (case mk => k_is)
    (case kc => k_is)
    (case n_pattern => k_is)
    (case n_owners => k_is)
    (case n_grown => k_is)
    (case n_tops => k_is)
    (case n_short => k_is)
    (case z_isinstance => k_is)
    (case z_int => k_is)
    (case z_bool => k_is)
    (case z_tuple => k_is)
    (case z_len => k_is)
    (case z_range => k_is)
    (case z_enumerate => k_is)
    (case z_zip => k_is)
    (case z_min => k_is)
    (case z_max => k_is)
    (case z_sum => k_is)
    (case z_sorted => k_is)
    (case z_all => k_is)
    (case z_list => k_is)
    (case z_abs => k_is)
    (case z_divmod => k_is)
    (case z_repr => k_is)
    (case m_init => refine' Hid.meth_mk Hid.bn_init ?a ?i ?l ?c ?k; (case a => k_is); (case i => k_is); (case l => k_is); (case c => k_is); (case k => k_is))
    (case m_gaps_of => refine' Hid.meth_mk Hid.bn_gaps_of ?a ?i ?l ?c ?k; (case a => k_is); (case i => k_is); (case l => k_is); (case c => k_is); (case k => k_is))
    (case m_take_in => refine' Hid.meth_mk Hid.bn_take_in ?a ?i ?l ?c ?k; (case a => k_is); (case i => k_is); (case l => k_is); (case c => k_is); (case k => k_is))
    (case m_reached => refine' Hid.meth_mk Hid.bn_reached ?a ?i ?l ?c ?k; (case a => k_is); (case i => k_is); (case l => k_is); (case c => k_is); (case k => k_is))
    (case m_free_in => refine' Hid.meth_mk Hid.bn_free_in ?a ?i ?l ?c ?k; (case a => k_is); (case i => k_is); (case l => k_is); (case c => k_is); (case k => k_is))
    (case m_raise_by => refine' Hid.meth_mk Hid.bn_raise_by ?a ?i ?l ?c ?k; (case a => k_is); (case i => k_is); (case l => k_is); (case c => k_is); (case k => k_is))
    (case m_hand_on => refine' Hid.meth_mk Hid.bn_hand_on ?a ?i ?l ?c ?k; (case a => k_is); (case i => k_is); (case l => k_is); (case c => k_is); (case k => k_is))
    (case m_choice => refine' Hid.meth_mk Hid.bn_choice ?a ?i ?l ?c ?k; (case a => k_is); (case i => k_is); (case l => k_is); (case c => k_is); (case k => k_is))
    (case f_is_whole => refine' Hid.def_mk KX G Hid.bn_is_whole ?a ?l ?c ?k; (case a => k_is); (case l => k_is); (case c => k_is); (case k => k_is))
    (case f_are_wholes => refine' Hid.def_mk KX G Hid.bn_are_wholes ?a ?l ?c ?k; (case a => k_is); (case l => k_is); (case c => k_is); (case k => k_is))
    (case f_some_heaviest => refine' Hid.def_mk KX G Hid.bn_some_heaviest ?a ?l ?c ?k; (case a => k_is); (case l => k_is); (case c => k_is); (case k => k_is))
    (case f_heaviest_number => refine' Hid.def_mk KX G Hid.bn_heaviest_number ?a ?l ?c ?k; (case a => k_is); (case l => k_is); (case c => k_is); (case k => k_is))
    (case f_short_of => refine' Hid.def_mk KX G Hid.bn_short_of ?a ?l ?c ?k; (case a => k_is); (case l => k_is); (case c => k_is); (case k => k_is))
    (case f_tight_pattern => refine' Hid.def_mk KX G Hid.bn_tight_pattern ?a ?l ?c ?k; (case a => k_is); (case l => k_is); (case c => k_is); (case k => k_is))
    (case f_kept_to => refine' Hid.def_mk KX G Hid.bn_kept_to ?a ?l ?c ?k; (case a => k_is); (case l => k_is); (case c => k_is); (case k => k_is))
    (case f_can_begin => refine' Hid.def_mk KX G Hid.bn_can_begin ?a ?l ?c ?k; (case a => k_is); (case l => k_is); (case c => k_is); (case k => k_is))
    (case f_longer_by_one => refine' Hid.def_mk KX G Hid.bn_longer_by_one ?a ?l ?c ?k; (case a => k_is); (case l => k_is); (case c => k_is); (case k => k_is))
    (case f_heaviest_of => refine' Hid.def_mk KX G Hid.bn_heaviest_of ?a ?l ?c ?k; (case a => k_is); (case l => k_is); (case c => k_is); (case k => k_is))
    (case f_is_square_of => refine' Hid.def_mk KX G Hid.bn_is_square_of ?a ?l ?c ?k; (case a => k_is); (case l => k_is); (case c => k_is); (case k => k_is))
    (case f_is_entry => refine' Hid.def_mk KX G Hid.bn_is_entry ?a ?l ?c ?k; (case a => k_is); (case l => k_is); (case c => k_is); (case k => k_is))
    (case f_is_patterned => refine' Hid.def_mk KX G Hid.bn_is_patterned ?a ?l ?c ?k; (case a => k_is); (case l => k_is); (case c => k_is); (case k => k_is))
    (case f_check_pattern => refine' Hid.def_mk KX G Hid.bn_check_pattern ?a ?l ?c ?k; (case a => k_is); (case l => k_is); (case c => k_is); (case k => k_is))
    (case f_check_choices => refine' Hid.def_mk KX G Hid.bn_check_choices ?a ?l ?c ?k; (case a => k_is); (case l => k_is); (case c => k_is); (case k => k_is))
    (case f_heaviest_choices => refine' Hid.def_mk KX G Hid.bn_heaviest_choices ?a ?l ?c ?k; (case a => k_is); (case l => k_is); (case c => k_is); (case k => k_is))
    (case f_are_counts => refine' Hid.def_mk KX G Hid.bn_are_counts ?a ?l ?c ?k; (case a => k_is); (case l => k_is); (case c => k_is); (case k => k_is))
    (case f_mentions => refine' Hid.def_mk KX G Hid.bn_mentions ?a ?l ?c ?k; (case a => k_is); (case l => k_is); (case c => k_is); (case k => k_is))
    (case f_are_offsets_of => refine' Hid.def_mk KX G Hid.bn_are_offsets_of ?a ?l ?c ?k; (case a => k_is); (case l => k_is); (case c => k_is); (case k => k_is))
    (case f_span_by => refine' Hid.def_mk KX G Hid.bn_span_by ?a ?l ?c ?k; (case a => k_is); (case l => k_is); (case c => k_is); (case k => k_is))
    (case f_tops_over => refine' Hid.def_mk KX G Hid.bn_tops_over ?a ?l ?c ?k; (case a => k_is); (case l => k_is); (case c => k_is); (case k => k_is))
    (case f_least_pair => refine' Hid.def_mk KX G Hid.bn_least_pair ?a ?l ?c ?k; (case a => k_is); (case l => k_is); (case c => k_is); (case k => k_is))
    (case f_tight_by => refine' Hid.def_mk KX G Hid.bn_tight_by ?a ?l ?c ?k; (case a => k_is); (case l => k_is); (case c => k_is); (case k => k_is))
    (case f_check_offsets => refine' Hid.def_mk KX G Hid.bn_check_offsets ?a ?l ?c ?k; (case a => k_is); (case l => k_is); (case c => k_is); (case k => k_is))
    (case f_are_best => refine' Hid.def_mk KX G Hid.bn_are_best ?a ?l ?c ?k; (case a => k_is); (case l => k_is); (case c => k_is); (case k => k_is))
    (case f_least_offsets => refine' Hid.def_mk KX G Hid.bn_least_offsets ?a ?l ?c ?k; (case a => k_is); (case l => k_is); (case c => k_is); (case k => k_is))
    (case f_tight_spots => refine' Hid.def_mk KX G Hid.bn_tight_spots ?a ?l ?c ?k; (case a => k_is); (case l => k_is); (case c => k_is); (case k => k_is))
    (case f_law_well => refine' Hid.def_mk KX G Hid.bn_law_well ?a ?l ?c ?k; (case a => k_is); (case l => k_is); (case c => k_is); (case k => k_is))
    (case f_law_draw => refine' Hid.def_mk KX G Hid.bn_law_draw ?a ?l ?c ?k; (case a => k_is); (case l => k_is); (case c => k_is); (case k => k_is))
    (case f_law_pick => refine' Hid.def_mk KX G Hid.bn_law_pick ?a ?l ?c ?k; (case a => k_is); (case l => k_is); (case c => k_is); (case k => k_is))
    (case f_law_order_list => refine' Hid.def_mk KX G Hid.bn_law_order_list ?a ?l ?c ?k; (case a => k_is); (case l => k_is); (case c => k_is); (case k => k_is))
    (case f_law_grid => refine' Hid.def_mk KX G Hid.bn_law_grid ?a ?l ?c ?k; (case a => k_is); (case l => k_is); (case c => k_is); (case k => k_is))
    (case f_law_choices => refine' Hid.def_mk KX G Hid.bn_law_choices ?a ?l ?c ?k; (case a => k_is); (case l => k_is); (case c => k_is); (case k => k_is))
    (case f_law_weight => refine' Hid.def_mk KX G Hid.bn_law_weight ?a ?l ?c ?k; (case a => k_is); (case l => k_is); (case c => k_is); (case k => k_is))
    (case f_law_heaviest => refine' Hid.def_mk KX G Hid.bn_law_heaviest ?a ?l ?c ?k; (case a => k_is); (case l => k_is); (case c => k_is); (case k => k_is))
    (case f_law_best_from => refine' Hid.def_mk KX G Hid.bn_law_best_from ?a ?l ?c ?k; (case a => k_is); (case l => k_is); (case c => k_is); (case k => k_is))
    (case f_law_filled => refine' Hid.def_mk KX G Hid.bn_law_filled ?a ?l ?c ?k; (case a => k_is); (case l => k_is); (case c => k_is); (case k => k_is))
    (case f_law_start => refine' Hid.def_mk KX G Hid.bn_law_start ?a ?l ?c ?k; (case a => k_is); (case l => k_is); (case c => k_is); (case k => k_is))
    (case f_law_any_offsets => refine' Hid.def_mk KX G Hid.bn_law_any_offsets ?a ?l ?c ?k; (case a => k_is); (case l => k_is); (case c => k_is); (case k => k_is))
    (case f_law_tight => refine' Hid.def_mk KX G Hid.bn_law_tight ?a ?l ?c ?k; (case a => k_is); (case l => k_is); (case c => k_is); (case k => k_is))
    (case f_law_lies_on => refine' Hid.def_mk KX G Hid.bn_law_lies_on ?a ?l ?c ?k; (case a => k_is); (case l => k_is); (case c => k_is); (case k => k_is))
    (case f_law_right => refine' Hid.def_mk KX G Hid.bn_law_right ?a ?l ?c ?k; (case a => k_is); (case l => k_is); (case c => k_is); (case k => k_is))
    (case f_law => refine' Hid.def_mk KX G Hid.bn_law ?a ?l ?c ?k; (case a => k_is); (case l => k_is); (case c => k_is); (case k => k_is))
