import PyProof.Rows.All
import Wide.All
import OpenK.AllK
import Wide.FinOn
import Open.SpecLaws
import KE.OsGo
import HandS.ForSpec
import HandS.Comp
import HandS.Iter
import HandS.Walk
import PySem.Challenge.RW_spindlerounds_s02_best
set_option Elab.async false
set_option maxRecDepth 100000
set_option maxHeartbeats 4000000
namespace Mir
open Kzd3
/-! The mirror: the program's own data as plain Lean. -/
structure M where
  p : Nat
  place : Nat
  up : Nat
  broken : List Bool
  lost : List Nat
  pieced : Nat
  total : Nat
  longest : Nat
def fresh (n p place up : Nat) : M := ⟨p, place, up, List.replicate n false, List.replicate n 0, 0, 0, 0⟩
def brk1 (m : M) (s : Nat) : M := if m.broken.getD s true = true then m else { m with broken := m.broken.set s true, lost := m.lost.set s 0 }
def brk (m : M) (ss : List Nat) : M := ss.foldl brk1 m
def turn (m : M) : Nat := if (m.up = 1 ∧ m.place = m.broken.length - 1) ∨ (m.up = 0 ∧ m.place = 0) then 1 - m.up else m.up
def move (m : M) : M := if m.broken.length = 1 then m else { m with up := turn m, place := m.place + 2 * turn m - 1 }
def work (m : M) : M := if m.broken.getD m.place true = true then (if m.pieced + 1 = m.p then { m with pieced := 0, broken := m.broken.set m.place false, lost := m.lost.set m.place 0 } else { m with pieced := m.pieced + 1 }) else move m
def lose1 (m : M) (i : Nat) : M := if m.broken.getD i false = true then { m with lost := m.lost.set i (m.lost.getD i 0 + 1), total := m.total + 1, longest := max m.longest (m.lost.getD i 0 + 1) } else m
def loseN (m : M) : Nat → M
  | 0 => m
  | i + 1 => lose1 (loseN m i) i
def lose (m : M) : M := loseN m m.broken.length
def tickM (m : M) (ss : List Nat) : M := lose (work (brk m ss))
def atT (b : List (Nat × Nat)) (t : Nat) : List Nat := (b.filter fun x => x.1 == t).map (·.2)
def runN (m : M) (b : List (Nat × Nat)) : Nat → M
  | 0 => m
  | k + 1 => tickM (runN m b k) (atT b k)
/-! What holds of the data between two ticks. -/
structure Wf (n : Nat) (m : M) : Prop where
  bl : m.broken.length = n
  ll : m.lost.length = n
  pl : m.place < n
  up : m.up ≤ 1
theorem wf_fresh {n p place up : Nat} (h : place < n) (hu : up ≤ 1) : Wf n (fresh n p place up) := ⟨List.length_replicate, List.length_replicate, h, hu⟩
theorem wf_brk1 {n : Nat} {m : M} (s : Nat) (w : Wf n m) : Wf n (brk1 m s) := by
  unfold brk1
  split
  · exact w
  · exact ⟨by simp [w.bl], by simp [w.ll], w.pl, w.up⟩
theorem wf_brk {n : Nat} : ∀ (ss : List Nat) {m : M}, Wf n m → Wf n (brk m ss)
  | [], _, w => w
  | s :: ss, m, w => wf_brk ss (m := brk1 m s) (wf_brk1 s w)
theorem turn_le {m : M} (h : m.up ≤ 1) : turn m ≤ 1 := by
  unfold turn
  split <;> omega
theorem wf_move {n : Nat} {m : M} (w : Wf n m) : Wf n (move m) := by
  unfold move
  split
  · exact w
  · rename_i h
    have hn := w.bl
    have hp := w.pl
    have hu := w.up
    refine ⟨w.bl, w.ll, ?_, turn_le w.up⟩
    show m.place + 2 * turn m - 1 < n
    unfold turn
    split <;> omega
theorem wf_work {n : Nat} {m : M} (w : Wf n m) : Wf n (work m) := by
  unfold work
  split
  · split
    · exact ⟨by simp [w.bl], by simp [w.ll], w.pl, w.up⟩
    · exact ⟨w.bl, w.ll, w.pl, w.up⟩
  · exact wf_move w
theorem wf_lose1 {n : Nat} {m : M} (i : Nat) (w : Wf n m) : Wf n (lose1 m i) := by
  unfold lose1
  split
  · exact ⟨w.bl, by simp [w.ll], w.pl, w.up⟩
  · exact w
theorem wf_loseN {n : Nat} {m : M} (w : Wf n m) : ∀ i, Wf n (loseN m i)
  | 0 => w
  | i + 1 => wf_lose1 i (wf_loseN w i)
theorem lose1_broken (m : M) (i : Nat) : (lose1 m i).broken = m.broken := by
  unfold lose1
  split <;> rfl
theorem loseN_broken (m : M) : ∀ i, (loseN m i).broken = m.broken
  | 0 => rfl
  | i + 1 => (lose1_broken _ i).trans (loseN_broken m i)
theorem wf_tick {n : Nat} {m : M} (ss : List Nat) (w : Wf n m) : Wf n (tickM m ss) := wf_loseN (wf_work (wf_brk ss w)) _
theorem wf_run {n : Nat} {m : M} (b : List (Nat × Nat)) (w : Wf n m) : ∀ k, Wf n (runN m b k)
  | 0 => w
  | k + 1 => wf_tick _ (wf_run b w k)
/-! The mirror and the specification's side of spindles. -/
structure Rel (p : Nat) (m : M) (s : Side) : Prop where
  pe : m.p = p
  br : m.broken = s.broken.map fun k => k != 0
  lo : m.lost = s.broken.map fun k => k - 1
  pl : m.place = s.place
  up : m.up = if s.up = true then 1 else 0
  pz : s.left = 0 → m.pieced = 0
  pn : s.left ≠ 0 → m.pieced ≠ 0 ∧ m.pieced + s.left = p ∧ s.broken.getD s.place 0 ≠ 0
/-! Breaking. -/
def brkS (l : List Nat) (ss : List Nat) : List Nat := (List.range l.length).map fun i => if l.getD i 0 = 0 && ss.any (fun y => y == i) then 1 else l.getD i 0
theorem brkS_len (l ss : List Nat) : (brkS l ss).length = l.length := by simp [brkS]
theorem brkS_get (l ss : List Nat) (i : Nat) (h : i < l.length) : (brkS l ss)[i]? = some (if l.getD i 0 = 0 && ss.any (fun y => y == i) then 1 else l.getD i 0) := by
  unfold brkS
  rw [List.getElem?_map, List.getElem?_range h]
  rfl
theorem brkS_getD (l ss : List Nat) (i : Nat) (h : i < l.length) : (brkS l ss).getD i 0 = if l.getD i 0 = 0 && ss.any (fun y => y == i) then 1 else l.getD i 0 := by
  rw [List.getD_eq_getElem?_getD, brkS_get l ss i h]
  rfl
theorem brkS_nil (l : List Nat) : brkS l [] = l := by
  refine List.ext_getElem? fun i => ?_
  by_cases h : i < l.length
  · rw [brkS_get l [] i h]
    simp [h]
  · rw [List.getElem?_eq_none (by rw [brkS_len]; omega), List.getElem?_eq_none (by omega)]
theorem brkS_cons (l : List Nat) (x : Nat) (ss : List Nat) : brkS l (x :: ss) = brkS (brkS l [x]) ss := by
  refine List.ext_getElem? fun i => ?_
  by_cases h : i < l.length
  · rw [brkS_get l _ i h, brkS_get _ ss i (by rw [brkS_len]; exact h), brkS_getD l [x] i h]
    generalize l.getD i 0 = v
    by_cases h0 : v = 0 <;> by_cases hx : x = i <;> simp [h0, hx]
  · rw [List.getElem?_eq_none (by rw [brkS_len]; omega), List.getElem?_eq_none (by rw [brkS_len, brkS_len]; omega)]
theorem rel_brk1 {p : Nat} {m : M} {s : Side} (r : Rel p m s) {x : Nat} (hx : x < s.broken.length) : Rel p (brk1 m x) { s with broken := brkS s.broken [x] } := by
  have e1 : m.broken.getD x true = (s.broken.getD x 0 != 0) := by
    rw [r.br]
    simp [hx]
  have gx : s.broken.getD x 0 = s.broken[x] := by simp [hx]
  have gi : ∀ i, i < s.broken.length → (brkS s.broken [x])[i]? = some (if x = i then (if s.broken[x] = 0 then 1 else s.broken[x]) else s.broken.getD i 0) := by
    intro i hi
    rw [brkS_get _ _ i hi]
    by_cases hxi : x = i
    · subst hxi
      rw [if_pos rfl, gx]
      simp
    · rw [if_neg hxi]
      simp [hxi]
  rw [gx] at e1
  have hbr : (brk1 m x).broken = (brkS s.broken [x]).map fun k => k != 0 := by
    refine List.ext_getElem? fun i => ?_
    by_cases hi : i < s.broken.length
    · rw [List.getElem?_map, gi i hi]
      unfold brk1
      rw [e1]
      by_cases h0 : s.broken[x] = 0
      · have c : (s.broken[x] != 0) = false := by simpa using h0
        rw [c, if_neg Bool.false_ne_true]
        show (m.broken.set x true)[i]? = _
        rw [r.br]
        by_cases hxi : x = i
        · subst hxi
          simp [hx, h0]
        · rw [List.getElem?_set_ne hxi]
          simp [hi, hxi]
      · have c : (s.broken[x] != 0) = true := by simpa using h0
        rw [c, if_pos rfl, r.br]
        by_cases hxi : x = i
        · subst hxi
          simp [hx, h0]
        · simp [hi, hxi]
    · have l1 : (brk1 m x).broken.length = s.broken.length := by
        unfold brk1
        split <;> simp [r.br]
      rw [List.getElem?_eq_none (by omega), List.getElem?_eq_none (by rw [List.length_map, brkS_len]; omega)]
  have hlo : (brk1 m x).lost = (brkS s.broken [x]).map fun k => k - 1 := by
    refine List.ext_getElem? fun i => ?_
    by_cases hi : i < s.broken.length
    · rw [List.getElem?_map, gi i hi]
      unfold brk1
      rw [e1]
      by_cases h0 : s.broken[x] = 0
      · have c : (s.broken[x] != 0) = false := by simpa using h0
        rw [c, if_neg Bool.false_ne_true]
        show (m.lost.set x 0)[i]? = _
        rw [r.lo]
        by_cases hxi : x = i
        · subst hxi
          simp [hx, h0]
        · rw [List.getElem?_set_ne hxi]
          simp [hi, hxi]
      · have c : (s.broken[x] != 0) = true := by simpa using h0
        rw [c, if_pos rfl, r.lo]
        by_cases hxi : x = i
        · subst hxi
          simp [hx, h0]
        · simp [hi, hxi]
    · have l1 : (brk1 m x).lost.length = s.broken.length := by
        unfold brk1
        split <;> simp [r.lo]
      rw [List.getElem?_eq_none (by omega), List.getElem?_eq_none (by rw [List.length_map, brkS_len]; omega)]
  have o : (brk1 m x).p = m.p ∧ (brk1 m x).place = m.place ∧ (brk1 m x).up = m.up ∧ (brk1 m x).pieced = m.pieced := by
    unfold brk1
    split <;> exact ⟨rfl, rfl, rfl, rfl⟩
  refine ⟨o.1.trans r.pe, hbr, hlo, o.2.1.trans r.pl, o.2.2.1.trans r.up, fun h => o.2.2.2.trans (r.pz h), fun h => ?_⟩
  obtain ⟨a, b, c⟩ := r.pn h
  rw [o.2.2.2]
  refine ⟨a, b, ?_⟩
  show (brkS s.broken [x]).getD s.place 0 ≠ 0
  have hp : s.place < s.broken.length := by
    apply Classical.byContradiction
    intro hn
    apply c
    rw [List.getD_eq_getElem?_getD, List.getElem?_eq_none (by omega)]
    rfl
  rw [brkS_getD _ _ _ hp]
  split
  · decide
  · exact c
theorem rel_brk {p : Nat} : ∀ (ss : List Nat) {m : M} {s : Side}, Rel p m s → (∀ x ∈ ss, x < s.broken.length) → Rel p (brk m ss) { s with broken := brkS s.broken ss }
  | [], m, s, r, _ => by
    rw [brkS_nil]
    exact r
  | x :: ss, m, s, r, h => by
    have r1 := rel_brk1 r (h x List.mem_cons_self)
    have r2 := rel_brk ss r1 fun y hy => by
      show y < (brkS s.broken [x]).length
      rw [brkS_len]
      exact h y (List.mem_cons_of_mem _ hy)
    rw [brkS_cons]
    exact r2
/-! Piecing and going. -/
theorem rel_step {p n : Nat} {m : M} {s : Side} (r : Rel p m s) (w : Wf n m) (hl : s.left = 0) : Rel p (move m) (step s) := by
  have hn : s.broken.length = n := by
    have := w.bl
    rw [r.br, List.length_map] at this
    exact this
  have hb := w.bl
  have hp := w.pl
  have e1 := r.pl
  have e2 := r.up
  unfold move step turn
  by_cases h1 : s.broken.length ≤ 1
  · rw [if_pos h1, if_pos (by omega)]
    exact r
  · rw [if_neg h1, if_neg (by omega)]
    by_cases hu : s.up = true
    · rw [if_pos hu]
      rw [if_pos hu] at e2
      by_cases hq : s.place + 1 < s.broken.length
      · rw [if_pos hq, if_neg (by omega)]
        exact ⟨r.pe, r.br, r.lo, by show m.place + 2 * m.up - 1 = s.place + 1; omega, by show m.up = if s.up = true then 1 else 0; rw [if_pos hu]; exact e2, r.pz, fun h => absurd hl h⟩
      · rw [if_neg hq, if_pos (by omega)]
        exact ⟨r.pe, r.br, r.lo, by show m.place + 2 * (1 - m.up) - 1 = s.place - 1; omega, by show 1 - m.up = if false = true then 1 else 0; rw [if_neg Bool.false_ne_true]; omega, r.pz, fun h => absurd hl h⟩
    · rw [if_neg hu]
      rw [if_neg hu] at e2
      by_cases hq : s.place = 0
      · rw [if_pos hq, if_pos (by omega)]
        exact ⟨r.pe, r.br, r.lo, by show m.place + 2 * (1 - m.up) - 1 = 1; omega, by show 1 - m.up = if true = true then 1 else 0; rw [if_pos rfl]; omega, r.pz, fun h => absurd hl h⟩
      · rw [if_neg hq, if_neg (by omega)]
        exact ⟨r.pe, r.br, r.lo, by show m.place + 2 * m.up - 1 = s.place - 1; omega, by show m.up = if s.up = true then 1 else 0; rw [if_neg hu]; exact e2, r.pz, fun h => absurd hl h⟩
theorem map_set {α β : Type} (f : α → β) (l : List α) (i : Nat) (a : α) : (l.set i a).map f = (l.map f).set i (f a) := by
  refine List.ext_getElem? fun j => ?_
  by_cases h : i = j
  · subst h
    by_cases hi : i < l.length
    · simp [hi]
    · simp [hi]
  · simp [List.getElem?_set_ne h]
theorem rel_work {p n : Nat} {m : M} {s : Side} (hp1 : 1 ≤ p) (r : Rel p m s) (w : Wf n m) : Rel p (work m) (mend p s) := by
  have hn : s.broken.length = n := by
    have := w.bl
    rw [r.br, List.length_map] at this
    exact this
  have hpl : s.place < s.broken.length := by
    have := w.pl
    rw [r.pl] at this
    omega
  have e1 : m.broken.getD m.place true = (s.broken.getD s.place 0 != 0) := by
    rw [r.br, r.pl]
    simp [hpl]
  have fin : ∀ s' : Side, s'.place = s.place → s'.up = s.up → s'.left = 0 → s'.broken = s.broken.set s.place 0 → Rel p { m with pieced := 0, broken := m.broken.set m.place false, lost := m.lost.set m.place 0 } s' := by
    intro s' a1 a2 a3 a4
    refine ⟨r.pe, ?_, ?_, r.pl.trans a1.symm, ?_, fun _ => rfl, fun h => absurd a3 h⟩
    · rw [a4, map_set]
      show m.broken.set m.place false = _
      rw [r.br, r.pl]
      rfl
    · rw [a4, map_set]
      show m.lost.set m.place 0 = _
      rw [r.lo, r.pl]
    · rw [a2]
      exact r.up
  unfold work mend
  rw [e1]
  by_cases hl : s.left = 0
  · rw [if_neg (by omega : ¬ s.left ≠ 0)]
    have hz := r.pz hl
    by_cases hb : s.broken.getD s.place 0 = 0
    · have c1 : (s.broken.getD s.place 0 != 0) = false := by simpa using hb
      have c2 : isBroken s s.place = false := c1
      rw [c1, c2, if_neg Bool.false_ne_true, if_neg Bool.false_ne_true]
      exact rel_step r w hl
    · have c1 : (s.broken.getD s.place 0 != 0) = true := by simpa using hb
      have c2 : isBroken s s.place = true := c1
      rw [c1, c2, if_pos rfl, if_pos rfl]
      by_cases h1 : p = 1
      · rw [if_pos (by rw [r.pe]; omega)]
        exact fin _ rfl rfl (by show p - 1 = 0; omega) (by show (if p = 1 then _ else _) = _; rw [if_pos h1])
      · rw [if_neg (by rw [r.pe]; omega)]
        refine ⟨r.pe, ?_, ?_, r.pl, r.up, ?_, ?_⟩
        · show m.broken = List.map _ (if p = 1 then _ else _)
          rw [if_neg h1]
          exact r.br
        · show m.lost = List.map _ (if p = 1 then _ else _)
          rw [if_neg h1]
          exact r.lo
        · intro h
          have h : p - 1 = 0 := h
          omega
        · intro _
          refine ⟨by show m.pieced + 1 ≠ 0; omega, by show m.pieced + 1 + (p - 1) = p; omega, ?_⟩
          show (if p = 1 then s.broken.set s.place 0 else s.broken).getD s.place 0 ≠ 0
          rw [if_neg h1]
          exact hb
  · rw [if_pos hl]
    obtain ⟨p0, p1, p2⟩ := r.pn hl
    have c1 : (s.broken.getD s.place 0 != 0) = true := by simpa using p2
    rw [c1, if_pos rfl]
    by_cases h1 : s.left = 1
    · rw [if_pos (by rw [r.pe]; omega)]
      exact fin _ rfl rfl (by show s.left - 1 = 0; omega) (by show (if s.left = 1 then _ else _) = _; rw [if_pos h1])
    · rw [if_neg (by rw [r.pe]; omega)]
      refine ⟨r.pe, ?_, ?_, r.pl, r.up, ?_, ?_⟩
      · show m.broken = List.map _ (if s.left = 1 then _ else _)
        rw [if_neg h1]
        exact r.br
      · show m.lost = List.map _ (if s.left = 1 then _ else _)
        rw [if_neg h1]
        exact r.lo
      · intro h
        have h : s.left - 1 = 0 := h
        omega
      · intro _
        refine ⟨by show m.pieced + 1 ≠ 0; omega, by show m.pieced + 1 + (s.left - 1) = p; omega, ?_⟩
        show (if s.left = 1 then s.broken.set s.place 0 else s.broken).getD s.place 0 ≠ 0
        rw [if_neg h1]
        exact p2
/-! Losing. -/
def grow (ks : List Nat) : List Nat := ks.map fun k => if k = 0 then 0 else k + 1
theorem top_snoc (l : List Nat) (x : Nat) : Kzd1.top (l ++ [x]) = max (Kzd1.top l) x := by
  unfold Kzd1.top
  rw [List.foldl_append]
  rfl
theorem take_more {α : Type} {l : List α} {i : Nat} {x : α} (h : l[i]? = some x) : l.take (i + 1) = l.take i ++ [x] := by
  rw [List.take_add_one, h]
  rfl
theorem loseN_is {m : M} {ks : List Nat} (hb : m.broken = ks.map fun k => k != 0) (hl : m.lost = ks.map fun k => k - 1) : ∀ i, i ≤ ks.length →
    (∀ j : Nat, j < ks.length → (loseN m i).lost[j]? = some (if j < i then (grow ks).getD j 0 - 1 else ks.getD j 0 - 1)) ∧ (loseN m i).lost.length = ks.length ∧
    (loseN m i).total = m.total + (((grow ks).take i).filter (· != 0)).length ∧ (loseN m i).longest = max m.longest (Kzd1.top ((grow ks).take i) - 1) ∧
    (loseN m i).p = m.p ∧ (loseN m i).place = m.place ∧ (loseN m i).up = m.up ∧ (loseN m i).pieced = m.pieced
  | 0, _ => by
    refine ⟨fun j hj => ?_, ?_, ?_, ?_, rfl, rfl, rfl, rfl⟩
    · show m.lost[j]? = _
      rw [hl]
      simp [hj]
    · show m.lost.length = _
      rw [hl, List.length_map]
    · simp [loseN]
    · show m.longest = max m.longest (0 - 1)
      omega
  | i + 1, hi => by
    obtain ⟨a1, a2, a3, a4, a5, a6, a7, a8⟩ := loseN_is hb hl i (by omega)
    have hi' : i < ks.length := by omega
    have gi : (grow ks)[i]? = some (if ks[i] = 0 then 0 else ks[i] + 1) := by
      unfold grow
      rw [List.getElem?_map, List.getElem?_eq_getElem hi']
      rfl
    have gd : (grow ks).getD i 0 = if ks[i] = 0 then 0 else ks[i] + 1 := by
      rw [List.getD_eq_getElem?_getD, gi]
      rfl
    have kd : ks.getD i 0 = ks[i] := by simp [hi']
    have bi : (loseN m i).broken.getD i false = (ks[i] != 0) := by
      rw [loseN_broken, hb]
      simp [hi']
    have li : (loseN m i).lost.getD i 0 = ks[i] - 1 := by
      rw [List.getD_eq_getElem?_getD, a1 i hi', if_neg (by omega), kd]
      rfl
    show (∀ j : Nat, j < ks.length → (lose1 (loseN m i) i).lost[j]? = _) ∧ (lose1 (loseN m i) i).lost.length = _ ∧ (lose1 (loseN m i) i).total = _ ∧ (lose1 (loseN m i) i).longest = _ ∧ (lose1 (loseN m i) i).p = _ ∧ (lose1 (loseN m i) i).place = _ ∧ (lose1 (loseN m i) i).up = _ ∧ (lose1 (loseN m i) i).pieced = _
    rw [take_more gi, List.filter_append, List.length_append, top_snoc]
    unfold lose1
    rw [bi]
    by_cases h0 : ks[i] = 0
    · have c : (ks[i] != 0) = false := by simpa using h0
      rw [c, if_neg Bool.false_ne_true, if_pos h0]
      refine ⟨fun j hj => ?_, a2, ?_, ?_, a5, a6, a7, a8⟩
      · rw [a1 j hj]
        by_cases h1 : j < i
        · rw [if_pos h1, if_pos (by omega)]
        · rw [if_neg h1]
          by_cases h2 : j = i
          · subst h2
            rw [if_pos (by omega), gd, kd, if_pos h0, h0]
          · rw [if_neg (by omega)]
      · rw [a3]
        rfl
      · rw [a4]
        omega
    · have c : (ks[i] != 0) = true := by simpa using h0
      rw [c, if_pos rfl, if_neg h0, li]
      refine ⟨fun j hj => ?_, by show (List.set _ _ _).length = _; rw [List.length_set]; exact a2, ?_, ?_, a5, a6, a7, a8⟩
      · show ((loseN m i).lost.set i (ks[i] - 1 + 1))[j]? = _
        by_cases h2 : i = j
        · subst h2
          rw [List.getElem?_set_self (by omega), if_pos (by omega), gd, if_neg h0]
          exact congrArg some (by omega)
        · rw [List.getElem?_set_ne h2, a1 j hj]
          by_cases h1 : j < i
          · rw [if_pos h1, if_pos (by omega)]
          · rw [if_neg h1, if_neg (by omega)]
      · show (loseN m i).total + 1 = _
        rw [a3]
        rfl
      · show max (loseN m i).longest (ks[i] - 1 + 1) = _
        rw [a4]
        omega
theorem rel_lose {p : Nat} {m : M} {s : Side} (r : Rel p m s) : Rel p (lose m) { s with broken := grow s.broken } ∧ (lose m).total = m.total + down { s with broken := grow s.broken } ∧ (lose m).longest = max m.longest (Kzd1.top (grow s.broken) - 1) := by
  have hlen : m.broken.length = s.broken.length := by rw [r.br, List.length_map]
  have gl : (grow s.broken).length = s.broken.length := by simp [grow]
  obtain ⟨a1, a2, a3, a4, a5, a6, a7, a8⟩ := loseN_is r.br r.lo s.broken.length (Nat.le_refl _)
  rw [List.take_of_length_le (by omega)] at a3 a4
  unfold lose
  rw [hlen]
  refine ⟨⟨a5.trans r.pe, ?_, ?_, a6.trans r.pl, a7.trans r.up, fun h => a8.trans (r.pz h), fun h => ?_⟩, a3, a4⟩
  · rw [loseN_broken, r.br]
    show _ = (grow s.broken).map _
    unfold grow
    rw [List.map_map]
    refine List.map_congr_left fun k _ => ?_
    show (k != 0) = ((if k = 0 then 0 else k + 1) != 0)
    by_cases h : k = 0 <;> simp [h]
  · refine List.ext_getElem? fun j => ?_
    by_cases hj : j < s.broken.length
    · rw [a1 j hj, if_pos hj]
      show _ = ((grow s.broken).map _)[j]?
      have : j < (grow s.broken).length := by omega
      simp [this]
    · rw [List.getElem?_eq_none (by omega), List.getElem?_eq_none (by rw [List.length_map]; show (grow s.broken).length ≤ j; omega)]
  · obtain ⟨b1, b2, b3⟩ := r.pn h
    refine ⟨by rw [a8]; exact b1, by rw [a8]; exact b2, ?_⟩
    show (grow s.broken).getD s.place 0 ≠ 0
    by_cases hp : s.place < s.broken.length
    · have e : (grow s.broken).getD s.place 0 = if s.broken.getD s.place 0 = 0 then 0 else s.broken.getD s.place 0 + 1 := by
        simp [grow, hp]
      rw [e, if_neg b3]
      omega
    · exact absurd (by rw [List.getD_eq_getElem?_getD, List.getElem?_eq_none (by omega)]; rfl) b3
/-! A tick, a run. -/
theorem any_at (b : List (Nat × Nat)) (t i : Nat) : (atT b t).any (fun y => y == i) = b.any fun y => y.1 == t && y.2 == i := by
  unfold atT
  rw [List.any_map, List.any_filter]
  rfl
theorem step_len (s : Side) : (step s).broken.length = s.broken.length := by
  unfold step
  repeat' split
  all_goals rfl
theorem mend_len (p : Nat) (s : Side) : (mend p s).broken.length = s.broken.length := by
  unfold mend
  split
  · show (if s.left = 1 then s.broken.set s.place 0 else s.broken).length = _
    split <;> simp
  · split
    · show (if p = 1 then s.broken.set s.place 0 else s.broken).length = _
      split <;> simp
    · exact step_len s
theorem tick_len (p : Nat) (b : List (Nat × Nat)) (t : Nat) (s : Side) : (tick p b t s).broken.length = s.broken.length := by
  show (List.map _ (mend p _).broken).length = _
  rw [List.length_map, mend_len]
  simp
theorem rel_tick {p n : Nat} {m : M} {s : Side} {b : List (Nat × Nat)} (hp1 : 1 ≤ p) (hb : ∀ x ∈ b, x.2 < n) (t : Nat) (r : Rel p m s) (w : Wf n m) :
    Rel p (tickM m (atT b t)) (tick p b t s) ∧ (tickM m (atT b t)).total = m.total + down (tick p b t s) ∧ (tickM m (atT b t)).longest = max m.longest (Kzd1.top (tick p b t s).broken - 1) := by
  have hn : s.broken.length = n := by
    have := w.bl
    rw [r.br, List.length_map] at this
    exact this
  have r1 := rel_brk (atT b t) r (by
    intro x hx
    unfold atT at hx
    obtain ⟨y, hy, rfl⟩ := List.mem_map.mp hx
    rw [hn]
    exact hb y (List.mem_filter.mp hy).1)
  have e : ({ s with broken := brkS s.broken (atT b t) } : Side) = { s with broken := (List.range s.broken.length).map fun i => if s.broken.getD i 0 = 0 && b.any (fun y => y.1 == t && y.2 == i) then 1 else s.broken.getD i 0 } := by
    unfold brkS
    simp only [any_at]
  rw [e] at r1
  have w1 := wf_brk (atT b t) w
  have r2 := rel_work hp1 r1 w1
  have tot : ∀ (ss : List Nat) (m : M), (brk m ss).total = m.total ∧ (brk m ss).longest = m.longest := by
    intro ss
    induction ss with
    | nil => exact fun m => ⟨rfl, rfl⟩
    | cons x ss ih =>
      intro m
      have q := ih (brk1 m x)
      have q1 : (brk1 m x).total = m.total ∧ (brk1 m x).longest = m.longest := by
        unfold brk1
        split <;> exact ⟨rfl, rfl⟩
      exact ⟨q.1.trans q1.1, q.2.trans q1.2⟩
  have tw : ∀ m : M, (work m).total = m.total ∧ (work m).longest = m.longest := by
    intro m
    unfold work move
    repeat' split
    all_goals exact ⟨rfl, rfl⟩
  obtain ⟨r3, t3, l3⟩ := rel_lose r2
  refine ⟨r3, ?_, ?_⟩
  · show (lose (work (brk m (atT b t)))).total = _
    rw [t3, (tw _).1, (tot _ _).1]
    rfl
  · show (lose (work (brk m (atT b t)))).longest = _
    rw [l3, (tw _).2, (tot _ _).2]
    rfl
/-- the run, one tick more at its end -/
theorem run_snoc (p : Nat) (b : List (Nat × Nat)) : ∀ (k t : Nat) (s : Side), run p b t (k + 1) s =
    ((run p b t k s).1 + down (tick p b (t + k) (run p b t k s).2.2), max (run p b t k s).2.1 (Kzd1.top (tick p b (t + k) (run p b t k s).2.2).broken - 1), tick p b (t + k) (run p b t k s).2.2)
  | 0, t, s => by
    show (down (tick p b t s) + 0, max (Kzd1.top (tick p b t s).broken - 1) 0, tick p b t s) = (0 + down (tick p b t s), max 0 (Kzd1.top (tick p b t s).broken - 1), tick p b t s)
    rw [Nat.add_comm, Nat.max_comm]
  | k + 1, t, s => by
    have ih := run_snoc p b k (t + 1) (tick p b t s)
    have e : ∀ j, run p b t (j + 1) s = (down (tick p b t s) + (run p b (t + 1) j (tick p b t s)).1, max (Kzd1.top (tick p b t s).broken - 1) (run p b (t + 1) j (tick p b t s)).2.1, (run p b (t + 1) j (tick p b t s)).2.2) := fun _ => rfl
    rw [e (k + 1), e k, ih]
    have a : t + 1 + k = t + (k + 1) := by omega
    simp only [a, Nat.add_assoc, Nat.max_assoc]
theorem rel_run {p n : Nat} {b : List (Nat × Nat)} {place up : Nat} (hp1 : 1 ≤ p) (hb : ∀ x ∈ b, x.2 < n) (hpl : place < n) (hu : up ≤ 1) : ∀ k,
    Rel p (runN (fresh n p place up) b k) (run p b 0 k (begin_ n place (up == 1))).2.2 ∧ (runN (fresh n p place up) b k).total = (run p b 0 k (begin_ n place (up == 1))).1 ∧
    (runN (fresh n p place up) b k).longest = (run p b 0 k (begin_ n place (up == 1))).2.1
  | 0 => by
    refine ⟨⟨rfl, ?_, ?_, rfl, ?_, fun _ => rfl, fun h => absurd rfl h⟩, rfl, rfl⟩
    · show List.replicate n false = (List.replicate n 0).map _
      rw [List.map_replicate]
      rfl
    · show List.replicate n 0 = (List.replicate n 0).map _
      rw [List.map_replicate]
    · show up = if (up == 1) = true then 1 else 0
      by_cases h : up = 1
      · subst h; rfl
      · have : up = 0 := by omega
        subst this; rfl
  | k + 1 => by
    obtain ⟨r, t, l⟩ := rel_run hp1 hb hpl hu k
    obtain ⟨r2, t2, l2⟩ := rel_tick hp1 hb k r (wf_run b (wf_fresh hpl hu) k)
    rw [run_snoc, Nat.zero_add]
    exact ⟨r2, by rw [← t]; exact t2, by rw [← l]; exact l2⟩
end Mir

namespace Mir
open Kzd3
/-! The breaks that a list tells; the tests of what is handed over. -/
theorem breaks_len : ∀ l : List Nat, (breaks l).length = l.length / 2
  | [] => rfl
  | [_] => by simp [breaks]
  | a :: b :: l => by
    have ih := breaks_len l
    show (breaks l).length + 1 = (l.length + 1 + 1) / 2
    omega
theorem breaks_get : ∀ (l : List Nat) (i : Nat), 2 * i + 1 < l.length → (breaks l)[i]? = some (l.getD (2 * i) 0, l.getD (2 * i + 1) 0)
  | [], i, h => by
    have h : 2 * i + 1 < 0 := h
    omega
  | [_], i, h => by
    have h : 2 * i + 1 < 1 := h
    omega
  | a :: b :: l, 0, _ => rfl
  | a :: b :: l, i + 1, h => by
    have h' : 2 * i + 1 < l.length := by
      have h : 2 * (i + 1) + 1 < l.length + 1 + 1 := h
      omega
    have ih := breaks_get l i h'
    have e1 : 2 * (i + 1) = 2 * i + 1 + 1 := by omega
    rw [e1]
    exact ih
def isSide (n p m : Nat) : Bool := decide (1 ≤ n) && decide (n ≤ 16) && decide (1 ≤ p) && decide (p ≤ 9) && decide (m ≤ 200)
def okB (n : Nat) (x : Nat × Nat) : Bool := decide (x.1 < 200) && decide (x.2 < n)
def areBreaks (n : Nat) (l : List Nat) : Bool := decide (l.length % 2 = 0) && decide (l.length ≤ 40) && (breaks l).all (okB n)
def isBegin (n place up : Nat) : Bool := decide (place < n) && decide (up ≤ 1)
theorem good_is (n p m : Nat) (l : List Nat) : good n p m l = (isSide n p m && areBreaks n l) := by
  unfold good isSide areBreaks okBreaks
  have e : (decide (l.length % 2 = 0) && decide ((breaks l).length ≤ 20)) = (decide (l.length % 2 = 0) && decide (l.length ≤ 40)) := by
    rw [breaks_len]
    by_cases h : l.length % 2 = 0
    · have : (l.length / 2 ≤ 20) = (l.length ≤ 40) := by
        apply propext
        omega
      simp only [this]
    · simp [h]
  have e2 : (breaks l).all (fun x => decide (x.1 < 200) && decide (x.2 < n)) = (breaks l).all (okB n) := rfl
  rw [e2]
  rw [← Bool.and_assoc, Bool.and_assoc _ (decide (l.length % 2 = 0)), e]
  simp only [Bool.and_assoc]
theorem at_more {b : List (Nat × Nat)} {i t : Nat} {x : Nat × Nat} (h : b[i]? = some x) : atT (b.take (i + 1)) t = atT (b.take i) t ++ (if x.1 == t then [x.2] else []) := by
  unfold atT
  rw [take_more h, List.filter_append, List.map_append]
  congr 1
  by_cases e : (x.1 == t) = true
  · rw [if_pos e, List.filter_cons, if_pos e]
    rfl
  · rw [if_neg e, List.filter_cons, if_neg e]
    rfl
theorem at_mem {b : List (Nat × Nat)} {n t : Nat} (h : ∀ x ∈ b, x.2 < n) : ∀ x ∈ atT b t, x < n := by
  intro x hx
  unfold atT at hx
  obtain ⟨y, hy, rfl⟩ := List.mem_map.mp hx
  exact h y (List.mem_filter.mp hy).1
theorem at_len (b : List (Nat × Nat)) (t : Nat) : (atT b t).length ≤ b.length := by
  unfold atT
  rw [List.length_map]
  exact List.length_filter_le _ _
theorem breaks_ok {n : Nat} {l : List Nat} (h : areBreaks n l = true) : l.length % 2 = 0 ∧ l.length ≤ 40 ∧ ∀ x ∈ breaks l, x.2 < n := by
  unfold areBreaks at h
  rw [Bool.and_eq_true, Bool.and_eq_true] at h
  refine ⟨of_decide_eq_true h.1.1, of_decide_eq_true h.1.2, fun x hx => ?_⟩
  have q := List.all_eq_true.mp h.2 x hx
  unfold okB at q
  rw [Bool.and_eq_true] at q
  exact of_decide_eq_true q.2
theorem side_ok {n p m : Nat} (h : isSide n p m = true) : 1 ≤ n ∧ n ≤ 16 ∧ 1 ≤ p ∧ p ≤ 9 ∧ m ≤ 200 := by
  unfold isSide at h
  simp only [Bool.and_eq_true, decide_eq_true_eq] at h
  omega
end Mir
namespace Mir
theorem isSide_no {n p m : Nat} (h : ¬ (1 ≤ n ∧ n ≤ 16 ∧ 1 ≤ p ∧ p ≤ 9)) : isSide n p m = false := by
  cases e : isSide n p m with
  | false => rfl
  | true =>
    have q := side_ok e
    omega
theorem isSide_yes {n p m : Nat} (h : 1 ≤ n ∧ n ≤ 16 ∧ 1 ≤ p ∧ p ≤ 9) : isSide n p m = decide ((m : Int) ≤ 200) := by
  unfold isSide
  have e : decide ((m : Int) ≤ 200) = decide (m ≤ 200) := decide_eq_decide.mpr (by omega)
  rw [e, decide_eq_true h.1, decide_eq_true h.2.1, decide_eq_true h.2.2.1, decide_eq_true h.2.2.2]
  rfl
theorem isBegin_no {n place up : Nat} (h : ¬ place < n) : isBegin n place up = false := by
  unfold isBegin
  rw [decide_eq_false h]
  rfl
theorem isBegin_yes {n place up : Nat} (h : place < n) : isBegin n place up = decide ((up : Int) ≤ 1) := by
  unfold isBegin
  have e : decide ((up : Int) ≤ 1) = decide (up ≤ 1) := decide_eq_decide.mpr (by omega)
  rw [e, decide_eq_true h]
  rfl
theorem areBreaks_no {n : Nat} {l : List Nat} (h : ¬ (l.length % 2 = 0 ∧ l.length ≤ 40)) : areBreaks n l = false := by
  cases e : areBreaks n l with
  | false => rfl
  | true =>
    have q := breaks_ok e
    exact absurd ⟨q.1, q.2.1⟩ h
theorem areBreaks_yes {n : Nat} {l : List Nat} (h : l.length % 2 = 0 ∧ l.length ≤ 40) : areBreaks n l = ((Kzd3.breaks l).map (okB n)).all id := by
  unfold areBreaks
  rw [decide_eq_true h.1, decide_eq_true h.2, List.all_map]
  rfl
theorem okB_no {n : Nat} {x : Nat × Nat} (h : ¬ (x.1 : Int) < 200) : okB n x = false := by
  unfold okB
  rw [decide_eq_false (by omega)]
  rfl
theorem okB_yes {n : Nat} {x : Nat × Nat} (h : (x.1 : Int) < 200) : okB n x = decide ((x.2 : Int) < (n : Int)) := by
  unfold okB
  have e : decide ((x.2 : Int) < (n : Int)) = decide (x.2 < n) := decide_eq_decide.mpr (by omega)
  rw [e, decide_eq_true (by omega)]
  rfl
theorem map_take_more {α β : Type} (f : α → β) {l : List α} {i : Nat} {x : α} (h : l[i]? = some x) : (l.take (i + 1)).map f = (l.take i).map f ++ [f x] := by
  rw [take_more h, List.map_append]
  rfl
end Mir

namespace Mir
open Kzd3
/-! The answers. -/
def zs (ls : List Nat) : List Int := ls.map fun (k : Nat) => (k : Int)
theorem nats_is : ∀ ls : List Nat, Kzd3Neutral.natsOf (zs ls) = ls
  | [] => rfl
  | k :: ls => by
    have ih := nats_is ls
    show Int.toNat (k : Int) :: Kzd3Neutral.natsOf (zs ls) = k :: ls
    rw [ih, Int.toNat_natCast]
theorem round_eq (n p m place up : Nat) (ls : List Nat) : PyKzd3.round_of n p m place up (zs ls) = (answer (.round n p m place up ls)).value :: zs (answer (.round n p m place up ls)).nums := by
  have e := nats_is ls
  show (answer (.round (n : Int).toNat (p : Int).toNat (m : Int).toNat (place : Int).toNat (up : Int).toNat (Kzd3Neutral.natsOf (zs ls)))).value :: zs (answer (.round (n : Int).toNat (p : Int).toNat (m : Int).toNat (place : Int).toNat (up : Int).toNat (Kzd3Neutral.natsOf (zs ls)))).nums = _
  rw [e]
  simp only [Int.toNat_natCast]
theorem side_eq (n p m place up : Nat) (ls : List Nat) : PyKzd3.side n p m place up (zs ls) = (answer (.side n p m place up ls)).value :: zs (answer (.side n p m place up ls)).nums := by
  have e := nats_is ls
  show (answer (.side (n : Int).toNat (p : Int).toNat (m : Int).toNat (place : Int).toNat (up : Int).toNat (Kzd3Neutral.natsOf (zs ls)))).value :: zs (answer (.side (n : Int).toNat (p : Int).toNat (m : Int).toNat (place : Int).toNat (up : Int).toNat (Kzd3Neutral.natsOf (zs ls)))).nums = _
  rw [e]
  simp only [Int.toNat_natCast]
theorem best_eq (n p m : Nat) (ls : List Nat) : PyKzd3.best n p m (zs ls) = (answer (.best n p m ls)).value :: zs (answer (.best n p m ls)).nums := by
  have e := nats_is ls
  show (answer (.best (n : Int).toNat (p : Int).toNat (m : Int).toNat (Kzd3Neutral.natsOf (zs ls)))).value :: zs (answer (.best (n : Int).toNat (p : Int).toNat (m : Int).toNat (Kzd3Neutral.natsOf (zs ls)))).nums = _
  rw [e]
  simp only [Int.toNat_natCast]
theorem bad_iff {n p m place up : Nat} {ls : List Nat} : (good n p m ls = false ∨ n ≤ place ∨ 1 < up) ↔ ¬ ((isSide n p m && areBreaks n ls) = true ∧ isBegin n place up = true) := by
  rw [good_is]
  unfold isBegin
  constructor
  · rintro (h | h | h) ⟨q1, q2⟩
    · rw [h] at q1
      cases q1
    · rw [decide_eq_false (by omega)] at q2
      cases q2
    · rw [decide_eq_false (show ¬ up ≤ 1 by omega), Bool.and_false] at q2
      cases q2
  · intro h
    apply Classical.byContradiction
    intro q
    apply h
    refine ⟨?_, ?_⟩
    · cases e : (isSide n p m && areBreaks n ls) with
      | true => rfl
      | false => exact absurd (.inl e) q
    · rw [decide_eq_true, decide_eq_true]
      · rfl
      · apply Classical.byContradiction
        intro z
        exact q (.inr (.inr (by omega)))
      · apply Classical.byContradiction
        intro z
        exact q (.inr (.inl (by omega)))
theorem round_no {n p m place up : Nat} {ls : List Nat} (h : ¬ ((isSide n p m && areBreaks n ls) = true ∧ isBegin n place up = true)) : PyKzd3.round_of n p m place up (zs ls) = [-22] := by
  rw [round_eq]
  unfold answer
  dsimp only
  rw [if_pos (bad_iff.mpr h)]
  rfl
theorem side_no {n p m place up : Nat} {ls : List Nat} (h : ¬ ((isSide n p m && areBreaks n ls) = true ∧ isBegin n place up = true)) : PyKzd3.side n p m place up (zs ls) = [-22] := by
  rw [side_eq]
  unfold answer
  dsimp only
  rw [if_pos (bad_iff.mpr h)]
  rfl
theorem begin_ok {n place up : Nat} (h : isBegin n place up = true) : place < n ∧ up ≤ 1 := by
  unfold isBegin at h
  rw [Bool.and_eq_true] at h
  exact ⟨of_decide_eq_true h.1, of_decide_eq_true h.2⟩
theorem down_is {p : Nat} {m : M} {s : Side} (r : Rel p m s) : (m.broken.filter id).length = down s := by
  unfold down
  rw [r.br, List.filter_map, List.length_map]
  rfl
theorem round_yes {n p m place up : Nat} {ls : List Nat} (h1 : (isSide n p m && areBreaks n ls) = true) (h2 : isBegin n place up = true) : PyKzd3.round_of n p m place up (zs ls) =
    [((runN (fresh n p place up) (breaks ls) m).total : Int), ((runN (fresh n p place up) (breaks ls) m).longest : Int), (((runN (fresh n p place up) (breaks ls) m).broken.filter id).length : Int), ((runN (fresh n p place up) (breaks ls) m).place : Int), ((runN (fresh n p place up) (breaks ls) m).up : Int)] := by
  have b := begin_ok h2
  have h1' := h1
  rw [Bool.and_eq_true] at h1'
  obtain ⟨r, t, l⟩ := rel_run (side_ok h1'.1).2.2.1 (breaks_ok h1'.2).2.2 b.1 b.2 m
  rw [round_eq]
  unfold answer
  dsimp only
  rw [if_neg (fun q => bad_iff.mp q ⟨h1, h2⟩), down_is r, t, l, r.pl, r.up]
  rfl
theorem side_yes {n p m place up : Nat} {ls : List Nat} (h1 : (isSide n p m && areBreaks n ls) = true) (h2 : isBegin n place up = true) : PyKzd3.side n p m place up (zs ls) = (n : Int) :: zs (runN (fresh n p place up) (breaks ls) m).lost := by
  have b := begin_ok h2
  have h1' := h1
  rw [Bool.and_eq_true] at h1'
  obtain ⟨r, t, l⟩ := rel_run (side_ok h1'.1).2.2.1 (breaks_ok h1'.2).2.2 b.1 b.2 m
  rw [side_eq]
  unfold answer
  dsimp only
  rw [if_neg (fun q => bad_iff.mp q ⟨h1, h2⟩), r.lo]
/-! best -/
theorem best_no {n p m : Nat} {ls : List Nat} (h : (isSide n p m && areBreaks n ls) = false) : PyKzd3.best n p m (zs ls) = [-22] := by
  rw [best_eq]
  unfold answer
  dsimp only
  rw [good_is, if_pos h]
  rfl
/-- what is lost from a beginning, by the mirror -/
def tot (n p m : Nat) (b : List (Nat × Nat)) (x : Nat × Nat) : Nat := (runN (fresh n p x.1 x.2) b m).total
/-- one beginning more -/
def pick (n p m : Nat) (b : List (Nat × Nat)) (a : Option (Nat × Nat)) (x : Nat × Nat) : Option (Nat × Nat) := match a with
  | none => some x
  | some y => if tot n p m b x < tot n p m b y then some x else some y
def begs (k : Nat) : List (Nat × Nat) := (List.range k).flatMap fun i => [(i, 1), (i, 0)]
theorem begs_more (k : Nat) : begs (k + 1) = begs k ++ [(k, 1), (k, 0)] := by
  unfold begs
  rw [List.range_succ, List.flatMap_append]
  rfl
def fold (n p m : Nat) (b : List (Nat × Nat)) (l : List (Nat × Nat)) : Option (Nat × Nat) := l.foldl (pick n p m b) none
def way (u : Bool) : Nat := if u = true then 1 else 0
theorem lost_is {n p m : Nat} {ls : List Nat} (h1 : (isSide n p m && areBreaks n ls) = true) {place : Nat} (hp : place < n) (u : Bool) : lost n p (breaks ls) m place u = tot n p m (breaks ls) (place, way u) := by
  rw [Bool.and_eq_true] at h1
  have hu : way u ≤ 1 := by cases u <;> decide
  obtain ⟨r, t, l⟩ := rel_run (side_ok h1.1).2.2.1 (breaks_ok h1.2).2.2 hp hu m
  have e : (way u == 1) = u := by cases u <;> rfl
  rw [e] at t
  exact t.symm
theorem fold_is {n p m : Nat} {ls : List Nat} (h1 : (isSide n p m && areBreaks n ls) = true) : ∀ (l : List (Nat × Bool)) (x : Nat × Bool), x.1 < n → (∀ y ∈ l, y.1 < n) →
    (l.map fun y => (y.1, way y.2)).foldl (pick n p m (breaks ls)) (some (x.1, way x.2)) = some ((l.foldl (fun x y => if lost n p (breaks ls) m y.1 y.2 < lost n p (breaks ls) m x.1 x.2 then y else x) x).1, way (l.foldl (fun x y => if lost n p (breaks ls) m y.1 y.2 < lost n p (breaks ls) m x.1 x.2 then y else x) x).2) ∧
    (l.foldl (fun x y => if lost n p (breaks ls) m y.1 y.2 < lost n p (breaks ls) m x.1 x.2 then y else x) x).1 < n
  | [], x, hx, _ => ⟨rfl, hx⟩
  | y :: l, x, hx, hl => by
    have hy := hl y List.mem_cons_self
    have hl' : ∀ z ∈ l, z.1 < n := fun z hz => hl z (List.mem_cons_of_mem _ hz)
    rw [List.map_cons, List.foldl_cons, List.foldl_cons]
    have e : pick n p m (breaks ls) (some (x.1, way x.2)) (y.1, way y.2) = if lost n p (breaks ls) m y.1 y.2 < lost n p (breaks ls) m x.1 x.2 then some (y.1, way y.2) else some (x.1, way x.2) := by
      rw [lost_is h1 hx, lost_is h1 hy]
      rfl
    rw [e]
    by_cases c : lost n p (breaks ls) m y.1 y.2 < lost n p (breaks ls) m x.1 x.2
    · rw [if_pos c, if_pos c]
      exact fold_is h1 l y hy hl'
    · rw [if_neg c, if_neg c]
      exact fold_is h1 l x hx hl'
theorem starts_map (n : Nat) : (starts n).map (fun y => (y.1, way y.2)) = begs n := by
  unfold starts begs
  rw [List.map_flatMap]
  rfl
theorem starts_lt {n : Nat} : ∀ y ∈ starts n, y.1 < n := by
  intro y hy
  unfold starts at hy
  obtain ⟨i, hi, hy⟩ := List.mem_flatMap.mp hy
  have hi' := List.mem_range.mp hi
  simp at hy
  rcases hy with rfl | rfl <;> exact hi'
theorem starts_cons {n : Nat} (h : 1 ≤ n) : ∃ l, starts n = (0, true) :: l := by
  obtain ⟨k, rfl⟩ : ∃ k, n = k + 1 := ⟨n - 1, by omega⟩
  unfold starts
  rw [List.range_succ_eq_map, List.flatMap_cons]
  exact ⟨_, rfl⟩
theorem best_yes {n p m : Nat} {ls : List Nat} (h1 : (isSide n p m && areBreaks n ls) = true) : ∃ x, fold n p m (breaks ls) (begs n) = some x ∧ PyKzd3.best n p m (zs ls) = [(x.1 : Int), (x.2 : Int), (tot n p m (breaks ls) x : Int)] := by
  have h1' := h1
  rw [Bool.and_eq_true] at h1'
  have hn := (side_ok h1'.1).1
  obtain ⟨l, hl⟩ := starts_cons hn
  have lt : ∀ y ∈ l, y.1 < n := fun y hy => starts_lt y (by rw [hl]; exact List.mem_cons_of_mem _ hy)
  have e0 : begs n = (0, way true) :: l.map (fun y => (y.1, way y.2)) := by
    rw [← starts_map, hl]
    rfl
  have q := fold_is h1 l (0, true) (by show 0 < n; omega) lt
  have bs : bestStart n p (breaks ls) m = l.foldl (fun x y => if lost n p (breaks ls) m y.1 y.2 < lost n p (breaks ls) m x.1 x.2 then y else x) (0, true) := by
    unfold bestStart
    rw [hl, List.foldl_cons, if_neg (Nat.lt_irrefl _)]
  rw [← bs] at q
  refine ⟨((bestStart n p (breaks ls) m).1, way (bestStart n p (breaks ls) m).2), ?_, ?_⟩
  · unfold fold
    rw [e0, List.foldl_cons]
    exact q.1
  · rw [best_eq]
    unfold answer
    dsimp only
    rw [good_is, if_neg (by rw [h1]; decide), lost_is h1 q.2]
    rfl
end Mir
namespace Mir
theorem zs_of : ∀ l : List Int, (∀ x ∈ l, 0 ≤ x) → ∃ ls : List Nat, l = zs ls
  | [], _ => ⟨[], rfl⟩
  | x :: l, h => by
    obtain ⟨ls, e⟩ := zs_of l fun y hy => h y (List.mem_cons_of_mem _ hy)
    obtain ⟨k, hk⟩ := Int.eq_ofNat_of_zero_le (h x List.mem_cons_self)
    exact ⟨k :: ls, by rw [e, hk]; rfl⟩
end Mir

/-! ### The heap: how the record lies in it -/
namespace Sp
open PySem PySem.Spec PyProof.Rows L2
def bV (l : List Bool) : List V := l.map V.bl
def nV (l : List Nat) : List V := l.map fun (k : Nat) => V.int (k : Int)
def rF (m : Mir.M) (bl ll : Addr) : List (Str × V) :=
  [("piecing", .int (m.p : Int)), ("place", .int (m.place : Int)), ("up", .int (m.up : Int)), ("broken", .ref bl), ("lost", .ref ll), ("pieced", .int (m.pieced : Int)), ("total", .int (m.total : Int)), ("longest", .int (m.longest : Int))]
theorem lkH {k : Str} {v : V} {r : List (Str × V)} : List.lookup k ((k, v) :: r) = some v := by
  have e : (k == k) = true := beq_self_eq_true k
  simp only [List.lookup, e]
theorem lkP {k g : Str} {v : V} {r : List (Str × V)} {o : Option V} (h : (k == g) = false) (q : List.lookup k r = o) : List.lookup k ((g, v) :: r) = o := by
  simp only [List.lookup, h]
  exact q
theorem ptH {f : Str} {v x : V} {r : List (Str × V)} : putF f v ((f, x) :: r) = (f, v) :: r := if_pos rfl
theorem ptP {f g : Str} {v x : V} {r s : List (Str × V)} (h : ¬ g = f) (q : putF f v r = s) : putF f v ((g, x) :: r) = (g, x) :: s := by
  rw [← q]
  exact if_neg h
section
variable (m : Mir.M) (bl ll : Addr)
theorem gPiecing : (rF m bl ll).lookup ("piecing" : Str) = some (.int (m.p : Int)) := lkH
theorem gPlace : (rF m bl ll).lookup ("place" : Str) = some (.int (m.place : Int)) := lkP (by decide +kernel) lkH
theorem gUp : (rF m bl ll).lookup ("up" : Str) = some (.int (m.up : Int)) := lkP (by decide +kernel) (lkP (by decide +kernel) lkH)
theorem gBroken : (rF m bl ll).lookup ("broken" : Str) = some (.ref bl) := lkP (by decide +kernel) (lkP (by decide +kernel) (lkP (by decide +kernel) lkH))
theorem gLost : (rF m bl ll).lookup ("lost" : Str) = some (.ref ll) := lkP (by decide +kernel) (lkP (by decide +kernel) (lkP (by decide +kernel) (lkP (by decide +kernel) lkH)))
theorem gPieced : (rF m bl ll).lookup ("pieced" : Str) = some (.int (m.pieced : Int)) := lkP (by decide +kernel) (lkP (by decide +kernel) (lkP (by decide +kernel) (lkP (by decide +kernel) (lkP (by decide +kernel) lkH))))
theorem gTotal : (rF m bl ll).lookup ("total" : Str) = some (.int (m.total : Int)) := lkP (by decide +kernel) (lkP (by decide +kernel) (lkP (by decide +kernel) (lkP (by decide +kernel) (lkP (by decide +kernel) (lkP (by decide +kernel) lkH)))))
theorem gLongest : (rF m bl ll).lookup ("longest" : Str) = some (.int (m.longest : Int)) := lkP (by decide +kernel) (lkP (by decide +kernel) (lkP (by decide +kernel) (lkP (by decide +kernel) (lkP (by decide +kernel) (lkP (by decide +kernel) (lkP (by decide +kernel) lkH))))))
/-- a name that is no field -/
theorem gNo {x : Str} (h : (["piecing", "place", "up", "broken", "lost", "pieced", "total", "longest"] : List Str).all (fun g => !(x == g)) = true) : (rF m bl ll).lookup x = none := by
  have h' : ∀ g ∈ (["piecing", "place", "up", "broken", "lost", "pieced", "total", "longest"] : List Str), (x == g) = false := fun g hg => by
    have := List.all_eq_true.mp h g hg
    simpa using this
  exact lkP (h' _ (by simp)) (lkP (h' _ (by simp)) (lkP (h' _ (by simp)) (lkP (h' _ (by simp)) (lkP (h' _ (by simp)) (lkP (h' _ (by simp)) (lkP (h' _ (by simp)) (lkP (h' _ (by simp)) rfl)))))))
variable {m bl ll}
theorem sPlace {z : Int} {x : Nat} (e : z = (x : Int)) : putF "place" (.int z) (rF m bl ll) = rF { m with place := x } bl ll := by
  subst e
  exact ptP (by decide +kernel) ptH
theorem sUp {z : Int} {x : Nat} (e : z = (x : Int)) : putF "up" (.int z) (rF m bl ll) = rF { m with up := x } bl ll := by
  subst e
  exact ptP (by decide +kernel) (ptP (by decide +kernel) ptH)
theorem sPieced {z : Int} {x : Nat} (e : z = (x : Int)) : putF "pieced" (.int z) (rF m bl ll) = rF { m with pieced := x } bl ll := by
  subst e
  exact ptP (by decide +kernel) (ptP (by decide +kernel) (ptP (by decide +kernel) (ptP (by decide +kernel) (ptP (by decide +kernel) ptH))))
theorem sTotal {z : Int} {x : Nat} (e : z = (x : Int)) : putF "total" (.int z) (rF m bl ll) = rF { m with total := x } bl ll := by
  subst e
  exact ptP (by decide +kernel) (ptP (by decide +kernel) (ptP (by decide +kernel) (ptP (by decide +kernel) (ptP (by decide +kernel) (ptP (by decide +kernel) ptH)))))
theorem sLongest {z : Int} {x : Nat} (e : z = (x : Int)) : putF "longest" (.int z) (rF m bl ll) = rF { m with longest := x } bl ll := by
  subst e
  exact ptP (by decide +kernel) (ptP (by decide +kernel) (ptP (by decide +kernel) (ptP (by decide +kernel) (ptP (by decide +kernel) (ptP (by decide +kernel) (ptP (by decide +kernel) ptH))))))
end
/-- the round stands at a, its lists at bl and ll -/
structure RdAt (C : Addr) (H : Hp) (a bl ll : Addr) (m : Mir.M) : Prop where
  ins : ∃ dx, H a = some (.ins C dx (rF m bl ll))
  br : H bl = some (.lst (bV m.broken))
  lo : H ll = some (.lst (nV m.lost))
  ne : bl ≠ ll
theorem RdAt.ab {C : Addr} {H : Hp} {a bl ll : Addr} {m : Mir.M} (R : RdAt C H a bl ll m) : bl ≠ a := by
  obtain ⟨dx, h⟩ := R.ins
  exact ne_of R.br h (by intro z; cases z)
theorem RdAt.al {C : Addr} {H : Hp} {a bl ll : Addr} {m : Mir.M} (R : RdAt C H a bl ll m) : ll ≠ a := by
  obtain ⟨dx, h⟩ := R.ins
  exact ne_of R.lo h (by intro z; cases z)
theorem RdAt.fld {C : Addr} {H : Hp} {a bl ll dx : Addr} {m m' : Mir.M} {fs : List (Str × V)} (R : RdAt C H a bl ll m) (e : fs = rF m' bl ll) (hb : m'.broken = m.broken) (hl : m'.lost = m.lost) : RdAt C (upd H a (.ins C dx fs)) a bl ll m' := by
  subst e
  refine ⟨⟨dx, upd_same⟩, ?_, ?_, R.ne⟩
  · rw [upd_ne R.ab, hb]
    exact R.br
  · rw [upd_ne R.al, hl]
    exact R.lo
theorem RdAt.setB {C : Addr} {H : Hp} {a bl ll : Addr} {m : Mir.M} {xs : List V} {b : List Bool} (R : RdAt C H a bl ll m) (e : xs = bV b) : RdAt C (upd H bl (.lst xs)) a bl ll { m with broken := b } := by
  subst e
  obtain ⟨dx, h⟩ := R.ins
  refine ⟨⟨dx, ?_⟩, upd_same, ?_, R.ne⟩
  · rw [upd_ne fun q => R.ab q.symm]
    exact h
  · rw [upd_ne fun q => R.ne q.symm]
    exact R.lo
theorem RdAt.setL {C : Addr} {H : Hp} {a bl ll : Addr} {m : Mir.M} {xs : List V} {l : List Nat} (R : RdAt C H a bl ll m) (e : xs = nV l) : RdAt C (upd H ll (.lst xs)) a bl ll { m with lost := l } := by
  subst e
  obtain ⟨dx, h⟩ := R.ins
  refine ⟨⟨dx, ?_⟩, ?_, upd_same, R.ne⟩
  · rw [upd_ne fun q => R.al q.symm]
    exact h
  · rw [upd_ne R.ne]
    exact R.br
theorem RdAt.same {C : Addr} {H H' : Hp} {a bl ll : Addr} {m : Mir.M} (R : RdAt C H a bl ll m) (s : Same H H') : RdAt C H' a bl ll m := by
  obtain ⟨dx, h⟩ := R.ins
  exact ⟨⟨dx, s _ _ h⟩, s _ _ R.br, s _ _ R.lo, R.ne⟩
/-- all else stands -/
def Kp (H H' : Hp) (a bl ll : Addr) : Prop := ∀ b o, H b = some o → b ≠ a → b ≠ bl → b ≠ ll → H' b = some o
theorem Kp.refl (H : Hp) {a bl ll : Addr} : Kp H H a bl ll := fun _ _ h _ _ _ => h
theorem Kp.trans {H H1 H2 : Hp} {a bl ll : Addr} (k : Kp H H1 a bl ll) (q : Kp H1 H2 a bl ll) : Kp H H2 a bl ll := fun b o h h1 h2 h3 => q b o (k b o h h1 h2 h3) h1 h2 h3
theorem Kp.at {H H' : Hp} {a bl ll c : Addr} {o : HO} (k : Kp H H' a bl ll) (hc : c = a ∨ c = bl ∨ c = ll) : Kp H (upd H' c o) a bl ll := fun b u h h1 h2 h3 => by
  rw [upd_ne ?_]
  · exact k b u h h1 h2 h3
  · rcases hc with rfl | rfl | rfl <;> assumption
theorem Kp.new {H H' : Hp} {a bl ll c : Addr} {o : HO} (k : Kp H H' a bl ll) (hc : H c = none) : Kp H (upd H' c o) a bl ll := fun b u h h1 h2 h3 => by
  rw [upd_ne (ne_of_none h hc)]
  exact k b u h h1 h2 h3
/-- a new object -/
theorem Same.new {H H' : Hp} {c : Addr} {o : HO} (s : Same H H') (hc : H' c = none) : Same H (upd H' c o) := fun b u h => by
  rw [upd_ne (ne_of_none (s b u h) hc)]
  exact s b u h
theorem Same.put {H H' : Hp} {c : Addr} {o : HO} (s : Same H H') (hc : H c = none) : Same H (upd H' c o) := fun b u h => by
  rw [upd_ne (ne_of_none h hc)]
  exact s b u h
/-! ### lists by place -/
theorem bV_len (l : List Bool) : (bV l).length = l.length := List.length_map ..
theorem nV_len (l : List Nat) : (nV l).length = l.length := List.length_map ..
theorem bV_get {l : List Bool} {i : Nat} (d : Bool) (h : i < l.length) : (bV l)[i]? = some (V.bl (l.getD i d)) := by
  unfold bV
  rw [List.getElem?_map, List.getD_eq_getElem?_getD, List.getElem?_eq_getElem h]
  rfl
theorem nV_get {l : List Nat} {i : Nat} (d : Nat) (h : i < l.length) : (nV l)[i]? = some (V.int ((l.getD i d : Nat) : Int)) := by
  unfold nV
  rw [List.getElem?_map, List.getD_eq_getElem?_getD, List.getElem?_eq_getElem h]
  rfl
theorem nV_item {l : List Nat} {i : Nat} {y : V} (h : (nV l)[i]? = some y) : ∃ x, l[i]? = some x ∧ y = V.int ((x : Nat) : Int) := by
  unfold nV at h
  rw [List.getElem?_map] at h
  cases e : l[i]? with
  | none =>
    rw [e] at h
    cases h
  | some z =>
    rw [e] at h
    exact ⟨z, rfl, (Option.some.inj h).symm⟩
theorem bV_set {l : List Bool} {i : Nat} {b : Bool} : (bV l).set i (V.bl b) = bV (l.set i b) := (Mir.map_set _ _ _ _).symm
theorem nV_set {l : List Nat} {i : Nat} {z : Int} {k : Nat} (e : z = (k : Int)) : (nV l).set i (V.int z) = nV (l.set i k) := by
  subst e
  exact (Mir.map_set (fun (k : Nat) => V.int (k : Int)) _ _ _).symm
theorem ixN_at {n j : Nat} {z : Int} (e : z = (j : Int)) (h : j < n) : ixN n z = some j := by
  subst e
  unfold ixN
  rw [if_pos (by omega), if_pos (by omega)]
  simp
/-! ### tests -/
theorem ifN {c : Bool} {A B : Prop} (h1 : c = false → A) (h2 : c = true → B) : if (!c) = true then A else B := by
  cases c with
  | false => exact iteT (h1 rfl)
  | true => exact iteF (h2 rfl)
theorem ifY {c : Bool} {A B : Prop} (h1 : c = true → A) (h2 : c = false → B) : if c = true then A else B := by
  cases c with
  | true => exact iteT (h1 rfl)
  | false => exact iteF (h2 rfl)
theorem ifD {p A B : Prop} [Decidable p] (h1 : p → A) (h2 : ¬ p → B) : if decide p = true then A else B := by
  by_cases h : p
  · rw [decide_eq_true h]
    exact iteT (h1 h)
  · rw [decide_eq_false h]
    exact iteF (h2 h)
end Sp

namespace Sp
open PySem PySem.Spec PyProof.Rows L2
/-! ### The text by places -/
def top (i : Nat) : Stmt := PySem.Challenge.pw_spindlerounds_s02_best.main.body.getD i (.Pass ⟨0, 0, 0, 0⟩)
abbrev sInit : Stmt := inClass (top 2) 0
abbrev sBreak : Stmt := inClass (top 2) 1
abbrev sMove : Stmt := inClass (top 2) 2
abbrev sWork : Stmt := inClass (top 2) 3
abbrev sLose : Stmt := inClass (top 2) 4
abbrev sTick : Stmt := inClass (top 2) 5
abbrev sMany : Stmt := inClass (top 2) 6
abbrev sRB : Stmt := top 3
abbrev sBo : Stmt := top 10
abbrev sSide : Stmt := top 11
abbrev sAre : Stmt := top 12
abbrev sBeg : Stmt := top 0
abbrev sRight : Stmt := top 14
abbrev sFn : Stmt := top 15
/-! ### The promises of the methods -/
def spInit (C : Addr) : Sp := fun vs H Q _ => ∃ (x dx : Addr) (n p place up : Nat), vs = [.ref x, .int (n : Int), .int (p : Int), .int (place : Int), .int (up : Int)] ∧ H x = some (.ins C dx []) ∧ n ≤ 16 ∧
  ∀ (H' : Hp) (bl ll : Addr), RdAt C H' x bl ll (Mir.fresh n p place up) → H bl = none → H ll = none → (∀ b o, H b = some o → b ≠ x → H' b = some o) → Q .non H'
def spBreak (C : Addr) : Sp := fun vs H Q _ => ∃ (a bl ll sl : Addr) (n : Nat) (m : Mir.M) (ss : List Nat), vs = [.ref a, .ref sl] ∧ RdAt C H a bl ll m ∧ Mir.Wf n m ∧ H sl = some (.lst (nV ss)) ∧ (∀ x ∈ ss, x < n) ∧ sl ≠ bl ∧ sl ≠ ll ∧
  ∀ H' : Hp, RdAt C H' a bl ll (Mir.brk m ss) → Kp H H' a bl ll → Q .non H'
def spOn (C : Addr) (f : Mir.M → Mir.M) : Sp := fun vs H Q _ => ∃ (a bl ll : Addr) (n : Nat) (m : Mir.M), vs = [.ref a] ∧ RdAt C H a bl ll m ∧ Mir.Wf n m ∧ n ≤ 16 ∧
  ∀ H' : Hp, RdAt C H' a bl ll (f m) → Kp H H' a bl ll → Q .non H'
def spTick (C : Addr) : Sp := fun vs H Q _ => ∃ (a bl ll sl : Addr) (n : Nat) (m : Mir.M) (ss : List Nat), vs = [.ref a, .ref sl] ∧ RdAt C H a bl ll m ∧ Mir.Wf n m ∧ n ≤ 16 ∧ H sl = some (.lst (nV ss)) ∧ (∀ x ∈ ss, x < n) ∧ sl ≠ bl ∧ sl ≠ ll ∧
  ∀ H' : Hp, RdAt C H' a bl ll (Mir.tickM m ss) → Kp H H' a bl ll → Q .non H'
/-- what the top has written -/
structure Txt (K : PySem.W.Frag) (mg : Str → Option Value) (C : Addr) : Prop where
  cl : Cls K C
  nPiecing : NoAttr K C "piecing"
  nPlace : NoAttr K C "place"
  nUp : NoAttr K C "up"
  nBroken : NoAttr K C "broken"
  nLost : NoAttr K C "lost"
  nPieced : NoAttr K C "pieced"
  nTotal : NoAttr K C "total"
  nLongest : NoAttr K C "longest"
  mgC : mg "Round" = some (.ref C)
  len : mg "len" = none
  range : mg "range" = none
  max : mg "max" = none
  all : mg "all" = none
  mS : ∃ t, mg "MOST_SPINDLES" = some (.int 16 t)
  mP : ∃ t, mg "MOST_PIECING" = some (.int 9 t)
  mT : ∃ t, mg "MOST_TICKS" = some (.int 200 t)
  mB : ∃ t, mg "MOST_BREAKS" = some (.int 20 t)
  mR : ∃ t, mg "REFUSED" = some (.int (-22) t)
section
variable {P : Program} {w : World} {K : PySem.W.Frag} {mg : Str → Option Value} {base : Heap} {C : Addr}
/-! ### break_threads -/
theorem scBreak : FnScope ["self", "spindles", "spindle"] ["self", "spindles"] (defScope sBreak) := ⟨rfl, rfl, rfl, by decide +kernel, rfl, by decide +kernel, by decide +kernel⟩
theorem ok_break {f : Addr} {fd : FuncData} (F : Fun K "break_threads" "Round.break_threads" sBreak f fd) (T : Txt K mg C) : FnOk P w K mg base CX0 1 f fd ["self", "spindles"] (spBreak C) := by
  refine F.ok scBreak (fun vs H Q E h => ?_) (fun cdv A outer s H vs Q E hr h => ?_)
  · obtain ⟨a, bl, ll, sl, n, m, ss, rfl, _⟩ := h
    rfl
  · obtain ⟨a, bl, ll, sl, n, m, ss, rfl, R, W, hS, hss, nb, nl, k⟩ := h
    refine ⟨_, pss_one (ps_for PassesOwn.never rfl (pi_list (pv 1)) (pg_name (i := 2) scBreak.nd rfl (Or.inl rfl))
      (pss_one (ps_if (pt_not (pt_val (pe_ix ix_list (pe_fld (pv 0) rfl) (pv 2) (fun _ _ => rfl))))
        (pss_cons (ps_asg pe_bl (pg_sub (pe_fld (pv 0) rfl) (pv 2) set_list))
          (pss_one (ps_asg pe_int (pg_sub (pe_fld (pv 0) rfl) (pv 2) set_list))))
        pss_nil))), ?_⟩
    have na : sl ≠ a := by
      obtain ⟨dx, hi⟩ := R.ins
      exact ne_of hS hi (by intro z; cases z)
    refine ⟨_, rfl, sl, rfl, ⟨_, SqL.of hS⟩, for_list (K := K) (a := sl) (xs := nV ss) (fun i σ H' => ∃ v : Option V, σ = [some (.ref a), some (.ref sl), v] ∧ RdAt C H' a bl ll (Mir.brk m (ss.take i)) ∧ Kp H H' a bl ll)
      ⟨none, rfl, R, Kp.refl _⟩ (fun i σ H' _ ⟨_, _, _, kp⟩ => SqL.of (kp _ _ hS na nb nl)) ?_ ?_⟩
    · rintro i y σ H' hi ⟨v, rfl, R1, kp⟩
      obtain ⟨x, hx, rfl⟩ := nV_item hi
      have e : Mir.brk m (ss.take (i + 1)) = Mir.brk1 (Mir.brk m (ss.take i)) x := by
        unfold Mir.brk
        rw [Mir.take_more hx, List.foldl_append]
        rfl
      rw [e]
      have W1 := Mir.wf_brk (ss.take i) W
      revert R1 W1
      generalize Mir.brk m (ss.take i) = m1
      intro R1 W1
      have xb : x < m1.broken.length := by
        rw [W1.bl]
        exact hss x (List.mem_of_getElem? hx)
      have xl : x < m1.lost.length := by
        rw [W1.ll]
        exact hss x (List.mem_of_getElem? hx)
      obtain ⟨dx, hi1⟩ := R1.ins
      refine ⟨_, rfl, a, C, dx, _, _, rfl, hi1, T.cl, T.nBroken, gBroken _ _ _, _, rfl, bl, _, _, _, rfl, rfl, SqL.of R1.br, at_of (j := x) rfl (bV_get true xb), _, rfl, ifN (fun hb => ?_) (fun hb => ?_)⟩
      · have e1 : Mir.brk1 m1 x = { m1 with broken := m1.broken.set x true, lost := m1.lost.set x 0 } := by
          unfold Mir.brk1
          rw [hb, if_neg Bool.false_ne_true]
        rw [e1]
        refine ⟨_, rfl, a, C, dx, _, _, rfl, hi1, T.cl, T.nBroken, gBroken _ _ _, _, rfl, bl, _, _, x, rfl, rfl, R1.br, ixN_at rfl (by rw [bV_len]; exact xb), ?_⟩
        have R2 := R1.setB (xs := (bV m1.broken).set x (V.bl true)) bV_set
        obtain ⟨dx2, hi2⟩ := R2.ins
        refine ⟨_, rfl, a, C, dx2, _, _, rfl, hi2, T.cl, T.nLost, gLost _ _ _, _, rfl, ll, _, _, x, rfl, rfl, R2.lo, ixN_at rfl (by rw [nV_len]; exact xl), ?_⟩
        exact ⟨_, rfl, R2.setL (nV_set (k := 0) rfl), (kp.at (.inr (.inl rfl))).at (.inr (.inr rfl))⟩
      · have e1 : Mir.brk1 m1 x = m1 := by
          unfold Mir.brk1
          rw [if_pos hb]
        rw [e1]
        exact ⟨_, rfl, R1, kp⟩
    · rintro σ H' ⟨v, rfl, R1, kp⟩
      rw [nV_len, List.take_length] at R1
      exact k H' R1 kp
/-! ### move -/
theorem scMove : FnScope ["self", "last"] ["self"] (defScope sMove) := ⟨rfl, rfl, rfl, by decide +kernel, rfl, by decide +kernel, by decide +kernel⟩
theorem ok_move {f : Addr} {fd : FuncData} (F : Fun K "move" "Round.move" sMove f fd) (T : Txt K mg C) : FnOk P w K mg base CX0 1 f fd ["self"] (spOn C Mir.move) := by
  refine F.ok scMove (fun vs H Q E h => ?_) (fun cdv A outer s H vs Q E hr h => ?_)
  · obtain ⟨a, bl, ll, n, m, rfl, _⟩ := h
    rfl
  · obtain ⟨a, bl, ll, n, m, rfl, R, W, hn, k⟩ := h
    refine ⟨_, pss_cons (ps_set (i := 1) scMove.nd rfl (Or.inl rfl) (pe_op op_sub (pe_callB call_len_seq (by rfl) T.len PySem.boot_len (pa_cons (pe_fld (pv 0) rfl) pa_nil)) pe_int))
      (pss_cons (ps_if (pt_cmpR op_eq (pv 1) pe_int (nomark _)) (pss_one (ps_ret pe_non)) pss_nil)
      (pss_cons (ps_if (PW.pt (pw_or (PW.pt (pw_and (pt_cmpR op_eq (pe_fld (pv 0) rfl) pe_int (nomark _)) (pw_and1 (pt_cmpR op_eq (pe_fld (pv 0) rfl) (pv 1) (nomark _)))))
          (pw_or1 (PW.pt (pw_and (pt_cmpR op_eq (pe_fld (pv 0) rfl) pe_int (nomark _)) (pw_and1 (pt_cmpR op_eq (pe_fld (pv 0) rfl) pe_int (nomark _))))))))
        (pss_one (ps_fld (pv 0) (pe_op op_sub pe_int (pe_fld (pv 0) rfl)) rfl)) pss_nil)
      (pss_cons (ps_fld (pv 0) (pe_op op_sub (pe_op op_add (pe_fld (pv 0) rfl) (pe_op op_mul pe_int (pe_fld (pv 0) rfl))) pe_int) rfl)
      (pss_one (ps_ret pe_non))))), ?_⟩
    obtain ⟨dx, hi⟩ := R.ins
    refine ⟨_, rfl, a, C, dx, _, _, rfl, hi, T.cl, T.nBroken, gBroken _ _ _, bl, _, rfl, .inl (SqL.of R.br), _, _, rfl, rfl, ?_⟩
    have hl := W.bl
    have hp := W.pl
    have hu := W.up
    refine ⟨_, rfl, rfl, _, rfl, ifD (fun c => ?_) (fun c => ?_)⟩
    · injection c with c
      rw [bV_len] at c
      have e : Mir.move m = m := by
        unfold Mir.move
        rw [if_pos (by omega)]
      exact k H (by rw [e]; exact R) (Kp.refl _)
    · have c' : ¬ m.broken.length = 1 := fun q => c (by rw [bV_len, q]; rfl)
      have em : Mir.move m = { m with up := Mir.turn m, place := m.place + 2 * Mir.turn m - 1 } := by
        unfold Mir.move
        rw [if_neg c']
      have ht := Mir.turn_le hu
      -- behind the test: up is turn m
      have fin : ∀ H1 : Hp, RdAt C H1 a bl ll { m with up := Mir.turn m } → Kp H H1 a bl ll → ∀ (Qr : VK), (∀ H2 : Hp, RdAt C H2 a bl ll (Mir.move m) → Kp H H2 a bl ll → Qr .non H2) → ∀ lv : Option V,
          tSeq (sFld K (tVar 0) (tOp (rI0 fun i j => .int (i - j)) (tOp (rI0 fun i j => .int (i + j)) (tFld K (tVar 0) "place") (tOp (rI CMul fun i j => .int (i * j)) (tC (.int 2)) (tFld K (tVar 0) "up"))) (tC (.int 1))) "place") (tRet (tC .non)) { nx := fun _ H' => Qr .non H', rt := Qr } [some (.ref a), lv] H1 := by
        intro H1 R1 kp Qr kq lv
        obtain ⟨dx1, hi1⟩ := R1.ins
        refine ⟨_, rfl, a, C, dx1, _, _, rfl, hi1, T.cl, T.nPlace, gPlace _ _ _, _, rfl, a, C, dx1, _, _, rfl, hi1, T.cl, T.nUp, gUp _ _ _, _, _, rfl, rfl, .inl ⟨by decide, by decide⟩, _, _, rfl, rfl, _, _, rfl, rfl, _, rfl, a, C, dx1, _, rfl, hi1, T.cl, T.nPlace, (by show 8 < 1000; decide), ?_⟩
        refine kq _ ?_ (kp.at (.inl rfl))
        rw [em]
        refine RdAt.fld R1 (sPlace ?_) rfl rfl
        show (m.place : Int) + 2 * (Mir.turn m : Int) - 1 = ((m.place + 2 * Mir.turn m - 1 : Nat) : Int)
        have : 1 ≤ m.place + 2 * Mir.turn m := by
          unfold Mir.turn
          split <;> omega
        omega
      have same : ∀ (lv : Option V), Mir.turn m = m.up → tSeq (sFld K (tVar 0) (tOp (rI0 fun i j => .int (i - j)) (tOp (rI0 fun i j => .int (i + j)) (tFld K (tVar 0) "place") (tOp (rI CMul fun i j => .int (i * j)) (tC (.int 2)) (tFld K (tVar 0) "up"))) (tC (.int 1))) "place") (tRet (tC .non)) { nx := fun _ H' => Q .non H', rt := Q } [some (.ref a), lv] H := fun lv e =>
        fin H (by rw [e]; exact R) (Kp.refl _) Q k lv
      have flip : ∀ (lv : Option V), Mir.turn m = 1 - m.up → sFld K (tVar 0) (tOp (rI0 fun i j => .int (i - j)) (tC (.int 1)) (tFld K (tVar 0) "up")) "up" { nx := tSeq (sFld K (tVar 0) (tOp (rI0 fun i j => .int (i - j)) (tOp (rI0 fun i j => .int (i + j)) (tFld K (tVar 0) "place") (tOp (rI CMul fun i j => .int (i * j)) (tC (.int 2)) (tFld K (tVar 0) "up"))) (tC (.int 1))) "place") (tRet (tC .non)) { nx := fun _ H' => Q .non H', rt := Q }, rt := Q } [some (.ref a), lv] H := fun lv e => by
        refine ⟨_, rfl, a, C, dx, _, _, rfl, hi, T.cl, T.nUp, gUp _ _ _, _, _, rfl, rfl, _, rfl, a, C, dx, _, rfl, hi, T.cl, T.nUp, (by show 8 < 1000; decide), ?_⟩
        refine fin _ (RdAt.fld R (sUp ?_) rfl rfl) ((Kp.refl _).at (.inl rfl)) Q k lv
        rw [e]
        omega
      refine ⟨_, rfl, a, C, dx, _, _, rfl, hi, T.cl, T.nUp, gUp _ _ _, rfl, _, rfl, ifD (fun c1 => ?_) (fun c1 => ?_)⟩
      · injection c1 with c1
        refine ⟨_, rfl, a, C, dx, _, _, rfl, hi, T.cl, T.nPlace, gPlace _ _ _, _, rfl, rfl, _, rfl, ifD (fun c2 => ?_) (fun c2 => ?_)⟩
        · injection c2 with c2
          rw [bV_len] at c2
          refine iteT (B := False) (flip _ ?_)
          unfold Mir.turn
          rw [if_pos (by omega)]
        · have c2' : ¬ m.place = m.broken.length - 1 := fun q => c2 (by rw [bV_len]; congr 1; omega)
          refine iteF (A := False) ?_
          refine ⟨_, rfl, a, C, dx, _, _, rfl, hi, T.cl, T.nUp, gUp _ _ _, rfl, _, rfl, ifD (fun c3 => ?_) (fun c3 => ?_)⟩
          · injection c3 with c3
            omega
          · refine iteF (A := False) (same _ ?_)
            unfold Mir.turn
            rw [if_neg (by omega)]
      · have c1' : ¬ m.up = 1 := fun q => c1 (by rw [q]; rfl)
        refine iteF (A := False) ?_
        refine ⟨_, rfl, a, C, dx, _, _, rfl, hi, T.cl, T.nUp, gUp _ _ _, rfl, _, rfl, ifD (fun c3 => ?_) (fun c3 => ?_)⟩
        · injection c3 with c3
          refine ⟨_, rfl, a, C, dx, _, _, rfl, hi, T.cl, T.nPlace, gPlace _ _ _, rfl, _, rfl, ifD (fun c2 => ?_) (fun c2 => ?_)⟩
          · injection c2 with c2
            refine iteT (B := False) (flip _ ?_)
            unfold Mir.turn
            rw [if_pos (by omega)]
          · have c2' : ¬ m.place = 0 := fun q => c2 (by rw [q]; rfl)
            refine iteF (A := False) (same _ ?_)
            unfold Mir.turn
            rw [if_neg (by omega)]
        · have c3' : ¬ m.up = 0 := fun q => c3 (by rw [q]; rfl)
          omega
end
end Sp

namespace Sp
open PySem PySem.Spec PyProof.Rows L2
section
variable {P : Program} {w : World} {K : PySem.W.Frag} {mg : Str → Option Value} {base : Heap} {C : Addr}
/-! ### work -/
theorem scWork : FnScope ["self"] ["self"] (defScope sWork) := ⟨rfl, rfl, rfl, by decide +kernel, rfl, by decide +kernel, by decide +kernel⟩
theorem ok_work {f fM : Addr} {fd fdM : FuncData} (F : Fun K "work" "Round.work" sWork f fd) (T : Txt K mg C) (GM : FnOk P w K mg base CX0 1 fM fdM ["self"] (spOn C Mir.move)) (bM : Binds K fdM ["self"] []) (mM : Meth K C "move" fM) :
    FnOk P w K mg base CX0 2 f fd ["self"] (spOn C Mir.work) := by
  refine F.ok scWork (fun vs H Q E h => ?_) (fun cdv A outer s H vs Q E hr h => ?_)
  · obtain ⟨a, bl, ll, n, m, rfl, _⟩ := h
    rfl
  · obtain ⟨a, bl, ll, n, m, rfl, R, W, hn, k⟩ := h
    refine ⟨_, pss_cons (ps_if (pt_not (pt_val (pe_ix ix_list (pe_fld (pv 0) rfl) (pe_fld (pv 0) rfl) (fun _ _ => rfl)))) (pss_one (ps_ret (pe_meth0 (pv 0) T.cl mM GM hr bM .nil pass0))) pss_nil)
      (pss_cons (ps_fld (pv 0) (pe_op op_add (pe_fld (pv 0) rfl) pe_int) rfl)
      (pss_cons (ps_if (pt_cmpR op_eq (pe_fld (pv 0) rfl) (pe_fld (pv 0) rfl) (nomark _))
        (pss_cons (ps_fld (pv 0) pe_int rfl)
        (pss_cons (ps_asg pe_bl (pg_sub (pe_fld (pv 0) rfl) (pe_fld (pv 0) rfl) set_list))
        (pss_one (ps_asg pe_int (pg_sub (pe_fld (pv 0) rfl) (pe_fld (pv 0) rfl) set_list))))) pss_nil)
      (pss_one (ps_ret pe_non)))), ?_⟩
    obtain ⟨dx, hi⟩ := R.ins
    have pb : m.place < m.broken.length := by
      rw [W.bl]
      exact W.pl
    have pl : m.place < m.lost.length := by
      rw [W.ll]
      exact W.pl
    refine ⟨_, rfl, a, C, dx, _, _, rfl, hi, T.cl, T.nBroken, gBroken _ _ _, _, rfl, a, C, dx, _, _, rfl, hi, T.cl, T.nPlace, gPlace _ _ _, bl, _, _, _, rfl, rfl, SqL.of R.br, at_of (j := m.place) rfl (bV_get true pb), _, rfl, ifN (fun hb => ?_) (fun hb => ?_)⟩
    · have e : Mir.work m = Mir.move m := by
        unfold Mir.work
        rw [hb, if_neg Bool.false_ne_true]
      rw [e] at k
      exact ⟨_, rfl, a, dx, _, rfl, hi, gNo _ _ _ (by decide +kernel), a, bl, ll, n, m, rfl, R, W, hn, k⟩
    · refine ⟨_, rfl, a, C, dx, _, _, rfl, hi, T.cl, T.nPieced, gPieced _ _ _, _, _, rfl, rfl, _, rfl, a, C, dx, _, rfl, hi, T.cl, T.nPieced, (by show 8 < 1000; decide), ?_⟩
      have R1 := RdAt.fld (dx := dx) R (sPieced (m := m) (x := m.pieced + 1) (z := (m.pieced : Int) + 1) (by omega)) rfl rfl
      have k1 : Kp H (upd H a (.ins C dx (putF "pieced" (.int ((m.pieced : Int) + 1)) (rF m bl ll)))) a bl ll := (Kp.refl _).at (.inl rfl)
      revert R1 k1
      generalize upd H a (.ins C dx (putF "pieced" (.int ((m.pieced : Int) + 1)) (rF m bl ll))) = H1
      intro R1 k1
      obtain ⟨dx1, hi1⟩ := R1.ins
      refine ⟨_, rfl, a, C, dx1, _, _, rfl, hi1, T.cl, T.nPieced, gPieced _ _ _, _, rfl, a, C, dx1, _, _, rfl, hi1, T.cl, T.nPiecing, gPiecing _ _ _, rfl, _, rfl, ifD (fun c => ?_) (fun c => ?_)⟩
      · injection c with c
        have c' : m.pieced + 1 = m.p := by
          have c : ((m.pieced + 1 : Nat) : Int) = (m.p : Int) := c
          omega
        have e : Mir.work m = { m with pieced := 0, broken := m.broken.set m.place false, lost := m.lost.set m.place 0 } := by
          unfold Mir.work
          rw [if_pos hb, if_pos c']
        rw [e] at k
        refine ⟨_, rfl, a, C, dx1, _, rfl, hi1, T.cl, T.nPieced, (by show 8 < 1000; decide), ?_⟩
        have R2 := RdAt.fld (dx := dx1) R1 (sPieced (m := { m with pieced := m.pieced + 1 }) (x := 0) (z := 0) rfl) rfl rfl
        have k2 := k1.at (o := .ins C dx1 (putF "pieced" (.int 0) (rF { m with pieced := m.pieced + 1 } bl ll))) (.inl rfl)
        revert R2 k2
        generalize upd H1 a (.ins C dx1 (putF "pieced" (.int 0) (rF { m with pieced := m.pieced + 1 } bl ll))) = H2
        intro R2 k2
        obtain ⟨dx2, hi2⟩ := R2.ins
        refine ⟨_, rfl, a, C, dx2, _, _, rfl, hi2, T.cl, T.nBroken, gBroken _ _ _, _, rfl, a, C, dx2, _, _, rfl, hi2, T.cl, T.nPlace, gPlace _ _ _, bl, _, _, m.place, rfl, rfl, R2.br, ixN_at rfl (by rw [bV_len]; exact pb), ?_⟩
        have R3 := R2.setB (xs := (bV m.broken).set m.place (V.bl false)) bV_set
        have k3 := k2.at (o := .lst ((bV m.broken).set m.place (V.bl false))) (.inr (.inl rfl))
        obtain ⟨dx3, hi3⟩ := R3.ins
        refine ⟨_, rfl, a, C, dx3, _, _, rfl, hi3, T.cl, T.nLost, gLost _ _ _, _, rfl, a, C, dx3, _, _, rfl, hi3, T.cl, T.nPlace, gPlace _ _ _, ll, _, _, m.place, rfl, rfl, R3.lo, ixN_at rfl (by rw [nV_len]; exact pl), ?_⟩
        exact k _ (R3.setL (nV_set (k := 0) rfl)) (k3.at (.inr (.inr rfl)))
      · have c' : ¬ m.pieced + 1 = m.p := fun q => c (by
          show V.int ((m.pieced + 1 : Nat) : Int) = V.int (m.p : Int)
          rw [q])
        have e : Mir.work m = { m with pieced := m.pieced + 1 } := by
          unfold Mir.work
          rw [if_pos hb, if_neg c']
        rw [e] at k
        exact k _ R1 k1
/-! ### lose -/
theorem scLose : FnScope ["self", "spindle"] ["self"] (defScope sLose) := ⟨rfl, rfl, rfl, by decide +kernel, rfl, by decide +kernel, by decide +kernel⟩
theorem ok_lose {f : Addr} {fd : FuncData} (F : Fun K "lose" "Round.lose" sLose f fd) (T : Txt K mg C) : FnOk P w K mg base CX0 1 f fd ["self"] (spOn C Mir.lose) := by
  refine F.ok scLose (fun vs H Q E h => ?_) (fun cdv A outer s H vs Q E hr h => ?_)
  · obtain ⟨a, bl, ll, n, m, rfl, _⟩ := h
    rfl
  · obtain ⟨a, bl, ll, n, m, rfl, R, W, hn, k⟩ := h
    refine ⟨_, pss_one (ps_for PassesOwn.never rfl (pi_range1 rfl T.range (pa_cons (pe_callB call_len_seq (by rfl) T.len PySem.boot_len (pa_cons (pe_fld (pv 0) rfl) pa_nil)) pa_nil)) (pg_name (i := 1) scLose.nd rfl (Or.inl rfl))
      (pss_one (ps_if (pt_val (pe_ix ix_list (pe_fld (pv 0) rfl) (pv 1) (fun _ _ => rfl)))
        (pss_cons (ps_asg (pe_op op_add (pe_ix ix_list (pe_fld (pv 0) rfl) (pv 1) (fun _ _ => rfl)) pe_int) (pg_sub (pe_fld (pv 0) rfl) (pv 1) set_list))
        (pss_cons (ps_fld (pv 0) (pe_op op_add (pe_fld (pv 0) rfl) pe_int) rfl)
        (pss_one (ps_fld (pv 0) (pe_callB (call_max2 rfl) (by rfl) T.max (by decide +kernel) (pa_cons (pe_fld (pv 0) rfl) (pa_cons (pe_ix ix_list (pe_fld (pv 0) rfl) (pv 1) (fun _ _ => rfl)) pa_nil))) rfl))))
        pss_nil))), ?_⟩
    obtain ⟨dx, hi⟩ := R.ins
    have hl := W.bl
    refine ⟨_, rfl, a, C, dx, _, _, rfl, hi, T.cl, T.nBroken, gBroken _ _ _, bl, _, rfl, .inl (SqL.of R.br), _, rfl, ?_, ?_, ?_⟩
    · omega
    · rw [bV_len]
      omega
    refine for_range (lo := 0) (n := ((bV m.broken).length : Int).toNat) (fun i σ H' => ∃ v : Option V, σ = [some (.ref a), v] ∧ RdAt C H' a bl ll (Mir.loseN m i) ∧ Kp H H' a bl ll) ⟨none, rfl, R, Kp.refl _⟩ ?_ ?_
    · rintro i σ H' hi' ⟨v, rfl, R1, kp⟩
      have hin : i < m.broken.length := by
        rw [bV_len] at hi'
        omega
      show _
      have W1 := Mir.wf_loseN W i
      have eN : Mir.loseN m (i + 1) = Mir.lose1 (Mir.loseN m i) i := rfl
      rw [eN]
      revert R1 W1
      generalize Mir.loseN m i = m1
      intro R1 W1
      have xb : i < m1.broken.length := by
        rw [W1.bl]
        omega
      have xl : i < m1.lost.length := by
        rw [W1.ll]
        omega
      obtain ⟨dx1, hi1⟩ := R1.ins
      refine ⟨_, rfl, a, C, dx1, _, _, rfl, hi1, T.cl, T.nBroken, gBroken _ _ _, _, rfl, bl, _, _, _, rfl, rfl, SqL.of R1.br, at_of (j := i) (Int.zero_add _) (bV_get false xb), _, rfl, ifY (fun hb => ?_) (fun hb => ?_)⟩
      · have e1 : Mir.lose1 m1 i = { m1 with lost := m1.lost.set i (m1.lost.getD i 0 + 1), total := m1.total + 1, longest := max m1.longest (m1.lost.getD i 0 + 1) } := by
          unfold Mir.lose1
          rw [if_pos hb]
        rw [e1]
        refine ⟨_, rfl, a, C, dx1, _, _, rfl, hi1, T.cl, T.nLost, gLost _ _ _, _, rfl, ll, _, _, _, rfl, rfl, SqL.of R1.lo, at_of (j := i) (Int.zero_add _) (nV_get 0 xl), _, _, rfl, rfl, _, rfl, a, C, dx1, _, _, rfl, hi1, T.cl, T.nLost, gLost _ _ _, _, rfl, ll, _, _, i, rfl, rfl, R1.lo, ixN_at (Int.zero_add _) (by rw [nV_len]; exact xl), ?_⟩
        have R2 := R1.setL (xs := (nV m1.lost).set i (V.int (((m1.lost.getD i 0 : Nat) : Int) + 1))) (nV_set (k := m1.lost.getD i 0 + 1) (by omega))
        have k2 := kp.at (o := .lst ((nV m1.lost).set i (V.int (((m1.lost.getD i 0 : Nat) : Int) + 1)))) (.inr (.inr rfl))
        revert R2 k2
        generalize upd H' ll (.lst ((nV m1.lost).set i (V.int (((m1.lost.getD i 0 : Nat) : Int) + 1)))) = H2
        intro R2 k2
        obtain ⟨dx2, hi2⟩ := R2.ins
        refine ⟨_, rfl, a, C, dx2, _, _, rfl, hi2, T.cl, T.nTotal, gTotal _ _ _, _, _, rfl, rfl, _, rfl, a, C, dx2, _, rfl, hi2, T.cl, T.nTotal, (by show 8 < 1000; decide), ?_⟩
        have R3 := RdAt.fld (dx := dx2) R2 (sTotal (m := { m1 with lost := m1.lost.set i (m1.lost.getD i 0 + 1) }) (x := m1.total + 1) (z := (m1.total : Int) + 1) (by show (m1.total : Int) + 1 = ((m1.total + 1 : Nat) : Int); omega)) rfl rfl
        have k3 := k2.at (o := .ins C dx2 (putF "total" (.int ((m1.total : Int) + 1)) (rF { m1 with lost := m1.lost.set i (m1.lost.getD i 0 + 1) } bl ll))) (.inl rfl)
        revert R3 k3
        generalize upd H2 a (.ins C dx2 (putF "total" (.int ((m1.total : Int) + 1)) (rF { m1 with lost := m1.lost.set i (m1.lost.getD i 0 + 1) } bl ll))) = H3
        intro R3 k3
        obtain ⟨dx3, hi3⟩ := R3.ins
        have xl3 : i < (m1.lost.set i (m1.lost.getD i 0 + 1)).length := by
          rw [List.length_set]
          exact xl
        have gd : (m1.lost.set i (m1.lost.getD i 0 + 1)).getD i 0 = m1.lost.getD i 0 + 1 := by
          rw [List.getD_eq_getElem?_getD, List.getElem?_set_self xl]
          rfl
        refine ⟨_, rfl, a, C, dx3, _, _, rfl, hi3, T.cl, T.nLongest, gLongest _ _ _, _, rfl, a, C, dx3, _, _, rfl, hi3, T.cl, T.nLost, gLost _ _ _, _, rfl, ll, _, _, _, rfl, rfl, SqL.of R3.lo, at_of (j := i) (Int.zero_add _) (nV_get 0 xl3), _, _, rfl, _, rfl, a, C, dx3, _, rfl, hi3, T.cl, T.nLongest, (by show 8 < 1000; decide), ?_⟩
        refine ⟨_, rfl, RdAt.fld R3 (sLongest (m := { m1 with lost := m1.lost.set i (m1.lost.getD i 0 + 1), total := m1.total + 1 }) ?_) rfl rfl, k3.at (.inl rfl)⟩
        rw [gd]
        show (if ((m1.lost.getD i 0 + 1 : Nat) : Int) > (m1.longest : Int) then ((m1.lost.getD i 0 + 1 : Nat) : Int) else (m1.longest : Int)) = ((max m1.longest (m1.lost.getD i 0 + 1) : Nat) : Int)
        split <;> omega
      · have e1 : Mir.lose1 m1 i = m1 := by
          unfold Mir.lose1
          rw [hb, if_neg Bool.false_ne_true]
        rw [e1]
        exact ⟨_, rfl, R1, kp⟩
    · rintro σ H' ⟨v, rfl, R1, kp⟩
      have e : Mir.loseN m ((bV m.broken).length : Int).toNat = Mir.lose m := by
        unfold Mir.lose
        rw [bV_len, Int.toNat_natCast]
      rw [e] at R1
      exact k H' R1 kp
/-! ### tick -/
theorem scTick : FnScope ["self", "spindles"] ["self", "spindles"] (defScope sTick) := ⟨rfl, rfl, rfl, by decide +kernel, rfl, by decide +kernel, by decide +kernel⟩
theorem ok_tick {f fB fW fL : Addr} {fd fdB fdW fdL : FuncData} (F : Fun K "tick" "Round.tick" sTick f fd) (T : Txt K mg C)
    (GB : FnOk P w K mg base CX0 1 fB fdB ["self", "spindles"] (spBreak C)) (bB : Binds K fdB ["self", "spindles"] []) (mB : Meth K C "break_threads" fB)
    (GW : FnOk P w K mg base CX0 2 fW fdW ["self"] (spOn C Mir.work)) (bW : Binds K fdW ["self"] []) (mW : Meth K C "work" fW)
    (GL : FnOk P w K mg base CX0 1 fL fdL ["self"] (spOn C Mir.lose)) (bL : Binds K fdL ["self"] []) (mL : Meth K C "lose" fL) :
    FnOk P w K mg base CX0 3 f fd ["self", "spindles"] (spTick C) := by
  refine F.ok scTick (fun vs H Q E h => ?_) (fun cdv A outer s H vs Q E hr h => ?_)
  · obtain ⟨a, bl, ll, sl, n, m, ss, rfl, _⟩ := h
    rfl
  · obtain ⟨a, bl, ll, sl, n, m, ss, rfl, R, W, hn, hS, hss, nb, nl, k⟩ := h
    have hr1 : Room 1 _ := hr.mono (by decide)
    refine ⟨_, pss_cons (ps_expr (pe_meth (pv 0) T.cl mB GB hr1 bB .nil pass0 (pa_cons (pv 1) pa_nil)))
      (pss_cons (ps_expr (pe_meth0 (pv 0) T.cl mW GW hr bW .nil pass0))
      (pss_one (ps_expr (pe_meth0 (pv 0) T.cl mL GL hr1 bL .nil pass0)))), ?_⟩
    obtain ⟨dx, hi⟩ := R.ins
    refine ⟨_, rfl, a, dx, _, rfl, hi, gNo _ _ _ (by decide +kernel), _, rfl, a, bl, ll, sl, n, m, ss, rfl, R, W, hS, hss, nb, nl, fun H1 R1 k1 => ?_⟩
    obtain ⟨dx1, hi1⟩ := R1.ins
    have W1 := Mir.wf_brk ss W
    refine ⟨_, rfl, a, dx1, _, rfl, hi1, gNo _ _ _ (by decide +kernel), a, bl, ll, n, _, rfl, R1, W1, hn, fun H2 R2 k2 => ?_⟩
    obtain ⟨dx2, hi2⟩ := R2.ins
    have W2 := Mir.wf_work W1
    refine ⟨_, rfl, a, dx2, _, rfl, hi2, gNo _ _ _ (by decide +kernel), a, bl, ll, n, _, rfl, R2, W2, hn, fun H3 R3 k3 => ?_⟩
    exact k H3 R3 ((k1.trans k2).trans k3)
/-! ### __init__ -/
theorem scInit : FnScope ["self", "spindles", "piecing", "place", "up"] ["self", "spindles", "piecing", "place", "up"] (defScope sInit) := ⟨rfl, rfl, rfl, by decide +kernel, rfl, by decide +kernel, by decide +kernel⟩
theorem rep_one {v : V} : ∀ n : Nat, (List.replicate n [v]).flatten = List.replicate n v
  | 0 => rfl
  | n + 1 => by
    rw [List.replicate_succ, List.flatten_cons, rep_one n]
    rfl
theorem initF {n p place up : Nat} {bl ll : Addr} : putF "longest" (.int 0) (putF "total" (.int 0) (putF "pieced" (.int 0) (putF "lost" (.ref ll) (putF "broken" (.ref bl) (putF "up" (.int (up : Int)) (putF "place" (.int (place : Int)) (putF "piecing" (.int (p : Int)) []))))))) = rF (Mir.fresh n p place up) bl ll := by
  have e1 : putF "piecing" (.int (p : Int)) [] = ([("piecing", .int (p : Int))] : List (Str × V)) := rfl
  have e2 : putF "place" (.int (place : Int)) ([("piecing", .int (p : Int))] : List (Str × V)) = ([("piecing", .int (p : Int)), ("place", .int (place : Int))] : List (Str × V)) := ptP (by decide +kernel) rfl
  have e3 : putF "up" (.int (up : Int)) ([("piecing", .int (p : Int)), ("place", .int (place : Int))] : List (Str × V)) = ([("piecing", .int (p : Int)), ("place", .int (place : Int)), ("up", .int (up : Int))] : List (Str × V)) := ptP (by decide +kernel) (ptP (by decide +kernel) rfl)
  rw [e1, e2, e3]
  have e4 : putF "broken" (.ref bl) ([("piecing", .int (p : Int)), ("place", .int (place : Int)), ("up", .int (up : Int))] : List (Str × V)) = ([("piecing", .int (p : Int)), ("place", .int (place : Int)), ("up", .int (up : Int)), ("broken", .ref bl)] : List (Str × V)) := ptP (by decide +kernel) (ptP (by decide +kernel) (ptP (by decide +kernel) rfl))
  rw [e4]
  have e5 : putF "lost" (.ref ll) ([("piecing", .int (p : Int)), ("place", .int (place : Int)), ("up", .int (up : Int)), ("broken", .ref bl)] : List (Str × V)) = ([("piecing", .int (p : Int)), ("place", .int (place : Int)), ("up", .int (up : Int)), ("broken", .ref bl), ("lost", .ref ll)] : List (Str × V)) := ptP (by decide +kernel) (ptP (by decide +kernel) (ptP (by decide +kernel) (ptP (by decide +kernel) rfl)))
  rw [e5]
  have e6 : putF "pieced" (.int 0) ([("piecing", .int (p : Int)), ("place", .int (place : Int)), ("up", .int (up : Int)), ("broken", .ref bl), ("lost", .ref ll)] : List (Str × V)) = ([("piecing", .int (p : Int)), ("place", .int (place : Int)), ("up", .int (up : Int)), ("broken", .ref bl), ("lost", .ref ll), ("pieced", .int 0)] : List (Str × V)) := ptP (by decide +kernel) (ptP (by decide +kernel) (ptP (by decide +kernel) (ptP (by decide +kernel) (ptP (by decide +kernel) rfl))))
  rw [e6]
  have e7 : putF "total" (.int 0) ([("piecing", .int (p : Int)), ("place", .int (place : Int)), ("up", .int (up : Int)), ("broken", .ref bl), ("lost", .ref ll), ("pieced", .int 0)] : List (Str × V)) = ([("piecing", .int (p : Int)), ("place", .int (place : Int)), ("up", .int (up : Int)), ("broken", .ref bl), ("lost", .ref ll), ("pieced", .int 0), ("total", .int 0)] : List (Str × V)) := ptP (by decide +kernel) (ptP (by decide +kernel) (ptP (by decide +kernel) (ptP (by decide +kernel) (ptP (by decide +kernel) (ptP (by decide +kernel) rfl)))))
  rw [e7]
  exact ptP (by decide +kernel) (ptP (by decide +kernel) (ptP (by decide +kernel) (ptP (by decide +kernel) (ptP (by decide +kernel) (ptP (by decide +kernel) (ptP (by decide +kernel) rfl))))))
theorem ok_init {f : Addr} {fd : FuncData} (F : Fun K "__init__" "Round.__init__" sInit f fd) (T : Txt K mg C) : FnOk P w K mg base CX0 1 f fd ["self", "spindles", "piecing", "place", "up"] (spInit C) := by
  refine F.ok scInit (fun vs H Q E h => ?_) (fun cdv A outer s H vs Q E hr h => ?_)
  · obtain ⟨x, dx, n, p, place, up, rfl, _⟩ := h
    rfl
  · obtain ⟨x, dx, n, p, place, up, rfl, hx, hn, k⟩ := h
    refine ⟨_, pss_cons (ps_fld (pv 0) (pv 2) rfl) (pss_cons (ps_fld (pv 0) (pv 3) rfl) (pss_cons (ps_fld (pv 0) (pv 4) rfl)
      (pss_cons (ps_fld (pv 0) (pe_op op_rep (pe_lst (pa_cons pe_bl pa_nil)) (pv 1)) rfl)
      (pss_cons (ps_fld (pv 0) (pe_op op_rep (pe_lst (pa_cons pe_int pa_nil)) (pv 1)) rfl)
      (pss_cons (ps_fld (pv 0) pe_int rfl) (pss_cons (ps_fld (pv 0) pe_int rfl) (pss_one (ps_fld (pv 0) pe_int rfl)))))))), ?_⟩
    have h63 : -(2 ^ 63) ≤ (n : Int) ∧ (n : Int) < 2 ^ 63 := by constructor <;> omega
    have hsz : ∀ v : V, [v].length * ((n : Int)).toNat ≤ sizeLine := fun v => by
      rw [Int.toNat_natCast]
      exact Nat.le_trans (show 1 * n ≤ 16 by omega) (by decide)
    refine ⟨_, rfl, _, rfl, x, C, dx, _, rfl, hx, T.cl, T.nPiecing, (by show 0 < 1000; decide), ?_⟩
    refine ⟨_, rfl, _, rfl, x, C, dx, _, rfl, upd_same, T.cl, T.nPlace, (by show 1 < 1000; decide), ?_⟩
    refine ⟨_, rfl, _, rfl, x, C, dx, _, rfl, upd_same, T.cl, T.nUp, (by show 2 < 1000; decide), ?_⟩
    -- the heap so far: only x is another
    generalize e0 : upd (upd (upd H x _) x _) x _ = H0
    have h0 : ∀ b, b ≠ x → H0 b = H b := fun b hb => by rw [← e0, upd_ne hb, upd_ne hb, upd_ne hb]
    have x0 : H0 x = some (.ins C dx (putF "up" (.int (up : Int)) (putF "place" (.int (place : Int)) (putF "piecing" (.int (p : Int)) [])))) := by
      rw [← e0]
      exact upd_same
    refine ⟨(by show 1 ≤ sizeLine; decide), fun t1 n1 => ⟨_, rfl, t1, _, _, rfl, rfl, upd_same, h63.1, h63.2, hsz _, fun bl n2 => ?_⟩⟩
    have a1 : t1 ≠ x := fun q => by
      rw [q, x0] at n1
      cases n1
    have a2 : bl ≠ t1 := fun q => by
      rw [q, upd_same] at n2
      cases n2
    rw [upd_ne a2] at n2
    have a3 : bl ≠ x := fun q => by
      rw [q, x0] at n2
      cases n2
    refine ⟨_, rfl, x, C, dx, _, rfl, (by rw [upd_ne (fun q => a3 q.symm), upd_ne (fun q => a1 q.symm)]; exact x0), T.cl, T.nBroken, (by show 3 < 1000; decide), ?_⟩
    generalize e1 : upd (upd (upd H0 t1 _) bl _) x _ = H1
    have b1 : H1 bl = some (.lst (bV (List.replicate n false))) := by
      rw [← e1, upd_ne a3, upd_same, Int.toNat_natCast, rep_one]
      show some (HO.lst (List.replicate n (V.bl false))) = some (HO.lst ((List.replicate n false).map V.bl))
      rw [List.map_replicate]
    have x1 : H1 x = some (.ins C dx (putF "broken" (.ref bl) (putF "up" (.int (up : Int)) (putF "place" (.int (place : Int)) (putF "piecing" (.int (p : Int)) []))))) := by
      rw [← e1]
      exact upd_same
    have k1 : ∀ b o, H b = some o → b ≠ x → H1 b = some o := fun b o h hb => by
      have hb0 : H0 b = some o := (h0 b hb).trans h
      rw [← e1, upd_ne hb, upd_ne (ne_of_none hb0 n2), upd_ne (ne_of_none hb0 n1)]
      exact hb0
    refine ⟨(by show 1 ≤ sizeLine; decide), fun t2 n3 => ⟨_, rfl, t2, _, _, rfl, rfl, upd_same, h63.1, h63.2, hsz _, fun ll n4 => ?_⟩⟩
    have a4 : t2 ≠ x := fun q => by
      rw [q, x1] at n3
      cases n3
    have a5 : ll ≠ t2 := fun q => by
      rw [q, upd_same] at n4
      cases n4
    rw [upd_ne a5] at n4
    have a6 : ll ≠ x := fun q => by
      rw [q, x1] at n4
      cases n4
    have a7 : ll ≠ bl := fun q => by
      rw [q, b1] at n4
      cases n4
    have a8 : bl ≠ t2 := ne_of_none b1 n3
    refine ⟨_, rfl, x, C, dx, _, rfl, (by rw [upd_ne (fun q => a6 q.symm), upd_ne (fun q => a4 q.symm)]; exact x1), T.cl, T.nLost, (by show 4 < 1000; decide), ?_⟩
    generalize e2 : upd (upd (upd H1 t2 _) ll _) x _ = H2
    have b2 : H2 bl = some (.lst (bV (List.replicate n false))) := by
      rw [← e2, upd_ne a3, upd_ne (fun q => a7 q.symm), upd_ne a8]
      exact b1
    have l2 : H2 ll = some (.lst (nV (List.replicate n 0))) := by
      rw [← e2, upd_ne a6, upd_same, Int.toNat_natCast, rep_one]
      show some (HO.lst (List.replicate n (V.int 0))) = some (HO.lst ((List.replicate n 0).map fun (k : Nat) => V.int (k : Int)))
      rw [List.map_replicate]
      rfl
    have x2 : H2 x = some (.ins C dx (putF "lost" (.ref ll) (putF "broken" (.ref bl) (putF "up" (.int (up : Int)) (putF "place" (.int (place : Int)) (putF "piecing" (.int (p : Int)) [])))))) := by
      rw [← e2]
      exact upd_same
    have k2 : ∀ b o, H b = some o → b ≠ x → H2 b = some o := fun b o h hb => by
      have hb1 := k1 b o h hb
      rw [← e2, upd_ne hb, upd_ne (ne_of_none hb1 n4), upd_ne (ne_of_none hb1 n3)]
      exact hb1
    refine ⟨_, rfl, x, C, dx, _, rfl, x2, T.cl, T.nPieced, (by show 5 < 1000; decide), ?_⟩
    refine ⟨_, rfl, x, C, dx, _, rfl, upd_same, T.cl, T.nTotal, (by show 6 < 1000; decide), ?_⟩
    refine ⟨_, rfl, x, C, dx, _, rfl, upd_same, T.cl, T.nLongest, (by show 7 < 1000; decide), ?_⟩
    refine k _ bl ll ⟨⟨dx, Eq.trans upd_same (congrArg (fun q => some (HO.ins C dx q)) initF)⟩, ?_, ?_, fun q => a7 q.symm⟩ ?_ ?_ ?_
    · rw [upd_ne a3, upd_ne a3, upd_ne a3]
      exact b2
    · rw [upd_ne a6, upd_ne a6, upd_ne a6]
      exact l2
    · exact (h0 bl a3).symm.trans n2
    · cases q : H ll with
      | none => rfl
      | some o =>
        rw [k1 ll o q a6] at n4
        cases n4
    · intro b o h hb
      rw [upd_ne hb, upd_ne hb, upd_ne hb]
      exact k2 b o h hb
end
end Sp

namespace Sp
open PySem PySem.Spec PyProof.Rows L2
/-- the breaks stand at p: a list of tuples -/
def BrAt (H : Hp) (p : Addr) (prs : List (Nat × Nat)) : Prop := ∃ ts : List Addr, H p = some (.lst (ts.map V.ref)) ∧ ts.length = prs.length ∧
  ∀ (i : Nat) (t : Addr) (x : Nat × Nat), ts[i]? = some t → prs[i]? = some x → H t = some (.tup [.int (x.1 : Int), .int (x.2 : Int)])
theorem BrAt.same {H H' : Hp} {p : Addr} {prs : List (Nat × Nat)} (B : BrAt H p prs) (s : Same H H') : BrAt H' p prs := by
  obtain ⟨ts, h1, h2, h3⟩ := B
  exact ⟨ts, s _ _ h1, h2, fun i t x a b => s _ _ (h3 i t x a b)⟩
def spBo (K : PySem.W.Frag) : Sp := fun vs H Q _ => ∃ (la : Addr) (ls : List Nat), vs = [.ref la] ∧ SqL K H la (nV ls) ∧ ls.length % 2 = 0 ∧ ls.length ≤ 40 ∧
  ∀ (H' : Hp) (p : Addr), Same H H' → H p = none → BrAt H' p (Kzd3.breaks ls) → Q (.ref p) H'
def spSide : Sp := fun vs H Q _ => ∃ n p m : Nat, vs = [.int (n : Int), .int (p : Int), .int (m : Int)] ∧ Q (.bl (Mir.isSide n p m)) H
def spBeg : Sp := fun vs H Q _ => ∃ n place up : Nat, vs = [.int (n : Int), .int (place : Int), .int (up : Int)] ∧ Q (.bl (Mir.isBegin n place up)) H
def spAre (K : PySem.W.Frag) : Sp := fun vs H Q _ => ∃ (n : Nat) (la : Addr) (ls : List Nat), vs = [.int (n : Int), .ref la] ∧ SqL K H la (nV ls) ∧ ∀ H' : Hp, Same H H' → Q (.bl (Mir.areBreaks n ls)) H'
def spRight (K : PySem.W.Frag) : Sp := fun vs H Q _ => ∃ (n p m : Nat) (la : Addr) (ls : List Nat), vs = [.int (n : Int), .int (p : Int), .int (m : Int), .ref la] ∧ SqL K H la (nV ls) ∧
  ∀ H' : Hp, Same H H' → Q (.bl (Mir.isSide n p m && Mir.areBreaks n ls)) H'
def spRB (C : Addr) : Sp := fun vs H Q _ => ∃ (n p m place up : Nat) (bp : Addr) (prs : List (Nat × Nat)), vs = [.int (n : Int), .int (p : Int), .int (m : Int), .int (place : Int), .int (up : Int), .ref bp] ∧
  BrAt H bp prs ∧ prs.length ≤ 20 ∧ (∀ x ∈ prs, x.2 < n) ∧ n ≤ 16 ∧ m ≤ 200 ∧ place < n ∧ up ≤ 1 ∧
  ∀ (H' : Hp) (a bl ll : Addr), Same H H' → RdAt C H' a bl ll (Mir.runN (Mir.fresh n p place up) prs m) → Q (.ref a) H'
section
variable {P : Program} {w : World} {K : PySem.W.Frag} {mg : Str → Option Value} {base : Heap} {C : Addr}
/-! ### is_side -/
theorem scSide : FnScope ["n", "p", "m"] ["n", "p", "m"] (defScope sSide) := ⟨rfl, rfl, rfl, by decide +kernel, rfl, by decide +kernel, by decide +kernel⟩
theorem ok_side {f : Addr} {fd : FuncData} (F : Fun K "is_side" "is_side" sSide f fd) (T : Txt K mg C) : FnOk P w K mg base CX0 1 f fd ["n", "p", "m"] spSide := by
  refine F.ok scSide (fun vs H Q E h => ?_) (fun cdv A outer s H vs Q E hr h => ?_)
  · obtain ⟨n, p, m, rfl, _⟩ := h
    rfl
  · obtain ⟨n, p, m, rfl, k⟩ := h
    obtain ⟨tS, mS⟩ := T.mS
    obtain ⟨tP, mP⟩ := T.mP
    obtain ⟨tT, mT⟩ := T.mT
    refine ⟨_, pss_one (ps_ret (pe_and (pe_chain op_le op_le pe_int (pv 0) (pe_glob (v := .int 16) rfl mS ⟨_, rfl⟩)) (pe_and (pe_chain op_le op_le pe_int (pv 1) (pe_glob (v := .int 9) rfl mP ⟨_, rfl⟩)) (pe_one (pe_cmpR op_le (pv 2) (pe_glob (v := .int 200) rfl mT ⟨_, rfl⟩) (nomark _)))))), ?_⟩
    have no : (¬ (1 ≤ n ∧ n ≤ 16 ∧ 1 ≤ p ∧ p ≤ 9)) → Q (.bl false) H := fun h => by
      rw [Mir.isSide_no h] at k
      exact k
    refine ⟨_, rfl, _, _, rfl, rfl, _, rfl, ifD (fun c1 => ?_) (fun c1 => ?_)⟩
    · refine ⟨_, _, rfl, rfl, _, rfl, ifD (fun c2 => ?_) (fun c2 => no (by omega))⟩
      refine ⟨_, rfl, _, _, rfl, rfl, _, rfl, ifD (fun c3 => ?_) (fun c3 => ⟨_, rfl, no (by omega)⟩)⟩
      refine ⟨_, _, rfl, rfl, _, rfl, ifD (fun c4 => ?_) (fun c4 => no (by omega))⟩
      refine ⟨_, rfl, _, _, rfl, rfl, ?_⟩
      rw [Mir.isSide_yes ⟨by omega, by omega, by omega, by omega⟩] at k
      exact k
    · exact ⟨_, rfl, no (by omega)⟩
/-! ### is_right -/
theorem scRight : FnScope ["n", "p", "m", "l"] ["n", "p", "m", "l"] (defScope sRight) := ⟨rfl, rfl, rfl, by decide +kernel, rfl, by decide +kernel, by decide +kernel⟩
theorem ok_right {f fS fA : Addr} {fd fdS fdA : FuncData} (F : Fun K "is_right" "is_right" sRight f fd) (GS : FnOk P w K mg base CX0 1 fS fdS ["n", "p", "m"] spSide) (bS : Binds K fdS ["n", "p", "m"] []) (gS : mg "is_side" = some (.ref fS)) (kS : PySem.W.keepIn K (.ref fS) = true)
    (GA : FnOk P w K mg base CX0 2 fA fdA ["n", "numbers"] (spAre K)) (bA : Binds K fdA ["n", "numbers"] []) (gA : mg "are_breaks" = some (.ref fA)) (kA : PySem.W.keepIn K (.ref fA) = true) : FnOk P w K mg base CX0 3 f fd ["n", "p", "m", "l"] (spRight K) := by
  refine F.ok scRight (fun vs H Q E h => ?_) (fun cdv A outer s H vs Q E hr h => ?_)
  · obtain ⟨n, p, m, la, ls, rfl, _⟩ := h
    rfl
  · obtain ⟨n, p, m, la, ls, rfl, hS, k⟩ := h
    have hr1 : Room 1 _ := hr.mono (by decide)
    refine ⟨_, pss_one (ps_ret (pe_and (pe_call GS hr1 rfl gS kS bS .nil pass0 (pa_cons (pv 0) (pa_cons (pv 1) (pa_cons (pv 2) pa_nil)))) (pe_one (pe_call GA hr rfl gA kA bA .nil pass0 (pa_cons (pv 0) (pa_cons (pv 3) pa_nil)))))), ?_⟩
    refine ⟨_, rfl, _, rfl, _, rfl, n, p, m, rfl, _, rfl, ifY (fun c => ?_) (fun c => ?_)⟩
    · refine ⟨_, rfl, _, rfl, n, la, ls, rfl, hS, fun H1 s1 => ?_⟩
      have q := k H1 s1
      rw [c] at q
      exact q
    · have q := k H (Same.refl H)
      rw [c] at q
      exact q
/-! ### breaks_of -/
theorem scBo : FnScope ["numbers", "at"] ["numbers"] (defScope sBo) := ⟨rfl, rfl, rfl, by decide +kernel, rfl, by decide +kernel, by decide +kernel⟩
theorem rg2 {n : Nat} (h : n ≤ 40) (h2 : n % 2 = 0) : RgC 0 (n : Int) 2 (n / 2) := by
  have e : Builtin.Range.rangeSize 0 (n : Int) 2 = ((n / 2 : Nat) : Int) := by
    unfold Builtin.Range.rangeSize
    rw [if_pos (by decide)]
    split <;> omega
  refine ⟨by decide, by decide, ?_, e⟩
  have hz : ∀ z : Int, -(2 ^ 63) ≤ z → z < 2 ^ 63 → Builtin.Range.rangeFitsLong z = true := fun z h1 h2 => by
    unfold Builtin.Range.rangeFitsLong
    rw [decide_eq_true h1, decide_eq_true h2]
    rfl
  unfold Builtin.Range.small
  rw [e, hz 0 (by decide) (by decide), hz (n : Int) (by omega) (by omega), hz 2 (by decide) (by decide), hz ((n / 2 : Nat) : Int) (by omega) (by omega), if_pos (show (2 : Int) > 0 by decide)]
  rw [hz ((n : Int) + (2 - 1)) (by omega) (by omega), Bool.or_true]
  rfl
theorem ok_bo {f : Addr} {fd : FuncData} (F : Fun K "breaks_of" "breaks_of" sBo f fd) (T : Txt K mg C) : FnOk P w K mg base CX0 1 f fd ["numbers"] (spBo K) := by
  refine F.ok scBo (fun vs H Q E h => ?_) (fun cdv A outer s H vs Q E hr h => ?_)
  · obtain ⟨la, ls, rfl, _⟩ := h
    rfl
  · obtain ⟨la, ls, rfl, hS, he, hl, k⟩ := h
    refine ⟨_, pss_one (ps_ret (pe_lc (own := [("at", 1)]) (g := gName 1) (tt := tYes) (te := tTup (tCons (tOp (rIxL K) (tVar 0) (tVar 1)) (tCons (tOp (rIxL K) (tVar 0) (tOp (rI0 fun i j => .int (i + j)) (tVar 1) (tC (.int 1)))) tNil))) rfl scBo.nd (pi_range3 rfl T.range (pa_cons pe_int (pa_cons (pe_callB call_len_seq (by rfl) T.len PySem.boot_len (pa_cons (pv 0) pa_nil)) (pa_cons pe_int pa_nil))))
      (blkOk_by (own := [("at", 1)]) (N := ["numbers", "at"]) (sc := defScope sBo) (by decide +kernel)) (fun _ _ _ _ _ => pg_name (i := 1) scBo.nd rfl (Or.inl rfl)) (fun _ _ _ _ _ => pts_nil)
      (fun _ _ _ _ _ => pe_tup (pa_cons (pe_ix ix_list (pv 0) (pv 1) (fun _ _ => rfl)) (pa_cons (pe_ix ix_list (pv 0) (pe_op op_add (pv 1) pe_int) (fun _ _ => rfl)) pa_nil))))), ?_⟩
    refine ⟨_, rfl, la, _, rfl, .inl hS, _, _, _, ls.length / 2, rfl, by rw [nV_len]; exact rg2 hl he, fun D hD => ?_⟩
    refine lc_it walk_rangeC (fun i H' => Same H H' ∧ ∃ ts : List Addr, H' D = some (.lst (ts.map V.ref)) ∧ ts.length = i ∧ ∀ (j : Nat) (t : Addr) (x : Nat × Nat), ts[j]? = some t → (Kzd3.breaks ls)[j]? = some x → H' t = some (.tup [.int (x.1 : Int), .int (x.2 : Int)]))
      ⟨Same.new (Same.refl H) hD, [], upd_same, rfl, fun j t x a => by simp at a⟩ (fun _ _ _ _ => trivial) ?_ ?_
    · rintro i y H1 H2 hi ⟨s1, ts, hts, tl, tk⟩ ⟨rfl, rfl⟩
      have i1 : 2 * i + 1 < ls.length := by omega
      have i0 : 2 * i < ls.length := by omega
      refine ⟨rfl, ?_⟩
      refine ⟨_, rfl, _, rfl, la, _, _, _, rfl, rfl, s1.seq hS, at_of (j := 2 * i) (by omega) (nV_get 0 i0), _, rfl, _, rfl, _, _, rfl, rfl, la, _, _, _, rfl, rfl, s1.seq hS, at_of (j := 2 * i + 1) (by show (0 : Int) + (i : Int) * 2 + 1 = ((2 * i + 1 : Nat) : Int); omega) (nV_get 0 i1), (by show 2 ≤ sizeLine; decide), fun t ht => ?_⟩
      have hDt : D ≠ t := ne_of_none hts ht
      refine ⟨_, (by rw [upd_ne hDt]; exact hts), (by rw [List.length_map, tl]; exact Nat.lt_of_le_of_lt (show i ≤ 20 by omega) (by decide)), ?_⟩
      refine ⟨fun b o h => ?_, ts ++ [t], ?_, by rw [List.length_append, tl]; rfl, fun j t' x a b => ?_⟩
      · rw [upd_ne (fun q => by rw [q, hD] at h; cases h), upd_ne (ne_of_none (s1 b o h) ht)]
        exact s1 b o h
      · rw [upd_same, List.map_append]
        rfl
      · by_cases hj : j < ts.length
        · rw [List.getElem?_append_left hj] at a
          have q := tk j t' x a b
          have nD : t' ≠ D := ne_of q hts (by intro z; cases z)
          rw [upd_ne nD, upd_ne (ne_of_none q ht)]
          exact q
        · have hj' : j = ts.length := by
            have := (List.getElem?_eq_some_iff.mp a).1
            rw [List.length_append] at this
            have : j < ts.length + 1 := this
            omega
          subst hj'
          rw [List.getElem?_append_right (Nat.le_refl _), Nat.sub_self] at a
          have et : t = t' := Option.some.inj a
          subst et
          rw [tl, Mir.breaks_get ls i i1] at b
          have ex := Option.some.inj b
          subst ex
          rw [upd_ne (fun q => hDt q.symm)]
          exact upd_same
    · rintro H1 ⟨s1, ts, hts, tl, tk⟩
      exact k H1 D s1 hD ⟨ts, hts, by rw [tl, Mir.breaks_len], tk⟩
end
end Sp

namespace Sp
open PySem PySem.Spec PyProof.Rows L2
section
variable {P : Program} {w : World} {K : PySem.W.Frag} {mg : Str → Option Value} {base : Heap} {C : Addr}
/-! ### are_breaks -/
theorem scAre : FnScope ["n", "numbers", "tick", "spindle"] ["n", "numbers"] (defScope sAre) := ⟨rfl, rfl, rfl, by decide +kernel, rfl, by decide +kernel, by decide +kernel⟩
theorem ok_are {f fB : Addr} {fd fdB : FuncData} (F : Fun K "are_breaks" "are_breaks" sAre f fd) (T : Txt K mg C) (GB : FnOk P w K mg base CX0 1 fB fdB ["numbers"] (spBo K)) (bB : Binds K fdB ["numbers"] []) (gB : mg "breaks_of" = some (.ref fB)) (kB : PySem.W.keepIn K (.ref fB) = true) :
    FnOk P w K mg base CX0 2 f fd ["n", "numbers"] (spAre K) := by
  refine F.ok scAre (fun vs H Q E h => ?_) (fun cdv A outer s H vs Q E hr h => ?_)
  · obtain ⟨n, la, ls, rfl, _⟩ := h
    rfl
  · obtain ⟨n, la, ls, rfl, hS, k⟩ := h
    obtain ⟨tT, mT⟩ := T.mT
    obtain ⟨tB, mB⟩ := T.mB
    refine ⟨_, pss_cons (ps_if (PW.pt (pw_or (pt_cmpR op_eq (pe_op op_mod (pe_callB call_len_seq (by rfl) T.len PySem.boot_len (pa_cons (pv 1) pa_nil)) pe_int) pe_int (nomark _))
        (pw_or1 (pt_cmpR op_gt (pe_callB call_len_seq (by rfl) T.len PySem.boot_len (pa_cons (pv 1) pa_nil)) (pe_op op_mul pe_int (pe_glob (v := .int 20) rfl mB ⟨_, rfl⟩)) (nomark _))))) (pss_one (ps_ret pe_bl)) pss_nil)
      (pss_one (ps_ret (pe_callB (cr_all rfl) (by rfl) T.all (by decide +kernel) (pa_cons (pe_lc (own := [("tick", 2), ("spindle", 3)]) (g := gTup K 2 (gCons (gName 2) (gCons (gName 3) gNil))) (tt := tYes)
        (te := tAndV (tOp (rI0 fun i j => .bl (decide (i < j))) (tVar 2) (tC (.int 200))) (tOp (rI0 fun i j => .bl (decide (i < j))) (tVar 3) (tVar 0))) rfl scAre.nd
        (pi_list (pe_call GB hr rfl gB kB bB .nil pass0 (pa_cons (pv 1) pa_nil)))
        (blkOk_by (own := [("tick", 2), ("spindle", 3)]) (N := ["n", "numbers", "tick", "spindle"]) (sc := defScope sAre) (by decide +kernel))
        (fun _ _ _ _ _ => pg_tup rfl (pgs_cons (pg_name (i := 2) scAre.nd rfl (Or.inl rfl)) (pgs_cons (pg_name (i := 3) scAre.nd rfl (Or.inl rfl)) pgs_nil)))
        (fun _ _ _ _ _ => pts_nil)
        (fun _ _ _ _ _ => pe_and (pe_cmpR op_lt (pv 2) (pe_glob (v := .int 200) rfl mT ⟨_, rfl⟩) (nomark _)) (pe_one (pe_cmpR op_lt (pv 3) (pv 0) (nomark _))))) pa_nil)))), ?_⟩
    have no : (¬ (ls.length % 2 = 0 ∧ ls.length ≤ 40)) → Q (.bl false) H := fun h => by
      have q := k H (Same.refl H)
      rw [Mir.areBreaks_no h] at q
      exact q
    refine ⟨_, rfl, la, _, rfl, .inl hS, _, _, rfl, rfl, (by show (0 : Int) < 2; decide), rfl, _, rfl, ifD (fun c1 => ?_) (fun c1 => ?_)⟩
    · injection c1 with c1
      rw [nV_len] at c1
      exact no (by omega)
    · have c1' : ls.length % 2 = 0 := by
        apply Classical.byContradiction
        intro q
        apply c1
        rw [nV_len]
        show V.int ((ls.length : Int) % 2) = V.int 1
        exact congrArg V.int (by omega)
      refine ⟨_, rfl, la, _, rfl, .inl hS, _, _, rfl, rfl, .inl ⟨by decide, by decide⟩, _, _, rfl, rfl, _, rfl, ifD (fun c2 => ?_) (fun c2 => ?_)⟩
      · rw [nV_len] at c2
        exact no (by omega)
      · rw [nV_len] at c2
        have hl : ls.length ≤ 40 := by omega
        refine ⟨_, rfl, la, ls, rfl, hS, c1', hl, fun H1 bp s1 np B => ?_⟩
        obtain ⟨ts, hts, tl, tk⟩ := B
        have bl : (Kzd3.breaks ls).length ≤ 20 := by
          rw [Mir.breaks_len]
          omega
        refine ⟨bp, rfl, ⟨_, SqL.of hts⟩, fun D hD => ?_⟩
        refine lc_list (K := K) (a := bp) (xs := ts.map V.ref) (fun i H' => Same H1 H' ∧ H' D = some (.lst (bV (((Kzd3.breaks ls).take i).map (Mir.okB n)))))
          ⟨Same.new (Same.refl H1) hD, upd_same⟩ (fun i H' _ ⟨s2, _⟩ => SqL.of (s2 _ _ hts)) ?_ ?_
        · rintro i y H' hi ⟨s2, hD2⟩
          obtain ⟨t, ht, rfl⟩ : ∃ t, ts[i]? = some t ∧ y = V.ref t := by
            rw [List.getElem?_map] at hi
            cases e : ts[i]? with
            | none =>
              rw [e] at hi
              cases hi
            | some z =>
              rw [e] at hi
              exact ⟨z, rfl, (Option.some.inj hi).symm⟩
          have il : i < (Kzd3.breaks ls).length := by
            rw [← tl]
            exact (List.getElem?_eq_some_iff.mp ht).1
          obtain ⟨x, hx⟩ : ∃ x, (Kzd3.breaks ls)[i]? = some x := ⟨_, List.getElem?_eq_getElem il⟩
          have hT := s2 _ _ (tk i t x ht hx)
          refine ⟨t, _, rfl, SqT.of hT, rfl, _, _, rfl, _, _, rfl, rfl, rfl, ?_⟩
          have lz : (bV (((Kzd3.breaks ls).take i).map (Mir.okB n))).length < sizeLine := by
            rw [bV_len, List.length_map, List.length_take]
            exact Nat.lt_of_le_of_lt (Nat.le_trans (Nat.min_le_right _ _) bl) (by decide)
          have fin : ∀ b : Bool, Mir.okB n x = b → Same H1 (upd H' D (.lst (bV (((Kzd3.breaks ls).take i).map (Mir.okB n)) ++ [.bl b]))) ∧ upd H' D (.lst (bV (((Kzd3.breaks ls).take i).map (Mir.okB n)) ++ [.bl b])) D = some (.lst (bV (((Kzd3.breaks ls).take (i + 1)).map (Mir.okB n)))) := fun b e => by
            refine ⟨Same.put s2 hD, ?_⟩
            rw [upd_same, Mir.map_take_more _ hx, e]
            unfold bV
            rw [List.map_append]
            rfl
          refine ⟨_, rfl, _, _, rfl, rfl, _, rfl, ifD (fun c => ?_) (fun c => ?_)⟩
          · exact ⟨_, rfl, _, rfl, _, _, rfl, rfl, _, hD2, lz, fin _ (Mir.okB_yes c)⟩
          · exact ⟨_, hD2, lz, fin _ (Mir.okB_no c)⟩
        · rintro H' ⟨s2, hD2⟩
          rw [List.length_map, tl, List.take_length] at hD2
          refine ⟨D, _, rfl, SqL.of hD2, ?_⟩
          have q := k H' (s1.trans s2)
          rw [Mir.areBreaks_yes ⟨c1', hl⟩] at q
          exact q
/-! ### round_behind -/
theorem scRB : FnScope ["spindles", "piecing", "ticks", "place", "up", "breaks", "found", "now", "tick", "spindle"] ["spindles", "piecing", "ticks", "place", "up", "breaks"] (defScope sRB) := ⟨rfl, rfl, rfl, by decide +kernel, rfl, by decide +kernel, by decide +kernel⟩
theorem ok_rb {f fI fT : Addr} {fd fdI fdT : FuncData} (F : Fun K "round_behind" "round_behind" sRB f fd) (T : Txt K mg C) (M : Mk K C fI) (GI : FnOk P w K mg base CX0 1 fI fdI ["self", "spindles", "piecing", "place", "up"] (spInit C)) (bI : Binds K fdI ["self", "spindles", "piecing", "place", "up"] [])
    (GT : FnOk P w K mg base CX0 3 fT fdT ["self", "spindles"] (spTick C)) (bT : Binds K fdT ["self", "spindles"] []) (mT : Meth K C "tick" fT) :
    FnOk P w K mg base CX0 4 f fd ["spindles", "piecing", "ticks", "place", "up", "breaks"] (spRB C) := by
  refine F.ok scRB (fun vs H Q E h => ?_) (fun cdv A outer s H vs Q E hr h => ?_)
  · obtain ⟨n, p, m, place, up, bp, prs, rfl, _⟩ := h
    rfl
  · obtain ⟨n, p, m, place, up, bp, prs, rfl, B, bl20, hprs, hn, hm, hpl, hup, k⟩ := h
    have hr2 : Room 2 _ := hr.mono (by decide)
    refine ⟨_, pss_cons (ps_set (i := 6) scRB.nd rfl (Or.inl rfl) (pe_make M GI hr2 rfl T.mgC bI .nil pass0 (pa_cons (pv 0) (pa_cons (pv 1) (pa_cons (pv 3) (pa_cons (pv 4) pa_nil))))))
      (pss_cons (ps_for PassesOwn.never rfl (pi_range1 rfl T.range (pa_cons (pv 2) pa_nil)) (pg_name (i := 7) scRB.nd rfl (Or.inr rfl))
        (pss_one (ps_expr (pe_meth (pv 6) T.cl mT GT hr bT .nil pass0 (pa_cons (pe_lc (own := [("tick", 8), ("spindle", 9)]) (g := gTup K 2 (gCons (gName 8) (gCons (gName 9) gNil))) (tt := tTest (tOp rEq (tVar 8) (tVar 7))) (te := tVar 9) rfl scRB.nd
          (pi_list (pv 5)) (blkOk_by (own := [("tick", 8), ("spindle", 9)]) (N := ["spindles", "piecing", "ticks", "place", "up", "breaks", "found", "now", "tick", "spindle"]) (sc := defScope sRB) (by decide +kernel))
          (fun _ _ _ _ _ => pg_tup rfl (pgs_cons (pg_name (i := 8) scRB.nd rfl (Or.inl rfl)) (pgs_cons (pg_name (i := 9) scRB.nd rfl (Or.inl rfl)) pgs_nil)))
          (fun _ _ _ _ _ => pts_one (pt_cmpR op_eq (pv 8) (pv 7) (nomark _)))
          (fun _ _ _ _ _ => pv 9)) pa_nil)))))
      (pss_one (ps_ret (pv 6)))), ?_⟩
    refine ⟨_, rfl, _, rfl, _, rfl, _, rfl, ?_⟩
    intro x dx nx nd ne
    refine ⟨x, dx, n, p, place, up, rfl, upd_same, hn, fun H1 bl ll R1 nbl nll kp => ⟨rfl, ?_⟩⟩
    have s1 : Same H H1 := Same.made nx nd kp
    have nbl' : H bl = none := by
      cases q : H bl with
      | none => rfl
      | some o =>
        rw [upd_ne (ne_of_none q nx), upd_ne (ne_of_none q nd), q] at nbl
        cases nbl
    have nll' : H ll = none := by
      cases q : H ll with
      | none => rfl
      | some o =>
        rw [upd_ne (ne_of_none q nx), upd_ne (ne_of_none q nd), q] at nll
        cases nll
    have W0 : Mir.Wf n (Mir.fresh n p place up) := Mir.wf_fresh hpl hup
    refine ⟨_, rfl, _, rfl, by omega, by omega, ?_⟩
    refine for_range (lo := 0) (n := ((m : Nat) : Int).toNat) (fun i σ H' => ∃ v : Option V, σ = [some (.int (n : Int)), some (.int (p : Int)), some (.int (m : Int)), some (.int (place : Int)), some (.int (up : Int)), some (.ref bp), some (.ref x), v, none, none] ∧ Same H H' ∧ RdAt C H' x bl ll (Mir.runN (Mir.fresh n p place up) prs i))
      ⟨none, rfl, s1, R1⟩ ?_ ?_
    · rintro i σ H' hi ⟨v, rfl, s2, R2⟩
      obtain ⟨ts, hts, tl, tk⟩ := B.same s2
      obtain ⟨dx2, hx2⟩ := R2.ins
      refine ⟨_, rfl, x, dx2, _, rfl, hx2, gNo _ _ _ (by decide +kernel), _, rfl, bp, rfl, ⟨_, SqL.of hts⟩, fun D hD => ?_⟩
      refine lc_list (K := K) (a := bp) (xs := ts.map V.ref) (fun j H3 => Same H' H3 ∧ H3 D = some (.lst (nV (Mir.atT (prs.take j) i))))
        ⟨Same.new (Same.refl H') hD, upd_same⟩ (fun j H3 _ ⟨s3, _⟩ => SqL.of (s3 _ _ hts)) ?_ ?_
      · rintro j y H3 hj ⟨s3, hD3⟩
        obtain ⟨t, ht, rfl⟩ : ∃ t, ts[j]? = some t ∧ y = V.ref t := by
          rw [List.getElem?_map] at hj
          cases e : ts[j]? with
          | none =>
            rw [e] at hj
            cases hj
          | some z =>
            rw [e] at hj
            exact ⟨z, rfl, (Option.some.inj hj).symm⟩
        have il : j < prs.length := by
          rw [← tl]
          exact (List.getElem?_eq_some_iff.mp ht).1
        obtain ⟨z, hz⟩ : ∃ z, prs[j]? = some z := ⟨_, List.getElem?_eq_getElem il⟩
        have hT := s3 _ _ (tk j t z ht hz)
        refine ⟨t, _, rfl, SqT.of hT, rfl, _, _, rfl, _, _, rfl, rfl, rfl, ?_⟩
        refine ⟨_, rfl, _, rfl, rfl, _, rfl, ifD (fun c => ?_) (fun c => ?_)⟩
        · injection c with c
          have c' : (z.1 == i) = true := by
            have : z.1 = i := by omega
            rw [this]
            exact beq_self_eq_true i
          refine ⟨_, rfl, _, hD3, ?_, Same.put s3 hD, ?_⟩
          · rw [nV_len]
            refine Nat.lt_of_le_of_lt (Nat.le_trans (Mir.at_len _ _) ?_) (show 20 < sizeLine by decide)
            rw [List.length_take]
            omega
          · rw [upd_same, Mir.at_more hz, if_pos c']
            unfold nV
            rw [List.map_append]
            rfl
        · have c' : ¬ (z.1 == i) = true := fun q => c (by
            have : z.1 = i := eq_of_beq q
            rw [this]
            congr 1
            omega)
          refine ⟨s3, ?_⟩
          rw [Mir.at_more hz, if_neg c', List.append_nil]
          exact hD3
      · rintro H3 ⟨s3, hD3⟩
        rw [List.length_map, tl, List.take_length] at hD3
        have nDb : D ≠ bl := fun q => by
          rw [q, R2.br] at hD
          cases hD
        have nDl : D ≠ ll := fun q => by
          rw [q, R2.lo] at hD
          cases hD
        refine ⟨x, bl, ll, D, n, _, _, rfl, R2.same s3, Mir.wf_run prs W0 i, hn, hD3, Mir.at_mem hprs, nDb, nDl, fun H4 R4 k4 => ?_⟩
        refine ⟨_, rfl, fun b o h => k4 b o (s3 b o (s2 b o h)) (fun q => by rw [q, nx] at h; cases h) (fun q => by rw [q, nbl'] at h; cases h) (fun q => by rw [q, nll'] at h; cases h), R4⟩
    · rintro σ H' ⟨v, rfl, s2, R2⟩
      rw [Int.toNat_natCast] at R2
      exact ⟨_, rfl, k H' x bl ll s2 R2⟩
end
end Sp

namespace Sp
open PySem PySem.Spec PyProof.Rows L2
def spFn (K : PySem.W.Frag) : Sp := fun vs H Q _ => ∃ (n p m : Nat) (la : Addr) (ls : List Nat), vs = [.int (n : Int), .int (p : Int), .int (m : Int), .ref la] ∧ SqL K H la (nV ls) ∧
  ∀ (H' : Hp) (q : Addr), H' q = some (.lst ((PyKzd3.best n p m (Mir.zs ls)).map V.int)) → Q (.ref q) H'
theorem zV (ls : List Nat) : (Mir.zs ls).map V.int = nV ls := by
  unfold Mir.zs nV
  rw [List.map_map]
  rfl
/-- the answer so far -/
def ansV (n p m : Nat) (b : List (Nat × Nat)) : Option (Nat × Nat) → List V
  | none => []
  | some x => [.int (x.1 : Int), .int (x.2 : Int), .int (Mir.tot n p m b x : Int)]
theorem fold_snoc (n p m : Nat) (b l : List (Nat × Nat)) (x : Nat × Nat) : Mir.fold n p m b (l ++ [x]) = Mir.pick n p m b (Mir.fold n p m b l) x := by
  unfold Mir.fold
  rw [List.foldl_append]
  rfl
/-- behind a turn of the inner loop: the best so far is o -/
def Nxt (H : Hp) (n p m : Nat) (la t : Addr) (b : List (Nat × Nat)) (i : Nat) (o : Option (Nat × Nat)) (σ : L2.St) (H' : Hp) : Prop :=
  ∃ (q : Addr) (v6 v7 : Option V), σ = [some (.int (n : Int)), some (.int (p : Int)), some (.int (m : Int)), some (.ref la), some (.ref q), some (.int (i : Int)), v6, v7] ∧ Same H H' ∧ H' t = some (.tup (nV [1, 0])) ∧ H' q = some (.lst (ansV n p m b o))
section
variable {P : Program} {w : World} {K : PySem.W.Frag} {mg : Str → Option Value} {base : Heap} {C : Addr}
/-! ### best -/
theorem scFn : FnScope ["n", "p", "m", "l", "answer", "place", "up", "total"] ["n", "p", "m", "l"] (defScope sFn) := ⟨rfl, rfl, rfl, by decide +kernel, rfl, by decide +kernel, by decide +kernel⟩
theorem ok_fn {f fR fB fO : Addr} {fd fdR fdB fdO : FuncData} (F : Fun K "best" "best" sFn f fd) (T : Txt K mg C)
    (GR : FnOk P w K mg base CX0 3 fR fdR ["n", "p", "m", "l"] (spRight K)) (bR : Binds K fdR ["n", "p", "m", "l"] []) (gR : mg "is_right" = some (.ref fR)) (kR : PySem.W.keepIn K (.ref fR) = true)
    (GB : FnOk P w K mg base CX0 4 fB fdB ["spindles", "piecing", "ticks", "place", "up", "breaks"] (spRB C)) (bB : Binds K fdB ["spindles", "piecing", "ticks", "place", "up", "breaks"] []) (gB : mg "round_behind" = some (.ref fB)) (kB : PySem.W.keepIn K (.ref fB) = true)
    (GO : FnOk P w K mg base CX0 1 fO fdO ["numbers"] (spBo K)) (bO : Binds K fdO ["numbers"] []) (gO : mg "breaks_of" = some (.ref fO)) (kO : PySem.W.keepIn K (.ref fO) = true) :
    FnOk P w K mg base CX0 5 f fd ["n", "p", "m", "l"] (spFn K) := by
  refine F.ok scFn (fun vs H Q E h => ?_) (fun cdv A outer s H vs Q E hr h => ?_)
  · obtain ⟨n, p, m, la, ls, rfl, _⟩ := h
    rfl
  · obtain ⟨n, p, m, la, ls, rfl, hS, k⟩ := h
    obtain ⟨tR, mR⟩ := T.mR
    have hr1 : Room 1 _ := hr.mono (by decide)
    have hr3 : Room 3 _ := hr.mono (by decide)
    refine ⟨_, pss_cons (ps_if (pt_not (pt_val (pe_call GR hr3 rfl gR kR bR .nil pass0 (pa_cons (pv 0) (pa_cons (pv 1) (pa_cons (pv 2) (pa_cons (pv 3) pa_nil)))))))
        (pss_one (ps_ret (pe_lst (pa_cons (pe_glob (v := .int (-22)) rfl mR ⟨_, rfl⟩) pa_nil)))) pss_nil)
      (pss_cons (ps_set (i := 4) scFn.nd rfl (Or.inl rfl) (pe_lst pa_nil))
      (pss_cons (ps_for PassesOwn.never rfl (pi_range1 rfl T.range (pa_cons (pv 0) pa_nil)) (pg_name (i := 5) scFn.nd rfl (Or.inl rfl))
        (pss_one (ps_for PassesOwn.never rfl (pi_tup (pe_tup (pa_cons pe_int (pa_cons pe_int pa_nil)))) (pg_name (i := 6) scFn.nd rfl (Or.inl rfl))
          (pss_cons (ps_set (i := 7) scFn.nd rfl (Or.inl rfl) (pe_fld (pe_call GB hr rfl gB kB bB .nil pass0 (pa_cons (pv 0) (pa_cons (pv 1) (pa_cons (pv 2) (pa_cons (pv 5) (pa_cons (pv 6) (pa_cons (pe_call GO hr1 rfl gO kO bO .nil pass0 (pa_cons (pv 3) pa_nil)) pa_nil))))))) rfl))
          (pss_one (ps_if (PW.pt (pw_or (pt_cmpR (op_eqD hr.units) (pv 4) (pe_lst pa_nil) (nomark _)) (pw_or1 (pt_cmpR op_lt (pv 7) (pe_ix ix_list (pv 4) pe_int (fun _ _ => rfl)) (nomark _)))))
            (pss_one (ps_set (i := 4) scFn.nd rfl (Or.inl rfl) (pe_lst (pa_cons (pv 5) (pa_cons (pv 6) (pa_cons (pv 7) pa_nil)))))) pss_nil))))))
      (pss_one (ps_ret (pv 4))))), ?_⟩
    refine ⟨_, rfl, _, rfl, _, rfl, _, rfl, n, p, m, la, ls, rfl, hS, fun H1 s1 => ⟨_, rfl, ifN (fun c1 => ?_) (fun c1 => ?_)⟩⟩
    · refine ⟨(by show 1 ≤ sizeLine; decide), fun q nq => k _ q ?_⟩
      rw [Mir.best_no c1]
      exact upd_same
    · have c1' := c1
      rw [Bool.and_eq_true] at c1'
      have sd := Mir.side_ok c1'.1
      have br := Mir.breaks_ok c1'.2
      -- answer = []
      refine ⟨Nat.zero_le _, fun q0 nq0 => ?_⟩
      have s2 : Same H (upd H1 q0 (.lst [])) := Same.new s1 nq0
      refine ⟨_, rfl, _, rfl, by omega, by omega, ?_⟩
      refine for_range (lo := 0) (n := ((n : Nat) : Int).toNat) (fun i σ H' => ∃ (q : Addr) (v5 v6 v7 : Option V), σ = [some (.int (n : Int)), some (.int (p : Int)), some (.int (m : Int)), some (.ref la), some (.ref q), v5, v6, v7] ∧ Same H H' ∧ H' q = some (.lst (ansV n p m (Kzd3.breaks ls) (Mir.fold n p m (Kzd3.breaks ls) (Mir.begs i)))))
        ⟨q0, none, none, none, rfl, s2, upd_same⟩ ?_ ?_
      · rintro i σ H2 hi ⟨q, v5, v6, v7, rfl, s3, hq⟩
        have hin : i < n := by omega
        rw [Int.zero_add]
        -- (1, 0)
        refine ⟨(by show 2 ≤ sizeLine; decide), fun t nt => ?_⟩
        have s4 : Same H (upd H2 t (.tup [.int 1, .int 0])) := Same.new s3 nt
        have hq4 : (upd H2 t (.tup [.int 1, .int 0])) q = some (.lst (ansV n p m (Kzd3.breaks ls) (Mir.fold n p m (Kzd3.breaks ls) (Mir.begs i)))) := by
          rw [upd_ne (ne_of_none hq nt)]
          exact hq
        refine ⟨t, rfl, ⟨_, SqT.of upd_same⟩, for_tup (K := K) (a := t) (xs := nV [1, 0]) (fun j σ H' => Nxt H n p m la t (Kzd3.breaks ls) i (Mir.fold n p m (Kzd3.breaks ls) (Mir.begs i ++ (([1, 0] : List Nat).take j).map fun u => (i, u))) σ H')
          ⟨q, v6, v7, rfl, s4, upd_same, by rw [List.take_zero, List.map_nil, List.append_nil]; exact hq4⟩ (fun j σ H' _ ⟨_, _, _, _, _, ht, _⟩ => SqT.of ht) ?_ ?_⟩
        · rintro j y σ H3 hj ⟨q3, w6, w7, rfl, s5, ht3, hq3⟩
          obtain ⟨u, hu, rfl⟩ := nV_item hj
          have hu1 : u ≤ 1 := by
            have hm := List.mem_of_getElem? hu
            simp at hm
            omega
          have ep : Mir.begs i ++ (([1, 0] : List Nat).take (j + 1)).map (fun u => (i, u)) = (Mir.begs i ++ (([1, 0] : List Nat).take j).map fun u => (i, u)) ++ [(i, u)] := by
            rw [Mir.map_take_more _ hu, List.append_assoc]
          rw [ep]
          simp only [fold_snoc]
          revert hq3
          generalize Mir.fold n p m (Kzd3.breaks ls) (Mir.begs i ++ (([1, 0] : List Nat).take j).map fun u => (i, u)) = best
          intro hq3
          refine ⟨_, rfl, _, rfl, _, rfl, _, rfl, _, rfl, _, rfl, la, ls, rfl, s5.seq hS, br.1, br.2.1, fun H4 bp s6 np B => ?_⟩
          refine ⟨n, p, m, i, u, bp, Kzd3.breaks ls, rfl, B, by rw [Mir.breaks_len]; omega, br.2.2, sd.2.1, sd.2.2.2.2, hin, hu1, fun H5 a bl ll s7 R => ?_⟩
          obtain ⟨dx, hia⟩ := R.ins
          refine ⟨a, C, dx, _, _, rfl, hia, T.cl, T.nTotal, gTotal _ _ _, ?_⟩
          have s8 : Same H3 H5 := s6.trans s7
          have hq5 := s8 _ _ hq3
          -- answer = [place, up, total]
          have fin : ∀ (D : Ends) (H6 : Hp), Same H5 H6 → Mir.pick n p m (Kzd3.breaks ls) best (i, u) = some (i, u) → (∀ σ H', Nxt H n p m la t (Kzd3.breaks ls) i (Mir.pick n p m (Kzd3.breaks ls) best (i, u)) σ H' → D.nx σ H') →
              tAsg (tLst (tCons (tVar 5) (tCons (tVar 6) (tCons (tVar 7) tNil)))) (gName 4) D [some (.int (n : Int)), some (.int (p : Int)), some (.int (m : Int)), some (.ref la), some (.ref q3), some (.int (i : Int)), some (.int (u : Int)), some (.int ((Mir.runN (Mir.fresh n p i u) (Kzd3.breaks ls) m).total : Int))] H6 := by
            intro D H6 s9 e kD
            refine ⟨_, rfl, _, rfl, _, rfl, (by show 3 ≤ sizeLine; decide), fun q6 nq6 => ?_⟩
            refine kD _ _ ⟨q6, _, _, rfl, Same.new ((s5.trans s8).trans s9) nq6, ?_, ?_⟩
            · have h6 := s9 _ _ (s8 _ _ ht3)
              rw [upd_ne (ne_of_none h6 nq6)]
              exact h6
            · rw [e]
              exact upd_same
          have stay : ∀ H6 : Hp, Same H5 H6 → Mir.pick n p m (Kzd3.breaks ls) best (i, u) = best → Nxt H n p m la t (Kzd3.breaks ls) i (Mir.pick n p m (Kzd3.breaks ls) best (i, u)) [some (.int (n : Int)), some (.int (p : Int)), some (.int (m : Int)), some (.ref la), some (.ref q3), some (.int (i : Int)), some (.int (u : Int)), some (.int ((Mir.runN (Mir.fresh n p i u) (Kzd3.breaks ls) m).total : Int))] H6 := by
            intro H6 s9 e
            refine ⟨q3, _, _, rfl, (s5.trans s8).trans s9, s9 _ _ (s8 _ _ ht3), ?_⟩
            rw [e]
            exact s9 _ _ hq5
          refine ⟨_, rfl, Nat.zero_le _, fun e ne => ?_⟩
          have s9 : Same H5 (upd H5 e (.lst [])) := Same.new (Same.refl H5) ne
          have hq6 := s9 _ _ hq5
          cases hb : best with
          | none =>
            subst hb
            refine ⟨.list [], .list [], .lst (SqL.of hq6) .nil, .lst (SqL.of upd_same) .nil, rfl, rfl, _, rfl, ?_⟩
            exact iteT (B := False) (fin _ _ s9 rfl fun _ _ z => z)
          | some x =>
            subst hb
            refine ⟨.list [.int (x.1 : Int), .int (x.2 : Int), .int (Mir.tot n p m (Kzd3.breaks ls) x : Int)], .list [], .lst (SqL.of hq6) (.cons (.int _) (.cons (.int _) (.cons (.int _) .nil))), .lst (SqL.of upd_same) .nil, rfl, rfl, _, rfl, ?_⟩
            refine iteF (A := False) ?_
            refine ⟨_, rfl, _, rfl, q3, _, _, _, rfl, rfl, SqL.of hq6, at_of (j := 2) rfl rfl, _, _, rfl, rfl, _, rfl, ifD (fun c => ?_) (fun c => ?_)⟩
            · refine fin _ _ s9 ?_ fun _ _ z => z
              exact if_pos (show Mir.tot n p m (Kzd3.breaks ls) (i, u) < Mir.tot n p m (Kzd3.breaks ls) x from Int.ofNat_lt.mp c)
            · refine stay _ s9 ?_
              exact if_neg (fun z : Mir.tot n p m (Kzd3.breaks ls) (i, u) < Mir.tot n p m (Kzd3.breaks ls) x => c (Int.ofNat_lt.mpr z))
        · rintro σ H3 ⟨q3, w6, w7, rfl, s5, ht3, hq3⟩
          refine ⟨q3, _, _, _, rfl, s5, ?_⟩
          rw [Mir.begs_more]
          exact hq3
      · rintro σ H2 ⟨q, v5, v6, v7, rfl, s3, hq⟩
        rw [Int.toNat_natCast] at hq
        obtain ⟨x, hx, e⟩ := Mir.best_yes c1
        rw [hx] at hq
        refine ⟨_, rfl, k H2 q ?_⟩
        rw [e]
        exact hq
end
end Sp

namespace Sp
open PySem PySem.Spec PyProof.Rows L2
/-! ### What the top has written -/
theorem all_mk {P : Program} {w : World} {K : PySem.W.Frag} {h : Heap} {mg : Str → Option Value} {fa C f1 f2 f3 f4 f5 f6 f7 f8 f9 f10 f11 f12 : Addr} (X : K.In h) (G : h.Ns mainGlobals mg) (hfa : mg "best" = some (.ref fa))
    {od1 an1 od2 an2 od3 an3 od4 an4 od5 an5 od6 an6 od7 an7 od8 an8 od9 an9 od10 an10 od11 an11 od12 an12 : Option Addr} {sl1 sl2 sl3 sl4 sl5 sl6 sl7 sl8 sl9 sl10 sl11 sl12 : Array (Option Value)} {oc1 kV1 dc1 pm1 cd1 ct1 oc2 kV2 dc2 pm2 cd2 ct2 oc3 kV3 dc3 pm3 cd3 ct3 oc4 kV4 dc4 pm4 cd4 ct4 oc5 kV5 dc5 pm5 cd5 ct5 oc6 kV6 dc6 pm6 cd6 ct6 oc7 kV7 dc7 pm7 cd7 ct7 oc8 kV8 dc8 pm8 cd8 ct8 oc9 kV9 dc9 pm9 cd9 ct9 oc10 kV10 dc10 pm10 cd10 ct10 oc11 kV11 dc11 pm11 cd11 ct11 oc12 kV12 dc12 pm12 cd12 ct12 : Value} {t0 t1 t2 t3 t4 : Tok}
    (aC : PySem.W.nsIn K mainGlobals "Round" = some (some (.ref C)))
    (a1 : PySem.W.findIn K (.ref C) "__init__" = some (some (.ref f1))) (i1 : PySem.W.isFn K (.ref f1) = true) (l1 : K.lookup f1 = some ⟨oc1, od1, .func (PySem.W.fnOf "__init__" "Round.__init__" (defArgs sInit) (defBody sInit) (defScope sInit) .none kV1 dc1 pm1 an1 cd1 ct1), sl1⟩) (c1 : PySem.W.codeIn K cd1 "Round.__init__" = true) (k1 : PySem.W.keepIn K (.ref f1) = true)
    (a2 : PySem.W.findIn K (.ref C) "break_threads" = some (some (.ref f2))) (i2 : PySem.W.isFn K (.ref f2) = true) (l2 : K.lookup f2 = some ⟨oc2, od2, .func (PySem.W.fnOf "break_threads" "Round.break_threads" (defArgs sBreak) (defBody sBreak) (defScope sBreak) .none kV2 dc2 pm2 an2 cd2 ct2), sl2⟩) (c2 : PySem.W.codeIn K cd2 "Round.break_threads" = true) (k2 : PySem.W.keepIn K (.ref f2) = true)
    (a3 : PySem.W.findIn K (.ref C) "move" = some (some (.ref f3))) (i3 : PySem.W.isFn K (.ref f3) = true) (l3 : K.lookup f3 = some ⟨oc3, od3, .func (PySem.W.fnOf "move" "Round.move" (defArgs sMove) (defBody sMove) (defScope sMove) .none kV3 dc3 pm3 an3 cd3 ct3), sl3⟩) (c3 : PySem.W.codeIn K cd3 "Round.move" = true) (k3 : PySem.W.keepIn K (.ref f3) = true)
    (a4 : PySem.W.findIn K (.ref C) "work" = some (some (.ref f4))) (i4 : PySem.W.isFn K (.ref f4) = true) (l4 : K.lookup f4 = some ⟨oc4, od4, .func (PySem.W.fnOf "work" "Round.work" (defArgs sWork) (defBody sWork) (defScope sWork) .none kV4 dc4 pm4 an4 cd4 ct4), sl4⟩) (c4 : PySem.W.codeIn K cd4 "Round.work" = true) (k4 : PySem.W.keepIn K (.ref f4) = true)
    (a5 : PySem.W.findIn K (.ref C) "lose" = some (some (.ref f5))) (i5 : PySem.W.isFn K (.ref f5) = true) (l5 : K.lookup f5 = some ⟨oc5, od5, .func (PySem.W.fnOf "lose" "Round.lose" (defArgs sLose) (defBody sLose) (defScope sLose) .none kV5 dc5 pm5 an5 cd5 ct5), sl5⟩) (c5 : PySem.W.codeIn K cd5 "Round.lose" = true) (k5 : PySem.W.keepIn K (.ref f5) = true)
    (a6 : PySem.W.findIn K (.ref C) "tick" = some (some (.ref f6))) (i6 : PySem.W.isFn K (.ref f6) = true) (l6 : K.lookup f6 = some ⟨oc6, od6, .func (PySem.W.fnOf "tick" "Round.tick" (defArgs sTick) (defBody sTick) (defScope sTick) .none kV6 dc6 pm6 an6 cd6 ct6), sl6⟩) (c6 : PySem.W.codeIn K cd6 "Round.tick" = true) (k6 : PySem.W.keepIn K (.ref f6) = true)
    (a7 : PySem.W.nsIn K mainGlobals "round_behind" = some (some (.ref f7))) (l7 : K.lookup f7 = some ⟨oc7, od7, .func (PySem.W.fnOf "round_behind" "round_behind" (defArgs sRB) (defBody sRB) (defScope sRB) .none kV7 dc7 pm7 an7 cd7 ct7), sl7⟩) (c7 : PySem.W.codeIn K cd7 "round_behind" = true) (k7 : PySem.W.keepIn K (.ref f7) = true)
    (a8 : PySem.W.nsIn K mainGlobals "breaks_of" = some (some (.ref f8))) (l8 : K.lookup f8 = some ⟨oc8, od8, .func (PySem.W.fnOf "breaks_of" "breaks_of" (defArgs sBo) (defBody sBo) (defScope sBo) .none kV8 dc8 pm8 an8 cd8 ct8), sl8⟩) (c8 : PySem.W.codeIn K cd8 "breaks_of" = true) (k8 : PySem.W.keepIn K (.ref f8) = true)
    (a9 : PySem.W.nsIn K mainGlobals "is_side" = some (some (.ref f9))) (l9 : K.lookup f9 = some ⟨oc9, od9, .func (PySem.W.fnOf "is_side" "is_side" (defArgs sSide) (defBody sSide) (defScope sSide) .none kV9 dc9 pm9 an9 cd9 ct9), sl9⟩) (c9 : PySem.W.codeIn K cd9 "is_side" = true) (k9 : PySem.W.keepIn K (.ref f9) = true)
    (a10 : PySem.W.nsIn K mainGlobals "are_breaks" = some (some (.ref f10))) (l10 : K.lookup f10 = some ⟨oc10, od10, .func (PySem.W.fnOf "are_breaks" "are_breaks" (defArgs sAre) (defBody sAre) (defScope sAre) .none kV10 dc10 pm10 an10 cd10 ct10), sl10⟩) (c10 : PySem.W.codeIn K cd10 "are_breaks" = true) (k10 : PySem.W.keepIn K (.ref f10) = true)
    (a11 : PySem.W.nsIn K mainGlobals "is_right" = some (some (.ref f11))) (l11 : K.lookup f11 = some ⟨oc11, od11, .func (PySem.W.fnOf "is_right" "is_right" (defArgs sRight) (defBody sRight) (defScope sRight) .none kV11 dc11 pm11 an11 cd11 ct11), sl11⟩) (c11 : PySem.W.codeIn K cd11 "is_right" = true) (k11 : PySem.W.keepIn K (.ref f11) = true)
    (a12 : PySem.W.nsIn K mainGlobals "best" = some (some (.ref f12))) (l12 : K.lookup f12 = some ⟨oc12, od12, .func (PySem.W.fnOf "best" "best" (defArgs sFn) (defBody sFn) (defScope sFn) .none kV12 dc12 pm12 an12 cd12 ct12), sl12⟩) (c12 : PySem.W.codeIn K cd12 "best" = true) (k12 : PySem.W.keepIn K (.ref f12) = true)
    (pg : PySem.W.plainGet K C Str.empty = true) (hd : PySem.W.hasDictIn K C = true) (po : PySem.W.plainOver K C = true) (sa : PySem.W.findIn K (.ref C) "__setattr__" = some (some (.builtin "object.__setattr__"))) (mk : PySem.W.makesIn K C = true) (kc : PySem.W.keepIn K (.ref C) = true)
    (n0 : PySem.W.findIn K (.ref C) "piecing" = some none) (n1 : PySem.W.findIn K (.ref C) "place" = some none) (n2 : PySem.W.findIn K (.ref C) "up" = some none) (n3 : PySem.W.findIn K (.ref C) "broken" = some none) (n4 : PySem.W.findIn K (.ref C) "lost" = some none) (n5 : PySem.W.findIn K (.ref C) "pieced" = some none) (n6 : PySem.W.findIn K (.ref C) "total" = some none) (n7 : PySem.W.findIn K (.ref C) "longest" = some none)
    (z0 : PySem.W.nsIn K mainGlobals "len" = some none) (z1 : PySem.W.nsIn K mainGlobals "range" = some none) (z2 : PySem.W.nsIn K mainGlobals "max" = some none) (z3 : PySem.W.nsIn K mainGlobals "all" = some none)
    (y0 : PySem.W.nsIn K mainGlobals "MOST_SPINDLES" = some (some (.int 16 t0))) (y1 : PySem.W.nsIn K mainGlobals "MOST_PIECING" = some (some (.int 9 t1))) (y2 : PySem.W.nsIn K mainGlobals "MOST_TICKS" = some (some (.int 200 t2))) (y3 : PySem.W.nsIn K mainGlobals "MOST_BREAKS" = some (some (.int 20 t3))) (y4 : PySem.W.nsIn K mainGlobals "REFUSED" = some (some (.int (-22) t4))) :
    ∃ fd : FuncData, (∀ (s : Shared) (us : List Value), us.length = (["n", "p", "m", "l"] : List Str).length → BindsTo s fd ⟨us, []⟩ ((["n", "p", "m", "l"] : List Str).zip us)) ∧ ∀ base : Heap, K.In base → base.Ns mainGlobals mg → FnOk P w K mg base CX0 5 fa fd ["n", "p", "m", "l"] (spFn K) := by
  have e := hfa.symm.trans (PySem.W.mg_of X G a12)
  cases e
  have T : Txt K mg C := ⟨⟨pg, hd, po, sa⟩, n0, n1, n2, n3, n4, n5, n6, n7, PySem.W.mg_of X G aC, PySem.W.mg_none_of X G z0, PySem.W.mg_none_of X G z1, PySem.W.mg_none_of X G z2, PySem.W.mg_none_of X G z3, ⟨_, PySem.W.mg_of X G y0⟩, ⟨_, PySem.W.mg_of X G y1⟩, ⟨_, PySem.W.mg_of X G y2⟩, ⟨_, PySem.W.mg_of X G y3⟩, ⟨_, PySem.W.mg_of X G y4⟩⟩
  have F1 := fun_mk (st := sInit) l1 c1 k1
  have b1 := F1.binds (ps := ["self", "spindles", "piecing", "place", "up"]) fun _ _ _ _ _ _ us hl => match us, hl with | [_, _, _, _, _], _ => rfl
  have F2 := fun_mk (st := sBreak) l2 c2 k2
  have b2 := F2.binds (ps := ["self", "spindles"]) fun _ _ _ _ _ _ us hl => match us, hl with | [_, _], _ => rfl
  have F3 := fun_mk (st := sMove) l3 c3 k3
  have b3 := F3.binds (ps := ["self"]) fun _ _ _ _ _ _ us hl => match us, hl with | [_], _ => rfl
  have F4 := fun_mk (st := sWork) l4 c4 k4
  have b4 := F4.binds (ps := ["self"]) fun _ _ _ _ _ _ us hl => match us, hl with | [_], _ => rfl
  have F5 := fun_mk (st := sLose) l5 c5 k5
  have b5 := F5.binds (ps := ["self"]) fun _ _ _ _ _ _ us hl => match us, hl with | [_], _ => rfl
  have F6 := fun_mk (st := sTick) l6 c6 k6
  have b6 := F6.binds (ps := ["self", "spindles"]) fun _ _ _ _ _ _ us hl => match us, hl with | [_, _], _ => rfl
  have F7 := fun_mk (st := sRB) l7 c7 k7
  have b7 := F7.binds (ps := ["spindles", "piecing", "ticks", "place", "up", "breaks"]) fun _ _ _ _ _ _ us hl => match us, hl with | [_, _, _, _, _, _], _ => rfl
  have g7 := PySem.W.mg_of X G a7
  have F8 := fun_mk (st := sBo) l8 c8 k8
  have b8 := F8.binds (ps := ["numbers"]) fun _ _ _ _ _ _ us hl => match us, hl with | [_], _ => rfl
  have g8 := PySem.W.mg_of X G a8
  have F9 := fun_mk (st := sSide) l9 c9 k9
  have b9 := F9.binds (ps := ["n", "p", "m"]) fun _ _ _ _ _ _ us hl => match us, hl with | [_, _, _], _ => rfl
  have g9 := PySem.W.mg_of X G a9
  have F10 := fun_mk (st := sAre) l10 c10 k10
  have b10 := F10.binds (ps := ["n", "numbers"]) fun _ _ _ _ _ _ us hl => match us, hl with | [_, _], _ => rfl
  have g10 := PySem.W.mg_of X G a10
  have F11 := fun_mk (st := sRight) l11 c11 k11
  have b11 := F11.binds (ps := ["n", "p", "m", "l"]) fun _ _ _ _ _ _ us hl => match us, hl with | [_, _, _, _], _ => rfl
  have g11 := PySem.W.mg_of X G a11
  have F12 := fun_mk (st := sFn) l12 c12 k12
  refine ⟨PySem.W.fnOf "best" "best" (defArgs sFn) (defBody sFn) (defScope sFn) .none kV12 dc12 pm12 an12 cd12 ct12, fun s us hu => match us, hu with | [_, _, _, _], _ => .of_eq rfl, fun base _ _ => ?_⟩
  have GI : FnOk P w K mg base CX0 1 f1 _ _ (spInit C) := ok_init F1 T
  have GBr : FnOk P w K mg base CX0 1 f2 _ _ (spBreak C) := ok_break F2 T
  have GMo : FnOk P w K mg base CX0 1 f3 _ _ (spOn C Mir.move) := ok_move F3 T
  have GWo : FnOk P w K mg base CX0 2 f4 _ _ (spOn C Mir.work) := ok_work F4 T GMo b3 ⟨a3, i3, k3⟩
  have GLo : FnOk P w K mg base CX0 1 f5 _ _ (spOn C Mir.lose) := ok_lose F5 T
  have GTi : FnOk P w K mg base CX0 3 f6 _ _ (spTick C) := ok_tick F6 T GBr b2 ⟨a2, i2, k2⟩ GWo b4 ⟨a4, i4, k4⟩ GLo b5 ⟨a5, i5, k5⟩
  have GRB : FnOk P w K mg base CX0 4 f7 _ _ (spRB C) := ok_rb F7 T ⟨mk, a1, i1, kc⟩ GI b1 GTi b6 ⟨a6, i6, k6⟩
  have GBo : FnOk P w K mg base CX0 1 f8 _ _ (spBo K) := ok_bo F8 T
  have GSi : FnOk P w K mg base CX0 1 f9 _ _ spSide := ok_side F9 T
  have GAr : FnOk P w K mg base CX0 2 f10 _ _ (spAre K) := ok_are F10 T GBo b8 g8 k8
  have GRi : FnOk P w K mg base CX0 3 f11 _ _ (spRight K) := ok_right F11 GSi b9 g9 k9 GAr b10 g10 k10
  exact ok_fn F12 T GRi b11 g11 k11 GRB b7 g7 k7 GBo b8 g8 k8
open PySem.W (Codec) in
theorem req {K : PySem.W.Frag} {H : Hp} {xs : List V} (a : Codec.denoteAll PySem.Challenge.rw_spindlerounds_s02_best.args) (hwi : Codec.withinAll PySem.Challenge.rw_spindlerounds_s02_best.args a = true) (hx : DwAll K H xs (Codec.encAll PySem.Challenge.rw_spindlerounds_s02_best.args a)) :
    spFn K xs H (fun v H' => Dw K H' v (PySem.Challenge.rw_spindlerounds_s02_best.ret.enc (Codec.app PySem.Challenge.rw_spindlerounds_s02_best.args PySem.Challenge.rw_spindlerounds_s02_best.f a))) fun _ _ _ => False := by
  obtain ⟨n, p, m, l, u⟩ := a
  have q : (Codec.inInt 0 4294967295 n && (Codec.inInt 0 4294967295 p && (Codec.inInt 0 4294967295 m && ((Codec.inLen 0 44 l && l.all (Codec.inInt 0 4294967295)) && true)))) = true := hwi
  simp only [Bool.and_eq_true] at q
  obtain ⟨hn, hp, hm, ⟨_, hl⟩, _⟩ := q
  obtain ⟨n, rfl⟩ := Int.eq_ofNat_of_zero_le (Codec.inInt_iff.mp hn).1
  obtain ⟨p, rfl⟩ := Int.eq_ofNat_of_zero_le (Codec.inInt_iff.mp hp).1
  obtain ⟨m, rfl⟩ := Int.eq_ofNat_of_zero_le (Codec.inInt_iff.mp hm).1
  obtain ⟨ls, rfl⟩ := Mir.zs_of l (fun x hx => (Codec.inInt_iff.mp (List.all_eq_true.mp hl x hx)).1)
  cases hx with
  | cons h1 hx =>
    cases h1
    cases hx with
    | cons h1 hx =>
      cases h1
      cases hx with
      | cons h1 hx =>
        cases h1
        cases hx with
        | cons h1 hx =>
          cases hx
          cases h1 with
          | lst hs ha =>
            have e := L2.ints_dw (Mir.zs ls) _ ha
            subst e
            rw [zV] at hs
            exact ⟨n, p, m, _, ls, rfl, hs, fun H' p hp => .lst (L2.SqL.of hp) (L2.dw_ints _)⟩
end Sp
open PySem PySem.W PyProof.Rows
set_option maxRecDepth 100000 in
set_option maxHeartbeats 0 in
theorem PySem.Challenge.cw_spindlerounds_s02_best_holds : PySem.Challenge.rw_spindlerounds_s02_best.Holds := by
  w_on; k_headS; (case hw => exact ⟨[.int 0, .int 0, .int 0, .list []], by decide +kernel, by decide +kernel⟩)
  k_fillS
  refine L2.walk_specK (r := PySem.Challenge.rw_spindlerounds_s02_best) (k := 5) (CX := L2.CX0) (ps := ["n", "p", "m", "l"]) (sp := Sp.spFn) (by decide +kernel) rfl rfl ⟨rfl, by decide, by decide⟩ (fun w h Y => PySem.W.kIn_of Y) ?F ?S (fun _ _ _ _ z => z)
  case F =>
    intro w mg fa h Y KX G hmg
    refine' Sp.all_mk KX G hmg ?aC ?a1 ?i1 ?l1 ?c1 ?k1 ?a2 ?i2 ?l2 ?c2 ?k2 ?a3 ?i3 ?l3 ?c3 ?k3 ?a4 ?i4 ?l4 ?c4 ?k4 ?a5 ?i5 ?l5 ?c5 ?k5 ?a6 ?i6 ?l6 ?c6 ?k6 ?a7 ?l7 ?c7 ?k7 ?a8 ?l8 ?c8 ?k8 ?a9 ?l9 ?c9 ?k9 ?a10 ?l10 ?c10 ?k10 ?a11 ?l11 ?c11 ?k11 ?a12 ?l12 ?c12 ?k12 ?pg ?hd ?po ?sa ?mk ?kc ?n0 ?n1 ?n2 ?n3 ?n4 ?n5 ?n6 ?n7 ?z0 ?z1 ?z2 ?z3 ?y0 ?y1 ?y2 ?y3 ?y4
    (case aC => k_is); (case a1 => k_is); (case i1 => k_is); (case l1 => k_is); (case c1 => k_is); (case k1 => k_is)
    (case a2 => k_is); (case i2 => k_is); (case l2 => k_is); (case c2 => k_is); (case k2 => k_is); (case a3 => k_is)
    (case i3 => k_is); (case l3 => k_is); (case c3 => k_is); (case k3 => k_is); (case a4 => k_is); (case i4 => k_is)
    (case l4 => k_is); (case c4 => k_is); (case k4 => k_is); (case a5 => k_is); (case i5 => k_is); (case l5 => k_is)
    (case c5 => k_is); (case k5 => k_is); (case a6 => k_is); (case i6 => k_is); (case l6 => k_is); (case c6 => k_is)
    (case k6 => k_is); (case a7 => k_is); (case l7 => k_is); (case c7 => k_is); (case k7 => k_is); (case a8 => k_is)
    (case l8 => k_is); (case c8 => k_is); (case k8 => k_is); (case a9 => k_is); (case l9 => k_is); (case c9 => k_is)
    (case k9 => k_is); (case a10 => k_is); (case l10 => k_is); (case c10 => k_is); (case k10 => k_is); (case a11 => k_is)
    (case l11 => k_is); (case c11 => k_is); (case k11 => k_is); (case a12 => k_is); (case l12 => k_is); (case c12 => k_is)
    (case k12 => k_is); (case pg => k_is); (case hd => k_is); (case po => k_is); (case sa => k_is); (case mk => k_is)
    (case kc => k_is); (case n0 => k_is); (case n1 => k_is); (case n2 => k_is); (case n3 => k_is); (case n4 => k_is)
    (case n5 => k_is); (case n6 => k_is); (case n7 => k_is); (case z0 => k_is); (case z1 => k_is); (case z2 => k_is)
    (case z3 => k_is); (case y0 => k_is); (case y1 => k_is); (case y2 => k_is); (case y3 => k_is); (case y4 => k_is)
  case S =>
    intro K H xs a hO hwi hask hx
    exact Sp.req a hwi hx
#print axioms PySem.Challenge.cw_spindlerounds_s02_best_holds
