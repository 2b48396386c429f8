/- The reference's tree: what reads it. The reference's tree: how it is made. The reference's tree is made. The law of the forms. -/
import Derived.Test.YtfnhhnenepmpjaaLawC

set_option linter.unnecessarySimpa false
set_option linter.unusedVariables false
set_option linter.unusedSimpArgs false
set_option linter.unusedSectionVars false
/-! CvTrZa -/
namespace Camp
open Go
set_option linter.unusedVariables false
set_option linter.unusedSimpArgs false
set_option maxHeartbeats 2000000
def rt (R : Nat → Int) (V : Nat → CV) : List CV := (List.range 32).map fun i => if i < 16 then CV.int .i64 (R i) else V (i - 16)
theorem rt_len (R : Nat → Int) (V : Nat → CV) : (rt R V).length = 32 := by simp [rt]
theorem rt_r (R : Nat → Int) (V : Nat → CV) {a : Nat} (h : a < 16) : (rt R V)[a * 1]? = some (.int .i64 (R a)) := by
  rw [Nat.mul_one, rt, List.getElem?_map, List.getElem?_range (by omega), Option.map_some, if_pos h]
theorem rt_v (R : Nat → Int) (V : Nat → CV) {a : Nat} (h : a < 16) : (rt R V)[16 + a * 1]? = some (V a) := by
  rw [Nat.mul_one, rt, List.getElem?_map, List.getElem?_range (by omega), Option.map_some, if_neg (by omega)]
  congr 2
  omega
theorem rt_set {R R' : Nat → Int} {V V' : Nat → CV} {i : Nat} {x : CV} (h : i < 32) (hx : x = if i < 16 then CV.int .i64 (R' i) else V' (i - 16)) (h1 : ∀ j, j < 16 → j ≠ i → R' j = R j) (h2 : ∀ j, j < 16 → j + 16 ≠ i → V' j = V j) :
    (rt R V).take i ++ x :: (rt R V).drop (i + 1) = rt R' V' := by
  have hl := rt_len R V
  apply List.ext_getElem?
  intro j
  rcases Nat.lt_trichotomy j i with k | k | k
  · rw [List.getElem?_append_left (by rw [List.length_take]; omega), List.getElem?_take, if_pos k]
    unfold rt
    rw [List.getElem?_map, List.getElem?_map, List.getElem?_range (by omega), Option.map_some, Option.map_some]
    split
    · rw [h1 j (by omega) (by omega)]
    · rw [h2 (j - 16) (by omega) (by omega)]
  · subst k
    rw [List.getElem?_append_right (by rw [List.length_take]; omega), List.length_take, show j - min j (rt R V).length = 0 by omega, List.getElem?_cons_zero, hx, rt, List.getElem?_map, List.getElem?_range (by omega), Option.map_some]
  · rw [List.getElem?_append_right (by rw [List.length_take]; omega), List.length_take, show j - min i (rt R V).length = (j - i - 1) + 1 by omega, List.getElem?_cons_succ, List.getElem?_drop, show i + 1 + (j - i - 1) = j by omega]
    unfold rt
    rw [List.getElem?_map, List.getElem?_map]
    by_cases hj : j < 32
    · rw [List.getElem?_range hj, Option.map_some, Option.map_some]
      split
      · rw [h1 j (by omega) (by omega)]
      · rw [h2 (j - 16) (by omega) (by omega)]
    · rw [List.getElem?_eq_none (by simp; omega)]
      rfl
def RTr (h : Hp) (r : Nat) (R : Nat → Int) (V : Nat → CV) : Prop := h.g r = some (.rows true 32 0 0 [rt R V])
theorem RTr.put {h : Hp} {r : Nat} {R R' : Nat → Int} {V V' : Nat → CV} {L : List CV} (k : RTr h r R V) (e : L = rt R' V') : RTr (h.put r (.rows true 32 0 0 [L])) r R' V' := by
  have kk : h.g r = _ := k
  unfold RTr
  rw [g_put_eq, kk, e]
  rfl
def enc : Option Nat → Int
  | some r => r
  | none => -1
/-- A reference's tree that says the same. -/
structure RTf (h : Hp) (r : Nat) (f : Int → Option Nat) (par : Int → List Int) (R : Nat → Int) (V : Nat → CV) : Prop where
  t : RTr h r R V
  e : ∀ b : Nat, b < 16 → R b = enc (f b)
  v : ∀ b : Nat, b < 16 → SL h 1 (V b) (rI (par b))
theorem RTf.new {h h' : Hp} {r : Nat} {f : Int → Option Nat} {par : Int → List Int} {R : Nat → Int} {V : Nat → CV} (k : RTf h r f par R V) (fr : Fn h h') : RTf h' r f par R V := ⟨fr.some k.t (fun h => h), k.e, fun b hb => (k.v b hb).new fr⟩
section
variable {k r : Nat} {f : Int → Option Nat} {par : Int → List Int} {R : Nat → Int} {V : Nat → CV} {h : Hp} {P : AV → Hp → Prop}
theorem nodeT_ok {i : Int} (hP : P (.c (.bool (decide (0 ≤ i ∧ i < 16)))) h) : callW N (k + 1) 44 [.c (.int .i64 i)] h P := by
  refine call_intro rfl (by simp only [List.length_cons, List.length_nil]; omega) ?_
  by_cases h1 : 0 ≤ i
  · by_cases h2 : i < 16
    · rw [decide_eq_true ⟨h1, h2⟩] at hP
      simp (maxSteps := 200000) -implicitDefEqProofs only [KA, KB, KC, KD, KE, KF, eq_self, ne_eq, ↓reduceIte, Nat.reduceLT, Nat.reduceEqDiff, Nat.reduceAdd, Nat.reduceLeDiff, Nat.reduceSub, Nat.reduceMul, reduceCtorEq, h1, h2]
      exact hP
    · rw [decide_eq_false (by omega)] at hP
      simp (maxSteps := 200000) -implicitDefEqProofs only [KA, KB, KC, KD, KE, KF, eq_self, ne_eq, ↓reduceIte, Nat.reduceLT, Nat.reduceEqDiff, Nat.reduceAdd, Nat.reduceLeDiff, Nat.reduceSub, Nat.reduceMul, reduceCtorEq, h1, h2]
      exact hP
  · rw [decide_eq_false (by omega)] at hP
    simp (maxSteps := 200000) -implicitDefEqProofs only [KA, KB, KC, KD, KE, KF, eq_self, ne_eq, ↓reduceIte, Nat.reduceLT, Nat.reduceEqDiff, Nat.reduceAdd, Nat.reduceLeDiff, Nat.reduceSub, Nat.reduceMul, reduceCtorEq, h1]
    exact hP
theorem iaR {id : Nat} {i : Int} (h : 0 ≤ i ∧ i < 16) (off : Nat) : iaddrAV 16 1 (.v (.c (.ptr id 0 0 off))) i = some (.v (.c (.ptr id 0 0 (off + i.toNat * 1)))) := iaA_pt (n := 16) (sz := 1) (by omega)
theorem rrank_ok {n : Int} (hR : RTf h r f par R V) (hr : ∀ b x, f b = some x → 0 ≤ b ∧ b < 16) (hP : P (.tup [.c (.int .i64 (rkv (f n))), .c (.bool (f n).isSome)]) h) : callW N (k + 2) 239 [.c (.ptr r 0 0 0), .c (.int .i64 n)] h P := by
  have hg : h.g r = _ := hR.t
  refine call_intro rfl (by simp only [List.length_cons, List.length_nil]; omega) ?_
  simp (maxSteps := 200000) -implicitDefEqProofs only [KA, KB, KC, KD, KE, KF, eq_self, ne_eq, ↓reduceIte, Nat.reduceLT, Nat.reduceEqDiff, Nat.reduceAdd, Nat.reduceLeDiff, Nat.reduceSub, Nat.reduceMul, reduceCtorEq]
  refine nodeT_ok (k := k) ?_
  by_cases c : 0 ≤ n ∧ n < 16
  · rw [decide_eq_true c]
    have i1 := iaR (id := r) c 0
    have g1 := rt_r R V (a := n.toNat) (by omega)
    have he := hR.e n.toNat (by omega)
    rw [show ((n.toNat : Nat) : Int) = n by omega] at he
    cases hf : f n with
    | none =>
      rw [hf] at hP he
      rw [he] at g1
      have hl : (-1 : Int) < 0 := by omega
      have e1 : enc none = -1 := rfl
      rw [e1] at g1
      simp (maxSteps := 200000) -implicitDefEqProofs only [KA, KB, KC, KD, KE, KF, eq_self, ne_eq, ↓reduceIte, Nat.reduceLT, Nat.reduceEqDiff, Nat.reduceAdd, Nat.reduceLeDiff, Nat.reduceSub, Nat.reduceMul, reduceCtorEq, hg, i1, g1, hl]
      exact hP
    | some x =>
      rw [hf] at hP he
      have e1 : enc (some x) = x := rfl
      rw [he, e1] at g1
      have hl : ¬ (x : Int) < 0 := by omega
      simp (maxSteps := 200000) -implicitDefEqProofs only [KA, KB, KC, KD, KE, KF, eq_self, ne_eq, ↓reduceIte, Nat.reduceLT, Nat.reduceEqDiff, Nat.reduceAdd, Nat.reduceLeDiff, Nat.reduceSub, Nat.reduceMul, reduceCtorEq, hg, i1, g1, hl]
      exact hP
  · rw [decide_eq_false c]
    have hf : f n = none := by
      cases hf : f n with
      | none => rfl
      | some x => exact absurd (hr n x hf) c
    rw [hf] at hP
    simp (maxSteps := 200000) -implicitDefEqProofs only [KA, KB, KC, KD, KE, KF, eq_self, ne_eq, ↓reduceIte, Nat.reduceLT, Nat.reduceEqDiff, Nat.reduceAdd, Nat.reduceLeDiff, Nat.reduceSub, Nat.reduceMul, reduceCtorEq]
    exact hP
theorem rparents_ok {n : Int} (hR : RTf h r f par R V) (hp : ¬ (0 ≤ n ∧ n < 16) → par n = []) (hP : ∀ v, SL h 1 v (rI (par n)) → P (.c v) h) : callW N (k + 2) 240 [.c (.ptr r 0 0 0), .c (.int .i64 n)] h P := by
  have hg : h.g r = _ := hR.t
  refine call_intro rfl (by simp only [List.length_cons, List.length_nil]; omega) ?_
  simp (maxSteps := 200000) -implicitDefEqProofs only [KA, KB, KC, KD, KE, KF, eq_self, ne_eq, ↓reduceIte, Nat.reduceLT, Nat.reduceEqDiff, Nat.reduceAdd, Nat.reduceLeDiff, Nat.reduceSub, Nat.reduceMul, reduceCtorEq]
  refine nodeT_ok (k := k) ?_
  by_cases c : 0 ≤ n ∧ n < 16
  · rw [decide_eq_true c]
    have i1 := iaR (id := r) c 16
    have g1 := rt_v R V (a := n.toNat) (by omega)
    have hv := hR.v n.toNat (by omega)
    rw [show ((n.toNat : Nat) : Int) = n by omega] at hv
    simp (maxSteps := 200000) -implicitDefEqProofs only [KA, KB, KC, KD, KE, KF, eq_self, ne_eq, ↓reduceIte, Nat.reduceLT, Nat.reduceEqDiff, Nat.reduceAdd, Nat.reduceLeDiff, Nat.reduceSub, Nat.reduceMul, reduceCtorEq, hg, i1, g1]
    exact hP _ hv
  · rw [decide_eq_false c]
    simp (maxSteps := 200000) -implicitDefEqProofs only [KA, KB, KC, KD, KE, KF, eq_self, ne_eq, ↓reduceIte, Nat.reduceLT, Nat.reduceEqDiff, Nat.reduceAdd, Nat.reduceLeDiff, Nat.reduceSub, Nat.reduceMul, reduceCtorEq]
    refine hP _ ?_
    rw [hp c]
    rfl
/-- Of 0 to i - 1 those. -/
def upto (p : Nat → Bool) (i : Nat) : List Int := ((List.range i).filter p).map fun b : Nat => (b : Int)
theorem upto_succ (p : Nat → Bool) (i : Nat) : upto p (i + 1) = upto p i ++ (if p i = true then [(i : Int)] else []) := by
  unfold upto
  rw [List.range_succ, List.filter_append, List.map_append]
  by_cases e : p i = true
  · simp [e]
  · simp [e]
theorem upto_len (p : Nat → Bool) (i : Nat) : (upto p i).length ≤ i := by
  have := List.length_filter_le p (List.range i)
  rw [List.length_range] at this
  unfold upto
  rw [List.length_map]
  exact this
theorem upto_asc (p : Nat → Bool) (i : Nat) : (upto p i).Pairwise (· < ·) := by
  unfold upto
  rw [List.pairwise_map]
  exact (List.Pairwise.filter _ List.pairwise_lt_range).imp fun h => by omega
theorem mem_upto {p : Nat → Bool} {i : Nat} {x : Int} : x ∈ upto p i ↔ 0 ≤ x ∧ x < i ∧ p x.toNat = true := by
  unfold upto
  rw [List.mem_map]
  constructor
  · rintro ⟨b, hb, rfl⟩
    rw [List.mem_filter, List.mem_range] at hb
    exact ⟨by omega, by omega, by simpa using hb.2⟩
  · rintro ⟨h1, h2, h3⟩
    exact ⟨x.toNat, by rw [List.mem_filter, List.mem_range]; exact ⟨by omega, h3⟩, by omega⟩
theorem range16 (g : Nat → CV) {i : Nat} (h : i < 16) : ((List.range 16).map g)[i]? = some (g i) := by
  rw [List.getElem?_map, List.getElem?_range h]
  rfl
/-- Whose first parent is n, among 0 to 15. -/
def kid (par : Int → List Int) (n : Int) (b : Nat) : Bool := decide (0 < (par b).length ∧ hd (par b) = n)
def RcI (h : Hp) (V : Nat → CV) (par : Int → List Int) (n : Int) (m : Nat) (s : St) : Prop :=
  ∃ (i : Nat) (w : CV) (h' : Hp) (l : List (Nat × TV)) (lc : List (List CV)), s = ST 32 l lc h' ∧ i ≤ 16 ∧ m = 16 - i ∧ Ow h' 1 w (rI (upto (kid par n) i)) ∧ Fn h h' ∧ (∀ j, ownId w j → h.n ≤ j) ∧
    lk l 1 = .v (.c (.int .i64 n)) ∧ lk l 5 = .v (.c w) ∧ lk l 11 = .v (.agg ((List.range 16).map V)) ∧ lk l 12 = .v (.c (.int .i64 i))
theorem rchildren_ok {n : Int} (hR : RTf h r f par R V) (hP : ∀ h' v, SL h' 1 v (rI (upto (kid par n) 16)) → Fn h h' → P (.c v) h') : callW N (k + 1) 241 [.c (.ptr r 0 0 0), .c (.int .i64 n)] h P := by
  have hg : h.g r = _ := hR.t
  have htk : (rt R V).drop 16 = (List.range 16).map V := by
    apply List.ext_getElem?
    intro j
    rw [List.getElem?_drop]
    unfold rt
    rw [List.getElem?_map, List.getElem?_map]
    by_cases hj : j < 16
    · rw [List.getElem?_range (by omega), List.getElem?_range hj, Option.map_some, Option.map_some, if_neg (by omega)]
      congr 2
      omega
    · rw [List.getElem?_eq_none (by simp; omega), List.getElem?_eq_none (by simp; omega)]
      rfl
  have hln := rt_len R V
  refine call_intro rfl (by simp only [List.length_cons, List.length_nil]; omega) ?_
  simp (maxSteps := 200000) -implicitDefEqProofs only [KA, KB, KC, KD, KE, KF, eq_self, ne_eq, ↓reduceIte, Nat.reduceLT, Nat.reduceEqDiff, Nat.reduceAdd, Nat.reduceLeDiff, Nat.reduceSub, Nat.reduceMul, reduceCtorEq, hg, hln, htk]
  refine loop_rd (callW_mono N _) (RcI h V par n) (n := 16) ⟨0, .nils, h, _, _, rfl, by omega, rfl, rfl, Fm.refl _ _, (fun j e => e.elim), rfl, rfl, ?_, rfl⟩ ?_
  · first
    | rfl
    | (simp only [lk_cons, lk_nil, List.take_of_length_le (show ((List.range 16).map V).length ≤ 16 by simp)]; rfl)
  rintro m s ⟨i, w, h1, l, lc, rfl, hi, hm, hw, f1, hid, e1, e5, e11, e12⟩
  by_cases hlt : (i : Int) < 16
  · have hx0 : (0 : Int) ≤ i := by omega
    have hx1 : (i : Int) < ((16 : Nat) : Int) := by omega
    have hx2 : ((List.range 16).map V)[((i : Int)).toNat * 1]? = some (V i) := by rw [Int.toNat_natCast, Nat.mul_one, range16 V (by omega)]
    have hwi := wrap_i64 (n := (i : Int) + 1) (by omega)
    have hv := (hR.v i (by omega)).new f1
    have hl : ∀ h' : Hp, lenT h' .sl (.v (.c (V i))) = some ((par i).length : Int) := fun h' => by rw [hv.len h', rI_len]
    obtain ⟨w', h2, q1, q2, q3, q4⟩ := hw.app (lc := [[.int .i64 (i : Int)]]) (x := .lsl 0 1) (xs := [[.int .i64 (i : Int)]]) rfl (by simp) (bytes := 8) (by
      have := upto_len (kid par n) i
      rw [rI_len]
      simp only [room, List.length_singleton]
      omega)
    have hus := upto_succ (kid par n) i
    by_cases c : (0 : Int) < ((par i).length : Int)
    · have hrow0 : (rI (par i))[(0 : Int).toNat]? = some [.int .i64 (hd (par i))] := by
        cases hp : par i with
        | nil => rw [hp] at c; simp at c
        | cons y ys => simp [rI, hd]
      obtain ⟨b1, b2, b3, b4, b5⟩ := hv.at (i := (0 : Int)) (by omega) hrow0
      by_cases c2 : hd (par i) = n
      · have hd2 : decide (hd (par i) = n) = true := decide_eq_true c2
        simp (maxSteps := 200000) -implicitDefEqProofs only [KA, KB, KC, KD, KE, KF, eq_self, ne_eq, ↓reduceIte, Nat.reduceLT, Nat.reduceEqDiff, Nat.reduceAdd, Nat.reduceLeDiff, Nat.reduceSub, Nat.reduceMul, reduceCtorEq, e1, e5, e11, e12, hlt, hx0, hx1, hx2, hl, c, b4, b5, hd2, q1, hwi, rd_n]
        refine ⟨m - 1, by omega, i + 1, w', h2, _, _, rfl, by omega, by omega, ?_, f1.fresh q3 hid, (fun j hj => (q4 j hj).elim (hid j) (fun e => by have := f1.n; omega)), rfl, rfl, rfl, rfl⟩
        rw [hus, if_pos (show kid par n i = true from decide_eq_true ⟨by omega, c2⟩)]
        simpa [rI] using q2
      · simp (maxSteps := 200000) -implicitDefEqProofs only [KA, KB, KC, KD, KE, KF, eq_self, ne_eq, ↓reduceIte, Nat.reduceLT, Nat.reduceEqDiff, Nat.reduceAdd, Nat.reduceLeDiff, Nat.reduceSub, Nat.reduceMul, reduceCtorEq, e1, e5, e11, e12, hlt, hx0, hx1, hx2, hl, c, b4, b5, c2, hwi, rd_n]
        refine ⟨m - 1, by omega, i + 1, w, h1, _, _, rfl, by omega, by omega, ?_, f1, hid, rfl, rfl, rfl, rfl⟩
        rw [hus, if_neg (by unfold kid; rw [decide_eq_true_eq]; exact fun e => c2 e.2), List.append_nil]
        exact hw
    · simp (maxSteps := 200000) -implicitDefEqProofs only [KA, KB, KC, KD, KE, KF, eq_self, ne_eq, ↓reduceIte, Nat.reduceLT, Nat.reduceEqDiff, Nat.reduceAdd, Nat.reduceLeDiff, Nat.reduceSub, Nat.reduceMul, reduceCtorEq, e1, e5, e11, e12, hlt, hx0, hx1, hx2, hl, c, hwi, rd_n]
      refine ⟨m - 1, by omega, i + 1, w, h1, _, _, rfl, by omega, by omega, ?_, f1, hid, rfl, rfl, rfl, rfl⟩
      rw [hus, if_neg (by unfold kid; rw [decide_eq_true_eq]; exact fun e => c (by omega)), List.append_nil]
      exact hw
  · have : i = 16 := by omega
    subst this
    simp (maxSteps := 200000) -implicitDefEqProofs only [KA, KB, KC, KD, KE, KF, eq_self, ne_eq, ↓reduceIte, Nat.reduceLT, Nat.reduceEqDiff, Nat.reduceAdd, Nat.reduceLeDiff, Nat.reduceSub, Nat.reduceMul, reduceCtorEq, e1, e5, e11, e12, hlt]
    exact hP _ _ hw.sl f1
/-- By rank, then by number: so many ranks. -/
def oL (R : Nat → Int) : Nat → List Int
  | 0 => []
  | d + 1 => oL R d ++ upto (fun b => decide (R b = d)) 16
theorem oL_len (R : Nat → Int) : ∀ d, (oL R d).length ≤ d * 16
  | 0 => Nat.le_refl _
  | d + 1 => by
    have h1 := oL_len R d
    have h2 := upto_len (fun b => decide (R b = d)) 16
    rw [oL, List.length_append]
    omega
def RoA (h : Hp) (r : Nat) (R : Nat → Int) (m : Nat) (s : St) : Prop :=
  ∃ (d : Nat) (w : CV) (h' : Hp) (l : List (Nat × TV)) (lc : List (List CV)), s = ST 28 l lc h' ∧ d ≤ 16 ∧ m = 16 - d ∧ Ow h' 1 w (rI (oL R d)) ∧ Fn h h' ∧ (∀ j, ownId w j → h.n ≤ j) ∧
    lk l 0 = .v (.c (.ptr r 0 0 0)) ∧ lk l 3 = .v (.c w) ∧ lk l 7 = .v (.c (.int .i64 d))
def RoB (h : Hp) (r : Nat) (R : Nat → Int) (d : Nat) (m : Nat) (s : St) : Prop :=
  ∃ (i : Nat) (w : CV) (h' : Hp) (l : List (Nat × TV)) (lc : List (List CV)), s = ST 28 l lc h' ∧ i ≤ 16 ∧ m = 16 - i ∧ Ow h' 1 w (rI (oL R d ++ upto (fun b => decide (R b = d)) i)) ∧ Fn h h' ∧ (∀ j, ownId w j → h.n ≤ j) ∧
    lk l 0 = .v (.c (.ptr r 0 0 0)) ∧ lk l 3 = .v (.c w) ∧ lk l 4 = .v (.c (.int .i64 d)) ∧ lk l 7 = .v (.c (.int .i64 d)) ∧ lk l 13 = .v (.agg ((List.range 16).map fun b => CV.int .i64 (R b))) ∧ lk l 14 = .v (.c (.int .i64 i))
theorem rorder_ok (hR : RTf h r f par R V) (hP : ∀ h' v, SL h' 1 v (rI (oL R 16)) → Fn h h' → P (.c v) h') : callW N (k + 1) 238 [.c (.ptr r 0 0 0)] h P := by
  have htk : (rt R V).take 16 = (List.range 16).map fun b => CV.int .i64 (R b) := by
    apply List.ext_getElem?
    intro j
    rw [List.getElem?_take]
    unfold rt
    rw [List.getElem?_map, List.getElem?_map]
    by_cases hj : j < 16
    · rw [if_pos hj, List.getElem?_range (by omega), List.getElem?_range hj, Option.map_some, Option.map_some, if_pos hj]
    · rw [if_neg hj, List.getElem?_eq_none (l := List.range 16) (by simp; omega)]
      rfl
  have hln := rt_len R V
  refine call_intro rfl (by simp only [List.length_cons, List.length_nil]; omega) ?_
  simp (maxSteps := 200000) -implicitDefEqProofs only [KA, KB, KC, KD, KE, KF, eq_self, ne_eq, ↓reduceIte, Nat.reduceLT, Nat.reduceEqDiff, Nat.reduceAdd, Nat.reduceLeDiff, Nat.reduceSub, Nat.reduceMul, reduceCtorEq]
  refine loop_rd (callW_mono N _) (RoA h r R) (n := 16) ⟨0, .nils, h, _, _, rfl, by omega, rfl, rfl, Fm.refl _ _, (fun j e => e.elim), rfl, rfl, rfl⟩ ?_
  rintro m s ⟨d, w, h1, l, lc, rfl, hd, hm, hw, f1, hid, e0, e3, e7⟩
  by_cases hlt : (d : Int) < 16
  · have hg : h1.g r = _ := (hR.new f1).t
    have hwd := wrap_i64 (n := (d : Int) + 1) (by omega)
    simp (maxSteps := 200000) -implicitDefEqProofs only [KA, KB, KC, KD, KE, KF, eq_self, ne_eq, ↓reduceIte, Nat.reduceLT, Nat.reduceEqDiff, Nat.reduceAdd, Nat.reduceLeDiff, Nat.reduceSub, Nat.reduceMul, reduceCtorEq, e0, e3, e7, hlt, hg, hln, htk]
    refine loop_rd (callW_mono N _) (RoB h r R d) (n := 16) ⟨0, w, h1, _, _, rfl, by omega, rfl, by simpa [upto] using hw, f1, hid, rfl, rfl, rfl, rfl, ?_, rfl⟩ ?_
    · first
      | rfl
      | (simp only [lk_cons, lk_nil, List.take_of_length_le (show ((List.range 16).map fun b => CV.int .i64 (R b)).length ≤ 16 by simp)]; rfl)
    clear hw f1 hid e0 e3 e7 hg
    rintro m2 s ⟨i, w, h1, l, lc, rfl, hi, hm2, hw, f1, hid, e0, e3, e4, e7, e13, e14⟩
    by_cases hlt2 : (i : Int) < 16
    · have hx0 : (0 : Int) ≤ i := by omega
      have hx1 : (i : Int) < ((16 : Nat) : Int) := by omega
      have hx2 : ((List.range 16).map fun b => CV.int .i64 (R b))[((i : Int)).toNat * 1]? = some (.int .i64 (R i)) := by rw [Int.toNat_natCast, Nat.mul_one, range16 _ (by omega)]
      have hwi := wrap_i64 (n := (i : Int) + 1) (by omega)
      have hus := upto_succ (fun b => decide (R b = (d : Int))) i
      by_cases c : R i = d
      · obtain ⟨w', h2, q1, q2, q3, q4⟩ := hw.app (lc := [[.int .i64 (i : Int)]]) (x := .lsl 0 1) (xs := [[.int .i64 (i : Int)]]) rfl (by simp) (bytes := 8) (by
          have := upto_len (fun b => decide (R b = (d : Int))) i
          have := oL_len R d
          rw [rI_len, List.length_append]
          simp only [room, List.length_singleton]
          omega)
        have hc : decide (R i = (d : Int)) = true := decide_eq_true c
        simp (maxSteps := 200000) -implicitDefEqProofs only [KA, KB, KC, KD, KE, KF, eq_self, ne_eq, ↓reduceIte, Nat.reduceLT, Nat.reduceEqDiff, Nat.reduceAdd, Nat.reduceLeDiff, Nat.reduceSub, Nat.reduceMul, reduceCtorEq, e0, e3, e4, e7, e13, e14, hlt2, hx0, hx1, hx2, hc, q1, hwi, rd_n]
        refine ⟨m2 - 1, by omega, i + 1, w', h2, _, _, rfl, by omega, by omega, ?_, f1.fresh q3 hid, (fun j hj => (q4 j hj).elim (hid j) (fun e => by have := f1.n; omega)), rfl, rfl, rfl, rfl, rfl, rfl⟩
        rw [hus, if_pos hc, ← List.append_assoc]
        simpa [rI] using q2
      · simp (maxSteps := 200000) -implicitDefEqProofs only [KA, KB, KC, KD, KE, KF, eq_self, ne_eq, ↓reduceIte, Nat.reduceLT, Nat.reduceEqDiff, Nat.reduceAdd, Nat.reduceLeDiff, Nat.reduceSub, Nat.reduceMul, reduceCtorEq, e0, e3, e4, e7, e13, e14, hlt2, hx0, hx1, hx2, c, hwi, rd_n]
        refine ⟨m2 - 1, by omega, i + 1, w, h1, _, _, rfl, by omega, by omega, ?_, f1, hid, rfl, rfl, rfl, rfl, rfl, rfl⟩
        rw [hus, if_neg (by rw [decide_eq_true_eq]; exact c), List.append_nil]
        exact hw
    · have : i = 16 := by omega
      subst this
      simp (maxSteps := 200000) -implicitDefEqProofs only [KA, KB, KC, KD, KE, KF, eq_self, ne_eq, ↓reduceIte, Nat.reduceLT, Nat.reduceEqDiff, Nat.reduceAdd, Nat.reduceLeDiff, Nat.reduceSub, Nat.reduceMul, reduceCtorEq, e0, e3, e4, e7, e13, e14, hlt2, hwd, rd_n]
      exact ⟨m - 1, by omega, d + 1, w, h1, _, _, rfl, by omega, by omega, hw, f1, hid, rfl, rfl, rfl⟩
  · have : d = 16 := by omega
    subst this
    simp (maxSteps := 200000) -implicitDefEqProofs only [KA, KB, KC, KD, KE, KF, eq_self, ne_eq, ↓reduceIte, Nat.reduceLT, Nat.reduceEqDiff, Nat.reduceAdd, Nat.reduceLeDiff, Nat.reduceSub, Nat.reduceMul, reduceCtorEq, e0, e3, e7, hlt]
    exact hP _ _ hw.sl f1
theorem app_one {h : Hp} {lc : List (List CV)} {id : Nat} {x : TV} {y : CV} {xs : List (List CV)} (hg : h.g id = some (.rows true 1 0 0 [[y]])) (hx : sliceRows h lc 1 x = some xs) (hne : xs ≠ []) (hb : xs.length ≤ 1000000) :
    ∃ v' h', appT h lc 1 8 (.v (.c (.sl id 0 0 1 (some 1)))) x = some (v', h') ∧ Ow h' 1 v' ([y] :: xs) ∧ Fn h h' ∧ (∀ j, ownId v' j → h.n ≤ j) := by
  refine ⟨.sl h.n 0 0 (1 + xs.length) none, h.push (.rows true 1 0 0 ([y] :: xs)), ?_, ⟨rfl, rfl, 0, _, g_push_eq _ _, Nat.le_refl _, by rw [List.length_cons]; omega, by rw [List.take_of_length_le (by rw [List.length_cons]; omega)]⟩, Fm.push _ _ _, fun j hj => by simp only [ownId] at hj; omega⟩
  cases xs with
  | nil => exact absurd rfl hne
  | cons z zs =>
    simp only [appT, asC_c, Option.bind_some, hx]
    simp only [appRows, g_def, hg]
    rw [if_pos ⟨trivial, by simp, by simp only [room, List.length_cons] at hb ⊢; omega⟩]
    rw [if_neg (by simp only [List.length_cons]; omega)]
    rfl
def RpI (h : Hp) (r : Nat) (par : Int → List Int) (n : Int) (x : Nat) (m : Nat) (s : St) : Prop :=
  ∃ (i : Nat) (w : CV) (h' : Hp) (l : List (Nat × TV)) (lc : List (List CV)), s = ST 36 l lc h' ∧ i ≤ x ∧ m = x - i ∧ SL h' 1 w (rI (up par i n).reverse) ∧ Fn h h' ∧
    lk l 0 = .v (.c (.ptr r 0 0 0)) ∧ lk l 1 = .v (.c (.int .i64 (itr par i n))) ∧ lk l 7 = .v (.c w) ∧ lk l 18 = .v (.c (.int .i64 i))
theorem rpath_none {n : Int} (hR : RTf h r f par R V) (hr : ∀ b x, f b = some x → 0 ≤ b ∧ b < 16) (hf : f n = none) (hP : P (.c .nils) h) : callW N (k + 3) 242 [.c (.ptr r 0 0 0), .c (.int .i64 n)] h P := by
  refine call_intro rfl (by simp only [List.length_cons, List.length_nil]; omega) ?_
  simp (maxSteps := 200000) -implicitDefEqProofs only [KA, KB, KC, KD, KE, KF, eq_self, ne_eq, ↓reduceIte, Nat.reduceLT, Nat.reduceEqDiff, Nat.reduceAdd, Nat.reduceLeDiff, Nat.reduceSub, Nat.reduceMul, reduceCtorEq]
  refine rrank_ok (k := k) hR hr ?_
  rw [hf]
  simp (maxSteps := 200000) -implicitDefEqProofs only [KA, KB, KC, KD, KE, KF, eq_self, ne_eq, ↓reduceIte, Nat.reduceLT, Nat.reduceEqDiff, Nat.reduceAdd, Nat.reduceLeDiff, Nat.reduceSub, Nat.reduceMul, reduceCtorEq, Option.isSome_none]
  exact hP
theorem rpath_ok {n : Int} {x : Nat} (hR : RTf h r f par R V) (hr : ∀ b x, f b = some x → 0 ≤ b ∧ b < 16) (hf : f n = some x) (hx : x < 16) (hfall : ∀ i, i < x → itr par i n ≠ 0) (hroot : itr par x n = 0) (hin : ∀ i, i ≤ x → 0 ≤ itr par i n ∧ itr par i n < 16) (hne : ∀ i, i < x → par (itr par i n) ≠ [])
    (hP : ∀ h' v, SL h' 1 v (rI (up par x n).reverse) → Fn h h' → P (.c v) h') : callW N (k + 3) 242 [.c (.ptr r 0 0 0), .c (.int .i64 n)] h P := by
  obtain ⟨h1, hh1⟩ : ∃ h1, h1 = h.push (.rows true 1 0 0 [[.int .i64 n]]) := ⟨_, rfl⟩
  have hg1 : h1.g h.n = some (.rows true 1 0 0 [[.int .i64 n]]) := by rw [hh1, g_push_eq]
  have f1 : Fn h h1 := by rw [hh1]; exact Fm.push _ _ _
  have hfold := hh1.symm
  refine call_intro rfl (by simp only [List.length_cons, List.length_nil]; omega) ?_
  simp (maxSteps := 200000) -implicitDefEqProofs only [KA, KB, KC, KD, KE, KF, eq_self, ne_eq, ↓reduceIte, Nat.reduceLT, Nat.reduceEqDiff, Nat.reduceAdd, Nat.reduceLeDiff, Nat.reduceSub, Nat.reduceMul, reduceCtorEq]
  refine rrank_ok (k := k) hR hr ?_
  rw [hf]
  simp (maxSteps := 200000) -implicitDefEqProofs only [KA, KB, KC, KD, KE, KF, eq_self, ne_eq, ↓reduceIte, Nat.reduceLT, Nat.reduceEqDiff, Nat.reduceAdd, Nat.reduceLeDiff, Nat.reduceSub, Nat.reduceMul, reduceCtorEq, Option.isSome_some, chunks, hfold]
  refine loop_rd (callW_mono N _) (RpI h r par n x) (n := x) ⟨0, .sl h.n 0 0 1 (some 1), h1, _, _, rfl, by omega, rfl, ⟨true, 0, 0, _, hg1, Nat.le_refl _, by simp, rfl⟩, f1, rfl, rfl, rfl, rfl⟩ ?_
  clear hg1 f1 hfold hh1
  rintro m s ⟨i, w, h2, l, lc, rfl, hi, hm, hw, f2, e0, e1, e7, e18⟩
  have hlt : (i : Int) < 16 := by omega
  by_cases c : itr par i n = 0
  · have hir : i = x := by
      rcases Nat.lt_or_ge i x with q | q
      · exact absurd c (hfall i q)
      · omega
    subst hir
    have c' : decide (itr par i n = 0) = true := decide_eq_true c
    simp (maxSteps := 200000) -implicitDefEqProofs only [KA, KB, KC, KD, KE, KF, eq_self, ne_eq, ↓reduceIte, Nat.reduceLT, Nat.reduceEqDiff, Nat.reduceAdd, Nat.reduceLeDiff, Nat.reduceSub, Nat.reduceMul, reduceCtorEq, e0, e1, e7, e18, hlt, c']
    exact hP _ _ hw f2
  · have hir : i < x := by
      rcases Nat.lt_or_ge i x with q | q
      · exact q
      · have : i = x := by omega
        subst this
        exact absurd hroot c
    have hwi := wrap_i64 (n := (i : Int) + 1) (by omega)
    have hg : h2.g r = _ := (hR.new f2).t
    have hb := hin i (by omega)
    have i1 := iaR (id := r) hb 16
    have g1 := rt_v R V (a := (itr par i n).toNat) (by omega)
    have hv := (hR.v (itr par i n).toNat (by omega)).new f2
    rw [show (((itr par i n).toNat : Nat) : Int) = itr par i n by omega] at hv
    have hrow0 : (rI (par (itr par i n)))[(0 : Int).toNat]? = some [.int .i64 (itr par (i + 1) n)] := by
      have hn := hne i hir
      rw [itr]
      cases hp : par (itr par i n) with
      | nil => exact absurd hp hn
      | cons y ys => simp [rI, hd]
    obtain ⟨b1, b2, b3, b4, b5⟩ := hv.at (i := (0 : Int)) (by omega) hrow0
    obtain ⟨h3, hh3⟩ : ∃ h3, h3 = h2.push (.rows true 1 0 0 [[.int .i64 (itr par (i + 1) n)]]) := ⟨_, rfl⟩
    have hg3 : h3.g h2.n = some (.rows true 1 0 0 [[.int .i64 (itr par (i + 1) n)]]) := by rw [hh3, g_push_eq]
    have f3 : Fn h2 h3 := by rw [hh3]; exact Fm.push _ _ _
    have hfold3 := hh3.symm
    have hrd : sliceRows h3 [] 1 (.v (.c w)) = some (rI (up par i n).reverse) := (hw.new f3).read
    have hll : (rI (up par i n).reverse).length = i + 1 := by rw [rI_len, List.length_reverse, up_len]
    obtain ⟨w', h4, q1, q2, q3, q4⟩ := app_one hg3 hrd (by intro e; rw [e] at hll; cases hll) (by omega)
    simp (maxSteps := 200000) -implicitDefEqProofs only [KA, KB, KC, KD, KE, KF, eq_self, ne_eq, ↓reduceIte, Nat.reduceLT, Nat.reduceEqDiff, Nat.reduceAdd, Nat.reduceLeDiff, Nat.reduceSub, Nat.reduceMul, reduceCtorEq, e0, e1, e7, e18, hlt, c, hg, i1, g1, b4, b5, chunks, hfold3, q1, hwi, rd_n]
    refine ⟨m - 1, by omega, i + 1, w', h4, _, _, rfl, by omega, by omega, ?_, (f2.trans f3).trans q3, rfl, rfl, rfl, rfl⟩
    have : [.int .i64 (itr par (i + 1) n)] :: rI (up par i n).reverse = rI (up par (i + 1) n).reverse := by rw [up_snoc]; simp [rI]
    rw [← this]
    exact q2.sl
end
end Camp

/-! CvTrZb -/
namespace Camp
open Go
set_option linter.unusedVariables false
set_option linter.unusedSimpArgs false
set_option maxHeartbeats 2000000
theorem take_two {b : Int} {A : List Int} (h : (A.take 2).length < 2) : (A ++ [b]).take 2 = A.take 2 ++ [b] := by
  match A, h with
  | [], _ => rfl
  | [x], _ => rfl
  | x :: y :: l, h => simp at h
theorem take_two' {b : Int} {A : List Int} (h : ¬ (A.take 2).length < 2) : (A ++ [b]).take 2 = A.take 2 := by
  match A, h with
  | [], h => simp at h
  | [x], h => simp at h
  | x :: y :: l, h => rfl
section
variable {k r g : Nat} {nn : Nat} {q : Int → Int → Option Int} {Q : Nat → Nat → Int} {least : Int} {f : Int → Option Nat} {R : Nat → Int} {V : Nat → CV} {h : Hp} {P : AV → Hp → Prop}
def cnd (q : Int → Int → Option Int) (f : Int → Option Nat) (n : Int) (c : Nat) (b : Int) : Bool := decide (qual q n b = 255 - (c : Int)) && below (f b) (f n)
theorem bestQ_near (n : Int) (c : Nat) : bestQ q least nn f n (c + 1) = bestQ q least nn f n c ++ (nearL q n least nn).filter (cnd q f n c) := by
  rw [bestQ, cand, List.filter_filter]
  rfl
def RqA (h : Hp) (g r : Nat) (nn : Nat) (q : Int → Int → Option Int) (least n : Int) (f : Int → Option Nat) (m : Nat) (s : St) : Prop :=
  ∃ (c : Nat) (w : CV) (h' : Hp) (l : List (Nat × TV)) (lc : List (List CV)), s = ST 59 l lc h' ∧ c ≤ 255 ∧ m = 255 - c ∧ Ow h' 1 w (rI ((bestQ q least nn f n c).take 2)) ∧ Fn h h' ∧ (∀ j, ownId w j → h.n ≤ j) ∧
    lk l 0 = .v (.c (.ptr g 0 0 0)) ∧ lk l 1 = .v (.c (.ptr r 0 0 0)) ∧ lk l 2 = .v (.c (.int .i64 n)) ∧ lk l 3 = .v (.c (.int .i64 least)) ∧ lk l 9 = .v (.c w) ∧ lk l 10 = .v (.c (.int .i64 (255 - (c : Int))))
def RqB (h : Hp) (g r : Nat) (nn : Nat) (q : Int → Int → Option Int) (least n : Int) (f : Int → Option Nat) (c : Nat) (v : CV) (m : Nat) (s : St) : Prop :=
  ∃ (i : Nat) (w : CV) (h' : Hp) (l : List (Nat × TV)) (lc : List (List CV)), s = ST 59 l lc h' ∧ i ≤ (nearL q n least nn).length ∧ m = (nearL q n least nn).length - i ∧ Ow h' 1 w (rI ((bestQ q least nn f n c ++ ((nearL q n least nn).take i).filter (cnd q f n c)).take 2)) ∧ Fn h h' ∧ (∀ j, ownId w j → h.n ≤ j) ∧ SL h' 1 v (rI (nearL q n least nn)) ∧ (∀ j, ownId v j → ¬ ownId w j ∧ j < h'.n) ∧
    lk l 0 = .v (.c (.ptr g 0 0 0)) ∧ lk l 1 = .v (.c (.ptr r 0 0 0)) ∧ lk l 2 = .v (.c (.int .i64 n)) ∧ lk l 3 = .v (.c (.int .i64 least)) ∧ lk l 9 = .v (.c w) ∧ lk l 10 = .v (.c (.int .i64 (255 - (c : Int)))) ∧
    lk l 20 = .v (.c v) ∧ lk l 21 = .v (.c (.int .i64 (nearL q n least nn).length)) ∧ lk l 22 = .v (.c (.int .i64 i))
theorem rpar_ok {n : Int} {x : Nat} (hg : RG h g nn Q) (hRl : Rl nn q Q) (hnn : nn ≤ 16) (hT : RTr h r R V) (he : ∀ b : Nat, b < 16 → R b = enc (f b)) (hn : 0 ≤ n ∧ n < nn) (hf : f n = some (x + 1)) (hx : x < 1000)
    (hP : ∀ h' v, SL h' 1 v (rI (fol q least nn f n)) → Fn h h' → P (.c v) h') : callW N (k + 4) 244 [.c (.ptr g 0 0 0), .c (.ptr r 0 0 0), .c (.int .i64 n), .c (.int .i64 least)] h P := by
  refine call_intro rfl (by simp only [List.length_cons, List.length_nil]; omega) ?_
  simp (maxSteps := 200000) -implicitDefEqProofs only [KA, KB, KC, KD, KE, KF, eq_self, ne_eq, ↓reduceIte, Nat.reduceLT, Nat.reduceEqDiff, Nat.reduceAdd, Nat.reduceLeDiff, Nat.reduceSub, Nat.reduceMul, reduceCtorEq]
  refine loop_rd (callW_mono N _) (RqA h g r nn q least n f) (n := 255) ⟨0, .nils, h, _, _, rfl, by omega, rfl, rfl, Fm.refl _ _, (fun j e => e.elim), rfl, rfl, rfl, rfl, rfl, rfl⟩ ?_
  rintro m s ⟨c, w, h1, l, lc, rfl, hc, hm, hw, f1, hid, e0, e1, e2, e3, e9, e10⟩
  by_cases hlt : (1 : Int) ≤ 255 - (c : Int)
  · have hwc : IntKind.i64.wrap (255 - (c : Int) - 1) = 255 - ((c + 1 : Nat) : Int) := by rw [wrap_i64 (by omega)]; omega
    simp (maxSteps := 200000) -implicitDefEqProofs only [KA, KB, KC, KD, KE, KF, eq_self, ne_eq, ↓reduceIte, Nat.reduceLT, Nat.reduceEqDiff, Nat.reduceAdd, Nat.reduceLeDiff, Nat.reduceSub, Nat.reduceMul, reduceCtorEq, e0, e1, e2, e3, e9, e10, hlt]
    refine rnear_ok (k := k) (hg.new f1) (by omega) fun v h2 hno f2 hvid => ?_
    rw [hRl.near, Int.toNat_natCast] at hno
    have hN : (nearL q n least nn).length ≤ nn := nearL_len q n least nn
    have hlen : ∀ h' : Hp, lenT h' .sl (.v (.c v)) = some ((nearL q n least nn).length : Int) := fun h' => by rw [hno.sl.len h', rI_len]
    simp (maxSteps := 200000) -implicitDefEqProofs only [KA, KB, KC, KD, KE, KF, eq_self, ne_eq, ↓reduceIte, Nat.reduceLT, Nat.reduceEqDiff, Nat.reduceAdd, Nat.reduceLeDiff, Nat.reduceSub, Nat.reduceMul, reduceCtorEq, hlen]
    refine loop_rd (callW_mono N _) (RqB h g r nn q least n f c v) (n := (nearL q n least nn).length) ⟨0, w, h2, _, _, rfl, by omega, by omega, by simpa using hw.mono f2 (fun _ _ e => e), f1.trans f2, hid, hno.sl, ?_, rfl, rfl, rfl, rfl, rfl, rfl, rfl, rfl, rfl⟩ ?_
    · intro j hj
      refine ⟨fun e => ?_, ?_⟩
      · have := hvid j hj
        have := hw.lt e
        omega
      · cases v <;> simp only [ownId] at hj
        subst hj
        exact SL.old hno.sl _ _ _ _ _ rfl
    clear hw f1 hid e0 e1 e2 e3 e9 e10 hno f2 hvid
    rintro m2 s ⟨i, w, h1, l, lc, rfl, hi, hm2, hw, f1, hid, hv, hne, e0, e1, e2, e3, e9, e10, e20, e21, e22⟩
    by_cases hlt2 : (i : Int) < ((nearL q n least nn).length : Int)
    · have hil : i < (nearL q n least nn).length := by omega
      obtain ⟨b, hb⟩ := some_at (L := nearL q n least nn) (i := i) hil
      have hbm : b ∈ nr q least nn n := List.mem_of_getElem? hb
      have hbr := (mem_nr.mp hbm).1
      have hrow : (rI (nearL q n least nn))[(i : Int).toNat]? = some [.int .i64 b] := by simp [rI, hb]
      obtain ⟨p1, p2, p3, a1, a2⟩ := hv.at (by omega) hrow
      have hwi := wrap_i64 (n := (i : Int) + 1) (by omega)
      have hts := take_snoc hb
      have hgg : h1.g r = _ := f1.some hT (fun h => h)
      have i1 := iaR (id := r) (i := b) (by omega) 0
      have i2 := iaR (id := r) (i := n) (by omega) 0
      have g1 := rt_r R V (a := b.toNat) (by omega)
      have g2 := rt_r R V (a := n.toNat) (by omega)
      have r1 := he b.toNat (by omega)
      have r2 := he n.toNat (by omega)
      rw [show ((b.toNat : Nat) : Int) = b by omega] at r1
      rw [show ((n.toNat : Nat) : Int) = n by omega, hf] at r2
      have r3 : R n.toNat = ((x + 1 : Nat) : Int) := r2
      rw [r3] at g2
      have hwx : IntKind.i64.wrap (((x + 1 : Nat) : Int) - 1) = (x : Int) := by rw [wrap_i64 (by omega)]; omega
      have hbel : below (f b) (f n) = decide (R b.toNat = (x : Int)) := by
        rw [r1, hf, Bool.eq_iff_iff, decide_eq_true_eq]
        cases hb : f b with
        | none => simp [below, enc]
        | some y => simp [below, enc]; omega
      have hwl : ∀ h' : Hp, lenT h' .sl (.v (.c w)) = some (((bestQ q least nn f n c ++ ((nearL q n least nn).take i).filter (cnd q f n c)).take 2).length : Int) := fun h' => by rw [hw.sl.len h', rI_len]
      generalize hA : bestQ q least nn f n c ++ ((nearL q n least nn).take i).filter (cnd q f n c) = A at hw hwl
      have hA' : bestQ q least nn f n c ++ ((nearL q n least nn).take (i + 1)).filter (cnd q f n c) = A ++ (if cnd q f n c b = true then [b] else []) := by
        rw [hts, List.filter_append, ← List.append_assoc, hA]
        congr 1
        by_cases e : cnd q f n c b = true <;> simp [e]
      have key : ∀ (l : List (Nat × TV)) (lc : List (List CV)), cnd q f n c b = false → lk l 0 = .v (.c (.ptr g 0 0 0)) → lk l 1 = .v (.c (.ptr r 0 0 0)) → lk l 2 = .v (.c (.int .i64 n)) → lk l 3 = .v (.c (.int .i64 least)) → lk l 9 = .v (.c w) → lk l 10 = .v (.c (.int .i64 (255 - (c : Int)))) →
          lk l 20 = .v (.c v) → lk l 21 = .v (.c (.int .i64 (nearL q n least nn).length)) → lk l 22 = .v (.c (.int .i64 ((i : Int) + 1))) → ∃ m, m < m2 ∧ RqB h g r nn q least n f c v m (ST 59 l lc h1) := by
        intro l lc hcn k0 k1 k2 k3 k9 k10 k20 k21 k22
        refine ⟨m2 - 1, by omega, i + 1, w, h1, l, lc, rfl, by omega, by omega, ?_, f1, hid, hv, hne, k0, k1, k2, k3, k9, k10, k20, k21, k22⟩
        rw [hA', hcn, if_neg (by simp), List.append_nil]
        exact hw
      by_cases c1 : R b.toNat = (x : Int)
      · have d1 : decide (R b.toNat = (x : Int)) = true := decide_eq_true c1
        simp (maxSteps := 200000) -implicitDefEqProofs only [KA, KB, KC, KD, KE, KF, eq_self, ne_eq, ↓reduceIte, Nat.reduceLT, Nat.reduceEqDiff, Nat.reduceAdd, Nat.reduceLeDiff, Nat.reduceSub, Nat.reduceMul, reduceCtorEq, e0, e1, e2, e3, e9, e10, e20, e21, e22, hlt2, a1, a2, hgg, i1, i2, g1, g2, hwx, d1]
        refine rqual_ok (k := k + 1) (hg.new f1) (by omega) ?_
        rw [hRl.qual]
        by_cases c2 : qual q n b = 255 - (c : Int)
        · have d2 : decide (qual q n b = 255 - (c : Int)) = true := decide_eq_true c2
          have hcn : cnd q f n c b = true := by unfold cnd; rw [d2, hbel, d1]; rfl
          rw [hcn, if_pos rfl] at hA'
          by_cases c3 : ((A.take 2).length : Int) < 2
          · obtain ⟨w', h2, q1, q2, q3, q4⟩ := hw.app (lc := [[.int .i64 b]]) (x := .lsl 0 1) (xs := [[.int .i64 b]]) rfl (by simp) (bytes := 8) (by
              rw [rI_len]
              simp only [room, List.length_singleton]
              omega)
            simp (maxSteps := 200000) -implicitDefEqProofs only [KA, KB, KC, KD, KE, KF, eq_self, ne_eq, ↓reduceIte, Nat.reduceLT, Nat.reduceEqDiff, Nat.reduceAdd, Nat.reduceLeDiff, Nat.reduceSub, Nat.reduceMul, reduceCtorEq, d2, hwl, c3, q1, hwi, rd_n]
            refine ⟨m2 - 1, by omega, i + 1, w', h2, _, _, rfl, by omega, by omega, ?_, f1.fresh q3 hid, (fun j hj => (q4 j hj).elim (hid j) (fun e => by have := f1.n; omega)), hv.mono q3 ?_, ?_, rfl, rfl, rfl, rfl, rfl, rfl, rfl, rfl, rfl⟩
            · rw [hA', take_two (by omega)]
              simpa [rI] using q2
            · rintro id tok off len cap rfl e
              exact (hne id rfl).1 e
            · intro j hj
              refine ⟨fun e => ?_, by have := (hne j hj).2; have := q3.n; omega⟩
              rcases q4 j e with e | e
              · exact (hne j hj).1 e
              · have := (hne j hj).2; omega
          · simp (maxSteps := 200000) -implicitDefEqProofs only [KA, KB, KC, KD, KE, KF, eq_self, ne_eq, ↓reduceIte, Nat.reduceLT, Nat.reduceEqDiff, Nat.reduceAdd, Nat.reduceLeDiff, Nat.reduceSub, Nat.reduceMul, reduceCtorEq, d2, hwl, c3, hwi, rd_n]
            refine ⟨m2 - 1, by omega, i + 1, w, h1, _, _, rfl, by omega, by omega, ?_, f1, hid, hv, hne, rfl, rfl, rfl, rfl, rfl, rfl, rfl, rfl, rfl⟩
            rw [hA', take_two' (by omega)]
            exact hw
        · simp (maxSteps := 200000) -implicitDefEqProofs only [KA, KB, KC, KD, KE, KF, eq_self, ne_eq, ↓reduceIte, Nat.reduceLT, Nat.reduceEqDiff, Nat.reduceAdd, Nat.reduceLeDiff, Nat.reduceSub, Nat.reduceMul, reduceCtorEq, c2, hwi, rd_n]
          exact key _ _ (by unfold cnd; rw [decide_eq_false c2]; rfl) rfl rfl rfl rfl rfl rfl rfl rfl rfl
      · simp (maxSteps := 200000) -implicitDefEqProofs only [KA, KB, KC, KD, KE, KF, eq_self, ne_eq, ↓reduceIte, Nat.reduceLT, Nat.reduceEqDiff, Nat.reduceAdd, Nat.reduceLeDiff, Nat.reduceSub, Nat.reduceMul, reduceCtorEq, e0, e1, e2, e3, e9, e10, e20, e21, e22, hlt2, a1, a2, hgg, i1, i2, g1, g2, hwx, c1, hwi, rd_n]
        exact key _ _ (by unfold cnd; rw [hbel, decide_eq_false c1, Bool.and_false]) rfl rfl rfl rfl rfl rfl rfl rfl rfl
    · have : i = (nearL q n least nn).length := by omega
      subst this
      rw [List.take_length, ← bestQ_near] at hw
      simp (maxSteps := 200000) -implicitDefEqProofs only [KA, KB, KC, KD, KE, KF, eq_self, ne_eq, ↓reduceIte, Nat.reduceLT, Nat.reduceEqDiff, Nat.reduceAdd, Nat.reduceLeDiff, Nat.reduceSub, Nat.reduceMul, reduceCtorEq, e0, e1, e2, e3, e9, e10, e20, e21, e22, hlt2, hwc, rd_n]
      exact ⟨m - 1, by omega, c + 1, w, h1, _, _, rfl, by omega, by omega, hw, f1, hid, rfl, rfl, rfl, rfl, rfl, rfl⟩
  · have : c = 255 := by omega
    subst this
    simp (maxSteps := 200000) -implicitDefEqProofs only [KA, KB, KC, KD, KE, KF, eq_self, ne_eq, ↓reduceIte, Nat.reduceLT, Nat.reduceEqDiff, Nat.reduceAdd, Nat.reduceLeDiff, Nat.reduceSub, Nat.reduceMul, reduceCtorEq, e0, e1, e2, e3, e9, e10, hlt]
    exact hP _ _ hw.sl f1
end
end Camp

/-! CvTrZc -/
namespace Camp
open Go
set_option linter.unusedVariables false
set_option linter.unusedSimpArgs false
set_option maxHeartbeats 2000000
section
variable {k g : Nat} {nn : Nat} {q : Int → Int → Option Int} {Q : Nat → Nat → Int} {least : Int} {h : Hp} {P : AV → Hp → Prop}
def RbL (g r nn : Nat) (least : Int) (l : List (Nat × TV)) : Prop :=
  lk l 0 = .v (.c (.ptr g 0 0 0)) ∧ lk l 1 = .v (.c (.int .i64 least)) ∧ lk l 5 = .v (.c (.ptr r 0 0 0))
def nl : Nat → CV := fun _ => .nils
def RbZ (h : Hp) (g r nn : Nat) (least : Int) (m : Nat) (s : St) : Prop :=
  ∃ (i : Nat) (h' : Hp) (l : List (Nat × TV)) (lc : List (List CV)), s = ST 101 l lc h' ∧ i ≤ 16 ∧ m = 16 - i ∧ RTr h' r (fun b => if b < i then -1 else 0) nl ∧ Fn h h' ∧ RbL g r nn least l ∧ lk l 14 = .v (.c (.int .i64 i))
def RbA (h : Hp) (g r nn : Nat) (q : Int → Int → Option Int) (least : Int) (m : Nat) (s : St) : Prop :=
  ∃ (d : Nat) (h' : Hp) (l : List (Nat × TV)) (lc : List (List CV)), s = ST 101 l lc h' ∧ d ≤ nn ∧ m = nn - d ∧ RTr h' r (fun b => enc (dn q least nn d b)) nl ∧ Fn h h' ∧ RbL g r nn least l ∧ lk l 30 = .v (.c (.int .i64 nn)) ∧ lk l 31 = .v (.c (.int .i64 d))
def lvb (q : Int → Int → Option Int) (least : Int) (nn d i : Nat) : List Int := (lv q least nn d).filter fun a => decide (a < i)
def RbB (h : Hp) (g r nn : Nat) (q : Int → Int → Option Int) (least : Int) (d : Nat) (m : Nat) (s : St) : Prop :=
  ∃ (i : Nat) (X : List Int) (h' : Hp) (l : List (Nat × TV)) (lc : List (List CV)), s = ST 101 l lc h' ∧ i ≤ nn ∧ m = nn - i ∧ Nxt q least nn d (lvb q least nn d i) X ∧ RTr h' r (fun b => enc (fX q least nn d X b)) nl ∧ Fn h h' ∧ RbL g r nn least l ∧
    lk l 7 = .v (.c (.int .i64 d)) ∧ lk l 30 = .v (.c (.int .i64 nn)) ∧ lk l 31 = .v (.c (.int .i64 d)) ∧ lk l 37 = .v (.c (.int .i64 nn)) ∧ lk l 38 = .v (.c (.int .i64 i))
def RbC (h : Hp) (g r nn : Nat) (q : Int → Int → Option Int) (least : Int) (d i : Nat) (v : CV) (m : Nat) (s : St) : Prop :=
  ∃ (j : Nat) (X : List Int) (h' : Hp) (l : List (Nat × TV)) (lc : List (List CV)), s = ST 101 l lc h' ∧ j ≤ (nr q least nn i).length ∧ m = (nr q least nn i).length - j ∧ Nxt q least nn d (lvb q least nn d i) X ∧ (∀ b ∈ (nr q least nn i).take j, dn q least nn d b ≠ none ∨ b ∈ X) ∧ RTr h' r (fun b => enc (fX q least nn d X b)) nl ∧ Fn h h' ∧ SL h' 1 v (rI (nr q least nn i)) ∧ RbL g r nn least l ∧
    lk l 7 = .v (.c (.int .i64 d)) ∧ lk l 30 = .v (.c (.int .i64 nn)) ∧ lk l 31 = .v (.c (.int .i64 d)) ∧ lk l 37 = .v (.c (.int .i64 nn)) ∧ lk l 38 = .v (.c (.int .i64 i)) ∧ lk l 52 = .v (.c v) ∧ lk l 53 = .v (.c (.int .i64 (nr q least nn i).length)) ∧ lk l 54 = .v (.c (.int .i64 j))
def RbD (h : Hp) (g r nn : Nat) (least : Int) (R : Nat → Int) (par : Int → List Int) (m : Nat) (s : St) : Prop :=
  ∃ (i : Nat) (V : Nat → CV) (h' : Hp) (l : List (Nat × TV)) (lc : List (List CV)), s = ST 101 l lc h' ∧ i ≤ nn ∧ m = nn - i ∧ RTr h' r R V ∧ (∀ b : Nat, b < 16 → SL h' 1 (V b) (rI (if b < i then par b else []))) ∧ Fn h h' ∧ RbL g r nn least l ∧
    lk l 78 = .v (.c (.int .i64 nn)) ∧ lk l 79 = .v (.c (.int .i64 i))
theorem SL.notR {h : Hp} {r : Nat} {R : Nat → Int} {V : Nat → CV} {v : CV} {rows : List (List CV)} (k : SL h 1 v rows) (hr : RTr h r R V) : ∀ id tok off len cap, v = .sl id tok off len cap → ¬ id = r := by
  rintro id tok off len cap rfl rfl
  obtain ⟨wr, cur, lw, rs, h1, _⟩ := k
  have hr : h.g id = _ := hr
  rw [h1] at hr
  simp at hr
theorem lvb_succ_in {d i : Nat} {a : Int} (h : a ∈ lvb q least nn d (i + 1)) : a ∈ lvb q least nn d i ∨ a = i := by
  unfold lvb at h ⊢
  rw [List.mem_filter, decide_eq_true_eq] at h ⊢
  rcases Int.lt_or_le a i with k | k
  · exact .inl ⟨h.1, k⟩
  · exact .inr (by omega)
theorem fX_self (hn : 1 ≤ nn) {d : Nat} {X : List Int} {i : Int} (h : enc (fX q least nn d X i) = (d : Int)) : i ∈ lv q least nn d := by
  rw [mem_lv hn]
  unfold fX at h
  cases hd : dn q least nn d i with
  | some r =>
    rw [hd] at h
    simp only [enc] at h
    congr 1
    omega
  | none =>
    rw [hd] at h
    simp only at h
    split at h
    · simp only [enc] at h; omega
    · simp only [enc] at h; omega
set_option maxRecDepth 100000 in
theorem rbuild_ok (hg : RG h g nn Q) (hRl : Rl nn q Q) (hnn : 1 ≤ nn ∧ nn ≤ 16) (H : Falls q least nn (rk q least nn) (fol q least nn (rk q least nn)))
    (hP : ∀ h' r R V, RTf h' r (rk q least nn) (fol q least nn (rk q least nn)) R V → Fn h h' → P (.c (.ptr r 0 0 0)) h') : callW N (k + 6) 237 [.c (.ptr g 0 0 0), .c (.int .i64 least)] h P := by
  have hgg : h.g g = _ := hg
  obtain ⟨r, hr⟩ : ∃ r, r = h.n := ⟨_, rfl⟩
  refine call_intro rfl (by simp only [List.length_cons, List.length_nil]; omega) ?_
  simp (maxSteps := 200000) -implicitDefEqProofs only [KA, KB, KC, KD, KE, KF, eq_self, ne_eq, ↓reduceIte, Nat.reduceLT, Nat.reduceEqDiff, Nat.reduceAdd, Nat.reduceLeDiff, Nat.reduceSub, Nat.reduceMul, reduceCtorEq]
  refine loop_rd (callW_mono N _) (RbZ h g r nn least) (n := 16) ⟨0, _, _, _, rfl, by omega, rfl, by unfold RTr; rw [hr, g_push_eq]; rfl, Fm.push _ _ _, ⟨rfl, rfl, by rw [hr]; rfl⟩, rfl⟩ ?_
  rintro m s ⟨i, h1, l, lc, rfl, hi, hm, hT, f1, ⟨e0, e1, e5⟩, e14⟩
  have hgT : h1.g r = _ := hT
  by_cases hlt : (i : Int) < 16
  · have i1 := iaR (id := r) (i := (i : Int)) (by omega) 0
    have hwi := wrap_i64 (n := (i : Int) + 1) (by omega)
    have st := rt_set (R := fun b => if b < i then -1 else 0) (R' := fun b => if b < i + 1 then -1 else 0) (V := nl) (V' := nl) (i := (i : Int).toNat * 1) (x := .int .i64 (-1)) (by omega) (by rw [if_pos (by omega), if_pos (by omega)]) (fun j hj hji => by
      by_cases e : j < i
      · rw [if_pos e, if_pos (by omega)]
      · rw [if_neg e, if_neg (by omega)]) (fun j _ _ => rfl)
    have hln := rt_len (fun b => if b < i then -1 else 0) nl
    simp (maxSteps := 200000) -implicitDefEqProofs only [KA, KB, KC, KD, KE, KF, eq_self, ne_eq, ↓reduceIte, Nat.reduceLT, Nat.reduceEqDiff, Nat.reduceAdd, Nat.reduceLeDiff, Nat.reduceSub, Nat.reduceMul, reduceCtorEq, e0, e1, e5, e14, hlt, hgT, i1, hwi, rd_n, hln, st]
    refine ⟨by omega, m - 1, by omega, i + 1, _, _, _, rfl, by omega, by omega, RTr.put hT rfl, f1.fresh (Fm.put (S := fun j => j = r) _ _ rfl) (fun j hj => by omega), ⟨rfl, rfl, rfl⟩, rfl⟩
  · have : i = 16 := by omega
    subst this
    have i1 := iaR (id := r) (i := (0 : Int)) (by omega) 0
    have st := rt_set (R := fun b => if b < 16 then -1 else 0) (R' := fun b => enc (dn q least nn 0 b)) (V := nl) (V' := nl) (i := (0 : Int).toNat * 1) (x := .int .i64 0) (by decide) (by rw [if_pos (by decide)]; rfl) (fun j hj hji => by
      have : ¬ ((j : Int) = 0) := fun e => hji (by omega)
      simp only [dn, if_pos hj, if_neg this]
      rfl) (fun j _ _ => rfl)
    have hln := rt_len (fun b => if b < 16 then -1 else 0) nl
    obtain ⟨h2, hh2⟩ : ∃ h2, h2 = h1.put r (.rows true 32 0 0 [rt (fun b => enc (dn q least nn 0 b)) nl]) := ⟨_, rfl⟩
    have hT2 : RTr h2 r (fun b => enc (dn q least nn 0 b)) nl := by rw [hh2]; exact RTr.put hT rfl
    have f2 : Fn h h2 := by rw [hh2]; exact f1.fresh (Fm.put (S := fun j => j = r) _ _ rfl) (fun j hj => by omega)
    have hfold := hh2.symm
    have hg2 : h2.g g = _ := (hg.new f2)
    simp (maxSteps := 200000) -implicitDefEqProofs only [KA, KB, KC, KD, KE, KF, eq_self, ne_eq, ↓reduceIte, Nat.reduceLT, Nat.reduceEqDiff, Nat.reduceAdd, Nat.reduceLeDiff, Nat.reduceSub, Nat.reduceMul, reduceCtorEq, e0, e1, e5, e14, hlt, hgT, i1, hln, st, hfold, hg2]
    refine ⟨by decide, ?_⟩
    refine loop_rd (callW_mono N _) (RbA h g r nn q least) (n := nn) ⟨0, h2, _, _, rfl, by omega, rfl, hT2, f2, ⟨rfl, rfl, rfl⟩, rfl, rfl⟩ ?_
    clear hT2 f2 hfold hg2 hh2 hgT hT f1 e0 e1 e5 e14 i1 st hlt
    rintro m1 s ⟨d, h1, l, lc, rfl, hd, hm1, hT, f1, ⟨e0, e1, e5⟩, e30, e31⟩
    have hgg1 : h1.g g = _ := hg.new f1
    by_cases hlt : (d : Int) < (nn : Int)
    · have hwd := wrap_i64 (n := (d : Int) + 1) (by omega)
      simp (maxSteps := 200000) -implicitDefEqProofs only [KA, KB, KC, KD, KE, KF, eq_self, ne_eq, ↓reduceIte, Nat.reduceLT, Nat.reduceEqDiff, Nat.reduceAdd, Nat.reduceLeDiff, Nat.reduceSub, Nat.reduceMul, reduceCtorEq, e0, e1, e5, e30, e31, hlt, hgg1]
      refine loop_rd (callW_mono N _) (RbB h g r nn q least d) (n := nn) ⟨0, [], h1, _, _, rfl, by omega, rfl, ⟨by simp, by simp, fun a ha => ?_⟩, by rw [fX_nil]; exact hT, f1, ⟨rfl, rfl, rfl⟩, rfl, rfl, rfl, rfl, rfl⟩ ?_
      · unfold lvb at ha
        rw [List.mem_filter, decide_eq_true_eq] at ha
        have := (dn_range hnn.1 ((mem_lv hnn.1).mp ha.1)).1
        omega
      clear hT f1 e0 e1 e5 e30 e31 hgg1
      rintro m2 s ⟨i, X, h1, l, lc, rfl, hi, hm2, hX, hT, f1, ⟨e0, e1, e5⟩, e7, e30, e31, e37, e38⟩
      have hgT : h1.g r = _ := hT
      by_cases hlt2 : (i : Int) < (nn : Int)
      · have hwi := wrap_i64 (n := (i : Int) + 1) (by omega)
        have i1 := iaR (id := r) (i := (i : Int)) (by omega) 0
        have g1 : (rt (fun b => enc (fX q least nn d X b)) nl)[(i : Int).toNat * 1]? = some (.int .i64 (enc (fX q least nn d X i))) := rt_r (fun b => enc (fX q least nn d X b)) nl (a := (i : Int).toNat) (by omega)
        by_cases c : (i : Int) ∈ lv q least nn d
        · have hfi : enc (fX q least nn d X i) = (d : Int) := by rw [fX_at hnn.1 c]; rfl
          have hd1 : decide ((d : Int) = d) = true := by simp
          rw [hfi] at g1
          simp (maxSteps := 200000) -implicitDefEqProofs only [KA, KB, KC, KD, KE, KF, eq_self, ne_eq, ↓reduceIte, Nat.reduceLT, Nat.reduceEqDiff, Nat.reduceAdd, Nat.reduceLeDiff, Nat.reduceSub, Nat.reduceMul, reduceCtorEq, e0, e1, e5, e7, e30, e31, e37, e38, hlt2, hgT, i1, g1, hd1]
          refine rnear_ok (k := k + 2) (hg.new f1) (by omega) fun v h2 hno f2 hvid => ?_
          rw [hRl.near, Int.toNat_natCast] at hno
          have hN : (nr q least nn i).length ≤ nn := nearL_len q i least nn
          have hlen : ∀ h' : Hp, lenT h' .sl (.v (.c v)) = some ((nr q least nn i).length : Int) := fun h' => by rw [hno.sl.len h', rI_len]
          simp (maxSteps := 200000) -implicitDefEqProofs only [KA, KB, KC, KD, KE, KF, eq_self, ne_eq, ↓reduceIte, Nat.reduceLT, Nat.reduceEqDiff, Nat.reduceAdd, Nat.reduceLeDiff, Nat.reduceSub, Nat.reduceMul, reduceCtorEq, hlen]
          refine loop_rd (callW_mono N _) (RbC h g r nn q least d i v) (n := (nr q least nn i).length) ⟨0, X, h2, _, _, rfl, by omega, by omega, hX, by simp, f2.some hT (fun h => h), f1.trans f2, hno.sl, ⟨rfl, rfl, rfl⟩, rfl, rfl, rfl, rfl, rfl, rfl, rfl, rfl⟩ ?_
          clear hX hT hgT f1 e0 e1 e5 e7 e30 e31 e37 e38 g1 i1 hno f2 hfi
          rintro m3 s ⟨j, X, h1, l, lc, rfl, hj, hm3, hX, hXj, hT, f1, hv, ⟨e0, e1, e5⟩, e7, e30, e31, e37, e38, e52, e53, e54⟩
          have hgT : h1.g r = _ := hT
          by_cases hlt3 : (j : Int) < ((nr q least nn i).length : Int)
          · have hjl : j < (nr q least nn i).length := by omega
            obtain ⟨b, hb⟩ := some_at (L := nr q least nn i) (i := j) hjl
            have hbm : b ∈ nr q least nn i := List.mem_of_getElem? hb
            have hbr := (mem_nr.mp hbm).1
            have hrow : (rI (nr q least nn i))[(j : Int).toNat]? = some [.int .i64 b] := by simp [rI, hb]
            obtain ⟨p1, p2, p3, a1, a2⟩ := hv.at (by omega) hrow
            have hwj := wrap_i64 (n := (j : Int) + 1) (by omega)
            have hts := take_snoc hb
            have i1 := iaR (id := r) (i := b) (by omega) 0
            have hbb : ((b.toNat : Nat) : Int) = b := by omega
            have g1 := rt_r (fun b => enc (fX q least nn d X b)) nl (a := b.toNat) (by omega)
            simp only [hbb] at g1
            cases hf : fX q least nn d X b with
            | some y =>
              rw [hf] at g1
              have hl : ¬ enc (some y) < 0 := by simp only [enc]; omega
              simp (maxSteps := 200000) -implicitDefEqProofs only [KA, KB, KC, KD, KE, KF, eq_self, ne_eq, ↓reduceIte, Nat.reduceLT, Nat.reduceEqDiff, Nat.reduceAdd, Nat.reduceLeDiff, Nat.reduceSub, Nat.reduceMul, reduceCtorEq, e0, e1, e5, e7, e30, e31, e37, e38, e52, e53, e54, hlt3, a1, a2, hgT, i1, g1, hl, hwj, rd_n]
              refine ⟨m3 - 1, by omega, j + 1, X, h1, _, _, rfl, by omega, by omega, hX, ?_, hT, f1, hv, ⟨rfl, rfl, rfl⟩, rfl, rfl, rfl, rfl, rfl, rfl, rfl, rfl⟩
              intro z hz
              rw [hts] at hz
              rcases List.mem_append.mp hz with hz | hz
              · exact hXj z hz
              · have hz := List.mem_singleton.mp hz
                subst hz
                exact hX.skip (a := z) (by rw [hf]; simp)
            | none =>
              rw [hf] at g1
              have hl : enc none < 0 := by decide
              have st := rt_set (R := fun b => enc (fX q least nn d X b)) (R' := fun y => enc (fX q least nn d (X ++ [b]) y)) (V := nl) (V' := nl) (i := b.toNat * 1) (x := .int .i64 ((d : Int) + 1)) (by omega) (by
                rw [if_pos (by omega), Nat.mul_one, hbb, fX_add hf]
                show _ = CV.int .i64 (enc (if b = b then _ else _))
                rw [if_pos rfl]
                rfl) (fun y hy hne => by
                rw [fX_add hf]
                simp only
                rw [if_neg (by omega)]) (fun _ _ _ => rfl)
              have hln := rt_len (fun b => enc (fX q least nn d X b)) nl
              simp (maxSteps := 200000) -implicitDefEqProofs only [KA, KB, KC, KD, KE, KF, eq_self, ne_eq, ↓reduceIte, Nat.reduceLT, Nat.reduceEqDiff, Nat.reduceAdd, Nat.reduceLeDiff, Nat.reduceSub, Nat.reduceMul, reduceCtorEq, e0, e1, e5, e7, e30, e31, e37, e38, e52, e53, e54, hlt3, a1, a2, hgT, i1, g1, hl, hwj, hwd, rd_n, st, hln]
              refine ⟨by omega, m3 - 1, by omega, j + 1, X ++ [b], _, _, _, rfl, by omega, by omega, hX.add hf c hbm, ?_, RTr.put hT rfl, f1.fresh (Fm.put (S := fun j => j = r) _ _ rfl) (fun j hj => by omega), hv.mono (Fm.put (S := fun j => j = r) _ _ rfl) (hv.notR hT), ⟨rfl, rfl, rfl⟩, rfl, rfl, rfl, rfl, rfl, rfl, rfl, rfl⟩
              intro z hz
              rw [hts] at hz
              rcases List.mem_append.mp hz with hz | hz
              · exact (hXj z hz).imp_right fun e => List.mem_append.mpr (.inl e)
              · have hz := List.mem_singleton.mp hz
                subst hz
                exact .inr (by simp)
          · have : j = (nr q least nn i).length := by omega
            subst this
            rw [List.take_length] at hXj
            simp (maxSteps := 200000) -implicitDefEqProofs only [KA, KB, KC, KD, KE, KF, eq_self, ne_eq, ↓reduceIte, Nat.reduceLT, Nat.reduceEqDiff, Nat.reduceAdd, Nat.reduceLeDiff, Nat.reduceSub, Nat.reduceMul, reduceCtorEq, e0, e1, e5, e7, e30, e31, e37, e38, e52, e53, e54, hlt3, hwi, rd_n]
            refine ⟨m2 - 1, by omega, i + 1, X, h1, _, _, rfl, by omega, by omega, ⟨hX.nd, hX.mem, fun a ha b hb => ?_⟩, hT, f1, ⟨rfl, rfl, rfl⟩, rfl, rfl, rfl, rfl, rfl⟩
            rcases lvb_succ_in ha with ha | ha
            · exact hX.cov a ha b hb
            · subst ha
              exact hXj b hb
        · have hfi : ¬ enc (fX q least nn d X i) = (d : Int) := fun e => c (fX_self hnn.1 e)
          simp (maxSteps := 200000) -implicitDefEqProofs only [KA, KB, KC, KD, KE, KF, eq_self, ne_eq, ↓reduceIte, Nat.reduceLT, Nat.reduceEqDiff, Nat.reduceAdd, Nat.reduceLeDiff, Nat.reduceSub, Nat.reduceMul, reduceCtorEq, e0, e1, e5, e7, e30, e31, e37, e38, hlt2, hgT, i1, g1, hfi, hwi, rd_n]
          refine ⟨m2 - 1, by omega, i + 1, X, h1, _, _, rfl, by omega, by omega, ⟨hX.nd, hX.mem, fun a ha b hb => ?_⟩, hT, f1, ⟨rfl, rfl, rfl⟩, rfl, rfl, rfl, rfl, rfl⟩
          rcases lvb_succ_in ha with ha | ha
          · exact hX.cov a ha b hb
          · subst ha
            unfold lvb at *
            exact absurd (List.mem_filter.mp (by assumption)).1 c
      · have : i = nn := by omega
        subst this
        have hX' : Nxt q least i d (lv q least i d) X := ⟨hX.nd, hX.mem, fun a ha b hb => hX.cov a (by
          unfold lvb
          rw [List.mem_filter, decide_eq_true_eq]
          exact ⟨ha, (dn_range hnn.1 ((mem_lv hnn.1).mp ha)).2⟩) b hb⟩
        rw [(hX'.done hnn.1).2] at hT
        simp (maxSteps := 200000) -implicitDefEqProofs only [KA, KB, KC, KD, KE, KF, eq_self, ne_eq, ↓reduceIte, Nat.reduceLT, Nat.reduceEqDiff, Nat.reduceAdd, Nat.reduceLeDiff, Nat.reduceSub, Nat.reduceMul, reduceCtorEq, e0, e1, e5, e7, e30, e31, e37, e38, hlt2, hwd, rd_n]
        exact ⟨m1 - 1, by omega, d + 1, h1, _, _, rfl, by omega, by omega, hT, f1, ⟨rfl, rfl, rfl⟩, rfl, rfl⟩
    · have : d = nn := by omega
      subst this
      simp (maxSteps := 200000) -implicitDefEqProofs only [KA, KB, KC, KD, KE, KF, eq_self, ne_eq, ↓reduceIte, Nat.reduceLT, Nat.reduceEqDiff, Nat.reduceAdd, Nat.reduceLeDiff, Nat.reduceSub, Nat.reduceMul, reduceCtorEq, e0, e1, e5, e30, e31, hlt, hgg1]
      generalize hf : rk q least d = f at hP H
      generalize hpar : fol q least d f = par at hP H
      have hfe : dn q least d d = f := hf
      rw [hfe] at hT
      have hRl' := hRl.qle
      refine loop_rd (callW_mono N _) (RbD h g r d least (fun b => enc (f b)) par) (n := d) ⟨0, nl, h1, _, _, rfl, by omega, rfl, hT, fun b _ => by rw [if_neg (by omega)]; rfl, f1, ⟨rfl, rfl, rfl⟩, rfl, rfl⟩ ?_
      clear hT f1 e0 e1 e5 e30 e31 hgg1
      rintro m2 s ⟨i, V, h1, l, lc, rfl, hi, hm2, hT, hV, f1, ⟨e0, e1, e5⟩, e78, e79⟩
      have hgT : h1.g r = _ := hT
      by_cases hlt2 : (i : Int) < (d : Int)
      · have hwi := wrap_i64 (n := (i : Int) + 1) (by omega)
        have i1 := iaR (id := r) (i := (i : Int)) (by omega) 0
        have i2 := iaR (id := r) (i := (i : Int)) (by omega) 16
        have g1 : (rt (fun b => enc (f b)) V)[(i : Int).toNat * 1]? = some (.int .i64 (enc (f i))) := rt_r (fun b => enc (f b)) V (a := (i : Int).toNat) (by omega)
        have hstep : ∀ b : Nat, b ≠ i → (if b < i + 1 then par b else []) = if b < i then par b else [] := fun b hb => by
          by_cases e : b < i
          · rw [if_pos e, if_pos (by omega)]
          · rw [if_neg e, if_neg (by omega)]
        by_cases c : 0 < enc (f i)
        · obtain ⟨x, hx⟩ : ∃ x, f i = some (x + 1) := by
            cases hfi : f i with
            | none => rw [hfi] at c; simp [enc] at c
            | some y =>
              cases y with
              | zero => rw [hfi] at c; simp [enc] at c
              | succ y => exact ⟨y, rfl⟩
          have hxr := (H.range _ _ hx).2
          simp (maxSteps := 200000) -implicitDefEqProofs only [KA, KB, KC, KD, KE, KF, eq_self, ne_eq, ↓reduceIte, Nat.reduceLT, Nat.reduceEqDiff, Nat.reduceAdd, Nat.reduceLeDiff, Nat.reduceSub, Nat.reduceMul, reduceCtorEq, e0, e1, e5, e78, e79, hlt2, hgT, i1, g1, c]
          refine rpar_ok (k := k + 1) (q := q) (f := f) (hg.new f1) hRl hnn.2 hT (fun b _ => rfl) ⟨by omega, by omega⟩ hx (by omega) fun h2 v hv f2 => ?_
          rw [hpar] at hv
          have hT2 : RTr h2 r _ V := f2.some hT (fun h => h)
          have hgT2 : h2.g r = _ := hT2
          have st := rt_set (R := fun b => enc (f b)) (R' := fun b => enc (f b)) (V := V) (V' := fun b => if b = i then v else V b) (i := 16 + (i : Int).toNat * 1) (x := v) (by omega) (by
            rw [if_neg (by omega), if_pos (by omega)]) (fun _ _ _ => rfl) (fun b _ hb => if_neg (by omega))
          have hln := rt_len (fun b => enc (f b)) V
          simp (maxSteps := 200000) -implicitDefEqProofs only [KA, KB, KC, KD, KE, KF, eq_self, ne_eq, ↓reduceIte, Nat.reduceLT, Nat.reduceEqDiff, Nat.reduceAdd, Nat.reduceLeDiff, Nat.reduceSub, Nat.reduceMul, reduceCtorEq, hgT2, i2, hwi, rd_n, st, hln]
          refine ⟨by omega, m2 - 1, by omega, i + 1, _, _, _, _, rfl, by omega, by omega, RTr.put hT2 rfl, fun b hb => ?_, (f1.trans f2).fresh (Fm.put (S := fun j => j = r) _ _ rfl) (fun j hj => by omega), ⟨rfl, rfl, rfl⟩, rfl, rfl⟩
          by_cases e : b = i
          · subst e
            rw [if_pos rfl, if_pos (by omega)]
            exact hv.mono (Fm.put (S := fun j => j = r) _ _ rfl) (hv.notR hT2)
          · rw [if_neg e, hstep b e]
            have hVb := (hV b hb).new f2
            exact hVb.mono (Fm.put (S := fun j => j = r) _ _ rfl) (hVb.notR hT2)
        · have hpn : par i = [] := by
            cases hfi : f i with
            | none => exact H.nil _ hfi
            | some y =>
              cases y with
              | zero => rw [H.zero _ hfi]; exact H.rootp
              | succ y => rw [hfi] at c; simp only [enc] at c; omega
          simp (maxSteps := 200000) -implicitDefEqProofs only [KA, KB, KC, KD, KE, KF, eq_self, ne_eq, ↓reduceIte, Nat.reduceLT, Nat.reduceEqDiff, Nat.reduceAdd, Nat.reduceLeDiff, Nat.reduceSub, Nat.reduceMul, reduceCtorEq, e0, e1, e5, e78, e79, hlt2, hgT, i1, g1, c, hwi, rd_n]
          refine ⟨m2 - 1, by omega, i + 1, V, h1, _, _, rfl, by omega, by omega, hT, fun b hb => ?_, f1, ⟨rfl, rfl, rfl⟩, rfl, rfl⟩
          by_cases e : b = i
          · subst e
            have := hV b hb
            rw [if_neg (by omega)] at this
            rw [if_pos (by omega), hpn]
            exact this
          · rw [hstep b e]
            exact hV b hb
      · have : i = d := by omega
        subst this
        simp (maxSteps := 200000) -implicitDefEqProofs only [KA, KB, KC, KD, KE, KF, eq_self, ne_eq, ↓reduceIte, Nat.reduceLT, Nat.reduceEqDiff, Nat.reduceAdd, Nat.reduceLeDiff, Nat.reduceSub, Nat.reduceMul, reduceCtorEq, e0, e1, e5, e78, e79, hlt2]
        refine hP h1 r _ V ⟨hT, fun b _ => rfl, fun b hb => ?_⟩ f1
        have := hV b hb
        by_cases e : b < i
        · rwa [if_pos e] at this
        · rw [if_neg e] at this
          have hpn : par b = [] := by
            cases hfb : f b with
            | none => exact H.nil _ hfb
            | some y => have := (H.range _ _ hfb).1; omega
          rw [hpn]
          exact this
end
end Camp

/-! CvTrZ -/
namespace Camp
open Go
set_option linter.unusedVariables false
set_option linter.unusedSimpArgs false
set_option maxHeartbeats 2000000
section
variable {k : Nat} {nn : Nat} {q : Int → Int → Option Int} {least : Int} {h : Hp} {P : AV → Hp → Prop}
theorem oL_ord (hn : 1 ≤ nn ∧ nn ≤ 16) {R : Nat → Int} (he : ∀ b : Nat, b < 16 → R b = enc (rk q least nn b)) : oL R 16 = ordL q least nn nn := by
  have key : ∀ d, oL R d = ordL q least nn d := by
    intro d
    induction d with
    | zero => rfl
    | succ d ih =>
      rw [oL, ordL_succ, ih]
      congr 1
      refine asc_eq (upto_asc _ _) (lv_asc d) fun x => ?_
      rw [mem_upto, decide_eq_true_eq, ← rk_lv hn.1]
      constructor
      · rintro ⟨h1, h2, h3⟩
        rw [he _ (by omega), show ((x.toNat : Nat) : Int) = x by omega] at h3
        cases hf : rk q least nn x with
        | none => rw [hf] at h3; simp only [enc] at h3; omega
        | some y => rw [hf] at h3; simp only [enc] at h3; congr 1; omega
      · intro hf
        have h1 := (rk_range hn.1 hf).1
        refine ⟨h1.1, by omega, ?_⟩
        rw [he _ (by omega), show ((x.toNat : Nat) : Int) = x by omega, hf]
        rfl
  rw [key, ordL_stay hn.1 (lv_nil hn.1 hn.2)]
def TmA (t r : Nat) (f : Int → Option Nat) (par : Int → List Int) (ol : List Int) (R : Nat → Int) (V : Nat → CV) (m : Nat) (s : St) : Prop :=
  ∃ (n : Int) (h' : Hp) (l : List (Nat × TV)) (lc : List (List CV)), s = ST 101 l lc h' ∧ -1 ≤ n ∧ n ≤ 17 ∧ (m : Int) = 17 - n ∧ TrF h' t f par ol ∧ RTf h' r f par R V ∧
    lk l 10 = .v (.c (.ptr t 0 0 0)) ∧ lk l 11 = .v (.c (.ptr r 0 0 0)) ∧ lk l 12 = .v (.c (.int .i64 n))
theorem treeForms_ok {nodes : Int} {v : CV} {C : List Cl} (hl : SL h 3 v (rC C)) (hC : ∀ c ∈ C, SL h 3 c.v (rL c.L)) (hP : ∀ h', P (.c (.bool true)) h') :
    callW N (k + 31) 236 [.c (.int .i64 nodes), .c v, .c (.int .i64 least)] h P := by
  refine call_intro rfl (by simp only [List.length_cons, List.length_nil]; omega) ?_
  simp (maxSteps := 200000) -implicitDefEqProofs only [KA, KB, KC, KD, KE, KF, eq_self, ne_eq, ↓reduceIte, Nat.reduceLT, Nat.reduceEqDiff, Nat.reduceAdd, Nat.reduceLeDiff, Nat.reduceSub, Nat.reduceMul, reduceCtorEq]
  refine made_ok (k := k + 26) hl hC fun h1 g m r nn q Q hg hrg hR hn f1 => ?_
  obtain ⟨nn, rfl⟩ : ∃ n : Nat, nn = n := ⟨nn.toNat, by omega⟩
  have z0 : decide ((0 : Int) = 0) = true := rfl
  simp (maxSteps := 200000) -implicitDefEqProofs only [KA, KB, KC, KD, KE, KF, eq_self, ne_eq, ↓reduceIte, Nat.reduceLT, Nat.reduceEqDiff, Nat.reduceAdd, Nat.reduceLeDiff, Nat.reduceSub, Nat.reduceMul, reduceCtorEq, z0]
  have hq := hR.qle
  have hn1 : 1 ≤ nn ∧ nn ≤ 16 := by omega
  have H := falls (q := q) (least := least) hn1.1 hq
  refine build_ok (by omega) hg (by omega) hq fun h2 t hT f2 => ?_
  simp (maxSteps := 200000) -implicitDefEqProofs only [KA, KB, KC, KD, KE, KF, eq_self, ne_eq, ↓reduceIte, Nat.reduceLT, Nat.reduceEqDiff, Nat.reduceAdd, Nat.reduceLeDiff, Nat.reduceSub, Nat.reduceMul, reduceCtorEq]
  refine rbuild_ok (k := k + 24) (hrg.new f2) hR hn1 H fun h3 r R V hr f3 => ?_
  have hT := hT.new f3
  have hoL := oL_ord (q := q) (least := least) hn1 hr.e
  have O1 : ∀ b, b ∈ ordL q least nn nn ↔ ∃ r, rk q least nn b = some r := fun b => by
    rw [mem_ordL hn1.1]
    exact ⟨fun ⟨r, _, h⟩ => ⟨r, h⟩, fun ⟨r, h⟩ => ⟨r, (rk_range hn1.1 h).2, h⟩⟩
  have O2 := ordL_nodup (q := q) (least := least) hn1.1 nn
  have O5 := ordL_len (q := q) (least := least) hn1.1 nn
  generalize rk q least nn = f at hT hr H O1
  generalize fol q least nn f = par at hT hr H
  generalize ordL q least nn nn = ol at hT hoL O1 O2 O5
  have hrr : ∀ b x, f b = some x → 0 ≤ b ∧ b < 16 := fun b x hb => by have := (H.range b x hb).1; omega
  have O6 : ∀ n T, T.Perm (chO par n ol) → T.Pairwise (· < ·) → T = upto (kid par n) 16 := fun n T t1 t2 => by
    refine asc_eq t2 (upto_asc _ _) fun x => ?_
    rw [t1.mem_iff, mem_upto]
    unfold chO kid
    rw [List.mem_filter, decide_eq_true_eq, decide_eq_true_eq]
    constructor
    · rintro ⟨h1, h2, h3⟩
      obtain ⟨r, hr⟩ := (O1 x).mp h1
      have hx := hrr x r hr
      cases r with
      | zero => exact absurd (H.zero x hr) h2
      | succ r =>
        refine ⟨hx.1, by omega, ?_⟩
        rw [show ((x.toNat : Nat) : Int) = x by omega]
        exact ⟨List.length_pos_iff.mpr (H.ne x r hr), h3⟩
    · rintro ⟨h1, h2, h3⟩
      rw [show ((x.toNat : Nat) : Int) = x by omega] at h3
      obtain ⟨r, hr, _⟩ := H.mem x _ (hd_mem (List.length_pos_iff.mp h3.1))
      refine ⟨(O1 x).mpr ⟨_, hr⟩, fun e => ?_, h3.2⟩
      rw [e, H.root] at hr
      simp at hr
  simp (maxSteps := 200000) -implicitDefEqProofs only [KA, KB, KC, KD, KE, KF, eq_self, ne_eq, ↓reduceIte, Nat.reduceLT, Nat.reduceEqDiff, Nat.reduceAdd, Nat.reduceLeDiff, Nat.reduceSub, Nat.reduceMul, reduceCtorEq]
  refine order_ok (k := k + 28) hT (by omega) fun h4 w hw f4 => ?_
  simp (maxSteps := 200000) -implicitDefEqProofs only [KA, KB, KC, KD, KE, KF, eq_self, ne_eq, ↓reduceIte, Nat.reduceLT, Nat.reduceEqDiff, Nat.reduceAdd, Nat.reduceLeDiff, Nat.reduceSub, Nat.reduceMul, reduceCtorEq]
  refine rorder_ok (k := k + 29) (hr.new f4) fun h5 w2 hw2 f5 => ?_
  rw [hoL] at hw2
  simp (maxSteps := 200000) -implicitDefEqProofs only [KA, KB, KC, KD, KE, KF, eq_self, ne_eq, ↓reduceIte, Nat.reduceLT, Nat.reduceEqDiff, Nat.reduceAdd, Nat.reduceLeDiff, Nat.reduceSub, Nat.reduceMul, reduceCtorEq]
  refine same_ok (k := k + 29) (hw.new f5) hw2 (by omega) ?_
  have hT := (hT.new f4).new f5
  have hr := (hr.new f4).new f5
  simp (maxSteps := 200000) -implicitDefEqProofs only [KA, KB, KC, KD, KE, KF, eq_self, ne_eq, ↓reduceIte, Nat.reduceLT, Nat.reduceEqDiff, Nat.reduceAdd, Nat.reduceLeDiff, Nat.reduceSub, Nat.reduceMul, reduceCtorEq]
  refine loop_rd (callW_mono N _) (TmA t r f par ol R V) (n := 18) ⟨-1, h5, _, _, rfl, by omega, by omega, by omega, hT, hr, rfl, rfl, rfl⟩ ?_
  clear hT hr hw hw2 f5 f4 f3 f2 f1 hg hrg hl hC
  rintro m s ⟨n, h1, l, lc, rfl, hn0, hn2, hm, hT, hr, e10, e11, e12⟩
  by_cases hlt : n ≤ 16
  · have hwn := wrap_i64 (n := n + 1) (by omega)
    have z1 : (false == false) = true := rfl
    have z2 : (true == true) = true := rfl
    simp (maxSteps := 200000) -implicitDefEqProofs only [KA, KB, KC, KD, KE, KF, eq_self, ne_eq, ↓reduceIte, Nat.reduceLT, Nat.reduceEqDiff, Nat.reduceAdd, Nat.reduceLeDiff, Nat.reduceSub, Nat.reduceMul, reduceCtorEq, e10, e11, e12, hlt]
    refine rank_ok (k := k + 29) hT ?_
    simp (maxSteps := 200000) -implicitDefEqProofs only [KA, KB, KC, KD, KE, KF, eq_self, ne_eq, ↓reduceIte, Nat.reduceLT, Nat.reduceEqDiff, Nat.reduceAdd, Nat.reduceLeDiff, Nat.reduceSub, Nat.reduceMul, reduceCtorEq]
    refine rrank_ok (k := k + 28) hr hrr ?_
    have hd1 : decide (rkv (f n) = rkv (f n)) = true := by simp
    have hd2 : ((f n).isSome == (f n).isSome) = true := by simp
    simp (maxSteps := 200000) -implicitDefEqProofs only [KA, KB, KC, KD, KE, KF, eq_self, ne_eq, ↓reduceIte, Nat.reduceLT, Nat.reduceEqDiff, Nat.reduceAdd, Nat.reduceLeDiff, Nat.reduceSub, Nat.reduceMul, reduceCtorEq, hd1, hd2]
    refine parents_ok (k := k + 28) hT (by have := H.len n; omega) fun h2 v1 hv1 f2 => ?_
    have hT := hT.new f2
    have hr := hr.new f2
    simp (maxSteps := 200000) -implicitDefEqProofs only [KA, KB, KC, KD, KE, KF, eq_self, ne_eq, ↓reduceIte, Nat.reduceLT, Nat.reduceEqDiff, Nat.reduceAdd, Nat.reduceLeDiff, Nat.reduceSub, Nat.reduceMul, reduceCtorEq]
    refine rparents_ok (k := k + 28) hr (fun hc => H.nil n (by
      cases hf : f n with
      | none => rfl
      | some x => exact absurd (hrr n x hf) hc)) fun v2 hv2 => ?_
    simp (maxSteps := 200000) -implicitDefEqProofs only [KA, KB, KC, KD, KE, KF, eq_self, ne_eq, ↓reduceIte, Nat.reduceLT, Nat.reduceEqDiff, Nat.reduceAdd, Nat.reduceLeDiff, Nat.reduceSub, Nat.reduceMul, reduceCtorEq]
    refine same_ok (k := k + 29) hv1 hv2 (by have := H.len n; omega) ?_
    simp (maxSteps := 200000) -implicitDefEqProofs only [KA, KB, KC, KD, KE, KF, eq_self, ne_eq, ↓reduceIte, Nat.reduceLT, Nat.reduceEqDiff, Nat.reduceAdd, Nat.reduceLeDiff, Nat.reduceSub, Nat.reduceMul, reduceCtorEq]
    refine children_ok (by omega) hT (by omega) O2 fun h3 v3 T t1 t2 hv3 f3 => ?_
    have hT := hT.new f3
    have hr := hr.new f3
    rw [O6 n T t1 t2] at hv3
    simp (maxSteps := 200000) -implicitDefEqProofs only [KA, KB, KC, KD, KE, KF, eq_self, ne_eq, ↓reduceIte, Nat.reduceLT, Nat.reduceEqDiff, Nat.reduceAdd, Nat.reduceLeDiff, Nat.reduceSub, Nat.reduceMul, reduceCtorEq]
    refine rchildren_ok (k := k + 29) hr fun h4 v4 hv4 f4 => ?_
    have hT := hT.new f4
    have hr := hr.new f4
    simp (maxSteps := 200000) -implicitDefEqProofs only [KA, KB, KC, KD, KE, KF, eq_self, ne_eq, ↓reduceIte, Nat.reduceLT, Nat.reduceEqDiff, Nat.reduceAdd, Nat.reduceLeDiff, Nat.reduceSub, Nat.reduceMul, reduceCtorEq]
    refine same_ok (k := k + 29) (hv3.new f4) hv4 (by have := upto_len (kid par n) 16; omega) ?_
    simp (maxSteps := 200000) -implicitDefEqProofs only [KA, KB, KC, KD, KE, KF, eq_self, ne_eq, ↓reduceIte, Nat.reduceLT, Nat.reduceEqDiff, Nat.reduceAdd, Nat.reduceLeDiff, Nat.reduceSub, Nat.reduceMul, reduceCtorEq]
    cases hf : f n with
    | none =>
      refine path_none (k := k + 28) hT hf ?_
      simp (maxSteps := 200000) -implicitDefEqProofs only [KA, KB, KC, KD, KE, KF, eq_self, ne_eq, ↓reduceIte, Nat.reduceLT, Nat.reduceEqDiff, Nat.reduceAdd, Nat.reduceLeDiff, Nat.reduceSub, Nat.reduceMul, reduceCtorEq]
      refine rpath_none (k := k + 27) hr hrr hf ?_
      simp (maxSteps := 200000) -implicitDefEqProofs only [KA, KB, KC, KD, KE, KF, eq_self, ne_eq, ↓reduceIte, Nat.reduceLT, Nat.reduceEqDiff, Nat.reduceAdd, Nat.reduceLeDiff, Nat.reduceSub, Nat.reduceMul, reduceCtorEq]
      refine same_ok (k := k + 29) (a := []) rfl rfl (by simp) ?_
      simp (maxSteps := 200000) -implicitDefEqProofs only [KA, KB, KC, KD, KE, KF, eq_self, ne_eq, ↓reduceIte, Nat.reduceLT, Nat.reduceEqDiff, Nat.reduceAdd, Nat.reduceLeDiff, Nat.reduceSub, Nat.reduceMul, reduceCtorEq, hwn, rd_n]
      exact ⟨m - 1, by omega, n + 1, _, _, _, rfl, by omega, by omega, by omega, hT, hr, rfl, rfl, rfl⟩
    | some x =>
      have hx := (H.range n x hf).2
      have hu := H.up hf
      refine path_ok (k := k + 28) hT hf (by omega) hu.1 hu.2 fun h5 v5 hv5 f5 => ?_
      have hT := hT.new f5
      have hr := hr.new f5
      simp (maxSteps := 200000) -implicitDefEqProofs only [KA, KB, KC, KD, KE, KF, eq_self, ne_eq, ↓reduceIte, Nat.reduceLT, Nat.reduceEqDiff, Nat.reduceAdd, Nat.reduceLeDiff, Nat.reduceSub, Nat.reduceMul, reduceCtorEq]
      refine rpath_ok (k := k + 27) hr hrr hf (by omega) hu.1 hu.2 (fun i hi => hrr _ _ (H.itr hf i hi)) (fun i hi => H.ne _ (x - i - 1) (by rw [H.itr hf i (by omega)]; congr 1; omega)) fun h6 v6 hv6 f6 => ?_
      have hT := hT.new f6
      have hr := hr.new f6
      simp (maxSteps := 200000) -implicitDefEqProofs only [KA, KB, KC, KD, KE, KF, eq_self, ne_eq, ↓reduceIte, Nat.reduceLT, Nat.reduceEqDiff, Nat.reduceAdd, Nat.reduceLeDiff, Nat.reduceSub, Nat.reduceMul, reduceCtorEq]
      refine same_ok (k := k + 29) (hv5.new f6) hv6 (by rw [List.length_reverse, up_len]; omega) ?_
      simp (maxSteps := 200000) -implicitDefEqProofs only [KA, KB, KC, KD, KE, KF, eq_self, ne_eq, ↓reduceIte, Nat.reduceLT, Nat.reduceEqDiff, Nat.reduceAdd, Nat.reduceLeDiff, Nat.reduceSub, Nat.reduceMul, reduceCtorEq, hwn, rd_n]
      exact ⟨m - 1, by omega, n + 1, _, _, _, rfl, by omega, by omega, by omega, hT, hr, rfl, rfl, rfl⟩
  · simp (maxSteps := 200000) -implicitDefEqProofs only [KA, KB, KC, KD, KE, KF, eq_self, ne_eq, ↓reduceIte, Nat.reduceLT, Nat.reduceEqDiff, Nat.reduceAdd, Nat.reduceLeDiff, Nat.reduceSub, Nat.reduceMul, reduceCtorEq, e10, e11, e12, hlt]
    refine awakeT_ok (k := k + 29) ?_
    simp (maxSteps := 200000) -implicitDefEqProofs only [KA, KB, KC, KD, KE, KF, eq_self, ne_eq, ↓reduceIte, Nat.reduceLT, Nat.reduceEqDiff, Nat.reduceAdd, Nat.reduceLeDiff, Nat.reduceSub, Nat.reduceMul, reduceCtorEq]
    exact hP _
end
end Camp
