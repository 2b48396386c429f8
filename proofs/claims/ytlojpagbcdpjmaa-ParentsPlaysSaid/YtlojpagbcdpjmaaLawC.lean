/- Parents: the reference's set. Parents: the reference's Hear and Old; the law of the plays. Parents: the reference's Old. Parents: the law of the plays. -/
import Derived.Test.YtlojpagbcdpjmaaLawB

set_option linter.unnecessarySimpa false
set_option linter.unusedVariables false
set_option linter.unusedSimpArgs false
set_option linter.unusedSectionVars false
/-! CvParB -/
namespace Camp
open Go
set_option linter.unusedVariables false
set_option linter.unusedSimpArgs false
set_option maxHeartbeats 4000000
def encR (p : Pr) : List CV := [.int .i64 p.n, .int .i64 p.r, .int .i64 p.h]
section
variable {h : Hp} {sz : Nat} {v : CV} {rows : List (List CV)} {lc : List (List CV)}
theorem Ow.app0 (k : Ow h sz v rows) {x : TV} {xs : List (List CV)} (hx : sliceRows h lc sz x = some xs) {bytes : Nat} (hb : (rows.length + xs.length) * bytes ≤ room) :
    ∃ v' h', appT h lc sz bytes (.v (.c v)) x = some (v', h') ∧ Ow h' sz v' (rows ++ xs) ∧ Fm (ownId v) h h' ∧ (∀ j, ownId v' j → ownId v j ∨ h.n ≤ j) := by
  cases xs with
  | cons y ys => exact k.app hx (by simp) hb
  | nil =>
    refine ⟨v, h, ?_, by rw [List.append_nil]; exact k, Fm.refl _ _, fun j hj => .inl hj⟩
    cases v <;> simp only [Ow] at k
    case nils => simp only [appT, asC_c, Option.bind_some, hx, appRows]
    case sl id tok off len cap => simp only [appT, asC_c, Option.bind_some, hx, appRows]
/-- The last elements of such a slice. -/
theorem Ow.suf (k : Ow h sz v rows) (h0 : 0 < sz) {m : Int} (hm : 0 ≤ m ∧ m ≤ rows.length) :
    ∃ v', sliceT h sz (.v (.c v)) (some m) none none = some v' ∧ (∀ h', Fm (fun j => ¬ ownId v j) h h' → sliceT h' sz (.v (.c v)) (some m) none none = some v') ∧ SL h sz v' (rows.drop m.toNat) ∧ ∀ j, ownId v' j ↔ ownId v j := by
  cases v <;> simp only [Ow] at k
  case nils =>
    subst k
    have : m = 0 := by simp at hm; omega
    subst this
    refine ⟨.nils, ?_, fun h' _ => ?_, ?_, fun j => Iff.rfl⟩
    · simp [sliceT, sliceV, h0]
    · simp [sliceT, sliceV, h0]
    · simp [SL]
  case sl id tok off len cap =>
    obtain ⟨rfl, rfl, lw, rs, h1, h2, h3, rfl⟩ := k
    simp only [List.length_take] at hm
    have key : ∀ h' : Hp, h'.g id = some (.rows true sz tok lw rs) → sliceT h' sz (.v (.c (.sl id tok 0 len none))) (some m) none none = some (.sl id tok m.toNat (len - m.toNat) none) := by
      intro h' hg
      simp only [sliceT, sliceV, g_def, hg]
      rw [if_pos ⟨h0, trivial, h2⟩]
      unfold sliceB
      rw [if_pos]
      · simp
      · simp; omega
    refine ⟨_, key h h1, fun h' f => key h' (f.some h1 (fun e => e rfl)), ⟨true, tok, lw, rs, h1, h2, by omega, ?_⟩, fun j => Iff.rfl⟩
    rw [List.drop_take]
end
/-- A set of the reference. -/
def RS (h : Hp) (s : Nat) (me rank : Int) (v : CV) (L : List Pr) : Prop := h.g s = some (.rows true 3 0 0 [[.int .i64 me, .int .i64 rank, v]]) ∧ Ow h 3 v (L.map encR) ∧ ¬ ownId v s
theorem RS.new {h : Hp} {s : Nat} {me rank : Int} {v : CV} {L : List Pr} {h' : Hp} (k : RS h s me rank v L) (f : Fn h h') : RS h' s me rank v L := ⟨f.some k.1 (fun h => h), k.2.1.new f, k.2.2⟩
theorem RS.mono {h h' : Hp} {s : Nat} {me rank : Int} {v : CV} {L : List Pr} {S : Nat → Prop} (k : RS h s me rank v L) (f : Fm S h h') (h1 : ¬ S s) (h2 : ∀ j, ownId v j → ¬ S j) : RS h' s me rank v L := ⟨f.some k.1 h1, k.2.1.mono f h2, k.2.2⟩
theorem RS.set {h : Hp} {s : Nat} {me rank : Int} {v : CV} {L : List Pr} {R : List (List CV)} (hg : h.g s = some (.rows true 3 0 0 R)) (ho : Ow h 3 v (L.map encR)) (hne : ¬ ownId v s) :
    RS (h.put s (.rows true 3 0 0 [[.int .i64 me, .int .i64 rank, v]])) s me rank v L :=
  ⟨by rw [g_put_eq, hg]; rfl, ho.mono (S := fun j => j = s) (Fm.put _ _ rfl) (fun j hj e => hne (e ▸ hj)), hne⟩
section
variable {k : Nat} {h : Hp} {P : AV → Hp → Prop} {s : Nat} {me rank : Int} {v : CV} {L : List Pr}
theorem node_ok {i : Int} (hP : P (.c (.bool (decide (0 ≤ i ∧ i < 16)))) h) : callW N (k + 1) 44 [.c (.int .i64 i)] h P := by
  refine call_intro rfl (by simp only [List.length_cons, List.length_nil]; omega) ?_
  by_cases h1 : 0 ≤ i
  · by_cases h2 : i < 16
    · rw [decide_eq_true ⟨h1, h2⟩] at hP
      simp (maxSteps := 200000) -implicitDefEqProofs only [KA, KB, KC, KD, KE, KF, eq_self, ne_eq, ↓reduceIte, Nat.reduceLT, Nat.reduceEqDiff, Nat.reduceAdd, Nat.reduceLeDiff, Nat.reduceSub, Nat.reduceMul, reduceCtorEq, h1, h2]
      exact hP
    · rw [decide_eq_false (by omega)] at hP
      simp (maxSteps := 200000) -implicitDefEqProofs only [KA, KB, KC, KD, KE, KF, eq_self, ne_eq, ↓reduceIte, Nat.reduceLT, Nat.reduceEqDiff, Nat.reduceAdd, Nat.reduceLeDiff, Nat.reduceSub, Nat.reduceMul, reduceCtorEq, h1, h2]
      exact hP
  · rw [decide_eq_false (by omega)] at hP
    simp (maxSteps := 200000) -implicitDefEqProofs only [KA, KB, KC, KD, KE, KF, eq_self, ne_eq, ↓reduceIte, Nat.reduceLT, Nat.reduceEqDiff, Nat.reduceAdd, Nat.reduceLeDiff, Nat.reduceSub, Nat.reduceMul, reduceCtorEq, h1]
    exact hP
theorem rnew_ok {m r : Int} (h1 : 0 ≤ m ∧ m ≤ 15 → 0 ≤ r ∧ r ≤ 255 → ∀ h' s, RS h' s m r .nils [] → Fn h h' → h.n ≤ s → P (.c (.ptr s 0 0 0)) h') (h0 : ¬ ((0 ≤ m ∧ m ≤ 15) ∧ (0 ≤ r ∧ r ≤ 255)) → P (.c .nilp) h) : callW N (k + 2) 54 [.c (.int .i64 m), .c (.int .i64 r)] h P := by
  refine call_intro rfl (by simp only [List.length_cons, List.length_nil]; omega) ?_
  simp (maxSteps := 200000) -implicitDefEqProofs only [KA, KB, KC, KD, KE, KF, eq_self, ne_eq, ↓reduceIte, Nat.reduceLT, Nat.reduceEqDiff, Nat.reduceAdd, Nat.reduceLeDiff, Nat.reduceSub, Nat.reduceMul, reduceCtorEq]
  refine node_ok ?_
  by_cases c1 : 0 ≤ m ∧ m < 16
  · by_cases c2 : r < 0
    · simp (maxSteps := 200000) -implicitDefEqProofs only [KA, KB, KC, KD, KE, KF, eq_self, ne_eq, ↓reduceIte, Nat.reduceLT, Nat.reduceEqDiff, Nat.reduceAdd, Nat.reduceLeDiff, Nat.reduceSub, Nat.reduceMul, reduceCtorEq, c1, c2]
      exact h0 (by omega)
    · by_cases c3 : 255 < r
      · simp (maxSteps := 200000) -implicitDefEqProofs only [KA, KB, KC, KD, KE, KF, eq_self, ne_eq, ↓reduceIte, Nat.reduceLT, Nat.reduceEqDiff, Nat.reduceAdd, Nat.reduceLeDiff, Nat.reduceSub, Nat.reduceMul, reduceCtorEq, c1, c2, c3]
        exact h0 (by omega)
      · simp (maxSteps := 200000) -implicitDefEqProofs only [KA, KB, KC, KD, KE, KF, eq_self, ne_eq, ↓reduceIte, Nat.reduceLT, Nat.reduceEqDiff, Nat.reduceAdd, Nat.reduceLeDiff, Nat.reduceSub, Nat.reduceMul, reduceCtorEq, c1, c2, c3]
        exact h1 (by omega) (by omega) _ h.n ⟨by rw [g_push_eq], rfl, fun h => h⟩ (Fm.push _ _ _) (Nat.le_refl _)
  · simp (maxSteps := 200000) -implicitDefEqProofs only [KA, KB, KC, KD, KE, KF, eq_self, ne_eq, ↓reduceIte, Nat.reduceLT, Nat.reduceEqDiff, Nat.reduceAdd, Nat.reduceLeDiff, Nat.reduceSub, Nat.reduceMul, reduceCtorEq, c1]
    exact h0 (by omega)
theorem rfirst_ok (hs : RS h s me rank v L) (hP : P (.tup [.c (.int .i64 ((L.head?.map (·.n)).getD 0)), .c (.bool L.head?.isSome)]) h) : callW N (k + 1) 61 [.c (.ptr s 0 0 0)] h P := by
  obtain ⟨hg, ho, _⟩ := hs
  have hlen : ∀ h' : Hp, lenT h' .sl (.v (.c v)) = some (L.length : Int) := fun h' => by rw [ho.sl.len h', List.length_map]
  refine call_intro rfl (by simp only [List.length_cons, List.length_nil]; omega) ?_
  cases L with
  | nil =>
    have hlen' : ∀ h' : Hp, lenT h' .sl (.v (.c v)) = some (0 : Int) := hlen
    have d : decide ((0 : Int) = 0) = true := rfl
    simp (maxSteps := 200000) -implicitDefEqProofs only [KA, KB, KC, KD, KE, KF, eq_self, ne_eq, ↓reduceIte, Nat.reduceLT, Nat.reduceEqDiff, Nat.reduceAdd, Nat.reduceLeDiff, Nat.reduceSub, Nat.reduceMul, reduceCtorEq, hg, hlen', d]
    exact hP
  | cons x L =>
    have d : ¬ (((x :: L).length : Int) = 0) := by simp only [List.length_cons]; omega
    obtain ⟨p1, p2, p3, a1, a2⟩ := ho.sl.at (i := 0) (r := encR x) (by omega) rfl
    rw [show encR x = [.int .i64 x.n, .int .i64 x.r, .int .i64 x.h] from rfl] at a2
    generalize (((x :: L).length : Int)) = len at *
    simp (maxSteps := 200000) -implicitDefEqProofs only [KA, KB, KC, KD, KE, KF, eq_self, ne_eq, ↓reduceIte, Nat.reduceLT, Nat.reduceEqDiff, Nat.reduceAdd, Nat.reduceLeDiff, Nat.reduceSub, Nat.reduceMul, reduceCtorEq, hg, hlen, d, a1, a2]
    exact hP
def RkR (h : Hp) (v : CV) (node : Int) (L : List Pr) (n : Nat) (s : St) : Prop :=
  ∃ (i : Nat) (l : List (Nat × TV)) (lc : List (List CV)), s = ST 24 l lc h ∧ i ≤ L.length ∧ n = L.length - i ∧ (L.take i).find? (fun x => x.n == node) = none ∧
    lk l 1 = .v (.c (.int .i64 node)) ∧ lk l 11 = .v (.c v) ∧ lk l 12 = .v (.c (.int .i64 L.length)) ∧ lk l 13 = .v (.c (.int .i64 i))
theorem rrankOf_ok {node : Int} (hs : RS h s me rank v L) (hn : L.length ≤ 1000) (hP : P (.tup [.c (.int .i64 ((rankOf L node).getD 0)), .c (.bool (rankOf L node).isSome)]) h) : callW N (k + 1) 63 [.c (.ptr s 0 0 0), .c (.int .i64 node)] h P := by
  obtain ⟨hg, ho, _⟩ := hs
  have hlen : ∀ h' : Hp, lenT h' .sl (.v (.c v)) = some (L.length : Int) := fun h' => by rw [ho.sl.len h', List.length_map]
  refine call_intro rfl (by simp only [List.length_cons, List.length_nil]; omega) ?_
  simp (maxSteps := 200000) -implicitDefEqProofs only [KA, KB, KC, KD, KE, KF, eq_self, ne_eq, ↓reduceIte, Nat.reduceLT, Nat.reduceEqDiff, Nat.reduceAdd, Nat.reduceLeDiff, Nat.reduceSub, Nat.reduceMul, reduceCtorEq, hg, hlen]
  refine loop_rd (callW_mono N _) (RkR h v node L) (n := L.length) ⟨0, _, _, rfl, by omega, by omega, rfl, rfl, rfl, rfl, rfl⟩ ?_
  rintro n s ⟨i, l, lc, rfl, hi, hn, hno, e1, e13, e14, e15⟩
  by_cases hlt : (i : Int) < L.length
  · have hil : i < L.length := by omega
    obtain ⟨x, hx⟩ : ∃ x, L[i]? = some x := ⟨_, List.getElem?_eq_getElem hil⟩
    have hr : (L.map encR)[(i : Int).toNat]? = some (encR x) := by simp [hx]
    obtain ⟨p1, p2, p3, a1, a2⟩ := ho.sl.at (by omega) hr
    rw [show encR x = [.int .i64 x.n, .int .i64 x.r, .int .i64 x.h] from rfl] at a2
    have hw := wrap_i64 (n := (i : Int) + 1) (by omega)
    by_cases c : x.n = node
    · have d : decide (x.n = node) = true := decide_eq_true c
      simp (maxSteps := 200000) -implicitDefEqProofs only [KA, KB, KC, KD, KE, KF, eq_self, ne_eq, ↓reduceIte, Nat.reduceLT, Nat.reduceEqDiff, Nat.reduceAdd, Nat.reduceLeDiff, Nat.reduceSub, Nat.reduceMul, reduceCtorEq, e1, e13, e14, e15, hlt, a1, a2, d]
      have : rankOf L node = some x.r := by
        unfold rankOf
        rw [← List.take_append_drop i L, List.find?_append, hno, List.drop_eq_getElem_cons hil]
        rw [List.getElem?_eq_getElem hil] at hx
        injection hx with hx
        simp [hx, c]
      rw [this] at hP
      exact hP
    · simp (maxSteps := 200000) -implicitDefEqProofs only [KA, KB, KC, KD, KE, KF, eq_self, ne_eq, ↓reduceIte, Nat.reduceLT, Nat.reduceEqDiff, Nat.reduceAdd, Nat.reduceLeDiff, Nat.reduceSub, Nat.reduceMul, reduceCtorEq, e1, e13, e14, e15, hlt, a1, a2, c, hw, rd_n]
      refine ⟨n - 1, by omega, i + 1, _, _, rfl, by omega, by omega, ?_, rfl, rfl, rfl, rfl⟩
      rw [take_snoc hx, List.find?_append, hno]
      simp [c]
  · simp (maxSteps := 200000) -implicitDefEqProofs only [KA, KB, KC, KD, KE, KF, eq_self, ne_eq, ↓reduceIte, Nat.reduceLT, Nat.reduceEqDiff, Nat.reduceAdd, Nat.reduceLeDiff, Nat.reduceSub, Nat.reduceMul, reduceCtorEq, e1, e13, e14, e15, hlt]
    rw [List.take_of_length_le (by omega)] at hno
    unfold rankOf at hP
    rw [hno] at hP
    exact hP
def AllR (h : Hp) (v : CV) (L : List Pr) (n : Nat) (s : St) : Prop :=
  ∃ (i : Nat) (w : CV) (h' : Hp) (l : List (Nat × TV)) (lc : List (List CV)), s = ST 22 l lc h' ∧ i ≤ L.length ∧ n = L.length - i ∧ Ow h' 1 w (((L.take i).map (·.n)).map encI) ∧ Fn h h' ∧ (∀ j, ownId w j → h.n ≤ j) ∧
    lk l 3 = .v (.c w) ∧ lk l 9 = .v (.c v) ∧ lk l 10 = .v (.c (.int .i64 L.length)) ∧ lk l 11 = .v (.c (.int .i64 i))
theorem rall_ok (hs : RS h s me rank v L) (hn : L.length ≤ 1000) (hP : ∀ h' w, SL h' 1 w ((L.map (·.n)).map encI) → Fn h h' → P (.c w) h') : callW N (k + 1) 65 [.c (.ptr s 0 0 0)] h P := by
  obtain ⟨hg, ho, _⟩ := hs
  have hlen : ∀ h' : Hp, lenT h' .sl (.v (.c v)) = some (L.length : Int) := fun h' => by rw [ho.sl.len h', List.length_map]
  refine call_intro rfl (by simp only [List.length_cons, List.length_nil]; omega) ?_
  simp (maxSteps := 200000) -implicitDefEqProofs only [KA, KB, KC, KD, KE, KF, eq_self, ne_eq, ↓reduceIte, Nat.reduceLT, Nat.reduceEqDiff, Nat.reduceAdd, Nat.reduceLeDiff, Nat.reduceSub, Nat.reduceMul, reduceCtorEq, hg, hlen]
  refine loop_rd (callW_mono N _) (AllR h v L) (n := L.length) ⟨0, .nils, h, _, _, rfl, by omega, by omega, rfl, Fm.refl _ _, fun _ h => h.elim, rfl, rfl, rfl, rfl⟩ ?_
  rintro n s ⟨i, w, h', l, lc, rfl, hi, hn, how, hfn, hid, e3, e11, e12, e13⟩
  by_cases hlt : (i : Int) < L.length
  · have hil : i < L.length := by omega
    obtain ⟨x, hx⟩ : ∃ x, L[i]? = some x := ⟨_, List.getElem?_eq_getElem hil⟩
    have hr : (L.map encR)[(i : Int).toNat]? = some (encR x) := by simp [hx]
    obtain ⟨p1, p2, p3, a1, a2⟩ := (ho.sl.new hfn).at (by omega) hr
    rw [show encR x = [.int .i64 x.n, .int .i64 x.r, .int .i64 x.h] from rfl] at a2
    have hw := wrap_i64 (n := (i : Int) + 1) (by omega)
    obtain ⟨v', h'', f1, f2, f3, f4⟩ := how.app (lc := [[.int .i64 x.n, .int .i64 x.r, .int .i64 x.h], [.int .i64 x.n]]) (x := .lsl 1 1) (xs := [[.int .i64 x.n]]) rfl (by simp) (bytes := 8) (by simp [room]; omega)
    simp (maxSteps := 200000) -implicitDefEqProofs only [KA, KB, KC, KD, KE, KF, eq_self, ne_eq, ↓reduceIte, Nat.reduceLT, Nat.reduceEqDiff, Nat.reduceAdd, Nat.reduceLeDiff, Nat.reduceSub, Nat.reduceMul, reduceCtorEq, e3, e11, e12, e13, hlt, a1, a2, f1, hw, rd_n]
    refine ⟨n - 1, by omega, i + 1, v', h'', _, _, rfl, by omega, by omega, ?_, hfn.fresh f3 hid, (fun j hj => (f4 j hj).elim (hid j) (fun h => Nat.le_trans hfn.n h)), rfl, rfl, rfl, rfl⟩
    rw [take_snoc hx]
    simpa [encI] using f2
  · simp (maxSteps := 200000) -implicitDefEqProofs only [KA, KB, KC, KD, KE, KF, eq_self, ne_eq, ↓reduceIte, Nat.reduceLT, Nat.reduceEqDiff, Nat.reduceAdd, Nat.reduceLeDiff, Nat.reduceSub, Nat.reduceMul, reduceCtorEq, e3, e11, e12, e13, hlt]
    rw [List.take_of_length_le (by omega)] at how
    exact hP _ _ how.sl hfn
def DrpI (h : Hp) (s : Nat) (node : Int) (v : CV) (L : List Pr) (n : Nat) (st : St) : Prop :=
  ∃ (i : Nat) (w : CV) (h' : Hp) (l : List (Nat × TV)) (lc : List (List CV)), st = ST 29 l lc h' ∧ i ≤ L.length ∧ n = L.length - i ∧ Ow h' 3 w ((keepN (L.take i) node).map encR) ∧ Fn h h' ∧ (∀ j, ownId w j → h.n ≤ j) ∧
    lk l 0 = .v (.c (.ptr s 0 0 0)) ∧ lk l 1 = .v (.c (.int .i64 node)) ∧ lk l 4 = .v (.c w) ∧ lk l 10 = .v (.c v) ∧ lk l 11 = .v (.c (.int .i64 L.length)) ∧ lk l 12 = .v (.c (.int .i64 i))
theorem drop_ok {node : Int} (hs : RS h s me rank v L) (hn : L.length ≤ 1000) (hP : ∀ h' w, RS h' s me rank w (keepN L node) → Fm (fun j => j = s) h h' → (∀ j, ownId w j → h.n ≤ j) → P (.tup []) h') : callW N (k + 1) 81 [.c (.ptr s 0 0 0), .c (.int .i64 node)] h P := by
  have hg := hs.1
  have ho := hs.2.1
  have hsn := lt_of_g hg
  have hlen : ∀ h' : Hp, lenT h' .sl (.v (.c v)) = some (L.length : Int) := fun h' => by rw [ho.sl.len h', List.length_map]
  refine call_intro rfl (by simp only [List.length_cons, List.length_nil]; omega) ?_
  simp (maxSteps := 200000) -implicitDefEqProofs only [KA, KB, KC, KD, KE, KF, eq_self, ne_eq, ↓reduceIte, Nat.reduceLT, Nat.reduceEqDiff, Nat.reduceAdd, Nat.reduceLeDiff, Nat.reduceSub, Nat.reduceMul, reduceCtorEq, hg, hlen]
  refine loop_rd (callW_mono N _) (DrpI h s node v L) (n := L.length) ⟨0, .nils, h, _, _, rfl, by omega, by omega, rfl, Fm.refl _ _, fun _ h => h.elim, rfl, rfl, rfl, rfl, rfl, rfl⟩ ?_
  rintro n st ⟨i, w, h', l, lc, rfl, hi, hn, how, hfn, hid, e0, e1, e4, e10, e11, e12⟩
  by_cases hlt : (i : Int) < L.length
  · have hil : i < L.length := by omega
    obtain ⟨x, hx⟩ : ∃ x, L[i]? = some x := ⟨_, List.getElem?_eq_getElem hil⟩
    have hr : (L.map encR)[(i : Int).toNat]? = some (encR x) := by simp [hx]
    obtain ⟨p1, p2, p3, a1, a2⟩ := (ho.sl.new hfn).at (by omega) hr
    rw [show encR x = [.int .i64 x.n, .int .i64 x.r, .int .i64 x.h] from rfl] at a2
    have hw := wrap_i64 (n := (i : Int) + 1) (by omega)
    have hkl : (keepN (L.take i) node).length ≤ i := Nat.le_trans (List.filter_sublist).length_le (by rw [List.length_take]; omega)
    have hks : keepN (L.take (i + 1)) node = keepN (L.take i) node ++ (if x.n = node then [] else [x]) := by
      unfold keepN
      rw [take_snoc hx, List.filter_append]
      congr 1
      by_cases c : x.n = node <;> simp [List.filter_cons, c]
    by_cases c : x.n = node
    · have d : decide (x.n = node) = true := decide_eq_true c
      simp (maxSteps := 200000) -implicitDefEqProofs only [KA, KB, KC, KD, KE, KF, eq_self, ne_eq, ↓reduceIte, Nat.reduceLT, Nat.reduceEqDiff, Nat.reduceAdd, Nat.reduceLeDiff, Nat.reduceSub, Nat.reduceMul, reduceCtorEq, e0, e1, e4, e10, e11, e12, hlt, a1, a2, d, hw, rd_n]
      exact ⟨n - 1, by omega, i + 1, w, h', _, _, rfl, by omega, by omega, by rw [hks, if_pos c, List.append_nil]; exact how, hfn, hid, rfl, rfl, rfl, rfl, rfl, rfl⟩
    · obtain ⟨v', h'', f1, f2, f3, f4⟩ := how.app (lc := [[.int .i64 x.n, .int .i64 x.r, .int .i64 x.h], [.int .i64 x.n, .int .i64 x.r, .int .i64 x.h]]) (x := .lsl 1 1) (xs := [[.int .i64 x.n, .int .i64 x.r, .int .i64 x.h]]) rfl (by simp) (bytes := 24) (by simp [room]; omega)
      simp (maxSteps := 200000) -implicitDefEqProofs only [KA, KB, KC, KD, KE, KF, eq_self, ne_eq, ↓reduceIte, Nat.reduceLT, Nat.reduceEqDiff, Nat.reduceAdd, Nat.reduceLeDiff, Nat.reduceSub, Nat.reduceMul, reduceCtorEq, e0, e1, e4, e10, e11, e12, hlt, a1, a2, c, f1, hw, rd_n]
      refine ⟨n - 1, by omega, i + 1, v', h'', _, _, rfl, by omega, by omega, ?_, hfn.fresh f3 hid, (fun j hj => (f4 j hj).elim (hid j) (fun h => Nat.le_trans hfn.n h)), rfl, rfl, rfl, rfl, rfl, rfl⟩
      rw [hks, if_neg c]
      simpa [encR] using f2
  · have hsg := hfn.some hg (fun h => h)
    simp (maxSteps := 200000) -implicitDefEqProofs only [KA, KB, KC, KD, KE, KF, eq_self, ne_eq, ↓reduceIte, Nat.reduceLT, Nat.reduceEqDiff, Nat.reduceAdd, Nat.reduceLeDiff, Nat.reduceSub, Nat.reduceMul, reduceCtorEq, e0, e1, e4, e10, e11, e12, hlt, hsg]
    rw [List.take_of_length_le (by omega)] at how
    have hne : ¬ ownId w s := fun e => by have := hid s e; omega
    exact hP _ w (RS.set hsg how hne) ((hfn.mono (fun _ _ h => h.elim)).comp (Fm.put (S := fun j => j = s) _ _ rfl) (fun j _ e => e)) hid
end
end Camp

/-! CvParC -/
namespace Camp
open Go
set_option linter.unusedVariables false
set_option linter.unusedSimpArgs false
set_option maxHeartbeats 4000000
theorem part_at {x : Pr} {L : List Pr} {i : Nat} (h1 : ∀ y ∈ L.take i, ltP y x) (h2 : ∀ y ∈ L.drop i, ¬ ltP y x) : insP x L = L.take i ++ x :: L.drop i := by
  unfold insP
  have e1 : (L.filter fun y => decide (ltP y x)) = L.take i := by
    rw [← List.take_append_drop i L, List.filter_append, List.filter_eq_self.mpr (fun y hy => decide_eq_true (h1 y hy)), List.filter_eq_nil_iff.mpr (fun y hy => by simp [h2 y hy]), List.append_nil]
    simp
  have e2 : (L.filter fun y => !decide (ltP y x)) = L.drop i := by
    rw [← List.take_append_drop i L, List.filter_append, List.filter_eq_self (l := L.drop i) |>.mpr (fun y hy => by simp [h2 y hy]), List.filter_eq_nil_iff.mpr (fun y hy => by simp [h1 y hy]), List.nil_append]
    simp
  rw [e1, e2]
section
variable {k : Nat} {h : Hp} {P : AV → Hp → Prop} {s : Nat} {me rank : Int} {v : CV} {L : List Pr}
def RhI (h : Hp) (s : Nat) (node r now : Int) (L : List Pr) (n : Nat) (st : St) : Prop :=
  ∃ (i : Nat) (l : List (Nat × TV)) (lc : List (List CV)), st = ST 162 l lc h ∧ i ≤ L.length ∧ n = L.length - i ∧ (∀ y ∈ L.take i, ltP y ⟨r, node, now⟩) ∧
    lk l 0 = .v (.c (.ptr s 0 0 0)) ∧ lk l 1 = .v (.c (.int .i64 node)) ∧ lk l 2 = .v (.c (.int .i64 r)) ∧ lk l 3 = .v (.c (.int .i64 now)) ∧ lk l 9 = .v (.c (.int .i64 i))
def RhJ (h : Hp) (s : Nat) (node rk' : Int) (w : CV) (M : List Pr) (n : Nat) (st : St) : Prop :=
  ∃ (i : Nat) (u : CV) (h' : Hp) (l : List (Nat × TV)) (lc : List (List CV)), st = ST 162 l lc h' ∧ i ≤ M.length ∧ n = M.length - i ∧ Ow h' 3 u ((((M.take i).filter fun y => !decide (rk' ≤ y.r)).take 3).map encR) ∧ Fn h h' ∧ (∀ j, ownId u j → h.n ≤ j) ∧
    lk l 0 = .v (.c (.ptr s 0 0 0)) ∧ lk l 1 = .v (.c (.int .i64 node)) ∧ lk l 10 = .v (.c u) ∧ lk l 128 = .v (.c w) ∧ lk l 129 = .v (.c (.int .i64 M.length)) ∧ lk l 130 = .v (.c (.int .i64 i))
theorem rhear_ok {node r now : Int} (hs : RS h s me rank v L) (hi : Iv me rank L) (hr : 0 ≤ rank ∧ rank ≤ 255)
    (hP : ∀ h' w, RS h' s me (hearS me rank L node r now).1 w (hearS me rank L node r now).2.1 → Fm (fun j => j = s) h h' → (∀ j, ownId w j → ownId v j ∨ h.n ≤ j) → P (.c (.bool (hearS me rank L node r now).2.2)) h') :
    callW N (k + 2) 59 [.c (.ptr s 0 0 0), .c (.int .i64 node), .c (.int .i64 r), .c (.int .i64 now)] h P := by
  have hg := hs.1
  have hsn := lt_of_g hg
  have hlen3 := hi.len
  refine call_intro rfl (by simp only [List.length_cons, List.length_nil]; omega) ?_
  simp (maxSteps := 200000) -implicitDefEqProofs only [KA, KB, KC, KD, KE, KF, eq_self, ne_eq, ↓reduceIte, Nat.reduceLT, Nat.reduceEqDiff, Nat.reduceAdd, Nat.reduceLeDiff, Nat.reduceSub, Nat.reduceMul, reduceCtorEq]
  refine node_ok ?_
  have no : ¬ mayP me node r now → P (.c (.bool false)) h := by
    intro hm
    unfold hearS at hP
    rw [if_neg hm] at hP
    exact hP _ v hs (Fm.refl _ _) (fun j hj => .inl hj)
  by_cases c1 : 0 ≤ node ∧ node < 16
  · by_cases c2 : node = me
    · have d : decide (node = me) = true := decide_eq_true c2
      simp (maxSteps := 200000) -implicitDefEqProofs only [KA, KB, KC, KD, KE, KF, eq_self, ne_eq, ↓reduceIte, Nat.reduceLT, Nat.reduceEqDiff, Nat.reduceAdd, Nat.reduceLeDiff, Nat.reduceSub, Nat.reduceMul, reduceCtorEq, c1, hg, d]
      exact no (fun h => h.2.1 c2)
    · by_cases c3 : r < 0
      · simp (maxSteps := 200000) -implicitDefEqProofs only [KA, KB, KC, KD, KE, KF, eq_self, ne_eq, ↓reduceIte, Nat.reduceLT, Nat.reduceEqDiff, Nat.reduceAdd, Nat.reduceLeDiff, Nat.reduceSub, Nat.reduceMul, reduceCtorEq, c1, hg, c2, c3]
        exact no (fun h => by have := h.2.2.1; omega)
      · by_cases c4 : 255 < r
        · simp (maxSteps := 200000) -implicitDefEqProofs only [KA, KB, KC, KD, KE, KF, eq_self, ne_eq, ↓reduceIte, Nat.reduceLT, Nat.reduceEqDiff, Nat.reduceAdd, Nat.reduceLeDiff, Nat.reduceSub, Nat.reduceMul, reduceCtorEq, c1, hg, c2, c3, c4]
          exact no (fun h => by have := h.2.2.1; omega)
        · by_cases c5 : now < 0
          · simp (maxSteps := 200000) -implicitDefEqProofs only [KA, KB, KC, KD, KE, KF, eq_self, ne_eq, ↓reduceIte, Nat.reduceLT, Nat.reduceEqDiff, Nat.reduceAdd, Nat.reduceLeDiff, Nat.reduceSub, Nat.reduceMul, reduceCtorEq, c1, hg, c2, c3, c4, c5]
            exact no (fun h => h.2.2.2 c5)
          · have hm : mayP me node r now := ⟨by omega, c2, by omega, c5⟩
            simp (maxSteps := 200000) -implicitDefEqProofs only [KA, KB, KC, KD, KE, KF, eq_self, ne_eq, ↓reduceIte, Nat.reduceLT, Nat.reduceEqDiff, Nat.reduceAdd, Nat.reduceLeDiff, Nat.reduceSub, Nat.reduceMul, reduceCtorEq, c1, hg, c2, c3, c4, c5]
            refine drop_ok (k := k) hs (by omega) fun h1 v1 hs1 f1 i1 => ?_
            have hg1 := hs1.1
            have hl1 : (keepN L node).length ≤ 3 := Nat.le_trans (List.filter_sublist).length_le hlen3
            unfold hearS at hP
            rw [if_pos hm] at hP
            by_cases c6 : rank ≤ r
            · rw [if_pos c6] at hP
              simp (maxSteps := 200000) -implicitDefEqProofs only [KA, KB, KC, KD, KE, KF, eq_self, ne_eq, ↓reduceIte, Nat.reduceLT, Nat.reduceEqDiff, Nat.reduceAdd, Nat.reduceLeDiff, Nat.reduceSub, Nat.reduceMul, reduceCtorEq, hg1, c6]
              exact hP _ v1 hs1 f1 (fun j hj => .inr (i1 j hj))
            · rw [if_neg c6] at hP
              simp (maxSteps := 200000) -implicitDefEqProofs only [KA, KB, KC, KD, KE, KF, eq_self, ne_eq, ↓reduceIte, Nat.reduceLT, Nat.reduceEqDiff, Nat.reduceAdd, Nat.reduceLeDiff, Nat.reduceSub, Nat.reduceMul, reduceCtorEq, hg1, c6]
              have hlenK : ∀ h' : Hp, lenT h' .sl (.v (.c v1)) = some ((keepN L node).length : Int) := fun h' => by rw [hs1.2.1.sl.len h', List.length_map]
              have hlt1 : (keepN L node).Pairwise ltP := hi.lt.sublist (keepN_sub L node)
              have hne1 := keepN_ne (L := L) (node := node)
              refine loop_rd (callW_mono N _) (RhI h1 s node r now (keepN L node)) (n := (keepN L node).length) ⟨0, _, _, rfl, by omega, by omega, by simp, rfl, rfl, rfl, rfl, rfl⟩ ?_
              rintro n st ⟨i, l, lc, rfl, hii, hn, hall, e0, e1, e2, e3, e9⟩
              have stop : (∀ y ∈ (keepN L node).drop i, ¬ ltP y ⟨r, node, now⟩) ∨ (∃ y, (i : Int) < (keepN L node).length ∧ (keepN L node)[i]? = some y ∧ ltP y ⟨r, node, now⟩) := by
                by_cases hlt : i < (keepN L node).length
                · obtain ⟨y, hy⟩ : ∃ y, (keepN L node)[i]? = some y := ⟨_, List.getElem?_eq_getElem hlt⟩
                  by_cases c : ltP y ⟨r, node, now⟩
                  · exact .inr ⟨y, by omega, hy, c⟩
                  · left
                    intro z hz
                    have hdr : (keepN L node).drop i = y :: (keepN L node).drop (i + 1) := by
                      rw [List.drop_eq_getElem_cons hlt]
                      rw [List.getElem?_eq_getElem hlt] at hy
                      injection hy with hy
                      rw [hy]
                    have hpw := hlt1.sublist (List.drop_sublist i _)
                    rw [hdr] at hz hpw
                    rcases List.mem_cons.mp hz with rfl | hz
                    · exact c
                    · have h2 := (List.pairwise_cons.mp hpw).1 z hz
                      intro h3
                      exact c (ltP_trans _ _ _ h2 h3)
                · left
                  rw [List.drop_of_length_le (by omega)]
                  simp
              rcases stop with stop | ⟨y, hlt, hy, hyx⟩
              · -- here
                have hins := part_at (x := ⟨r, node, now⟩) hall stop
                have hlenM : (keepN L node).length = ((keepN L node).map encR).length := by simp
                have hfR := Fm.reserve (fun _ => False) h1 1
                have hsR := hs1.new hfR
                have hgR := hsR.1
                have hv1 : ∀ j, ownId v1 j → j < h1.n := fun j hj => hs1.2.1.lt hj
                obtain ⟨va, pa, oa, ida⟩ := hsR.2.1.pre (m := (i : Int)) (by omega) (by omega)
                obtain ⟨vb, pb, pbm, sb, idb⟩ := hsR.2.1.suf (m := (i : Int)) (by omega) (by omega)
                have o0 : Ow (h1.reserve 1) 3 .nils ([] : List (List CV)) := rfl
                have ti : (i : Int).toNat = i := by omega
                rw [ti] at oa sb
                have hlA : (((keepN L node).map encR).take i).length ≤ 3 := by rw [List.length_take, List.length_map]; omega
                have hlB : (((keepN L node).map encR).drop i).length ≤ 3 := by rw [List.length_drop, List.length_map]; omega
                obtain ⟨u1, h2, f2, o2, m2, d2⟩ := o0.app0 (lc := []) (oa.sl.read (lc := [])) (bytes := 24) (by simp only [room, List.length_nil]; omega)
                have hnR : (h1.reserve 1).n = h1.n + 1 := n_reserve _ _
                have hu1 : ∀ j, ownId u1 j → h1.n + 1 ≤ j := fun j hj => (d2 j hj).elim (fun e => e.elim) (fun e => by omega)
                have hg2 := m2.some hgR (fun e => e)
                have hd2 := m2.some (dead_one h1) (fun e => e)
                have hs2 := pbm h2 (m2.mono (fun _ _ e => e.elim))
                obtain ⟨h3, hh3⟩ : ∃ h3, h3 = h2.put h1.n (.rows true 3 0 0 [[.int .i64 node, .int .i64 r, .int .i64 now]]) := ⟨_, rfl⟩
                have m3 : Fm (fun j => j = h1.n) h2 h3 := by rw [hh3]; exact Fm.put _ _ rfl
                have hg3 := m3.some hg2 (fun e => by have := f1.n; omega)
                have hl3 : h3.g h1.n = some (.rows true 3 0 0 [[.int .i64 node, .int .i64 r, .int .i64 now]]) := by rw [hh3, g_put_eq, hd2]; rfl
                have hsl3 : SL h3 3 (.sl h1.n 0 0 1 (some 1)) [[.int .i64 node, .int .i64 r, .int .i64 now]] := ⟨true, 0, 0, _, hl3, Nat.le_refl _, Nat.le_refl _, rfl⟩
                have o3 := o2.mono m3 (fun j hj e => by have := hu1 j hj; omega)
                rw [List.nil_append] at o3
                obtain ⟨u2, h4, f4, o4, m4, d4⟩ := o3.app0 (lc := []) (hsl3.read (lc := [])) (bytes := 24) (by simp only [room, List.length_singleton]; omega)
                have hn3 : h1.n + 1 ≤ h3.n := by have := m3.n; have := m2.n; omega
                have hg4 := m4.some hg3 (fun e => by have := hu1 _ e; have := f1.n; omega)
                have mR4 : Fm (fun j => ¬ ownId v1 j) (h1.reserve 1) h4 := ((m2.mono (S' := fun j => ¬ ownId v1 j) (fun _ _ e => e.elim)).comp m3 (fun j _ e e2 => by have := hv1 j e2; omega)).comp m4 (fun j _ e e2 => by have := hv1 j e2; have := hu1 j e; omega)
                have hs4 := pbm h4 mR4
                have sb4 : SL h4 3 vb _ := sb.mono mR4 (fun id tok off len cap e e2 => e2 ((idb id).mp (by rw [e]; rfl)))
                have hu2 : ∀ j, ownId u2 j → h1.n + 1 ≤ j := fun j hj => (d4 j hj).elim (hu1 j) (fun e => by omega)
                obtain ⟨u3, h5, f5, o5, m5, d5⟩ := o4.app0 (lc := []) (sb4.read (lc := [])) (bytes := 24) (by rw [List.length_append]; simp only [room, List.length_singleton]; omega)
                have hu3 : ∀ j, ownId u3 j → h1.n + 1 ≤ j := fun j hj => (d5 j hj).elim (hu2 j) (fun e => by have := m4.n; omega)
                have hg5 := m5.some hg4 (fun e => by have := hu2 _ e; have := f1.n; omega)
                have o5' : Ow h5 3 u3 ((insP ⟨r, node, now⟩ (keepN L node)).map encR) := by
                  rw [hins]
                  simpa [encR] using o5
                have hfold3 := hh3.symm
                obtain ⟨h6, hh6⟩ : ∃ h6, h6 = h5.put s (.rows true 3 0 0 [[.int .i64 me, .int .i64 rank, u3]]) := ⟨_, rfl⟩
                have hn1 := f1.n
                have hne3 : ¬ ownId u3 s := fun e => by have := hu3 _ e; omega
                have hs6 : RS h6 s me rank u3 (insP ⟨r, node, now⟩ (keepN L node)) := by rw [hh6]; exact RS.set hg5 o5' hne3
                have m6 : Fm (fun j => j = s) h5 h6 := by rw [hh6]; exact Fm.put _ _ rfl
                have hfold6 := hh6.symm
                have hf06 : Fm (fun j => j = s) h h6 := ((((f1.comp hfR (fun _ _ e => e.elim)).comp m2 (fun _ _ e => e.elim)).comp m3 (fun j hj e => by omega)).comp m4 (fun j hj e => by have := hu1 j e; omega)).comp m5 (fun j hj e => by have := hu2 j e; omega) |>.comp m6 (fun j _ e => e)
                have ways : (¬ (i : Int) < (keepN L node).length) ∨ ((i : Int) < (keepN L node).length ∧ ∃ (y : Pr) (p1 p2 p3 : Nat), iaddrT h1 3 (.v (.c v1)) i = some (.v (.c (.ptr p1 p2 p3 0))) ∧ rowO (h1.g p1) p2 p3 = some [.int .i64 y.n, .int .i64 y.r, .int .i64 y.h] ∧ ¬ (y.r < r) ∧ ((decide (y.r = r) = true ∧ ¬ (y.n < node)) ∨ ¬ (y.r = r))) := by
                  by_cases hlt : (i : Int) < (keepN L node).length
                  · right
                    have hil : i < (keepN L node).length := by omega
                    obtain ⟨y, hy⟩ : ∃ y, (keepN L node)[i]? = some y := ⟨_, List.getElem?_eq_getElem hil⟩
                    have hrow : ((keepN L node).map encR)[(i : Int).toNat]? = some (encR y) := by simp [hy]
                    obtain ⟨p1, p2, p3, a1, a2⟩ := hs1.2.1.sl.at (by omega) hrow
                    have hn1 := stop y (by
                      rw [List.drop_eq_getElem_cons hil]
                      rw [List.getElem?_eq_getElem hil] at hy
                      injection hy with hy
                      rw [hy]; simp)
                    unfold ltP at hn1
                    simp only at hn1
                    refine ⟨hlt, y, p1, p2, p3, a1, a2, by omega, ?_⟩
                    by_cases c : y.r = r
                    · exact .inl ⟨decide_eq_true c, by omega⟩
                    · exact .inr c
                  · exact .inl hlt
                have hlenM : ∀ h' : Hp, lenT h' .sl (.v (.c u3)) = some ((insP ⟨r, node, now⟩ (keepN L node)).length : Int) := fun h' => by rw [o5'.sl.len h', List.length_map]
                have hg6 := hs6.1
                rcases ways with hlt | ⟨hlt, y, p1, p2, p3, a1, a2, c7, ⟨d8, c9⟩ | c8⟩
                all_goals first | simp (maxSteps := 200000) -implicitDefEqProofs only [KA, KB, KC, KD, KE, KF, eq_self, ne_eq, ↓reduceIte, Nat.reduceLT, Nat.reduceEqDiff, Nat.reduceAdd, Nat.reduceLeDiff, Nat.reduceSub, Nat.reduceMul, reduceCtorEq, e0, e1, e2, e3, e9, hg1, hlenK, hlt, a1, a2, c7, d8, c9, hgR, pa, pb, f2, hg2, hs2, hd2, hfold3, f4, hg4, hs4, f5, hg5, hfold6] | simp (maxSteps := 200000) -implicitDefEqProofs only [KA, KB, KC, KD, KE, KF, eq_self, ne_eq, ↓reduceIte, Nat.reduceLT, Nat.reduceEqDiff, Nat.reduceAdd, Nat.reduceLeDiff, Nat.reduceSub, Nat.reduceMul, reduceCtorEq, e0, e1, e2, e3, e9, hg1, hlenK, hlt, a1, a2, c7, c8, hgR, pa, pb, f2, hg2, hs2, hd2, hfold3, f4, hg4, hs4, f5, hg5, hfold6] | simp (maxSteps := 200000) -implicitDefEqProofs only [KA, KB, KC, KD, KE, KF, eq_self, ne_eq, ↓reduceIte, Nat.reduceLT, Nat.reduceEqDiff, Nat.reduceAdd, Nat.reduceLeDiff, Nat.reduceSub, Nat.reduceMul, reduceCtorEq, e0, e1, e2, e3, e9, hg1, hlenK, hlt, hgR, pa, pb, f2, hg2, hs2, hd2, hfold3, f4, hg4, hs4, f5, hg5, hfold6]
                all_goals
                  clear e0 e1 e2 e3 e9
                  obtain ⟨h7, hh7⟩ : ∃ h7, h7 = h6.put s (.rows true 3 0 0 [[.int .i64 me, .int .i64 (min rank (r + 1)), u3]]) := ⟨_, rfl⟩
                  have hs7 : RS h7 s me (min rank (r + 1)) u3 (insP ⟨r, node, now⟩ (keepN L node)) := by rw [hh7]; exact RS.set hg6 hs6.2.1 hne3
                  have m7 : Fm (fun j => j = s) h6 h7 := by rw [hh7]; exact Fm.put _ _ rfl
                  have hf07 := hf06.comp m7 (fun j _ e => e)
                  have hfold7 := hh7.symm
                  have hg7 := hs7.1
                  have hwr := wrap_i64 (n := r + 1) (by omega)
                  simp (maxSteps := 200000) -implicitDefEqProofs only [KA, KB, KC, KD, KE, KF, eq_self, ne_eq, ↓reduceIte, Nat.reduceLT, Nat.reduceEqDiff, Nat.reduceAdd, Nat.reduceLeDiff, Nat.reduceSub, Nat.reduceMul, reduceCtorEq, hg6, hwr, hfold7, hg7, hlenM]
                  have hML : (insP ⟨r, node, now⟩ (keepN L node)).length ≤ 4 := by rw [(insP_perm _ _).length_eq, List.length_append, List.length_singleton]; omega
                  refine loop_rd (callW_mono N _) (RhJ h7 s node (min rank (r + 1)) u3 (insP ⟨r, node, now⟩ (keepN L node))) (n := (insP ⟨r, node, now⟩ (keepN L node)).length) ⟨0, .nils, h7, _, _, rfl, by omega, by omega, rfl, Fm.refl _ _, fun _ e => e.elim, rfl, rfl, rfl, rfl, rfl, rfl⟩ ?_
                  rintro n st ⟨j, w, h8, l, lc, rfl, hj, hn8, ow8, f8, id8, e0, e1, e10, e128, e129, e130⟩
                  have hs8 := hs7.new f8
                  have hg8 := hs8.1
                  by_cases hltj : (j : Int) < (insP ⟨r, node, now⟩ (keepN L node)).length
                  · have hjl : j < (insP ⟨r, node, now⟩ (keepN L node)).length := by omega
                    obtain ⟨z, hz⟩ : ∃ z, (insP ⟨r, node, now⟩ (keepN L node))[j]? = some z := ⟨_, List.getElem?_eq_getElem hjl⟩
                    have hrow : ((insP ⟨r, node, now⟩ (keepN L node)).map encR)[(j : Int).toNat]? = some (encR z) := by simp [hz]
                    obtain ⟨q1, q2, q3, b1, b2⟩ := hs8.2.1.sl.at (by omega) hrow
                    rw [show encR z = [.int .i64 z.n, .int .i64 z.r, .int .i64 z.h] from rfl] at b2
                    have hwj := wrap_i64 (n := (j : Int) + 1) (by omega)
                    have hlw : ((((insP ⟨r, node, now⟩ (keepN L node)).take j).filter fun y => !decide (min rank (r + 1) ≤ y.r)).take 3).length ≤ 3 := List.length_take_le _ _
                    have hlenW : ∀ h' : Hp, lenT h' .sl (.v (.c w)) = some (((((insP ⟨r, node, now⟩ (keepN L node)).take j).filter fun y => !decide (min rank (r + 1) ≤ y.r)).take 3).length : Int) := fun h' => by rw [ow8.sl.len h', List.length_map]
                    have hsnoc : (((insP ⟨r, node, now⟩ (keepN L node)).take (j + 1)).filter fun y => !decide (min rank (r + 1) ≤ y.r)) = (((insP ⟨r, node, now⟩ (keepN L node)).take j).filter fun y => !decide (min rank (r + 1) ≤ y.r)) ++ (if min rank (r + 1) ≤ z.r then [] else [z]) := by
                      rw [take_snoc hz, List.filter_append]
                      congr 1
                      by_cases c : min rank (r + 1) ≤ z.r <;> simp [List.filter_cons, c]
                    generalize ((insP ⟨r, node, now⟩ (keepN L node)).take j).filter (fun y => !decide (min rank (r + 1) ≤ y.r)) = F at *
                    by_cases c1 : z.r < min rank (r + 1)
                    · rw [if_neg (by omega)] at hsnoc
                      by_cases c2 : ((F.take 3).length : Int) < 3
                      · obtain ⟨v', h'', g1, g2, g3, g4⟩ := ow8.app (lc := [[.int .i64 z.n, .int .i64 z.r, .int .i64 z.h], [.int .i64 z.n, .int .i64 z.r, .int .i64 z.h]]) (x := .lsl 1 1) (xs := [[.int .i64 z.n, .int .i64 z.r, .int .i64 z.h]]) rfl (by simp) (bytes := 24) (by rw [List.length_map]; simp only [room, List.length_singleton]; omega)
                        simp (maxSteps := 200000) -implicitDefEqProofs only [KA, KB, KC, KD, KE, KF, eq_self, ne_eq, ↓reduceIte, Nat.reduceLT, Nat.reduceEqDiff, Nat.reduceAdd, Nat.reduceLeDiff, Nat.reduceSub, Nat.reduceMul, reduceCtorEq, e0, e1, e10, e128, e129, e130, hltj, b1, b2, hg8, c1, hlenW, c2, g1, hwj, rd_n]
                        refine ⟨n - 1, by omega, j + 1, v', h'', _, _, rfl, by omega, by omega, ?_, f8.fresh g3 id8, (fun j hj => (g4 j hj).elim (id8 j) (fun h => Nat.le_trans f8.n h)), rfl, rfl, rfl, rfl, rfl, rfl⟩
                        rw [hsnoc]
                        have hF : F.length < 3 := by rw [List.length_take] at c2; omega
                        rw [List.take_of_length_le (by omega)] at g2
                        rw [List.take_of_length_le (by rw [List.length_append, List.length_singleton]; omega)]
                        simpa [encR] using g2
                      · simp (maxSteps := 200000) -implicitDefEqProofs only [KA, KB, KC, KD, KE, KF, eq_self, ne_eq, ↓reduceIte, Nat.reduceLT, Nat.reduceEqDiff, Nat.reduceAdd, Nat.reduceLeDiff, Nat.reduceSub, Nat.reduceMul, reduceCtorEq, e0, e1, e10, e128, e129, e130, hltj, b1, b2, hg8, c1, hlenW, c2, hwj, rd_n]
                        refine ⟨n - 1, by omega, j + 1, w, h8, _, _, rfl, by omega, by omega, ?_, f8, id8, rfl, rfl, rfl, rfl, rfl, rfl⟩
                        rw [hsnoc]
                        have hF : 3 ≤ F.length := by rw [List.length_take] at c2; omega
                        rw [List.take_append_of_le_length hF]
                        exact ow8
                    · rw [if_pos (by omega), List.append_nil] at hsnoc
                      simp (maxSteps := 200000) -implicitDefEqProofs only [KA, KB, KC, KD, KE, KF, eq_self, ne_eq, ↓reduceIte, Nat.reduceLT, Nat.reduceEqDiff, Nat.reduceAdd, Nat.reduceLeDiff, Nat.reduceSub, Nat.reduceMul, reduceCtorEq, e0, e1, e10, e128, e129, e130, hltj, b1, b2, hg8, c1, hwj, rd_n]
                      refine ⟨n - 1, by omega, j + 1, w, h8, _, _, rfl, by omega, by omega, ?_, f8, id8, rfl, rfl, rfl, rfl, rfl, rfl⟩
                      rw [hsnoc]
                      exact ow8
                  · rw [List.take_of_length_le (l := insP ⟨r, node, now⟩ (keepN L node)) (by omega)] at ow8
                    have hne8 : ¬ ownId w s := fun e => by have := id8 s e; have := hf07.n; omega
                    have hs9 : RS (h8.put s (.rows true 3 0 0 [[.int .i64 me, .int .i64 (min rank (r + 1)), w]])) s me (min rank (r + 1)) w (hearL rank L ⟨r, node, now⟩) := RS.set hg8 ow8 hne8
                    simp (maxSteps := 200000) -implicitDefEqProofs only [KA, KB, KC, KD, KE, KF, eq_self, ne_eq, ↓reduceIte, Nat.reduceLT, Nat.reduceEqDiff, Nat.reduceAdd, Nat.reduceLeDiff, Nat.reduceSub, Nat.reduceMul, reduceCtorEq, e0, e1, e10, e128, e129, e130, hltj, hg8]
                    refine rrankOf_ok (k := k) hs9 (Nat.le_trans (List.length_take_le _ _) (by omega)) ?_
                    simp (maxSteps := 200000) -implicitDefEqProofs only [KA, KB, KC, KD, KE, KF, eq_self, ne_eq, ↓reduceIte, Nat.reduceLT, Nat.reduceEqDiff, Nat.reduceAdd, Nat.reduceLeDiff, Nat.reduceSub, Nat.reduceMul, reduceCtorEq]
                    exact hP _ w hs9 ((hf07.comp f8 (fun _ _ e => e.elim)).comp (Fm.put (S := fun j => j = s) _ _ rfl) (fun j _ e => e)) (fun j hj => .inr (by have := id8 j hj; have := hf07.n; omega))
              · have hrow : ((keepN L node).map encR)[(i : Int).toNat]? = some (encR y) := by simp [hy]
                obtain ⟨p1, p2, p3, a1, a2⟩ := hs1.2.1.sl.at (by omega) hrow
                rw [show encR y = [.int .i64 y.n, .int .i64 y.r, .int .i64 y.h] from rfl] at a2
                have hw := wrap_i64 (n := (i : Int) + 1) (by omega)
                have hyx' : y.r < r ∨ (y.r = r ∧ y.n < node) := hyx
                have nxt : ∀ z ∈ (keepN L node).take (i + 1), ltP z ⟨r, node, now⟩ := by
                  intro z hz
                  rw [take_snoc hy] at hz
                  rcases List.mem_append.mp hz with hz | hz
                  · exact hall z hz
                  · simp at hz; subst hz; exact hyx
                rcases hyx' with c7 | ⟨c8, c9⟩
                · simp (maxSteps := 200000) -implicitDefEqProofs only [KA, KB, KC, KD, KE, KF, eq_self, ne_eq, ↓reduceIte, Nat.reduceLT, Nat.reduceEqDiff, Nat.reduceAdd, Nat.reduceLeDiff, Nat.reduceSub, Nat.reduceMul, reduceCtorEq, e0, e1, e2, e3, e9, hg1, hlenK, hlt, a1, a2, c7, hw, rd_n]
                  exact ⟨n - 1, by omega, i + 1, _, _, rfl, by omega, by omega, nxt, rfl, rfl, rfl, rfl, rfl⟩
                · have c7 : ¬ (y.r < r) := by omega
                  have d8 : decide (y.r = r) = true := decide_eq_true c8
                  simp (maxSteps := 200000) -implicitDefEqProofs only [KA, KB, KC, KD, KE, KF, eq_self, ne_eq, ↓reduceIte, Nat.reduceLT, Nat.reduceEqDiff, Nat.reduceAdd, Nat.reduceLeDiff, Nat.reduceSub, Nat.reduceMul, reduceCtorEq, e0, e1, e2, e3, e9, hg1, hlenK, hlt, a1, a2, c7, d8, c9, hw, rd_n]
                  exact ⟨n - 1, by omega, i + 1, _, _, rfl, by omega, by omega, nxt, rfl, rfl, rfl, rfl, rfl⟩
  · simp (maxSteps := 200000) -implicitDefEqProofs only [KA, KB, KC, KD, KE, KF, eq_self, ne_eq, ↓reduceIte, Nat.reduceLT, Nat.reduceEqDiff, Nat.reduceAdd, Nat.reduceLeDiff, Nat.reduceSub, Nat.reduceMul, reduceCtorEq, c1]
    exact no (fun h => by have := h.1; omega)
end
end Camp

/-! CvParD -/
namespace Camp
open Go
set_option linter.unusedVariables false
set_option linter.unusedSimpArgs false
set_option maxHeartbeats 4000000
def Hb (L : List Pr) : Prop := ∀ x ∈ L, x.h ≤ 9223372036854775807
def isGone (now loss : Int) (x : Pr) : Bool := decide (¬ now < 0 ∧ x.h ≤ lastP now loss)
theorem gone_eq (L : List Pr) (now loss : Int) : goneP L now loss = L.filter (isGone now loss) := by
  unfold goneP
  split
  · rename_i c
    rw [eq_comm, List.filter_eq_nil_iff]
    intro a _
    simp [isGone, c]
  · rename_i c
    congr 1
    funext x
    simp [isGone, c]
theorem kept_eq (L : List Pr) (now loss : Int) : keptP L now loss = L.filter fun x => !isGone now loss x := by
  unfold keptP
  split
  · rename_i c
    rw [eq_comm, List.filter_eq_self]
    intro a _
    simp [isGone, c]
  · rename_i c
    congr 1
    funext x
    simp [isGone, c]
def flagL (S : List Int) : List CV := (List.range 16).map fun b : Nat => .bool (decide ((b : Int) ∈ S))
theorem flag_len (S : List Int) : (flagL S).length = 16 := by simp [flagL]
theorem flag_put {S : List Int} {x : Int} (hb : 0 ≤ x ∧ x < 16) : (flagL S).take (x.toNat * 1) ++ .bool true :: (flagL S).drop (x.toNat * 1 + 1) = flagL (S ++ [x]) := by
  have hn : ((x.toNat : Nat) : Int) = x := by omega
  have e : decide (((x.toNat : Nat) : Int) ∈ S ++ [x]) = true := decide_eq_true (by rw [hn]; simp)
  have key := set16 (fun b : Nat => .bool (decide ((b : Int) ∈ S))) (fun b : Nat => .bool (decide ((b : Int) ∈ S ++ [x]))) (b := x.toNat) (by omega) (fun j hj hne => by
    have : ((j : Int) ∈ S ++ [x]) ↔ ((j : Int) ∈ S) := by
      rw [List.mem_append]
      constructor
      · rintro (h | h)
        · exact h
        · have h2 : (j : Int) = x := List.mem_singleton.mp h
          omega
      · exact .inl
    simp only [this])
  rw [e] at key
  exact key
theorem flag_get (S : List Int) {b : Nat} (h : b < 16) : (flagL S)[b * 1]? = some (.bool (decide ((b : Int) ∈ S))) := by
  unfold flagL
  rw [Nat.mul_one, List.getElem?_map, List.getElem?_range (by omega)]
  rfl
def outL (S : List Int) (n : Nat) : List Int := ((List.range n).filter fun b : Nat => decide ((b : Int) ∈ S)).map fun b : Nat => (b : Int)
theorem outL_succ (S : List Int) (n : Nat) : outL S (n + 1) = outL S n ++ (if (n : Int) ∈ S then [(n : Int)] else []) := by
  unfold outL
  rw [List.range_succ, List.filter_append, List.map_append]
  congr 1
  by_cases h : (n : Int) ∈ S
  · simp [List.filter_cons, h]
  · rw [if_neg h]
    simp only [List.filter_cons, List.filter_nil, decide_eq_true_eq, h, if_false, List.map_nil]
theorem outL_lt (S : List Int) (n : Nat) : (outL S n).Pairwise (· < ·) := by
  unfold outL
  rw [List.pairwise_map]
  refine List.Pairwise.filter _ ?_
  exact (List.pairwise_lt_range).imp fun h => by omega
theorem mem_outL {S : List Int} {n : Nat} {x : Int} : x ∈ outL S n ↔ 0 ≤ x ∧ x < n ∧ x ∈ S := by
  simp only [outL, List.mem_map, List.mem_filter, List.mem_range, decide_eq_true_eq]
  constructor
  · rintro ⟨b, ⟨h1, h2⟩, rfl⟩; exact ⟨by omega, by omega, h2⟩
  · rintro ⟨h1, h2, h3⟩; exact ⟨x.toNat, ⟨by omega, by rwa [show ((x.toNat : Nat) : Int) = x by omega]⟩, by omega⟩
theorem outL_len (S : List Int) (n : Nat) : (outL S n).length ≤ n := by
  unfold outL
  have := List.length_filter_le (fun b : Nat => decide ((b : Int) ∈ S)) (List.range n)
  simpa using this
section
variable {k : Nat} {h : Hp} {P : AV → Hp → Prop} {s : Nat} {me rank : Int} {v : CV} {L : List Pr}
def RoI (h : Hp) (s : Nat) (now loss : Int) (v : CV) (L : List Pr) (n : Nat) (st : St) : Prop :=
  ∃ (i : Nat) (w : CV) (h' : Hp) (l : List (Nat × TV)), st = ST 59 l [flagL (((L.take i).filter (isGone now loss)).map (·.n))] h' ∧ i ≤ L.length ∧ n = L.length - i ∧ Ow h' 3 w (((L.take i).filter fun x => !isGone now loss x).map encR) ∧ Fn h h' ∧ (∀ j, ownId w j → h.n ≤ j) ∧
    lk l 0 = .v (.c (.ptr s 0 0 0)) ∧ lk l 1 = .v (.c (.int .i64 now)) ∧ lk l 2 = .v (.c (.int .i64 loss)) ∧ lk l 7 = .lp 0 0 ∧ lk l 8 = .v (.c w) ∧ lk l 18 = .v (.c v) ∧ lk l 19 = .v (.c (.int .i64 L.length)) ∧ lk l 20 = .v (.c (.int .i64 i))
def RoJ (h : Hp) (S : List Int) (n : Nat) (st : St) : Prop :=
  ∃ (i : Nat) (w : CV) (h' : Hp) (l : List (Nat × TV)) (lc : List (List CV)), st = ST 59 l lc h' ∧ i ≤ 16 ∧ n = 16 - i ∧ Ow h' 1 w ((outL S i).map encI) ∧ Fn h h' ∧ (∀ j, ownId w j → h.n ≤ j) ∧
    lk l 11 = .v (.c w) ∧ lk l 47 = .v (.agg (flagL S)) ∧ lk l 48 = .v (.c (.int .i64 i))
set_option maxRecDepth 100000 in
theorem rold_ok {now loss : Int} (hs : RS h s me rank v L) (hi : Iv me rank L) (hb : Hb L) (hnow : -9223372036854775808 ≤ now ∧ now ≤ 9223372036854775807) (hloss : loss ≤ 9223372036854775807)
    (hP : ∀ h' w u (T : List Int), RS h' s me rank w (keptP L now loss) → SL h' 1 u (T.map encI) → T.Pairwise (· < ·) → (∀ x, x ∈ T ↔ x ∈ (goneP L now loss).map (·.n)) → Fm (fun j => j = s) h h' → (∀ j, ownId w j → h.n ≤ j) → P (.c u) h') :
    callW N (k + 1) 57 [.c (.ptr s 0 0 0), .c (.int .i64 now), .c (.int .i64 loss)] h P := by
  have hg := hs.1
  have hsn := lt_of_g hg
  have hlen : ∀ h' : Hp, lenT h' .sl (.v (.c v)) = some (L.length : Int) := fun h' => by rw [hs.2.1.sl.len h', List.length_map]
  have hl3 := hi.len
  refine call_intro rfl (by simp only [List.length_cons, List.length_nil]; omega) ?_
  simp (maxSteps := 200000) -implicitDefEqProofs only [KA, KB, KC, KD, KE, KF, eq_self, ne_eq, ↓reduceIte, Nat.reduceLT, Nat.reduceEqDiff, Nat.reduceAdd, Nat.reduceLeDiff, Nat.reduceSub, Nat.reduceMul, reduceCtorEq, hg, hlen]
  refine loop_rd (callW_mono N _) (RoI h s now loss v L) (n := L.length) ⟨0, .nils, h, _, rfl, by omega, by omega, rfl, Fm.refl _ _, fun _ h => h.elim, rfl, rfl, rfl, rfl, rfl, rfl, rfl, rfl⟩ ?_
  rintro n st ⟨i, w, h', l, rfl, hii, hn, how, hfn, hid, e0, e1, e2, e7, e8, e18, e19, e20⟩
  have hsg := hfn.some hg (fun h => h)
  by_cases hlt : (i : Int) < L.length
  · have hil : i < L.length := by omega
    obtain ⟨x, hx⟩ : ∃ x, L[i]? = some x := ⟨_, List.getElem?_eq_getElem hil⟩
    have hr : (L.map encR)[(i : Int).toNat]? = some (encR x) := by simp [hx]
    obtain ⟨p1, p2, p3, a1, a2⟩ := (hs.2.1.sl.new hfn).at (by omega) hr
    rw [show encR x = [.int .i64 x.n, .int .i64 x.r, .int .i64 x.h] from rfl] at a2
    have hw := wrap_i64 (n := (i : Int) + 1) (by omega)
    have hxm := hi.mem x (List.mem_of_getElem? hx)
    have hxb := hb x (List.mem_of_getElem? hx)
    have hgs : ((L.take (i + 1)).filter (isGone now loss)).map (·.n) = ((L.take i).filter (isGone now loss)).map (·.n) ++ (if isGone now loss x = true then [x.n] else []) := by
      rw [take_snoc hx, List.filter_append, List.map_append]
      congr 1
      by_cases c : isGone now loss x = true <;> simp [List.filter_cons, c]
    have hks : ((L.take (i + 1)).filter fun x => !isGone now loss x) = ((L.take i).filter fun x => !isGone now loss x) ++ (if isGone now loss x = true then [] else [x]) := by
      rw [take_snoc hx, List.filter_append]
      congr 1
      by_cases c : isGone now loss x = true <;> simp [List.filter_cons, c]
    have hkl : ((L.take i).filter fun x => !isGone now loss x).length ≤ 3 := Nat.le_trans (List.filter_sublist).length_le (by rw [List.length_take]; omega)
    have hfl := flag_len (((L.take i).filter (isGone now loss)).map (·.n))
    by_cases c : isGone now loss x = true
    · rw [if_pos c] at hgs hks
      have hc : ¬ now < 0 ∧ x.h ≤ lastP now loss := by simpa [isGone] using c
      unfold lastP at hc
      have z1 : (0 : Int) ≤ now := by omega
      have w2 := wrap_i64 (n := now - x.h) (by omega)
      have z2 : max loss 1 ≤ now - x.h := by omega
      have ia := iaA_l (n := 16) (sz := 1) (b := 0) (off := 0) (i := x.n) (by omega)
      have put := flag_put (S := ((L.take i).filter (isGone now loss)).map (·.n)) (x := x.n) (by omega)
      rw [← hgs] at put
      generalize hF : flagL (((L.take i).filter (isGone now loss)).map (·.n)) = F at *
      have fin : ∀ (l : List (Nat × TV)) (cc : List CV), cc = flagL (((L.take (i + 1)).filter (isGone now loss)).map (·.n)) → lk l 0 = .v (.c (.ptr s 0 0 0)) → lk l 1 = .v (.c (.int .i64 now)) → lk l 2 = .v (.c (.int .i64 loss)) → lk l 7 = .lp 0 0 → lk l 8 = .v (.c w) → lk l 18 = .v (.c v) → lk l 19 = .v (.c (.int .i64 L.length)) → lk l 20 = .v (.c (.int .i64 ((i : Int) + 1))) →
          ∃ m, m < n ∧ RoI h s now loss v L m (ST 59 l [cc] h') := by
        rintro l cc rfl j0 j1 j2 j7 j8 j18 j19 j20
        exact ⟨n - 1, by omega, i + 1, w, h', l, rfl, by omega, by omega, by rw [hks, List.append_nil]; exact how, hfn, hid, j0, j1, j2, j7, j8, j18, j19, by rw [j20]; rfl⟩
      simp (maxSteps := 200000) -implicitDefEqProofs only [KA, KB, KC, KD, KE, KF, eq_self, ne_eq, ↓reduceIte, Nat.reduceLT, Nat.reduceEqDiff, Nat.reduceAdd, Nat.reduceLeDiff, Nat.reduceSub, Nat.reduceMul, reduceCtorEq, e0, e1, e2, e7, e8, e18, e19, e20, hlt, a1, a2, z1, w2, z2, ia, hw, rd_n]
      exact ⟨by omega, fin _ _ put rfl rfl rfl rfl rfl rfl rfl rfl⟩
    · rw [if_neg c] at hgs hks
      have hc : ¬ (¬ now < 0 ∧ x.h ≤ lastP now loss) := by simpa [isGone] using c
      unfold lastP at hc
      obtain ⟨v', h'', f1, f2, f3, f4⟩ := how.app (lc := [flagL (((L.take i).filter (isGone now loss)).map (·.n)), [.int .i64 x.n, .int .i64 x.r, .int .i64 x.h], [.int .i64 x.n, .int .i64 x.r, .int .i64 x.h]]) (x := .lsl 2 1) (xs := [[.int .i64 x.n, .int .i64 x.r, .int .i64 x.h]]) rfl (by simp) (bytes := 24) (by rw [List.length_map]; simp only [room, List.length_singleton]; omega)
      have fin : ∀ (l : List (Nat × TV)), lk l 0 = .v (.c (.ptr s 0 0 0)) → lk l 1 = .v (.c (.int .i64 now)) → lk l 2 = .v (.c (.int .i64 loss)) → lk l 7 = .lp 0 0 → lk l 8 = .v (.c v') → lk l 18 = .v (.c v) → lk l 19 = .v (.c (.int .i64 L.length)) → lk l 20 = .v (.c (.int .i64 ((i : Int) + 1))) →
          ∃ m, m < n ∧ RoI h s now loss v L m (ST 59 l [flagL (((L.take i).filter (isGone now loss)).map (·.n))] h'') := by
        intro l j0 j1 j2 j7 j8 j18 j19 j20
        refine ⟨n - 1, by omega, i + 1, v', h'', l, by rw [hgs, List.append_nil], by omega, by omega, ?_, hfn.fresh f3 hid, (fun j hj => (f4 j hj).elim (hid j) (fun h => Nat.le_trans hfn.n h)), j0, j1, j2, j7, j8, j18, j19, by rw [j20]; rfl⟩
        rw [hks]
        simpa [encR] using f2
      generalize hF : flagL (((L.take i).filter (isGone now loss)).map (·.n)) = F at *
      by_cases z1 : (0 : Int) ≤ now
      · have w2 := wrap_i64 (n := now - x.h) (by omega)
        have z2 : ¬ (max loss 1 ≤ now - x.h) := by omega
        simp (maxSteps := 200000) -implicitDefEqProofs only [KA, KB, KC, KD, KE, KF, eq_self, ne_eq, ↓reduceIte, Nat.reduceLT, Nat.reduceEqDiff, Nat.reduceAdd, Nat.reduceLeDiff, Nat.reduceSub, Nat.reduceMul, reduceCtorEq, e0, e1, e2, e7, e8, e18, e19, e20, hlt, a1, a2, z1, w2, z2, f1, hw, rd_n]
        exact fin _ rfl rfl rfl rfl rfl rfl rfl rfl
      · simp (maxSteps := 200000) -implicitDefEqProofs only [KA, KB, KC, KD, KE, KF, eq_self, ne_eq, ↓reduceIte, Nat.reduceLT, Nat.reduceEqDiff, Nat.reduceAdd, Nat.reduceLeDiff, Nat.reduceSub, Nat.reduceMul, reduceCtorEq, e0, e1, e2, e7, e8, e18, e19, e20, hlt, a1, a2, z1, f1, hw, rd_n]
        exact fin _ rfl rfl rfl rfl rfl rfl rfl rfl
  · rw [List.take_of_length_le (by omega)] at how ⊢
    have hne : ¬ ownId w s := fun e => by have := hid s e; omega
    have hs9 := RS.set (me := me) (rank := rank) hsg how hne
    have hf9 : Fm (fun j => j = s) h (h'.put s (.rows true 3 0 0 [[.int .i64 me, .int .i64 rank, w]])) := (hfn.mono (fun _ _ h => h.elim)).comp (Fm.put (S := fun j => j = s) _ _ rfl) (fun j _ e => e)
    rw [← kept_eq] at hs9
    rw [← gone_eq]
    have hfl := flag_len ((goneP L now loss).map (·.n))
    have htk : (flagL ((goneP L now loss).map (·.n))).take 16 = flagL ((goneP L now loss).map (·.n)) := List.take_of_length_le (by omega)
    have hz16 : 16 ≤ (flagL ((goneP L now loss).map (·.n))).length := by omega
    have hmem : ∀ x, x ∈ outL ((goneP L now loss).map (·.n)) 16 ↔ x ∈ (goneP L now loss).map (·.n) := by
      intro x
      rw [mem_outL]
      constructor
      · exact fun h => h.2.2
      · intro hx
        obtain ⟨y, hy, rfl⟩ := List.mem_map.mp hx
        rw [gone_eq] at hy
        have := hi.mem y (List.mem_filter.mp hy).1
        exact ⟨by omega, by omega, hx⟩
    generalize hGG : (goneP L now loss).map (·.n) = G at *
    generalize hF : flagL G = F at *
    simp (maxSteps := 200000) -implicitDefEqProofs only [KA, KB, KC, KD, KE, KF, eq_self, ne_eq, ↓reduceIte, Nat.reduceLT, Nat.reduceEqDiff, Nat.reduceAdd, Nat.reduceLeDiff, Nat.reduceSub, Nat.reduceMul, reduceCtorEq, e0, e1, e2, e7, e8, e18, e19, e20, hlt, hsg, htk, hfl]
    subst hF
    generalize hh9 : h'.put s (.rows true 3 0 0 [[.int .i64 me, .int .i64 rank, w]]) = h9 at *
    refine loop_rd (callW_mono N _) (RoJ h9 G) (n := 16) ⟨0, .nils, h9, _, _, rfl, by omega, by omega, rfl, Fm.refl _ _, fun _ h => h.elim, rfl, rfl, rfl⟩ ?_
    clear e0 e1 e2 e7 e8 e18 e19 e20
    rintro n2 st ⟨j, u, h10, l, lc, rfl, hj, hn2, hou, hf10, hid10, e11, e47, e48⟩
    by_cases hltj : (j : Int) < 16
    · have hjl : j < 16 := by omega
      have r1 := flag_get G hjl
      have z0 : (0 : Int) ≤ j := by omega
      have tj : (j : Int).toNat = j := by omega
      have hlt3 : (j : Int) < ((16 : Nat) : Int) := by omega
      have hwj := wrap_i64 (n := (j : Int) + 1) (by omega)
      have hol := outL_len G j
      have hsucc := outL_succ G j
      by_cases c : (j : Int) ∈ G
      · rw [if_pos c] at hsucc
        obtain ⟨v', h'', f1, f2, f3, f4⟩ := hou.app (lc := [[.int .i64 j]]) (x := .lsl 0 1) (xs := [[.int .i64 j]]) rfl (by simp) (bytes := 8) (by rw [List.length_map]; simp only [room, List.length_singleton]; omega)
        simp (maxSteps := 200000) -implicitDefEqProofs only [KA, KB, KC, KD, KE, KF, eq_self, ne_eq, ↓reduceIte, Nat.reduceLT, Nat.reduceEqDiff, Nat.reduceAdd, Nat.reduceLeDiff, Nat.reduceSub, Nat.reduceMul, reduceCtorEq, e11, e47, e48, hltj, hlt3, z0, tj, r1, c, f1, hwj, rd_n]
        refine ⟨n2 - 1, by omega, j + 1, v', h'', _, _, rfl, by omega, by omega, ?_, hf10.fresh f3 hid10, (fun j hj => (f4 j hj).elim (hid10 j) (fun h => Nat.le_trans hf10.n h)), rfl, rfl, rfl⟩
        rw [hsucc]
        simpa [encI] using f2
      · rw [if_neg c, List.append_nil] at hsucc
        simp (maxSteps := 200000) -implicitDefEqProofs only [KA, KB, KC, KD, KE, KF, eq_self, ne_eq, ↓reduceIte, Nat.reduceLT, Nat.reduceEqDiff, Nat.reduceAdd, Nat.reduceLeDiff, Nat.reduceSub, Nat.reduceMul, reduceCtorEq, e11, e47, e48, hltj, hlt3, z0, tj, r1, c, hwj, rd_n]
        exact ⟨n2 - 1, by omega, j + 1, u, h10, _, _, rfl, by omega, by omega, by rw [hsucc]; exact hou, hf10, hid10, rfl, rfl, rfl⟩
    · have hj16 : j = 16 := by omega
      subst hj16
      simp (maxSteps := 200000) -implicitDefEqProofs only [KA, KB, KC, KD, KE, KF, eq_self, ne_eq, ↓reduceIte, Nat.reduceLT, Nat.reduceEqDiff, Nat.reduceAdd, Nat.reduceLeDiff, Nat.reduceSub, Nat.reduceMul, reduceCtorEq, e11, e47, e48, hltj]
      refine hP _ w u (outL G 16) (hs9.new hf10) hou.sl (outL_lt _ _) hmem (hf9.comp hf10 (fun _ _ e => e.elim)) hid
end
end Camp

/-! CvParE -/
namespace Camp
open Go
set_option linter.unusedVariables false
set_option linter.unusedSimpArgs false
set_option maxHeartbeats 4000000
theorem Hb.sub {L M : List Pr} (h : Hb L) (s : M.Sublist L) : Hb M := fun x hx => h x (s.subset hx)
theorem Hb.kept {L : List Pr} (h : Hb L) (now loss : Int) : Hb (keptP L now loss) := by
  unfold keptP
  split
  · exact h
  · exact h.sub List.filter_sublist
theorem Hb.hear {me rank : Int} {L : List Pr} (h : Hb L) {node r now : Int} (hn : now ≤ 9223372036854775807) : Hb (hearS me rank L node r now).2.1 := by
  unfold hearS
  split
  · split
    · exact h.sub (keepN_sub L node)
    · intro x hx
      have hsub : (hearL rank L ⟨r, node, now⟩).Sublist (insP ⟨r, node, now⟩ (keepN L node)) := (List.take_sublist _ _).trans List.filter_sublist
      have hx3 := (insP_perm _ _).mem_iff.mp (hsub.subset hx)
      rcases List.mem_append.mp hx3 with hx3 | hx3
      · exact h x ((keepN_sub L node).subset hx3)
      · simp at hx3
        subst hx3
        exact hn
  · exact h
section
variable {k : Nat} {h : Hp} {P : AV → Hp → Prop}
def PplI (s r : Nat) (ask me : Int) (v : CV) (C : List Cl) (h : Hp) (n : Nat) (st : St) : Prop :=
  ∃ (i : Nat) (rk : Int) (u w : CV) (L : List Pr) (h' : Hp) (l : List (Nat × TV)) (lc : List (List CV)), st = ST 136 l lc h' ∧ i ≤ C.length ∧ n = C.length - i ∧ PS h' s me rk u L ∧ RS h' r me rk w L ∧ Iv me rk L ∧ Hb L ∧ (0 ≤ rk ∧ rk ≤ 255) ∧
    (∀ j, ownId u j → h.n ≤ j) ∧ (∀ j, ownId w j → h.n ≤ j) ∧ (¬ ownId w s ∧ ¬ ownId u r ∧ ∀ j, ownId u j → ¬ ownId w j) ∧ Fn h h' ∧
    lk l 3 = .v (.c (.int .i64 ask)) ∧ lk l 9 = .v (.c (.ptr s 0 0 0)) ∧ lk l 10 = .v (.c (.ptr r 0 0 0)) ∧ lk l 35 = .v (.c v) ∧ lk l 36 = .v (.c (.int .i64 C.length)) ∧ lk l 37 = .v (.c (.int .i64 i))
theorem parentsPlays_ok {me r0 ask : Int} {v : CV} {C : List Cl} (hC : SL h 5 v (C.map encC)) (hok : ∀ c ∈ C, okC c) (hP : ∀ h', P (.c (.bool true)) h') : callW N (k + 9) 52 [.c (.int .i64 me), .c (.int .i64 r0), .c v, .c (.int .i64 ask)] h P := by
  have hlen : ∀ h' : Hp, lenT h' .sl (.v (.c v)) = some (C.length : Int) := fun h' => by rw [hC.len h', List.length_map]
  have bq : ∀ b : Bool, (b == b) = true := fun b => by cases b <;> rfl
  have hd : ∀ x : Int, decide (x = x) = true := fun x => by simp
  refine call_intro rfl (by simp only [List.length_cons, List.length_nil]; omega) ?_
  simp (maxSteps := 200000) -implicitDefEqProofs only [KA, KB, KC, KD, KE, KF, eq_self, ne_eq, ↓reduceIte, Nat.reduceLT, Nat.reduceEqDiff, Nat.reduceAdd, Nat.reduceLeDiff, Nat.reduceSub, Nat.reduceMul, reduceCtorEq]
  by_cases hm : (0 ≤ me ∧ me ≤ 15) ∧ (0 ≤ r0 ∧ r0 ≤ 255)
  · refine pnew_ok (k := k + 6) (fun _ _ h1 s hs1 f1 n1 => ?_) (fun c => absurd hm c)
    simp (maxSteps := 200000) -implicitDefEqProofs only [KA, KB, KC, KD, KE, KF, eq_self, ne_eq, ↓reduceIte, Nat.reduceLT, Nat.reduceEqDiff, Nat.reduceAdd, Nat.reduceLeDiff, Nat.reduceSub, Nat.reduceMul, reduceCtorEq]
    refine rnew_ok (k := k + 6) (fun _ _ h2 r hr2 f2 n2 => ?_) (fun c => absurd hm c)
    have hs2 := hs1.new f2
    have hsr : s ≠ r := by have := lt_of_g hs1.1; omega
    have hsn := n1
    have hrn : h.n ≤ r := Nat.le_trans f1.n n2
    simp (maxSteps := 200000) -implicitDefEqProofs only [KA, KB, KC, KD, KE, KF, eq_self, ne_eq, ↓reduceIte, Nat.reduceLT, Nat.reduceEqDiff, Nat.reduceAdd, Nat.reduceLeDiff, Nat.reduceSub, Nat.reduceMul, reduceCtorEq, bq, hlen]
    refine loop_rd (callW_mono N _) (PplI s r ask me v C h) (n := C.length) ⟨0, r0, .nils, .nils, [], h2, _, _, rfl, by omega, by omega, hs2, hr2, Iv.nil _ _, (fun x hx => by cases hx), hm.2, fun _ e => e.elim, fun _ e => e.elim, ⟨fun e => e, fun e => e, fun _ e => e.elim⟩, f1.trans f2, rfl, rfl, rfl, rfl, rfl, rfl⟩ ?_
    clear hs1 hs2 hr2 f1 f2 n1 n2
    rintro n st ⟨i, rk, u, w, L, h3, l, lc, rfl, hi, hn, hs3, hr3, iv3, hb3, hrk, hidu, hidw, ⟨dj1, dj2, dj3⟩, hf3, e3, e9, e10, e35, e36, e37⟩
    have row : (i : Int) < C.length → ∃ c p1 p2 p3, C[i]? = some c ∧ iaddrT h3 5 (.v (.c v)) i = some (.v (.c (.ptr p1 p2 p3 0))) ∧ rowO (h3.g p1) p2 p3 = some [.bool c.old, .int .i64 c.n, .int .i64 c.r, .int .i64 c.now, .int .i64 c.loss] := by
      intro hlt
      have hil : i < C.length := by omega
      obtain ⟨c, hc⟩ : ∃ c, C[i]? = some c := ⟨_, List.getElem?_eq_getElem hil⟩
      have hr : (C.map encC)[(i : Int).toNat]? = some (encC c) := by simp [hc]
      obtain ⟨p1, p2, p3, a1, a2⟩ := (hC.new hf3).at (by omega) hr
      exact ⟨c, p1, p2, p3, hc, a1, a2⟩
    by_cases go : (i : Int) < C.length ∧ ¬ (300 : Int) ≤ i
    · obtain ⟨hlt, h300⟩ := go
      obtain ⟨⟨old, cn, cr, now, loss⟩, p1, p2, p3, hc, a1, a2⟩ := row hlt
      have hcok := hok _ (List.mem_of_getElem? hc)
      simp only at a2
      have hw := wrap_i64 (n := (i : Int) + 1) (by omega)
      have hs3n := lt_of_g hs3.1
      have hr3n := lt_of_g hr3.1
      cases old
      case' true =>
        simp (maxSteps := 200000) -implicitDefEqProofs only [KA, KB, KC, KD, KE, KF, eq_self, ne_eq, ↓reduceIte, Nat.reduceLT, Nat.reduceEqDiff, Nat.reduceAdd, Nat.reduceLeDiff, Nat.reduceSub, Nat.reduceMul, reduceCtorEq, e3, e9, e10, e35, e36, e37, hlt, a1, a2, h300]
        refine old_ok (k := k + 1) hs3 iv3 hcok.1.2 hcok.2 fun h4 u4 o4 T4 hs4 so4 pT sT f4 i4 j4 => ?_
        have hr4 : RS h4 r me rk w L := hr3.mono f4 (fun e => e.elim (fun e => hsr e.symm) dj2) (fun j hj e => e.elim (fun e => dj1 (e ▸ hj)) (fun e => dj3 j e hj))
        simp (maxSteps := 200000) -implicitDefEqProofs only [KA, KB, KC, KD, KE, KF, eq_self, ne_eq, ↓reduceIte, Nat.reduceLT, Nat.reduceEqDiff, Nat.reduceAdd, Nat.reduceLeDiff, Nat.reduceSub, Nat.reduceMul, reduceCtorEq]
        refine rold_ok (k := k + 7) hr4 iv3 hb3 hcok.1 hcok.2 fun h5 w5 o5 T5 hr5 so5 sT5 mT5 f5 i5 => ?_
        have hTT : T4 = T5 := int_eq sT sT5 fun z => by rw [pT.mem_iff, mT5]
        subst hTT
        have hTl : T4.length ≤ 3 := by rw [pT.length_eq, List.length_map, gone_eq]; exact Nat.le_trans (List.filter_sublist).length_le iv3.len
        have hs5 : PS h5 s me rk u4 (keptP L now loss) := hs4.mono f5 hsr (fun j hj e => by
          subst e
          rcases i4 _ hj with e | e
          · exact dj2 e
          · omega)
        have so4' : SL h5 1 o4 (T4.map encI) := so4.mono f5 (fun id tok off len cap e e2 => by
          have := j4 id (by rw [e]; rfl)
          omega)
        simp (maxSteps := 200000) -implicitDefEqProofs only [KA, KB, KC, KD, KE, KF, eq_self, ne_eq, ↓reduceIte, Nat.reduceLT, Nat.reduceEqDiff, Nat.reduceAdd, Nat.reduceLeDiff, Nat.reduceSub, Nat.reduceMul, reduceCtorEq]
        refine same_ok (k := k + 7) so4' so5 (by omega) ?_
        have iv5 := iv3.kept now loss
        have hb5 := hb3.kept now loss
        have f35 : Fn h h5 := (hf3.comp f4 (fun j hj e => by
          rcases e with e | e
          · omega
          · have := hidu j e; omega)).comp f5 (fun j hj e => by omega)
        have hidu5 : ∀ j, ownId u4 j → h.n ≤ j := fun j hj => (i4 j hj).elim (hidu j) (fun e => Nat.le_trans hf3.n e)
        have hidw5 : ∀ j, ownId w5 j → h.n ≤ j := fun j hj => by have := i5 j hj; have := f4.n; have := hf3.n; omega
        have hdj : ¬ ownId w5 s ∧ ¬ ownId u4 r ∧ ∀ j, ownId u4 j → ¬ ownId w5 j := ⟨fun e => by have := i5 s e; have := f4.n; omega, fun e => by
          rcases i4 r e with e | e
          · exact dj2 e
          · omega, fun j hj e => by
          have h1 := i5 j e
          have h2 := hs4.2.1.lt hj
          omega⟩
        obtain ⟨rk', hrk'⟩ : ∃ rk', rk' = rk := ⟨_, rfl⟩
        rw [← hrk'] at hs5 hr5 iv5
        have hrk5 : 0 ≤ rk' ∧ rk' ≤ 255 := by omega
        generalize keptP L now loss = L5 at *
        clear hrk'
        simp (maxSteps := 200000) -implicitDefEqProofs only [KA, KB, KC, KD, KE, KF, eq_self, ne_eq, ↓reduceIte, Nat.reduceLT, Nat.reduceEqDiff, Nat.reduceAdd, Nat.reduceLeDiff, Nat.reduceSub, Nat.reduceMul, reduceCtorEq]
      case' false =>
        simp (maxSteps := 200000) -implicitDefEqProofs only [KA, KB, KC, KD, KE, KF, eq_self, ne_eq, ↓reduceIte, Nat.reduceLT, Nat.reduceEqDiff, Nat.reduceAdd, Nat.reduceLeDiff, Nat.reduceSub, Nat.reduceMul, reduceCtorEq, e3, e9, e10, e35, e36, e37, hlt, a1, a2, h300]
        refine hear_ok (k := k + 1) hs3 iv3 hrk fun h4 u4 hs4 f4 i4 => ?_
        have hr4 : RS h4 r me rk w L := hr3.mono f4 (fun e => e.elim (fun e => hsr e.symm) dj2) (fun j hj e => e.elim (fun e => dj1 (e ▸ hj)) (fun e => dj3 j e hj))
        simp (maxSteps := 200000) -implicitDefEqProofs only [KA, KB, KC, KD, KE, KF, eq_self, ne_eq, ↓reduceIte, Nat.reduceLT, Nat.reduceEqDiff, Nat.reduceAdd, Nat.reduceLeDiff, Nat.reduceSub, Nat.reduceMul, reduceCtorEq]
        refine rhear_ok (k := k + 6) hr4 iv3 hrk fun h5 w5 hr5 f5 i5 => ?_
        have iv5' := iv3.hear hrk cn cr now
        have iv5 := iv5'.1
        have hle := iv5'.2
        clear iv5'
        have hb5 := hb3.hear (me := me) (rank := rk) (node := cn) (r := cr) (now := now) hcok.1.2
        have hs5 := hs4.mono f5 hsr (fun j hj e => by
          subst e
          rcases i4 _ hj with e | e
          · exact dj2 e
          · omega)
        have f35 : Fn h h5 := (hf3.comp f4 (fun j hj e => by
          rcases e with e | e
          · omega
          · have := hidu j e; omega)).comp f5 (fun j hj e => by omega)
        have hidu5 : ∀ j, ownId u4 j → h.n ≤ j := fun j hj => (i4 j hj).elim (hidu j) (fun e => Nat.le_trans hf3.n e)
        have hidw5 : ∀ j, ownId w5 j → h.n ≤ j := fun j hj => (i5 j hj).elim (hidw j) (fun e => by have := f4.n; have := hf3.n; omega)
        have hdj : ¬ ownId w5 s ∧ ¬ ownId u4 r ∧ ∀ j, ownId u4 j → ¬ ownId w5 j := ⟨fun e => by
          rcases i5 s e with e | e
          · exact dj1 e
          · have := f4.n; omega, fun e => by
          rcases i4 r e with e | e
          · exact dj2 e
          · omega, fun j hj e => by
          have h2 := hs4.2.1.lt hj
          rcases i5 j e with e | e
          · rcases i4 j hj with e2 | e2
            · exact dj3 j e2 e
            · have := hr3.2.1.lt e; omega
          · omega⟩
        have hrk5 : 0 ≤ (hearS me rk L cn cr now).1 ∧ (hearS me rk L cn cr now).1 ≤ 255 := by omega
        clear hle
        generalize (hearS me rk L cn cr now).1 = rk' at *
        generalize (hearS me rk L cn cr now).2.1 = L5 at *
        simp (maxSteps := 200000) -implicitDefEqProofs only [KA, KB, KC, KD, KE, KF, eq_self, ne_eq, ↓reduceIte, Nat.reduceLT, Nat.reduceEqDiff, Nat.reduceAdd, Nat.reduceLeDiff, Nat.reduceSub, Nat.reduceMul, reduceCtorEq, bq]
      all_goals
        have hl5 := iv5.len
        clear e3 e9 e10 e35 e36 e37
        refine first_ok (k := k + 7) hs5 ?_
        simp (maxSteps := 200000) -implicitDefEqProofs only [KA, KB, KC, KD, KE, KF, eq_self, ne_eq, ↓reduceIte, Nat.reduceLT, Nat.reduceEqDiff, Nat.reduceAdd, Nat.reduceLeDiff, Nat.reduceSub, Nat.reduceMul, reduceCtorEq]
        refine rfirst_ok (k := k + 7) hr5 ?_
        simp (maxSteps := 200000) -implicitDefEqProofs only [KA, KB, KC, KD, KE, KF, eq_self, ne_eq, ↓reduceIte, Nat.reduceLT, Nat.reduceEqDiff, Nat.reduceAdd, Nat.reduceLeDiff, Nat.reduceSub, Nat.reduceMul, reduceCtorEq]
        refine rankOf_ok (k := k + 7) hs5 (by omega) ?_
        simp (maxSteps := 200000) -implicitDefEqProofs only [KA, KB, KC, KD, KE, KF, eq_self, ne_eq, ↓reduceIte, Nat.reduceLT, Nat.reduceEqDiff, Nat.reduceAdd, Nat.reduceLeDiff, Nat.reduceSub, Nat.reduceMul, reduceCtorEq]
        refine rrankOf_ok (k := k + 7) hr5 (by omega) ?_
        simp (maxSteps := 200000) -implicitDefEqProofs only [KA, KB, KC, KD, KE, KF, eq_self, ne_eq, ↓reduceIte, Nat.reduceLT, Nat.reduceEqDiff, Nat.reduceAdd, Nat.reduceLeDiff, Nat.reduceSub, Nat.reduceMul, reduceCtorEq, hd, bq]
        refine all_ok (k := k + 7) hs5 (by omega) fun h6 w6 sw6 f6 => ?_
        have hs6 := hs5.new f6
        have hr6 := hr5.new f6
        simp (maxSteps := 200000) -implicitDefEqProofs only [KA, KB, KC, KD, KE, KF, eq_self, ne_eq, ↓reduceIte, Nat.reduceLT, Nat.reduceEqDiff, Nat.reduceAdd, Nat.reduceLeDiff, Nat.reduceSub, Nat.reduceMul, reduceCtorEq]
        refine rall_ok (k := k + 7) hr6 (by omega) fun h7 w7 sw7 f7 => ?_
        have hs7 := hs6.new f7
        have hr7 := hr6.new f7
        simp (maxSteps := 200000) -implicitDefEqProofs only [KA, KB, KC, KD, KE, KF, eq_self, ne_eq, ↓reduceIte, Nat.reduceLT, Nat.reduceEqDiff, Nat.reduceAdd, Nat.reduceLeDiff, Nat.reduceSub, Nat.reduceMul, reduceCtorEq]
        refine same_ok (k := k + 7) (sw6.new f7) sw7 (by rw [List.length_map]; omega) ?_
        have hg7 := hr7.1
        simp (maxSteps := 200000) -implicitDefEqProofs only [KA, KB, KC, KD, KE, KF, eq_self, ne_eq, ↓reduceIte, Nat.reduceLT, Nat.reduceEqDiff, Nat.reduceAdd, Nat.reduceLeDiff, Nat.reduceSub, Nat.reduceMul, reduceCtorEq, hg7]
        refine rank_ok (k := k + 7) hs7 ?_
        simp (maxSteps := 200000) -implicitDefEqProofs only [KA, KB, KC, KD, KE, KF, eq_self, ne_eq, ↓reduceIte, Nat.reduceLT, Nat.reduceEqDiff, Nat.reduceAdd, Nat.reduceLeDiff, Nat.reduceSub, Nat.reduceMul, reduceCtorEq, hg7, hd, hw, rd_n]
        exact ⟨n - 1, by omega, i + 1, rk', u4, w5, L5, h7, _, _, rfl, by omega, by omega, hs7, hr7, iv5, hb5, hrk5, hidu5, hidw5, hdj, (f35.trans f6).trans f7, rfl, rfl, rfl, rfl, rfl, rfl⟩
    · have dd : (¬ (i : Int) < C.length) ∨ ((i : Int) < C.length ∧ (300 : Int) ≤ i ∧ ∃ (c : Cl) (p1 p2 p3 : Nat), C[i]? = some c ∧ iaddrT h3 5 (.v (.c v)) i = some (.v (.c (.ptr p1 p2 p3 0))) ∧ rowO (h3.g p1) p2 p3 = some [.bool c.old, .int .i64 c.n, .int .i64 c.r, .int .i64 c.now, .int .i64 c.loss]) := by
        by_cases hlt : (i : Int) < C.length
        · exact .inr ⟨hlt, by omega, row hlt⟩
        · exact .inl hlt
      rcases dd with hlt | ⟨hlt, h300, c, p1, p2, p3, _, a1, a2⟩
      all_goals first | simp (maxSteps := 200000) -implicitDefEqProofs only [KA, KB, KC, KD, KE, KF, eq_self, ne_eq, ↓reduceIte, Nat.reduceLT, Nat.reduceEqDiff, Nat.reduceAdd, Nat.reduceLeDiff, Nat.reduceSub, Nat.reduceMul, reduceCtorEq, e3, e9, e10, e35, e36, e37, hlt, a1, a2, h300] | simp (maxSteps := 200000) -implicitDefEqProofs only [KA, KB, KC, KD, KE, KF, eq_self, ne_eq, ↓reduceIte, Nat.reduceLT, Nat.reduceEqDiff, Nat.reduceAdd, Nat.reduceLeDiff, Nat.reduceSub, Nat.reduceMul, reduceCtorEq, e3, e9, e10, e35, e36, e37, hlt]
      all_goals
        refine awakeP_ok (k := k) fun h' _ => ?_
        simp (maxSteps := 200000) -implicitDefEqProofs only [KA, KB, KC, KD, KE, KF, eq_self, ne_eq, ↓reduceIte, Nat.reduceLT, Nat.reduceEqDiff, Nat.reduceAdd, Nat.reduceLeDiff, Nat.reduceSub, Nat.reduceMul, reduceCtorEq]
        exact hP _
  · refine pnew_ok (k := k + 6) (fun c1 c2 => absurd ⟨c1, c2⟩ hm) fun _ => ?_
    simp (maxSteps := 200000) -implicitDefEqProofs only [KA, KB, KC, KD, KE, KF, eq_self, ne_eq, ↓reduceIte, Nat.reduceLT, Nat.reduceEqDiff, Nat.reduceAdd, Nat.reduceLeDiff, Nat.reduceSub, Nat.reduceMul, reduceCtorEq]
    refine rnew_ok (k := k + 6) (fun c1 c2 => absurd ⟨c1, c2⟩ hm) fun _ => ?_
    simp (maxSteps := 200000) -implicitDefEqProofs only [KA, KB, KC, KD, KE, KF, eq_self, ne_eq, ↓reduceIte, Nat.reduceLT, Nat.reduceEqDiff, Nat.reduceAdd, Nat.reduceLeDiff, Nat.reduceSub, Nat.reduceMul, reduceCtorEq, bq]
    refine awakeP_ok (k := k) fun h' _ => ?_
    simp (maxSteps := 200000) -implicitDefEqProofs only [KA, KB, KC, KD, KE, KF, eq_self, ne_eq, ↓reduceIte, Nat.reduceLT, Nat.reduceEqDiff, Nat.reduceAdd, Nat.reduceLeDiff, Nat.reduceSub, Nat.reduceMul, reduceCtorEq]
    exact hP _
end
end Camp
