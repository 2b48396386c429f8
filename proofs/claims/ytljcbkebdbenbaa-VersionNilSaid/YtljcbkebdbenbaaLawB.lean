/- Books: a copy sorted, of one cell; Begin of one node's one cell; Cells; awake. Books: Begin of one node's one cell; Cells; awake. Books: awake; the law of a book and a plan that there are not. -/
import Derived.Test.YtljcbkebdbenbaaLaw

set_option linter.unnecessarySimpa false
set_option linter.unusedVariables false
set_option linter.unusedSimpArgs false
set_option linter.unusedSectionVars false
/-! CvVerF -/
namespace Camp
open Go
set_option linter.unusedVariables false
set_option linter.unusedSimpArgs false
set_option maxHeartbeats 4000000
theorem ob_strAt {l : List UInt8} {i : Int} {P : CV → Prop} (hi : 0 ≤ i ∧ i < l.length) (hP : ∀ c : UInt8, P (.int .u8 c.toNat)) : ob (strAt (.v (.c (.str (bs l)))) i) P := by
  have hil : i.toNat < l.length := by omega
  refine ⟨.int .u8 (l[i.toNat]).toNat, ?_, hP _⟩
  unfold strAt
  simp only
  rw [if_pos hi.1]
  show (l[i.toNat]?).map _ = _
  rw [List.getElem?_eq_getElem hil]
  rfl
theorem mupd_new {kt : KT} {es : List ME} {h : Hp} {id clock : Nat} {k x : AV} (hm : h.g id = some (.map true es clock)) (hk : okKey kt k = true) (hf : findKey k es 0 = some none) :
    mupdT h kt (.v (.c (.map id))) (some k) (some x) = some (h.put id (.map true (es ++ [⟨k, x, clock⟩]) (clock + 1))) := by
  unfold mupdT
  simp only [hm, hk, if_true, hf, Option.map_some]
section
variable {k : Nat} {h : Hp} {P : AV → Hp → Prop}
set_option maxRecDepth 100000 in
theorem len64_ok {n : Int} (hn : 0 ≤ n ∧ n < 256) (hP : ∀ r, P (.c (.int .i64 r)) h) : callW N (k + 1) 97 [.c (.int .u64 n)] h P := by
  have w1 : IntKind.wrap .u8 n = n := wrap_u8 (by omega)
  have z1 : ¬ (4294967296 ≤ n) := by omega
  have z2 : ¬ (65536 ≤ n) := by omega
  have z3 : ¬ (256 ≤ n) := by omega
  refine call_intro rfl (by simp only [List.length_cons, List.length_nil]; omega) ?_
  simp (maxSteps := 200000) -implicitDefEqProofs only [KA, KB, KC, KD, KE, KF, eq_self, ne_eq, ↓reduceIte, Nat.reduceLT, Nat.reduceEqDiff, Nat.reduceAdd, Nat.reduceLeDiff, Nat.reduceSub, Nat.reduceMul, reduceCtorEq, w1, z1, z2, z3]
  refine ob_strAt ⟨hn.1, by simp only [List.length_cons, List.length_nil]; omega⟩ fun c => ?_
  simp (maxSteps := 200000) -implicitDefEqProofs only [KA, KB, KC, KD, KE, KF, eq_self, ne_eq, ↓reduceIte, Nat.reduceLT, Nat.reduceEqDiff, Nat.reduceAdd, Nat.reduceLeDiff, Nat.reduceSub, Nat.reduceMul, reduceCtorEq]
  exact hP _
theorem len_ok {n : Int} (hn : 0 ≤ n ∧ n < 256) (hP : ∀ r, P (.c (.int .i64 r)) h) : callW N (k + 2) 82 [.c (.int .u64 n)] h P := by
  refine call_intro rfl (by simp only [List.length_cons, List.length_nil]; omega) ?_
  simp (maxSteps := 200000) -implicitDefEqProofs only [KA, KB, KC, KD, KE, KF, eq_self, ne_eq, ↓reduceIte, Nat.reduceLT, Nat.reduceEqDiff, Nat.reduceAdd, Nat.reduceLeDiff, Nat.reduceSub, Nat.reduceMul, reduceCtorEq]
  refine len64_ok (k := k) hn fun r => ?_
  simp (maxSteps := 200000) -implicitDefEqProofs only [KA, KB, KC, KD, KE, KF, eq_self, ne_eq, ↓reduceIte, Nat.reduceLT, Nat.reduceEqDiff, Nat.reduceAdd, Nat.reduceLeDiff, Nat.reduceSub, Nat.reduceMul, reduceCtorEq]
  exact hP _
theorem pdqC_ok {v : CV} {n : Nat} {r : Int} {g : Nat} (hn : n ≤ 12) (h1 : ∀ Q : AV → Hp → Prop, (∀ h', P (.tup []) h' → Q (.tup []) h') → callW N (k + 4) 158 [.c v, .c (.int .i64 0), .c (.int .i64 n), .c (.fn g [])] h Q) :
    callW N (k + 5) 155 [.c v, .c (.int .i64 0), .c (.int .i64 n), .c (.int .i64 r), .c (.fn g [])] h P := by
  have w := wrap_i64 (n := (n : Int)) (by omega)
  have w0 : (n : Int) - 0 = n := by omega
  have z : (n : Int) ≤ 12 := by omega
  refine call_intro rfl (by simp only [List.length_cons, List.length_nil]; omega) ?_
  simp (maxSteps := 200000) -implicitDefEqProofs only [KA, KB, KC, KD, KE, KF, eq_self, ne_eq, ↓reduceIte, Nat.reduceLT, Nat.reduceEqDiff, Nat.reduceAdd, Nat.reduceLeDiff, Nat.reduceSub, Nat.reduceMul, reduceCtorEq]
  refine loop_rd (callW_mono N _) (fun m s => ∃ (l : List (Nat × TV)) (lc : List (List CV)), s = ST 148 l lc h ∧ lk l 0 = .v (.c v) ∧ lk l 1 = .v (.c (.int .i64 0)) ∧ lk l 2 = .v (.c (.int .i64 n)) ∧ lk l 3 = .v (.c (.int .i64 r)) ∧ lk l 4 = .v (.c (.fn g [])) ∧ lk l 10 = .v (.c (.bool true)) ∧ lk l 11 = .v (.c (.bool true))) (n := 0) ⟨_, _, rfl, rfl, rfl, rfl, rfl, rfl, rfl, rfl⟩ ?_
  rintro m s ⟨l, lc, rfl, e0, e1, e2, e3, e4, e10, e11⟩
  simp (maxSteps := 200000) -implicitDefEqProofs only [KA, KB, KC, KD, KE, KF, eq_self, ne_eq, ↓reduceIte, Nat.reduceLT, Nat.reduceEqDiff, Nat.reduceAdd, Nat.reduceLeDiff, Nat.reduceSub, Nat.reduceMul, reduceCtorEq, e0, e1, e2, e3, e4, e10, e11, w, w0, z]
  refine h1 _ fun h' hp => ?_
  simp (maxSteps := 200000) -implicitDefEqProofs only [KA, KB, KC, KD, KE, KF, eq_self, ne_eq, ↓reduceIte, Nat.reduceLT, Nat.reduceEqDiff, Nat.reduceAdd, Nat.reduceLeDiff, Nat.reduceSub, Nat.reduceMul, reduceCtorEq]
  exact hp
/-- One element, or none: nothing is compared. -/
theorem insert1_ok {v : CV} {n : Nat} {g : Nat} (hn : n ≤ 1) (hP : P (.tup []) h) : callW N (k + 1) 158 [.c v, .c (.int .i64 0), .c (.int .i64 n), .c (.fn g [])] h P := by
  have w0 := wrap_i64 (n := 0 + 1) (by omega)
  have z : ¬ ((0 : Int) + 1 < n) := by omega
  refine call_intro (nt := 53) rfl (by simp only [List.length_cons, List.length_nil]; omega) ?_
  simp (maxSteps := 200000) -implicitDefEqProofs only [KA, KB, KC, KD, KE, KF, eq_self, ne_eq, ↓reduceIte, Nat.reduceLT, Nat.reduceEqDiff, Nat.reduceAdd, Nat.reduceLeDiff, Nat.reduceSub, Nat.reduceMul, reduceCtorEq, w0]
  refine loop_rd (callW_mono N _) (fun m s => ∃ (l : List (Nat × TV)) (lc : List (List CV)), s = ST 53 l lc h ∧ lk l 0 = .v (.c v) ∧ lk l 1 = .v (.c (.int .i64 0)) ∧ lk l 2 = .v (.c (.int .i64 n)) ∧ lk l 3 = .v (.c (.fn g [])) ∧ lk l 8 = .v (.c (.int .i64 (0 + 1)))) (n := 0) ⟨_, _, rfl, rfl, rfl, rfl, rfl, rfl⟩ ?_
  rintro m s ⟨l, lc, rfl, e0, e1, e2, e3, e8⟩
  simp (maxSteps := 200000) -implicitDefEqProofs only [KA, KB, KC, KD, KE, KF, eq_self, ne_eq, ↓reduceIte, Nat.reduceLT, Nat.reduceEqDiff, Nat.reduceAdd, Nat.reduceLeDiff, Nat.reduceSub, Nat.reduceMul, reduceCtorEq, e0, e1, e2, e3, e8, z]
  exact hP
theorem sort1_ok {v : CV} {n : Nat} (hl : ∀ h' : Hp, lenT h' .sl (.v (.c v)) = some (n : Int)) (hn : n ≤ 1) (hP : P (.tup []) h) : callW N (k + 6) 151 [.c v, .c (.fn 152 [])] h P := by
  have w := wrap_u64 (n := (n : Int)) (by omega)
  refine call_intro rfl (by simp only [List.length_cons, List.length_nil]; omega) ?_
  simp (maxSteps := 200000) -implicitDefEqProofs only [KA, KB, KC, KD, KE, KF, eq_self, ne_eq, ↓reduceIte, Nat.reduceLT, Nat.reduceEqDiff, Nat.reduceAdd, Nat.reduceLeDiff, Nat.reduceSub, Nat.reduceMul, reduceCtorEq, hl, w]
  refine len_ok (k := k + 3) (by omega) fun r => ?_
  simp (maxSteps := 200000) -implicitDefEqProofs only [KA, KB, KC, KD, KE, KF, eq_self, ne_eq, ↓reduceIte, Nat.reduceLT, Nat.reduceEqDiff, Nat.reduceAdd, Nat.reduceLeDiff, Nat.reduceSub, Nat.reduceMul, reduceCtorEq]
  refine pdqC_ok (k := k) (by omega) fun Q hQ => ?_
  refine insert1_ok (k := k + 3) hn ?_
  refine hQ _ ?_
  simp (maxSteps := 200000) -implicitDefEqProofs only [KA, KB, KC, KD, KE, KF, eq_self, ne_eq, ↓reduceIte, Nat.reduceLT, Nat.reduceEqDiff, Nat.reduceAdd, Nat.reduceLeDiff, Nat.reduceSub, Nat.reduceMul, reduceCtorEq]
  exact hP
theorem clone_nil (hP : P (.c .nils) h) : callW N (k + 1) 147 [.c .nils] h P := by
  refine call_intro rfl (by simp only [List.length_cons, List.length_nil]; omega) ?_
  simp (maxSteps := 200000) -implicitDefEqProofs only [KA, KB, KC, KD, KE, KF, eq_self, ne_eq, ↓reduceIte, Nat.reduceLT, Nat.reduceEqDiff, Nat.reduceAdd, Nat.reduceLeDiff, Nat.reduceSub, Nat.reduceMul, reduceCtorEq]
  exact hP
theorem clone_ok {id tok off len : Nat} {cap : Option Nat} {rows : List (List CV)} (hs : SL h 5 (.sl id tok off len cap) rows) (hne : rows ≠ []) (hn : rows.length ≤ 1000000000)
    (hP : ∀ h' u, Ow h' 5 u rows → (∀ j, ownId u j → h.n ≤ j) → Fn h h' → P (.c u) h') : callW N (k + 1) 147 [.c (.sl id tok off len cap)] h P := by
  obtain ⟨h2, hh2⟩ : ∃ h2, h2 = h.push (.rows true 5 0 0 []) := ⟨_, rfl⟩
  have hf2 : Fn h h2 := by rw [hh2]; exact Fm.push _ _ _
  have hg2 : h2.g h.n = some (.rows true 5 0 0 []) := by rw [hh2, g_push_eq]
  have hn2 : h2.n = h.n + 1 := by rw [hh2, n_push]
  have hfold := hh2.symm
  have hrd : sliceRows h2 [] 5 (.v (.c (.sl id tok off len cap))) = some rows := (hs.new hf2).read
  have happ : appT h2 [] 5 40 (.v (.c (.sl h.n 0 0 0 (some 0)))) (.v (.c (.sl id tok off len cap))) = some (.sl h2.n 0 0 rows.length none, h2.push (.rows true 5 0 0 rows)) := by
    cases rows with
    | nil => exact absurd rfl hne
    | cons y ys =>
      simp only [appT, asC_c, Option.bind_some, hrd, appRows, g_def, hg2]
      rw [if_pos ⟨trivial, Nat.le_refl _, by simp only [room]; omega⟩]
      rw [if_neg (by simp only [List.length_cons]; omega)]
      simp only [List.drop_nil, List.take_nil, List.nil_append, Nat.zero_add]
      rfl
  refine call_intro rfl (by simp only [List.length_cons, List.length_nil]; omega) ?_
  simp (maxSteps := 200000) -implicitDefEqProofs only [KA, KB, KC, KD, KE, KF, eq_self, ne_eq, ↓reduceIte, Nat.reduceLT, Nat.reduceEqDiff, Nat.reduceAdd, Nat.reduceLeDiff, Nat.reduceSub, Nat.reduceMul, reduceCtorEq, chunks, hfold, happ]
  refine hP _ _ ⟨rfl, rfl, 0, rows, g_push_eq _ _, Nat.le_refl _, Nat.le_refl _, by simp⟩ ?_ (hf2.trans (Fm.push _ _ _))
  intro j hj
  simp only [ownId] at hj
  omega
theorem sorted1_ok {id tok off len : Nat} {cap : Option Nat} {r : List CV} (hs : SL h 5 (.sl id tok off len cap) [r])
    (hP : ∀ h' u, Ow h' 5 u [r] → (∀ j, ownId u j → h.n ≤ j) → Fn h h' → P (.c u) h') : callW N (k + 7) 146 [.c (.sl id tok off len cap)] h P := by
  refine call_intro rfl (by simp only [List.length_cons, List.length_nil]; omega) ?_
  simp (maxSteps := 200000) -implicitDefEqProofs only [KA, KB, KC, KD, KE, KF, eq_self, ne_eq, ↓reduceIte, Nat.reduceLT, Nat.reduceEqDiff, Nat.reduceAdd, Nat.reduceLeDiff, Nat.reduceSub, Nat.reduceMul, reduceCtorEq]
  refine clone_ok (k := k + 5) hs (by simp) (by simp) fun h2 u ho hid hf => ?_
  simp (maxSteps := 200000) -implicitDefEqProofs only [KA, KB, KC, KD, KE, KF, eq_self, ne_eq, ↓reduceIte, Nat.reduceLT, Nat.reduceEqDiff, Nat.reduceAdd, Nat.reduceLeDiff, Nat.reduceSub, Nat.reduceMul, reduceCtorEq]
  refine sort1_ok (k := k) (n := 1) (fun h' => by rw [ho.sl.len h']; rfl) (Nat.le_refl _) ?_
  simp (maxSteps := 200000) -implicitDefEqProofs only [KA, KB, KC, KD, KE, KF, eq_self, ne_eq, ↓reduceIte, Nat.reduceLT, Nat.reduceEqDiff, Nat.reduceAdd, Nat.reduceLeDiff, Nat.reduceSub, Nat.reduceMul, reduceCtorEq]
  exact hP _ _ ho hid hf
end
end Camp

/-! CvVerG -/
namespace Camp
open Go
set_option linter.unusedVariables false
set_option linter.unusedSimpArgs false
set_option maxHeartbeats 4000000
section
variable {k : Nat} {h : Hp} {P : AV → Hp → Prop}
def oneE (s : Nat) : ME := ⟨.c (.int .i64 0), .c (.sl s 0 0 1 (some 1)), 0⟩
def B1I (b m s : Nat) (cl : Cel) (h h2 : Hp) (nn : Nat) (st : St) : Prop :=
  ∃ (l : List (Nat × TV)) (lc : List (List CV)), lk l 0 = .v (.c (.ptr b 0 0 0)) ∧ lk l 1 = .v (.c (.map m)) ∧ lk l 6 = .v (.c (.map h.n)) ∧ lk l 18 = .v (.c (.it (h.n + 1))) ∧
    ((nn = 1 ∧ st = ST 66 l lc h2) ∨ (nn = 0 ∧ ∃ h' u, st = ST 66 l lc h' ∧ Fn h h' ∧ h'.g h.n = some (.map true [⟨.c (.int .i64 0), .c u, 0⟩] 1) ∧ Ow h' 5 u [encE cl] ∧ h'.g (h.n + 1) = some (.miter (some m) 1 [0] 1)))
theorem begin_one {b m s : Nat} {n v l : Int} {c r : CV} {cl : Cel} (hb : Bk h b n v l c .nilm r) (hl : 0 ≤ l ∧ l < 1000000) (hn : 0 < n) (hm : h.g m = some (.map true [oneE s] 1)) (hs : h.g s = some (.rows true 5 0 0 [encE cl])) (hgood : goodH ⟨0, cl⟩)
    (hP : ∀ h' x y u, Bk h' b n v (l + 1) c (.map x) (.map y) → h'.g x = some (.map true [⟨.c (.int .i64 0), .c u, 0⟩] 1) → Ow h' 5 u [encE cl] → h'.g y = some (.map true [] 0) → Fm (fun j => j = b) h h' → h.n ≤ x → h.n ≤ y → P (.tup [.c (.int .i64 (l + 1)), .c (.int .i64 0)]) h') : callW N (k + 9) 132 [.c (.ptr b 0 0 0), .c (.map m)] h P := by
  have hb' := hb
  unfold Bk at hb'
  have hlt := lt_of_g hb'
  have hlm := lt_of_g hm
  have hls := lt_of_g hs
  have hw := wrap_i64 (n := l + 1) (by omega)
  have hz : ¬ (1000000 ≤ l) := by omega
  refine call_intro rfl (by simp only [List.length_cons, List.length_nil]; omega) ?_
  obtain ⟨h1, hh1⟩ : ∃ h1, h1 = h.push (.map true [] 0) := ⟨_, rfl⟩
  have n1 : h1.n = h.n + 1 := by rw [hh1, n_push]
  have hm1 : h1.g m = some (.map true [oneE s] 1) := by rw [hh1, g_push_ne _ _ (by omega)]; exact hm
  have hx1 : h1.g h.n = some (.map true [] 0) := by rw [hh1, g_push_eq]
  obtain ⟨h2, hh2⟩ : ∃ h2, h2 = h1.push (.miter (some m) 1 [] 1) := ⟨_, rfl⟩
  have hi : h2.g (h.n + 1) = some (.miter (some m) 1 [] 1) := by rw [hh2, ← n1, g_push_eq]
  have hx2 : h2.g h.n = some (.map true [] 0) := by rw [hh2, g_push_ne _ _ (by omega)]; exact hx1
  have n2 : h2.n = h.n + 1 + 1 := by rw [hh2, n_push, n1]
  have hf : Fn h h2 := by rw [hh2, hh1]; exact (Fm.push _ _ _).trans (Fm.push _ _ _)
  have e1 := hh1.symm
  have e2 := hh2.symm
  have hrg := rgn_map hm1
  simp (maxSteps := 200000) -implicitDefEqProofs only [KA, KB, KC, KD, KE, KF, eq_self, ne_eq, ↓reduceIte, Nat.reduceLT, Nat.reduceEqDiff, Nat.reduceAdd, Nat.reduceLeDiff, Nat.reduceSub, Nat.reduceMul, reduceCtorEq, hb', b_mn4, e1, hrg, e2, n1]
  refine loop_rd (callW_mono N _) (B1I b m s cl h h2) (n := 1) ⟨_, _, rfl, rfl, rfl, rfl, .inl ⟨rfl, rfl⟩⟩ ?_
  rintro nn st ⟨lt, lc, q0, q1, q6, q18, ⟨rfl, rfl⟩ | ⟨rfl, h3, u, rfl, hf3, hx3, ho3, hi3⟩⟩
  · simp (maxSteps := 200000) -implicitDefEqProofs only [KA, KB, KC, KD, KE, KF, eq_self, ne_eq, ↓reduceIte, Nat.reduceLT, Nat.reduceEqDiff, Nat.reduceAdd, Nat.reduceLeDiff, Nat.reduceSub, Nat.reduceMul, reduceCtorEq, q0, q1, q6, q18]
    have hm2 := hf.some hm (fun e => e)
    refine nx_map (id := h.n + 1) (m := m) (clock := 1) (seen := []) (by simp only [evN_t, lk_cons, lk_nil]; rfl) hi hm2 (by intro e he; simp only [List.mem_singleton] at he; subst he; exact Nat.zero_lt_one) (fun e he _ => ?_) fun hall => ?_
    · simp only [List.mem_singleton] at he
      subst he
      obtain ⟨h3, hh3⟩ : ∃ h3, h3 = h2.put (h.n + 1) (.miter (some m) 1 [0] 1) := ⟨_, rfl⟩
      have hit3 : h3.g (h.n + 1) = some (.miter (some m) 1 ([] ++ [(oneE s).born]) 1) := by rw [hh3, g_put_eq, hi]; rfl
      have hf3 : Fn h h3 := by rw [hh3]; exact hf.putNew _ (by omega)
      have n3 : h3.n = h2.n := by rw [hh3, n_put]
      have hm3 := hf3.some hm (fun e => e)
      have hs3 := hf3.some hs (fun e => e)
      have hb3 := hf3.some hb' (fun e => e)
      have hx3 : h3.g h.n = some (.map true [] 0) := by rw [hh3, g_put_ne _ _ (by omega)]; exact hx2
      have hen := entry_at hit3 hm3 (List.mem_singleton.mpr rfl) (by simp)
      rw [show (AV.tup [(oneE s).key, (oneE s).val]) = .tup [.c (.int .i64 0), .c (.sl s 0 0 1 (some 1))] from rfl] at hen
      have e3 : h2.put (h.n + 1) (.miter (some m) 1 [(oneE s).born] 1) = h3 := by rw [hh3]; rfl
      have hsl : SL h3 5 (.sl s 0 0 1 (some 1)) [encE cl] := ⟨true, 0, 0, _, hs3, Nat.le_refl _, by simp, rfl⟩
      have hlen := hsl.len
      have hz1 : ¬ ((64 : Int) < (([encE cl] : List (List CV)).length : Int)) := by simp
      simp (maxSteps := 200000) -implicitDefEqProofs only [KA, KB, KC, KD, KE, KF, eq_self, ne_eq, ↓reduceIte, Nat.reduceLT, Nat.reduceEqDiff, Nat.reduceAdd, Nat.reduceLeDiff, Nat.reduceSub, Nat.reduceMul, reduceCtorEq, e3, hen]
      refine bhas_ok (k := k + 7) (n := n) (v := v) (l := l) (c := c) (x := .nilm) (r := r) hb3 ?_
      rw [decide_eq_true (show (0 : Int) ≤ 0 ∧ 0 < n from ⟨by omega, hn⟩)]
      simp only [List.length_singleton] at hlen hz1
      simp (maxSteps := 200000) -implicitDefEqProofs only [KA, KB, KC, KD, KE, KF, eq_self, ne_eq, ↓reduceIte, Nat.reduceLT, Nat.reduceEqDiff, Nat.reduceAdd, Nat.reduceLeDiff, Nat.reduceSub, Nat.reduceMul, reduceCtorEq, hlen, hz1]
      refine sorted1_ok (k := k + 1) hsl fun h4 u ho hid hf4 => ?_
      have hx4 := hf4.some hx3 (fun e => e)
      have hi4 := hf4.some hit3 (fun e => e)
      have hup := mupd_new (kt := .int .i64) (k := .c (.int .i64 0)) (x := .c u) hx4 rfl rfl
      simp (maxSteps := 200000) -implicitDefEqProofs only [KA, KB, KC, KD, KE, KF, eq_self, ne_eq, ↓reduceIte, Nat.reduceLT, Nat.reduceEqDiff, Nat.reduceAdd, Nat.reduceLeDiff, Nat.reduceSub, Nat.reduceMul, reduceCtorEq, hup, rd_n]
      refine ⟨0, by omega, _, _, rfl, rfl, rfl, rfl, .inr ⟨rfl, _, u, rfl, (hf3.trans hf4).putNew _ (Nat.le_refl _), ?_, ?_, ?_⟩⟩
      · rw [g_put_eq, hx4]; rfl
      · exact ho.mono (Fm.put (S := fun j => j = h.n) _ _ rfl) (fun j hj e => by have := hid j hj; omega)
      · rw [g_put_ne _ _ (by omega)]; exact hi4
    · have := hall _ (List.mem_singleton.mpr rfl)
      simp at this
  · simp (maxSteps := 200000) -implicitDefEqProofs only [KA, KB, KC, KD, KE, KF, eq_self, ne_eq, ↓reduceIte, Nat.reduceLT, Nat.reduceEqDiff, Nat.reduceAdd, Nat.reduceLeDiff, Nat.reduceSub, Nat.reduceMul, reduceCtorEq, q0, q1, q6, q18]
    have hm3 := hf3.some hm (fun e => e)
    refine nx_map (id := h.n + 1) (m := m) (clock := 1) (seen := [0]) (by simp only [evN_t, lk_cons, lk_nil]; rfl) hi3 hm3 (by intro e he; simp only [List.mem_singleton] at he; subst he; exact Nat.zero_lt_one) (fun e he hno => ?_) fun _ => ?_
    · simp only [List.mem_singleton] at he
      subst he
      simp [oneE] at hno
    · simp (maxSteps := 200000) -implicitDefEqProofs only [KA, KB, KC, KD, KE, KF, eq_self, ne_eq, ↓reduceIte, Nat.reduceLT, Nat.reduceEqDiff, Nat.reduceAdd, Nat.reduceLeDiff, Nat.reduceSub, Nat.reduceMul, reduceCtorEq, rd_e]
      have hs3 := hf3.some hs (fun e => e)
      let F : ME → Int × List Cel := fun _ => (0, [cl])
      have hfl : flatM F [oneE s] = [⟨0, cl⟩] := rfl
      refine clean_ok (k := k) (F := F) hm3 (by intro e he; simp only [List.mem_singleton] at he; subst he; exact Nat.zero_lt_one) (by simp) ?_ (by rw [hfl]; simp) fun h5 hf5 => ?_
      · intro e he
        simp only [List.mem_singleton] at he
        subst he
        exact ⟨rfl, _, rfl, ⟨true, 0, 0, _, hs3, Nat.le_refl _, by simp, rfl⟩⟩
      have hcl : cleanP [⟨0, cl⟩] := ⟨fun x hx => by simp only [List.mem_singleton] at hx; subst hx; exact hgood, List.pairwise_singleton _ _⟩
      rw [hfl, decide_eq_true hcl]
      have hf05 := hf3.trans hf5
      have hb5 := hf05.some hb' (fun e => e)
      have hx5 := hf5.some hx3 (fun e => e)
      have ho5 := ho3.new hf5
      have hn5 := hf05.n
      have hlx := lt_of_g hx5
      simp (maxSteps := 200000) -implicitDefEqProofs only [KA, KB, KC, KD, KE, KF, eq_self, ne_eq, ↓reduceIte, Nat.reduceLT, Nat.reduceEqDiff, Nat.reduceAdd, Nat.reduceLeDiff, Nat.reduceSub, Nat.reduceMul, reduceCtorEq, hb5, hz, hw]
      obtain ⟨h6, hh6⟩ : ∃ h6, h6 = h5.put b (.rows true 6 0 0 [[.int .i64 n, .int .i64 v, .int .i64 (l + 1), c, .nilm, r]]) := ⟨_, rfl⟩
      have hb6 : h6.g b = some (.rows true 6 0 0 [[.int .i64 n, .int .i64 v, .int .i64 (l + 1), c, .nilm, r]]) := by rw [hh6, g_put_eq, hb5]; rfl
      have e6 := hh6.symm
      have hf56 : Fm (fun j => j = b) h5 h6 := by rw [hh6]; exact Fm.put _ _ rfl
      have hf6 : Fm (fun j => j = b) h h6 := (hf05.mono (fun _ _ h => h.elim)).trans hf56
      have hn6 : h6.n = h5.n := by rw [hh6, n_put]
      obtain ⟨h7, hh7⟩ : ∃ h7, h7 = h6.push (.map true [] 0) := ⟨_, rfl⟩
      have hb7 : h7.g b = some (.rows true 6 0 0 [[.int .i64 n, .int .i64 v, .int .i64 (l + 1), c, .nilm, r]]) := by rw [hh7, g_push_ne _ _ (by omega)]; exact hb6
      have hm7 : h7.g h6.n = some (.map true [] 0) := by rw [hh7, g_push_eq]
      have e7 := hh7.symm
      have hf57 : Fm (fun j => j = b) h5 h7 := hf56.trans (by rw [hh7]; exact Fm.push _ _ _)
      have hf7 : Fm (fun j => j = b) h h7 := (hf05.mono (fun _ _ h => h.elim)).trans hf57
      simp (maxSteps := 200000) -implicitDefEqProofs only [KA, KB, KC, KD, KE, KF, eq_self, ne_eq, ↓reduceIte, Nat.reduceLT, Nat.reduceEqDiff, Nat.reduceAdd, Nat.reduceLeDiff, Nat.reduceSub, Nat.reduceMul, reduceCtorEq, e6, hb6, hn6, e7, hb7]
      have hown : ∀ j, ownId u j → ¬ j = b := by
        intro j hj e
        subst e
        cases u <;> simp only [ownId] at hj
        case sl id tok off len cap =>
          subst hj
          obtain ⟨_, _, lw, rs, g1, _, _, g2⟩ := ho5
          rw [hb5] at g1
          injection g1 with g1
          injection g1 with _ g1 _ _ _
          simp at g1
      have hf8 : ∀ a a', Fm (fun j => j = b) h5 ((h7.put b a).put b a') := fun a a' => hf57.trans ((Fm.put (S := fun j => j = b) _ _ rfl).trans (Fm.put _ _ rfl))
      refine hP _ h.n h5.n u ?_ ?_ ?_ ?_ ((hf05.mono (fun _ _ h => h.elim)).trans (hf8 _ _)) (Nat.le_refl _) hn5
      · unfold Bk
        simp (maxSteps := 200000) -implicitDefEqProofs only [KA, KB, KC, KD, KE, KF, eq_self, ne_eq, ↓reduceIte, Nat.reduceLT, Nat.reduceEqDiff, Nat.reduceAdd, Nat.reduceLeDiff, Nat.reduceSub, Nat.reduceMul, reduceCtorEq, hb7, hn6]
      · exact (hf8 _ _).some hx5 (fun e => by omega)
      · exact ho5.mono (hf8 _ _) hown
      · rw [g_put_ne _ _ (by omega), g_put_ne _ _ (by omega), ← hn6]
        exact hm7
theorem cells_none {b : Nat} {n v l : Int} {c x r : CV} {i : Int} (hb : Bk h b n v l .nilm x r) (hP : P (.c .nils) h) : callW N (k + 2) 140 [.c (.ptr b 0 0 0), .c (.int .i64 i)] h P := by
  unfold Bk at hb
  have hl := look_nil (kt := .int .i64) (h := h) (k := .c (.int .i64 i)) rfl
  refine call_intro rfl (by simp only [List.length_cons, List.length_nil]; omega) ?_
  simp (maxSteps := 200000) -implicitDefEqProofs only [KA, KB, KC, KD, KE, KF, eq_self, ne_eq, ↓reduceIte, Nat.reduceLT, Nat.reduceEqDiff, Nat.reduceAdd, Nat.reduceLeDiff, Nat.reduceSub, Nat.reduceMul, reduceCtorEq, hb, hl, Option.getD_none]
  refine clone_nil (k := k) ?_
  simp (maxSteps := 200000) -implicitDefEqProofs only [KA, KB, KC, KD, KE, KF, eq_self, ne_eq, ↓reduceIte, Nat.reduceLT, Nat.reduceEqDiff, Nat.reduceAdd, Nat.reduceLeDiff, Nat.reduceSub, Nat.reduceMul, reduceCtorEq]
  exact hP
theorem cells_one {b y : Nat} {n v l : Int} {x r u : CV} {cl : Cel} (hb : Bk h b n v l (.map y) x r) (hy : h.g y = some (.map true [⟨.c (.int .i64 0), .c u, 0⟩] 1)) (ho : Ow h 5 u [encE cl])
    (hP : ∀ h' w, (∀ h', lenT h' .sl (.v (.c w)) = some (1 : Int)) → Fn h h' → P (.c w) h') : callW N (k + 2) 140 [.c (.ptr b 0 0 0), .c (.int .i64 0)] h P := by
  unfold Bk at hb
  have hl : lookT h (.int .i64) (.v (.c (.map y))) (some (.c (.int .i64 0))) = some (some (.c u)) := by
    simp only [lookT, mapT, hy, mapO, Option.bind_some]
    rfl
  cases u <;> simp only [Ow] at ho
  case nils => simp at ho
  case sl id tok off len cap =>
    refine call_intro rfl (by simp only [List.length_cons, List.length_nil]; omega) ?_
    simp (maxSteps := 200000) -implicitDefEqProofs only [KA, KB, KC, KD, KE, KF, eq_self, ne_eq, ↓reduceIte, Nat.reduceLT, Nat.reduceEqDiff, Nat.reduceAdd, Nat.reduceLeDiff, Nat.reduceSub, Nat.reduceMul, reduceCtorEq, hb, hl, Option.getD_some]
    refine clone_ok (k := k) (rows := [encE cl]) (Ow.sl ho) (by simp) (by simp) fun h2 w ho2 hid hf => ?_
    simp (maxSteps := 200000) -implicitDefEqProofs only [KA, KB, KC, KD, KE, KF, eq_self, ne_eq, ↓reduceIte, Nat.reduceLT, Nat.reduceEqDiff, Nat.reduceAdd, Nat.reduceLeDiff, Nat.reduceSub, Nat.reduceMul, reduceCtorEq]
    exact hP _ _ (fun h' => by rw [ho2.sl.len h']; rfl) hf
end
end Camp

/-! CvVerH -/
namespace Camp
open Go
set_option linter.unusedVariables false
set_option linter.unusedSimpArgs false
set_option maxHeartbeats 4000000
def awC : Cel := ⟨0, 3, 0, 2, 64⟩
theorem awG : goodH ⟨0, awC⟩ := ⟨by decide, by decide +kernel, by decide +kernel⟩
section
variable {k : Nat} {h : Hp} {P : AV → Hp → Prop} {i w : Int} {m : CV}
theorem own_ne {u : CV} {sz j : Nat} {rows : List (List CV)} (ho : Ow h sz u rows) (hj : ¬ ∃ wr cur lw rs, h.g j = some (.rows wr sz cur lw rs)) : ∀ i, ownId u i → ¬ i = j := by
  intro i hi e
  subst e
  cases u <;> simp only [ownId] at hi
  case sl id tok off len cap =>
    subst hi
    obtain ⟨_, _, lw, rs, g1, _⟩ := ho
    exact hj ⟨_, _, _, _, g1⟩
theorem awakeV_ok (hP : ∀ h', Fn h h' → P (.c (.bool true)) h') : callW N (k + 10) 137 [] h P := by
  obtain ⟨h1, hh1⟩ : ∃ g, g = h.push (.rows true 6 0 0 [[.int .i64 1, .int .i64 0, .int .i64 0, .nilm, .nilm, .nilm]]) := ⟨_, rfl⟩
  have b1 : Bk h1 h.n 1 0 0 .nilm .nilm .nilm := by unfold Bk; rw [hh1, g_push_eq]
  have n1 : h1.n = h.n + 1 := by rw [hh1, n_push]
  obtain ⟨h2, hh2⟩ : ∃ g, g = h1.push (.map true [] 0) := ⟨_, rfl⟩
  have n2 : h2.n = h.n + 1 + 1 := by rw [hh2, n_push, n1]
  have m2 : h2.g (h.n + 1) = some (.map true [] 0) := by rw [hh2, ← n1, g_push_eq]
  obtain ⟨h3, hh3⟩ : ∃ g, g = h2.push (.rows true 5 0 0 [[.int .i64 0, .int .i64 3, .int .i64 0, .int .i64 2, .int .i64 64]]) := ⟨_, rfl⟩
  have n3 : h3.n = h.n + 1 + 1 + 1 := by rw [hh3, n_push, n2]
  have m3 : h3.g (h.n + 1) = some (.map true [] 0) := by rw [hh3, g_push_ne _ _ (by omega)]; exact m2
  have s3 : h3.g (h.n + 1 + 1) = some (.rows true 5 0 0 [encE awC]) := by rw [hh3, ← n2, g_push_eq]; rfl
  have u3 := mupd_new (kt := .int .i64) (k := .c (.int .i64 0)) (x := .c (.sl (h.n + 1 + 1) 0 0 1 (some 1))) m3 rfl rfl
  obtain ⟨h4, hh4⟩ : ∃ g, g = h3.put (h.n + 1) (.map true ([] ++ [⟨.c (.int .i64 0), .c (.sl (h.n + 1 + 1) 0 0 1 (some 1)), 0⟩]) (0 + 1)) := ⟨_, rfl⟩
  have m4 : h4.g (h.n + 1) = some (.map true [oneE (h.n + 1 + 1)] 1) := by rw [hh4, g_put_eq, m3]; rfl
  have s4 : h4.g (h.n + 1 + 1) = some (.rows true 5 0 0 [encE awC]) := by rw [hh4, g_put_ne _ _ (by omega)]; exact s3
  rw [← hh4] at u3
  have f1 : Fn h h1 := by rw [hh1]; exact Fm.push _ _ _
  have f14 : Fm (fun j => j = h.n + 1) h1 h4 := by rw [hh4, hh3, hh2]; exact ((Fm.push _ _ _).trans (Fm.push _ _ _)).trans (Fm.put _ _ rfl)
  have b4 : Bk h4 h.n 1 0 0 .nilm .nilm .nilm := f14.some b1 (fun e => by omega)
  have f4 : Fn h h4 := f1.fresh f14 (fun j e => by omega)
  have e1 := hh1.symm
  have e2 := hh2.symm
  have e3 := hh3.symm
  refine call_intro rfl (by simp only [List.length_nil]; omega) ?_
  simp (maxSteps := 200000) -implicitDefEqProofs only [KA, KB, KC, KD, KE, KF, eq_self, ne_eq, ↓reduceIte, Nat.reduceLT, Nat.reduceEqDiff, Nat.reduceAdd, Nat.reduceLeDiff, Nat.reduceSub, Nat.reduceMul, reduceCtorEq]
  refine bnew_ok (k := k + 8) (n := 1) (by omega) fun g hg => ?_
  rw [← hh1] at hg
  subst hg
  simp (maxSteps := 200000) -implicitDefEqProofs only [KA, KB, KC, KD, KE, KF, eq_self, ne_eq, ↓reduceIte, Nat.reduceLT, Nat.reduceEqDiff, Nat.reduceAdd, Nat.reduceLeDiff, Nat.reduceSub, Nat.reduceMul, reduceCtorEq, e2, n1, e3, n2, u3]
  refine begin_one (k := k) (s := h.n + 1 + 1) b4 (by omega) (by omega) m4 s4 awG fun h5 x y u b5 x5 o5 y5 f5 gx gy => ?_
  have b5' := b5
  unfold Bk at b5'
  have hyb : ¬ y = h.n := fun e => by rw [e, b5'] at y5; cases y5
  have hxy : ¬ x = y := fun e => by rw [e, y5] at x5; injection x5 with x5; injection x5 with _ x5 _; cases x5
  have hxb : ¬ x = h.n := fun e => by rw [e, b5'] at x5; cases x5
  simp (maxSteps := 200000) -implicitDefEqProofs only [KA, KB, KC, KD, KE, KF, eq_self, ne_eq, ↓reduceIte, Nat.reduceLT, Nat.reduceEqDiff, Nat.reduceAdd, Nat.reduceLeDiff, Nat.reduceSub, Nat.reduceMul, reduceCtorEq]
  refine ready_new (k := k + 7) (i := 0) (F := fun _ => false) (F' := fun i => i == 0) (n := 1) (l := 0 + 1) b5 y5 (IsMap.nil (fun kk => by
    cases kk with
    | c z => cases z with
      | int kk j => cases kk <;> simp [flM]
      | _ => rfl
    | _ => rfl)) (by simp) rfl rfl (fun j hj => by simp [hj]) fun es' clock' hM => ?_
  obtain ⟨h6, hh6⟩ : ∃ g, g = h5.put y (.map true es' clock') := ⟨_, rfl⟩
  have f56 : Fm (fun j => j = y) h5 h6 := by rw [hh6]; exact Fm.put _ _ rfl
  have y6 : h6.g y = some (.map true es' clock') := by rw [hh6, g_put_eq, y5]; rfl
  have b6 : Bk h6 h.n 1 0 (0 + 1) .nilm (.map x) (.map y) := f56.some b5 (fun e => hyb e.symm)
  have x6 := f56.some x5 hxy
  have o6 := o5.mono f56 (own_ne o5 (by rintro ⟨_, _, _, _, e⟩; rw [y5] at e; cases e))
  have e6 := hh6.symm
  simp (maxSteps := 200000) -implicitDefEqProofs only [KA, KB, KC, KD, KE, KF, eq_self, ne_eq, ↓reduceIte, Nat.reduceLT, Nat.reduceEqDiff, Nat.reduceAdd, Nat.reduceLeDiff, Nat.reduceSub, Nat.reduceMul, reduceCtorEq, e6]
  refine commit_ok (k := k + 7) (n := 1) (F := fun i => i == 0) (by omega) b6 y6 hM (fun _ h7 b7 f7 => ?_) (fun hne => absurd (show left (fun i => i == 0) 1 = 0 from rfl) hne)
  have x7 := f7.some x6 hxb
  have o7 := o6.mono f7 (fun j hj e => by
    subst e
    cases u <;> simp only [ownId] at hj
    case sl id tok off len cap =>
      subst hj
      obtain ⟨_, _, lw, rs, g1, _⟩ := o6
      unfold Bk at b6
      rw [b6] at g1
      injection g1 with g1
      injection g1 with _ g1 _ _ _
      simp at g1)
  have z : decide ((0 : Int) = 0) = true := rfl
  have z1 : decide ((0 : Int) + 1 = 1) = true := rfl
  have z2 : decide ((1 : Int) = 1) = true := rfl
  simp (maxSteps := 200000) -implicitDefEqProofs only [KA, KB, KC, KD, KE, KF, eq_self, ne_eq, ↓reduceIte, Nat.reduceLT, Nat.reduceEqDiff, Nat.reduceAdd, Nat.reduceLeDiff, Nat.reduceSub, Nat.reduceMul, reduceCtorEq, z, z1]
  refine version_ok (k := k + 8) b7 ?_
  simp (maxSteps := 200000) -implicitDefEqProofs only [KA, KB, KC, KD, KE, KF, eq_self, ne_eq, ↓reduceIte, Nat.reduceLT, Nat.reduceEqDiff, Nat.reduceAdd, Nat.reduceLeDiff, Nat.reduceSub, Nat.reduceMul, reduceCtorEq, z1]
  refine cells_one (k := k + 7) b7 x7 o7 fun h8 w hw f8 => ?_
  simp (maxSteps := 200000) -implicitDefEqProofs only [KA, KB, KC, KD, KE, KF, eq_self, ne_eq, ↓reduceIte, Nat.reduceLT, Nat.reduceEqDiff, Nat.reduceAdd, Nat.reduceLeDiff, Nat.reduceSub, Nat.reduceMul, reduceCtorEq, hw, z2]
  refine hP _ ?_
  have f46 : Fm (fun j => j = h.n ∨ j = y) h5 h8 := ((f56.mono (fun _ _ e => .inr e)).trans (f7.mono (fun _ _ e => .inl e))).trans (f8.mono (fun _ _ h => h.elim))
  have f48 : Fm (fun j => j = h.n) h4 h8 := f5.comp f46 (fun j hj e => e.elim (fun e => e) (fun e => by omega))
  exact f4.fresh f48 (fun j e => by omega)
theorem nb_begin (hP : P (.tup [.c (.int .i64 0), .c (.int .i64 1)]) h) : callW N (k + 1) 132 [.c .nilp, .c m] h P := by
  refine call_intro rfl (by simp only [List.length_cons, List.length_nil]; omega) ?_
  simp (maxSteps := 200000) -implicitDefEqProofs only [KA, KB, KC, KD, KE, KF, eq_self, ne_eq, ↓reduceIte, Nat.reduceLT, Nat.reduceEqDiff, Nat.reduceAdd, Nat.reduceLeDiff, Nat.reduceSub, Nat.reduceMul, reduceCtorEq]
  exact hP
theorem nb_ready (hP : P (.c (.int .i64 1)) h) : callW N (k + 1) 134 [.c .nilp, .c (.int .i64 i), .c (.int .i64 w)] h P := by
  refine call_intro rfl (by simp only [List.length_cons, List.length_nil]; omega) ?_
  simp (maxSteps := 200000) -implicitDefEqProofs only [KA, KB, KC, KD, KE, KF, eq_self, ne_eq, ↓reduceIte, Nat.reduceLT, Nat.reduceEqDiff, Nat.reduceAdd, Nat.reduceLeDiff, Nat.reduceSub, Nat.reduceMul, reduceCtorEq]
  exact hP
theorem nb_commit (hP : P (.c (.int .i64 1)) h) : callW N (k + 1) 138 [.c .nilp] h P := by
  refine call_intro rfl (by simp only [List.length_cons, List.length_nil]; omega) ?_
  simp (maxSteps := 200000) -implicitDefEqProofs only [KA, KB, KC, KD, KE, KF, eq_self, ne_eq, ↓reduceIte, Nat.reduceLT, Nat.reduceEqDiff, Nat.reduceAdd, Nat.reduceLeDiff, Nat.reduceSub, Nat.reduceMul, reduceCtorEq]
  exact hP
theorem nb_abort (hP : P (.c (.int .i64 1)) h) : callW N (k + 1) 135 [.c .nilp] h P := by
  refine call_intro rfl (by simp only [List.length_cons, List.length_nil]; omega) ?_
  simp (maxSteps := 200000) -implicitDefEqProofs only [KA, KB, KC, KD, KE, KF, eq_self, ne_eq, ↓reduceIte, Nat.reduceLT, Nat.reduceEqDiff, Nat.reduceAdd, Nat.reduceLeDiff, Nat.reduceSub, Nat.reduceMul, reduceCtorEq]
  exact hP
theorem nb_version (hP : P (.c (.int .i64 0)) h) : callW N (k + 1) 136 [.c .nilp] h P := by
  refine call_intro rfl (by simp only [List.length_cons, List.length_nil]; omega) ?_
  simp (maxSteps := 200000) -implicitDefEqProofs only [KA, KB, KC, KD, KE, KF, eq_self, ne_eq, ↓reduceIte, Nat.reduceLT, Nat.reduceEqDiff, Nat.reduceAdd, Nat.reduceLeDiff, Nat.reduceSub, Nat.reduceMul, reduceCtorEq]
  exact hP
theorem nb_cells (hP : P (.c .nils) h) : callW N (k + 1) 140 [.c .nilp, .c (.int .i64 i)] h P := by
  refine call_intro rfl (by simp only [List.length_cons, List.length_nil]; omega) ?_
  simp (maxSteps := 200000) -implicitDefEqProofs only [KA, KB, KC, KD, KE, KF, eq_self, ne_eq, ↓reduceIte, Nat.reduceLT, Nat.reduceEqDiff, Nat.reduceAdd, Nat.reduceLeDiff, Nat.reduceSub, Nat.reduceMul, reduceCtorEq]
  exact hP
theorem nb_waits (hP : P (.c .nils) h) : callW N (k + 1) 133 [.c .nilp] h P := by
  refine call_intro rfl (by simp only [List.length_cons, List.length_nil]; omega) ?_
  simp (maxSteps := 200000) -implicitDefEqProofs only [KA, KB, KC, KD, KE, KF, eq_self, ne_eq, ↓reduceIte, Nat.reduceLT, Nat.reduceEqDiff, Nat.reduceAdd, Nat.reduceLeDiff, Nat.reduceSub, Nat.reduceMul, reduceCtorEq]
  exact hP
theorem np_prepare (hP : P (.c (.int .i64 1)) h) : callW N (k + 1) 141 [.c .nilp, .c (.int .i64 w), .c .nils] h P := by
  refine call_intro rfl (by simp only [List.length_cons, List.length_nil]; omega) ?_
  simp (maxSteps := 200000) -implicitDefEqProofs only [KA, KB, KC, KD, KE, KF, eq_self, ne_eq, ↓reduceIte, Nat.reduceLT, Nat.reduceEqDiff, Nat.reduceAdd, Nat.reduceLeDiff, Nat.reduceSub, Nat.reduceMul, reduceCtorEq]
  exact hP
theorem np_commit (hP : P (.c (.int .i64 1)) h) : callW N (k + 1) 142 [.c .nilp, .c (.int .i64 w)] h P := by
  refine call_intro rfl (by simp only [List.length_cons, List.length_nil]; omega) ?_
  simp (maxSteps := 200000) -implicitDefEqProofs only [KA, KB, KC, KD, KE, KF, eq_self, ne_eq, ↓reduceIte, Nat.reduceLT, Nat.reduceEqDiff, Nat.reduceAdd, Nat.reduceLeDiff, Nat.reduceSub, Nat.reduceMul, reduceCtorEq]
  exact hP
theorem np_cells (hP : P (.c .nils) h) : callW N (k + 1) 143 [.c .nilp] h P := by
  refine call_intro rfl (by simp only [List.length_cons, List.length_nil]; omega) ?_
  simp (maxSteps := 200000) -implicitDefEqProofs only [KA, KB, KC, KD, KE, KF, eq_self, ne_eq, ↓reduceIte, Nat.reduceLT, Nat.reduceEqDiff, Nat.reduceAdd, Nat.reduceLeDiff, Nat.reduceSub, Nat.reduceMul, reduceCtorEq]
  exact hP
theorem np_version (hP : P (.c (.int .i64 0)) h) : callW N (k + 1) 144 [.c .nilp] h P := by
  refine call_intro rfl (by simp only [List.length_cons, List.length_nil]; omega) ?_
  simp (maxSteps := 200000) -implicitDefEqProofs only [KA, KB, KC, KD, KE, KF, eq_self, ne_eq, ↓reduceIte, Nat.reduceLT, Nat.reduceEqDiff, Nat.reduceAdd, Nat.reduceLeDiff, Nat.reduceSub, Nat.reduceMul, reduceCtorEq]
  exact hP
theorem versionNil_ok (hP : ∀ h', P (.c (.bool true)) h') : callW N (k + 11) 139 [.c (.int .i64 i), .c (.int .i64 w)] h P := by
  have z : decide ((1 : Int) = 1) = true := rfl
  have z0 : decide ((0 : Int) = 0) = true := rfl
  have hln : ∀ h' : Hp, lenT h' .sl (.v (.c .nils)) = some (0 : Int) := fun _ => rfl
  refine call_intro rfl (by simp only [List.length_cons, List.length_nil]; omega) ?_
  simp (maxSteps := 200000) -implicitDefEqProofs only [KA, KB, KC, KD, KE, KF, eq_self, ne_eq, ↓reduceIte, Nat.reduceLT, Nat.reduceEqDiff, Nat.reduceAdd, Nat.reduceLeDiff, Nat.reduceSub, Nat.reduceMul, reduceCtorEq]
  refine nb_begin (k := k + 9) ?_
  simp (maxSteps := 200000) -implicitDefEqProofs only [KA, KB, KC, KD, KE, KF, eq_self, ne_eq, ↓reduceIte, Nat.reduceLT, Nat.reduceEqDiff, Nat.reduceAdd, Nat.reduceLeDiff, Nat.reduceSub, Nat.reduceMul, reduceCtorEq, z, z0]
  refine nb_ready (k := k + 9) ?_
  simp (maxSteps := 200000) -implicitDefEqProofs only [KA, KB, KC, KD, KE, KF, eq_self, ne_eq, ↓reduceIte, Nat.reduceLT, Nat.reduceEqDiff, Nat.reduceAdd, Nat.reduceLeDiff, Nat.reduceSub, Nat.reduceMul, reduceCtorEq, z, z0]
  refine nb_commit (k := k + 9) ?_
  simp (maxSteps := 200000) -implicitDefEqProofs only [KA, KB, KC, KD, KE, KF, eq_self, ne_eq, ↓reduceIte, Nat.reduceLT, Nat.reduceEqDiff, Nat.reduceAdd, Nat.reduceLeDiff, Nat.reduceSub, Nat.reduceMul, reduceCtorEq, z, z0]
  refine nb_abort (k := k + 9) ?_
  simp (maxSteps := 200000) -implicitDefEqProofs only [KA, KB, KC, KD, KE, KF, eq_self, ne_eq, ↓reduceIte, Nat.reduceLT, Nat.reduceEqDiff, Nat.reduceAdd, Nat.reduceLeDiff, Nat.reduceSub, Nat.reduceMul, reduceCtorEq, z, z0]
  refine nb_version (k := k + 9) ?_
  simp (maxSteps := 200000) -implicitDefEqProofs only [KA, KB, KC, KD, KE, KF, eq_self, ne_eq, ↓reduceIte, Nat.reduceLT, Nat.reduceEqDiff, Nat.reduceAdd, Nat.reduceLeDiff, Nat.reduceSub, Nat.reduceMul, reduceCtorEq, z, z0]
  refine nb_cells (k := k + 9) ?_
  simp (maxSteps := 200000) -implicitDefEqProofs only [KA, KB, KC, KD, KE, KF, eq_self, ne_eq, ↓reduceIte, Nat.reduceLT, Nat.reduceEqDiff, Nat.reduceAdd, Nat.reduceLeDiff, Nat.reduceSub, Nat.reduceMul, reduceCtorEq, z, z0, hln]
  refine nb_waits (k := k + 9) ?_
  simp (maxSteps := 200000) -implicitDefEqProofs only [KA, KB, KC, KD, KE, KF, eq_self, ne_eq, ↓reduceIte, Nat.reduceLT, Nat.reduceEqDiff, Nat.reduceAdd, Nat.reduceLeDiff, Nat.reduceSub, Nat.reduceMul, reduceCtorEq, z, z0, hln]
  refine np_prepare (k := k + 9) ?_
  simp (maxSteps := 200000) -implicitDefEqProofs only [KA, KB, KC, KD, KE, KF, eq_self, ne_eq, ↓reduceIte, Nat.reduceLT, Nat.reduceEqDiff, Nat.reduceAdd, Nat.reduceLeDiff, Nat.reduceSub, Nat.reduceMul, reduceCtorEq, z, z0]
  refine np_commit (k := k + 9) ?_
  simp (maxSteps := 200000) -implicitDefEqProofs only [KA, KB, KC, KD, KE, KF, eq_self, ne_eq, ↓reduceIte, Nat.reduceLT, Nat.reduceEqDiff, Nat.reduceAdd, Nat.reduceLeDiff, Nat.reduceSub, Nat.reduceMul, reduceCtorEq, z, z0]
  refine np_cells (k := k + 9) ?_
  simp (maxSteps := 200000) -implicitDefEqProofs only [KA, KB, KC, KD, KE, KF, eq_self, ne_eq, ↓reduceIte, Nat.reduceLT, Nat.reduceEqDiff, Nat.reduceAdd, Nat.reduceLeDiff, Nat.reduceSub, Nat.reduceMul, reduceCtorEq, z, z0, hln]
  refine np_version (k := k + 9) ?_
  simp (maxSteps := 200000) -implicitDefEqProofs only [KA, KB, KC, KD, KE, KF, eq_self, ne_eq, ↓reduceIte, Nat.reduceLT, Nat.reduceEqDiff, Nat.reduceAdd, Nat.reduceLeDiff, Nat.reduceSub, Nat.reduceMul, reduceCtorEq, z, z0]
  refine awakeV_ok (k := k) fun h' _ => ?_
  simp (maxSteps := 200000) -implicitDefEqProofs only [KA, KB, KC, KD, KE, KF, eq_self, ne_eq, ↓reduceIte, Nat.reduceLT, Nat.reduceEqDiff, Nat.reduceAdd, Nat.reduceLeDiff, Nat.reduceSub, Nat.reduceMul, reduceCtorEq]
  exact hP _
end
end Camp
