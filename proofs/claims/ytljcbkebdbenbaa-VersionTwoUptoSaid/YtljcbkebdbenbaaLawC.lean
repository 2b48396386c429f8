/- Cells sorted: by the program, by the reference. The reference's Less and Sorted. Begin, by the program. The reference's book. Books: who is waited for, commit, cells; the same. Both books, by what they mean. The law of the plays of a book. The arguments of the plays of a book. A node's plan: what its operations do. Prepare; few; what Map's table is. The book and all plans: what holds between calls. The law of a book and plans. -/
import Derived.Test.YtljcbkebdbenbaaLaw
import Derived.Test.YtljcbkebdbenbaaLawB

set_option linter.unnecessarySimpa false
set_option linter.unusedVariables false
set_option linter.unusedSimpArgs false
set_option linter.unusedSectionVars false
/-! CvVq1 -/
namespace Camp
open Go
set_option linter.unusedVariables false
set_option linter.unusedSimpArgs false
set_option maxHeartbeats 2000000
def lessC (x y : Cel) : Bool := lessB x.f x.s x.c x.o x.p y.f y.s y.c y.o y.p
def ltC (x y : Cel) : Prop := lessC x y = true
theorem ltC_iff {x y : Cel} : ltC x y ↔ (x.f < y.f ∨ (x.f = y.f ∧ (x.s < y.s ∨ (x.s = y.s ∧ (x.c < y.c ∨ (x.c = y.c ∧ (x.o < y.o ∨ (x.o = y.o ∧ x.p < y.p)))))))) := by
  unfold ltC lessC lessB
  rw [decide_eq_true_eq]
theorem swoC : SWO ltC := by
  refine ⟨fun x => ?_, fun {x y z} => ?_, fun {x y z} => ?_⟩
  · rw [ltC_iff]; omega
  · rw [ltC_iff, ltC_iff, ltC_iff]; omega
  · rw [ltC_iff, ltC_iff, ltC_iff]; omega
theorem antC {x y : Cel} (h1 : ¬ ltC x y) (h2 : ¬ ltC y x) : x = y := by
  rw [ltC_iff] at h1 h2
  have : x.f = y.f ∧ x.s = y.s ∧ x.c = y.c ∧ x.o = y.o ∧ x.p = y.p := by omega
  cases x; cases y
  simp_all
def insC (x : Cel) : List Cel → List Cel
  | [] => [x]
  | y :: l => if lessC x y then x :: y :: l else y :: insC x l
def srtC (L : List Cel) : List Cel := L.foldl (fun T x => insC x T) []
theorem insC_perm (x : Cel) : ∀ T, (insC x T).Perm (x :: T)
  | [] => .refl _
  | y :: l => by
    rw [insC]
    split
    · exact .refl _
    · exact ((insC_perm x l).cons y).trans (.swap x y l)
theorem insC_sorted (x : Cel) : ∀ T, T.Pairwise (fun a b => ¬ ltC b a) → (insC x T).Pairwise fun a b => ¬ ltC b a
  | [], _ => List.pairwise_singleton _ _
  | y :: l, h => by
    rw [List.pairwise_cons] at h
    rw [insC]
    split
    · rename_i hlt
      have hlt : ltC x y := hlt
      rw [List.pairwise_cons, List.pairwise_cons]
      refine ⟨fun z hz => ?_, h⟩
      rcases List.mem_cons.mp hz with rfl | hz
      · exact swoC.asym hlt
      · exact swoC.le (swoC.asym hlt) (h.1 z hz)
    · rename_i hlt
      rw [List.pairwise_cons]
      refine ⟨fun z hz => ?_, insC_sorted x l h.2⟩
      rcases List.mem_cons.mp ((insC_perm x l).mem_iff.mp hz) with rfl | hz
      · exact hlt
      · exact h.1 z hz
theorem srt_fold : ∀ (L T : List Cel), T.Pairwise (fun a b => ¬ ltC b a) → (L.foldl (fun T x => insC x T) T).Perm (T ++ L) ∧ (L.foldl (fun T x => insC x T) T).Pairwise fun a b => ¬ ltC b a
  | [], T, h => by simpa using h
  | x :: L, T, h => by
    have h1 := srt_fold L (insC x T) (insC_sorted x T h)
    refine ⟨h1.1.trans ?_, h1.2⟩
    have h2 := (insC_perm x T).append_right L
    exact h2.trans (by simpa using (List.perm_middle (a := x) (l₁ := T) (l₂ := L)).symm)
theorem srtC_perm (L : List Cel) : (srtC L).Perm L := by
  have := (srt_fold L [] List.Pairwise.nil).1
  rw [List.nil_append] at this
  exact this
theorem srtC_sorted (L : List Cel) : (srtC L).Pairwise fun a b => ¬ ltC b a := (srt_fold L [] List.Pairwise.nil).2
theorem srtC_len (L : List Cel) : (srtC L).length = L.length := (srtC_perm L).length_eq
theorem srt_uniq : ∀ {A B : List Cel}, A.Perm B → A.Pairwise (fun a b => ¬ ltC b a) → B.Pairwise (fun a b => ¬ ltC b a) → A = B
  | [], B, h, _, _ => (List.nil_perm.mp h).symm
  | x :: A, [], h, _, _ => by have := h.length_eq; simp at this
  | x :: A, y :: B, h, hA, hB => by
    rw [List.pairwise_cons] at hA hB
    have e : x = y := by
      refine antC (fun k => ?_) (fun k => ?_)
      · have := h.mem_iff.mp (List.mem_cons_self (a := x) (l := A))
        rcases List.mem_cons.mp this with e | e
        · rw [e] at k; exact swoC.irr _ k
        · exact hB.1 x e k
      · have := h.mem_iff.mpr (List.mem_cons_self (a := y) (l := B))
        rcases List.mem_cons.mp this with e | e
        · rw [e] at k; exact swoC.irr _ k
        · exact hA.1 y e k
    subst e
    rw [srt_uniq (List.Perm.cons_inv h) hA.2 hB.2]
section
variable {k : Nat} {h : Hp} {P : AV → Hp → Prop}
theorem less_ok {x y : Cel} (hP : P (.c (.bool (lessC x y))) h) : callW N (k + 1) 156 [.agg (encE x), .agg (encE y)] h P :=
  ⟨lessN, rfl, (show 2 ≤ 3 by omega), _, _, rfl, rfl, rfl, .inr rfl, _, rfl, hP⟩
theorem cmpC : CmpOk ltC 152 2 := by
  intro F x y h' Q hF hQ
  obtain ⟨k, rfl⟩ : ∃ k, F = k + 2 := ⟨F - 2, by omega⟩
  have henc : ∀ x, (encE x).length = 5 := fun _ => rfl
  have htk : ∀ x, (encE x).take 5 = encE x := fun _ => rfl
  refine call_intro rfl (by simp only [List.length_cons, List.length_nil]; omega) ?_
  simp (maxSteps := 200000) -implicitDefEqProofs only [KA, KB, KC, KD, KE, KF, eq_self, ne_eq, ↓reduceIte, Nat.reduceLT, Nat.reduceEqDiff, Nat.reduceAdd, Nat.reduceLeDiff, Nat.reduceSub, Nat.reduceMul, reduceCtorEq, henc, htk]
  refine less_ok (k := k) ?_
  by_cases c : ltC x y
  · have c' : lessC x y = true := c
    rw [c']
    simp (maxSteps := 200000) -implicitDefEqProofs only [KA, KB, KC, KD, KE, KF, eq_self, ne_eq, ↓reduceIte, Nat.reduceLT, Nat.reduceEqDiff, Nat.reduceAdd, Nat.reduceLeDiff, Nat.reduceSub, Nat.reduceMul, reduceCtorEq, henc, htk]
    exact hQ _ ⟨fun _ => c, fun _ => by omega⟩
  · have c' : lessC x y = false := by simpa [ltC] using c
    rw [c']
    simp (maxSteps := 200000) -implicitDefEqProofs only [KA, KB, KC, KD, KE, KF, eq_self, ne_eq, ↓reduceIte, Nat.reduceLT, Nat.reduceEqDiff, Nat.reduceAdd, Nat.reduceLeDiff, Nat.reduceSub, Nat.reduceMul, reduceCtorEq, henc, htk]
    refine less_ok (k := k) ?_
    by_cases d : lessC y x = true
    · rw [d]
      simp (maxSteps := 200000) -implicitDefEqProofs only [KA, KB, KC, KD, KE, KF, eq_self, ne_eq, ↓reduceIte, Nat.reduceLT, Nat.reduceEqDiff, Nat.reduceAdd, Nat.reduceLeDiff, Nat.reduceSub, Nat.reduceMul, reduceCtorEq]
      exact hQ _ ⟨fun e => by omega, fun e => absurd e c⟩
    · have d' : lessC y x = false := by simpa using d
      rw [d']
      simp (maxSteps := 200000) -implicitDefEqProofs only [KA, KB, KC, KD, KE, KF, eq_self, ne_eq, ↓reduceIte, Nat.reduceLT, Nat.reduceEqDiff, Nat.reduceAdd, Nat.reduceLeDiff, Nat.reduceSub, Nat.reduceMul, reduceCtorEq]
      exact hQ _ ⟨fun e => by omega, fun e => absurd e c⟩
theorem cloneC_ok {v : CV} {L : List Cel} (hs : SL h 5 v (L.map encE)) (hn : L.length ≤ 1000000000)
    (h0 : L = [] → P (.c .nils) h) (hP : ∀ h' id cap, Ar encE 5 h' id 0 [] L → Fn h h' → h.n ≤ id → P (.c (.sl id 0 0 L.length cap)) h') : callW N (k + 1) 147 [.c v] h P := by
  cases v <;> simp only [SL] at hs
  case nils =>
    refine call_intro rfl (by simp only [List.length_cons, List.length_nil]; omega) ?_
    simp (maxSteps := 200000) -implicitDefEqProofs only [KA, KB, KC, KD, KE, KF, eq_self, ne_eq, ↓reduceIte, Nat.reduceLT, Nat.reduceEqDiff, Nat.reduceAdd, Nat.reduceLeDiff, Nat.reduceSub, Nat.reduceMul, reduceCtorEq]
    exact h0 (by simpa using hs)
  case sl id tok off len cap =>
    have hs : SL h 5 (.sl id tok off len cap) (L.map encE) := hs
    obtain ⟨h2, hh2⟩ : ∃ h2, h2 = h.push (.rows true 5 0 0 []) := ⟨_, rfl⟩
    have hf2 : Fn h h2 := by rw [hh2]; exact Fm.push _ _ _
    have hg2 : h2.g h.n = some (.rows true 5 0 0 []) := by rw [hh2, g_push_eq]
    have hn2 : h2.n = h.n + 1 := by rw [hh2, n_push]
    have hfold := hh2.symm
    have hrd : sliceRows h2 [] 5 (.v (.c (.sl id tok off len cap))) = some (L.map encE) := (hs.new hf2).read
    cases L with
    | nil =>
      have happ : appT h2 [] 5 40 (.v (.c (.sl h.n 0 0 0 (some 0)))) (.v (.c (.sl id tok off len cap))) = some (.sl h.n 0 0 0 (some 0), h2) := by
        simp only [appT, asC_c, Option.bind_some, hrd]
        rfl
      refine call_intro rfl (by simp only [List.length_cons, List.length_nil]; omega) ?_
      simp (maxSteps := 200000) -implicitDefEqProofs only [KA, KB, KC, KD, KE, KF, eq_self, ne_eq, ↓reduceIte, Nat.reduceLT, Nat.reduceEqDiff, Nat.reduceAdd, Nat.reduceLeDiff, Nat.reduceSub, Nat.reduceMul, reduceCtorEq, chunks, hfold, happ]
      exact hP _ _ _ ⟨0, Nat.le_refl _, hg2⟩ hf2 (Nat.le_refl _)
    | cons y ys =>
      have happ : appT h2 [] 5 40 (.v (.c (.sl h.n 0 0 0 (some 0)))) (.v (.c (.sl id tok off len cap))) = some (.sl h2.n 0 0 ((y :: ys).map encE).length none, h2.push (.rows true 5 0 0 ((y :: ys).map encE))) := by
        simp only [appT, asC_c, Option.bind_some, hrd, List.map_cons, appRows, g_def, hg2]
        rw [if_pos ⟨trivial, Nat.le_refl _, by simp only [room, List.length_cons, List.length_map] at hn ⊢; omega⟩]
        rw [if_neg (by simp only [List.length_cons]; omega)]
        simp only [List.drop_nil, List.take_nil, List.nil_append, Nat.zero_add]
        rfl
      rw [List.length_map] at happ
      refine call_intro rfl (by simp only [List.length_cons, List.length_nil]; omega) ?_
      simp (maxSteps := 200000) -implicitDefEqProofs only [KA, KB, KC, KD, KE, KF, eq_self, ne_eq, ↓reduceIte, Nat.reduceLT, Nat.reduceEqDiff, Nat.reduceAdd, Nat.reduceLeDiff, Nat.reduceSub, Nat.reduceMul, reduceCtorEq, chunks, hfold, happ]
      exact hP _ _ _ ⟨0, Nat.le_refl _, by rw [List.append_nil]; exact g_push_eq _ _⟩ (hf2.trans (Fm.push _ _ _)) (by omega)
/-- What is cloned and sorted. -/
theorem sortedC_ok {F : Nat} {v : CV} {L : List Cel} (hF : 80 ≤ F) (hs : SL h 5 v (L.map encE)) (hn : L.length ≤ 64) (hP : ∀ h' u, SL h' 5 u ((srtC L).map encE) → Fn h h' → (∀ j, ownId u j → h.n ≤ j) → P (.c u) h') : callW N F 146 [.c v] h P := by
  obtain ⟨k, rfl⟩ : ∃ k, F = k + 2 := ⟨F - 2, by omega⟩
  refine call_intro rfl (by simp only [List.length_cons, List.length_nil]; omega) ?_
  simp (maxSteps := 200000) -implicitDefEqProofs only [KA, KB, KC, KD, KE, KF, eq_self, ne_eq, ↓reduceIte, Nat.reduceLT, Nat.reduceEqDiff, Nat.reduceAdd, Nat.reduceLeDiff, Nat.reduceSub, Nat.reduceMul, reduceCtorEq]
  refine cloneC_ok (k := k) hs (by omega) (fun h0 => ?_) fun h2 id cap hA f2 hid => ?_
  · simp (maxSteps := 200000) -implicitDefEqProofs only [KA, KB, KC, KD, KE, KF, eq_self, ne_eq, ↓reduceIte, Nat.reduceLT, Nat.reduceEqDiff, Nat.reduceAdd, Nat.reduceLeDiff, Nat.reduceSub, Nat.reduceMul, reduceCtorEq]
    refine sort_nil (by omega) ?_
    simp (maxSteps := 200000) -implicitDefEqProofs only [KA, KB, KC, KD, KE, KF, eq_self, ne_eq, ↓reduceIte, Nat.reduceLT, Nat.reduceEqDiff, Nat.reduceAdd, Nat.reduceLeDiff, Nat.reduceSub, Nat.reduceMul, reduceCtorEq]
    refine hP _ _ ?_ (Fm.refl _ _) (fun j e => e.elim)
    subst h0
    rfl
  · simp (maxSteps := 200000) -implicitDefEqProofs only [KA, KB, KC, KD, KE, KF, eq_self, ne_eq, ↓reduceIte, Nat.reduceLT, Nat.reduceEqDiff, Nat.reduceAdd, Nat.reduceLeDiff, Nat.reduceSub, Nat.reduceMul, reduceCtorEq]
    refine sort_ok swoC cmpC (by omega) hA (by omega) fun h3 T hT1 hT2 hA3 f3 => ?_
    simp (maxSteps := 200000) -implicitDefEqProofs only [KA, KB, KC, KD, KE, KF, eq_self, ne_eq, ↓reduceIte, Nat.reduceLT, Nat.reduceEqDiff, Nat.reduceAdd, Nat.reduceLeDiff, Nat.reduceSub, Nat.reduceMul, reduceCtorEq]
    have e : T = srtC L := srt_uniq (hT1.trans (srtC_perm L).symm) hT2 (srtC_sorted L)
    subst e
    refine hP _ _ ?_ (f2.fresh f3 (fun j hj => by omega)) (fun j hj => by simp only [ownId] at hj; omega)
    obtain ⟨lw, g1, g2⟩ := hA3
    exact ⟨true, 0, lw, _, g2, g1, by rw [List.append_nil, List.length_map, srtC_len]; omega, by rw [List.append_nil, List.drop_zero, List.take_of_length_le (by rw [List.length_map, srtC_len]; omega)]⟩
end
end Camp

/-! CvVq2 -/
namespace Camp
open Go
set_option linter.unusedVariables false
set_option linter.unusedSimpArgs false
set_option maxHeartbeats 2000000
def lexL : List Int → List Int → Bool
  | a :: l, b :: m => if a = b then lexL l m else decide (a < b)
  | _, _ => false
def five (x : Cel) : List Int := [x.f, x.s, x.c, x.o, x.p]
def fiveV (x : Cel) : List CV := (five x).map (.int .i64)
theorem lexL_less (x y : Cel) : lexL (five x) (five y) = lessC x y := by
  unfold lessC lessB five
  simp only [lexL]
  rw [Bool.eq_iff_iff]
  split
  · split
    · split
      · split
        · split
          · simp; omega
          · simp; omega
        · simp; omega
      · simp; omega
    · simp; omega
  · simp; omega
section
variable {h : Hp} {sz : Nat} {v : CV} {rows : List (List CV)} {lc : List (List CV)}
theorem Ow.app0 (k : Ow h sz v rows) {x : TV} {xs : List (List CV)} (hx : sliceRows h lc sz x = some xs) {bytes : Nat} (hb : (rows.length + xs.length) * bytes ≤ room) :
    ∃ v' h', appT h lc sz bytes (.v (.c v)) x = some (v', h') ∧ Ow h' sz v' (rows ++ xs) ∧ Fm (ownId v) h h' ∧ (∀ j, ownId v' j → ownId v j ∨ h.n ≤ j) := by
  cases xs with
  | cons y ys => exact k.app hx (by simp) hb
  | nil =>
    refine ⟨v, h, ?_, by rw [List.append_nil]; exact k, Fm.refl _ _, fun j hj => .inl hj⟩
    cases v <;> simp only [Ow] at k
    case nils => simp only [appT, asC_c, Option.bind_some, hx, appRows]
    case sl id tok off len cap => simp only [appT, asC_c, Option.bind_some, hx, appRows]
/-- The last elements of such a slice. -/
theorem Ow.suf (k : Ow h sz v rows) (h0 : 0 < sz) {m : Int} (hm : 0 ≤ m ∧ m ≤ rows.length) :
    ∃ v', sliceT h sz (.v (.c v)) (some m) none none = some v' ∧ (∀ h', Fm (fun j => ¬ ownId v j) h h' → sliceT h' sz (.v (.c v)) (some m) none none = some v') ∧ SL h sz v' (rows.drop m.toNat) ∧ ∀ j, ownId v' j ↔ ownId v j := by
  cases v <;> simp only [Ow] at k
  case nils =>
    subst k
    have : m = 0 := by simp at hm; omega
    subst this
    refine ⟨.nils, ?_, fun h' _ => ?_, ?_, fun j => Iff.rfl⟩
    · simp [sliceT, sliceV, h0]
    · simp [sliceT, sliceV, h0]
    · simp [SL]
  case sl id tok off len cap =>
    obtain ⟨rfl, rfl, lw, rs, h1, h2, h3, rfl⟩ := k
    simp only [List.length_take] at hm
    have key : ∀ h' : Hp, h'.g id = some (.rows true sz tok lw rs) → sliceT h' sz (.v (.c (.sl id tok 0 len none))) (some m) none none = some (.sl id tok m.toNat (len - m.toNat) none) := by
      intro h' hg
      simp only [sliceT, sliceV, g_def, hg]
      rw [if_pos ⟨h0, trivial, h2⟩]
      unfold sliceB
      rw [if_pos]
      · simp
      · simp; omega
    refine ⟨_, key h h1, fun h' f => key h' (f.some h1 (fun e => e rfl)), ⟨true, tok, lw, rs, h1, h2, by omega, ?_⟩, fun j => Iff.rfl⟩
    rw [List.drop_take]
end
section
variable {k : Nat} {h : Hp} {P : AV → Hp → Prop}
def RlI (h : Hp) (x y : Cel) (m : Nat) (s : St) : Prop :=
  ∃ (i : Nat) (l : List (Nat × TV)), s = ST 48 l [encE x, encE y, fiveV x, fiveV y] h ∧ i ≤ 5 ∧ m = 5 - i ∧ lexL (five x) (five y) = lexL ((five x).drop i) ((five y).drop i) ∧
    lk l 5 = .lp 2 0 ∧ lk l 6 = .lp 3 0 ∧ lk l 30 = .v (.c (.int .i64 i))
theorem rless_ok {x y : Cel} (hP : P (.c (.bool (lessC x y))) h) : callW N (k + 1) 233 [.agg (encE x), .agg (encE y)] h P := by
  have e1 : encE x = [.int .i64 x.f, .int .i64 x.s, .int .i64 x.c, .int .i64 x.o, .int .i64 x.p] := rfl
  have e2 : encE y = [.int .i64 y.f, .int .i64 y.s, .int .i64 y.c, .int .i64 y.o, .int .i64 y.p] := rfl
  refine call_intro rfl (by simp only [List.length_cons, List.length_nil]; omega) ?_
  simp (maxSteps := 200000) -implicitDefEqProofs only [KA, KB, KC, KD, KE, KF, eq_self, ne_eq, ↓reduceIte, Nat.reduceLT, Nat.reduceEqDiff, Nat.reduceAdd, Nat.reduceLeDiff, Nat.reduceSub, Nat.reduceMul, reduceCtorEq, e1, e2]
  refine loop_rd (callW_mono N _) (RlI h x y) (n := 5) ⟨0, _, rfl, by omega, rfl, rfl, rfl, rfl, rfl⟩ ?_
  rintro m s ⟨i, l, rfl, hi, hm, hL, e5, e6, e30⟩
  by_cases hlt : (i : Int) < 5
  · have hil : i < 5 := by omega
    have j1 := iaA_l (n := 5) (sz := 1) (b := 2) (off := 0) (i := (i : Int)) (by omega)
    have j2 := iaA_l (n := 5) (sz := 1) (b := 3) (off := 0) (i := (i : Int)) (by omega)
    obtain ⟨a, ha⟩ : ∃ a, (five x)[i]? = some a := ⟨_, List.getElem?_eq_getElem (by simpa [five] using hil)⟩
    obtain ⟨b, hb⟩ : ∃ b, (five y)[i]? = some b := ⟨_, List.getElem?_eq_getElem (by simpa [five] using hil)⟩
    have s1 : (fiveV x)[(i : Int).toNat * 1]? = some (.int .i64 a) := by simp [fiveV, ha]
    have s2 : (fiveV y)[(i : Int).toNat * 1]? = some (.int .i64 b) := by simp [fiveV, hb]
    have hwi := wrap_i64 (n := (i : Int) + 1) (by omega)
    have hd : ∀ {L : List Int} {a : Int}, L[i]? = some a → L.drop i = a :: L.drop (i + 1) := fun {L a} h => by
      have hl : i < L.length := by
        rcases Nat.lt_or_ge i L.length with q | q
        · exact q
        · rw [List.getElem?_eq_none q] at h; cases h
      rw [List.drop_eq_getElem_cons hl]
      rw [List.getElem?_eq_getElem hl] at h
      rw [Option.some.inj h]
    rw [hd ha, hd hb, lexL] at hL
    by_cases c : a = b
    · have c' : decide (a = b) = true := decide_eq_true c
      rw [if_pos c] at hL
      simp (maxSteps := 200000) -implicitDefEqProofs only [KA, KB, KC, KD, KE, KF, eq_self, ne_eq, ↓reduceIte, Nat.reduceLT, Nat.reduceEqDiff, Nat.reduceAdd, Nat.reduceLeDiff, Nat.reduceSub, Nat.reduceMul, reduceCtorEq, e5, e6, e30, hlt, j1, j2, s1, s2, c', hwi, rd_n]
      exact ⟨m - 1, by omega, i + 1, _, rfl, by omega, by omega, hL, rfl, rfl, rfl⟩
    · rw [if_neg c] at hL
      rw [← lexL_less, hL] at hP
      simp (maxSteps := 200000) -implicitDefEqProofs only [KA, KB, KC, KD, KE, KF, eq_self, ne_eq, ↓reduceIte, Nat.reduceLT, Nat.reduceEqDiff, Nat.reduceAdd, Nat.reduceLeDiff, Nat.reduceSub, Nat.reduceMul, reduceCtorEq, e5, e6, e30, hlt, j1, j2, s1, s2, c]
      exact hP
  · have : i = 5 := by omega
    subst this
    rw [← lexL_less, hL] at hP
    simp (maxSteps := 200000) -implicitDefEqProofs only [KA, KB, KC, KD, KE, KF, eq_self, ne_eq, ↓reduceIte, Nat.reduceLT, Nat.reduceEqDiff, Nat.reduceAdd, Nat.reduceLeDiff, Nat.reduceSub, Nat.reduceMul, reduceCtorEq, e5, e6, e30, hlt]
    exact hP
theorem ins_at {x : Cel} : ∀ {S : List Cel} {k : Nat}, (∀ y ∈ S.take k, lessC x y = false) → k ≤ S.length → (k = S.length ∨ ∃ z, S[k]? = some z ∧ lessC x z = true) → insC x S = S.take k ++ ([x] ++ S.drop k)
  | [], 0, _, _, _ => rfl
  | [], k + 1, _, h, _ => by simp at h
  | y :: S, 0, _, _, h => by
    rcases h with h | ⟨z, hz, h⟩
    · simp at h
    · rw [List.getElem?_cons_zero] at hz
      have := Option.some.inj hz
      subst this
      rw [insC, if_pos h]
      rfl
  | y :: S, k + 1, h0, h1, h => by
    have hy := h0 y (by simp)
    rw [insC, if_neg (by rw [hy]; simp), ins_at (k := k) (fun z hz => h0 z (by simp [hz])) (by simpa using h1) (by simpa using h)]
    rfl
def RsA (h : Hp) (v : CV) (L : List Cel) (m : Nat) (s : St) : Prop :=
  ∃ (i : Nat) (w : CV) (h' : Hp) (l : List (Nat × TV)), s = ST 41 l [] h' ∧ i ≤ L.length ∧ m = L.length - i ∧ Ow h' 5 w ((srtC (L.take i)).map encE) ∧ Fn h h' ∧ (∀ j, ownId w j → h.n ≤ j) ∧
    lk l 3 = .v (.c w) ∧ lk l 7 = .v (.c v) ∧ lk l 8 = .v (.c (.int .i64 L.length)) ∧ lk l 9 = .v (.c (.int .i64 i))
def RsB (h : Hp) (v w : CV) (L S : List Cel) (i : Nat) (x : Cel) (m : Nat) (s : St) : Prop :=
  ∃ (k : Nat) (l : List (Nat × TV)), s = ST 41 l [encE x] h ∧ k ≤ S.length ∧ m = S.length - k ∧ (∀ y ∈ S.take k, lessC x y = false) ∧
    lk l 3 = .v (.c w) ∧ lk l 5 = .lp 0 0 ∧ lk l 6 = .v (.c (.int .i64 k)) ∧ lk l 7 = .v (.c v) ∧ lk l 8 = .v (.c (.int .i64 L.length)) ∧ lk l 9 = .v (.c (.int .i64 i))
theorem rsorted_ok {v : CV} {L : List Cel} (hs : SL h 5 v (L.map encE)) (hn : L.length ≤ 1000) (hP : ∀ h' u, Ow h' 5 u ((srtC L).map encE) → Fn h h' → (∀ j, ownId u j → h.n ≤ j) → P (.c u) h') : callW N (k + 2) 232 [.c v] h P := by
  have hlen : ∀ h' : Hp, lenT h' .sl (.v (.c v)) = some (L.length : Int) := fun h' => by rw [hs.len h', List.length_map]
  have henc : ∀ x, (encE x).length = 5 := fun _ => rfl
  have htk : ∀ x, (encE x).take 5 = encE x := fun _ => rfl
  refine call_intro rfl (by simp only [List.length_cons, List.length_nil]; omega) ?_
  simp (maxSteps := 200000) -implicitDefEqProofs only [KA, KB, KC, KD, KE, KF, eq_self, ne_eq, ↓reduceIte, Nat.reduceLT, Nat.reduceEqDiff, Nat.reduceAdd, Nat.reduceLeDiff, Nat.reduceSub, Nat.reduceMul, reduceCtorEq, hlen]
  refine loop_rd (callW_mono N _) (RsA h v L) (n := L.length) ⟨0, .nils, h, _, rfl, by omega, rfl, rfl, Fm.refl _ _, (fun j e => e.elim), rfl, rfl, rfl, rfl⟩ ?_
  rintro m s ⟨i, w, h1, l, rfl, hi, hm, hw, f1, hid, e3, e7, e8, e9⟩
  by_cases hlt : (i : Int) < (L.length : Int)
  · have hil : i < L.length := by omega
    obtain ⟨x, hx⟩ : ∃ x, L[i]? = some x := ⟨_, List.getElem?_eq_getElem hil⟩
    have hrow : (L.map encE)[(i : Int).toNat]? = some (encE x) := by simp [hx]
    obtain ⟨p1, p2, p3, a1, a2⟩ := (hs.new f1).at (by omega) hrow
    have hwi := wrap_i64 (n := (i : Int) + 1) (by omega)
    have hts : srtC (L.take (i + 1)) = insC x (srtC (L.take i)) := by
      rw [take_snoc hx]
      unfold srtC
      rw [List.foldl_append]
      rfl
    have hSl : (srtC (L.take i)).length ≤ 1000 := by rw [srtC_len, List.length_take]; omega
    generalize srtC (L.take i) = S at hw hts hSl
    have hwl : ∀ h' : Hp, lenT h' .sl (.v (.c w)) = some (S.length : Int) := fun h' => by rw [hw.sl.len h', List.length_map]
    simp (maxSteps := 200000) -implicitDefEqProofs only [KA, KB, KC, KD, KE, KF, eq_self, ne_eq, ↓reduceIte, Nat.reduceLT, Nat.reduceEqDiff, Nat.reduceAdd, Nat.reduceLeDiff, Nat.reduceSub, Nat.reduceMul, reduceCtorEq, e3, e7, e8, e9, hlt, a1, a2, henc, htk]
    refine loop_rd (callW_mono N _) (RsB h1 v w L S i x) (n := S.length) ⟨0, _, rfl, by omega, rfl, by simp, rfl, rfl, rfl, rfl, rfl, rfl⟩ ?_
    clear e3 e7 e8 e9
    rintro m2 s ⟨kk, l, rfl, hk, hm2, hbe, e3, e5, e6, e7, e8, e9⟩
    have hwk := wrap_i64 (n := (kk : Int) + 1) (by omega)
    have hcase : (kk = S.length ∧ ¬ (kk : Int) < (S.length : Int)) ∨ (∃ z, S[kk]? = some z ∧ (kk : Int) < (S.length : Int) ∧ lessC x z = true) ∨ (∃ z, S[kk]? = some z ∧ (kk : Int) < (S.length : Int) ∧ lessC x z = false) := by
      by_cases c : kk < S.length
      · obtain ⟨z, hz⟩ : ∃ z, S[kk]? = some z := ⟨_, List.getElem?_eq_getElem c⟩
        cases hl : lessC x z with
        | true => exact .inr (.inl ⟨z, hz, by omega, hl⟩)
        | false => exact .inr (.inr ⟨z, hz, by omega, hl⟩)
      · exact .inl ⟨by omega, by omega⟩
    rcases hcase with ⟨hA, hc⟩ | ⟨z, hz, hc, hB⟩ | ⟨z, hz, hc, hC⟩
    case' inr.inr =>
      have hrz : (S.map encE)[(kk : Int).toNat]? = some (encE z) := by simp [hz]
      obtain ⟨q1, q2, q3, b1, b2⟩ := hw.sl.at (by omega) hrz
      simp (maxSteps := 200000) -implicitDefEqProofs only [KA, KB, KC, KD, KE, KF, eq_self, ne_eq, ↓reduceIte, Nat.reduceLT, Nat.reduceEqDiff, Nat.reduceAdd, Nat.reduceLeDiff, Nat.reduceSub, Nat.reduceMul, reduceCtorEq, e3, e5, e6, e7, e8, e9, hwl, hc, b1, b2, henc, htk]
      refine rless_ok (k := k) ?_
      rw [hC]
      simp (maxSteps := 200000) -implicitDefEqProofs only [KA, KB, KC, KD, KE, KF, eq_self, ne_eq, ↓reduceIte, Nat.reduceLT, Nat.reduceEqDiff, Nat.reduceAdd, Nat.reduceLeDiff, Nat.reduceSub, Nat.reduceMul, reduceCtorEq, hwk, rd_n]
    case inr.inr =>
      refine ⟨m2 - 1, by omega, kk + 1, _, rfl, by omega, by omega, fun y hy => ?_, rfl, rfl, rfl, rfl, rfl, rfl⟩
      rw [take_snoc hz] at hy
      rcases List.mem_append.mp hy with hy | hy
      · exact hbe y hy
      · rw [List.mem_singleton.mp hy]; exact hC
    case' inl =>
      have hins := ins_at hbe hk (.inl hA)
    case' inr.inl =>
      have hins := ins_at hbe hk (.inr ⟨z, hz, hB⟩)
      have hrz : (S.map encE)[(kk : Int).toNat]? = some (encE z) := by simp [hz]
      obtain ⟨q1, q2, q3, b1, b2⟩ := hw.sl.at (by omega) hrz
    all_goals
      rw [hins] at hts
      have hfR := Fm.reserve (fun _ => False) h1 1
      have hwR := hw.new hfR
      have hn1 : (h1.reserve 1).n = h1.n + 1 := n_reserve _ _
      have hv1 : ∀ j, ownId w j → j < h1.n := fun j hj => hw.lt hj
      obtain ⟨va, pa, oa, ida⟩ := hwR.pre (m := (kk : Int)) (by omega) (by rw [List.length_map]; omega)
      obtain ⟨vb, pb, pbm, sb, idb⟩ := hwR.suf (m := (kk : Int)) (by omega) (by rw [List.length_map]; omega)
      have o0 : Ow (h1.reserve 1) 5 .nils ([] : List (List CV)) := rfl
      rw [Int.toNat_natCast] at oa sb
      have hlA : ((S.map encE).take kk).length ≤ 1000 := by rw [List.length_take, List.length_map]; omega
      have hlB : ((S.map encE).drop kk).length ≤ 1000 := by rw [List.length_drop, List.length_map]; omega
      obtain ⟨u1, h2, f2, o2, m2', d2⟩ := o0.app0 (lc := [encE x]) (oa.sl.read (lc := [encE x])) (bytes := 40) (by simp only [room, List.length_nil]; omega)
      have hu1 : ∀ j, ownId u1 j → h1.n + 1 ≤ j := fun j hj => (d2 j hj).elim (fun e => e.elim) (fun e => by omega)
      have hd2 := m2'.some (dead_one h1) (fun e => e)
      have hs2 := pbm h2 (m2'.mono (fun _ _ e => e.elim))
      obtain ⟨h3, hh3⟩ : ∃ h3, h3 = h2.put h1.n (.rows true 5 0 0 [encE x]) := ⟨_, rfl⟩
      have m3 : Fm (fun j => j = h1.n) h2 h3 := by rw [hh3]; exact Fm.put _ _ rfl
      have hl3 : h3.g h1.n = some (.rows true 5 0 0 [encE x]) := by rw [hh3, g_put_eq, hd2]; rfl
      have hsl3 : SL h3 5 (.sl h1.n 0 0 1 (some 1)) [encE x] := ⟨true, 0, 0, _, hl3, Nat.le_refl _, Nat.le_refl _, rfl⟩
      have o3 := o2.mono m3 (fun j hj e => by have := hu1 j hj; omega)
      rw [List.nil_append] at o3
      obtain ⟨u2, h4, f4, o4, m4, d4⟩ := o3.app0 (lc := [encE x]) (hsl3.read (lc := [encE x])) (bytes := 40) (by simp only [room, List.length_singleton]; omega)
      have mR4 : Fm (fun j => ¬ ownId w j) (h1.reserve 1) h4 := ((m2'.mono (S' := fun j => ¬ ownId w j) (fun _ _ e => e.elim)).comp m3 (fun j _ e e2 => by have := hv1 j e2; omega)).comp m4 (fun j _ e e2 => by have := hv1 j e2; have := hu1 j e; omega)
      have hs4 := pbm h4 mR4
      have sb4 : SL h4 5 vb _ := sb.mono mR4 (fun id tok off len cap e e2 => e2 ((idb id).mp (by rw [e]; rfl)))
      have hn3 : h1.n + 1 ≤ h3.n := by have := m3.n; have := m2'.n; omega
      have hu2 : ∀ j, ownId u2 j → h1.n + 1 ≤ j := fun j hj => (d4 j hj).elim (hu1 j) (fun e => by omega)
      obtain ⟨u3, h5, f5, o5, m5, d5⟩ := o4.app0 (lc := [encE x]) (sb4.read (lc := [encE x])) (bytes := 40) (by rw [List.length_append]; simp only [room, List.length_singleton]; omega)
      have hu3 : ∀ j, ownId u3 j → h1.n + 1 ≤ j := fun j hj => (d5 j hj).elim (hu2 j) (fun e => by have := m4.n; omega)
      have hfold3 : h2.put h1.n (.rows true 5 0 0 [encE x]) = h3 := hh3.symm
      have e1 : encE x = [.int .i64 x.f, .int .i64 x.s, .int .i64 x.c, .int .i64 x.o, .int .i64 x.p] := rfl
      have fr : Fn h h5 := (((f1.trans hfR).trans m2').fresh m3 (fun j hj => by have := f1.n; omega)).fresh m4 (fun j hj => by have := hu1 j hj; have := f1.n; omega) |>.fresh m5 (fun j hj => by have := hu2 j hj; have := f1.n; omega)
    case inr.inl =>
      simp (maxSteps := 200000) -implicitDefEqProofs only [KA, KB, KC, KD, KE, KF, eq_self, ne_eq, ↓reduceIte, Nat.reduceLT, Nat.reduceEqDiff, Nat.reduceAdd, Nat.reduceLeDiff, Nat.reduceSub, Nat.reduceMul, reduceCtorEq, e3, e5, e6, e7, e8, e9, hwl, hc, b1, b2, henc, htk]
      refine rless_ok (k := k) ?_
      rw [hB]
      simp (maxSteps := 200000) -implicitDefEqProofs only [KA, KB, KC, KD, KE, KF, eq_self, ne_eq, ↓reduceIte, Nat.reduceLT, Nat.reduceEqDiff, Nat.reduceAdd, Nat.reduceLeDiff, Nat.reduceSub, Nat.reduceMul, reduceCtorEq, henc, htk, n_def, pa, pb, f2, hs2, hd2, chunks, hfold3, f4, hs4, f5, hwi, rd_n]
      refine ⟨m - 1, by omega, i + 1, u3, h5, _, rfl, by omega, by omega, ?_, fr, (fun j hj => by have := hu3 j hj; have := f1.n; omega), rfl, rfl, rfl, rfl⟩
      rw [hts]
      simpa using o5
    case inl =>
      simp (maxSteps := 200000) -implicitDefEqProofs only [KA, KB, KC, KD, KE, KF, eq_self, ne_eq, ↓reduceIte, Nat.reduceLT, Nat.reduceEqDiff, Nat.reduceAdd, Nat.reduceLeDiff, Nat.reduceSub, Nat.reduceMul, reduceCtorEq, e3, e5, e6, e7, e8, e9, hwl, hc, henc, htk, n_def, pa, pb, f2, hs2, hd2, chunks, hfold3, f4, hs4, f5, hwi, rd_n]
      refine ⟨m - 1, by omega, i + 1, u3, h5, _, rfl, by omega, by omega, ?_, fr, (fun j hj => by have := hu3 j hj; have := f1.n; omega), rfl, rfl, rfl, rfl⟩
      rw [hts]
      simpa using o5
  · have : i = L.length := by omega
    subst this
    rw [List.take_length] at hw
    simp (maxSteps := 200000) -implicitDefEqProofs only [KA, KB, KC, KD, KE, KF, eq_self, ne_eq, ↓reduceIte, Nat.reduceLT, Nat.reduceEqDiff, Nat.reduceAdd, Nat.reduceLeDiff, Nat.reduceSub, Nat.reduceMul, reduceCtorEq, e3, e7, e8, e9, hlt]
    exact hP _ _ hw f1 hid
end
end Camp

/-! CvVq3 -/
namespace Camp
open Go
set_option linter.unusedVariables false
set_option linter.unusedSimpArgs false
set_option maxHeartbeats 2000000
/-- Different entries are of different nodes. -/
def UQ (F : ME → Int × List Cel) (V : List ME) : Prop := ∀ a ∈ V, ∀ b ∈ V, (F a).1 = (F b).1 → a = b
open Classical in
noncomputable def tvf (F : ME → Int × List Cel) (V : List ME) (i : Nat) : List Cel := if h : ∃ e ∈ V, (F e).1 = (i : Int) then srtC (F (Classical.choose h)).2 else []
section
variable {F : ME → Int × List Cel} {V : List ME}
theorem tvf_in (hu : UQ F V) {e : ME} {i : Nat} (he : e ∈ V) (hi : (F e).1 = (i : Int)) : tvf F V i = srtC (F e).2 := by
  have h : ∃ e ∈ V, (F e).1 = (i : Int) := ⟨e, he, hi⟩
  unfold tvf
  rw [dif_pos h]
  have hs := Classical.choose_spec h
  rw [hu _ hs.1 _ he (hs.2.trans hi.symm)]
theorem tvf_out {i : Nat} (h : ¬ ∃ e ∈ V, (F e).1 = (i : Int)) : tvf F V i = [] := by
  unfold tvf
  rw [dif_neg h]
theorem tvf_perm {W : List ME} (hu : UQ F W) (hm : ∀ e, e ∈ V ↔ e ∈ W) : tvf F V = tvf F W := by
  funext i
  by_cases h : ∃ e ∈ W, (F e).1 = (i : Int)
  · obtain ⟨e, he, hi⟩ := h
    rw [tvf_in hu he hi, tvf_in (fun a ha b hb => hu a ((hm a).mp ha) b ((hm b).mp hb)) ((hm e).mpr he) hi]
  · rw [tvf_out h, tvf_out (fun ⟨e, he, hi⟩ => h ⟨e, (hm e).mp he, hi⟩)]
theorem rfl1_perm (x : Nat) {A B : List Cel} (h : A.Perm B) : (rfl1 x A).Perm (rfl1 x B) := h.map _
theorem flat_tvf : ∀ {V : List ME}, UQ F V → V.Nodup → (∀ e ∈ V, nodeP (F e).1) → (flatM F V).Perm (rf 16 (tvf F V))
  | [], _, _, _ => by
    have : tvf F [] = fun _ => [] := by funext i; exact tvf_out (by simp)
    rw [this]
    simp [flatM, rf, rfl1]
  | e :: V, hu, hn, hp => by
    rw [List.nodup_cons] at hn
    have hu' : UQ F V := fun a ha b hb => hu a (by simp [ha]) b (by simp [hb])
    have ih := flat_tvf hu' hn.2 (fun a ha => hp a (by simp [ha]))
    have hpe := hp e (by simp)
    obtain ⟨x, hx⟩ : ∃ x : Nat, (F e).1 = x := ⟨(F e).1.toNat, by unfold nodeP at hpe; omega⟩
    have hx16 : x < 16 := by unfold nodeP at hpe; omega
    have h0 : tvf F V x = [] := tvf_out fun ⟨a, ha, hi⟩ => hn.1 (by rw [hu e (by simp) a (by simp [ha]) (hx.trans hi.symm)]; exact ha)
    have h1 : tvf F (e :: V) x = srtC (F e).2 := tvf_in hu (by simp) hx
    have h2 : ∀ y, y ≠ x → tvf F (e :: V) y = tvf F V y := fun y hy => by
      by_cases h : ∃ a ∈ V, (F a).1 = (y : Int)
      · obtain ⟨a, ha, hi⟩ := h
        rw [tvf_in hu (by simp [ha]) hi, tvf_in hu' ha hi]
      · rw [tvf_out h, tvf_out]
        rintro ⟨a, ha, hi⟩
        rcases List.mem_cons.mp ha with rfl | ha
        · exact hy (by omega)
        · exact h ⟨a, ha, hi⟩
    have key := flat_upd (f := fun i => rfl1 i (tvf F V i)) (g := fun i => rfl1 i (tvf F (e :: V) i)) (l := List.range 16) List.nodup_range (List.mem_range.mpr hx16) (by rw [h0]; rfl) (fun y _ hy => by rw [h2 y hy])
    have e1 : flatM F (e :: V) = flatE F e ++ flatM F V := by simp [flatM]
    have e2 : (flatE F e).Perm (rfl1 x (tvf F (e :: V) x)) := by
      rw [h1]
      unfold flatE
      rw [hx]
      exact rfl1_perm x (srtC_perm _).symm
    rw [e1]
    exact (List.perm_append_comm.trans (ih.append e2)).trans key.symm
end
/-- A map of cells, as a table. -/
def CM (h : Hp) (c : CV) (n : Nat) (T : Nat → List Cel) : Prop :=
  (c = .nilm ∧ ∀ i, T i = []) ∨ ∃ (id : Nat) (es : List ME) (clock : Nat), c = .map id ∧ h.g id = some (.map true es clock) ∧ Ents (.int .i64) es clock ∧ (∀ e ∈ es, ∃ (i : Nat) (u : CV), i < n ∧ e.key = .c (.int .i64 i) ∧ e.val = .c u ∧ SL h 5 u ((T i).map encE)) ∧ ∀ i : Nat, T i ≠ [] → ∃ e ∈ es, e.key = .c (.int .i64 i)
/-- The rows of a map that is given. -/
structure Rm (h : Hp) (m : Nat) (es : List ME) (clock : Nat) (F : ME → Int × List Cel) : Prop where
  g : h.g m = some (.map true es clock)
  e : Ents (.int .i64) es clock
  f : ∀ e ∈ es, e.key = .c (.int .i64 (F e).1) ∧ ∃ v, e.val = .c v ∧ SL h 5 v ((F e).2.map encE)
  l : es.length ≤ 1048576
theorem Rm.new {h h' : Hp} {m : Nat} {es : List ME} {clock : Nat} {F : ME → Int × List Cel} (k : Rm h m es clock F) (f : Fn h h') : Rm h' m es clock F :=
  ⟨f.some k.g (fun e => e), k.e, fun e he => ⟨(k.f e he).1, by obtain ⟨v, h1, h2⟩ := (k.f e he).2; exact ⟨v, h1, h2.new f⟩⟩, k.l⟩
theorem Rm.uq {h : Hp} {m : Nat} {es : List ME} {clock : Nat} {F : ME → Int × List Cel} (k : Rm h m es clock F) : UQ F es := fun a ha b hb e => uniq_key k.e.uniq ha hb (by rw [(k.f a ha).1, (k.f b hb).1, e])
theorem flatM_len {F : ME → Int × List Cel} {c : Nat} : ∀ {V : List ME}, (∀ e ∈ V, (F e).2.length ≤ c) → (flatM F V).length ≤ V.length * c
  | [], _ => by simp [flatM]
  | e :: V, h => by
    have ih := flatM_len (V := V) (fun x hx => h x (by simp [hx]))
    have he := h e (by simp)
    have e1 : flatM F (e :: V) = flatE F e ++ flatM F V := by simp [flatM]
    rw [e1, List.length_append, List.length_cons, flatE, List.length_map]
    have : (V.length + 1) * c = V.length * c + c := by rw [Nat.add_mul, Nat.one_mul]
    omega
def okRow (n : Int) (r : Int × List Cel) : Prop := (0 ≤ r.1 ∧ r.1 < n) ∧ r.2.length ≤ 64
instance (n : Int) (r : Int × List Cel) : Decidable (okRow n r) := inferInstanceAs (Decidable (_ ∧ _))
/-- What is gone through, of a map that is read. -/
structure Vis (h : Hp) (it m : Nat) (es V : List ME) (clock : Nat) : Prop where
  sub : ∀ e ∈ V, e ∈ es
  nd : (V.map (·.born)).Nodup
  g : h.g m = some (.map true es clock)
  it : h.g it = some (.miter (some m) clock (V.map (·.born)) clock)
theorem Vis.len {h : Hp} {it m : Nat} {es V : List ME} {clock : Nat} (k : Vis h it m es V clock) : V.length ≤ es.length := by
  obtain ⟨R, hR⟩ := sub_perm k.nd k.sub
  have := hR.length_eq
  rw [List.length_append] at this
  omega
theorem Vis.all {h : Hp} {it m : Nat} {es V : List ME} {clock : Nat} (k : Vis h it m es V clock) (hE : Ents (.int .i64) es clock) (ha : ∀ e ∈ es, e.born ∈ V.map (·.born)) : ∀ e, e ∈ V ↔ e ∈ es := fun e => ⟨k.sub e, fun he => by
  obtain ⟨e', he', hb⟩ := List.mem_map.mp (ha e he)
  rwa [← born_mem hE.nd (k.sub e' he') he hb]⟩
theorem Vis.step {h : Hp} {it m : Nat} {es V : List ME} {clock : Nat} (k : Vis h it m es V clock) {e : ME} (he : e ∈ es) (hb : ¬ e.born ∈ V.map (·.born)) (hne : it ≠ m) :
    Vis (h.put it (.miter (some m) clock (V.map (·.born) ++ [e.born]) clock)) it m es (V ++ [e]) clock := by
  refine ⟨fun x hx => ?_, ?_, ?_, ?_⟩
  · rcases List.mem_append.mp hx with hx | hx
    · exact k.sub x hx
    · rw [List.mem_singleton.mp hx]; exact he
  · rw [List.map_append, List.nodup_append]
    refine ⟨k.nd, by simp, ?_⟩
    intro a ha b hb2
    simp at hb2
    subst hb2
    rintro rfl
    exact hb ha
  · rw [g_put_ne _ _ hne]; exact k.g
  · rw [g_put_eq, k.it, List.map_append]; rfl
theorem Vis.mono {h h' : Hp} {it m : Nat} {es V : List ME} {clock : Nat} {S : Nat → Prop} (k : Vis h it m es V clock) (f : Fm S h h') (h1 : ¬ S m) (h2 : ¬ S it) : Vis h' it m es V clock := ⟨k.sub, k.nd, f.some k.g h1, f.some k.it h2⟩
/-- The map that is made, so far. -/
def Mk (h : Hp) (x : Nat) (F : ME → Int × List Cel) (V : List ME) : Prop :=
  ∃ (es2 : List ME) (c2 : Nat), h.g x = some (.map true es2 c2) ∧ Ents (.int .i64) es2 c2 ∧ (∀ e ∈ es2, ∃ e0 ∈ V, ∃ u, e.key = .c (.int .i64 (F e0).1) ∧ e.val = .c u ∧ SL h 5 u ((srtC (F e0).2).map encE)) ∧ ∀ e0 ∈ V, ∃ e ∈ es2, e.key = .c (.int .i64 (F e0).1)
theorem SL.notO {h : Hp} {v : CV} {rows : List (List CV)} {j : Nat} (k : SL h 5 v rows) (hj : ∀ wr cur lw rs, h.g j ≠ some (.rows wr 5 cur lw rs)) : ∀ id tok off len cap, v = .sl id tok off len cap → ¬ id = j := by
  rintro id tok off len cap rfl rfl
  obtain ⟨wr, cur, lw, rs, h1, _⟩ := k
  exact hj _ _ _ _ h1
section
variable {k : Nat} {h : Hp} {P : AV → Hp → Prop}
def BgI (h : Hp) (b m : Nat) (F : ME → Int × List Cel) (n : Nat) (es : List ME) (clock : Nat) (q : Nat) (s : St) : Prop :=
  ∃ (V : List ME) (h' : Hp) (l : List (Nat × TV)) (lc : List (List CV)), s = ST 66 l lc h' ∧ q = es.length - V.length ∧ Vis h' (h.n + 1) m es V clock ∧ (∀ e ∈ V, okRow n (F e)) ∧ Mk h' h.n F V ∧ Fn h h' ∧ h.n + 2 ≤ h'.n ∧
    lk l 0 = .v (.c (.ptr b 0 0 0)) ∧ lk l 1 = .v (.c (.map m)) ∧ lk l 6 = .v (.c (.map h.n)) ∧ lk l 18 = .v (.c (.it (h.n + 1)))
theorem bbegin_ok {b m clock n : Nat} {es : List ME} {F : ME → Int × List Cel} {v l : Int} {c rd : CV} (hn : n ≤ 16) (hl : 0 ≤ l ∧ l ≤ 1000000) (hb : Bk h b n v l c .nilm rd) (hm : Rm h m es clock F)
    (h0 : ¬ (∀ e ∈ es, okRow n (F e)) → ∀ h', Fn h h' → P (.tup [.c (.int .i64 0), .c (.int .i64 1)]) h')
    (h1 : (∀ e ∈ es, okRow n (F e)) → ¬ cleanP (flatM F es) → ∀ h', Fn h h' → P (.tup [.c (.int .i64 0), .c (.int .i64 9)]) h')
    (h2 : (∀ e ∈ es, okRow n (F e)) → cleanP (flatM F es) → 1000000 ≤ l → ∀ h', Fn h h' → P (.tup [.c (.int .i64 0), .c (.int .i64 5)]) h')
    (h3 : (∀ e ∈ es, okRow n (F e)) → cleanP (flatM F es) → l < 1000000 → ∀ h' x ri, Bk h' b n v (l + 1) c (.map x) (.map ri) → Fm (fun j => j = b) h h' → CM h' (.map x) n (tvf F es) → h'.g ri = some (.map true [] 0) → h.n ≤ x → h.n ≤ ri → x ≠ ri → P (.tup [.c (.int .i64 (l + 1)), .c (.int .i64 0)]) h') :
    callW N (k + 90) 132 [.c (.ptr b 0 0 0), .c (.map m)] h P := by
  have hb0 : h.g b = _ := hb
  obtain ⟨g1, hg1⟩ : ∃ g1, g1 = h.push (.map true [] 0) := ⟨_, rfl⟩
  have f1 : Fn h g1 := by rw [hg1]; exact Fm.push _ _ _
  have n1 : g1.n = h.n + 1 := by rw [hg1, n_push]
  have gx1 : g1.g h.n = some (.map true [] 0) := by rw [hg1, g_push_eq]
  have hfold := hg1.symm
  have hmm : m < h.n := lt_of_g hm.g
  have hbn : b < h.n := lt_of_g hb0
  have hrg := rgn_map (f1.some hm.g (fun e => e)) (lc := [])
  obtain ⟨g2, hg2⟩ : ∃ g2, g2 = g1.push (.miter (some m) clock [] clock) := ⟨_, rfl⟩
  have f2 : Fn g1 g2 := by rw [hg2]; exact Fm.push _ _ _
  have n2 : g2.n = h.n + 2 := by rw [hg2, n_push, n1]
  rw [← hg2] at hrg
  have gi2 : g2.g (h.n + 1) = some (.miter (some m) clock [] clock) := by rw [hg2, ← n1, g_push_eq]
  refine call_intro rfl (by simp only [List.length_cons, List.length_nil]; omega) ?_
  simp (maxSteps := 200000) -implicitDefEqProofs only [KA, KB, KC, KD, KE, KF, eq_self, ne_eq, ↓reduceIte, Nat.reduceLT, Nat.reduceEqDiff, Nat.reduceAdd, Nat.reduceLeDiff, Nat.reduceSub, Nat.reduceMul, reduceCtorEq, hb0, b_mn4, hfold, hrg]
  refine loop_rd (callW_mono N _) (BgI h b m F n es clock) (n := es.length) ⟨[], g2, _, _, rfl, rfl, ⟨by simp, by simp, (f1.trans f2).some hm.g (fun e => e), gi2⟩, by simp, ⟨[], 0, f2.some gx1 (fun e => e), Ents.nil _ _, by simp, by simp⟩, f1.trans f2, by omega, rfl, rfl, rfl, by rw [n1]; rfl⟩ ?_
  clear gi2 hrg
  rintro q s ⟨V, g3, l', lc, rfl, hq, hV, hok, hMk, f3, n3, e0, e1, e6, e18⟩
  simp (maxSteps := 200000) -implicitDefEqProofs only [KA, KB, KC, KD, KE, KF, eq_self, ne_eq, ↓reduceIte, Nat.reduceLT, Nat.reduceEqDiff, Nat.reduceAdd, Nat.reduceLeDiff, Nat.reduceSub, Nat.reduceMul, reduceCtorEq, e0, e1, e6, e18]
  refine nx_map (id := h.n + 1) (m := m) (clock := clock) (seen := V.map (·.born)) (by simp only [evN_t, lk_cons, lk_nil]; rfl) hV.it hV.g hm.e.lt (fun e he hnb => ?_) fun hall => ?_
  · obtain ⟨g4, hg4⟩ : ∃ g4, g4 = g3.put (h.n + 1) (.miter (some m) clock (V.map (·.born) ++ [e.born]) clock) := ⟨_, rfl⟩
    have hV4 := hV.step he hnb (by omega)
    rw [← hg4] at hV4
    have f4' : Fm (fun j => j = h.n + 1) g3 g4 := by rw [hg4]; exact Fm.put _ _ rfl
    have f4 : Fn h g4 := f3.fresh f4' (fun j hj => by omega)
    have n4 : g4.n = g3.n := by rw [hg4, n_put]
    have hit := hV.it
    have keep4 : ∀ {v rows}, SL g3 5 v rows → SL g4 5 v rows := fun {v rows} hs => hs.mono f4' (hs.notO (by rw [hit]; rintro _ _ _ _ ⟨⟩))
    obtain ⟨hk, vv, hv, hsl⟩ := (hm.new f4).f e he
    have hit4 := hV4.it
    rw [List.map_append, List.map_singleton] at hit4
    have hen := entry_at hit4 hV4.g he hm.e.nd
    rw [hk, hv] at hen
    have hlen : ∀ h' : Hp, lenT h' .sl (.v (.c vv)) = some ((F e).2.length : Int) := fun h' => by rw [hsl.len h', List.length_map]
    have hfold4 := hg4.symm
    have hb4 : Bk g4 b n v l c .nilm rd := f4.some hb0 (fun e => e)
    simp (maxSteps := 200000) -implicitDefEqProofs only [KA, KB, KC, KD, KE, KF, eq_self, ne_eq, ↓reduceIte, Nat.reduceLT, Nat.reduceEqDiff, Nat.reduceAdd, Nat.reduceLeDiff, Nat.reduceSub, Nat.reduceMul, reduceCtorEq, hfold4, hen]
    refine bhas_ok (k := k + 88) hb4 ?_
    by_cases c1 : 0 ≤ (F e).1 ∧ (F e).1 < n
    · rw [decide_eq_true c1]
      by_cases c2 : (64 : Int) < ((F e).2.length : Int)
      · simp (maxSteps := 200000) -implicitDefEqProofs only [KA, KB, KC, KD, KE, KF, eq_self, ne_eq, ↓reduceIte, Nat.reduceLT, Nat.reduceEqDiff, Nat.reduceAdd, Nat.reduceLeDiff, Nat.reduceSub, Nat.reduceMul, reduceCtorEq, hlen, c2]
        exact h0 (fun ha => by have := (ha e he).2; omega) _ f4
      · simp (maxSteps := 200000) -implicitDefEqProofs only [KA, KB, KC, KD, KE, KF, eq_self, ne_eq, ↓reduceIte, Nat.reduceLT, Nat.reduceEqDiff, Nat.reduceAdd, Nat.reduceLeDiff, Nat.reduceSub, Nat.reduceMul, reduceCtorEq, hlen, c2]
        have hoke : okRow n (F e) := ⟨c1, by omega⟩
        refine sortedC_ok (by omega) hsl (by omega) fun g5 u hu f5 hui => ?_
        obtain ⟨es2, c2', m1, m2, m3, m4⟩ := hMk
        have m1' : g5.g h.n = some (.map true es2 c2') := f5.some (f4'.some m1 (by omega)) (fun e => e)
        obtain ⟨es3, c3, u1, u2, _, u4, u5, u6⟩ := mupd_bk (k := .c (.int .i64 (F e).1)) (x := .c u) m1' m2 rfl
        obtain ⟨g6, hg6⟩ : ∃ g6, g6 = g5.put h.n (.map true es3 c3) := ⟨_, rfl⟩
        have f6 : Fm (fun j => j = h.n) g5 g6 := by rw [hg6]; exact Fm.put _ _ rfl
        rw [← hg6] at u1
        have keep6 : ∀ {v rows}, SL g5 5 v rows → SL g6 5 v rows := fun {v rows} hs => hs.mono f6 (hs.notO (by rw [m1']; rintro _ _ _ _ ⟨⟩))
        simp (maxSteps := 200000) -implicitDefEqProofs only [KA, KB, KC, KD, KE, KF, eq_self, ne_eq, ↓reduceIte, Nat.reduceLT, Nat.reduceEqDiff, Nat.reduceAdd, Nat.reduceLeDiff, Nat.reduceSub, Nat.reduceMul, reduceCtorEq, u1, rd_n]
        have n5 := f5.n
        have hV6 := (hV4.mono f5 (fun e => e) (fun e => e)).mono f6 (by omega) (by omega)
        have hVl := hV6.len
        rw [List.length_append, List.length_singleton] at hVl
        refine ⟨q - 1, by omega, V ++ [e], g6, _, _, rfl, by rw [List.length_append, List.length_singleton]; omega, hV6, fun x hx => ?_, ⟨es3, c3, by rw [hg6, g_put_eq, m1']; rfl, u2, fun x hx => ?_, fun x hx => ?_⟩, (f4.trans f5).fresh f6 (fun j hj => by omega), by rw [hg6, n_put]; omega, rfl, rfl, rfl, rfl⟩
        · rcases List.mem_append.mp hx with hx | hx
          · exact hok x hx
          · rw [List.mem_singleton.mp hx]; exact hoke
        · rcases u4 x hx with ⟨k1, k2⟩ | ⟨_, x0, hx0, k1, k2⟩
          · exact ⟨e, by simp, u, k1, k2, keep6 hu⟩
          · obtain ⟨y, hy, w, j1, j2, j3⟩ := m3 x0 hx0
            exact ⟨y, by simp [hy], w, by rw [← k1]; exact j1, by rw [← k2]; exact j2, keep6 ((keep4 j3).new f5)⟩
        · rcases List.mem_append.mp hx with hx | hx
          · obtain ⟨y, hy, j1⟩ := m4 x hx
            by_cases hke : y.key = .c (.int .i64 (F e).1)
            · obtain ⟨z, hz, z1, _⟩ := u5
              exact ⟨z, hz, by rw [z1, ← hke]; exact j1⟩
            · obtain ⟨z, hz, z1, _⟩ := u6 y hy hke
              exact ⟨z, hz, z1.trans j1⟩
          · rw [List.mem_singleton.mp hx]
            obtain ⟨z, hz, z1, _⟩ := u5
            exact ⟨z, hz, z1⟩
    · rw [decide_eq_false c1]
      simp (maxSteps := 200000) -implicitDefEqProofs only [KA, KB, KC, KD, KE, KF, eq_self, ne_eq, ↓reduceIte, Nat.reduceLT, Nat.reduceEqDiff, Nat.reduceAdd, Nat.reduceLeDiff, Nat.reduceSub, Nat.reduceMul, reduceCtorEq]
      exact h0 (fun ha => c1 (ha e he).1) _ f4
  · have hVe := hV.all hm.e hall
    have hoka : ∀ e ∈ es, okRow n (F e) := fun e he => hok e ((hVe e).mpr he)
    have hb3 : g3.g b = _ := f3.some hb0 (fun e => e)
    simp (maxSteps := 200000) -implicitDefEqProofs only [KA, KB, KC, KD, KE, KF, eq_self, ne_eq, ↓reduceIte, Nat.reduceLT, Nat.reduceEqDiff, Nat.reduceAdd, Nat.reduceLeDiff, Nat.reduceSub, Nat.reduceMul, reduceCtorEq, e0, e1, e6]
    refine clean_ok (k := k + 81) (F := F) ((hm.new f3).g) hm.e.lt hm.e.nd (hm.new f3).f ?_ fun g4 f4 => ?_
    · have h1 := flatM_len (F := F) (c := 64) (V := es) (fun e he => (hoka e he).2)
      have := hm.l
      omega
    have hb4 : g4.g b = _ := f4.some hb3 (fun e => e)
    by_cases c1 : cleanP (flatM F es)
    · rw [decide_eq_true c1]
      by_cases c2 : 1000000 ≤ l
      · simp (maxSteps := 200000) -implicitDefEqProofs only [KA, KB, KC, KD, KE, KF, eq_self, ne_eq, ↓reduceIte, Nat.reduceLT, Nat.reduceEqDiff, Nat.reduceAdd, Nat.reduceLeDiff, Nat.reduceSub, Nat.reduceMul, reduceCtorEq, hb4, c2]
        exact h2 hoka c1 c2 _ (f3.trans f4)
      · have wl := wrap_i64 (n := l + 1) (by omega)
        obtain ⟨g5, hg5⟩ : ∃ g5, g5 = g4.put b (.rows true 6 0 0 [[.int .i64 n, .int .i64 v, .int .i64 (l + 1), c, .nilm, rd]]) := ⟨_, rfl⟩
        have b5 : g5.g b = some (.rows true 6 0 0 [[.int .i64 n, .int .i64 v, .int .i64 (l + 1), c, .nilm, rd]]) := by rw [hg5, g_put_eq, hb4]; rfl
        obtain ⟨g6, hg6⟩ : ∃ g6, g6 = g5.push (.map true [] 0) := ⟨_, rfl⟩
        have n5 : g5.n = g4.n := by rw [hg5, n_put]
        have f6 : Fn g5 g6 := by rw [hg6]; exact Fm.push _ _ _
        have b6 : g6.g b = _ := f6.some b5 (fun e => e)
        have m6 : g6.g g4.n = some (.map true [] 0) := by rw [hg6, ← n5, g_push_eq]
        obtain ⟨g7, hg7⟩ : ∃ g7, g7 = g6.put b (.rows true 6 0 0 [[.int .i64 n, .int .i64 v, .int .i64 (l + 1), c, .map h.n, rd]]) := ⟨_, rfl⟩
        have b7 : g7.g b = some (.rows true 6 0 0 [[.int .i64 n, .int .i64 v, .int .i64 (l + 1), c, .map h.n, rd]]) := by rw [hg7, g_put_eq, b6]; rfl
        obtain ⟨g8, hg8⟩ : ∃ g8, g8 = g7.put b (.rows true 6 0 0 [[.int .i64 n, .int .i64 v, .int .i64 (l + 1), c, .map h.n, .map g4.n]]) := ⟨_, rfl⟩
        have b8 : g8.g b = some (.rows true 6 0 0 [[.int .i64 n, .int .i64 v, .int .i64 (l + 1), c, .map h.n, .map g4.n]]) := by rw [hg8, g_put_eq, b7]; rfl
        have F5 : Fm (fun j => j = b) g4 g5 := by rw [hg5]; exact Fm.put _ _ rfl
        have F7 : Fm (fun j => j = b) g6 g7 := by rw [hg7]; exact Fm.put _ _ rfl
        have F8 : Fm (fun j => j = b) g7 g8 := by rw [hg8]; exact Fm.put _ _ rfl
        have F48 : Fm (fun j => j = b) g4 g8 := ((F5.trans (f6.mono (fun _ _ e => e.elim))).trans F7).trans F8
        have e5 := hg5.symm
        have e6' := hg6.symm
        have e7 := hg7.symm
        have e8 := hg8.symm
        simp (maxSteps := 200000) -implicitDefEqProofs only [KA, KB, KC, KD, KE, KF, eq_self, ne_eq, ↓reduceIte, Nat.reduceLT, Nat.reduceEqDiff, Nat.reduceAdd, Nat.reduceLeDiff, Nat.reduceSub, Nat.reduceMul, reduceCtorEq, hb4, c2, wl, e5, b5, e6', b6, e7, b7, e8, b8, n5]
        have n4 := f4.n
        obtain ⟨es2, c2', m1, m2, m3, m4⟩ := hMk
        have hxb : h.n ≠ b := by omega
        refine h3 hoka c1 (by omega) g8 h.n g4.n b8 (((f3.trans f4).mono (fun _ _ e => e.elim)).trans F48) (.inr ⟨h.n, es2, c2', rfl, F48.some (f4.some m1 (fun e => e)) hxb, m2, fun x hx => ?_, fun i hi => ?_⟩) (((F7.trans F8)).some m6 (by omega)) (Nat.le_refl _) (by omega) (by omega)
        · obtain ⟨y, hy, w, j1, j2, j3⟩ := m3 x hx
          have hoy := hoka y ((hVe y).mp hy)
          refine ⟨(F y).1.toNat, w, by have := hoy.1; omega, by rw [j1]; congr 2; have := hoy.1; omega, j2, ?_⟩
          rw [tvf_in hm.uq ((hVe y).mp hy) (by have := hoy.1; omega)]
          exact (j3.new f4).mono F48 ((j3.new f4).notO (by rw [hb4]; simp))
        · have hex : ∃ e ∈ es, (F e).1 = (i : Int) := Classical.byContradiction fun hc => hi (tvf_out hc)
          obtain ⟨e, he, hei⟩ := hex
          obtain ⟨z, hz, z1⟩ := m4 e ((hVe e).mpr he)
          exact ⟨z, hz, by rw [z1, hei]⟩
    · rw [decide_eq_false c1]
      simp (maxSteps := 200000) -implicitDefEqProofs only [KA, KB, KC, KD, KE, KF, eq_self, ne_eq, ↓reduceIte, Nat.reduceLT, Nat.reduceEqDiff, Nat.reduceAdd, Nat.reduceLeDiff, Nat.reduceSub, Nat.reduceMul, reduceCtorEq]
      exact h1 hoka c1 _ (f3.trans f4)
end
end Camp

/-! CvVq4 -/
namespace Camp
open Go
set_option linter.unusedVariables false
set_option linter.unusedSimpArgs false
set_option maxHeartbeats 2000000
def mr (N : Nat) (f : Nat → CV) : List CV := (List.range N).map f
theorem mr_len (N : Nat) (f : Nat → CV) : (mr N f).length = N := by simp [mr]
theorem mr_get {N i : Nat} {f : Nat → CV} (h : i < N) : (mr N f)[i]? = some (f i) := by
  unfold mr
  rw [List.getElem?_map, List.getElem?_range h]
  rfl
theorem mr_none {N i : Nat} {f : Nat → CV} (h : N ≤ i) : (mr N f)[i]? = none := List.getElem?_eq_none (by rw [mr_len]; exact h)
theorem mr_splice {N o : Nat} {f g : Nat → CV} {cs : List CV} (ho : o + cs.length ≤ N) (hc : ∀ i, i < cs.length → cs[i]? = some (g (o + i))) (h : ∀ j, j < N → j < o ∨ o + cs.length ≤ j → g j = f j) :
    (mr N f).take o ++ (cs ++ (mr N f).drop (o + cs.length)) = mr N g := by
  have hl := mr_len N f
  apply List.ext_getElem?
  intro j
  by_cases h1 : j < o
  · rw [List.getElem?_append_left (by rw [List.length_take]; omega), List.getElem?_take, if_pos h1, mr_get (by omega), mr_get (by omega), h j (by omega) (.inl h1)]
  · rw [List.getElem?_append_right (by rw [List.length_take]; omega), List.length_take, show j - min o (mr N f).length = j - o by omega]
    by_cases h2 : j < o + cs.length
    · rw [List.getElem?_append_left (by omega), hc _ (by omega), mr_get (by omega), show o + (j - o) = j by omega]
    · rw [List.getElem?_append_right (by omega), List.getElem?_drop, show o + cs.length + (j - o - cs.length) = j by omega]
      by_cases h3 : j < N
      · rw [mr_get h3, mr_get h3, h j h3 (.inr (by omega))]
      · rw [mr_none (by omega), mr_none (by omega)]
theorem mr_set {N o : Nat} {f g : Nat → CV} {x : CV} (ho : o < N) (hx : x = g o) (h : ∀ j, j < N → j ≠ o → g j = f j) : (mr N f).take o ++ x :: (mr N f).drop (o + 1) = mr N g :=
  mr_splice (cs := [x]) (by simp; omega) (fun i hi => by
    obtain rfl : i = 0 := by simpa using hi
    simp [hx]) (fun j hj hjo => h j hj (by simp at hjo; omega))
section
variable {k r : Nat} {n v bg la : Int} {V1 V2 : Nat → CV} {F : Nat → Bool} {h : Hp} {P : AV → Hp → Prop}
end
end Camp

/-! CvVq5 -/
namespace Camp
open Go
set_option linter.unusedVariables false
set_option linter.unusedSimpArgs false
set_option maxHeartbeats 2000000
section
variable {k r b : Nat} {n : Nat} {v bg la l : Int} {c : CV} {V1 V2 : Nat → CV} {F : Nat → Bool} {h : Hp} {P : AV → Hp → Prop}
theorem CM.look {T : Nat → List Cel} (hc : CM h c n T) (i : Int) : ∃ w, lookT h (.int .i64) (.v (.c c)) (some (.c (.int .i64 i))) = some w ∧ SL h 5 (match w with | some (.c u) => u | _ => .nils) ((if 0 ≤ i then T i.toNat else []).map encE) ∧ (w = none ∨ ∃ u, w = some (.c u)) := by
  rcases hc with ⟨rfl, hT⟩ | ⟨id, es, clock, rfl, hg, hE, h1, h2⟩
  · refine ⟨none, rfl, ?_, .inl rfl⟩
    rw [hT]
    simp [SL]
  · have hl := look_ok (k := .c (.int .i64 i)) hg (funOf_is hE) rfl
    refine ⟨_, hl, ?_⟩
    by_cases hx : ∃ e ∈ es, e.key = .c (.int .i64 i)
    · obtain ⟨e, he, hk⟩ := hx
      have hf := ((funOf_is hE).vals (.c (.int .i64 i)) e.val).mpr ⟨e, he, hk, rfl⟩
      obtain ⟨j, u, hj, k1, k2, k3⟩ := h1 e he
      rw [k1] at hk
      have hji : i = (j : Int) := by injection hk with hk; injection hk with _ hk; exact hk.symm
      rw [hf, k2]
      refine ⟨?_, .inr ⟨u, rfl⟩⟩
      rw [hji, if_pos (by omega), Int.toNat_natCast]
      exact k3
    · have hf : funOf es (.c (.int .i64 i)) = none := by
        unfold funOf
        rw [dif_neg hx]
      rw [hf]
      refine ⟨?_, .inl rfl⟩
      have : (if 0 ≤ i then T i.toNat else []) = [] := by
        by_cases hi : 0 ≤ i
        · rw [if_pos hi]
          refine Classical.byContradiction fun hne => hx ?_
          obtain ⟨e, he, hk⟩ := h2 _ hne
          exact ⟨e, he, by rw [hk, Int.toNat_of_nonneg hi]⟩
        · rw [if_neg hi]
      rw [this]
      simp [SL]
theorem CM.le {T : Nat → List Cel} (hc : CM h c n T) {i : Nat} (hi : n ≤ i) : T i = [] := by
  rcases hc with ⟨rfl, hT⟩ | ⟨id, es, clock, rfl, hg, hE, h1, h2⟩
  · exact hT i
  · refine Classical.byContradiction fun hne => ?_
    obtain ⟨e, he, hk⟩ := h2 _ hne
    obtain ⟨j, u, hj, k1, _⟩ := h1 e he
    rw [k1] at hk
    injection hk with hk
    injection hk with _ hk
    omega
theorem bcells_ok {x rd : CV} {T : Nat → List Cel} {i : Int} (hb : Bk h b n v l c x rd) (hc : CM h c n T) (hT : ∀ i, (T i).length ≤ 64) (hP : ∀ h' u, SL h' 5 u ((if 0 ≤ i then T i.toNat else []).map encE) → Fn h h' → P (.c u) h') : callW N (k + 2) 140 [.c (.ptr b 0 0 0), .c (.int .i64 i)] h P := by
  have hb' : h.g b = _ := hb
  obtain ⟨w, h1, h2, h3⟩ := hc.look i
  have hTl : (if 0 ≤ i then T i.toNat else []).length ≤ 64 := by
    split
    · exact hT _
    · simp
  generalize (if 0 ≤ i then T i.toNat else []) = L at hP h2 hTl
  have fin : ∀ u, SL h 5 u (L.map encE) → ∀ Q : AV → Hp → Prop, (∀ (a : CV) h', P (.c a) h' → Q (.c a) h') → callW N (k + 1) 147 [.c u] h Q := fun u hu Q hQ => cloneC_ok (k := k) hu (by omega) (fun h0 => hQ _ _ (hP _ _ (by rw [h0]; rfl) (Fm.refl _ _))) fun h' id cap hA f _ => hQ _ _ (hP _ _ (by
    obtain ⟨lw, g1, g2⟩ := hA
    rw [List.append_nil] at g2
    exact ⟨true, 0, lw, _, g2, g1, by rw [List.length_map]; omega, by rw [List.drop_zero, List.take_of_length_le (by rw [List.length_map]; omega)]⟩) f)
  refine call_intro rfl (by simp only [List.length_cons, List.length_nil]; omega) ?_
  rcases h3 with rfl | ⟨u, rfl⟩
  · simp (maxSteps := 200000) -implicitDefEqProofs only [KA, KB, KC, KD, KE, KF, eq_self, ne_eq, ↓reduceIte, Nat.reduceLT, Nat.reduceEqDiff, Nat.reduceAdd, Nat.reduceLeDiff, Nat.reduceSub, Nat.reduceMul, reduceCtorEq, hb', h1, Option.getD_none]
    refine fin _ h2 _ fun a h' hp => ?_
    simp (maxSteps := 200000) -implicitDefEqProofs only [KA, KB, KC, KD, KE, KF, eq_self, ne_eq, ↓reduceIte, Nat.reduceLT, Nat.reduceEqDiff, Nat.reduceAdd, Nat.reduceLeDiff, Nat.reduceSub, Nat.reduceMul, reduceCtorEq]
    exact hp
  · simp (maxSteps := 200000) -implicitDefEqProofs only [KA, KB, KC, KD, KE, KF, eq_self, ne_eq, ↓reduceIte, Nat.reduceLT, Nat.reduceEqDiff, Nat.reduceAdd, Nat.reduceLeDiff, Nat.reduceSub, Nat.reduceMul, reduceCtorEq, hb', h1, Option.getD_some]
    refine fin _ h2 _ fun a h' hp => ?_
    simp (maxSteps := 200000) -implicitDefEqProofs only [KA, KB, KC, KD, KE, KF, eq_self, ne_eq, ↓reduceIte, Nat.reduceLT, Nat.reduceEqDiff, Nat.reduceAdd, Nat.reduceLeDiff, Nat.reduceSub, Nat.reduceMul, reduceCtorEq]
    exact hp
theorem samec_ok {v w : CV} {a : List Cel} (hv : SL h 5 v (a.map encE)) (hw : SL h 5 w (a.map encE)) (hb : a.length ≤ 1000000) (hP : P (.c (.bool true)) h) : callW N (k + 1) 229 [.c v, .c w] h P := by
  have hlen : ∀ h' : Hp, lenT h' .sl (.v (.c v)) = some (a.length : Int) := fun h' => by rw [hv.len h', List.length_map]
  have hlen2 : ∀ h' : Hp, lenT h' .sl (.v (.c w)) = some (a.length : Int) := fun h' => by rw [hw.len h', List.length_map]
  refine call_intro rfl (by simp only [List.length_cons, List.length_nil]; omega) ?_
  have hd : decide ((a.length : Int) = a.length) = true := by simp
  simp (maxSteps := 200000) -implicitDefEqProofs only [KA, KB, KC, KD, KE, KF, eq_self, ne_eq, ↓reduceIte, Nat.reduceLT, Nat.reduceEqDiff, Nat.reduceAdd, Nat.reduceLeDiff, Nat.reduceSub, Nat.reduceMul, reduceCtorEq, hlen, hlen2, hd]
  refine loop_rd (callW_mono N _) (fun n s => ∃ (i : Nat) (l : List (Nat × TV)) (lc : List (List CV)), s = ST 26 l lc h ∧ i ≤ a.length ∧ n = a.length - i ∧
    lk l 0 = .v (.c v) ∧ lk l 1 = .v (.c w) ∧ lk l 12 = .v (.c (.int .i64 a.length)) ∧ lk l 13 = .v (.c (.int .i64 i))) (n := a.length) ⟨0, _, _, rfl, by omega, by omega, rfl, rfl, rfl, rfl⟩ ?_
  rintro n s ⟨i, l, lc, rfl, hi, hn, e0, e1, e12, e13⟩
  by_cases hlt : (i : Int) < a.length
  · obtain ⟨y, hy⟩ : ∃ y, a[i]? = some y := ⟨_, List.getElem?_eq_getElem (by omega)⟩
    have hrow : (a.map encE)[((i : Int)).toNat]? = some [.int .i64 y.f, .int .i64 y.s, .int .i64 y.c, .int .i64 y.o, .int .i64 y.p] := by simp [encE, hy]
    obtain ⟨pid, ptok, pj, a1, a2⟩ := hv.at (by omega) hrow
    obtain ⟨pid', ptok', pj', b1, b2⟩ := hw.at (by omega) hrow
    have hww := wrap_i64 (n := (i : Int) + 1) (by omega)
    simp (maxSteps := 200000) -implicitDefEqProofs only [KA, KB, KC, KD, KE, KF, eq_self, ne_eq, ↓reduceIte, Nat.reduceLT, Nat.reduceEqDiff, Nat.reduceAdd, Nat.reduceLeDiff, Nat.reduceSub, Nat.reduceMul, reduceCtorEq, e0, e1, e12, e13, hlt, a1, a2, b1, b2, hww, rd_n]
    exact ⟨n - 1, by omega, i + 1, _, _, rfl, by omega, by omega, rfl, rfl, rfl, rfl⟩
  · simp (maxSteps := 200000) -implicitDefEqProofs only [KA, KB, KC, KD, KE, KF, eq_self, ne_eq, ↓reduceIte, Nat.reduceLT, Nat.reduceEqDiff, Nat.reduceAdd, Nat.reduceLeDiff, Nat.reduceSub, Nat.reduceMul, reduceCtorEq, e0, e1, e12, e13, hlt]
    exact hP
end
end Camp

/-! CvVq7 -/
namespace Camp
open Go
set_option linter.unusedVariables false
set_option linter.unusedSimpArgs false
set_option maxHeartbeats 2000000
/-- What a book means. -/
structure Sb where
  n : Nat
  v : Int
  l : Int
  T : Nat → List Cel
  nx : Option ((Nat → List Cel) × (Nat → Bool))
structure WS (S : Sb) : Prop where
  n : 1 ≤ S.n ∧ S.n ≤ 16
  l : 0 ≤ S.l ∧ S.l ≤ 1000000
  p : S.nx ≠ none → 1 ≤ S.l
  t : ∀ i, (S.T i).length ≤ 64
  u : ∀ T2 F, S.nx = some (T2, F) → ∀ i, (T2 i).length ≤ 64
def PB (h : Hp) (b : Nat) (S : Sb) : Prop := ∃ c x rd, Bk h b S.n S.v S.l c x rd ∧ CM h c S.n S.T ∧ ((S.nx = none ∧ x = .nilm) ∨ ∃ T2 F xi ri es clock, S.nx = some (T2, F) ∧ x = .map xi ∧ rd = .map ri ∧ CM h x S.n T2 ∧ h.g ri = some (.map true es clock) ∧ IsMap (.int .i64) es (flM F) ∧ xi ≠ ri ∧ ∀ id, c = .map id → id ≠ ri)
/-- What the program's operations may change. -/
def soft (h : Hp) (j : Nat) : Prop := (∃ R, h.g j = some (.rows true 6 0 0 R)) ∨ ∃ es c, h.g j = some (.map true es c)
theorem SL.soft {h h' : Hp} {sz : Nat} {v : CV} {rows : List (List CV)} {S : Nat → Prop} (k : SL h sz v rows) (hz : sz ≠ 6) (f : Fm S h h') (hs : ∀ j, S j → soft h j) : SL h' sz v rows := k.mono f (by
  rintro id tok off len cap rfl e
  obtain ⟨wr, cur, lw, rs, hg, _⟩ := k
  rcases hs id e with ⟨R, hR⟩ | ⟨es, c, hR⟩
  · rw [hg] at hR; injection hR with hR; injection hR with _ hR; exact hz hR
  · rw [hg] at hR; cases hR)
theorem CM.hard {h h' : Hp} {c : CV} {n r : Nat} {T : Nat → List Cel} {R : List (List CV)} {z : Nat} (k : CM h c n T) (f : Fm (fun j => j = r) h h') (hr : h.g r = some (.rows true z 0 0 R)) (hz : z ≠ 5) : CM h' c n T := by
  rcases k with k | ⟨id, es, clock, rfl, h1, h2, h3, h4⟩
  · exact .inl k
  · refine .inr ⟨id, es, clock, rfl, f.some h1 (fun e => by rw [e, hr] at h1; cases h1), h2, fun e he => ?_, h4⟩
    obtain ⟨i, u, k1, k2, k3, k4⟩ := h3 e he
    exact ⟨i, u, k1, k2, k3, k4.mono f (k4.notO (by rw [hr]; intro _ _ _ _ e; injection e with e; injection e with _ e; exact hz e))⟩
theorem CM.new {h h' : Hp} {c : CV} {n : Nat} {T : Nat → List Cel} (k : CM h c n T) (f : Fn h h') : CM h' c n T := by
  rcases k with k | ⟨id, es, clock, rfl, h1, h2, h3, h4⟩
  · exact .inl k
  · refine .inr ⟨id, es, clock, rfl, f.some h1 (fun e => e), h2, fun e he => ?_, h4⟩
    obtain ⟨i, u, k1, k2, k3, k4⟩ := h3 e he
    exact ⟨i, u, k1, k2, k3, k4.new f⟩
theorem CM.put {h h' : Hp} {c : CV} {n r : Nat} {T : Nat → List Cel} {es0 : List ME} {c0 : Nat} (k : CM h c n T) (f : Fm (fun j => j = r) h h') (hr : h.g r = some (.map true es0 c0)) (hn : ∀ id, c = .map id → id ≠ r) : CM h' c n T := by
  rcases k with k | ⟨id, es, clock, rfl, h1, h2, h3, h4⟩
  · exact .inl k
  · refine .inr ⟨id, es, clock, rfl, f.some h1 (hn id rfl), h2, fun e he => ?_, h4⟩
    obtain ⟨i, u, k1, k2, k3, k4⟩ := h3 e he
    exact ⟨i, u, k1, k2, k3, k4.mono f (k4.notO (by rw [hr]; rintro _ _ _ _ ⟨⟩))⟩
theorem PB.new {h h' : Hp} {b : Nat} {S : Sb} (k : PB h b S) (f : Fn h h') : PB h' b S := by
  obtain ⟨c, x, rd, h1, h2, h3⟩ := k
  have hg : h.g b = _ := h1
  refine ⟨c, x, rd, f.some hg (fun e => e), h2.new f, h3.imp_right ?_⟩
  rintro ⟨T2, F, xi, ri, es, clock, e1, e2, e3, e4, e5, e6, e7⟩
  exact ⟨T2, F, xi, ri, es, clock, e1, e2, e3, e4.new f, f.some e5 (fun e => e), e6, e7⟩
def readyS (S : Sb) (i w : Int) : Int × Sb := match S.nx with
  | none => (7, S)
  | some (T2, F) => if ¬ w = S.l then (7, S) else if ¬ (0 ≤ i ∧ i < S.n) then (1, S) else if F i.toNat = true then (8, S) else (0, { S with nx := some (T2, fun j => j == i.toNat || F j) })
def commitS (S : Sb) : Int × Sb := match S.nx with
  | none => (7, S)
  | some (T2, F) => if left F S.n = 0 then (0, { S with v := S.l, T := T2, nx := none }) else (7, S)
def abortS (S : Sb) : Int × Sb := match S.nx with
  | none => (7, S)
  | some _ => (0, { S with nx := none })
open Classical in
noncomputable def beginS (S : Sb) (F : ME → Int × List Cel) (es : List ME) : (Int × Int) × Sb := match S.nx with
  | some _ => ((0, 7), S)
  | none => if ¬ (∀ e ∈ es, okRow S.n (F e)) then ((0, 1), S) else if ¬ cleanP (flatM F es) then ((0, 9), S) else if 1000000 ≤ S.l then ((0, 5), S) else ((S.l + 1, 0), { S with l := S.l + 1, nx := some (tvf F es, fun _ => false) })
section
variable {k b r : Nat} {S : Sb} {h : Hp} {P : AV → Hp → Prop}
theorem pready_ok {i w : Int} (hS : WS S) (hB : PB h b S) (hP : ∀ h' X, PB h' b (readyS S i w).2 → Fm X h h' → (∀ j, X j → soft h j) → P (.c (.int .i64 (readyS S i w).1)) h') : callW N (k + 2) 134 [.c (.ptr b 0 0 0), .c (.int .i64 i), .c (.int .i64 w)] h P := by
  have hB0 := hB
  obtain ⟨c, x, rd, hb, hc, ⟨hn, rfl⟩ | ⟨T2, F, xi, ri, es, clock, hn, rfl, rfl, hx, hri, hM, hne, hci⟩⟩ := hB
  · have hb' : h.g b = _ := hb
    unfold readyS at hP
    rw [hn] at hP
    refine call_intro rfl (by simp only [List.length_cons, List.length_nil]; omega) ?_
    simp (maxSteps := 200000) -implicitDefEqProofs only [KA, KB, KC, KD, KE, KF, eq_self, ne_eq, ↓reduceIte, Nat.reduceLT, Nat.reduceEqDiff, Nat.reduceAdd, Nat.reduceLeDiff, Nat.reduceSub, Nat.reduceMul, reduceCtorEq, hb', b_mn3]
    exact hP h _ hB0 (Fm.refl (fun _ => False) _) (fun j e => e.elim)
  · unfold readyS at hP
    rw [hn] at hP
    simp only at hP
    by_cases c1 : w = S.l
    · rw [if_neg (fun e => e c1)] at hP
      subst c1
      by_cases c2 : 0 ≤ i ∧ i < S.n
      · rw [if_neg (fun e => e c2)] at hP
        obtain ⟨j, rfl⟩ : ∃ j : Nat, i = j := ⟨i.toNat, by omega⟩
        rw [Int.toNat_natCast] at hP
        cases hF : F j with
        | true =>
          rw [hF, if_pos rfl] at hP
          exact ready_old (k := k) hb hri hM (by omega) hF (hP h _ hB0 (Fm.refl (fun _ => False) _) (fun j e => e.elim))
        | false =>
          rw [hF, if_neg (by simp)] at hP
          refine ready_new (k := k) (F' := fun y => y == j || F y) hb hri hM (by omega) hF (by simp) (fun y hy => by simp [hy]) fun es' clock' hM' => ?_
          have f : Fm (fun y => y = ri) h (h.put ri (.map true es' clock')) := Fm.put _ _ rfl
          have hb' : h.g b = _ := hb
          have hbr : b ≠ ri := fun e => by rw [e, hri] at hb'; cases hb'
          refine hP _ _ ⟨c, .map xi, .map ri, f.some hb' hbr, hc.put f hri hci, .inr ⟨T2, _, xi, ri, es', clock', rfl, rfl, rfl, hx.put f hri (fun id e => by injection e with e; omega), by rw [g_put_eq, hri]; rfl, hM', hne, hci⟩⟩ f (fun y e => .inr ⟨es, clock, by rw [e]; exact hri⟩)
      · rw [if_pos c2] at hP
        have hb' : h.g b = _ := hb
        have d : decide (S.l = S.l) = true := by simp
        refine call_intro rfl (by simp only [List.length_cons, List.length_nil]; omega) ?_
        simp (maxSteps := 200000) -implicitDefEqProofs only [KA, KB, KC, KD, KE, KF, eq_self, ne_eq, ↓reduceIte, Nat.reduceLT, Nat.reduceEqDiff, Nat.reduceAdd, Nat.reduceLeDiff, Nat.reduceSub, Nat.reduceMul, reduceCtorEq, hb', b_mn1]
        refine bhas_ok (k := k) hb ?_
        rw [decide_eq_false c2]
        simp (maxSteps := 200000) -implicitDefEqProofs only [KA, KB, KC, KD, KE, KF, eq_self, ne_eq, ↓reduceIte, Nat.reduceLT, Nat.reduceEqDiff, Nat.reduceAdd, Nat.reduceLeDiff, Nat.reduceSub, Nat.reduceMul, reduceCtorEq]
        exact hP h _ hB0 (Fm.refl (fun _ => False) _) (fun j e => e.elim)
    · rw [if_pos c1] at hP
      exact ready_state (k := k) hb c1 (hP h _ hB0 (Fm.refl (fun _ => False) _) (fun j e => e.elim))
theorem pcommit_ok (hS : WS S) (hB : PB h b S) (hP : ∀ h' X, PB h' b (commitS S).2 → Fm X h h' → (∀ j, X j → soft h j) → P (.c (.int .i64 (commitS S).1)) h') : callW N (k + 2) 138 [.c (.ptr b 0 0 0)] h P := by
  have hB0 := hB
  obtain ⟨c, x, rd, hb, hc, ⟨hn, rfl⟩ | ⟨T2, F, xi, ri, es, clock, hn, rfl, rfl, hx, hri, hM, hne, hci⟩⟩ := hB
  · unfold commitS at hP
    rw [hn] at hP
    exact commit_state (k := k) hb (hP h _ hB0 (Fm.refl (fun _ => False) _) (fun j e => e.elim))
  · unfold commitS at hP
    rw [hn] at hP
    simp only at hP
    have hb' : h.g b = _ := hb
    refine commit_ok (k := k) hS.n.2 hb hri hM (fun hz h' hb2 f => ?_) (fun hz h' f => ?_)
    · rw [if_pos hz] at hP
      exact hP h' _ ⟨.map xi, .nilm, .map ri, hb2, hx.hard f hb' (by omega), .inl ⟨rfl, rfl⟩⟩ f (fun j e => .inl (by rw [e]; exact ⟨_, hb'⟩))
    · rw [if_neg hz] at hP
      exact hP h' _ (hB0.new f) f (fun j e => e.elim)
theorem pabort_ok (hS : WS S) (hB : PB h b S) (hP : ∀ h' X, PB h' b (abortS S).2 → Fm X h h' → (∀ j, X j → soft h j) → P (.c (.int .i64 (abortS S).1)) h') : callW N (k + 1) 135 [.c (.ptr b 0 0 0)] h P := by
  have hB0 := hB
  obtain ⟨c, x, rd, hb, hc, ⟨hn, rfl⟩ | ⟨T2, F, xi, ri, es, clock, hn, rfl, rfl, hx, hri, hM, hne, hci⟩⟩ := hB
  · have hb' : h.g b = _ := hb
    unfold abortS at hP
    rw [hn] at hP
    refine call_intro rfl (by simp only [List.length_cons, List.length_nil]; omega) ?_
    simp (maxSteps := 200000) -implicitDefEqProofs only [KA, KB, KC, KD, KE, KF, eq_self, ne_eq, ↓reduceIte, Nat.reduceLT, Nat.reduceEqDiff, Nat.reduceAdd, Nat.reduceLeDiff, Nat.reduceSub, Nat.reduceMul, reduceCtorEq, hb', b_mn3]
    exact hP h _ hB0 (Fm.refl (fun _ => False) _) (fun j e => e.elim)
  · unfold abortS at hP
    rw [hn] at hP
    have hb' : h.g b = _ := hb
    refine abort_ok (k := k) hb fun h' hb2 f => ?_
    exact hP h' _ ⟨c, .nilm, .map ri, hb2, hc.hard f hb' (by omega), .inl ⟨rfl, rfl⟩⟩ f (fun j e => .inl (by rw [e]; exact ⟨_, hb'⟩))
theorem pbegin_ok {m clock : Nat} {es : List ME} {F : ME → Int × List Cel} (hS : WS S) (hB : PB h b S) (hm : Rm h m es clock F) (hP : ∀ h', PB h' b (beginS S F es).2 → Fm (fun j => j = b) h h' → P (.tup [.c (.int .i64 (beginS S F es).1.1), .c (.int .i64 (beginS S F es).1.2)]) h') : callW N (k + 90) 132 [.c (.ptr b 0 0 0), .c (.map m)] h P := by
  have hB0 := hB
  obtain ⟨c, x, rd, hb, hc, ⟨hn, rfl⟩ | ⟨T2, G, xi, ri, es', clock', hn, rfl, rfl, hx, hri, hM, hne, hci⟩⟩ := hB
  · unfold beginS at hP
    rw [hn] at hP
    simp only at hP
    have hb' : h.g b = _ := hb
    refine bbegin_ok (k := k) hS.n.2 hS.l hb hm (fun k0 h' f => ?_) (fun k0 k1 h' f => ?_) (fun k0 k1 k2 h' f => ?_) (fun k0 k1 k2 h' x ri hb2 f hx hri q1 q2 q3 => ?_)
    · rw [if_pos k0] at hP
      exact hP h' (hB0.new f) (f.mono (fun _ _ e => e.elim))
    · rw [if_neg (fun e => e k0), if_pos k1] at hP
      exact hP h' (hB0.new f) (f.mono (fun _ _ e => e.elim))
    · rw [if_neg (fun e => e k0), if_neg (fun e => e k1), if_pos k2] at hP
      exact hP h' (hB0.new f) (f.mono (fun _ _ e => e.elim))
    · rw [if_neg (fun e => e k0), if_neg (fun e => e k1), if_neg (by omega)] at hP
      refine hP h' ⟨c, .map x, .map ri, hb2, hc.hard f hb' (by omega), .inr ⟨_, _, x, ri, [], 0, rfl, rfl, rfl, hx, hri, ⟨by simp, List.Pairwise.nil, fun k v => ?_⟩, q3, fun id e => ?_⟩⟩ f
      · have : flM (fun _ => false) k = none := by
          cases k with
          | c y => cases y with
            | int kk j => cases kk <;> simp [flM]
            | _ => rfl
          | _ => rfl
        rw [this]
        simp
      · rcases hc with ⟨rfl, _⟩ | ⟨id', es', clock', rfl, hg', _⟩
        · cases e
        · injection e with e
          have := lt_of_g hg'
          omega
  · unfold beginS at hP
    rw [hn] at hP
    have hb1 : h.g b = _ := hb
    refine call_intro rfl (by simp only [List.length_cons, List.length_nil]; omega) ?_
    simp (maxSteps := 200000) -implicitDefEqProofs only [KA, KB, KC, KD, KE, KF, eq_self, ne_eq, ↓reduceIte, Nat.reduceLT, Nat.reduceEqDiff, Nat.reduceAdd, Nat.reduceLeDiff, Nat.reduceSub, Nat.reduceMul, reduceCtorEq, hb1, b_mn2]
    exact hP h hB0 (Fm.refl _ _)
theorem WS.ready (hS : WS S) (i w : Int) : WS (readyS S i w).2 := by
  unfold readyS
  split
  · exact hS
  · rename_i T2 F hn
    split
    · exact hS
    · split
      · exact hS
      · split
        · exact hS
        · exact ⟨hS.n, hS.l, fun _ => hS.p (by rw [hn]; simp), hS.t, fun T2' F' e => by
            injection e with e
            injection e with e1 e2
            subst e1
            exact hS.u _ _ hn⟩
theorem WS.commit (hS : WS S) : WS (commitS S).2 := by
  unfold commitS
  split
  · exact hS
  · rename_i T2 F hn
    split
    · exact ⟨hS.n, hS.l, fun e => absurd rfl e, hS.u _ _ hn, fun _ _ e => by cases e⟩
    · exact hS
theorem WS.abort (hS : WS S) : WS (abortS S).2 := by
  unfold abortS
  split
  · exact hS
  · exact ⟨hS.n, hS.l, fun e => absurd rfl e, hS.t, fun _ _ e => by cases e⟩
theorem WS.begin (hS : WS S) {F : ME → Int × List Cel} {es : List ME} (hu : UQ F es) : WS (beginS S F es).2 := by
  unfold beginS
  split
  · exact hS
  · split
    · exact hS
    · rename_i hok
      have hok : ∀ e ∈ es, okRow S.n (F e) := Classical.byContradiction hok
      split
      · exact hS
      · split
        · exact hS
        · rename_i hl
          have := hS.l
          refine ⟨hS.n, ⟨by show 0 ≤ S.l + 1; omega, by show S.l + 1 ≤ 1000000; omega⟩, fun _ => by show 1 ≤ S.l + 1; omega, hS.t, fun T2 G e i => ?_⟩
          injection e with e
          injection e with e1 e2
          subst e1
          by_cases hx : ∃ e ∈ es, (F e).1 = (i : Int)
          · obtain ⟨e, he, hi⟩ := hx
            rw [tvf_in hu he hi, srtC_len]
            exact (hok e he).2
          · rw [tvf_out hx]; simp
end
end Camp

/-! CvVq8 -/
namespace Camp
open Go
set_option linter.unusedVariables false
set_option linter.unusedSimpArgs false
set_option maxHeartbeats 2000000
/-- A call: what, of which node, which version, which rows. -/
structure Vc where
  d : Int
  nd : Int
  vv : Int
  w : CV
  C : List Rw
def encV (x : Vc) : List CV := [.int .i64 x.d, .int .i64 x.nd, .int .i64 x.vv, x.w]
structure Vcs (h : Hp) (v : CV) (L : List Vc) : Prop where
  sl : SL h 4 v (L.map encV)
  c : ∀ x ∈ L, Rws h x.w x.C ∧ x.C.length ≤ 1048576
theorem Rws.soft {h h' : Hp} {w : CV} {C : List Rw} {S : Nat → Prop} (k : Rws h w C) (f : Fm S h h') (hs : ∀ j, S j → soft h j) : Rws h' w C := ⟨k.sl.soft (by omega) f hs, fun r hr => ⟨(k.cells r hr).1.soft (by omega) f hs, (k.cells r hr).2⟩⟩
theorem Vcs.soft {h h' : Hp} {v : CV} {L : List Vc} {S : Nat → Prop} (k : Vcs h v L) (f : Fm S h h') (hs : ∀ j, S j → soft h j) : Vcs h' v L := ⟨k.sl.soft (by omega) f hs, fun x hx => ⟨(k.c x hx).1.soft f hs, (k.c x hx).2⟩⟩
theorem Vcs.new {h h' : Hp} {v : CV} {L : List Vc} (k : Vcs h v L) (f : Fn h h') : Vcs h' v L := k.soft f (fun j e => e.elim)
theorem SL.hard {h h' : Hp} {sz r z : Nat} {v : CV} {rows R : List (List CV)} (k : SL h sz v rows) (hz : sz ≠ z) (f : Fm (fun j => j = r) h h') (hr : h.g r = some (.rows true z 0 0 R)) : SL h' sz v rows := k.mono f (by
  rintro id tok off len cap rfl e
  obtain ⟨wr, cur, lw, rs, hg, _⟩ := k
  rw [e, hr] at hg
  injection hg with hg
  injection hg with _ hg
  exact hz hg.symm)
theorem Vcs.hard {h h' : Hp} {r z : Nat} {v : CV} {L : List Vc} {R : List (List CV)} (k : Vcs h v L) (f : Fm (fun j => j = r) h h') (hr : h.g r = some (.rows true z 0 0 R)) (hz : 5 < z) : Vcs h' v L :=
  ⟨k.sl.hard (by omega) f hr, fun x hx => ⟨⟨(k.c x hx).1.sl.hard (by omega) f hr, fun y hy => ⟨((k.c x hx).1.cells y hy).1.hard (by omega) f hr, ((k.c x hx).1.cells y hy).2⟩⟩, (k.c x hx).2⟩⟩
section
variable {k b r : Nat} {S : Sb} {h : Hp} {P : AV → Hp → Prop}
theorem awakeV2_ok (hP : P (.c (.bool true)) h) : callW N (k + 1) 137 [] h P := ⟨awakeN, rfl, by simp, [], .c (.bool true), rfl, rfl, rfl, .inr rfl, _, rfl, hP⟩
end
end Camp

/-! CvVq9 -/
namespace Camp
open Go
set_option linter.unusedVariables false
set_option linter.unusedSimpArgs false
set_option maxHeartbeats 2000000
theorem sl_take {h : Hp} {sz id n : Nat} {rows : List (List CV)} (e : h.obs[id]? = some (.rows false sz 0 0 rows)) (hn : n ≤ rows.length) (c : Option Nat) : SL h sz (.sl id 0 0 n c) (rows.take n) :=
  ⟨false, 0, 0, rows, e, Nat.le_refl _, by omega, by simp⟩
theorem wtr_cells {hp : Hp} {rows : List (List CV)} {b : Nat} (h : WTR hp [.int .i64, .int .i64, .int .i64, .int .i64, .int .i64] rows b) : ∃ L : List Cel, rows = L.map encE ∧ L.length ≤ b := by
  induction rows generalizing b with
  | nil => exact ⟨[], rfl, Nat.zero_le _⟩
  | cons r rs ih =>
    cases h with
    | cons h1 h2 =>
      obtain ⟨L, rfl, hl⟩ := ih h2
      cases h1 with
      | int _ h1 => cases h1 with
        | int _ h1 => cases h1 with
          | int _ h1 => cases h1 with
            | int _ h1 => cases h1 with
              | int _ h1 =>
                cases h1
                exact ⟨⟨_, _, _, _, _⟩ :: L, rfl, by rw [List.length_cons]; omega⟩
theorem wtr_rows {hp : Hp} {rows : List (List CV)} {b : Nat} (h : WTR hp [.int .i64, .sl [.int .i64, .int .i64, .int .i64, .int .i64, .int .i64]] rows b) :
    ∃ C : List Rw, rows = C.map encR ∧ C.length ≤ b ∧ ∀ r ∈ C, SL hp 5 r.v (r.L.map encE) ∧ CapL r.v ∧ r.L.length ≤ b := by
  induction rows generalizing b with
  | nil => exact ⟨[], rfl, Nat.zero_le _, by simp⟩
  | cons r rs ih =>
    cases h with
    | cons h1 h2 =>
      obtain ⟨C, rfl, hl, hC⟩ := ih h2
      cases h1 with
      | int _ h1 => cases h1 with
        | nils h1 =>
          cases h1
          refine ⟨⟨_, .nils, []⟩ :: C, rfl, by rw [List.length_cons]; omega, fun r hr => ?_⟩
          rcases List.mem_cons.mp hr with rfl | hr
          · exact ⟨rfl, by rintro _ _ _ _ _ ⟨⟩, Nat.zero_le _⟩
          · have := hC r hr
            exact ⟨this.1, this.2.1, by omega⟩
        | sl e hn hr h1 =>
          cases h1
          rename_i k n id m c rows'
          obtain ⟨L, rfl, hL⟩ := wtr_cells hr
          refine ⟨⟨k, .sl id 0 0 m (some (L.map encE).length), L.take m⟩ :: C, rfl, by rw [List.length_cons]; omega, fun r hr => ?_⟩
          rcases List.mem_cons.mp hr with rfl | hr
          · refine ⟨?_, ?_, ?_⟩
            · rw [List.map_take]
              exact sl_take e hn _
            · rintro _ _ _ _ _ h
              injection h with _ _ _ h1 h2
              injection h2 with h2
              omega
            · rw [List.length_take]; omega
          · have := hC r hr
            exact ⟨this.1, this.2.1, by omega⟩
theorem wtr_vcs {hp : Hp} {rows : List (List CV)} {b : Nat} (hb : b ≤ 1048576) (h : WTR hp [.int .i64, .int .i64, .int .i64, .sl [.int .i64, .sl [.int .i64, .int .i64, .int .i64, .int .i64, .int .i64]]] rows b) :
    ∃ L : List Vc, rows = L.map encV ∧ L.length ≤ b ∧ ∀ x ∈ L, Rws hp x.w x.C ∧ x.C.length ≤ b := by
  induction rows generalizing b with
  | nil => exact ⟨[], rfl, Nat.zero_le _, by simp⟩
  | cons r rs ih =>
    cases h with
    | cons h1 h2 =>
      obtain ⟨L, rfl, hl, hL⟩ := ih (by omega) h2
      cases h1 with
      | int _ h1 => cases h1 with
        | int _ h1 => cases h1 with
          | int _ h1 => cases h1 with
            | nils h1 =>
              cases h1
              refine ⟨⟨_, _, _, .nils, []⟩ :: L, rfl, by rw [List.length_cons]; omega, fun r hr => ?_⟩
              rcases List.mem_cons.mp hr with rfl | hr
              · exact ⟨⟨rfl, by simp⟩, Nat.zero_le _⟩
              · have := hL r hr
                exact ⟨this.1, by omega⟩
            | sl e hn hr h1 =>
              cases h1
              rename_i k1 _ k2 _ k3 n id m c rows'
              obtain ⟨C, rfl, hCl, hC⟩ := wtr_rows hr
              refine ⟨⟨_, _, _, .sl id 0 0 m (some (C.map encR).length), C.take m⟩ :: L, rfl, by rw [List.length_cons]; omega, fun r hr => ?_⟩
              rcases List.mem_cons.mp hr with rfl | hr
              · refine ⟨⟨?_, fun y hy => ?_⟩, ?_⟩
                · rw [List.map_take]
                  exact sl_take e hn _
                · have := hC y (List.mem_of_mem_take hy)
                  exact ⟨this.1, this.2.1, by omega⟩
                · rw [List.length_take]; omega
              · have := hL r hr
                exact ⟨this.1, by omega⟩
theorem wt_vcs {hp : Hp} {w : CV} {b : Nat} (h : WT hp [.sl [.int .i64, .int .i64, .int .i64, .sl [.int .i64, .sl [.int .i64, .int .i64, .int .i64, .int .i64, .int .i64]]]] [w] b) (hb : b ≤ 1048576) : ∃ L : List Vc, Vcs hp w L ∧ L.length ≤ 1048576 ∧ ∀ x ∈ L, x.C.length ≤ 1048576 := by
  cases h with
  | nils h => exact ⟨[], ⟨rfl, by simp⟩, by simp, by simp⟩
  | sl e hn hr h =>
    cases h
    rename_i id n c rows
    obtain ⟨L, rfl, hl, hL⟩ := wtr_vcs (by omega) hr
    refine ⟨L.take n, ⟨?_, fun x hx => ?_⟩, ?_, fun x hx => ?_⟩
    · rw [List.map_take]
      exact sl_take e hn _
    · have := hL x (List.mem_of_mem_take hx)
      exact ⟨this.1, by omega⟩
    · rw [List.length_take]; omega
    · have := hL x (List.mem_of_mem_take hx)
      omega
end Camp

/-! CvVw1 -/
namespace Camp
open Go
set_option linter.unusedVariables false
set_option linter.unusedSimpArgs false
set_option maxHeartbeats 2000000
def Pl (h : Hp) (p : Nat) (w : Int) (c : CV) (z : Int) (x : CV) : Prop := h.g p = some (.rows true 4 0 0 [[.int .i64 w, c, .int .i64 z, x]])
section
variable {k p : Nat} {w z : Int} {c x : CV} {h : Hp} {P : AV → Hp → Prop}
theorem Pl.put {w' z' : Int} {c' x' : CV} (hp : Pl h p w c z x) : Pl (h.put p (.rows true 4 0 0 [[.int .i64 w', c', .int .i64 z', x']])) p w' c' z' x' := by
  have hg : h.g p = _ := hp
  unfold Pl
  rw [g_put_eq, hg]
  rfl
theorem pnew_ok (hP : ∀ h' p, Pl h' p 0 .nils 0 .nils → Fn h h' → h.n ≤ p → P (.c (.ptr p 0 0 0)) h') : callW N (k + 1) 231 [] h P := by
  refine call_intro rfl (by simp only [List.length_nil]; omega) ?_
  simp (maxSteps := 200000) -implicitDefEqProofs only [KA, KB, KC, KD, KE, KF, eq_self, ne_eq, ↓reduceIte, Nat.reduceLT, Nat.reduceEqDiff, Nat.reduceAdd, Nat.reduceLeDiff, Nat.reduceSub, Nat.reduceMul, reduceCtorEq]
  refine hP _ h.n ?_ (Fm.push _ _ _) (Nat.le_refl _)
  unfold Pl
  rw [g_push_eq]
theorem pver_ok (hp : Pl h p w c z x) (hP : P (.c (.int .i64 w)) h) : callW N (k + 1) 144 [.c (.ptr p 0 0 0)] h P := by
  have hg : h.g p = _ := hp
  refine call_intro rfl (by simp only [List.length_cons, List.length_nil]; omega) ?_
  simp (maxSteps := 200000) -implicitDefEqProofs only [KA, KB, KC, KD, KE, KF, eq_self, ne_eq, ↓reduceIte, Nat.reduceLT, Nat.reduceEqDiff, Nat.reduceAdd, Nat.reduceLeDiff, Nat.reduceSub, Nat.reduceMul, reduceCtorEq, hg]
  exact hP
theorem pcells_ok {L : List Cel} (hp : Pl h p w c z x) (hc : SL h 5 c (L.map encE)) (hn : L.length ≤ 64) (hP : ∀ h' u, SL h' 5 u (L.map encE) → Fn h h' → P (.c u) h') : callW N (k + 2) 143 [.c (.ptr p 0 0 0)] h P := by
  have hg : h.g p = _ := hp
  refine call_intro rfl (by simp only [List.length_cons, List.length_nil]; omega) ?_
  simp (maxSteps := 200000) -implicitDefEqProofs only [KA, KB, KC, KD, KE, KF, eq_self, ne_eq, ↓reduceIte, Nat.reduceLT, Nat.reduceEqDiff, Nat.reduceAdd, Nat.reduceLeDiff, Nat.reduceSub, Nat.reduceMul, reduceCtorEq, hg]
  refine cloneC_ok (k := k) hc (by omega) (fun h0 => ?_) fun h' id cap hA f _ => ?_
  · simp (maxSteps := 200000) -implicitDefEqProofs only [KA, KB, KC, KD, KE, KF, eq_self, ne_eq, ↓reduceIte, Nat.reduceLT, Nat.reduceEqDiff, Nat.reduceAdd, Nat.reduceLeDiff, Nat.reduceSub, Nat.reduceMul, reduceCtorEq]
    exact hP _ _ (by rw [h0]; rfl) (Fm.refl _ _)
  · simp (maxSteps := 200000) -implicitDefEqProofs only [KA, KB, KC, KD, KE, KF, eq_self, ne_eq, ↓reduceIte, Nat.reduceLT, Nat.reduceEqDiff, Nat.reduceAdd, Nat.reduceLeDiff, Nat.reduceSub, Nat.reduceMul, reduceCtorEq]
    refine hP _ _ ?_ f
    obtain ⟨lw, g1, g2⟩ := hA
    rw [List.append_nil] at g2
    exact ⟨true, 0, lw, _, g2, g1, by rw [List.length_map]; omega, by rw [List.drop_zero, List.take_of_length_le (by rw [List.length_map]; omega)]⟩
theorem pcom_state {v : Int} (hp : Pl h p w c z x) (hc : z = 0 ∨ ¬ v = z) (hP : P (.c (.int .i64 7)) h) : callW N (k + 1) 142 [.c (.ptr p 0 0 0), .c (.int .i64 v)] h P := by
  have hg : h.g p = _ := hp
  refine call_intro rfl (by simp only [List.length_cons, List.length_nil]; omega) ?_
  by_cases c0 : z = 0
  · have d : decide (z = 0) = true := decide_eq_true c0
    simp (maxSteps := 200000) -implicitDefEqProofs only [KA, KB, KC, KD, KE, KF, eq_self, ne_eq, ↓reduceIte, Nat.reduceLT, Nat.reduceEqDiff, Nat.reduceAdd, Nat.reduceLeDiff, Nat.reduceSub, Nat.reduceMul, reduceCtorEq, hg, d]
    exact hP
  · have d := hc.resolve_left c0
    simp (maxSteps := 200000) -implicitDefEqProofs only [KA, KB, KC, KD, KE, KF, eq_self, ne_eq, ↓reduceIte, Nat.reduceLT, Nat.reduceEqDiff, Nat.reduceAdd, Nat.reduceLeDiff, Nat.reduceSub, Nat.reduceMul, reduceCtorEq, hg, c0, d]
    exact hP
theorem pcom_ok (hp : Pl h p w c z x) (hc : ¬ z = 0) (hP : ∀ h', Pl h' p z x 0 .nils → Fm (fun j => j = p) h h' → P (.c (.int .i64 0)) h') : callW N (k + 1) 142 [.c (.ptr p 0 0 0), .c (.int .i64 z)] h P := by
  have hg : h.g p = _ := hp
  have d : decide (z = z) = true := by simp
  obtain ⟨h1, e1⟩ : ∃ h1, h1 = h.put p (.rows true 4 0 0 [[.int .i64 z, c, .int .i64 z, x]]) := ⟨_, rfl⟩
  have t1 : Pl h1 p z c z x := by rw [e1]; exact hp.put
  obtain ⟨h2, e2⟩ : ∃ h2, h2 = h1.put p (.rows true 4 0 0 [[.int .i64 z, x, .int .i64 z, x]]) := ⟨_, rfl⟩
  have t2 : Pl h2 p z x z x := by rw [e2]; exact t1.put
  obtain ⟨h3, e3⟩ : ∃ h3, h3 = h2.put p (.rows true 4 0 0 [[.int .i64 z, x, .int .i64 0, x]]) := ⟨_, rfl⟩
  have t3 : Pl h3 p z x 0 x := by rw [e3]; exact t2.put
  obtain ⟨h4, e4⟩ : ∃ h4, h4 = h3.put p (.rows true 4 0 0 [[.int .i64 z, x, .int .i64 0, .nils]]) := ⟨_, rfl⟩
  have t4 : Pl h4 p z x 0 .nils := by rw [e4]; exact t3.put
  have u1 : h1.g p = _ := t1
  have u2 : h2.g p = _ := t2
  have u3 : h3.g p = _ := t3
  have f1 := e1.symm
  have f2 := e2.symm
  have f3 := e3.symm
  have f4 := e4.symm
  refine call_intro rfl (by simp only [List.length_cons, List.length_nil]; omega) ?_
  simp (maxSteps := 200000) -implicitDefEqProofs only [KA, KB, KC, KD, KE, KF, eq_self, ne_eq, ↓reduceIte, Nat.reduceLT, Nat.reduceEqDiff, Nat.reduceAdd, Nat.reduceLeDiff, Nat.reduceSub, Nat.reduceMul, reduceCtorEq, hg, hc, d, f1, u1, f2, u2, f3, u3, f4]
  refine hP h4 t4 ?_
  rw [e4, e3, e2, e1]
  exact (((Fm.put (S := fun j => j = p) _ _ rfl).trans (Fm.put _ _ rfl)).trans (Fm.put _ _ rfl)).trans (Fm.put _ _ rfl)
/-- Whether any is such, whatever such is. -/
theorem cont_any {F g : Nat} {caps : List CV} {v : CV} {L : List Cel} {I : Hp → Prop} (hF : 2 ≤ F) (hI : I h) (hIn : ∀ h1 h2, I h1 → Fn h1 h2 → I h2) (hs : SL h 5 v (L.map encE)) (hn : L.length ≤ 64)
    (hc : ∀ y h' (Q : AV → Hp → Prop), I h' → (∀ b h'', Fn h' h'' → Q (.c (.bool b)) h'') → callW N (F - 2) g (.agg (encE y) :: caps.map .c) h' Q)
    (hP : ∀ b h', Fn h h' → P (.c (.bool b)) h') : callW N F 148 [.c v, .c (.fn g caps)] h P := by
  obtain ⟨k, rfl⟩ : ∃ k, F = k + 2 := ⟨F - 2, by omega⟩
  rw [show k + 2 - 2 = k by omega] at hc
  have hlen : ∀ h' : Hp, lenT h' .sl (.v (.c v)) = some (L.length : Int) := fun h' => by rw [hs.len h', List.length_map]
  have henc : ∀ x, (encE x).length = 5 := fun _ => rfl
  have htk : ∀ x, (encE x).take 5 = encE x := fun _ => rfl
  refine call_intro rfl (by simp only [List.length_cons, List.length_nil]; omega) ?_
  simp (maxSteps := 200000) -implicitDefEqProofs only [KA, KB, KC, KD, KE, KF, eq_self, ne_eq, ↓reduceIte, Nat.reduceLT, Nat.reduceEqDiff, Nat.reduceAdd, Nat.reduceLeDiff, Nat.reduceSub, Nat.reduceMul, reduceCtorEq]
  refine call_intro rfl (by simp only [List.length_cons, List.length_nil]; omega) ?_
  simp (maxSteps := 200000) -implicitDefEqProofs only [KA, KB, KC, KD, KE, KF, eq_self, ne_eq, ↓reduceIte, Nat.reduceLT, Nat.reduceEqDiff, Nat.reduceAdd, Nat.reduceLeDiff, Nat.reduceSub, Nat.reduceMul, reduceCtorEq, hlen]
  refine loop_rd (callW_mono N _) (fun m s => ∃ (i : Nat) (h' : Hp) (l : List (Nat × TV)) (lc : List (List CV)), s = ST 19 l lc h' ∧ i ≤ L.length ∧ m = L.length - i ∧ I h' ∧ Fn h h' ∧
    lk l 0 = .v (.c v) ∧ lk l 1 = .v (.c (.fn g caps)) ∧ lk l 7 = .v (.c (.int .i64 L.length)) ∧ lk l 8 = .v (.c (.int .i64 i))) (n := L.length) ⟨0, h, _, _, rfl, by omega, rfl, hI, Fm.refl _ _, rfl, rfl, rfl, rfl⟩ ?_
  rintro m s ⟨i, h1, l, lc, rfl, hi, hm, hI1, f1, e0, e1, e7, e8⟩
  by_cases hlt : (i : Int) < (L.length : Int)
  · obtain ⟨y, hy⟩ : ∃ y, L[i]? = some y := ⟨_, List.getElem?_eq_getElem (by omega)⟩
    have hrow : (L.map encE)[(i : Int).toNat]? = some (encE y) := by simp [hy]
    obtain ⟨p1, p2, p3, a1, a2⟩ := (hs.new f1).at (by omega) hrow
    have hwi := wrap_i64 (n := (i : Int) + 1) (by omega)
    simp (maxSteps := 200000) -implicitDefEqProofs only [KA, KB, KC, KD, KE, KF, eq_self, ne_eq, ↓reduceIte, Nat.reduceLT, Nat.reduceEqDiff, Nat.reduceAdd, Nat.reduceLeDiff, Nat.reduceSub, Nat.reduceMul, reduceCtorEq, e0, e1, e7, e8, hlt, a1, a2, henc, htk]
    refine hc y h1 _ hI1 fun b h2 f2 => ?_
    cases b with
    | true =>
      have z : (0 : Int) ≤ i := by omega
      simp (maxSteps := 200000) -implicitDefEqProofs only [KA, KB, KC, KD, KE, KF, eq_self, ne_eq, ↓reduceIte, Nat.reduceLT, Nat.reduceEqDiff, Nat.reduceAdd, Nat.reduceLeDiff, Nat.reduceSub, Nat.reduceMul, reduceCtorEq, z]
      exact hP _ _ (f1.trans f2)
    | false =>
      simp (maxSteps := 200000) -implicitDefEqProofs only [KA, KB, KC, KD, KE, KF, eq_self, ne_eq, ↓reduceIte, Nat.reduceLT, Nat.reduceEqDiff, Nat.reduceAdd, Nat.reduceLeDiff, Nat.reduceSub, Nat.reduceMul, reduceCtorEq, hwi, rd_n]
      exact ⟨m - 1, by omega, i + 1, h2, _, _, rfl, by omega, by omega, hIn _ _ hI1 f2, f1.trans f2, rfl, rfl, rfl, rfl⟩
  · have z : ¬ (0 : Int) ≤ -1 := by omega
    simp (maxSteps := 200000) -implicitDefEqProofs only [KA, KB, KC, KD, KE, KF, eq_self, ne_eq, ↓reduceIte, Nat.reduceLT, Nat.reduceEqDiff, Nat.reduceAdd, Nat.reduceLeDiff, Nat.reduceSub, Nat.reduceMul, reduceCtorEq, e0, e1, e7, e8, hlt, z]
    exact hP _ _ f1
theorem fn149_ok {y : Cel} {F : Nat} (hF : 3 ≤ F) (hP : ∀ b, P (.c (.bool b)) h) : callW N F 149 [.agg (encE y)] h P := by
  obtain ⟨k, rfl⟩ : ∃ k, F = k + 3 := ⟨F - 3, by omega⟩
  have henc : ∀ x, (encE x).length = 5 := fun _ => rfl
  have htk : ∀ x, (encE x).take 5 = encE x := fun _ => rfl
  refine call_intro rfl (by simp only [List.length_cons, List.length_nil]; omega) ?_
  simp (maxSteps := 200000) -implicitDefEqProofs only [KA, KB, KC, KD, KE, KF, eq_self, ne_eq, ↓reduceIte, Nat.reduceLT, Nat.reduceEqDiff, Nat.reduceAdd, Nat.reduceLeDiff, Nat.reduceSub, Nat.reduceMul, reduceCtorEq, henc, htk]
  refine may_ok (k := k) ?_
  simp (maxSteps := 200000) -implicitDefEqProofs only [KA, KB, KC, KD, KE, KF, eq_self, ne_eq, ↓reduceIte, Nat.reduceLT, Nat.reduceEqDiff, Nat.reduceAdd, Nat.reduceLeDiff, Nat.reduceSub, Nat.reduceMul, reduceCtorEq]
  exact hP _
theorem fn154_ok {y a : Cel} {F q : Nat} (hF : 1 ≤ F) (hq : h.g q = some (.rows true 5 0 0 [encE a])) (hP : ∀ b, P (.c (.bool b)) h) : callW N F 154 [.agg (encE y), .c (.ptr q 0 0 0)] h P := by
  obtain ⟨k, rfl⟩ : ∃ k, F = k + 1 := ⟨F - 1, by omega⟩
  have e1 : encE y = [.int .i64 y.f, .int .i64 y.s, .int .i64 y.c, .int .i64 y.o, .int .i64 y.p] := rfl
  have e2 : encE a = [.int .i64 a.f, .int .i64 a.s, .int .i64 a.c, .int .i64 a.o, .int .i64 a.p] := rfl
  rw [e2] at hq
  refine call_intro rfl (by simp only [List.length_cons, List.length_nil]; omega) ?_
  by_cases c1 : a.f = y.f
  · have d1 : decide (a.f = y.f) = true := decide_eq_true c1
    by_cases c2 : a.s = y.s
    · have d2 : decide (a.s = y.s) = true := decide_eq_true c2
      simp (maxSteps := 200000) -implicitDefEqProofs only [KA, KB, KC, KD, KE, KF, eq_self, ne_eq, ↓reduceIte, Nat.reduceLT, Nat.reduceEqDiff, Nat.reduceAdd, Nat.reduceLeDiff, Nat.reduceSub, Nat.reduceMul, reduceCtorEq, e1, hq, d1, d2]
      exact hP _
    · simp (maxSteps := 200000) -implicitDefEqProofs only [KA, KB, KC, KD, KE, KF, eq_self, ne_eq, ↓reduceIte, Nat.reduceLT, Nat.reduceEqDiff, Nat.reduceAdd, Nat.reduceLeDiff, Nat.reduceSub, Nat.reduceMul, reduceCtorEq, e1, hq, d1, c2]
      exact hP _
  · simp (maxSteps := 200000) -implicitDefEqProofs only [KA, KB, KC, KD, KE, KF, eq_self, ne_eq, ↓reduceIte, Nat.reduceLT, Nat.reduceEqDiff, Nat.reduceAdd, Nat.reduceLeDiff, Nat.reduceSub, Nat.reduceMul, reduceCtorEq, e1, hq, c1]
    exact hP _
theorem twice_any {F : Nat} {v : CV} {L : List Cel} (hF : 4 ≤ F) (hs : SL h 5 v (L.map encE)) (hcap : CapL v) (hn : L.length ≤ 64) (hP : ∀ b h', Fn h h' → P (.c (.bool b)) h') : callW N F 150 [.c v] h P := by
  obtain ⟨k, rfl⟩ : ∃ k, F = k + 4 := ⟨F - 4, by omega⟩
  have hlen : ∀ h' : Hp, lenT h' .sl (.v (.c v)) = some (L.length : Int) := fun h' => by rw [hs.len h', List.length_map]
  have henc : ∀ x, (encE x).length = 5 := fun _ => rfl
  have htk : ∀ x, (encE x).take 5 = encE x := fun _ => rfl
  refine call_intro rfl (by simp only [List.length_cons, List.length_nil]; omega) ?_
  simp (maxSteps := 200000) -implicitDefEqProofs only [KA, KB, KC, KD, KE, KF, eq_self, ne_eq, ↓reduceIte, Nat.reduceLT, Nat.reduceEqDiff, Nat.reduceAdd, Nat.reduceLeDiff, Nat.reduceSub, Nat.reduceMul, reduceCtorEq, hlen]
  refine loop_rd (callW_mono N _) (fun m s => ∃ (i : Nat) (h' : Hp) (l : List (Nat × TV)) (lc : List (List CV)), s = ST 18 l lc h' ∧ i ≤ L.length ∧ m = L.length - i ∧ Fn h h' ∧
    lk l 0 = .v (.c v) ∧ lk l 5 = .v (.c v) ∧ lk l 6 = .v (.c (.int .i64 L.length)) ∧ lk l 7 = .v (.c (.int .i64 i))) (n := L.length) ⟨0, h, _, _, rfl, by omega, rfl, Fm.refl _ _, rfl, rfl, rfl, rfl⟩ ?_
  rintro m s ⟨i, h1, l, lc, rfl, hi, hm, f1, e0, e5, e6, e7⟩
  by_cases hlt : (i : Int) < (L.length : Int)
  · obtain ⟨y, hy⟩ : ∃ y, L[i]? = some y := ⟨_, List.getElem?_eq_getElem (by omega)⟩
    have hrow : (L.map encE)[(i : Int).toNat]? = some (encE y) := by simp [hy]
    have hwi := wrap_i64 (n := (i : Int) + 1) (by omega)
    obtain ⟨p1, p2, p3, a1, a2⟩ := (hs.new f1).at (by omega) hrow
    obtain ⟨h2, e2⟩ : ∃ h2, h2 = h1.push (.rows true 5 0 0 [[.int .i64 0, .int .i64 0, .int .i64 0, .int .i64 0, .int .i64 0]]) := ⟨_, rfl⟩
    have g2 : h2.g h1.n = some (.rows true 5 0 0 [[.int .i64 0, .int .i64 0, .int .i64 0, .int .i64 0, .int .i64 0]]) := by rw [e2, g_push_eq]
    have f2 : Fn h1 h2 := by rw [e2]; exact Fm.push _ _ _
    obtain ⟨h3, e3⟩ : ∃ h3, h3 = h2.put h1.n (.rows true 5 0 0 [encE y]) := ⟨_, rfl⟩
    have g3 : h3.g h1.n = some (.rows true 5 0 0 [encE y]) := by rw [e3, g_put_eq, g2]; rfl
    have f3 : Fn h1 h3 := f2.fresh (by rw [e3]; exact Fm.put (S := fun j => j = h1.n) _ _ rfl) (fun j hj => by omega)
    have hf2 := e2.symm
    have hf3 := e3.symm
    have b1 := (hs.new (f1.trans f2)).at (i := (i : Int)) (by omega) hrow
    obtain ⟨v', s1, s2⟩ := (hs.new (f1.trans f3)).first hcap (by omega) (m := (i : Int)) (by rw [List.length_map]; omega)
    rw [Int.toNat_natCast, ← List.map_take] at s2
    simp (maxSteps := 200000) -implicitDefEqProofs only [KA, KB, KC, KD, KE, KF, eq_self, ne_eq, ↓reduceIte, Nat.reduceLT, Nat.reduceEqDiff, Nat.reduceAdd, Nat.reduceLeDiff, Nat.reduceSub, Nat.reduceMul, reduceCtorEq, e0, e5, e6, e7, hlt, a1, a2, hf2, g2, henc, htk, hf3, s1]
    all_goals trace_state
    refine cont_any (I := fun h' => h'.g h1.n = some (.rows true 5 0 0 [encE y])) (L := L.take i) (by omega) g3 (fun _ _ h0 f => f.some h0 (fun e => e)) s2 (by rw [List.length_take]; omega) (fun y' h' Q hI hQ => fn154_ok (by omega) hI fun b => hQ b h' (Fm.refl _ _)) fun b h4 f4 => ?_
    cases b with
    | true =>
      simp (maxSteps := 200000) -implicitDefEqProofs only [KA, KB, KC, KD, KE, KF, eq_self, ne_eq, ↓reduceIte, Nat.reduceLT, Nat.reduceEqDiff, Nat.reduceAdd, Nat.reduceLeDiff, Nat.reduceSub, Nat.reduceMul, reduceCtorEq]
      exact hP _ _ ((f1.trans f3).trans f4)
    | false =>
      simp (maxSteps := 200000) -implicitDefEqProofs only [KA, KB, KC, KD, KE, KF, eq_self, ne_eq, ↓reduceIte, Nat.reduceLT, Nat.reduceEqDiff, Nat.reduceAdd, Nat.reduceLeDiff, Nat.reduceSub, Nat.reduceMul, reduceCtorEq, hwi, rd_n]
      exact ⟨m - 1, by omega, i + 1, h4, _, _, rfl, by omega, by omega, (f1.trans f3).trans f4, rfl, rfl, rfl, rfl⟩
  · simp (maxSteps := 200000) -implicitDefEqProofs only [KA, KB, KC, KD, KE, KF, eq_self, ne_eq, ↓reduceIte, Nat.reduceLT, Nat.reduceEqDiff, Nat.reduceAdd, Nat.reduceLeDiff, Nat.reduceSub, Nat.reduceMul, reduceCtorEq, e0, e5, e6, e7, hlt]
    exact hP _ _ f1
end
end Camp

/-! CvVw2 -/
namespace Camp
open Go
set_option linter.unusedVariables false
set_option linter.unusedSimpArgs false
set_option maxHeartbeats 2000000
section
variable {k p : Nat} {w z : Int} {c x : CV} {h : Hp} {P : AV → Hp → Prop}
theorem prep_ok {F : Nat} {v : Int} {s : CV} {L : List Cel} (hF : 90 ≤ F) (hp : Pl h p w c z x) (hs : SL h 5 s (L.map encE)) (hcap : CapL s) (hn : L.length ≤ 64) (hv : 1 ≤ v)
    (h0 : ∀ q h', ¬ q = 0 → Fn h h' → P (.c (.int .i64 q)) h') (h1 : w < v → ∀ h' u, Pl h' p w c v u → SL h' 5 u ((srtC L).map encE) → Fm (fun j => j = p) h h' → P (.c (.int .i64 0)) h') :
    callW N F 141 [.c (.ptr p 0 0 0), .c (.int .i64 v), .c s] h P := by
  obtain ⟨k, rfl⟩ : ∃ k, F = k + 90 := ⟨F - 90, by omega⟩
  have hg : h.g p = _ := hp
  have hlen : ∀ h' : Hp, lenT h' .sl (.v (.c s)) = some (L.length : Int) := fun h' => by rw [hs.len h', List.length_map]
  have z1 : ¬ v < 1 := by omega
  have z2 : ¬ (64 : Int) < (L.length : Int) := by omega
  refine call_intro rfl (by simp only [List.length_cons, List.length_nil]; omega) ?_
  simp (maxSteps := 200000) -implicitDefEqProofs only [KA, KB, KC, KD, KE, KF, eq_self, ne_eq, ↓reduceIte, Nat.reduceLT, Nat.reduceEqDiff, Nat.reduceAdd, Nat.reduceLeDiff, Nat.reduceSub, Nat.reduceMul, reduceCtorEq, z1, hlen, z2]
  refine cont_any (I := fun _ => True) (by omega) trivial (fun _ _ _ _ => trivial) hs hn (fun y h' Q _ hQ => fn149_ok (by omega) fun b => hQ b h' (Fm.refl _ _)) fun b1 g1 f1 => ?_
  cases b1 with
  | true =>
    simp (maxSteps := 200000) -implicitDefEqProofs only [KA, KB, KC, KD, KE, KF, eq_self, ne_eq, ↓reduceIte, Nat.reduceLT, Nat.reduceEqDiff, Nat.reduceAdd, Nat.reduceLeDiff, Nat.reduceSub, Nat.reduceMul, reduceCtorEq]
    exact h0 1 _ (by omega) f1
  | false =>
    simp (maxSteps := 200000) -implicitDefEqProofs only [KA, KB, KC, KD, KE, KF, eq_self, ne_eq, ↓reduceIte, Nat.reduceLT, Nat.reduceEqDiff, Nat.reduceAdd, Nat.reduceLeDiff, Nat.reduceSub, Nat.reduceMul, reduceCtorEq]
    refine twice_any (by omega) (hs.new f1) hcap hn fun b2 g2 f2 => ?_
    cases b2 with
    | true =>
      simp (maxSteps := 200000) -implicitDefEqProofs only [KA, KB, KC, KD, KE, KF, eq_self, ne_eq, ↓reduceIte, Nat.reduceLT, Nat.reduceEqDiff, Nat.reduceAdd, Nat.reduceLeDiff, Nat.reduceSub, Nat.reduceMul, reduceCtorEq]
      exact h0 1 _ (by omega) (f1.trans f2)
    | false =>
      have hg2 : g2.g p = _ := (f1.trans f2).some hg (fun e => e)
      by_cases c0 : v ≤ w
      · simp (maxSteps := 200000) -implicitDefEqProofs only [KA, KB, KC, KD, KE, KF, eq_self, ne_eq, ↓reduceIte, Nat.reduceLT, Nat.reduceEqDiff, Nat.reduceAdd, Nat.reduceLeDiff, Nat.reduceSub, Nat.reduceMul, reduceCtorEq, hg2, c0]
        exact h0 8 _ (by omega) (f1.trans f2)
      · simp (maxSteps := 200000) -implicitDefEqProofs only [KA, KB, KC, KD, KE, KF, eq_self, ne_eq, ↓reduceIte, Nat.reduceLT, Nat.reduceEqDiff, Nat.reduceAdd, Nat.reduceLeDiff, Nat.reduceSub, Nat.reduceMul, reduceCtorEq, hg2, c0]
        refine sortedC_ok (by omega) ((hs.new f1).new f2) hn fun g3 u hu f3 _ => ?_
        have hp3 : Pl g3 p w c z x := f3.some hg2 (fun e => e)
        have hg3 : g3.g p = _ := hp3
        obtain ⟨g4, e4⟩ : ∃ g4, g4 = g3.put p (.rows true 4 0 0 [[.int .i64 w, c, .int .i64 v, x]]) := ⟨_, rfl⟩
        have t4 : Pl g4 p w c v x := by rw [e4]; exact hp3.put
        obtain ⟨g5, e5⟩ : ∃ g5, g5 = g4.put p (.rows true 4 0 0 [[.int .i64 w, c, .int .i64 v, u]]) := ⟨_, rfl⟩
        have t5 : Pl g5 p w c v u := by rw [e5]; exact t4.put
        have u4 : g4.g p = _ := t4
        have k4 := e4.symm
        have k5 := e5.symm
        simp (maxSteps := 200000) -implicitDefEqProofs only [KA, KB, KC, KD, KE, KF, eq_self, ne_eq, ↓reduceIte, Nat.reduceLT, Nat.reduceEqDiff, Nat.reduceAdd, Nat.reduceLeDiff, Nat.reduceSub, Nat.reduceMul, reduceCtorEq, hg3, k4, u4, k5]
        have F35 : Fm (fun j => j = p) g3 g5 := by
          rw [e5, e4]
          exact (Fm.put (S := fun j => j = p) _ _ rfl).trans (Fm.put _ _ rfl)
        exact h1 (by omega) g5 u t5 (hu.hard (by omega) F35 hg3) ((((f1.trans f2).trans f3).mono (fun _ _ e => e.elim)).trans F35)
theorem few80_ok {v : CV} {L : List Vc} (hV : Vcs h v L) (hP : ∀ z : Bool, (z = true → L.length ≤ 80) → P (.c (.bool z)) h) : callW N (k + 1) 221 [.c v] h P := by
  have hlen : ∀ h' : Hp, lenT h' .sl (.v (.c v)) = some (L.length : Int) := fun h' => by rw [hV.sl.len h', List.length_map]
  refine call_intro rfl (by simp only [List.length_cons, List.length_nil]; omega) ?_
  simp (maxSteps := 200000) -implicitDefEqProofs only [KA, KB, KC, KD, KE, KF, eq_self, ne_eq, ↓reduceIte, Nat.reduceLT, Nat.reduceEqDiff, Nat.reduceAdd, Nat.reduceLeDiff, Nat.reduceSub, Nat.reduceMul, reduceCtorEq, hlen]
  refine loop_rd (callW_mono N _) (fun m s => ∃ (i : Nat) (a : Int) (l : List (Nat × TV)), s = ST 36 l [] h ∧ i ≤ L.length ∧ i ≤ 80 ∧ m = L.length - i ∧
    lk l 3 = .v (.c (.int .i64 a)) ∧ lk l 8 = .v (.c v) ∧ lk l 9 = .v (.c (.int .i64 L.length)) ∧ lk l 10 = .v (.c (.int .i64 i))) (n := L.length) ⟨0, 0, _, rfl, by omega, by omega, rfl, rfl, rfl, rfl, rfl⟩ ?_
  rintro m s ⟨i, a, l, rfl, hi, hi8, hm, e3, e8, e9, e10⟩
  by_cases hlt : (i : Int) < (L.length : Int)
  · obtain ⟨x, hx⟩ : ∃ x, L[i]? = some x := ⟨_, List.getElem?_eq_getElem (by omega)⟩
    have hrow : (L.map encV)[(i : Int).toNat]? = some [.int .i64 x.d, .int .i64 x.nd, .int .i64 x.vv, x.w] := by simp [encV, hx]
    obtain ⟨p1, p2, p3, a1, a2⟩ := hV.sl.at (by omega) hrow
    obtain ⟨hC, hCl⟩ := hV.c x (List.mem_of_getElem? hx)
    have hlenC : ∀ h' : Hp, lenT h' .sl (.v (.c x.w)) = some (x.C.length : Int) := fun h' => by rw [hC.sl.len h', List.length_map]
    have hwi := wrap_i64 (n := (i : Int) + 1) (by omega)
    simp (maxSteps := 200000) -implicitDefEqProofs only [KA, KB, KC, KD, KE, KF, eq_self, ne_eq, ↓reduceIte, Nat.reduceLT, Nat.reduceEqDiff, Nat.reduceAdd, Nat.reduceLeDiff, Nat.reduceSub, Nat.reduceMul, reduceCtorEq, e3, e8, e9, e10, hlt, a1, a2, hlenC]
    refine loop_rd (callW_mono N _) (fun m s => ∃ (j : Nat) (a : Int) (l : List (Nat × TV)), s = ST 36 l [] h ∧ j ≤ x.C.length ∧ m = x.C.length - j ∧
      lk l 3 = .v (.c (.int .i64 a)) ∧ lk l 4 = .v (.c (.int .i64 i)) ∧ lk l 8 = .v (.c v) ∧ lk l 9 = .v (.c (.int .i64 L.length)) ∧ lk l 10 = .v (.c (.int .i64 i)) ∧ lk l 16 = .v (.c x.w) ∧ lk l 17 = .v (.c (.int .i64 x.C.length)) ∧ lk l 18 = .v (.c (.int .i64 j))) (n := x.C.length) ⟨0, a, _, rfl, by omega, rfl, rfl, rfl, rfl, rfl, rfl, rfl, rfl, rfl⟩ ?_
    clear e3 e8 e9 e10
    rintro m2 s ⟨j, a, l, rfl, hj, hm2, e3, e4, e8, e9, e10, e16, e17, e18⟩
    by_cases hlt2 : (j : Int) < (x.C.length : Int)
    · obtain ⟨y, hy⟩ : ∃ y, x.C[j]? = some y := ⟨_, List.getElem?_eq_getElem (by omega)⟩
      have hrow2 : (x.C.map encR)[(j : Int).toNat]? = some [.int .i64 y.n, y.v] := by simp [encR, hy]
      obtain ⟨q1, q2, q3, b1, b2⟩ := hC.sl.at (by omega) hrow2
      have hcy := (hC.cells y (List.mem_of_getElem? hy)).1
      have hlenY : ∀ h' : Hp, lenT h' .sl (.v (.c y.v)) = some (y.L.length : Int) := fun h' => by rw [hcy.len h', List.length_map]
      have hwj := wrap_i64 (n := (j : Int) + 1) (by omega)
      simp (maxSteps := 200000) -implicitDefEqProofs only [KA, KB, KC, KD, KE, KF, eq_self, ne_eq, ↓reduceIte, Nat.reduceLT, Nat.reduceEqDiff, Nat.reduceAdd, Nat.reduceLeDiff, Nat.reduceSub, Nat.reduceMul, reduceCtorEq, e3, e4, e8, e9, e10, e16, e17, e18, hlt2, b1, b2, hlenY, hwj, rd_n]
      exact ⟨m2 - 1, by omega, j + 1, _, _, rfl, by omega, by omega, rfl, rfl, rfl, rfl, rfl, rfl, rfl, rfl⟩
    · by_cases c1 : (80 : Int) ≤ i
      · simp (maxSteps := 200000) -implicitDefEqProofs only [KA, KB, KC, KD, KE, KF, eq_self, ne_eq, ↓reduceIte, Nat.reduceLT, Nat.reduceEqDiff, Nat.reduceAdd, Nat.reduceLeDiff, Nat.reduceSub, Nat.reduceMul, reduceCtorEq, e3, e4, e8, e9, e10, e16, e17, e18, hlt2, c1]
        exact hP _ (by simp)
      · by_cases c2 : (600 : Int) < a
        · simp (maxSteps := 200000) -implicitDefEqProofs only [KA, KB, KC, KD, KE, KF, eq_self, ne_eq, ↓reduceIte, Nat.reduceLT, Nat.reduceEqDiff, Nat.reduceAdd, Nat.reduceLeDiff, Nat.reduceSub, Nat.reduceMul, reduceCtorEq, e3, e4, e8, e9, e10, e16, e17, e18, hlt2, c1, c2]
          exact hP _ (by simp)
        · simp (maxSteps := 200000) -implicitDefEqProofs only [KA, KB, KC, KD, KE, KF, eq_self, ne_eq, ↓reduceIte, Nat.reduceLT, Nat.reduceEqDiff, Nat.reduceAdd, Nat.reduceLeDiff, Nat.reduceSub, Nat.reduceMul, reduceCtorEq, e3, e4, e8, e9, e10, e16, e17, e18, hlt2, c1, c2, hwi, rd_n]
          exact ⟨m - 1, by omega, i + 1, a, _, rfl, by omega, by omega, by omega, rfl, rfl, rfl, rfl⟩
  · simp (maxSteps := 200000) -implicitDefEqProofs only [KA, KB, KC, KD, KE, KF, eq_self, ne_eq, ↓reduceIte, Nat.reduceLT, Nat.reduceEqDiff, Nat.reduceAdd, Nat.reduceLeDiff, Nat.reduceSub, Nat.reduceMul, reduceCtorEq, e3, e8, e9, e10, hlt]
    exact hP _ (fun _ => by omega)
end
theorem filter_flat {α β : Type} (q : β → Bool) (f : α → List β) : ∀ l : List α, (l.flatMap f).filter q = l.flatMap fun a => (f a).filter q
  | [] => rfl
  | a :: l => by rw [List.flatMap_cons, List.flatMap_cons, List.filter_append, filter_flat q f l]
theorem flat_one {α β : Type} {f : α → List β} {a : α} : ∀ {l : List α}, l.Nodup → a ∈ l → (∀ b ∈ l, b ≠ a → f b = []) → l.flatMap f = f a
  | [], _, h, _ => by cases h
  | b :: l, hn, hm, h => by
    rw [List.nodup_cons] at hn
    rw [List.flatMap_cons]
    by_cases e : b = a
    · subst e
      have : l.flatMap f = [] := by
        rw [List.flatMap_eq_nil_iff]
        exact fun y hy => h y (by simp [hy]) (fun e => hn.1 (by rw [← e]; exact hy))
      rw [this, List.append_nil]
    · rw [h b (by simp) e, List.nil_append]
      exact flat_one hn.2 ((List.mem_cons.mp hm).resolve_left fun e' => e e'.symm) fun y hy hy2 => h y (by simp [hy]) hy2
theorem filter_rfl (x : Nat) (y : Int) (L : List Cel) : (rfl1 x L).filter (fun b => decide (b.n = y)) = if (x : Int) = y then rfl1 x L else [] := by
  unfold rfl1
  by_cases e : (x : Int) = y
  · rw [if_pos e]
    exact List.filter_eq_self.mpr fun b hb => by
      obtain ⟨c, _, rfl⟩ := List.mem_map.mp hb
      exact decide_eq_true e
  · rw [if_neg e]
    exact List.filter_eq_nil_iff.mpr fun b hb => by
      obtain ⟨c, _, rfl⟩ := List.mem_map.mp hb
      rw [decide_eq_true_eq]
      exact e
theorem dl_tvf {h' : Hp} {C : List Rw} {es : List ME} {D : List CV} {DL : Nat → List Cel} {O : List Hd} (k : MpV h' C es D DL O) (hu : UQ (rowF C) es) (hnd : es.Nodup) {i : Nat} (hi : i < 16) : srtC (DL i) = tvf (rowF C) es i := by
  by_cases hx : ∃ e ∈ es, (rowF C e).1 = (i : Int)
  · obtain ⟨e, he, hei⟩ := hx
    rw [tvf_in hu he hei]
    have h1 := (k.perm.filter fun b => decide (b.n = (i : Int)))
    have h2 : (flatM (rowF C) es).filter (fun b => decide (b.n = (i : Int))) = flatE (rowF C) e := by
      unfold flatM
      rw [filter_flat, flat_one hnd he]
      · unfold flatE
        exact List.filter_eq_self.mpr fun b hb => by
          obtain ⟨c, _, rfl⟩ := List.mem_map.mp hb
          exact decide_eq_true hei
      · intro b hb hbe
        unfold flatE
        exact List.filter_eq_nil_iff.mpr fun y hy => by
          obtain ⟨c, _, rfl⟩ := List.mem_map.mp hy
          rw [decide_eq_true_eq]
          exact fun e' => hbe (hu b hb e he (e'.trans hei.symm))
    have h3 : (rf 16 DL ++ O).filter (fun b => decide (b.n = (i : Int))) = rfl1 i (DL i) := by
      rw [List.filter_append]
      have ho : O.filter (fun b => decide (b.n = (i : Int))) = [] := List.filter_eq_nil_iff.mpr fun y hy => by
        rw [decide_eq_true_eq]
        have := k.odd y hy
        unfold nodeP at this
        omega
      rw [ho, List.append_nil]
      unfold rf
      rw [filter_flat]
      have : (List.range 16).flatMap (fun a => (rfl1 a (DL a)).filter fun b => decide (b.n = (i : Int))) = (rfl1 i (DL i)).filter fun b => decide (b.n = (i : Int)) := flat_one (f := fun a => (rfl1 a (DL a)).filter fun b => decide (b.n = (i : Int))) List.nodup_range (List.mem_range.mpr hi) fun b hb hbi => by
        rw [filter_rfl, if_neg (by omega)]
      rw [this, filter_rfl, if_pos rfl]
    rw [h2, h3] at h1
    have h4 := h1.map (·.c)
    unfold flatE rfl1 at h4
    simp only [List.map_map] at h4
    have e1 : ((·.c) ∘ fun c => (⟨(rowF C e).1, c⟩ : Hd)) = id := rfl
    have e2 : ((·.c) ∘ fun c => (⟨(i : Int), c⟩ : Hd)) = id := rfl
    rw [e1, e2, List.map_id, List.map_id] at h4
    exact srt_uniq (((srtC_perm _).trans h4.symm).trans (srtC_perm _).symm) (srtC_sorted _) (srtC_sorted _)
  · rw [tvf_out hx, k.free i hi fun e he hei => hx ⟨e, he, hei⟩]
    rfl
end Camp

/-! CvVw3 -/
namespace Camp
open Go
set_option linter.unusedVariables false
set_option linter.unusedSimpArgs false
set_option maxHeartbeats 2000000
/-- How the numbers of a book stand. -/
structure VN (S : Sb) (i : Nat) : Prop where
  v : 0 ≤ S.v ∧ S.v ≤ S.l
  l : S.l ≤ i
  nx : S.nx ≠ none → S.v < S.l
structure Pw (h : Hp) (S : Sb) (nn pid : Nat) (pp : Nat → Nat) (PV NV : Nat → CV) (PT : Nat → Nat → List Cel) (NT : Nat → List Cel) : Prop where
  sl : Ar (fun x : CV => [x]) 1 h pid 0 [] ((List.range nn).map fun j => CV.ptr (pp j) 0 0 0)
  n16 : nn ≤ 16
  inj : ∀ j j', j < nn → j' < nn → pp j = pp j' → j = j'
  past : ∀ v i, v ≤ 80 → i < 16 → SL h 5 (PV (v * 16 + i)) ((PT v i).map encE)
  plen : ∀ v i, (PT v i).length ≤ 64
  next : ∀ i, i < 16 → SL h 5 (NV i) ((NT i).map encE) ∧ CapL (NV i)
  nlen : ∀ i, (NT i).length ≤ 64
  nsrt : ∀ i, (NT i).Pairwise fun a b => ¬ ltC b a
  nx : ∀ T2 F, S.nx = some (T2, F) → ∀ i, i < 16 → NT i = T2 i
  cur : ∀ i, i < 16 → PT S.v.toNat i = S.T i
  zero : ∀ i, PT 0 i = []
  pl : ∀ j, j < nn → ∃ w c z x Lc Lx, Pl h (pp j) w c z x ∧ SL h 5 c (Lc.map encE) ∧ SL h 5 x (Lx.map encE) ∧ (0 ≤ w ∧ w ≤ S.v) ∧ Lc = PT w.toNat j ∧ (0 ≤ z ∧ z ≤ S.l) ∧ (¬ z = 0 → z = S.l → ∀ T2 F, S.nx = some (T2, F) → Lx = T2 j) ∧ (¬ z = 0 → z = S.v → Lx = PT z.toNat j)
section
variable {h h' : Hp} {S : Sb} {nn pid : Nat} {pp : Nat → Nat} {PV NV : Nat → CV} {PT : Nat → Nat → List Cel} {NT : Nat → List Cel}
theorem notSoft {j z : Nat} {wr : Bool} {cur lw : Nat} {R : List (List CV)} (hz : z ≠ 6) (hg : h.g j = some (.rows wr z cur lw R)) : ¬ soft h j := by
  rintro (⟨R', hR⟩ | ⟨es, c, hR⟩)
  · rw [hg] at hR; injection hR with hR; injection hR with _ hR; exact hz hR
  · rw [hg] at hR; cases hR
theorem Pw.soft {X : Nat → Prop} (k : Pw h S nn pid pp PV NV PT NT) (f : Fm X h h') (hs : ∀ j, X j → soft h j) : Pw h' S nn pid pp PV NV PT NT := by
  refine { k with sl := k.sl.mono f (fun e => ?_), past := fun v i hv hi => (k.past v i hv hi).soft (by omega) f hs, next := fun i hi => ⟨(k.next i hi).1.soft (by omega) f hs, (k.next i hi).2⟩, pl := fun j hj => ?_ }
  · obtain ⟨lw, h1, h2⟩ := k.sl
    exact notSoft (by omega) h2 (hs _ e)
  · obtain ⟨w, c, z, x, Lc, Lx, p1, p2, p3, p4⟩ := k.pl j hj
    have hg : h.g (pp j) = _ := p1
    exact ⟨w, c, z, x, Lc, Lx, f.some hg (fun e => notSoft (by omega) hg (hs _ e)), p2.soft (by omega) f hs, p3.soft (by omega) f hs, p4⟩
theorem Pw.new (k : Pw h S nn pid pp PV NV PT NT) (f : Fn h h') : Pw h' S nn pid pp PV NV PT NT := k.soft f (fun j e => e.elim)
/-- One plan is put anew. -/
theorem Pw.plan (k : Pw h S nn pid pp PV NV PT NT) {j : Nat} (hj : j < nn) (f : Fm (fun y => y = pp j) h h') {w z : Int} {c x : CV} {Lc Lx : List Cel} (hp : Pl h' (pp j) w c z x) (hc : SL h' 5 c (Lc.map encE)) (hx : SL h' 5 x (Lx.map encE))
    (h1 : 0 ≤ w ∧ w ≤ S.v) (h2 : Lc = PT w.toNat j) (h3 : 0 ≤ z ∧ z ≤ S.l) (h4 : ¬ z = 0 → z = S.l → ∀ T2 F, S.nx = some (T2, F) → Lx = T2 j) (h5 : ¬ z = 0 → z = S.v → Lx = PT z.toNat j) : Pw h' S nn pid pp PV NV PT NT := by
  obtain ⟨w0, c0, z0, x0, _, _, p0, _⟩ := k.pl j hj
  have hg : h.g (pp j) = _ := p0
  refine { k with sl := k.sl.mono f (fun e => ?_), past := fun v i hv hi => (k.past v i hv hi).hard (by omega) f hg, next := fun i hi => ⟨(k.next i hi).1.hard (by omega) f hg, (k.next i hi).2⟩, pl := fun j' hj' => ?_ }
  · obtain ⟨lw, q1, q2⟩ := k.sl
    rw [e, hg] at q2
    injection q2 with q2
    injection q2 with _ q2
    omega
  · by_cases e : j' = j
    · subst e
      exact ⟨w, c, z, x, Lc, Lx, hp, hc, hx, h1, h2, h3, h4, h5⟩
    · obtain ⟨w', c', z', x', Lc', Lx', p1, p2, p3, p4⟩ := k.pl j' hj'
      have hg' : h.g (pp j') = _ := p1
      exact ⟨w', c', z', x', Lc', Lx', f.some hg' (fun e' => e (k.inj _ _ hj' hj e')), p2.hard (by omega) f hg, p3.hard (by omega) f hg, p4⟩
theorem PB.plan {b p : Nat} {R : List (List CV)} (k : PB h b S) (f : Fm (fun j => j = p) h h') (hr : h.g p = some (.rows true 4 0 0 R)) : PB h' b S := by
  obtain ⟨c, x, rd, h1, h2, h3⟩ := k
  have hg : h.g b = _ := h1
  refine ⟨c, x, rd, f.some hg (fun e => by rw [e, hr] at hg; injection hg with hg; injection hg with _ hg; omega), h2.hard f hr (by omega), h3.imp_right ?_⟩
  rintro ⟨T2, F, xi, ri, es, clock, e1, e2, e3, e4, e5, e6, e7⟩
  exact ⟨T2, F, xi, ri, es, clock, e1, e2, e3, e4.hard f hr (by omega), f.some e5 (fun e => by rw [e, hr] at e5; cases e5), e6, e7⟩
theorem PB.hardz {b p z : Nat} {wr : Bool} {cur lw : Nat} {R : List (List CV)} (k : PB h b S) (f : Fm (fun j => j = p) h h') (hr : h.g p = some (.rows wr z cur lw R)) (hz : z < 5) : PB h' b S := by
  obtain ⟨c, x, rd, h1, h2, h3⟩ := k
  have hg : h.g b = _ := h1
  have cm : ∀ {c : CV} {n : Nat} {T : Nat → List Cel}, CM h c n T → CM h' c n T := fun {c n T} k => by
    rcases k with k | ⟨id, es, clock, rfl, h1, h2, h3, h4⟩
    · exact .inl k
    · refine .inr ⟨id, es, clock, rfl, f.some h1 (fun e => by rw [e, hr] at h1; cases h1), h2, fun e he => ?_, h4⟩
      obtain ⟨i, u, k1, k2, k3, k4⟩ := h3 e he
      exact ⟨i, u, k1, k2, k3, k4.mono f (k4.notO (by rw [hr]; intro _ _ _ _ e; injection e with e; injection e with _ e; omega))⟩
  refine ⟨c, x, rd, f.some hg (fun e => by rw [e, hr] at hg; injection hg with hg; injection hg with _ hg; omega), cm h2, h3.imp_right ?_⟩
  rintro ⟨T2, F, xi, ri, es, clock, e1, e2, e3, e4, e5, e6, e7⟩
  exact ⟨T2, F, xi, ri, es, clock, e1, e2, e3, cm e4, f.some e5 (fun e => by rw [e, hr] at e5; cases e5), e6, e7⟩
/-- Ready changes nothing of what is told here. -/
theorem Pw.ready (k : Pw h S nn pid pp PV NV PT NT) (i w : Int) : Pw h (readyS S i w).2 nn pid pp PV NV PT NT := by
  unfold readyS
  split
  · exact k
  · rename_i T2 F hn
    split
    · exact k
    · split
      · exact k
      · split
        · exact k
        · refine { k with nx := fun T2' F' e i hi => ?_, pl := fun j hj => ?_ }
          · injection e with e
            injection e with e1 e2
            subst e1
            exact k.nx _ _ hn i hi
          · obtain ⟨w', c', z', x', Lc', Lx', p1, p2, p3, p4, p5, p6, p7, p8⟩ := k.pl j hj
            exact ⟨w', c', z', x', Lc', Lx', p1, p2, p3, p4, p5, p6, fun h1 h2 T2' F' e => by
              injection e with e
              injection e with e1 e2
              subst e1
              exact p7 h1 h2 _ _ hn, p8⟩
theorem VN.ready {i : Nat} (k : VN S i) (a w : Int) : VN (readyS S a w).2 i := by
  unfold readyS
  split
  · exact k
  · rename_i T2 F hn
    have := k.nx (by rw [hn]; simp)
    split
    · exact k
    · split
      · exact k
      · split
        · exact k
        · exact ⟨k.v, k.l, fun _ => this⟩
theorem ready_n (S : Sb) (a w : Int) : (readyS S a w).2.n = S.n := by
  unfold readyS
  split
  · rfl
  · split
    · rfl
    · split
      · rfl
      · split <;> rfl
theorem ready_nx (S : Sb) (a w : Int) : (readyS S a w).2.nx.isSome = S.nx.isSome ∧ (readyS S a w).2.l = S.l := by
  unfold readyS
  split
  · rename_i hn
    exact ⟨rfl, rfl⟩
  · rename_i T2 F hn
    split
    · exact ⟨rfl, rfl⟩
    · split
      · exact ⟨rfl, rfl⟩
      · split
        · exact ⟨rfl, rfl⟩
        · exact ⟨by rw [hn]; rfl, rfl⟩
theorem Pw.abort (k : Pw h S nn pid pp PV NV PT NT) : Pw h { S with nx := none } nn pid pp PV NV PT NT := by
  refine { k with nx := fun _ _ e => (by cases e), pl := fun j hj => ?_ }
  obtain ⟨w', c', z', x', Lc', Lx', p1, p2, p3, p4, p5, p6, p7, p8⟩ := k.pl j hj
  exact ⟨w', c', z', x', Lc', Lx', p1, p2, p3, p4, p5, p6, fun _ _ _ _ e => (by cases e), p8⟩
/-- What has begun counts. -/
theorem Pw.commit (k : Pw h S nn pid pp PV NV PT NT) {i : Nat} (hN : VN S i) {T2 : Nat → List Cel} {F : Nat → Bool} (hn : S.nx = some (T2, F)) (hl : S.l ≤ 80) :
    Pw h { S with v := S.l, T := T2, nx := none } nn pid pp (fun y => if S.l.toNat * 16 ≤ y ∧ y < S.l.toNat * 16 + 16 then NV (y - S.l.toNat * 16) else PV y) NV (fun v j => if v = S.l.toNat then (if j < 16 then NT j else []) else PT v j) NT := by
  have hv := hN.v
  have hvl := hN.nx (by rw [hn]; simp)
  refine { k with past := fun v j hvv hj => ?_, plen := fun v j => ?_, nx := fun _ _ e => (by cases e), cur := fun j hj => ?_, zero := fun j => ?_, pl := fun j hj => ?_ }
  · by_cases e : v = S.l.toNat
    · simp only [if_pos e, if_pos hj]
      rw [if_pos (by omega), show v * 16 + j - S.l.toNat * 16 = j by omega]
      exact (k.next j hj).1
    · simp only [if_neg e]
      rw [if_neg (by omega)]
      exact k.past v j hvv hj
  · by_cases e : v = S.l.toNat
    · simp only [if_pos e]
      split
      · exact k.nlen j
      · simp
    · simp only [if_neg e]
      exact k.plen v j
  · simp only [if_true, if_pos hj]
    exact k.nx _ _ hn j hj
  · rw [if_neg (by omega)]
    exact k.zero j
  · obtain ⟨w', c', z', x', Lc', Lx', p1, p2, p3, p4, p5, p6, p7, p8⟩ := k.pl j hj
    refine ⟨w', c', z', x', Lc', Lx', p1, p2, p3, ⟨p4.1, by show w' ≤ S.l; omega⟩, by rw [if_neg (by omega)]; exact p5, p6, fun _ _ _ _ e => (by cases e), fun q1 q2 => ?_⟩
    have q2 : z' = S.l := q2
    have := p7 q1 q2 _ _ hn
    have hn16 := k.n16
    rw [q2, if_pos rfl, if_pos (by omega), k.nx _ _ hn j (by omega)]
    exact this
/-- A call's rows are none of the plans. -/
theorem Vcs.plan {v : CV} {L : List Vc} {p n0 : Nat} {R : List (List CV)} (k : Vcs h v L) (f : Fm (fun j => j = p) h h') (hr : h.g p = some (.rows true 4 0 0 R)) (ho : ∀ id tok off len cap, v = .sl id tok off len cap → id < n0) (hp : n0 ≤ p) : Vcs h' v L :=
  ⟨k.sl.mono f (fun id tok off len cap e q => by have := ho _ _ _ _ _ e; omega), fun x hx => ⟨⟨(k.c x hx).1.sl.hard (by omega) f hr, fun y hy => ⟨((k.c x hx).1.cells y hy).1.hard (by omega) f hr, ((k.c x hx).1.cells y hy).2⟩⟩, (k.c x hx).2⟩⟩
/-- What has begun. -/
theorem Pw.begin (k : Pw h S nn pid pp PV NV PT NT) {T2 : Nat → List Cel} {F : Nat → Bool} {NV' : Nat → CV} (hn : ∀ i, i < 16 → SL h 5 (NV' i) ((T2 i).map encE) ∧ CapL (NV' i)) (hl : ∀ i, (T2 i).length ≤ 64) (hst : ∀ i, (T2 i).Pairwise fun a b => ¬ ltC b a) (hv : S.v ≤ S.l) :
    Pw h { S with l := S.l + 1, nx := some (T2, F) } nn pid pp PV NV' PT T2 := by
  refine { k with next := hn, nlen := hl, nsrt := hst, nx := fun T2' F' e i hi => ?_, pl := fun j hj => ?_ }
  · injection e with e
    injection e with e1 e2
    rw [e1]
  · obtain ⟨w', c', z', x', Lc', Lx', p1, p2, p3, p4, p5, p6, p7, p8⟩ := k.pl j hj
    exact ⟨w', c', z', x', Lc', Lx', p1, p2, p3, p4, p5, ⟨p6.1, by show z' ≤ S.l + 1; omega⟩, fun _ q _ _ _ => by have q : z' = S.l + 1 := q; omega, p8⟩
theorem VN.commit {i : Nat} (k : VN S i) : VN (commitS S).2 i := by
  unfold commitS
  split
  · exact k
  · split
    · have := k.v
      exact ⟨⟨by show 0 ≤ S.l; omega, Int.le_refl _⟩, k.l, fun e => absurd rfl e⟩
    · exact k
theorem VN.abort {i : Nat} (k : VN S i) : VN (abortS S).2 i := by
  unfold abortS
  split
  · exact k
  · exact ⟨k.v, k.l, fun e => absurd rfl e⟩
theorem VN.up {i : Nat} (k : VN S i) : VN S (i + 1) := ⟨k.v, by have := k.l; omega, k.nx⟩
end
end Camp

/-! CvVw4 -/
namespace Camp
open Go
set_option linter.unusedVariables false
set_option linter.unusedSimpArgs false
set_option maxHeartbeats 4000000
section
variable {k : Nat} {h : Hp} {P : AV → Hp → Prop}
def V2K (h : Hp) (b nd pid : Nat) (v : CV) (n0 : Int) (m : Nat) (s : St) : Prop :=
  ∃ (i : Nat) (pp : Nat → Nat) (h' : Hp) (l : List (Nat × TV)), s = ST 215 l [] h' ∧ i ≤ nd ∧ m = nd - i ∧ Fn h h' ∧ Ar (fun x : CV => [x]) 1 h' pid 0 [] ((List.range nd).map fun j => if j < i then CV.ptr (pp j) 0 0 0 else .nilp) ∧ (∀ j, j < i → Pl h' (pp j) 0 .nils 0 .nils) ∧ (∀ j j', j < i → j' < i → pp j = pp j' → j = j') ∧ (∀ j, j < i → h.n ≤ pp j) ∧ PB h' b ⟨nd, 0, 0, fun _ => [], none⟩ ∧
    lk l 0 = .v (.c (.int .i64 nd)) ∧ lk l 1 = .v (.c v) ∧ lk l 5 = .v (.c (.ptr b 0 0 0)) ∧ lk l 6 = .v (.c (.sl pid 0 0 nd (some nd))) ∧ lk l 37 = .v (.c (.int .i64 nd)) ∧ lk l 38 = .v (.c (.int .i64 i))
def V2L (h : Hp) (b nd pid : Nat) (v : CV) (L : List Vc) (l : List (Nat × TV)) (i : Nat) : Prop :=
  lk l 0 = .v (.c (.int .i64 nd)) ∧ lk l 5 = .v (.c (.ptr b 0 0 0)) ∧ lk l 6 = .v (.c (.sl pid 0 0 nd (some nd))) ∧ lk l 8 = .lp 0 0 ∧ lk l 10 = .lp 1 0 ∧ lk l 46 = .v (.c v) ∧ lk l 47 = .v (.c (.int .i64 L.length)) ∧ lk l 48 = .v (.c (.int .i64 i))
def bgn (S : Sb) : Int := if S.nx.isSome then S.l else 0
def V2I (h : Hp) (b nd pid : Nat) (v : CV) (L : List Vc) (m : Nat) (s : St) : Prop :=
  ∃ (i : Nat) (S : Sb) (pp : Nat → Nat) (PV NV : Nat → CV) (PT : Nat → Nat → List Cel) (NT : Nat → List Cel) (h' : Hp) (l : List (Nat × TV)), s = ST 215 l [mr 1296 PV, mr 16 NV] h' ∧ i ≤ L.length ∧ m = L.length - i ∧ WS S ∧ VN S i ∧ S.n = nd ∧ PB h' b S ∧ Pw h' S nd pid pp PV NV PT NT ∧ Vcs h' v L ∧ (∀ y, y < nd → h.n ≤ pp y) ∧
    V2L h b nd pid v L l i ∧ lk l 9 = .v (.c (.int .i64 (bgn S)))
theorem u64_t (n m : Int) (h : 0 < m) : 0 ≤ (IntKind.wrap .u64 n).tmod m ∧ (IntKind.wrap .u64 n).tmod m < m := by
  have : 0 ≤ IntKind.wrap .u64 n := by
    simp [IntKind.wrap, IntKind.bits, IntKind.signed]
    omega
  exact ⟨Int.tmod_nonneg _ this, Int.tmod_lt_of_pos _ h⟩
theorem SL.old4 {h : Hp} {sz : Nat} {v : CV} {rows : List (List CV)} (hl : SL h sz v rows) : ∀ id tok off len cap, v = .sl id tok off len cap → id < h.n := by
  rintro id tok off len cap rfl
  obtain ⟨wr, cur, lw, rs, h3, _⟩ := hl
  exact lt_of_g h3
theorem tvf_sorted (F : ME → Int × List Cel) (V : List ME) (i : Nat) : (tvf F V i).Pairwise fun a b => ¬ ltC b a := by
  unfold tvf
  split
  · exact srtC_sorted _
  · exact List.Pairwise.nil
theorem bnew3_ok {m : Int} (hP : ∀ h' b, Bk h' b (max 1 (min m 16)) 0 0 .nilm .nilm .nilm → Fn h h' → h.n ≤ b → P (.c (.ptr b 0 0 0)) h') : callW N (k + 1) 131 [.c (.int .i64 m)] h P := by
  refine call_intro rfl (by simp only [List.length_cons, List.length_nil]; omega) ?_
  simp (maxSteps := 200000) -implicitDefEqProofs only [KA, KB, KC, KD, KE, KF, eq_self, ne_eq, ↓reduceIte, Nat.reduceLT, Nat.reduceEqDiff, Nat.reduceAdd, Nat.reduceLeDiff, Nat.reduceSub, Nat.reduceMul, reduceCtorEq]
  refine hP _ h.n ?_ (Fm.push _ _ _) (Nat.le_refl _)
  unfold Bk
  rw [g_push_eq]
open Classical in
theorem begin_cases (S : Sb) (F : ME → Int × List Cel) (es : List ME) : (¬ (beginS S F es).1.2 = 0 ∧ (beginS S F es).2 = S) ∨ (1000000 ≤ S.l ∧ (beginS S F es).2 = S) ∨ (S.nx = none ∧ (∀ e ∈ es, okRow S.n (F e)) ∧ cleanP (flatM F es) ∧ beginS S F es = ((S.l + 1, 0), { S with l := S.l + 1, nx := some (tvf F es, fun _ => false) })) := by
  unfold beginS
  split
  · exact .inl ⟨(show ¬ (7 : Int) = 0 by decide), rfl⟩
  · rename_i hn
    split
    · exact .inl ⟨(show ¬ (1 : Int) = 0 by decide), rfl⟩
    · rename_i c1
      split
      · exact .inl ⟨(show ¬ (9 : Int) = 0 by decide), rfl⟩
      · rename_i c2
        split
        · rename_i c3
          exact .inr (.inl ⟨c3, rfl⟩)
        · exact .inr (.inr ⟨hn, Classical.not_not.mp c1, Classical.not_not.mp c2, rfl⟩)
def V2D (h : Hp) (b nd pid : Nat) (v : CV) (L : List Vc) (i : Nat) (pp : Nat → Nat) (m : Nat) (s : St) : Prop :=
  ∃ (j : Nat) (S : Sb) (PV NV : Nat → CV) (PT : Nat → Nat → List Cel) (NT : Nat → List Cel) (h' : Hp) (l : List (Nat × TV)), s = ST 215 l [mr 1296 PV, mr 16 NV] h' ∧ j ≤ nd ∧ m = nd - j ∧ WS S ∧ VN S (i + 1) ∧ S.n = nd ∧ PB h' b S ∧ Pw h' S nd pid pp PV NV PT NT ∧ Vcs h' v L ∧ V2L h b nd pid v L l i ∧ lk l 9 = .v (.c (.int .i64 (bgn S))) ∧
    lk l 151 = .v (.c (.sl pid 0 0 nd (some nd))) ∧ lk l 152 = .v (.c (.int .i64 nd)) ∧ lk l 153 = .v (.c (.int .i64 j))
/-- What is looked at behind each call. -/
theorem check_ok {b i pid j : Nat} {v : CV} {L : List Vc} {pp : Nat → Nat} {S : Sb} {PV NV : Nat → CV} {PT : Nat → Nat → List Cel} {NT : Nat → List Cel} {h0 h1 : Hp} {l : List (Nat × TV)} {Q : Ex → St → Prop} (hj80 : j + 1 ≤ 80) (hi6 : i ≤ 6)
    (hS : WS S) (hN : VN S (j + 1)) (hn : S.n = i) (hB : PB h1 b S) (hW : Pw h1 S i pid pp PV NV PT NT) (hV1 : Vcs h1 v L) (hl : V2L h0 b i pid v L l j) (h9 : lk l 9 = .v (.c (.int .i64 (bgn S)))) (h151 : lk l 151 = .v (.c (.sl pid 0 0 i (some i)))) (h152 : lk l 152 = .v (.c (.int .i64 i))) (h153 : lk l 153 = .v (.c (.int .i64 0)))
    (hQ : ∀ (S : Sb) (PV NV : Nat → CV) (PT : Nat → Nat → List Cel) (NT : Nat → List Cel) (h' : Hp) (l' : List (Nat × TV)), WS S → VN S (j + 1) → S.n = i → PB h' b S → Pw h' S i pid pp PV NV PT NT → Vcs h' v L → V2L h0 b i pid v L l' j → lk l' 9 = .v (.c (.int .i64 (bgn S))) → Q .normal (ST 215 l' [mr 1296 PV, mr 16 NV] h')) :
    awp (callW N (k + 199)) n230k7 (ST 215 l [mr 1296 PV, mr 16 NV] h1) Q := by
  unfold n230k7
  simp (maxSteps := 200000) -implicitDefEqProofs only [KA, KB, KC, KD, KE, KF, eq_self, ne_eq, ↓reduceIte, Nat.reduceLT, Nat.reduceEqDiff, Nat.reduceAdd, Nat.reduceLeDiff, Nat.reduceSub, Nat.reduceMul, reduceCtorEq]
  refine loop_rd (callW_mono N _) (V2D h0 b i pid v L j pp) (n := i) ⟨0, S, PV, NV, PT, NT, h1, l, rfl, Nat.zero_le _, rfl, hS, hN, hn, hB, hW, hV1, hl, h9, h151, h152, h153⟩ ?_
  rintro q3 s ⟨t, S6, PV6, NV6, PT6, NT6, h6, l, rfl, ht, hq3, hS6, hN6, hn6, hB6, hW6, f6, ⟨e0, e5, e6, e8, e10, e46, e47, e48⟩, e9, e151, e152, e153⟩
  by_cases hlt4 : (t : Int) < (i : Int)
  · have hti : t < i := by omega
    have hwt := wrap_i64 (n := (t : Int) + 1) (by omega)
    have hv6 := hN6.v
    have hl6 := hN6.l
    obtain ⟨wt, cw', zw', xw', Lc', Lx', s1, s2, s3, s4, s5, _⟩ := hW6.pl t hti
    obtain ⟨wn, rfl⟩ : ∃ wn : Nat, wt = wn := ⟨wt.toNat, by omega⟩
    rw [Int.toNat_natCast] at s5
    subst s5
    have pa := hW6.sl.adr (n := i) (m := t) hti (some i)
    have pr := hW6.sl.row (m := t) (x := .ptr (pp t) 0 0 0) (by rw [List.getElem?_map, List.getElem?_range hti]; rfl)
    have ia := iaA_l (n := 81) (sz := 16) (b := 0) (off := 0) (i := (wn : Int)) (by omega)
    have ib := iaA_l (n := 16) (sz := 1) (b := 0) (off := 0 + wn * 16) (i := (t : Int)) (by omega)
    rw [Int.toNat_natCast] at ia ib
    rw [Nat.zero_add] at ia ib
    obtain ⟨vn, hvn⟩ : ∃ vn : Nat, S6.v = vn := ⟨S6.v.toNat, by omega⟩
    have ic := iaA_l (n := 81) (sz := 16) (b := 0) (off := 0) (i := (vn : Int)) (by omega)
    have id' := iaA_l (n := 16) (sz := 1) (b := 0) (off := 0 + vn * 16) (i := (t : Int)) (by omega)
    rw [Int.toNat_natCast] at ic id'
    rw [Nat.zero_add] at ic id'
    have g1 : (mr 1296 PV6)[wn * 16 + t * 1]? = some (PV6 (wn * 16 + t)) := by rw [Nat.mul_one]; exact mr_get (by omega)
    have g2 : (mr 1296 PV6)[vn * 16 + t * 1]? = some (PV6 (vn * 16 + t)) := by rw [Nat.mul_one]; exact mr_get (by omega)
    have k1 : ¬ (wn : Int) < 0 := by omega
    have k2 : ¬ (vn : Int) < (wn : Int) := by omega
    have k3 : ¬ (80 : Int) < (wn : Int) := by omega
    obtain ⟨cc, xx, rdd, bb6, cm6, _⟩ := id hB6
    rw [hvn] at bb6
    have hcur := hW6.cur t (by omega)
    rw [hvn, Int.toNat_natCast] at hcur
    simp (maxSteps := 200000) -implicitDefEqProofs only [KA, KB, KC, KD, KE, KF, eq_self, ne_eq, ↓reduceIte, Nat.reduceLT, Nat.reduceEqDiff, Nat.reduceAdd, Nat.reduceLeDiff, Nat.reduceSub, Nat.reduceMul, reduceCtorEq, e0, e5, e6, e8, e9, e10, e46, e47, e48, e151, e152, e153, hlt4, pa, pr]
    refine pver_ok (k := k + 198) s1 ?_
    simp (maxSteps := 200000) -implicitDefEqProofs only [KA, KB, KC, KD, KE, KF, eq_self, ne_eq, ↓reduceIte, Nat.reduceLT, Nat.reduceEqDiff, Nat.reduceAdd, Nat.reduceLeDiff, Nat.reduceSub, Nat.reduceMul, reduceCtorEq, k1]
    refine version_ok (k := k + 198) bb6 ?_
    have fnl : ∀ (h7 : Hp), Fn h6 h7 → Vcs h7 v L := fun h7 f => f6.new f
    by_cases k4 : (0 : Int) < (wn : Int)
    · have k5 : ¬ (wn : Int) = 0 := by omega
      simp (maxSteps := 200000) -implicitDefEqProofs only [KA, KB, KC, KD, KE, KF, eq_self, ne_eq, ↓reduceIte, Nat.reduceLT, Nat.reduceEqDiff, Nat.reduceAdd, Nat.reduceLeDiff, Nat.reduceSub, Nat.reduceMul, reduceCtorEq, k2, k3, k4, ia, ib, g1]
      refine pcells_ok (k := k + 197) s1 s2 (hW6.plen _ _) fun h7 u hu f7 => ?_
      simp (maxSteps := 200000) -implicitDefEqProofs only [KA, KB, KC, KD, KE, KF, eq_self, ne_eq, ↓reduceIte, Nat.reduceLT, Nat.reduceEqDiff, Nat.reduceAdd, Nat.reduceLeDiff, Nat.reduceSub, Nat.reduceMul, reduceCtorEq, ia, ib, g1]
      refine samec_ok (k := k + 198) hu ((hW6.past wn t (by omega) (by omega)).new f7) (by have := hW6.plen wn t; omega) ?_
      simp (maxSteps := 200000) -implicitDefEqProofs only [KA, KB, KC, KD, KE, KF, eq_self, ne_eq, ↓reduceIte, Nat.reduceLT, Nat.reduceEqDiff, Nat.reduceAdd, Nat.reduceLeDiff, Nat.reduceSub, Nat.reduceMul, reduceCtorEq, k5]
      refine bcells_ok (k := k + 197) (f7.some (show h6.g b = _ from bb6) (fun e => e)) (cm6.new f7) hS6.t fun h8 u2 hu2 f8 => ?_
      rw [if_pos (by omega), Int.toNat_natCast, ← hcur] at hu2
      simp (maxSteps := 200000) -implicitDefEqProofs only [KA, KB, KC, KD, KE, KF, eq_self, ne_eq, ↓reduceIte, Nat.reduceLT, Nat.reduceEqDiff, Nat.reduceAdd, Nat.reduceLeDiff, Nat.reduceSub, Nat.reduceMul, reduceCtorEq]
      refine version_ok (k := k + 198) ((f7.trans f8).some (show h6.g b = _ from bb6) (fun e => e)) ?_
      simp (maxSteps := 200000) -implicitDefEqProofs only [KA, KB, KC, KD, KE, KF, eq_self, ne_eq, ↓reduceIte, Nat.reduceLT, Nat.reduceEqDiff, Nat.reduceAdd, Nat.reduceLeDiff, Nat.reduceSub, Nat.reduceMul, reduceCtorEq, ic, id', g2]
      refine samec_ok (k := k + 198) hu2 ((hW6.past vn t (by omega) (by omega)).new (f7.trans f8)) (by have := hW6.plen vn t; omega) ?_
      simp (maxSteps := 200000) -implicitDefEqProofs only [KA, KB, KC, KD, KE, KF, eq_self, ne_eq, ↓reduceIte, Nat.reduceLT, Nat.reduceEqDiff, Nat.reduceAdd, Nat.reduceLeDiff, Nat.reduceSub, Nat.reduceMul, reduceCtorEq, hwt, rd_n]
      exact ⟨q3 - 1, by omega, t + 1, S6, PV6, NV6, PT6, NT6, h8, _, rfl, by omega, by omega, hS6, hN6, hn6, (hB6.new f7).new f8, (hW6.new f7).new f8, fnl _ (f7.trans f8), ⟨rfl, rfl, rfl, rfl, rfl, rfl, rfl, rfl⟩, rfl, rfl, rfl, rfl⟩
    · have k5 : decide ((wn : Int) = 0) = true := by simp; omega
      have hw0 : wn = 0 := by omega
      have k6 : ¬ (0 : Int) < 0 := by omega
      simp (maxSteps := 200000) -implicitDefEqProofs only [KA, KB, KC, KD, KE, KF, eq_self, ne_eq, ↓reduceIte, Nat.reduceLT, Nat.reduceEqDiff, Nat.reduceAdd, Nat.reduceLeDiff, Nat.reduceSub, Nat.reduceMul, reduceCtorEq, k2, k3, k4, k5]
      refine pcells_ok (k := k + 197) s1 s2 (hW6.plen _ _) fun h7 u hu f7 => ?_
      have hu0 : ∀ h' : Hp, lenT h' .sl (.v (.c u)) = some 0 := fun h' => by
        rw [hu.len h', List.length_map, hw0, hW6.zero]
        rfl
      simp (maxSteps := 200000) -implicitDefEqProofs only [KA, KB, KC, KD, KE, KF, eq_self, ne_eq, ↓reduceIte, Nat.reduceLT, Nat.reduceEqDiff, Nat.reduceAdd, Nat.reduceLeDiff, Nat.reduceSub, Nat.reduceMul, reduceCtorEq, hu0, k6]
      refine bcells_ok (k := k + 197) (f7.some (show h6.g b = _ from bb6) (fun e => e)) (cm6.new f7) hS6.t fun h8 u2 hu2 f8 => ?_
      rw [if_pos (by omega), Int.toNat_natCast, ← hcur] at hu2
      simp (maxSteps := 200000) -implicitDefEqProofs only [KA, KB, KC, KD, KE, KF, eq_self, ne_eq, ↓reduceIte, Nat.reduceLT, Nat.reduceEqDiff, Nat.reduceAdd, Nat.reduceLeDiff, Nat.reduceSub, Nat.reduceMul, reduceCtorEq]
      refine version_ok (k := k + 198) ((f7.trans f8).some (show h6.g b = _ from bb6) (fun e => e)) ?_
      simp (maxSteps := 200000) -implicitDefEqProofs only [KA, KB, KC, KD, KE, KF, eq_self, ne_eq, ↓reduceIte, Nat.reduceLT, Nat.reduceEqDiff, Nat.reduceAdd, Nat.reduceLeDiff, Nat.reduceSub, Nat.reduceMul, reduceCtorEq, ic, id', g2]
      refine samec_ok (k := k + 198) hu2 ((hW6.past vn t (by omega) (by omega)).new (f7.trans f8)) (by have := hW6.plen vn t; omega) ?_
      simp (maxSteps := 200000) -implicitDefEqProofs only [KA, KB, KC, KD, KE, KF, eq_self, ne_eq, ↓reduceIte, Nat.reduceLT, Nat.reduceEqDiff, Nat.reduceAdd, Nat.reduceLeDiff, Nat.reduceSub, Nat.reduceMul, reduceCtorEq, hwt, rd_n]
      exact ⟨q3 - 1, by omega, t + 1, S6, PV6, NV6, PT6, NT6, h8, _, rfl, by omega, by omega, hS6, hN6, hn6, (hB6.new f7).new f8, (hW6.new f7).new f8, fnl _ (f7.trans f8), ⟨rfl, rfl, rfl, rfl, rfl, rfl, rfl, rfl⟩, rfl, rfl, rfl, rfl⟩
  · simp (maxSteps := 200000) -implicitDefEqProofs only [KA, KB, KC, KD, KE, KF, eq_self, ne_eq, ↓reduceIte, Nat.reduceLT, Nat.reduceEqDiff, Nat.reduceAdd, Nat.reduceLeDiff, Nat.reduceSub, Nat.reduceMul, reduceCtorEq, e0, e5, e6, e8, e9, e10, e46, e47, e48, e151, e152, e153, hlt4]
    exact hQ S6 PV6 NV6 PT6 NT6 h6 _ hS6 hN6 hn6 hB6 hW6 f6 ⟨rfl, rfl, rfl, rfl, rfl, rfl, rfl, rfl⟩ rfl

set_option maxRecDepth 100000 in
theorem versionTwo_ok {n0 : Int} {v : CV} {L : List Vc} (hV : Vcs h v L) (hC : ∀ x ∈ L, x.C.length ≤ 1048576) (hP : ∀ h', P (.c (.bool true)) h') : callW N (k + 200) 230 [.c (.int .i64 n0), .c v] h P := by
  refine call_intro rfl (by simp only [List.length_cons, List.length_nil]; omega) ?_
  simp (maxSteps := 200000) -implicitDefEqProofs only [KA, KB, KC, KD, KE, KF, eq_self, ne_eq, ↓reduceIte, Nat.reduceLT, Nat.reduceEqDiff, Nat.reduceAdd, Nat.reduceLeDiff, Nat.reduceSub, Nat.reduceMul, reduceCtorEq]
  refine few80_ok (k := k + 198) hV fun z hz => ?_
  cases z with
  | false =>
    simp (maxSteps := 200000) -implicitDefEqProofs only [KA, KB, KC, KD, KE, KF, eq_self, ne_eq, ↓reduceIte, Nat.reduceLT, Nat.reduceEqDiff, Nat.reduceAdd, Nat.reduceLeDiff, Nat.reduceSub, Nat.reduceMul, reduceCtorEq]
    refine awakeV2_ok (k := k + 198) ?_
    simp (maxSteps := 200000) -implicitDefEqProofs only [KA, KB, KC, KD, KE, KF, eq_self, ne_eq, ↓reduceIte, Nat.reduceLT, Nat.reduceEqDiff, Nat.reduceAdd, Nat.reduceLeDiff, Nat.reduceSub, Nat.reduceMul, reduceCtorEq]
    exact hP _
  | true =>
    have hL80 := hz rfl
    obtain ⟨m, hm, hm1, hm2⟩ : ∃ x', (IntKind.wrap .u64 n0).tmod 6 = x' ∧ 0 ≤ x' ∧ x' < 6 := ⟨_, rfl, u64_t _ _ (by omega)⟩
    have w1 := wrap_i64 (n := m) (by omega)
    have z6 : ¬ ((6 : Int) = 0) := by decide
    obtain ⟨nd, hnd⟩ : ∃ nd : Nat, 1 + m = (nd : Int) := ⟨(1 + m).toNat, by omega⟩
    have w2 := wrap_i64 (n := (nd : Int)) (by omega)
    have hn1 : 1 ≤ nd ∧ nd ≤ 6 := by omega
    simp (maxSteps := 200000) -implicitDefEqProofs only [KA, KB, KC, KD, KE, KF, eq_self, ne_eq, ↓reduceIte, Nat.reduceLT, Nat.reduceEqDiff, Nat.reduceAdd, Nat.reduceLeDiff, Nat.reduceSub, Nat.reduceMul, reduceCtorEq, hm, w1, w2, z6, hnd]
    refine bnew3_ok (k := k + 198) fun h1 b hb f1 hbh => ?_
    rw [show max 1 (min (nd : Int) 16) = (nd : Int) by omega] at hb
    have y1 : (0 : Int) ≤ (nd : Int) := by omega
    have y2 : (nd : Int) * ((8 : Nat) : Int) ≤ 70368744177664 := by omega
    have y3 : (nd : Int) ≤ 70368744177664 := by omega
    have y4 : (nd : Int) ≤ (nd : Int) := Int.le_refl _
    obtain ⟨h2, e2⟩ : ∃ h2, h2 = h1.push (.rows true 1 0 0 (List.replicate nd [.nilp])) := ⟨_, rfl⟩
    have f2 : Fn h1 h2 := by rw [e2]; exact Fm.push _ _ _
    have hA : Ar (fun x : CV => [x]) 1 h2 h1.n 0 [] ((List.range nd).map fun j => if j < 0 then CV.ptr 0 0 0 0 else .nilp) := by
      refine ⟨0, Nat.le_refl _, ?_⟩
      rw [e2, g_push_eq]
      congr 2
      rw [List.append_nil, List.map_map]
      apply List.ext_getElem?
      intro j
      rw [List.getElem?_map]
      by_cases hj : j < nd
      · rw [List.getElem?_replicate, if_pos hj, List.getElem?_range hj]
        rfl
      · rw [List.getElem?_replicate, if_neg hj, List.getElem?_eq_none (by simp; omega)]
        rfl
    have hf2 := e2.symm
    have tn : ((nd : Int)).toNat = nd := Int.toNat_natCast nd
    have hlp : ∀ h' : Hp, lenT h' .sl (.v (.c (.sl h1.n 0 0 nd (some nd)))) = some (nd : Int) := fun h' => rfl
    simp (maxSteps := 200000) -implicitDefEqProofs only [KA, KB, KC, KD, KE, KF, eq_self, ne_eq, ↓reduceIte, Nat.reduceLT, Nat.reduceEqDiff, Nat.reduceAdd, Nat.reduceLeDiff, Nat.reduceSub, Nat.reduceMul, reduceCtorEq, y1, y2, y3, y4, tn, hf2, hlp]
    have hB1 : PB h1 b ⟨nd, 0, 0, fun _ => [], none⟩ := ⟨.nilm, .nilm, .nilm, hb, .inl ⟨rfl, fun _ => rfl⟩, .inl ⟨rfl, rfl⟩⟩
    refine loop_rd (callW_mono N _) (V2K h b nd h1.n v n0) (n := nd) ⟨0, fun _ => 0, h2, _, rfl, by omega, rfl, f1.trans f2, hA, by simp, by simp, by simp, hB1.new f2, rfl, rfl, rfl, rfl, rfl, rfl⟩ ?_
    have hp0 : h.n ≤ h1.n := f1.n
    clear hA hf2 e2 f2 hB1 hlp hb f1
    generalize h1.n = pid at *
    clear h1 h2
    rintro q s ⟨i, pp, h1, l, rfl, hi, hq, f1, hA, hpl, hinj, hlo, hB, e0, e1, e5, e6, e37, e38⟩
    by_cases hlt : (i : Int) < (nd : Int)
    · have hwi := wrap_i64 (n := (i : Int) + 1) (by omega)
      simp (maxSteps := 200000) -implicitDefEqProofs only [KA, KB, KC, KD, KE, KF, eq_self, ne_eq, ↓reduceIte, Nat.reduceLT, Nat.reduceEqDiff, Nat.reduceAdd, Nat.reduceLeDiff, Nat.reduceSub, Nat.reduceMul, reduceCtorEq, e0, e1, e5, e6, e37, e38, hlt]
      refine pnew_ok (k := k + 198) fun h2 p hp f2 hpn => ?_
      have hA2 := hA.mono f2 (fun e => e)
      have a1 := hA2.adr (n := nd) (m := i) (by omega) (some nd)
      obtain ⟨h3, s1, s2, f3, n3⟩ := hA2.put (fun _ => rfl) (m := i) (by simp; omega) (.ptr p 0 0 0)
      obtain ⟨lw, q1, q2⟩ := hA2
      have hpg : h2.g p = _ := hp
      have hppid : p ≠ pid := fun e => by
        rw [e, q2] at hpg
        injection hpg with hpg
        injection hpg with _ hpg
        omega
      simp (maxSteps := 200000) -implicitDefEqProofs only [KA, KB, KC, KD, KE, KF, eq_self, ne_eq, ↓reduceIte, Nat.reduceLT, Nat.reduceEqDiff, Nat.reduceAdd, Nat.reduceLeDiff, Nat.reduceSub, Nat.reduceMul, reduceCtorEq, a1, s1, hwi, rd_n]
      refine ⟨q - 1, by omega, i + 1, fun j => if j = i then p else pp j, h3, _, rfl, by omega, by omega, (f1.trans f2).fresh f3 (fun j hj => by omega), ?_, fun j hj => ?_, fun j j' hj hj' e => ?_, fun j hj => ?_, (hB.new f2).hardz f3 q2 (by omega), rfl, rfl, rfl, rfl, rfl, rfl⟩
      · have : ((List.range nd).map fun j => if j < i then CV.ptr (pp j) 0 0 0 else .nilp).set i (.ptr p 0 0 0) = (List.range nd).map fun j => if j < i + 1 then CV.ptr (if j = i then p else pp j) 0 0 0 else .nilp := by
          apply List.ext_getElem?
          intro j
          rw [List.getElem?_set, List.getElem?_map, List.getElem?_map]
          by_cases hj : j < nd
          · rw [List.getElem?_range hj]
            by_cases e : i = j
            · subst e
              simp [hj]
            · rw [if_neg e, Option.map_some, Option.map_some]
              by_cases e2 : j < i
              · rw [if_pos e2, if_pos (by omega), if_neg (fun e' => e e'.symm)]
              · rw [if_neg e2, if_neg (by omega)]
          · rw [List.getElem?_eq_none (l := List.range nd) (by simp; omega), if_neg (by omega)]
            rfl
        rw [← this]
        exact s2
      · show Pl h3 (if j = i then p else pp j) _ _ _ _
        by_cases e : j = i
        · rw [if_pos e]
          exact f3.some hpg hppid
        · rw [if_neg e]
          have hj0 : h1.g (pp j) = _ := hpl j (by omega)
          have hj2 := f2.some hj0 (fun e => e)
          exact f3.some hj2 (fun e' => by
            rw [e', q2] at hj2
            injection hj2 with hj2
            injection hj2 with _ hj2
            omega)
      · have e : (if j = i then p else pp j) = if j' = i then p else pp j' := e
        have lt : ∀ j, j < i → pp j < h1.n := fun j hj => lt_of_g (show h1.g (pp j) = _ from hpl j hj)
        by_cases c1 : j = i
        · by_cases c2 : j' = i
          · omega
          · rw [if_pos c1, if_neg c2] at e
            have := lt j' (by omega)
            omega
        · by_cases c2 : j' = i
          · rw [if_neg c1, if_pos c2] at e
            have := lt j (by omega)
            omega
          · rw [if_neg c1, if_neg c2] at e
            exact hinj j j' (by omega) (by omega) e
      · show h.n ≤ if j = i then p else pp j
        have := f1.n
        split
        · omega
        · exact hlo j (by omega)
    · have : i = nd := by omega
      subst this
      have hlen : ∀ h' : Hp, lenT h' .sl (.v (.c v)) = some (L.length : Int) := fun h' => by rw [hV.sl.len h', List.length_map]
      simp (maxSteps := 200000) -implicitDefEqProofs only [KA, KB, KC, KD, KE, KF, eq_self, ne_eq, ↓reduceIte, Nat.reduceLT, Nat.reduceEqDiff, Nat.reduceAdd, Nat.reduceLeDiff, Nat.reduceSub, Nat.reduceMul, reduceCtorEq, e0, e1, e5, e6, e37, e38, hlt, hlen]
      refine loop_rd (callW_mono N _) (V2I h b i pid v L) (n := L.length) ⟨0, ⟨i, 0, 0, fun _ => [], none⟩, pp, fun _ => .nils, fun _ => .nils, fun _ _ => [], fun _ => [], h1, _, rfl, by omega, rfl, ⟨by show 1 ≤ i ∧ i ≤ 16; omega, (show (0 : Int) ≤ 0 ∧ (0 : Int) ≤ 1000000 by omega), fun e => absurd rfl e, fun _ => by simp, fun _ _ e => by cases e⟩, ⟨⟨Int.le_refl _, Int.le_refl _⟩, Int.le_refl _, fun e => absurd rfl e⟩, rfl, hB, ?_, hV.new f1, hlo, ⟨rfl, rfl, rfl, rfl, rfl, rfl, rfl, rfl⟩, rfl⟩ ?_
      · refine ⟨?_, by omega, hinj, fun _ _ _ _ => rfl, fun _ _ => by simp, fun _ _ => ⟨rfl, by rintro _ _ _ _ _ ⟨⟩⟩, fun _ => by simp, fun _ => List.Pairwise.nil, fun _ _ e => (by cases e), fun _ _ => rfl, fun _ => rfl, fun j hj => ⟨0, .nils, 0, .nils, [], [], hpl j hj, rfl, rfl, ⟨Int.le_refl _, Int.le_refl _⟩, rfl, ⟨Int.le_refl _, Int.le_refl _⟩, fun e => absurd rfl e, fun e => absurd rfl e⟩⟩
        have e : ((List.range i).map fun j => if j < i then CV.ptr (pp j) 0 0 0 else .nilp) = (List.range i).map fun j => CV.ptr (pp j) 0 0 0 := List.map_congr_left fun j hj => by rw [if_pos (List.mem_range.mp hj)]
        rw [← e]
        exact hA
      have hold := hV.sl.old4
      clear hA hpl hinj hlo hB e0 e1 e5 e6 e37 e38 f1 pp h1
      rintro q s ⟨j, S, pp, PV, NV, PT, NT, h1, l, rfl, hj, hq, hS, hN, hSn, hB, hW, hV1, hlo, ⟨e0, e5, e6, e8, e10, e46, e47, e48⟩, e9⟩
      have hbf : h.n ≤ b := hbh
      by_cases hlt2 : (j : Int) < (L.length : Int)
      · obtain ⟨x, hx⟩ : ∃ x, L[j]? = some x := ⟨_, List.getElem?_eq_getElem (by omega)⟩
        have hxm := List.mem_of_getElem? hx
        have hrow : (L.map encV)[(j : Int).toNat]? = some [.int .i64 x.d, .int .i64 x.nd, .int .i64 x.vv, x.w] := by simp [encV, hx]
        obtain ⟨p1, p2, p3, a1, a2⟩ := hV1.sl.at (by omega) hrow
        have hwj := wrap_i64 (n := (j : Int) + 1) (by omega)
        have wu := wrap_u64 (n := (i : Int)) (by omega)
        have znd : ¬ ((i : Int) = 0) := by omega
        obtain ⟨y, hy, hy2⟩ : ∃ y : Nat, (IntKind.wrap .u64 x.nd).tmod (i : Int) = (y : Int) ∧ y < i := by
          have := u64_t x.nd (i : Int) (by omega)
          exact ⟨((IntKind.wrap .u64 x.nd).tmod (i : Int)).toNat, by omega, by omega⟩
        have wy := wrap_i64 (n := (y : Int)) (by omega)
        have hlp : ∀ h' : Hp, lenT h' .sl (.v (.c (.sl pid 0 0 i (some i)))) = some (i : Int) := fun h' => rfl
        have ln1 := mr_len 1296 PV
        have ln2 := mr_len 16 NV
        by_cases c0 : x.d = 0
        case' pos =>
          have d0 : decide (x.d = 0) = true := decide_eq_true c0
          simp (maxSteps := 200000) -implicitDefEqProofs only [KA, KB, KC, KD, KE, KF, eq_self, ne_eq, ↓reduceIte, Nat.reduceLT, Nat.reduceEqDiff, Nat.reduceAdd, Nat.reduceLeDiff, Nat.reduceSub, Nat.reduceMul, reduceCtorEq, e0, e5, e6, e8, e9, e10, e46, e47, e48, hlt2, a1, a2, wu, znd, hy, wy, d0]
          refine map_ok (k := k + 197) (hV1.c x hxm).1 (hV1.c x hxm).2 fun h4 mm es clock D DL O f4 gm hE hes hel hMp => ?_
          have hDl := hMp.arr.1
          have hRm : Rm h4 mm es clock (rowF x.C) := ⟨gm, hE, fun e he => by
            obtain ⟨r', hr', hk, hv, hF⟩ := rowF_ok (hes e he)
            exact ⟨by rw [hF]; exact hk, r'.v, hv, by rw [hF]; exact ((hV1.new f4).c x hxm).1.cells r' hr' |>.1⟩, by have := hC x hxm; omega⟩
          have hle : 16 ≤ 16 := Nat.le_refl _
          simp (maxSteps := 200000) -implicitDefEqProofs only [KA, KB, KC, KD, KE, KF, eq_self, ne_eq, ↓reduceIte, Nat.reduceLT, Nat.reduceEqDiff, Nat.reduceAdd, Nat.reduceLeDiff, Nat.reduceSub, Nat.reduceMul, reduceCtorEq, hDl, hle]
          refine pbegin_ok (k := k + 109) hS (hB.new f4) hRm fun h5 hB5 f5 => ?_
          obtain ⟨cc, xx, rdd, hbb, _⟩ := hB.new f4
          have hbb' : h4.g b = _ := hbb
          have hsoft : ∀ j, j = b → soft h4 j := fun j e => .inl (by rw [e]; exact ⟨_, hbb'⟩)
          have hW5 := (hW.new f4).soft f5 hsoft
          have hjl := hN.l
          have hzd : decide ((0 : Int) = 0) = true := rfl
          have f5' : Vcs h5 v L := (hV1.new f4).soft f5 hsoft
          rcases begin_cases S (rowF x.C) es with ⟨b1, b2⟩ | ⟨b1, _⟩ | ⟨b1, b2, b3, b4⟩
          case inr.inl => omega
          case' inl =>
            rw [b2] at hB5
            have hS6 := hS
            have hN6 := hN.up
            have hn6 := hSn
            have hB6 := hB5
            have hW6 := hW5
            have f6 := f5'
            have h9 : bgn S = bgn S := rfl
            simp (maxSteps := 200000) -implicitDefEqProofs only [KA, KB, KC, KD, KE, KF, eq_self, ne_eq, ↓reduceIte, Nat.reduceLT, Nat.reduceEqDiff, Nat.reduceAdd, Nat.reduceLeDiff, Nat.reduceSub, Nat.reduceMul, reduceCtorEq, b1, hlp]
          case' inr.inr =>
            rw [b4] at hB5 ⊢
            have k1 : ¬ S.l + 1 < 1 := by have := hS.l; omega
            have k2 : ¬ (80 : Int) < S.l + 1 := by omega
            have hDA : DArr h5 D DL := ⟨hMp.arr.1, fun y hy => by
              obtain ⟨u, q1, q2, q3⟩ := hMp.arr.2 y hy
              exact ⟨u, q1, q2.soft (by omega) f5 hsoft, q3⟩⟩
            have htk : D.take 16 = D := List.take_of_length_le (by omega)
            simp (maxSteps := 200000) -implicitDefEqProofs only [KA, KB, KC, KD, KE, KF, eq_self, ne_eq, ↓reduceIte, Nat.reduceLT, Nat.reduceEqDiff, Nat.reduceAdd, Nat.reduceLeDiff, Nat.reduceSub, Nat.reduceMul, reduceCtorEq, hzd, k1, k2, hDl, htk]
            refine rclean_ok (k := k + 194) hDA (fun y hy => by have := hMp.len y hy; omega) ?_
            rw [decide_eq_true (cleanP_left ((cleanP_perm hMp.perm).mp b3))]
            have hnde : es.Nodup := (List.pairwise_map.mp hE.nd).imp fun h e => h (by rw [e])
            have hdt : ∀ y, y < 16 → srtC (DL y) = tvf (rowF x.C) es y := fun y hy => dl_tvf hMp hRm.uq hnde hy
            have htl : ∀ y, (tvf (rowF x.C) es y).length ≤ 64 := fun y => by
              by_cases hx : ∃ e ∈ es, ((rowF x.C) e).1 = (y : Int)
              · obtain ⟨e, he, hi⟩ := hx
                rw [tvf_in hRm.uq he hi, srtC_len]
                exact (b2 e he).2
              · rw [tvf_out hx]; simp
            simp (maxSteps := 200000) -implicitDefEqProofs only [KA, KB, KC, KD, KE, KF, eq_self, ne_eq, ↓reduceIte, Nat.reduceLT, Nat.reduceEqDiff, Nat.reduceAdd, Nat.reduceLeDiff, Nat.reduceSub, Nat.reduceMul, reduceCtorEq]
            refine loop_rd (callW_mono N _) (fun m s => ∃ (t : Nat) (NV' : Nat → CV) (h' : Hp) (l : List (Nat × TV)), s = ST 215 l [mr 1296 PV, mr 16 NV', encV x, D] h' ∧ t ≤ 16 ∧ m = 16 - t ∧ PB h' b { S with l := S.l + 1, nx := some (tvf (rowF x.C) es, fun _ => false) } ∧ Pw h' S i pid pp PV NV PT NT ∧ DArr h' D DL ∧ Vcs h' v L ∧ (∀ y, y < t → SL h' 5 (NV' y) ((srtC (DL y)).map encE) ∧ CapL (NV' y)) ∧
              V2L h b i pid v L l j ∧ lk l 9 = .v (.c (.int .i64 (S.l + 1))) ∧ lk l 15 = .lp 3 0 ∧ lk l 97 = .v (.c (.int .i64 t))) (n := 16) ⟨0, NV, h5, _, rfl, by omega, rfl, hB5, hW5, hDA, f5', by simp, ⟨rfl, rfl, rfl, rfl, rfl, rfl, rfl, rfl⟩, rfl, rfl, rfl⟩ ?_
            clear hB5 hW5 hDA f5' f5 hsoft hbb hbb' e0 e5 e6 e8 e9 e10 e46 e47 e48
            rintro q2 s ⟨t, NV', h5', l, rfl, ht, hq2, hB5, hW5, hDA, f5', hNV, ⟨e0, e5, e6, e8, e10, e46, e47, e48⟩, e9, e15, e97⟩
            have ln3 := mr_len 16 NV'
            by_cases hlt3 : (t : Int) < 16
            · obtain ⟨u, q1, q2', q3⟩ := hDA.2 t (by omega)
              have hwt := wrap_i64 (n := (t : Int) + 1) (by omega)
              have ia := iaA_l (n := 16) (sz := 1) (b := 3) (off := 0) (i := (t : Int)) (by omega)
              have ib := iaA_l (n := 16) (sz := 1) (b := 1) (off := 0) (i := (t : Int)) (by omega)
              rw [Int.toNat_natCast] at ia ib
              have q1' : D[t * 1]? = some u := by rw [Nat.mul_one]; exact q1
              have hdl : (DL t).length ≤ 64 := by rw [← srtC_len, hdt t (by omega)]; exact htl t
              simp (maxSteps := 200000) -implicitDefEqProofs only [KA, KB, KC, KD, KE, KF, eq_self, ne_eq, ↓reduceIte, Nat.reduceLT, Nat.reduceEqDiff, Nat.reduceAdd, Nat.reduceLeDiff, Nat.reduceSub, Nat.reduceMul, reduceCtorEq, e0, e5, e6, e8, e9, e10, e46, e47, e48, e15, e97, hlt3, ia, q1']
              refine rsorted_ok (k := k + 197) q2' (by omega) fun h6 u' hu' f6 _ => ?_
              have hst := mr_set (N := 16) (f := NV') (g := fun y => if y = t then u' else NV' y) (o := t * 1) (x := u') (by omega) (by rw [if_pos (by omega)]) (fun y _ hy => if_neg (by omega))
              have hle2 : t * 1 + 1 ≤ 16 := by omega
              simp (maxSteps := 200000) -implicitDefEqProofs only [KA, KB, KC, KD, KE, KF, eq_self, ne_eq, ↓reduceIte, Nat.reduceLT, Nat.reduceEqDiff, Nat.reduceAdd, Nat.reduceLeDiff, Nat.reduceSub, Nat.reduceMul, reduceCtorEq, ib, ln3, hle2, hst, hwt, rd_n]
              refine ⟨q2 - 1, by omega, t + 1, _, h6, _, rfl, by omega, by omega, hB5.new f6, hW5.new f6, ⟨hDA.1, fun y hy => by
                obtain ⟨u, q1, q2, q3⟩ := hDA.2 y hy
                exact ⟨u, q1, q2.new f6, q3⟩⟩, f5'.new f6, fun y hy => ?_, ⟨rfl, rfl, rfl, rfl, rfl, rfl, rfl, rfl⟩, rfl, rfl, rfl⟩
              by_cases e : y = t
              · rw [if_pos e, e]
                refine ⟨hu'.sl, ?_⟩
                rintro id tok off len cc e
                have := hu'.cap _ _ _ _ _ e
                cases this
              · rw [if_neg e]
                exact ⟨(hNV y (by omega)).1.new f6, (hNV y (by omega)).2⟩
            have : t = 16 := by omega
            subst this
            have hS6 : WS { S with l := S.l + 1, nx := some (tvf (rowF x.C) es, fun _ => false) } := by
              have := hS.begin (F := rowF x.C) (es := es) hRm.uq
              rwa [b4] at this
            have hN6 : VN { S with l := S.l + 1, nx := some (tvf (rowF x.C) es, fun _ => false) } (j + 1) := by
              have hv := hN.v
              exact ⟨⟨hv.1, by show S.v ≤ S.l + 1; omega⟩, by show S.l + 1 ≤ ((j + 1 : Nat) : Int); omega, fun _ => by show S.v < S.l + 1; omega⟩
            have hn6 : S.n = i := hSn
            have hW6 := hW5.begin (T2 := tvf (rowF x.C) es) (F := fun _ => false) (NV' := NV') (fun y hy => by rw [← hdt y hy]; exact hNV y hy) htl (fun y => tvf_sorted _ _ _) hN.v.2
            have hB6 := hB5
            have f6 := f5'
            have h9 : S.l + 1 = bgn { S with l := S.l + 1, nx := some (tvf (rowF x.C) es, fun _ => false) } := rfl
            simp (maxSteps := 200000) -implicitDefEqProofs only [KA, KB, KC, KD, KE, KF, eq_self, ne_eq, ↓reduceIte, Nat.reduceLT, Nat.reduceEqDiff, Nat.reduceAdd, Nat.reduceLeDiff, Nat.reduceSub, Nat.reduceMul, reduceCtorEq, e0, e5, e6, e8, e9, e10, e46, e47, e48, e15, e97, hlt3, hlp]
        case' neg =>
          have hbg : (bgn S = 0 ∧ S.nx = none) ∨ (bgn S = S.l ∧ 1 ≤ S.l ∧ ∃ T2 F, S.nx = some (T2, F)) := by
            unfold bgn
            cases hnx : S.nx with
            | none => exact .inl ⟨rfl, rfl⟩
            | some nxv => exact .inr ⟨rfl, hS.p (by rw [hnx]; simp), nxv.1, nxv.2, rfl⟩
          obtain ⟨w, cw, zw, xw, Lc, Lx, r1, r2, r3, r4, r5, r6, r7, r8⟩ := hW.pl y hy2
          have rg : h1.g (pp y) = _ := r1
          have pa := hW.sl.adr (n := i) (m := y) hy2 (some i)
          have pr := hW.sl.row (m := y) (x := .ptr (pp y) 0 0 0) (by rw [List.getElem?_map, List.getElem?_range hy2]; rfl)
          have hpp : h.n ≤ pp y := hlo y hy2
          have z0 : ¬ (0 : Int) < 0 := by omega
          have zz : decide ((0 : Int) = 0) = true := rfl
          have lw := by have := hN.l; exact this
          have hlS : S.l ≤ 80 := by omega
          have hvS := hN.v
          have ib := iaA_l (n := 16) (sz := 1) (b := 1) (off := 0) (i := (y : Int)) (by omega)
          rw [Int.toNat_natCast] at ib
          have gy : (mr 16 NV)[y * 1]? = some (NV y) := by rw [Nat.mul_one]; exact mr_get (by omega)
          by_cases c1 : x.d = 1
          case' pos =>
            have d1 : decide (x.d = 1) = true := decide_eq_true c1
            rcases hbg with ⟨hb0, hnx⟩ | ⟨hb1, hb2, T2, F, hnx⟩
            case' inl =>
              have hS6 := hS
              have hN6 := hN.up
              have hn6 := hSn
              have hB6 := hB
              have hW6 := hW
              have f6 := hV1
              have h9 : (0 : Int) = bgn S := hb0.symm
              rw [hb0] at e9
              simp (maxSteps := 200000) -implicitDefEqProofs only [KA, KB, KC, KD, KE, KF, eq_self, ne_eq, ↓reduceIte, Nat.reduceLT, Nat.reduceEqDiff, Nat.reduceAdd, Nat.reduceLeDiff, Nat.reduceSub, Nat.reduceMul, reduceCtorEq, e0, e5, e6, e8, e9, e10, e46, e47, e48, hlt2, a1, a2, wu, znd, hy, wy, c0, d1, z0, hlp]
            case' inr =>
              have zl : (0 : Int) < S.l := by omega
              rw [hb1] at e9
              simp (maxSteps := 200000) -implicitDefEqProofs only [KA, KB, KC, KD, KE, KF, eq_self, ne_eq, ↓reduceIte, Nat.reduceLT, Nat.reduceEqDiff, Nat.reduceAdd, Nat.reduceLeDiff, Nat.reduceSub, Nat.reduceMul, reduceCtorEq, e0, e5, e6, e8, e9, e10, e46, e47, e48, hlt2, a1, a2, wu, znd, hy, wy, c0, d1, zl, pa, pr, ib, gy]
              refine prep_ok (by omega) r1 (hW.next y (by omega)).1 (hW.next y (by omega)).2 (hW.nlen y) hb2 (fun cd g1 hcd fg => ?_) fun hwl g1 u t1 t2 t3 => ?_
              case' refine_1 =>
                have hS6 := hS
                have hN6 := hN.up
                have hn6 := hSn
                have hB6 := hB.new fg
                have hW6 := hW.new fg
                have f6 := hV1.new fg
                have h9 : S.l = bgn S := hb1.symm
                simp (maxSteps := 200000) -implicitDefEqProofs only [KA, KB, KC, KD, KE, KF, eq_self, ne_eq, ↓reduceIte, Nat.reduceLT, Nat.reduceEqDiff, Nat.reduceAdd, Nat.reduceLeDiff, Nat.reduceSub, Nat.reduceMul, reduceCtorEq, hcd, hlp]
              case' refine_2 =>
                have hB7 := hB.plan t3 rg
                have hW7 := hW.plan hy2 t3 t1 (r2.hard (by omega) t3 rg) t2 r4 r5 ⟨by omega, Int.le_refl _⟩ (fun _ _ T2' F' e => by
                  rw [hnx] at e
                  injection e with e
                  injection e with e3 e4
                  subst e3
                  rw [← hW.nx _ _ hnx y (by omega)]
                  exact srt_uniq (srtC_perm _) (srtC_sorted _) (hW.nsrt y)) (fun _ e => by have := hN.nx (by rw [hnx]; simp); omega)
                have f7 := hV1.plan t3 rg hold hpp
                simp (maxSteps := 200000) -implicitDefEqProofs only [KA, KB, KC, KD, KE, KF, eq_self, ne_eq, ↓reduceIte, Nat.reduceLT, Nat.reduceEqDiff, Nat.reduceAdd, Nat.reduceLeDiff, Nat.reduceSub, Nat.reduceMul, reduceCtorEq, zz]
                refine pready_ok (k := k + 197) hS hB7 fun g2 X hB6 f8 hX => ?_
                have hW6 := (hW7.soft f8 hX).ready y S.l
                have hS6 := hS.ready y S.l
                have hN6 := (hN.ready y S.l).up
                have hn6 : (readyS S y S.l).2.n = i := by rw [ready_n]; exact hSn
                have h9 : S.l = bgn (readyS S y S.l).2 := by
                  unfold bgn
                  rw [(ready_nx S y S.l).1, (ready_nx S y S.l).2, hnx]
                  rfl
                have f6 : Vcs g2 v L := f7.soft f8 hX
                simp (maxSteps := 200000) -implicitDefEqProofs only [KA, KB, KC, KD, KE, KF, eq_self, ne_eq, ↓reduceIte, Nat.reduceLT, Nat.reduceEqDiff, Nat.reduceAdd, Nat.reduceLeDiff, Nat.reduceSub, Nat.reduceMul, reduceCtorEq, hlp]
          case' neg =>
            by_cases c2 : x.d = 2
            case' pos =>
              have d1 : decide (x.d = 2) = true := decide_eq_true c2
              simp (maxSteps := 200000) -implicitDefEqProofs only [KA, KB, KC, KD, KE, KF, eq_self, ne_eq, ↓reduceIte, Nat.reduceLT, Nat.reduceEqDiff, Nat.reduceAdd, Nat.reduceLeDiff, Nat.reduceSub, Nat.reduceMul, reduceCtorEq, e0, e5, e6, e8, e9, e10, e46, e47, e48, hlt2, a1, a2, wu, znd, hy, wy, c0, c1, d1]
              refine pcommit_ok (k := k + 197) hS hB fun g1 X hB6 fX hX => ?_
              have hW5 := hW.soft fX hX
              have f6 := hV1.soft fX hX
              have hcs : (¬ (commitS S).1 = 0 ∧ (commitS S).2 = S) ∨ ∃ T2 F, S.nx = some (T2, F) ∧ commitS S = (0, { S with v := S.l, T := T2, nx := none }) := by
                unfold commitS
                split
                · exact .inl ⟨(show ¬ (7 : Int) = 0 by decide), rfl⟩
                · rename_i T2 F hn
                  split
                  · exact .inr ⟨T2, F, hn, rfl⟩
                  · exact .inl ⟨(show ¬ (7 : Int) = 0 by decide), rfl⟩
              rcases hcs with ⟨q1, q2⟩ | ⟨T2, F, hnx, q2⟩
              case' inl =>
                rw [q2] at hB6
                have hS6 := hS
                have hN6 := hN.up
                have hn6 := hSn
                have hW6 := hW5
                have h9 : bgn S = bgn S := rfl
                simp (maxSteps := 200000) -implicitDefEqProofs only [KA, KB, KC, KD, KE, KF, eq_self, ne_eq, ↓reduceIte, Nat.reduceLT, Nat.reduceEqDiff, Nat.reduceAdd, Nat.reduceLeDiff, Nat.reduceSub, Nat.reduceMul, reduceCtorEq, q1, hlp]
              case' inr =>
                have hS6 := hS.commit
                have hN6 := hN.commit.up
                rw [q2] at hB6 hS6 hN6 ⊢
                have hn6 : S.n = i := hSn
                have hl1 := hS.p (by rw [hnx]; simp)
                have hb1 : bgn S = S.l := by unfold bgn; rw [hnx]; rfl
                have k1 : ¬ S.l < 1 := by omega
                have dl : decide (S.l = S.l) = true := by simp
                have hW6 := hW5.commit hN hnx hlS
                obtain ⟨cc, xx, rdd, bb6, _⟩ := id hB6
                have h9 : (0 : Int) = bgn { S with v := S.l, T := T2, nx := none } := rfl
                simp (maxSteps := 200000) -implicitDefEqProofs only [KA, KB, KC, KD, KE, KF, eq_self, ne_eq, ↓reduceIte, Nat.reduceLT, Nat.reduceEqDiff, Nat.reduceAdd, Nat.reduceLeDiff, Nat.reduceSub, Nat.reduceMul, reduceCtorEq, zz, hb1, k1]
                refine version_ok (k := k + 198) bb6 ?_
                have htk : (mr 16 NV).take 16 = mr 16 NV := List.take_of_length_le (by rw [mr_len]; omega)
                have ic := iaA_l (n := 81) (sz := 16) (b := 0) (off := 0) (i := S.l) (by omega)
                have st := mr_splice (N := 1296) (f := PV) (g := fun y => if S.l.toNat * 16 ≤ y ∧ y < S.l.toNat * 16 + 16 then NV (y - S.l.toNat * 16) else PV y) (o := S.l.toNat * 16) (cs := mr 16 NV) (by rw [mr_len]; omega) (fun t ht => by
                  rw [mr_len] at ht
                  rw [mr_get ht, if_pos (by omega), show S.l.toNat * 16 + t - S.l.toNat * 16 = t by omega]) (fun t ht ho => by
                  rw [mr_len] at ho
                  rw [if_neg (by omega)])
                rw [ln2] at st
                have hle2 : S.l.toNat * 16 + 16 ≤ 1296 := by omega
                simp (maxSteps := 200000) -implicitDefEqProofs only [KA, KB, KC, KD, KE, KF, eq_self, ne_eq, ↓reduceIte, Nat.reduceLT, Nat.reduceEqDiff, Nat.reduceAdd, Nat.reduceLeDiff, Nat.reduceSub, Nat.reduceMul, reduceCtorEq, dl, htk, ln2, ic, ln1, st, hle2, hlp]
            case' neg =>
              by_cases c3 : x.d = 3
              case' pos =>
                have d1 : decide (x.d = 3) = true := decide_eq_true c3
                simp (maxSteps := 200000) -implicitDefEqProofs only [KA, KB, KC, KD, KE, KF, eq_self, ne_eq, ↓reduceIte, Nat.reduceLT, Nat.reduceEqDiff, Nat.reduceAdd, Nat.reduceLeDiff, Nat.reduceSub, Nat.reduceMul, reduceCtorEq, e0, e5, e6, e8, e9, e10, e46, e47, e48, hlt2, a1, a2, wu, znd, hy, wy, c0, c1, c2, d1]
                refine pabort_ok (k := k + 198) hS hB fun g1 X hB6 fX hX => ?_
                have hW5 := hW.soft fX hX
                have f6 := hV1.soft fX hX
                have hS6 := hS.abort
                have hN6 := hN.abort.up
                have hcs : (¬ (abortS S).1 = 0 ∧ abortS S = (7, S)) ∨ abortS S = (0, { S with nx := none }) := by
                  unfold abortS
                  split
                  · exact .inl ⟨(show ¬ (7 : Int) = 0 by decide), rfl⟩
                  · exact .inr rfl
                rcases hcs with ⟨q1, q2⟩ | q2
                case' inl =>
                  rw [q2] at hB6 hS6 hN6
                  have hn6 := hSn
                  have hW6 := hW5
                  have h9 : bgn S = bgn S := rfl
                  simp (maxSteps := 200000) -implicitDefEqProofs only [KA, KB, KC, KD, KE, KF, eq_self, ne_eq, ↓reduceIte, Nat.reduceLT, Nat.reduceEqDiff, Nat.reduceAdd, Nat.reduceLeDiff, Nat.reduceSub, Nat.reduceMul, reduceCtorEq, q1, hlp]
                case' inr =>
                  rw [q2] at hB6 hS6 hN6 ⊢
                  have hn6 : S.n = i := hSn
                  have hW6 := hW5.abort
                  have h9 : (0 : Int) = bgn { S with nx := none } := rfl
                  simp (maxSteps := 200000) -implicitDefEqProofs only [KA, KB, KC, KD, KE, KF, eq_self, ne_eq, ↓reduceIte, Nat.reduceLT, Nat.reduceEqDiff, Nat.reduceAdd, Nat.reduceLeDiff, Nat.reduceSub, Nat.reduceMul, reduceCtorEq, zz, hlp]
              case' neg =>
                obtain ⟨cc, xx, rdd, bb6, _⟩ := id hB
                simp (maxSteps := 200000) -implicitDefEqProofs only [KA, KB, KC, KD, KE, KF, eq_self, ne_eq, ↓reduceIte, Nat.reduceLT, Nat.reduceEqDiff, Nat.reduceAdd, Nat.reduceLeDiff, Nat.reduceSub, Nat.reduceMul, reduceCtorEq, e0, e5, e6, e8, e9, e10, e46, e47, e48, hlt2, a1, a2, wu, znd, hy, wy, c0, c1, c2, c3, pa, pr]
                refine version_ok (k := k + 198) bb6 ?_
                simp (maxSteps := 200000) -implicitDefEqProofs only [KA, KB, KC, KD, KE, KF, eq_self, ne_eq, ↓reduceIte, Nat.reduceLT, Nat.reduceEqDiff, Nat.reduceAdd, Nat.reduceLeDiff, Nat.reduceSub, Nat.reduceMul, reduceCtorEq, pa, pr]
                have hS6 := hS
                have hN6 := hN.up
                have hn6 := hSn
                have h9 : bgn S = bgn S := rfl
                by_cases cz : zw = 0 ∨ ¬ S.v = zw
                case' pos =>
                  refine pcom_state (k := k + 198) r1 cz ?_
                  have hB6 := hB
                  have hW6 := hW
                  have f6 := hV1
                  simp (maxSteps := 200000) -implicitDefEqProofs only [KA, KB, KC, KD, KE, KF, eq_self, ne_eq, ↓reduceIte, Nat.reduceLT, Nat.reduceEqDiff, Nat.reduceAdd, Nat.reduceLeDiff, Nat.reduceSub, Nat.reduceMul, reduceCtorEq, hlp]
                case' neg =>
                  have cz1 : ¬ zw = 0 := fun e => cz (.inl e)
                  have cz2 : S.v = zw := Classical.byContradiction fun e => cz (.inr e)
                  rw [cz2]
                  refine pcom_ok (k := k + 198) r1 cz1 fun g1 t1 t3 => ?_
                  have hB6 := hB.plan t3 rg
                  have hW6 := hW.plan hy2 t3 t1 (r3.hard (by omega) t3 rg) (Lx := []) rfl ⟨r6.1, by omega⟩ (r8 cz1 cz2.symm) ⟨Int.le_refl _, by omega⟩ (fun e => absurd rfl e) (fun e => absurd rfl e)
                  have f6 := hV1.plan t3 rg hold hpp
                  simp (maxSteps := 200000) -implicitDefEqProofs only [KA, KB, KC, KD, KE, KF, eq_self, ne_eq, ↓reduceIte, Nat.reduceLT, Nat.reduceEqDiff, Nat.reduceAdd, Nat.reduceLeDiff, Nat.reduceSub, Nat.reduceMul, reduceCtorEq, hlp]
        all_goals
          refine check_ok (k := k) (b := b) (i := i) (pid := pid) (j := j) (v := v) (L := L) (pp := pp) (h0 := h) (by omega) (by omega) hS6 hN6 hn6 hB6 hW6 f6 ⟨rfl, rfl, rfl, rfl, rfl, rfl, rfl, rfl⟩ (congrArg (fun z => TV.v (.c (.int .i64 z))) h9) rfl rfl rfl ?_
          intro S7 PV7 NV7 PT7 NT7 h7 l7 hS7 hN7 hn7 hB7 hW7 hV7 hl7 h97
          obtain ⟨y0, y5, y6, y8, y10, y46, y47, y48⟩ := hl7
          simp (maxSteps := 200000) -implicitDefEqProofs only [KA, KB, KC, KD, KE, KF, eq_self, ne_eq, ↓reduceIte, Nat.reduceLT, Nat.reduceEqDiff, Nat.reduceAdd, Nat.reduceLeDiff, Nat.reduceSub, Nat.reduceMul, reduceCtorEq, y0, y5, y6, y8, h97, y10, y46, y47, y48, hwj, rd_n]
          exact ⟨q - 1, by omega, j + 1, S7, pp, PV7, NV7, PT7, NT7, h7, _, rfl, by omega, by omega, hS7, hN7, hn7, hB7, hW7, hV7, hlo, ⟨rfl, rfl, rfl, rfl, rfl, rfl, rfl, rfl⟩, rfl⟩
      · simp (maxSteps := 200000) -implicitDefEqProofs only [KA, KB, KC, KD, KE, KF, eq_self, ne_eq, ↓reduceIte, Nat.reduceLT, Nat.reduceEqDiff, Nat.reduceAdd, Nat.reduceLeDiff, Nat.reduceSub, Nat.reduceMul, reduceCtorEq, e0, e5, e6, e8, e9, e10, e46, e47, e48, hlt2]
        refine awakeV2_ok (k := k + 198) ?_
        simp (maxSteps := 200000) -implicitDefEqProofs only [KA, KB, KC, KD, KE, KF, eq_self, ne_eq, ↓reduceIte, Nat.reduceLT, Nat.reduceEqDiff, Nat.reduceAdd, Nat.reduceLeDiff, Nat.reduceSub, Nat.reduceMul, reduceCtorEq]
        exact hP _
end
end Camp
