/- Cells sorted: by the program, by the reference. The reference's Less and Sorted. Begin, by the program. The reference's book. Books: who is waited for, commit, cells; the same. Begin, by the reference. Both books, by what they mean. The law of the plays of a book. The arguments of the plays of a book. -/
import Derived.Test.YtljcbkebdbenbaaLaw
import Derived.Test.YtljcbkebdbenbaaLawB

set_option linter.unnecessarySimpa false
set_option linter.unusedVariables false
set_option linter.unusedSimpArgs false
set_option linter.unusedSectionVars false
/-! CvVq1 -/
namespace Camp
open Go
set_option linter.unusedVariables false
set_option linter.unusedSimpArgs false
set_option maxHeartbeats 2000000
def lessC (x y : Cel) : Bool := lessB x.f x.s x.c x.o x.p y.f y.s y.c y.o y.p
def ltC (x y : Cel) : Prop := lessC x y = true
theorem ltC_iff {x y : Cel} : ltC x y ↔ (x.f < y.f ∨ (x.f = y.f ∧ (x.s < y.s ∨ (x.s = y.s ∧ (x.c < y.c ∨ (x.c = y.c ∧ (x.o < y.o ∨ (x.o = y.o ∧ x.p < y.p)))))))) := by
  unfold ltC lessC lessB
  rw [decide_eq_true_eq]
theorem swoC : SWO ltC := by
  refine ⟨fun x => ?_, fun {x y z} => ?_, fun {x y z} => ?_⟩
  · rw [ltC_iff]; omega
  · rw [ltC_iff, ltC_iff, ltC_iff]; omega
  · rw [ltC_iff, ltC_iff, ltC_iff]; omega
theorem antC {x y : Cel} (h1 : ¬ ltC x y) (h2 : ¬ ltC y x) : x = y := by
  rw [ltC_iff] at h1 h2
  have : x.f = y.f ∧ x.s = y.s ∧ x.c = y.c ∧ x.o = y.o ∧ x.p = y.p := by omega
  cases x; cases y
  simp_all
def insC (x : Cel) : List Cel → List Cel
  | [] => [x]
  | y :: l => if lessC x y then x :: y :: l else y :: insC x l
def srtC (L : List Cel) : List Cel := L.foldl (fun T x => insC x T) []
theorem insC_perm (x : Cel) : ∀ T, (insC x T).Perm (x :: T)
  | [] => .refl _
  | y :: l => by
    rw [insC]
    split
    · exact .refl _
    · exact ((insC_perm x l).cons y).trans (.swap x y l)
theorem insC_sorted (x : Cel) : ∀ T, T.Pairwise (fun a b => ¬ ltC b a) → (insC x T).Pairwise fun a b => ¬ ltC b a
  | [], _ => List.pairwise_singleton _ _
  | y :: l, h => by
    rw [List.pairwise_cons] at h
    rw [insC]
    split
    · rename_i hlt
      have hlt : ltC x y := hlt
      rw [List.pairwise_cons, List.pairwise_cons]
      refine ⟨fun z hz => ?_, h⟩
      rcases List.mem_cons.mp hz with rfl | hz
      · exact swoC.asym hlt
      · exact swoC.le (swoC.asym hlt) (h.1 z hz)
    · rename_i hlt
      rw [List.pairwise_cons]
      refine ⟨fun z hz => ?_, insC_sorted x l h.2⟩
      rcases List.mem_cons.mp ((insC_perm x l).mem_iff.mp hz) with rfl | hz
      · exact hlt
      · exact h.1 z hz
theorem srt_fold : ∀ (L T : List Cel), T.Pairwise (fun a b => ¬ ltC b a) → (L.foldl (fun T x => insC x T) T).Perm (T ++ L) ∧ (L.foldl (fun T x => insC x T) T).Pairwise fun a b => ¬ ltC b a
  | [], T, h => by simpa using h
  | x :: L, T, h => by
    have h1 := srt_fold L (insC x T) (insC_sorted x T h)
    refine ⟨h1.1.trans ?_, h1.2⟩
    have h2 := (insC_perm x T).append_right L
    exact h2.trans (by simpa using (List.perm_middle (a := x) (l₁ := T) (l₂ := L)).symm)
theorem srtC_perm (L : List Cel) : (srtC L).Perm L := by
  have := (srt_fold L [] List.Pairwise.nil).1
  rw [List.nil_append] at this
  exact this
theorem srtC_sorted (L : List Cel) : (srtC L).Pairwise fun a b => ¬ ltC b a := (srt_fold L [] List.Pairwise.nil).2
theorem srtC_len (L : List Cel) : (srtC L).length = L.length := (srtC_perm L).length_eq
theorem srt_uniq : ∀ {A B : List Cel}, A.Perm B → A.Pairwise (fun a b => ¬ ltC b a) → B.Pairwise (fun a b => ¬ ltC b a) → A = B
  | [], B, h, _, _ => (List.nil_perm.mp h).symm
  | x :: A, [], h, _, _ => by have := h.length_eq; simp at this
  | x :: A, y :: B, h, hA, hB => by
    rw [List.pairwise_cons] at hA hB
    have e : x = y := by
      refine antC (fun k => ?_) (fun k => ?_)
      · have := h.mem_iff.mp (List.mem_cons_self (a := x) (l := A))
        rcases List.mem_cons.mp this with e | e
        · rw [e] at k; exact swoC.irr _ k
        · exact hB.1 x e k
      · have := h.mem_iff.mpr (List.mem_cons_self (a := y) (l := B))
        rcases List.mem_cons.mp this with e | e
        · rw [e] at k; exact swoC.irr _ k
        · exact hA.1 y e k
    subst e
    rw [srt_uniq (List.Perm.cons_inv h) hA.2 hB.2]
section
variable {k : Nat} {h : Hp} {P : AV → Hp → Prop}
theorem less_ok {x y : Cel} (hP : P (.c (.bool (lessC x y))) h) : callW N (k + 1) 156 [.agg (encE x), .agg (encE y)] h P :=
  ⟨lessN, rfl, (show 2 ≤ 3 by omega), _, _, rfl, rfl, rfl, .inr rfl, _, rfl, hP⟩
theorem cmpC : CmpOk ltC 152 2 := by
  intro F x y h' Q hF hQ
  obtain ⟨k, rfl⟩ : ∃ k, F = k + 2 := ⟨F - 2, by omega⟩
  have henc : ∀ x, (encE x).length = 5 := fun _ => rfl
  have htk : ∀ x, (encE x).take 5 = encE x := fun _ => rfl
  refine call_intro rfl (by simp only [List.length_cons, List.length_nil]; omega) ?_
  simp (maxSteps := 200000) -implicitDefEqProofs only [KA, KB, KC, KD, KE, KF, eq_self, ne_eq, ↓reduceIte, Nat.reduceLT, Nat.reduceEqDiff, Nat.reduceAdd, Nat.reduceLeDiff, Nat.reduceSub, Nat.reduceMul, reduceCtorEq, henc, htk]
  refine less_ok (k := k) ?_
  by_cases c : ltC x y
  · have c' : lessC x y = true := c
    rw [c']
    simp (maxSteps := 200000) -implicitDefEqProofs only [KA, KB, KC, KD, KE, KF, eq_self, ne_eq, ↓reduceIte, Nat.reduceLT, Nat.reduceEqDiff, Nat.reduceAdd, Nat.reduceLeDiff, Nat.reduceSub, Nat.reduceMul, reduceCtorEq, henc, htk]
    exact hQ _ ⟨fun _ => c, fun _ => by omega⟩
  · have c' : lessC x y = false := by simpa [ltC] using c
    rw [c']
    simp (maxSteps := 200000) -implicitDefEqProofs only [KA, KB, KC, KD, KE, KF, eq_self, ne_eq, ↓reduceIte, Nat.reduceLT, Nat.reduceEqDiff, Nat.reduceAdd, Nat.reduceLeDiff, Nat.reduceSub, Nat.reduceMul, reduceCtorEq, henc, htk]
    refine less_ok (k := k) ?_
    by_cases d : lessC y x = true
    · rw [d]
      simp (maxSteps := 200000) -implicitDefEqProofs only [KA, KB, KC, KD, KE, KF, eq_self, ne_eq, ↓reduceIte, Nat.reduceLT, Nat.reduceEqDiff, Nat.reduceAdd, Nat.reduceLeDiff, Nat.reduceSub, Nat.reduceMul, reduceCtorEq]
      exact hQ _ ⟨fun e => by omega, fun e => absurd e c⟩
    · have d' : lessC y x = false := by simpa using d
      rw [d']
      simp (maxSteps := 200000) -implicitDefEqProofs only [KA, KB, KC, KD, KE, KF, eq_self, ne_eq, ↓reduceIte, Nat.reduceLT, Nat.reduceEqDiff, Nat.reduceAdd, Nat.reduceLeDiff, Nat.reduceSub, Nat.reduceMul, reduceCtorEq]
      exact hQ _ ⟨fun e => by omega, fun e => absurd e c⟩
theorem cloneC_ok {v : CV} {L : List Cel} (hs : SL h 5 v (L.map encE)) (hn : L.length ≤ 1000000000)
    (h0 : L = [] → P (.c .nils) h) (hP : ∀ h' id cap, Ar encE 5 h' id 0 [] L → Fn h h' → h.n ≤ id → P (.c (.sl id 0 0 L.length cap)) h') : callW N (k + 1) 147 [.c v] h P := by
  cases v <;> simp only [SL] at hs
  case nils =>
    refine call_intro rfl (by simp only [List.length_cons, List.length_nil]; omega) ?_
    simp (maxSteps := 200000) -implicitDefEqProofs only [KA, KB, KC, KD, KE, KF, eq_self, ne_eq, ↓reduceIte, Nat.reduceLT, Nat.reduceEqDiff, Nat.reduceAdd, Nat.reduceLeDiff, Nat.reduceSub, Nat.reduceMul, reduceCtorEq]
    exact h0 (by simpa using hs)
  case sl id tok off len cap =>
    have hs : SL h 5 (.sl id tok off len cap) (L.map encE) := hs
    obtain ⟨h2, hh2⟩ : ∃ h2, h2 = h.push (.rows true 5 0 0 []) := ⟨_, rfl⟩
    have hf2 : Fn h h2 := by rw [hh2]; exact Fm.push _ _ _
    have hg2 : h2.g h.n = some (.rows true 5 0 0 []) := by rw [hh2, g_push_eq]
    have hn2 : h2.n = h.n + 1 := by rw [hh2, n_push]
    have hfold := hh2.symm
    have hrd : sliceRows h2 [] 5 (.v (.c (.sl id tok off len cap))) = some (L.map encE) := (hs.new hf2).read
    cases L with
    | nil =>
      have happ : appT h2 [] 5 40 (.v (.c (.sl h.n 0 0 0 (some 0)))) (.v (.c (.sl id tok off len cap))) = some (.sl h.n 0 0 0 (some 0), h2) := by
        simp only [appT, asC_c, Option.bind_some, hrd]
        rfl
      refine call_intro rfl (by simp only [List.length_cons, List.length_nil]; omega) ?_
      simp (maxSteps := 200000) -implicitDefEqProofs only [KA, KB, KC, KD, KE, KF, eq_self, ne_eq, ↓reduceIte, Nat.reduceLT, Nat.reduceEqDiff, Nat.reduceAdd, Nat.reduceLeDiff, Nat.reduceSub, Nat.reduceMul, reduceCtorEq, chunks, hfold, happ]
      exact hP _ _ _ ⟨0, Nat.le_refl _, hg2⟩ hf2 (Nat.le_refl _)
    | cons y ys =>
      have happ : appT h2 [] 5 40 (.v (.c (.sl h.n 0 0 0 (some 0)))) (.v (.c (.sl id tok off len cap))) = some (.sl h2.n 0 0 ((y :: ys).map encE).length none, h2.push (.rows true 5 0 0 ((y :: ys).map encE))) := by
        simp only [appT, asC_c, Option.bind_some, hrd, List.map_cons, appRows, g_def, hg2]
        rw [if_pos ⟨trivial, Nat.le_refl _, by simp only [room, List.length_cons, List.length_map] at hn ⊢; omega⟩]
        rw [if_neg (by simp only [List.length_cons]; omega)]
        simp only [List.drop_nil, List.take_nil, List.nil_append, Nat.zero_add]
        rfl
      rw [List.length_map] at happ
      refine call_intro rfl (by simp only [List.length_cons, List.length_nil]; omega) ?_
      simp (maxSteps := 200000) -implicitDefEqProofs only [KA, KB, KC, KD, KE, KF, eq_self, ne_eq, ↓reduceIte, Nat.reduceLT, Nat.reduceEqDiff, Nat.reduceAdd, Nat.reduceLeDiff, Nat.reduceSub, Nat.reduceMul, reduceCtorEq, chunks, hfold, happ]
      exact hP _ _ _ ⟨0, Nat.le_refl _, by rw [List.append_nil]; exact g_push_eq _ _⟩ (hf2.trans (Fm.push _ _ _)) (by omega)
/-- What is cloned and sorted. -/
theorem sortedC_ok {F : Nat} {v : CV} {L : List Cel} (hF : 80 ≤ F) (hs : SL h 5 v (L.map encE)) (hn : L.length ≤ 64) (hP : ∀ h' u, SL h' 5 u ((srtC L).map encE) → Fn h h' → (∀ j, ownId u j → h.n ≤ j) → P (.c u) h') : callW N F 146 [.c v] h P := by
  obtain ⟨k, rfl⟩ : ∃ k, F = k + 2 := ⟨F - 2, by omega⟩
  refine call_intro rfl (by simp only [List.length_cons, List.length_nil]; omega) ?_
  simp (maxSteps := 200000) -implicitDefEqProofs only [KA, KB, KC, KD, KE, KF, eq_self, ne_eq, ↓reduceIte, Nat.reduceLT, Nat.reduceEqDiff, Nat.reduceAdd, Nat.reduceLeDiff, Nat.reduceSub, Nat.reduceMul, reduceCtorEq]
  refine cloneC_ok (k := k) hs (by omega) (fun h0 => ?_) fun h2 id cap hA f2 hid => ?_
  · simp (maxSteps := 200000) -implicitDefEqProofs only [KA, KB, KC, KD, KE, KF, eq_self, ne_eq, ↓reduceIte, Nat.reduceLT, Nat.reduceEqDiff, Nat.reduceAdd, Nat.reduceLeDiff, Nat.reduceSub, Nat.reduceMul, reduceCtorEq]
    refine sort_nil (by omega) ?_
    simp (maxSteps := 200000) -implicitDefEqProofs only [KA, KB, KC, KD, KE, KF, eq_self, ne_eq, ↓reduceIte, Nat.reduceLT, Nat.reduceEqDiff, Nat.reduceAdd, Nat.reduceLeDiff, Nat.reduceSub, Nat.reduceMul, reduceCtorEq]
    refine hP _ _ ?_ (Fm.refl _ _) (fun j e => e.elim)
    subst h0
    rfl
  · simp (maxSteps := 200000) -implicitDefEqProofs only [KA, KB, KC, KD, KE, KF, eq_self, ne_eq, ↓reduceIte, Nat.reduceLT, Nat.reduceEqDiff, Nat.reduceAdd, Nat.reduceLeDiff, Nat.reduceSub, Nat.reduceMul, reduceCtorEq]
    refine sort_ok swoC cmpC (by omega) hA (by omega) fun h3 T hT1 hT2 hA3 f3 => ?_
    simp (maxSteps := 200000) -implicitDefEqProofs only [KA, KB, KC, KD, KE, KF, eq_self, ne_eq, ↓reduceIte, Nat.reduceLT, Nat.reduceEqDiff, Nat.reduceAdd, Nat.reduceLeDiff, Nat.reduceSub, Nat.reduceMul, reduceCtorEq]
    have e : T = srtC L := srt_uniq (hT1.trans (srtC_perm L).symm) hT2 (srtC_sorted L)
    subst e
    refine hP _ _ ?_ (f2.fresh f3 (fun j hj => by omega)) (fun j hj => by simp only [ownId] at hj; omega)
    obtain ⟨lw, g1, g2⟩ := hA3
    exact ⟨true, 0, lw, _, g2, g1, by rw [List.append_nil, List.length_map, srtC_len]; omega, by rw [List.append_nil, List.drop_zero, List.take_of_length_le (by rw [List.length_map, srtC_len]; omega)]⟩
end
end Camp

/-! CvVq2 -/
namespace Camp
open Go
set_option linter.unusedVariables false
set_option linter.unusedSimpArgs false
set_option maxHeartbeats 2000000
def lexL : List Int → List Int → Bool
  | a :: l, b :: m => if a = b then lexL l m else decide (a < b)
  | _, _ => false
def five (x : Cel) : List Int := [x.f, x.s, x.c, x.o, x.p]
def fiveV (x : Cel) : List CV := (five x).map (.int .i64)
theorem lexL_less (x y : Cel) : lexL (five x) (five y) = lessC x y := by
  unfold lessC lessB five
  simp only [lexL]
  rw [Bool.eq_iff_iff]
  split
  · split
    · split
      · split
        · split
          · simp; omega
          · simp; omega
        · simp; omega
      · simp; omega
    · simp; omega
  · simp; omega
section
variable {h : Hp} {sz : Nat} {v : CV} {rows : List (List CV)} {lc : List (List CV)}
theorem Ow.app0 (k : Ow h sz v rows) {x : TV} {xs : List (List CV)} (hx : sliceRows h lc sz x = some xs) {bytes : Nat} (hb : (rows.length + xs.length) * bytes ≤ room) :
    ∃ v' h', appT h lc sz bytes (.v (.c v)) x = some (v', h') ∧ Ow h' sz v' (rows ++ xs) ∧ Fm (ownId v) h h' ∧ (∀ j, ownId v' j → ownId v j ∨ h.n ≤ j) := by
  cases xs with
  | cons y ys => exact k.app hx (by simp) hb
  | nil =>
    refine ⟨v, h, ?_, by rw [List.append_nil]; exact k, Fm.refl _ _, fun j hj => .inl hj⟩
    cases v <;> simp only [Ow] at k
    case nils => simp only [appT, asC_c, Option.bind_some, hx, appRows]
    case sl id tok off len cap => simp only [appT, asC_c, Option.bind_some, hx, appRows]
/-- The last elements of such a slice. -/
theorem Ow.suf (k : Ow h sz v rows) (h0 : 0 < sz) {m : Int} (hm : 0 ≤ m ∧ m ≤ rows.length) :
    ∃ v', sliceT h sz (.v (.c v)) (some m) none none = some v' ∧ (∀ h', Fm (fun j => ¬ ownId v j) h h' → sliceT h' sz (.v (.c v)) (some m) none none = some v') ∧ SL h sz v' (rows.drop m.toNat) ∧ ∀ j, ownId v' j ↔ ownId v j := by
  cases v <;> simp only [Ow] at k
  case nils =>
    subst k
    have : m = 0 := by simp at hm; omega
    subst this
    refine ⟨.nils, ?_, fun h' _ => ?_, ?_, fun j => Iff.rfl⟩
    · simp [sliceT, sliceV, h0]
    · simp [sliceT, sliceV, h0]
    · simp [SL]
  case sl id tok off len cap =>
    obtain ⟨rfl, rfl, lw, rs, h1, h2, h3, rfl⟩ := k
    simp only [List.length_take] at hm
    have key : ∀ h' : Hp, h'.g id = some (.rows true sz tok lw rs) → sliceT h' sz (.v (.c (.sl id tok 0 len none))) (some m) none none = some (.sl id tok m.toNat (len - m.toNat) none) := by
      intro h' hg
      simp only [sliceT, sliceV, g_def, hg]
      rw [if_pos ⟨h0, trivial, h2⟩]
      unfold sliceB
      rw [if_pos]
      · simp
      · simp; omega
    refine ⟨_, key h h1, fun h' f => key h' (f.some h1 (fun e => e rfl)), ⟨true, tok, lw, rs, h1, h2, by omega, ?_⟩, fun j => Iff.rfl⟩
    rw [List.drop_take]
end
section
variable {k : Nat} {h : Hp} {P : AV → Hp → Prop}
def RlI (h : Hp) (x y : Cel) (m : Nat) (s : St) : Prop :=
  ∃ (i : Nat) (l : List (Nat × TV)), s = ST 48 l [encE x, encE y, fiveV x, fiveV y] h ∧ i ≤ 5 ∧ m = 5 - i ∧ lexL (five x) (five y) = lexL ((five x).drop i) ((five y).drop i) ∧
    lk l 5 = .lp 2 0 ∧ lk l 6 = .lp 3 0 ∧ lk l 30 = .v (.c (.int .i64 i))
theorem rless_ok {x y : Cel} (hP : P (.c (.bool (lessC x y))) h) : callW N (k + 1) 233 [.agg (encE x), .agg (encE y)] h P := by
  have e1 : encE x = [.int .i64 x.f, .int .i64 x.s, .int .i64 x.c, .int .i64 x.o, .int .i64 x.p] := rfl
  have e2 : encE y = [.int .i64 y.f, .int .i64 y.s, .int .i64 y.c, .int .i64 y.o, .int .i64 y.p] := rfl
  refine call_intro rfl (by simp only [List.length_cons, List.length_nil]; omega) ?_
  simp (maxSteps := 200000) -implicitDefEqProofs only [KA, KB, KC, KD, KE, KF, eq_self, ne_eq, ↓reduceIte, Nat.reduceLT, Nat.reduceEqDiff, Nat.reduceAdd, Nat.reduceLeDiff, Nat.reduceSub, Nat.reduceMul, reduceCtorEq, e1, e2]
  refine loop_rd (callW_mono N _) (RlI h x y) (n := 5) ⟨0, _, rfl, by omega, rfl, rfl, rfl, rfl, rfl⟩ ?_
  rintro m s ⟨i, l, rfl, hi, hm, hL, e5, e6, e30⟩
  by_cases hlt : (i : Int) < 5
  · have hil : i < 5 := by omega
    have j1 := iaA_l (n := 5) (sz := 1) (b := 2) (off := 0) (i := (i : Int)) (by omega)
    have j2 := iaA_l (n := 5) (sz := 1) (b := 3) (off := 0) (i := (i : Int)) (by omega)
    obtain ⟨a, ha⟩ : ∃ a, (five x)[i]? = some a := ⟨_, List.getElem?_eq_getElem (by simpa [five] using hil)⟩
    obtain ⟨b, hb⟩ : ∃ b, (five y)[i]? = some b := ⟨_, List.getElem?_eq_getElem (by simpa [five] using hil)⟩
    have s1 : (fiveV x)[(i : Int).toNat * 1]? = some (.int .i64 a) := by simp [fiveV, ha]
    have s2 : (fiveV y)[(i : Int).toNat * 1]? = some (.int .i64 b) := by simp [fiveV, hb]
    have hwi := wrap_i64 (n := (i : Int) + 1) (by omega)
    have hd : ∀ {L : List Int} {a : Int}, L[i]? = some a → L.drop i = a :: L.drop (i + 1) := fun {L a} h => by
      have hl : i < L.length := by
        rcases Nat.lt_or_ge i L.length with q | q
        · exact q
        · rw [List.getElem?_eq_none q] at h; cases h
      rw [List.drop_eq_getElem_cons hl]
      rw [List.getElem?_eq_getElem hl] at h
      rw [Option.some.inj h]
    rw [hd ha, hd hb, lexL] at hL
    by_cases c : a = b
    · have c' : decide (a = b) = true := decide_eq_true c
      rw [if_pos c] at hL
      simp (maxSteps := 200000) -implicitDefEqProofs only [KA, KB, KC, KD, KE, KF, eq_self, ne_eq, ↓reduceIte, Nat.reduceLT, Nat.reduceEqDiff, Nat.reduceAdd, Nat.reduceLeDiff, Nat.reduceSub, Nat.reduceMul, reduceCtorEq, e5, e6, e30, hlt, j1, j2, s1, s2, c', hwi, rd_n]
      exact ⟨m - 1, by omega, i + 1, _, rfl, by omega, by omega, hL, rfl, rfl, rfl⟩
    · rw [if_neg c] at hL
      rw [← lexL_less, hL] at hP
      simp (maxSteps := 200000) -implicitDefEqProofs only [KA, KB, KC, KD, KE, KF, eq_self, ne_eq, ↓reduceIte, Nat.reduceLT, Nat.reduceEqDiff, Nat.reduceAdd, Nat.reduceLeDiff, Nat.reduceSub, Nat.reduceMul, reduceCtorEq, e5, e6, e30, hlt, j1, j2, s1, s2, c]
      exact hP
  · have : i = 5 := by omega
    subst this
    rw [← lexL_less, hL] at hP
    simp (maxSteps := 200000) -implicitDefEqProofs only [KA, KB, KC, KD, KE, KF, eq_self, ne_eq, ↓reduceIte, Nat.reduceLT, Nat.reduceEqDiff, Nat.reduceAdd, Nat.reduceLeDiff, Nat.reduceSub, Nat.reduceMul, reduceCtorEq, e5, e6, e30, hlt]
    exact hP
theorem ins_at {x : Cel} : ∀ {S : List Cel} {k : Nat}, (∀ y ∈ S.take k, lessC x y = false) → k ≤ S.length → (k = S.length ∨ ∃ z, S[k]? = some z ∧ lessC x z = true) → insC x S = S.take k ++ ([x] ++ S.drop k)
  | [], 0, _, _, _ => rfl
  | [], k + 1, _, h, _ => by simp at h
  | y :: S, 0, _, _, h => by
    rcases h with h | ⟨z, hz, h⟩
    · simp at h
    · rw [List.getElem?_cons_zero] at hz
      have := Option.some.inj hz
      subst this
      rw [insC, if_pos h]
      rfl
  | y :: S, k + 1, h0, h1, h => by
    have hy := h0 y (by simp)
    rw [insC, if_neg (by rw [hy]; simp), ins_at (k := k) (fun z hz => h0 z (by simp [hz])) (by simpa using h1) (by simpa using h)]
    rfl
def RsA (h : Hp) (v : CV) (L : List Cel) (m : Nat) (s : St) : Prop :=
  ∃ (i : Nat) (w : CV) (h' : Hp) (l : List (Nat × TV)), s = ST 41 l [] h' ∧ i ≤ L.length ∧ m = L.length - i ∧ Ow h' 5 w ((srtC (L.take i)).map encE) ∧ Fn h h' ∧ (∀ j, ownId w j → h.n ≤ j) ∧
    lk l 3 = .v (.c w) ∧ lk l 7 = .v (.c v) ∧ lk l 8 = .v (.c (.int .i64 L.length)) ∧ lk l 9 = .v (.c (.int .i64 i))
def RsB (h : Hp) (v w : CV) (L S : List Cel) (i : Nat) (x : Cel) (m : Nat) (s : St) : Prop :=
  ∃ (k : Nat) (l : List (Nat × TV)), s = ST 41 l [encE x] h ∧ k ≤ S.length ∧ m = S.length - k ∧ (∀ y ∈ S.take k, lessC x y = false) ∧
    lk l 3 = .v (.c w) ∧ lk l 5 = .lp 0 0 ∧ lk l 6 = .v (.c (.int .i64 k)) ∧ lk l 7 = .v (.c v) ∧ lk l 8 = .v (.c (.int .i64 L.length)) ∧ lk l 9 = .v (.c (.int .i64 i))
theorem rsorted_ok {v : CV} {L : List Cel} (hs : SL h 5 v (L.map encE)) (hn : L.length ≤ 1000) (hP : ∀ h' u, Ow h' 5 u ((srtC L).map encE) → Fn h h' → (∀ j, ownId u j → h.n ≤ j) → P (.c u) h') : callW N (k + 2) 232 [.c v] h P := by
  have hlen : ∀ h' : Hp, lenT h' .sl (.v (.c v)) = some (L.length : Int) := fun h' => by rw [hs.len h', List.length_map]
  have henc : ∀ x, (encE x).length = 5 := fun _ => rfl
  have htk : ∀ x, (encE x).take 5 = encE x := fun _ => rfl
  refine call_intro rfl (by simp only [List.length_cons, List.length_nil]; omega) ?_
  simp (maxSteps := 200000) -implicitDefEqProofs only [KA, KB, KC, KD, KE, KF, eq_self, ne_eq, ↓reduceIte, Nat.reduceLT, Nat.reduceEqDiff, Nat.reduceAdd, Nat.reduceLeDiff, Nat.reduceSub, Nat.reduceMul, reduceCtorEq, hlen]
  refine loop_rd (callW_mono N _) (RsA h v L) (n := L.length) ⟨0, .nils, h, _, rfl, by omega, rfl, rfl, Fm.refl _ _, (fun j e => e.elim), rfl, rfl, rfl, rfl⟩ ?_
  rintro m s ⟨i, w, h1, l, rfl, hi, hm, hw, f1, hid, e3, e7, e8, e9⟩
  by_cases hlt : (i : Int) < (L.length : Int)
  · have hil : i < L.length := by omega
    obtain ⟨x, hx⟩ : ∃ x, L[i]? = some x := ⟨_, List.getElem?_eq_getElem hil⟩
    have hrow : (L.map encE)[(i : Int).toNat]? = some (encE x) := by simp [hx]
    obtain ⟨p1, p2, p3, a1, a2⟩ := (hs.new f1).at (by omega) hrow
    have hwi := wrap_i64 (n := (i : Int) + 1) (by omega)
    have hts : srtC (L.take (i + 1)) = insC x (srtC (L.take i)) := by
      rw [take_snoc hx]
      unfold srtC
      rw [List.foldl_append]
      rfl
    have hSl : (srtC (L.take i)).length ≤ 1000 := by rw [srtC_len, List.length_take]; omega
    generalize srtC (L.take i) = S at hw hts hSl
    have hwl : ∀ h' : Hp, lenT h' .sl (.v (.c w)) = some (S.length : Int) := fun h' => by rw [hw.sl.len h', List.length_map]
    simp (maxSteps := 200000) -implicitDefEqProofs only [KA, KB, KC, KD, KE, KF, eq_self, ne_eq, ↓reduceIte, Nat.reduceLT, Nat.reduceEqDiff, Nat.reduceAdd, Nat.reduceLeDiff, Nat.reduceSub, Nat.reduceMul, reduceCtorEq, e3, e7, e8, e9, hlt, a1, a2, henc, htk]
    refine loop_rd (callW_mono N _) (RsB h1 v w L S i x) (n := S.length) ⟨0, _, rfl, by omega, rfl, by simp, rfl, rfl, rfl, rfl, rfl, rfl⟩ ?_
    clear e3 e7 e8 e9
    rintro m2 s ⟨kk, l, rfl, hk, hm2, hbe, e3, e5, e6, e7, e8, e9⟩
    have hwk := wrap_i64 (n := (kk : Int) + 1) (by omega)
    have hcase : (kk = S.length ∧ ¬ (kk : Int) < (S.length : Int)) ∨ (∃ z, S[kk]? = some z ∧ (kk : Int) < (S.length : Int) ∧ lessC x z = true) ∨ (∃ z, S[kk]? = some z ∧ (kk : Int) < (S.length : Int) ∧ lessC x z = false) := by
      by_cases c : kk < S.length
      · obtain ⟨z, hz⟩ : ∃ z, S[kk]? = some z := ⟨_, List.getElem?_eq_getElem c⟩
        cases hl : lessC x z with
        | true => exact .inr (.inl ⟨z, hz, by omega, hl⟩)
        | false => exact .inr (.inr ⟨z, hz, by omega, hl⟩)
      · exact .inl ⟨by omega, by omega⟩
    rcases hcase with ⟨hA, hc⟩ | ⟨z, hz, hc, hB⟩ | ⟨z, hz, hc, hC⟩
    case' inr.inr =>
      have hrz : (S.map encE)[(kk : Int).toNat]? = some (encE z) := by simp [hz]
      obtain ⟨q1, q2, q3, b1, b2⟩ := hw.sl.at (by omega) hrz
      simp (maxSteps := 200000) -implicitDefEqProofs only [KA, KB, KC, KD, KE, KF, eq_self, ne_eq, ↓reduceIte, Nat.reduceLT, Nat.reduceEqDiff, Nat.reduceAdd, Nat.reduceLeDiff, Nat.reduceSub, Nat.reduceMul, reduceCtorEq, e3, e5, e6, e7, e8, e9, hwl, hc, b1, b2, henc, htk]
      refine rless_ok (k := k) ?_
      rw [hC]
      simp (maxSteps := 200000) -implicitDefEqProofs only [KA, KB, KC, KD, KE, KF, eq_self, ne_eq, ↓reduceIte, Nat.reduceLT, Nat.reduceEqDiff, Nat.reduceAdd, Nat.reduceLeDiff, Nat.reduceSub, Nat.reduceMul, reduceCtorEq, hwk, rd_n]
    case inr.inr =>
      refine ⟨m2 - 1, by omega, kk + 1, _, rfl, by omega, by omega, fun y hy => ?_, rfl, rfl, rfl, rfl, rfl, rfl⟩
      rw [take_snoc hz] at hy
      rcases List.mem_append.mp hy with hy | hy
      · exact hbe y hy
      · rw [List.mem_singleton.mp hy]; exact hC
    case' inl =>
      have hins := ins_at hbe hk (.inl hA)
    case' inr.inl =>
      have hins := ins_at hbe hk (.inr ⟨z, hz, hB⟩)
      have hrz : (S.map encE)[(kk : Int).toNat]? = some (encE z) := by simp [hz]
      obtain ⟨q1, q2, q3, b1, b2⟩ := hw.sl.at (by omega) hrz
    all_goals
      rw [hins] at hts
      have hfR := Fm.reserve (fun _ => False) h1 1
      have hwR := hw.new hfR
      have hn1 : (h1.reserve 1).n = h1.n + 1 := n_reserve _ _
      have hv1 : ∀ j, ownId w j → j < h1.n := fun j hj => hw.lt hj
      obtain ⟨va, pa, oa, ida⟩ := hwR.pre (m := (kk : Int)) (by omega) (by rw [List.length_map]; omega)
      obtain ⟨vb, pb, pbm, sb, idb⟩ := hwR.suf (m := (kk : Int)) (by omega) (by rw [List.length_map]; omega)
      have o0 : Ow (h1.reserve 1) 5 .nils ([] : List (List CV)) := rfl
      rw [Int.toNat_natCast] at oa sb
      have hlA : ((S.map encE).take kk).length ≤ 1000 := by rw [List.length_take, List.length_map]; omega
      have hlB : ((S.map encE).drop kk).length ≤ 1000 := by rw [List.length_drop, List.length_map]; omega
      obtain ⟨u1, h2, f2, o2, m2', d2⟩ := o0.app0 (lc := [encE x]) (oa.sl.read (lc := [encE x])) (bytes := 40) (by simp only [room, List.length_nil]; omega)
      have hu1 : ∀ j, ownId u1 j → h1.n + 1 ≤ j := fun j hj => (d2 j hj).elim (fun e => e.elim) (fun e => by omega)
      have hd2 := m2'.some (dead_one h1) (fun e => e)
      have hs2 := pbm h2 (m2'.mono (fun _ _ e => e.elim))
      obtain ⟨h3, hh3⟩ : ∃ h3, h3 = h2.put h1.n (.rows true 5 0 0 [encE x]) := ⟨_, rfl⟩
      have m3 : Fm (fun j => j = h1.n) h2 h3 := by rw [hh3]; exact Fm.put _ _ rfl
      have hl3 : h3.g h1.n = some (.rows true 5 0 0 [encE x]) := by rw [hh3, g_put_eq, hd2]; rfl
      have hsl3 : SL h3 5 (.sl h1.n 0 0 1 (some 1)) [encE x] := ⟨true, 0, 0, _, hl3, Nat.le_refl _, Nat.le_refl _, rfl⟩
      have o3 := o2.mono m3 (fun j hj e => by have := hu1 j hj; omega)
      rw [List.nil_append] at o3
      obtain ⟨u2, h4, f4, o4, m4, d4⟩ := o3.app0 (lc := [encE x]) (hsl3.read (lc := [encE x])) (bytes := 40) (by simp only [room, List.length_singleton]; omega)
      have mR4 : Fm (fun j => ¬ ownId w j) (h1.reserve 1) h4 := ((m2'.mono (S' := fun j => ¬ ownId w j) (fun _ _ e => e.elim)).comp m3 (fun j _ e e2 => by have := hv1 j e2; omega)).comp m4 (fun j _ e e2 => by have := hv1 j e2; have := hu1 j e; omega)
      have hs4 := pbm h4 mR4
      have sb4 : SL h4 5 vb _ := sb.mono mR4 (fun id tok off len cap e e2 => e2 ((idb id).mp (by rw [e]; rfl)))
      have hn3 : h1.n + 1 ≤ h3.n := by have := m3.n; have := m2'.n; omega
      have hu2 : ∀ j, ownId u2 j → h1.n + 1 ≤ j := fun j hj => (d4 j hj).elim (hu1 j) (fun e => by omega)
      obtain ⟨u3, h5, f5, o5, m5, d5⟩ := o4.app0 (lc := [encE x]) (sb4.read (lc := [encE x])) (bytes := 40) (by rw [List.length_append]; simp only [room, List.length_singleton]; omega)
      have hu3 : ∀ j, ownId u3 j → h1.n + 1 ≤ j := fun j hj => (d5 j hj).elim (hu2 j) (fun e => by have := m4.n; omega)
      have hfold3 : h2.put h1.n (.rows true 5 0 0 [encE x]) = h3 := hh3.symm
      have e1 : encE x = [.int .i64 x.f, .int .i64 x.s, .int .i64 x.c, .int .i64 x.o, .int .i64 x.p] := rfl
      have fr : Fn h h5 := (((f1.trans hfR).trans m2').fresh m3 (fun j hj => by have := f1.n; omega)).fresh m4 (fun j hj => by have := hu1 j hj; have := f1.n; omega) |>.fresh m5 (fun j hj => by have := hu2 j hj; have := f1.n; omega)
    case inr.inl =>
      simp (maxSteps := 200000) -implicitDefEqProofs only [KA, KB, KC, KD, KE, KF, eq_self, ne_eq, ↓reduceIte, Nat.reduceLT, Nat.reduceEqDiff, Nat.reduceAdd, Nat.reduceLeDiff, Nat.reduceSub, Nat.reduceMul, reduceCtorEq, e3, e5, e6, e7, e8, e9, hwl, hc, b1, b2, henc, htk]
      refine rless_ok (k := k) ?_
      rw [hB]
      simp (maxSteps := 200000) -implicitDefEqProofs only [KA, KB, KC, KD, KE, KF, eq_self, ne_eq, ↓reduceIte, Nat.reduceLT, Nat.reduceEqDiff, Nat.reduceAdd, Nat.reduceLeDiff, Nat.reduceSub, Nat.reduceMul, reduceCtorEq, henc, htk, n_def, pa, pb, f2, hs2, hd2, chunks, hfold3, f4, hs4, f5, hwi, rd_n]
      refine ⟨m - 1, by omega, i + 1, u3, h5, _, rfl, by omega, by omega, ?_, fr, (fun j hj => by have := hu3 j hj; have := f1.n; omega), rfl, rfl, rfl, rfl⟩
      rw [hts]
      simpa using o5
    case inl =>
      simp (maxSteps := 200000) -implicitDefEqProofs only [KA, KB, KC, KD, KE, KF, eq_self, ne_eq, ↓reduceIte, Nat.reduceLT, Nat.reduceEqDiff, Nat.reduceAdd, Nat.reduceLeDiff, Nat.reduceSub, Nat.reduceMul, reduceCtorEq, e3, e5, e6, e7, e8, e9, hwl, hc, henc, htk, n_def, pa, pb, f2, hs2, hd2, chunks, hfold3, f4, hs4, f5, hwi, rd_n]
      refine ⟨m - 1, by omega, i + 1, u3, h5, _, rfl, by omega, by omega, ?_, fr, (fun j hj => by have := hu3 j hj; have := f1.n; omega), rfl, rfl, rfl, rfl⟩
      rw [hts]
      simpa using o5
  · have : i = L.length := by omega
    subst this
    rw [List.take_length] at hw
    simp (maxSteps := 200000) -implicitDefEqProofs only [KA, KB, KC, KD, KE, KF, eq_self, ne_eq, ↓reduceIte, Nat.reduceLT, Nat.reduceEqDiff, Nat.reduceAdd, Nat.reduceLeDiff, Nat.reduceSub, Nat.reduceMul, reduceCtorEq, e3, e7, e8, e9, hlt]
    exact hP _ _ hw f1 hid
end
end Camp

/-! CvVq3 -/
namespace Camp
open Go
set_option linter.unusedVariables false
set_option linter.unusedSimpArgs false
set_option maxHeartbeats 2000000
/-- Different entries are of different nodes. -/
def UQ (F : ME → Int × List Cel) (V : List ME) : Prop := ∀ a ∈ V, ∀ b ∈ V, (F a).1 = (F b).1 → a = b
open Classical in
noncomputable def tvf (F : ME → Int × List Cel) (V : List ME) (i : Nat) : List Cel := if h : ∃ e ∈ V, (F e).1 = (i : Int) then srtC (F (Classical.choose h)).2 else []
section
variable {F : ME → Int × List Cel} {V : List ME}
theorem tvf_in (hu : UQ F V) {e : ME} {i : Nat} (he : e ∈ V) (hi : (F e).1 = (i : Int)) : tvf F V i = srtC (F e).2 := by
  have h : ∃ e ∈ V, (F e).1 = (i : Int) := ⟨e, he, hi⟩
  unfold tvf
  rw [dif_pos h]
  have hs := Classical.choose_spec h
  rw [hu _ hs.1 _ he (hs.2.trans hi.symm)]
theorem tvf_out {i : Nat} (h : ¬ ∃ e ∈ V, (F e).1 = (i : Int)) : tvf F V i = [] := by
  unfold tvf
  rw [dif_neg h]
theorem tvf_perm {W : List ME} (hu : UQ F W) (hm : ∀ e, e ∈ V ↔ e ∈ W) : tvf F V = tvf F W := by
  funext i
  by_cases h : ∃ e ∈ W, (F e).1 = (i : Int)
  · obtain ⟨e, he, hi⟩ := h
    rw [tvf_in hu he hi, tvf_in (fun a ha b hb => hu a ((hm a).mp ha) b ((hm b).mp hb)) ((hm e).mpr he) hi]
  · rw [tvf_out h, tvf_out (fun ⟨e, he, hi⟩ => h ⟨e, (hm e).mp he, hi⟩)]
theorem rfl1_perm (x : Nat) {A B : List Cel} (h : A.Perm B) : (rfl1 x A).Perm (rfl1 x B) := h.map _
theorem flat_tvf : ∀ {V : List ME}, UQ F V → V.Nodup → (∀ e ∈ V, nodeP (F e).1) → (flatM F V).Perm (rf 16 (tvf F V))
  | [], _, _, _ => by
    have : tvf F [] = fun _ => [] := by funext i; exact tvf_out (by simp)
    rw [this]
    simp [flatM, rf, rfl1]
  | e :: V, hu, hn, hp => by
    rw [List.nodup_cons] at hn
    have hu' : UQ F V := fun a ha b hb => hu a (by simp [ha]) b (by simp [hb])
    have ih := flat_tvf hu' hn.2 (fun a ha => hp a (by simp [ha]))
    have hpe := hp e (by simp)
    obtain ⟨x, hx⟩ : ∃ x : Nat, (F e).1 = x := ⟨(F e).1.toNat, by unfold nodeP at hpe; omega⟩
    have hx16 : x < 16 := by unfold nodeP at hpe; omega
    have h0 : tvf F V x = [] := tvf_out fun ⟨a, ha, hi⟩ => hn.1 (by rw [hu e (by simp) a (by simp [ha]) (hx.trans hi.symm)]; exact ha)
    have h1 : tvf F (e :: V) x = srtC (F e).2 := tvf_in hu (by simp) hx
    have h2 : ∀ y, y ≠ x → tvf F (e :: V) y = tvf F V y := fun y hy => by
      by_cases h : ∃ a ∈ V, (F a).1 = (y : Int)
      · obtain ⟨a, ha, hi⟩ := h
        rw [tvf_in hu (by simp [ha]) hi, tvf_in hu' ha hi]
      · rw [tvf_out h, tvf_out]
        rintro ⟨a, ha, hi⟩
        rcases List.mem_cons.mp ha with rfl | ha
        · exact hy (by omega)
        · exact h ⟨a, ha, hi⟩
    have key := flat_upd (f := fun i => rfl1 i (tvf F V i)) (g := fun i => rfl1 i (tvf F (e :: V) i)) (l := List.range 16) List.nodup_range (List.mem_range.mpr hx16) (by rw [h0]; rfl) (fun y _ hy => by rw [h2 y hy])
    have e1 : flatM F (e :: V) = flatE F e ++ flatM F V := by simp [flatM]
    have e2 : (flatE F e).Perm (rfl1 x (tvf F (e :: V) x)) := by
      rw [h1]
      unfold flatE
      rw [hx]
      exact rfl1_perm x (srtC_perm _).symm
    rw [e1]
    exact (List.perm_append_comm.trans (ih.append e2)).trans key.symm
end
/-- A map of cells, as a table. -/
def CM (h : Hp) (c : CV) (n : Nat) (T : Nat → List Cel) : Prop :=
  (c = .nilm ∧ ∀ i, T i = []) ∨ ∃ (id : Nat) (es : List ME) (clock : Nat), c = .map id ∧ h.g id = some (.map true es clock) ∧ Ents (.int .i64) es clock ∧ (∀ e ∈ es, ∃ (i : Nat) (u : CV), i < n ∧ e.key = .c (.int .i64 i) ∧ e.val = .c u ∧ SL h 5 u ((T i).map encE)) ∧ ∀ i : Nat, T i ≠ [] → ∃ e ∈ es, e.key = .c (.int .i64 i)
/-- The rows of a map that is given. -/
structure Rm (h : Hp) (m : Nat) (es : List ME) (clock : Nat) (F : ME → Int × List Cel) : Prop where
  g : h.g m = some (.map true es clock)
  e : Ents (.int .i64) es clock
  f : ∀ e ∈ es, e.key = .c (.int .i64 (F e).1) ∧ ∃ v, e.val = .c v ∧ SL h 5 v ((F e).2.map encE)
  l : es.length ≤ 1048576
theorem Rm.new {h h' : Hp} {m : Nat} {es : List ME} {clock : Nat} {F : ME → Int × List Cel} (k : Rm h m es clock F) (f : Fn h h') : Rm h' m es clock F :=
  ⟨f.some k.g (fun e => e), k.e, fun e he => ⟨(k.f e he).1, by obtain ⟨v, h1, h2⟩ := (k.f e he).2; exact ⟨v, h1, h2.new f⟩⟩, k.l⟩
theorem Rm.uq {h : Hp} {m : Nat} {es : List ME} {clock : Nat} {F : ME → Int × List Cel} (k : Rm h m es clock F) : UQ F es := fun a ha b hb e => uniq_key k.e.uniq ha hb (by rw [(k.f a ha).1, (k.f b hb).1, e])
theorem flatM_len {F : ME → Int × List Cel} {c : Nat} : ∀ {V : List ME}, (∀ e ∈ V, (F e).2.length ≤ c) → (flatM F V).length ≤ V.length * c
  | [], _ => by simp [flatM]
  | e :: V, h => by
    have ih := flatM_len (V := V) (fun x hx => h x (by simp [hx]))
    have he := h e (by simp)
    have e1 : flatM F (e :: V) = flatE F e ++ flatM F V := by simp [flatM]
    rw [e1, List.length_append, List.length_cons, flatE, List.length_map]
    have : (V.length + 1) * c = V.length * c + c := by rw [Nat.add_mul, Nat.one_mul]
    omega
def okRow (n : Int) (r : Int × List Cel) : Prop := (0 ≤ r.1 ∧ r.1 < n) ∧ r.2.length ≤ 64
instance (n : Int) (r : Int × List Cel) : Decidable (okRow n r) := inferInstanceAs (Decidable (_ ∧ _))
/-- What is gone through, of a map that is read. -/
structure Vis (h : Hp) (it m : Nat) (es V : List ME) (clock : Nat) : Prop where
  sub : ∀ e ∈ V, e ∈ es
  nd : (V.map (·.born)).Nodup
  g : h.g m = some (.map true es clock)
  it : h.g it = some (.miter (some m) clock (V.map (·.born)) clock)
theorem Vis.len {h : Hp} {it m : Nat} {es V : List ME} {clock : Nat} (k : Vis h it m es V clock) : V.length ≤ es.length := by
  obtain ⟨R, hR⟩ := sub_perm k.nd k.sub
  have := hR.length_eq
  rw [List.length_append] at this
  omega
theorem Vis.all {h : Hp} {it m : Nat} {es V : List ME} {clock : Nat} (k : Vis h it m es V clock) (hE : Ents (.int .i64) es clock) (ha : ∀ e ∈ es, e.born ∈ V.map (·.born)) : ∀ e, e ∈ V ↔ e ∈ es := fun e => ⟨k.sub e, fun he => by
  obtain ⟨e', he', hb⟩ := List.mem_map.mp (ha e he)
  rwa [← born_mem hE.nd (k.sub e' he') he hb]⟩
theorem Vis.step {h : Hp} {it m : Nat} {es V : List ME} {clock : Nat} (k : Vis h it m es V clock) {e : ME} (he : e ∈ es) (hb : ¬ e.born ∈ V.map (·.born)) (hne : it ≠ m) :
    Vis (h.put it (.miter (some m) clock (V.map (·.born) ++ [e.born]) clock)) it m es (V ++ [e]) clock := by
  refine ⟨fun x hx => ?_, ?_, ?_, ?_⟩
  · rcases List.mem_append.mp hx with hx | hx
    · exact k.sub x hx
    · rw [List.mem_singleton.mp hx]; exact he
  · rw [List.map_append, List.nodup_append]
    refine ⟨k.nd, by simp, ?_⟩
    intro a ha b hb2
    simp at hb2
    subst hb2
    rintro rfl
    exact hb ha
  · rw [g_put_ne _ _ hne]; exact k.g
  · rw [g_put_eq, k.it, List.map_append]; rfl
theorem Vis.mono {h h' : Hp} {it m : Nat} {es V : List ME} {clock : Nat} {S : Nat → Prop} (k : Vis h it m es V clock) (f : Fm S h h') (h1 : ¬ S m) (h2 : ¬ S it) : Vis h' it m es V clock := ⟨k.sub, k.nd, f.some k.g h1, f.some k.it h2⟩
/-- The map that is made, so far. -/
def Mk (h : Hp) (x : Nat) (F : ME → Int × List Cel) (V : List ME) : Prop :=
  ∃ (es2 : List ME) (c2 : Nat), h.g x = some (.map true es2 c2) ∧ Ents (.int .i64) es2 c2 ∧ (∀ e ∈ es2, ∃ e0 ∈ V, ∃ u, e.key = .c (.int .i64 (F e0).1) ∧ e.val = .c u ∧ SL h 5 u ((srtC (F e0).2).map encE)) ∧ ∀ e0 ∈ V, ∃ e ∈ es2, e.key = .c (.int .i64 (F e0).1)
theorem SL.notO {h : Hp} {v : CV} {rows : List (List CV)} {j : Nat} (k : SL h 5 v rows) (hj : ∀ wr cur lw rs, h.g j ≠ some (.rows wr 5 cur lw rs)) : ∀ id tok off len cap, v = .sl id tok off len cap → ¬ id = j := by
  rintro id tok off len cap rfl rfl
  obtain ⟨wr, cur, lw, rs, h1, _⟩ := k
  exact hj _ _ _ _ h1
section
variable {k : Nat} {h : Hp} {P : AV → Hp → Prop}
def BgI (h : Hp) (b m : Nat) (F : ME → Int × List Cel) (n : Nat) (es : List ME) (clock : Nat) (q : Nat) (s : St) : Prop :=
  ∃ (V : List ME) (h' : Hp) (l : List (Nat × TV)) (lc : List (List CV)), s = ST 66 l lc h' ∧ q = es.length - V.length ∧ Vis h' (h.n + 1) m es V clock ∧ (∀ e ∈ V, okRow n (F e)) ∧ Mk h' h.n F V ∧ Fn h h' ∧ h.n + 2 ≤ h'.n ∧
    lk l 0 = .v (.c (.ptr b 0 0 0)) ∧ lk l 1 = .v (.c (.map m)) ∧ lk l 6 = .v (.c (.map h.n)) ∧ lk l 18 = .v (.c (.it (h.n + 1)))
theorem bbegin_ok {b m clock n : Nat} {es : List ME} {F : ME → Int × List Cel} {v l : Int} {c rd : CV} (hn : n ≤ 16) (hl : 0 ≤ l ∧ l ≤ 1000000) (hb : Bk h b n v l c .nilm rd) (hm : Rm h m es clock F)
    (h0 : ¬ (∀ e ∈ es, okRow n (F e)) → ∀ h', Fn h h' → P (.tup [.c (.int .i64 0), .c (.int .i64 1)]) h')
    (h1 : (∀ e ∈ es, okRow n (F e)) → ¬ cleanP (flatM F es) → ∀ h', Fn h h' → P (.tup [.c (.int .i64 0), .c (.int .i64 9)]) h')
    (h2 : (∀ e ∈ es, okRow n (F e)) → cleanP (flatM F es) → 1000000 ≤ l → ∀ h', Fn h h' → P (.tup [.c (.int .i64 0), .c (.int .i64 5)]) h')
    (h3 : (∀ e ∈ es, okRow n (F e)) → cleanP (flatM F es) → l < 1000000 → ∀ h' x ri, Bk h' b n v (l + 1) c (.map x) (.map ri) → Fm (fun j => j = b) h h' → CM h' (.map x) n (tvf F es) → h'.g ri = some (.map true [] 0) → h.n ≤ x → h.n ≤ ri → x ≠ ri → P (.tup [.c (.int .i64 (l + 1)), .c (.int .i64 0)]) h') :
    callW N (k + 90) 132 [.c (.ptr b 0 0 0), .c (.map m)] h P := by
  have hb0 : h.g b = _ := hb
  obtain ⟨g1, hg1⟩ : ∃ g1, g1 = h.push (.map true [] 0) := ⟨_, rfl⟩
  have f1 : Fn h g1 := by rw [hg1]; exact Fm.push _ _ _
  have n1 : g1.n = h.n + 1 := by rw [hg1, n_push]
  have gx1 : g1.g h.n = some (.map true [] 0) := by rw [hg1, g_push_eq]
  have hfold := hg1.symm
  have hmm : m < h.n := lt_of_g hm.g
  have hbn : b < h.n := lt_of_g hb0
  have hrg := rgn_map (f1.some hm.g (fun e => e)) (lc := [])
  obtain ⟨g2, hg2⟩ : ∃ g2, g2 = g1.push (.miter (some m) clock [] clock) := ⟨_, rfl⟩
  have f2 : Fn g1 g2 := by rw [hg2]; exact Fm.push _ _ _
  have n2 : g2.n = h.n + 2 := by rw [hg2, n_push, n1]
  rw [← hg2] at hrg
  have gi2 : g2.g (h.n + 1) = some (.miter (some m) clock [] clock) := by rw [hg2, ← n1, g_push_eq]
  refine call_intro rfl (by simp only [List.length_cons, List.length_nil]; omega) ?_
  simp (maxSteps := 200000) -implicitDefEqProofs only [KA, KB, KC, KD, KE, KF, eq_self, ne_eq, ↓reduceIte, Nat.reduceLT, Nat.reduceEqDiff, Nat.reduceAdd, Nat.reduceLeDiff, Nat.reduceSub, Nat.reduceMul, reduceCtorEq, hb0, b_mn4, hfold, hrg]
  refine loop_rd (callW_mono N _) (BgI h b m F n es clock) (n := es.length) ⟨[], g2, _, _, rfl, rfl, ⟨by simp, by simp, (f1.trans f2).some hm.g (fun e => e), gi2⟩, by simp, ⟨[], 0, f2.some gx1 (fun e => e), Ents.nil _ _, by simp, by simp⟩, f1.trans f2, by omega, rfl, rfl, rfl, by rw [n1]; rfl⟩ ?_
  clear gi2 hrg
  rintro q s ⟨V, g3, l', lc, rfl, hq, hV, hok, hMk, f3, n3, e0, e1, e6, e18⟩
  simp (maxSteps := 200000) -implicitDefEqProofs only [KA, KB, KC, KD, KE, KF, eq_self, ne_eq, ↓reduceIte, Nat.reduceLT, Nat.reduceEqDiff, Nat.reduceAdd, Nat.reduceLeDiff, Nat.reduceSub, Nat.reduceMul, reduceCtorEq, e0, e1, e6, e18]
  refine nx_map (id := h.n + 1) (m := m) (clock := clock) (seen := V.map (·.born)) (by simp only [evN_t, lk_cons, lk_nil]; rfl) hV.it hV.g hm.e.lt (fun e he hnb => ?_) fun hall => ?_
  · obtain ⟨g4, hg4⟩ : ∃ g4, g4 = g3.put (h.n + 1) (.miter (some m) clock (V.map (·.born) ++ [e.born]) clock) := ⟨_, rfl⟩
    have hV4 := hV.step he hnb (by omega)
    rw [← hg4] at hV4
    have f4' : Fm (fun j => j = h.n + 1) g3 g4 := by rw [hg4]; exact Fm.put _ _ rfl
    have f4 : Fn h g4 := f3.fresh f4' (fun j hj => by omega)
    have n4 : g4.n = g3.n := by rw [hg4, n_put]
    have hit := hV.it
    have keep4 : ∀ {v rows}, SL g3 5 v rows → SL g4 5 v rows := fun {v rows} hs => hs.mono f4' (hs.notO (by rw [hit]; rintro _ _ _ _ ⟨⟩))
    obtain ⟨hk, vv, hv, hsl⟩ := (hm.new f4).f e he
    have hit4 := hV4.it
    rw [List.map_append, List.map_singleton] at hit4
    have hen := entry_at hit4 hV4.g he hm.e.nd
    rw [hk, hv] at hen
    have hlen : ∀ h' : Hp, lenT h' .sl (.v (.c vv)) = some ((F e).2.length : Int) := fun h' => by rw [hsl.len h', List.length_map]
    have hfold4 := hg4.symm
    have hb4 : Bk g4 b n v l c .nilm rd := f4.some hb0 (fun e => e)
    simp (maxSteps := 200000) -implicitDefEqProofs only [KA, KB, KC, KD, KE, KF, eq_self, ne_eq, ↓reduceIte, Nat.reduceLT, Nat.reduceEqDiff, Nat.reduceAdd, Nat.reduceLeDiff, Nat.reduceSub, Nat.reduceMul, reduceCtorEq, hfold4, hen]
    refine bhas_ok (k := k + 88) hb4 ?_
    by_cases c1 : 0 ≤ (F e).1 ∧ (F e).1 < n
    · rw [decide_eq_true c1]
      by_cases c2 : (64 : Int) < ((F e).2.length : Int)
      · simp (maxSteps := 200000) -implicitDefEqProofs only [KA, KB, KC, KD, KE, KF, eq_self, ne_eq, ↓reduceIte, Nat.reduceLT, Nat.reduceEqDiff, Nat.reduceAdd, Nat.reduceLeDiff, Nat.reduceSub, Nat.reduceMul, reduceCtorEq, hlen, c2]
        exact h0 (fun ha => by have := (ha e he).2; omega) _ f4
      · simp (maxSteps := 200000) -implicitDefEqProofs only [KA, KB, KC, KD, KE, KF, eq_self, ne_eq, ↓reduceIte, Nat.reduceLT, Nat.reduceEqDiff, Nat.reduceAdd, Nat.reduceLeDiff, Nat.reduceSub, Nat.reduceMul, reduceCtorEq, hlen, c2]
        have hoke : okRow n (F e) := ⟨c1, by omega⟩
        refine sortedC_ok (by omega) hsl (by omega) fun g5 u hu f5 hui => ?_
        obtain ⟨es2, c2', m1, m2, m3, m4⟩ := hMk
        have m1' : g5.g h.n = some (.map true es2 c2') := f5.some (f4'.some m1 (by omega)) (fun e => e)
        obtain ⟨es3, c3, u1, u2, _, u4, u5, u6⟩ := mupd_bk (k := .c (.int .i64 (F e).1)) (x := .c u) m1' m2 rfl
        obtain ⟨g6, hg6⟩ : ∃ g6, g6 = g5.put h.n (.map true es3 c3) := ⟨_, rfl⟩
        have f6 : Fm (fun j => j = h.n) g5 g6 := by rw [hg6]; exact Fm.put _ _ rfl
        rw [← hg6] at u1
        have keep6 : ∀ {v rows}, SL g5 5 v rows → SL g6 5 v rows := fun {v rows} hs => hs.mono f6 (hs.notO (by rw [m1']; rintro _ _ _ _ ⟨⟩))
        simp (maxSteps := 200000) -implicitDefEqProofs only [KA, KB, KC, KD, KE, KF, eq_self, ne_eq, ↓reduceIte, Nat.reduceLT, Nat.reduceEqDiff, Nat.reduceAdd, Nat.reduceLeDiff, Nat.reduceSub, Nat.reduceMul, reduceCtorEq, u1, rd_n]
        have n5 := f5.n
        have hV6 := (hV4.mono f5 (fun e => e) (fun e => e)).mono f6 (by omega) (by omega)
        have hVl := hV6.len
        rw [List.length_append, List.length_singleton] at hVl
        refine ⟨q - 1, by omega, V ++ [e], g6, _, _, rfl, by rw [List.length_append, List.length_singleton]; omega, hV6, fun x hx => ?_, ⟨es3, c3, by rw [hg6, g_put_eq, m1']; rfl, u2, fun x hx => ?_, fun x hx => ?_⟩, (f4.trans f5).fresh f6 (fun j hj => by omega), by rw [hg6, n_put]; omega, rfl, rfl, rfl, rfl⟩
        · rcases List.mem_append.mp hx with hx | hx
          · exact hok x hx
          · rw [List.mem_singleton.mp hx]; exact hoke
        · rcases u4 x hx with ⟨k1, k2⟩ | ⟨_, x0, hx0, k1, k2⟩
          · exact ⟨e, by simp, u, k1, k2, keep6 hu⟩
          · obtain ⟨y, hy, w, j1, j2, j3⟩ := m3 x0 hx0
            exact ⟨y, by simp [hy], w, by rw [← k1]; exact j1, by rw [← k2]; exact j2, keep6 ((keep4 j3).new f5)⟩
        · rcases List.mem_append.mp hx with hx | hx
          · obtain ⟨y, hy, j1⟩ := m4 x hx
            by_cases hke : y.key = .c (.int .i64 (F e).1)
            · obtain ⟨z, hz, z1, _⟩ := u5
              exact ⟨z, hz, by rw [z1, ← hke]; exact j1⟩
            · obtain ⟨z, hz, z1, _⟩ := u6 y hy hke
              exact ⟨z, hz, z1.trans j1⟩
          · rw [List.mem_singleton.mp hx]
            obtain ⟨z, hz, z1, _⟩ := u5
            exact ⟨z, hz, z1⟩
    · rw [decide_eq_false c1]
      simp (maxSteps := 200000) -implicitDefEqProofs only [KA, KB, KC, KD, KE, KF, eq_self, ne_eq, ↓reduceIte, Nat.reduceLT, Nat.reduceEqDiff, Nat.reduceAdd, Nat.reduceLeDiff, Nat.reduceSub, Nat.reduceMul, reduceCtorEq]
      exact h0 (fun ha => c1 (ha e he).1) _ f4
  · have hVe := hV.all hm.e hall
    have hoka : ∀ e ∈ es, okRow n (F e) := fun e he => hok e ((hVe e).mpr he)
    have hb3 : g3.g b = _ := f3.some hb0 (fun e => e)
    simp (maxSteps := 200000) -implicitDefEqProofs only [KA, KB, KC, KD, KE, KF, eq_self, ne_eq, ↓reduceIte, Nat.reduceLT, Nat.reduceEqDiff, Nat.reduceAdd, Nat.reduceLeDiff, Nat.reduceSub, Nat.reduceMul, reduceCtorEq, e0, e1, e6]
    refine clean_ok (k := k + 81) (F := F) ((hm.new f3).g) hm.e.lt hm.e.nd (hm.new f3).f ?_ fun g4 f4 => ?_
    · have h1 := flatM_len (F := F) (c := 64) (V := es) (fun e he => (hoka e he).2)
      have := hm.l
      omega
    have hb4 : g4.g b = _ := f4.some hb3 (fun e => e)
    by_cases c1 : cleanP (flatM F es)
    · rw [decide_eq_true c1]
      by_cases c2 : 1000000 ≤ l
      · simp (maxSteps := 200000) -implicitDefEqProofs only [KA, KB, KC, KD, KE, KF, eq_self, ne_eq, ↓reduceIte, Nat.reduceLT, Nat.reduceEqDiff, Nat.reduceAdd, Nat.reduceLeDiff, Nat.reduceSub, Nat.reduceMul, reduceCtorEq, hb4, c2]
        exact h2 hoka c1 c2 _ (f3.trans f4)
      · have wl := wrap_i64 (n := l + 1) (by omega)
        obtain ⟨g5, hg5⟩ : ∃ g5, g5 = g4.put b (.rows true 6 0 0 [[.int .i64 n, .int .i64 v, .int .i64 (l + 1), c, .nilm, rd]]) := ⟨_, rfl⟩
        have b5 : g5.g b = some (.rows true 6 0 0 [[.int .i64 n, .int .i64 v, .int .i64 (l + 1), c, .nilm, rd]]) := by rw [hg5, g_put_eq, hb4]; rfl
        obtain ⟨g6, hg6⟩ : ∃ g6, g6 = g5.push (.map true [] 0) := ⟨_, rfl⟩
        have n5 : g5.n = g4.n := by rw [hg5, n_put]
        have f6 : Fn g5 g6 := by rw [hg6]; exact Fm.push _ _ _
        have b6 : g6.g b = _ := f6.some b5 (fun e => e)
        have m6 : g6.g g4.n = some (.map true [] 0) := by rw [hg6, ← n5, g_push_eq]
        obtain ⟨g7, hg7⟩ : ∃ g7, g7 = g6.put b (.rows true 6 0 0 [[.int .i64 n, .int .i64 v, .int .i64 (l + 1), c, .map h.n, rd]]) := ⟨_, rfl⟩
        have b7 : g7.g b = some (.rows true 6 0 0 [[.int .i64 n, .int .i64 v, .int .i64 (l + 1), c, .map h.n, rd]]) := by rw [hg7, g_put_eq, b6]; rfl
        obtain ⟨g8, hg8⟩ : ∃ g8, g8 = g7.put b (.rows true 6 0 0 [[.int .i64 n, .int .i64 v, .int .i64 (l + 1), c, .map h.n, .map g4.n]]) := ⟨_, rfl⟩
        have b8 : g8.g b = some (.rows true 6 0 0 [[.int .i64 n, .int .i64 v, .int .i64 (l + 1), c, .map h.n, .map g4.n]]) := by rw [hg8, g_put_eq, b7]; rfl
        have F5 : Fm (fun j => j = b) g4 g5 := by rw [hg5]; exact Fm.put _ _ rfl
        have F7 : Fm (fun j => j = b) g6 g7 := by rw [hg7]; exact Fm.put _ _ rfl
        have F8 : Fm (fun j => j = b) g7 g8 := by rw [hg8]; exact Fm.put _ _ rfl
        have F48 : Fm (fun j => j = b) g4 g8 := ((F5.trans (f6.mono (fun _ _ e => e.elim))).trans F7).trans F8
        have e5 := hg5.symm
        have e6' := hg6.symm
        have e7 := hg7.symm
        have e8 := hg8.symm
        simp (maxSteps := 200000) -implicitDefEqProofs only [KA, KB, KC, KD, KE, KF, eq_self, ne_eq, ↓reduceIte, Nat.reduceLT, Nat.reduceEqDiff, Nat.reduceAdd, Nat.reduceLeDiff, Nat.reduceSub, Nat.reduceMul, reduceCtorEq, hb4, c2, wl, e5, b5, e6', b6, e7, b7, e8, b8, n5]
        have n4 := f4.n
        obtain ⟨es2, c2', m1, m2, m3, m4⟩ := hMk
        have hxb : h.n ≠ b := by omega
        refine h3 hoka c1 (by omega) g8 h.n g4.n b8 (((f3.trans f4).mono (fun _ _ e => e.elim)).trans F48) (.inr ⟨h.n, es2, c2', rfl, F48.some (f4.some m1 (fun e => e)) hxb, m2, fun x hx => ?_, fun i hi => ?_⟩) (((F7.trans F8)).some m6 (by omega)) (Nat.le_refl _) (by omega) (by omega)
        · obtain ⟨y, hy, w, j1, j2, j3⟩ := m3 x hx
          have hoy := hoka y ((hVe y).mp hy)
          refine ⟨(F y).1.toNat, w, by have := hoy.1; omega, by rw [j1]; congr 2; have := hoy.1; omega, j2, ?_⟩
          rw [tvf_in hm.uq ((hVe y).mp hy) (by have := hoy.1; omega)]
          exact (j3.new f4).mono F48 ((j3.new f4).notO (by rw [hb4]; simp))
        · have hex : ∃ e ∈ es, (F e).1 = (i : Int) := Classical.byContradiction fun hc => hi (tvf_out hc)
          obtain ⟨e, he, hei⟩ := hex
          obtain ⟨z, hz, z1⟩ := m4 e ((hVe e).mpr he)
          exact ⟨z, hz, by rw [z1, hei]⟩
    · rw [decide_eq_false c1]
      simp (maxSteps := 200000) -implicitDefEqProofs only [KA, KB, KC, KD, KE, KF, eq_self, ne_eq, ↓reduceIte, Nat.reduceLT, Nat.reduceEqDiff, Nat.reduceAdd, Nat.reduceLeDiff, Nat.reduceSub, Nat.reduceMul, reduceCtorEq]
      exact h1 hoka c1 _ (f3.trans f4)
end
end Camp

/-! CvVq4 -/
namespace Camp
open Go
set_option linter.unusedVariables false
set_option linter.unusedSimpArgs false
set_option maxHeartbeats 2000000
def mr (N : Nat) (f : Nat → CV) : List CV := (List.range N).map f
theorem mr_len (N : Nat) (f : Nat → CV) : (mr N f).length = N := by simp [mr]
theorem mr_get {N i : Nat} {f : Nat → CV} (h : i < N) : (mr N f)[i]? = some (f i) := by
  unfold mr
  rw [List.getElem?_map, List.getElem?_range h]
  rfl
theorem mr_none {N i : Nat} {f : Nat → CV} (h : N ≤ i) : (mr N f)[i]? = none := List.getElem?_eq_none (by rw [mr_len]; exact h)
theorem mr_splice {N o : Nat} {f g : Nat → CV} {cs : List CV} (ho : o + cs.length ≤ N) (hc : ∀ i, i < cs.length → cs[i]? = some (g (o + i))) (h : ∀ j, j < N → j < o ∨ o + cs.length ≤ j → g j = f j) :
    (mr N f).take o ++ (cs ++ (mr N f).drop (o + cs.length)) = mr N g := by
  have hl := mr_len N f
  apply List.ext_getElem?
  intro j
  by_cases h1 : j < o
  · rw [List.getElem?_append_left (by rw [List.length_take]; omega), List.getElem?_take, if_pos h1, mr_get (by omega), mr_get (by omega), h j (by omega) (.inl h1)]
  · rw [List.getElem?_append_right (by rw [List.length_take]; omega), List.length_take, show j - min o (mr N f).length = j - o by omega]
    by_cases h2 : j < o + cs.length
    · rw [List.getElem?_append_left (by omega), hc _ (by omega), mr_get (by omega), show o + (j - o) = j by omega]
    · rw [List.getElem?_append_right (by omega), List.getElem?_drop, show o + cs.length + (j - o - cs.length) = j by omega]
      by_cases h3 : j < N
      · rw [mr_get h3, mr_get h3, h j h3 (.inr (by omega))]
      · rw [mr_none (by omega), mr_none (by omega)]
theorem mr_set {N o : Nat} {f g : Nat → CV} {x : CV} (ho : o < N) (hx : x = g o) (h : ∀ j, j < N → j ≠ o → g j = f j) : (mr N f).take o ++ x :: (mr N f).drop (o + 1) = mr N g :=
  mr_splice (cs := [x]) (by simp; omega) (fun i hi => by
    obtain rfl : i = 0 := by simpa using hi
    simp [hx]) (fun j hj hjo => h j hj (by simp at hjo; omega))
def rbf (n v bg la : Int) (V1 V2 : Nat → CV) (F : Nat → Bool) (i : Nat) : CV :=
  if i = 0 then .int .i64 n else if i = 1 then .int .i64 v else if i = 2 then .int .i64 bg else if i = 3 then .int .i64 la else if i < 20 then V1 (i - 4) else if i < 36 then V2 (i - 20) else .bool (F (i - 36))
def RB (h : Hp) (r : Nat) (n v bg la : Int) (V1 V2 : Nat → CV) (F : Nat → Bool) : Prop := h.g r = some (.rows true 52 0 0 [mr 52 (rbf n v bg la V1 V2 F)])
/-- Sixteen slices, as a table. -/
def TV16 (h : Hp) (V : Nat → CV) (T : Nat → List Cel) : Prop := ∀ i, i < 16 → SL h 5 (V i) ((T i).map encE)
theorem TV16.new {h h' : Hp} {V : Nat → CV} {T : Nat → List Cel} (k : TV16 h V T) (f : Fn h h') : TV16 h' V T := fun i hi => (k i hi).new f
section
variable {k r : Nat} {n v bg la : Int} {V1 V2 : Nat → CV} {F : Nat → Bool} {h : Hp} {P : AV → Hp → Prop}
theorem RB.put {n' v' bg' la' : Int} {V1' V2' : Nat → CV} {F' : Nat → Bool} {L : List CV} (hr : RB h r n v bg la V1 V2 F) (e : L = mr 52 (rbf n' v' bg' la' V1' V2' F')) : RB (h.put r (.rows true 52 0 0 [L])) r n' v' bg' la' V1' V2' F' := by
  have hg : h.g r = _ := hr
  unfold RB
  rw [g_put_eq, hg, e]
  rfl
theorem rb0 : (mr 52 (rbf n v bg la V1 V2 F))[0]? = some (.int .i64 n) := mr_get (by omega)
theorem rb1 : (mr 52 (rbf n v bg la V1 V2 F))[1]? = some (.int .i64 v) := mr_get (by omega)
theorem rb2 : (mr 52 (rbf n v bg la V1 V2 F))[2]? = some (.int .i64 bg) := mr_get (by omega)
theorem rb3 : (mr 52 (rbf n v bg la V1 V2 F))[3]? = some (.int .i64 la) := mr_get (by omega)
theorem rb4 {i : Nat} (h : i < 16) : (mr 52 (rbf n v bg la V1 V2 F))[4 + i * 1]? = some (V1 i) := by
  rw [mr_get (by omega)]
  unfold rbf
  rw [if_neg (by omega), if_neg (by omega), if_neg (by omega), if_neg (by omega), if_pos (by omega)]
  congr 2
  omega
theorem rb36 {i : Nat} (h : i < 16) : (mr 52 (rbf n v bg la V1 V2 F))[36 + i * 1]? = some (.bool (F i)) := by
  rw [mr_get (by omega)]
  unfold rbf
  rw [if_neg (by omega), if_neg (by omega), if_neg (by omega), if_neg (by omega), if_neg (by omega), if_neg (by omega)]
  congr 3
  omega
theorem rbnew_ok {m : Int} (hP : ∀ h' r, RB h' r (max 1 (min m 16)) 0 0 0 (fun _ => .nils) (fun _ => .nils) (fun _ => false) → Fn h h' → P (.c (.ptr r 0 0 0)) h') : callW N (k + 1) 222 [.c (.int .i64 m)] h P := by
  refine call_intro rfl (by simp only [List.length_cons, List.length_nil]; omega) ?_
  simp (maxSteps := 200000) -implicitDefEqProofs only [KA, KB, KC, KD, KE, KF, eq_self, ne_eq, ↓reduceIte, Nat.reduceLT, Nat.reduceEqDiff, Nat.reduceAdd, Nat.reduceLeDiff, Nat.reduceSub, Nat.reduceMul, reduceCtorEq]
  refine hP _ h.n ?_ (Fm.push _ _ _)
  unfold RB
  rw [g_push_eq]
  rfl
theorem rready_state {i w : Int} (hr : RB h r n v bg la V1 V2 F) (hc : bg = 0 ∨ ¬ w = bg) (hP : P (.c (.int .i64 7)) h) : callW N (k + 1) 224 [.c (.ptr r 0 0 0), .c (.int .i64 i), .c (.int .i64 w)] h P := by
  have hg : h.g r = _ := hr
  have q2 := rb2 (n := n) (v := v) (bg := bg) (la := la) (V1 := V1) (V2 := V2) (F := F)
  refine call_intro rfl (by simp only [List.length_cons, List.length_nil]; omega) ?_
  by_cases c : bg = 0
  · have d : decide (bg = 0) = true := decide_eq_true c
    simp (maxSteps := 200000) -implicitDefEqProofs only [KA, KB, KC, KD, KE, KF, eq_self, ne_eq, ↓reduceIte, Nat.reduceLT, Nat.reduceEqDiff, Nat.reduceAdd, Nat.reduceLeDiff, Nat.reduceSub, Nat.reduceMul, reduceCtorEq, hg, q2, d]
    exact hP
  · have d := hc.resolve_left c
    simp (maxSteps := 200000) -implicitDefEqProofs only [KA, KB, KC, KD, KE, KF, eq_self, ne_eq, ↓reduceIte, Nat.reduceLT, Nat.reduceEqDiff, Nat.reduceAdd, Nat.reduceLeDiff, Nat.reduceSub, Nat.reduceMul, reduceCtorEq, hg, q2, c, d]
    exact hP
theorem rready_arg {i : Int} (hr : RB h r n v bg la V1 V2 F) (hc : ¬ bg = 0) (hi : ¬ (0 ≤ i ∧ i < n)) (hP : P (.c (.int .i64 1)) h) : callW N (k + 1) 224 [.c (.ptr r 0 0 0), .c (.int .i64 i), .c (.int .i64 bg)] h P := by
  have hg : h.g r = _ := hr
  have q2 := rb2 (n := n) (v := v) (bg := bg) (la := la) (V1 := V1) (V2 := V2) (F := F)
  have q0 := rb0 (n := n) (v := v) (bg := bg) (la := la) (V1 := V1) (V2 := V2) (F := F)
  have d : decide (bg = bg) = true := by simp
  refine call_intro rfl (by simp only [List.length_cons, List.length_nil]; omega) ?_
  by_cases c1 : i < 0
  · simp (maxSteps := 200000) -implicitDefEqProofs only [KA, KB, KC, KD, KE, KF, eq_self, ne_eq, ↓reduceIte, Nat.reduceLT, Nat.reduceEqDiff, Nat.reduceAdd, Nat.reduceLeDiff, Nat.reduceSub, Nat.reduceMul, reduceCtorEq, hg, q2, hc, d, c1]
    exact hP
  · have c2 : n ≤ i := by omega
    simp (maxSteps := 200000) -implicitDefEqProofs only [KA, KB, KC, KD, KE, KF, eq_self, ne_eq, ↓reduceIte, Nat.reduceLT, Nat.reduceEqDiff, Nat.reduceAdd, Nat.reduceLeDiff, Nat.reduceSub, Nat.reduceMul, reduceCtorEq, hg, q2, q0, hc, d, c1, c2]
    exact hP
theorem rready_old {i : Nat} (hr : RB h r n v bg la V1 V2 F) (hc : ¬ bg = 0) (hn : n ≤ 16) (hi : (i : Int) < n) (hF : F i = true) (hP : P (.c (.int .i64 8)) h) : callW N (k + 1) 224 [.c (.ptr r 0 0 0), .c (.int .i64 i), .c (.int .i64 bg)] h P := by
  have hg : h.g r = _ := hr
  have q2 := rb2 (n := n) (v := v) (bg := bg) (la := la) (V1 := V1) (V2 := V2) (F := F)
  have q0 := rb0 (n := n) (v := v) (bg := bg) (la := la) (V1 := V1) (V2 := V2) (F := F)
  have q36 := rb36 (n := n) (v := v) (bg := bg) (la := la) (V1 := V1) (V2 := V2) (F := F) (i := (i : Int).toNat) (by omega)
  rw [Int.toNat_natCast, hF] at q36
  have ia := iaA_p (n := 16) (sz := 1) (id := r) (tok := 0) (j := 0) (off := 36) (i := (i : Int)) (by omega)
  rw [Int.toNat_natCast] at ia
  have d : decide (bg = bg) = true := by simp
  have c1 : ¬ (i : Int) < 0 := by omega
  have c2 : ¬ n ≤ (i : Int) := by omega
  refine call_intro rfl (by simp only [List.length_cons, List.length_nil]; omega) ?_
  simp (maxSteps := 200000) -implicitDefEqProofs only [KA, KB, KC, KD, KE, KF, eq_self, ne_eq, ↓reduceIte, Nat.reduceLT, Nat.reduceEqDiff, Nat.reduceAdd, Nat.reduceLeDiff, Nat.reduceSub, Nat.reduceMul, reduceCtorEq, hg, q2, q0, hc, d, c1, c2, ia, q36]
  exact hP
theorem rready_new {i : Nat} (hr : RB h r n v bg la V1 V2 F) (hc : ¬ bg = 0) (hn : n ≤ 16) (hi : (i : Int) < n) (hF : F i = false) (hP : ∀ h', RB h' r n v bg la V1 V2 (fun j => j == i || F j) → Fm (fun j => j = r) h h' → P (.c (.int .i64 0)) h') : callW N (k + 1) 224 [.c (.ptr r 0 0 0), .c (.int .i64 i), .c (.int .i64 bg)] h P := by
  have hg : h.g r = _ := hr
  have q2 := rb2 (n := n) (v := v) (bg := bg) (la := la) (V1 := V1) (V2 := V2) (F := F)
  have q0 := rb0 (n := n) (v := v) (bg := bg) (la := la) (V1 := V1) (V2 := V2) (F := F)
  have q36 := rb36 (n := n) (v := v) (bg := bg) (la := la) (V1 := V1) (V2 := V2) (F := F) (i := (i : Int).toNat) (by omega)
  rw [Int.toNat_natCast, hF] at q36
  have ia := iaA_p (n := 16) (sz := 1) (id := r) (tok := 0) (j := 0) (off := 36) (i := (i : Int)) (by omega)
  rw [Int.toNat_natCast] at ia
  have d : decide (bg = bg) = true := by simp
  have c1 : ¬ (i : Int) < 0 := by omega
  have c2 : ¬ n ≤ (i : Int) := by omega
  have st := mr_set (N := 52) (f := rbf n v bg la V1 V2 F) (g := rbf n v bg la V1 V2 (fun j => j == i || F j)) (o := 36 + i * 1) (x := .bool true) (by omega) (by
    unfold rbf
    rw [if_neg (by omega), if_neg (by omega), if_neg (by omega), if_neg (by omega), if_neg (by omega), if_neg (by omega), show 36 + i * 1 - 36 = i by omega]
    simp) (fun j hj hji => by
    unfold rbf
    have e : (j - 36 == i) = (decide (j - 36 = i)) := rfl
    by_cases c : j < 36
    · simp only [c, if_true]
    · have : ¬ j - 36 = i := by omega
      have e2 : (j - 36 == i) = false := by simpa using this
      simp only [e2, Bool.false_or])
  have hln := mr_len 52 (rbf n v bg la V1 V2 F)
  refine call_intro rfl (by simp only [List.length_cons, List.length_nil]; omega) ?_
  simp (maxSteps := 200000) -implicitDefEqProofs only [KA, KB, KC, KD, KE, KF, eq_self, ne_eq, ↓reduceIte, Nat.reduceLT, Nat.reduceEqDiff, Nat.reduceAdd, Nat.reduceLeDiff, Nat.reduceSub, Nat.reduceMul, reduceCtorEq, hg, q2, q0, hc, d, c1, c2, ia, q36, hln, st]
  refine ⟨by omega, hP _ (RB.put hr rfl) (Fm.put _ _ rfl)⟩
theorem rabort_state (hr : RB h r n v 0 la V1 V2 F) (hP : P (.c (.int .i64 7)) h) : callW N (k + 1) 226 [.c (.ptr r 0 0 0)] h P := by
  have hg : h.g r = _ := hr
  have q2 := rb2 (n := n) (v := v) (bg := 0) (la := la) (V1 := V1) (V2 := V2) (F := F)
  have z : decide ((0 : Int) = 0) = true := rfl
  refine call_intro rfl (by simp only [List.length_cons, List.length_nil]; omega) ?_
  simp (maxSteps := 200000) -implicitDefEqProofs only [KA, KB, KC, KD, KE, KF, eq_self, ne_eq, ↓reduceIte, Nat.reduceLT, Nat.reduceEqDiff, Nat.reduceAdd, Nat.reduceLeDiff, Nat.reduceSub, Nat.reduceMul, reduceCtorEq, hg, q2, z]
  exact hP
theorem rb_set2 (bg' : Int) : (mr 52 (rbf n v bg la V1 V2 F)).take 2 ++ CV.int .i64 bg' :: (mr 52 (rbf n v bg la V1 V2 F)).drop (2 + 1) = mr 52 (rbf n v bg' la V1 V2 F) :=
  mr_set (by omega) rfl (fun j _ hj => by unfold rbf; simp [hj])
theorem rabort_ok (hr : RB h r n v bg la V1 V2 F) (hc : ¬ bg = 0) (hP : ∀ h', RB h' r n v 0 la V1 V2 F → Fm (fun j => j = r) h h' → P (.c (.int .i64 0)) h') : callW N (k + 1) 226 [.c (.ptr r 0 0 0)] h P := by
  have hg : h.g r = _ := hr
  have q2 := rb2 (n := n) (v := v) (bg := bg) (la := la) (V1 := V1) (V2 := V2) (F := F)
  have st := rb_set2 (n := n) (v := v) (bg := bg) (la := la) (V1 := V1) (V2 := V2) (F := F) 0
  have hln := mr_len 52 (rbf n v bg la V1 V2 F)
  refine call_intro rfl (by simp only [List.length_cons, List.length_nil]; omega) ?_
  simp (maxSteps := 200000) -implicitDefEqProofs only [KA, KB, KC, KD, KE, KF, eq_self, ne_eq, ↓reduceIte, Nat.reduceLT, Nat.reduceEqDiff, Nat.reduceAdd, Nat.reduceLeDiff, Nat.reduceSub, Nat.reduceMul, reduceCtorEq, hg, q2, hc, hln, st]
  first
  | exact hP _ (RB.put hr rfl) (Fm.put _ _ rfl)
  | exact ⟨by omega, hP _ (RB.put hr rfl) (Fm.put _ _ rfl)⟩
end
end Camp

/-! CvVq5 -/
namespace Camp
open Go
set_option linter.unusedVariables false
set_option linter.unusedSimpArgs false
set_option maxHeartbeats 2000000
/-- Who is not ready. -/
def wl (F : Nat → Bool) (n : Nat) : List Int := ((List.range n).filter fun i => !F i).map fun i : Nat => (i : Int)
theorem wl_succ (F : Nat → Bool) (n : Nat) : wl F (n + 1) = wl F n ++ (if F n = true then [] else [(n : Int)]) := by
  unfold wl
  rw [List.range_succ, List.filter_append, List.map_append]
  cases h : F n <;> simp [h]
theorem wl_len (F : Nat → Bool) (n : Nat) : (wl F n).length = left F n := by simp [wl, left]
section
variable {k r b : Nat} {n : Nat} {v bg la l : Int} {c : CV} {V1 V2 : Nat → CV} {F : Nat → Bool} {h : Hp} {P : AV → Hp → Prop}
def WtI (F : Nat → Bool) (h : Hp) (b : Nat) (n : Nat) (m : Nat) (st : St) : Prop :=
  ∃ (j : Nat) (w : CV) (h' : Hp) (l : List (Nat × TV)) (lc : List (List CV)), st = ST 34 l lc h' ∧ j ≤ n ∧ m = n - j ∧ Ow h' 1 w ((wl F j).map encI) ∧ Fn h h' ∧ (∀ i, ownId w i → h.n ≤ i) ∧
    lk l 0 = .v (.c (.ptr b 0 0 0)) ∧ lk l 3 = .v (.c w) ∧ lk l 17 = .v (.c (.int .i64 n)) ∧ lk l 18 = .v (.c (.int .i64 j))
theorem waitsL_ok {x r clock : Nat} {es : List ME} (hn : n ≤ 16) (hb : Bk h b n v l c (.map x) (.map r)) (hm : h.g r = some (.map true es clock)) (hM : IsMap (.int .i64) es (flM F))
    (hP : ∀ h' w, SL h' 1 w ((wl F n).map encI) → Fn h h' → P (.c w) h') : callW N (k + 1) 133 [.c (.ptr b 0 0 0)] h P := by
  have hb' := hb
  unfold Bk at hb'
  refine call_intro rfl (by simp only [List.length_cons, List.length_nil]; omega) ?_
  simp (maxSteps := 200000) -implicitDefEqProofs only [KA, KB, KC, KD, KE, KF, eq_self, ne_eq, ↓reduceIte, Nat.reduceLT, Nat.reduceEqDiff, Nat.reduceAdd, Nat.reduceLeDiff, Nat.reduceSub, Nat.reduceMul, reduceCtorEq, hb', b_mn1]
  refine loop_rd (callW_mono N _) (WtI F h b n) (n := n) ⟨0, .nils, h, _, _, rfl, Nat.zero_le _, rfl, rfl, Fm.refl _ _, fun _ e => e.elim, rfl, rfl, rfl, rfl⟩ ?_
  rintro m st ⟨j, w, h2, lt, lc, rfl, hj, hmn, how, hf, hid, e0, e3, e17, e18⟩
  have hb2 := hf.some hb' (fun e => e)
  have hm2 := hf.some hm (fun e => e)
  by_cases hlt : (j : Int) < n
  · have hl := look_ok (k := .c (.int .i64 j)) hm2 hM rfl
    have hw := wrap_i64 (n := (j : Int) + 1) (by omega)
    have h0 : (0 : Int) ≤ (j : Int) := by omega
    have hs := wl_succ F j
    cases hF : F j with
    | true =>
      rw [hF, if_pos rfl, List.append_nil] at hs
      have hv : flM F (.c (.int .i64 j)) = some (.c (.int .i64 1)) := by
        show (if 0 ≤ (j : Int) ∧ F (j : Int).toNat = true then some (AV.c (.int .i64 1)) else none) = _
        rw [Int.toNat_natCast, if_pos ⟨h0, hF⟩]
      rw [hv] at hl
      have z : ¬ ((1 : Int) = 0) := by omega
      simp (maxSteps := 200000) -implicitDefEqProofs only [KA, KB, KC, KD, KE, KF, eq_self, ne_eq, ↓reduceIte, Nat.reduceLT, Nat.reduceEqDiff, Nat.reduceAdd, Nat.reduceLeDiff, Nat.reduceSub, Nat.reduceMul, reduceCtorEq, e0, e3, e17, e18, hlt, hb2, hl, Option.getD_some, z, hw, rd_n]
      exact ⟨m - 1, by omega, j + 1, w, h2, _, _, rfl, by omega, by omega, by rw [hs]; exact how, hf, hid, rfl, rfl, rfl, rfl⟩
    | false =>
      rw [hF, if_neg (by simp)] at hs
      have hv : flM F (.c (.int .i64 j)) = none := by
        show (if 0 ≤ (j : Int) ∧ F (j : Int).toNat = true then some (AV.c (.int .i64 1)) else none) = _
        rw [Int.toNat_natCast, hF, if_neg (by simp)]
      rw [hv] at hl
      have z : decide ((0 : Int) = 0) = true := rfl
      have hle := left_le F j
      obtain ⟨w', h3, f1, f2, f3, f4⟩ := how.app (lc := [[.int .i64 j]]) (x := .lsl 0 1) (xs := [[.int .i64 j]]) rfl (by simp) (bytes := 8) (by rw [List.length_map, wl_len]; simp only [room, List.length_singleton]; omega)
      simp (maxSteps := 200000) -implicitDefEqProofs only [KA, KB, KC, KD, KE, KF, eq_self, ne_eq, ↓reduceIte, Nat.reduceLT, Nat.reduceEqDiff, Nat.reduceAdd, Nat.reduceLeDiff, Nat.reduceSub, Nat.reduceMul, reduceCtorEq, e0, e3, e17, e18, hlt, hb2, hl, Option.getD_none, z, f1, hw, rd_n]
      refine ⟨m - 1, by omega, j + 1, w', h3, _, _, rfl, by omega, by omega, by rw [hs, List.map_append]; exact f2, hf.comp f3 (fun i hi e => by have := hid _ e; omega), fun i hi => (f4 i hi).elim (hid i) (fun e => by have := hf.n; omega), rfl, rfl, rfl, rfl⟩
  · have hjn : j = n := by omega
    subst hjn
    simp (maxSteps := 200000) -implicitDefEqProofs only [KA, KB, KC, KD, KE, KF, eq_self, ne_eq, ↓reduceIte, Nat.reduceLT, Nat.reduceEqDiff, Nat.reduceAdd, Nat.reduceLeDiff, Nat.reduceSub, Nat.reduceMul, reduceCtorEq, e0, e3, e17, e18, hlt, rd_e]
    exact hP _ _ how.sl hf
def RwI (F : Nat → Bool) (h : Hp) (r : Nat) (n : Nat) (m : Nat) (st : St) : Prop :=
  ∃ (j : Nat) (w : CV) (h' : Hp) (l : List (Nat × TV)) (lc : List (List CV)), st = ST 32 l lc h' ∧ j ≤ n ∧ m = n - j ∧ Ow h' 1 w ((wl F j).map encI) ∧ Fn h h' ∧ (∀ i, ownId w i → h.n ≤ i) ∧
    lk l 0 = .v (.c (.ptr r 0 0 0)) ∧ lk l 3 = .v (.c w) ∧ lk l 8 = .v (.c (.int .i64 n)) ∧ lk l 9 = .v (.c (.int .i64 j))
/-- Of a book in which nothing has begun nobody is waited for. -/
theorem rwaits_ok (hr : RB h r n v bg la V1 V2 F) (hn : n ≤ 16) (hbg : 0 ≤ bg) (hP : ∀ h' w, SL h' 1 w ((if bg = 0 then [] else wl F n).map encI) → Fn h h' → P (.c w) h') : callW N (k + 1) 227 [.c (.ptr r 0 0 0)] h P := by
  have hg0 : h.g r = _ := hr
  have q0 := rb0 (n := n) (v := v) (bg := bg) (la := la) (V1 := V1) (V2 := V2) (F := F)
  have q2 := rb2 (n := n) (v := v) (bg := bg) (la := la) (V1 := V1) (V2 := V2) (F := F)
  obtain ⟨F', hF'⟩ : ∃ F' : Nat → Bool, F' = fun j => decide (bg = 0) || F j := ⟨_, rfl⟩
  refine call_intro rfl (by simp only [List.length_cons, List.length_nil]; omega) ?_
  simp (maxSteps := 200000) -implicitDefEqProofs only [KA, KB, KC, KD, KE, KF, eq_self, ne_eq, ↓reduceIte, Nat.reduceLT, Nat.reduceEqDiff, Nat.reduceAdd, Nat.reduceLeDiff, Nat.reduceSub, Nat.reduceMul, reduceCtorEq, hg0, q0]
  refine loop_rd (callW_mono N _) (RwI F' h r n) (n := n) ⟨0, .nils, h, _, _, rfl, Nat.zero_le _, rfl, rfl, Fm.refl _ _, fun _ e => e.elim, rfl, rfl, rfl, rfl⟩ ?_
  rintro m st ⟨j, w, h2, lt, lc, rfl, hj, hmn, how, hf, hid, e0, e3, e8, e9⟩
  have hg : h2.g r = _ := hf.some hg0 (fun e => e)
  by_cases hlt : (j : Int) < n
  · have hw := wrap_i64 (n := (j : Int) + 1) (by omega)
    have hs := wl_succ F' j
    by_cases c0 : 0 < bg
    · have hFj : F' j = F j := by rw [hF']; simp; omega
      have ia := iaA_p (n := 16) (sz := 1) (id := r) (tok := 0) (j := 0) (off := 36) (i := (j : Int)) (by omega)
      rw [Int.toNat_natCast] at ia
      have q36 := rb36 (n := n) (v := v) (bg := bg) (la := la) (V1 := V1) (V2 := V2) (F := F) (i := j) (by omega)
      cases hF : F j with
      | true =>
        rw [hFj, hF, if_pos rfl, List.append_nil] at hs
        rw [hF] at q36
        simp (maxSteps := 200000) -implicitDefEqProofs only [KA, KB, KC, KD, KE, KF, eq_self, ne_eq, ↓reduceIte, Nat.reduceLT, Nat.reduceEqDiff, Nat.reduceAdd, Nat.reduceLeDiff, Nat.reduceSub, Nat.reduceMul, reduceCtorEq, e0, e3, e8, e9, hlt, hg, q2, c0, ia, q36, hw, rd_n]
        exact ⟨m - 1, by omega, j + 1, w, h2, _, _, rfl, by omega, by omega, by rw [hs]; exact how, hf, hid, rfl, rfl, rfl, rfl⟩
      | false =>
        rw [hFj, hF, if_neg (by simp)] at hs
        rw [hF] at q36
        have hle := left_le F' j
        obtain ⟨w', h3, f1, f2, f3, f4⟩ := how.app (lc := [[.int .i64 j]]) (x := .lsl 0 1) (xs := [[.int .i64 j]]) rfl (by simp) (bytes := 8) (by rw [List.length_map, wl_len]; simp only [room, List.length_singleton]; omega)
        simp (maxSteps := 200000) -implicitDefEqProofs only [KA, KB, KC, KD, KE, KF, eq_self, ne_eq, ↓reduceIte, Nat.reduceLT, Nat.reduceEqDiff, Nat.reduceAdd, Nat.reduceLeDiff, Nat.reduceSub, Nat.reduceMul, reduceCtorEq, e0, e3, e8, e9, hlt, hg, q2, c0, ia, q36, f1, hw, rd_n]
        refine ⟨m - 1, by omega, j + 1, w', h3, _, _, rfl, by omega, by omega, by rw [hs, List.map_append]; exact f2, hf.comp f3 (fun i hi e => by have := hid _ e; omega), fun i hi => (f4 i hi).elim (hid i) (fun e => by have := hf.n; omega), rfl, rfl, rfl, rfl⟩
    · have hFj : F' j = true := by rw [hF']; simp; left; omega
      rw [hFj, if_pos rfl, List.append_nil] at hs
      simp (maxSteps := 200000) -implicitDefEqProofs only [KA, KB, KC, KD, KE, KF, eq_self, ne_eq, ↓reduceIte, Nat.reduceLT, Nat.reduceEqDiff, Nat.reduceAdd, Nat.reduceLeDiff, Nat.reduceSub, Nat.reduceMul, reduceCtorEq, e0, e3, e8, e9, hlt, hg, q2, c0, hw, rd_n]
      exact ⟨m - 1, by omega, j + 1, w, h2, _, _, rfl, by omega, by omega, by rw [hs]; exact how, hf, hid, rfl, rfl, rfl, rfl⟩
  · have hjn : j = n := by omega
    subst hjn
    have e : wl F' j = if bg = 0 then [] else wl F j := by
      rw [hF']
      by_cases c0 : bg = 0
      · simp [c0, wl]
      · simp [c0]
    rw [e] at how
    simp (maxSteps := 200000) -implicitDefEqProofs only [KA, KB, KC, KD, KE, KF, eq_self, ne_eq, ↓reduceIte, Nat.reduceLT, Nat.reduceEqDiff, Nat.reduceAdd, Nat.reduceLeDiff, Nat.reduceSub, Nat.reduceMul, reduceCtorEq, e0, e3, e8, e9, hlt, rd_e]
    exact hP _ _ how.sl hf
theorem rcommit_state (hr : RB h r n v bg la V1 V2 F) (hn : n ≤ 16) (hbg : 0 ≤ bg) (hc : bg = 0 ∨ ¬ left F n = 0) (hP : ∀ h', Fn h h' → P (.c (.int .i64 7)) h') : callW N (k + 2) 225 [.c (.ptr r 0 0 0)] h P := by
  have hg : h.g r = _ := hr
  have q2 := rb2 (n := n) (v := v) (bg := bg) (la := la) (V1 := V1) (V2 := V2) (F := F)
  refine call_intro rfl (by simp only [List.length_cons, List.length_nil]; omega) ?_
  by_cases c : bg = 0
  · have d : decide (bg = 0) = true := decide_eq_true c
    simp (maxSteps := 200000) -implicitDefEqProofs only [KA, KB, KC, KD, KE, KF, eq_self, ne_eq, ↓reduceIte, Nat.reduceLT, Nat.reduceEqDiff, Nat.reduceAdd, Nat.reduceLeDiff, Nat.reduceSub, Nat.reduceMul, reduceCtorEq, hg, q2, d]
    exact hP _ (Fm.refl _ _)
  · simp (maxSteps := 200000) -implicitDefEqProofs only [KA, KB, KC, KD, KE, KF, eq_self, ne_eq, ↓reduceIte, Nat.reduceLT, Nat.reduceEqDiff, Nat.reduceAdd, Nat.reduceLeDiff, Nat.reduceSub, Nat.reduceMul, reduceCtorEq, hg, q2, c]
    refine rwaits_ok (k := k) hr hn hbg fun h2 w hw f2 => ?_
    rw [if_neg c] at hw
    have hlen : ∀ h' : Hp, lenT h' .sl (.v (.c w)) = some ((left F n : Nat) : Int) := fun h' => by rw [hw.len h', List.length_map, wl_len]
    have z : (0 : Int) < ((left F n : Nat) : Int) := by have := hc.resolve_left c; omega
    simp (maxSteps := 200000) -implicitDefEqProofs only [KA, KB, KC, KD, KE, KF, eq_self, ne_eq, ↓reduceIte, Nat.reduceLT, Nat.reduceEqDiff, Nat.reduceAdd, Nat.reduceLeDiff, Nat.reduceSub, Nat.reduceMul, reduceCtorEq, hlen, z]
    exact hP _ f2
theorem rcommit_ok (hr : RB h r n v bg la V1 V2 F) (hn : n ≤ 16) (hbg : 0 < bg) (hc : left F n = 0) (hP : ∀ h', RB h' r n bg 0 la V2 V2 F → Fm (fun j => j = r) h h' → P (.c (.int .i64 0)) h') : callW N (k + 2) 225 [.c (.ptr r 0 0 0)] h P := by
  have hg : h.g r = _ := hr
  have q2 := rb2 (n := n) (v := v) (bg := bg) (la := la) (V1 := V1) (V2 := V2) (F := F)
  have hln := mr_len 52 (rbf n v bg la V1 V2 F)
  have c : ¬ bg = 0 := by omega
  refine call_intro rfl (by simp only [List.length_cons, List.length_nil]; omega) ?_
  simp (maxSteps := 200000) -implicitDefEqProofs only [KA, KB, KC, KD, KE, KF, eq_self, ne_eq, ↓reduceIte, Nat.reduceLT, Nat.reduceEqDiff, Nat.reduceAdd, Nat.reduceLeDiff, Nat.reduceSub, Nat.reduceMul, reduceCtorEq, hg, q2, c]
  refine rwaits_ok (k := k) hr hn (by omega) fun h2 w hw f2 => ?_
  rw [if_neg c] at hw
  have hlen : ∀ h' : Hp, lenT h' .sl (.v (.c w)) = some ((left F n : Nat) : Int) := fun h' => by rw [hw.len h', List.length_map, wl_len]
  have z : ¬ (0 : Int) < ((left F n : Nat) : Int) := by omega
  have hr2 : RB h2 r n v bg la V1 V2 F := f2.some hg (fun e => e)
  have hg2 : h2.g r = _ := hr2
  have hcut : ((mr 52 (rbf n v bg la V1 V2 F)).drop 20).take 16 = mr 16 V2 := by
    apply List.ext_getElem?
    intro j
    rw [List.getElem?_take]
    by_cases hj : j < 16
    · rw [if_pos hj, List.getElem?_drop, mr_get (by omega), mr_get hj]
      unfold rbf
      rw [if_neg (by omega), if_neg (by omega), if_neg (by omega), if_neg (by omega), if_neg (by omega), if_pos (by omega)]
      congr 2
      omega
    · rw [if_neg hj, mr_none (by omega)]
  have s1 := mr_set (N := 52) (f := rbf n v bg la V1 V2 F) (g := rbf n bg bg la V1 V2 F) (o := 1) (x := .int .i64 bg) (by omega) rfl (fun j _ hj => by unfold rbf; simp [hj])
  have hln1 := mr_len 52 (rbf n bg bg la V1 V2 F)
  have hln2 := mr_len 52 (rbf n bg bg la V2 V2 F)
  have hl16 := mr_len 16 V2
  have s2 := mr_splice (N := 52) (f := rbf n bg bg la V1 V2 F) (g := rbf n bg bg la V2 V2 F) (o := 4) (cs := mr 16 V2) (by rw [hl16]; omega) (fun i hi => by
    rw [hl16] at hi
    rw [mr_get hi]
    unfold rbf
    rw [if_neg (by omega), if_neg (by omega), if_neg (by omega), if_neg (by omega), if_pos (by omega)]
    congr 2
    omega) (fun j hj ho => by
    rw [hl16] at ho
    unfold rbf
    by_cases e : j < 4
    · by_cases e0 : j = 0
      · simp [e0]
      · by_cases e1 : j = 1
        · simp [e1]
        · by_cases e2 : j = 2
          · simp [e2]
          · have : j = 3 := by omega
            simp [this]
    · have e4 : ¬ j < 20 := by omega
      simp [e4])
  rw [hl16] at s2
  have s3 := rb_set2 (n := n) (v := bg) (bg := bg) (la := la) (V1 := V2) (V2 := V2) (F := F) 0
  obtain ⟨g1, hg1⟩ : ∃ g1, g1 = h2.put r (.rows true 52 0 0 [mr 52 (rbf n bg bg la V1 V2 F)]) := ⟨_, rfl⟩
  have t1 : RB g1 r n bg bg la V1 V2 F := by rw [hg1]; exact RB.put hr2 rfl
  obtain ⟨g2, hg2'⟩ : ∃ g2, g2 = g1.put r (.rows true 52 0 0 [mr 52 (rbf n bg bg la V2 V2 F)]) := ⟨_, rfl⟩
  have t2 : RB g2 r n bg bg la V2 V2 F := by rw [hg2']; exact RB.put t1 rfl
  obtain ⟨g3, hg3⟩ : ∃ g3, g3 = g2.put r (.rows true 52 0 0 [mr 52 (rbf n bg 0 la V2 V2 F)]) := ⟨_, rfl⟩
  have t3 : RB g3 r n bg 0 la V2 V2 F := by rw [hg3]; exact RB.put t2 rfl
  have u1 : g1.g r = _ := t1
  have u2 : g2.g r = _ := t2
  have e1 := hg1.symm
  have e2 := hg2'.symm
  have e3 := hg3.symm
  simp (maxSteps := 200000) -implicitDefEqProofs only [KA, KB, KC, KD, KE, KF, eq_self, ne_eq, ↓reduceIte, Nat.reduceLT, Nat.reduceEqDiff, Nat.reduceAdd, Nat.reduceLeDiff, Nat.reduceSub, Nat.reduceMul, reduceCtorEq, hlen, z, hg2, q2, hln, hcut, s1, e1, u1, hln1, hl16, s2, e2, u2, hln2, s3, e3]
  refine hP g3 t3 ((f2.mono (fun _ _ e => e.elim)).trans ?_)
  rw [hg3, hg2', hg1]
  exact ((Fm.put (S := fun j => j = r) _ _ rfl).trans (Fm.put _ _ rfl)).trans (Fm.put _ _ rfl)
theorem rcells_ok {i : Int} (hr : RB h r n v bg la V1 V2 F) (hn : n ≤ 16) (h1 : 0 ≤ i ∧ i < n → P (.c (V1 i.toNat)) h) (h0 : ¬ (0 ≤ i ∧ i < n) → P (.c .nils) h) : callW N (k + 1) 228 [.c (.ptr r 0 0 0), .c (.int .i64 i)] h P := by
  have hg : h.g r = _ := hr
  have q0 := rb0 (n := n) (v := v) (bg := bg) (la := la) (V1 := V1) (V2 := V2) (F := F)
  refine call_intro rfl (by simp only [List.length_cons, List.length_nil]; omega) ?_
  by_cases c1 : i < 0
  · simp (maxSteps := 200000) -implicitDefEqProofs only [KA, KB, KC, KD, KE, KF, eq_self, ne_eq, ↓reduceIte, Nat.reduceLT, Nat.reduceEqDiff, Nat.reduceAdd, Nat.reduceLeDiff, Nat.reduceSub, Nat.reduceMul, reduceCtorEq, hg, c1]
    exact h0 (by omega)
  · by_cases c2 : (n : Int) ≤ i
    · simp (maxSteps := 200000) -implicitDefEqProofs only [KA, KB, KC, KD, KE, KF, eq_self, ne_eq, ↓reduceIte, Nat.reduceLT, Nat.reduceEqDiff, Nat.reduceAdd, Nat.reduceLeDiff, Nat.reduceSub, Nat.reduceMul, reduceCtorEq, hg, q0, c1, c2]
      exact h0 (by omega)
    · have ia := iaA_p (n := 16) (sz := 1) (id := r) (tok := 0) (j := 0) (off := 4) (i := i) (by omega)
      have q4 := rb4 (n := n) (v := v) (bg := bg) (la := la) (V1 := V1) (V2 := V2) (F := F) (i := i.toNat) (by omega)
      simp (maxSteps := 200000) -implicitDefEqProofs only [KA, KB, KC, KD, KE, KF, eq_self, ne_eq, ↓reduceIte, Nat.reduceLT, Nat.reduceEqDiff, Nat.reduceAdd, Nat.reduceLeDiff, Nat.reduceSub, Nat.reduceMul, reduceCtorEq, hg, q0, c1, c2, ia, q4]
      exact h1 (by omega)
theorem CM.look {T : Nat → List Cel} (hc : CM h c n T) (i : Int) : ∃ w, lookT h (.int .i64) (.v (.c c)) (some (.c (.int .i64 i))) = some w ∧ SL h 5 (match w with | some (.c u) => u | _ => .nils) ((if 0 ≤ i then T i.toNat else []).map encE) ∧ (w = none ∨ ∃ u, w = some (.c u)) := by
  rcases hc with ⟨rfl, hT⟩ | ⟨id, es, clock, rfl, hg, hE, h1, h2⟩
  · refine ⟨none, rfl, ?_, .inl rfl⟩
    rw [hT]
    simp [SL]
  · have hl := look_ok (k := .c (.int .i64 i)) hg (funOf_is hE) rfl
    refine ⟨_, hl, ?_⟩
    by_cases hx : ∃ e ∈ es, e.key = .c (.int .i64 i)
    · obtain ⟨e, he, hk⟩ := hx
      have hf := ((funOf_is hE).vals (.c (.int .i64 i)) e.val).mpr ⟨e, he, hk, rfl⟩
      obtain ⟨j, u, hj, k1, k2, k3⟩ := h1 e he
      rw [k1] at hk
      have hji : i = (j : Int) := by injection hk with hk; injection hk with _ hk; exact hk.symm
      rw [hf, k2]
      refine ⟨?_, .inr ⟨u, rfl⟩⟩
      rw [hji, if_pos (by omega), Int.toNat_natCast]
      exact k3
    · have hf : funOf es (.c (.int .i64 i)) = none := by
        unfold funOf
        rw [dif_neg hx]
      rw [hf]
      refine ⟨?_, .inl rfl⟩
      have : (if 0 ≤ i then T i.toNat else []) = [] := by
        by_cases hi : 0 ≤ i
        · rw [if_pos hi]
          refine Classical.byContradiction fun hne => hx ?_
          obtain ⟨e, he, hk⟩ := h2 _ hne
          exact ⟨e, he, by rw [hk, Int.toNat_of_nonneg hi]⟩
        · rw [if_neg hi]
      rw [this]
      simp [SL]
theorem CM.le {T : Nat → List Cel} (hc : CM h c n T) {i : Nat} (hi : n ≤ i) : T i = [] := by
  rcases hc with ⟨rfl, hT⟩ | ⟨id, es, clock, rfl, hg, hE, h1, h2⟩
  · exact hT i
  · refine Classical.byContradiction fun hne => ?_
    obtain ⟨e, he, hk⟩ := h2 _ hne
    obtain ⟨j, u, hj, k1, _⟩ := h1 e he
    rw [k1] at hk
    injection hk with hk
    injection hk with _ hk
    omega
theorem bcells_ok {x rd : CV} {T : Nat → List Cel} {i : Int} (hb : Bk h b n v l c x rd) (hc : CM h c n T) (hT : ∀ i, (T i).length ≤ 64) (hP : ∀ h' u, SL h' 5 u ((if 0 ≤ i then T i.toNat else []).map encE) → Fn h h' → P (.c u) h') : callW N (k + 2) 140 [.c (.ptr b 0 0 0), .c (.int .i64 i)] h P := by
  have hb' : h.g b = _ := hb
  obtain ⟨w, h1, h2, h3⟩ := hc.look i
  have hTl : (if 0 ≤ i then T i.toNat else []).length ≤ 64 := by
    split
    · exact hT _
    · simp
  generalize (if 0 ≤ i then T i.toNat else []) = L at hP h2 hTl
  have fin : ∀ u, SL h 5 u (L.map encE) → ∀ Q : AV → Hp → Prop, (∀ (a : CV) h', P (.c a) h' → Q (.c a) h') → callW N (k + 1) 147 [.c u] h Q := fun u hu Q hQ => cloneC_ok (k := k) hu (by omega) (fun h0 => hQ _ _ (hP _ _ (by rw [h0]; rfl) (Fm.refl _ _))) fun h' id cap hA f _ => hQ _ _ (hP _ _ (by
    obtain ⟨lw, g1, g2⟩ := hA
    rw [List.append_nil] at g2
    exact ⟨true, 0, lw, _, g2, g1, by rw [List.length_map]; omega, by rw [List.drop_zero, List.take_of_length_le (by rw [List.length_map]; omega)]⟩) f)
  refine call_intro rfl (by simp only [List.length_cons, List.length_nil]; omega) ?_
  rcases h3 with rfl | ⟨u, rfl⟩
  · simp (maxSteps := 200000) -implicitDefEqProofs only [KA, KB, KC, KD, KE, KF, eq_self, ne_eq, ↓reduceIte, Nat.reduceLT, Nat.reduceEqDiff, Nat.reduceAdd, Nat.reduceLeDiff, Nat.reduceSub, Nat.reduceMul, reduceCtorEq, hb', h1, Option.getD_none]
    refine fin _ h2 _ fun a h' hp => ?_
    simp (maxSteps := 200000) -implicitDefEqProofs only [KA, KB, KC, KD, KE, KF, eq_self, ne_eq, ↓reduceIte, Nat.reduceLT, Nat.reduceEqDiff, Nat.reduceAdd, Nat.reduceLeDiff, Nat.reduceSub, Nat.reduceMul, reduceCtorEq]
    exact hp
  · simp (maxSteps := 200000) -implicitDefEqProofs only [KA, KB, KC, KD, KE, KF, eq_self, ne_eq, ↓reduceIte, Nat.reduceLT, Nat.reduceEqDiff, Nat.reduceAdd, Nat.reduceLeDiff, Nat.reduceSub, Nat.reduceMul, reduceCtorEq, hb', h1, Option.getD_some]
    refine fin _ h2 _ fun a h' hp => ?_
    simp (maxSteps := 200000) -implicitDefEqProofs only [KA, KB, KC, KD, KE, KF, eq_self, ne_eq, ↓reduceIte, Nat.reduceLT, Nat.reduceEqDiff, Nat.reduceAdd, Nat.reduceLeDiff, Nat.reduceSub, Nat.reduceMul, reduceCtorEq]
    exact hp
def SiI (h : Hp) (v w : CV) (a : List Int) (n : Nat) (s : St) : Prop :=
  ∃ (i : Nat) (l : List (Nat × TV)) (lc : List (List CV)), s = ST 26 l lc h ∧ i ≤ a.length ∧ n = a.length - i ∧
    lk l 0 = .v (.c v) ∧ lk l 1 = .v (.c w) ∧ lk l 12 = .v (.c (.int .i64 a.length)) ∧ lk l 13 = .v (.c (.int .i64 i))
theorem same_ok {v w : CV} {a : List Int} (hv : SL h 1 v (a.map encI)) (hw : SL h 1 w (a.map encI)) (hb : a.length ≤ 1000000) (hP : P (.c (.bool true)) h) : callW N (k + 1) 13 [.c v, .c w] h P := by
  have hlen : ∀ h' : Hp, lenT h' .sl (.v (.c v)) = some (a.length : Int) := fun h' => by rw [hv.len h', List.length_map]
  have hlen2 : ∀ h' : Hp, lenT h' .sl (.v (.c w)) = some (a.length : Int) := fun h' => by rw [hw.len h', List.length_map]
  refine call_intro rfl (by simp only [List.length_cons, List.length_nil]; omega) ?_
  have hd : decide ((a.length : Int) = a.length) = true := by simp
  simp (maxSteps := 200000) -implicitDefEqProofs only [KA, KB, KC, KD, KE, KF, eq_self, ne_eq, ↓reduceIte, Nat.reduceLT, Nat.reduceEqDiff, Nat.reduceAdd, Nat.reduceLeDiff, Nat.reduceSub, Nat.reduceMul, reduceCtorEq, hlen, hlen2, hd]
  refine loop_rd (callW_mono N _) (SiI h v w a) (n := a.length) ⟨0, _, _, rfl, by omega, by omega, rfl, rfl, rfl, rfl⟩ ?_
  rintro n s ⟨i, l, lc, rfl, hi, hn, e0, e1, e12, e13⟩
  by_cases hlt : (i : Int) < a.length
  · obtain ⟨y, hy⟩ : ∃ y, a[i]? = some y := ⟨_, List.getElem?_eq_getElem (by omega)⟩
    have hrow : (a.map encI)[((i : Int)).toNat]? = some [.int .i64 y] := by simp [encI, hy]
    obtain ⟨pid, ptok, pj, a1, a2⟩ := hv.at (by omega) hrow
    obtain ⟨pid', ptok', pj', b1, b2⟩ := hw.at (by omega) hrow
    have hww := wrap_i64 (n := (i : Int) + 1) (by omega)
    have hd2 : decide (y = y) = true := by simp
    simp (maxSteps := 200000) -implicitDefEqProofs only [KA, KB, KC, KD, KE, KF, eq_self, ne_eq, ↓reduceIte, Nat.reduceLT, Nat.reduceEqDiff, Nat.reduceAdd, Nat.reduceLeDiff, Nat.reduceSub, Nat.reduceMul, reduceCtorEq, e0, e1, e12, e13, hlt, a1, a2, b1, b2, hd2, hww, rd_n]
    exact ⟨n - 1, by omega, i + 1, _, _, rfl, by omega, by omega, rfl, rfl, rfl, rfl⟩
  · simp (maxSteps := 200000) -implicitDefEqProofs only [KA, KB, KC, KD, KE, KF, eq_self, ne_eq, ↓reduceIte, Nat.reduceLT, Nat.reduceEqDiff, Nat.reduceAdd, Nat.reduceLeDiff, Nat.reduceSub, Nat.reduceMul, reduceCtorEq, e0, e1, e12, e13, hlt]
    exact hP
theorem samec_ok {v w : CV} {a : List Cel} (hv : SL h 5 v (a.map encE)) (hw : SL h 5 w (a.map encE)) (hb : a.length ≤ 1000000) (hP : P (.c (.bool true)) h) : callW N (k + 1) 229 [.c v, .c w] h P := by
  have hlen : ∀ h' : Hp, lenT h' .sl (.v (.c v)) = some (a.length : Int) := fun h' => by rw [hv.len h', List.length_map]
  have hlen2 : ∀ h' : Hp, lenT h' .sl (.v (.c w)) = some (a.length : Int) := fun h' => by rw [hw.len h', List.length_map]
  refine call_intro rfl (by simp only [List.length_cons, List.length_nil]; omega) ?_
  have hd : decide ((a.length : Int) = a.length) = true := by simp
  simp (maxSteps := 200000) -implicitDefEqProofs only [KA, KB, KC, KD, KE, KF, eq_self, ne_eq, ↓reduceIte, Nat.reduceLT, Nat.reduceEqDiff, Nat.reduceAdd, Nat.reduceLeDiff, Nat.reduceSub, Nat.reduceMul, reduceCtorEq, hlen, hlen2, hd]
  refine loop_rd (callW_mono N _) (fun n s => ∃ (i : Nat) (l : List (Nat × TV)) (lc : List (List CV)), s = ST 26 l lc h ∧ i ≤ a.length ∧ n = a.length - i ∧
    lk l 0 = .v (.c v) ∧ lk l 1 = .v (.c w) ∧ lk l 12 = .v (.c (.int .i64 a.length)) ∧ lk l 13 = .v (.c (.int .i64 i))) (n := a.length) ⟨0, _, _, rfl, by omega, by omega, rfl, rfl, rfl, rfl⟩ ?_
  rintro n s ⟨i, l, lc, rfl, hi, hn, e0, e1, e12, e13⟩
  by_cases hlt : (i : Int) < a.length
  · obtain ⟨y, hy⟩ : ∃ y, a[i]? = some y := ⟨_, List.getElem?_eq_getElem (by omega)⟩
    have hrow : (a.map encE)[((i : Int)).toNat]? = some [.int .i64 y.f, .int .i64 y.s, .int .i64 y.c, .int .i64 y.o, .int .i64 y.p] := by simp [encE, hy]
    obtain ⟨pid, ptok, pj, a1, a2⟩ := hv.at (by omega) hrow
    obtain ⟨pid', ptok', pj', b1, b2⟩ := hw.at (by omega) hrow
    have hww := wrap_i64 (n := (i : Int) + 1) (by omega)
    simp (maxSteps := 200000) -implicitDefEqProofs only [KA, KB, KC, KD, KE, KF, eq_self, ne_eq, ↓reduceIte, Nat.reduceLT, Nat.reduceEqDiff, Nat.reduceAdd, Nat.reduceLeDiff, Nat.reduceSub, Nat.reduceMul, reduceCtorEq, e0, e1, e12, e13, hlt, a1, a2, b1, b2, hww, rd_n]
    exact ⟨n - 1, by omega, i + 1, _, _, rfl, by omega, by omega, rfl, rfl, rfl, rfl⟩
  · simp (maxSteps := 200000) -implicitDefEqProofs only [KA, KB, KC, KD, KE, KF, eq_self, ne_eq, ↓reduceIte, Nat.reduceLT, Nat.reduceEqDiff, Nat.reduceAdd, Nat.reduceLeDiff, Nat.reduceSub, Nat.reduceMul, reduceCtorEq, e0, e1, e12, e13, hlt]
    exact hP
end
end Camp

/-! CvVq6 -/
namespace Camp
open Go
set_option linter.unusedVariables false
set_option linter.unusedSimpArgs false
set_option maxHeartbeats 2000000
theorem tvf_step {F : ME → Int × List Cel} {es V : List ME} (hu : UQ F es) (hs : ∀ x ∈ V, x ∈ es) {e : ME} (he : e ∈ es) (hn : e ∉ V) {x : Nat} (hx : (F e).1 = (x : Int)) : tvf F (V ++ [e]) = fun i => if i = x then srtC (F e).2 else tvf F V i := by
  have hu1 : UQ F (V ++ [e]) := fun a ha b hb => hu a (by
    rcases List.mem_append.mp ha with h | h
    · exact hs a h
    · rw [List.mem_singleton.mp h]; exact he) b (by
    rcases List.mem_append.mp hb with h | h
    · exact hs b h
    · rw [List.mem_singleton.mp h]; exact he)
  have hu2 : UQ F V := fun a ha b hb => hu a (hs a ha) b (hs b hb)
  funext i
  by_cases c : i = x
  · rw [if_pos c, c]
    exact tvf_in hu1 (by simp) hx
  · rw [if_neg c]
    by_cases h : ∃ a ∈ V, (F a).1 = (i : Int)
    · obtain ⟨a, ha, hi⟩ := h
      rw [tvf_in hu1 (by simp [ha]) hi, tvf_in hu2 ha hi]
    · rw [tvf_out h, tvf_out]
      rintro ⟨a, ha, hi⟩
      rcases List.mem_append.mp ha with ha | ha
      · exact h ⟨a, ha, hi⟩
      · rw [List.mem_singleton.mp ha, hx] at hi
        exact c (by omega)
section
variable {k : Nat} {h : Hp} {P : AV → Hp → Prop}
def RgI (h : Hp) (r m : Nat) (F : ME → Int × List Cel) (n : Nat) (es : List ME) (clock : Nat) (q : Nat) (s : St) : Prop :=
  ∃ (V : List ME) (D : Nat → CV) (h' : Hp) (l : List (Nat × TV)), s = ST 75 l [mr 16 D] h' ∧ q = es.length - V.length ∧ Vis h' h.n m es V clock ∧ (∀ e ∈ V, okRow n (F e)) ∧ TV16 h' D (tvf F V) ∧ (∀ i, i < 16 → CapL (D i)) ∧ Fn h h' ∧ h.n + 1 ≤ h'.n ∧
    lk l 0 = .v (.c (.ptr r 0 0 0)) ∧ lk l 6 = .lp 0 0 ∧ lk l 15 = .v (.c (.it h.n))
set_option maxRecDepth 100000 in
theorem rbegin_ok {r m clock n : Nat} {es : List ME} {F : ME → Int × List Cel} {v l bg0 : Int} {V1 V2 : Nat → CV} {G : Nat → Bool} (hn : n ≤ 16) (hl : 0 ≤ l ∧ l ≤ 1000000) (hr : RB h r n v 0 l V1 V2 G) (hm : Rm h m es clock F)
    (h0 : ¬ (∀ e ∈ es, okRow n (F e)) → ∀ h', Fn h h' → P (.tup [.c (.int .i64 0), .c (.int .i64 1)]) h')
    (h1 : (∀ e ∈ es, okRow n (F e)) → ¬ cleanP (flatM F es) → ∀ h', Fn h h' → P (.tup [.c (.int .i64 0), .c (.int .i64 9)]) h')
    (h2 : (∀ e ∈ es, okRow n (F e)) → cleanP (flatM F es) → 1000000 ≤ l → ∀ h', Fn h h' → P (.tup [.c (.int .i64 0), .c (.int .i64 5)]) h')
    (h3 : (∀ e ∈ es, okRow n (F e)) → cleanP (flatM F es) → l < 1000000 → ∀ h' D, RB h' r n v (l + 1) (l + 1) V1 D (fun _ => false) → Fm (fun j => j = r) h h' → TV16 h' D (tvf F es) → P (.tup [.c (.int .i64 (l + 1)), .c (.int .i64 0)]) h') :
    callW N (k + 10) 223 [.c (.ptr r 0 0 0), .c (.map m)] h P := by
  have hg : h.g r = _ := hr
  have hrn : r < h.n := lt_of_g hg
  have hmm : m < h.n := lt_of_g hm.g
  have q2 := rb2 (n := n) (v := v) (bg := 0) (la := l) (V1 := V1) (V2 := V2) (F := G)
  have q0 := rb0 (n := n) (v := v) (bg := 0) (la := l) (V1 := V1) (V2 := V2) (F := G)
  have z0 : ¬ (0 : Int) < 0 := by omega
  have hD0 : [CV.nils, .nils, .nils, .nils, .nils, .nils, .nils, .nils, .nils, .nils, .nils, .nils, .nils, .nils, .nils, .nils] = mr 16 fun _ => CV.nils := rfl
  obtain ⟨g2, hg2⟩ : ∃ g2, g2 = h.push (.miter (some m) clock [] clock) := ⟨_, rfl⟩
  have f2 : Fn h g2 := by rw [hg2]; exact Fm.push _ _ _
  have n2 : g2.n = h.n + 1 := by rw [hg2, n_push]
  have gi2 : g2.g h.n = some (.miter (some m) clock [] clock) := by rw [hg2, g_push_eq]
  have hrg := rgn_map hm.g (lc := [mr 16 fun _ => CV.nils])
  rw [← hg2] at hrg
  refine call_intro rfl (by simp only [List.length_cons, List.length_nil]; omega) ?_
  simp (maxSteps := 200000) -implicitDefEqProofs only [KA, KB, KC, KD, KE, KF, eq_self, ne_eq, ↓reduceIte, Nat.reduceLT, Nat.reduceEqDiff, Nat.reduceAdd, Nat.reduceLeDiff, Nat.reduceSub, Nat.reduceMul, reduceCtorEq, hg, q2, z0, hD0, hrg]
  refine ⟨mr_len 16 _, ?_⟩
  refine loop_rd (callW_mono N _) (RgI h r m F n es clock) (n := es.length) ⟨[], fun _ => .nils, g2, _, rfl, rfl, ⟨by simp, by simp, f2.some hm.g (fun e => e), gi2⟩, by simp, fun i hi => by rw [tvf_out (by simp)]; rfl, fun i hi => (by rintro _ _ _ _ _ ⟨⟩), f2, by omega, rfl, rfl, rfl⟩ ?_
  clear gi2 hrg
  rintro q s ⟨V, D, g3, l', rfl, hq, hV, hok, hT, hcap, f3, n3, e0, e6, e15⟩
  have hg3 : g3.g r = _ := f3.some hg (fun e => e)
  simp (maxSteps := 200000) -implicitDefEqProofs only [KA, KB, KC, KD, KE, KF, eq_self, ne_eq, ↓reduceIte, Nat.reduceLT, Nat.reduceEqDiff, Nat.reduceAdd, Nat.reduceLeDiff, Nat.reduceSub, Nat.reduceMul, reduceCtorEq, e0, e6, e15]
  refine nx_map (id := h.n) (m := m) (clock := clock) (seen := V.map (·.born)) (by simp only [evN_t, lk_cons, lk_nil]; rfl) hV.it hV.g hm.e.lt (fun e he hnb => ?_) fun hall => ?_
  · obtain ⟨g4, hg4⟩ : ∃ g4, g4 = g3.put h.n (.miter (some m) clock (V.map (·.born) ++ [e.born]) clock) := ⟨_, rfl⟩
    have hV4 := hV.step he hnb (by omega)
    rw [← hg4] at hV4
    have f4' : Fm (fun j => j = h.n) g3 g4 := by rw [hg4]; exact Fm.put _ _ rfl
    have f4 : Fn h g4 := f3.fresh f4' (fun j hj => by omega)
    have n4 : g4.n = g3.n := by rw [hg4, n_put]
    have hit := hV.it
    have keep4 : ∀ {v rows}, SL g3 5 v rows → SL g4 5 v rows := fun {v rows} hs => hs.mono f4' (hs.notO (by rw [hit]; rintro _ _ _ _ ⟨⟩))
    obtain ⟨hk, vv, hv, hsl⟩ := (hm.new f4).f e he
    have hit4 := hV4.it
    rw [List.map_append, List.map_singleton] at hit4
    have hen := entry_at hit4 hV4.g he hm.e.nd
    rw [hk, hv] at hen
    have hlen : ∀ h' : Hp, lenT h' .sl (.v (.c vv)) = some ((F e).2.length : Int) := fun h' => by rw [hsl.len h', List.length_map]
    have hfold4 := hg4.symm
    have hg4r : g4.g r = _ := f4.some hg (fun e => e)
    by_cases c0 : (F e).1 < 0
    · simp (maxSteps := 200000) -implicitDefEqProofs only [KA, KB, KC, KD, KE, KF, eq_self, ne_eq, ↓reduceIte, Nat.reduceLT, Nat.reduceEqDiff, Nat.reduceAdd, Nat.reduceLeDiff, Nat.reduceSub, Nat.reduceMul, reduceCtorEq, hfold4, hen, c0]
      exact h0 (fun ha => by have := (ha e he).1; omega) _ f4
    · by_cases c1 : (n : Int) ≤ (F e).1
      · simp (maxSteps := 200000) -implicitDefEqProofs only [KA, KB, KC, KD, KE, KF, eq_self, ne_eq, ↓reduceIte, Nat.reduceLT, Nat.reduceEqDiff, Nat.reduceAdd, Nat.reduceLeDiff, Nat.reduceSub, Nat.reduceMul, reduceCtorEq, hfold4, hen, c0, hg4r, q0, c1]
        exact h0 (fun ha => by have := (ha e he).1; omega) _ f4
      · by_cases c2 : (64 : Int) < ((F e).2.length : Int)
        · simp (maxSteps := 200000) -implicitDefEqProofs only [KA, KB, KC, KD, KE, KF, eq_self, ne_eq, ↓reduceIte, Nat.reduceLT, Nat.reduceEqDiff, Nat.reduceAdd, Nat.reduceLeDiff, Nat.reduceSub, Nat.reduceMul, reduceCtorEq, hfold4, hen, c0, hg4r, q0, c1, hlen, c2]
          exact h0 (fun ha => by have := (ha e he).2; omega) _ f4
        · obtain ⟨x, hx⟩ : ∃ x : Nat, (F e).1 = x := ⟨(F e).1.toNat, by omega⟩
          have hoke : okRow n (F e) := ⟨by omega, by omega⟩
          simp (maxSteps := 200000) -implicitDefEqProofs only [KA, KB, KC, KD, KE, KF, eq_self, ne_eq, ↓reduceIte, Nat.reduceLT, Nat.reduceEqDiff, Nat.reduceAdd, Nat.reduceLeDiff, Nat.reduceSub, Nat.reduceMul, reduceCtorEq, hfold4, hen, c0, hg4r, q0, c1, hlen, c2]
          refine rsorted_ok (k := k + 7) hsl (by omega) fun g5 u hu f5 _ => ?_
          have ia := iaA_l (n := 16) (sz := 1) (b := 0) (off := 0) (i := (F e).1) (by omega)
          rw [hx, Int.toNat_natCast] at ia
          have hst := mr_set (N := 16) (f := D) (g := fun i => if i = x then u else D i) (o := x * 1) (x := u) (by omega) (by rw [if_pos (by omega)]) (fun j _ hj => if_neg (by omega))
          have hln := mr_len 16 D
          have hle : x * 1 + 1 ≤ 16 := by omega
          have n5 := f5.n
          have hV5 := hV4.mono f5 (fun e => e) (fun e => e)
          have hVl := hV5.len
          rw [List.length_append, List.length_singleton] at hVl
          have heV : e ∉ V := fun hm => hnb (List.mem_map_of_mem hm)
          simp (maxSteps := 200000) -implicitDefEqProofs only [KA, KB, KC, KD, KE, KF, eq_self, ne_eq, ↓reduceIte, Nat.reduceLT, Nat.reduceEqDiff, Nat.reduceAdd, Nat.reduceLeDiff, Nat.reduceSub, Nat.reduceMul, reduceCtorEq, hx, ia, hln, hle, hst, rd_n]
          refine ⟨q - 1, by omega, V ++ [e], _, g5, _, rfl, by rw [List.length_append, List.length_singleton]; omega, hV5, fun y hy => ?_, fun i hi => ?_, fun i hi => ?_, f4.trans f5, by omega, rfl, rfl, rfl⟩
          · rcases List.mem_append.mp hy with hy | hy
            · exact hok y hy
            · rw [List.mem_singleton.mp hy]; exact hoke
          · rw [tvf_step hm.uq hV.sub he heV hx]
            simp only
            by_cases c : i = x
            · rw [if_pos c, if_pos c]; exact hu.sl
            · rw [if_neg c, if_neg c]; exact (keep4 (hT i hi)).new f5
          · by_cases c : i = x
            · rw [if_pos c]
              rintro id tok off len cc e
              have := hu.cap _ _ _ _ _ e
              cases this
            · rw [if_neg c]; exact hcap i hi
  · have hVe := hV.all hm.e hall
    have hoka : ∀ e ∈ es, okRow n (F e) := fun e he => hok e ((hVe e).mpr he)
    have htv : tvf F V = tvf F es := tvf_perm hm.uq hVe
    rw [htv] at hT
    have hnde : es.Nodup := by
      exact (List.pairwise_map.mp hm.e.nd).imp fun h e => h (by rw [e])
    have hperm := flat_tvf hm.uq hnde (fun e he => by have := (hoka e he).1; unfold nodeP; omega)
    have hcl : decide (cleanP (rf 16 (tvf F es))) = decide (cleanP (flatM F es)) := by
      rw [Bool.eq_iff_iff, decide_eq_true_eq, decide_eq_true_eq]
      exact (cleanP_perm hperm).symm
    have htl : ∀ x, (tvf F es x).length ≤ 64 := fun x => by
      by_cases hx : ∃ e ∈ es, (F e).1 = (x : Int)
      · obtain ⟨e, he, hi⟩ := hx
        rw [tvf_in hm.uq he hi, srtC_len]
        exact (hoka e he).2
      · rw [tvf_out hx]; simp
    have hDA : DArr g3 (mr 16 D) (tvf F es) := ⟨mr_len 16 D, fun x hx => ⟨D x, mr_get hx, hT x hx, hcap x hx⟩⟩
    have htk : (mr 16 D).take 16 = mr 16 D := List.take_of_length_le (by rw [mr_len]; omega)
    have hln := mr_len 16 D
    simp (maxSteps := 200000) -implicitDefEqProofs only [KA, KB, KC, KD, KE, KF, eq_self, ne_eq, ↓reduceIte, Nat.reduceLT, Nat.reduceEqDiff, Nat.reduceAdd, Nat.reduceLeDiff, Nat.reduceSub, Nat.reduceMul, reduceCtorEq, e0, e6, htk, hln]
    refine rclean_ok (k := k + 4) hDA (fun x _ => by have := htl x; omega) ?_
    rw [hcl]
    have q3 := rb3 (n := n) (v := v) (bg := 0) (la := l) (V1 := V1) (V2 := V2) (F := G)
    by_cases c1 : cleanP (flatM F es)
    · rw [decide_eq_true c1]
      by_cases c2 : 1000000 ≤ l
      · simp (maxSteps := 200000) -implicitDefEqProofs only [KA, KB, KC, KD, KE, KF, eq_self, ne_eq, ↓reduceIte, Nat.reduceLT, Nat.reduceEqDiff, Nat.reduceAdd, Nat.reduceLeDiff, Nat.reduceSub, Nat.reduceMul, reduceCtorEq, hg3, q3, c2]
        exact h2 hoka c1 c2 _ f3
      · have wl := wrap_i64 (n := l + 1) (by omega)
        have hB0 : [CV.bool false, .bool false, .bool false, .bool false, .bool false, .bool false, .bool false, .bool false, .bool false, .bool false, .bool false, .bool false, .bool false, .bool false, .bool false, .bool false] = mr 16 fun _ => CV.bool false := rfl
        have l0 := mr_len 52 (rbf n v 0 l V1 V2 G)
        have s1 := mr_set (N := 52) (f := rbf n v 0 l V1 V2 G) (g := rbf n v 0 (l + 1) V1 V2 G) (o := 3) (x := .int .i64 (l + 1)) (by omega) rfl (fun j _ hj => by unfold rbf; simp [hj])
        obtain ⟨g4, hg4⟩ : ∃ g4, g4 = g3.put r (.rows true 52 0 0 [mr 52 (rbf n v 0 (l + 1) V1 V2 G)]) := ⟨_, rfl⟩
        have t3 : RB g3 r n v 0 l V1 V2 G := hg3
        have t4 : RB g4 r n v 0 (l + 1) V1 V2 G := by rw [hg4]; exact RB.put t3 rfl
        have u4 : g4.g r = _ := t4
        have q34 := rb3 (n := n) (v := v) (bg := 0) (la := l + 1) (V1 := V1) (V2 := V2) (F := G)
        have l1 := mr_len 52 (rbf n v 0 (l + 1) V1 V2 G)
        have s2 := rb_set2 (n := n) (v := v) (bg := 0) (la := l + 1) (V1 := V1) (V2 := V2) (F := G) (l + 1)
        obtain ⟨g5, hg5⟩ : ∃ g5, g5 = g4.put r (.rows true 52 0 0 [mr 52 (rbf n v (l + 1) (l + 1) V1 V2 G)]) := ⟨_, rfl⟩
        have t5 : RB g5 r n v (l + 1) (l + 1) V1 V2 G := by rw [hg5]; exact RB.put t4 rfl
        have u5 : g5.g r = _ := t5
        have l2 := mr_len 52 (rbf n v (l + 1) (l + 1) V1 V2 G)
        have s3 := mr_splice (N := 52) (f := rbf n v (l + 1) (l + 1) V1 V2 G) (g := rbf n v (l + 1) (l + 1) V1 D G) (o := 20) (cs := mr 16 D) (by rw [mr_len]; omega) (fun i hi => by
          rw [mr_len] at hi
          rw [mr_get hi]
          unfold rbf
          rw [if_neg (by omega), if_neg (by omega), if_neg (by omega), if_neg (by omega), if_neg (by omega), if_pos (by omega)]
          congr 2
          omega) (fun j hj ho => by
          rw [mr_len] at ho
          unfold rbf
          by_cases e : j < 20
          · simp only [e, if_true]
          · have e4 : ¬ j < 36 := by omega
            simp only [e4, if_false])
        rw [mr_len 16 D] at s3
        obtain ⟨g6, hg6⟩ : ∃ g6, g6 = g5.put r (.rows true 52 0 0 [mr 52 (rbf n v (l + 1) (l + 1) V1 D G)]) := ⟨_, rfl⟩
        have t6 : RB g6 r n v (l + 1) (l + 1) V1 D G := by rw [hg6]; exact RB.put t5 rfl
        have u6 : g6.g r = _ := t6
        have l3 := mr_len 52 (rbf n v (l + 1) (l + 1) V1 D G)
        have lb := mr_len 16 fun _ => CV.bool false
        have s4 := mr_splice (N := 52) (f := rbf n v (l + 1) (l + 1) V1 D G) (g := rbf n v (l + 1) (l + 1) V1 D fun _ => false) (o := 36) (cs := mr 16 fun _ => CV.bool false) (by rw [mr_len]; omega) (fun i hi => by
          rw [mr_len] at hi
          rw [mr_get hi]
          unfold rbf
          rw [if_neg (by omega), if_neg (by omega), if_neg (by omega), if_neg (by omega), if_neg (by omega), if_neg (by omega)]) (fun j hj ho => by
          rw [mr_len] at ho
          unfold rbf
          have e : j < 36 := by omega
          simp only [e, if_true])
        rw [lb] at s4
        obtain ⟨g7, hg7⟩ : ∃ g7, g7 = g6.put r (.rows true 52 0 0 [mr 52 (rbf n v (l + 1) (l + 1) V1 D fun _ => false)]) := ⟨_, rfl⟩
        have t7 : RB g7 r n v (l + 1) (l + 1) V1 D fun _ => false := by rw [hg7]; exact RB.put t6 rfl
        have u7 : g7.g r = _ := t7
        have q27 := rb2 (n := n) (v := v) (bg := l + 1) (la := l + 1) (V1 := V1) (V2 := D) (F := fun _ => false)
        have e4 := hg4.symm
        have e5 := hg5.symm
        have e6' := hg6.symm
        have e7 := hg7.symm
        have F37 : Fm (fun j => j = r) g3 g7 := by
          rw [hg7, hg6, hg5, hg4]
          exact (((Fm.put (S := fun j => j = r) _ _ rfl).trans (Fm.put _ _ rfl)).trans (Fm.put _ _ rfl)).trans (Fm.put _ _ rfl)
        have w1 : 3 + 1 ≤ 52 := by omega
        simp (maxSteps := 200000) -implicitDefEqProofs only [KA, KB, KC, KD, KE, KF, eq_self, ne_eq, ↓reduceIte, Nat.reduceLT, Nat.reduceEqDiff, Nat.reduceAdd, Nat.reduceLeDiff, Nat.reduceSub, Nat.reduceMul, reduceCtorEq, hg3, q3, c2, wl, hB0, l0, s1, e4, u4, q34, htk, hln, l1, s2, e5, u5, l2, s3, e6', u6, l3, lb, s4, e7, u7, q27]
        first
        | exact h3 hoka c1 (by omega) g7 D t7 ((f3.mono (fun _ _ e => e.elim)).trans F37) (fun i hi => (hT i hi).mono F37 ((hT i hi).notO (by rw [hg3]; simp)))
        | trace_state
    · rw [decide_eq_false c1]
      simp (maxSteps := 200000) -implicitDefEqProofs only [KA, KB, KC, KD, KE, KF, eq_self, ne_eq, ↓reduceIte, Nat.reduceLT, Nat.reduceEqDiff, Nat.reduceAdd, Nat.reduceLeDiff, Nat.reduceSub, Nat.reduceMul, reduceCtorEq]
      exact h1 hoka c1 _ f3
end
end Camp

/-! CvVq7 -/
namespace Camp
open Go
set_option linter.unusedVariables false
set_option linter.unusedSimpArgs false
set_option maxHeartbeats 2000000
/-- What a book means. -/
structure Sb where
  n : Nat
  v : Int
  l : Int
  T : Nat → List Cel
  nx : Option ((Nat → List Cel) × (Nat → Bool))
structure WS (S : Sb) : Prop where
  n : 1 ≤ S.n ∧ S.n ≤ 16
  l : 0 ≤ S.l ∧ S.l ≤ 1000000
  p : S.nx ≠ none → 1 ≤ S.l
  t : ∀ i, (S.T i).length ≤ 64
  u : ∀ T2 F, S.nx = some (T2, F) → ∀ i, (T2 i).length ≤ 64
def PB (h : Hp) (b : Nat) (S : Sb) : Prop := ∃ c x rd, Bk h b S.n S.v S.l c x rd ∧ CM h c S.n S.T ∧ ((S.nx = none ∧ x = .nilm) ∨ ∃ T2 F xi ri es clock, S.nx = some (T2, F) ∧ x = .map xi ∧ rd = .map ri ∧ CM h x S.n T2 ∧ h.g ri = some (.map true es clock) ∧ IsMap (.int .i64) es (flM F) ∧ xi ≠ ri ∧ ∀ id, c = .map id → id ≠ ri)
def RBk (h : Hp) (r : Nat) (S : Sb) : Prop := ∃ bg V1 V2 G, RB h r S.n S.v bg S.l V1 V2 G ∧ TV16 h V1 S.T ∧ ((S.nx = none ∧ bg = 0) ∨ ∃ T2, S.nx = some (T2, G) ∧ bg = S.l ∧ TV16 h V2 T2)
/-- What the program's operations may change. -/
def soft (h : Hp) (j : Nat) : Prop := (∃ R, h.g j = some (.rows true 6 0 0 R)) ∨ ∃ es c, h.g j = some (.map true es c)
theorem SL.soft {h h' : Hp} {sz : Nat} {v : CV} {rows : List (List CV)} {S : Nat → Prop} (k : SL h sz v rows) (hz : sz ≠ 6) (f : Fm S h h') (hs : ∀ j, S j → soft h j) : SL h' sz v rows := k.mono f (by
  rintro id tok off len cap rfl e
  obtain ⟨wr, cur, lw, rs, hg, _⟩ := k
  rcases hs id e with ⟨R, hR⟩ | ⟨es, c, hR⟩
  · rw [hg] at hR; injection hR with hR; injection hR with _ hR; exact hz hR
  · rw [hg] at hR; cases hR)
theorem RBk.soft {h h' : Hp} {r : Nat} {S : Sb} {X : Nat → Prop} (k : RBk h r S) (f : Fm X h h') (hs : ∀ j, X j → soft h j) : RBk h' r S := by
  obtain ⟨bg, V1, V2, G, h1, h2, h3⟩ := k
  have hg : h.g r = _ := h1
  refine ⟨bg, V1, V2, G, f.some hg (fun e => ?_), fun i hi => (h2 i hi).soft (by omega) f hs, h3.imp_right fun ⟨T2, e1, e2, e3⟩ => ⟨T2, e1, e2, fun i hi => (e3 i hi).soft (by omega) f hs⟩⟩
  rcases hs r e with ⟨R, hR⟩ | ⟨es, c, hR⟩
  · rw [hg] at hR; injection hR with hR; injection hR with _ hR; omega
  · rw [hg] at hR; cases hR
theorem RBk.new {h h' : Hp} {r : Nat} {S : Sb} (k : RBk h r S) (f : Fn h h') : RBk h' r S := k.soft f (fun j e => e.elim)
theorem CM.hard {h h' : Hp} {c : CV} {n r : Nat} {T : Nat → List Cel} {R : List (List CV)} {z : Nat} (k : CM h c n T) (f : Fm (fun j => j = r) h h') (hr : h.g r = some (.rows true z 0 0 R)) (hz : z ≠ 5) : CM h' c n T := by
  rcases k with k | ⟨id, es, clock, rfl, h1, h2, h3, h4⟩
  · exact .inl k
  · refine .inr ⟨id, es, clock, rfl, f.some h1 (fun e => by rw [e, hr] at h1; cases h1), h2, fun e he => ?_, h4⟩
    obtain ⟨i, u, k1, k2, k3, k4⟩ := h3 e he
    exact ⟨i, u, k1, k2, k3, k4.mono f (k4.notO (by rw [hr]; intro _ _ _ _ e; injection e with e; injection e with _ e; exact hz e))⟩
theorem CM.new {h h' : Hp} {c : CV} {n : Nat} {T : Nat → List Cel} (k : CM h c n T) (f : Fn h h') : CM h' c n T := by
  rcases k with k | ⟨id, es, clock, rfl, h1, h2, h3, h4⟩
  · exact .inl k
  · refine .inr ⟨id, es, clock, rfl, f.some h1 (fun e => e), h2, fun e he => ?_, h4⟩
    obtain ⟨i, u, k1, k2, k3, k4⟩ := h3 e he
    exact ⟨i, u, k1, k2, k3, k4.new f⟩
theorem CM.put {h h' : Hp} {c : CV} {n r : Nat} {T : Nat → List Cel} {es0 : List ME} {c0 : Nat} (k : CM h c n T) (f : Fm (fun j => j = r) h h') (hr : h.g r = some (.map true es0 c0)) (hn : ∀ id, c = .map id → id ≠ r) : CM h' c n T := by
  rcases k with k | ⟨id, es, clock, rfl, h1, h2, h3, h4⟩
  · exact .inl k
  · refine .inr ⟨id, es, clock, rfl, f.some h1 (hn id rfl), h2, fun e he => ?_, h4⟩
    obtain ⟨i, u, k1, k2, k3, k4⟩ := h3 e he
    exact ⟨i, u, k1, k2, k3, k4.mono f (k4.notO (by rw [hr]; rintro _ _ _ _ ⟨⟩))⟩
theorem PB.hard {h h' : Hp} {b r : Nat} {S : Sb} {R : List (List CV)} (k : PB h b S) (f : Fm (fun j => j = r) h h') (hr : h.g r = some (.rows true 52 0 0 R)) : PB h' b S := by
  obtain ⟨c, x, rd, h1, h2, h3⟩ := k
  have hg : h.g b = _ := h1
  refine ⟨c, x, rd, f.some hg (fun e => by rw [e, hr] at hg; injection hg with hg; injection hg with _ hg; omega), h2.hard f hr (by omega), h3.imp_right ?_⟩
  rintro ⟨T2, F, xi, ri, es, clock, e1, e2, e3, e4, e5, e6, e7⟩
  exact ⟨T2, F, xi, ri, es, clock, e1, e2, e3, e4.hard f hr (by omega), f.some e5 (fun e => by rw [e, hr] at e5; cases e5), e6, e7⟩
theorem PB.new {h h' : Hp} {b : Nat} {S : Sb} (k : PB h b S) (f : Fn h h') : PB h' b S := by
  obtain ⟨c, x, rd, h1, h2, h3⟩ := k
  have hg : h.g b = _ := h1
  refine ⟨c, x, rd, f.some hg (fun e => e), h2.new f, h3.imp_right ?_⟩
  rintro ⟨T2, F, xi, ri, es, clock, e1, e2, e3, e4, e5, e6, e7⟩
  exact ⟨T2, F, xi, ri, es, clock, e1, e2, e3, e4.new f, f.some e5 (fun e => e), e6, e7⟩
def readyS (S : Sb) (i w : Int) : Int × Sb := match S.nx with
  | none => (7, S)
  | some (T2, F) => if ¬ w = S.l then (7, S) else if ¬ (0 ≤ i ∧ i < S.n) then (1, S) else if F i.toNat = true then (8, S) else (0, { S with nx := some (T2, fun j => j == i.toNat || F j) })
def commitS (S : Sb) : Int × Sb := match S.nx with
  | none => (7, S)
  | some (T2, F) => if left F S.n = 0 then (0, { S with v := S.l, T := T2, nx := none }) else (7, S)
def abortS (S : Sb) : Int × Sb := match S.nx with
  | none => (7, S)
  | some _ => (0, { S with nx := none })
open Classical in
noncomputable def beginS (S : Sb) (F : ME → Int × List Cel) (es : List ME) : (Int × Int) × Sb := match S.nx with
  | some _ => ((0, 7), S)
  | none => if ¬ (∀ e ∈ es, okRow S.n (F e)) then ((0, 1), S) else if ¬ cleanP (flatM F es) then ((0, 9), S) else if 1000000 ≤ S.l then ((0, 5), S) else ((S.l + 1, 0), { S with l := S.l + 1, nx := some (tvf F es, fun _ => false) })
section
variable {k b r : Nat} {S : Sb} {h : Hp} {P : AV → Hp → Prop}
theorem pready_ok {i w : Int} (hS : WS S) (hB : PB h b S) (hP : ∀ h' X, PB h' b (readyS S i w).2 → Fm X h h' → (∀ j, X j → soft h j) → P (.c (.int .i64 (readyS S i w).1)) h') : callW N (k + 2) 134 [.c (.ptr b 0 0 0), .c (.int .i64 i), .c (.int .i64 w)] h P := by
  have hB0 := hB
  obtain ⟨c, x, rd, hb, hc, ⟨hn, rfl⟩ | ⟨T2, F, xi, ri, es, clock, hn, rfl, rfl, hx, hri, hM, hne, hci⟩⟩ := hB
  · have hb' : h.g b = _ := hb
    unfold readyS at hP
    rw [hn] at hP
    refine call_intro rfl (by simp only [List.length_cons, List.length_nil]; omega) ?_
    simp (maxSteps := 200000) -implicitDefEqProofs only [KA, KB, KC, KD, KE, KF, eq_self, ne_eq, ↓reduceIte, Nat.reduceLT, Nat.reduceEqDiff, Nat.reduceAdd, Nat.reduceLeDiff, Nat.reduceSub, Nat.reduceMul, reduceCtorEq, hb', b_mn3]
    exact hP h _ hB0 (Fm.refl (fun _ => False) _) (fun j e => e.elim)
  · unfold readyS at hP
    rw [hn] at hP
    simp only at hP
    by_cases c1 : w = S.l
    · rw [if_neg (fun e => e c1)] at hP
      subst c1
      by_cases c2 : 0 ≤ i ∧ i < S.n
      · rw [if_neg (fun e => e c2)] at hP
        obtain ⟨j, rfl⟩ : ∃ j : Nat, i = j := ⟨i.toNat, by omega⟩
        rw [Int.toNat_natCast] at hP
        cases hF : F j with
        | true =>
          rw [hF, if_pos rfl] at hP
          exact ready_old (k := k) hb hri hM (by omega) hF (hP h _ hB0 (Fm.refl (fun _ => False) _) (fun j e => e.elim))
        | false =>
          rw [hF, if_neg (by simp)] at hP
          refine ready_new (k := k) (F' := fun y => y == j || F y) hb hri hM (by omega) hF (by simp) (fun y hy => by simp [hy]) fun es' clock' hM' => ?_
          have f : Fm (fun y => y = ri) h (h.put ri (.map true es' clock')) := Fm.put _ _ rfl
          have hb' : h.g b = _ := hb
          have hbr : b ≠ ri := fun e => by rw [e, hri] at hb'; cases hb'
          refine hP _ _ ⟨c, .map xi, .map ri, f.some hb' hbr, hc.put f hri hci, .inr ⟨T2, _, xi, ri, es', clock', rfl, rfl, rfl, hx.put f hri (fun id e => by injection e with e; omega), by rw [g_put_eq, hri]; rfl, hM', hne, hci⟩⟩ f (fun y e => .inr ⟨es, clock, by rw [e]; exact hri⟩)
      · rw [if_pos c2] at hP
        have hb' : h.g b = _ := hb
        have d : decide (S.l = S.l) = true := by simp
        refine call_intro rfl (by simp only [List.length_cons, List.length_nil]; omega) ?_
        simp (maxSteps := 200000) -implicitDefEqProofs only [KA, KB, KC, KD, KE, KF, eq_self, ne_eq, ↓reduceIte, Nat.reduceLT, Nat.reduceEqDiff, Nat.reduceAdd, Nat.reduceLeDiff, Nat.reduceSub, Nat.reduceMul, reduceCtorEq, hb', b_mn1]
        refine bhas_ok (k := k) hb ?_
        rw [decide_eq_false c2]
        simp (maxSteps := 200000) -implicitDefEqProofs only [KA, KB, KC, KD, KE, KF, eq_self, ne_eq, ↓reduceIte, Nat.reduceLT, Nat.reduceEqDiff, Nat.reduceAdd, Nat.reduceLeDiff, Nat.reduceSub, Nat.reduceMul, reduceCtorEq]
        exact hP h _ hB0 (Fm.refl (fun _ => False) _) (fun j e => e.elim)
    · rw [if_pos c1] at hP
      exact ready_state (k := k) hb c1 (hP h _ hB0 (Fm.refl (fun _ => False) _) (fun j e => e.elim))
theorem pcommit_ok (hS : WS S) (hB : PB h b S) (hP : ∀ h' X, PB h' b (commitS S).2 → Fm X h h' → (∀ j, X j → soft h j) → P (.c (.int .i64 (commitS S).1)) h') : callW N (k + 2) 138 [.c (.ptr b 0 0 0)] h P := by
  have hB0 := hB
  obtain ⟨c, x, rd, hb, hc, ⟨hn, rfl⟩ | ⟨T2, F, xi, ri, es, clock, hn, rfl, rfl, hx, hri, hM, hne, hci⟩⟩ := hB
  · unfold commitS at hP
    rw [hn] at hP
    exact commit_state (k := k) hb (hP h _ hB0 (Fm.refl (fun _ => False) _) (fun j e => e.elim))
  · unfold commitS at hP
    rw [hn] at hP
    simp only at hP
    have hb' : h.g b = _ := hb
    refine commit_ok (k := k) hS.n.2 hb hri hM (fun hz h' hb2 f => ?_) (fun hz h' f => ?_)
    · rw [if_pos hz] at hP
      exact hP h' _ ⟨.map xi, .nilm, .map ri, hb2, hx.hard f hb' (by omega), .inl ⟨rfl, rfl⟩⟩ f (fun j e => .inl (by rw [e]; exact ⟨_, hb'⟩))
    · rw [if_neg hz] at hP
      exact hP h' _ (hB0.new f) f (fun j e => e.elim)
theorem pabort_ok (hS : WS S) (hB : PB h b S) (hP : ∀ h' X, PB h' b (abortS S).2 → Fm X h h' → (∀ j, X j → soft h j) → P (.c (.int .i64 (abortS S).1)) h') : callW N (k + 1) 135 [.c (.ptr b 0 0 0)] h P := by
  have hB0 := hB
  obtain ⟨c, x, rd, hb, hc, ⟨hn, rfl⟩ | ⟨T2, F, xi, ri, es, clock, hn, rfl, rfl, hx, hri, hM, hne, hci⟩⟩ := hB
  · have hb' : h.g b = _ := hb
    unfold abortS at hP
    rw [hn] at hP
    refine call_intro rfl (by simp only [List.length_cons, List.length_nil]; omega) ?_
    simp (maxSteps := 200000) -implicitDefEqProofs only [KA, KB, KC, KD, KE, KF, eq_self, ne_eq, ↓reduceIte, Nat.reduceLT, Nat.reduceEqDiff, Nat.reduceAdd, Nat.reduceLeDiff, Nat.reduceSub, Nat.reduceMul, reduceCtorEq, hb', b_mn3]
    exact hP h _ hB0 (Fm.refl (fun _ => False) _) (fun j e => e.elim)
  · unfold abortS at hP
    rw [hn] at hP
    have hb' : h.g b = _ := hb
    refine abort_ok (k := k) hb fun h' hb2 f => ?_
    exact hP h' _ ⟨c, .nilm, .map ri, hb2, hc.hard f hb' (by omega), .inl ⟨rfl, rfl⟩⟩ f (fun j e => .inl (by rw [e]; exact ⟨_, hb'⟩))
theorem pbegin_ok {m clock : Nat} {es : List ME} {F : ME → Int × List Cel} (hS : WS S) (hB : PB h b S) (hm : Rm h m es clock F) (hP : ∀ h', PB h' b (beginS S F es).2 → Fm (fun j => j = b) h h' → P (.tup [.c (.int .i64 (beginS S F es).1.1), .c (.int .i64 (beginS S F es).1.2)]) h') : callW N (k + 90) 132 [.c (.ptr b 0 0 0), .c (.map m)] h P := by
  have hB0 := hB
  obtain ⟨c, x, rd, hb, hc, ⟨hn, rfl⟩ | ⟨T2, G, xi, ri, es', clock', hn, rfl, rfl, hx, hri, hM, hne, hci⟩⟩ := hB
  · unfold beginS at hP
    rw [hn] at hP
    simp only at hP
    have hb' : h.g b = _ := hb
    refine bbegin_ok (k := k) hS.n.2 hS.l hb hm (fun k0 h' f => ?_) (fun k0 k1 h' f => ?_) (fun k0 k1 k2 h' f => ?_) (fun k0 k1 k2 h' x ri hb2 f hx hri q1 q2 q3 => ?_)
    · rw [if_pos k0] at hP
      exact hP h' (hB0.new f) (f.mono (fun _ _ e => e.elim))
    · rw [if_neg (fun e => e k0), if_pos k1] at hP
      exact hP h' (hB0.new f) (f.mono (fun _ _ e => e.elim))
    · rw [if_neg (fun e => e k0), if_neg (fun e => e k1), if_pos k2] at hP
      exact hP h' (hB0.new f) (f.mono (fun _ _ e => e.elim))
    · rw [if_neg (fun e => e k0), if_neg (fun e => e k1), if_neg (by omega)] at hP
      refine hP h' ⟨c, .map x, .map ri, hb2, hc.hard f hb' (by omega), .inr ⟨_, _, x, ri, [], 0, rfl, rfl, rfl, hx, hri, ⟨by simp, List.Pairwise.nil, fun k v => ?_⟩, q3, fun id e => ?_⟩⟩ f
      · have : flM (fun _ => false) k = none := by
          cases k with
          | c y => cases y with
            | int kk j => cases kk <;> simp [flM]
            | _ => rfl
          | _ => rfl
        rw [this]
        simp
      · rcases hc with ⟨rfl, _⟩ | ⟨id', es', clock', rfl, hg', _⟩
        · cases e
        · injection e with e
          have := lt_of_g hg'
          omega
  · unfold beginS at hP
    rw [hn] at hP
    have hb1 : h.g b = _ := hb
    refine call_intro rfl (by simp only [List.length_cons, List.length_nil]; omega) ?_
    simp (maxSteps := 200000) -implicitDefEqProofs only [KA, KB, KC, KD, KE, KF, eq_self, ne_eq, ↓reduceIte, Nat.reduceLT, Nat.reduceEqDiff, Nat.reduceAdd, Nat.reduceLeDiff, Nat.reduceSub, Nat.reduceMul, reduceCtorEq, hb1, b_mn2]
    exact hP h hB0 (Fm.refl _ _)
theorem rready2_ok {i w : Int} (hS : WS S) (hR : RBk h r S) (hP : ∀ h', RBk h' r (readyS S i w).2 → Fm (fun j => j = r) h h' → P (.c (.int .i64 (readyS S i w).1)) h') : callW N (k + 1) 224 [.c (.ptr r 0 0 0), .c (.int .i64 i), .c (.int .i64 w)] h P := by
  have hR0 := hR
  obtain ⟨bg, V1, V2, G, h1, h2, ⟨hn, rfl⟩ | ⟨T2, hn, rfl, hT⟩⟩ := hR
  · unfold readyS at hP
    rw [hn] at hP
    exact rready_state (k := k) h1 (.inl rfl) (hP h hR0 (Fm.refl _ _))
  · have hp := hS.p (by rw [hn]; simp)
    unfold readyS at hP
    rw [hn] at hP
    simp only at hP
    by_cases c1 : w = S.l
    · rw [if_neg (fun e => e c1)] at hP
      subst c1
      by_cases c2 : 0 ≤ i ∧ i < S.n
      · rw [if_neg (fun e => e c2)] at hP
        obtain ⟨j, rfl⟩ : ∃ j : Nat, i = j := ⟨i.toNat, by omega⟩
        rw [Int.toNat_natCast] at hP
        have hn16 := hS.n.2
        cases hF : G j with
        | true =>
          rw [hF, if_pos rfl] at hP
          exact rready_old (k := k) h1 (by omega) (by omega) (by omega) hF (hP h hR0 (Fm.refl _ _))
        | false =>
          rw [hF, if_neg (by simp)] at hP
          refine rready_new (k := k) h1 (by omega) (by omega) (by omega) hF fun h' h1' f => ?_
          have hg : h.g r = _ := h1
          have kp : ∀ {v : CV} {L : List (List CV)}, SL h 5 v L → SL h' 5 v L := fun {v L} hs => hs.mono f (hs.notO (by rw [hg]; intro _ _ _ _ e; injection e with e; injection e with _ e; omega))
          exact hP h' ⟨S.l, V1, V2, _, h1', fun y hy => kp (h2 y hy), .inr ⟨T2, rfl, rfl, fun y hy => kp (hT y hy)⟩⟩ f
      · rw [if_pos c2] at hP
        exact rready_arg (k := k) h1 (by omega) c2 (hP h hR0 (Fm.refl _ _))
    · rw [if_pos c1] at hP
      exact rready_state (k := k) h1 (.inr c1) (hP h hR0 (Fm.refl _ _))
theorem rcommit2_ok (hS : WS S) (hR : RBk h r S) (hP : ∀ h', RBk h' r (commitS S).2 → Fm (fun j => j = r) h h' → P (.c (.int .i64 (commitS S).1)) h') : callW N (k + 2) 225 [.c (.ptr r 0 0 0)] h P := by
  have hR0 := hR
  obtain ⟨bg, V1, V2, G, h1, h2, ⟨hn, rfl⟩ | ⟨T2, hn, rfl, hT⟩⟩ := hR
  · unfold commitS at hP
    rw [hn] at hP
    exact rcommit_state (k := k) h1 hS.n.2 (by omega) (.inl rfl) fun h' f => hP h' (hR0.new f) (f.mono (fun _ _ e => e.elim))
  · have hp := hS.p (by rw [hn]; simp)
    unfold commitS at hP
    rw [hn] at hP
    simp only at hP
    by_cases c : left G S.n = 0
    · rw [if_pos c] at hP
      refine rcommit_ok (k := k) h1 hS.n.2 (by omega) c fun h' h1' f => ?_
      have hg : h.g r = _ := h1
      have kp : ∀ {v : CV} {L : List (List CV)}, SL h 5 v L → SL h' 5 v L := fun {v L} hs => hs.mono f (hs.notO (by rw [hg]; intro _ _ _ _ e; injection e with e; injection e with _ e; omega))
      exact hP h' ⟨0, V2, V2, G, h1', fun y hy => kp (hT y hy), .inl ⟨rfl, rfl⟩⟩ f
    · rw [if_neg c] at hP
      exact rcommit_state (k := k) h1 hS.n.2 (by omega) (.inr c) fun h' f => hP h' (hR0.new f) (f.mono (fun _ _ e => e.elim))
theorem rabort2_ok (hS : WS S) (hR : RBk h r S) (hP : ∀ h', RBk h' r (abortS S).2 → Fm (fun j => j = r) h h' → P (.c (.int .i64 (abortS S).1)) h') : callW N (k + 1) 226 [.c (.ptr r 0 0 0)] h P := by
  have hR0 := hR
  obtain ⟨bg, V1, V2, G, h1, h2, ⟨hn, rfl⟩ | ⟨T2, hn, rfl, hT⟩⟩ := hR
  · unfold abortS at hP
    rw [hn] at hP
    exact rabort_state (k := k) h1 (hP h hR0 (Fm.refl _ _))
  · have hp := hS.p (by rw [hn]; simp)
    unfold abortS at hP
    rw [hn] at hP
    refine rabort_ok (k := k) h1 (by omega) fun h' h1' f => ?_
    have hg : h.g r = _ := h1
    have kp : ∀ {v : CV} {L : List (List CV)}, SL h 5 v L → SL h' 5 v L := fun {v L} hs => hs.mono f (hs.notO (by rw [hg]; intro _ _ _ _ e; injection e with e; injection e with _ e; omega))
    exact hP h' ⟨0, V1, V2, G, h1', fun y hy => kp (h2 y hy), .inl ⟨rfl, rfl⟩⟩ f
theorem rbegin2_ok {m clock : Nat} {es : List ME} {F : ME → Int × List Cel} (hS : WS S) (hR : RBk h r S) (hm : Rm h m es clock F) (hP : ∀ h', RBk h' r (beginS S F es).2 → Fm (fun j => j = r) h h' → P (.tup [.c (.int .i64 (beginS S F es).1.1), .c (.int .i64 (beginS S F es).1.2)]) h') : callW N (k + 10) 223 [.c (.ptr r 0 0 0), .c (.map m)] h P := by
  have hR0 := hR
  obtain ⟨bg, V1, V2, G, h1, h2, ⟨hn, rfl⟩ | ⟨T2, hn, rfl, hT⟩⟩ := hR
  · unfold beginS at hP
    rw [hn] at hP
    simp only at hP
    have hg : h.g r = _ := h1
    refine rbegin_ok (k := k) (bg0 := 0) hS.n.2 hS.l h1 hm (fun k0 h' f => ?_) (fun k0 k1 h' f => ?_) (fun k0 k1 k2 h' f => ?_) (fun k0 k1 k2 h' D h1' f hD => ?_)
    · rw [if_pos k0] at hP
      exact hP h' (hR0.new f) (f.mono (fun _ _ e => e.elim))
    · rw [if_neg (fun e => e k0), if_pos k1] at hP
      exact hP h' (hR0.new f) (f.mono (fun _ _ e => e.elim))
    · rw [if_neg (fun e => e k0), if_neg (fun e => e k1), if_pos k2] at hP
      exact hP h' (hR0.new f) (f.mono (fun _ _ e => e.elim))
    · rw [if_neg (fun e => e k0), if_neg (fun e => e k1), if_neg (by omega)] at hP
      have kp : ∀ {v : CV} {L : List (List CV)}, SL h 5 v L → SL h' 5 v L := fun {v L} hs => hs.mono f (hs.notO (by rw [hg]; intro _ _ _ _ e; injection e with e; injection e with _ e; omega))
      exact hP h' ⟨S.l + 1, V1, D, _, h1', fun y hy => kp (h2 y hy), .inr ⟨_, rfl, rfl, hD⟩⟩ f
  · have hp := hS.p (by rw [hn]; simp)
    have hg : h.g r = _ := h1
    unfold beginS at hP
    rw [hn] at hP
    have q2 := rb2 (n := S.n) (v := S.v) (bg := S.l) (la := S.l) (V1 := V1) (V2 := V2) (F := G)
    have z : (0 : Int) < S.l := by omega
    refine call_intro rfl (by simp only [List.length_cons, List.length_nil]; omega) ?_
    simp (maxSteps := 200000) -implicitDefEqProofs only [KA, KB, KC, KD, KE, KF, eq_self, ne_eq, ↓reduceIte, Nat.reduceLT, Nat.reduceEqDiff, Nat.reduceAdd, Nat.reduceLeDiff, Nat.reduceSub, Nat.reduceMul, reduceCtorEq, hg, q2, z]
    exact hP h hR0 (Fm.refl _ _)
theorem WS.ready (hS : WS S) (i w : Int) : WS (readyS S i w).2 := by
  unfold readyS
  split
  · exact hS
  · rename_i T2 F hn
    split
    · exact hS
    · split
      · exact hS
      · split
        · exact hS
        · exact ⟨hS.n, hS.l, fun _ => hS.p (by rw [hn]; simp), hS.t, fun T2' F' e => by
            injection e with e
            injection e with e1 e2
            subst e1
            exact hS.u _ _ hn⟩
theorem WS.commit (hS : WS S) : WS (commitS S).2 := by
  unfold commitS
  split
  · exact hS
  · rename_i T2 F hn
    split
    · exact ⟨hS.n, hS.l, fun e => absurd rfl e, hS.u _ _ hn, fun _ _ e => by cases e⟩
    · exact hS
theorem WS.abort (hS : WS S) : WS (abortS S).2 := by
  unfold abortS
  split
  · exact hS
  · exact ⟨hS.n, hS.l, fun e => absurd rfl e, hS.t, fun _ _ e => by cases e⟩
theorem WS.begin (hS : WS S) {F : ME → Int × List Cel} {es : List ME} (hu : UQ F es) : WS (beginS S F es).2 := by
  unfold beginS
  split
  · exact hS
  · split
    · exact hS
    · rename_i hok
      have hok : ∀ e ∈ es, okRow S.n (F e) := Classical.byContradiction hok
      split
      · exact hS
      · split
        · exact hS
        · rename_i hl
          have := hS.l
          refine ⟨hS.n, ⟨by show 0 ≤ S.l + 1; omega, by show S.l + 1 ≤ 1000000; omega⟩, fun _ => by show 1 ≤ S.l + 1; omega, hS.t, fun T2 G e i => ?_⟩
          injection e with e
          injection e with e1 e2
          subst e1
          by_cases hx : ∃ e ∈ es, (F e).1 = (i : Int)
          · obtain ⟨e, he, hi⟩ := hx
            rw [tvf_in hu he hi, srtC_len]
            exact (hok e he).2
          · rw [tvf_out hx]; simp
end
end Camp

/-! CvVq8 -/
namespace Camp
open Go
set_option linter.unusedVariables false
set_option linter.unusedSimpArgs false
set_option maxHeartbeats 2000000
/-- A call: what, of which node, which version, which rows. -/
structure Vc where
  d : Int
  nd : Int
  vv : Int
  w : CV
  C : List Rw
def encV (x : Vc) : List CV := [.int .i64 x.d, .int .i64 x.nd, .int .i64 x.vv, x.w]
structure Vcs (h : Hp) (v : CV) (L : List Vc) : Prop where
  sl : SL h 4 v (L.map encV)
  c : ∀ x ∈ L, Rws h x.w x.C ∧ x.C.length ≤ 1048576
theorem Rws.soft {h h' : Hp} {w : CV} {C : List Rw} {S : Nat → Prop} (k : Rws h w C) (f : Fm S h h') (hs : ∀ j, S j → soft h j) : Rws h' w C := ⟨k.sl.soft (by omega) f hs, fun r hr => ⟨(k.cells r hr).1.soft (by omega) f hs, (k.cells r hr).2⟩⟩
theorem Vcs.soft {h h' : Hp} {v : CV} {L : List Vc} {S : Nat → Prop} (k : Vcs h v L) (f : Fm S h h') (hs : ∀ j, S j → soft h j) : Vcs h' v L := ⟨k.sl.soft (by omega) f hs, fun x hx => ⟨(k.c x hx).1.soft f hs, (k.c x hx).2⟩⟩
theorem Vcs.new {h h' : Hp} {v : CV} {L : List Vc} (k : Vcs h v L) (f : Fn h h') : Vcs h' v L := k.soft f (fun j e => e.elim)
theorem SL.hard {h h' : Hp} {sz r z : Nat} {v : CV} {rows R : List (List CV)} (k : SL h sz v rows) (hz : sz ≠ z) (f : Fm (fun j => j = r) h h') (hr : h.g r = some (.rows true z 0 0 R)) : SL h' sz v rows := k.mono f (by
  rintro id tok off len cap rfl e
  obtain ⟨wr, cur, lw, rs, hg, _⟩ := k
  rw [e, hr] at hg
  injection hg with hg
  injection hg with _ hg
  exact hz hg.symm)
theorem Vcs.hard {h h' : Hp} {r z : Nat} {v : CV} {L : List Vc} {R : List (List CV)} (k : Vcs h v L) (f : Fm (fun j => j = r) h h') (hr : h.g r = some (.rows true z 0 0 R)) (hz : 5 < z) : Vcs h' v L :=
  ⟨k.sl.hard (by omega) f hr, fun x hx => ⟨⟨(k.c x hx).1.sl.hard (by omega) f hr, fun y hy => ⟨((k.c x hx).1.cells y hy).1.hard (by omega) f hr, ((k.c x hx).1.cells y hy).2⟩⟩, (k.c x hx).2⟩⟩
def wsS (S : Sb) : List Int := match S.nx with
  | none => []
  | some (_, F) => wl F S.n
section
variable {k b r : Nat} {S : Sb} {h : Hp} {P : AV → Hp → Prop}
theorem awakeV2_ok (hP : P (.c (.bool true)) h) : callW N (k + 1) 137 [] h P := ⟨awakeN, rfl, by simp, [], .c (.bool true), rfl, rfl, rfl, .inr rfl, _, rfl, hP⟩
theorem bnew2_ok {m : Int} (hP : ∀ h' b, Bk h' b (max 1 (min m 16)) 0 0 .nilm .nilm .nilm → Fn h h' → P (.c (.ptr b 0 0 0)) h') : callW N (k + 1) 131 [.c (.int .i64 m)] h P := by
  refine call_intro rfl (by simp only [List.length_cons, List.length_nil]; omega) ?_
  simp (maxSteps := 200000) -implicitDefEqProofs only [KA, KB, KC, KD, KE, KF, eq_self, ne_eq, ↓reduceIte, Nat.reduceLT, Nat.reduceEqDiff, Nat.reduceAdd, Nat.reduceLeDiff, Nat.reduceSub, Nat.reduceMul, reduceCtorEq]
  refine hP _ h.n ?_ (Fm.push _ _ _)
  unfold Bk
  rw [g_push_eq]
theorem wsS_len (hS : WS S) : (wsS S).length ≤ 16 := by
  unfold wsS
  split
  · simp
  · rename_i F _
    have := left_le F S.n
    have := hS.n.2
    rw [wl_len]
    omega
theorem pwaits_ok (hS : WS S) (hB : PB h b S) (hP : ∀ h' w, SL h' 1 w ((wsS S).map encI) → Fn h h' → P (.c w) h') : callW N (k + 1) 133 [.c (.ptr b 0 0 0)] h P := by
  obtain ⟨c, x, rd, hb, hc, ⟨hn, rfl⟩ | ⟨T2, F, xi, ri, es, clock, hn, rfl, rfl, hx, hri, hM, hne, hci⟩⟩ := hB
  · unfold wsS at hP
    rw [hn] at hP
    exact waits_none (k := k) hb (hP h _ rfl (Fm.refl _ _))
  · unfold wsS at hP
    rw [hn] at hP
    exact waitsL_ok (k := k) hS.n.2 hb hri hM hP
theorem rwaits2_ok (hS : WS S) (hR : RBk h r S) (hP : ∀ h' w, SL h' 1 w ((wsS S).map encI) → Fn h h' → P (.c w) h') : callW N (k + 1) 227 [.c (.ptr r 0 0 0)] h P := by
  obtain ⟨bg, V1, V2, G, h1, h2, ⟨hn, rfl⟩ | ⟨T2, hn, rfl, hT⟩⟩ := hR
  · unfold wsS at hP
    rw [hn] at hP
    refine rwaits_ok (k := k) h1 hS.n.2 (by omega) fun h' w hw f => hP h' w ?_ f
    rwa [if_pos rfl] at hw
  · have hp := hS.p (by rw [hn]; simp)
    unfold wsS at hP
    rw [hn] at hP
    refine rwaits_ok (k := k) h1 hS.n.2 (by omega) fun h' w hw f => hP h' w ?_ f
    rwa [if_neg (by omega)] at hw
theorem few_ok {v : CV} {L : List Vc} (hV : Vcs h v L) (hL : L.length ≤ 1000000000) (hP : ∀ z : Bool, P (.c (.bool z)) h) : callW N (k + 1) 221 [.c v] h P := by
  have hlen : ∀ h' : Hp, lenT h' .sl (.v (.c v)) = some (L.length : Int) := fun h' => by rw [hV.sl.len h', List.length_map]
  refine call_intro rfl (by simp only [List.length_cons, List.length_nil]; omega) ?_
  simp (maxSteps := 200000) -implicitDefEqProofs only [KA, KB, KC, KD, KE, KF, eq_self, ne_eq, ↓reduceIte, Nat.reduceLT, Nat.reduceEqDiff, Nat.reduceAdd, Nat.reduceLeDiff, Nat.reduceSub, Nat.reduceMul, reduceCtorEq, hlen]
  refine loop_rd (callW_mono N _) (fun m s => ∃ (i : Nat) (a : Int) (l : List (Nat × TV)), s = ST 36 l [] h ∧ i ≤ L.length ∧ m = L.length - i ∧
    lk l 3 = .v (.c (.int .i64 a)) ∧ lk l 8 = .v (.c v) ∧ lk l 9 = .v (.c (.int .i64 L.length)) ∧ lk l 10 = .v (.c (.int .i64 i))) (n := L.length) ⟨0, 0, _, rfl, by omega, rfl, rfl, rfl, rfl, rfl⟩ ?_
  rintro m s ⟨i, a, l, rfl, hi, hm, e3, e8, e9, e10⟩
  by_cases hlt : (i : Int) < (L.length : Int)
  · obtain ⟨x, hx⟩ : ∃ x, L[i]? = some x := ⟨_, List.getElem?_eq_getElem (by omega)⟩
    have hrow : (L.map encV)[(i : Int).toNat]? = some [.int .i64 x.d, .int .i64 x.nd, .int .i64 x.vv, x.w] := by simp [encV, hx]
    obtain ⟨p1, p2, p3, a1, a2⟩ := hV.sl.at (by omega) hrow
    obtain ⟨hC, hCl⟩ := hV.c x (List.mem_of_getElem? hx)
    have hlenC : ∀ h' : Hp, lenT h' .sl (.v (.c x.w)) = some (x.C.length : Int) := fun h' => by rw [hC.sl.len h', List.length_map]
    have hwi := wrap_i64 (n := (i : Int) + 1) (by omega)
    simp (maxSteps := 200000) -implicitDefEqProofs only [KA, KB, KC, KD, KE, KF, eq_self, ne_eq, ↓reduceIte, Nat.reduceLT, Nat.reduceEqDiff, Nat.reduceAdd, Nat.reduceLeDiff, Nat.reduceSub, Nat.reduceMul, reduceCtorEq, e3, e8, e9, e10, hlt, a1, a2, hlenC]
    refine loop_rd (callW_mono N _) (fun m s => ∃ (j : Nat) (a : Int) (l : List (Nat × TV)), s = ST 36 l [] h ∧ j ≤ x.C.length ∧ m = x.C.length - j ∧
      lk l 3 = .v (.c (.int .i64 a)) ∧ lk l 4 = .v (.c (.int .i64 i)) ∧ lk l 8 = .v (.c v) ∧ lk l 9 = .v (.c (.int .i64 L.length)) ∧ lk l 10 = .v (.c (.int .i64 i)) ∧ lk l 16 = .v (.c x.w) ∧ lk l 17 = .v (.c (.int .i64 x.C.length)) ∧ lk l 18 = .v (.c (.int .i64 j))) (n := x.C.length) ⟨0, a, _, rfl, by omega, rfl, rfl, rfl, rfl, rfl, rfl, rfl, rfl, rfl⟩ ?_
    clear e3 e8 e9 e10
    rintro m2 s ⟨j, a, l, rfl, hj, hm2, e3, e4, e8, e9, e10, e16, e17, e18⟩
    by_cases hlt2 : (j : Int) < (x.C.length : Int)
    · obtain ⟨y, hy⟩ : ∃ y, x.C[j]? = some y := ⟨_, List.getElem?_eq_getElem (by omega)⟩
      have hrow2 : (x.C.map encR)[(j : Int).toNat]? = some [.int .i64 y.n, y.v] := by simp [encR, hy]
      obtain ⟨q1, q2, q3, b1, b2⟩ := hC.sl.at (by omega) hrow2
      have hcy := (hC.cells y (List.mem_of_getElem? hy)).1
      have hlenY : ∀ h' : Hp, lenT h' .sl (.v (.c y.v)) = some (y.L.length : Int) := fun h' => by rw [hcy.len h', List.length_map]
      have hwj := wrap_i64 (n := (j : Int) + 1) (by omega)
      simp (maxSteps := 200000) -implicitDefEqProofs only [KA, KB, KC, KD, KE, KF, eq_self, ne_eq, ↓reduceIte, Nat.reduceLT, Nat.reduceEqDiff, Nat.reduceAdd, Nat.reduceLeDiff, Nat.reduceSub, Nat.reduceMul, reduceCtorEq, e3, e4, e8, e9, e10, e16, e17, e18, hlt2, b1, b2, hlenY, hwj, rd_n]
      exact ⟨m2 - 1, by omega, j + 1, _, _, rfl, by omega, by omega, rfl, rfl, rfl, rfl, rfl, rfl, rfl, rfl⟩
    · by_cases c1 : (80 : Int) ≤ i
      · simp (maxSteps := 200000) -implicitDefEqProofs only [KA, KB, KC, KD, KE, KF, eq_self, ne_eq, ↓reduceIte, Nat.reduceLT, Nat.reduceEqDiff, Nat.reduceAdd, Nat.reduceLeDiff, Nat.reduceSub, Nat.reduceMul, reduceCtorEq, e3, e4, e8, e9, e10, e16, e17, e18, hlt2, c1]
        exact hP _
      · by_cases c2 : (600 : Int) < a
        · simp (maxSteps := 200000) -implicitDefEqProofs only [KA, KB, KC, KD, KE, KF, eq_self, ne_eq, ↓reduceIte, Nat.reduceLT, Nat.reduceEqDiff, Nat.reduceAdd, Nat.reduceLeDiff, Nat.reduceSub, Nat.reduceMul, reduceCtorEq, e3, e4, e8, e9, e10, e16, e17, e18, hlt2, c1, c2]
          exact hP _
        · simp (maxSteps := 200000) -implicitDefEqProofs only [KA, KB, KC, KD, KE, KF, eq_self, ne_eq, ↓reduceIte, Nat.reduceLT, Nat.reduceEqDiff, Nat.reduceAdd, Nat.reduceLeDiff, Nat.reduceSub, Nat.reduceMul, reduceCtorEq, e3, e4, e8, e9, e10, e16, e17, e18, hlt2, c1, c2, hwi, rd_n]
          exact ⟨m - 1, by omega, i + 1, a, _, rfl, by omega, by omega, rfl, rfl, rfl, rfl⟩
  · simp (maxSteps := 200000) -implicitDefEqProofs only [KA, KB, KC, KD, KE, KF, eq_self, ne_eq, ↓reduceIte, Nat.reduceLT, Nat.reduceEqDiff, Nat.reduceAdd, Nat.reduceLeDiff, Nat.reduceSub, Nat.reduceMul, reduceCtorEq, e3, e8, e9, e10, hlt]
    exact hP _
def VpI (b r : Nat) (v : CV) (L : List Vc) (m : Nat) (s : St) : Prop :=
  ∃ (i : Nat) (S : Sb) (h' : Hp) (l : List (Nat × TV)), s = ST 125 l [] h' ∧ i ≤ L.length ∧ m = L.length - i ∧ WS S ∧ PB h' b S ∧ RBk h' r S ∧ Vcs h' v L ∧
    lk l 5 = .v (.c (.ptr b 0 0 0)) ∧ lk l 6 = .v (.c (.ptr r 0 0 0)) ∧ lk l 28 = .v (.c v) ∧ lk l 29 = .v (.c (.int .i64 L.length)) ∧ lk l 30 = .v (.c (.int .i64 i))
def VpJ (b r : Nat) (v : CV) (L : List Vc) (S : Sb) (i : Nat) (m : Nat) (s : St) : Prop :=
  ∃ (n : Int) (h' : Hp) (l : List (Nat × TV)), s = ST 125 l [] h' ∧ -1 ≤ n ∧ n ≤ 17 ∧ (m : Int) = 17 - n ∧ PB h' b S ∧ RBk h' r S ∧ Vcs h' v L ∧
    lk l 5 = .v (.c (.ptr b 0 0 0)) ∧ lk l 6 = .v (.c (.ptr r 0 0 0)) ∧ lk l 17 = .v (.c (.int .i64 n)) ∧ lk l 28 = .v (.c v) ∧ lk l 29 = .v (.c (.int .i64 L.length)) ∧ lk l 30 = .v (.c (.int .i64 i))
theorem PB.rm {h : Hp} {b m clock : Nat} {es : List ME} {F : ME → Int × List Cel} {h' : Hp} {S : Sb} (hB : PB h b S) (hm : Rm h m es clock F) (f : Fm (fun j => j = b) h h') : Rm h' m es clock F := by
  obtain ⟨c, x, rd, hb, _⟩ := hB
  have hb' : h.g b = _ := hb
  refine ⟨f.some hm.g (fun e => by have := hm.g; rw [e, hb'] at this; cases this), hm.e, fun e he => ⟨(hm.f e he).1, ?_⟩, hm.l⟩
  obtain ⟨v, h1, h2⟩ := (hm.f e he).2
  exact ⟨v, h1, h2.hard (by omega) f hb'⟩
theorem versionPlays_ok {n0 : Int} {v : CV} {L : List Vc} (hV : Vcs h v L) (hL : L.length ≤ 1048576) (hC : ∀ x ∈ L, x.C.length ≤ 1048576) (hP : ∀ h', P (.c (.bool true)) h') : callW N (k + 100) 220 [.c (.int .i64 n0), .c v] h P := by
  refine call_intro rfl (by simp only [List.length_cons, List.length_nil]; omega) ?_
  simp (maxSteps := 200000) -implicitDefEqProofs only [KA, KB, KC, KD, KE, KF, eq_self, ne_eq, ↓reduceIte, Nat.reduceLT, Nat.reduceEqDiff, Nat.reduceAdd, Nat.reduceLeDiff, Nat.reduceSub, Nat.reduceMul, reduceCtorEq]
  refine few_ok (k := k + 98) hV (by omega) fun z => ?_
  cases z with
  | false =>
    simp (maxSteps := 200000) -implicitDefEqProofs only [KA, KB, KC, KD, KE, KF, eq_self, ne_eq, ↓reduceIte, Nat.reduceLT, Nat.reduceEqDiff, Nat.reduceAdd, Nat.reduceLeDiff, Nat.reduceSub, Nat.reduceMul, reduceCtorEq]
    refine awakeV2_ok (k := k + 98) ?_
    simp (maxSteps := 200000) -implicitDefEqProofs only [KA, KB, KC, KD, KE, KF, eq_self, ne_eq, ↓reduceIte, Nat.reduceLT, Nat.reduceEqDiff, Nat.reduceAdd, Nat.reduceLeDiff, Nat.reduceSub, Nat.reduceMul, reduceCtorEq]
    exact hP _
  | true =>
    simp (maxSteps := 200000) -implicitDefEqProofs only [KA, KB, KC, KD, KE, KF, eq_self, ne_eq, ↓reduceIte, Nat.reduceLT, Nat.reduceEqDiff, Nat.reduceAdd, Nat.reduceLeDiff, Nat.reduceSub, Nat.reduceMul, reduceCtorEq]
    obtain ⟨nn, hnn⟩ : ∃ nn : Nat, max 1 (min n0 16) = nn := ⟨(max 1 (min n0 16)).toNat, by omega⟩
    have hn16 : 1 ≤ nn ∧ nn ≤ 16 := by omega
    refine bnew2_ok (k := k + 98) fun h1 b hb f1 => ?_
    rw [hnn] at hb
    simp (maxSteps := 200000) -implicitDefEqProofs only [KA, KB, KC, KD, KE, KF, eq_self, ne_eq, ↓reduceIte, Nat.reduceLT, Nat.reduceEqDiff, Nat.reduceAdd, Nat.reduceLeDiff, Nat.reduceSub, Nat.reduceMul, reduceCtorEq]
    refine rbnew_ok (k := k + 98) fun h2 r hr f2 => ?_
    rw [hnn] at hr
    have hS0 : WS ⟨nn, 0, 0, fun _ => [], none⟩ := ⟨hn16, (show (0 : Int) ≤ 0 ∧ (0 : Int) ≤ 1000000 by omega), fun e => absurd rfl e, fun _ => by simp, fun _ _ e => by cases e⟩
    have hB0 : PB h1 b ⟨nn, 0, 0, fun _ => [], none⟩ := ⟨.nilm, .nilm, .nilm, hb, .inl ⟨rfl, fun _ => rfl⟩, .inl ⟨rfl, rfl⟩⟩
    have hR0 : RBk h2 r ⟨nn, 0, 0, fun _ => [], none⟩ := ⟨0, _, _, _, hr, fun _ _ => rfl, .inl ⟨rfl, rfl⟩⟩
    have hlen : ∀ h' : Hp, lenT h' .sl (.v (.c v)) = some (L.length : Int) := fun h' => by rw [hV.sl.len h', List.length_map]
    simp (maxSteps := 200000) -implicitDefEqProofs only [KA, KB, KC, KD, KE, KF, eq_self, ne_eq, ↓reduceIte, Nat.reduceLT, Nat.reduceEqDiff, Nat.reduceAdd, Nat.reduceLeDiff, Nat.reduceSub, Nat.reduceMul, reduceCtorEq, hlen]
    refine loop_rd (callW_mono N _) (VpI b r v L) (n := L.length) ⟨0, _, h2, _, rfl, by omega, rfl, hS0, hB0.new f2, hR0, (hV.new f1).new f2, rfl, rfl, rfl, rfl, rfl⟩ ?_
    clear hS0 hB0 hR0 hb hr f1 f2 hV
    rintro m s ⟨i, S, h3, l, rfl, hi, hm, hS, hB, hR, hV, e5, e6, e28, e29, e30⟩
    by_cases hlt : (i : Int) < (L.length : Int)
    · obtain ⟨x, hx⟩ : ∃ x, L[i]? = some x := ⟨_, List.getElem?_eq_getElem (by omega)⟩
      have hxm := List.mem_of_getElem? hx
      have hrow : (L.map encV)[(i : Int).toNat]? = some [.int .i64 x.d, .int .i64 x.nd, .int .i64 x.vv, x.w] := by simp [encV, hx]
      obtain ⟨p1, p2, p3, a1, a2⟩ := hV.sl.at (by omega) hrow
      have hwi := wrap_i64 (n := (i : Int) + 1) (by omega)
      have z0 : decide ((0 : Int) = 0) = true := rfl
      by_cases c0 : x.d = 0
      case' pos =>
        have d0 : decide (x.d = 0) = true := decide_eq_true c0
        simp (maxSteps := 200000) -implicitDefEqProofs only [KA, KB, KC, KD, KE, KF, eq_self, ne_eq, ↓reduceIte, Nat.reduceLT, Nat.reduceEqDiff, Nat.reduceAdd, Nat.reduceLeDiff, Nat.reduceSub, Nat.reduceMul, reduceCtorEq, e5, e6, e28, e29, e30, hlt, a1, a2, d0]
        refine map_ok (k := k + 97) (hV.c x hxm).1 (hV.c x hxm).2 fun h4 mm es clock D DL O f4 gm hE hes hel hMp => ?_
        have hDl := hMp.arr.1
        have hRm : Rm h4 mm es clock (rowF x.C) := ⟨gm, hE, fun e he => by
          obtain ⟨r', hr', hk, hv, hF⟩ := rowF_ok (hes e he)
          exact ⟨by rw [hF]; exact hk, r'.v, hv, by rw [hF]; exact ((hV.new f4).c x hxm).1.cells r' hr' |>.1⟩, by have := hC x hxm; omega⟩
        have hle : 16 ≤ 16 := Nat.le_refl _
        simp (maxSteps := 200000) -implicitDefEqProofs only [KA, KB, KC, KD, KE, KF, eq_self, ne_eq, ↓reduceIte, Nat.reduceLT, Nat.reduceEqDiff, Nat.reduceAdd, Nat.reduceLeDiff, Nat.reduceSub, Nat.reduceMul, reduceCtorEq, hDl, hle]
        refine pbegin_ok (k := k + 9) hS (hB.new f4) hRm fun h5 hB5 f5 => ?_
        have hRm5 := (hB.new f4).rm hRm f5
        obtain ⟨cc, xx, rdd, hbb, _⟩ := hB.new f4
        have hbb' : h4.g b = _ := hbb
        have hR5 := (hR.new f4).soft f5 (fun j e => .inl (by rw [e]; exact ⟨_, hbb'⟩))
        have hV5 := (hV.new f4).hard f5 hbb' (by omega)
        simp (maxSteps := 200000) -implicitDefEqProofs only [KA, KB, KC, KD, KE, KF, eq_self, ne_eq, ↓reduceIte, Nat.reduceLT, Nat.reduceEqDiff, Nat.reduceAdd, Nat.reduceLeDiff, Nat.reduceSub, Nat.reduceMul, reduceCtorEq]
        refine rbegin2_ok (k := k + 89) hS hR5 hRm5 fun h6 hR6 f6 => ?_
        obtain ⟨bg, V1, V2, G, hrr, _⟩ := hR5
        have hrr' : h5.g r = _ := hrr
        have hB6 := hB5.hard f6 hrr'
        have hV6 := hV5.hard f6 hrr' (by omega)
        have hS6 := hS.begin hRm.uq
        generalize (beginS S (rowF x.C) es).2 = S6 at hB6 hR6 hS6
        have d1 : decide ((beginS S (rowF x.C) es).1.1 = (beginS S (rowF x.C) es).1.1) = true := by simp
        have d2 : decide ((beginS S (rowF x.C) es).1.2 = (beginS S (rowF x.C) es).1.2) = true := by simp
        simp (maxSteps := 200000) -implicitDefEqProofs only [KA, KB, KC, KD, KE, KF, eq_self, ne_eq, ↓reduceIte, Nat.reduceLT, Nat.reduceEqDiff, Nat.reduceAdd, Nat.reduceLeDiff, Nat.reduceSub, Nat.reduceMul, reduceCtorEq, d1, d2]
      case' neg =>
        by_cases c1 : x.d = 1
        case' pos =>
          have d1 : decide (x.d = 1) = true := decide_eq_true c1
          simp (maxSteps := 200000) -implicitDefEqProofs only [KA, KB, KC, KD, KE, KF, eq_self, ne_eq, ↓reduceIte, Nat.reduceLT, Nat.reduceEqDiff, Nat.reduceAdd, Nat.reduceLeDiff, Nat.reduceSub, Nat.reduceMul, reduceCtorEq, e5, e6, e28, e29, e30, hlt, a1, a2, c0, d1]
          refine pready_ok (k := k + 97) hS hB fun h5 X hB5 f5 hX => ?_
          have hR5 := hR.soft f5 hX
          have hV5 := hV.soft f5 hX
          simp (maxSteps := 200000) -implicitDefEqProofs only [KA, KB, KC, KD, KE, KF, eq_self, ne_eq, ↓reduceIte, Nat.reduceLT, Nat.reduceEqDiff, Nat.reduceAdd, Nat.reduceLeDiff, Nat.reduceSub, Nat.reduceMul, reduceCtorEq]
          refine rready2_ok (k := k + 98) hS hR5 fun h6 hR6 f6 => ?_
          obtain ⟨bg, V1, V2, G, hrr, _⟩ := hR5
          have hrr' : h5.g r = _ := hrr
          have hB6 := hB5.hard f6 hrr'
          have hV6 := hV5.hard f6 hrr' (by omega)
          have hS6 := hS.ready x.nd x.vv
          generalize (readyS S x.nd x.vv).2 = S6 at hB6 hR6 hS6
          have d2 : decide ((readyS S x.nd x.vv).1 = (readyS S x.nd x.vv).1) = true := by simp
          simp (maxSteps := 200000) -implicitDefEqProofs only [KA, KB, KC, KD, KE, KF, eq_self, ne_eq, ↓reduceIte, Nat.reduceLT, Nat.reduceEqDiff, Nat.reduceAdd, Nat.reduceLeDiff, Nat.reduceSub, Nat.reduceMul, reduceCtorEq, d2]
        case' neg =>
          by_cases c2 : x.d = 2
          case' pos =>
            have d1 : decide (x.d = 2) = true := decide_eq_true c2
            simp (maxSteps := 200000) -implicitDefEqProofs only [KA, KB, KC, KD, KE, KF, eq_self, ne_eq, ↓reduceIte, Nat.reduceLT, Nat.reduceEqDiff, Nat.reduceAdd, Nat.reduceLeDiff, Nat.reduceSub, Nat.reduceMul, reduceCtorEq, e5, e6, e28, e29, e30, hlt, a1, a2, c0, c1, d1]
            refine pcommit_ok (k := k + 97) hS hB fun h5 X hB5 f5 hX => ?_
            have hR5 := hR.soft f5 hX
            have hV5 := hV.soft f5 hX
            simp (maxSteps := 200000) -implicitDefEqProofs only [KA, KB, KC, KD, KE, KF, eq_self, ne_eq, ↓reduceIte, Nat.reduceLT, Nat.reduceEqDiff, Nat.reduceAdd, Nat.reduceLeDiff, Nat.reduceSub, Nat.reduceMul, reduceCtorEq]
            refine rcommit2_ok (k := k + 97) hS hR5 fun h6 hR6 f6 => ?_
            obtain ⟨bg, V1, V2, G, hrr, _⟩ := hR5
            have hrr' : h5.g r = _ := hrr
            have hB6 := hB5.hard f6 hrr'
            have hV6 := hV5.hard f6 hrr' (by omega)
            have hS6 := hS.commit
            generalize (commitS S).2 = S6 at hB6 hR6 hS6
            have d2 : decide ((commitS S).1 = (commitS S).1) = true := by simp
            simp (maxSteps := 200000) -implicitDefEqProofs only [KA, KB, KC, KD, KE, KF, eq_self, ne_eq, ↓reduceIte, Nat.reduceLT, Nat.reduceEqDiff, Nat.reduceAdd, Nat.reduceLeDiff, Nat.reduceSub, Nat.reduceMul, reduceCtorEq, d2]
          case' neg =>
            simp (maxSteps := 200000) -implicitDefEqProofs only [KA, KB, KC, KD, KE, KF, eq_self, ne_eq, ↓reduceIte, Nat.reduceLT, Nat.reduceEqDiff, Nat.reduceAdd, Nat.reduceLeDiff, Nat.reduceSub, Nat.reduceMul, reduceCtorEq, e5, e6, e28, e29, e30, hlt, a1, a2, c0, c1, c2]
            refine pabort_ok (k := k + 98) hS hB fun h5 X hB5 f5 hX => ?_
            have hR5 := hR.soft f5 hX
            have hV5 := hV.soft f5 hX
            simp (maxSteps := 200000) -implicitDefEqProofs only [KA, KB, KC, KD, KE, KF, eq_self, ne_eq, ↓reduceIte, Nat.reduceLT, Nat.reduceEqDiff, Nat.reduceAdd, Nat.reduceLeDiff, Nat.reduceSub, Nat.reduceMul, reduceCtorEq]
            refine rabort2_ok (k := k + 98) hS hR5 fun h6 hR6 f6 => ?_
            obtain ⟨bg, V1, V2, G, hrr, _⟩ := hR5
            have hrr' : h5.g r = _ := hrr
            have hB6 := hB5.hard f6 hrr'
            have hV6 := hV5.hard f6 hrr' (by omega)
            have hS6 := hS.abort
            generalize (abortS S).2 = S6 at hB6 hR6 hS6
            have d2 : decide ((abortS S).1 = (abortS S).1) = true := by simp
            simp (maxSteps := 200000) -implicitDefEqProofs only [KA, KB, KC, KD, KE, KF, eq_self, ne_eq, ↓reduceIte, Nat.reduceLT, Nat.reduceEqDiff, Nat.reduceAdd, Nat.reduceLeDiff, Nat.reduceSub, Nat.reduceMul, reduceCtorEq, d2]
      all_goals
        obtain ⟨bg', W1, W2, G', rr6, tv6, _⟩ := id hR6
        have rr6' : h6.g r = _ := rr6
        have q1 := rb1 (n := S6.n) (v := S6.v) (bg := bg') (la := S6.l) (V1 := W1) (V2 := W2) (F := G')
        obtain ⟨cc', xx', rd', bb6, _⟩ := id hB6
        have dv : decide (S6.v = S6.v) = true := by simp
        simp (maxSteps := 200000) -implicitDefEqProofs only [KA, KB, KC, KD, KE, KF, eq_self, ne_eq, ↓reduceIte, Nat.reduceLT, Nat.reduceEqDiff, Nat.reduceAdd, Nat.reduceLeDiff, Nat.reduceSub, Nat.reduceMul, reduceCtorEq, rr6', q1]
        refine version_ok (k := k + 98) bb6 ?_
        simp (maxSteps := 200000) -implicitDefEqProofs only [KA, KB, KC, KD, KE, KF, eq_self, ne_eq, ↓reduceIte, Nat.reduceLT, Nat.reduceEqDiff, Nat.reduceAdd, Nat.reduceLeDiff, Nat.reduceSub, Nat.reduceMul, reduceCtorEq, rr6', q1, dv]
        refine pwaits_ok (k := k + 98) hS6 hB6 fun h7 w1 hw1 f7 => ?_
        simp (maxSteps := 200000) -implicitDefEqProofs only [KA, KB, KC, KD, KE, KF, eq_self, ne_eq, ↓reduceIte, Nat.reduceLT, Nat.reduceEqDiff, Nat.reduceAdd, Nat.reduceLeDiff, Nat.reduceSub, Nat.reduceMul, reduceCtorEq]
        refine rwaits2_ok (k := k + 98) hS6 (hR6.new f7) fun h8 w2 hw2 f8 => ?_
        simp (maxSteps := 200000) -implicitDefEqProofs only [KA, KB, KC, KD, KE, KF, eq_self, ne_eq, ↓reduceIte, Nat.reduceLT, Nat.reduceEqDiff, Nat.reduceAdd, Nat.reduceLeDiff, Nat.reduceSub, Nat.reduceMul, reduceCtorEq]
        refine same_ok (k := k + 98) (hw1.new f8) hw2 (by have := wsS_len hS6; omega) ?_
        have hB8 := (hB6.new f7).new f8
        have hR8 := (hR6.new f7).new f8
        have hV8 := (hV6.new f7).new f8
        simp (maxSteps := 200000) -implicitDefEqProofs only [KA, KB, KC, KD, KE, KF, eq_self, ne_eq, ↓reduceIte, Nat.reduceLT, Nat.reduceEqDiff, Nat.reduceAdd, Nat.reduceLeDiff, Nat.reduceSub, Nat.reduceMul, reduceCtorEq]
        refine loop_rd (callW_mono N _) (VpJ b r v L S6 i) (n := 18) ⟨-1, h8, _, rfl, by omega, by omega, by omega, hB8, hR8, hV8, rfl, rfl, rfl, rfl, rfl, rfl⟩ ?_
        clear e5 e6 e28 e29 e30 hB8 hR8 hV8 hB6 hR6 hV6 rr6 rr6' tv6 bb6
        rintro m2 s ⟨n, h9, l, rfl, hn0, hn2, hm2, hB9, hR9, hV9, e5, e6, e17, e28, e29, e30⟩
        by_cases hlt2 : n ≤ 16
        · have hwn := wrap_i64 (n := n + 1) (by omega)
          obtain ⟨cc', xx', rd', bb9, cm9, _⟩ := id hB9
          simp (maxSteps := 200000) -implicitDefEqProofs only [KA, KB, KC, KD, KE, KF, eq_self, ne_eq, ↓reduceIte, Nat.reduceLT, Nat.reduceEqDiff, Nat.reduceAdd, Nat.reduceLeDiff, Nat.reduceSub, Nat.reduceMul, reduceCtorEq, e5, e6, e17, e28, e29, e30, hlt2]
          refine bcells_ok (k := k + 97) bb9 cm9 hS6.t fun h10 u hu f10 => ?_
          have hB10 := hB9.new f10
          have hR10 := hR9.new f10
          have hV10 := hV9.new f10
          obtain ⟨bg', W1, W2, G', rr10, tv10, _⟩ := id hR10
          have hTl : (if 0 ≤ n then S6.T n.toNat else []).length ≤ 64 := by
            split
            · exact hS6.t _
            · simp
          simp (maxSteps := 200000) -implicitDefEqProofs only [KA, KB, KC, KD, KE, KF, eq_self, ne_eq, ↓reduceIte, Nat.reduceLT, Nat.reduceEqDiff, Nat.reduceAdd, Nat.reduceLeDiff, Nat.reduceSub, Nat.reduceMul, reduceCtorEq]
          refine rcells_ok (k := k + 98) rr10 hS6.n.2 (fun hin => ?_) fun hout => ?_
          · have hs := tv10 n.toNat (by have := hS6.n.2; omega)
            rw [if_pos hin.1] at hu
            simp (maxSteps := 200000) -implicitDefEqProofs only [KA, KB, KC, KD, KE, KF, eq_self, ne_eq, ↓reduceIte, Nat.reduceLT, Nat.reduceEqDiff, Nat.reduceAdd, Nat.reduceLeDiff, Nat.reduceSub, Nat.reduceMul, reduceCtorEq]
            refine samec_ok (k := k + 98) hu hs (by have := hS6.t n.toNat; omega) ?_
            simp (maxSteps := 200000) -implicitDefEqProofs only [KA, KB, KC, KD, KE, KF, eq_self, ne_eq, ↓reduceIte, Nat.reduceLT, Nat.reduceEqDiff, Nat.reduceAdd, Nat.reduceLeDiff, Nat.reduceSub, Nat.reduceMul, reduceCtorEq, hwn, rd_n]
            exact ⟨m2 - 1, by omega, n + 1, h10, _, rfl, by omega, by omega, by omega, hB10, hR10, hV10, rfl, rfl, rfl, rfl, rfl, rfl⟩
          · have he : (if 0 ≤ n then S6.T n.toNat else []) = [] := by
              by_cases h0 : 0 ≤ n
              · rw [if_pos h0]; exact cm9.le (by omega)
              · rw [if_neg h0]
            rw [he] at hu
            simp (maxSteps := 200000) -implicitDefEqProofs only [KA, KB, KC, KD, KE, KF, eq_self, ne_eq, ↓reduceIte, Nat.reduceLT, Nat.reduceEqDiff, Nat.reduceAdd, Nat.reduceLeDiff, Nat.reduceSub, Nat.reduceMul, reduceCtorEq]
            refine samec_ok (k := k + 98) (a := []) hu rfl (by simp) ?_
            simp (maxSteps := 200000) -implicitDefEqProofs only [KA, KB, KC, KD, KE, KF, eq_self, ne_eq, ↓reduceIte, Nat.reduceLT, Nat.reduceEqDiff, Nat.reduceAdd, Nat.reduceLeDiff, Nat.reduceSub, Nat.reduceMul, reduceCtorEq, hwn, rd_n]
            exact ⟨m2 - 1, by omega, n + 1, h10, _, rfl, by omega, by omega, by omega, hB10, hR10, hV10, rfl, rfl, rfl, rfl, rfl, rfl⟩
        · simp (maxSteps := 200000) -implicitDefEqProofs only [KA, KB, KC, KD, KE, KF, eq_self, ne_eq, ↓reduceIte, Nat.reduceLT, Nat.reduceEqDiff, Nat.reduceAdd, Nat.reduceLeDiff, Nat.reduceSub, Nat.reduceMul, reduceCtorEq, e5, e6, e17, e28, e29, e30, hlt2, hwi, rd_n]
          exact ⟨m - 1, by omega, i + 1, S6, h9, _, rfl, by omega, by omega, hS6, hB9, hR9, hV9, rfl, rfl, rfl, rfl, rfl⟩
    · simp (maxSteps := 200000) -implicitDefEqProofs only [KA, KB, KC, KD, KE, KF, eq_self, ne_eq, ↓reduceIte, Nat.reduceLT, Nat.reduceEqDiff, Nat.reduceAdd, Nat.reduceLeDiff, Nat.reduceSub, Nat.reduceMul, reduceCtorEq, e5, e6, e28, e29, e30, hlt]
      refine awakeV2_ok (k := k + 98) ?_
      simp (maxSteps := 200000) -implicitDefEqProofs only [KA, KB, KC, KD, KE, KF, eq_self, ne_eq, ↓reduceIte, Nat.reduceLT, Nat.reduceEqDiff, Nat.reduceAdd, Nat.reduceLeDiff, Nat.reduceSub, Nat.reduceMul, reduceCtorEq]
      exact hP _
end
end Camp

/-! CvVq9 -/
namespace Camp
open Go
set_option linter.unusedVariables false
set_option linter.unusedSimpArgs false
set_option maxHeartbeats 2000000
theorem sl_take {h : Hp} {sz id n : Nat} {rows : List (List CV)} (e : h.obs[id]? = some (.rows false sz 0 0 rows)) (hn : n ≤ rows.length) (c : Option Nat) : SL h sz (.sl id 0 0 n c) (rows.take n) :=
  ⟨false, 0, 0, rows, e, Nat.le_refl _, by omega, by simp⟩
theorem wtr_cells {hp : Hp} {rows : List (List CV)} {b : Nat} (h : WTR hp [.int .i64, .int .i64, .int .i64, .int .i64, .int .i64] rows b) : ∃ L : List Cel, rows = L.map encE ∧ L.length ≤ b := by
  induction rows generalizing b with
  | nil => exact ⟨[], rfl, Nat.zero_le _⟩
  | cons r rs ih =>
    cases h with
    | cons h1 h2 =>
      obtain ⟨L, rfl, hl⟩ := ih h2
      cases h1 with
      | int _ h1 => cases h1 with
        | int _ h1 => cases h1 with
          | int _ h1 => cases h1 with
            | int _ h1 => cases h1 with
              | int _ h1 =>
                cases h1
                exact ⟨⟨_, _, _, _, _⟩ :: L, rfl, by rw [List.length_cons]; omega⟩
theorem wtr_rows {hp : Hp} {rows : List (List CV)} {b : Nat} (h : WTR hp [.int .i64, .sl [.int .i64, .int .i64, .int .i64, .int .i64, .int .i64]] rows b) :
    ∃ C : List Rw, rows = C.map encR ∧ C.length ≤ b ∧ ∀ r ∈ C, SL hp 5 r.v (r.L.map encE) ∧ CapL r.v ∧ r.L.length ≤ b := by
  induction rows generalizing b with
  | nil => exact ⟨[], rfl, Nat.zero_le _, by simp⟩
  | cons r rs ih =>
    cases h with
    | cons h1 h2 =>
      obtain ⟨C, rfl, hl, hC⟩ := ih h2
      cases h1 with
      | int _ h1 => cases h1 with
        | nils h1 =>
          cases h1
          refine ⟨⟨_, .nils, []⟩ :: C, rfl, by rw [List.length_cons]; omega, fun r hr => ?_⟩
          rcases List.mem_cons.mp hr with rfl | hr
          · exact ⟨rfl, by rintro _ _ _ _ _ ⟨⟩, Nat.zero_le _⟩
          · have := hC r hr
            exact ⟨this.1, this.2.1, by omega⟩
        | sl e hn hr h1 =>
          cases h1
          rename_i k n id m c rows'
          obtain ⟨L, rfl, hL⟩ := wtr_cells hr
          refine ⟨⟨k, .sl id 0 0 m (some (L.map encE).length), L.take m⟩ :: C, rfl, by rw [List.length_cons]; omega, fun r hr => ?_⟩
          rcases List.mem_cons.mp hr with rfl | hr
          · refine ⟨?_, ?_, ?_⟩
            · rw [List.map_take]
              exact sl_take e hn _
            · rintro _ _ _ _ _ h
              injection h with _ _ _ h1 h2
              injection h2 with h2
              omega
            · rw [List.length_take]; omega
          · have := hC r hr
            exact ⟨this.1, this.2.1, by omega⟩
theorem wtr_vcs {hp : Hp} {rows : List (List CV)} {b : Nat} (hb : b ≤ 1048576) (h : WTR hp [.int .i64, .int .i64, .int .i64, .sl [.int .i64, .sl [.int .i64, .int .i64, .int .i64, .int .i64, .int .i64]]] rows b) :
    ∃ L : List Vc, rows = L.map encV ∧ L.length ≤ b ∧ ∀ x ∈ L, Rws hp x.w x.C ∧ x.C.length ≤ b := by
  induction rows generalizing b with
  | nil => exact ⟨[], rfl, Nat.zero_le _, by simp⟩
  | cons r rs ih =>
    cases h with
    | cons h1 h2 =>
      obtain ⟨L, rfl, hl, hL⟩ := ih (by omega) h2
      cases h1 with
      | int _ h1 => cases h1 with
        | int _ h1 => cases h1 with
          | int _ h1 => cases h1 with
            | nils h1 =>
              cases h1
              refine ⟨⟨_, _, _, .nils, []⟩ :: L, rfl, by rw [List.length_cons]; omega, fun r hr => ?_⟩
              rcases List.mem_cons.mp hr with rfl | hr
              · exact ⟨⟨rfl, by simp⟩, Nat.zero_le _⟩
              · have := hL r hr
                exact ⟨this.1, by omega⟩
            | sl e hn hr h1 =>
              cases h1
              rename_i k1 _ k2 _ k3 n id m c rows'
              obtain ⟨C, rfl, hCl, hC⟩ := wtr_rows hr
              refine ⟨⟨_, _, _, .sl id 0 0 m (some (C.map encR).length), C.take m⟩ :: L, rfl, by rw [List.length_cons]; omega, fun r hr => ?_⟩
              rcases List.mem_cons.mp hr with rfl | hr
              · refine ⟨⟨?_, fun y hy => ?_⟩, ?_⟩
                · rw [List.map_take]
                  exact sl_take e hn _
                · have := hC y (List.mem_of_mem_take hy)
                  exact ⟨this.1, this.2.1, by omega⟩
                · rw [List.length_take]; omega
              · have := hL r hr
                exact ⟨this.1, by omega⟩
theorem wt_vcs {hp : Hp} {w : CV} {b : Nat} (h : WT hp [.sl [.int .i64, .int .i64, .int .i64, .sl [.int .i64, .sl [.int .i64, .int .i64, .int .i64, .int .i64, .int .i64]]]] [w] b) (hb : b ≤ 1048576) : ∃ L : List Vc, Vcs hp w L ∧ L.length ≤ 1048576 ∧ ∀ x ∈ L, x.C.length ≤ 1048576 := by
  cases h with
  | nils h => exact ⟨[], ⟨rfl, by simp⟩, by simp, by simp⟩
  | sl e hn hr h =>
    cases h
    rename_i id n c rows
    obtain ⟨L, rfl, hl, hL⟩ := wtr_vcs (by omega) hr
    refine ⟨L.take n, ⟨?_, fun x hx => ?_⟩, ?_, fun x hx => ?_⟩
    · rw [List.map_take]
      exact sl_take e hn _
    · have := hL x (List.mem_of_mem_take hx)
      exact ⟨this.1, by omega⟩
    · rw [List.length_take]; omega
    · have := hL x (List.mem_of_mem_take hx)
      omega
end Camp
