/- Labels: conversions of texts; Turn; awake. Labels: awake; the laws Cuts, Turns. Labels: the laws Sums, May. -/
import Derived.Test.YtbdikeedilidkaaLaw

set_option linter.unnecessarySimpa false
set_option linter.unusedVariables false
set_option linter.unusedSimpArgs false
set_option linter.unusedSectionVars false
/-! CvLab3 -/
namespace Camp
open Go Camp.U
set_option linter.unusedVariables false
set_option linter.unusedSimpArgs false
set_option maxHeartbeats 4000000
theorem encode_eq (r : Int) : Utf8.encode r = bs (enc r) := by
  have hof : ∀ (a : Nat) (x : Int), 0 ≤ x → x = (a : Int) → UInt8.ofNat a = x.toNat.toUInt8 := by
    intro a x h0 h
    subst h
    rfl
  by_cases hv : vr r
  · have hv' := hv
    unfold vr at hv'
    have hva : Utf8.valid r = true := by
      unfold Utf8.valid
      simp only [Bool.or_eq_true, Bool.and_eq_true, decide_eq_true_eq]
      omega
    unfold Utf8.encode
    simp only [hva, if_true]
    rcases enc_arms hv with ⟨h1, he⟩ | ⟨h1, h2, he⟩ | ⟨h1, h2, he⟩ | ⟨h1, he⟩
    · rw [if_pos (by omega), he]
      rfl
    · rw [if_neg (by omega), if_pos (by omega), he, hof _ (192 + r / 64) (by omega) (by omega), hof _ (128 + r % 64) (by omega) (by omega)]
      rfl
    · rw [if_neg (by omega), if_neg (by omega), if_pos (by omega), he, hof _ (224 + r / 4096) (by omega) (by omega), hof _ (128 + r / 64 % 64) (by omega) (by omega), hof _ (128 + r % 64) (by omega) (by omega)]
      rfl
    · rw [if_neg (by omega), if_neg (by omega), if_neg (by omega), he, hof _ (240 + r / 262144) (by omega) (by omega), hof _ (128 + r / 4096 % 64) (by omega) (by omega), hof _ (128 + r / 64 % 64) (by omega) (by omega), hof _ (128 + r % 64) (by omega) (by omega)]
      rfl
  · have hva : Utf8.valid r = false := by
      unfold vr at hv
      rw [Bool.eq_false_iff]
      unfold Utf8.valid
      simp only [ne_eq, Bool.or_eq_true, Bool.and_eq_true, decide_eq_true_eq]
      omega
    have he : enc r = [239, 191, 189] := by
      unfold vr at hv
      unfold enc Lib.encodeRune
      rw [Lib.encodeRuneZ_bad (by omega)]
      rfl
    rw [he]
    unfold Utf8.encode
    simp only [hva, Bool.false_eq_true, if_false]
    rfl
theorem runesOf_eq (L : List UInt8) : ∀ (fuel i : Nat), L.length ≤ i + fuel → runesOf (bs L) fuel i = (runs (L.drop i)).map encR := by
  intro fuel
  induction fuel with
  | zero => intro i h; rw [List.drop_of_length_le (by omega), runs_nil]; rfl
  | succ f ih =>
    intro i h
    unfold runesOf
    rw [bs_size]
    by_cases hi : i < L.length
    · obtain ⟨s1, s2, s3, s4⟩ := step_at hi
      rw [if_pos hi, bs_dec, ih _ (by omega), s4]
      rfl
    · rw [if_neg hi, List.drop_of_length_le (by omega), runs_nil]
      rfl
theorem rowsBytes_eq : ∀ B : List UInt8, rowsBytes (B.map encB) = some B
  | [] => rfl
  | b :: B => by
    show (rowsBytes (B.map encB)).bind (fun l => some (UInt8.ofNat ((b.toNat : Int)).toNat :: l)) = _
    rw [rowsBytes_eq B, Option.bind_some, Int.toNat_natCast]
    simp
theorem rowsRunes_eq : ∀ l : List Int, rowsRunes (l.map encR) = some (bs (encs l))
  | [] => rfl
  | r :: l => by
    show (rowsRunes (l.map encR)).bind (fun s => some (Utf8.encode r ++ s)) = _
    rw [rowsRunes_eq l, Option.bind_some, encode_eq, bs_app, encs_cons]
section
variable {t : List TV} {lc : List (List CV)} {h : Hp}
theorem c_s2r (L : List UInt8) : convV ⟨t, lc, h⟩ .strToRunes (.v (.c (.str (bs L)))) = some ⟨.v (.c (.sl h.n 0 0 (runs L).length none)), lc, h.push (.rows true 1 0 0 ((runs L).map encR))⟩ := by
  show some (Res.mk (.v (.c (.sl h.n 0 0 (runesOf (bs L) L.length 0).length none))) lc (h.push (.rows true 1 0 0 (runesOf (bs L) L.length 0)))) = _
  rw [runesOf_eq L L.length 0 (by omega), List.drop_zero, List.length_map]
theorem c_b2s {v : CV} {B : List UInt8} (hs : SL h 1 v (B.map encB)) : convV ⟨t, lc, h⟩ .bytesToStr (.v (.c v)) = some ⟨.v (.c (.str (bs B))), lc, h⟩ := by
  have hrd : sliceRows h lc 1 (.v (.c v)) = some (B.map encB) := hs.read
  have hv : ∀ s, v ≠ .str s := by rintro s rfl; exact hs.elim
  cases v <;> first | exact absurd rfl (hv _) | skip
  all_goals
    simp only [convV, hrd, Option.bind_some, rowsBytes_eq, Option.map_some]
    rfl
theorem c_r2s {v : CV} {l : List Int} (hs : SL h 1 v (l.map encR)) : convV ⟨t, lc, h⟩ .runesToStr (.v (.c v)) = some ⟨.v (.c (.str (bs (encs l)))), lc, h⟩ := by
  have hrd : sliceRows h lc 1 (.v (.c v)) = some (l.map encR) := hs.read
  have hv : ∀ s, v ≠ .str s := by rintro s rfl; exact hs.elim
  cases v <;> first | exact absurd rfl (hv _) | skip
  all_goals
    simp only [convV, hrd, Option.bind_some, rowsRunes_eq, Option.map_some]
theorem c_i2s (r : Int) : convV ⟨t, lc, h⟩ .intToStr (.v (.c (.int .i32 r))) = some ⟨.v (.c (.str (bs (enc r)))), lc, h⟩ := by
  show some (Res.mk (.v (.c (.str (Utf8.encode r)))) lc h) = _
  rw [encode_eq]
end
section
variable {k : Nat} {h : Hp} {P : AV → Hp → Prop} {L : List UInt8}
theorem encs_len_le : ∀ l : List Int, (encs l).length ≤ 4 * l.length
  | [] => Nat.le_refl _
  | r :: l => by
    have := enc_len r
    have := encs_len_le l
    rw [encs_cons, List.length_append, List.length_cons]
    omega
theorem norm_ok (hL : L.length ≤ 1000000000) (hP : P (.c (.str (bs (encs ((runs L).map Go.Proofs.Nrm.low))))) h) : callW N (k + 1) 174 [.c (.str (bs L))] h P := by
  have hF : normF [.c (.str (bs L))] = some (.c (.str (bs (encs ((runs L).map Go.Proofs.Nrm.low))))) := by
    show (if (bs L).size ≤ 35184372088832 then some (AV.c (.str ⟨(Go.Proofs.Nrm.norm (bs L)).toArray⟩)) else none) = _
    rw [if_pos (by rw [bs_size]; omega), norm_eq]
    rfl
  exact ⟨n174, rfl, Nat.le_refl _, _, _, rfl, hF, .inr rfl, _, rfl, hP⟩
def TuI (R : List Int) (h : Hp) (id : Nat) (m : Nat) (st : St) : Prop :=
  ∃ (i : Nat) (w : CV) (h' : Hp) (l : List (Nat × TV)) (lc : List (List CV)), st = ST 23 l lc h' ∧ i ≤ R.length ∧ m = R.length - i ∧ Ow h' 1 w ((encs (R.take i)).map encB) ∧ Fm (fun j => j = id) h h' ∧ (∀ j, ownId w j → h.n ≤ j) ∧ h'.g id = some (.rows true 1 0 0 (R.map encR)) ∧
    lk l 4 = .v (.c w) ∧ lk l 11 = .v (.c (.sl id 0 0 R.length none)) ∧ lk l 12 = .v (.c (.int .i64 R.length)) ∧ lk l 13 = .v (.c (.int .i64 i))
theorem turn_ok (hL : L.length ≤ 100000000) (hP : ∀ h', Fn h h' → P (.c (.str (bs (encs (runs L).reverse)))) h') : callW N (k + 3) 178 [.c (.str (bs L))] h P := by
  have hrl := runs_len L
  have hvr := runs_vr L
  refine call_intro rfl (by simp only [List.length_cons, List.length_nil]; omega) ?_
  obtain ⟨h1, hh1⟩ : ∃ h1, h1 = h.push (.rows true 1 0 0 ((runs L).map encR)) := ⟨_, rfl⟩
  have e1 := hh1.symm
  have hg1 : h1.g h.n = some (.rows true 1 0 0 ((runs L).map encR)) := by rw [hh1, g_push_eq]
  have hf1 : Fn h h1 := by rw [hh1]; exact Fm.push _ _ _
  have n1 : h1.n = h.n + 1 := by rw [hh1, n_push]
  generalize hR0 : runs L = R0 at *
  simp (maxSteps := 200000) -implicitDefEqProofs only [KA, KB, KC, KD, KE, KF, eq_self, ne_eq, ↓reduceIte, Nat.reduceLT, Nat.reduceEqDiff, Nat.reduceAdd, Nat.reduceLeDiff, Nat.reduceSub, Nat.reduceMul, reduceCtorEq, c_s2r, hR0, e1]
  refine reverse_ok (k := k + 1) hg1 (by omega) fun h2 hg2 hf2 => ?_
  have hf02 : Fn h h2 := hf1.fresh hf2 (fun j e => by omega)
  have hRl : R0.length = R0.reverse.length := List.length_reverse.symm
  have hvr2 : ∀ r ∈ R0.reverse, vr r := fun r hr => hvr r (List.mem_reverse.mp hr)
  have hlen : ∀ h' : Hp, lenT h' .sl (.v (.c (.sl h.n 0 0 R0.length none))) = some (R0.length : Int) := fun h' => rfl
  simp (maxSteps := 200000) -implicitDefEqProofs only [KA, KB, KC, KD, KE, KF, eq_self, ne_eq, ↓reduceIte, Nat.reduceLT, Nat.reduceEqDiff, Nat.reduceAdd, Nat.reduceLeDiff, Nat.reduceSub, Nat.reduceMul, reduceCtorEq, hlen]
  rw [hRl] at hrl hlen ⊢
  generalize hR : R0.reverse = R at *
  refine loop_rd (callW_mono N _) (TuI R h2 h.n) (n := R.length) ⟨0, .nils, h2, _, _, rfl, by omega, by omega, rfl, Fm.refl _ _, fun _ e => e.elim, hg2, rfl, rfl, rfl, rfl⟩ ?_
  rintro m st ⟨i, w, h3, l, lc, rfl, hi, hm, how, hf3, hid, hg3, e4, e11, e12, e13⟩
  by_cases hlt : (i : Int) < R.length
  · have hil : i < R.length := by omega
    obtain ⟨x, hx⟩ : ∃ x, R[i]? = some x := ⟨_, List.getElem?_eq_getElem hil⟩
    have hr : (R.map encR)[(i : Int).toNat]? = some [.int .i32 x] := by simp [hx, encR]
    have ia := iaS (n := R.length) (i := (i : Int)) hg3 (Nat.le_refl 0) (by omega) none
    have hw := wrap_i64 (n := (i : Int) + 1) (by omega)
    have hlb := encs_len_le (R.take i)
    rw [List.length_take] at hlb
    simp (maxSteps := 200000) -implicitDefEqProofs only [KA, KB, KC, KD, KE, KF, eq_self, ne_eq, ↓reduceIte, Nat.reduceLT, Nat.reduceEqDiff, Nat.reduceAdd, Nat.reduceLeDiff, Nat.reduceSub, Nat.reduceMul, reduceCtorEq, e4, e11, e12, e13, hlt, ia, hg3, hr]
    refine apr_ok (k := k) how (hvr2 x (List.mem_of_getElem? hx)) (by omega) fun h4 u hou hf4 hid4 => ?_
    have hne : ¬ ownId w h.n := fun e => by have := hid _ e; have := hf2.n; omega
    have hg4 := hf4.some hg3 hne
    simp (maxSteps := 200000) -implicitDefEqProofs only [KA, KB, KC, KD, KE, KF, eq_self, ne_eq, ↓reduceIte, Nat.reduceLT, Nat.reduceEqDiff, Nat.reduceAdd, Nat.reduceLeDiff, Nat.reduceSub, Nat.reduceMul, reduceCtorEq, hw, rd_n]
    refine ⟨m - 1, by omega, i + 1, u, h4, _, _, rfl, by omega, by omega, ?_, hf3.comp hf4 (fun j hj e => by have := hid _ e; omega), fun j hj => (hid4 j hj).elim (hid j) (fun e => by have := hf3.n; omega), hg4, rfl, rfl, rfl, rfl⟩
    rw [take_snoc hx, encs_append, encs_cons, encs_nil, List.append_nil]
    exact hou
  · rw [List.take_of_length_le (by omega)] at how
    have hc := c_b2s (t := []) (lc := []) how.sl
    have hb : ∀ tm, convV ⟨tm, [], h3⟩ .bytesToStr (.v (.c w)) = some ⟨.v (.c (.str (bs (encs R)))), [], h3⟩ := fun tm => c_b2s how.sl
    simp (maxSteps := 200000) -implicitDefEqProofs only [KA, KB, KC, KD, KE, KF, eq_self, ne_eq, ↓reduceIte, Nat.reduceLT, Nat.reduceEqDiff, Nat.reduceAdd, Nat.reduceLeDiff, Nat.reduceSub, Nat.reduceMul, reduceCtorEq, e4, e11, e12, e13, hlt, rd_e, hb]
    exact hP _ (hf02.fresh hf3 (fun j e => by omega))
end
end Camp

/-! CvLab4 -/
namespace Camp
open Go Camp.U
set_option linter.unusedVariables false
set_option linter.unusedSimpArgs false
set_option maxHeartbeats 4000000
theorem runs_of {L : List UInt8} {l : List Int} (h : encs l = L) (hf : l.map fix = l) : runs L = l := by rw [← h, runs_encs', hf]
theorem aw1 : runs [65, 206, 178] = [65, 946] := runs_of (by decide +kernel) (by decide +kernel)
theorem aw2 : encs ([65, 946].map Go.Proofs.Nrm.low) = [97, 206, 178] := by decide +kernel
theorem aw3 : runs [97, 206, 178] = [97, 946] := runs_of (by decide +kernel) (by decide +kernel)
theorem aw4 : encs ([97, 946] : List Int).reverse = [206, 178, 97] := by decide +kernel
theorem aw5 : runs [97, 98] = [97, 98] := runs_of (by decide +kernel) (by decide +kernel)
theorem aw6 : sumT 0 [97, 98] % 65521 = 293 := by decide +kernel
theorem aw7 : runs [97, 206, 178, 49] = [97, 946, 49] := runs_of (by decide +kernel) (by decide +kernel)
theorem aw8 : mayR [97, 946, 49] := ⟨⟨.inl (by decide), .inl (by decide), .inr ⟨rfl, by decide⟩, trivial⟩, by decide, by decide⟩
section
variable {k : Nat} {h : Hp} {P : AV → Hp → Prop}
theorem awakeL_ok (hP : ∀ h', Fn h h' → P (.c (.bool true)) h') : callW N (k + 4) 171 [] h P := by
  have d0 : decide (([97, 206, 178] : List UInt8) = [97, 206, 178]) = true := by simp
  have d1 : decide (([206, 178, 97] : List UInt8) = [206, 178, 97]) = true := by simp
  have d2 : decide ((293 : Int) = 293) = true := rfl
  refine call_intro rfl (by simp only [List.length_nil]; omega) ?_
  simp (maxSteps := 200000) -implicitDefEqProofs only [KA, KB, KC, KD, KE, KF, eq_self, ne_eq, ↓reduceIte, Nat.reduceLT, Nat.reduceEqDiff, Nat.reduceAdd, Nat.reduceLeDiff, Nat.reduceSub, Nat.reduceMul, reduceCtorEq]
  refine norm_ok (k := k + 2) (by simp) ?_
  rw [aw1, aw2]
  simp (maxSteps := 200000) -implicitDefEqProofs only [KA, KB, KC, KD, KE, KF, eq_self, ne_eq, ↓reduceIte, Nat.reduceLT, Nat.reduceEqDiff, Nat.reduceAdd, Nat.reduceLeDiff, Nat.reduceSub, Nat.reduceMul, reduceCtorEq, bs_eq, d0]
  refine turn_ok (k := k) (by simp) fun h1 f1 => ?_
  rw [aw3, aw4]
  simp (maxSteps := 200000) -implicitDefEqProofs only [KA, KB, KC, KD, KE, KF, eq_self, ne_eq, ↓reduceIte, Nat.reduceLT, Nat.reduceEqDiff, Nat.reduceAdd, Nat.reduceLeDiff, Nat.reduceSub, Nat.reduceMul, reduceCtorEq, bs_eq, d1]
  refine sum_ok (k := k + 2) (by simp) fun h2 f2 => ?_
  rw [aw5, aw6]
  simp (maxSteps := 200000) -implicitDefEqProofs only [KA, KB, KC, KD, KE, KF, eq_self, ne_eq, ↓reduceIte, Nat.reduceLT, Nat.reduceEqDiff, Nat.reduceAdd, Nat.reduceLeDiff, Nat.reduceSub, Nat.reduceMul, reduceCtorEq, d2]
  refine may_ok (k := k + 1) (by simp) fun h3 b hb f3 => ?_
  rw [aw7] at hb
  rw [hb.mpr aw8]
  simp (maxSteps := 200000) -implicitDefEqProofs only [KA, KB, KC, KD, KE, KF, eq_self, ne_eq, ↓reduceIte, Nat.reduceLT, Nat.reduceEqDiff, Nat.reduceAdd, Nat.reduceLeDiff, Nat.reduceSub, Nat.reduceMul, reduceCtorEq]
  exact hP _ ((f1.trans f2).trans f3)
theorem labelCuts_ok {L : List UInt8} {a0 b0 : Int} (hP : ∀ h', P (.c (.bool true)) h') : callW N (k + 5) 188 [.c (.str (bs L)), .c (.int .i64 a0), .c (.int .i64 b0)] h P := by
  refine call_intro rfl (by simp only [List.length_cons, List.length_nil]; omega) ?_
  by_cases hl : 500 < (L.length : Int)
  · simp (maxSteps := 200000) -implicitDefEqProofs only [KA, KB, KC, KD, KE, KF, eq_self, ne_eq, ↓reduceIte, Nat.reduceLT, Nat.reduceEqDiff, Nat.reduceAdd, Nat.reduceLeDiff, Nat.reduceSub, Nat.reduceMul, reduceCtorEq, bs_len, hl]
    refine awakeL_ok (k := k) fun h' _ => ?_
    simp (maxSteps := 200000) -implicitDefEqProofs only [KA, KB, KC, KD, KE, KF, eq_self, ne_eq, ↓reduceIte, Nat.reduceLT, Nat.reduceEqDiff, Nat.reduceAdd, Nat.reduceLeDiff, Nat.reduceSub, Nat.reduceMul, reduceCtorEq]
    exact hP _
  obtain ⟨a, ha, ha1, ha2⟩ : ∃ x', (IntKind.wrap .u64 a0).tmod 20 = x' ∧ 0 ≤ x' ∧ x' < 20 := ⟨_, rfl, u64_tmod _ _ (by omega)⟩
  obtain ⟨b, hb, hb1, hb2⟩ : ∃ x', (IntKind.wrap .u64 b0).tmod 20 = x' ∧ 0 ≤ x' ∧ x' < 20 := ⟨_, rfl, u64_tmod _ _ (by omega)⟩
  have wa := wrap_i64 (n := a) (by omega)
  have wb := wrap_i64 (n := b) (by omega)
  have z20 : ¬ ((20 : Int) = 0) := by decide
  have hlr := runs_len L
  have wc := wrap_i64 (n := ((runs L).length : Int) + a) (by omega)
  have wd := wrap_i64 (n := -1 - a) (by omega)
  simp (maxSteps := 200000) -implicitDefEqProofs only [KA, KB, KC, KD, KE, KF, eq_self, ne_eq, ↓reduceIte, Nat.reduceLT, Nat.reduceEqDiff, Nat.reduceAdd, Nat.reduceLeDiff, Nat.reduceSub, Nat.reduceMul, reduceCtorEq, bs_len, hl, ha, hb, wa, wb, z20]
  refine cut_ok (k := k + 3) (by omega) fun h1 f1 => ?_
  simp (maxSteps := 200000) -implicitDefEqProofs only [KA, KB, KC, KD, KE, KF, eq_self, ne_eq, ↓reduceIte, Nat.reduceLT, Nat.reduceEqDiff, Nat.reduceAdd, Nat.reduceLeDiff, Nat.reduceSub, Nat.reduceMul, reduceCtorEq]
  refine cut_ok (k := k + 3) (by omega) fun h2 f2 => ?_
  simp (maxSteps := 200000) -implicitDefEqProofs only [KA, KB, KC, KD, KE, KF, eq_self, ne_eq, ↓reduceIte, Nat.reduceLT, Nat.reduceEqDiff, Nat.reduceAdd, Nat.reduceLeDiff, Nat.reduceSub, Nat.reduceMul, reduceCtorEq]
  refine cut_ok (k := k + 3) (by omega) fun h3 f3 => ?_
  have c1 : decide (ucut b.toNat (ucut a.toNat L) = ucut (min a b).toNat L) = true := decide_eq_true (by
    rw [ucut_ucut]
    congr 1
    omega)
  simp (maxSteps := 200000) -implicitDefEqProofs only [KA, KB, KC, KD, KE, KF, eq_self, ne_eq, ↓reduceIte, Nat.reduceLT, Nat.reduceEqDiff, Nat.reduceAdd, Nat.reduceLeDiff, Nat.reduceSub, Nat.reduceMul, reduceCtorEq, bs_eq, c1]
  refine count_ok (k := k + 3) (by omega) fun h4 f4 => ?_
  simp (maxSteps := 200000) -implicitDefEqProofs only [KA, KB, KC, KD, KE, KF, eq_self, ne_eq, ↓reduceIte, Nat.reduceLT, Nat.reduceEqDiff, Nat.reduceAdd, Nat.reduceLeDiff, Nat.reduceSub, Nat.reduceMul, reduceCtorEq]
  refine cut_ok (k := k + 3) (by omega) fun h5 f5 => ?_
  rw [Int.toNat_natCast, ucut_all _ _ (Nat.le_refl _)]
  have c2 : decide (L = L) = true := by simp
  simp (maxSteps := 200000) -implicitDefEqProofs only [KA, KB, KC, KD, KE, KF, eq_self, ne_eq, ↓reduceIte, Nat.reduceLT, Nat.reduceEqDiff, Nat.reduceAdd, Nat.reduceLeDiff, Nat.reduceSub, Nat.reduceMul, reduceCtorEq, bs_eq, c2]
  refine count_ok (k := k + 3) (by omega) fun h6 f6 => ?_
  simp (maxSteps := 200000) -implicitDefEqProofs only [KA, KB, KC, KD, KE, KF, eq_self, ne_eq, ↓reduceIte, Nat.reduceLT, Nat.reduceEqDiff, Nat.reduceAdd, Nat.reduceLeDiff, Nat.reduceSub, Nat.reduceMul, reduceCtorEq, wc]
  refine cut_ok (k := k + 3) (by omega) fun h7 f7 => ?_
  rw [ucut_all (((runs L).length : Int) + a).toNat L (by omega)]
  simp (maxSteps := 200000) -implicitDefEqProofs only [KA, KB, KC, KD, KE, KF, eq_self, ne_eq, ↓reduceIte, Nat.reduceLT, Nat.reduceEqDiff, Nat.reduceAdd, Nat.reduceLeDiff, Nat.reduceSub, Nat.reduceMul, reduceCtorEq, bs_eq, c2, wd]
  refine cut_ok (k := k + 3) (by omega) fun h8 f8 => ?_
  rw [show (-1 - a).toNat = 0 by omega, show ucut 0 L = [] from rfl]
  have c3 : decide (([] : List UInt8) = []) = true := by simp
  simp (maxSteps := 200000) -implicitDefEqProofs only [KA, KB, KC, KD, KE, KF, eq_self, ne_eq, ↓reduceIte, Nat.reduceLT, Nat.reduceEqDiff, Nat.reduceAdd, Nat.reduceLeDiff, Nat.reduceSub, Nat.reduceMul, reduceCtorEq, bs_eq, c3]
  refine awakeL_ok (k := k) fun h' _ => ?_
  simp (maxSteps := 200000) -implicitDefEqProofs only [KA, KB, KC, KD, KE, KF, eq_self, ne_eq, ↓reduceIte, Nat.reduceLT, Nat.reduceEqDiff, Nat.reduceAdd, Nat.reduceLeDiff, Nat.reduceSub, Nat.reduceMul, reduceCtorEq]
  exact hP _
theorem labelTurns_ok {A B : List UInt8} (hP : ∀ h', P (.c (.bool true)) h') : callW N (k + 5) 177 [.c (.str (bs A)), .c (.str (bs B))] h P := by
  refine call_intro rfl (by simp only [List.length_cons, List.length_nil]; omega) ?_
  by_cases hl : 300 < (A.length : Int)
  · simp (maxSteps := 200000) -implicitDefEqProofs only [KA, KB, KC, KD, KE, KF, eq_self, ne_eq, ↓reduceIte, Nat.reduceLT, Nat.reduceEqDiff, Nat.reduceAdd, Nat.reduceLeDiff, Nat.reduceSub, Nat.reduceMul, reduceCtorEq, bs_len, hl]
    refine awakeL_ok (k := k) fun h' _ => ?_
    simp (maxSteps := 200000) -implicitDefEqProofs only [KA, KB, KC, KD, KE, KF, eq_self, ne_eq, ↓reduceIte, Nat.reduceLT, Nat.reduceEqDiff, Nat.reduceAdd, Nat.reduceLeDiff, Nat.reduceSub, Nat.reduceMul, reduceCtorEq]
    exact hP _
  by_cases hl2 : 300 < (B.length : Int)
  · simp (maxSteps := 200000) -implicitDefEqProofs only [KA, KB, KC, KD, KE, KF, eq_self, ne_eq, ↓reduceIte, Nat.reduceLT, Nat.reduceEqDiff, Nat.reduceAdd, Nat.reduceLeDiff, Nat.reduceSub, Nat.reduceMul, reduceCtorEq, bs_len, hl, hl2]
    refine awakeL_ok (k := k) fun h' _ => ?_
    simp (maxSteps := 200000) -implicitDefEqProofs only [KA, KB, KC, KD, KE, KF, eq_self, ne_eq, ↓reduceIte, Nat.reduceLT, Nat.reduceEqDiff, Nat.reduceAdd, Nat.reduceLeDiff, Nat.reduceSub, Nat.reduceMul, reduceCtorEq]
    exact hP _
  have hroom : A.length + B.length ≤ room := by simp only [room]; omega
  have hadd := bs_add hroom
  have hla := runs_len A
  have hlb := runs_len B
  have hab : (A ++ B).length ≤ 1000000 := by rw [List.length_append]; omega
  have wc := wrap_i64 (n := ((runs A).length : Int) + (runs B).length) (by omega)
  simp (maxSteps := 200000) -implicitDefEqProofs only [KA, KB, KC, KD, KE, KF, eq_self, ne_eq, ↓reduceIte, Nat.reduceLT, Nat.reduceEqDiff, Nat.reduceAdd, Nat.reduceLeDiff, Nat.reduceSub, Nat.reduceMul, reduceCtorEq, bs_len, hl, hl2, hadd]
  refine count_ok (k := k + 3) (by omega) fun h1 f1 => ?_
  simp (maxSteps := 200000) -implicitDefEqProofs only [KA, KB, KC, KD, KE, KF, eq_self, ne_eq, ↓reduceIte, Nat.reduceLT, Nat.reduceEqDiff, Nat.reduceAdd, Nat.reduceLeDiff, Nat.reduceSub, Nat.reduceMul, reduceCtorEq]
  refine count_ok (k := k + 3) (by omega) fun h2 f2 => ?_
  simp (maxSteps := 200000) -implicitDefEqProofs only [KA, KB, KC, KD, KE, KF, eq_self, ne_eq, ↓reduceIte, Nat.reduceLT, Nat.reduceEqDiff, Nat.reduceAdd, Nat.reduceLeDiff, Nat.reduceSub, Nat.reduceMul, reduceCtorEq]
  refine count_ok (k := k + 3) (by omega) fun h3 f3 => ?_
  by_cases hj : ((runs (A ++ B)).length : Int) = ((runs A).length : Int) + (runs B).length
  · have hj' : decide (((runs (A ++ B)).length : Int) = ((runs A).length : Int) + (runs B).length) = true := decide_eq_true hj
    have hrj := runs_join A.length A B rfl (by omega)
    have hb1 := encs_len_le (runs A).reverse
    have hb2 := encs_len_le (runs B).reverse
    rw [List.length_reverse] at hb1 hb2
    have hadd2 := bs_add (A := encs (runs B).reverse) (B := encs (runs A).reverse) (by simp only [room]; omega)
    simp (maxSteps := 200000) -implicitDefEqProofs only [KA, KB, KC, KD, KE, KF, eq_self, ne_eq, ↓reduceIte, Nat.reduceLT, Nat.reduceEqDiff, Nat.reduceAdd, Nat.reduceLeDiff, Nat.reduceSub, Nat.reduceMul, reduceCtorEq, wc, hj', hadd]
    refine turn_ok (k := k + 1) (by omega) fun h4 f4 => ?_
    simp (maxSteps := 200000) -implicitDefEqProofs only [KA, KB, KC, KD, KE, KF, eq_self, ne_eq, ↓reduceIte, Nat.reduceLT, Nat.reduceEqDiff, Nat.reduceAdd, Nat.reduceLeDiff, Nat.reduceSub, Nat.reduceMul, reduceCtorEq]
    refine turn_ok (k := k + 1) (by omega) fun h5 f5 => ?_
    simp (maxSteps := 200000) -implicitDefEqProofs only [KA, KB, KC, KD, KE, KF, eq_self, ne_eq, ↓reduceIte, Nat.reduceLT, Nat.reduceEqDiff, Nat.reduceAdd, Nat.reduceLeDiff, Nat.reduceSub, Nat.reduceMul, reduceCtorEq]
    refine turn_ok (k := k + 1) (by omega) fun h6 f6 => ?_
    have e1 : encs (runs (A ++ B)).reverse = encs (runs B).reverse ++ encs (runs A).reverse := by rw [hrj, List.reverse_append, encs_append]
    have hc := runs_encs' (runs (A ++ B)).reverse
    rw [map_fix (fun r hr => runs_vr _ r (List.mem_reverse.mp hr)), e1] at hc
    have hcl := congrArg List.length hc
    rw [List.length_reverse] at hcl
    rw [e1]
    generalize hX : encs (runs B).reverse = X at *
    generalize hY : encs (runs A).reverse = Y at *
    have d1 : decide (X ++ Y = X ++ Y) = true := by simp
    have hxy : (X ++ Y).length ≤ 1000000 := by rw [List.length_append]; omega
    generalize hXY : X ++ Y = XY at *
    simp (maxSteps := 200000) -implicitDefEqProofs only [KA, KB, KC, KD, KE, KF, eq_self, ne_eq, ↓reduceIte, Nat.reduceLT, Nat.reduceEqDiff, Nat.reduceAdd, Nat.reduceLeDiff, Nat.reduceSub, Nat.reduceMul, reduceCtorEq, hadd2, bs_eq, d1]
    refine count_ok (k := k + 3) (by omega) fun h7 f7 => ?_
    simp (maxSteps := 200000) -implicitDefEqProofs only [KA, KB, KC, KD, KE, KF, eq_self, ne_eq, ↓reduceIte, Nat.reduceLT, Nat.reduceEqDiff, Nat.reduceAdd, Nat.reduceLeDiff, Nat.reduceSub, Nat.reduceMul, reduceCtorEq, hadd]
    refine count_ok (k := k + 3) (by omega) fun h8 f8 => ?_
    have d2 : decide (((runs XY).length : Int) = (runs (A ++ B)).length) = true := decide_eq_true (by omega)
    simp (maxSteps := 200000) -implicitDefEqProofs only [KA, KB, KC, KD, KE, KF, eq_self, ne_eq, ↓reduceIte, Nat.reduceLT, Nat.reduceEqDiff, Nat.reduceAdd, Nat.reduceLeDiff, Nat.reduceSub, Nat.reduceMul, reduceCtorEq, d2]
    refine turn_ok (k := k + 1) (by simp) fun h9 f9 => ?_
    have e2 : encs (runs [206, 178]).reverse = [206, 178] := by rw [runs_of (L := [206, 178]) (l := [946]) (by decide +kernel) (by decide +kernel)]; decide +kernel
    have d3 : decide (([206, 178] : List UInt8) = [206, 178]) = true := by simp
    rw [e2]
    simp (maxSteps := 200000) -implicitDefEqProofs only [KA, KB, KC, KD, KE, KF, eq_self, ne_eq, ↓reduceIte, Nat.reduceLT, Nat.reduceEqDiff, Nat.reduceAdd, Nat.reduceLeDiff, Nat.reduceSub, Nat.reduceMul, reduceCtorEq, bs_eq, d3]
    refine awakeL_ok (k := k) fun h' _ => ?_
    simp (maxSteps := 200000) -implicitDefEqProofs only [KA, KB, KC, KD, KE, KF, eq_self, ne_eq, ↓reduceIte, Nat.reduceLT, Nat.reduceEqDiff, Nat.reduceAdd, Nat.reduceLeDiff, Nat.reduceSub, Nat.reduceMul, reduceCtorEq]
    exact hP _
  · simp (maxSteps := 200000) -implicitDefEqProofs only [KA, KB, KC, KD, KE, KF, eq_self, ne_eq, ↓reduceIte, Nat.reduceLT, Nat.reduceEqDiff, Nat.reduceAdd, Nat.reduceLeDiff, Nat.reduceSub, Nat.reduceMul, reduceCtorEq, wc, hj]
    refine awakeL_ok (k := k) fun h' _ => ?_
    simp (maxSteps := 200000) -implicitDefEqProofs only [KA, KB, KC, KD, KE, KF, eq_self, ne_eq, ↓reduceIte, Nat.reduceLT, Nat.reduceEqDiff, Nat.reduceAdd, Nat.reduceLeDiff, Nat.reduceSub, Nat.reduceMul, reduceCtorEq]
    exact hP _
end
end Camp

/-! CvLab5 -/
namespace Camp
open Go Camp.U
set_option linter.unusedVariables false
set_option linter.unusedSimpArgs false
set_option maxHeartbeats 4000000
theorem bs_data (s : ByteArray) : bs s.data.toList = s := rfl
theorem sumT_shift : ∀ (l : List Int) (p : Int), sumT p l = sumT 0 l + p * l.sum
  | [], p => by simp [sumT]
  | r :: l, p => by
    have h1 : r * (p + 1) = p * r + r := by rw [Int.mul_add, Int.mul_one, Int.mul_comm]
    have h2 : (p + 1) * l.sum = p * l.sum + l.sum := by rw [Int.add_mul, Int.one_mul]
    have h3 : p * (r + l.sum) = p * r + p * l.sum := Int.mul_add _ _ _
    rw [sumT, sumT, sumT_shift l (p + 1), sumT_shift l (0 + 1), List.sum_cons, h1, h2, h3, Int.zero_add, Int.mul_one, Int.one_mul]
    omega
theorem sum_bound {l : List Int} (h : ∀ r ∈ l, vr r) : 0 ≤ l.sum ∧ l.sum ≤ 1114111 * l.length := by
  induction l with
  | nil => simp
  | cons r l ih =>
    have hr := h r (by simp)
    have := ih (fun x hx => h x (by simp [hx]))
    unfold vr at hr
    rw [List.sum_cons, List.length_cons]
    constructor
    · omega
    · have e : (1114111 : Int) * ((l.length + 1 : Nat) : Int) = 1114111 * l.length + 1114111 := by simp; omega
      omega
theorem encs_runs : ∀ (n : Nat) (L : List UInt8), L.length = n → (∀ r ∈ runs L, ¬ r = 65533) → encs (runs L) = L := by
  intro n
  induction n using Nat.strongRecOn with
  | ind n ih =>
    intro L hn h
    by_cases hL : L = []
    · subst hL; rw [runs_nil]; rfl
    · rcases dec_ways hL with e | ⟨r, R, hv, hR, e⟩
      · exfalso
        refine h 65533 ?_ rfl
        rw [runs_ne hL, e]
        simp
      · have he := enc_len r
        have hl := congrArg List.length hR
        rw [List.length_append] at hl
        rw [hR, runs_enc hv] at h ⊢
        rw [encs_cons, ih R.length (by omega) R rfl (fun x hx => h x (by simp [hx]))]
theorem okA_app (x : Int) : ∀ (l : List Int) (f : Bool), okA f (l ++ [x]) ↔ okA f l ∧ (letP x ∨ ((f && l.isEmpty) = false ∧ digP x))
  | [], f => by simp [okA]
  | r :: l, f => by
    rw [List.cons_append, okA, okA, okA_app x l false]
    simp only [Bool.false_and, List.isEmpty_cons, Bool.and_false]
    rw [and_assoc]
theorem okA_vals : ∀ (l : List Int) (f : Bool), okA f l → ∀ r ∈ l, letP r ∨ digP r
  | [], f, _ => by simp
  | r :: l, f, h => by
    intro x hx
    rcases List.mem_cons.mp hx with rfl | hx
    · exact h.1.imp id (fun e => e.2)
    · exact okA_vals l false h.2 x hx
section
variable {k : Nat} {h : Hp} {P : AV → Hp → Prop}
def SmI (A B : List UInt8) (s0 : Int) (h : Hp) (m : Nat) (st : St) : Prop :=
  ∃ (pos : Nat) (R : List Int) (h' : Hp) (l : List (Nat × TV)) (lc : List (List CV)), st = ST 56 l lc h' ∧ pos ≤ B.length ∧ m = B.length - pos ∧ runs B = R ++ runs (B.drop pos) ∧ h'.g h.n = some (.siter (bs B) pos) ∧ Fn h h' ∧
    lk l 0 = .v (.c (.str (bs A))) ∧ lk l 1 = .v (.c (.str (bs B))) ∧ lk l 5 = .v (.c (.int .i64 (runs A).length)) ∧ lk l 6 = .v (.c (.int .i64 (s0 + (runs A).length * R.sum))) ∧ lk l 36 = .v (.c (.it h.n))
theorem labelSums_ok {A B : List UInt8} (hP : ∀ h', P (.c (.bool true)) h') : callW N (k + 5) 175 [.c (.str (bs A)), .c (.str (bs B))] h P := by
  refine call_intro rfl (by simp only [List.length_cons, List.length_nil]; omega) ?_
  by_cases hl : 300 < (A.length : Int)
  · simp (maxSteps := 200000) -implicitDefEqProofs only [KA, KB, KC, KD, KE, KF, eq_self, ne_eq, ↓reduceIte, Nat.reduceLT, Nat.reduceEqDiff, Nat.reduceAdd, Nat.reduceLeDiff, Nat.reduceSub, Nat.reduceMul, reduceCtorEq, bs_len, hl]
    refine awakeL_ok (k := k) fun h' _ => ?_
    simp (maxSteps := 200000) -implicitDefEqProofs only [KA, KB, KC, KD, KE, KF, eq_self, ne_eq, ↓reduceIte, Nat.reduceLT, Nat.reduceEqDiff, Nat.reduceAdd, Nat.reduceLeDiff, Nat.reduceSub, Nat.reduceMul, reduceCtorEq]
    exact hP _
  by_cases hl2 : 300 < (B.length : Int)
  · simp (maxSteps := 200000) -implicitDefEqProofs only [KA, KB, KC, KD, KE, KF, eq_self, ne_eq, ↓reduceIte, Nat.reduceLT, Nat.reduceEqDiff, Nat.reduceAdd, Nat.reduceLeDiff, Nat.reduceSub, Nat.reduceMul, reduceCtorEq, bs_len, hl, hl2]
    refine awakeL_ok (k := k) fun h' _ => ?_
    simp (maxSteps := 200000) -implicitDefEqProofs only [KA, KB, KC, KD, KE, KF, eq_self, ne_eq, ↓reduceIte, Nat.reduceLT, Nat.reduceEqDiff, Nat.reduceAdd, Nat.reduceLeDiff, Nat.reduceSub, Nat.reduceMul, reduceCtorEq]
    exact hP _
  have hroom : A.length + B.length ≤ room := by simp only [room]; omega
  have hadd := bs_add hroom
  have hla := runs_len A
  have hlb := runs_len B
  have hab : (A ++ B).length ≤ 60000 := by rw [List.length_append]; omega
  have wc := wrap_i64 (n := ((runs A).length : Int) + (runs B).length) (by omega)
  simp (maxSteps := 200000) -implicitDefEqProofs only [KA, KB, KC, KD, KE, KF, eq_self, ne_eq, ↓reduceIte, Nat.reduceLT, Nat.reduceEqDiff, Nat.reduceAdd, Nat.reduceLeDiff, Nat.reduceSub, Nat.reduceMul, reduceCtorEq, bs_len, hl, hl2]
  refine count_ok (k := k + 3) (by omega) fun h1 f1 => ?_
  simp (maxSteps := 200000) -implicitDefEqProofs only [KA, KB, KC, KD, KE, KF, eq_self, ne_eq, ↓reduceIte, Nat.reduceLT, Nat.reduceEqDiff, Nat.reduceAdd, Nat.reduceLeDiff, Nat.reduceSub, Nat.reduceMul, reduceCtorEq, hadd]
  refine count_ok (k := k + 3) (by omega) fun h2 f2 => ?_
  simp (maxSteps := 200000) -implicitDefEqProofs only [KA, KB, KC, KD, KE, KF, eq_self, ne_eq, ↓reduceIte, Nat.reduceLT, Nat.reduceEqDiff, Nat.reduceAdd, Nat.reduceLeDiff, Nat.reduceSub, Nat.reduceMul, reduceCtorEq]
  refine count_ok (k := k + 3) (by omega) fun h3 f3 => ?_
  by_cases hj : ((runs (A ++ B)).length : Int) = ((runs A).length : Int) + (runs B).length
  · have hj' : decide (((runs (A ++ B)).length : Int) = ((runs A).length : Int) + (runs B).length) = true := decide_eq_true hj
    have hrj := runs_join A.length A B rfl (by omega)
    have ma0 : 0 ≤ sumT 0 (runs A) % 65521 := Int.emod_nonneg _ (by decide)
    have ma1 : sumT 0 (runs A) % 65521 < 65521 := Int.emod_lt_of_pos _ (by decide)
    have mb0 : 0 ≤ sumT 0 (runs B) % 65521 := Int.emod_nonneg _ (by decide)
    have mb1 : sumT 0 (runs B) % 65521 < 65521 := Int.emod_lt_of_pos _ (by decide)
    have ws := wrap_i64 (n := sumT 0 (runs A) % 65521 + sumT 0 (runs B) % 65521) (by omega)
    simp (maxSteps := 200000) -implicitDefEqProofs only [KA, KB, KC, KD, KE, KF, eq_self, ne_eq, ↓reduceIte, Nat.reduceLT, Nat.reduceEqDiff, Nat.reduceAdd, Nat.reduceLeDiff, Nat.reduceSub, Nat.reduceMul, reduceCtorEq, wc, hj']
    refine sum_ok (k := k + 3) (by omega) fun h4 f4 => ?_
    simp (maxSteps := 200000) -implicitDefEqProofs only [KA, KB, KC, KD, KE, KF, eq_self, ne_eq, ↓reduceIte, Nat.reduceLT, Nat.reduceEqDiff, Nat.reduceAdd, Nat.reduceLeDiff, Nat.reduceSub, Nat.reduceMul, reduceCtorEq]
    refine sum_ok (k := k + 3) (by omega) fun h5 f5 => ?_
    obtain ⟨h6, hh6⟩ : ∃ h6, h6 = h5.push (.siter (bs B) 0) := ⟨_, rfl⟩
    have e6 := hh6.symm
    generalize hs0 : sumT 0 (runs A) % 65521 + sumT 0 (runs B) % 65521 = s0 at *
    have z : (0 : Int) ≤ (runs A).length := by omega
    simp (maxSteps := 200000) -implicitDefEqProofs only [KA, KB, KC, KD, KE, KF, eq_self, ne_eq, ↓reduceIte, Nat.reduceLT, Nat.reduceEqDiff, Nat.reduceAdd, Nat.reduceLeDiff, Nat.reduceSub, Nat.reduceMul, reduceCtorEq, hs0, ws, rgn_str, e6]
    refine loop_rd (callW_mono N _) (SmI A B s0 h5) (n := B.length) ⟨0, [], h6, _, _, rfl, Nat.zero_le _, rfl, by simp, by rw [hh6, g_push_eq], by rw [hh6]; exact Fm.push _ _ _, rfl, rfl, rfl, by simp only [lk_cons, lk_nil, List.sum_nil, Int.mul_zero, Int.add_zero]; rfl, rfl⟩ ?_
    rintro m st ⟨pos, R, h7, l, lc, rfl, hp, hm, hR, hi, hf, e0, e1, e5, e6', e36⟩
    simp (maxSteps := 200000) -implicitDefEqProofs only [KA, KB, KC, KD, KE, KF, eq_self, ne_eq, ↓reduceIte, Nat.reduceLT, Nat.reduceEqDiff, Nat.reduceAdd, Nat.reduceLeDiff, Nat.reduceSub, Nat.reduceMul, reduceCtorEq, e0, e1, e5, e6', e36]
    refine nx_str (id := h5.n) (by simp only [evN_t, lk_cons, lk_nil]; rfl) hi (fun hlt => ?_) fun hge => ?_
    · obtain ⟨s1, s2, s3, s4⟩ := step_at hlt
      have hRl := congrArg List.length hR
      rw [s4, List.length_append, List.length_cons] at hRl
      have hRv : ∀ r ∈ R, vr r := fun r hr => runs_vr B r (by rw [hR]; simp [hr])
      have hsb := sum_bound hRv
      have hv := s3
      unfold vr at hv
      generalize hx : ((dec (B.drop pos)).1 : Int) = x at *
      have b1 : ((runs A).length : Int) * x ≤ 300 * 1114111 := Int.mul_le_mul (by omega) (by omega) (by omega) (by omega)
      have b2 : 0 ≤ ((runs A).length : Int) * x := Int.mul_nonneg (by omega) (by omega)
      have b3 : ((runs A).length : Int) * R.sum ≤ 300 * (1114111 * 300) := Int.mul_le_mul (by omega) (by omega) hsb.1 (by omega)
      have b4 : 0 ≤ ((runs A).length : Int) * R.sum := Int.mul_nonneg (by omega) hsb.1
      have w1 := wrap_i64 (n := x) (by omega)
      have w2 := wrap_i64 (n := ((runs A).length : Int) * x) (by omega)
      have w3 := wrap_i64 (n := s0 + ((runs A).length : Int) * R.sum + ((runs A).length : Int) * x) (by omega)
      simp (maxSteps := 200000) -implicitDefEqProofs only [KA, KB, KC, KD, KE, KF, eq_self, ne_eq, ↓reduceIte, Nat.reduceLT, Nat.reduceEqDiff, Nat.reduceAdd, Nat.reduceLeDiff, Nat.reduceSub, Nat.reduceMul, reduceCtorEq, w1, w2, w3, rd_n]
      refine ⟨B.length - (pos + (dec (B.drop pos)).2), by omega, pos + (dec (B.drop pos)).2, R ++ [x], _, _, _, rfl, by omega, rfl, by rw [hR, s4, List.append_assoc]; rfl, by rw [g_put_eq, hi]; rfl, hf.putNew _ (Nat.le_refl _), rfl, rfl, rfl, ?_, rfl⟩
      simp only [lk_cons, lk_nil]
      rw [List.sum_append, List.sum_singleton, Int.mul_add, Int.add_assoc]
      rfl
    · rw [List.drop_of_length_le (by omega), runs_nil, List.append_nil] at hR
      subst hR
      have hsb := sum_bound (runs_vr B)
      have b4 : 0 ≤ ((runs A).length : Int) * (runs B).sum := Int.mul_nonneg (by omega) hsb.1
      simp (maxSteps := 200000) -implicitDefEqProofs only [KA, KB, KC, KD, KE, KF, eq_self, ne_eq, ↓reduceIte, Nat.reduceLT, Nat.reduceEqDiff, Nat.reduceAdd, Nat.reduceLeDiff, Nat.reduceSub, Nat.reduceMul, reduceCtorEq, rd_e, hadd]
      refine sum_ok (k := k + 3) hab fun h8 f8 => ?_
      have z2 : ¬ ((65521 : Int) = 0) := by decide
      have fin : decide (sumT 0 (runs (A ++ B)) % 65521 = (s0 + ((runs A).length : Int) * (runs B).sum).tmod 65521) = true := decide_eq_true (by
        rw [Int.tmod_eq_emod_of_nonneg (by omega), ← hs0, hrj, sumT_app, Int.zero_add, sumT_shift (runs B)]
        generalize ((runs A).length : Int) * (runs B).sum = z at *
        omega)
      simp (maxSteps := 200000) -implicitDefEqProofs only [KA, KB, KC, KD, KE, KF, eq_self, ne_eq, ↓reduceIte, Nat.reduceLT, Nat.reduceEqDiff, Nat.reduceAdd, Nat.reduceLeDiff, Nat.reduceSub, Nat.reduceMul, reduceCtorEq, z2, fin]
      refine awakeL_ok (k := k) fun h' _ => ?_
      simp (maxSteps := 200000) -implicitDefEqProofs only [KA, KB, KC, KD, KE, KF, eq_self, ne_eq, ↓reduceIte, Nat.reduceLT, Nat.reduceEqDiff, Nat.reduceAdd, Nat.reduceLeDiff, Nat.reduceSub, Nat.reduceMul, reduceCtorEq]
      exact hP _
  · simp (maxSteps := 200000) -implicitDefEqProofs only [KA, KB, KC, KD, KE, KF, eq_self, ne_eq, ↓reduceIte, Nat.reduceLT, Nat.reduceEqDiff, Nat.reduceAdd, Nat.reduceLeDiff, Nat.reduceSub, Nat.reduceMul, reduceCtorEq, wc, hj]
    refine awakeL_ok (k := k) fun h' _ => ?_
    simp (maxSteps := 200000) -implicitDefEqProofs only [KA, KB, KC, KD, KE, KF, eq_self, ne_eq, ↓reduceIte, Nat.reduceLT, Nat.reduceEqDiff, Nat.reduceAdd, Nat.reduceLeDiff, Nat.reduceSub, Nat.reduceMul, reduceCtorEq]
    exact hP _
theorem labelMay_ok {L : List UInt8} (hP : ∀ h', P (.c (.bool true)) h') : callW N (k + 5) 170 [.c (.str (bs L))] h P := by
  refine call_intro rfl (by simp only [List.length_cons, List.length_nil]; omega) ?_
  by_cases hl : 200 < (L.length : Int)
  · simp (maxSteps := 200000) -implicitDefEqProofs only [KA, KB, KC, KD, KE, KF, eq_self, ne_eq, ↓reduceIte, Nat.reduceLT, Nat.reduceEqDiff, Nat.reduceAdd, Nat.reduceLeDiff, Nat.reduceSub, Nat.reduceMul, reduceCtorEq, bs_len, hl]
    refine awakeL_ok (k := k) fun h' _ => ?_
    simp (maxSteps := 200000) -implicitDefEqProofs only [KA, KB, KC, KD, KE, KF, eq_self, ne_eq, ↓reduceIte, Nat.reduceLT, Nat.reduceEqDiff, Nat.reduceAdd, Nat.reduceLeDiff, Nat.reduceSub, Nat.reduceMul, reduceCtorEq]
    exact hP _
  simp (maxSteps := 200000) -implicitDefEqProofs only [KA, KB, KC, KD, KE, KF, eq_self, ne_eq, ↓reduceIte, Nat.reduceLT, Nat.reduceEqDiff, Nat.reduceAdd, Nat.reduceLeDiff, Nat.reduceSub, Nat.reduceMul, reduceCtorEq, bs_len, hl]
  refine may_ok (k := k + 2) (by omega) fun h1 b hb f1 => ?_
  have last : ∀ h' (Q : AV → Hp → Prop), (∀ h'', Q (.c (.bool false)) h'') → callW N (k + 4) 172 [.c (.str (bs []))] h' Q := fun h' Q hq => may_ok (k := k + 2) (by simp) fun h'' b hb _ => by
    cases b with
    | false => exact hq _
    | true => have := hb.mp rfl; rw [runs_nil] at this; have := this.2.1; simp at this
  cases b with
  | false =>
    simp (maxSteps := 200000) -implicitDefEqProofs only [KA, KB, KC, KD, KE, KF, eq_self, ne_eq, ↓reduceIte, Nat.reduceLT, Nat.reduceEqDiff, Nat.reduceAdd, Nat.reduceLeDiff, Nat.reduceSub, Nat.reduceMul, reduceCtorEq]
    refine count_ok (k := k + 3) (by omega) fun h2 f2 => ?_
    simp (maxSteps := 200000) -implicitDefEqProofs only [KA, KB, KC, KD, KE, KF, eq_self, ne_eq, ↓reduceIte, Nat.reduceLT, Nat.reduceEqDiff, Nat.reduceAdd, Nat.reduceLeDiff, Nat.reduceSub, Nat.reduceMul, reduceCtorEq]
    refine last _ _ fun h3 => ?_
    simp (maxSteps := 200000) -implicitDefEqProofs only [KA, KB, KC, KD, KE, KF, eq_self, ne_eq, ↓reduceIte, Nat.reduceLT, Nat.reduceEqDiff, Nat.reduceAdd, Nat.reduceLeDiff, Nat.reduceSub, Nat.reduceMul, reduceCtorEq]
    refine awakeL_ok (k := k) fun h' _ => ?_
    simp (maxSteps := 200000) -implicitDefEqProofs only [KA, KB, KC, KD, KE, KF, eq_self, ne_eq, ↓reduceIte, Nat.reduceLT, Nat.reduceEqDiff, Nat.reduceAdd, Nat.reduceLeDiff, Nat.reduceSub, Nat.reduceMul, reduceCtorEq]
    exact hP _
  | true =>
    obtain ⟨ho, hn1, hn2⟩ := hb.mp rfl
    have hvals := okA_vals _ _ ho
    have hne : ∀ r ∈ runs L, ¬ r = 65533 := fun r hr e => by
      have := hvals r hr
      unfold letP digP at this
      omega
    have hL : encs (runs L) = L := encs_runs L.length L rfl hne
    have hlow : encs ((runs L).map Go.Proofs.Nrm.low) = L := by
      rw [show (runs L).map Go.Proofs.Nrm.low = runs L from ?_, hL]
      conv => rhs; rw [← List.map_id (runs L)]
      refine List.map_congr_left fun r hr => ?_
      have := hvals r hr
      show Go.Proofs.Nrm.low r = r
      unfold Go.Proofs.Nrm.low
      rw [if_neg]
      unfold Go.Proofs.Nrm.great
      unfold letP digP at this
      omega
    have hvr := runs_vr L
    have hmap := map_fix hvr
    have c1 : ¬ ((runs L).length : Int) < 1 := by omega
    have c2 : ¬ (16 : Int) < ((runs L).length : Int) := by omega
    have e49 : enc 49 = [49] := by decide +kernel
    have r1 : runs ([49] ++ L) = 49 :: runs L := by
      have := runs_enc (r := 49) (by decide) L
      rwa [e49] at this
    have rs : ∀ (x : Int) (b : UInt8), vr x → enc x = [b] → runs (L ++ [b]) = runs L ++ [x] := by
      intro x b hx he
      have h1 := runs_encs' (runs L ++ [x])
      rw [encs_append, hL, encs_cons, he, encs_nil, List.append_nil, List.map_append, hmap, List.map_singleton, fix_id hx] at h1
      exact h1
    have rx := rs 120 120 (by decide) (by decide +kernel)
    have r9 := rs 57 57 (by decide) (by decide +kernel)
    have rA := rs 65 65 (by decide) (by decide +kernel)
    have hE : (runs L).isEmpty = false := by
      cases hr : runs L with
      | nil => rw [hr] at hn1; simp at hn1
      | cons => rfl
    have a1 := bs_add (A := [49]) (B := L) (by simp only [room, List.length_singleton]; omega)
    have a2 : ∀ b : UInt8, binC .add .str (.str (bs L)) (.str (bs [b])) = some (.str (bs (L ++ [b]))) := fun b => bs_add (by simp only [room, List.length_singleton]; omega)
    have l1 : ([49] ++ L).length ≤ 1000 := by rw [List.length_append, List.length_singleton]; omega
    have l2 : ∀ b : UInt8, (L ++ [b]).length ≤ 1000 := fun b => by rw [List.length_append, List.length_singleton]; omega
    have dn : decide (¬ L = L) = false := by simp
    have hlt : ∀ b : Bool, (b = true ↔ (runs L).length + 1 ≤ 16) → (b == decide (((runs L).length : Int) < 16)) = true := by
      intro b hb
      have : b = decide (((runs L).length : Int) < 16) := by
        rw [Bool.eq_iff_iff, hb, decide_eq_true_iff]
        omega
      rw [this]
      simp
    simp (maxSteps := 200000) -implicitDefEqProofs only [KA, KB, KC, KD, KE, KF, eq_self, ne_eq, ↓reduceIte, Nat.reduceLT, Nat.reduceEqDiff, Nat.reduceAdd, Nat.reduceLeDiff, Nat.reduceSub, Nat.reduceMul, reduceCtorEq]
    refine count_ok (k := k + 3) (by omega) fun h2 f2 => ?_
    simp (maxSteps := 200000) -implicitDefEqProofs only [KA, KB, KC, KD, KE, KF, eq_self, ne_eq, ↓reduceIte, Nat.reduceLT, Nat.reduceEqDiff, Nat.reduceAdd, Nat.reduceLeDiff, Nat.reduceSub, Nat.reduceMul, reduceCtorEq, c1, c2]
    refine norm_ok (k := k + 3) (by omega) ?_
    rw [hlow]
    generalize hM1 : [49] ++ L = M1 at *
    simp (maxSteps := 200000) -implicitDefEqProofs only [KA, KB, KC, KD, KE, KF, eq_self, ne_eq, ↓reduceIte, Nat.reduceLT, Nat.reduceEqDiff, Nat.reduceAdd, Nat.reduceLeDiff, Nat.reduceSub, Nat.reduceMul, reduceCtorEq, bs_ne, dn, a1]
    refine may_ok (k := k + 2) (by omega) fun h3 b3 hb3 f3 => ?_
    have hb3' : b3 = false := by
      cases b3 with
      | false => rfl
      | true =>
        have := hb3.mp rfl
        rw [r1] at this
        have := this.1.1
        unfold letP digP at this
        simp at this
    subst hb3'
    generalize hM2 : L ++ [120] = M2 at *
    generalize hM3 : L ++ [57] = M3 at *
    generalize hM4 : L ++ [65] = M4 at *
    have a3 := a2 120
    have a4 := a2 57
    have a5 := a2 65
    have l3 := l2 120
    have l4 := l2 57
    have l5 := l2 65
    rw [hM2] at a3 l3
    rw [hM3] at a4 l4
    rw [hM4] at a5 l5
    simp (maxSteps := 200000) -implicitDefEqProofs only [KA, KB, KC, KD, KE, KF, eq_self, ne_eq, ↓reduceIte, Nat.reduceLT, Nat.reduceEqDiff, Nat.reduceAdd, Nat.reduceLeDiff, Nat.reduceSub, Nat.reduceMul, reduceCtorEq, a3]
    refine may_ok (k := k + 2) (by omega) fun h4 b4 hb4 f4 => ?_
    have q4 := hlt b4 (hb4.trans (by
      rw [rx]
      unfold mayR
      rw [okA_app, List.length_append, List.length_singleton]
      exact ⟨fun e => e.2.2, fun e => ⟨⟨ho, .inl (by decide)⟩, by omega, e⟩⟩))
    simp (maxSteps := 200000) -implicitDefEqProofs only [KA, KB, KC, KD, KE, KF, eq_self, ne_eq, ↓reduceIte, Nat.reduceLT, Nat.reduceEqDiff, Nat.reduceAdd, Nat.reduceLeDiff, Nat.reduceSub, Nat.reduceMul, reduceCtorEq, q4, a4]
    refine may_ok (k := k + 2) (by omega) fun h5 b5 hb5 f5 => ?_
    have q5 := hlt b5 (hb5.trans (by
      rw [r9]
      unfold mayR
      rw [okA_app, List.length_append, List.length_singleton, hE]
      exact ⟨fun e => e.2.2, fun e => ⟨⟨ho, .inr ⟨rfl, by decide⟩⟩, by omega, e⟩⟩))
    simp (maxSteps := 200000) -implicitDefEqProofs only [KA, KB, KC, KD, KE, KF, eq_self, ne_eq, ↓reduceIte, Nat.reduceLT, Nat.reduceEqDiff, Nat.reduceAdd, Nat.reduceLeDiff, Nat.reduceSub, Nat.reduceMul, reduceCtorEq, q5, a5]
    refine may_ok (k := k + 2) (by omega) fun h6 b6 hb6 f6 => ?_
    have hb6' : b6 = false := by
      cases b6 with
      | false => rfl
      | true =>
        have := hb6.mp rfl
        rw [rA] at this
        unfold mayR at this
        rw [okA_app] at this
        have := this.1.2
        unfold letP digP at this
        omega
    subst hb6'
    simp (maxSteps := 200000) -implicitDefEqProofs only [KA, KB, KC, KD, KE, KF, eq_self, ne_eq, ↓reduceIte, Nat.reduceLT, Nat.reduceEqDiff, Nat.reduceAdd, Nat.reduceLeDiff, Nat.reduceSub, Nat.reduceMul, reduceCtorEq]
    refine last _ _ fun h7 => ?_
    simp (maxSteps := 200000) -implicitDefEqProofs only [KA, KB, KC, KD, KE, KF, eq_self, ne_eq, ↓reduceIte, Nat.reduceLT, Nat.reduceEqDiff, Nat.reduceAdd, Nat.reduceLeDiff, Nat.reduceSub, Nat.reduceMul, reduceCtorEq]
    refine awakeL_ok (k := k) fun h' _ => ?_
    simp (maxSteps := 200000) -implicitDefEqProofs only [KA, KB, KC, KD, KE, KF, eq_self, ne_eq, ↓reduceIte, Nat.reduceLT, Nat.reduceEqDiff, Nat.reduceAdd, Nat.reduceLeDiff, Nat.reduceSub, Nat.reduceMul, reduceCtorEq]
    exact hP _
end
end Camp
