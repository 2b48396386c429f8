/- Texts as bytes: what is decoded at a place; runes; what begins with whole runes. Plain Lean over the model's own decoding. Texts as bytes: their runes; what is cut; two texts joined; what Norm gives. Labels: facts of texts; Count, Cut, Sum, letter, May. Labels: Reverse, AppendRune, Turn. -/
import Derived.Test.YtbdikeedilidkaaCode
import Derived.Test.YtbdikeedilidkaaUseB
import Derived.Laws.Strings

set_option linter.unnecessarySimpa false
set_option linter.unusedVariables false
set_option linter.unusedSimpArgs false
set_option linter.unusedSectionVars false
/-! CvLabU -/
namespace Camp.U
open Go
set_option linter.unusedVariables false
set_option linter.unusedSimpArgs false
abbrev enc (r : Int) : List UInt8 := Lib.encodeRune r
def vr (r : Int) : Prop := (0 ≤ r ∧ r < 55296) ∨ (57344 ≤ r ∧ r ≤ 1114111)
instance (r : Int) : Decidable (vr r) := inferInstanceAs (Decidable (_ ∨ _))
def g (L : List UInt8) (k : Nat) : Nat := ((L[k]?).getD 0).toNat
/-- What is decoded at a list's head. -/
def dec (L : List UInt8) : Nat × Nat :=
  if g L 0 < 128 then (g L 0, 1)
  else if g L 0 / 32 = 6 ∧ (1 < L.length ∧ g L 1 / 64 = 2) then
    if 128 ≤ g L 0 % 32 * 64 + g L 1 % 64 then (g L 0 % 32 * 64 + g L 1 % 64, 2) else (65533, 1)
  else if (g L 0 / 16 = 14 ∧ (1 < L.length ∧ g L 1 / 64 = 2)) ∧ (2 < L.length ∧ g L 2 / 64 = 2) then
    if 2048 ≤ g L 0 % 16 * 4096 + g L 1 % 64 * 64 + g L 2 % 64 ∧ vr ((g L 0 % 16 * 4096 + g L 1 % 64 * 64 + g L 2 % 64 : Nat) : Int) then (g L 0 % 16 * 4096 + g L 1 % 64 * 64 + g L 2 % 64, 3) else (65533, 1)
  else if ((g L 0 / 8 = 30 ∧ (1 < L.length ∧ g L 1 / 64 = 2)) ∧ (2 < L.length ∧ g L 2 / 64 = 2)) ∧ (3 < L.length ∧ g L 3 / 64 = 2) then
    if 65536 ≤ g L 0 % 8 * 262144 + g L 1 % 64 * 4096 + g L 2 % 64 * 64 + g L 3 % 64 ∧ vr ((g L 0 % 8 * 262144 + g L 1 % 64 * 4096 + g L 2 % 64 * 64 + g L 3 % 64 : Nat) : Int) then (g L 0 % 8 * 262144 + g L 1 % 64 * 4096 + g L 2 % 64 * 64 + g L 3 % 64, 4) else (65533, 1)
  else (65533, 1)
theorem get_eq (s : ByteArray) (k : Nat) : s.get! k = (s.data.toList[k]?).getD 0 := by
  show s.data[k]! = _
  rw [Array.getElem?_toList]
  by_cases h : k < s.data.size
  · rw [getElem!_pos s.data k h, Array.getElem?_eq_getElem h]
    rfl
  · rw [getElem!_neg s.data k h, Array.getElem?_eq_none (by omega)]
    rfl
theorem valid_eq (c : Nat) : Utf8.valid (c : Int) = decide (vr c) := by
  rw [Bool.eq_iff_iff, decide_eq_true_iff]
  unfold Utf8.valid vr
  simp only [Bool.or_eq_true, Bool.and_eq_true, decide_eq_true_eq]
theorem dec_eq (s : ByteArray) (i : Nat) : Utf8.decode s i = dec (s.data.toList.drop i) := by
  have hg : ∀ k, (s.get! (i + k)).toNat = g (s.data.toList.drop i) k := by
    intro k
    rw [get_eq]
    unfold g
    rw [List.getElem?_drop]
  have hsz : s.size = s.data.toList.length := Array.length_toList.symm
  have hl : ∀ k, decide (i + k < s.size) = decide (k < (s.data.toList.drop i).length) := by
    intro k
    rw [hsz, List.length_drop]
    exact decide_eq_decide.mpr (by omega)
  unfold Utf8.decode dec
  simp only [hg, hl, valid_eq, beq_iff_eq, Bool.and_eq_true, decide_eq_true_eq, ge_iff_le, Utf8.runeError]
theorem g_cons (x : UInt8) (L : List UInt8) : g (x :: L) 0 = x.toNat := rfl
theorem g_succ (x : UInt8) (L : List UInt8) (k : Nat) : g (x :: L) (k + 1) = g L k := by simp [g]
theorem by8 {n : Int} (h0 : 0 ≤ n) (h1 : n < 256) : (n.toNat.toUInt8).toNat = n.toNat := by
  show n.toNat % 256 = n.toNat
  omega
theorem enc_len (r : Int) : 1 ≤ (enc r).length ∧ (enc r).length ≤ 4 := by
  have := Lib.encodeRuneZ_length r
  simpa [enc, Lib.encodeRune] using this
/-- The arms of the encoding, as bytes' numbers. -/
theorem enc_arms {r : Int} (h : vr r) : (r ≤ 127 ∧ enc r = [r.toNat.toUInt8]) ∨ (128 ≤ r ∧ r ≤ 2047 ∧ enc r = [(192 + r / 64).toNat.toUInt8, (128 + r % 64).toNat.toUInt8]) ∨
    (2048 ≤ r ∧ r ≤ 65535 ∧ enc r = [(224 + r / 4096).toNat.toUInt8, (128 + r / 64 % 64).toNat.toUInt8, (128 + r % 64).toNat.toUInt8]) ∨
    (65536 ≤ r ∧ enc r = [(240 + r / 262144).toNat.toUInt8, (128 + r / 4096 % 64).toNat.toUInt8, (128 + r / 64 % 64).toNat.toUInt8, (128 + r % 64).toNat.toUInt8]) := by
  unfold vr at h
  unfold enc Lib.encodeRune
  by_cases h1 : r ≤ 127
  · left; rw [Lib.encodeRuneZ_one (by omega) h1]; exact ⟨h1, rfl⟩
  · by_cases h2 : r ≤ 2047
    · right; left; rw [Lib.encodeRuneZ_two (by omega) h2]; exact ⟨by omega, h2, rfl⟩
    · by_cases h3 : r ≤ 65535
      · right; right; left; rw [Lib.encodeRuneZ_three (by omega)]; exact ⟨by omega, h3, rfl⟩
      · right; right; right; rw [Lib.encodeRuneZ_four (by omega) (by omega)]; exact ⟨by omega, rfl⟩
theorem dec_enc {r : Int} (h : vr r) (R : List UInt8) : dec (enc r ++ R) = (r.toNat, (enc r).length) := by
  have hv := h
  unfold vr at hv
  rcases enc_arms h with ⟨h1, he⟩ | ⟨h1, h2, he⟩ | ⟨h1, h2, he⟩ | ⟨h1, he⟩
  all_goals
    rw [he]
    simp only [List.cons_append, List.nil_append]
  · have a0 : g (r.toNat.toUInt8 :: R) 0 = r.toNat := by rw [g_cons, by8 (by omega) (by omega)]
    unfold dec
    rw [a0, if_pos (by omega)]
    rfl
  · generalize hL : (192 + r / 64).toNat.toUInt8 :: (128 + r % 64).toNat.toUInt8 :: R = L
    have a0 : g L 0 = (192 + r / 64).toNat := by rw [← hL, g_cons, by8 (by omega) (by omega)]
    have a1 : g L 1 = (128 + r % 64).toNat := by rw [← hL, g_succ, g_cons, by8 (by omega) (by omega)]
    have hlen : 1 < L.length := by rw [← hL]; simp
    unfold dec
    rw [a0, a1, if_neg (by omega), if_pos ⟨by omega, hlen, by omega⟩, if_pos (by omega)]
    exact Prod.ext (by simp only; omega) rfl
  · generalize hL : (224 + r / 4096).toNat.toUInt8 :: (128 + r / 64 % 64).toNat.toUInt8 :: (128 + r % 64).toNat.toUInt8 :: R = L
    have a0 : g L 0 = (224 + r / 4096).toNat := by rw [← hL, g_cons, by8 (by omega) (by omega)]
    have a1 : g L 1 = (128 + r / 64 % 64).toNat := by rw [← hL, g_succ, g_cons, by8 (by omega) (by omega)]
    have a2 : g L 2 = (128 + r % 64).toNat := by rw [← hL, g_succ, g_succ, g_cons, by8 (by omega) (by omega)]
    have hlen : 2 < L.length := by rw [← hL]; simp
    have hc : (224 + r / 4096).toNat % 16 * 4096 + (128 + r / 64 % 64).toNat % 64 * 64 + (128 + r % 64).toNat % 64 = r.toNat := by omega
    unfold dec
    rw [a0, a1, a2, if_neg (by omega), if_neg (by omega), if_pos ⟨⟨by omega, by omega, by omega⟩, hlen, by omega⟩, hc, if_pos ⟨by omega, by rw [Int.toNat_of_nonneg (by omega)]; exact h⟩]
    rfl
  · generalize hL : (240 + r / 262144).toNat.toUInt8 :: (128 + r / 4096 % 64).toNat.toUInt8 :: (128 + r / 64 % 64).toNat.toUInt8 :: (128 + r % 64).toNat.toUInt8 :: R = L
    have a0 : g L 0 = (240 + r / 262144).toNat := by rw [← hL, g_cons, by8 (by omega) (by omega)]
    have a1 : g L 1 = (128 + r / 4096 % 64).toNat := by rw [← hL, g_succ, g_cons, by8 (by omega) (by omega)]
    have a2 : g L 2 = (128 + r / 64 % 64).toNat := by rw [← hL, g_succ, g_succ, g_cons, by8 (by omega) (by omega)]
    have a3 : g L 3 = (128 + r % 64).toNat := by rw [← hL, g_succ, g_succ, g_succ, g_cons, by8 (by omega) (by omega)]
    have hlen : 3 < L.length := by rw [← hL]; simp
    have hc : (240 + r / 262144).toNat % 8 * 262144 + (128 + r / 4096 % 64).toNat % 64 * 4096 + (128 + r / 64 % 64).toNat % 64 * 64 + (128 + r % 64).toNat % 64 = r.toNat := by omega
    unfold dec
    rw [a0, a1, a2, a3, if_neg (by omega), if_neg (by omega), if_neg (by omega), if_pos ⟨⟨⟨by omega, by omega, by omega⟩, by omega, by omega⟩, hlen, by omega⟩, hc, if_pos ⟨by omega, by rw [Int.toNat_of_nonneg (by omega)]; exact h⟩]
    rfl
/-- A byte that goes on with a rune begins none. -/
theorem dec_cont {x : UInt8} {L : List UInt8} (h : x.toNat / 64 = 2) : dec (x :: L) = (65533, 1) := by
  unfold dec
  rw [g_cons, if_neg (by omega), if_neg (by omega), if_neg (by omega), if_neg (by omega)]
theorem u8_ext {x : UInt8} {n : Int} (h0 : 0 ≤ n) (h1 : n < 256) (h : (x.toNat : Int) = n) : n.toNat.toUInt8 = x := by
  apply UInt8.toNat_inj.mp
  rw [by8 h0 h1]
  omega
/-- Either nothing is decoded, or a whole rune that is there. -/
theorem dec_ways {L : List UInt8} (hne : L ≠ []) : dec L = (65533, 1) ∨ ∃ (r : Int) (R : List UInt8), vr r ∧ L = enc r ++ R ∧ dec L = (r.toNat, (enc r).length) := by
  obtain ⟨x, L1, rfl⟩ := List.exists_cons_of_ne_nil hne
  have key : ∀ (r : Int) (R : List UInt8), vr r → x :: L1 = enc r ++ R → ∃ (r : Int) (R : List UInt8), vr r ∧ x :: L1 = enc r ++ R ∧ dec (x :: L1) = (r.toNat, (enc r).length) :=
    fun r R h1 h2 => ⟨r, R, h1, h2, by rw [h2]; exact dec_enc h1 R⟩
  have hx := x.toNat_lt
  by_cases c1 : x.toNat < 128
  · right
    refine key x.toNat L1 (by unfold vr; omega) ?_
    rw [show enc (x.toNat : Int) = [((x.toNat : Int)).toNat.toUInt8] by unfold enc Lib.encodeRune; rw [Lib.encodeRuneZ_one (by omega) (by omega)]; rfl, u8_ext (x := x) (by omega) (by omega) rfl]
    rfl
  · by_cases c2 : g (x :: L1) 0 / 32 = 6 ∧ (1 < (x :: L1).length ∧ g (x :: L1) 1 / 64 = 2)
    · obtain ⟨d1, d2, d3⟩ := c2
      obtain ⟨y, L2, rfl⟩ : ∃ y L2, L1 = y :: L2 := List.exists_cons_of_ne_nil (by rintro rfl; simp at d2)
      rw [g_cons] at d1
      rw [g_succ, g_cons] at d3
      by_cases c3 : 128 ≤ x.toNat % 32 * 64 + y.toNat % 64
      · right
        have hv : vr ((x.toNat % 32 * 64 + y.toNat % 64 : Nat) : Int) := by unfold vr; omega
        refine key _ L2 hv ?_
        rcases enc_arms hv with ⟨h1, he⟩ | ⟨h1, h2, he⟩ | ⟨h1, h2, he⟩ | ⟨h1, he⟩
        · omega
        · rw [he, u8_ext (x := x) (by omega) (by omega) (by omega), u8_ext (x := y) (by omega) (by omega) (by omega)]
          rfl
        · omega
        · omega
      · left
        unfold dec
        rw [g_cons, g_succ, g_cons, if_neg c1, if_pos ⟨d1, d2, d3⟩, if_neg c3]
    · by_cases c3 : (g (x :: L1) 0 / 16 = 14 ∧ (1 < (x :: L1).length ∧ g (x :: L1) 1 / 64 = 2)) ∧ (2 < (x :: L1).length ∧ g (x :: L1) 2 / 64 = 2)
      · obtain ⟨⟨d1, d2, d3⟩, d4, d5⟩ := c3
        obtain ⟨y, L2, rfl⟩ : ∃ y L2, L1 = y :: L2 := List.exists_cons_of_ne_nil (by rintro rfl; simp at d2)
        obtain ⟨z, L3, rfl⟩ : ∃ z L3, L2 = z :: L3 := List.exists_cons_of_ne_nil (by rintro rfl; simp at d4)
        rw [g_cons] at d1
        rw [g_succ, g_cons] at d3
        rw [g_succ, g_succ, g_cons] at d5
        by_cases c4 : 2048 ≤ x.toNat % 16 * 4096 + y.toNat % 64 * 64 + z.toNat % 64 ∧ vr ((x.toNat % 16 * 4096 + y.toNat % 64 * 64 + z.toNat % 64 : Nat) : Int)
        · right
          refine key _ L3 c4.2 ?_
          rcases enc_arms c4.2 with ⟨h1, he⟩ | ⟨h1, h2, he⟩ | ⟨h1, h2, he⟩ | ⟨h1, he⟩
          · omega
          · omega
          · rw [he, u8_ext (x := x) (by omega) (by omega) (by omega), u8_ext (x := y) (by omega) (by omega) (by omega), u8_ext (x := z) (by omega) (by omega) (by omega)]
            rfl
          · omega
        · left
          unfold dec
          rw [if_neg (by rw [g_cons]; exact c1), if_neg c2, if_pos ⟨⟨d1, d2, d3⟩, d4, d5⟩]
          rw [g_cons, g_succ, g_cons, g_succ, g_succ, g_cons, if_neg c4]
      · by_cases c4 : ((g (x :: L1) 0 / 8 = 30 ∧ (1 < (x :: L1).length ∧ g (x :: L1) 1 / 64 = 2)) ∧ (2 < (x :: L1).length ∧ g (x :: L1) 2 / 64 = 2)) ∧ (3 < (x :: L1).length ∧ g (x :: L1) 3 / 64 = 2)
        · obtain ⟨⟨⟨d1, d2, d3⟩, d4, d5⟩, d6, d7⟩ := c4
          obtain ⟨y, L2, rfl⟩ : ∃ y L2, L1 = y :: L2 := List.exists_cons_of_ne_nil (by rintro rfl; simp at d2)
          obtain ⟨z, L3, rfl⟩ : ∃ z L3, L2 = z :: L3 := List.exists_cons_of_ne_nil (by rintro rfl; simp at d4)
          obtain ⟨u, L4, rfl⟩ : ∃ u L4, L3 = u :: L4 := List.exists_cons_of_ne_nil (by rintro rfl; simp at d6)
          rw [g_cons] at d1
          rw [g_succ, g_cons] at d3
          rw [g_succ, g_succ, g_cons] at d5
          rw [g_succ, g_succ, g_succ, g_cons] at d7
          by_cases c5 : 65536 ≤ x.toNat % 8 * 262144 + y.toNat % 64 * 4096 + z.toNat % 64 * 64 + u.toNat % 64 ∧ vr ((x.toNat % 8 * 262144 + y.toNat % 64 * 4096 + z.toNat % 64 * 64 + u.toNat % 64 : Nat) : Int)
          · right
            refine key _ L4 c5.2 ?_
            rcases enc_arms c5.2 with ⟨h1, he⟩ | ⟨h1, h2, he⟩ | ⟨h1, h2, he⟩ | ⟨h1, he⟩
            · omega
            · omega
            · omega
            · rw [he, u8_ext (x := x) (by omega) (by omega) (by omega), u8_ext (x := y) (by omega) (by omega) (by omega), u8_ext (x := z) (by omega) (by omega) (by omega), u8_ext (x := u) (by omega) (by omega) (by omega)]
              rfl
          · left
            unfold dec
            rw [if_neg (by rw [g_cons]; exact c1), if_neg c2, if_neg c3, if_pos ⟨⟨⟨d1, d2, d3⟩, d4, d5⟩, d6, d7⟩]
            rw [g_cons, g_succ, g_cons, g_succ, g_succ, g_cons, g_succ, g_succ, g_succ, g_cons, if_neg c5]
        · left
          unfold dec
          rw [if_neg (by rw [g_cons]; exact c1), if_neg c2, if_neg c3, if_neg c4]
end Camp.U

/-! CvLabV -/
namespace Camp.U
open Go
set_option linter.unusedVariables false
set_option linter.unusedSimpArgs false
theorem dec_pos {L : List UInt8} (h : L ≠ []) : 1 ≤ (dec L).2 ∧ (dec L).2 ≤ L.length ∧ vr ((dec L).1 : Int) := by
  have hl : 1 ≤ L.length := by cases L with | nil => exact absurd rfl h | cons => simp
  rcases dec_ways h with e | ⟨r, R, hv, hL, e⟩
  · rw [e]; exact ⟨Nat.le_refl _, hl, by unfold vr; simp⟩
  · have := enc_len r
    have hv' := hv
    unfold vr at hv'
    rw [e]
    refine ⟨this.1, by rw [hL]; simp, ?_⟩
    rw [Int.toNat_of_nonneg (by omega)]
    exact hv
def runs (L : List UInt8) : List Int :=
  if h : L = [] then [] else ((dec L).1 : Int) :: runs (L.drop (dec L).2)
termination_by L.length
decreasing_by
  have := dec_pos h
  rw [List.length_drop]
  omega
theorem runs_nil : runs [] = [] := by rw [runs, dif_pos rfl]
theorem runs_ne {L : List UInt8} (h : L ≠ []) : runs L = ((dec L).1 : Int) :: runs (L.drop (dec L).2) := by rw [runs, dif_neg h]
theorem enc_ne (r : Int) (R : List UInt8) : enc r ++ R ≠ [] := by
  intro h
  have := enc_len r
  have h2 := congrArg List.length h
  rw [List.length_append, List.length_nil] at h2
  omega
theorem runs_enc {r : Int} (h : vr r) (R : List UInt8) : runs (enc r ++ R) = r :: runs R := by
  rw [runs_ne (enc_ne r R), dec_enc h]
  simp only
  have hv := h
  unfold vr at hv
  rw [List.drop_left, Int.toNat_of_nonneg (by omega)]
theorem runs_vr (L : List UInt8) : ∀ r ∈ runs L, vr r := by
  induction hn : L.length using Nat.strongRecOn generalizing L with
  | ind n ih =>
    intro r hr
    by_cases h : L = []
    · subst h; rw [runs_nil] at hr; cases hr
    · have hp := dec_pos h
      rw [runs_ne h] at hr
      rcases List.mem_cons.mp hr with rfl | hr
      · exact hp.2.2
      · exact ih _ (by rw [List.length_drop]; omega) _ rfl r hr
theorem runs_len (L : List UInt8) : (runs L).length ≤ L.length := by
  induction hn : L.length using Nat.strongRecOn generalizing L with
  | ind n ih =>
    by_cases h : L = []
    · subst h; rw [runs_nil]; simp
    · have hp := dec_pos h
      have := ih _ (by rw [List.length_drop]; omega) (L.drop (dec L).2) rfl
      rw [runs_ne h, List.length_cons]
      rw [List.length_drop] at this
      omega
def fix (r : Int) : Int := if vr r then r else 65533
theorem vr_fix (r : Int) : vr (fix r) := by
  unfold fix
  split
  · assumption
  · unfold vr; omega
theorem fix_id {r : Int} (h : vr r) : fix r = r := if_pos h
theorem enc_fix (r : Int) : enc (fix r) = enc r := by
  unfold fix
  split
  · rfl
  · rename_i h
    unfold vr at h
    unfold enc Lib.encodeRune
    rw [Lib.encodeRuneZ_bad (r := r) (by omega), Lib.encodeRuneZ_three (r := 65533) (by omega)]
    rfl
def encs (l : List Int) : List UInt8 := l.flatMap enc
theorem encs_cons (r : Int) (l : List Int) : encs (r :: l) = enc r ++ encs l := by simp [encs]
theorem encs_nil : encs [] = [] := rfl
theorem encs_append (l m : List Int) : encs (l ++ m) = encs l ++ encs m := by simp [encs]
theorem runs_encs (l : List Int) (R : List UInt8) : runs (encs l ++ R) = l.map fix ++ runs R := by
  induction l with
  | nil => rfl
  | cons r l ih => rw [encs_cons, List.append_assoc, ← enc_fix, runs_enc (vr_fix r), ih]; rfl
theorem runs_encs' (l : List Int) : runs (encs l) = l.map fix := by
  have := runs_encs l []
  rwa [List.append_nil, runs_nil, List.append_nil] at this
theorem map_fix {l : List Int} (h : ∀ r ∈ l, vr r) : l.map fix = l := by
  induction l with
  | nil => rfl
  | cons r l ih => rw [List.map_cons, fix_id (h r (by simp)), ih (fun x hx => h x (by simp [hx]))]
/-- A text's first bytes, as long as the first rune lies in them. -/
theorem dec_pre {P R : List UInt8} (h : P ≠ []) (hw : (dec (P ++ R)).2 ≤ P.length) : dec P = dec (P ++ R) := by
  rcases dec_ways (L := P ++ R) (by simp [h]) with e | ⟨r, T, hv, hL, e⟩
  · rcases dec_ways h with e2 | ⟨r, T, hv, hP, e2⟩
    · rw [e, e2]
    · have := dec_enc hv (T ++ R)
      rw [← List.append_assoc, ← hP] at this
      rw [this, e2]
  · rw [e] at hw ⊢
    simp only at hw
    have : P = enc r ++ T.take (P.length - (enc r).length) := by
      have h1 := congrArg (List.take P.length) hL
      rw [List.take_left, List.take_append, List.take_of_length_le hw] at h1
      exact h1
    rw [this, dec_enc hv]
def ucut : Nat → List UInt8 → List UInt8
  | 0, _ => []
  | n + 1, L => if L = [] then [] else L.take (dec L).2 ++ ucut n (L.drop (dec L).2)
def rest : Nat → List UInt8 → List UInt8
  | 0, L => L
  | n + 1, L => if L = [] then [] else rest n (L.drop (dec L).2)
theorem ucut_rest : ∀ (n : Nat) (L : List UInt8), ucut n L ++ rest n L = L
  | 0, L => rfl
  | n + 1, L => by
    unfold ucut rest
    split
    · rename_i h; rw [h]; rfl
    · rw [List.append_assoc, ucut_rest n, List.take_append_drop]
theorem ucut_nil : ∀ n, ucut n [] = []
  | 0 => rfl
  | n + 1 => by unfold ucut; rw [if_pos rfl]
theorem ucut_succ {n : Nat} {L : List UInt8} (h : L ≠ []) : ucut (n + 1) L = L.take (dec L).2 ++ ucut n (L.drop (dec L).2) := by
  rw [ucut, if_neg h]
theorem ucut_dec {n : Nat} {L : List UInt8} (h : L ≠ []) : ucut (n + 1) L ≠ [] ∧ dec (ucut (n + 1) L) = dec L ∧ (ucut (n + 1) L).take (dec L).2 = L.take (dec L).2 ∧ (ucut (n + 1) L).drop (dec L).2 = ucut n (L.drop (dec L).2) := by
  have hp := dec_pos h
  have hl : (L.take (dec L).2).length = (dec L).2 := by rw [List.length_take]; omega
  have hne : ucut (n + 1) L ≠ [] := by
    rw [ucut_succ h]
    intro e
    have := congrArg List.length e
    rw [List.length_append, hl, List.length_nil] at this
    omega
  refine ⟨hne, ?_, ?_, ?_⟩
  · have hr := ucut_rest (n + 1) L
    have := dec_pre (P := ucut (n + 1) L) (R := rest (n + 1) L) hne (by rw [hr, ucut_succ h, List.length_append, hl]; omega)
    rw [this, hr]
  · rw [ucut_succ h, List.take_append, hl, Nat.sub_self, List.take_zero, List.append_nil, List.take_of_length_le (by omega)]
  · rw [ucut_succ h, List.drop_append, hl, Nat.sub_self, List.drop_zero, List.drop_of_length_le (by omega), List.nil_append]
theorem runs_ucut : ∀ (n : Nat) (L : List UInt8), runs (ucut n L) = (runs L).take n
  | 0, L => by rw [ucut, runs_nil, List.take_zero]
  | n + 1, L => by
    by_cases h : L = []
    · subst h; rw [ucut_nil, runs_nil]; rfl
    · obtain ⟨h1, h2, h3, h4⟩ := ucut_dec (n := n) h
      rw [runs_ne h1, h2, h4, runs_ucut n, runs_ne h, List.take_succ_cons]
theorem runs_rest : ∀ (n : Nat) (L : List UInt8), runs (rest n L) = (runs L).drop n
  | 0, L => rfl
  | n + 1, L => by
    by_cases h : L = []
    · subst h; rw [rest, if_pos rfl, runs_nil]; rfl
    · rw [rest, if_neg h, runs_rest n, runs_ne h, List.drop_succ_cons]
theorem ucut_all : ∀ (n : Nat) (L : List UInt8), (runs L).length ≤ n → ucut n L = L
  | 0, L, hn => by
    by_cases h : L = []
    · subst h; rfl
    · rw [runs_ne h] at hn; simp at hn
  | n + 1, L, hn => by
    by_cases h : L = []
    · subst h; exact ucut_nil _
    · rw [runs_ne h, List.length_cons] at hn
      rw [ucut_succ h, ucut_all n _ (by omega), List.take_append_drop]
theorem ucut_ucut : ∀ (a b : Nat) (L : List UInt8), ucut b (ucut a L) = ucut (min a b) L
  | 0, b, L => by rw [show ucut 0 L = [] from rfl, ucut_nil, Nat.zero_min]; rfl
  | a + 1, 0, L => by rw [Nat.min_zero]; rfl
  | a + 1, b + 1, L => by
    by_cases h : L = []
    · subst h; rw [ucut_nil, ucut_nil, ucut_nil]
    · obtain ⟨h1, h2, h3, h4⟩ := ucut_dec (n := a) h
      rw [ucut_succ h1, h2, h3, h4, ucut_ucut a b, Nat.succ_min_succ, ucut_succ h]
/-! ### Two texts joined -/
theorem enc_tail (r : Int) (h : vr r) : ∀ x ∈ (enc r).tail, x.toNat / 64 = 2 := by
  have hv := h
  unfold vr at hv
  intro x hx
  rcases enc_arms h with ⟨h1, he⟩ | ⟨h1, h2, he⟩ | ⟨h1, h2, he⟩ | ⟨h1, he⟩
  all_goals
    rw [he] at hx
    simp only [List.tail_cons, List.mem_cons, List.not_mem_nil, or_false] at hx
  · subst hx; rw [by8 (by omega) (by omega)]; omega
  · rcases hx with rfl | rfl
    · rw [by8 (by omega) (by omega)]; omega
    · rw [by8 (by omega) (by omega)]; omega
  · rcases hx with rfl | rfl | rfl
    · rw [by8 (by omega) (by omega)]; omega
    · rw [by8 (by omega) (by omega)]; omega
    · rw [by8 (by omega) (by omega)]; omega
theorem runs_conts : ∀ {C : List UInt8} (R : List UInt8), (∀ x ∈ C, x.toNat / 64 = 2) → (runs (C ++ R)).length = C.length + (runs R).length
  | [], R, _ => by simp
  | x :: C, R, h => by
    rw [List.cons_append, runs_ne (by simp), dec_cont (h x (by simp))]
    simp only [List.drop_succ_cons, List.drop_zero, List.length_cons]
    rw [runs_conts R (fun y hy => h y (by simp [hy]))]
    omega
theorem runs_join : ∀ (n : Nat) (a b : List UInt8), a.length = n → (runs (a ++ b)).length = (runs a).length + (runs b).length → runs (a ++ b) = runs a ++ runs b := by
  intro n
  induction n using Nat.strongRecOn with
  | ind n ih =>
    intro a b hn hc
    by_cases h : a = []
    · subst h; rw [runs_nil]; rfl
    · have hab : a ++ b ≠ [] := by simp [h]
      have hpa := dec_pos h
      by_cases hw : (dec (a ++ b)).2 ≤ a.length
      · have he := dec_pre h hw
        rw [← he] at hw
        rw [runs_ne hab, runs_ne h, ← he, List.drop_append_of_le_length hw, List.length_cons, List.length_cons] at hc
        rw [runs_ne hab, runs_ne h, ← he, List.drop_append_of_le_length hw, ih _ (by rw [List.length_drop]; omega) _ b rfl (by omega)]
        rfl
      · exfalso
        rcases dec_ways hab with e | ⟨r, R, hv, hL, e⟩
        · rw [e] at hw
          simp only at hw
          omega
        · rw [e] at hw
          simp only at hw
          have hea : dec a = (65533, 1) := by
            rcases dec_ways h with e2 | ⟨r2, R2, hv2, hP, e2⟩
            · exact e2
            · have h3 := dec_enc hv2 (R2 ++ b)
              rw [← List.append_assoc, ← hP, e] at h3
              have h4 := congrArg Prod.snd h3
              simp only at h4
              have h5 := congrArg List.length hP
              rw [List.length_append] at h5
              omega
          obtain ⟨b1, hb1⟩ : ∃ b1, enc r = a ++ b1 := by
            refine ⟨(enc r).drop a.length, ?_⟩
            have h1 := congrArg (List.take a.length) hL
            rw [List.take_left, List.take_append_of_le_length (by omega)] at h1
            have := List.take_append_drop a.length (enc r)
            rw [← h1] at this
            exact this.symm
          have hb : b = b1 ++ R := by
            rw [hb1, List.append_assoc] at hL
            exact List.append_cancel_left hL
          have hb1n : 1 ≤ b1.length := by
            have := congrArg List.length hb1
            rw [List.length_append] at this
            omega
          obtain ⟨x, a', rfl⟩ := List.exists_cons_of_ne_nil h
          have htl := enc_tail r hv
          rw [hb1, List.cons_append, List.tail_cons] at htl
          have ra : (runs (x :: a')).length = 1 + a'.length := by
            rw [runs_ne h, hea]
            simp only [List.drop_succ_cons, List.drop_zero, List.length_cons]
            have := runs_conts (C := a') [] (fun y hy => htl y (by simp [hy]))
            rw [List.append_nil, runs_nil, List.length_nil] at this
            omega
          have rb : (runs b).length = b1.length + (runs R).length := by
            rw [hb]
            exact runs_conts R (fun y hy => htl y (by simp [hy]))
          have rab : (runs (x :: a' ++ b)).length = 1 + (runs R).length := by
            rw [hL, runs_enc hv, List.length_cons]
            omega
          omega
/-! ### Norm -/
theorem low_vr {r : Int} (h : vr r) : vr (Proofs.Nrm.low r) := by
  unfold Proofs.Nrm.low
  split
  · rename_i hg
    unfold Proofs.Nrm.great at hg
    unfold vr
    omega
  · exact h
theorem low_low (r : Int) : Proofs.Nrm.low (Proofs.Nrm.low r) = Proofs.Nrm.low r := by
  have : ¬ Proofs.Nrm.great (Proofs.Nrm.low r) := by
    unfold Proofs.Nrm.low
    split
    · rename_i hg
      unfold Proofs.Nrm.great at hg ⊢
      omega
    · assumption
  rw [Proofs.Nrm.low, if_neg this]
theorem norm_from (s : ByteArray) : ∀ (fuel pos : Nat), s.size ≤ pos + fuel → Proofs.Nrm.from s fuel pos = encs ((runs (s.data.toList.drop pos)).map Proofs.Nrm.low) := by
  have hsz : s.size = s.data.toList.length := Array.length_toList.symm
  intro fuel
  induction fuel with
  | zero =>
    intro pos h
    rw [List.drop_of_length_le (by omega), runs_nil]
    rfl
  | succ f ih =>
    intro pos h
    unfold Proofs.Nrm.from
    by_cases hp : pos < s.size
    · have hne : s.data.toList.drop pos ≠ [] := by
        intro e
        have := congrArg List.length e
        rw [List.length_drop, List.length_nil] at this
        omega
      have hd := dec_pos hne
      rw [if_pos hp, dec_eq, ih _ (by omega), runs_ne hne, List.map_cons, encs_cons, List.drop_drop]
    · rw [if_neg hp, List.drop_of_length_le (by omega), runs_nil]
      rfl
theorem norm_eq (s : ByteArray) : Proofs.Nrm.norm s = encs ((runs s.data.toList).map Proofs.Nrm.low) := norm_from s s.size 0 (by omega)
end Camp.U

/-! CvLab1 -/
namespace Camp
open Go Camp.U
set_option linter.unusedVariables false
set_option linter.unusedSimpArgs false
set_option maxHeartbeats 4000000
theorem bs_inj {A B : List UInt8} : bs A = bs B ↔ A = B := by
  unfold bs
  constructor
  · intro h; injection h with h; injection h
  · rintro rfl; rfl
theorem bs_toList (A : List UInt8) : (bs A).toList = A := by rw [ByteArray.toList_eq]; rfl
theorem bs_size (A : List UInt8) : (bs A).size = A.length := rfl
theorem beq_dec (A B : List UInt8) : (A == B) = decide (A = B) := by rw [Bool.eq_iff_iff]; simp
theorem bs_eq (A B : List UInt8) : binC .eql .str (.str (bs A)) (.str (bs B)) = some (.bool (decide (A = B))) := by
  show some (CV.bool ((bs A).toList == (bs B).toList)) = _
  rw [bs_toList, bs_toList, beq_dec]
theorem bs_ne (A B : List UInt8) : binC .neq .str (.str (bs A)) (.str (bs B)) = some (.bool (decide (¬ A = B))) := by
  show some (CV.bool !((bs A).toList == (bs B).toList)) = _
  rw [bs_toList, bs_toList, beq_dec, decide_not]
theorem bs_app (A B : List UInt8) : bs A ++ bs B = bs (A ++ B) := by
  apply ByteArray.ext
  rw [ByteArray.data_append]
  unfold bs
  simp
theorem bs_add {A B : List UInt8} (h : A.length + B.length ≤ room) : binC .add .str (.str (bs A)) (.str (bs B)) = some (.str (bs (A ++ B))) := by
  show (if (bs A).size + (bs B).size ≤ room then some (CV.str (bs A ++ bs B)) else none) = _
  rw [bs_size, bs_size, if_pos h, bs_app]
theorem bs_len (h : Hp) (A : List UInt8) : lenT h .str (.v (.c (.str (bs A)))) = some (A.length : Int) := rfl
theorem bs_extract (A : List UInt8) (i j : Nat) (hij : i ≤ j) (hj : j ≤ A.length) : (bs A).extract i j = bs ((A.drop i).take (j - i)) := by
  apply ByteArray.ext
  rw [ByteArray.data_extract]
  unfold bs
  simp only
  apply Array.toList_inj.mp
  simp [List.extract_eq_take_drop]
theorem sliceB_hi {n m : Nat} (h : m ≤ n) : sliceB n none none (some (m : Int)) none = some (0, m, none) := by
  unfold sliceB
  rw [if_pos (by simp; omega)]
  rfl
theorem sliceB_lo {n m : Nat} (h : m ≤ n) : sliceB n none (some (m : Int)) none none = some (m, n, none) := by
  unfold sliceB
  rw [if_pos (by simp; omega)]
  rfl
theorem bs_hi (h : Hp) {A : List UInt8} {m : Nat} (hm : m ≤ A.length) : sliceT h 0 (.v (.c (.str (bs A)))) none (some (m : Int)) none = some (.str (bs (A.take m))) := by
  show (if 0 = 0 ∧ (none : Option Int) = none then (sliceB A.length none none (some (m : Int)) none).map (fun r => CV.str ((bs A).extract r.1 r.2.1)) else none) = _
  rw [if_pos ⟨rfl, rfl⟩, sliceB_hi hm]
  show some (CV.str ((bs A).extract 0 m)) = _
  rw [bs_extract _ _ _ (Nat.zero_le _) hm, List.drop_zero, Nat.sub_zero]
theorem bs_lo (h : Hp) {A : List UInt8} {m : Nat} (hm : m ≤ A.length) : sliceT h 0 (.v (.c (.str (bs A)))) (some (m : Int)) none none = some (.str (bs (A.drop m))) := by
  show (if 0 = 0 ∧ (none : Option Int) = none then (sliceB A.length none (some (m : Int)) none none).map (fun r => CV.str ((bs A).extract r.1 r.2.1)) else none) = _
  rw [if_pos ⟨rfl, rfl⟩, sliceB_lo hm]
  show some (CV.str ((bs A).extract m A.length)) = _
  rw [bs_extract _ _ _ hm (Nat.le_refl _), List.take_of_length_le (by rw [List.length_drop]; omega)]
theorem bs_dec (A : List UInt8) (i : Nat) : Utf8.decode (bs A) i = dec (A.drop i) := dec_eq (bs A) i
section
variable {c : CallW} {n : Nat} {l : List (Nat × TV)} {lc : List (List CV)} {h : Hp} {P : St → Prop}
theorem rgn_str (A : List UInt8) (lc : List (List CV)) : nop noCall (fun _ => 0) ⟨[], lc, h⟩ (.range .str (.c (.c (.str (bs A))))) = some ⟨.v (.c (.it h.n)), lc, h.push (.siter (bs A) 0)⟩ := by
  simp only [nop, NX.ev]
  simp
  rfl
theorem nx_str {d : Option Nat} {x : NX} {id pos : Nat} {A : List UInt8} (hx : evN n l x = .v (.c (.it id))) (hi : h.g id = some (.siter (bs A) pos))
    (h1 : pos < A.length → P (ST n (pd d (.v (.tup [.c (.bool true), .c (.int .i64 pos), .c (.int .i32 ((dec (A.drop pos)).1 : Int))])) l) lc (h.put id (.siter (bs A) (pos + (dec (A.drop pos)).2)))))
    (h0 : ¬ pos < A.length → P (ST n (pd d (.v (.tup [.c (.bool false)])) l) lc h)) : stepW c ⟨d, .next true x, none⟩ (ST n l lc h) P := by
  simp only [stepW, wanted, nopW]
  intro o
  have hev : x.ev (mkT n l) = .v (.c (.it id)) := by rw [ev_mkT]; exact hx
  have hi' : h.obs[id]? = _ := hi
  simp only [nop, ST, hev, nextV, hi', bs_size, bs_dec]
  by_cases hp : pos < A.length
  · rw [if_pos hp]
    refine ⟨_, rfl, ?_⟩
    have := h1 hp
    simpa only [after, ST, putT_mkT, Int.ofNat_eq_natCast] using this
  · rw [if_neg hp]
    refine ⟨_, rfl, ?_⟩
    have := h0 hp
    simpa only [after, ST, putT_mkT] using this
end
/-- One rune more is behind: places. -/
theorem drop_ne {L : List UInt8} {pos : Nat} (h : pos < L.length) : L.drop pos ≠ [] := by
  intro e
  have := congrArg List.length e
  rw [List.length_drop, List.length_nil] at this
  omega
theorem step_at {L : List UInt8} {pos : Nat} (h : pos < L.length) : pos + 1 ≤ pos + (dec (L.drop pos)).2 ∧ pos + (dec (L.drop pos)).2 ≤ L.length ∧ vr ((dec (L.drop pos)).1 : Int) ∧ runs (L.drop pos) = ((dec (L.drop pos)).1 : Int) :: runs (L.drop (pos + (dec (L.drop pos)).2)) := by
  have hp := dec_pos (drop_ne h)
  have := hp.2.1
  rw [List.length_drop] at this
  refine ⟨by omega, by omega, hp.2.2, ?_⟩
  rw [runs_ne (drop_ne h), List.drop_drop]
section
variable {k : Nat} {h : Hp} {P : AV → Hp → Prop} {L : List UInt8}
def CtI (L : List UInt8) (h : Hp) (m : Nat) (st : St) : Prop :=
  ∃ (pos j : Nat) (h' : Hp) (l : List (Nat × TV)) (lc : List (List CV)), st = ST 11 l lc h' ∧ pos ≤ L.length ∧ m = L.length - pos ∧ j + (runs (L.drop pos)).length = (runs L).length ∧ h'.g h.n = some (.siter (bs L) pos) ∧ Fn h h' ∧
    lk l 3 = .v (.c (.int .i64 j)) ∧ lk l 5 = .v (.c (.it h.n))
theorem count_ok (hL : L.length ≤ 1000000000) (hP : ∀ h', Fn h h' → P (.c (.int .i64 (runs L).length)) h') : callW N (k + 1) 173 [.c (.str (bs L))] h P := by
  refine call_intro rfl (by simp only [List.length_cons, List.length_nil]; omega) ?_
  obtain ⟨h1, hh1⟩ : ∃ h1, h1 = h.push (.siter (bs L) 0) := ⟨_, rfl⟩
  have e1 := hh1.symm
  simp (maxSteps := 200000) -implicitDefEqProofs only [KA, KB, KC, KD, KE, KF, eq_self, ne_eq, ↓reduceIte, Nat.reduceLT, Nat.reduceEqDiff, Nat.reduceAdd, Nat.reduceLeDiff, Nat.reduceSub, Nat.reduceMul, reduceCtorEq, rgn_str, e1]
  refine loop_rd (callW_mono N _) (CtI L h) (n := L.length) ⟨0, 0, h1, _, _, rfl, Nat.zero_le _, rfl, by simp, by rw [hh1, g_push_eq], by rw [hh1]; exact Fm.push _ _ _, rfl, rfl⟩ ?_
  rintro m st ⟨pos, j, h2, l, lc, rfl, hp, hm, hj, hi, hf, e3, e5⟩
  simp (maxSteps := 200000) -implicitDefEqProofs only [KA, KB, KC, KD, KE, KF, eq_self, ne_eq, ↓reduceIte, Nat.reduceLT, Nat.reduceEqDiff, Nat.reduceAdd, Nat.reduceLeDiff, Nat.reduceSub, Nat.reduceMul, reduceCtorEq, e3, e5]
  refine nx_str (id := h.n) (by simp only [evN_t, lk_cons, lk_nil]; rfl) hi (fun hlt => ?_) fun hge => ?_
  · obtain ⟨s1, s2, s3, s4⟩ := step_at hlt
    have hlr := runs_len L
    rw [s4, List.length_cons] at hj
    have hw := wrap_i64 (n := (j : Int) + 1) (by omega)
    simp (maxSteps := 200000) -implicitDefEqProofs only [KA, KB, KC, KD, KE, KF, eq_self, ne_eq, ↓reduceIte, Nat.reduceLT, Nat.reduceEqDiff, Nat.reduceAdd, Nat.reduceLeDiff, Nat.reduceSub, Nat.reduceMul, reduceCtorEq, hw, rd_n]
    refine ⟨L.length - (pos + (dec (L.drop pos)).2), by omega, pos + (dec (L.drop pos)).2, j + 1, _, _, _, rfl, by omega, rfl, by omega, by rw [g_put_eq, hi]; rfl, hf.putNew _ (Nat.le_refl _), rfl, rfl⟩
  · rw [List.drop_of_length_le (by omega), runs_nil, List.length_nil] at hj
    rw [show (runs L).length = j by omega] at hP
    simp (maxSteps := 200000) -implicitDefEqProofs only [KA, KB, KC, KD, KE, KF, eq_self, ne_eq, ↓reduceIte, Nat.reduceLT, Nat.reduceEqDiff, Nat.reduceAdd, Nat.reduceLeDiff, Nat.reduceSub, Nat.reduceMul, reduceCtorEq, rd_e]
    exact hP _ hf
def CuI (L : List UInt8) (q0 : Int) (h : Hp) (m : Nat) (st : St) : Prop :=
  ∃ (pos : Nat) (q : Int) (h' : Hp) (l : List (Nat × TV)) (lc : List (List CV)), st = ST 19 l lc h' ∧ pos ≤ L.length ∧ m = L.length - pos ∧ ucut q0.toNat L = L.take pos ++ ucut q.toNat (L.drop pos) ∧ h'.g h.n = some (.siter (bs L) pos) ∧ Fn h h' ∧ (-9223372036854775808 ≤ q ∧ q ≤ 9223372036854775807) ∧
    lk l 0 = .v (.c (.str (bs L))) ∧ lk l 1 = .v (.c (.int .i64 q)) ∧ lk l 7 = .v (.c (.it h.n))
theorem cut_ok {q0 : Int} (hq0 : -9223372036854775808 ≤ q0 ∧ q0 ≤ 9223372036854775807) (hP : ∀ h', Fn h h' → P (.c (.str (bs (ucut q0.toNat L)))) h') : callW N (k + 1) 183 [.c (.str (bs L)), .c (.int .i64 q0)] h P := by
  refine call_intro rfl (by simp only [List.length_cons, List.length_nil]; omega) ?_
  obtain ⟨h1, hh1⟩ : ∃ h1, h1 = h.push (.siter (bs L) 0) := ⟨_, rfl⟩
  have e1 := hh1.symm
  simp (maxSteps := 200000) -implicitDefEqProofs only [KA, KB, KC, KD, KE, KF, eq_self, ne_eq, ↓reduceIte, Nat.reduceLT, Nat.reduceEqDiff, Nat.reduceAdd, Nat.reduceLeDiff, Nat.reduceSub, Nat.reduceMul, reduceCtorEq, rgn_str, e1]
  refine loop_rd (callW_mono N _) (CuI L q0 h) (n := L.length) ⟨0, q0, h1, _, _, rfl, Nat.zero_le _, rfl, by simp, by rw [hh1, g_push_eq], by rw [hh1]; exact Fm.push _ _ _, hq0, rfl, rfl, rfl⟩ ?_
  rintro m st ⟨pos, q, h2, l, lc, rfl, hp, hm, hc, hi, hf, hq, e0, e1, e7⟩
  simp (maxSteps := 200000) -implicitDefEqProofs only [KA, KB, KC, KD, KE, KF, eq_self, ne_eq, ↓reduceIte, Nat.reduceLT, Nat.reduceEqDiff, Nat.reduceAdd, Nat.reduceLeDiff, Nat.reduceSub, Nat.reduceMul, reduceCtorEq, e0, e1, e7]
  refine nx_str (id := h.n) (by simp only [evN_t, lk_cons, lk_nil]; rfl) hi (fun hlt => ?_) fun hge => ?_
  · obtain ⟨s1, s2, s3, s4⟩ := step_at hlt
    by_cases hz : q ≤ 0
    · have hs := bs_hi (h2.put h.n (.siter (bs L) (pos + (dec (L.drop pos)).2))) hp
      rw [show q.toNat = 0 by omega, show ucut 0 (L.drop pos) = [] from rfl, List.append_nil] at hc
      simp (maxSteps := 200000) -implicitDefEqProofs only [KA, KB, KC, KD, KE, KF, eq_self, ne_eq, ↓reduceIte, Nat.reduceLT, Nat.reduceEqDiff, Nat.reduceAdd, Nat.reduceLeDiff, Nat.reduceSub, Nat.reduceMul, reduceCtorEq, hz, hs]
      rw [← hc]
      exact hP _ (hf.putNew _ (Nat.le_refl _))
    · have hw := wrap_i64 (n := q - 1) (by omega)
      rw [show q.toNat = (q - 1).toNat + 1 by omega, ucut_succ (drop_ne hlt), ← List.append_assoc, ← List.take_add, List.drop_drop] at hc
      simp (maxSteps := 200000) -implicitDefEqProofs only [KA, KB, KC, KD, KE, KF, eq_self, ne_eq, ↓reduceIte, Nat.reduceLT, Nat.reduceEqDiff, Nat.reduceAdd, Nat.reduceLeDiff, Nat.reduceSub, Nat.reduceMul, reduceCtorEq, hz, hw, rd_n]
      refine ⟨L.length - (pos + (dec (L.drop pos)).2), by omega, pos + (dec (L.drop pos)).2, q - 1, _, _, _, rfl, by omega, rfl, hc, by rw [g_put_eq, hi]; rfl, hf.putNew _ (Nat.le_refl _), by omega, rfl, rfl, rfl⟩
  · rw [List.drop_of_length_le (by omega), ucut_nil, List.append_nil, List.take_of_length_le (by omega)] at hc
    simp (maxSteps := 200000) -implicitDefEqProofs only [KA, KB, KC, KD, KE, KF, eq_self, ne_eq, ↓reduceIte, Nat.reduceLT, Nat.reduceEqDiff, Nat.reduceAdd, Nat.reduceLeDiff, Nat.reduceSub, Nat.reduceMul, reduceCtorEq, rd_e]
    rw [hc] at hP
    exact hP _ hf
/-- The sum, not yet taken by the modulo. -/
def sumT : Int → List Int → Int
  | _, [] => 0
  | p, r :: rs => r * (p + 1) + sumT (p + 1) rs
theorem sumT_bound : ∀ {l : List Int} {p : Int}, 0 ≤ p → (∀ r ∈ l, vr r) → 0 ≤ sumT p l ∧ sumT p l ≤ 1114111 * (p + l.length) * l.length
  | [], p, _, _ => by simp [sumT]
  | r :: rs, p, hp, h => by
    have hr := h r (by simp)
    have ih := sumT_bound (l := rs) (p := p + 1) (by omega) (fun x hx => h x (by simp [hx]))
    unfold vr at hr
    rw [sumT, List.length_cons]
    have a1 : 0 ≤ r * (p + 1) := Int.mul_nonneg (by omega) (by omega)
    have a2 : r * (p + 1) ≤ 1114111 * (p + 1) := Int.mul_le_mul_of_nonneg_right (by omega) (by omega)
    have e : (1114111 : Int) * (p + ((rs.length + 1 : Nat) : Int)) * ((rs.length + 1 : Nat) : Int) = 1114111 * (p + 1 + rs.length) * rs.length + 1114111 * (p + 1 + rs.length) := by
      rw [show ((rs.length + 1 : Nat) : Int) = (rs.length : Int) + 1 by simp, Int.mul_add, Int.mul_one]
      rw [show p + ((rs.length : Int) + 1) = p + 1 + rs.length by omega]
    rw [e]
    constructor
    · omega
    · omega
theorem sumT_app (l m : List Int) : ∀ p, sumT p (l ++ m) = sumT p l + sumT (p + l.length) m := by
  induction l with
  | nil => intro p; simp [sumT]
  | cons r l ih =>
    intro p
    rw [List.cons_append, sumT, sumT, ih, List.length_cons, show p + 1 + (l.length : Int) = p + ((l.length + 1 : Nat) : Int) by simp; omega]
    omega
/-- The sum so far. -/
def SuI (L : List UInt8) (h : Hp) (m : Nat) (st : St) : Prop :=
  ∃ (pos j : Nat) (R : List Int) (h' : Hp) (l : List (Nat × TV)) (lc : List (List CV)), st = ST 23 l lc h' ∧ pos ≤ L.length ∧ m = L.length - pos ∧ runs L = R ++ runs (L.drop pos) ∧ R.length = j ∧ h'.g h.n = some (.siter (bs L) pos) ∧ Fn h h' ∧
    lk l 3 = .v (.c (.int .i64 ((sumT 0 R) % 65521))) ∧ lk l 4 = .v (.c (.int .i64 j)) ∧ lk l 8 = .v (.c (.it h.n))
theorem sum_ok (hL : L.length ≤ 60000) (hP : ∀ h', Fn h h' → P (.c (.int .i64 (sumT 0 (runs L) % 65521))) h') : callW N (k + 1) 176 [.c (.str (bs L))] h P := by
  refine call_intro rfl (by simp only [List.length_cons, List.length_nil]; omega) ?_
  obtain ⟨h1, hh1⟩ : ∃ h1, h1 = h.push (.siter (bs L) 0) := ⟨_, rfl⟩
  have e1 := hh1.symm
  simp (maxSteps := 200000) -implicitDefEqProofs only [KA, KB, KC, KD, KE, KF, eq_self, ne_eq, ↓reduceIte, Nat.reduceLT, Nat.reduceEqDiff, Nat.reduceAdd, Nat.reduceLeDiff, Nat.reduceSub, Nat.reduceMul, reduceCtorEq, rgn_str, e1]
  refine loop_rd (callW_mono N _) (SuI L h) (n := L.length) ⟨0, 0, [], h1, _, _, rfl, Nat.zero_le _, rfl, by simp, rfl, by rw [hh1, g_push_eq], by rw [hh1]; exact Fm.push _ _ _, rfl, rfl, rfl⟩ ?_
  rintro m st ⟨pos, j, R, h2, l, lc, rfl, hp, hm, hR, hj, hi, hf, e3, e4, e8⟩
  simp (maxSteps := 200000) -implicitDefEqProofs only [KA, KB, KC, KD, KE, KF, eq_self, ne_eq, ↓reduceIte, Nat.reduceLT, Nat.reduceEqDiff, Nat.reduceAdd, Nat.reduceLeDiff, Nat.reduceSub, Nat.reduceMul, reduceCtorEq, e3, e4, e8]
  refine nx_str (id := h.n) (by simp only [evN_t, lk_cons, lk_nil]; rfl) hi (fun hlt => ?_) fun hge => ?_
  · obtain ⟨s1, s2, s3, s4⟩ := step_at hlt
    have hlr := runs_len L
    have hlr2 := congrArg List.length hR
    rw [s4, List.length_append, List.length_cons] at hlr2
    have hv := s3
    unfold vr at hv
    generalize hx : ((dec (L.drop pos)).1 : Int) = x at *
    have w1 := wrap_i64 (n := (j : Int) + 1) (by omega)
    have w2 := wrap_i64 (n := x) (by omega)
    have z : ¬ ((65521 : Int) = 0) := by decide
    have t1 : ((j : Int) + 1).tmod 65521 = (j : Int) + 1 := Int.tmod_eq_of_lt (by omega) (by omega)
    have m0 : 0 ≤ sumT 0 R % 65521 := Int.emod_nonneg _ (by decide)
    have m1 : sumT 0 R % 65521 < 65521 := Int.emod_lt_of_pos _ (by decide)
    have x0 : 0 ≤ x * ((j : Int) + 1) := Int.mul_nonneg (by omega) (by omega)
    have x1 : x * ((j : Int) + 1) ≤ 1114111 * ((j : Int) + 1) := Int.mul_le_mul_of_nonneg_right (by omega) (by omega)
    have w3 := wrap_i64 (n := x * ((j : Int) + 1)) (by omega)
    have w4 := wrap_i64 (n := sumT 0 R % 65521 + x * ((j : Int) + 1)) (by omega)
    have t2 : (sumT 0 R % 65521 + x * ((j : Int) + 1)).tmod 65521 = sumT 0 (R ++ [x]) % 65521 := by
      rw [Int.tmod_eq_emod_of_nonneg (by omega), sumT_app, hj]
      simp only [sumT, Int.zero_add, Int.add_zero]
      rw [Int.emod_add_emod]
    simp (maxSteps := 200000) -implicitDefEqProofs only [KA, KB, KC, KD, KE, KF, eq_self, ne_eq, ↓reduceIte, Nat.reduceLT, Nat.reduceEqDiff, Nat.reduceAdd, Nat.reduceLeDiff, Nat.reduceSub, Nat.reduceMul, reduceCtorEq, w1, w2, z, t1, w3, w4, t2, rd_n]
    refine ⟨L.length - (pos + (dec (L.drop pos)).2), by omega, pos + (dec (L.drop pos)).2, j + 1, R ++ [x], _, _, _, rfl, by omega, rfl, by rw [hR, s4, List.append_assoc]; rfl, by rw [List.length_append, hj]; rfl, by rw [g_put_eq, hi]; rfl, hf.putNew _ (Nat.le_refl _), rfl, rfl, rfl⟩
  · rw [List.drop_of_length_le (by omega), runs_nil, List.append_nil] at hR
    rw [hR] at hP
    simp (maxSteps := 200000) -implicitDefEqProofs only [KA, KB, KC, KD, KE, KF, eq_self, ne_eq, ↓reduceIte, Nat.reduceLT, Nat.reduceEqDiff, Nat.reduceAdd, Nat.reduceLeDiff, Nat.reduceSub, Nat.reduceMul, reduceCtorEq, rd_e]
    exact hP _ hf
/-! ### May -/
def letP (r : Int) : Prop := (97 ≤ r ∧ r ≤ 122) ∨ ((945 ≤ r ∧ r ≤ 969) ∧ ¬ r = 962)
instance (r : Int) : Decidable (letP r) := inferInstanceAs (Decidable (_ ∨ _))
def digP (r : Int) : Prop := 48 ≤ r ∧ r ≤ 57
instance (r : Int) : Decidable (digP r) := inferInstanceAs (Decidable (_ ∧ _))
/-- Letters, and numbers that are not first. -/
def okA : Bool → List Int → Prop
  | _, [] => True
  | f, r :: rs => (letP r ∨ (f = false ∧ digP r)) ∧ okA false rs
def mayR (l : List Int) : Prop := okA true l ∧ 1 ≤ l.length ∧ l.length ≤ 16
theorem letter_ok {r : Int} (hP : ∀ b : Bool, (b = true ↔ letP r) → P (.c (.bool b)) h) : callW N (k + 1) 189 [.c (.int .i32 r)] h P := by
  refine call_intro rfl (by simp only [List.length_cons, List.length_nil]; omega) ?_
  by_cases a1 : 97 ≤ r
  · by_cases a2 : r ≤ 122
    · simp (maxSteps := 200000) -implicitDefEqProofs only [KA, KB, KC, KD, KE, KF, eq_self, ne_eq, ↓reduceIte, Nat.reduceLT, Nat.reduceEqDiff, Nat.reduceAdd, Nat.reduceLeDiff, Nat.reduceSub, Nat.reduceMul, reduceCtorEq, a1, a2]
      exact hP _ (by unfold letP; simp; omega)
    · by_cases b1 : 945 ≤ r
      · by_cases b2 : r ≤ 969
        · simp (maxSteps := 200000) -implicitDefEqProofs only [KA, KB, KC, KD, KE, KF, eq_self, ne_eq, ↓reduceIte, Nat.reduceLT, Nat.reduceEqDiff, Nat.reduceAdd, Nat.reduceLeDiff, Nat.reduceSub, Nat.reduceMul, reduceCtorEq, a1, a2, b1, b2]
          refine hP _ ?_
          unfold letP
          simp
          omega
        · simp (maxSteps := 200000) -implicitDefEqProofs only [KA, KB, KC, KD, KE, KF, eq_self, ne_eq, ↓reduceIte, Nat.reduceLT, Nat.reduceEqDiff, Nat.reduceAdd, Nat.reduceLeDiff, Nat.reduceSub, Nat.reduceMul, reduceCtorEq, a1, a2, b1, b2]
          exact hP _ (by unfold letP; simp; omega)
      · simp (maxSteps := 200000) -implicitDefEqProofs only [KA, KB, KC, KD, KE, KF, eq_self, ne_eq, ↓reduceIte, Nat.reduceLT, Nat.reduceEqDiff, Nat.reduceAdd, Nat.reduceLeDiff, Nat.reduceSub, Nat.reduceMul, reduceCtorEq, a1, a2, b1]
        exact hP _ (by unfold letP; simp; omega)
  · have b1 : ¬ 945 ≤ r := by omega
    simp (maxSteps := 200000) -implicitDefEqProofs only [KA, KB, KC, KD, KE, KF, eq_self, ne_eq, ↓reduceIte, Nat.reduceLT, Nat.reduceEqDiff, Nat.reduceAdd, Nat.reduceLeDiff, Nat.reduceSub, Nat.reduceMul, reduceCtorEq, a1, b1]
    exact hP _ (by unfold letP; simp; omega)
def MaI (L : List UInt8) (h : Hp) (m : Nat) (st : St) : Prop :=
  ∃ (pos : Nat) (h' : Hp) (l : List (Nat × TV)) (lc : List (List CV)), st = ST 35 l lc h' ∧ pos ≤ L.length ∧ m = L.length - pos ∧ (okA true (runs L) ↔ okA (decide (pos = 0)) (runs (L.drop pos))) ∧ h'.g h.n = some (.siter (bs L) pos) ∧ Fn h h' ∧
    lk l 0 = .v (.c (.str (bs L))) ∧ lk l 7 = .v (.c (.it h.n))
theorem may_ok (hL : L.length ≤ 1000000000) (hP : ∀ h' (b : Bool), (b = true ↔ mayR (runs L)) → Fn h h' → P (.c (.bool b)) h') : callW N (k + 2) 172 [.c (.str (bs L))] h P := by
  refine call_intro rfl (by simp only [List.length_cons, List.length_nil]; omega) ?_
  obtain ⟨h1, hh1⟩ : ∃ h1, h1 = h.push (.siter (bs L) 0) := ⟨_, rfl⟩
  have e1 := hh1.symm
  simp (maxSteps := 200000) -implicitDefEqProofs only [KA, KB, KC, KD, KE, KF, eq_self, ne_eq, ↓reduceIte, Nat.reduceLT, Nat.reduceEqDiff, Nat.reduceAdd, Nat.reduceLeDiff, Nat.reduceSub, Nat.reduceMul, reduceCtorEq, rgn_str, e1]
  refine loop_rd (callW_mono N _) (MaI L h) (n := L.length) ⟨0, h1, _, _, rfl, Nat.zero_le _, rfl, by simp, by rw [hh1, g_push_eq], by rw [hh1]; exact Fm.push _ _ _, rfl, rfl⟩ ?_
  rintro m st ⟨pos, h2, l, lc, rfl, hp, hm, hok, hi, hf, e0, e7⟩
  simp (maxSteps := 200000) -implicitDefEqProofs only [KA, KB, KC, KD, KE, KF, eq_self, ne_eq, ↓reduceIte, Nat.reduceLT, Nat.reduceEqDiff, Nat.reduceAdd, Nat.reduceLeDiff, Nat.reduceSub, Nat.reduceMul, reduceCtorEq, e0, e7]
  refine nx_str (id := h.n) (by simp only [evN_t, lk_cons, lk_nil]; rfl) hi (fun hlt => ?_) fun hge => ?_
  · obtain ⟨s1, s2, s3, s4⟩ := step_at hlt
    have hf2 := hf.putNew (.siter (bs L) (pos + (dec (L.drop pos)).2)) (Nat.le_refl h.n)
    have hi2 : (h2.put h.n (.siter (bs L) (pos + (dec (L.drop pos)).2))).g h.n = some (.siter (bs L) (pos + (dec (L.drop pos)).2)) := by rw [g_put_eq, hi]; rfl
    generalize hh3 : h2.put h.n (.siter (bs L) (pos + (dec (L.drop pos)).2)) = h3 at *
    rw [s4, okA] at hok
    generalize hx : ((dec (L.drop pos)).1 : Int) = x at *
    have bad : ¬ (letP x ∨ (decide (pos = 0) = false ∧ digP x)) → P (.c (.bool false)) h3 := fun hn => hP _ false ⟨fun e => (by cases e), fun e => absurd (hok.mp e.1).1 hn⟩ hf2
    have fin : (letP x ∨ (decide (pos = 0) = false ∧ digP x)) → ∀ (l : List (Nat × TV)) (lc : List (List CV)), lk l 0 = .v (.c (.str (bs L))) → lk l 7 = .v (.c (.it h.n)) → ∃ m', m' < m ∧ MaI L h m' (ST 35 l lc h3) := by
      intro hg l lc k0 k7
      refine ⟨L.length - (pos + (dec (L.drop pos)).2), by omega, pos + (dec (L.drop pos)).2, h3, l, lc, rfl, by omega, rfl, ?_, hi2, hf2, k0, k7⟩
      rw [hok, show decide (pos + (dec (L.drop pos)).2 = 0) = false from decide_eq_false (by omega)]
      exact ⟨fun e => e.2, fun e => ⟨hg, e⟩⟩
    simp (maxSteps := 200000) -implicitDefEqProofs only [KA, KB, KC, KD, KE, KF, eq_self, ne_eq, ↓reduceIte, Nat.reduceLT, Nat.reduceEqDiff, Nat.reduceAdd, Nat.reduceLeDiff, Nat.reduceSub, Nat.reduceMul, reduceCtorEq]
    refine letter_ok (k := k) fun b hb => ?_
    cases b with
    | true =>
      simp (maxSteps := 200000) -implicitDefEqProofs only [KA, KB, KC, KD, KE, KF, eq_self, ne_eq, ↓reduceIte, Nat.reduceLT, Nat.reduceEqDiff, Nat.reduceAdd, Nat.reduceLeDiff, Nat.reduceSub, Nat.reduceMul, reduceCtorEq, rd_n]
      exact fin (.inl (hb.mp rfl)) _ _ rfl rfl
    | false =>
      have hnl : ¬ letP x := fun e => by have := hb.mpr e; cases this
      by_cases h0 : pos = 0
      · have d0 : decide ((pos : Int) = 0) = true := decide_eq_true (by omega)
        simp (maxSteps := 200000) -implicitDefEqProofs only [KA, KB, KC, KD, KE, KF, eq_self, ne_eq, ↓reduceIte, Nat.reduceLT, Nat.reduceEqDiff, Nat.reduceAdd, Nat.reduceLeDiff, Nat.reduceSub, Nat.reduceMul, reduceCtorEq, d0]
        exact bad (fun e => e.elim hnl (fun e => by rw [decide_eq_true h0] at e; cases e.1))
      · have d0 : ¬ ((pos : Int) = 0) := by omega
        by_cases g1 : x < 48
        · simp (maxSteps := 200000) -implicitDefEqProofs only [KA, KB, KC, KD, KE, KF, eq_self, ne_eq, ↓reduceIte, Nat.reduceLT, Nat.reduceEqDiff, Nat.reduceAdd, Nat.reduceLeDiff, Nat.reduceSub, Nat.reduceMul, reduceCtorEq, d0, g1]
          exact bad (fun e => e.elim hnl (fun e => by have := e.2; unfold digP at this; omega))
        · by_cases g2 : 57 < x
          · simp (maxSteps := 200000) -implicitDefEqProofs only [KA, KB, KC, KD, KE, KF, eq_self, ne_eq, ↓reduceIte, Nat.reduceLT, Nat.reduceEqDiff, Nat.reduceAdd, Nat.reduceLeDiff, Nat.reduceSub, Nat.reduceMul, reduceCtorEq, d0, g1, g2]
            exact bad (fun e => e.elim hnl (fun e => by have := e.2; unfold digP at this; omega))
          · simp (maxSteps := 200000) -implicitDefEqProofs only [KA, KB, KC, KD, KE, KF, eq_self, ne_eq, ↓reduceIte, Nat.reduceLT, Nat.reduceEqDiff, Nat.reduceAdd, Nat.reduceLeDiff, Nat.reduceSub, Nat.reduceMul, reduceCtorEq, d0, g1, g2, rd_n]
            exact fin (.inr ⟨decide_eq_false h0, by unfold digP; omega⟩) _ _ rfl rfl
  · rw [List.drop_of_length_le (by omega), runs_nil, okA] at hok
    have hok := hok.mpr trivial
    simp (maxSteps := 200000) -implicitDefEqProofs only [KA, KB, KC, KD, KE, KF, eq_self, ne_eq, ↓reduceIte, Nat.reduceLT, Nat.reduceEqDiff, Nat.reduceAdd, Nat.reduceLeDiff, Nat.reduceSub, Nat.reduceMul, reduceCtorEq, rd_e]
    refine count_ok (k := k) hL fun h3 hf3 => ?_
    by_cases g1 : (1 : Int) ≤ ((runs L).length : Int)
    · by_cases g2 : ((runs L).length : Int) ≤ 16
      · simp (maxSteps := 200000) -implicitDefEqProofs only [KA, KB, KC, KD, KE, KF, eq_self, ne_eq, ↓reduceIte, Nat.reduceLT, Nat.reduceEqDiff, Nat.reduceAdd, Nat.reduceLeDiff, Nat.reduceSub, Nat.reduceMul, reduceCtorEq, g1, g2]
        exact hP _ true ⟨fun _ => ⟨hok, by omega, by omega⟩, fun _ => rfl⟩ (hf.trans hf3)
      · simp (maxSteps := 200000) -implicitDefEqProofs only [KA, KB, KC, KD, KE, KF, eq_self, ne_eq, ↓reduceIte, Nat.reduceLT, Nat.reduceEqDiff, Nat.reduceAdd, Nat.reduceLeDiff, Nat.reduceSub, Nat.reduceMul, reduceCtorEq, g1, g2]
        exact hP _ false ⟨fun e => (by cases e), fun e => by have := e.2.2; omega⟩ (hf.trans hf3)
    · simp (maxSteps := 200000) -implicitDefEqProofs only [KA, KB, KC, KD, KE, KF, eq_self, ne_eq, ↓reduceIte, Nat.reduceLT, Nat.reduceEqDiff, Nat.reduceAdd, Nat.reduceLeDiff, Nat.reduceSub, Nat.reduceMul, reduceCtorEq, g1]
      exact hP _ false ⟨fun e => (by cases e), fun e => by have := e.2.1; omega⟩ (hf.trans hf3)
end
end Camp

/-! CvLab2 -/
namespace Camp
open Go Camp.U
set_option linter.unusedVariables false
set_option linter.unusedSimpArgs false
set_option maxHeartbeats 4000000
def encR (r : Int) : List CV := [.int .i32 r]
def encB (b : UInt8) : List CV := [.int .u8 b.toNat]
theorem shr6 (r : Int) : binC .shr .num (.int .i32 r) (.int .u64 6) = some (.int .i32 (r.fdiv 64)) := rfl
theorem shr12 (r : Int) : binC .shr .num (.int .i32 r) (.int .u64 12) = some (.int .i32 (r.fdiv 4096)) := rfl
theorem shr18 (r : Int) : binC .shr .num (.int .i32 r) (.int .u64 18) = some (.int .i32 (r.fdiv 262144)) := rfl
theorem fdiv_pos (r m : Int) (h : 0 ≤ m) : r.fdiv m = r / m := Int.fdiv_eq_ediv_of_nonneg _ h
theorem or_fin (a : Nat) (m : Nat) (h : ∀ n : Fin m, IntKind.wrap .u8 (BitVec.ofInt IntKind.u8.bits (a : Int) ||| BitVec.ofInt IntKind.u8.bits (n.val : Int)).toNat = (a : Int) + n.val) {x : Int} (h0 : 0 ≤ x) (h1 : x < m) :
    IntKind.wrap .u8 (BitVec.ofInt IntKind.u8.bits (a : Int) ||| BitVec.ofInt IntKind.u8.bits x).toNat = a + x := by
  have := h ⟨x.toNat, by omega⟩
  simp only [Int.toNat_of_nonneg h0] at this
  exact this
theorem or128 {x : Int} (h0 : 0 ≤ x) (h1 : x < 64) : IntKind.wrap .u8 (BitVec.ofInt IntKind.u8.bits 128 ||| BitVec.ofInt IntKind.u8.bits x).toNat = 128 + x := or_fin 128 64 (by decide +kernel) h0 h1
theorem or192 {x : Int} (h0 : 0 ≤ x) (h1 : x < 32) : IntKind.wrap .u8 (BitVec.ofInt IntKind.u8.bits 192 ||| BitVec.ofInt IntKind.u8.bits x).toNat = 192 + x := or_fin 192 32 (by decide +kernel) h0 h1
theorem or224 {x : Int} (h0 : 0 ≤ x) (h1 : x < 16) : IntKind.wrap .u8 (BitVec.ofInt IntKind.u8.bits 224 ||| BitVec.ofInt IntKind.u8.bits x).toNat = 224 + x := or_fin 224 16 (by decide +kernel) h0 h1
theorem or240 {x : Int} (h0 : 0 ≤ x) (h1 : x < 8) : IntKind.wrap .u8 (BitVec.ofInt IntKind.u8.bits 240 ||| BitVec.ofInt IntKind.u8.bits x).toNat = 240 + x := or_fin 240 8 (by decide +kernel) h0 h1
theorem and63 (x : Int) : IntKind.wrap .u8 (BitVec.ofInt IntKind.u8.bits (IntKind.wrap .u8 x) &&& BitVec.ofInt IntKind.u8.bits 63).toNat = x % 64 := by
  have key : ∀ n : Fin 256, IntKind.wrap .u8 (BitVec.ofInt IntKind.u8.bits (n.val : Int) &&& BitVec.ofInt IntKind.u8.bits 63).toNat = (n.val : Int) % 64 := by decide +kernel
  rw [IntKind.wrap_u8 x]
  have := key ⟨(x % 256).toNat, by omega⟩
  simp only [Int.toNat_of_nonneg (show 0 ≤ x % 256 by omega)] at this
  rw [this]
  omega
theorem encB_of {n : Int} (h0 : 0 ≤ n) (h1 : n < 256) : encB n.toNat.toUInt8 = [.int .u8 n] := by
  unfold encB
  rw [by8 h0 h1, Int.toNat_of_nonneg h0]
section
variable {k : Nat} {h : Hp} {P : AV → Hp → Prop}
def ReI (h : Hp) (id : Nat) (L : List Int) (m : Nat) (st : St) : Prop :=
  ∃ (A M C : List Int) (h' : Hp) (l : List (Nat × TV)) (lc : List (List CV)), st = ST 28 l lc h' ∧ L = A ++ M ++ C ∧ A.length = C.length ∧ m = M.length ∧ h'.g id = some (.rows true 1 0 0 ((C.reverse ++ M ++ A.reverse).map encR)) ∧ Fm (fun j => j = id) h h' ∧
    lk l 0 = .v (.c (.sl id 0 0 L.length none)) ∧ lk l 2 = .v (.c (.int .i64 C.length)) ∧ lk l 3 = .v (.c (.int .i64 ((C.length : Int) + M.length - 1)))
theorem reverse_ok {id : Nat} {L : List Int} (hg : h.g id = some (.rows true 1 0 0 (L.map encR))) (hn : L.length ≤ 1000000000)
    (hP : ∀ h', h'.g id = some (.rows true 1 0 0 (L.reverse.map encR)) → Fm (fun j => j = id) h h' → P (.tup []) h') : callW N (k + 1) 190 [.c (.sl id 0 0 L.length none)] h P := by
  have hlen : ∀ h' : Hp, lenT h' .sl (.v (.c (.sl id 0 0 L.length none))) = some (L.length : Int) := fun h' => rfl
  have w0 := wrap_i64 (n := (L.length : Int) - 1) (by omega)
  refine call_intro rfl (by simp only [List.length_cons, List.length_nil]; omega) ?_
  simp (maxSteps := 200000) -implicitDefEqProofs only [KA, KB, KC, KD, KE, KF, eq_self, ne_eq, ↓reduceIte, Nat.reduceLT, Nat.reduceEqDiff, Nat.reduceAdd, Nat.reduceLeDiff, Nat.reduceSub, Nat.reduceMul, reduceCtorEq, hlen, w0]
  refine loop_rd (callW_mono N _) (ReI h id L) (n := L.length) ⟨[], L, [], h, _, _, rfl, by simp, rfl, rfl, by simpa using hg, Fm.refl _ _, rfl, rfl, by simp only [lk_cons, lk_nil, List.length_nil]; rw [show ((0 : Nat) : Int) + (L.length : Int) - 1 = (L.length : Int) - 1 by omega]; rfl⟩ ?_
  rintro m st ⟨A, M, C, h2, l, lc, rfl, hL, hAC, hm, hg2, hf, e0, e2, e3⟩
  have hLl := congrArg List.length hL
  rw [List.length_append, List.length_append] at hLl
  by_cases hlt : (C.length : Int) < (C.length : Int) + M.length - 1
  · obtain ⟨x, M1, rfl⟩ : ∃ x M1, M = x :: M1 := List.exists_cons_of_ne_nil (by rintro rfl; simp at hlt; omega)
    rcases List.eq_nil_or_concat M1 with h1 | ⟨M2, y, h1⟩
    · subst h1; simp at hlt
    rw [List.concat_eq_append] at h1
    subst h1
    simp only [List.length_cons, List.length_append, List.length_nil] at hLl hlt e3 hm
    have hc1 : ((C.length : Int) + ((M2.length + (0 + 1) + 1 : Nat) : Int) - 1) = ((C.length + M2.length + 1 : Nat) : Int) := by omega
    rw [hc1] at e3 hlt
    have hcr : C.reverse.length = C.length := List.length_reverse
    have T0 : (C.reverse ++ x :: (M2 ++ [y]) ++ A.reverse).map encR = (C.reverse ++ x :: (M2 ++ y :: A.reverse)).map encR ++ [] := by simp
    have r1 := get_midE encR C.reverse x (M2 ++ y :: A.reverse) []
    rw [hcr] at r1
    have r2 : ((C.reverse ++ x :: (M2 ++ y :: A.reverse)).map encR ++ [])[C.length + M2.length + 1]? = some (encR y) := by
      have := get_midE encR (C.reverse ++ x :: M2) y A.reverse []
      rw [show (C.reverse ++ x :: M2).length = C.length + M2.length + 1 by simp; omega] at this
      simpa using this
    have s1 := set_midE encR C.reverse x y (M2 ++ y :: A.reverse) []
    rw [hcr] at s1
    have r3 : ((C.reverse ++ y :: (M2 ++ y :: A.reverse)).map encR ++ [])[C.length + M2.length + 1]? = some (encR y) := by
      have := get_midE encR (C.reverse ++ y :: M2) y A.reverse []
      rw [show (C.reverse ++ y :: M2).length = C.length + M2.length + 1 by simp; omega] at this
      simpa using this
    have s2 : ((C.reverse ++ y :: (M2 ++ y :: A.reverse)).map encR ++ []).set (C.length + M2.length + 1) (encR x) = (C.reverse ++ y :: (M2 ++ x :: A.reverse)).map encR ++ [] := by
      have := set_midE encR (C.reverse ++ y :: M2) y x A.reverse []
      rw [show (C.reverse ++ y :: M2).length = C.length + M2.length + 1 by simp; omega] at this
      simpa using this
    rw [T0] at hg2
    generalize hR1 : (C.reverse ++ x :: (M2 ++ y :: A.reverse)).map encR ++ [] = R1 at *
    generalize hR2 : (C.reverse ++ y :: (M2 ++ y :: A.reverse)).map encR ++ [] = R2 at *
    generalize hR3 : (C.reverse ++ y :: (M2 ++ x :: A.reverse)).map encR ++ [] = R3 at *
    rw [show encR x = [.int .i32 x] from rfl] at r1 s2
    rw [show encR y = [.int .i32 y] from rfl] at r2 s1 r3
    have i1 := iaS (n := L.length) (i := (C.length : Int)) hg2 (Nat.le_refl 0) (by omega) none
    have i2 := iaS (n := L.length) (i := ((C.length + M2.length + 1 : Nat) : Int)) hg2 (Nat.le_refl 0) (by omega) none
    rw [Int.toNat_natCast] at i1 i2
    have hgP : (h2.put id (.rows true 1 0 0 R2)).g id = some (.rows true 1 0 0 R2) := by rw [g_put_eq, hg2]; rfl
    have i3 := iaS (n := L.length) (i := ((C.length + M2.length + 1 : Nat) : Int)) hgP (Nat.le_refl 0) (by omega) none
    rw [Int.toNat_natCast] at i3
    have w1 := wrap_i64 (n := (C.length : Int) + 1) (by omega)
    have w2 := wrap_i64 (n := ((C.length + M2.length + 1 : Nat) : Int) - 1) (by omega)
    simp (maxSteps := 200000) -implicitDefEqProofs only [KA, KB, KC, KD, KE, KF, eq_self, ne_eq, ↓reduceIte, Nat.reduceLT, Nat.reduceEqDiff, Nat.reduceAdd, Nat.reduceLeDiff, Nat.reduceSub, Nat.reduceMul, reduceCtorEq, e0, e2, e3, hlt, i1, i2, i3, hg2, hgP, r1, r2, r3, s1, s2, w1, w2, rd_n]
    refine ⟨M2.length, by omega, A ++ [x], M2, y :: C, _, _, _, rfl, by rw [hL]; simp, by simp [hAC], rfl, ?_, (hf.trans (Fm.put _ _ rfl)).trans (Fm.put _ _ rfl), rfl, ?_, ?_⟩
    · rw [g_put_eq, hgP, ← hR3]
      simp
    · simp only [lk_cons, lk_nil]; rfl
    · simp only [lk_cons, lk_nil, List.length_cons]
      rw [show ((C.length + M2.length + 1 : Nat) : Int) - 1 = ((C.length + 1 : Nat) : Int) + M2.length - 1 by omega]
      rfl
  · simp (maxSteps := 200000) -implicitDefEqProofs only [KA, KB, KC, KD, KE, KF, eq_self, ne_eq, ↓reduceIte, Nat.reduceLT, Nat.reduceEqDiff, Nat.reduceAdd, Nat.reduceLeDiff, Nat.reduceSub, Nat.reduceMul, reduceCtorEq, e0, e2, e3, hlt, rd_e]
    refine hP _ ?_ hf
    have hM : M.reverse = M := by
      cases M with
      | nil => rfl
      | cons x M => cases M with
        | nil => rfl
        | cons y M => simp only [List.length_cons] at hlt; omega
    rw [hg2, hL]
    simp [hM]
theorem apr_ok {v : CV} {B : List UInt8} {r : Int} (ho : Ow h 1 v (B.map encB)) (hr : vr r) (hn : B.length ≤ 1000000000)
    (hP : ∀ h' u, Ow h' 1 u ((B ++ enc r).map encB) → Fm (ownId v) h h' → (∀ j, ownId u j → ownId v j ∨ h.n ≤ j) → P (.c u) h') : callW N (k + 2) 191 [.c v, .c (.int .i32 r)] h P := by
  have hv := hr
  unfold vr at hv
  have wu : IntKind.wrap .u32 r = r := IntWalk.u32_in r (by omega)
  have w8 := and63 r
  have v8 := and63 (r.fdiv 64)
  have x8 := and63 (r.fdiv 4096)
  have f6 := fdiv_pos r 64 (by decide)
  have f12 := fdiv_pos r 4096 (by decide)
  have f18 := fdiv_pos r 262144 (by decide)
  rw [f6] at v8
  rw [f12] at x8
  have o0 := or128 (x := r % 64) (by omega) (by omega)
  have o1 := or128 (x := r / 64 % 64) (by omega) (by omega)
  have o2 := or128 (x := r / 4096 % 64) (by omega) (by omega)
  refine call_intro rfl (by simp only [List.length_cons, List.length_nil]; omega) ?_
  rcases enc_arms hr with ⟨h1, he⟩ | ⟨h1, h2, he⟩ | ⟨h1, h2, he⟩ | ⟨h1, he⟩
  · have wb : IntKind.wrap .u8 r = r := wrap_u8 (by omega)
    obtain ⟨u, h3, f1, f2, f3, f4⟩ := ho.app (lc := [[.int .u8 r]]) (x := .lsl 0 1) (xs := [[.int .u8 r]]) rfl (by simp) (bytes := 1) (by rw [List.length_map]; simp only [room, List.length_singleton]; omega)
    simp (maxSteps := 200000) -implicitDefEqProofs only [KA, KB, KC, KD, KE, KF, eq_self, ne_eq, ↓reduceIte, Nat.reduceLT, Nat.reduceEqDiff, Nat.reduceAdd, Nat.reduceLeDiff, Nat.reduceSub, Nat.reduceMul, reduceCtorEq, wu, h1, wb, f1]
    refine hP _ _ ?_ f3 f4
    rw [he, List.map_append, List.map_singleton, encB_of (by omega) (by omega)]
    exact f2
  · have n1 : ¬ r ≤ 127 := by omega
    have wb : IntKind.wrap .u8 (r / 64) = r / 64 := wrap_u8 (by omega)
    have o3 := or192 (x := r / 64) (by omega) (by omega)
    obtain ⟨u, h3, f1, f2, f3, f4⟩ := ho.app (lc := [[.int .u8 (192 + r / 64), .int .u8 (128 + r % 64)]]) (x := .lsl 0 2) (xs := [[.int .u8 (192 + r / 64)], [.int .u8 (128 + r % 64)]]) rfl (by simp) (bytes := 1) (by rw [List.length_map]; simp only [room, List.length_cons, List.length_nil]; omega)
    simp (maxSteps := 200000) -implicitDefEqProofs only [KA, KB, KC, KD, KE, KF, eq_self, ne_eq, ↓reduceIte, Nat.reduceLT, Nat.reduceEqDiff, Nat.reduceAdd, Nat.reduceLeDiff, Nat.reduceSub, Nat.reduceMul, reduceCtorEq, wu, n1]
    refine call_intro (nt := 78) rfl (by simp only [List.length_cons, List.length_nil]; omega) ?_
    simp (maxSteps := 200000) -implicitDefEqProofs only [KA, KB, KC, KD, KE, KF, eq_self, ne_eq, ↓reduceIte, Nat.reduceLT, Nat.reduceEqDiff, Nat.reduceAdd, Nat.reduceLeDiff, Nat.reduceSub, Nat.reduceMul, reduceCtorEq, wu, h2, shr6, f6, wb, o3, w8, o0, f1]
    refine hP _ _ ?_ f3 f4
    rw [he, List.map_append, List.map_cons, List.map_singleton, encB_of (by omega) (by omega), encB_of (by omega) (by omega)]
    exact f2
  · have n1 : ¬ r ≤ 127 := by omega
    have n2 : ¬ r ≤ 2047 := by omega
    have wb : IntKind.wrap .u8 (r / 4096) = r / 4096 := wrap_u8 (by omega)
    have o3 := or224 (x := r / 4096) (by omega) (by omega)
    obtain ⟨u, h3, f1, f2, f3, f4⟩ := ho.app (lc := [[.int .u8 (224 + r / 4096), .int .u8 (128 + r / 64 % 64), .int .u8 (128 + r % 64)]]) (x := .lsl 0 3) (xs := [[.int .u8 (224 + r / 4096)], [.int .u8 (128 + r / 64 % 64)], [.int .u8 (128 + r % 64)]]) rfl (by simp) (bytes := 1) (by rw [List.length_map]; simp only [room, List.length_cons, List.length_nil]; omega)
    simp (maxSteps := 200000) -implicitDefEqProofs only [KA, KB, KC, KD, KE, KF, eq_self, ne_eq, ↓reduceIte, Nat.reduceLT, Nat.reduceEqDiff, Nat.reduceAdd, Nat.reduceLeDiff, Nat.reduceSub, Nat.reduceMul, reduceCtorEq, wu, n1]
    refine call_intro (nt := 78) rfl (by simp only [List.length_cons, List.length_nil]; omega) ?_
    by_cases c1 : r < 55296
    · simp (maxSteps := 200000) -implicitDefEqProofs only [KA, KB, KC, KD, KE, KF, eq_self, ne_eq, ↓reduceIte, Nat.reduceLT, Nat.reduceEqDiff, Nat.reduceAdd, Nat.reduceLeDiff, Nat.reduceSub, Nat.reduceMul, reduceCtorEq, wu, n2, c1, shr6, shr12, f6, f12, wb, o3, w8, v8, o0, o1, f1]
      refine hP _ _ ?_ f3 f4
      rw [he, List.map_append, List.map_cons, List.map_cons, List.map_singleton, encB_of (by omega) (by omega), encB_of (by omega) (by omega), encB_of (by omega) (by omega)]
      exact f2
    · have c2 : (57343 : Int) < r := by omega
      simp (maxSteps := 200000) -implicitDefEqProofs only [KA, KB, KC, KD, KE, KF, eq_self, ne_eq, ↓reduceIte, Nat.reduceLT, Nat.reduceEqDiff, Nat.reduceAdd, Nat.reduceLeDiff, Nat.reduceSub, Nat.reduceMul, reduceCtorEq, wu, n2, c1, c2, h2, shr6, shr12, f6, f12, wb, o3, w8, v8, o0, o1, f1]
      refine hP _ _ ?_ f3 f4
      rw [he, List.map_append, List.map_cons, List.map_cons, List.map_singleton, encB_of (by omega) (by omega), encB_of (by omega) (by omega), encB_of (by omega) (by omega)]
      exact f2
  · have n1 : ¬ r ≤ 127 := by omega
    have n2 : ¬ r ≤ 2047 := by omega
    have n3 : ¬ r < 55296 := by omega
    have n4 : (57343 : Int) < r := by omega
    have n5 : ¬ r ≤ 65535 := by omega
    have n6 : (65535 : Int) < r := by omega
    have n7 : r ≤ 1114111 := by omega
    have wb : IntKind.wrap .u8 (r / 262144) = r / 262144 := wrap_u8 (by omega)
    have o3 := or240 (x := r / 262144) (by omega) (by omega)
    obtain ⟨u, h3, f1, f2, f3, f4⟩ := ho.app (lc := [[.int .u8 (240 + r / 262144), .int .u8 (128 + r / 4096 % 64), .int .u8 (128 + r / 64 % 64), .int .u8 (128 + r % 64)]]) (x := .lsl 0 4) (xs := [[.int .u8 (240 + r / 262144)], [.int .u8 (128 + r / 4096 % 64)], [.int .u8 (128 + r / 64 % 64)], [.int .u8 (128 + r % 64)]]) rfl (by simp) (bytes := 1) (by rw [List.length_map]; simp only [room, List.length_cons, List.length_nil]; omega)
    simp (maxSteps := 200000) -implicitDefEqProofs only [KA, KB, KC, KD, KE, KF, eq_self, ne_eq, ↓reduceIte, Nat.reduceLT, Nat.reduceEqDiff, Nat.reduceAdd, Nat.reduceLeDiff, Nat.reduceSub, Nat.reduceMul, reduceCtorEq, wu, n1]
    refine call_intro (nt := 78) rfl (by simp only [List.length_cons, List.length_nil]; omega) ?_
    simp (maxSteps := 200000) -implicitDefEqProofs only [KA, KB, KC, KD, KE, KF, eq_self, ne_eq, ↓reduceIte, Nat.reduceLT, Nat.reduceEqDiff, Nat.reduceAdd, Nat.reduceLeDiff, Nat.reduceSub, Nat.reduceMul, reduceCtorEq, wu, n2, n3, n4, n5, n6, n7, shr6, shr12, shr18, f6, f12, f18, wb, o3, w8, v8, x8, o0, o1, o2, f1]
    refine hP _ _ ?_ f3 f4
    rw [he, List.map_append, List.map_cons, List.map_cons, List.map_cons, List.map_singleton, encB_of (by omega) (by omega), encB_of (by omega) (by omega), encB_of (by omega) (by omega), encB_of (by omega) (by omega)]
    exact f2
end
end Camp
