/- The law FnExactBeatsOk is true: for every two laws (rows of four whole numbers and a truth) the program's BeatsOk returns what the reference's returns. Conditions: none. -/
import Derived.Test.YthlaohiomepobaaQFnExactBeatsOkx2
namespace Go.Proofs.Ythlaohiomepobaa.Pure
open Go.RowKit Go.Proofs.Ythlaohiomepobaa.QFnExactBeatsOk Go.Proofs.YthlaohiomepobaaW.PrintWords Go.Proofs.YthlaohiomepobaaW.PrintLast
set_option linter.unusedVariables false
set_option linter.unusedSimpArgs false

/-- What a law's row must say to be one. -/
def LawB (a b c d : Int) : Bool := decide (0 ≤ a ∧ a < 3 ∧ 0 ≤ b ∧ b < 8 ∧ 1 ≤ c ∧ c ≤ 3 ∧ 0 ≤ d ∧ d ≤ 99)
theorem impl_isLaw_eq (a b c d : Int) (y : Bool) : impl_isLaw.f a b c d y = some (LawB a b c d) := by
  unfold impl_isLaw.f impl_isCase.f LawB
  by_cases h1 : a ≥ 0
  · by_cases h2 : a < 3
    · by_cases h3 : b ≥ 0
      · by_cases h4 : b < 8
        · by_cases h5 : c ≥ 1
          · by_cases h6 : c ≤ 3
            · by_cases h7 : d ≥ 0
              · by_cases h8 : d ≤ 99 <;> simp [h1, h2, h3, h4, h5, h6, h7, h8] <;> omega
              · simp [h1, h2, h3, h4, h5, h6, h7] <;> omega
            · simp [h1, h2, h3, h4, h5, h6] <;> omega
          · simp [h1, h2, h3, h4, h5] <;> omega
        · simp [h1, h2, h3, h4]
      · simp [h1, h2, h3] <;> omega
    · simp [h1, h2]
  · simp [h1] <;> omega
theorem l1In_eq (a b c : Int) : spec_l1In.f a b c = some (decide (b ≤ a ∧ a ≤ c)) := by
  unfold spec_l1In.f
  by_cases h : b ≤ a
  · simp [h]
  · simp [h]
theorem spec_LawOk_eq (a b c d : Int) (y : Bool) : spec_LawOk.f a b c d y = some (LawB a b c d) := by
  unfold spec_LawOk.f LawB
  simp only [l1In_eq, Option.bind_some]
  by_cases h1 : 0 ≤ a ∧ a ≤ 2
  · by_cases h2 : 0 ≤ b ∧ b ≤ 7
    · by_cases h3 : 1 ≤ c ∧ c ≤ 3
      · by_cases h4 : 0 ≤ d ∧ d ≤ 99 <;> simp [h1, h2, h3, h4] <;> omega
      · simp [h1, h2, h3] <;> omega
    · simp [h1, h2] <;> omega
  · simp [h1] <;> omega

/-- How many of the first six bits are 1. -/
def Hd (a : Int) : Int := a % 2 + a / 2 % 2 + a / 4 % 2 + a / 8 % 2 + a / 16 % 2 + a / 32 % 2
theorem spec_heads_all : ∀ n : Fin 64, spec_l1Heads.f 8 (n.val : Int) = some (Hd (n.val : Int)) := by decide +kernel
theorem impl_heads_all : ∀ n : Fin 64, impl_headsOf.f (n.val : Int) = some (Hd (n.val : Int)) := by decide +kernel
theorem spec_heads {a : Int} (h0 : 0 ≤ a) (h1 : a < 64) {k : Nat} (hk : 8 ≤ k) : spec_l1Heads.f k a = some (Hd a) := by
  obtain ⟨n, rfl⟩ := Int.eq_ofNat_of_zero_le h0
  exact at_rounds (fun k => spec_l1Heads.mono _ k) hk (spec_heads_all ⟨n, by omega⟩)
theorem impl_heads {a : Int} (h0 : 0 ≤ a) (h1 : a < 64) : impl_headsOf.f a = some (Hd a) := by
  obtain ⟨n, rfl⟩ := Int.eq_ofNat_of_zero_le h0
  exact impl_heads_all ⟨n, by omega⟩

/-- Whether a law of features b, rank c, day d beats one of b', c', d'. -/
def BtB (b c d b' c' d' : Int) : Bool := if c = c' then (if Hd b = Hd b' then decide (d > d') else decide (Hd b > Hd b')) else decide (c > c')
theorem cmp_eq (a b : Int) : cmp_Compare_int.f a b = some (if a < b then -1 else if a > b then 1 else 0) := by
  unfold cmp_Compare_int.f cmp_isNaN_int.f
  simp only [Option.bind_some]
  by_cases h : a < b
  · simp [h]
  · by_cases h2 : a > b
    · simp [h, h2]
    · simp [h, h2]
theorem or3_eq (x y z : Int) {k : Nat} (hk : 4 ≤ k) : cmp_Or_int.f k [x, y, z] = some (if x = 0 then (if y = 0 then z else y) else x) := by
  obtain ⟨k, rfl⟩ : ∃ m, k = m + 4 := ⟨k - 4, by omega⟩
  have e0 : rd [x, y, z] 0 = x := rfl
  have e1 : rd [x, y, z] 1 = y := rfl
  have e2 : rd [x, y, z] 2 = z := rfl
  have w0 : wrap64 (0 + 1) = 1 := by unfold wrap64; omega
  have w1 : wrap64 (1 + 1) = 2 := by unfold wrap64; omega
  have w2 : wrap64 (2 + 1) = 3 := by unfold wrap64; omega
  unfold cmp_Or_int.f
  simp only [cmp_Or_int.l0, List.length_cons, List.length_nil, e0, e1, e2, w0, w1, w2]
  by_cases hx : x = 0
  · by_cases hy : y = 0
    · by_cases hz : z = 0
      · simp [hx, hy, hz]
      · simp [hx, hy, hz]
    · simp [hx, hy]
  · simp [hx]
theorem impl_beats_eq (a b c d : Int) (y : Bool) (a' b' c' d' : Int) (y' : Bool) {k : Nat} (hk : 4 ≤ k) (h0 : 0 ≤ b) (h1 : b < 64) (h0' : 0 ≤ b') (h1' : b' < 64) :
    impl_beats.f k a b c d y a' b' c' d' y' = some (BtB b c d b' c' d') := by
  unfold impl_beats.f BtB
  simp only [cmp_eq, impl_heads h0 h1, impl_heads h0' h1', Option.bind_some, or3_eq _ _ _ hk]
  generalize Hd b = p
  generalize Hd b' = q
  by_cases hc : c = c'
  · subst hc
    by_cases hp : p = q
    · subst hp
      by_cases hd : d < d'
      · simp [hd]; omega
      · by_cases hd2 : d > d'
        · simp [hd, hd2]
        · simp [hd, hd2]
    · by_cases hd : p < q
      · simp [hp, hd]; omega
      · have : p > q := by omega
        simp [hp, hd, this]
  · by_cases hd : c < c'
    · simp [hc, hd]; omega
    · have : c > c' := by omega
      simp [hc, hd, this]
theorem LawB_of {a b c d : Int} (h : LawB a b c d = true) : 0 ≤ a ∧ a < 3 ∧ 0 ≤ b ∧ b < 8 ∧ 1 ≤ c ∧ c ≤ 3 ∧ 0 ≤ d ∧ d ≤ 99 := by
  unfold LawB at h
  exact of_decide_eq_true h
theorem impl_BeatsOk_eq (a b c d : Int) (y : Bool) (a' b' c' d' : Int) (y' : Bool) {k : Nat} (hk : 4 ≤ k) :
    impl_BeatsOk.f k a b c d y a' b' c' d' y' = some (LawB a b c d && LawB a' b' c' d' && BtB b c d b' c' d') := by
  unfold impl_BeatsOk.f
  simp only [impl_isLaw_eq, Option.bind_some]
  cases h : LawB a b c d with
  | false => simp
  | true =>
    cases h' : LawB a' b' c' d' with
    | false => simp
    | true =>
      have g := LawB_of h
      have g' := LawB_of h'
      simp [impl_beats_eq a b c d y a' b' c' d' y' hk (by omega) (by omega) (by omega) (by omega)]
theorem spec_BeatsOk_eq (a b c d : Int) (y : Bool) (a' b' c' d' : Int) (y' : Bool) {k : Nat} (hk : 9 ≤ k) :
    spec_BeatsOk.f k a b c d y a' b' c' d' y' = some (LawB a b c d && LawB a' b' c' d' && BtB b c d b' c' d') := by
  obtain ⟨k, rfl⟩ : ∃ m, k = m + 1 := ⟨k - 1, by omega⟩
  unfold spec_BeatsOk.f
  simp only [spec_LawOk_eq, Option.bind_some, spec_BeatsOk.j0]
  cases h : LawB a b c d with
  | false => simp
  | true =>
    cases h' : LawB a' b' c' d' with
    | false => simp
    | true =>
      have g := LawB_of h
      have g' := LawB_of h'
      simp only [spec_heads (show 0 ≤ b by omega) (show b < 64 by omega) (show 8 ≤ k by omega), spec_heads (show 0 ≤ b' by omega) (show b' < 64 by omega) (show 8 ≤ k by omega), Option.bind_some, BtB]
      by_cases hc : c = c'
      · by_cases hp : Hd b = Hd b' <;> simp [hc, hp]
      · simp [hc]

theorem FnExactBeatsOk : laws_FnExactBeatsOk.Pure := by
  intro a b c d y a' b' c' d' y' _ _ _ _ _ _ _ _
  refine ⟨9, ?_⟩
  unfold laws_FnExactBeatsOk.f laws_toLaw.f
  simp only [Option.bind_some, impl_BeatsOk_eq _ _ _ _ _ _ _ _ _ _ (show 4 ≤ 9 by decide), spec_BeatsOk_eq _ _ _ _ _ _ _ _ _ _ (show 9 ≤ 9 by decide)]
  simp

end Go.Proofs.Ythlaohiomepobaa.Pure
