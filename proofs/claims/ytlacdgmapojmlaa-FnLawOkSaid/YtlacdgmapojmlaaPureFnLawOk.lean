/- The law FnLawOk is true: for every code the program's LawOk and the reference's answer alike at the drawn law, and what the law says does not matter. Conditions: none. -/
import Derived.Test.YtlacdgmapojmlaaQFnLawOkx2
namespace Go.Proofs.Ytlacdgmapojmlaa.Pure
open Go.RowKit Go.Proofs.Ytlacdgmapojmlaa.QFnLawOk Go.Proofs.YtlacdgmapojmlaaW.PrintWords Go.Proofs.YtlacdgmapojmlaaW.PrintLast
set_option linter.unusedVariables false
set_option linter.unusedSimpArgs false

theorem w64 {x : Int} (h0 : -9223372036854775808 ≤ x) (h1 : x ≤ 9223372036854775807) : wrap64 x = x := by unfold wrap64; omega

theorem xor_nn {a b : Int} (ha : 0 ≤ a) (ha1 : a < 9223372036854775808) (hb : 0 ≤ b) (hb1 : b < 9223372036854775808) : 0 ≤ Go.bits .xor .i64 a b := by
  obtain ⟨m, rfl⟩ := Int.eq_ofNat_of_zero_le ha
  obtain ⟨n, rfl⟩ := Int.eq_ofNat_of_zero_le hb
  have hm : m < 2 ^ 63 := by omega
  have hn : n < 2 ^ 63 := by omega
  have hx := Nat.xor_lt_two_pow hm hn
  simp only [Go.bits, BitVec.ofInt_natCast, BitVec.toNat_xor, BitVec.toNat_ofNat]
  have e1 : m % 2 ^ IntKind.i64.bits = m := Nat.mod_eq_of_lt (by simp only [IntKind.bits]; omega)
  have e2 : n % 2 ^ IntKind.i64.bits = n := Nat.mod_eq_of_lt (by simp only [IntKind.bits]; omega)
  rw [e1, e2, IntKind.wrap_i64]
  omega

theorem rd_range {s : List Int} (hs : ∀ x ∈ s, (Lit.int .u8 x).wf = true) (i : Int) : 0 ≤ rd s i ∧ rd s i ≤ 255 := by
  unfold rd
  by_cases h : i.toNat < s.length
  · have := hs _ (List.getElem_mem h)
    rw [List.getD_eq_getElem?_getD, List.getElem?_eq_getElem h]
    simp [Lit.wf, IntKind.min, IntKind.max, IntKind.bits, IntKind.signed] at this
    simp
    omega
  · rw [List.getD_eq_getElem?_getD, List.getElem?_eq_none (by omega)]
    simp
theorem tmod_range {a n : Int} (ha : 0 ≤ a) (hn : 0 < n) : 0 ≤ Int.tmod a n ∧ Int.tmod a n < n := by
  rw [Int.tmod_eq_emod_of_nonneg ha]
  exact ⟨Int.emod_nonneg _ (by omega), Int.emod_lt_of_pos _ hn⟩
theorem tdiv_range {a n : Int} (ha : 0 ≤ a) (hn : 0 < n) : 0 ≤ Int.tdiv a n ∧ Int.tdiv a n ≤ a := by
  rw [Int.tdiv_eq_ediv_of_nonneg ha]
  exact ⟨Int.ediv_nonneg ha (by omega), Int.ediv_le_self _ ha⟩

theorem pick_some {s : List Int} (hs : ∀ x ∈ s, (Lit.int .u8 x).wf = true) (hl : s.length ≤ 2000) (p n : Int) (hp0 : 0 ≤ p) (hp : p ≤ 1000000) (k : Nat) (hk : 0 < k) :
    ∃ r, spec_l20Rd_pick.f k s p n = some (r, p + 1) ∧ 0 ≤ r ∧ (0 < n → r < n) ∧ (n ≤ 0 → r = 0) := by
  obtain ⟨k, rfl⟩ : ∃ m, k = m + 1 := ⟨k - 1, by omega⟩
  have e1 : wrap64 (p + 1) = p + 1 := w64 (by omega) (by omega)
  have e2 : wrap64 (p + 1 - 1) = p := by rw [Int.add_sub_cancel]; exact w64 (by omega) (by omega)
  unfold spec_l20Rd_pick.f
  by_cases hn : n < 1
  · rw [if_pos hn]
    refine ⟨0, ?_, Int.le_refl 0, fun h => by omega, fun _ => rfl⟩
    simp only [spec_l20Rd_pick.j0, e1, if_true]
  rw [if_neg hn]
  by_cases h0 : s.length = 0
  · have : ((s.length : Int) == 0) = true := by rw [h0]; rfl
    refine ⟨0, ?_, Int.le_refl 0, fun h => h, fun _ => rfl⟩
    rw [this]
    simp only [spec_l20Rd_pick.j0, e1, if_true]
  have hb : ((s.length : Int) == 0) = false := by simp; intro h; rw [h] at h0; exact h0 rfl
  rw [hb]
  simp only [spec_l20Rd_pick.j0, e1, e2]
  rw [if_neg (by decide)]
  have hn0 : ¬ n = 0 := by omega
  by_cases hlt : p < (s.length : Int)
  · rw [if_pos hlt, if_pos hp0, if_neg hn0]
    have hr := rd_range hs p
    have e3 : wrap64 (rd s p) = rd s p := w64 (by omega) (by omega)
    rw [e3]
    have := tmod_range hr.1 (show 0 < n by omega)
    exact ⟨_, rfl, this.1, fun _ => this.2, fun h => by omega⟩
  rw [if_neg hlt, if_neg (show ¬ (s.length : Int) = 0 by omega)]
  have hL : 0 < (s.length : Int) := by omega
  have t1 := tmod_range hp0 hL
  have f1 : wrap64 (p * 7) = p * 7 := w64 (by omega) (by omega)
  have f2 : wrap64 (p * 7 + 3) = p * 7 + 3 := w64 (by omega) (by omega)
  have t2 := tmod_range (show 0 ≤ p * 7 + 3 by omega) hL
  rw [f1, f2]
  rw [if_pos t1.1, if_pos t1.2, if_pos t2.1, if_pos t2.2, if_neg hn0]
  have r1 := rd_range hs (Int.tmod p s.length)
  have r2 := rd_range hs (Int.tmod (p * 7 + 3) s.length)
  generalize rd s (Int.tmod p s.length) = x at r1 ⊢
  generalize rd s (Int.tmod (p * 7 + 3) s.length) = y at r2 ⊢
  have d1 := tdiv_range hp0 hL
  generalize Int.tdiv p s.length = q at d1 ⊢
  rw [show wrap64 x = x from w64 (by omega) (by omega), show wrap64 y = y from w64 (by omega) (by omega)]
  rw [show wrap64 (x * 131) = x * 131 from w64 (by omega) (by omega), show wrap64 (y * 1117) = y * 1117 from w64 (by omega) (by omega), show wrap64 (p * 29) = p * 29 from w64 (by omega) (by omega), show wrap64 q = q from w64 (by omega) (by omega)]
  rw [show wrap64 (q * 53) = q * 53 from w64 (by omega) (by omega), show wrap64 (x * 131 + y * 1117) = x * 131 + y * 1117 from w64 (by omega) (by omega)]
  rw [show wrap64 (x * 131 + y * 1117 + p * 29) = x * 131 + y * 1117 + p * 29 from w64 (by omega) (by omega)]
  rw [show wrap64 (x * 131 + y * 1117 + p * 29 + q * 53) = x * 131 + y * 1117 + p * 29 + q * 53 from w64 (by omega) (by omega)]
  have hz : 0 ≤ x * 131 + y * 1117 + p * 29 + q * 53 ∧ x * 131 + y * 1117 + p * 29 + q * 53 < 1000000000 := by omega
  generalize x * 131 + y * 1117 + p * 29 + q * 53 = z at hz ⊢
  have d2 := tdiv_range hz.1 (show (0 : Int) < 64 by decide)
  rw [show wrap64 (Int.tdiv z 64) = Int.tdiv z 64 from w64 (by omega) (by omega)]
  have hx := xor_nn hz.1 (by omega) d2.1 (by omega)
  have := tmod_range hx (show 0 < n by omega)
  exact ⟨_, rfl, this.1, fun _ => this.2, fun h => by omega⟩

theorem odd_some {s : List Int} (hs : ∀ x ∈ s, (Lit.int .u8 x).wf = true) (hl : s.length ≤ 2000) (p n : Int) (hp0 : 0 ≤ p) (hp : p ≤ 1000000) (k : Nat) (hk : 0 < k) :
    ∃ b q, spec_l20Rd_odd.f k s p n = some (b, q) ∧ p ≤ q ∧ q ≤ p + 1 ∧ (n ≤ 0 → b = false) := by
  unfold spec_l20Rd_odd.f
  by_cases h : n > 0
  · rw [if_pos h]
    obtain ⟨r, e, _⟩ := pick_some hs hl p n hp0 hp k hk
    rw [e]
    exact ⟨_, _, rfl, by show p ≤ p + 1; omega, Int.le_refl _, by omega⟩
  · rw [if_neg h]
    exact ⟨_, _, rfl, by omega, by omega, fun _ => rfl⟩

theorem open_some {l : List Int} (hs : ∀ x ∈ l, (Lit.int .u8 x).wf = true) : ∃ s, spec_l20Open.f l = some (s, 0) ∧ (∀ x ∈ s, (Lit.int .u8 x).wf = true) ∧ s.length ≤ 2000 := by
  unfold spec_l20Open.f
  by_cases h : (l.length : Int) > 2000
  · rw [if_pos h, if_pos (by omega)]
    exact ⟨_, rfl, fun x hx => hs x (List.mem_of_mem_take hx), by simp <;> omega⟩
  · rw [if_neg h]
    exact ⟨_, rfl, hs, by omega⟩

theorem law_some {s : List Int} (hs : ∀ x ∈ s, (Lit.int .u8 x).wf = true) (hl : s.length ≤ 2000) (p n : Int) (hp0 : 0 ≤ p) (hp : p ≤ 900000) (k : Nat) (hk : 0 < k) :
    ∃ a b c d y q, spec_l20Law.f k s p n = some (a, b, c, d, y, q) ∧ p ≤ q ∧ q ≤ p + 8 := by
  unfold spec_l20Law.f
  obtain ⟨r1, e1, _⟩ := pick_some hs hl p 3 hp0 (by omega) k hk
  obtain ⟨r2, e2, _⟩ := pick_some hs hl (p + 1) 8 (by omega) (by omega) k hk
  obtain ⟨r3, e3, _⟩ := pick_some hs hl (p + 1 + 1) 3 (by omega) (by omega) k hk
  obtain ⟨r4, e4, _⟩ := pick_some hs hl (p + 1 + 1 + 1) 4 (by omega) (by omega) k hk
  obtain ⟨r5, e5, _⟩ := pick_some hs hl (p + 1 + 1 + 1 + 1) 2 (by omega) (by omega) k hk
  obtain ⟨o, q, e6, hq1, hq2, _⟩ := odd_some hs hl (p + 1 + 1 + 1 + 1 + 1) n (by omega) (by omega) k hk
  obtain ⟨r7, e7, _⟩ := pick_some hs hl q 3 (by omega) (by omega) k hk
  obtain ⟨r8, e8, h8, h8', _⟩ := pick_some hs hl (q + 1) 2 (by omega) (by omega) k hk
  have h8 := h8' (by decide)
  simp only [e1, e2, e3, e4, e5, e6, Option.bind_some]
  cases o
  · exact ⟨_, _, _, _, _, _, rfl, by omega, by omega⟩
  · simp only [e7, Option.bind_some, if_true]
    by_cases h7 : r7 = 0
    · rw [if_pos h7]
      simp only [e8, Option.bind_some]
      rw [if_pos ‹0 ≤ r8›, if_pos (by simp <;> omega)]
      exact ⟨_, _, _, _, _, _, rfl, by omega, by omega⟩
    · rw [if_neg h7]
      by_cases h7 : r7 = 1
      · rw [if_pos h7]
        exact ⟨_, _, _, _, _, _, rfl, by omega, by omega⟩
      · rw [if_neg h7]
        exact ⟨_, _, _, _, _, _, rfl, by omega, by omega⟩

/-- What a law's row must say to be one. -/
def LawB (a b c d : Int) : Bool := decide (0 ≤ a ∧ a < 3 ∧ 0 ≤ b ∧ b < 8 ∧ 1 ≤ c ∧ c ≤ 3 ∧ 0 ≤ d ∧ d ≤ 99)
theorem impl_isLaw_eq (a b c d : Int) (y : Bool) : impl_isLaw.f a b c d y = some (LawB a b c d) := by
  unfold impl_isLaw.f impl_isCase.f LawB
  by_cases h1 : a ≥ 0
  · by_cases h2 : a < 3
    · by_cases h3 : b ≥ 0
      · by_cases h4 : b < 8
        · by_cases h5 : c ≥ 1
          · by_cases h6 : c ≤ 3
            · by_cases h7 : d ≥ 0
              · by_cases h8 : d ≤ 99 <;> simp [h1, h2, h3, h4, h5, h6, h7, h8] <;> omega
              · simp [h1, h2, h3, h4, h5, h6, h7] <;> omega
            · simp [h1, h2, h3, h4, h5, h6] <;> omega
          · simp [h1, h2, h3, h4, h5] <;> omega
        · simp [h1, h2, h3, h4]
      · simp [h1, h2, h3] <;> omega
    · simp [h1, h2]
  · simp [h1] <;> omega
theorem l1In_eq (a b c : Int) : spec_l1In.f a b c = some (decide (b ≤ a ∧ a ≤ c)) := by
  unfold spec_l1In.f
  by_cases h : b ≤ a
  · simp [h]
  · simp [h]
theorem spec_LawOk_eq (a b c d : Int) (y : Bool) : spec_LawOk.f a b c d y = some (LawB a b c d) := by
  unfold spec_LawOk.f LawB
  simp only [l1In_eq, Option.bind_some]
  by_cases h1 : 0 ≤ a ∧ a ≤ 2
  · by_cases h2 : 0 ≤ b ∧ b ≤ 7
    · by_cases h3 : 1 ≤ c ∧ c ≤ 3
      · by_cases h4 : 0 ≤ d ∧ d ≤ 99 <;> simp [h1, h2, h3, h4] <;> omega
      · simp [h1, h2, h3] <;> omega
    · simp [h1, h2] <;> omega
  · simp [h1] <;> omega

theorem impl_LawOk_eq (a b c d : Int) (y : Bool) : impl_LawOk.f a b c d y = some (LawB a b c d) := by
  unfold impl_LawOk.f
  rw [impl_isLaw_eq]; rfl

theorem FnLawOk : laws_FnLawOk.Pure := by
  intro l _ _ hs
  refine ⟨1, ?_⟩
  unfold laws_FnLawOk.f
  by_cases h : (l.length : Int) > 1048576
  · rw [if_pos h]
  rw [if_neg h]
  obtain ⟨s, e, hs', hl⟩ := open_some hs
  obtain ⟨a, b, c, d, y, q, e2, _⟩ := law_some hs' hl 0 2 (by decide) (by decide) 1 (by decide)
  have e3 : spec_DrawLawOk.f 1 l = some (a, b, c, d, y) := by
    unfold spec_DrawLawOk.f
    simp only [e, e2, Option.bind_some]
  simp only [e3, Option.bind_some, impl_LawOk_eq, spec_LawOk_eq]
  simp [LawB]

end Go.Proofs.Ytlacdgmapojmlaa.Pure
