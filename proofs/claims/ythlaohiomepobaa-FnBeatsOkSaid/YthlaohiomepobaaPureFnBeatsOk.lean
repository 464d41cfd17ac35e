/- The law FnBeatsOk is true: for every two codes the program's BeatsOk and the reference's answer alike at the drawn laws; no law beats itself, no two beat each other, and beating goes on over a third one. Conditions: none. -/
import Derived.Test.YthlaohiomepobaaQFnBeatsOkx5
namespace Go.Proofs.Ythlaohiomepobaa.Pure
open Go.RowKit Go.Proofs.Ythlaohiomepobaa.QFnBeatsOk Go.Proofs.YthlaohiomepobaaW.PrintWords Go.Proofs.YthlaohiomepobaaW.PrintLast
set_option linter.unusedVariables false
set_option linter.unusedSimpArgs false

theorem w64 {x : Int} (h0 : -9223372036854775808 ≤ x) (h1 : x ≤ 9223372036854775807) : wrap64 x = x := by unfold wrap64; omega

theorem xor_nn {a b : Int} (ha : 0 ≤ a) (ha1 : a < 9223372036854775808) (hb : 0 ≤ b) (hb1 : b < 9223372036854775808) : 0 ≤ Go.bits .xor .i64 a b := by
  obtain ⟨m, rfl⟩ := Int.eq_ofNat_of_zero_le ha
  obtain ⟨n, rfl⟩ := Int.eq_ofNat_of_zero_le hb
  have hm : m < 2 ^ 63 := by omega
  have hn : n < 2 ^ 63 := by omega
  have hx := Nat.xor_lt_two_pow hm hn
  simp only [Go.bits, BitVec.ofInt_natCast, BitVec.toNat_xor, BitVec.toNat_ofNat]
  have e1 : m % 2 ^ IntKind.i64.bits = m := Nat.mod_eq_of_lt (by simp only [IntKind.bits]; omega)
  have e2 : n % 2 ^ IntKind.i64.bits = n := Nat.mod_eq_of_lt (by simp only [IntKind.bits]; omega)
  rw [e1, e2, IntKind.wrap_i64]
  omega

theorem rd_range {s : List Int} (hs : ∀ x ∈ s, (Lit.int .u8 x).wf = true) (i : Int) : 0 ≤ rd s i ∧ rd s i ≤ 255 := by
  unfold rd
  by_cases h : i.toNat < s.length
  · have := hs _ (List.getElem_mem h)
    rw [List.getD_eq_getElem?_getD, List.getElem?_eq_getElem h]
    simp [Lit.wf, IntKind.min, IntKind.max, IntKind.bits, IntKind.signed] at this
    simp
    omega
  · rw [List.getD_eq_getElem?_getD, List.getElem?_eq_none (by omega)]
    simp
theorem tmod_range {a n : Int} (ha : 0 ≤ a) (hn : 0 < n) : 0 ≤ Int.tmod a n ∧ Int.tmod a n < n := by
  rw [Int.tmod_eq_emod_of_nonneg ha]
  exact ⟨Int.emod_nonneg _ (by omega), Int.emod_lt_of_pos _ hn⟩
theorem tdiv_range {a n : Int} (ha : 0 ≤ a) (hn : 0 < n) : 0 ≤ Int.tdiv a n ∧ Int.tdiv a n ≤ a := by
  rw [Int.tdiv_eq_ediv_of_nonneg ha]
  exact ⟨Int.ediv_nonneg ha (by omega), Int.ediv_le_self _ ha⟩

theorem pick_some {s : List Int} (hs : ∀ x ∈ s, (Lit.int .u8 x).wf = true) (hl : s.length ≤ 2000) (p n : Int) (hp0 : 0 ≤ p) (hp : p ≤ 1000000) (k : Nat) (hk : 0 < k) :
    ∃ r, spec_l20Rd_pick.f k s p n = some (r, p + 1) ∧ 0 ≤ r ∧ (0 < n → r < n) ∧ (n ≤ 0 → r = 0) := by
  obtain ⟨k, rfl⟩ : ∃ m, k = m + 1 := ⟨k - 1, by omega⟩
  have e1 : wrap64 (p + 1) = p + 1 := w64 (by omega) (by omega)
  have e2 : wrap64 (p + 1 - 1) = p := by rw [Int.add_sub_cancel]; exact w64 (by omega) (by omega)
  unfold spec_l20Rd_pick.f
  by_cases hn : n < 1
  · rw [if_pos hn]
    refine ⟨0, ?_, Int.le_refl 0, fun h => by omega, fun _ => rfl⟩
    simp only [spec_l20Rd_pick.j0, e1, if_true]
  rw [if_neg hn]
  by_cases h0 : s.length = 0
  · have : ((s.length : Int) == 0) = true := by rw [h0]; rfl
    refine ⟨0, ?_, Int.le_refl 0, fun h => h, fun _ => rfl⟩
    rw [this]
    simp only [spec_l20Rd_pick.j0, e1, if_true]
  have hb : ((s.length : Int) == 0) = false := by simp; intro h; rw [h] at h0; exact h0 rfl
  rw [hb]
  simp only [spec_l20Rd_pick.j0, e1, e2]
  rw [if_neg (by decide)]
  have hn0 : ¬ n = 0 := by omega
  by_cases hlt : p < (s.length : Int)
  · rw [if_pos hlt, if_pos hp0, if_neg hn0]
    have hr := rd_range hs p
    have e3 : wrap64 (rd s p) = rd s p := w64 (by omega) (by omega)
    rw [e3]
    have := tmod_range hr.1 (show 0 < n by omega)
    exact ⟨_, rfl, this.1, fun _ => this.2, fun h => by omega⟩
  rw [if_neg hlt, if_neg (show ¬ (s.length : Int) = 0 by omega)]
  have hL : 0 < (s.length : Int) := by omega
  have t1 := tmod_range hp0 hL
  have f1 : wrap64 (p * 7) = p * 7 := w64 (by omega) (by omega)
  have f2 : wrap64 (p * 7 + 3) = p * 7 + 3 := w64 (by omega) (by omega)
  have t2 := tmod_range (show 0 ≤ p * 7 + 3 by omega) hL
  rw [f1, f2]
  rw [if_pos t1.1, if_pos t1.2, if_pos t2.1, if_pos t2.2, if_neg hn0]
  have r1 := rd_range hs (Int.tmod p s.length)
  have r2 := rd_range hs (Int.tmod (p * 7 + 3) s.length)
  generalize rd s (Int.tmod p s.length) = x at r1 ⊢
  generalize rd s (Int.tmod (p * 7 + 3) s.length) = y at r2 ⊢
  have d1 := tdiv_range hp0 hL
  generalize Int.tdiv p s.length = q at d1 ⊢
  rw [show wrap64 x = x from w64 (by omega) (by omega), show wrap64 y = y from w64 (by omega) (by omega)]
  rw [show wrap64 (x * 131) = x * 131 from w64 (by omega) (by omega), show wrap64 (y * 1117) = y * 1117 from w64 (by omega) (by omega), show wrap64 (p * 29) = p * 29 from w64 (by omega) (by omega), show wrap64 q = q from w64 (by omega) (by omega)]
  rw [show wrap64 (q * 53) = q * 53 from w64 (by omega) (by omega), show wrap64 (x * 131 + y * 1117) = x * 131 + y * 1117 from w64 (by omega) (by omega)]
  rw [show wrap64 (x * 131 + y * 1117 + p * 29) = x * 131 + y * 1117 + p * 29 from w64 (by omega) (by omega)]
  rw [show wrap64 (x * 131 + y * 1117 + p * 29 + q * 53) = x * 131 + y * 1117 + p * 29 + q * 53 from w64 (by omega) (by omega)]
  have hz : 0 ≤ x * 131 + y * 1117 + p * 29 + q * 53 ∧ x * 131 + y * 1117 + p * 29 + q * 53 < 1000000000 := by omega
  generalize x * 131 + y * 1117 + p * 29 + q * 53 = z at hz ⊢
  have d2 := tdiv_range hz.1 (show (0 : Int) < 64 by decide)
  rw [show wrap64 (Int.tdiv z 64) = Int.tdiv z 64 from w64 (by omega) (by omega)]
  have hx := xor_nn hz.1 (by omega) d2.1 (by omega)
  have := tmod_range hx (show 0 < n by omega)
  exact ⟨_, rfl, this.1, fun _ => this.2, fun h => by omega⟩

theorem odd_some {s : List Int} (hs : ∀ x ∈ s, (Lit.int .u8 x).wf = true) (hl : s.length ≤ 2000) (p n : Int) (hp0 : 0 ≤ p) (hp : p ≤ 1000000) (k : Nat) (hk : 0 < k) :
    ∃ b q, spec_l20Rd_odd.f k s p n = some (b, q) ∧ p ≤ q ∧ q ≤ p + 1 ∧ (n ≤ 0 → b = false) := by
  unfold spec_l20Rd_odd.f
  by_cases h : n > 0
  · rw [if_pos h]
    obtain ⟨r, e, _⟩ := pick_some hs hl p n hp0 hp k hk
    rw [e]
    exact ⟨_, _, rfl, by show p ≤ p + 1; omega, Int.le_refl _, by omega⟩
  · rw [if_neg h]
    exact ⟨_, _, rfl, by omega, by omega, fun _ => rfl⟩

theorem open_some {l : List Int} (hs : ∀ x ∈ l, (Lit.int .u8 x).wf = true) : ∃ s, spec_l20Open.f l = some (s, 0) ∧ (∀ x ∈ s, (Lit.int .u8 x).wf = true) ∧ s.length ≤ 2000 := by
  unfold spec_l20Open.f
  by_cases h : (l.length : Int) > 2000
  · rw [if_pos h, if_pos (by omega)]
    exact ⟨_, rfl, fun x hx => hs x (List.mem_of_mem_take hx), by simp; omega⟩
  · rw [if_neg h]
    exact ⟨_, rfl, hs, by omega⟩

theorem law_some {s : List Int} (hs : ∀ x ∈ s, (Lit.int .u8 x).wf = true) (hl : s.length ≤ 2000) (p n : Int) (hp0 : 0 ≤ p) (hp : p ≤ 900000) (k : Nat) (hk : 0 < k) :
    ∃ a b c d y q, spec_l20Law.f k s p n = some (a, b, c, d, y, q) ∧ p ≤ q ∧ q ≤ p + 8 := by
  unfold spec_l20Law.f
  obtain ⟨r1, e1, _⟩ := pick_some hs hl p 3 hp0 (by omega) k hk
  obtain ⟨r2, e2, _⟩ := pick_some hs hl (p + 1) 8 (by omega) (by omega) k hk
  obtain ⟨r3, e3, _⟩ := pick_some hs hl (p + 1 + 1) 3 (by omega) (by omega) k hk
  obtain ⟨r4, e4, _⟩ := pick_some hs hl (p + 1 + 1 + 1) 4 (by omega) (by omega) k hk
  obtain ⟨r5, e5, _⟩ := pick_some hs hl (p + 1 + 1 + 1 + 1) 2 (by omega) (by omega) k hk
  obtain ⟨o, q, e6, hq1, hq2, _⟩ := odd_some hs hl (p + 1 + 1 + 1 + 1 + 1) n (by omega) (by omega) k hk
  obtain ⟨r7, e7, _⟩ := pick_some hs hl q 3 (by omega) (by omega) k hk
  obtain ⟨r8, e8, h8, h8', _⟩ := pick_some hs hl (q + 1) 2 (by omega) (by omega) k hk
  have h8 := h8' (by decide)
  simp only [e1, e2, e3, e4, e5, e6, Option.bind_some]
  cases o
  · exact ⟨_, _, _, _, _, _, rfl, by omega, by omega⟩
  · simp only [e7, Option.bind_some, if_true]
    by_cases h7 : r7 = 0
    · rw [if_pos h7]
      simp only [e8, Option.bind_some]
      rw [if_pos ‹0 ≤ r8›, if_pos (by simp; omega)]
      exact ⟨_, _, _, _, _, _, rfl, by omega, by omega⟩
    · rw [if_neg h7]
      by_cases h7 : r7 = 1
      · rw [if_pos h7]
        exact ⟨_, _, _, _, _, _, rfl, by omega, by omega⟩
      · rw [if_neg h7]
        exact ⟨_, _, _, _, _, _, rfl, by omega, by omega⟩

/-- A number that fits is not wrapped. -/
theorem wz {x : Int} (h0 : -9223372036854775808 ≤ x) (h1 : x ≤ 9223372036854775807) : wrap64 x = x := by unfold wrap64; omega
theorem wsucc {i n : Nat} (h : i < n) (hn : n ≤ 9223372036854775807) : wrap64 ((i : Int) + 1) = ((i + 1 : Nat) : Int) := by rw [wz (by omega) (by omega)]; omega
/-- What stands from place i on is empty, or begins with element i. -/
theorem dnil {α : Type} {xs : List α} {i : Nat} (h : xs.drop i = []) : ¬ ((i : Int) < (xs.length : Int)) := by
  have := List.drop_eq_nil_iff.1 h
  omega
theorem dcons {α : Type} {xs : List α} {i : Nat} {y : α} {ys : List α} (h : xs.drop i = y :: ys) : i < xs.length ∧ (∀ d, xs.getD i d = y) ∧ xs.drop (i + 1) = ys := by
  have hl : i < xs.length := by
    rcases Nat.lt_or_ge i xs.length with h1 | h1
    · exact h1
    · rw [List.drop_eq_nil_iff.2 h1] at h
      cases h
  have e := List.drop_eq_getElem_cons hl
  rw [h] at e
  injection e with e1 e2
  exact ⟨hl, fun d => by rw [List.getD_eq_getElem?_getD, List.getElem?_eq_getElem hl]; exact e1.symm, e2.symm⟩
theorem rdn (xs : List Int) (i : Nat) : rd xs (i : Int) = xs.getD i 0 := by simp [rd]
theorem set_mid {α β : Type} (l : List α) (c : α → β) (z : β) {i : Nat} {y : α} {ys : List α} (h : l.drop i = y :: ys) :
    ((l.take i).map c ++ List.replicate (l.length - i) z).set i (c y) = (l.take (i + 1)).map c ++ List.replicate (l.length - (i + 1)) z := by
  obtain ⟨h1, h2, h3⟩ := dcons h
  have ht : l.take (i + 1) = l.take i ++ [y] := by
    rw [List.take_succ_eq_append_getElem h1]
    have := h2 y
    rw [List.getD_eq_getElem?_getD, List.getElem?_eq_getElem h1] at this
    rw [show l[i] = y from by simpa using this]
  obtain ⟨m, hm⟩ : ∃ m, l.length - i = m + 1 := ⟨l.length - i - 1, by omega⟩
  have hm2 : l.length - (i + 1) = m := by omega
  have hlen : ((l.take i).map c).length = i := by simp; omega
  rw [hm, hm2, ht, List.replicate_succ, List.map_append, List.set_append_right _ _ (by omega), hlen, Nat.sub_self]
  simp
theorem Ev.to {α : Type} {g : Nat → Option α} {r s : α} (h : Ev g r) (e : r = s) : Ev g s := e ▸ h

theorem pick_ev {s : List Int} (hs : ∀ x ∈ s, (Lit.int .u8 x).wf = true) (hl : s.length ≤ 2000) (p n : Int) (hp0 : 0 ≤ p) (hp : p ≤ 1000000) :
    ∃ r, Ev (fun k => spec_l20Rd_pick.f k s p n) (r, p + 1) ∧ 0 ≤ r ∧ (0 < n → r < n) ∧ (n ≤ 0 → r = 0) := by
  obtain ⟨r, h, h1⟩ := pick_some hs hl p n hp0 hp 1 (by decide)
  exact ⟨r, Ev.of (fun k => spec_l20Rd_pick.mono _ _ _ k) h, h1⟩
theorem odd_ev {s : List Int} (hs : ∀ x ∈ s, (Lit.int .u8 x).wf = true) (hl : s.length ≤ 2000) (p n : Int) (hp0 : 0 ≤ p) (hp : p ≤ 1000000) :
    ∃ b q, Ev (fun k => spec_l20Rd_odd.f k s p n) (b, q) ∧ p ≤ q ∧ q ≤ p + 1 ∧ (n ≤ 0 → b = false) := by
  obtain ⟨b, q, h, h1⟩ := odd_some hs hl p n hp0 hp 1 (by decide)
  exact ⟨b, q, Ev.of (fun k => spec_l20Rd_odd.mono _ _ _ k) h, h1⟩

theorem law_ev {s : List Int} (hs : ∀ x ∈ s, (Lit.int .u8 x).wf = true) (hl : s.length ≤ 2000) (p n : Int) (hp0 : 0 ≤ p) (hp : p ≤ 900000) :
    ∃ a b c d y q, Ev (fun k => spec_l20Law.f k s p n) (a, b, c, d, y, q) ∧ p ≤ q ∧ q ≤ p + 8 := by
  obtain ⟨a, b, c, d, y, q, h, h1⟩ := law_some hs hl p n hp0 hp 1 (by decide)
  exact ⟨a, b, c, d, y, q, Ev.of (fun k => spec_l20Law.mono _ _ _ k) h, h1⟩

/-- What a law's row must say to be one. -/
def LawB (a b c d : Int) : Bool := decide (0 ≤ a ∧ a < 3 ∧ 0 ≤ b ∧ b < 8 ∧ 1 ≤ c ∧ c ≤ 3 ∧ 0 ≤ d ∧ d ≤ 99)
theorem impl_isLaw_eq (a b c d : Int) (y : Bool) : impl_isLaw.f a b c d y = some (LawB a b c d) := by
  unfold impl_isLaw.f impl_isCase.f LawB
  by_cases h1 : a ≥ 0
  · by_cases h2 : a < 3
    · by_cases h3 : b ≥ 0
      · by_cases h4 : b < 8
        · by_cases h5 : c ≥ 1
          · by_cases h6 : c ≤ 3
            · by_cases h7 : d ≥ 0
              · by_cases h8 : d ≤ 99 <;> simp [h1, h2, h3, h4, h5, h6, h7, h8] <;> omega
              · simp [h1, h2, h3, h4, h5, h6, h7] <;> omega
            · simp [h1, h2, h3, h4, h5, h6] <;> omega
          · simp [h1, h2, h3, h4, h5] <;> omega
        · simp [h1, h2, h3, h4]
      · simp [h1, h2, h3] <;> omega
    · simp [h1, h2]
  · simp [h1] <;> omega
theorem l1In_eq (a b c : Int) : spec_l1In.f a b c = some (decide (b ≤ a ∧ a ≤ c)) := by
  unfold spec_l1In.f
  by_cases h : b ≤ a
  · simp [h]
  · simp [h]
theorem spec_LawOk_eq (a b c d : Int) (y : Bool) : spec_LawOk.f a b c d y = some (LawB a b c d) := by
  unfold spec_LawOk.f LawB
  simp only [l1In_eq, Option.bind_some]
  by_cases h1 : 0 ≤ a ∧ a ≤ 2
  · by_cases h2 : 0 ≤ b ∧ b ≤ 7
    · by_cases h3 : 1 ≤ c ∧ c ≤ 3
      · by_cases h4 : 0 ≤ d ∧ d ≤ 99 <;> simp [h1, h2, h3, h4] <;> omega
      · simp [h1, h2, h3] <;> omega
    · simp [h1, h2] <;> omega
  · simp [h1] <;> omega

/-- How many of the first six bits are 1. -/
def Hd (a : Int) : Int := a % 2 + a / 2 % 2 + a / 4 % 2 + a / 8 % 2 + a / 16 % 2 + a / 32 % 2
theorem spec_heads_all : ∀ n : Fin 64, spec_l1Heads.f 8 (n.val : Int) = some (Hd (n.val : Int)) := by decide +kernel
theorem impl_heads_all : ∀ n : Fin 64, impl_headsOf.f (n.val : Int) = some (Hd (n.val : Int)) := by decide +kernel
theorem spec_heads {a : Int} (h0 : 0 ≤ a) (h1 : a < 64) {k : Nat} (hk : 8 ≤ k) : spec_l1Heads.f k a = some (Hd a) := by
  obtain ⟨n, rfl⟩ := Int.eq_ofNat_of_zero_le h0
  exact at_rounds (fun k => spec_l1Heads.mono _ k) hk (spec_heads_all ⟨n, by omega⟩)
theorem impl_heads {a : Int} (h0 : 0 ≤ a) (h1 : a < 64) : impl_headsOf.f a = some (Hd a) := by
  obtain ⟨n, rfl⟩ := Int.eq_ofNat_of_zero_le h0
  exact impl_heads_all ⟨n, by omega⟩

/-- Whether a law of features b, rank c, day d beats one of b', c', d'. -/
def BtB (b c d b' c' d' : Int) : Bool := if c = c' then (if Hd b = Hd b' then decide (d > d') else decide (Hd b > Hd b')) else decide (c > c')
theorem cmp_eq (a b : Int) : cmp_Compare_int.f a b = some (if a < b then -1 else if a > b then 1 else 0) := by
  unfold cmp_Compare_int.f cmp_isNaN_int.f
  simp only [Option.bind_some]
  by_cases h : a < b
  · simp [h]
  · by_cases h2 : a > b
    · simp [h, h2]
    · simp [h, h2]
theorem or3_eq (x y z : Int) {k : Nat} (hk : 4 ≤ k) : cmp_Or_int.f k [x, y, z] = some (if x = 0 then (if y = 0 then z else y) else x) := by
  obtain ⟨k, rfl⟩ : ∃ m, k = m + 4 := ⟨k - 4, by omega⟩
  have e0 : rd [x, y, z] 0 = x := rfl
  have e1 : rd [x, y, z] 1 = y := rfl
  have e2 : rd [x, y, z] 2 = z := rfl
  have w0 : wrap64 (0 + 1) = 1 := by unfold wrap64; omega
  have w1 : wrap64 (1 + 1) = 2 := by unfold wrap64; omega
  have w2 : wrap64 (2 + 1) = 3 := by unfold wrap64; omega
  unfold cmp_Or_int.f
  simp only [cmp_Or_int.l0, List.length_cons, List.length_nil, e0, e1, e2, w0, w1, w2]
  by_cases hx : x = 0
  · by_cases hy : y = 0
    · by_cases hz : z = 0
      · simp [hx, hy, hz]
      · simp [hx, hy, hz]
    · simp [hx, hy]
  · simp [hx]
theorem impl_beats_eq (a b c d : Int) (y : Bool) (a' b' c' d' : Int) (y' : Bool) {k : Nat} (hk : 4 ≤ k) (h0 : 0 ≤ b) (h1 : b < 64) (h0' : 0 ≤ b') (h1' : b' < 64) :
    impl_beats.f k a b c d y a' b' c' d' y' = some (BtB b c d b' c' d') := by
  unfold impl_beats.f BtB
  simp only [cmp_eq, impl_heads h0 h1, impl_heads h0' h1', Option.bind_some, or3_eq _ _ _ hk]
  generalize Hd b = p
  generalize Hd b' = q
  by_cases hc : c = c'
  · subst hc
    by_cases hp : p = q
    · subst hp
      by_cases hd : d < d'
      · simp [hd]; omega
      · by_cases hd2 : d > d'
        · simp [hd, hd2]
        · simp [hd, hd2]
    · by_cases hd : p < q
      · simp [hp, hd]; omega
      · have : p > q := by omega
        simp [hp, hd, this]
  · by_cases hd : c < c'
    · simp [hc, hd]; omega
    · have : c > c' := by omega
      simp [hc, hd, this]
theorem LawB_of {a b c d : Int} (h : LawB a b c d = true) : 0 ≤ a ∧ a < 3 ∧ 0 ≤ b ∧ b < 8 ∧ 1 ≤ c ∧ c ≤ 3 ∧ 0 ≤ d ∧ d ≤ 99 := by
  unfold LawB at h
  exact of_decide_eq_true h
theorem impl_BeatsOk_eq (a b c d : Int) (y : Bool) (a' b' c' d' : Int) (y' : Bool) {k : Nat} (hk : 4 ≤ k) :
    impl_BeatsOk.f k a b c d y a' b' c' d' y' = some (LawB a b c d && LawB a' b' c' d' && BtB b c d b' c' d') := by
  unfold impl_BeatsOk.f
  simp only [impl_isLaw_eq, Option.bind_some]
  cases h : LawB a b c d with
  | false => simp
  | true =>
    cases h' : LawB a' b' c' d' with
    | false => simp
    | true =>
      have g := LawB_of h
      have g' := LawB_of h'
      simp [impl_beats_eq a b c d y a' b' c' d' y' hk (by omega) (by omega) (by omega) (by omega)]
theorem spec_BeatsOk_eq (a b c d : Int) (y : Bool) (a' b' c' d' : Int) (y' : Bool) {k : Nat} (hk : 9 ≤ k) :
    spec_BeatsOk.f k a b c d y a' b' c' d' y' = some (LawB a b c d && LawB a' b' c' d' && BtB b c d b' c' d') := by
  obtain ⟨k, rfl⟩ : ∃ m, k = m + 1 := ⟨k - 1, by omega⟩
  unfold spec_BeatsOk.f
  simp only [spec_LawOk_eq, Option.bind_some, spec_BeatsOk.j0]
  cases h : LawB a b c d with
  | false => simp
  | true =>
    cases h' : LawB a' b' c' d' with
    | false => simp
    | true =>
      have g := LawB_of h
      have g' := LawB_of h'
      simp only [spec_heads (show 0 ≤ b by omega) (show b < 64 by omega) (show 8 ≤ k by omega), spec_heads (show 0 ≤ b' by omega) (show b' < 64 by omega) (show 8 ≤ k by omega), Option.bind_some, BtB]
      by_cases hc : c = c'
      · by_cases hp : Hd b = Hd b' <;> simp [hc, hp]
      · simp [hc]

theorem alive_eq : laws_alive.f = some true := by decide +kernel

theorem BtB_irrefl (b c d : Int) : BtB b c d b c d = false := by simp [BtB]
theorem BtB_asymm {b c d b' c' d' : Int} (h : BtB b c d b' c' d' = true) : BtB b' c' d' b c d = false := by
  unfold BtB at h ⊢
  generalize Hd b = p at h ⊢
  generalize Hd b' = q at h ⊢
  by_cases h1 : c = c'
  · by_cases h2 : p = q
    · simp [h1, h2] at h ⊢; omega
    · have h2' : ¬ q = p := fun e => h2 e.symm
      simp [h1, h2, h2'] at h ⊢; omega
  · have h1' : ¬ c' = c := fun e => h1 e.symm
    simp [h1, h1'] at h ⊢; omega
theorem BtB_trans {b c d b' c' d' b2 c2 d2 : Int} (h : BtB b c d b' c' d' = true) (h' : BtB b' c' d' b2 c2 d2 = true) : BtB b c d b2 c2 d2 = true := by
  unfold BtB at h h' ⊢
  generalize Hd b = p at h ⊢
  generalize Hd b' = q at h h'
  generalize Hd b2 = r at h' ⊢
  split at h <;> (try split at h) <;> split at h' <;> (try split at h') <;> simp only [decide_eq_true_eq] at h h' <;> split <;> (try split) <;> simp only [decide_eq_true_eq] <;> omega
theorem draw_beats {l : List Int} (hs : ∀ x ∈ l, (Lit.int .u8 x).wf = true) : ∃ r, Ev (fun k => spec_DrawBeatsOk.f k l) r := by
  obtain ⟨s, e, hs', hl⟩ := open_some hs
  obtain ⟨a, b, c, d, y, q, e1, h1, h2⟩ := law_ev hs' hl 0 14 (by decide) (by decide)
  obtain ⟨a', b', c', d', y', q', e2, h3, h4⟩ := law_ev hs' hl q 14 (by omega) (by omega)
  obtain ⟨r, e3, _⟩ := pick_ev hs' hl q' 2 (by omega) (by omega)
  obtain ⟨r2, e4, _⟩ := pick_ev hs' hl (q' + 1) 2 (by omega) (by omega)
  unfold spec_DrawBeatsOk.f
  simp only [e, Option.bind_some]
  by_cases h : r = 0
  · by_cases h' : r2 = 0
    · exact ⟨_, Ev.bind e1 (Ev.bind e2 (Ev.bind e3 (by simp only [if_pos h]; exact Ev.bind e4 (by simp only [if_pos h']; exact Ev.now _))))⟩
    · exact ⟨_, Ev.bind e1 (Ev.bind e2 (Ev.bind e3 (by simp only [if_pos h]; exact Ev.bind e4 (by simp only [if_neg h']; exact Ev.now _))))⟩
  · by_cases h' : r2 = 0
    · exact ⟨_, Ev.bind e1 (Ev.bind e2 (Ev.bind e3 (by simp only [if_neg h]; exact Ev.bind e4 (by simp only [if_pos h']; exact Ev.now _))))⟩
    · exact ⟨_, Ev.bind e1 (Ev.bind e2 (Ev.bind e3 (by simp only [if_neg h]; exact Ev.bind e4 (by simp only [if_neg h']; exact Ev.now _))))⟩
theorem FnBeatsOk : laws_FnBeatsOk.Pure := by
  intro l l' _ _ hs _ _ hs'
  refine Ev.rounds ?_
  have done : Ev (fun k => laws_FnBeatsOk.j0 k l l' true) true := Ev.step (f := fun _ => some true) (fun k => by rw [laws_FnBeatsOk.j0, if_pos rfl]) (Ev.now _)
  unfold laws_FnBeatsOk.f
  by_cases h : (l.length : Int) > 1048576
  · simp only [if_pos h]
    exact done
  simp only [if_neg h]
  by_cases h2 : (l'.length : Int) > 1048576
  · rw [decide_eq_true h2]
    exact done
  rw [decide_eq_false h2]
  obtain ⟨⟨a, b, c, d, y, a', b', c', d', y'⟩, e1⟩ := draw_beats hs
  obtain ⟨⟨a2, b2, c2, d2, y2, a3, b3, c3, d3, y3⟩, e2⟩ := draw_beats hs'
  have im : ∀ (a b c d : Int) (y : Bool) (a' b' c' d' : Int) (y' : Bool), Ev (fun k => impl_BeatsOk.f k a b c d y a' b' c' d' y') (LawB a b c d && LawB a' b' c' d' && BtB b c d b' c' d') := fun a b c d y a' b' c' d' y' => ⟨4, fun k hk => impl_BeatsOk_eq a b c d y a' b' c' d' y' hk⟩
  have sp : ∀ (a b c d : Int) (y : Bool) (a' b' c' d' : Int) (y' : Bool), Ev (fun k => spec_BeatsOk.f k a b c d y a' b' c' d' y') (LawB a b c d && LawB a' b' c' d' && BtB b c d b' c' d') := fun a b c d y a' b' c' d' y' => ⟨9, fun k hk => spec_BeatsOk_eq a b c d y a' b' c' d' y' hk⟩
  refine Ev.step (fun k => by rw [laws_FnBeatsOk.j0, if_neg (by decide)]) ?_
  refine Ev.bind e1 (Ev.bind (im _ _ _ _ _ _ _ _ _ _) (Ev.bind (sp _ _ _ _ _ _ _ _ _ _) ?_))
  simp only [bne_self_eq_false, Bool.false_eq_true, if_false]
  refine Ev.bind e2 (Ev.bind (im _ _ _ _ _ _ _ _ _ _) ?_)
  simp only [BtB_irrefl, Bool.and_false, Bool.false_eq_true, if_false, alive_eq, Option.bind_some]
  cases hb : (LawB a b c d && LawB a' b' c' d' && BtB b c d b' c' d') with
  | false => simp only [Bool.false_eq_true, if_false]; exact Ev.now _
  | true =>
    simp only [Bool.and_eq_true] at hb
    simp only [if_true]
    refine Ev.bind (im _ _ _ _ _ _ _ _ _ _) ?_
    simp only [BtB_asymm hb.2, Bool.and_false, Bool.false_eq_true, if_false]
    refine Ev.bind (im _ _ _ _ _ _ _ _ _ _) ?_
    cases hb2 : (LawB a' b' c' d' && LawB a2 b2 c2 d2 && BtB b' c' d' b2 c2 d2) with
    | false => simp only [Bool.false_eq_true, if_false]; exact Ev.now _
    | true =>
      simp only [Bool.and_eq_true] at hb2
      simp only [if_true]
      refine Ev.bind (im _ _ _ _ _ _ _ _ _ _) ?_
      simp only [hb.1.1, hb2.1.2, BtB_trans hb.2 hb2.2, Bool.and_self, if_true]
      exact Ev.now _

end Go.Proofs.Ythlaohiomepobaa.Pure
