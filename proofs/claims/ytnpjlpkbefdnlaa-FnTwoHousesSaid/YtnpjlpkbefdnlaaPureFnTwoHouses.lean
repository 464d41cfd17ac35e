/- The law FnTwoHouses is true: for every code, of two drawn terms of a house a process of two steps makes a law where both consent, and another where either does, and both processes are sound. Conditions: none. -/
import Derived.Test.YtnpjlpkbefdnlaaQFnTwoHousesx11
namespace Go.Proofs.Ytnpjlpkbefdnlaa.Pure
open Go.RowKit Go.Proofs.Ytnpjlpkbefdnlaa.QFnTwoHouses Go.Proofs.YtnpjlpkbefdnlaaW.PrintWords Go.Proofs.YtnpjlpkbefdnlaaW.PrintLast
set_option linter.unusedVariables false
set_option linter.unusedSimpArgs false

theorem w64 {x : Int} (h0 : -9223372036854775808 ≤ x) (h1 : x ≤ 9223372036854775807) : wrap64 x = x := by unfold wrap64; omega

theorem xor_nn {a b : Int} (ha : 0 ≤ a) (ha1 : a < 9223372036854775808) (hb : 0 ≤ b) (hb1 : b < 9223372036854775808) : 0 ≤ Go.bits .xor .i64 a b := by
  obtain ⟨m, rfl⟩ := Int.eq_ofNat_of_zero_le ha
  obtain ⟨n, rfl⟩ := Int.eq_ofNat_of_zero_le hb
  have hm : m < 2 ^ 63 := by omega
  have hn : n < 2 ^ 63 := by omega
  have hx := Nat.xor_lt_two_pow hm hn
  simp only [Go.bits, BitVec.ofInt_natCast, BitVec.toNat_xor, BitVec.toNat_ofNat]
  have e1 : m % 2 ^ IntKind.i64.bits = m := Nat.mod_eq_of_lt (by simp only [IntKind.bits]; omega)
  have e2 : n % 2 ^ IntKind.i64.bits = n := Nat.mod_eq_of_lt (by simp only [IntKind.bits]; omega)
  rw [e1, e2, IntKind.wrap_i64]
  omega

theorem rd_range {s : List Int} (hs : ∀ x ∈ s, (Lit.int .u8 x).wf = true) (i : Int) : 0 ≤ rd s i ∧ rd s i ≤ 255 := by
  unfold rd
  by_cases h : i.toNat < s.length
  · have := hs _ (List.getElem_mem h)
    rw [List.getD_eq_getElem?_getD, List.getElem?_eq_getElem h]
    simp [Lit.wf, IntKind.min, IntKind.max, IntKind.bits, IntKind.signed] at this
    simp
    omega
  · rw [List.getD_eq_getElem?_getD, List.getElem?_eq_none (by omega)]
    simp
theorem tmod_range {a n : Int} (ha : 0 ≤ a) (hn : 0 < n) : 0 ≤ Int.tmod a n ∧ Int.tmod a n < n := by
  rw [Int.tmod_eq_emod_of_nonneg ha]
  exact ⟨Int.emod_nonneg _ (by omega), Int.emod_lt_of_pos _ hn⟩
theorem tdiv_range {a n : Int} (ha : 0 ≤ a) (hn : 0 < n) : 0 ≤ Int.tdiv a n ∧ Int.tdiv a n ≤ a := by
  rw [Int.tdiv_eq_ediv_of_nonneg ha]
  exact ⟨Int.ediv_nonneg ha (by omega), Int.ediv_le_self _ ha⟩

theorem pick_some {s : List Int} (hs : ∀ x ∈ s, (Lit.int .u8 x).wf = true) (hl : s.length ≤ 2000) (p n : Int) (hp0 : 0 ≤ p) (hp : p ≤ 1000000) (k : Nat) (hk : 0 < k) :
    ∃ r, spec_l20Rd_pick.f k s p n = some (r, p + 1) ∧ 0 ≤ r ∧ (0 < n → r < n) ∧ (n ≤ 0 → r = 0) := by
  obtain ⟨k, rfl⟩ : ∃ m, k = m + 1 := ⟨k - 1, by omega⟩
  have e1 : wrap64 (p + 1) = p + 1 := w64 (by omega) (by omega)
  have e2 : wrap64 (p + 1 - 1) = p := by rw [Int.add_sub_cancel]; exact w64 (by omega) (by omega)
  unfold spec_l20Rd_pick.f
  by_cases hn : n < 1
  · rw [if_pos hn]
    refine ⟨0, ?_, Int.le_refl 0, fun h => by omega, fun _ => rfl⟩
    simp only [spec_l20Rd_pick.j0, e1, if_true]
  rw [if_neg hn]
  by_cases h0 : s.length = 0
  · have : ((s.length : Int) == 0) = true := by rw [h0]; rfl
    refine ⟨0, ?_, Int.le_refl 0, fun h => h, fun _ => rfl⟩
    rw [this]
    simp only [spec_l20Rd_pick.j0, e1, if_true]
  have hb : ((s.length : Int) == 0) = false := by simp; intro h; rw [h] at h0; exact h0 rfl
  rw [hb]
  simp only [spec_l20Rd_pick.j0, e1, e2]
  rw [if_neg (by decide)]
  have hn0 : ¬ n = 0 := by omega
  by_cases hlt : p < (s.length : Int)
  · rw [if_pos hlt, if_pos hp0, if_neg hn0]
    have hr := rd_range hs p
    have e3 : wrap64 (rd s p) = rd s p := w64 (by omega) (by omega)
    rw [e3]
    have := tmod_range hr.1 (show 0 < n by omega)
    exact ⟨_, rfl, this.1, fun _ => this.2, fun h => by omega⟩
  rw [if_neg hlt, if_neg (show ¬ (s.length : Int) = 0 by omega)]
  have hL : 0 < (s.length : Int) := by omega
  have t1 := tmod_range hp0 hL
  have f1 : wrap64 (p * 7) = p * 7 := w64 (by omega) (by omega)
  have f2 : wrap64 (p * 7 + 3) = p * 7 + 3 := w64 (by omega) (by omega)
  have t2 := tmod_range (show 0 ≤ p * 7 + 3 by omega) hL
  rw [f1, f2]
  rw [if_pos t1.1, if_pos t1.2, if_pos t2.1, if_pos t2.2, if_neg hn0]
  have r1 := rd_range hs (Int.tmod p s.length)
  have r2 := rd_range hs (Int.tmod (p * 7 + 3) s.length)
  generalize rd s (Int.tmod p s.length) = x at r1 ⊢
  generalize rd s (Int.tmod (p * 7 + 3) s.length) = y at r2 ⊢
  have d1 := tdiv_range hp0 hL
  generalize Int.tdiv p s.length = q at d1 ⊢
  rw [show wrap64 x = x from w64 (by omega) (by omega), show wrap64 y = y from w64 (by omega) (by omega)]
  rw [show wrap64 (x * 131) = x * 131 from w64 (by omega) (by omega), show wrap64 (y * 1117) = y * 1117 from w64 (by omega) (by omega), show wrap64 (p * 29) = p * 29 from w64 (by omega) (by omega), show wrap64 q = q from w64 (by omega) (by omega)]
  rw [show wrap64 (q * 53) = q * 53 from w64 (by omega) (by omega), show wrap64 (x * 131 + y * 1117) = x * 131 + y * 1117 from w64 (by omega) (by omega)]
  rw [show wrap64 (x * 131 + y * 1117 + p * 29) = x * 131 + y * 1117 + p * 29 from w64 (by omega) (by omega)]
  rw [show wrap64 (x * 131 + y * 1117 + p * 29 + q * 53) = x * 131 + y * 1117 + p * 29 + q * 53 from w64 (by omega) (by omega)]
  have hz : 0 ≤ x * 131 + y * 1117 + p * 29 + q * 53 ∧ x * 131 + y * 1117 + p * 29 + q * 53 < 1000000000 := by omega
  generalize x * 131 + y * 1117 + p * 29 + q * 53 = z at hz ⊢
  have d2 := tdiv_range hz.1 (show (0 : Int) < 64 by decide)
  rw [show wrap64 (Int.tdiv z 64) = Int.tdiv z 64 from w64 (by omega) (by omega)]
  have hx := xor_nn hz.1 (by omega) d2.1 (by omega)
  have := tmod_range hx (show 0 < n by omega)
  exact ⟨_, rfl, this.1, fun _ => this.2, fun h => by omega⟩

theorem odd_some {s : List Int} (hs : ∀ x ∈ s, (Lit.int .u8 x).wf = true) (hl : s.length ≤ 2000) (p n : Int) (hp0 : 0 ≤ p) (hp : p ≤ 1000000) (k : Nat) (hk : 0 < k) :
    ∃ b q, spec_l20Rd_odd.f k s p n = some (b, q) ∧ p ≤ q ∧ q ≤ p + 1 ∧ (n ≤ 0 → b = false) := by
  unfold spec_l20Rd_odd.f
  by_cases h : n > 0
  · rw [if_pos h]
    obtain ⟨r, e, _⟩ := pick_some hs hl p n hp0 hp k hk
    rw [e]
    exact ⟨_, _, rfl, by show p ≤ p + 1; omega, Int.le_refl _, by omega⟩
  · rw [if_neg h]
    exact ⟨_, _, rfl, by omega, by omega, fun _ => rfl⟩

theorem open_some {l : List Int} (hs : ∀ x ∈ l, (Lit.int .u8 x).wf = true) : ∃ s, spec_l20Open.f l = some (s, 0) ∧ (∀ x ∈ s, (Lit.int .u8 x).wf = true) ∧ s.length ≤ 2000 := by
  unfold spec_l20Open.f
  by_cases h : (l.length : Int) > 2000
  · rw [if_pos h, if_pos (by omega)]
    exact ⟨_, rfl, fun x hx => hs x (List.mem_of_mem_take hx), by simp <;> omega⟩
  · rw [if_neg h]
    exact ⟨_, rfl, hs, by omega⟩

/-- A number that fits is not wrapped. -/
theorem wz {x : Int} (h0 : -9223372036854775808 ≤ x) (h1 : x ≤ 9223372036854775807) : wrap64 x = x := by unfold wrap64; omega
theorem wsucc {i n : Nat} (h : i < n) (hn : n ≤ 9223372036854775807) : wrap64 ((i : Int) + 1) = ((i + 1 : Nat) : Int) := by rw [wz (by omega) (by omega)]; omega
/-- What stands from place i on is empty, or begins with element i. -/
theorem dnil {α : Type} {xs : List α} {i : Nat} (h : xs.drop i = []) : ¬ ((i : Int) < (xs.length : Int)) := by
  have := List.drop_eq_nil_iff.1 h
  omega
theorem dcons {α : Type} {xs : List α} {i : Nat} {y : α} {ys : List α} (h : xs.drop i = y :: ys) : i < xs.length ∧ (∀ d, xs.getD i d = y) ∧ xs.drop (i + 1) = ys := by
  have hl : i < xs.length := by
    rcases Nat.lt_or_ge i xs.length with h1 | h1
    · exact h1
    · rw [List.drop_eq_nil_iff.2 h1] at h
      cases h
  have e := List.drop_eq_getElem_cons hl
  rw [h] at e
  injection e with e1 e2
  exact ⟨hl, fun d => by rw [List.getD_eq_getElem?_getD, List.getElem?_eq_getElem hl]; exact e1.symm, e2.symm⟩
theorem rdn (xs : List Int) (i : Nat) : rd xs (i : Int) = xs.getD i 0 := by simp [rd]
theorem set_mid {α β : Type} (l : List α) (c : α → β) (z : β) {i : Nat} {y : α} {ys : List α} (h : l.drop i = y :: ys) :
    ((l.take i).map c ++ List.replicate (l.length - i) z).set i (c y) = (l.take (i + 1)).map c ++ List.replicate (l.length - (i + 1)) z := by
  obtain ⟨h1, h2, h3⟩ := dcons h
  have ht : l.take (i + 1) = l.take i ++ [y] := by
    rw [List.take_succ_eq_append_getElem h1]
    have := h2 y
    rw [List.getD_eq_getElem?_getD, List.getElem?_eq_getElem h1] at this
    rw [show l[i] = y from by simpa using this]
  obtain ⟨m, hm⟩ : ∃ m, l.length - i = m + 1 := ⟨l.length - i - 1, by omega⟩
  have hm2 : l.length - (i + 1) = m := by omega
  have hlen : ((l.take i).map c).length = i := by simp <;> omega
  rw [hm, hm2, ht, List.replicate_succ, List.map_append, List.set_append_right _ _ (by omega), hlen, Nat.sub_self]
  simp
theorem Ev.to {α : Type} {g : Nat → Option α} {r s : α} (h : Ev g r) (e : r = s) : Ev g s := e ▸ h

theorem pick_ev {s : List Int} (hs : ∀ x ∈ s, (Lit.int .u8 x).wf = true) (hl : s.length ≤ 2000) (p n : Int) (hp0 : 0 ≤ p) (hp : p ≤ 1000000) :
    ∃ r, Ev (fun k => spec_l20Rd_pick.f k s p n) (r, p + 1) ∧ 0 ≤ r ∧ (0 < n → r < n) ∧ (n ≤ 0 → r = 0) := by
  obtain ⟨r, h, h1⟩ := pick_some hs hl p n hp0 hp 1 (by decide)
  exact ⟨r, Ev.of (fun k => spec_l20Rd_pick.mono _ _ _ k) h, h1⟩
theorem odd_ev {s : List Int} (hs : ∀ x ∈ s, (Lit.int .u8 x).wf = true) (hl : s.length ≤ 2000) (p n : Int) (hp0 : 0 ≤ p) (hp : p ≤ 1000000) :
    ∃ b q, Ev (fun k => spec_l20Rd_odd.f k s p n) (b, q) ∧ p ≤ q ∧ q ≤ p + 1 ∧ (n ≤ 0 → b = false) := by
  obtain ⟨b, q, h, h1⟩ := odd_some hs hl p n hp0 hp 1 (by decide)
  exact ⟨b, q, Ev.of (fun k => spec_l20Rd_odd.mono _ _ _ k) h, h1⟩

/-- Is a number a crowd of so many people. -/
def CrB (p a : Int) : Bool := decide (1 ≤ p ∧ p ≤ 6 ∧ 0 ≤ a ∧ a < 2 ^ p.toNat)
theorem shl1 {p : Int} (h0 : 1 ≤ p) (h1 : p ≤ 6) : shl .i64 1 p = 2 ^ p.toNat := by
  have : p = 1 ∨ p = 2 ∨ p = 3 ∨ p = 4 ∨ p = 5 ∨ p = 6 := by omega
  rcases this with rfl | rfl | rfl | rfl | rfl | rfl <;> decide +kernel
theorem pow_small {p : Int} (h0 : 1 ≤ p) (h1 : p ≤ 6) : (2 : Int) ≤ 2 ^ p.toNat ∧ (2 : Int) ^ p.toNat ≤ 64 := by
  have : p = 1 ∨ p = 2 ∨ p = 3 ∨ p = 4 ∨ p = 5 ∨ p = 6 := by omega
  rcases this with rfl | rfl | rfl | rfl | rfl | rfl <;> decide
theorem impl_isCrowd_eq (p a : Int) : impl_isCrowd.f p a = some (CrB p a) := by
  unfold impl_isCrowd.f impl_arePeople.f CrB
  by_cases h1 : p ≥ 1
  · by_cases h2 : p ≤ 6
    · by_cases h3 : a ≥ 0
      · have h0 : 0 ≤ p := by omega
        simp [h1, h2, h3, h0, shl1 h1 h2]
      · simp [h1, h2, h3]
    · simp [h1, h2]
  · simp [h1]
theorem CrB_of {p a : Int} (h : CrB p a = true) : 1 ≤ p ∧ p ≤ 6 ∧ 0 ≤ a ∧ a < 2 ^ p.toNat := of_decide_eq_true h

theorem l1In_eq2 (a b c : Int) : spec_l1In.f a b c = some (decide (b ≤ a ∧ a ≤ c)) := by
  unfold spec_l1In.f
  by_cases h : b ≤ a
  · simp [h]
  · simp [h]
theorem spec_CrowdOk_eq (p a : Int) : spec_CrowdOk.f p a = some (CrB p a) := by
  unfold spec_CrowdOk.f CrB
  simp only [l1In_eq2, Option.bind_some]
  by_cases h : 1 ≤ p ∧ p ≤ 6
  · have hp := pow_small h.1 h.2
    simp only [decide_eq_true h, if_true, if_pos (show 0 ≤ p by omega), shl1 h.1 h.2]
    rw [wz (by omega) (by omega)]
    congr 1
    rw [decide_eq_decide]
    omega
  · simp only [decide_eq_false h, Bool.false_eq_true, if_false]
    congr 1
    symm
    rw [decide_eq_false_iff_not]
    omega

/-- How many of the first b bits are 1. -/
def pc : Nat → Int → Int
  | 0, _ => 0
  | b + 1, n => n % 2 + pc b (n / 2)
theorem pc_nonneg : ∀ (b : Nat) (n : Int), 0 ≤ pc b n ∧ pc b n ≤ b := by
  intro b
  induction b with
  | zero => intro n; simp [pc]
  | succ b ih => intro n; have := ih (n / 2); simp only [pc]; omega
theorem pc_zero : ∀ (b : Nat), pc b 0 = 0 := by
  intro b
  induction b with
  | zero => rfl
  | succ b ih => simp [pc, ih]
theorem spec_heads_l0 : ∀ (b : Nat) (n acc : Int), 0 ≤ n → n < 2 ^ b → 0 ≤ acc → acc + b ≤ 1000 → b ≤ 63 → Ev (fun k => spec_l1Heads.l0 k n acc) (acc + pc b n) := by
  intro b
  induction b with
  | zero =>
    intro n acc h0 h1 h2 h3 h4
    have : n = 0 := by simp at h1; omega
    subst this
    exact Ev.step (f := fun _ => some acc) (fun k => by rw [spec_l1Heads.l0, if_neg (by decide)]) (Ev.to (Ev.now _) (by simp [pc]))
  | succ b ih =>
    intro n acc h0 h1 h2 h3 h4
    by_cases hn : n = 0
    · subst hn
      exact Ev.step (f := fun _ => some acc) (fun k => by rw [spec_l1Heads.l0, if_neg (by decide)]) (Ev.to (Ev.now _) (by rw [pc_zero]; omega))
    · have h5 : n < 2 * 2 ^ b := by rw [Int.pow_succ] at h1; omega
      have h6 : (2 : Int) ^ b ≤ 4611686018427387904 := by
        have h7 : (2 : Nat) ^ b ≤ 2 ^ 62 := Nat.pow_le_pow_right (by decide) (by omega)
        have h8 : ((2 ^ b : Nat) : Int) ≤ ((2 ^ 62 : Nat) : Int) := Int.ofNat_le.2 h7
        rw [Int.natCast_pow] at h8
        exact h8
      have d1 : Int.tdiv n 2 = n / 2 := Int.tdiv_eq_ediv_of_nonneg h0
      have d2 : Int.tmod n 2 = n % 2 := Int.tmod_eq_emod_of_nonneg h0
      have e := ih (n / 2) (acc + n % 2) (by omega) (by omega) (by omega) (by omega) (by omega)
      have w1 : wrap64 (Int.tdiv n 2) = n / 2 := by rw [d1]; exact wz (by omega) (by omega)
      have w2 : wrap64 (acc + Int.tmod n 2) = acc + n % 2 := by rw [d2]; exact wz (by omega) (by omega)
      refine Ev.step (f := fun k => spec_l1Heads.l0 k (n / 2) (acc + n % 2)) (fun k => by rw [spec_l1Heads.l0, if_pos (by omega), w1, w2]) (Ev.to e (by simp only [pc]; omega))
/-- Heads of any number: none below zero. -/
def hdI (n : Int) : Int := if n < 0 then 0 else pc 63 n
theorem spec_heads_ev (n : Int) (h1 : n ≤ 9223372036854775807) : Ev (fun k => spec_l1Heads.f k n) (hdI n) := by
  unfold spec_l1Heads.f hdI
  by_cases hn : n < 0
  · rw [if_pos hn]
    exact Ev.step (f := fun _ => some 0) (fun k => by rw [spec_l1Heads.l0, if_neg (by omega)]) (Ev.now _)
  · rw [if_neg hn]
    exact Ev.to (spec_heads_l0 63 n 0 (by omega) (by simp; omega) (by omega) (by omega) (by omega)) (by omega)
theorem impl_heads_all : ∀ n : Fin 64, impl_headsOf.f (n.val : Int) = some (hdI (n.val : Int)) := by decide +kernel
theorem impl_heads {a : Int} (h0 : 0 ≤ a) (h1 : a < 64) : impl_headsOf.f a = some (hdI a) := by
  obtain ⟨n, rfl⟩ := Int.eq_ofNat_of_zero_le h0
  exact impl_heads_all ⟨n, by omega⟩
def PpB (p : Int) : Bool := decide (1 ≤ p ∧ p ≤ 6)
/-- A house: crowds of so many people, none empty, at most four. -/
def HsB (p : Int) (H : List Int) : Bool := H.all (fun c => CrB p c && !decide (c = 0)) && (PpB p && decide ((H.length : Int) ≤ 4))
theorem HsB_of {p : Int} {H : List Int} (h : HsB p H = true) : H.length ≤ 4 ∧ 1 ≤ p ∧ p ≤ 6 ∧ ∀ c ∈ H, 0 < c ∧ c < 64 := by
  unfold HsB PpB at h
  simp only [Bool.and_eq_true, decide_eq_true_eq, List.all_eq_true] at h
  obtain ⟨h1, ⟨h2, h3⟩, h4⟩ := h
  refine ⟨by omega, h2, h3, fun c hc => ?_⟩
  have := h1 c hc
  have cr := CrB_of this.1
  have ps := pow_small cr.1 cr.2.1
  have : ¬ c = 0 := by simpa using this.2
  omega
theorem arePeople_eq (p : Int) : impl_arePeople.f p = some (PpB p) := by
  unfold impl_arePeople.f PpB
  by_cases h : p ≥ 1
  · simp [h]
  · simp [h]
theorem impl_isHouse_l0 (p : Int) (H : List Int) (hn : H.length ≤ 1048576) : ∀ (zs : List Int) (i : Nat), H.drop i = zs → Ev (fun k => impl_isHouse.l0 k H (H.length : Int) (i : Int) p H) (zs.all (fun c => CrB p c && !decide (c = 0)) && (PpB p && decide ((H.length : Int) ≤ 4))) := by
  intro zs
  induction zs with
  | nil =>
    intro i h
    refine Ev.step (f := fun _ => some (PpB p && decide ((H.length : Int) ≤ 4))) (fun k => ?_) (Ev.to (Ev.now _) (by simp))
    rw [impl_isHouse.l0, if_neg (dnil h), arePeople_eq]
    cases PpB p <;> simp
  | cons z zs ih =>
    intro i h
    obtain ⟨h1, h2, h3⟩ := dcons h
    have e := ih (i + 1) h3
    have hi1 : (i : Int) < (H.length : Int) := by omega
    have hi0 : 0 ≤ (i : Int) := by omega
    cases hc : CrB p z with
    | false =>
      refine Ev.step (f := fun _ => some false) (fun k => ?_) (Ev.to (Ev.now _) (by simp [hc]))
      rw [impl_isHouse.l0, if_pos hi1, if_pos hi0, if_pos hi1, rdn, h2, impl_isCrowd_eq, hc]
      rfl
    | true =>
      by_cases hz : z = 0
      · refine Ev.step (f := fun _ => some false) (fun k => ?_) (Ev.to (Ev.now _) (by simp [hz]))
        rw [impl_isHouse.l0, if_pos hi1, if_pos hi0, if_pos hi1, rdn, h2, impl_isCrowd_eq, hc, Option.bind_some, if_pos rfl, if_pos hz]
      · refine Ev.step (fun k => ?_) (Ev.to e (by simp [hz, hc]))
        rw [impl_isHouse.l0, if_pos hi1, if_pos hi0, if_pos hi1, rdn, h2, impl_isCrowd_eq, hc, Option.bind_some, if_pos rfl, if_neg hz, wsucc h1 (by omega)]
theorem impl_isHouse_ev (p : Int) (H : List Int) (hn : H.length ≤ 1048576) : Ev (fun k => impl_isHouse.f k p H) (HsB p H) := impl_isHouse_l0 p H hn H 0 rfl
theorem spec_HouseOk_l0 (p : Int) (H : List Int) (hn : H.length ≤ 1048576) : ∀ (zs : List Int) (i : Nat), H.drop i = zs → Ev (fun k => spec_HouseOk.l0 k (i : Int) p H) (zs.all (fun c => CrB p c && !decide (c = 0)) && (PpB p && decide ((H.length : Int) ≤ 4))) := by
  intro zs
  induction zs with
  | nil =>
    intro i h
    refine Ev.step (f := fun _ => some (PpB p && decide ((H.length : Int) ≤ 4))) (fun k => ?_) (Ev.to (Ev.now _) (by simp))
    rw [spec_HouseOk.l0, if_neg (dnil h), l1In_eq2, Option.bind_some, show decide (1 ≤ p ∧ p ≤ 6) = PpB p from rfl]
    cases PpB p <;> simp
  | cons z zs ih =>
    intro i h
    obtain ⟨h1, h2, h3⟩ := dcons h
    have e := ih (i + 1) h3
    have hi1 : (i : Int) < (H.length : Int) := by omega
    have hi0 : 0 ≤ (i : Int) := by omega
    cases hc : CrB p z with
    | false =>
      refine Ev.step (f := fun _ => some false) (fun k => ?_) (Ev.to (Ev.now _) (by simp [hc]))
      rw [spec_HouseOk.l0, if_pos hi1, if_pos hi0, rdn, h2, spec_CrowdOk_eq, hc]
      rfl
    | true =>
      by_cases hz : z = 0
      · refine Ev.step (f := fun _ => some false) (fun k => ?_) (Ev.to (Ev.now _) (by simp [hz]))
        rw [spec_HouseOk.l0, if_pos hi1, if_pos hi0, rdn, h2, spec_CrowdOk_eq, hc, Option.bind_some, if_pos rfl, if_pos hz]
      · refine Ev.step (fun k => ?_) (Ev.to e (by simp [hz, hc]))
        rw [spec_HouseOk.l0, if_pos hi1, if_pos hi0, rdn, h2, spec_CrowdOk_eq, hc, Option.bind_some, if_pos rfl, if_neg hz, wsucc h1 (by omega)]
theorem spec_HouseOk_ev (p : Int) (H : List Int) (hn : H.length ≤ 1048576) : Ev (fun k => spec_HouseOk.f k p H) (HsB p H) := spec_HouseOk_l0 p H hn H 0 rfl
/-- A mark that names a crowd and how many of it. -/
def leafB (H : List Int) (m : S78) : Bool := decide (m.f0 = 0) && (decide (0 ≤ m.f1 ∧ m.f1 < H.length) && decide (1 ≤ m.f2 ∧ m.f2 ≤ hdI (rd H m.f1)))
def opB (m : S78) : Bool := (decide (m.f0 = 1) || decide (m.f0 = 2)) && (decide (m.f1 = 0) && decide (m.f2 = 0))
/-- Does the row of marks, from a pile of d on, end with a pile of one. -/
def tmF (H : List Int) : List S78 → Int → Bool
  | [], d => decide (d = 1)
  | m :: ms, d => if leafB H m = true then tmF H ms (d + 1) else if opB m = true then (if d < 2 then false else tmF H ms (d - 1)) else false
def TmB (p : Int) (H : List Int) (ms : List S78) : Bool := HsB p H && (decide ((ms.length : Int) ≤ 9) && tmF H ms 0)
theorem rdMk (xs : List S78) (i : Nat) : rd_T78 xs (i : Int) = xs.getD i z78 := by simp [rd_T78]
theorem impl_isTerm_l0 (p : Int) (H : List Int) (hH : HsB p H = true) (xs : List S78) (hn : xs.length ≤ 1048576) : ∀ (zs : List S78) (i : Nat) (d : Int), xs.drop i = zs → 0 ≤ d → d ≤ i → Ev (fun k => impl_isTerm.l0 k d xs (xs.length : Int) (i : Int) p H) (tmF H zs d) := by
  have hh := HsB_of hH
  intro zs
  induction zs with
  | nil =>
    intro i d h hd0 hd
    refine Ev.step (f := fun _ => some (d == 1)) (fun k => by rw [impl_isTerm.l0, if_neg (dnil h)]) (Ev.to (Ev.now _) ?_)
    unfold tmF
    by_cases e : d = 1 <;> simp [e]
  | cons z zs ih =>
    intro i d h hd0 hd
    obtain ⟨h1, h2, h3⟩ := dcons h
    have hi1 : (i : Int) < (xs.length : Int) := by omega
    have hi0 : 0 ≤ (i : Int) := by omega
    have wd : wrap64 (d + 1) = d + 1 := wz (by omega) (by omega)
    have wd2 : wrap64 (d - 1) = d - 1 := wz (by omega) (by omega)
    have stop (a : Bool) (ha : a = false) (b c e : Int) : ∀ k, impl_isTerm.j2 (k + 1) d xs (xs.length : Int) (i : Int) a p H b c e = some false := fun k => by rw [impl_isTerm.j2, ha, if_neg (by decide)]
    by_cases g0 : z.f0 = 0
    · have nop : opB z = false := by simp [opB, g0]
      by_cases g1 : z.f1 < 0
      · refine Ev.step (f := fun _ => some false) (fun k => ?_) (Ev.to (Ev.now _) ?_)
        · rw [impl_isTerm.l0, if_pos hi1, if_pos hi0, if_pos hi1, rdMk, h2, if_pos g0, if_pos g1]
        · unfold tmF; rw [if_neg (by simp [leafB]; omega), if_neg (by simp [nop])]
      by_cases g2 : z.f1 ≥ (H.length : Int)
      · refine Ev.step (f := fun _ => some false) (fun k => ?_) (Ev.to (Ev.now _) ?_)
        · rw [impl_isTerm.l0, if_pos hi1, if_pos hi0, if_pos hi1, rdMk, h2, if_pos g0, if_neg g1, if_pos g2]
        · unfold tmF; rw [if_neg (by simp [leafB]; omega), if_neg (by simp [nop])]
      have q1 : 0 ≤ z.f1 := by omega
      have q2 : z.f1 < (H.length : Int) := by omega
      by_cases g3 : z.f2 < 1
      · refine Ev.step (f := fun _ => some false) (fun k => ?_) (Ev.to (Ev.now _) ?_)
        · rw [impl_isTerm.l0, if_pos hi1, if_pos hi0, if_pos hi1, rdMk, h2, if_pos g0, if_neg g1, if_neg g2, if_pos g3]
        · unfold tmF; rw [if_neg (by simp [leafB]; omega), if_neg (by simp [nop])]
      have hm : rd H z.f1 ∈ H := by
        obtain ⟨n, hn2⟩ := Int.eq_ofNat_of_zero_le q1
        rw [hn2, rdn, List.getD_eq_getElem?_getD, List.getElem?_eq_getElem (show n < H.length by omega)]
        exact List.getElem_mem _
      have hr := hh.2.2.2 _ hm
      have hd1 := impl_heads (Int.le_of_lt hr.1) hr.2
      by_cases g4 : z.f2 > hdI (rd H z.f1)
      · refine Ev.step (f := fun _ => some false) (fun k => ?_) (Ev.to (Ev.now _) ?_)
        · rw [impl_isTerm.l0, if_pos hi1, if_pos hi0, if_pos hi1, rdMk, h2, if_pos g0, if_neg g1, if_neg g2, if_neg g3, if_pos q1, if_pos q2, hd1, Option.bind_some, if_pos g4]
        · unfold tmF; rw [if_neg (by simp [leafB]; omega), if_neg (by simp [nop])]
      · have lf : leafB H z = true := by
          unfold leafB
          rw [decide_eq_true g0, decide_eq_true (show 0 ≤ z.f1 ∧ z.f1 < (H.length : Int) from ⟨q1, q2⟩), decide_eq_true (show 1 ≤ z.f2 ∧ z.f2 ≤ hdI (rd H z.f1) by omega)]
          rfl
        refine Ev.step (fun k => ?_) (Ev.to (ih (i + 1) (d + 1) h3 (by omega) (by omega)) ?_)
        · rw [impl_isTerm.l0, if_pos hi1, if_pos hi0, if_pos hi1, rdMk, h2, if_pos g0, if_neg g1, if_neg g2, if_neg g3, if_pos q1, if_pos q2, hd1, Option.bind_some, if_neg g4, wd, wsucc h1 (by omega)]
        · rw [tmF, if_pos lf]
    · have nl : leafB H z = false := by unfold leafB; rw [decide_eq_false g0]; rfl
      refine Ev.step (f := fun k => impl_isTerm.j2 k d xs (xs.length : Int) (i : Int) (decide (z.f0 = 1) || decide (z.f0 = 2)) p H z.f0 z.f1 z.f2) (fun k => ?_) ?_
      · rw [impl_isTerm.l0, if_pos hi1, if_pos hi0, if_pos hi1, rdMk, h2, if_neg g0]
        by_cases g5 : z.f0 = 1
        · rw [if_pos g5]; simp [g5]
        · rw [if_neg g5]; simp only [decide_eq_false g5, Bool.false_or]; rfl
      · rw [tmF, nl, if_neg (by decide)]
        cases hop : (decide (z.f0 = 1) || decide (z.f0 = 2)) with
        | false => exact Ev.step (fun k => by rw [impl_isTerm.j2, if_neg (by decide)]) (Ev.to (Ev.now false) (by simp [opB, hop]))
        | true =>
          by_cases g6 : z.f1 = 0
          · by_cases g7 : z.f2 = 0
            · have hb : opB z = true := by simp [opB, hop, g6, g7]
              rw [if_pos hb]
              by_cases g8 : d < 2
              · rw [if_pos g8]
                exact Ev.step (fun k => by rw [impl_isTerm.j2, if_pos rfl, if_pos g6, if_pos g7, if_pos g8]) (Ev.now false)
              · rw [if_neg g8]
                exact Ev.step (fun k => by rw [impl_isTerm.j2, if_pos rfl, if_pos g6, if_pos g7, if_neg g8, wd2, wsucc h1 (by omega)]) (ih (i + 1) (d - 1) h3 (by omega) (by omega))
            · exact Ev.step (fun k => by rw [impl_isTerm.j2, if_pos rfl, if_pos g6, if_neg g7]) (Ev.to (Ev.now false) (by simp [opB, g7]))
          · exact Ev.step (fun k => by rw [impl_isTerm.j2, if_pos rfl, if_neg g6]) (Ev.to (Ev.now false) (by simp [opB, g6]))
theorem impl_isTerm_ev (p : Int) (H : List Int) (hn : H.length ≤ 1048576) (ms : List S78) (hm : ms.length ≤ 1048576) : Ev (fun k => impl_isTerm.f k p H ms) (TmB p H ms) := by
  have stop : Ev (fun k => impl_isTerm.j0 k ms true p H) false := Ev.step (f := fun _ => some false) (fun k => by rw [impl_isTerm.j0, if_pos rfl]) (Ev.now _)
  unfold impl_isTerm.f TmB
  refine Ev.bind (impl_isHouse_ev p H hn) ?_
  cases hH : HsB p H with
  | false => simp only [Bool.false_eq_true, if_false, Bool.false_and]; exact stop
  | true =>
    simp only [if_true, Bool.true_and]
    by_cases h1 : (ms.length : Int) < 1
    · simp only [if_pos h1]
      obtain rfl : ms = [] := List.eq_nil_of_length_eq_zero (by omega)
      exact Ev.to stop (by simp [tmF])
    · simp only [if_neg h1]
      by_cases h2 : (ms.length : Int) > 9
      · simp only [decide_eq_true h2]
        exact Ev.to stop (by rw [decide_eq_false (by omega)]; rfl)
      · simp only [decide_eq_false h2, decide_eq_true (show (ms.length : Int) ≤ 9 by omega), Bool.true_and]
        exact Ev.step (f := fun k => impl_isTerm.l0 k 0 ms (ms.length : Int) ((0 : Nat) : Int) p H) (fun k => by rw [impl_isTerm.j0, if_neg (by decide)]; rfl) (impl_isTerm_l0 p H hH ms hm ms 0 0 rfl (by omega) (by omega))
theorem spec_TermOk_l0 (p : Int) (H : List Int) (hn : H.length ≤ 1048576) (hc : ∀ c ∈ H, c ≤ 9223372036854775807) (xs : List S78) (hx : xs.length ≤ 1048576) : ∀ (zs : List S78) (i : Nat) (d : Int), xs.drop i = zs → 0 ≤ d → d ≤ i → Ev (fun k => spec_TermOk.l0 k xs d (i : Int) p H) (HsB p H && (decide ((xs.length : Int) ≤ 9) && tmF H zs d)) := by
  intro zs
  induction zs with
  | nil =>
    intro i d h hd0 hd
    refine Ev.step (f := fun k => (spec_HouseOk.f k p H).bind fun t => (if t = true then (if d = 1 then (some (decide ((xs.length : Int) ≤ 9))) else (some false)) else (some false))) (fun k => by rw [spec_TermOk.l0, if_neg (dnil h)]) (Ev.bind (spec_HouseOk_ev p H hn) ?_)
    unfold tmF
    cases HsB p H with
    | false => simp only [Bool.false_eq_true, if_false, Bool.false_and]; exact Ev.now _
    | true =>
      simp only [if_true, Bool.true_and]
      by_cases e : d = 1
      · simp only [if_pos e]; exact Ev.to (Ev.now _) (by simp [e])
      · simp only [if_neg e]; exact Ev.to (Ev.now _) (by simp [e])
  | cons z zs ih =>
    intro i d h hd0 hd
    obtain ⟨h1, h2, h3⟩ := dcons h
    have hi1 : (i : Int) < (xs.length : Int) := by omega
    have hi0 : 0 ≤ (i : Int) := by omega
    have wd : wrap64 (d + 1) = d + 1 := wz (by omega) (by omega)
    have wd2 : wrap64 (d - 1) = d - 1 := wz (by omega) (by omega)
    have wl : wrap64 ((H.length : Int) - 1) = (H.length : Int) - 1 := wz (by omega) (by omega)
    have j : Ev (fun k => spec_TermOk.j1 k xs d (i : Int) (leafB H z) p H) (HsB p H && (decide ((xs.length : Int) ≤ 9) && tmF H (z :: zs) d)) := by
      cases hl : leafB H z with
      | true => exact Ev.step (fun k => by rw [spec_TermOk.j1, if_pos rfl, wd, wsucc h1 (by omega)]) (Ev.to (ih (i + 1) (d + 1) h3 (by omega) (by omega)) (by rw [tmF, if_pos hl]))
      | false =>
        rw [tmF, hl, if_neg (by decide)]
        by_cases g1 : z.f0 = 1 ∧ z.f1 = 0 ∧ z.f2 = 0
        · have b1 : (z.f0 == 1 && (z.f1 == 0 && z.f2 == 0)) = true := by simp [g1]
          have hb : opB z = true := by simp [opB, g1]
          rw [if_pos hb]
          by_cases g8 : d < 2
          · rw [if_pos g8]
            exact Ev.step (fun k => by rw [spec_TermOk.j1, if_neg (by decide), if_pos hi0, if_pos hi1, rdMk, h2, if_pos b1, if_neg (by omega)]) (Ev.to (Ev.now false) (by simp))
          · rw [if_neg g8]
            exact Ev.step (fun k => by rw [spec_TermOk.j1, if_neg (by decide), if_pos hi0, if_pos hi1, rdMk, h2, if_pos b1, if_pos (by omega), wd2, wsucc h1 (by omega)]) (ih (i + 1) (d - 1) h3 (by omega) (by omega))
        · have b1 : ¬ (z.f0 == 1 && (z.f1 == 0 && z.f2 == 0)) = true := by simpa using g1
          by_cases g2 : z.f0 = 2 ∧ z.f1 = 0 ∧ z.f2 = 0
          · have b2 : (z.f0 == 2 && (z.f1 == 0 && z.f2 == 0)) = true := by simp [g2]
            have hb : opB z = true := by simp [opB, g2]
            rw [if_pos hb]
            by_cases g8 : d < 2
            · rw [if_pos g8]
              exact Ev.step (fun k => by rw [spec_TermOk.j1, if_neg (by decide), if_pos hi0, if_pos hi1, rdMk, h2, if_neg b1, if_pos b2, if_neg (by omega)]) (Ev.to (Ev.now false) (by simp))
            · rw [if_neg g8]
              exact Ev.step (fun k => by rw [spec_TermOk.j1, if_neg (by decide), if_pos hi0, if_pos hi1, rdMk, h2, if_neg b1, if_pos b2, if_pos (by omega), wd2, wsucc h1 (by omega)]) (ih (i + 1) (d - 1) h3 (by omega) (by omega))
          · have b2 : ¬ (z.f0 == 2 && (z.f1 == 0 && z.f2 == 0)) = true := by simpa using g2
            have hb : ¬ opB z = true := by
              unfold opB
              simp only [Bool.and_eq_true, Bool.or_eq_true, decide_eq_true_eq]
              omega
            rw [if_neg hb]
            exact Ev.step (fun k => by rw [spec_TermOk.j1, if_neg (by decide), if_pos hi0, if_pos hi1, rdMk, h2, if_neg b1, if_neg b2]) (Ev.to (Ev.now false) (by simp))
    by_cases g0 : z.f0 = 0
    · by_cases g1 : 0 ≤ z.f1 ∧ z.f1 < (H.length : Int)
      · have hm : rd H z.f1 ∈ H := by
          obtain ⟨n, hn2⟩ := Int.eq_ofNat_of_zero_le g1.1
          rw [hn2, rdn, List.getD_eq_getElem?_getD, List.getElem?_eq_getElem (show n < H.length by omega)]
          exact List.getElem_mem _
        refine Ev.step (f := fun k => (spec_l1Heads.f k (rd H z.f1)).bind fun t => (spec_l1In.f z.f2 1 t).bind fun u => spec_TermOk.j1 k xs d (i : Int) u p H) (fun k => ?_) (Ev.bind (spec_heads_ev _ (hc _ hm)) ?_)
        · rw [spec_TermOk.l0, if_pos hi1, if_pos hi0, rdMk, h2, if_pos g0, l1In_eq2, wl, Option.bind_some, decide_eq_true (show 0 ≤ z.f1 ∧ z.f1 ≤ (H.length : Int) - 1 by omega), if_pos rfl, if_pos g1.1, if_pos g1.2]
        · have e2 : leafB H z = decide (1 ≤ z.f2 ∧ z.f2 ≤ hdI (rd H z.f1)) := by unfold leafB; rw [decide_eq_true g0, decide_eq_true g1]; simp
          simp only [l1In_eq2, Option.bind_some]
          rw [← e2]
          exact j
      · have nl : leafB H z = false := by unfold leafB; rw [decide_eq_false g1]; simp
        rw [nl] at j
        exact Ev.step (fun k => by rw [spec_TermOk.l0, if_pos hi1, if_pos hi0, rdMk, h2, if_pos g0, l1In_eq2, wl, Option.bind_some, decide_eq_false (show ¬ (0 ≤ z.f1 ∧ z.f1 ≤ (H.length : Int) - 1) by omega), if_neg (by decide)]) j
    · have nl : leafB H z = false := by unfold leafB; rw [decide_eq_false g0]; rfl
      rw [nl] at j
      exact Ev.step (fun k => by rw [spec_TermOk.l0, if_pos hi1, if_pos hi0, rdMk, h2, if_neg g0]) j
theorem spec_TermOk_ev (p : Int) (H : List Int) (hn : H.length ≤ 1048576) (hc : ∀ c ∈ H, c ≤ 9223372036854775807) (ms : List S78) (hm : ms.length ≤ 1048576) : Ev (fun k => spec_TermOk.f k p H ms) (TmB p H ms) := spec_TermOk_l0 p H hn hc ms hm ms 0 0 rfl (by omega) (by omega)

/-- Where a step may lead: to an end, or further on. -/
def tgB (n i t : Int) : Bool := decide (t = 10) || (decide (t = 11) || decide (i < t ∧ t < n))
def prF (p : Int) (H : List Int) (n : Int) : List S41 → Int → Bool
  | [], _ => true
  | s :: ss, i => (TmB p H s.f0 && (tgB n i s.f1 && tgB n i s.f2)) && prF p H n ss (i + 1)
def PrB (p : Int) (H : List Int) (ss : List S41) : Bool := decide (1 ≤ (ss.length : Int) ∧ (ss.length : Int) ≤ 4) && prF p H ss.length ss 0
theorem rdSt (xs : List S41) (i : Nat) : rd_T41 xs (i : Int) = xs.getD i z41 := by simp [rd_T41]
theorem tg_of {n i t : Int} : tgB n i t = true ↔ (t = 10 ∨ t = 11 ∨ (i < t ∧ t < n)) := by
  unfold tgB
  simp only [Bool.or_eq_true, decide_eq_true_eq]
section
variable (p : Int) (H : List Int) (ss : List S41)
theorem impl_isProcess_l1 (hn : ss.length ≤ 1048576) (i : Nat) (r : Bool) (y : List Int) (hy : y.length ≤ 2) (c : Ev (fun k => impl_isProcess.l0 k ss ss (ss.length : Int) (wrap64 ((i : Int) + 1)) p H) r) : ∀ (zs : List Int) (j : Nat), y.drop j = zs → Ev (fun k => impl_isProcess.l1 k ss (i : Int) ss (ss.length : Int) (i : Int) y (y.length : Int) (j : Int) p H) (zs.all (tgB ss.length i) && r) := by
  intro zs
  induction zs with
  | nil =>
    intro j h
    exact Ev.step (fun k => by rw [impl_isProcess.l1, if_neg (dnil h)]) (Ev.to c (by simp))
  | cons z zs ih =>
    intro j h
    obtain ⟨h1, h2, h3⟩ := dcons h
    have e := ih (j + 1) h3
    have hi1 : (j : Int) < (y.length : Int) := by omega
    have hi0 : 0 ≤ (j : Int) := by omega
    by_cases g1 : z = 10
    · refine Ev.step (fun k => by rw [impl_isProcess.l1, if_pos hi1, if_pos hi0, if_pos hi1, rdn, h2, if_pos g1, wsucc h1 (by omega)]) (Ev.to e ?_)
      have : tgB ss.length i z = true := tg_of.2 (Or.inl g1)
      simp [this]
    by_cases g2 : z = 11
    · refine Ev.step (fun k => by rw [impl_isProcess.l1, if_pos hi1, if_pos hi0, if_pos hi1, rdn, h2, if_neg g1, if_pos g2, wsucc h1 (by omega)]) (Ev.to e ?_)
      have : tgB ss.length i z = true := tg_of.2 (Or.inr (Or.inl g2))
      simp [this]
    by_cases g3 : z ≤ (i : Int)
    · refine Ev.step (fun k => by rw [impl_isProcess.l1, if_pos hi1, if_pos hi0, if_pos hi1, rdn, h2, if_neg g1, if_neg g2, if_pos g3]) (Ev.to (Ev.now false) ?_)
      have : tgB ss.length i z = false := by rw [Bool.eq_false_iff]; intro q; have := tg_of.1 q; omega
      simp [this]
    by_cases g4 : z ≥ (ss.length : Int)
    · refine Ev.step (fun k => by rw [impl_isProcess.l1, if_pos hi1, if_pos hi0, if_pos hi1, rdn, h2, if_neg g1, if_neg g2, if_neg g3, if_pos g4]) (Ev.to (Ev.now false) ?_)
      have : tgB ss.length i z = false := by rw [Bool.eq_false_iff]; intro q; have := tg_of.1 q; omega
      simp [this]
    · refine Ev.step (fun k => by rw [impl_isProcess.l1, if_pos hi1, if_pos hi0, if_pos hi1, rdn, h2, if_neg g1, if_neg g2, if_neg g3, if_neg g4, wsucc h1 (by omega)]) (Ev.to e ?_)
      have : tgB ss.length i z = true := tg_of.2 (Or.inr (Or.inr (by omega)))
      simp [this]
theorem impl_isProcess_l0 (hH : H.length ≤ 1048576) (hn : ss.length ≤ 1048576) (hin : ∀ s ∈ ss, s.f0.length ≤ 1048576) : ∀ (zs : List S41) (i : Nat), ss.drop i = zs → Ev (fun k => impl_isProcess.l0 k ss ss (ss.length : Int) (i : Int) p H) (prF p H ss.length zs i) := by
  intro zs
  induction zs with
  | nil =>
    intro i h
    exact Ev.step (f := fun _ => some true) (fun k => by rw [impl_isProcess.l0, if_neg (dnil h)]) (Ev.now _)
  | cons z zs ih =>
    intro i h
    obtain ⟨h1, h2, h3⟩ := dcons h
    have hz : z ∈ ss := List.mem_of_mem_drop (by rw [h]; simp)
    have e := ih (i + 1) h3
    have e : Ev (fun k => impl_isProcess.l0 k ss ss (ss.length : Int) (wrap64 ((i : Int) + 1)) p H) (prF p H ss.length zs ((i : Int) + 1)) := by
      rw [wsucc h1 (by omega)]
      exact e
    have e1 := impl_isProcess_l1 p H ss hn i _ [z.f1, z.f2] (by simp) e [z.f1, z.f2] 0 rfl
    have hi1 : (i : Int) < (ss.length : Int) := by omega
    have hi0 : 0 ≤ (i : Int) := by omega
    refine Ev.step (f := fun k => (impl_isTerm.f k p H z.f0).bind fun t => (if t = true then (impl_isProcess.l1 k ss (i : Int) ss (ss.length : Int) (i : Int) [z.f1, z.f2] (([z.f1, z.f2] : List Int).length : Int) ((0 : Nat) : Int) p H) else (some false))) (fun k => ?_) (Ev.bind (impl_isTerm_ev p H hH _ (hin z hz)) ?_)
    · rw [impl_isProcess.l0, if_pos hi1, if_pos hi0, if_pos hi1, rdSt, h2]
      rfl
    · rw [prF]
      cases TmB p H z.f0 with
      | false => simp only [Bool.false_eq_true, if_false, Bool.false_and]; exact Ev.now _
      | true =>
        simp only [if_true, Bool.true_and]
        refine Ev.to e1 ?_
        simp [Bool.and_assoc]
theorem impl_isProcess_ev (hH : H.length ≤ 1048576) (hn : ss.length ≤ 1048576) (hin : ∀ s ∈ ss, s.f0.length ≤ 1048576) : Ev (fun k => impl_isProcess.f k p H ss) (PrB p H ss) := by
  have stop : Ev (fun k => impl_isProcess.j0 k ss true p H) false := Ev.step (f := fun _ => some false) (fun k => by rw [impl_isProcess.j0, if_pos rfl]) (Ev.now _)
  unfold impl_isProcess.f PrB
  by_cases h1 : (ss.length : Int) < 1
  · simp only [if_pos h1]
    exact Ev.to stop (by rw [decide_eq_false (by omega)]; rfl)
  · simp only [if_neg h1]
    by_cases h2 : (ss.length : Int) > 4
    · simp only [decide_eq_true h2]
      exact Ev.to stop (by rw [decide_eq_false (by omega)]; rfl)
    · rw [decide_eq_true (show 1 ≤ (ss.length : Int) ∧ (ss.length : Int) ≤ 4 by omega), Bool.true_and]
      simp only [decide_eq_false h2]
      exact Ev.step (f := fun k => impl_isProcess.l0 k ss ss (ss.length : Int) ((0 : Nat) : Int) p H) (fun k => by rw [impl_isProcess.j0, if_neg (by decide)]; rfl) (impl_isProcess_l0 p H ss hH hn hin ss 0 rfl)
end

/-- A term as a tree: marks that name crowds, and marks that join two terms. -/
inductive Tm where
  | lf : S78 → Tm
  | nd : S78 → Tm → Tm → Tm
def flat : Tm → List S78
  | .lf m => [m]
  | .nd m a b => flat a ++ (flat b ++ [m])
def good (H : List Int) : Tm → Prop
  | .lf m => leafB H m = true
  | .nd m a b => opB m = true ∧ good H a ∧ good H b
/-- Does a crowd satisfy a term. -/
def val (H : List Int) (c : Int) : Tm → Bool
  | .lf m => decide (hdI (Go.bits .and .i64 (rd H m.f1) c) ≥ m.f2)
  | .nd m a b => if m.f0 = 2 then (val H c a || val H c b) else (val H c a && val H c b)
/-- The terms on the pile, the last one ahead, behind the row of marks. -/
def psF (H : List Int) : List S78 → List Tm → List Tm
  | [], s => s
  | m :: ms, s => if leafB H m = true then psF H ms (.lf m :: s) else match s with
    | b :: a :: s => psF H ms (.nd m a b :: s)
    | s => s
def flats : List Tm → List S78
  | [] => []
  | t :: s => flats s ++ flat t
theorem ps_ok (H : List Int) : ∀ (ms : List S78) (s : List Tm), tmF H ms (s.length : Int) = true → (∀ t ∈ s, good H t) → ∃ t, psF H ms s = [t] ∧ good H t ∧ flat t = flats s ++ ms := by
  intro ms
  induction ms with
  | nil =>
    intro s h hg
    have hl : (s.length : Int) = 1 := of_decide_eq_true h
    match s, hl, hg with
    | [t], _, hg => exact ⟨t, rfl, hg t (by simp), by simp [flats]⟩
    | [], hl, _ => simp at hl
    | _ :: _ :: _, hl, _ => simp at hl; omega
  | cons m ms ih =>
    intro s h hg
    unfold tmF at h
    by_cases hl : leafB H m = true
    · rw [if_pos hl] at h
      obtain ⟨t, h1, h2, h3⟩ := ih (.lf m :: s) (by simpa using h) (by
        intro t ht
        rcases List.mem_cons.1 ht with rfl | ht
        · exact hl
        · exact hg t ht)
      exact ⟨t, by unfold psF; rw [if_pos hl]; exact h1, h2, by rw [h3]; simp [flats, flat]⟩
    · rw [if_neg hl] at h
      by_cases ho : opB m = true
      · rw [if_pos ho] at h
        by_cases hd : (s.length : Int) < 2
        · rw [if_pos hd] at h; cases h
        · rw [if_neg hd] at h
          match s, hd, hg, h with
          | [], hd, _, _ => simp at hd
          | [_], hd, _, _ => simp at hd
          | b :: a :: s, _, hg, h =>
            obtain ⟨t, h1, h2, h3⟩ := ih (.nd m a b :: s) (by
              have e : (((b :: a :: s).length : Int) - 1) = (((Tm.nd m a b :: s).length : Nat) : Int) := by simp
              rw [← e]; exact h) (by
              intro t ht
              rcases List.mem_cons.1 ht with rfl | ht
              · exact ⟨ho, hg a (by simp), hg b (by simp)⟩
              · exact hg t (by simp [ht]))
            exact ⟨t, by rw [psF, if_neg hl]; exact h1, h2, by rw [h3]; simp [flats, flat]⟩
      · rw [if_neg ho] at h; cases h
def saysB (H : List Int) (c : Int) (ms : List S78) : Bool := match psF H ms [] with
  | t :: _ => val H c t
  | [] => false
theorem flat_pos (t : Tm) : 0 < (flat t).length := by cases t <;> simp [flat] <;> omega
theorem and_fin : ∀ a b : Fin 64, 0 ≤ Go.bits .and .i64 (a.val : Int) (b.val : Int) ∧ Go.bits .and .i64 (a.val : Int) (b.val : Int) < 64 ∧ Go.bits .and .i64 (a.val : Int) (b.val : Int) = Go.bits .and .i64 (b.val : Int) (a.val : Int) := by decide +kernel
theorem and_small {a b : Int} (h0 : 0 ≤ a) (h1 : a < 64) (h2 : 0 ≤ b) (h3 : b < 64) : 0 ≤ Go.bits .and .i64 a b ∧ Go.bits .and .i64 a b < 64 ∧ Go.bits .and .i64 a b = Go.bits .and .i64 b a := by
  obtain ⟨n, rfl⟩ := Int.eq_ofNat_of_zero_le h0
  obtain ⟨m, rfl⟩ := Int.eq_ofNat_of_zero_le h2
  exact and_fin ⟨n, by omega⟩ ⟨m, by omega⟩
theorem leaf_of {H : List Int} {m : S78} (h : leafB H m = true) : m.f0 = 0 ∧ 0 ≤ m.f1 ∧ m.f1 < (H.length : Int) ∧ rd H m.f1 ∈ H := by
  unfold leafB at h
  simp only [Bool.and_eq_true, decide_eq_true_eq] at h
  obtain ⟨h1, ⟨h2, h3⟩, h4⟩ := h
  refine ⟨h1, h2, h3, ?_⟩
  obtain ⟨n, hn2⟩ := Int.eq_ofNat_of_zero_le h2
  rw [hn2, rdn, List.getD_eq_getElem?_getD, List.getElem?_eq_getElem (show n < H.length by omega)]
  exact List.getElem_mem _
theorem op_of {m : S78} (h : opB m = true) : m.f0 = 1 ∨ m.f0 = 2 := by
  unfold opB at h
  simp only [Bool.and_eq_true, Bool.or_eq_true, decide_eq_true_eq] at h
  exact h.1
theorem drop_app {α : Type} {xs a b : List α} {i : Nat} (h : xs.drop i = a ++ b) : xs.drop (i + a.length) = b := by
  rw [← List.drop_drop, h, List.drop_left]
section
variable (p : Int) (H : List Int) (c : Int)
theorem consents_tree (hH : HsB p H = true) (h0 : 0 ≤ c) (h1 : c < 64) (xs : List S78) (hx : xs.length ≤ 1048576) (r : Bool) : ∀ (t : Tm), good H t → ∀ (i : Nat) (rest : List S78) (st : List Bool), xs.drop i = flat t ++ rest → st.length ≤ i →
    Ev (fun k => impl_consents.l0 k c (st ++ [val H c t]) xs (xs.length : Int) ((i + (flat t).length : Nat) : Int) p H) r → Ev (fun k => impl_consents.l0 k c st xs (xs.length : Int) (i : Int) p H) r := by
  have hh := HsB_of hH
  intro t
  induction t with
  | lf m =>
    intro hg i rest st hd hst e
    obtain ⟨d1, d2, d3⟩ := dcons (show xs.drop i = m :: rest from hd)
    obtain ⟨g0, g1, g2, g3⟩ := leaf_of hg
    have hr := hh.2.2.2 _ g3
    have ha := and_small (Int.le_of_lt hr.1) hr.2 h0 h1
    refine Ev.step (fun k => ?_) e
    rw [impl_consents.l0, if_pos (by omega), if_pos (by omega), if_pos (by omega), rdMk, d2, if_pos g0, if_pos g1, if_pos g2, impl_heads ha.1 ha.2.1, Option.bind_some, if_pos (by omega), wsucc d1 (by omega)]
    rfl
  | nd m a b iha ihb =>
    intro hg i rest st hd hst e
    obtain ⟨go, ga, gb⟩ := hg
    have hd' : xs.drop i = flat a ++ (flat b ++ (m :: rest)) := by rw [hd]; simp [flat]
    have hda := drop_app hd'
    have hdb := drop_app hda
    obtain ⟨d1, d2, d3⟩ := dcons hdb
    have pa := flat_pos a
    have pb := flat_pos b
    refine iha ga i _ st hd' hst (ihb gb _ _ _ hda (by simp <;> omega) ?_)
    generalize hj : i + (flat a).length + (flat b).length = j at *
    have ej : i + (flat (Tm.nd m a b)).length = j + 1 := by simp [flat]; omega
    rw [ej] at e
    have hi1 : (j : Int) < (xs.length : Int) := by omega
    have hi0 : 0 ≤ (j : Int) := by omega
    have g0 : ¬ m.f0 = 0 := by have := op_of go; omega
    generalize hva : val H c a = va at *
    generalize hvb : val H c b = vb at *
    have len : ((st ++ [va] ++ [vb]).length : Int) = (st.length : Int) + 2 := by simp <;> omega
    have w2 : wrap64 (((st ++ [va] ++ [vb]).length : Int) - 2) = (st.length : Int) := by rw [len, wz (by omega) (by omega)]; omega
    have w1 : wrap64 (((st ++ [va] ++ [vb]).length : Int) - 1) = (st.length : Int) + 1 := by rw [len, wz (by omega) (by omega)]; omega
    have r2 : rdOf false (st ++ [va] ++ [vb]) (st.length : Int) = va := by simp [rdOf]
    have r1 : rdOf false (st ++ [va] ++ [vb]) ((st.length : Int) + 1) = vb := by
      have : ((st.length : Int) + 1).toNat = st.length + 1 := by omega
      simp [rdOf, this]
    have tk : (st ++ [va] ++ [vb]).take ((st.length : Int)).toNat = st := by simp
    have hv : val H c (Tm.nd m a b) = if m.f0 = 2 then (va || vb) else (va && vb) := by rw [val, hva, hvb]
    rw [hv] at e
    refine Ev.step (fun k => ?_) e
    rw [impl_consents.l0, if_pos hi1, if_pos hi0, if_pos hi1, rdMk, d2, if_neg g0, w2, w1, len, if_pos (by omega), if_pos (by omega), if_pos (by omega), if_pos (by omega), r2, r1, tk]
    simp only [if_pos (show (st.length : Int) ≤ (st.length : Int) + 2 by omega), Option.bind_some, if_pos (show st.length < 140737488355328 by omega), wsucc d1 (show xs.length ≤ 9223372036854775807 by omega)]
    by_cases g2 : m.f0 = 2
    · simp only [if_pos g2]
      cases va <;> simp
    · simp only [if_neg g2]
      cases va <;> simp
theorem consents_ev (ms : List S78) (hm : ms.length ≤ 1048576) (ht : TmB p H ms = true) (h0 : 0 ≤ c) (h1 : c < 64) : Ev (fun k => impl_consents.f k p H ms c) (saysB H c ms) := by
  unfold TmB at ht
  simp only [Bool.and_eq_true, decide_eq_true_eq] at ht
  obtain ⟨hH, hl, hf⟩ := ht
  obtain ⟨t, t1, t2, t3⟩ := ps_ok H ms [] (by simpa using hf) (by simp)
  have t3 : flat t = ms := by simpa [flats] using t3
  have hv : saysB H c ms = val H c t := by unfold saysB; rw [t1]
  rw [hv]
  refine consents_tree p H c hH h0 h1 ms hm _ t t2 0 [] [] (by simp [t3]) (by simp) ?_
  rw [t3]
  refine Ev.step (fun k => ?_) (Ev.now (val H c t))
  rw [impl_consents.l0, if_neg (by omega), if_pos (by simp)]
  simp [rdOf]
end

theorem prF_get {p : Int} {H : List Int} {n : Int} : ∀ (ss : List S41) (j : Int) (i : Nat), prF p H n ss j = true → i < ss.length → TmB p H (ss.getD i z41).f0 = true ∧ tgB n (j + i) (ss.getD i z41).f1 = true ∧ tgB n (j + i) (ss.getD i z41).f2 = true := by
  intro ss
  induction ss with
  | nil => intro j i _ hi; simp at hi
  | cons s ss ih =>
    intro j i h hi
    rw [prF] at h
    simp only [Bool.and_eq_true] at h
    obtain ⟨⟨h1, h2, h3⟩, h4⟩ := h
    cases i with
    | zero => simpa using ⟨h1, h2, h3⟩
    | succ i =>
      have := ih (j + 1) i h4 (by simp at hi; omega)
      have e : j + 1 + (i : Int) = j + ((i + 1 : Nat) : Int) := by omega
      rw [e] at this
      simpa using this
theorem PrB_of {p : Int} {H : List Int} {ss : List S41} (h : PrB p H ss = true) : 1 ≤ ss.length ∧ ss.length ≤ 4 ∧ ∀ i : Nat, i < ss.length → TmB p H (ss.getD i z41).f0 = true ∧ tgB ss.length i (ss.getD i z41).f1 = true ∧ tgB ss.length i (ss.getD i z41).f2 = true := by
  unfold PrB at h
  simp only [Bool.and_eq_true, decide_eq_true_eq] at h
  refine ⟨by omega, by omega, fun i hi => ?_⟩
  have := prF_get ss 0 i h.2 hi
  simpa using this
theorem TmB_len {p : Int} {H : List Int} {ms : List S78} (h : TmB p H ms = true) : ms.length ≤ 9 ∧ HsB p H = true := by
  unfold TmB at h
  simp only [Bool.and_eq_true, decide_eq_true_eq] at h
  exact ⟨by omega, h.1⟩
theorem CrB_small {p a : Int} (h : CrB p a = true) : 0 ≤ a ∧ a < 64 := by
  have c := CrB_of h
  have q := pow_small c.1 c.2.1
  omega

theorem wrap_le (x : Int) : wrap64 x ≤ 9223372036854775807 := by unfold wrap64; omega
def SmallH (H : List Int) : Prop := H.length ≤ 6 ∧ ∀ c ∈ H, c ≤ 9223372036854775807
section
variable {s : List Int} (hs : ∀ x ∈ s, (Lit.int .u8 x).wf = true) (hl : s.length ≤ 2000)
include hs hl
theorem house_l0 (n p : Int) (hp : 0 ≤ p) : ∀ (m : Nat) (H : List Int) (q : Int), H.length + m ≤ 5 → (∀ c ∈ H, c ≤ 9223372036854775807) → 0 ≤ q → q + m ≤ 100000 → ∃ p2 H2 q2, Ev (fun k => spec_l20House.l0 k n (m : Int) s q p H) (p2, H2, q2) ∧ SmallH H2 ∧ 0 ≤ q2 ∧ q2 ≤ q + m + 10 := by
  intro m
  induction m with
  | zero =>
    intro H q hH hc h0 hq
    obtain ⟨o, q1, e1, b1, b2, _⟩ := odd_ev hs hl q n h0 (by omega)
    have st : ∀ k, spec_l20House.l0 (k + 1) n ((0 : Nat) : Int) s q p H = _ := fun k => by rw [spec_l20House.l0, if_neg (by omega)]
    cases o with
    | false => exact ⟨p, H, q1, Ev.step st (Ev.bind e1 (by simp only [Bool.false_eq_true, if_false]; exact Ev.now _)), ⟨by omega, hc⟩, by omega, by omega⟩
    | true =>
      obtain ⟨r2, e2, c0, c1, _⟩ := pick_ev hs hl q1 3 (by omega) (by omega)
      by_cases g0 : r2 = 0
      · obtain ⟨r3, e3, d0, d1, _⟩ := pick_ev hs hl (q1 + 1) 2 (by omega) (by omega)
        have d1 := d1 (by decide)
        refine ⟨rd [0, 7] r3, H, q1 + 1 + 1, Ev.step st (Ev.bind e1 (by simp only [if_true]; exact Ev.bind e2 (by simp only [if_pos g0, Option.bind_some]; exact Ev.bind e3 (by simp only [if_pos d0, if_pos (show r3 < (([0, 7] : List Int).length : Int) by simpa using d1)]; exact Ev.now _)))), ⟨by omega, hc⟩, by omega, by omega⟩
      by_cases g1 : r2 = 1
      · refine ⟨p, H ++ [0], q1 + 1, Ev.step st (Ev.bind e1 (by simp only [if_true]; exact Ev.bind e2 (by simp only [if_neg g0, if_pos g1, if_pos (show H.length < 17592186044416 by omega)]; exact Ev.now _))), ⟨by simp; omega, fun c hm => ?_⟩, by omega, by omega⟩
        rcases List.mem_append.1 hm with hm | hm
        · exact hc c hm
        · have : c = 0 := by simpa using hm
          omega
      · exact ⟨p, [], q1 + 1, Ev.step st (Ev.bind e1 (by simp only [if_true]; exact Ev.bind e2 (by simp only [if_neg g0, if_neg g1]; exact Ev.now _))), ⟨by simp, by simp⟩, by omega, by omega⟩
  | succ m ih =>
    intro H q hH hc h0 hq
    have w : Unit → wrap64 (((m + 1 : Nat) : Int) - 1) = (m : Int) := fun _ => by rw [wz (by omega) (by omega)]; omega
    obtain ⟨r1, e1, _⟩ := pick_ev hs hl q (wrap64 ((shl .i64 1 p) - 1)) h0 (by omega)
    have hc2 : ∀ c ∈ H ++ [wrap64 (1 + r1)], c ≤ 9223372036854775807 := by
      intro c hm
      rcases List.mem_append.1 hm with hm | hm
      · exact hc c hm
      · have e : c = wrap64 (1 + r1) := by simpa using hm
        rw [e]
        exact wrap_le _
    obtain ⟨p2, H2, q2, e, g1, g2, g3⟩ := ih (H ++ [wrap64 (1 + r1)]) (q + 1) (by simp; omega) hc2 (by omega) (by omega)
    refine ⟨p2, H2, q2, Ev.step (fun k => by rw [spec_l20House.l0, if_pos (by omega), if_pos hp]) (Ev.bind e1 ?_), g1, g2, by omega⟩
    simp only [if_pos (show H.length < 17592186044416 by omega), w ()]
    exact e
theorem house_ev (q n : Int) (h0 : 0 ≤ q) (hq : q ≤ 90000) : ∃ p2 H2 q2, Ev (fun k => spec_l20House.f k s q n) (p2, H2, q2) ∧ SmallH H2 ∧ 0 ≤ q2 ∧ q2 ≤ q + 20 := by
  obtain ⟨r0, e0, a0, a1, _⟩ := pick_ev hs hl q 5 h0 (by omega)
  have a1 := a1 (by decide)
  obtain ⟨r1, e1, b0, b1, _⟩ := pick_ev hs hl (q + 1) 9 (by omega) (by omega)
  have b1 := b1 (by decide)
  obtain ⟨r2, e2, c0, c1, _⟩ := pick_ev hs hl (q + 1 + 1) 3 (by omega) (by omega)
  have c1 := c1 (by decide)
  obtain ⟨m, hm⟩ := Int.eq_ofNat_of_zero_le (show 0 ≤ 1 + r2 by omega)
  have hd : Int.tdiv r1 8 = r1 / 8 := Int.tdiv_eq_ediv_of_nonneg b0
  have hP : 0 ≤ wrap64 ((wrap64 (1 + r0)) + (wrap64 (Int.tdiv r1 8))) := by
    rw [hd, wz (x := 1 + r0) (by omega) (by omega), wz (x := r1 / 8) (by omega) (by omega), wz (by omega) (by omega)]
    omega
  obtain ⟨p2, H2, q2, e, g1, g2, g3⟩ := house_l0 hs hl n _ hP m [] (q + 1 + 1 + 1) (by simp; omega) (by simp) (by omega) (by omega)
  refine ⟨p2, H2, q2, ?_, g1, g2, by omega⟩
  have w : wrap64 (1 + r2) = (m : Int) := by rw [wz (by omega) (by omega)]; exact hm
  unfold spec_l20House.f
  refine Ev.bind e0 (Ev.bind e1 (Ev.bind e2 ?_))
  simp only [w]
  exact e
end

theorem alive_eq : laws_alive.f = some true := by decide +kernel

/-- Where the walk over the steps, from step i on, with so much fuel, ends: at a law. -/
def goF (H : List Int) (c : Int) (ss : List S41) : Nat → Int → Bool
  | 0, _ => false
  | f + 1, i => if i < 10 then goF H c ss f (if saysB H c (rd_T41 ss i).f0 = true then (rd_T41 ss i).f1 else (rd_T41 ss i).f2) else decide (i = 10)
def LbB (p : Int) (H : List Int) (ss : List S41) (c : Int) : Bool := PrB p H ss && (CrB p c && goF H c ss 5 0)
section
variable (p : Int) (H : List Int) (c : Int) (ss : List S41)
/-- Whatever the fuel, if it is enough. -/
theorem goF_end (f : Nat) (i : Int) (h : i = 10 ∨ i = 11) : goF H c ss (f + 1) i = decide (i = 10) := by rw [goF, if_neg (by omega)]
theorem lawFrom_l0 (hp : PrB p H ss = true) (h0 : 0 ≤ c) (h1 : c < 64) : ∀ (f : Nat) (i : Nat), i < ss.length → ss.length ≤ i + f → Ev (fun k => impl_lawFrom.l0 k ss (i : Int) c p H) (goF H c ss (f + 1) i) := by
  obtain ⟨p1, p2, p3⟩ := PrB_of hp
  intro f
  induction f with
  | zero => intro i hi hf; omega
  | succ f ih =>
    intro i hi hf
    obtain ⟨t1, t2, t3⟩ := p3 i hi
    have go (t : Int) (ht : tgB ss.length i t = true) : Ev (fun k => impl_lawFrom.l0 k ss t c p H) (goF H c ss (f + 1) t) := by
      rcases tg_of.1 ht with e | e | e
      · subst e
        exact Ev.step (fun k => by rw [impl_lawFrom.l0, if_neg (by omega)]; rfl) (Ev.to (Ev.now true) (by rw [goF_end _ _ _ _ _ (Or.inl rfl)]; rfl))
      · subst e
        exact Ev.step (fun k => by rw [impl_lawFrom.l0, if_neg (by omega)]; rfl) (Ev.to (Ev.now false) (by rw [goF_end _ _ _ _ _ (Or.inr rfl)]; rfl))
      · obtain ⟨n, rfl⟩ := Int.eq_ofNat_of_zero_le (show 0 ≤ t by omega)
        exact ih n (by omega) (by omega)
    rw [goF, if_pos (by omega), rdSt]
    generalize hs : ss.getD i z41 = s at *
    have hl := TmB_len t1
    refine Ev.step (f := fun k => (impl_Step_next.f k s.f0 s.f1 s.f2 p H c).bind fun t => impl_lawFrom.l0 k ss t c p H) (fun k => ?_) (Ev.bind (a := if saysB H c s.f0 = true then s.f1 else s.f2) ?_ ?_)
    · rw [impl_lawFrom.l0, if_pos (by omega), if_pos (by omega), rdSt, hs]
    · unfold impl_Step_next.f
      refine Ev.bind (consents_ev p H c s.f0 (by omega) t1 h0 h1) ?_
      cases saysB H c s.f0 with
      | true => simp only [if_true]; exact Ev.now _
      | false => simp only [Bool.false_eq_true, if_false]; exact Ev.now _
    · cases saysB H c s.f0 with
      | true => simp only [if_true]; exact go _ t2
      | false => simp only [Bool.false_eq_true, if_false]; exact go _ t3
end

section
variable (p : Int) (H : List Int) (c : Int) (ss : List S41)
theorem impl_LawBy_ev (hH : H.length ≤ 1048576) (hn : ss.length ≤ 1048576) (hin : ∀ s ∈ ss, s.f0.length ≤ 1048576) : Ev (fun k => impl_LawBy.f k p H ss c) (LbB p H ss c) := by
  unfold impl_LawBy.f LbB
  refine Ev.bind (impl_isProcess_ev p H ss hH hn hin) ?_
  cases hp : PrB p H ss with
  | false => simp only [Bool.false_eq_true, if_false, Bool.false_and]; exact Ev.now _
  | true =>
    have q := PrB_of hp
    simp only [if_true, Bool.true_and, impl_isCrowd_eq, Option.bind_some]
    cases hc : CrB p c with
    | false => simp only [Bool.false_eq_true, if_false, Bool.false_and]; exact Ev.now _
    | true =>
      simp only [if_true, Bool.true_and]
      have s := CrB_small hc
      exact Ev.bind (lawFrom_l0 p H c ss hp s.1 s.2 4 0 (by omega) (by omega)) (Ev.now _)
end

/-- Wherever the no of a step leads to a law, its yes does too: for so many crowds from c on. -/
def sdC (H : List Int) (ss : List S41) (s : S41) : Nat → Int → Bool
  | 0, _ => true
  | d + 1, c => (!goF H c ss 5 s.f2 || goF H c ss 5 s.f1) && sdC H ss s d (c + 1)
def sdF (H : List Int) (ss : List S41) (M : Nat) : List S41 → Bool
  | [] => true
  | s :: zs => sdC H ss s M 0 && sdF H ss M zs
def SdB (p : Int) (H : List Int) (ss : List S41) : Bool := PrB p H ss && sdF H ss (2 ^ p.toNat) ss
section
variable (p : Int) (H : List Int) (ss : List S41)
theorem lawFrom_any (hp : PrB p H ss = true) (c : Int) (h0 : 0 ≤ c) (h1 : c < 64) (i t : Int) (hi : 0 ≤ i) (ht : tgB ss.length i t = true) : Ev (fun k => impl_lawFrom.l0 k ss t c p H) (goF H c ss 5 t) := by
  obtain ⟨p1, p2, p3⟩ := PrB_of hp
  rcases tg_of.1 ht with e | e | e
  · subst e
    exact Ev.step (fun k => by rw [impl_lawFrom.l0, if_neg (by omega)]; rfl) (Ev.to (Ev.now true) (by rw [goF_end _ _ _ _ _ (Or.inl rfl)]; rfl))
  · subst e
    exact Ev.step (fun k => by rw [impl_lawFrom.l0, if_neg (by omega)]; rfl) (Ev.to (Ev.now false) (by rw [goF_end _ _ _ _ _ (Or.inr rfl)]; rfl))
  · obtain ⟨n, rfl⟩ := Int.eq_ofNat_of_zero_le (show 0 ≤ t by omega)
    exact lawFrom_l0 p H c ss hp h0 h1 4 n (by omega) (by omega)
theorem pow_nat {p : Int} (h0 : 1 ≤ p) (h1 : p ≤ 6) : shl .i64 1 p = ((2 ^ p.toNat : Nat) : Int) ∧ 2 ^ p.toNat ≤ 64 := by
  have : p = 1 ∨ p = 2 ∨ p = 3 ∨ p = 4 ∨ p = 5 ∨ p = 6 := by omega
  rcases this with rfl | rfl | rfl | rfl | rfl | rfl <;> decide +kernel
theorem isSound_l1 (hp : PrB p H ss = true) (M : Nat) (hM : M ≤ 64) (i : Nat) (s : S41) (t2 : tgB ss.length i s.f1 = true) (t3 : tgB ss.length i s.f2 = true) (r : Bool) (e : Ev (fun k => impl_isSound.l0 k ss ss (ss.length : Int) (wrap64 ((i : Int) + 1)) p H) r) :
    ∀ (d c : Nat), c + d = M → Ev (fun k => impl_isSound.l1 k ss ss (ss.length : Int) (i : Int) (M : Int) (c : Int) p H s.f0 s.f1 s.f2) (sdC H ss s d c && r) := by
  intro d
  induction d with
  | zero =>
    intro c h
    exact Ev.step (fun k => by rw [impl_isSound.l1, if_neg (by omega)]) (Ev.to e (by simp [sdC]))
  | succ d ih =>
    intro c h
    have e1 := ih (c + 1) (by omega)
    have wc : wrap64 ((c : Int) + 1) = ((c + 1 : Nat) : Int) := by rw [wz (by omega) (by omega)]; omega
    refine Ev.step (f := fun k => (impl_lawFrom.f k p H ss s.f2 (c : Int)).bind fun t169 => (if t169 = true then ((impl_lawFrom.f k p H ss s.f1 (c : Int)).bind fun t170 => (if t170 = true then (impl_isSound.l1 k ss ss (ss.length : Int) (i : Int) (M : Int) ((c + 1 : Nat) : Int) p H s.f0 s.f1 s.f2) else (some false))) else (impl_isSound.l1 k ss ss (ss.length : Int) (i : Int) (M : Int) ((c + 1 : Nat) : Int) p H s.f0 s.f1 s.f2))) (fun k => ?_) (Ev.bind (lawFrom_any p H ss hp (c : Int) (by omega) (by omega) i _ (by omega) t3) ?_)
    · rw [impl_isSound.l1, if_pos (by omega), wc]
    · rw [sdC]
      have e2 : (c : Int) + 1 = ((c + 1 : Nat) : Int) := by omega
      rw [e2]
      cases goF H c ss 5 s.f2 with
      | false => simp only [Bool.false_eq_true, if_false, Bool.not_false, Bool.true_or, Bool.true_and]; exact e1
      | true =>
        simp only [if_true, Bool.not_true, Bool.false_or]
        refine Ev.bind (lawFrom_any p H ss hp (c : Int) (by omega) (by omega) i _ (by omega) t2) ?_
        cases goF H c ss 5 s.f1 with
        | true => simp only [if_true, Bool.true_and]; exact e1
        | false => simp only [Bool.false_eq_true, if_false, Bool.false_and]; exact Ev.now _
theorem PrB_p (hp : PrB p H ss = true) : 1 ≤ p ∧ p ≤ 6 := by
  obtain ⟨p1, p2, p3⟩ := PrB_of hp
  have := HsB_of (TmB_len (p3 0 (by omega)).1).2
  exact ⟨this.2.1, this.2.2.1⟩
theorem isSound_l0 (hp : PrB p H ss = true) : ∀ (zs : List S41) (i : Nat), ss.drop i = zs → Ev (fun k => impl_isSound.l0 k ss ss (ss.length : Int) (i : Int) p H) (sdF H ss (2 ^ p.toNat) zs) := by
  obtain ⟨p1, p2, p3⟩ := PrB_of hp
  have pp := PrB_p p H ss hp
  have pn := pow_nat pp.1 pp.2
  intro zs
  induction zs with
  | nil =>
    intro i h
    exact Ev.step (f := fun _ => some true) (fun k => by rw [impl_isSound.l0, if_neg (dnil h)]) (Ev.now _)
  | cons z zs ih =>
    intro i h
    obtain ⟨h1, h2, h3⟩ := dcons h
    obtain ⟨t1, t2, t3⟩ := p3 i h1
    rw [h2] at t2 t3
    have e := ih (i + 1) h3
    rw [← wsucc h1 (by omega)] at e
    have e1 := isSound_l1 p H ss hp (2 ^ p.toNat) pn.2 i z t2 t3 _ e (2 ^ p.toNat) 0 (by omega)
    refine Ev.step (fun k => ?_) e1
    rw [impl_isSound.l0, if_pos (by omega), if_pos (by omega), if_pos (by omega), rdSt, h2, if_pos (by omega), pn.1]
    rfl
end

section
variable (p : Int) (H : List Int) (ss : List S41)
theorem impl_SoundOk_ev (hH : H.length ≤ 1048576) (hn : ss.length ≤ 1048576) (hin : ∀ s ∈ ss, s.f0.length ≤ 1048576) : Ev (fun k => impl_SoundOk.f k p H ss) (SdB p H ss) := by
  unfold impl_SoundOk.f SdB
  refine Ev.bind (impl_isProcess_ev p H ss hH hn hin) ?_
  cases hp : PrB p H ss with
  | false => simp only [Bool.false_eq_true, if_false, Bool.false_and]; exact Ev.now _
  | true =>
    simp only [if_true, Bool.true_and]
    exact Ev.bind (isSound_l0 p H ss hp ss 0 rfl) (Ev.now _)
end

theorem rdMM (xs : List (List S78)) (i : Nat) : rd_L3 xs (i : Int) = xs.getD i [] := by simp [rd_L3]
theorem getMM {X : List (List S78)} {B : Nat} (h : ∀ r ∈ X, r.length ≤ B) (i : Nat) : (X.getD i []).length ≤ B := by
  rw [List.getD_eq_getElem?_getD]
  cases e : X[i]? with
  | none => simp
  | some x => exact h x (List.mem_of_getElem? e)
theorem w12 (i : Nat) (h : i ≤ 1000) : wrap64 ((i : Int) + 1) = ((i + 1 : Nat) : Int) ∧ wrap64 ((i : Int) + 2) = ((i + 2 : Nat) : Int) := ⟨by rw [wz (by omega) (by omega)]; omega, by rw [wz (by omega) (by omega)]; omega⟩
theorem pow_step (B m : Nat) (hp : (B + 1) * 2 ^ (m + 1) ≤ 1000) : B ≤ 1000 ∧ (2 * B + 1 + 1) * 2 ^ m ≤ 1000 := by
  have e : (B + 1) * 2 ^ (m + 1) = (2 * B + 1 + 1) * 2 ^ m := by
    rw [Nat.pow_succ, Nat.mul_comm (2 ^ m) 2, ← Nat.mul_assoc]
    congr 1
    omega
  rw [e] at hp
  have h2 : (2 * B + 1 + 1) * 1 ≤ (2 * B + 1 + 1) * 2 ^ m := Nat.mul_le_mul_left _ Nat.one_le_two_pow
  have h3 := Nat.le_trans h2 hp
  rw [Nat.mul_one] at h3
  exact ⟨by clear e h2 hp; omega, hp⟩
theorem Ev_if {α : Type} {c : Prop} [Decidable c] {A B : Nat → Option α} {r : α} (h : c) (e : Ev A r) : Ev (fun k => if c then A k else B k) r := by
  obtain ⟨K, hK⟩ := e
  exact ⟨K, fun k hk => (if_pos h).trans (hK k hk)⟩
theorem term_merge {s : List Int} (X : List (List S78)) (i : Nat) (hi : i + 1 < X.length) (hX : X.length ≤ 100) (B : Nat) (hb : B ≤ 1000) (hB : ∀ r ∈ X, r.length ≤ B) (q r2 : Int) (e1 : Ev (fun k => spec_l20Rd_pick.f k s q ((X.length : Int) - 1)) ((i : Int), q + 1)) (e2 : Ev (fun k => spec_l20Rd_pick.f k s (q + 1) 2) (r2, q + 1 + 1)) (both : List S78) (hboth : both = X.getD i [] ++ X.getD (i + 1) [] ++ [(⟨wrap64 (1 + r2), 0, 0⟩ : S78)]) {res : List S78 × Int} (e3 : Ev (fun k => spec_l20Term.l1 k (X.take i ++ [both] ++ X.drop (i + 2)) s (q + 1 + 1)) res) : Ev (fun k => spec_l20Term.l1 k X s q) res := by
  have ga := getMM hB i
  have gb := getMM hB (i + 1)
  have c0 : (X.length : Int) > 1 := by omega
  have c1 : (0 : Int) ≤ (i : Int) := by omega
  have c2 : (i : Int) < (X.length : Int) := by omega
  have c3 : (X.getD i []).length < 5864062014805 := by omega
  have c4 : (0 : Int) ≤ ((i + 1 : Nat) : Int) := by omega
  have c5 : ((i + 1 : Nat) : Int) < (X.length : Int) := by omega
  have c6 : (X.getD i []).length + (X.getD (i + 1) []).length < 5864062014805 := by omega
  have d1 : (X.getD i [] ++ X.getD (i + 1) []).length < 5864062014805 := by rw [List.length_append]; exact c6
  have d2 : (i : Int) ≤ (X.length : Int) := by omega
  have d3 : (X.take i).length < 5864062014805 := by rw [List.length_take]; omega
  have d4 : (0 : Int) ≤ ((i + 2 : Nat) : Int) := by omega
  have d5 : ((i + 2 : Nat) : Int) ≤ (X.length : Int) := by omega
  have d6 : (X.take i ++ [both]).length + (X.drop (i + 2)).length < 5864062014805 := by
    simp only [List.length_append, List.length_cons, List.length_nil, List.length_take, List.length_drop]
    omega
  have b1 : -9223372036854775808 ≤ (X.length : Int) - 1 := by omega
  have b2 : (X.length : Int) - 1 ≤ 9223372036854775807 := by omega
  have b3 : i ≤ 1000 := by omega
  have wl : wrap64 ((X.length : Int) - 1) = (X.length : Int) - 1 := wz b1 b2
  have w12 := w12 i b3
  have g0 : rd_L3 X (i : Int) = X.getD i [] := rdMM X i
  have g1 : rd_L3 X (wrap64 ((i : Int) + 1)) = X.getD (i + 1) [] := by rw [w12.1, rdMM]
  have n1 : ([] : List S78).length + (rd_L3 X (i : Int)).length < 5864062014805 := by rw [g0, List.length_nil, Nat.zero_add]; exact c3
  have n2 : 0 ≤ wrap64 ((i : Int) + 1) := by rw [w12.1]; exact c4
  have n3 : wrap64 ((i : Int) + 1) < (X.length : Int) := by rw [w12.1]; exact c5
  have n4 : (([] : List S78) ++ rd_L3 X (i : Int)).length + (rd_L3 X (wrap64 ((i : Int) + 1))).length < 5864062014805 := by rw [g0, g1, List.nil_append]; exact c6
  have n5 : (([] : List S78) ++ rd_L3 X (i : Int) ++ rd_L3 X (wrap64 ((i : Int) + 1))).length < 5864062014805 := by rw [g0, g1, List.nil_append]; exact d1
  have n7 : ([] : List (List S78)).length + (X.take (i : Int).toNat).length < 5864062014805 := by rw [List.length_nil, Nat.zero_add, Int.toNat_natCast]; exact d3
  have n8 : (([] : List (List S78)) ++ X.take (i : Int).toNat).length < 5864062014805 := by rw [List.nil_append, Int.toNat_natCast]; exact d3
  have n9 : 0 ≤ wrap64 ((i : Int) + 2) := by rw [w12.2]; exact d4
  have n10 : wrap64 ((i : Int) + 2) ≤ (X.length : Int) := by rw [w12.2]; exact d5
  have fin : ([] : List (List S78)) ++ X.take (i : Int).toNat ++ [(([] : List S78) ++ rd_L3 X (i : Int) ++ rd_L3 X (wrap64 ((i : Int) + 1)) ++ [(⟨wrap64 (1 + r2), 0, 0⟩ : S78)])] = X.take i ++ [both] := by rw [g0, g1, List.nil_append, List.nil_append, Int.toNat_natCast, ← hboth]
  have fd : X.drop (wrap64 ((i : Int) + 2)).toNat = X.drop (i + 2) := by rw [w12.2, Int.toNat_natCast]
  have n11 : (([] : List (List S78)) ++ X.take (i : Int).toNat ++ [(([] : List S78) ++ rd_L3 X (i : Int) ++ rd_L3 X (wrap64 ((i : Int) + 1)) ++ [(⟨wrap64 (1 + r2), 0, 0⟩ : S78)])]).length + (X.drop (wrap64 ((i : Int) + 2)).toNat).length < 5864062014805 := by rw [fin, fd]; exact d6
  rw [← fin, ← fd] at e3
  refine Ev.step (f := fun k => (spec_l20Rd_pick.f k s q ((X.length : Int) - 1)).bind _) (fun k => by rw [spec_l20Term.l1, if_pos c0, wl]) (Ev.bind e1 ?_)
  exact Ev.bind (Ev.now _) (Ev_if c1 (Ev_if c2 (Ev_if n1 (Ev.bind (Ev.now _) (Ev_if n2 (Ev_if n3 (Ev_if n4 (Ev.bind (Ev.now _) (Ev.bind e2 (Ev_if n5 (Ev.bind (Ev.now _) (Ev_if d2 (Ev.bind (Ev.now _) (Ev_if n7 (Ev.bind (Ev.now _) (Ev_if n8 (Ev.bind (Ev.now _) (Ev_if n9 (Ev_if n10 (Ev.bind (Ev.now _) (Ev_if n11 e3)))))))))))))))))))))
section
variable {s : List Int} (hs : ∀ x ∈ s, (Lit.int .u8 x).wf = true) (hl : s.length ≤ 2000)
include hs hl
theorem term_l1 : ∀ (m : Nat) (X : List (List S78)) (q : Int) (B : Nat), X.length = m + 1 → m ≤ 10 → (∀ r ∈ X, r.length ≤ B) → (B + 1) * 2 ^ m ≤ 1000 → 0 ≤ q → q + 10 * m ≤ 90000 → ∃ ms q2, Ev (fun k => spec_l20Term.l1 k X s q) (ms, q2) ∧ ms.length ≤ 1000 ∧ 0 ≤ q2 ∧ q2 ≤ q + 10 * m := by
  intro m
  induction m with
  | zero =>
    intro X q B hX hm hB hp h0 hq
    have hb : B ≤ 1000 := by
      rw [Nat.pow_zero, Nat.mul_one] at hp
      omega
    clear hp
    have hg := getMM hB 0
    refine ⟨X.getD 0 [], q, Ev.step (fun k => ?_) (Ev.now _), by omega, h0, by omega⟩
    rw [spec_l20Term.l1, if_neg (by omega), if_pos (by omega), show rd_L3 X 0 = X.getD 0 [] from rdMM X 0]
  | succ m ih =>
    intro X q B hX hm hB hp h0 hq
    obtain ⟨hb, HP2⟩ := pow_step B m hp
    clear hp
    obtain ⟨r1, e1, a0, a1, _⟩ := pick_ev hs hl q ((X.length : Int) - 1) h0 (by omega)
    have a1 := a1 (by omega)
    obtain ⟨r2, e2, _⟩ := pick_ev hs hl (q + 1) 2 (by omega) (by omega)
    obtain ⟨i, rfl⟩ := Int.eq_ofNat_of_zero_le a0
    have hi : i + 1 < X.length := by omega
    obtain ⟨both, hboth⟩ : ∃ b, b = X.getD i [] ++ X.getD (i + 1) [] ++ [(⟨wrap64 (1 + r2), 0, 0⟩ : S78)] := ⟨_, rfl⟩
    have ga := getMM hB i
    have gb := getMM hB (i + 1)
    have hbl : both.length ≤ 2 * B + 1 := by rw [hboth]; simp only [List.length_append, List.length_cons, List.length_nil]; omega
    have hY : (X.take i ++ [both] ++ X.drop (i + 2)).length = m + 1 := by simp only [List.length_append, List.length_cons, List.length_nil, List.length_take, List.length_drop]; omega
    have hYB : ∀ r ∈ X.take i ++ [both] ++ X.drop (i + 2), r.length ≤ 2 * B + 1 := by
      intro r hr
      rcases List.mem_append.1 hr with g | g
      · rcases List.mem_append.1 g with g | g
        · have := hB r (List.mem_of_mem_take g); omega
        · have : r = both := by simpa using g
          rw [this]; exact hbl
      · have := hB r (List.mem_of_mem_drop g); omega
    obtain ⟨ms, q2, e3, g1, g2, g3⟩ := ih _ (q + 1 + 1) (2 * B + 1) hY (by omega) hYB HP2 (by omega) (by omega)
    exact ⟨ms, q2, term_merge X i hi (by omega) B hb hB q r2 e1 e2 both hboth e3, g1, g2, by omega⟩
theorem term_l0 (p : Int) (H : List Int) (hH : SmallH H) (hH1 : 1 ≤ H.length) : ∀ (m : Nat) (X : List (List S78)) (q : Int), 1 ≤ X.length + m → X.length + m ≤ 4 → (∀ r ∈ X, r.length ≤ 1) → 0 ≤ q → q + 10 * m ≤ 80000 → ∃ ms q2, Ev (fun k => spec_l20Term.l0 k X (m : Int) s q p H) (ms, q2) ∧ ms.length ≤ 1000 ∧ 0 ≤ q2 ∧ q2 ≤ q + 10 * m + 40 := by
  intro m
  induction m with
  | zero =>
    intro X q h1 h4 hX h0 hq
    obtain ⟨ms, q2, e, g1, g2, g3⟩ := term_l1 hs hl (X.length - 1) X q 1 (by omega) (by omega) hX (by
      have : X.length - 1 = 0 ∨ X.length - 1 = 1 ∨ X.length - 1 = 2 ∨ X.length - 1 = 3 := by omega
      rcases this with h | h | h | h <;> rw [h] <;> decide) h0 (by omega)
    exact ⟨ms, q2, Ev.step (fun k => by rw [spec_l20Term.l0, if_neg (by omega)]) e, g1, g2, by omega⟩
  | succ m ih =>
    intro X q h1 h4 hX h0 hq
    obtain ⟨r0, e0, a0, a1, _⟩ := pick_ev hs hl q (H.length : Int) h0 (by omega)
    have a1 := a1 (by omega)
    have hm : rd H r0 ∈ H := by
      obtain ⟨i, rfl⟩ := Int.eq_ofNat_of_zero_le a0
      rw [rdn, List.getD_eq_getElem?_getD, List.getElem?_eq_getElem (show i < H.length by omega)]
      exact List.getElem_mem _
    have hmx : mx (rd H r0) 0 ≤ 9223372036854775807 := by
      have := hH.2 _ hm
      unfold mx
      split <;> omega
    have eh := spec_heads_ev _ hmx
    obtain ⟨r1, e1, _⟩ := pick_ev hs hl (q + 1) (mx (hdI (mx (rd H r0) 0)) 1) (by omega) (by omega)
    have hX2 : ∀ r ∈ X ++ [[(⟨0, r0, wrap64 (1 + r1)⟩ : S78)]], r.length ≤ 1 := by
      intro r hr
      rcases List.mem_append.1 hr with g | g
      · exact hX r g
      · have : r = [(⟨0, r0, wrap64 (1 + r1)⟩ : S78)] := by simpa using g
        rw [this]; simp
    obtain ⟨ms, q2, e2, g1, g2, g3⟩ := ih (X ++ [[⟨0, r0, wrap64 (1 + r1)⟩]]) (q + 1 + 1) (by simp; omega) (by simp; omega) hX2 (by omega) (by omega)
    have WM := Aside0.mk (show wrap64 (((m + 1 : Nat) : Int) - 1) = (m : Int) by rw [wz (by omega) (by omega)]; omega)
    refine ⟨ms, q2, Ev.step (f := fun k => (spec_l20Rd_pick.f k s q (H.length : Int)).bind _) (fun k => by rw [spec_l20Term.l0, if_pos (by omega), WM.out]) (Ev.bind e0 ?_), g1, g2, by omega⟩
    simp only [if_pos a0, if_pos a1]
    refine Ev.bind eh (Ev.bind e1 ?_)
    simp only [if_pos (show X.length < 5864062014805 by omega)]
    exact e2
theorem term_ev (q p n : Int) (H : List Int) (hH : SmallH H) (h0 : 0 ≤ q) (hq : q ≤ 10000) : ∃ ms q2, Ev (fun k => spec_l20Term.f k s q p H n) (ms, q2) ∧ ms.length ≤ 1000 ∧ 0 ≤ q2 ∧ q2 ≤ q + 100 := by
  have bad (q1 : Int) (b0 : 0 ≤ q1) (b1 : q1 ≤ q + 1) : ∃ ms q2, Ev (fun k => spec_l20Term.j0 k true s q1 p H) (ms, q2) ∧ ms.length ≤ 1000 ∧ 0 ≤ q2 ∧ q2 ≤ q + 100 := by
    obtain ⟨r, e, a0, a1, _⟩ := pick_ev hs hl q1 4 b0 (by omega)
    have a1 := a1 (by decide)
    obtain ⟨Y, hY⟩ : ∃ Y, Y = [([] : List S78), [(⟨1, 0, 0⟩ : S78)], [(⟨0, 3, 7⟩ : S78)], [(⟨0, 0, 1⟩ : S78), (⟨0, 0, 1⟩ : S78)]] := ⟨_, rfl⟩
    have hYl : (Y.length : Int) = 4 := by rw [hY]; rfl
    have hYB : ∀ r ∈ Y, r.length ≤ 2 := by rw [hY]; simp
    obtain ⟨i, rfl⟩ := Int.eq_ofNat_of_zero_le a0
    have hg := getMM hYB i
    refine ⟨Y.getD i [], q1 + 1, Ev.step (f := fun k => (some Y).bind _) (fun k => by rw [spec_l20Term.j0, if_pos rfl, hY]) ?_, by omega, by omega, by omega⟩
    simp only [Option.bind_some]
    refine Ev.bind e ?_
    simp only [if_pos (show (0 : Int) ≤ (i : Int) by omega), if_pos (show (i : Int) < (Y.length : Int) by omega), rdMM]
    exact Ev.now _
  unfold spec_l20Term.f
  by_cases hz : (H.length : Int) = 0
  · obtain ⟨ms, q2, e, g⟩ := bad q h0 (by omega)
    exact ⟨ms, q2, by simp only [if_pos hz]; exact e, g⟩
  simp only [if_neg hz]
  obtain ⟨o, q1, e1, b1, b2, _⟩ := odd_ev hs hl q n h0 (by omega)
  cases o with
  | true =>
    obtain ⟨ms, q2, e, g⟩ := bad q1 (by omega) b2
    exact ⟨ms, q2, Ev.bind e1 e, g⟩
  | false =>
    obtain ⟨r, e2, a0, a1, _⟩ := pick_ev hs hl q1 4 (by omega) (by omega)
    have a1 := a1 (by decide)
    obtain ⟨m, hm⟩ := Int.eq_ofNat_of_zero_le (show 0 ≤ 1 + r by omega)
    obtain ⟨ms, q2, e3, g1, g2, g3⟩ := term_l0 hs hl p H hH (by omega) m [] (q1 + 1) (by simp; omega) (by simp; omega) (by simp) (by omega) (by omega)
    have W := Aside0.mk (show wrap64 (1 + r) = (m : Int) by rw [wz (by omega) (by omega)]; exact hm)
    refine ⟨ms, q2, Ev.bind e1 (show Ev (fun k => spec_l20Term.j0 k false s q1 p H) _ from Ev.step (f := fun k => (spec_l20Rd_pick.f k s q1 4).bind _) (fun k => by rw [spec_l20Term.j0, if_neg (by decide)]) (Ev.bind e2 ?_)), g1, g2, by omega⟩
    simp only [W.out]
    exact e3
theorem termed_ev (q n : Int) (h0 : 0 ≤ q) (hq : q ≤ 1000) : ∃ p H ms q2, Ev (fun k => spec_l20Termed.f k s q n) (p, H, ms, q2) ∧ SmallH H ∧ ms.length ≤ 1000 ∧ 0 ≤ q2 ∧ q2 ≤ q + 200 := by
  obtain ⟨p, H, q1, e0, hH, a1, a2⟩ := house_ev hs hl q 20 h0 (by omega)
  obtain ⟨ms, q2, e1, g1, g2, g3⟩ := term_ev hs hl q1 p n H hH a1 (by omega)
  refine ⟨p, H, ms, q2, ?_, hH, g1, g2, by omega⟩
  unfold spec_l20Termed.f
  exact Ev.bind e0 (Ev.bind e1 (Ev.now _))
end

theorem tmF_all {H : List Int} : ∀ (zs : List S78) (d : Int), tmF H zs d = true → ∀ m ∈ zs, leafB H m = true ∨ opB m = true := by
  intro zs
  induction zs with
  | nil => intro d _ m hm; simp at hm
  | cons z zs ih =>
    intro d h m hm
    rw [tmF] at h
    by_cases hl : leafB H z = true
    · rw [if_pos hl] at h
      rcases List.mem_cons.1 hm with q | q
      · rw [q]; exact .inl hl
      · exact ih _ h m q
    · rw [if_neg hl] at h
      by_cases ho : opB z = true
      · rw [if_pos ho] at h
        by_cases hd : d < 2
        · rw [if_pos hd] at h; cases h
        · rw [if_neg hd] at h
          rcases List.mem_cons.1 hm with q | q
          · rw [q]; exact .inr ho
          · exact ih _ h m q
      · rw [if_neg ho] at h; cases h
section
variable (p : Int) (H : List Int) (hH : SmallH H) (t : List S78) (ht : t.length ≤ 1000)
include hH ht
theorem dual_l0 (hT : TmB p H t = true) : ∀ (zs : List S78) (i : Nat) (out : List S78), t.drop i = zs → out.length = i → i ≤ t.length → ∃ u, Ev (fun k => spec_DualTerm.l0 k t out (i : Int) p H) u ∧ u.length ≤ t.length := by
  have hH1 := hH.1
  have et := Ev.to (spec_TermOk_ev p H (by omega) hH.2 t (by omega)) hT
  have hall : ∀ m ∈ t, leafB H m = true ∨ opB m = true := by
    unfold TmB at hT
    simp only [Bool.and_eq_true] at hT
    exact tmF_all t 0 hT.2.2
  intro zs
  induction zs with
  | nil =>
    intro i out h ho hi
    exact ⟨out, Ev.step (fun k => by rw [spec_DualTerm.l0, if_neg (dnil h)]) (Ev.step (fun k => by rw [spec_DualTerm.j1, if_neg (by decide)]) (Ev.now _)), by omega⟩
  | cons z zs ih =>
    intro i out h ho hi
    obtain ⟨h1, h2, h3⟩ := dcons h
    have hz : z ∈ t := List.mem_of_mem_drop (by rw [h]; simp)
    have W := Aside0.mk (wsucc h1 (by omega))
    have hr : rd_T78 t (i : Int) = z := by rw [rdMk]; exact h2 _
    have c0 : (0 : Int) ≤ (i : Int) := by omega
    have c1 : (i : Int) < (t.length : Int) := by omega
    have c2 : out.length < 5864062014805 := by omega
    have step : ∀ k, spec_DualTerm.l0 (k + 1) t out (i : Int) p H = (spec_TermOk.f k p H t).bind fun b => spec_DualTerm.j1 k t out (i : Int) b p H := fun k => by rw [spec_DualTerm.l0, if_pos c1]
    by_cases g1 : z.f0 = 1
    · obtain ⟨u, e, g⟩ := ih (i + 1) (out ++ [⟨2, 0, 0⟩]) h3 (by simp; omega) (by omega)
      refine ⟨u, Ev.step step (Ev.bind et (Ev.step (fun k => ?_) e)), g⟩
      rw [spec_DualTerm.j1, if_pos rfl, if_pos c0, if_pos c1, hr, if_pos g1, if_pos c2, W.out]
    by_cases g2 : z.f0 = 2
    · obtain ⟨u, e, g⟩ := ih (i + 1) (out ++ [⟨1, 0, 0⟩]) h3 (by simp; omega) (by omega)
      refine ⟨u, Ev.step step (Ev.bind et (Ev.step (fun k => ?_) e)), g⟩
      rw [spec_DualTerm.j1, if_pos rfl, if_pos c0, if_pos c1, hr, if_neg g1, if_pos g2, if_pos c2, W.out]
    have hlf : leafB H z = true := by
      rcases hall z hz with q | q
      · exact q
      · have := op_of q; omega
    obtain ⟨l0, l1, l2, l3⟩ := leaf_of hlf
    have eh := spec_heads_ev _ (hH.2 _ l3)
    obtain ⟨u, e, g⟩ := ih (i + 1) (out ++ [⟨0, z.f1, wrap64 ((wrap64 (hdI (rd H z.f1) + 1)) - z.f2)⟩]) h3 (by simp; omega) (by omega)
    refine ⟨u, Ev.step step (Ev.bind et (Ev.step (f := fun k => (spec_l1Heads.f k (rd H z.f1)).bind fun t2 => if out.length < 5864062014805 then spec_DualTerm.l0 k t (out ++ [(⟨0, z.f1, wrap64 ((wrap64 (t2 + 1)) - z.f2)⟩ : S78)]) ((i + 1 : Nat) : Int) p H else none) (fun k => ?_) (Ev.bind eh ?_))), g⟩
    · rw [spec_DualTerm.j1, if_pos rfl, if_pos c0, if_pos c1, hr, if_neg g1, if_neg g2, if_pos l1, if_pos l2, W.out]
    · simp only [if_pos c2]
      exact e
theorem dual_ev : ∃ u, Ev (fun k => spec_DualTerm.f k p H t) u ∧ u.length ≤ 1000 := by
  unfold spec_DualTerm.f
  cases hT : TmB p H t with
  | true =>
    obtain ⟨u, e, g⟩ := dual_l0 p H hH t ht hT t 0 [] rfl rfl (by omega)
    exact ⟨u, e, by omega⟩
  | false =>
    have hH1 := hH.1
    have et := Ev.to (spec_TermOk_ev p H (by omega) hH.2 t (by omega)) hT
    have fin : Ev (fun k => spec_DualTerm.j1 k t ([] : List S78) 0 false p H) ([] : List S78) := Ev.step (fun k => by rw [spec_DualTerm.j1, if_neg (by decide)]) (Ev.now _)
    refine ⟨[], ?_, by simp⟩
    by_cases g : (0 : Int) < (t.length : Int)
    · exact Ev.step (fun k => by rw [spec_DualTerm.l0, if_pos g]) (Ev.bind et fin)
    · exact Ev.step (fun k => by rw [spec_DualTerm.l0, if_neg g]) fin
end
section
variable {p : Int} {H : List Int} {t u : List S78} (hT : TmB p H t = true) (hU : TmB p H u = true)
include hT hU
theorem two_ok (a b : Int) (ha : a = 1 ∨ a = 10) (hb : b = 1 ∨ b = 11) : PrB p H [(⟨t, a, b⟩ : S41), (⟨u, 10, 11⟩ : S41)] = true := by
  have g1 : ∀ a : Int, a = 1 ∨ a = 10 → tgB 2 0 a = true := by rintro a (rfl | rfl) <;> rfl
  have g2 : ∀ b : Int, b = 1 ∨ b = 11 → tgB 2 0 b = true := by rintro b (rfl | rfl) <;> rfl
  show (decide _ && ((TmB p H t && (tgB 2 0 a && tgB 2 0 b)) && ((TmB p H u && (tgB 2 1 10 && tgB 2 1 11)) && true))) = true
  rw [hT, hU, g1 a ha, g2 b hb, decide_eq_true (by simp)]
  rfl
end
theorem go_u (H : List Int) (c : Int) (s0 : S41) (u : List S78) (f : Nat) : goF H c [s0, (⟨u, 10, 11⟩ : S41)] (f + 2) 1 = saysB H c u := by
  rw [goF, if_pos (by decide)]
  show goF H c _ (f + 1) (if saysB H c u = true then (10 : Int) else 11) = _
  cases saysB H c u with
  | true => rw [if_pos rfl, goF, if_neg (by decide)]; rfl
  | false => rw [if_neg (by decide), goF, if_neg (by decide)]; rfl
theorem go_both (H : List Int) (c : Int) (t u : List S78) : goF H c [(⟨t, 1, 11⟩ : S41), (⟨u, 10, 11⟩ : S41)] 5 0 = (saysB H c t && saysB H c u) := by
  rw [goF, if_pos (by decide)]
  show goF H c _ 4 (if saysB H c t = true then (1 : Int) else 11) = _
  cases saysB H c t with
  | true => rw [if_pos rfl, go_u]; rfl
  | false => rw [if_neg (by decide), goF, if_neg (by decide)]; rfl
theorem go_either (H : List Int) (c : Int) (t u : List S78) : goF H c [(⟨t, 10, 1⟩ : S41), (⟨u, 10, 11⟩ : S41)] 5 0 = (saysB H c t || saysB H c u) := by
  rw [goF, if_pos (by decide)]
  show goF H c _ 4 (if saysB H c t = true then (10 : Int) else 1) = _
  cases saysB H c t with
  | true => rw [if_pos rfl, goF, if_neg (by decide)]; rfl
  | false => rw [if_neg (by decide), go_u]; rfl
theorem sdC_yes (H : List Int) (ss : List S41) (s : S41) (h : ∀ c, (!goF H c ss 5 s.f2 || goF H c ss 5 s.f1) = true) : ∀ (d : Nat) (c : Int), sdC H ss s d c = true := by
  intro d
  induction d with
  | zero => intro c; rfl
  | succ d ih => intro c; rw [sdC, h, ih]; rfl
theorem go_end (H : List Int) (c : Int) (ss : List S41) (i : Int) (h : i = 10 ∨ i = 11) : goF H c ss 5 i = decide (i = 10) := by rw [goF, if_neg (by omega)]
theorem two_sound {p : Int} {H : List Int} (t u : List S78) (a b : Int) (hp : PrB p H [(⟨t, a, b⟩ : S41), (⟨u, 10, 11⟩ : S41)] = true) (hab : a = 10 ∨ b = 11) : SdB p H [(⟨t, a, b⟩ : S41), (⟨u, 10, 11⟩ : S41)] = true := by
  unfold SdB
  rw [hp]
  have s1 : ∀ c, (!goF H c [(⟨t, a, b⟩ : S41), (⟨u, 10, 11⟩ : S41)] 5 b || goF H c [(⟨t, a, b⟩ : S41), (⟨u, 10, 11⟩ : S41)] 5 a) = true := by
    intro c
    rcases hab with rfl | rfl
    · rw [go_end _ _ _ 10 (.inl rfl)]; simp
    · rw [go_end _ _ _ 11 (.inr rfl)]; simp
  have s2 : ∀ c, (!goF H c [(⟨t, a, b⟩ : S41), (⟨u, 10, 11⟩ : S41)] 5 11 || goF H c [(⟨t, a, b⟩ : S41), (⟨u, 10, 11⟩ : S41)] 5 10) = true := by
    intro c
    rw [go_end _ _ _ 10 (.inl rfl)]; simp
  simp only [sdF]
  rw [sdC_yes H _ ⟨t, a, b⟩ s1, sdC_yes H _ ⟨u, 10, 11⟩ s2]
  rfl
theorem FnTwoHouses : laws_FnTwoHouses.Pure := by
  intro l _ _ hw
  refine Ev.rounds ?_
  unfold laws_FnTwoHouses.f
  by_cases hbig : (l.length : Int) > 1048576
  · simp only [if_pos hbig]
    exact Ev.now _
  simp only [if_neg hbig]
  obtain ⟨s, hO, hs, hls⟩ := open_some hw
  obtain ⟨p, H, t, q, hdr, hH, ht, q0, q1⟩ := termed_ev hs hls 0 14 (by decide) (by decide)
  have hH1 := hH.1
  have hHl : H.length ≤ 1048576 := by omega
  have dr : ∃ u, Ev (fun k => spec_DrawSameConsents.f k l) (p, H, t, u) ∧ u.length ≤ 1000 := by
    obtain ⟨r, e, _⟩ := pick_ev hs hls q 3 q0 (by omega)
    by_cases g : r = 0
    · obtain ⟨u, eu, hu⟩ := dual_ev p H hH t ht
      refine ⟨u, ?_, hu⟩
      unfold spec_DrawSameConsents.f
      simp only [hO, Option.bind_some]
      refine Ev.bind hdr (Ev.bind e ?_)
      simp only [if_pos g]
      exact Ev.bind eu (Ev.now _)
    · obtain ⟨u, q2, eu, hu, _⟩ := term_ev hs hls (q + 1) p 14 H hH (by omega) (by omega)
      refine ⟨u, ?_, hu⟩
      unfold spec_DrawSameConsents.f
      simp only [hO, Option.bind_some]
      refine Ev.bind hdr (Ev.bind e ?_)
      simp only [if_neg g]
      exact Ev.bind eu (Ev.now _)
  obtain ⟨u, du, hu⟩ := dr
  have dc : ∃ c, Ev (fun k => spec_DrawConsentOk.f k l) (p, H, t, c) := by
    obtain ⟨r1, e1, _⟩ := pick_ev hs hls q (wrap64 (2 ^ (mn (mx p 1) 6).toNat)) q0 (by omega)
    obtain ⟨r2, e2, _⟩ := pick_ev hs hls (q + 1) 40 (by omega) (by omega)
    refine ⟨wrap64 (r1 + (wrap64 ((wrap64 (Int.tdiv r2 39)) * 64))), ?_⟩
    unfold spec_DrawConsentOk.f
    simp only [hO, Option.bind_some]
    exact Ev.bind hdr (Ev.bind e1 (Ev.bind e2 (Ev.now _)))
  obtain ⟨c, dc⟩ := dc
  refine Ev.bind du (Ev.bind dc ?_)
  have st := spec_TermOk_ev p H hHl hH.2 t (by omega)
  have su := spec_TermOk_ev p H hHl hH.2 u (by omega)
  have out : Ev (fun k => laws_FnTwoHouses.j0 k t u c true p H) true := by
    refine Ev.step (f := fun _ => laws_alive.f.bind _) (fun k => by rw [laws_FnTwoHouses.j0, if_pos rfl]) ?_
    rw [alive_eq]
    exact Ev.now _
  cases hT : TmB p H t with
  | false =>
    rw [hT] at st
    refine Ev.bind st ?_
    simp only [Bool.false_eq_true, if_false]
    exact out
  | true =>
    rw [hT] at st
    refine Ev.bind st ?_
    simp only [if_true]
    cases hU : TmB p H u with
    | false =>
      rw [hU] at su
      refine Ev.bind su ?_
      simp only [Bool.false_eq_true, if_false]
      exact out
    | true =>
      rw [hU] at su
      refine Ev.bind su ?_
      simp only [if_true, spec_CrowdOk_eq, Option.bind_some]
      cases hC : CrB p c with
      | false => exact out
      | true =>
        have cr := CrB_of hC
        have pp := pow_small cr.1 cr.2.1
        have c64 : c < 64 := by omega
        have P1 := two_ok hT hU 1 11 (.inl rfl) (.inr rfl)
        have P2 := two_ok hT hU 10 1 (.inr rfl) (.inl rfl)
        have S1 := two_sound t u 1 11 P1 (.inr rfl)
        have S2 := two_sound t u 10 1 P2 (.inl rfl)
        have small (a b : Int) : ∀ s ∈ [(⟨t, a, b⟩ : S41), (⟨u, 10, 11⟩ : S41)], s.f0.length ≤ 1048576 := by
          intro s hs
          rcases List.mem_cons.1 hs with g | g
          · rw [g]; show t.length ≤ _; omega
          · have : s = ⟨u, 10, 11⟩ := by simpa using g
            rw [this]; show u.length ≤ _; omega
        have L1 := Ev.to (impl_LawBy_ev p H c [(⟨t, 1, 11⟩ : S41), (⟨u, 10, 11⟩ : S41)] hHl (by simp) (small 1 11)) (show _ = (saysB H c t && saysB H c u) by unfold LbB; rw [P1, hC, go_both]; rfl)
        have L2 := Ev.to (impl_LawBy_ev p H c [(⟨t, 10, 1⟩ : S41), (⟨u, 10, 11⟩ : S41)] hHl (by simp) (small 10 1)) (show _ = (saysB H c t || saysB H c u) by unfold LbB; rw [P2, hC, go_either]; rfl)
        have O1 := Ev.to (impl_SoundOk_ev p H [(⟨t, 1, 11⟩ : S41), (⟨u, 10, 11⟩ : S41)] hHl (by simp) (small 1 11)) S1
        have O2 := Ev.to (impl_SoundOk_ev p H [(⟨t, 10, 1⟩ : S41), (⟨u, 10, 11⟩ : S41)] hHl (by simp) (small 10 1)) S2
        have con (m : List S78) (hm : TmB p H m = true) (hl : m.length ≤ 1000) : Ev (fun k => impl_ConsentOk.f k p H m c) (saysB H c m) := by
          unfold impl_ConsentOk.f
          refine Ev.bind (Ev.to (impl_isTerm_ev p H hHl m (by omega)) hm) ?_
          simp only [if_true, impl_isCrowd_eq, Option.bind_some, hC]
          exact Ev.bind (consents_ev p H c m (by omega) hm cr.2.2.1 c64) (Ev.now _)
        refine Ev.step (f := fun k => (some [(⟨t, 1, 11⟩ : S41), (⟨u, 10, 11⟩ : S41)]).bind _) (fun k => by rw [laws_FnTwoHouses.j0, if_neg (by decide)]) ?_
        simp only [Option.bind_some]
        refine Ev.bind (con t hT ht) (Ev.bind (con u hU hu) ?_)
        rw [alive_eq]
        simp only [Option.bind_some, if_true]
        refine Ev.bind L1 ?_
        cases hv : saysB H c t with
        | true =>
          rw [hv] at L2
          simp only [if_true, Bool.true_and, beq_self_eq_true]
          refine Ev.bind L2 ?_
          simp only [Bool.true_or, beq_self_eq_true, if_true]
          refine Ev.bind O1 ?_
          simp only [if_true]
          exact Ev.bind O2 (Ev.now _)
        | false =>
          rw [hv] at L2
          simp only [Bool.false_and, beq_self_eq_true, Bool.false_eq_true, if_false, if_true]
          refine Ev.bind L2 ?_
          simp only [Bool.false_or, beq_self_eq_true, if_true]
          refine Ev.bind O1 ?_
          simp only [if_true]
          exact Ev.bind O2 (Ev.now _)

end Go.Proofs.Ytnpjlpkbefdnlaa.Pure
