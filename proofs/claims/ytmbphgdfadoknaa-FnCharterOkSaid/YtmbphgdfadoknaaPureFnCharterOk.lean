/- The law FnCharterOk is true: for every code the program's CharterOk and the reference's answer alike at the drawn charter; a charter whose variants need nothing is one, and so is its first clause alone. Conditions: none. -/
import Derived.Test.YtmbphgdfadoknaaQFnCharterOkx11
namespace Go.Proofs.Ytmbphgdfadoknaa.Pure
open Go.RowKit Go.Proofs.Ytmbphgdfadoknaa.QFnCharterOk Go.Proofs.YtmbphgdfadoknaaW.PrintWords Go.Proofs.YtmbphgdfadoknaaW.PrintLast
set_option linter.unusedVariables false
set_option linter.unusedSimpArgs false

theorem w64 {x : Int} (h0 : -9223372036854775808 ≤ x) (h1 : x ≤ 9223372036854775807) : wrap64 x = x := by unfold wrap64; omega

theorem xor_nn {a b : Int} (ha : 0 ≤ a) (ha1 : a < 9223372036854775808) (hb : 0 ≤ b) (hb1 : b < 9223372036854775808) : 0 ≤ Go.bits .xor .i64 a b := by
 obtain ⟨m, rfl⟩ := Int.eq_ofNat_of_zero_le ha
 obtain ⟨n, rfl⟩ := Int.eq_ofNat_of_zero_le hb
 have hm : m < 2 ^ 63 := by omega
 have hn : n < 2 ^ 63 := by omega
 have hx := Nat.xor_lt_two_pow hm hn
 simp only [Go.bits, BitVec.ofInt_natCast, BitVec.toNat_xor, BitVec.toNat_ofNat]
 have e1 : m % 2 ^ IntKind.i64.bits = m := Nat.mod_eq_of_lt (by simp only [IntKind.bits]; omega)
 have e2 : n % 2 ^ IntKind.i64.bits = n := Nat.mod_eq_of_lt (by simp only [IntKind.bits]; omega)
 rw [e1, e2, IntKind.wrap_i64]
 omega

theorem rd_range {s : List Int} (hs : ∀ x ∈ s, (Lit.int .u8 x).wf = true) (i : Int) : 0 ≤ rd s i ∧ rd s i ≤ 255 := by
 unfold rd
 by_cases h : i.toNat < s.length
 ·have := hs _ (List.getElem_mem h)
  rw [List.getD_eq_getElem?_getD, List.getElem?_eq_getElem h]
  simp [Lit.wf, IntKind.min, IntKind.max, IntKind.bits, IntKind.signed] at this
  simp
  omega
 ·rw [List.getD_eq_getElem?_getD, List.getElem?_eq_none (by omega)]
  simp
theorem tmod_range {a n : Int} (ha : 0 ≤ a) (hn : 0 < n) : 0 ≤ Int.tmod a n ∧ Int.tmod a n < n := by
 rw [Int.tmod_eq_emod_of_nonneg ha]
 exact ⟨Int.emod_nonneg _ (by omega), Int.emod_lt_of_pos _ hn⟩
theorem tdiv_range {a n : Int} (ha : 0 ≤ a) (hn : 0 < n) : 0 ≤ Int.tdiv a n ∧ Int.tdiv a n ≤ a := by
 rw [Int.tdiv_eq_ediv_of_nonneg ha]
 exact ⟨Int.ediv_nonneg ha (by omega), Int.ediv_le_self _ ha⟩

theorem pick_some {s : List Int} (hs : ∀ x ∈ s, (Lit.int .u8 x).wf = true) (hl : s.length ≤ 2000) (p n : Int) (hp0 : 0 ≤ p) (hp : p ≤ 1000000) (k : Nat) (hk : 0 < k) :
  ∃ r, spec_l20Rd_pick.f k s p n = some (r, p + 1) ∧ 0 ≤ r ∧ (0 < n → r < n) ∧ (n ≤ 0 → r = 0) := by
 obtain ⟨k, rfl⟩ : ∃ m, k = m + 1 := ⟨k - 1, by omega⟩
 have e1 : wrap64 (p + 1) = p + 1 := w64 (by omega) (by omega)
 have e2 : wrap64 (p + 1 - 1) = p := by rw [Int.add_sub_cancel]; exact w64 (by omega) (by omega)
 unfold spec_l20Rd_pick.f
 by_cases hn : n < 1
 ·rw [if_pos hn]
  refine ⟨0, ?_, Int.le_refl 0, fun h => by omega, fun _ => rfl⟩
  simp only [spec_l20Rd_pick.j0, e1, if_true]
 rw [if_neg hn]
 by_cases h0 : s.length = 0
 ·have : ((s.length : Int) == 0) = true := by rw [h0]; rfl
  refine ⟨0, ?_, Int.le_refl 0, fun h => h, fun _ => rfl⟩
  rw [this]
  simp only [spec_l20Rd_pick.j0, e1, if_true]
 have hb : ((s.length : Int) == 0) = false := by simp; intro h; rw [h] at h0; exact h0 rfl
 rw [hb]
 simp only [spec_l20Rd_pick.j0, e1, e2]
 rw [if_neg (by decide)]
 have hn0 : ¬ n = 0 := by omega
 by_cases hlt : p < (s.length : Int)
 ·rw [if_pos hlt, if_pos hp0, if_neg hn0]
  have hr := rd_range hs p
  have e3 : wrap64 (rd s p) = rd s p := w64 (by omega) (by omega)
  rw [e3]
  have := tmod_range hr.1 (show 0 < n by omega)
  exact ⟨_, rfl, this.1, fun _ => this.2, fun h => by omega⟩
 rw [if_neg hlt, if_neg (show ¬ (s.length : Int) = 0 by omega)]
 have hL : 0 < (s.length : Int) := by omega
 have t1 := tmod_range hp0 hL
 have f1 : wrap64 (p * 7) = p * 7 := w64 (by omega) (by omega)
 have f2 : wrap64 (p * 7 + 3) = p * 7 + 3 := w64 (by omega) (by omega)
 have t2 := tmod_range (show 0 ≤ p * 7 + 3 by omega) hL
 rw [f1, f2]
 rw [if_pos t1.1, if_pos t1.2, if_pos t2.1, if_pos t2.2, if_neg hn0]
 have r1 := rd_range hs (Int.tmod p s.length)
 have r2 := rd_range hs (Int.tmod (p * 7 + 3) s.length)
 generalize rd s (Int.tmod p s.length) = x at r1 ⊢
 generalize rd s (Int.tmod (p * 7 + 3) s.length) = y at r2 ⊢
 have d1 := tdiv_range hp0 hL
 generalize Int.tdiv p s.length = q at d1 ⊢
 rw [show wrap64 x = x from w64 (by omega) (by omega), show wrap64 y = y from w64 (by omega) (by omega)]
 rw [show wrap64 (x * 131) = x * 131 from w64 (by omega) (by omega), show wrap64 (y * 1117) = y * 1117 from w64 (by omega) (by omega), show wrap64 (p * 29) = p * 29 from w64 (by omega) (by omega), show wrap64 q = q from w64 (by omega) (by omega)]
 rw [show wrap64 (q * 53) = q * 53 from w64 (by omega) (by omega), show wrap64 (x * 131 + y * 1117) = x * 131 + y * 1117 from w64 (by omega) (by omega)]
 rw [show wrap64 (x * 131 + y * 1117 + p * 29) = x * 131 + y * 1117 + p * 29 from w64 (by omega) (by omega)]
 rw [show wrap64 (x * 131 + y * 1117 + p * 29 + q * 53) = x * 131 + y * 1117 + p * 29 + q * 53 from w64 (by omega) (by omega)]
 have hz : 0 ≤ x * 131 + y * 1117 + p * 29 + q * 53 ∧ x * 131 + y * 1117 + p * 29 + q * 53 < 1000000000 := by omega
 generalize x * 131 + y * 1117 + p * 29 + q * 53 = z at hz ⊢
 have d2 := tdiv_range hz.1 (show (0 : Int) < 64 by decide)
 rw [show wrap64 (Int.tdiv z 64) = Int.tdiv z 64 from w64 (by omega) (by omega)]
 have hx := xor_nn hz.1 (by omega) d2.1 (by omega)
 have := tmod_range hx (show 0 < n by omega)
 exact ⟨_, rfl, this.1, fun _ => this.2, fun h => by omega⟩

theorem odd_some {s : List Int} (hs : ∀ x ∈ s, (Lit.int .u8 x).wf = true) (hl : s.length ≤ 2000) (p n : Int) (hp0 : 0 ≤ p) (hp : p ≤ 1000000) (k : Nat) (hk : 0 < k) :
  ∃ b q, spec_l20Rd_odd.f k s p n = some (b, q) ∧ p ≤ q ∧ q ≤ p + 1 ∧ (n ≤ 0 → b = false) := by
 unfold spec_l20Rd_odd.f
 by_cases h : n > 0
 ·rw [if_pos h]
  obtain ⟨r, e, _⟩ := pick_some hs hl p n hp0 hp k hk
  rw [e]
  exact ⟨_, _, rfl, by show p ≤ p + 1; omega, Int.le_refl _, by omega⟩
 ·rw [if_neg h]
  exact ⟨_, _, rfl, by omega, by omega, fun _ => rfl⟩

theorem open_some {l : List Int} (hs : ∀ x ∈ l, (Lit.int .u8 x).wf = true) : ∃ s, spec_l20Open.f l = some (s, 0) ∧ (∀ x ∈ s, (Lit.int .u8 x).wf = true) ∧ s.length ≤ 2000 := by
 unfold spec_l20Open.f
 by_cases h : (l.length : Int) > 2000
 ·rw [if_pos h, if_pos (by omega)]
  exact ⟨_, rfl, fun x hx => hs x (List.mem_of_mem_take hx), by simp <;> omega⟩
 ·rw [if_neg h]
  exact ⟨_, rfl, hs, by omega⟩

theorem wz {x : Int} (h0 : -9223372036854775808 ≤ x) (h1 : x ≤ 9223372036854775807) : wrap64 x = x := by unfold wrap64; omega
theorem wsucc {i n : Nat} (h : i < n) (hn : n ≤ 9223372036854775807) : wrap64 ((i : Int) + 1) = ((i + 1 : Nat) : Int) := by rw [wz (by omega) (by omega)]; omega
theorem dnil {α : Type} {xs : List α} {i : Nat} (h : xs.drop i = []) : ¬ ((i : Int) < (xs.length : Int)) := by
 have := List.drop_eq_nil_iff.1 h
 omega
theorem dcons {α : Type} {xs : List α} {i : Nat} {y : α} {ys : List α} (h : xs.drop i = y :: ys) : i < xs.length ∧ (∀ d, xs.getD i d = y) ∧ xs.drop (i + 1) = ys := by
 have hl : i < xs.length := by
  rcases Nat.lt_or_ge i xs.length with h1 | h1
  ·exact h1
  ·rw [List.drop_eq_nil_iff.2 h1] at h
   cases h
 have e := List.drop_eq_getElem_cons hl
 rw [h] at e
 injection e with e1 e2
 exact ⟨hl, fun d => by rw [List.getD_eq_getElem?_getD, List.getElem?_eq_getElem hl]; exact e1.symm, e2.symm⟩
theorem rdn (xs : List Int) (i : Nat) : rd xs (i : Int) = xs.getD i 0 := by simp [rd]
theorem Ev.to {α : Type} {g : Nat → Option α} {r s : α} (h : Ev g r) (e : r = s) : Ev g s := e ▸ h

theorem pick_ev {s : List Int} (hs : ∀ x ∈ s, (Lit.int .u8 x).wf = true) (hl : s.length ≤ 2000) (p n : Int) (hp0 : 0 ≤ p) (hp : p ≤ 1000000) :
  ∃ r, Ev (fun k => spec_l20Rd_pick.f k s p n) (r, p + 1) ∧ 0 ≤ r ∧ (0 < n → r < n) ∧ (n ≤ 0 → r = 0) := by
 obtain ⟨r, h, h1⟩ := pick_some hs hl p n hp0 hp 1 (by decide)
 exact ⟨r, Ev.of (fun k => spec_l20Rd_pick.mono _ _ _ k) h, h1⟩
theorem odd_ev {s : List Int} (hs : ∀ x ∈ s, (Lit.int .u8 x).wf = true) (hl : s.length ≤ 2000) (p n : Int) (hp0 : 0 ≤ p) (hp : p ≤ 1000000) :
  ∃ b q, Ev (fun k => spec_l20Rd_odd.f k s p n) (b, q) ∧ p ≤ q ∧ q ≤ p + 1 ∧ (n ≤ 0 → b = false) := by
 obtain ⟨b, q, h, h1⟩ := odd_some hs hl p n hp0 hp 1 (by decide)
 exact ⟨b, q, Ev.of (fun k => spec_l20Rd_odd.mono _ _ _ k) h, h1⟩

def CrB (p a : Int) : Bool := decide (1 ≤ p ∧ p ≤ 6 ∧ 0 ≤ a ∧ a < 2 ^ p.toNat)
theorem shl1 {p : Int} (h0 : 1 ≤ p) (h1 : p ≤ 6) : shl .i64 1 p = 2 ^ p.toNat := by
 have : p = 1 ∨ p = 2 ∨ p = 3 ∨ p = 4 ∨ p = 5 ∨ p = 6 := by omega
 rcases this with rfl | rfl | rfl | rfl | rfl | rfl <;> decide +kernel
theorem pow_small {p : Int} (h0 : 1 ≤ p) (h1 : p ≤ 6) : (2 : Int) ≤ 2 ^ p.toNat ∧ (2 : Int) ^ p.toNat ≤ 64 := by
 have : p = 1 ∨ p = 2 ∨ p = 3 ∨ p = 4 ∨ p = 5 ∨ p = 6 := by omega
 rcases this with rfl | rfl | rfl | rfl | rfl | rfl <;> decide
theorem impl_isCrowd_eq (p a : Int) : impl_isCrowd.f p a = some (CrB p a) := by
 unfold impl_isCrowd.f impl_arePeople.f CrB
 by_cases h1 : p ≥ 1
 ·by_cases h2 : p ≤ 6
  ·by_cases h3 : a ≥ 0
   ·have h0 : 0 ≤ p := by omega
    simp [h1, h2, h3, h0, shl1 h1 h2]
   ·simp [h1, h2, h3]
  ·simp [h1, h2]
 ·simp [h1]
theorem CrB_of {p a : Int} (h : CrB p a = true) : 1 ≤ p ∧ p ≤ 6 ∧ 0 ≤ a ∧ a < 2 ^ p.toNat := of_decide_eq_true h

theorem l1In_eq2 (a b c : Int) : spec_l1In.f a b c = some (decide (b ≤ a ∧ a ≤ c)) := by
 unfold spec_l1In.f
 by_cases h : b ≤ a
 ·simp [h]
 ·simp [h]
theorem spec_CrowdOk_eq (p a : Int) : spec_CrowdOk.f p a = some (CrB p a) := by
 unfold spec_CrowdOk.f CrB
 simp only [l1In_eq2, Option.bind_some]
 by_cases h : 1 ≤ p ∧ p ≤ 6
 ·have hp := pow_small h.1 h.2
  simp only [decide_eq_true h, if_true, if_pos (show 0 ≤ p by omega), shl1 h.1 h.2]
  rw [wz (by omega) (by omega)]
  congr 1
  rw [decide_eq_decide]
  omega
 ·simp only [decide_eq_false h, Bool.false_eq_true, if_false]
  congr 1
  symm
  rw [decide_eq_false_iff_not]
  omega

def pc : Nat → Int → Int
 | 0, _ => 0
 | b + 1, n => n % 2 + pc b (n / 2)
theorem pc_zero : ∀ (b : Nat), pc b 0 = 0 := by
 intro b
 induction b with
 | zero => rfl
 | succ b ih => simp [pc, ih]
theorem spec_heads_l0 : ∀ (b : Nat) (n acc : Int), 0 ≤ n → n < 2 ^ b → 0 ≤ acc → acc + b ≤ 1000 → b ≤ 63 → Ev (fun k => spec_l1Heads.l0 k n acc) (acc + pc b n) := by
 intro b
 induction b with
 | zero =>
  intro n acc h0 h1 h2 h3 h4
  have : n = 0 := by simp at h1; omega
  subst this
  exact Ev.step (f := fun _ => some acc) (fun k => by rw [spec_l1Heads.l0, if_neg (by decide)]) (Ev.to (Ev.now _) (by simp [pc]))
 | succ b ih =>
  intro n acc h0 h1 h2 h3 h4
  by_cases hn : n = 0
  ·subst hn
   exact Ev.step (f := fun _ => some acc) (fun k => by rw [spec_l1Heads.l0, if_neg (by decide)]) (Ev.to (Ev.now _) (by rw [pc_zero]; omega))
  ·have h5 : n < 2 * 2 ^ b := by rw [Int.pow_succ] at h1; omega
   have h6 : (2 : Int) ^ b ≤ 4611686018427387904 := by
    have h7 : (2 : Nat) ^ b ≤ 2 ^ 62 := Nat.pow_le_pow_right (by decide) (by omega)
    have h8 : ((2 ^ b : Nat) : Int) ≤ ((2 ^ 62 : Nat) : Int) := Int.ofNat_le.2 h7
    rw [Int.natCast_pow] at h8
    exact h8
   have d1 : Int.tdiv n 2 = n / 2 := Int.tdiv_eq_ediv_of_nonneg h0
   have d2 : Int.tmod n 2 = n % 2 := Int.tmod_eq_emod_of_nonneg h0
   have e := ih (n / 2) (acc + n % 2) (by omega) (by omega) (by omega) (by omega) (by omega)
   have w1 : wrap64 (Int.tdiv n 2) = n / 2 := by rw [d1]; exact wz (by omega) (by omega)
   have w2 : wrap64 (acc + Int.tmod n 2) = acc + n % 2 := by rw [d2]; exact wz (by omega) (by omega)
   refine Ev.step (f := fun k => spec_l1Heads.l0 k (n / 2) (acc + n % 2)) (fun k => by rw [spec_l1Heads.l0, if_pos (by omega), w1, w2]) (Ev.to e (by simp only [pc]; omega))
def hdI (n : Int) : Int := if n < 0 then 0 else pc 63 n
theorem spec_heads_ev (n : Int) (h1 : n ≤ 9223372036854775807) : Ev (fun k => spec_l1Heads.f k n) (hdI n) := by
 unfold spec_l1Heads.f hdI
 by_cases hn : n < 0
 ·rw [if_pos hn]
  exact Ev.step (f := fun _ => some 0) (fun k => by rw [spec_l1Heads.l0, if_neg (by omega)]) (Ev.now _)
 ·rw [if_neg hn]
  exact Ev.to (spec_heads_l0 63 n 0 (by omega) (by simp; omega) (by omega) (by omega) (by omega)) (by omega)
theorem impl_heads_all : ∀ n : Fin 64, impl_headsOf.f (n.val : Int) = some (hdI (n.val : Int)) := by decide +kernel
theorem impl_heads {a : Int} (h0 : 0 ≤ a) (h1 : a < 64) : impl_headsOf.f a = some (hdI a) := by
 obtain ⟨n, rfl⟩ := Int.eq_ofNat_of_zero_le h0
 exact impl_heads_all ⟨n, by omega⟩
def PpB (p : Int) : Bool := decide (1 ≤ p ∧ p ≤ 6)
def HsB (p : Int) (H : List Int) : Bool := H.all (fun c => CrB p c && !decide (c = 0)) && (PpB p && decide ((H.length : Int) ≤ 4))
theorem HsB_of {p : Int} {H : List Int} (h : HsB p H = true) : H.length ≤ 4 ∧ 1 ≤ p ∧ p ≤ 6 ∧ ∀ c ∈ H, 0 < c ∧ c < 64 := by
 unfold HsB PpB at h
 simp only [Bool.and_eq_true, decide_eq_true_eq, List.all_eq_true] at h
 obtain ⟨h1, ⟨h2, h3⟩, h4⟩ := h
 refine ⟨by omega, h2, h3, fun c hc => ?_⟩
 have := h1 c hc
 have cr := CrB_of this.1
 have ps := pow_small cr.1 cr.2.1
 have : ¬ c = 0 := by simpa using this.2
 omega
theorem arePeople_eq (p : Int) : impl_arePeople.f p = some (PpB p) := by
 unfold impl_arePeople.f PpB
 by_cases h : p ≥ 1
 ·simp [h]
 ·simp [h]
theorem impl_isHouse_l0 (p : Int) (H : List Int) (hn : H.length ≤ 1048576) : ∀ (zs : List Int) (i : Nat), H.drop i = zs → Ev (fun k => impl_isHouse.l0 k H (H.length : Int) (i : Int) p H) (zs.all (fun c => CrB p c && !decide (c = 0)) && (PpB p && decide ((H.length : Int) ≤ 4))) := by
 intro zs
 induction zs with
 | nil =>
  intro i h
  refine Ev.step (f := fun _ => some (PpB p && decide ((H.length : Int) ≤ 4))) (fun k => ?_) (Ev.to (Ev.now _) (by simp))
  rw [impl_isHouse.l0, if_neg (dnil h), arePeople_eq]
  cases PpB p <;> simp
 | cons z zs ih =>
  intro i h
  obtain ⟨h1, h2, h3⟩ := dcons h
  have e := ih (i + 1) h3
  have hi1 : (i : Int) < (H.length : Int) := by omega
  have hi0 : 0 ≤ (i : Int) := by omega
  cases hc : CrB p z with
  | false =>
   refine Ev.step (f := fun _ => some false) (fun k => ?_) (Ev.to (Ev.now _) (by simp [hc]))
   rw [impl_isHouse.l0, if_pos hi1, if_pos hi0, if_pos hi1, rdn, h2, impl_isCrowd_eq, hc]
   rfl
  | true =>
   by_cases hz : z = 0
   ·refine Ev.step (f := fun _ => some false) (fun k => ?_) (Ev.to (Ev.now _) (by simp [hz]))
    rw [impl_isHouse.l0, if_pos hi1, if_pos hi0, if_pos hi1, rdn, h2, impl_isCrowd_eq, hc, Option.bind_some, if_pos rfl, if_pos hz]
   ·refine Ev.step (fun k => ?_) (Ev.to e (by simp [hz, hc]))
    rw [impl_isHouse.l0, if_pos hi1, if_pos hi0, if_pos hi1, rdn, h2, impl_isCrowd_eq, hc, Option.bind_some, if_pos rfl, if_neg hz, wsucc h1 (by omega)]
theorem impl_isHouse_ev (p : Int) (H : List Int) (hn : H.length ≤ 1048576) : Ev (fun k => impl_isHouse.f k p H) (HsB p H) := impl_isHouse_l0 p H hn H 0 rfl
theorem spec_HouseOk_l0 (p : Int) (H : List Int) (hn : H.length ≤ 1048576) : ∀ (zs : List Int) (i : Nat), H.drop i = zs → Ev (fun k => spec_HouseOk.l0 k (i : Int) p H) (zs.all (fun c => CrB p c && !decide (c = 0)) && (PpB p && decide ((H.length : Int) ≤ 4))) := by
 intro zs
 induction zs with
 | nil =>
  intro i h
  refine Ev.step (f := fun _ => some (PpB p && decide ((H.length : Int) ≤ 4))) (fun k => ?_) (Ev.to (Ev.now _) (by simp))
  rw [spec_HouseOk.l0, if_neg (dnil h), l1In_eq2, Option.bind_some, show decide (1 ≤ p ∧ p ≤ 6) = PpB p from rfl]
  cases PpB p <;> simp
 | cons z zs ih =>
  intro i h
  obtain ⟨h1, h2, h3⟩ := dcons h
  have e := ih (i + 1) h3
  have hi1 : (i : Int) < (H.length : Int) := by omega
  have hi0 : 0 ≤ (i : Int) := by omega
  cases hc : CrB p z with
  | false =>
   refine Ev.step (f := fun _ => some false) (fun k => ?_) (Ev.to (Ev.now _) (by simp [hc]))
   rw [spec_HouseOk.l0, if_pos hi1, if_pos hi0, rdn, h2, spec_CrowdOk_eq, hc]
   rfl
  | true =>
   by_cases hz : z = 0
   ·refine Ev.step (f := fun _ => some false) (fun k => ?_) (Ev.to (Ev.now _) (by simp [hz]))
    rw [spec_HouseOk.l0, if_pos hi1, if_pos hi0, rdn, h2, spec_CrowdOk_eq, hc, Option.bind_some, if_pos rfl, if_pos hz]
   ·refine Ev.step (fun k => ?_) (Ev.to e (by simp [hz, hc]))
    rw [spec_HouseOk.l0, if_pos hi1, if_pos hi0, rdn, h2, spec_CrowdOk_eq, hc, Option.bind_some, if_pos rfl, if_neg hz, wsucc h1 (by omega)]
theorem spec_HouseOk_ev (p : Int) (H : List Int) (hn : H.length ≤ 1048576) : Ev (fun k => spec_HouseOk.f k p H) (HsB p H) := spec_HouseOk_l0 p H hn H 0 rfl
def leafB (H : List Int) (m : S75) : Bool := decide (m.f0 = 0) && (decide (0 ≤ m.f1 ∧ m.f1 < H.length) && decide (1 ≤ m.f2 ∧ m.f2 ≤ hdI (rd H m.f1)))
def opB (m : S75) : Bool := (decide (m.f0 = 1) || decide (m.f0 = 2)) && (decide (m.f1 = 0) && decide (m.f2 = 0))
def tmF (H : List Int) : List S75 → Int → Bool
 | [], d => decide (d = 1)
 | m :: ms, d => if leafB H m = true then tmF H ms (d + 1) else if opB m = true then (if d < 2 then false else tmF H ms (d - 1)) else false
def TmB (p : Int) (H : List Int) (ms : List S75) : Bool := HsB p H && (decide ((ms.length : Int) ≤ 9) && tmF H ms 0)
theorem rdMk (xs : List S75) (i : Nat) : rd_T75 xs (i : Int) = xs.getD i z75 := by simp [rd_T75]
theorem impl_isTerm_l0 (p : Int) (H : List Int) (hH : HsB p H = true) (xs : List S75) (hn : xs.length ≤ 1048576) : ∀ (zs : List S75) (i : Nat) (d : Int), xs.drop i = zs → 0 ≤ d → d ≤ i → Ev (fun k => impl_isTerm.l0 k d xs (xs.length : Int) (i : Int) p H) (tmF H zs d) := by
 have hh := HsB_of hH
 intro zs
 induction zs with
 | nil =>
  intro i d h hd0 hd
  refine Ev.step (f := fun _ => some (d == 1)) (fun k => by rw [impl_isTerm.l0, if_neg (dnil h)]) (Ev.to (Ev.now _) ?_)
  unfold tmF
  by_cases e : d = 1 <;> simp [e]
 | cons z zs ih =>
  intro i d h hd0 hd
  obtain ⟨h1, h2, h3⟩ := dcons h
  have hi1 : (i : Int) < (xs.length : Int) := by omega
  have hi0 : 0 ≤ (i : Int) := by omega
  have wd : wrap64 (d + 1) = d + 1 := wz (by omega) (by omega)
  have wd2 : wrap64 (d - 1) = d - 1 := wz (by omega) (by omega)
  have stop (a : Bool) (ha : a = false) (b c e : Int) : ∀ k, impl_isTerm.j2 (k + 1) d xs (xs.length : Int) (i : Int) a p H b c e = some false := fun k => by rw [impl_isTerm.j2, ha, if_neg (by decide)]
  by_cases g0 : z.f0 = 0
  ·have nop : opB z = false := by simp [opB, g0]
   by_cases g1 : z.f1 < 0
   ·refine Ev.step (f := fun _ => some false) (fun k => ?_) (Ev.to (Ev.now _) ?_)
    ·rw [impl_isTerm.l0, if_pos hi1, if_pos hi0, if_pos hi1, rdMk, h2, if_pos g0, if_pos g1]
    ·unfold tmF; rw [if_neg (by simp [leafB]; omega), if_neg (by simp [nop])]
   by_cases g2 : z.f1 ≥ (H.length : Int)
   ·refine Ev.step (f := fun _ => some false) (fun k => ?_) (Ev.to (Ev.now _) ?_)
    ·rw [impl_isTerm.l0, if_pos hi1, if_pos hi0, if_pos hi1, rdMk, h2, if_pos g0, if_neg g1, if_pos g2]
    ·unfold tmF; rw [if_neg (by simp [leafB]; omega), if_neg (by simp [nop])]
   have q1 : 0 ≤ z.f1 := by omega
   have q2 : z.f1 < (H.length : Int) := by omega
   by_cases g3 : z.f2 < 1
   ·refine Ev.step (f := fun _ => some false) (fun k => ?_) (Ev.to (Ev.now _) ?_)
    ·rw [impl_isTerm.l0, if_pos hi1, if_pos hi0, if_pos hi1, rdMk, h2, if_pos g0, if_neg g1, if_neg g2, if_pos g3]
    ·unfold tmF; rw [if_neg (by simp [leafB]; omega), if_neg (by simp [nop])]
   have hm : rd H z.f1 ∈ H := by
    obtain ⟨n, hn2⟩ := Int.eq_ofNat_of_zero_le q1
    rw [hn2, rdn, List.getD_eq_getElem?_getD, List.getElem?_eq_getElem (show n < H.length by omega)]
    exact List.getElem_mem _
   have hr := hh.2.2.2 _ hm
   have hd1 := impl_heads (Int.le_of_lt hr.1) hr.2
   by_cases g4 : z.f2 > hdI (rd H z.f1)
   ·refine Ev.step (f := fun _ => some false) (fun k => ?_) (Ev.to (Ev.now _) ?_)
    ·rw [impl_isTerm.l0, if_pos hi1, if_pos hi0, if_pos hi1, rdMk, h2, if_pos g0, if_neg g1, if_neg g2, if_neg g3, if_pos q1, if_pos q2, hd1, Option.bind_some, if_pos g4]
    ·unfold tmF; rw [if_neg (by simp [leafB]; omega), if_neg (by simp [nop])]
   ·have lf : leafB H z = true := by
     unfold leafB
     rw [decide_eq_true g0, decide_eq_true (show 0 ≤ z.f1 ∧ z.f1 < (H.length : Int) from ⟨q1, q2⟩), decide_eq_true (show 1 ≤ z.f2 ∧ z.f2 ≤ hdI (rd H z.f1) by omega)]
     rfl
    refine Ev.step (fun k => ?_) (Ev.to (ih (i + 1) (d + 1) h3 (by omega) (by omega)) ?_)
    ·rw [impl_isTerm.l0, if_pos hi1, if_pos hi0, if_pos hi1, rdMk, h2, if_pos g0, if_neg g1, if_neg g2, if_neg g3, if_pos q1, if_pos q2, hd1, Option.bind_some, if_neg g4, wd, wsucc h1 (by omega)]
    ·rw [tmF, if_pos lf]
  ·have nl : leafB H z = false := by unfold leafB; rw [decide_eq_false g0]; rfl
   refine Ev.step (f := fun k => impl_isTerm.j2 k d xs (xs.length : Int) (i : Int) (decide (z.f0 = 1) || decide (z.f0 = 2)) p H z.f0 z.f1 z.f2) (fun k => ?_) ?_
   ·rw [impl_isTerm.l0, if_pos hi1, if_pos hi0, if_pos hi1, rdMk, h2, if_neg g0]
    by_cases g5 : z.f0 = 1
    ·rw [if_pos g5]; simp [g5]
    ·rw [if_neg g5]; simp only [decide_eq_false g5, Bool.false_or]; rfl
   ·rw [tmF, nl, if_neg (by decide)]
    cases hop : (decide (z.f0 = 1) || decide (z.f0 = 2)) with
    | false => exact Ev.step (fun k => by rw [impl_isTerm.j2, if_neg (by decide)]) (Ev.to (Ev.now false) (by simp [opB, hop]))
    | true =>
     by_cases g6 : z.f1 = 0
     ·by_cases g7 : z.f2 = 0
      ·have hb : opB z = true := by simp [opB, hop, g6, g7]
       rw [if_pos hb]
       by_cases g8 : d < 2
       ·rw [if_pos g8]
        exact Ev.step (fun k => by rw [impl_isTerm.j2, if_pos rfl, if_pos g6, if_pos g7, if_pos g8]) (Ev.now false)
       ·rw [if_neg g8]
        exact Ev.step (fun k => by rw [impl_isTerm.j2, if_pos rfl, if_pos g6, if_pos g7, if_neg g8, wd2, wsucc h1 (by omega)]) (ih (i + 1) (d - 1) h3 (by omega) (by omega))
      ·exact Ev.step (fun k => by rw [impl_isTerm.j2, if_pos rfl, if_pos g6, if_neg g7]) (Ev.to (Ev.now false) (by simp [opB, g7]))
     ·exact Ev.step (fun k => by rw [impl_isTerm.j2, if_pos rfl, if_neg g6]) (Ev.to (Ev.now false) (by simp [opB, g6]))
theorem impl_isTerm_ev (p : Int) (H : List Int) (hn : H.length ≤ 1048576) (ms : List S75) (hm : ms.length ≤ 1048576) : Ev (fun k => impl_isTerm.f k p H ms) (TmB p H ms) := by
 have stop : Ev (fun k => impl_isTerm.j0 k ms true p H) false := Ev.step (f := fun _ => some false) (fun k => by rw [impl_isTerm.j0, if_pos rfl]) (Ev.now _)
 unfold impl_isTerm.f TmB
 refine Ev.bind (impl_isHouse_ev p H hn) ?_
 cases hH : HsB p H with
 | false => simp only [Bool.false_eq_true, if_false, Bool.false_and]; exact stop
 | true =>
  simp only [if_true, Bool.true_and]
  by_cases h1 : (ms.length : Int) < 1
  ·simp only [if_pos h1]
   obtain rfl : ms = [] := List.eq_nil_of_length_eq_zero (by omega)
   exact Ev.to stop (by simp [tmF])
  ·simp only [if_neg h1]
   by_cases h2 : (ms.length : Int) > 9
   ·simp only [decide_eq_true h2]
    exact Ev.to stop (by rw [decide_eq_false (by omega)]; rfl)
   ·simp only [decide_eq_false h2, decide_eq_true (show (ms.length : Int) ≤ 9 by omega), Bool.true_and]
    exact Ev.step (f := fun k => impl_isTerm.l0 k 0 ms (ms.length : Int) ((0 : Nat) : Int) p H) (fun k => by rw [impl_isTerm.j0, if_neg (by decide)]; rfl) (impl_isTerm_l0 p H hH ms hm ms 0 0 rfl (by omega) (by omega))
theorem spec_TermOk_l0 (p : Int) (H : List Int) (hn : H.length ≤ 1048576) (hc : ∀ c ∈ H, c ≤ 9223372036854775807) (xs : List S75) (hx : xs.length ≤ 1048576) : ∀ (zs : List S75) (i : Nat) (d : Int), xs.drop i = zs → 0 ≤ d → d ≤ i → Ev (fun k => spec_TermOk.l0 k xs d (i : Int) p H) (HsB p H && (decide ((xs.length : Int) ≤ 9) && tmF H zs d)) := by
 intro zs
 induction zs with
 | nil =>
  intro i d h hd0 hd
  refine Ev.step (f := fun k => (spec_HouseOk.f k p H).bind fun t => (if t = true then (if d = 1 then (some (decide ((xs.length : Int) ≤ 9))) else (some false)) else (some false))) (fun k => by rw [spec_TermOk.l0, if_neg (dnil h)]) (Ev.bind (spec_HouseOk_ev p H hn) ?_)
  unfold tmF
  cases HsB p H with
  | false => simp only [Bool.false_eq_true, if_false, Bool.false_and]; exact Ev.now _
  | true =>
   simp only [if_true, Bool.true_and]
   by_cases e : d = 1
   ·simp only [if_pos e]; exact Ev.to (Ev.now _) (by simp [e])
   ·simp only [if_neg e]; exact Ev.to (Ev.now _) (by simp [e])
 | cons z zs ih =>
  intro i d h hd0 hd
  obtain ⟨h1, h2, h3⟩ := dcons h
  have hi1 : (i : Int) < (xs.length : Int) := by omega
  have hi0 : 0 ≤ (i : Int) := by omega
  have wd : wrap64 (d + 1) = d + 1 := wz (by omega) (by omega)
  have wd2 : wrap64 (d - 1) = d - 1 := wz (by omega) (by omega)
  have wl : wrap64 ((H.length : Int) - 1) = (H.length : Int) - 1 := wz (by omega) (by omega)
  have j : Ev (fun k => spec_TermOk.j1 k xs d (i : Int) (leafB H z) p H) (HsB p H && (decide ((xs.length : Int) ≤ 9) && tmF H (z :: zs) d)) := by
   cases hl : leafB H z with
   | true => exact Ev.step (fun k => by rw [spec_TermOk.j1, if_pos rfl, wd, wsucc h1 (by omega)]) (Ev.to (ih (i + 1) (d + 1) h3 (by omega) (by omega)) (by rw [tmF, if_pos hl]))
   | false =>
    rw [tmF, hl, if_neg (by decide)]
    by_cases g1 : z.f0 = 1 ∧ z.f1 = 0 ∧ z.f2 = 0
    ·have b1 : (z.f0 == 1 && (z.f1 == 0 && z.f2 == 0)) = true := by simp [g1]
     have hb : opB z = true := by simp [opB, g1]
     rw [if_pos hb]
     by_cases g8 : d < 2
     ·rw [if_pos g8]
      exact Ev.step (fun k => by rw [spec_TermOk.j1, if_neg (by decide), if_pos hi0, if_pos hi1, rdMk, h2, if_pos b1, if_neg (by omega)]) (Ev.to (Ev.now false) (by simp))
     ·rw [if_neg g8]
      exact Ev.step (fun k => by rw [spec_TermOk.j1, if_neg (by decide), if_pos hi0, if_pos hi1, rdMk, h2, if_pos b1, if_pos (by omega), wd2, wsucc h1 (by omega)]) (ih (i + 1) (d - 1) h3 (by omega) (by omega))
    ·have b1 : ¬ (z.f0 == 1 && (z.f1 == 0 && z.f2 == 0)) = true := by simpa using g1
     by_cases g2 : z.f0 = 2 ∧ z.f1 = 0 ∧ z.f2 = 0
     ·have b2 : (z.f0 == 2 && (z.f1 == 0 && z.f2 == 0)) = true := by simp [g2]
      have hb : opB z = true := by simp [opB, g2]
      rw [if_pos hb]
      by_cases g8 : d < 2
      ·rw [if_pos g8]
       exact Ev.step (fun k => by rw [spec_TermOk.j1, if_neg (by decide), if_pos hi0, if_pos hi1, rdMk, h2, if_neg b1, if_pos b2, if_neg (by omega)]) (Ev.to (Ev.now false) (by simp))
      ·rw [if_neg g8]
       exact Ev.step (fun k => by rw [spec_TermOk.j1, if_neg (by decide), if_pos hi0, if_pos hi1, rdMk, h2, if_neg b1, if_pos b2, if_pos (by omega), wd2, wsucc h1 (by omega)]) (ih (i + 1) (d - 1) h3 (by omega) (by omega))
     ·have b2 : ¬ (z.f0 == 2 && (z.f1 == 0 && z.f2 == 0)) = true := by simpa using g2
      have hb : ¬ opB z = true := by
       unfold opB
       simp only [Bool.and_eq_true, Bool.or_eq_true, decide_eq_true_eq]
       omega
      rw [if_neg hb]
      exact Ev.step (fun k => by rw [spec_TermOk.j1, if_neg (by decide), if_pos hi0, if_pos hi1, rdMk, h2, if_neg b1, if_neg b2]) (Ev.to (Ev.now false) (by simp))
  by_cases g0 : z.f0 = 0
  ·by_cases g1 : 0 ≤ z.f1 ∧ z.f1 < (H.length : Int)
   ·have hm : rd H z.f1 ∈ H := by
     obtain ⟨n, hn2⟩ := Int.eq_ofNat_of_zero_le g1.1
     rw [hn2, rdn, List.getD_eq_getElem?_getD, List.getElem?_eq_getElem (show n < H.length by omega)]
     exact List.getElem_mem _
    refine Ev.step (f := fun k => (spec_l1Heads.f k (rd H z.f1)).bind fun t => (spec_l1In.f z.f2 1 t).bind fun u => spec_TermOk.j1 k xs d (i : Int) u p H) (fun k => ?_) (Ev.bind (spec_heads_ev _ (hc _ hm)) ?_)
    ·rw [spec_TermOk.l0, if_pos hi1, if_pos hi0, rdMk, h2, if_pos g0, l1In_eq2, wl, Option.bind_some, decide_eq_true (show 0 ≤ z.f1 ∧ z.f1 ≤ (H.length : Int) - 1 by omega), if_pos rfl, if_pos g1.1, if_pos g1.2]
    ·have e2 : leafB H z = decide (1 ≤ z.f2 ∧ z.f2 ≤ hdI (rd H z.f1)) := by unfold leafB; rw [decide_eq_true g0, decide_eq_true g1]; simp
     simp only [l1In_eq2, Option.bind_some]
     rw [← e2]
     exact j
   ·have nl : leafB H z = false := by unfold leafB; rw [decide_eq_false g1]; simp
    rw [nl] at j
    exact Ev.step (fun k => by rw [spec_TermOk.l0, if_pos hi1, if_pos hi0, rdMk, h2, if_pos g0, l1In_eq2, wl, Option.bind_some, decide_eq_false (show ¬ (0 ≤ z.f1 ∧ z.f1 ≤ (H.length : Int) - 1) by omega), if_neg (by decide)]) j
  ·have nl : leafB H z = false := by unfold leafB; rw [decide_eq_false g0]; rfl
   rw [nl] at j
   exact Ev.step (fun k => by rw [spec_TermOk.l0, if_pos hi1, if_pos hi0, rdMk, h2, if_neg g0]) j
theorem spec_TermOk_ev (p : Int) (H : List Int) (hn : H.length ≤ 1048576) (hc : ∀ c ∈ H, c ≤ 9223372036854775807) (ms : List S75) (hm : ms.length ≤ 1048576) : Ev (fun k => spec_TermOk.f k p H ms) (TmB p H ms) := spec_TermOk_l0 p H hn hc ms hm ms 0 0 rfl (by omega) (by omega)

theorem rdSt (xs : List S35) (i : Nat) : rd_T35 xs (i : Int) = xs.getD i z35 := by simp [rd_T35]

theorem wrap_le (x : Int) : wrap64 x ≤ 9223372036854775807 := by unfold wrap64; omega
def SmallH (H : List Int) : Prop := H.length ≤ 6 ∧ ∀ c ∈ H, c ≤ 9223372036854775807
section
variable {s : List Int} (hs : ∀ x ∈ s, (Lit.int .u8 x).wf = true) (hl : s.length ≤ 2000)
include hs hl
theorem house_l0 (n p : Int) (hp : 0 ≤ p) : ∀ (m : Nat) (H : List Int) (q : Int), H.length + m ≤ 5 → (∀ c ∈ H, c ≤ 9223372036854775807) → 0 ≤ q → q + m ≤ 100000 → ∃ p2 H2 q2, Ev (fun k => spec_l20House.l0 k n (m : Int) s q p H) (p2, H2, q2) ∧ SmallH H2 ∧ 0 ≤ q2 ∧ q2 ≤ q + m + 10 := by
 intro m
 induction m with
 | zero =>
  intro H q hH hc h0 hq
  obtain ⟨o, q1, e1, b1, b2, _⟩ := odd_ev hs hl q n h0 (by omega)
  have st : ∀ k, spec_l20House.l0 (k + 1) n ((0 : Nat) : Int) s q p H = _ := fun k => by rw [spec_l20House.l0, if_neg (by omega)]
  cases o with
  | false => exact ⟨p, H, q1, Ev.step st (Ev.bind e1 (by simp only [Bool.false_eq_true, if_false]; exact Ev.now _)), ⟨by omega, hc⟩, by omega, by omega⟩
  | true =>
   obtain ⟨r2, e2, c0, c1, _⟩ := pick_ev hs hl q1 3 (by omega) (by omega)
   by_cases g0 : r2 = 0
   ·obtain ⟨r3, e3, d0, d1, _⟩ := pick_ev hs hl (q1 + 1) 2 (by omega) (by omega)
    have d1 := d1 (by decide)
    refine ⟨rd [0, 7] r3, H, q1 + 1 + 1, Ev.step st (Ev.bind e1 (by simp only [if_true]; exact Ev.bind e2 (by simp only [if_pos g0, Option.bind_some]; exact Ev.bind e3 (by simp only [if_pos d0, if_pos (show r3 < (([0, 7] : List Int).length : Int) by simpa using d1)]; exact Ev.now _)))), ⟨by omega, hc⟩, by omega, by omega⟩
   by_cases g1 : r2 = 1
   ·refine ⟨p, H ++ [0], q1 + 1, Ev.step st (Ev.bind e1 (by simp only [if_true]; exact Ev.bind e2 (by simp only [if_neg g0, if_pos g1, if_pos (show H.length < 17592186044416 by omega)]; exact Ev.now _))), ⟨by simp; omega, fun c hm => ?_⟩, by omega, by omega⟩
    rcases List.mem_append.1 hm with hm | hm
    ·exact hc c hm
    ·have : c = 0 := by simpa using hm
     omega
   ·exact ⟨p, [], q1 + 1, Ev.step st (Ev.bind e1 (by simp only [if_true]; exact Ev.bind e2 (by simp only [if_neg g0, if_neg g1]; exact Ev.now _))), ⟨by simp, by simp⟩, by omega, by omega⟩
 | succ m ih =>
  intro H q hH hc h0 hq
  have w : Unit → wrap64 (((m + 1 : Nat) : Int) - 1) = (m : Int) := fun _ => by rw [wz (by omega) (by omega)]; omega
  obtain ⟨r1, e1, _⟩ := pick_ev hs hl q (wrap64 ((shl .i64 1 p) - 1)) h0 (by omega)
  have hc2 : ∀ c ∈ H ++ [wrap64 (1 + r1)], c ≤ 9223372036854775807 := by
   intro c hm
   rcases List.mem_append.1 hm with hm | hm
   ·exact hc c hm
   ·have e : c = wrap64 (1 + r1) := by simpa using hm
    rw [e]
    exact wrap_le _
  obtain ⟨p2, H2, q2, e, g1, g2, g3⟩ := ih (H ++ [wrap64 (1 + r1)]) (q + 1) (by simp; omega) hc2 (by omega) (by omega)
  refine ⟨p2, H2, q2, Ev.step (fun k => by rw [spec_l20House.l0, if_pos (by omega), if_pos hp]) (Ev.bind e1 ?_), g1, g2, by omega⟩
  simp only [if_pos (show H.length < 17592186044416 by omega), w ()]
  exact e
theorem house_ev (q n : Int) (h0 : 0 ≤ q) (hq : q ≤ 90000) : ∃ p2 H2 q2, Ev (fun k => spec_l20House.f k s q n) (p2, H2, q2) ∧ SmallH H2 ∧ 0 ≤ q2 ∧ q2 ≤ q + 20 := by
 obtain ⟨r0, e0, a0, a1, _⟩ := pick_ev hs hl q 5 h0 (by omega)
 have a1 := a1 (by decide)
 obtain ⟨r1, e1, b0, b1, _⟩ := pick_ev hs hl (q + 1) 9 (by omega) (by omega)
 have b1 := b1 (by decide)
 obtain ⟨r2, e2, c0, c1, _⟩ := pick_ev hs hl (q + 1 + 1) 3 (by omega) (by omega)
 have c1 := c1 (by decide)
 obtain ⟨m, hm⟩ := Int.eq_ofNat_of_zero_le (show 0 ≤ 1 + r2 by omega)
 have hd : Int.tdiv r1 8 = r1 / 8 := Int.tdiv_eq_ediv_of_nonneg b0
 have hP : 0 ≤ wrap64 ((wrap64 (1 + r0)) + (wrap64 (Int.tdiv r1 8))) := by
  rw [hd, wz (x := 1 + r0) (by omega) (by omega), wz (x := r1 / 8) (by omega) (by omega), wz (by omega) (by omega)]
  omega
 obtain ⟨p2, H2, q2, e, g1, g2, g3⟩ := house_l0 hs hl n _ hP m [] (q + 1 + 1 + 1) (by simp; omega) (by simp) (by omega) (by omega)
 refine ⟨p2, H2, q2, ?_, g1, g2, by omega⟩
 have w : wrap64 (1 + r2) = (m : Int) := by rw [wz (by omega) (by omega)]; exact hm
 unfold spec_l20House.f
 refine Ev.bind e0 (Ev.bind e1 (Ev.bind e2 ?_))
 simp only [w]
 exact e
theorem atom_ev (q p : Int) (H : List Int) (hH : SmallH H) (h0 : 0 ≤ q) (hq : q ≤ 90000) : ∃ ms q2, Ev (fun k => spec_l20Atom.f k s q p H) (ms, q2) ∧ ms.length ≤ 3 ∧ 0 ≤ q2 ∧ q2 ≤ q + 10 := by
 unfold spec_l20Atom.f
 by_cases hz : (H.length : Int) = 0
 ·exact ⟨[], q, by simp only [if_pos hz]; exact Ev.now _, by simp, h0, by omega⟩
 simp only [if_neg hz]
 obtain ⟨r0, e0, a0, a1, _⟩ := pick_ev hs hl q (H.length : Int) h0 (by omega)
 have a1 := a1 (by omega)
 have hm : rd H r0 ∈ H := by
  obtain ⟨i, rfl⟩ := Int.eq_ofNat_of_zero_le a0
  rw [rdn, List.getD_eq_getElem?_getD, List.getElem?_eq_getElem (show i < H.length by omega)]
  exact List.getElem_mem _
 have hmx : mx (rd H r0) 0 ≤ 9223372036854775807 := by
  have := hH.2 _ hm
  unfold mx
  split <;> omega
 have eh := spec_heads_ev _ hmx
 obtain ⟨r1, e1, _⟩ := pick_ev hs hl (q + 1) (mx (hdI (mx (rd H r0) 0)) 1) (by omega) (by omega)
 obtain ⟨r2, e2, _⟩ := pick_ev hs hl (q + 1 + 1) 5 (by omega) (by omega)
 by_cases g : r2 = 0
 ·obtain ⟨r3, e3, _⟩ := pick_ev hs hl (q + 1 + 1 + 1) (H.length : Int) (by omega) (by omega)
  obtain ⟨r4, e4, _⟩ := pick_ev hs hl (q + 1 + 1 + 1 + 1) 2 (by omega) (by omega)
  refine ⟨[⟨0, r0, wrap64 (1 + r1)⟩] ++ [⟨0, r3, 1⟩, ⟨wrap64 (1 + r4), 0, 0⟩], q + 1 + 1 + 1 + 1 + 1, Ev.bind e0 ?_, by simp, by omega, by omega⟩
  simp only [if_pos a0, if_pos a1]
  refine Ev.bind eh (Ev.bind e1 ?_)
  simp only [Option.bind_some]
  refine Ev.bind e2 ?_
  simp only [if_pos g]
  refine Ev.bind e3 (Ev.bind e4 ?_)
  simp
  exact Ev.now _
 ·refine ⟨[⟨0, r0, wrap64 (1 + r1)⟩], q + 1 + 1 + 1, Ev.bind e0 ?_, by simp, by omega, by omega⟩
  simp only [if_pos a0, if_pos a1]
  refine Ev.bind eh (Ev.bind e1 ?_)
  simp only [Option.bind_some]
  refine Ev.bind e2 ?_
  simp only [if_neg g]
  exact Ev.now _
end

def VtB (p : Int) (H : List Int) (R : List (List S35)) (x : Int) (v : S35) : Bool :=
 TmB p H v.f0 && (decide (v.f1 = -1 ∧ v.f2 = 0) || decide (0 ≤ v.f1 ∧ v.f1 < R.length ∧ v.f1 ≠ x ∧ 0 ≤ v.f2 ∧ v.f2 < ((rd_L5 R v.f1).length : Int)))
def cgF (p : Int) (H : List Int) (R : List (List S35)) : List (List S35) → Int → Bool
 | [], _ => true
 | r :: rs, x => (decide (1 ≤ (r.length : Int) ∧ (r.length : Int) ≤ 3) && r.all (VtB p H R x)) && cgF p H R rs (x + 1)
def CgB (p : Int) (H : List Int) (R : List (List S35)) : Bool := HsB p H && (decide (1 ≤ (R.length : Int) ∧ (R.length : Int) ≤ 3) && cgF p H R R 0)
theorem rdVV (xs : List (List S35)) (i : Nat) : rd_L5 xs (i : Int) = xs.getD i [] := by simp [rd_L5]
section
variable (p : Int) (H : List Int) (R : List (List S35))
theorem isCharter_l1 (hH : H.length ≤ 1048576) (x : Nat) (r : List S35) (hr : r.length ≤ 1048576) (hin : ∀ v ∈ r, v.f0.length ≤ 1048576) (b : Bool) (e : Ev (fun k => impl_isCharter.l0 k R (R.length : Int) (wrap64 ((x : Int) + 1)) p H R) b) : ∀ (zs : List S35) (j : Nat), r.drop j = zs → Ev (fun k => impl_isCharter.l1 k (x : Int) R (R.length : Int) (x : Int) r (r.length : Int) (j : Int) p H R) (zs.all (VtB p H R x) && b) := by
 intro zs
 induction zs with
 | nil =>
  intro j h
  exact Ev.step (fun k => by rw [impl_isCharter.l1, if_neg (dnil h)]) (Ev.to e (by simp))
 | cons z zs ih =>
  intro j h
  obtain ⟨h1, h2, h3⟩ := dcons h
  have hz : z ∈ r := List.mem_of_mem_drop (by rw [h]; simp)
  have e1 := ih (j + 1) h3
  have wj := wsucc h1 (show r.length ≤ 9223372036854775807 by omega)
  have j4 : Ev (fun k => impl_isCharter.j4 k (x : Int) R (R.length : Int) (x : Int) r (r.length : Int) (j : Int) (decide (z.f1 = -1 ∧ z.f2 = 0)) p H R z.f0 z.f1 z.f2) ((decide (z.f1 = -1 ∧ z.f2 = 0) || decide (0 ≤ z.f1 ∧ z.f1 < R.length ∧ z.f1 ≠ (x : Int) ∧ 0 ≤ z.f2 ∧ z.f2 < ((rd_L5 R z.f1).length : Int))) && (zs.all (VtB p H R x) && b)) := by
   by_cases g : z.f1 = -1 ∧ z.f2 = 0
   ·rw [decide_eq_true g, Bool.true_or, Bool.true_and]
    exact Ev.step (fun k => by rw [impl_isCharter.j4, if_pos rfl, wj]) e1
   ·rw [decide_eq_false g, Bool.false_or]
    by_cases g1 : z.f1 < 0
    ·exact Ev.step (fun k => by rw [impl_isCharter.j4, if_neg (by decide), if_pos g1]) (Ev.to (Ev.now false) (by rw [decide_eq_false (by omega)]; rfl))
    by_cases g2 : z.f1 ≥ (R.length : Int)
    ·exact Ev.step (fun k => by rw [impl_isCharter.j4, if_neg (by decide), if_neg g1, if_pos g2]) (Ev.to (Ev.now false) (by rw [decide_eq_false (by omega)]; rfl))
    by_cases g3 : z.f1 = (x : Int)
    ·exact Ev.step (fun k => by rw [impl_isCharter.j4, if_neg (by decide), if_neg g1, if_neg g2, if_pos g3]) (Ev.to (Ev.now false) (by rw [decide_eq_false (by omega)]; rfl))
    by_cases g4 : z.f2 < 0
    ·exact Ev.step (fun k => by rw [impl_isCharter.j4, if_neg (by decide), if_neg g1, if_neg g2, if_neg g3, if_pos g4]) (Ev.to (Ev.now false) (by rw [decide_eq_false (by omega)]; rfl))
    by_cases g5 : z.f2 ≥ ((rd_L5 R z.f1).length : Int)
    ·exact Ev.step (fun k => by rw [impl_isCharter.j4, if_neg (by decide), if_neg g1, if_neg g2, if_neg g3, if_neg g4, if_pos (by omega), if_pos (by omega), if_pos g5]) (Ev.to (Ev.now false) (by rw [decide_eq_false (by omega)]; rfl))
    ·refine Ev.step (fun k => by rw [impl_isCharter.j4, if_neg (by decide), if_neg g1, if_neg g2, if_neg g3, if_neg g4, if_pos (by omega), if_pos (by omega), if_neg g5, wj]) (Ev.to e1 ?_)
     rw [decide_eq_true (show 0 ≤ z.f1 ∧ z.f1 < (R.length : Int) ∧ z.f1 ≠ (x : Int) ∧ 0 ≤ z.f2 ∧ z.f2 < ((rd_L5 R z.f1).length : Int) by omega), Bool.true_and]
  refine Ev.step (f := fun k => (impl_isTerm.f k p H z.f0).bind fun t => if t = true then (impl_isCharter.j4 k (x : Int) R (R.length : Int) (x : Int) r (r.length : Int) (j : Int) (decide (z.f1 = -1 ∧ z.f2 = 0)) p H R z.f0 z.f1 z.f2) else (some false)) (fun k => ?_) (Ev.bind (impl_isTerm_ev p H hH _ (hin z hz)) ?_)
  ·rw [impl_isCharter.l1, if_pos (by omega), if_pos (by omega), if_pos (by omega), rdSt, h2]
   by_cases g : z.f1 = -1
   ·simp only [if_pos g]
    rw [show (z.f2 == 0) = decide (z.f1 = -1 ∧ z.f2 = 0) from by simp only [g, true_and]; rfl]
   ·simp only [if_neg g]
    rw [show decide (z.f1 = -1 ∧ z.f2 = 0) = false from decide_eq_false (by omega)]
  ·rw [List.all_cons, VtB]
   cases TmB p H z.f0 with
   | false => simp only [Bool.false_eq_true, if_false, Bool.false_and]; exact Ev.now _
   | true => simp only [if_true, Bool.true_and]; exact Ev.to j4 (by rw [Bool.and_assoc])
theorem isCharter_l0 (hH : H.length ≤ 1048576) (hR : R.length ≤ 1048576) (hin : ∀ r ∈ R, r.length ≤ 1048576 ∧ ∀ v ∈ r, v.f0.length ≤ 1048576) : ∀ (zs : List (List S35)) (i : Nat), R.drop i = zs → Ev (fun k => impl_isCharter.l0 k R (R.length : Int) (i : Int) p H R) (cgF p H R zs i) := by
 intro zs
 induction zs with
 | nil =>
  intro i h
  exact Ev.step (f := fun _ => some true) (fun k => by rw [impl_isCharter.l0, if_neg (dnil h)]) (Ev.now _)
 | cons z zs ih =>
  intro i h
  obtain ⟨h1, h2, h3⟩ := dcons h
  have hz : z ∈ R := List.mem_of_mem_drop (by rw [h]; simp)
  have e := ih (i + 1) h3
  have e : Ev (fun k => impl_isCharter.l0 k R (R.length : Int) (wrap64 ((i : Int) + 1)) p H R) (cgF p H R zs ((i : Int) + 1)) := by
   rw [wsucc h1 (by omega)]
   exact e
  have e1 := isCharter_l1 p H R hH i z (hin z hz).1 (hin z hz).2 _ e z 0 rfl
  have stop : Ev (fun k => impl_isCharter.j2 k (i : Int) z R (R.length : Int) (i : Int) true p H R) false := Ev.step (fun k => by rw [impl_isCharter.j2, if_pos rfl]) (Ev.now false)
  rw [cgF]
  by_cases g1 : (z.length : Int) < 1
  ·exact Ev.step (fun k => by rw [impl_isCharter.l0, if_pos (by omega), if_pos (by omega), if_pos (by omega), rdVV, h2, if_pos g1]) (Ev.to stop (by rw [decide_eq_false (by omega)]; rfl))
  by_cases g2 : (z.length : Int) > 3
  ·exact Ev.step (fun k => by rw [impl_isCharter.l0, if_pos (by omega), if_pos (by omega), if_pos (by omega), rdVV, h2, if_neg g1, decide_eq_true g2]) (Ev.to stop (by rw [decide_eq_false (by omega)]; rfl))
  ·refine Ev.step (f := fun k => impl_isCharter.j2 k (i : Int) z R (R.length : Int) (i : Int) false p H R) (fun k => by rw [impl_isCharter.l0, if_pos (by omega), if_pos (by omega), if_pos (by omega), rdVV, h2, if_neg g1, decide_eq_false g2]) ?_
   refine Ev.step (fun k => by rw [impl_isCharter.j2, if_neg (by decide)]; rfl) (Ev.to e1 ?_)
   rw [decide_eq_true (show 1 ≤ (z.length : Int) ∧ (z.length : Int) ≤ 3 by omega), Bool.true_and]
theorem isCharter_ev (hH : H.length ≤ 1048576) (hR : R.length ≤ 1048576) (hin : ∀ r ∈ R, r.length ≤ 1048576 ∧ ∀ v ∈ r, v.f0.length ≤ 1048576) : Ev (fun k => impl_isCharter.f k p H R) (CgB p H R) := by
 have stop : Ev (fun k => impl_isCharter.j0 k true p H R) false := Ev.step (fun k => by rw [impl_isCharter.j0, if_pos rfl]) (Ev.now false)
 unfold impl_isCharter.f CgB
 refine Ev.bind (impl_isHouse_ev p H hH) ?_
 cases HsB p H with
 | false => simp only [Bool.false_eq_true, if_false, Bool.false_and]; exact stop
 | true =>
  simp only [if_true, Bool.true_and]
  by_cases g1 : (R.length : Int) < 1
  ·simp only [if_pos g1]; exact Ev.to stop (by rw [decide_eq_false (by omega)]; rfl)
  ·simp only [if_neg g1]
   by_cases g2 : (R.length : Int) > 3
   ·simp only [decide_eq_true g2]; exact Ev.to stop (by rw [decide_eq_false (by omega)]; rfl)
   ·rw [decide_eq_true (show 1 ≤ (R.length : Int) ∧ (R.length : Int) ≤ 3 by omega), Bool.true_and]
    simp only [decide_eq_false g2]
    exact Ev.step (fun k => by rw [impl_isCharter.j0, if_neg (by decide)]; rfl) (isCharter_l0 p H R hH hR hin R 0 rfl)
theorem CharterOk_l1 (hH : H.length ≤ 1048576) (hh : ∀ c ∈ H, c ≤ 9223372036854775807) (hR : R.length ≤ 1048576) (hRin : ∀ r ∈ R, r.length ≤ 1048576) (x : Nat) (hx : x < R.length) (r : List S35) (hxr : R.getD x [] = r) (hr : r.length ≤ 1048576) (hin : ∀ v ∈ r, v.f0.length ≤ 1048576) (b : Bool) (e : Ev (fun k => spec_CharterOk.l0 k (wrap64 ((x : Int) + 1)) p H R) b) : ∀ (zs : List S35) (j : Nat), r.drop j = zs → Ev (fun k => spec_CharterOk.l1 k (x : Int) (j : Int) p H R) (zs.all (VtB p H R x) && b) := by
 have wr : wrap64 ((R.length : Int) - 1) = (R.length : Int) - 1 := wz (by omega) (by omega)
 intro zs
 induction zs with
 | nil =>
  intro j h
  exact Ev.step (fun k => by rw [spec_CharterOk.l1, if_pos (by omega), if_pos (by omega), rdVV, hxr, if_neg (dnil h)]) (Ev.to e (by simp))
 | cons z zs ih =>
  intro j h
  obtain ⟨h1, h2, h3⟩ := dcons h
  have hz : z ∈ r := List.mem_of_mem_drop (by rw [h]; simp)
  have e1 := ih (j + 1) h3
  have wj := wsucc h1 (show r.length ≤ 9223372036854775807 by omega)
  have j2 : Ev (fun k => spec_CharterOk.j2 k (x : Int) (j : Int) (decide (z.f1 = -1 ∧ z.f2 = 0)) p H R z.f0 z.f1 z.f2) (VtB p H R x z && (zs.all (VtB p H R x) && b)) := by
   refine Ev.step (f := fun k => (spec_TermOk.f k p H z.f0).bind fun t151 => (if t151 = true then (if (decide (z.f1 = -1 ∧ z.f2 = 0)) = true then (spec_CharterOk.l1 k (x : Int) ((j + 1 : Nat) : Int) p H R) else (if z.f1 = (x : Int) then (some false) else ((spec_l1In.f z.f1 0 ((R.length : Int) - 1)).bind fun t152 => (if t152 = true then (if 0 ≤ z.f1 then (if z.f1 < (R.length : Int) then ((spec_l1In.f z.f2 0 (wrap64 (((rd_L5 R z.f1).length : Int) - 1))).bind fun t154 => (if t154 = true then (spec_CharterOk.l1 k (x : Int) ((j + 1 : Nat) : Int) p H R) else (some false))) else (none)) else (none)) else (some false))))) else (some false))) (fun k => by rw [spec_CharterOk.j2, wj, wr]) (Ev.bind (spec_TermOk_ev p H hH hh _ (hin z hz)) ?_)
   rw [VtB]
   cases TmB p H z.f0 with
   | false => simp only [Bool.false_eq_true, if_false, Bool.false_and]; exact Ev.now _
   | true =>
    simp only [if_true, Bool.true_and]
    by_cases g : z.f1 = -1 ∧ z.f2 = 0
    ·rw [decide_eq_true g]
     simp only [if_true, Bool.true_or, Bool.true_and]
     exact e1
    ·rw [decide_eq_false g]
     simp only [Bool.false_eq_true, if_false, Bool.false_or]
     by_cases g3 : z.f1 = (x : Int)
     ·simp only [if_pos g3]
      exact Ev.to (Ev.now false) (by rw [decide_eq_false (by omega)]; rfl)
     ·simp only [if_neg g3, l1In_eq2, Option.bind_some]
      by_cases g1 : 0 ≤ z.f1 ∧ z.f1 ≤ (R.length : Int) - 1
      ·have q1 : 0 ≤ z.f1 := g1.1
       have q2 : z.f1 < (R.length : Int) := by omega
       have hl : (rd_L5 R z.f1).length ≤ 1048576 := by
        obtain ⟨n, hn⟩ := Int.eq_ofNat_of_zero_le q1
        rw [hn, rdVV, List.getD_eq_getElem?_getD, List.getElem?_eq_getElem (show n < R.length by omega)]
        exact hRin _ (List.getElem_mem _)
       have wl : wrap64 (((rd_L5 R z.f1).length : Int) - 1) = ((rd_L5 R z.f1).length : Int) - 1 := wz (by omega) (by omega)
       simp only [decide_eq_true g1, if_true, if_pos q1, if_pos q2, wl]
       by_cases g5 : 0 ≤ z.f2 ∧ z.f2 ≤ ((rd_L5 R z.f1).length : Int) - 1
       ·simp only [decide_eq_true g5, if_true]
        refine Ev.to e1 ?_
        rw [decide_eq_true (show 0 ≤ z.f1 ∧ z.f1 < (R.length : Int) ∧ z.f1 ≠ (x : Int) ∧ 0 ≤ z.f2 ∧ z.f2 < ((rd_L5 R z.f1).length : Int) by omega), Bool.true_and]
       ·simp only [decide_eq_false g5, Bool.false_eq_true, if_false]
        exact Ev.to (Ev.now false) (by rw [decide_eq_false (by omega)]; rfl)
      ·simp only [decide_eq_false g1, Bool.false_eq_true, if_false]
       exact Ev.to (Ev.now false) (by rw [decide_eq_false (by omega)]; rfl)
  refine Ev.step (fun k => ?_) (Ev.to j2 (by rw [List.all_cons, Bool.and_assoc]))
  rw [spec_CharterOk.l1, if_pos (by omega), if_pos (by omega), rdVV, hxr, if_pos (by omega), if_pos (by omega), rdSt, h2]
  by_cases g : z.f1 = -1
  ·rw [if_pos g]
   rw [show (z.f2 == 0) = decide (z.f1 = -1 ∧ z.f2 = 0) from by simp only [g, true_and]; rfl]
  ·rw [if_neg g]
   rw [show decide (z.f1 = -1 ∧ z.f2 = 0) = false from decide_eq_false (by omega)]
theorem CharterOk_l0 (hH : H.length ≤ 1048576) (hh : ∀ c ∈ H, c ≤ 9223372036854775807) (hR : R.length ≤ 1048576) (hin : ∀ r ∈ R, r.length ≤ 1048576 ∧ ∀ v ∈ r, v.f0.length ≤ 1048576) : ∀ (zs : List (List S35)) (i : Nat), R.drop i = zs → Ev (fun k => spec_CharterOk.l0 k (i : Int) p H R) (cgF p H R zs i && (HsB p H && decide (1 ≤ (R.length : Int) ∧ (R.length : Int) ≤ 3))) := by
 intro zs
 induction zs with
 | nil =>
  intro i h
  refine Ev.step (f := fun k => (spec_HouseOk.f k p H).bind fun t => (if t = true then ((spec_l1In.f (R.length : Int) 1 3).bind fun t144 => (some t144)) else (some false))) (fun k => by rw [spec_CharterOk.l0, if_neg (dnil h)]) (Ev.bind (spec_HouseOk_ev p H hH) ?_)
  cases HsB p H with
  | false => simp only [Bool.false_eq_true, if_false, Bool.false_and]; exact Ev.now _
  | true => simp only [if_true, l1In_eq2, Option.bind_some, Bool.true_and]; exact Ev.now _
 | cons z zs ih =>
  intro i h
  obtain ⟨h1, h2, h3⟩ := dcons h
  have hz : z ∈ R := List.mem_of_mem_drop (by rw [h]; simp)
  have e := ih (i + 1) h3
  have e : Ev (fun k => spec_CharterOk.l0 k (wrap64 ((i : Int) + 1)) p H R) (cgF p H R zs ((i : Int) + 1) && (HsB p H && decide (1 ≤ (R.length : Int) ∧ (R.length : Int) ≤ 3))) := by
   rw [wsucc h1 (by omega)]
   exact e
  have e1 := CharterOk_l1 p H R hH hh hR (fun r hr => (hin r hr).1) i h1 z (h2 _) (hin z hz).1 (hin z hz).2 _ e z 0 rfl
  rw [cgF]
  by_cases g : 1 ≤ (z.length : Int) ∧ (z.length : Int) ≤ 3
  ·refine Ev.step (fun k => by rw [spec_CharterOk.l0, if_pos (by omega), if_pos (by omega), rdVV, h2, l1In_eq2, decide_eq_true g, Option.bind_some, if_pos rfl]; rfl) (Ev.to e1 ?_)
   rw [decide_eq_true g, Bool.true_and, Bool.and_assoc]
  ·refine Ev.step (fun k => by rw [spec_CharterOk.l0, if_pos (by omega), if_pos (by omega), rdVV, h2, l1In_eq2, decide_eq_false g, Option.bind_some, if_neg (by decide)]) (Ev.to (Ev.now false) ?_)
   rw [decide_eq_false g]
   rfl
theorem spec_CharterOk_ev (hH : H.length ≤ 1048576) (hh : ∀ c ∈ H, c ≤ 9223372036854775807) (hR : R.length ≤ 1048576) (hin : ∀ r ∈ R, r.length ≤ 1048576 ∧ ∀ v ∈ r, v.f0.length ≤ 1048576) : Ev (fun k => spec_CharterOk.f k p H R) (CgB p H R) := by
 refine Ev.to (CharterOk_l0 p H R hH hh hR hin R 0 rfl) ?_
 unfold CgB
 cases cgF p H R R ((0 : Nat) : Int) <;> cases HsB p H <;> simp_all
end

def SmallR (R : List (List S35)) : Prop := R.length ≤ 3 ∧ ∀ r ∈ R, r.length ≤ 3 ∧ ∀ v ∈ r, v.f0.length ≤ 3
def GoodR (R : List (List S35)) (M : Nat) : Prop := R.length = M ∧ ∀ r ∈ R, (1 ≤ r.length ∧ r.length ≤ 3) ∧ ∀ v ∈ r, v.f0.length ≤ 3
theorem Good_small {R : List (List S35)} {M : Nat} (h : GoodR R M) (hM : M ≤ 3) : SmallR R := ⟨by rw [h.1]; exact hM, fun r hr => ⟨(h.2 r hr).1.2, (h.2 r hr).2⟩⟩
theorem rdVV2 (xs : List (List S35)) (i : Nat) : rd_L5 xs (i : Int) = xs.getD i [] := by simp [rd_L5]
theorem row_mem {R : List (List S35)} {i : Nat} (h : i < R.length) : R.getD i [] ∈ R := by
 rw [List.getD_eq_getElem?_getD, List.getElem?_eq_getElem h]
 exact List.getElem_mem _
theorem var_small {r : List S35} (h : ∀ v ∈ r, v.f0.length ≤ 3) (j : Int) : (rd_T35 r j).f0.length ≤ 3 := by
 unfold rd_T35
 rw [List.getD_eq_getElem?_getD]
 cases e : r[j.toNat]? with
 | none => simp [z35]
 | some x => exact h x (List.mem_of_getElem? e)
theorem Good_set {R : List (List S35)} {M i j : Nat} {u : S35} (h : GoodR R M) (hi : i < M) (hu : u.f0.length ≤ 3) : GoodR (R.set i ((R.getD i []).set j u)) M := by
 have hr := h.2 _ (row_mem (R := R) (i := i) (by rw [h.1]; exact hi))
 refine ⟨by rw [List.length_set]; exact h.1, fun r hm => ?_⟩
 rcases List.mem_or_eq_of_mem_set hm with q | q
 ·exact h.2 r q
 ·rw [q]
  refine ⟨by rw [List.length_set]; exact hr.1, fun v hv => ?_⟩
  rcases List.mem_or_eq_of_mem_set hv with q2 | q2
  ·exact hr.2 v q2
  ·rw [q2]; exact hu
theorem len_set {R : List (List S35)} {i j : Nat} {u : S35} (x : Nat) : ((R.set i ((R.getD i []).set j u)).getD x []).length = (R.getD x []).length := by
 by_cases hx : x = i
 ·subst hx
  by_cases hl : x < R.length
  ·rw [List.getD_eq_getElem?_getD, List.getElem?_set_self hl]
   simp
  ·rw [List.set_eq_of_length_le (by omega)]
 ·rw [List.getD_eq_getElem?_getD, List.getElem?_set_ne (Ne.symm hx), ← List.getD_eq_getElem?_getD]
theorem Good_add {R : List (List S35)} {M : Nat} {r : List S35} (h : GoodR R M) (h1 : 1 ≤ r.length) (h3 : r.length ≤ 3) (hr : ∀ v ∈ r, v.f0.length ≤ 3) : GoodR (R ++ [r]) (M + 1) := by
 refine ⟨by simp [h.1], fun x hx => ?_⟩
 rcases List.mem_append.1 hx with q | q
 ·exact h.2 x q
 ·have : x = r := by simpa using q
  rw [this]; exact ⟨⟨h1, h3⟩, hr⟩
theorem wadd (x r : Int) (h0 : 0 ≤ x) (h1 : x ≤ 1000) (h2 : 0 ≤ r) (h3 : r ≤ 1000) : wrap64 ((wrap64 (x + 1)) + r) = x + 1 + r := by rw [wz (x := x + 1) (by omega) (by omega), wz (by omega) (by omega)]
section
variable {s : List Int} (hs : ∀ x ∈ s, (Lit.int .u8 x).wf = true) (hl : s.length ≤ 2000)
include hs hl
theorem charter_end (n p x : Int) (H : List Int) (M : Nat) (hM1 : 1 ≤ M) (hM : M ≤ 3) (R : List (List S35)) (hR : GoodR R M) (q : Int) (h0 : 0 ≤ q) (hq : q ≤ 90000) : ∃ R2 q2, Ev (fun k => spec_l20Charter.j3 k n (M : Int) x false s q p H R) (p, H, R2, q2) ∧ SmallR R2 ∧ 0 ≤ q2 ∧ q2 ≤ q + 10 := by
 obtain ⟨o, q1, e1, b1, b2, _⟩ := odd_ev hs hl q n h0 (by omega)
 have st : ∀ k, spec_l20Charter.j3 (k + 1) n (M : Int) x false s q p H R = _ := fun k => by rw [spec_l20Charter.j3, if_neg (by decide)]
 have hlen := hR.1
 have r0 := hR.2 _ (row_mem (R := R) (i := 0) (by omega))
 have e0 : rd_L5 R 0 = R.getD 0 [] := rdVV2 R 0
 have l0 : 0 < (R.length : Int) := by omega
 have l1 : 0 < ((rd_L5 R 0).length : Int) := by rw [e0]; omega
 have hv := var_small (r := rd_L5 R 0) (by rw [e0]; exact r0.2) 0
 cases o with
 | false => exact ⟨R, q1, Ev.step st (Ev.bind e1 (by simp only [Bool.false_eq_true, if_false]; exact Ev.now _)), Good_small hR hM, by omega, by omega⟩
 | true =>
  obtain ⟨r2, e2, c0, c1, _⟩ := pick_ev hs hl q1 3 (by omega) (by omega)
  by_cases g0 : r2 = 0
  ·refine ⟨_, q1 + 1, Ev.step st (Ev.bind e1 (by simp only [if_true]; exact Ev.bind e2 (by simp only [if_pos g0, if_pos l0, if_pos l1]; exact Ev.now _))), ?_, by omega, by omega⟩
   rw [e0]
   exact Good_small (Good_set (i := 0) (j := 0) hR (by omega) (by rw [← e0]; exact hv)) hM
  by_cases g1 : r2 = 1
  ·exact ⟨[], q1 + 1, Ev.step st (Ev.bind e1 (by simp only [if_true]; exact Ev.bind e2 (by simp only [if_neg g0, if_pos g1]; exact Ev.now _))), ⟨by simp, by simp⟩, by omega, by omega⟩
  ·refine ⟨_, q1 + 1, Ev.step st (Ev.bind e1 (by simp only [if_true]; exact Ev.bind e2 (by simp only [if_neg g0, if_neg g1, if_pos l0, if_pos l1]; exact Ev.now _))), ?_, by omega, by omega⟩
   rw [e0]
   exact Good_small (Good_set (i := 0) (j := 0) hR (by omega) (by simp)) hM
theorem charter_l3 (n p : Int) (H : List Int) (M : Nat) (hM1 : 1 < M) (hM : M ≤ 3) (x : Nat) (hx : x < M) (d : Nat) (ih : ∀ (R : List (List S35)) (q : Int), GoodR R M → 0 ≤ q → q + 20 * d ≤ 70000 → ∃ R2 q2, Ev (fun k => spec_l20Charter.l2 k n (M : Int) ((x + 1 : Nat) : Int) s q p H R) (p, H, R2, q2) ∧ SmallR R2 ∧ 0 ≤ q2 ∧ q2 ≤ q + 20 * d + 10) :
  ∀ (e y : Nat) (R : List (List S35)) (q : Int), y + e = (R.getD x []).length → GoodR R M → 0 ≤ q → q + 5 * e + 20 * d ≤ 70000 → ∃ R2 q2, Ev (fun k => spec_l20Charter.l3 k n (M : Int) (x : Int) (y : Int) s q p H R) (p, H, R2, q2) ∧ SmallR R2 ∧ 0 ≤ q2 ∧ q2 ≤ q + 5 * e + 20 * d + 10 := by
 intro e
 induction e with
 | zero =>
  intro y R q hy hR h0 hq
  obtain ⟨R2, q2, e1, g1, g2, g3⟩ := ih R q hR h0 (by omega)
  have hlen := hR.1
  have wx := wsucc hx (show M ≤ 9223372036854775807 by omega)
  refine ⟨R2, q2, Ev.step (fun k => ?_) e1, g1, g2, by omega⟩
  rw [spec_l20Charter.l3, if_pos (by omega), if_pos (by omega), rdVV2, if_neg (by omega), wx]
 | succ e ihe =>
  intro y R q hy hR h0 hq
  have hlen := hR.1
  have hrow := hR.2 _ (row_mem (R := R) (i := x) (by omega))
  have wy := wsucc (show y < (R.getD x []).length by omega) (by omega)
  have hv := var_small hrow.2 (y : Int)
  have hyl : (y : Int) < ((R.getD x []).length : Int) := by omega
  have hxl : (x : Int) < (R.length : Int) := by omega
  obtain ⟨r1, e1, a0, a1, _⟩ := pick_ev hs hl q (wrap64 ((M : Int) - 1)) h0 (by omega)
  obtain ⟨r2, e2, b0, b1, _⟩ := pick_ev hs hl (q + 1) 3 (by omega) (by omega)
  have w1 : wrap64 ((M : Int) - 1) = (M : Int) - 1 := wz (by omega) (by omega)
  rw [w1] at e1 a1
  have a1 := a1 (by omega)
  have h0x : 0 ≤ (x : Int) := by omega
  have st : ∀ k, spec_l20Charter.l3 (k + 1) n (M : Int) (x : Int) (y : Int) s q p H R = _ := fun k => by rw [spec_l20Charter.l3, if_pos h0x, if_pos hxl, rdVV2, if_pos hyl, w1]
  clear w1
  by_cases g : r2 = 0
  ·have hpos : 0 ≤ (x : Int) + 1 + r1 := by omega
   have hMp : 0 < (M : Int) := by omega
   have w2 := wadd (x : Int) r1 (by omega) (by omega) a0 (by omega)
   obtain ⟨o, ho, o0, o1⟩ : ∃ o, Int.tmod (wrap64 ((wrap64 ((x : Int) + 1)) + r1)) (M : Int) = o ∧ 0 ≤ o ∧ o < (M : Int) := ⟨_, rfl, by rw [w2]; exact Int.tmod_nonneg _ hpos, by rw [w2]; exact Int.tmod_lt_of_pos _ hMp⟩
   have HO := Aside0.mk ho
   clear ho w2
   have oR : o < (R.length : Int) := by omega
   obtain ⟨R1, hR1⟩ : ∃ R1, R1 = R.set x ((R.getD x []).set y (⟨(rd_T35 (R.getD x []) (y : Int)).f0, o, (rd_T35 (R.getD x []) (y : Int)).f2⟩ : S35)) := ⟨_, rfl⟩
   have G1 : GoodR R1 M := by rw [hR1]; exact Good_set hR hx hv
   have L1 : (R1.getD x []).length = (R.getD x []).length := by rw [hR1]; exact len_set x
   have hrow1 := G1.2 _ (row_mem (R := R1) (i := x) (by rw [G1.1]; omega))
   have hv1 := var_small hrow1.2 (y : Int)
   obtain ⟨r3, e3, _⟩ := pick_ev hs hl (q + 1 + 1) ((rd_L5 R1 o).length : Int) (by omega) (by omega)
   obtain ⟨R3, hR3⟩ : ∃ R3, R3 = R1.set x ((R1.getD x []).set y (⟨(rd_T35 (R1.getD x []) (y : Int)).f0, (rd_T35 (R1.getD x []) (y : Int)).f1, r3⟩ : S35)) := ⟨_, rfl⟩
   have G3 : GoodR R3 M := by rw [hR3]; exact Good_set G1 hx hv1
   have L3 : (R3.getD x []).length = (R1.getD x []).length := by rw [hR3]; exact len_set x
   obtain ⟨R2, q2, ee, g1, g2, g3⟩ := ihe (y + 1) R3 (q + 1 + 1 + 1) (by omega) G3 (by omega) (by omega)
   refine ⟨R2, q2, Ev.step st (Ev.bind e1 ?_), g1, g2, by omega⟩
   simp only [if_neg (show ¬ (M : Int) = 0 by omega)]
   refine Ev.bind e2 ?_
   simp only [if_pos g, if_pos (show (0 : Int) ≤ (y : Int) by omega), Option.bind_some, HO.out, Int.toNat_natCast, ← hR1, if_pos o0, if_pos oR]
   refine Ev.bind e3 ?_
   have L1' : ((rd_L5 R1 (x : Int)).length : Int) = ((R.getD x []).length : Int) := by rw [rdVV2]; omega
   simp only [L1', if_pos hyl, wy]
   rw [rdVV2, ← hR3]
   exact ee
  ·obtain ⟨R2, q2, ee, g1, g2, g3⟩ := ihe (y + 1) R (q + 1 + 1) (by omega) hR (by omega) (by omega)
   refine ⟨R2, q2, Ev.step st (Ev.bind e1 ?_), g1, g2, by omega⟩
   simp only [if_neg (show ¬ (M : Int) = 0 by omega)]
   refine Ev.bind e2 ?_
   simp only [if_neg g, wy]
   exact ee
theorem charter_l2 (n p : Int) (H : List Int) (M : Nat) (hM1 : 1 ≤ M) (hM : M ≤ 3) : ∀ (d x : Nat) (R : List (List S35)) (q : Int), x + d = M → GoodR R M → 0 ≤ q → q + 20 * d ≤ 70000 → ∃ R2 q2, Ev (fun k => spec_l20Charter.l2 k n (M : Int) (x : Int) s q p H R) (p, H, R2, q2) ∧ SmallR R2 ∧ 0 ≤ q2 ∧ q2 ≤ q + 20 * d + 10 := by
 intro d
 induction d with
 | zero =>
  intro x R q hx hR h0 hq
  obtain ⟨R2, q2, e1, g1, g2, g3⟩ := charter_end hs hl n p (x : Int) H M hM1 hM R hR q h0 (by omega)
  exact ⟨R2, q2, Ev.step (fun k => by rw [spec_l20Charter.l2, if_neg (by omega)]) e1, g1, g2, by omega⟩
 | succ d ih =>
  intro x R q hx hR h0 hq
  by_cases g : 1 < M
  ·have hrow := hR.2 _ (row_mem (R := R) (i := x) (by rw [hR.1]; omega))
   obtain ⟨R2, q2, e1, g1, g2, g3⟩ := charter_l3 hs hl n p H M g hM x (by omega) d (fun R q hR h0 hq => ih (x + 1) R q (by omega) hR h0 hq) (R.getD x []).length 0 R q (by omega) hR h0 (by omega)
   refine ⟨R2, q2, Ev.step (f := fun k => spec_l20Charter.j3 k n (M : Int) (x : Int) true s q p H R) (fun k => ?_) (Ev.step (f := fun k => spec_l20Charter.l3 k n (M : Int) (x : Int) ((0 : Nat) : Int) s q p H R) (fun k => ?_) e1), g1, g2, by omega⟩
   ·rw [spec_l20Charter.l2, if_pos (by omega), decide_eq_true (show (M : Int) > 1 by omega)]
   ·rw [spec_l20Charter.j3, if_pos rfl]
    rfl
  ·obtain ⟨R2, q2, e1, g1, g2, g3⟩ := charter_end hs hl n p (x : Int) H M hM1 hM R hR q h0 (by omega)
   refine ⟨R2, q2, Ev.step (fun k => ?_) e1, g1, g2, by omega⟩
   rw [spec_l20Charter.l2, if_pos (by omega), decide_eq_false (show ¬ (M : Int) > 1 by omega)]
theorem charter_l1 (n p : Int) (H : List Int) (hH : SmallH H) (M x : Nat) (R : List (List S35)) (hM : M ≤ 3) (hR : GoodR R x) (hx : x < M) (C B : Int) (hB : B ≤ 50000) (ih : ∀ (r : List S35) (q : Int), GoodR (R ++ [r]) (x + 1) → 0 ≤ q → q ≤ B → ∃ R2 q2, Ev (fun k => spec_l20Charter.l0 k n (M : Int) ((x + 1 : Nat) : Int) s q p H (R ++ [r])) (p, H, R2, q2) ∧ SmallR R2 ∧ 0 ≤ q2 ∧ q2 ≤ q + C) :
  ∀ (m : Nat) (r : List S35) (q : Int), 1 ≤ r.length + m → r.length + m ≤ 3 → (∀ v ∈ r, v.f0.length ≤ 3) → 0 ≤ q → q + 10 * m ≤ B → ∃ R2 q2, Ev (fun k => spec_l20Charter.l1 k n (M : Int) (x : Int) r (m : Int) s q p H R) (p, H, R2, q2) ∧ SmallR R2 ∧ 0 ≤ q2 ∧ q2 ≤ q + 10 * m + C := by
 intro m
 induction m with
 | zero =>
  intro r q h1 h3 hr h0 hq
  obtain ⟨R2, q2, e1, g1, g2, g3⟩ := ih r q (Good_add hR (by omega) (by omega) hr) h0 (by omega)
  have hlen := hR.1
  have wx := wsucc hx (show M ≤ 9223372036854775807 by omega)
  refine ⟨R2, q2, Ev.step (fun k => ?_) e1, g1, g2, by omega⟩
  rw [spec_l20Charter.l1, if_neg (by omega), if_pos (by omega), wx]
 | succ m ihm =>
  intro r q h1 h3 hr h0 hq
  obtain ⟨ms, qa, ea, a1, a2, a3⟩ := atom_ev hs hl q p H hH h0 (by omega)
  have hr2 : ∀ v ∈ r ++ [(⟨ms, (-1), 0⟩ : S35)], v.f0.length ≤ 3 := by
   intro v hv
   rcases List.mem_append.1 hv with g | g
   ·exact hr v g
   ·have : v = ⟨ms, (-1), 0⟩ := by simpa using g
    rw [this]; exact a1
  obtain ⟨R2, q2, e1, g1, g2, g3⟩ := ihm (r ++ [⟨ms, (-1), 0⟩]) qa (by simp; omega) (by simp; omega) hr2 a2 (by omega)
  have wm : wrap64 (((m + 1 : Nat) : Int) - 1) = (m : Int) := by rw [wz (by omega) (by omega)]; omega
  refine ⟨R2, q2, Ev.step (f := fun k => (spec_l20Atom.f k s q p H).bind _) (fun k => by rw [spec_l20Charter.l1, if_pos (by omega), wm]) (Ev.bind ea ?_), g1, g2, by omega⟩
  simp only [if_pos (show r.length < 3518437208883 by omega)]
  exact e1
theorem charter_l0 (n p : Int) (H : List Int) (hH : SmallH H) (M : Nat) (hM1 : 1 ≤ M) (hM : M ≤ 3) : ∀ (d x : Nat) (R : List (List S35)) (q : Int), x + d = M → GoodR R x → 0 ≤ q → q + 40 * d ≤ 20000 → ∃ R2 q2, Ev (fun k => spec_l20Charter.l0 k n (M : Int) (x : Int) s q p H R) (p, H, R2, q2) ∧ SmallR R2 ∧ 0 ≤ q2 ∧ q2 ≤ q + 40 * d + 80 := by
 intro d
 induction d with
 | zero =>
  intro x R q hx hR h0 hq
  obtain rfl : x = M := by omega
  obtain ⟨R2, q2, e1, g1, g2, g3⟩ := charter_l2 hs hl n p H x hM1 hM x 0 R q (by omega) hR h0 (by omega)
  exact ⟨R2, q2, Ev.step (f := fun k => spec_l20Charter.l2 k n (x : Int) ((0 : Nat) : Int) s q p H R) (fun k => by rw [spec_l20Charter.l0, if_neg (by omega)]; rfl) e1, g1, g2, by omega⟩
 | succ d ih =>
  intro x R q hx hR h0 hq
  obtain ⟨r1, e1, a0, a1, _⟩ := pick_ev hs hl q 3 h0 (by omega)
  have a1 := a1 (by decide)
  obtain ⟨m, hm⟩ := Int.eq_ofNat_of_zero_le (show 0 ≤ 1 + r1 by omega)
  obtain ⟨R2, q2, e2, g1, g2, g3⟩ := charter_l1 hs hl n p H hH M x R hM hR (by omega) (40 * (d : Int) + 80) (20000 - 40 * (d : Int)) (by omega) (fun r q hG h0 hq => by
   obtain ⟨R2, q2, e, g1, g2, g3⟩ := ih (x + 1) (R ++ [r]) q (by omega) hG h0 (by omega)
   exact ⟨R2, q2, e, g1, g2, by omega⟩) m [] (q + 1) (by simp; omega) (by simp; omega) (by simp) (by omega) (by omega)
  have w : wrap64 (1 + r1) = (m : Int) := by rw [wz (by omega) (by omega)]; exact hm
  refine ⟨R2, q2, Ev.step (f := fun k => (spec_l20Rd_pick.f k s q 3).bind _) (fun k => by rw [spec_l20Charter.l0, if_pos (by omega)]) (Ev.bind e1 ?_), g1, g2, by omega⟩
  simp only [w]
  exact e2
theorem charter_ev (q n : Int) (h0 : 0 ≤ q) (hq : q ≤ 1000) : ∃ p H R q2, Ev (fun k => spec_l20Charter.f k s q n) (p, H, R, q2) ∧ SmallH H ∧ SmallR R ∧ 0 ≤ q2 ∧ q2 ≤ q + 300 := by
 obtain ⟨p, H, q1, e0, hH, a1, a2⟩ := house_ev hs hl q 0 h0 (by omega)
 obtain ⟨r1, e1, b0, b1, _⟩ := pick_ev hs hl q1 3 a1 (by omega)
 have b1 := b1 (by decide)
 obtain ⟨M, hM⟩ := Int.eq_ofNat_of_zero_le (show 0 ≤ 1 + r1 by omega)
 have w : wrap64 (1 + r1) = (M : Int) := by rw [wz (by omega) (by omega)]; exact hM
 obtain ⟨R2, q2, e2, g1, g2, g3⟩ := charter_l0 hs hl n p H hH M (by omega) (by omega) M 0 [] (q1 + 1) (by omega) ⟨rfl, by simp⟩ (by omega) (by omega)
 refine ⟨p, H, R2, q2, ?_, hH, g1, g2, by omega⟩
 unfold spec_l20Charter.f
 refine Ev.bind e0 (Ev.bind e1 ?_)
 simp only [w]
 exact e2
end

theorem SmallR_in {R : List (List S35)} (h : SmallR R) : R.length ≤ 1048576 ∧ ∀ r ∈ R, r.length ≤ 1048576 ∧ ∀ v ∈ r, v.f0.length ≤ 1048576 := by
 have := h.1
 refine ⟨by omega, fun r hr => ?_⟩
 have := h.2 r hr
 exact ⟨by omega, fun v hv => by have := this.2 v hv; omega⟩

theorem alive_eq : laws_alive.f = some true := by decide +kernel

def fv (v : S35) : S35 := ⟨v.f0, (-1), 0⟩
def fr (R : List (List S35)) : List (List S35) := R.map fun r => r.map fv
theorem cgF_terms {p : Int} {H : List Int} {R : List (List S35)} : ∀ (rs : List (List S35)) (x : Int), cgF p H R rs x = true → ∀ r ∈ rs, (1 ≤ r.length ∧ r.length ≤ 3) ∧ ∀ v ∈ r, TmB p H v.f0 = true := by
 intro rs
 induction rs with
 | nil => intro x _ r h; simp at h
 | cons z zs ih =>
  intro x h r hr
  simp only [cgF, Bool.and_eq_true, decide_eq_true_eq, List.all_eq_true] at h
  rcases List.mem_cons.1 hr with q | q
  ·rw [q]
   refine ⟨by omega, fun v hv => ?_⟩
   have := h.1.2 v hv
   unfold VtB at this
   rw [Bool.and_eq_true] at this
   exact this.1
  ·exact ih _ h.2 r q
theorem cgF_free {p : Int} {H : List Int} {Q : List (List S35)} : ∀ (rs : List (List S35)) (x : Int), (∀ r ∈ rs, (1 ≤ r.length ∧ r.length ≤ 3) ∧ ∀ v ∈ r, TmB p H v.f0 = true) → cgF p H Q (fr rs) x = true := by
 intro rs
 induction rs with
 | nil => intro x _; rfl
 | cons z zs ih =>
  intro x h
  have hz := h z (by simp)
  have e := ih (x + 1) (fun r hr => h r (List.mem_cons_of_mem _ hr))
  have e1 : (z.map fv).all (VtB p H Q x) = true := by
   rw [List.all_eq_true]
   intro v hv
   obtain ⟨u, hu, rfl⟩ := List.mem_map.1 hv
   unfold VtB fv
   simp [hz.2 u hu]
  have e2 : decide (1 ≤ ((z.map fv).length : Int) ∧ ((z.map fv).length : Int) ≤ 3) = true := decide_eq_true (by simp; omega)
  show cgF p H Q (z.map fv :: fr zs) x = true
  rw [cgF, e1, e2, e]
  rfl
theorem fr_small {R : List (List S35)} (h : SmallR R) : SmallR (fr R) := by
 refine ⟨by simp [fr]; exact h.1, fun r hr => ?_⟩
 obtain ⟨u, hu, rfl⟩ := List.mem_map.1 hr
 have := h.2 u hu
 refine ⟨by simp; exact this.1, fun v hv => ?_⟩
 obtain ⟨w, hw, rfl⟩ := List.mem_map.1 hv
 exact this.2 w hw
theorem take_small {R : List (List S35)} (h : SmallR R) : SmallR (R.take 1) := by
 have := h.1
 exact ⟨by simp; omega, fun r hr => h.2 r (List.mem_of_mem_take hr)⟩
section
variable (p : Int) (H : List Int) (R : List (List S35)) (hR : SmallR R)
include hR
theorem free_l1 (F : List (List S35)) (hF : F.length ≤ 1000) (x : Nat) (hx : x < R.length) (b : Bool) (e : Ev (fun k => laws_FnCharterOk.l0 k ((x + 1 : Nat) : Int) p H R p H (F ++ [(R.getD x []).map fv])) b) : ∀ (zs : List S35) (y : Nat), (R.getD x []).drop y = zs → Ev (fun k => laws_FnCharterOk.l1 k (x : Int) (((R.getD x []).take y).map fv) (y : Int) p H R p H F) b := by
 have hrow := hR.2 _ (row_mem hx)
 have hlen := hR.1
 intro zs
 induction zs with
 | nil =>
  intro y h
  have hy := List.drop_eq_nil_iff.1 h
  have wx := wsucc hx (by omega)
  refine Ev.step (fun k => ?_) e
  rw [laws_FnCharterOk.l1, if_pos (by omega), if_pos (by omega), rdVV2, if_neg (dnil h), if_pos (by omega), wx, List.take_of_length_le hy]
 | cons z zs ih =>
  intro y h
  obtain ⟨h1, h2, h3⟩ := dcons h
  have wy := wsucc h1 (by omega)
  have ht : (R.getD x []).take (y + 1) = (R.getD x []).take y ++ [z] := by
   rw [List.take_succ_eq_append_getElem h1]
   have := h2 z
   rw [List.getD_eq_getElem?_getD, List.getElem?_eq_getElem h1] at this
   rw [show (R.getD x [])[y] = z from by simpa using this]
  have e1 := ih (y + 1) h3
  rw [ht, List.map_append] at e1
  have hz : rd_T35 (R.getD x []) (y : Int) = z := by
   unfold rd_T35
   rw [Int.toNat_natCast]
   exact h2 _
  refine Ev.step (fun k => ?_) e1
  rw [laws_FnCharterOk.l1, if_pos (by omega), if_pos (by omega), rdVV2, if_pos (by omega), if_pos (by omega), if_pos (by simp; omega), hz, wy]
  rfl
theorem free_l0 (b : Bool) (e : Ev (fun k => laws_FnCharterOk.l0 k ((R.length : Nat) : Int) p H R p H (fr R)) b) : ∀ (d x : Nat), x + d = R.length → Ev (fun k => laws_FnCharterOk.l0 k (x : Int) p H R p H (fr (R.take x))) b := by
 have hlen := hR.1
 intro d
 induction d with
 | zero =>
  intro x h
  obtain rfl : x = R.length := by omega
  rw [List.take_length]
  exact e
 | succ d ih =>
  intro x h
  have e1 := ih (x + 1) (by omega)
  have hx : x < R.length := by omega
  have ht : R.take (x + 1) = R.take x ++ [R.getD x []] := by
   rw [List.take_succ_eq_append_getElem hx, List.getD_eq_getElem?_getD, List.getElem?_eq_getElem hx]
   rfl
  have e2 : Ev (fun k => laws_FnCharterOk.l0 k ((x + 1 : Nat) : Int) p H R p H (fr (R.take x) ++ [(R.getD x []).map fv])) b := by
   rw [ht] at e1
   unfold fr at e1 ⊢
   rw [List.map_append] at e1
   exact e1
  have e3 := free_l1 p H R hR (fr (R.take x)) (by simp [fr]; omega) x hx b e2 (R.getD x []) 0 rfl
  refine Ev.step (f := fun k => laws_FnCharterOk.l1 k (x : Int) (([] : List S35)) ((0 : Nat) : Int) p H R p H (fr (R.take x))) (fun k => ?_) e3
  rw [laws_FnCharterOk.l0, if_pos (by omega)]
  rfl
end
theorem FnCharterOk : laws_FnCharterOk.Pure := by
 intro l _ _ hw
 refine Ev.rounds ?_
 unfold laws_FnCharterOk.f
 by_cases hbig : (l.length : Int) > 1048576
 ·simp only [if_pos hbig]
  exact Ev.now _
 simp only [if_neg hbig]
 obtain ⟨s, hO, hs, hls⟩ := open_some hw
 obtain ⟨p, H, R, q, hdr, hH, hR, _⟩ := charter_ev hs hls 0 2 (by decide) (by decide)
 have hH1 := hH.1
 have hHl : H.length ≤ 1048576 := by omega
 have io (Q : List (List S35)) (hQ : SmallR Q) : Ev (fun k => impl_CharterOk.f k p H Q) (CgB p H Q) := by
  unfold impl_CharterOk.f
  exact Ev.bind (isCharter_ev p H Q hHl (SmallR_in hQ).1 (SmallR_in hQ).2) (Ev.now _)
 refine Ev.bind (a := (p, H, R)) (by unfold spec_DrawCharterOk.f; simp only [hO, Option.bind_some]; exact Ev.bind hdr (Ev.now _)) ?_
 refine Ev.bind (io R hR) (Ev.bind (spec_CharterOk_ev p H R hHl hH.2 (SmallR_in hR).1 (SmallR_in hR).2) ?_)
 simp only [bne_self_eq_false, Bool.false_eq_true, if_false]
 cases hC : CgB p H R with
 | false =>
  simp only [Bool.false_eq_true, if_false]
  have z : Ev (fun k => impl_CharterOk.f k 0 ([] : List Int) ([] : List (List S35))) false := by
   unfold impl_CharterOk.f
   refine Ev.bind (isCharter_ev 0 [] [] (by simp) (by simp) (by simp)) (Ev.to (Ev.now _) ?_)
   unfold CgB
   rw [decide_eq_false (by simp)]
   simp
  refine Ev.bind z ?_
  simp only [Bool.false_eq_true, if_false]
  rw [alive_eq]
  exact Ev.now _
 | true =>
  simp only [if_true]
  have hlen := hR.1
  have hC2 := hC
  unfold CgB at hC2
  simp only [Bool.and_eq_true, decide_eq_true_eq] at hC2
  obtain ⟨c1, c2, c3⟩ := hC2
  have ht := cgF_terms _ _ c3
  have f1 : CgB p H (fr R) = true := by
   unfold CgB
   rw [c1, cgF_free R 0 ht, decide_eq_true (by simp [fr]; omega)]
   rfl
  have f2 : CgB p H ((fr R).take 1) = true := by
   have e : (fr R).take 1 = fr (R.take 1) := by simp [fr, List.map_take]
   unfold CgB
   rw [e, c1, cgF_free (R.take 1) 0 (fun r hr => ht r (List.mem_of_mem_take hr)), decide_eq_true (by simp [fr]; omega)]
   rfl
  have fin : Ev (fun k => laws_FnCharterOk.l0 k ((R.length : Nat) : Int) p H R p H (fr R)) true := by
   refine Ev.step (fun k => by rw [laws_FnCharterOk.l0, if_neg (by omega)]) (Ev.bind (Ev.to (io (fr R) (fr_small hR)) f1) ?_)
   simp only [if_true, if_pos (show 1 ≤ ((fr R).length : Int) by simp [fr]; omega)]
   exact Ev.bind (Ev.to (io ((fr R).take 1) (take_small (fr_small hR))) f2) (Ev.now _)
  exact free_l0 p H R hR true fin R.length 0 (by omega)

end Go.Proofs.Ytmbphgdfadoknaa.Pure
