/- The law FnClashOk is true: for every code the program's ClashOk and the reference's answer alike at the drawn house and term, and a term clashes exactly if two of its least consenting crowds have nobody in common. Conditions: none. -/
import Derived.Test.YtaddlahbahedeaaQFnClashOkx18
namespace Go.Proofs.Ytaddlahbahedeaa.Pure
open Go.RowKit Go.Proofs.Ytaddlahbahedeaa.QFnClashOk Go.Proofs.YtaddlahbahedeaaW.PrintWords Go.Proofs.YtaddlahbahedeaaW.PrintLast
set_option linter.unusedVariables false
set_option linter.unusedSimpArgs false

theorem w64 {x : Int} (h0 : -9223372036854775808 ≤ x) (h1 : x ≤ 9223372036854775807) : wrap64 x = x := by unfold wrap64; omega

theorem xor_nn {a b : Int} (ha : 0 ≤ a) (ha1 : a < 9223372036854775808) (hb : 0 ≤ b) (hb1 : b < 9223372036854775808) : 0 ≤ Go.bits .xor .i64 a b := by
 obtain ⟨m, rfl⟩ := Int.eq_ofNat_of_zero_le ha
 obtain ⟨n, rfl⟩ := Int.eq_ofNat_of_zero_le hb
 have hm : m < 2 ^ 63 := by omega
 have hn : n < 2 ^ 63 := by omega
 have hx := Nat.xor_lt_two_pow hm hn
 simp only [Go.bits, BitVec.ofInt_natCast, BitVec.toNat_xor, BitVec.toNat_ofNat]
 have e1 : m % 2 ^ IntKind.i64.bits = m := Nat.mod_eq_of_lt (by simp only [IntKind.bits]; omega)
 have e2 : n % 2 ^ IntKind.i64.bits = n := Nat.mod_eq_of_lt (by simp only [IntKind.bits]; omega)
 rw [e1, e2, IntKind.wrap_i64]
 omega

theorem rd_range {s : List Int} (hs : ∀ x ∈ s, (Lit.int .u8 x).wf = true) (i : Int) : 0 ≤ rd s i ∧ rd s i ≤ 255 := by
 unfold rd
 by_cases h : i.toNat < s.length
 ·have := hs _ (List.getElem_mem h)
  rw [List.getD_eq_getElem?_getD, List.getElem?_eq_getElem h]
  simp [Lit.wf, IntKind.min, IntKind.max, IntKind.bits, IntKind.signed] at this
  simp
  omega
 ·rw [List.getD_eq_getElem?_getD, List.getElem?_eq_none (by omega)]
  simp
theorem tmod_range {a n : Int} (ha : 0 ≤ a) (hn : 0 < n) : 0 ≤ Int.tmod a n ∧ Int.tmod a n < n := by
 rw [Int.tmod_eq_emod_of_nonneg ha]
 exact ⟨Int.emod_nonneg _ (by omega), Int.emod_lt_of_pos _ hn⟩
theorem tdiv_range {a n : Int} (ha : 0 ≤ a) (hn : 0 < n) : 0 ≤ Int.tdiv a n ∧ Int.tdiv a n ≤ a := by
 rw [Int.tdiv_eq_ediv_of_nonneg ha]
 exact ⟨Int.ediv_nonneg ha (by omega), Int.ediv_le_self _ ha⟩

theorem pick_some {s : List Int} (hs : ∀ x ∈ s, (Lit.int .u8 x).wf = true) (hl : s.length ≤ 2000) (p n : Int) (hp0 : 0 ≤ p) (hp : p ≤ 1000000) (k : Nat) (hk : 0 < k) :
  ∃ r, spec_l20Rd_pick.f k s p n = some (r, p + 1) ∧ 0 ≤ r ∧ (0 < n → r < n) ∧ (n ≤ 0 → r = 0) := by
 obtain ⟨k, rfl⟩ : ∃ m, k = m + 1 := ⟨k - 1, by omega⟩
 have e1 : wrap64 (p + 1) = p + 1 := w64 (by omega) (by omega)
 have e2 : wrap64 (p + 1 - 1) = p := by rw [Int.add_sub_cancel]; exact w64 (by omega) (by omega)
 unfold spec_l20Rd_pick.f
 by_cases hn : n < 1
 ·rw [if_pos hn]
  refine ⟨0, ?_, Int.le_refl 0, fun h => by omega, fun _ => rfl⟩
  simp only [spec_l20Rd_pick.j0, e1, if_true]
 rw [if_neg hn]
 by_cases h0 : s.length = 0
 ·have : ((s.length : Int) == 0) = true := by rw [h0]; rfl
  refine ⟨0, ?_, Int.le_refl 0, fun h => h, fun _ => rfl⟩
  rw [this]
  simp only [spec_l20Rd_pick.j0, e1, if_true]
 have hb : ((s.length : Int) == 0) = false := by simp; intro h; rw [h] at h0; exact h0 rfl
 rw [hb]
 simp only [spec_l20Rd_pick.j0, e1, e2]
 rw [if_neg (by decide)]
 have hn0 : ¬ n = 0 := by omega
 by_cases hlt : p < (s.length : Int)
 ·rw [if_pos hlt, if_pos hp0, if_neg hn0]
  have hr := rd_range hs p
  have e3 : wrap64 (rd s p) = rd s p := w64 (by omega) (by omega)
  rw [e3]
  have := tmod_range hr.1 (show 0 < n by omega)
  exact ⟨_, rfl, this.1, fun _ => this.2, fun h => by omega⟩
 rw [if_neg hlt, if_neg (show ¬ (s.length : Int) = 0 by omega)]
 have hL : 0 < (s.length : Int) := by omega
 have t1 := tmod_range hp0 hL
 have f1 : wrap64 (p * 7) = p * 7 := w64 (by omega) (by omega)
 have f2 : wrap64 (p * 7 + 3) = p * 7 + 3 := w64 (by omega) (by omega)
 have t2 := tmod_range (show 0 ≤ p * 7 + 3 by omega) hL
 rw [f1, f2]
 rw [if_pos t1.1, if_pos t1.2, if_pos t2.1, if_pos t2.2, if_neg hn0]
 have r1 := rd_range hs (Int.tmod p s.length)
 have r2 := rd_range hs (Int.tmod (p * 7 + 3) s.length)
 generalize rd s (Int.tmod p s.length) = x at r1 ⊢
 generalize rd s (Int.tmod (p * 7 + 3) s.length) = y at r2 ⊢
 have d1 := tdiv_range hp0 hL
 generalize Int.tdiv p s.length = q at d1 ⊢
 rw [show wrap64 x = x from w64 (by omega) (by omega), show wrap64 y = y from w64 (by omega) (by omega)]
 rw [show wrap64 (x * 131) = x * 131 from w64 (by omega) (by omega), show wrap64 (y * 1117) = y * 1117 from w64 (by omega) (by omega), show wrap64 (p * 29) = p * 29 from w64 (by omega) (by omega), show wrap64 q = q from w64 (by omega) (by omega)]
 rw [show wrap64 (q * 53) = q * 53 from w64 (by omega) (by omega), show wrap64 (x * 131 + y * 1117) = x * 131 + y * 1117 from w64 (by omega) (by omega)]
 rw [show wrap64 (x * 131 + y * 1117 + p * 29) = x * 131 + y * 1117 + p * 29 from w64 (by omega) (by omega)]
 rw [show wrap64 (x * 131 + y * 1117 + p * 29 + q * 53) = x * 131 + y * 1117 + p * 29 + q * 53 from w64 (by omega) (by omega)]
 have hz : 0 ≤ x * 131 + y * 1117 + p * 29 + q * 53 ∧ x * 131 + y * 1117 + p * 29 + q * 53 < 1000000000 := by omega
 generalize x * 131 + y * 1117 + p * 29 + q * 53 = z at hz ⊢
 have d2 := tdiv_range hz.1 (show (0 : Int) < 64 by decide)
 rw [show wrap64 (Int.tdiv z 64) = Int.tdiv z 64 from w64 (by omega) (by omega)]
 have hx := xor_nn hz.1 (by omega) d2.1 (by omega)
 have := tmod_range hx (show 0 < n by omega)
 exact ⟨_, rfl, this.1, fun _ => this.2, fun h => by omega⟩

theorem odd_some {s : List Int} (hs : ∀ x ∈ s, (Lit.int .u8 x).wf = true) (hl : s.length ≤ 2000) (p n : Int) (hp0 : 0 ≤ p) (hp : p ≤ 1000000) (k : Nat) (hk : 0 < k) :
  ∃ b q, spec_l20Rd_odd.f k s p n = some (b, q) ∧ p ≤ q ∧ q ≤ p + 1 ∧ (n ≤ 0 → b = false) := by
 unfold spec_l20Rd_odd.f
 by_cases h : n > 0
 ·rw [if_pos h]
  obtain ⟨r, e, _⟩ := pick_some hs hl p n hp0 hp k hk
  rw [e]
  exact ⟨_, _, rfl, by show p ≤ p + 1; omega, Int.le_refl _, by omega⟩
 ·rw [if_neg h]
  exact ⟨_, _, rfl, by omega, by omega, fun _ => rfl⟩

theorem open_some {l : List Int} (hs : ∀ x ∈ l, (Lit.int .u8 x).wf = true) : ∃ s, spec_l20Open.f l = some (s, 0) ∧ (∀ x ∈ s, (Lit.int .u8 x).wf = true) ∧ s.length ≤ 2000 := by
 unfold spec_l20Open.f
 by_cases h : (l.length : Int) > 2000
 ·rw [if_pos h, if_pos (by omega)]
  exact ⟨_, rfl, fun x hx => hs x (List.mem_of_mem_take hx), by simp <;> omega⟩
 ·rw [if_neg h]
  exact ⟨_, rfl, hs, by omega⟩

theorem wz {x : Int} (h0 : -9223372036854775808 ≤ x) (h1 : x ≤ 9223372036854775807) : wrap64 x = x := by unfold wrap64; omega
theorem wsucc {i n : Nat} (h : i < n) (hn : n ≤ 9223372036854775807) : wrap64 ((i : Int) + 1) = ((i + 1 : Nat) : Int) := by rw [wz (by omega) (by omega)]; omega
theorem dnil {α : Type} {xs : List α} {i : Nat} (h : xs.drop i = []) : ¬ ((i : Int) < (xs.length : Int)) := by
 have := List.drop_eq_nil_iff.1 h
 omega
theorem dcons {α : Type} {xs : List α} {i : Nat} {y : α} {ys : List α} (h : xs.drop i = y :: ys) : i < xs.length ∧ (∀ d, xs.getD i d = y) ∧ xs.drop (i + 1) = ys := by
 have hl : i < xs.length := by
  rcases Nat.lt_or_ge i xs.length with h1 | h1
  ·exact h1
  ·rw [List.drop_eq_nil_iff.2 h1] at h
   cases h
 have e := List.drop_eq_getElem_cons hl
 rw [h] at e
 injection e with e1 e2
 exact ⟨hl, fun d => by rw [List.getD_eq_getElem?_getD, List.getElem?_eq_getElem hl]; exact e1.symm, e2.symm⟩
theorem rdn (xs : List Int) (i : Nat) : rd xs (i : Int) = xs.getD i 0 := by simp [rd]
theorem Ev.to {α : Type} {g : Nat → Option α} {r s : α} (h : Ev g r) (e : r = s) : Ev g s := e ▸ h

theorem pick_ev {s : List Int} (hs : ∀ x ∈ s, (Lit.int .u8 x).wf = true) (hl : s.length ≤ 2000) (p n : Int) (hp0 : 0 ≤ p) (hp : p ≤ 1000000) :
  ∃ r, Ev (fun k => spec_l20Rd_pick.f k s p n) (r, p + 1) ∧ 0 ≤ r ∧ (0 < n → r < n) ∧ (n ≤ 0 → r = 0) := by
 obtain ⟨r, h, h1⟩ := pick_some hs hl p n hp0 hp 1 (by decide)
 exact ⟨r, Ev.of (fun k => spec_l20Rd_pick.mono _ _ _ k) h, h1⟩
theorem odd_ev {s : List Int} (hs : ∀ x ∈ s, (Lit.int .u8 x).wf = true) (hl : s.length ≤ 2000) (p n : Int) (hp0 : 0 ≤ p) (hp : p ≤ 1000000) :
  ∃ b q, Ev (fun k => spec_l20Rd_odd.f k s p n) (b, q) ∧ p ≤ q ∧ q ≤ p + 1 ∧ (n ≤ 0 → b = false) := by
 obtain ⟨b, q, h, h1⟩ := odd_some hs hl p n hp0 hp 1 (by decide)
 exact ⟨b, q, Ev.of (fun k => spec_l20Rd_odd.mono _ _ _ k) h, h1⟩

def CrB (p a : Int) : Bool := decide (1 ≤ p ∧ p ≤ 6 ∧ 0 ≤ a ∧ a < 2 ^ p.toNat)
theorem shl1 {p : Int} (h0 : 1 ≤ p) (h1 : p ≤ 6) : shl .i64 1 p = 2 ^ p.toNat := by
 have : p = 1 ∨ p = 2 ∨ p = 3 ∨ p = 4 ∨ p = 5 ∨ p = 6 := by omega
 rcases this with rfl | rfl | rfl | rfl | rfl | rfl <;> decide +kernel
theorem pow_small {p : Int} (h0 : 1 ≤ p) (h1 : p ≤ 6) : (2 : Int) ≤ 2 ^ p.toNat ∧ (2 : Int) ^ p.toNat ≤ 64 := by
 have : p = 1 ∨ p = 2 ∨ p = 3 ∨ p = 4 ∨ p = 5 ∨ p = 6 := by omega
 rcases this with rfl | rfl | rfl | rfl | rfl | rfl <;> decide
theorem impl_isCrowd_eq (p a : Int) : impl_isCrowd.f p a = some (CrB p a) := by
 unfold impl_isCrowd.f impl_arePeople.f CrB
 by_cases h1 : p ≥ 1
 ·by_cases h2 : p ≤ 6
  ·by_cases h3 : a ≥ 0
   ·have h0 : 0 ≤ p := by omega
    simp [h1, h2, h3, h0, shl1 h1 h2]
   ·simp [h1, h2, h3]
  ·simp [h1, h2]
 ·simp [h1]
theorem CrB_of {p a : Int} (h : CrB p a = true) : 1 ≤ p ∧ p ≤ 6 ∧ 0 ≤ a ∧ a < 2 ^ p.toNat := of_decide_eq_true h

theorem l1In_eq2 (a b c : Int) : spec_l1In.f a b c = some (decide (b ≤ a ∧ a ≤ c)) := by
 unfold spec_l1In.f
 by_cases h : b ≤ a
 ·simp [h]
 ·simp [h]
theorem spec_CrowdOk_eq (p a : Int) : spec_CrowdOk.f p a = some (CrB p a) := by
 unfold spec_CrowdOk.f CrB
 simp only [l1In_eq2, Option.bind_some]
 by_cases h : 1 ≤ p ∧ p ≤ 6
 ·have hp := pow_small h.1 h.2
  simp only [decide_eq_true h, if_true, if_pos (show 0 ≤ p by omega), shl1 h.1 h.2]
  rw [wz (by omega) (by omega)]
  congr 1
  rw [decide_eq_decide]
  omega
 ·simp only [decide_eq_false h, Bool.false_eq_true, if_false]
  congr 1
  symm
  rw [decide_eq_false_iff_not]
  omega

def pc : Nat → Int → Int
 | 0, _ => 0
 | b + 1, n => n % 2 + pc b (n / 2)
theorem pc_zero : ∀ (b : Nat), pc b 0 = 0 := by
 intro b
 induction b with
 | zero => rfl
 | succ b ih => simp [pc, ih]
theorem spec_heads_l0 : ∀ (b : Nat) (n acc : Int), 0 ≤ n → n < 2 ^ b → 0 ≤ acc → acc + b ≤ 1000 → b ≤ 63 → Ev (fun k => spec_l1Heads.l0 k n acc) (acc + pc b n) := by
 intro b
 induction b with
 | zero =>
  intro n acc h0 h1 h2 h3 h4
  have : n = 0 := by simp at h1; omega
  subst this
  exact Ev.step (f := fun _ => some acc) (fun k => by rw [spec_l1Heads.l0, if_neg (by decide)]) (Ev.to (Ev.now _) (by simp [pc]))
 | succ b ih =>
  intro n acc h0 h1 h2 h3 h4
  by_cases hn : n = 0
  ·subst hn
   exact Ev.step (f := fun _ => some acc) (fun k => by rw [spec_l1Heads.l0, if_neg (by decide)]) (Ev.to (Ev.now _) (by rw [pc_zero]; omega))
  ·have h5 : n < 2 * 2 ^ b := by rw [Int.pow_succ] at h1; omega
   have h6 : (2 : Int) ^ b ≤ 4611686018427387904 := by
    have h7 : (2 : Nat) ^ b ≤ 2 ^ 62 := Nat.pow_le_pow_right (by decide) (by omega)
    have h8 : ((2 ^ b : Nat) : Int) ≤ ((2 ^ 62 : Nat) : Int) := Int.ofNat_le.2 h7
    rw [Int.natCast_pow] at h8
    exact h8
   have d1 : Int.tdiv n 2 = n / 2 := Int.tdiv_eq_ediv_of_nonneg h0
   have d2 : Int.tmod n 2 = n % 2 := Int.tmod_eq_emod_of_nonneg h0
   have e := ih (n / 2) (acc + n % 2) (by omega) (by omega) (by omega) (by omega) (by omega)
   have w1 : wrap64 (Int.tdiv n 2) = n / 2 := by rw [d1]; exact wz (by omega) (by omega)
   have w2 : wrap64 (acc + Int.tmod n 2) = acc + n % 2 := by rw [d2]; exact wz (by omega) (by omega)
   refine Ev.step (f := fun k => spec_l1Heads.l0 k (n / 2) (acc + n % 2)) (fun k => by rw [spec_l1Heads.l0, if_pos (by omega), w1, w2]) (Ev.to e (by simp only [pc]; omega))
def hdI (n : Int) : Int := if n < 0 then 0 else pc 63 n
theorem spec_heads_ev (n : Int) (h1 : n ≤ 9223372036854775807) : Ev (fun k => spec_l1Heads.f k n) (hdI n) := by
 unfold spec_l1Heads.f hdI
 by_cases hn : n < 0
 ·rw [if_pos hn]
  exact Ev.step (f := fun _ => some 0) (fun k => by rw [spec_l1Heads.l0, if_neg (by omega)]) (Ev.now _)
 ·rw [if_neg hn]
  exact Ev.to (spec_heads_l0 63 n 0 (by omega) (by simp; omega) (by omega) (by omega) (by omega)) (by omega)
theorem impl_heads_all : ∀ n : Fin 64, impl_headsOf.f (n.val : Int) = some (hdI (n.val : Int)) := by decide +kernel
theorem impl_heads {a : Int} (h0 : 0 ≤ a) (h1 : a < 64) : impl_headsOf.f a = some (hdI a) := by
 obtain ⟨n, rfl⟩ := Int.eq_ofNat_of_zero_le h0
 exact impl_heads_all ⟨n, by omega⟩
def PpB (p : Int) : Bool := decide (1 ≤ p ∧ p ≤ 6)
def HsB (p : Int) (H : List Int) : Bool := H.all (fun c => CrB p c && !decide (c = 0)) && (PpB p && decide ((H.length : Int) ≤ 4))
theorem HsB_of {p : Int} {H : List Int} (h : HsB p H = true) : H.length ≤ 4 ∧ 1 ≤ p ∧ p ≤ 6 ∧ ∀ c ∈ H, 0 < c ∧ c < 64 := by
 unfold HsB PpB at h
 simp only [Bool.and_eq_true, decide_eq_true_eq, List.all_eq_true] at h
 obtain ⟨h1, ⟨h2, h3⟩, h4⟩ := h
 refine ⟨by omega, h2, h3, fun c hc => ?_⟩
 have := h1 c hc
 have cr := CrB_of this.1
 have ps := pow_small cr.1 cr.2.1
 have : ¬ c = 0 := by simpa using this.2
 omega
theorem arePeople_eq (p : Int) : impl_arePeople.f p = some (PpB p) := by
 unfold impl_arePeople.f PpB
 by_cases h : p ≥ 1
 ·simp [h]
 ·simp [h]
theorem impl_isHouse_l0 (p : Int) (H : List Int) (hn : H.length ≤ 1048576) : ∀ (zs : List Int) (i : Nat), H.drop i = zs → Ev (fun k => impl_isHouse.l0 k H (H.length : Int) (i : Int) p H) (zs.all (fun c => CrB p c && !decide (c = 0)) && (PpB p && decide ((H.length : Int) ≤ 4))) := by
 intro zs
 induction zs with
 | nil =>
  intro i h
  refine Ev.step (f := fun _ => some (PpB p && decide ((H.length : Int) ≤ 4))) (fun k => ?_) (Ev.to (Ev.now _) (by simp))
  rw [impl_isHouse.l0, if_neg (dnil h), arePeople_eq]
  cases PpB p <;> simp
 | cons z zs ih =>
  intro i h
  obtain ⟨h1, h2, h3⟩ := dcons h
  have e := ih (i + 1) h3
  have hi1 : (i : Int) < (H.length : Int) := by omega
  have hi0 : 0 ≤ (i : Int) := by omega
  cases hc : CrB p z with
  | false =>
   refine Ev.step (f := fun _ => some false) (fun k => ?_) (Ev.to (Ev.now _) (by simp [hc]))
   rw [impl_isHouse.l0, if_pos hi1, if_pos hi0, if_pos hi1, rdn, h2, impl_isCrowd_eq, hc]
   rfl
  | true =>
   by_cases hz : z = 0
   ·refine Ev.step (f := fun _ => some false) (fun k => ?_) (Ev.to (Ev.now _) (by simp [hz]))
    rw [impl_isHouse.l0, if_pos hi1, if_pos hi0, if_pos hi1, rdn, h2, impl_isCrowd_eq, hc, Option.bind_some, if_pos rfl, if_pos hz]
   ·refine Ev.step (fun k => ?_) (Ev.to e (by simp [hz, hc]))
    rw [impl_isHouse.l0, if_pos hi1, if_pos hi0, if_pos hi1, rdn, h2, impl_isCrowd_eq, hc, Option.bind_some, if_pos rfl, if_neg hz, wsucc h1 (by omega)]
theorem impl_isHouse_ev (p : Int) (H : List Int) (hn : H.length ≤ 1048576) : Ev (fun k => impl_isHouse.f k p H) (HsB p H) := impl_isHouse_l0 p H hn H 0 rfl
theorem spec_HouseOk_l0 (p : Int) (H : List Int) (hn : H.length ≤ 1048576) : ∀ (zs : List Int) (i : Nat), H.drop i = zs → Ev (fun k => spec_HouseOk.l0 k (i : Int) p H) (zs.all (fun c => CrB p c && !decide (c = 0)) && (PpB p && decide ((H.length : Int) ≤ 4))) := by
 intro zs
 induction zs with
 | nil =>
  intro i h
  refine Ev.step (f := fun _ => some (PpB p && decide ((H.length : Int) ≤ 4))) (fun k => ?_) (Ev.to (Ev.now _) (by simp))
  rw [spec_HouseOk.l0, if_neg (dnil h), l1In_eq2, Option.bind_some, show decide (1 ≤ p ∧ p ≤ 6) = PpB p from rfl]
  cases PpB p <;> simp
 | cons z zs ih =>
  intro i h
  obtain ⟨h1, h2, h3⟩ := dcons h
  have e := ih (i + 1) h3
  have hi1 : (i : Int) < (H.length : Int) := by omega
  have hi0 : 0 ≤ (i : Int) := by omega
  cases hc : CrB p z with
  | false =>
   refine Ev.step (f := fun _ => some false) (fun k => ?_) (Ev.to (Ev.now _) (by simp [hc]))
   rw [spec_HouseOk.l0, if_pos hi1, if_pos hi0, rdn, h2, spec_CrowdOk_eq, hc]
   rfl
  | true =>
   by_cases hz : z = 0
   ·refine Ev.step (f := fun _ => some false) (fun k => ?_) (Ev.to (Ev.now _) (by simp [hz]))
    rw [spec_HouseOk.l0, if_pos hi1, if_pos hi0, rdn, h2, spec_CrowdOk_eq, hc, Option.bind_some, if_pos rfl, if_pos hz]
   ·refine Ev.step (fun k => ?_) (Ev.to e (by simp [hz, hc]))
    rw [spec_HouseOk.l0, if_pos hi1, if_pos hi0, rdn, h2, spec_CrowdOk_eq, hc, Option.bind_some, if_pos rfl, if_neg hz, wsucc h1 (by omega)]
theorem spec_HouseOk_ev (p : Int) (H : List Int) (hn : H.length ≤ 1048576) : Ev (fun k => spec_HouseOk.f k p H) (HsB p H) := spec_HouseOk_l0 p H hn H 0 rfl
def leafB (H : List Int) (m : S61) : Bool := decide (m.f0 = 0) && (decide (0 ≤ m.f1 ∧ m.f1 < H.length) && decide (1 ≤ m.f2 ∧ m.f2 ≤ hdI (rd H m.f1)))
def opB (m : S61) : Bool := (decide (m.f0 = 1) || decide (m.f0 = 2)) && (decide (m.f1 = 0) && decide (m.f2 = 0))
def tmF (H : List Int) : List S61 → Int → Bool
 | [], d => decide (d = 1)
 | m :: ms, d => if leafB H m = true then tmF H ms (d + 1) else if opB m = true then (if d < 2 then false else tmF H ms (d - 1)) else false
def TmB (p : Int) (H : List Int) (ms : List S61) : Bool := HsB p H && (decide ((ms.length : Int) ≤ 9) && tmF H ms 0)
theorem rdMk (xs : List S61) (i : Nat) : rd_T61 xs (i : Int) = xs.getD i z61 := by simp [rd_T61]
theorem impl_isTerm_l0 (p : Int) (H : List Int) (hH : HsB p H = true) (xs : List S61) (hn : xs.length ≤ 1048576) : ∀ (zs : List S61) (i : Nat) (d : Int), xs.drop i = zs → 0 ≤ d → d ≤ i → Ev (fun k => impl_isTerm.l0 k d xs (xs.length : Int) (i : Int) p H) (tmF H zs d) := by
 have hh := HsB_of hH
 intro zs
 induction zs with
 | nil =>
  intro i d h hd0 hd
  refine Ev.step (f := fun _ => some (d == 1)) (fun k => by rw [impl_isTerm.l0, if_neg (dnil h)]) (Ev.to (Ev.now _) ?_)
  unfold tmF
  by_cases e : d = 1 <;> simp [e]
 | cons z zs ih =>
  intro i d h hd0 hd
  obtain ⟨h1, h2, h3⟩ := dcons h
  have hi1 : (i : Int) < (xs.length : Int) := by omega
  have hi0 : 0 ≤ (i : Int) := by omega
  have wd : wrap64 (d + 1) = d + 1 := wz (by omega) (by omega)
  have wd2 : wrap64 (d - 1) = d - 1 := wz (by omega) (by omega)
  have stop (a : Bool) (ha : a = false) (b c e : Int) : ∀ k, impl_isTerm.j2 (k + 1) d xs (xs.length : Int) (i : Int) a p H b c e = some false := fun k => by rw [impl_isTerm.j2, ha, if_neg (by decide)]
  by_cases g0 : z.f0 = 0
  ·have nop : opB z = false := by simp [opB, g0]
   by_cases g1 : z.f1 < 0
   ·refine Ev.step (f := fun _ => some false) (fun k => ?_) (Ev.to (Ev.now _) ?_)
    ·rw [impl_isTerm.l0, if_pos hi1, if_pos hi0, if_pos hi1, rdMk, h2, if_pos g0, if_pos g1]
    ·unfold tmF; rw [if_neg (by simp [leafB]; omega), if_neg (by simp [nop])]
   by_cases g2 : z.f1 ≥ (H.length : Int)
   ·refine Ev.step (f := fun _ => some false) (fun k => ?_) (Ev.to (Ev.now _) ?_)
    ·rw [impl_isTerm.l0, if_pos hi1, if_pos hi0, if_pos hi1, rdMk, h2, if_pos g0, if_neg g1, if_pos g2]
    ·unfold tmF; rw [if_neg (by simp [leafB]; omega), if_neg (by simp [nop])]
   have q1 : 0 ≤ z.f1 := by omega
   have q2 : z.f1 < (H.length : Int) := by omega
   by_cases g3 : z.f2 < 1
   ·refine Ev.step (f := fun _ => some false) (fun k => ?_) (Ev.to (Ev.now _) ?_)
    ·rw [impl_isTerm.l0, if_pos hi1, if_pos hi0, if_pos hi1, rdMk, h2, if_pos g0, if_neg g1, if_neg g2, if_pos g3]
    ·unfold tmF; rw [if_neg (by simp [leafB]; omega), if_neg (by simp [nop])]
   have hm : rd H z.f1 ∈ H := by
    obtain ⟨n, hn2⟩ := Int.eq_ofNat_of_zero_le q1
    rw [hn2, rdn, List.getD_eq_getElem?_getD, List.getElem?_eq_getElem (show n < H.length by omega)]
    exact List.getElem_mem _
   have hr := hh.2.2.2 _ hm
   have hd1 := impl_heads (Int.le_of_lt hr.1) hr.2
   by_cases g4 : z.f2 > hdI (rd H z.f1)
   ·refine Ev.step (f := fun _ => some false) (fun k => ?_) (Ev.to (Ev.now _) ?_)
    ·rw [impl_isTerm.l0, if_pos hi1, if_pos hi0, if_pos hi1, rdMk, h2, if_pos g0, if_neg g1, if_neg g2, if_neg g3, if_pos q1, if_pos q2, hd1, Option.bind_some, if_pos g4]
    ·unfold tmF; rw [if_neg (by simp [leafB]; omega), if_neg (by simp [nop])]
   ·have lf : leafB H z = true := by
     unfold leafB
     rw [decide_eq_true g0, decide_eq_true (show 0 ≤ z.f1 ∧ z.f1 < (H.length : Int) from ⟨q1, q2⟩), decide_eq_true (show 1 ≤ z.f2 ∧ z.f2 ≤ hdI (rd H z.f1) by omega)]
     rfl
    refine Ev.step (fun k => ?_) (Ev.to (ih (i + 1) (d + 1) h3 (by omega) (by omega)) ?_)
    ·rw [impl_isTerm.l0, if_pos hi1, if_pos hi0, if_pos hi1, rdMk, h2, if_pos g0, if_neg g1, if_neg g2, if_neg g3, if_pos q1, if_pos q2, hd1, Option.bind_some, if_neg g4, wd, wsucc h1 (by omega)]
    ·rw [tmF, if_pos lf]
  ·have nl : leafB H z = false := by unfold leafB; rw [decide_eq_false g0]; rfl
   refine Ev.step (f := fun k => impl_isTerm.j2 k d xs (xs.length : Int) (i : Int) (decide (z.f0 = 1) || decide (z.f0 = 2)) p H z.f0 z.f1 z.f2) (fun k => ?_) ?_
   ·rw [impl_isTerm.l0, if_pos hi1, if_pos hi0, if_pos hi1, rdMk, h2, if_neg g0]
    by_cases g5 : z.f0 = 1
    ·rw [if_pos g5]; simp [g5]
    ·rw [if_neg g5]; simp only [decide_eq_false g5, Bool.false_or]; rfl
   ·rw [tmF, nl, if_neg (by decide)]
    cases hop : (decide (z.f0 = 1) || decide (z.f0 = 2)) with
    | false => exact Ev.step (fun k => by rw [impl_isTerm.j2, if_neg (by decide)]) (Ev.to (Ev.now false) (by simp [opB, hop]))
    | true =>
     by_cases g6 : z.f1 = 0
     ·by_cases g7 : z.f2 = 0
      ·have hb : opB z = true := by simp [opB, hop, g6, g7]
       rw [if_pos hb]
       by_cases g8 : d < 2
       ·rw [if_pos g8]
        exact Ev.step (fun k => by rw [impl_isTerm.j2, if_pos rfl, if_pos g6, if_pos g7, if_pos g8]) (Ev.now false)
       ·rw [if_neg g8]
        exact Ev.step (fun k => by rw [impl_isTerm.j2, if_pos rfl, if_pos g6, if_pos g7, if_neg g8, wd2, wsucc h1 (by omega)]) (ih (i + 1) (d - 1) h3 (by omega) (by omega))
      ·exact Ev.step (fun k => by rw [impl_isTerm.j2, if_pos rfl, if_pos g6, if_neg g7]) (Ev.to (Ev.now false) (by simp [opB, g7]))
     ·exact Ev.step (fun k => by rw [impl_isTerm.j2, if_pos rfl, if_neg g6]) (Ev.to (Ev.now false) (by simp [opB, g6]))
theorem impl_isTerm_ev (p : Int) (H : List Int) (hn : H.length ≤ 1048576) (ms : List S61) (hm : ms.length ≤ 1048576) : Ev (fun k => impl_isTerm.f k p H ms) (TmB p H ms) := by
 have stop : Ev (fun k => impl_isTerm.j0 k ms true p H) false := Ev.step (f := fun _ => some false) (fun k => by rw [impl_isTerm.j0, if_pos rfl]) (Ev.now _)
 unfold impl_isTerm.f TmB
 refine Ev.bind (impl_isHouse_ev p H hn) ?_
 cases hH : HsB p H with
 | false => simp only [Bool.false_eq_true, if_false, Bool.false_and]; exact stop
 | true =>
  simp only [if_true, Bool.true_and]
  by_cases h1 : (ms.length : Int) < 1
  ·simp only [if_pos h1]
   obtain rfl : ms = [] := List.eq_nil_of_length_eq_zero (by omega)
   exact Ev.to stop (by simp [tmF])
  ·simp only [if_neg h1]
   by_cases h2 : (ms.length : Int) > 9
   ·simp only [decide_eq_true h2]
    exact Ev.to stop (by rw [decide_eq_false (by omega)]; rfl)
   ·simp only [decide_eq_false h2, decide_eq_true (show (ms.length : Int) ≤ 9 by omega), Bool.true_and]
    exact Ev.step (f := fun k => impl_isTerm.l0 k 0 ms (ms.length : Int) ((0 : Nat) : Int) p H) (fun k => by rw [impl_isTerm.j0, if_neg (by decide)]; rfl) (impl_isTerm_l0 p H hH ms hm ms 0 0 rfl (by omega) (by omega))
theorem spec_TermOk_l0 (p : Int) (H : List Int) (hn : H.length ≤ 1048576) (hc : ∀ c ∈ H, c ≤ 9223372036854775807) (xs : List S61) (hx : xs.length ≤ 1048576) : ∀ (zs : List S61) (i : Nat) (d : Int), xs.drop i = zs → 0 ≤ d → d ≤ i → Ev (fun k => spec_TermOk.l0 k xs d (i : Int) p H) (HsB p H && (decide ((xs.length : Int) ≤ 9) && tmF H zs d)) := by
 intro zs
 induction zs with
 | nil =>
  intro i d h hd0 hd
  refine Ev.step (f := fun k => (spec_HouseOk.f k p H).bind fun t => (if t = true then (if d = 1 then (some (decide ((xs.length : Int) ≤ 9))) else (some false)) else (some false))) (fun k => by rw [spec_TermOk.l0, if_neg (dnil h)]) (Ev.bind (spec_HouseOk_ev p H hn) ?_)
  unfold tmF
  cases HsB p H with
  | false => simp only [Bool.false_eq_true, if_false, Bool.false_and]; exact Ev.now _
  | true =>
   simp only [if_true, Bool.true_and]
   by_cases e : d = 1
   ·simp only [if_pos e]; exact Ev.to (Ev.now _) (by simp [e])
   ·simp only [if_neg e]; exact Ev.to (Ev.now _) (by simp [e])
 | cons z zs ih =>
  intro i d h hd0 hd
  obtain ⟨h1, h2, h3⟩ := dcons h
  have hi1 : (i : Int) < (xs.length : Int) := by omega
  have hi0 : 0 ≤ (i : Int) := by omega
  have wd : wrap64 (d + 1) = d + 1 := wz (by omega) (by omega)
  have wd2 : wrap64 (d - 1) = d - 1 := wz (by omega) (by omega)
  have wl : wrap64 ((H.length : Int) - 1) = (H.length : Int) - 1 := wz (by omega) (by omega)
  have j : Ev (fun k => spec_TermOk.j1 k xs d (i : Int) (leafB H z) p H) (HsB p H && (decide ((xs.length : Int) ≤ 9) && tmF H (z :: zs) d)) := by
   cases hl : leafB H z with
   | true => exact Ev.step (fun k => by rw [spec_TermOk.j1, if_pos rfl, wd, wsucc h1 (by omega)]) (Ev.to (ih (i + 1) (d + 1) h3 (by omega) (by omega)) (by rw [tmF, if_pos hl]))
   | false =>
    rw [tmF, hl, if_neg (by decide)]
    by_cases g1 : z.f0 = 1 ∧ z.f1 = 0 ∧ z.f2 = 0
    ·have b1 : (z.f0 == 1 && (z.f1 == 0 && z.f2 == 0)) = true := by simp [g1]
     have hb : opB z = true := by simp [opB, g1]
     rw [if_pos hb]
     by_cases g8 : d < 2
     ·rw [if_pos g8]
      exact Ev.step (fun k => by rw [spec_TermOk.j1, if_neg (by decide), if_pos hi0, if_pos hi1, rdMk, h2, if_pos b1, if_neg (by omega)]) (Ev.to (Ev.now false) (by simp))
     ·rw [if_neg g8]
      exact Ev.step (fun k => by rw [spec_TermOk.j1, if_neg (by decide), if_pos hi0, if_pos hi1, rdMk, h2, if_pos b1, if_pos (by omega), wd2, wsucc h1 (by omega)]) (ih (i + 1) (d - 1) h3 (by omega) (by omega))
    ·have b1 : ¬ (z.f0 == 1 && (z.f1 == 0 && z.f2 == 0)) = true := by simpa using g1
     by_cases g2 : z.f0 = 2 ∧ z.f1 = 0 ∧ z.f2 = 0
     ·have b2 : (z.f0 == 2 && (z.f1 == 0 && z.f2 == 0)) = true := by simp [g2]
      have hb : opB z = true := by simp [opB, g2]
      rw [if_pos hb]
      by_cases g8 : d < 2
      ·rw [if_pos g8]
       exact Ev.step (fun k => by rw [spec_TermOk.j1, if_neg (by decide), if_pos hi0, if_pos hi1, rdMk, h2, if_neg b1, if_pos b2, if_neg (by omega)]) (Ev.to (Ev.now false) (by simp))
      ·rw [if_neg g8]
       exact Ev.step (fun k => by rw [spec_TermOk.j1, if_neg (by decide), if_pos hi0, if_pos hi1, rdMk, h2, if_neg b1, if_pos b2, if_pos (by omega), wd2, wsucc h1 (by omega)]) (ih (i + 1) (d - 1) h3 (by omega) (by omega))
     ·have b2 : ¬ (z.f0 == 2 && (z.f1 == 0 && z.f2 == 0)) = true := by simpa using g2
      have hb : ¬ opB z = true := by
       unfold opB
       simp only [Bool.and_eq_true, Bool.or_eq_true, decide_eq_true_eq]
       omega
      rw [if_neg hb]
      exact Ev.step (fun k => by rw [spec_TermOk.j1, if_neg (by decide), if_pos hi0, if_pos hi1, rdMk, h2, if_neg b1, if_neg b2]) (Ev.to (Ev.now false) (by simp))
  by_cases g0 : z.f0 = 0
  ·by_cases g1 : 0 ≤ z.f1 ∧ z.f1 < (H.length : Int)
   ·have hm : rd H z.f1 ∈ H := by
     obtain ⟨n, hn2⟩ := Int.eq_ofNat_of_zero_le g1.1
     rw [hn2, rdn, List.getD_eq_getElem?_getD, List.getElem?_eq_getElem (show n < H.length by omega)]
     exact List.getElem_mem _
    refine Ev.step (f := fun k => (spec_l1Heads.f k (rd H z.f1)).bind fun t => (spec_l1In.f z.f2 1 t).bind fun u => spec_TermOk.j1 k xs d (i : Int) u p H) (fun k => ?_) (Ev.bind (spec_heads_ev _ (hc _ hm)) ?_)
    ·rw [spec_TermOk.l0, if_pos hi1, if_pos hi0, rdMk, h2, if_pos g0, l1In_eq2, wl, Option.bind_some, decide_eq_true (show 0 ≤ z.f1 ∧ z.f1 ≤ (H.length : Int) - 1 by omega), if_pos rfl, if_pos g1.1, if_pos g1.2]
    ·have e2 : leafB H z = decide (1 ≤ z.f2 ∧ z.f2 ≤ hdI (rd H z.f1)) := by unfold leafB; rw [decide_eq_true g0, decide_eq_true g1]; simp
     simp only [l1In_eq2, Option.bind_some]
     rw [← e2]
     exact j
   ·have nl : leafB H z = false := by unfold leafB; rw [decide_eq_false g1]; simp
    rw [nl] at j
    exact Ev.step (fun k => by rw [spec_TermOk.l0, if_pos hi1, if_pos hi0, rdMk, h2, if_pos g0, l1In_eq2, wl, Option.bind_some, decide_eq_false (show ¬ (0 ≤ z.f1 ∧ z.f1 ≤ (H.length : Int) - 1) by omega), if_neg (by decide)]) j
  ·have nl : leafB H z = false := by unfold leafB; rw [decide_eq_false g0]; rfl
   rw [nl] at j
   exact Ev.step (fun k => by rw [spec_TermOk.l0, if_pos hi1, if_pos hi0, rdMk, h2, if_neg g0]) j
theorem spec_TermOk_ev (p : Int) (H : List Int) (hn : H.length ≤ 1048576) (hc : ∀ c ∈ H, c ≤ 9223372036854775807) (ms : List S61) (hm : ms.length ≤ 1048576) : Ev (fun k => spec_TermOk.f k p H ms) (TmB p H ms) := spec_TermOk_l0 p H hn hc ms hm ms 0 0 rfl (by omega) (by omega)

inductive Tm where
 | lf : S61 → Tm
 | nd : S61 → Tm → Tm → Tm
def flat : Tm → List S61
 | .lf m => [m]
 | .nd m a b => flat a ++ (flat b ++ [m])
def good (H : List Int) : Tm → Prop
 | .lf m => leafB H m = true
 | .nd m a b => opB m = true ∧ good H a ∧ good H b
def val (H : List Int) (c : Int) : Tm → Bool
 | .lf m => decide (hdI (Go.bits .and .i64 (rd H m.f1) c) ≥ m.f2)
 | .nd m a b => if m.f0 = 2 then (val H c a || val H c b) else (val H c a && val H c b)
def psF (H : List Int) : List S61 → List Tm → List Tm
 | [], s => s
 | m :: ms, s => if leafB H m = true then psF H ms (.lf m :: s) else match s with
  | b :: a :: s => psF H ms (.nd m a b :: s)
  | s => s
def flats : List Tm → List S61
 | [] => []
 | t :: s => flats s ++ flat t
theorem ps_ok (H : List Int) : ∀ (ms : List S61) (s : List Tm), tmF H ms (s.length : Int) = true → (∀ t ∈ s, good H t) → ∃ t, psF H ms s = [t] ∧ good H t ∧ flat t = flats s ++ ms := by
 intro ms
 induction ms with
 | nil =>
  intro s h hg
  have hl : (s.length : Int) = 1 := of_decide_eq_true h
  match s, hl, hg with
  | [t], _, hg => exact ⟨t, rfl, hg t (by simp), by simp [flats]⟩
  | [], hl, _ => simp at hl
  | _ :: _ :: _, hl, _ => simp at hl; omega
 | cons m ms ih =>
  intro s h hg
  unfold tmF at h
  by_cases hl : leafB H m = true
  ·rw [if_pos hl] at h
   obtain ⟨t, h1, h2, h3⟩ := ih (.lf m :: s) (by simpa using h) (by
    intro t ht
    rcases List.mem_cons.1 ht with rfl | ht
    ·exact hl
    ·exact hg t ht)
   exact ⟨t, by unfold psF; rw [if_pos hl]; exact h1, h2, by rw [h3]; simp [flats, flat]⟩
  ·rw [if_neg hl] at h
   by_cases ho : opB m = true
   ·rw [if_pos ho] at h
    by_cases hd : (s.length : Int) < 2
    ·rw [if_pos hd] at h; cases h
    ·rw [if_neg hd] at h
     match s, hd, hg, h with
     | [], hd, _, _ => simp at hd
     | [_], hd, _, _ => simp at hd
     | b :: a :: s, _, hg, h =>
      obtain ⟨t, h1, h2, h3⟩ := ih (.nd m a b :: s) (by
       have e : (((b :: a :: s).length : Int) - 1) = (((Tm.nd m a b :: s).length : Nat) : Int) := by simp
       rw [← e]; exact h) (by
       intro t ht
       rcases List.mem_cons.1 ht with rfl | ht
       ·exact ⟨ho, hg a (by simp), hg b (by simp)⟩
       ·exact hg t (by simp [ht]))
      exact ⟨t, by rw [psF, if_neg hl]; exact h1, h2, by rw [h3]; simp [flats, flat]⟩
   ·rw [if_neg ho] at h; cases h
def saysB (H : List Int) (c : Int) (ms : List S61) : Bool := match psF H ms [] with
 | t :: _ => val H c t
 | [] => false
theorem flat_pos (t : Tm) : 0 < (flat t).length := by cases t <;> simp [flat] <;> omega
theorem and_fin : ∀ a b : Fin 64, 0 ≤ Go.bits .and .i64 (a.val : Int) (b.val : Int) ∧ Go.bits .and .i64 (a.val : Int) (b.val : Int) < 64 ∧ Go.bits .and .i64 (a.val : Int) (b.val : Int) = Go.bits .and .i64 (b.val : Int) (a.val : Int) := by decide +kernel
theorem and_small {a b : Int} (h0 : 0 ≤ a) (h1 : a < 64) (h2 : 0 ≤ b) (h3 : b < 64) : 0 ≤ Go.bits .and .i64 a b ∧ Go.bits .and .i64 a b < 64 ∧ Go.bits .and .i64 a b = Go.bits .and .i64 b a := by
 obtain ⟨n, rfl⟩ := Int.eq_ofNat_of_zero_le h0
 obtain ⟨m, rfl⟩ := Int.eq_ofNat_of_zero_le h2
 exact and_fin ⟨n, by omega⟩ ⟨m, by omega⟩
theorem leaf_of {H : List Int} {m : S61} (h : leafB H m = true) : m.f0 = 0 ∧ 0 ≤ m.f1 ∧ m.f1 < (H.length : Int) ∧ rd H m.f1 ∈ H := by
 unfold leafB at h
 simp only [Bool.and_eq_true, decide_eq_true_eq] at h
 obtain ⟨h1, ⟨h2, h3⟩, h4⟩ := h
 refine ⟨h1, h2, h3, ?_⟩
 obtain ⟨n, hn2⟩ := Int.eq_ofNat_of_zero_le h2
 rw [hn2, rdn, List.getD_eq_getElem?_getD, List.getElem?_eq_getElem (show n < H.length by omega)]
 exact List.getElem_mem _
theorem op_of {m : S61} (h : opB m = true) : m.f0 = 1 ∨ m.f0 = 2 := by
 unfold opB at h
 simp only [Bool.and_eq_true, Bool.or_eq_true, decide_eq_true_eq] at h
 exact h.1
theorem drop_app {α : Type} {xs a b : List α} {i : Nat} (h : xs.drop i = a ++ b) : xs.drop (i + a.length) = b := by
 rw [← List.drop_drop, h, List.drop_left]
section
variable (p : Int) (H : List Int) (c : Int)
theorem consents_tree (hH : HsB p H = true) (h0 : 0 ≤ c) (h1 : c < 64) (xs : List S61) (hx : xs.length ≤ 1048576) (r : Bool) : ∀ (t : Tm), good H t → ∀ (i : Nat) (rest : List S61) (st : List Bool), xs.drop i = flat t ++ rest → st.length ≤ i →
  Ev (fun k => impl_consents.l0 k c (st ++ [val H c t]) xs (xs.length : Int) ((i + (flat t).length : Nat) : Int) p H) r → Ev (fun k => impl_consents.l0 k c st xs (xs.length : Int) (i : Int) p H) r := by
 have hh := HsB_of hH
 intro t
 induction t with
 | lf m =>
  intro hg i rest st hd hst e
  obtain ⟨d1, d2, d3⟩ := dcons (show xs.drop i = m :: rest from hd)
  obtain ⟨g0, g1, g2, g3⟩ := leaf_of hg
  have hr := hh.2.2.2 _ g3
  have ha := and_small (Int.le_of_lt hr.1) hr.2 h0 h1
  refine Ev.step (fun k => ?_) e
  rw [impl_consents.l0, if_pos (by omega), if_pos (by omega), if_pos (by omega), rdMk, d2, if_pos g0, if_pos g1, if_pos g2, impl_heads ha.1 ha.2.1, Option.bind_some, if_pos (by omega), wsucc d1 (by omega)]
  rfl
 | nd m a b iha ihb =>
  intro hg i rest st hd hst e
  obtain ⟨go, ga, gb⟩ := hg
  have hd' : xs.drop i = flat a ++ (flat b ++ (m :: rest)) := by rw [hd]; simp [flat]
  have hda := drop_app hd'
  have hdb := drop_app hda
  obtain ⟨d1, d2, d3⟩ := dcons hdb
  have pa := flat_pos a
  have pb := flat_pos b
  refine iha ga i _ st hd' hst (ihb gb _ _ _ hda (by simp <;> omega) ?_)
  generalize hj : i + (flat a).length + (flat b).length = j at *
  have ej : i + (flat (Tm.nd m a b)).length = j + 1 := by simp [flat]; omega
  rw [ej] at e
  have hi1 : (j : Int) < (xs.length : Int) := by omega
  have hi0 : 0 ≤ (j : Int) := by omega
  have g0 : ¬ m.f0 = 0 := by have := op_of go; omega
  generalize hva : val H c a = va at *
  generalize hvb : val H c b = vb at *
  have len : ((st ++ [va] ++ [vb]).length : Int) = (st.length : Int) + 2 := by simp <;> omega
  have w2 : wrap64 (((st ++ [va] ++ [vb]).length : Int) - 2) = (st.length : Int) := by rw [len, wz (by omega) (by omega)]; omega
  have w1 : wrap64 (((st ++ [va] ++ [vb]).length : Int) - 1) = (st.length : Int) + 1 := by rw [len, wz (by omega) (by omega)]; omega
  have r2 : rdOf false (st ++ [va] ++ [vb]) (st.length : Int) = va := by simp [rdOf]
  have r1 : rdOf false (st ++ [va] ++ [vb]) ((st.length : Int) + 1) = vb := by
   have : ((st.length : Int) + 1).toNat = st.length + 1 := by omega
   simp [rdOf, this]
  have tk : (st ++ [va] ++ [vb]).take ((st.length : Int)).toNat = st := by simp
  have hv : val H c (Tm.nd m a b) = if m.f0 = 2 then (va || vb) else (va && vb) := by rw [val, hva, hvb]
  rw [hv] at e
  refine Ev.step (fun k => ?_) e
  rw [impl_consents.l0, if_pos hi1, if_pos hi0, if_pos hi1, rdMk, d2, if_neg g0, w2, w1, len, if_pos (by omega), if_pos (by omega), if_pos (by omega), if_pos (by omega), r2, r1, tk]
  simp only [if_pos (show (st.length : Int) ≤ (st.length : Int) + 2 by omega), Option.bind_some, if_pos (show st.length < 140737488355328 by omega), wsucc d1 (show xs.length ≤ 9223372036854775807 by omega)]
  by_cases g2 : m.f0 = 2
  ·simp only [if_pos g2]
   cases va <;> simp
  ·simp only [if_neg g2]
   cases va <;> simp
theorem consents_ev (ms : List S61) (hm : ms.length ≤ 1048576) (ht : TmB p H ms = true) (h0 : 0 ≤ c) (h1 : c < 64) : Ev (fun k => impl_consents.f k p H ms c) (saysB H c ms) := by
 unfold TmB at ht
 simp only [Bool.and_eq_true, decide_eq_true_eq] at ht
 obtain ⟨hH, hl, hf⟩ := ht
 obtain ⟨t, t1, t2, t3⟩ := ps_ok H ms [] (by simpa using hf) (by simp)
 have t3 : flat t = ms := by simpa [flats] using t3
 have hv : saysB H c ms = val H c t := by unfold saysB; rw [t1]
 rw [hv]
 refine consents_tree p H c hH h0 h1 ms hm _ t t2 0 [] [] (by simp [t3]) (by simp) ?_
 rw [t3]
 refine Ev.step (fun k => ?_) (Ev.now (val H c t))
 rw [impl_consents.l0, if_neg (by omega), if_pos (by simp)]
 simp [rdOf]
theorem starts_tree (xs : List S61) (hx : xs.length ≤ 1048576) (r : Int) : ∀ (t : Tm), good H t → ∀ (i : Nat) (rest : List S61) (n : Int), xs.drop i = flat t ++ rest → 0 ≤ n → n + (flat t).length ≤ 1048576 →
  Ev (fun k => spec_l3Starts.l0 k xs n ((i : Int) - 1)) r → Ev (fun k => spec_l3Starts.l0 k xs (n + 1) (((i + (flat t).length : Nat) : Int) - 1)) r := by
 intro t
 induction t with
 | lf m =>
  intro hg i rest n hd hn hn2 e
  obtain ⟨d1, d2, d3⟩ := dcons (show xs.drop i = m :: rest from hd)
  obtain ⟨g0, g1, g2, g3⟩ := leaf_of hg
  have e1 : (((i + (flat (Tm.lf m)).length : Nat) : Int) - 1) = (i : Int) := by simp [flat]
  rw [e1]
  have w1 : wrap64 (n + 1 - 1) = n := by rw [wz (by omega) (by omega)]; omega
  have w2 : wrap64 ((i : Int) - 1) = (i : Int) - 1 := wz (by omega) (by omega)
  refine Ev.step (fun k => ?_) e
  rw [spec_l3Starts.l0, if_pos (by omega), if_pos (by omega), if_pos (by omega), rdMk, d2, if_pos g0, w1, w2]
 | nd m a b iha ihb =>
  intro hg i rest n hd hn hn2 e
  obtain ⟨go, ga, gb⟩ := hg
  have hd' : xs.drop i = flat a ++ (flat b ++ (m :: rest)) := by rw [hd]; simp [flat]
  have hda := drop_app hd'
  have hdb := drop_app hda
  obtain ⟨d1, d2, d3⟩ := dcons hdb
  have hl : (flat (Tm.nd m a b)).length = (flat a).length + (flat b).length + 1 := by simp [flat]; omega
  have pa := flat_pos a
  have pb := flat_pos b
  have ea := iha ga i _ n hd' hn (by omega) e
  have eb := ihb gb _ _ (n + 1) hda (by omega) (by omega) ea
  generalize hj : i + (flat a).length + (flat b).length = j at *
  have e1 : (((i + (flat (Tm.nd m a b)).length : Nat) : Int) - 1) = (j : Int) := by rw [hl]; omega
  rw [e1]
  have g0 : ¬ m.f0 = 0 := by have := op_of go; omega
  have w1 : wrap64 (n + 1 + 1) = n + 1 + 1 := wz (by omega) (by omega)
  have w2 : wrap64 ((j : Int) - 1) = (j : Int) - 1 := wz (by omega) (by omega)
  refine Ev.step (fun k => ?_) eb
  rw [spec_l3Starts.l0, if_pos (by omega), if_pos (by omega), if_pos (by omega), rdMk, d2, if_neg g0, w1, w2]
theorem says_tree (hH : HsB p H = true) (h0 : 0 ≤ c) (h1 : c < 64) : ∀ (t : Tm), good H t → (flat t).length ≤ 1000 → Ev (fun k => spec_l4Says.f k p H (flat t) c) (val H c t) := by
 have hh := HsB_of hH
 intro t
 induction t with
 | lf m =>
  intro hg hl
  obtain ⟨g0, g1, g2, g3⟩ := leaf_of hg
  have hr := hh.2.2.2 _ g3
  have ha := and_small (Int.le_of_lt hr.1) hr.2 h0 h1
  have w1 : wrap64 ((([m] : List S61).length : Int) - 1) = ((0 : Nat) : Int) := by rw [wz (by simp) (by simp)]; simp
  refine Ev.step (f := fun k => (spec_l1Heads.f k (Go.bits .and .i64 c (rd H m.f1))).bind fun t => some (decide (t ≥ m.f2))) (fun k => ?_) (Ev.bind (spec_heads_ev _ (by rw [← ha.2.2]; omega)) ?_)
  ·rw [spec_l4Says.f, show flat (Tm.lf m) = [m] from rfl, w1, if_pos (by omega), if_pos (by simp), rdMk, show ([m] : List S61).getD 0 z61 = m from rfl, if_pos g0, if_pos g1, if_pos g2]
  ·exact Ev.to (Ev.now _) (by rw [val, ha.2.2])
 | nd m a b iha ihb =>
  intro hg hl
  obtain ⟨go, ga, gb⟩ := hg
  have pa := flat_pos a
  have pb := flat_pos b
  have hlen : (flat (Tm.nd m a b)).length = (flat a).length + (flat b).length + 1 := by simp [flat]; omega
  generalize hxs : flat (Tm.nd m a b) = xs at *
  have hd : xs.drop 0 = flat a ++ (flat b ++ [m]) := by rw [← hxs]; rfl
  have hda := drop_app hd
  have hdb := drop_app hda
  obtain ⟨d1, d2, d3⟩ := dcons hdb
  have w1 : wrap64 ((xs.length : Int) - 1) = ((0 + (flat a).length + (flat b).length : Nat) : Int) := by rw [wz (by omega) (by omega)]; omega
  have w2 : wrap64 (((0 + (flat a).length + (flat b).length : Nat) : Int) - 1) = ((0 + (flat a).length + (flat b).length : Nat) : Int) - 1 := wz (by omega) (by omega)
  have hs : Ev (fun k => spec_l3Starts.f k xs (((0 + (flat a).length + (flat b).length : Nat) : Int) - 1)) (((flat a).length : Nat) : Int) := by
   refine starts_tree H xs (by omega) _ b gb (0 + (flat a).length) [m] 0 hda (by omega) (by omega) ?_
   refine Ev.step (fun k => ?_) (Ev.now _)
   rw [spec_l3Starts.l0, if_neg (by omega), wz (by omega) (by omega)]
   congr 1
   omega
  have g0 : ¬ m.f0 = 0 := by have := op_of go; omega
  have ta : xs.take (((flat a).length : Nat) : Int).toNat = flat a := by
   have := hd
   rw [List.drop_zero] at this
   rw [this]
   simp
  have tb : (xs.take (((0 + (flat a).length + (flat b).length : Nat) : Int)).toNat).drop (((flat a).length : Nat) : Int).toNat = flat b := by
   have := hd
   rw [List.drop_zero] at this
   rw [this, ← List.append_assoc]
   have e1 : (((0 + (flat a).length + (flat b).length : Nat) : Int)).toNat = (flat a ++ flat b).length := by rw [List.length_append]; omega
   rw [e1, List.take_left, show (((flat a).length : Nat) : Int).toNat = (flat a).length by simp, List.drop_left]
  have va := iha ga (by omega)
  have vb := ihb gb (by omega)
  refine Ev.step (f := fun k => (spec_l3Starts.f k xs (((0 + (flat a).length + (flat b).length : Nat) : Int) - 1)).bind fun t264 => (if m.f0 = 2 then (if 0 ≤ t264 then (if t264 ≤ (xs.length : Int) then ((spec_l4Says.f k p H (xs.take (t264 : Int).toNat) c).bind fun t270 => (if t270 = true then (some true) else (if t264 ≤ ((0 + (flat a).length + (flat b).length : Nat) : Int) then (if ((0 + (flat a).length + (flat b).length : Nat) : Int) ≤ (xs.length : Int) then ((spec_l4Says.f k p H ((xs.take (((0 + (flat a).length + (flat b).length : Nat) : Int) : Int).toNat).drop (t264 : Int).toNat) c).bind fun t275 => (some t275)) else (none)) else (none)))) else (none)) else (none)) else (if 0 ≤ t264 then (if t264 ≤ (xs.length : Int) then ((spec_l4Says.f k p H (xs.take (t264 : Int).toNat) c).bind fun t280 => (if t280 = true then (if t264 ≤ ((0 + (flat a).length + (flat b).length : Nat) : Int) then (if ((0 + (flat a).length + (flat b).length : Nat) : Int) ≤ (xs.length : Int) then ((spec_l4Says.f k p H ((xs.take (((0 + (flat a).length + (flat b).length : Nat) : Int) : Int).toNat).drop (t264 : Int).toNat) c).bind fun t285 => (some t285)) else (none)) else (none)) else (some false))) else (none)) else (none)))) (fun k => ?_) (Ev.bind hs ?_)
  ·rw [spec_l4Says.f, w1, w2, if_pos (by omega), if_pos (by omega), rdMk, d2, if_neg g0]
  ·simp only [if_pos (show 0 ≤ (((flat a).length : Nat) : Int) by omega), if_pos (show (((flat a).length : Nat) : Int) ≤ (xs.length : Int) by omega), if_pos (show (((flat a).length : Nat) : Int) ≤ ((0 + (flat a).length + (flat b).length : Nat) : Int) by omega), if_pos (show ((0 + (flat a).length + (flat b).length : Nat) : Int) ≤ (xs.length : Int) by omega), ta, tb]
   rw [val]
   by_cases g2 : m.f0 = 2
   ·simp only [if_pos g2]
    refine Ev.bind va ?_
    cases val H c a with
    | true => simp only [if_true, Bool.true_or]; exact Ev.now _
    | false => simp only [Bool.false_eq_true, if_false, Bool.false_or]; exact Ev.bind vb (Ev.now _)
   ·simp only [if_neg g2]
    refine Ev.bind va ?_
    cases val H c a with
    | true => simp only [if_true, Bool.true_and]; exact Ev.bind vb (Ev.now _)
    | false => simp only [Bool.false_eq_true, if_false, Bool.false_and]; exact Ev.now _
theorem l4Says_ev (ms : List S61) (ht : TmB p H ms = true) (h0 : 0 ≤ c) (h1 : c < 64) : Ev (fun k => spec_l4Says.f k p H ms c) (saysB H c ms) := by
 unfold TmB at ht
 simp only [Bool.and_eq_true, decide_eq_true_eq] at ht
 obtain ⟨hH, hl, hf⟩ := ht
 obtain ⟨t, t1, t2, t3⟩ := ps_ok H ms [] (by simpa using hf) (by simp)
 have t3 : flat t = ms := by simpa [flats] using t3
 have hv : saysB H c ms = val H c t := by unfold saysB; rw [t1]
 rw [hv, ← t3]
 exact says_tree p H c hH h0 h1 t t2 (by rw [t3]; omega)
end

theorem wrap_le (x : Int) : wrap64 x ≤ 9223372036854775807 := by unfold wrap64; omega
def SmallH (H : List Int) : Prop := H.length ≤ 6 ∧ ∀ c ∈ H, c ≤ 9223372036854775807
section
variable {s : List Int} (hs : ∀ x ∈ s, (Lit.int .u8 x).wf = true) (hl : s.length ≤ 2000)
include hs hl
theorem house_l0 (n p : Int) (hp : 0 ≤ p) : ∀ (m : Nat) (H : List Int) (q : Int), H.length + m ≤ 5 → (∀ c ∈ H, c ≤ 9223372036854775807) → 0 ≤ q → q + m ≤ 100000 → ∃ p2 H2 q2, Ev (fun k => spec_l20House.l0 k n (m : Int) s q p H) (p2, H2, q2) ∧ SmallH H2 ∧ 0 ≤ q2 ∧ q2 ≤ q + m + 10 := by
 intro m
 induction m with
 | zero =>
  intro H q hH hc h0 hq
  obtain ⟨o, q1, e1, b1, b2, _⟩ := odd_ev hs hl q n h0 (by omega)
  have st : ∀ k, spec_l20House.l0 (k + 1) n ((0 : Nat) : Int) s q p H = _ := fun k => by rw [spec_l20House.l0, if_neg (by omega)]
  cases o with
  | false => exact ⟨p, H, q1, Ev.step st (Ev.bind e1 (by simp only [Bool.false_eq_true, if_false]; exact Ev.now _)), ⟨by omega, hc⟩, by omega, by omega⟩
  | true =>
   obtain ⟨r2, e2, c0, c1, _⟩ := pick_ev hs hl q1 3 (by omega) (by omega)
   by_cases g0 : r2 = 0
   ·obtain ⟨r3, e3, d0, d1, _⟩ := pick_ev hs hl (q1 + 1) 2 (by omega) (by omega)
    have d1 := d1 (by decide)
    refine ⟨rd [0, 7] r3, H, q1 + 1 + 1, Ev.step st (Ev.bind e1 (by simp only [if_true]; exact Ev.bind e2 (by simp only [if_pos g0, Option.bind_some]; exact Ev.bind e3 (by simp only [if_pos d0, if_pos (show r3 < (([0, 7] : List Int).length : Int) by simpa using d1)]; exact Ev.now _)))), ⟨by omega, hc⟩, by omega, by omega⟩
   by_cases g1 : r2 = 1
   ·refine ⟨p, H ++ [0], q1 + 1, Ev.step st (Ev.bind e1 (by simp only [if_true]; exact Ev.bind e2 (by simp only [if_neg g0, if_pos g1, if_pos (show H.length < 17592186044416 by omega)]; exact Ev.now _))), ⟨by simp; omega, fun c hm => ?_⟩, by omega, by omega⟩
    rcases List.mem_append.1 hm with hm | hm
    ·exact hc c hm
    ·have : c = 0 := by simpa using hm
     omega
   ·exact ⟨p, [], q1 + 1, Ev.step st (Ev.bind e1 (by simp only [if_true]; exact Ev.bind e2 (by simp only [if_neg g0, if_neg g1]; exact Ev.now _))), ⟨by simp, by simp⟩, by omega, by omega⟩
 | succ m ih =>
  intro H q hH hc h0 hq
  have w : Unit → wrap64 (((m + 1 : Nat) : Int) - 1) = (m : Int) := fun _ => by rw [wz (by omega) (by omega)]; omega
  obtain ⟨r1, e1, _⟩ := pick_ev hs hl q (wrap64 ((shl .i64 1 p) - 1)) h0 (by omega)
  have hc2 : ∀ c ∈ H ++ [wrap64 (1 + r1)], c ≤ 9223372036854775807 := by
   intro c hm
   rcases List.mem_append.1 hm with hm | hm
   ·exact hc c hm
   ·have e : c = wrap64 (1 + r1) := by simpa using hm
    rw [e]
    exact wrap_le _
  obtain ⟨p2, H2, q2, e, g1, g2, g3⟩ := ih (H ++ [wrap64 (1 + r1)]) (q + 1) (by simp; omega) hc2 (by omega) (by omega)
  refine ⟨p2, H2, q2, Ev.step (fun k => by rw [spec_l20House.l0, if_pos (by omega), if_pos hp]) (Ev.bind e1 ?_), g1, g2, by omega⟩
  simp only [if_pos (show H.length < 17592186044416 by omega), w ()]
  exact e
theorem house_ev (q n : Int) (h0 : 0 ≤ q) (hq : q ≤ 90000) : ∃ p2 H2 q2, Ev (fun k => spec_l20House.f k s q n) (p2, H2, q2) ∧ SmallH H2 ∧ 0 ≤ q2 ∧ q2 ≤ q + 20 := by
 obtain ⟨r0, e0, a0, a1, _⟩ := pick_ev hs hl q 5 h0 (by omega)
 have a1 := a1 (by decide)
 obtain ⟨r1, e1, b0, b1, _⟩ := pick_ev hs hl (q + 1) 9 (by omega) (by omega)
 have b1 := b1 (by decide)
 obtain ⟨r2, e2, c0, c1, _⟩ := pick_ev hs hl (q + 1 + 1) 3 (by omega) (by omega)
 have c1 := c1 (by decide)
 obtain ⟨m, hm⟩ := Int.eq_ofNat_of_zero_le (show 0 ≤ 1 + r2 by omega)
 have hd : Int.tdiv r1 8 = r1 / 8 := Int.tdiv_eq_ediv_of_nonneg b0
 have hP : 0 ≤ wrap64 ((wrap64 (1 + r0)) + (wrap64 (Int.tdiv r1 8))) := by
  rw [hd, wz (x := 1 + r0) (by omega) (by omega), wz (x := r1 / 8) (by omega) (by omega), wz (by omega) (by omega)]
  omega
 obtain ⟨p2, H2, q2, e, g1, g2, g3⟩ := house_l0 hs hl n _ hP m [] (q + 1 + 1 + 1) (by simp; omega) (by simp) (by omega) (by omega)
 refine ⟨p2, H2, q2, ?_, g1, g2, by omega⟩
 have w : wrap64 (1 + r2) = (m : Int) := by rw [wz (by omega) (by omega)]; exact hm
 unfold spec_l20House.f
 refine Ev.bind e0 (Ev.bind e1 (Ev.bind e2 ?_))
 simp only [w]
 exact e
end

theorem alive_eq : laws_alive.f = some true := by decide +kernel

theorem rdMM (xs : List (List S61)) (i : Nat) : rd_L5 xs (i : Int) = xs.getD i [] := by simp [rd_L5]
theorem getMM {X : List (List S61)} {B : Nat} (h : ∀ r ∈ X, r.length ≤ B) (i : Nat) : (X.getD i []).length ≤ B := by
 rw [List.getD_eq_getElem?_getD]
 cases e : X[i]? with
 | none => simp
 | some x => exact h x (List.mem_of_getElem? e)
theorem w12 (i : Nat) (h : i ≤ 1000) : wrap64 ((i : Int) + 1) = ((i + 1 : Nat) : Int) ∧ wrap64 ((i : Int) + 2) = ((i + 2 : Nat) : Int) := ⟨by rw [wz (by omega) (by omega)]; omega, by rw [wz (by omega) (by omega)]; omega⟩
theorem pow_step (B m : Nat) (hp : (B + 1) * 2 ^ (m + 1) ≤ 1000) : B ≤ 1000 ∧ (2 * B + 1 + 1) * 2 ^ m ≤ 1000 := by
 have e : (B + 1) * 2 ^ (m + 1) = (2 * B + 1 + 1) * 2 ^ m := by
  rw [Nat.pow_succ, Nat.mul_comm (2 ^ m) 2, ← Nat.mul_assoc]
  congr 1
  omega
 rw [e] at hp
 have h2 : (2 * B + 1 + 1) * 1 ≤ (2 * B + 1 + 1) * 2 ^ m := Nat.mul_le_mul_left _ Nat.one_le_two_pow
 have h3 := Nat.le_trans h2 hp
 rw [Nat.mul_one] at h3
 exact ⟨by clear e h2 hp; omega, hp⟩
theorem Ev_if {α : Type} {c : Prop} [Decidable c] {A B : Nat → Option α} {r : α} (h : c) (e : Ev A r) : Ev (fun k => if c then A k else B k) r := by
 obtain ⟨K, hK⟩ := e
 exact ⟨K, fun k hk => (if_pos h).trans (hK k hk)⟩
theorem term_merge {s : List Int} (X : List (List S61)) (i : Nat) (hi : i + 1 < X.length) (hX : X.length ≤ 100) (B : Nat) (hb : B ≤ 1000) (hB : ∀ r ∈ X, r.length ≤ B) (q r2 : Int) (e1 : Ev (fun k => spec_l20Rd_pick.f k s q ((X.length : Int) - 1)) ((i : Int), q + 1)) (e2 : Ev (fun k => spec_l20Rd_pick.f k s (q + 1) 2) (r2, q + 1 + 1)) (both : List S61) (hboth : both = X.getD i [] ++ X.getD (i + 1) [] ++ [(⟨wrap64 (1 + r2), 0, 0⟩ : S61)]) {res : List S61 × Int} (e3 : Ev (fun k => spec_l20Term.l1 k (X.take i ++ [both] ++ X.drop (i + 2)) s (q + 1 + 1)) res) : Ev (fun k => spec_l20Term.l1 k X s q) res := by
 have ga := getMM hB i
 have gb := getMM hB (i + 1)
 have c0 : (X.length : Int) > 1 := by omega
 have c1 : (0 : Int) ≤ (i : Int) := by omega
 have c2 : (i : Int) < (X.length : Int) := by omega
 have c3 : (X.getD i []).length < 5864062014805 := by omega
 have c4 : (0 : Int) ≤ ((i + 1 : Nat) : Int) := by omega
 have c5 : ((i + 1 : Nat) : Int) < (X.length : Int) := by omega
 have c6 : (X.getD i []).length + (X.getD (i + 1) []).length < 5864062014805 := by omega
 have d1 : (X.getD i [] ++ X.getD (i + 1) []).length < 5864062014805 := by rw [List.length_append]; exact c6
 have d2 : (i : Int) ≤ (X.length : Int) := by omega
 have d3 : (X.take i).length < 5864062014805 := by rw [List.length_take]; omega
 have d4 : (0 : Int) ≤ ((i + 2 : Nat) : Int) := by omega
 have d5 : ((i + 2 : Nat) : Int) ≤ (X.length : Int) := by omega
 have d6 : (X.take i ++ [both]).length + (X.drop (i + 2)).length < 5864062014805 := by
  simp only [List.length_append, List.length_cons, List.length_nil, List.length_take, List.length_drop]
  omega
 have b1 : -9223372036854775808 ≤ (X.length : Int) - 1 := by omega
 have b2 : (X.length : Int) - 1 ≤ 9223372036854775807 := by omega
 have b3 : i ≤ 1000 := by omega
 have wl : wrap64 ((X.length : Int) - 1) = (X.length : Int) - 1 := wz b1 b2
 have w12 := w12 i b3
 have g0 : rd_L5 X (i : Int) = X.getD i [] := rdMM X i
 have g1 : rd_L5 X (wrap64 ((i : Int) + 1)) = X.getD (i + 1) [] := by rw [w12.1, rdMM]
 have n1 : ([] : List S61).length + (rd_L5 X (i : Int)).length < 5864062014805 := by rw [g0, List.length_nil, Nat.zero_add]; exact c3
 have n2 : 0 ≤ wrap64 ((i : Int) + 1) := by rw [w12.1]; exact c4
 have n3 : wrap64 ((i : Int) + 1) < (X.length : Int) := by rw [w12.1]; exact c5
 have n4 : (([] : List S61) ++ rd_L5 X (i : Int)).length + (rd_L5 X (wrap64 ((i : Int) + 1))).length < 5864062014805 := by rw [g0, g1, List.nil_append]; exact c6
 have n5 : (([] : List S61) ++ rd_L5 X (i : Int) ++ rd_L5 X (wrap64 ((i : Int) + 1))).length < 5864062014805 := by rw [g0, g1, List.nil_append]; exact d1
 have n7 : ([] : List (List S61)).length + (X.take (i : Int).toNat).length < 5864062014805 := by rw [List.length_nil, Nat.zero_add, Int.toNat_natCast]; exact d3
 have n8 : (([] : List (List S61)) ++ X.take (i : Int).toNat).length < 5864062014805 := by rw [List.nil_append, Int.toNat_natCast]; exact d3
 have n9 : 0 ≤ wrap64 ((i : Int) + 2) := by rw [w12.2]; exact d4
 have n10 : wrap64 ((i : Int) + 2) ≤ (X.length : Int) := by rw [w12.2]; exact d5
 have fin : ([] : List (List S61)) ++ X.take (i : Int).toNat ++ [(([] : List S61) ++ rd_L5 X (i : Int) ++ rd_L5 X (wrap64 ((i : Int) + 1)) ++ [(⟨wrap64 (1 + r2), 0, 0⟩ : S61)])] = X.take i ++ [both] := by rw [g0, g1, List.nil_append, List.nil_append, Int.toNat_natCast, ← hboth]
 have fd : X.drop (wrap64 ((i : Int) + 2)).toNat = X.drop (i + 2) := by rw [w12.2, Int.toNat_natCast]
 have n11 : (([] : List (List S61)) ++ X.take (i : Int).toNat ++ [(([] : List S61) ++ rd_L5 X (i : Int) ++ rd_L5 X (wrap64 ((i : Int) + 1)) ++ [(⟨wrap64 (1 + r2), 0, 0⟩ : S61)])]).length + (X.drop (wrap64 ((i : Int) + 2)).toNat).length < 5864062014805 := by rw [fin, fd]; exact d6
 rw [← fin, ← fd] at e3
 refine Ev.step (f := fun k => (spec_l20Rd_pick.f k s q ((X.length : Int) - 1)).bind _) (fun k => by rw [spec_l20Term.l1, if_pos c0, wl]) (Ev.bind e1 ?_)
 exact Ev.bind (Ev.now _) (Ev_if c1 (Ev_if c2 (Ev_if n1 (Ev.bind (Ev.now _) (Ev_if n2 (Ev_if n3 (Ev_if n4 (Ev.bind (Ev.now _) (Ev.bind e2 (Ev_if n5 (Ev.bind (Ev.now _) (Ev_if d2 (Ev.bind (Ev.now _) (Ev_if n7 (Ev.bind (Ev.now _) (Ev_if n8 (Ev.bind (Ev.now _) (Ev_if n9 (Ev_if n10 (Ev.bind (Ev.now _) (Ev_if n11 e3)))))))))))))))))))))
section
variable {s : List Int} (hs : ∀ x ∈ s, (Lit.int .u8 x).wf = true) (hl : s.length ≤ 2000)
include hs hl
theorem term_l1 : ∀ (m : Nat) (X : List (List S61)) (q : Int) (B : Nat), X.length = m + 1 → m ≤ 10 → (∀ r ∈ X, r.length ≤ B) → (B + 1) * 2 ^ m ≤ 1000 → 0 ≤ q → q + 10 * m ≤ 90000 → ∃ ms q2, Ev (fun k => spec_l20Term.l1 k X s q) (ms, q2) ∧ ms.length ≤ 1000 ∧ 0 ≤ q2 ∧ q2 ≤ q + 10 * m := by
 intro m
 induction m with
 | zero =>
  intro X q B hX hm hB hp h0 hq
  have hb : B ≤ 1000 := by
   rw [Nat.pow_zero, Nat.mul_one] at hp
   omega
  clear hp
  have hg := getMM hB 0
  refine ⟨X.getD 0 [], q, Ev.step (fun k => ?_) (Ev.now _), by omega, h0, by omega⟩
  rw [spec_l20Term.l1, if_neg (by omega), if_pos (by omega), show rd_L5 X 0 = X.getD 0 [] from rdMM X 0]
 | succ m ih =>
  intro X q B hX hm hB hp h0 hq
  obtain ⟨hb, HP2⟩ := pow_step B m hp
  clear hp
  obtain ⟨r1, e1, a0, a1, _⟩ := pick_ev hs hl q ((X.length : Int) - 1) h0 (by omega)
  have a1 := a1 (by omega)
  obtain ⟨r2, e2, _⟩ := pick_ev hs hl (q + 1) 2 (by omega) (by omega)
  obtain ⟨i, rfl⟩ := Int.eq_ofNat_of_zero_le a0
  have hi : i + 1 < X.length := by omega
  obtain ⟨both, hboth⟩ : ∃ b, b = X.getD i [] ++ X.getD (i + 1) [] ++ [(⟨wrap64 (1 + r2), 0, 0⟩ : S61)] := ⟨_, rfl⟩
  have ga := getMM hB i
  have gb := getMM hB (i + 1)
  have hbl : both.length ≤ 2 * B + 1 := by rw [hboth]; simp only [List.length_append, List.length_cons, List.length_nil]; omega
  have hY : (X.take i ++ [both] ++ X.drop (i + 2)).length = m + 1 := by simp only [List.length_append, List.length_cons, List.length_nil, List.length_take, List.length_drop]; omega
  have hYB : ∀ r ∈ X.take i ++ [both] ++ X.drop (i + 2), r.length ≤ 2 * B + 1 := by
   intro r hr
   rcases List.mem_append.1 hr with g | g
   ·rcases List.mem_append.1 g with g | g
    ·have := hB r (List.mem_of_mem_take g); omega
    ·have : r = both := by simpa using g
     rw [this]; exact hbl
   ·have := hB r (List.mem_of_mem_drop g); omega
  obtain ⟨ms, q2, e3, g1, g2, g3⟩ := ih _ (q + 1 + 1) (2 * B + 1) hY (by omega) hYB HP2 (by omega) (by omega)
  exact ⟨ms, q2, term_merge X i hi (by omega) B hb hB q r2 e1 e2 both hboth e3, g1, g2, by omega⟩
theorem term_l0 (p : Int) (H : List Int) (hH : SmallH H) (hH1 : 1 ≤ H.length) : ∀ (m : Nat) (X : List (List S61)) (q : Int), 1 ≤ X.length + m → X.length + m ≤ 4 → (∀ r ∈ X, r.length ≤ 1) → 0 ≤ q → q + 10 * m ≤ 80000 → ∃ ms q2, Ev (fun k => spec_l20Term.l0 k X (m : Int) s q p H) (ms, q2) ∧ ms.length ≤ 1000 ∧ 0 ≤ q2 ∧ q2 ≤ q + 10 * m + 40 := by
 intro m
 induction m with
 | zero =>
  intro X q h1 h4 hX h0 hq
  obtain ⟨ms, q2, e, g1, g2, g3⟩ := term_l1 hs hl (X.length - 1) X q 1 (by omega) (by omega) hX (by
   have : X.length - 1 = 0 ∨ X.length - 1 = 1 ∨ X.length - 1 = 2 ∨ X.length - 1 = 3 := by omega
   rcases this with h | h | h | h <;> rw [h] <;> decide) h0 (by omega)
  exact ⟨ms, q2, Ev.step (fun k => by rw [spec_l20Term.l0, if_neg (by omega)]) e, g1, g2, by omega⟩
 | succ m ih =>
  intro X q h1 h4 hX h0 hq
  obtain ⟨r0, e0, a0, a1, _⟩ := pick_ev hs hl q (H.length : Int) h0 (by omega)
  have a1 := a1 (by omega)
  have hm : rd H r0 ∈ H := by
   obtain ⟨i, rfl⟩ := Int.eq_ofNat_of_zero_le a0
   rw [rdn, List.getD_eq_getElem?_getD, List.getElem?_eq_getElem (show i < H.length by omega)]
   exact List.getElem_mem _
  have hmx : mx (rd H r0) 0 ≤ 9223372036854775807 := by
   have := hH.2 _ hm
   unfold mx
   split <;> omega
  have eh := spec_heads_ev _ hmx
  obtain ⟨r1, e1, _⟩ := pick_ev hs hl (q + 1) (mx (hdI (mx (rd H r0) 0)) 1) (by omega) (by omega)
  have hX2 : ∀ r ∈ X ++ [[(⟨0, r0, wrap64 (1 + r1)⟩ : S61)]], r.length ≤ 1 := by
   intro r hr
   rcases List.mem_append.1 hr with g | g
   ·exact hX r g
   ·have : r = [(⟨0, r0, wrap64 (1 + r1)⟩ : S61)] := by simpa using g
    rw [this]; simp
  obtain ⟨ms, q2, e2, g1, g2, g3⟩ := ih (X ++ [[⟨0, r0, wrap64 (1 + r1)⟩]]) (q + 1 + 1) (by simp; omega) (by simp; omega) hX2 (by omega) (by omega)
  have WM := Aside0.mk (show wrap64 (((m + 1 : Nat) : Int) - 1) = (m : Int) by rw [wz (by omega) (by omega)]; omega)
  refine ⟨ms, q2, Ev.step (f := fun k => (spec_l20Rd_pick.f k s q (H.length : Int)).bind _) (fun k => by rw [spec_l20Term.l0, if_pos (by omega), WM.out]) (Ev.bind e0 ?_), g1, g2, by omega⟩
  simp only [if_pos a0, if_pos a1]
  refine Ev.bind eh (Ev.bind e1 ?_)
  simp only [if_pos (show X.length < 5864062014805 by omega)]
  exact e2
theorem term_ev (q p n : Int) (H : List Int) (hH : SmallH H) (h0 : 0 ≤ q) (hq : q ≤ 10000) : ∃ ms q2, Ev (fun k => spec_l20Term.f k s q p H n) (ms, q2) ∧ ms.length ≤ 1000 ∧ 0 ≤ q2 ∧ q2 ≤ q + 100 := by
 have bad (q1 : Int) (b0 : 0 ≤ q1) (b1 : q1 ≤ q + 1) : ∃ ms q2, Ev (fun k => spec_l20Term.j0 k true s q1 p H) (ms, q2) ∧ ms.length ≤ 1000 ∧ 0 ≤ q2 ∧ q2 ≤ q + 100 := by
  obtain ⟨r, e, a0, a1, _⟩ := pick_ev hs hl q1 4 b0 (by omega)
  have a1 := a1 (by decide)
  obtain ⟨Y, hY⟩ : ∃ Y, Y = [([] : List S61), [(⟨1, 0, 0⟩ : S61)], [(⟨0, 3, 7⟩ : S61)], [(⟨0, 0, 1⟩ : S61), (⟨0, 0, 1⟩ : S61)]] := ⟨_, rfl⟩
  have hYl : (Y.length : Int) = 4 := by rw [hY]; rfl
  have hYB : ∀ r ∈ Y, r.length ≤ 2 := by rw [hY]; simp
  obtain ⟨i, rfl⟩ := Int.eq_ofNat_of_zero_le a0
  have hg := getMM hYB i
  refine ⟨Y.getD i [], q1 + 1, Ev.step (f := fun k => (some Y).bind _) (fun k => by rw [spec_l20Term.j0, if_pos rfl, hY]) ?_, by omega, by omega, by omega⟩
  simp only [Option.bind_some]
  refine Ev.bind e ?_
  simp only [if_pos (show (0 : Int) ≤ (i : Int) by omega), if_pos (show (i : Int) < (Y.length : Int) by omega), rdMM]
  exact Ev.now _
 unfold spec_l20Term.f
 by_cases hz : (H.length : Int) = 0
 ·obtain ⟨ms, q2, e, g⟩ := bad q h0 (by omega)
  exact ⟨ms, q2, by simp only [if_pos hz]; exact e, g⟩
 simp only [if_neg hz]
 obtain ⟨o, q1, e1, b1, b2, _⟩ := odd_ev hs hl q n h0 (by omega)
 cases o with
 | true =>
  obtain ⟨ms, q2, e, g⟩ := bad q1 (by omega) b2
  exact ⟨ms, q2, Ev.bind e1 e, g⟩
 | false =>
  obtain ⟨r, e2, a0, a1, _⟩ := pick_ev hs hl q1 4 (by omega) (by omega)
  have a1 := a1 (by decide)
  obtain ⟨m, hm⟩ := Int.eq_ofNat_of_zero_le (show 0 ≤ 1 + r by omega)
  obtain ⟨ms, q2, e3, g1, g2, g3⟩ := term_l0 hs hl p H hH (by omega) m [] (q1 + 1) (by simp; omega) (by simp; omega) (by simp) (by omega) (by omega)
  have W := Aside0.mk (show wrap64 (1 + r) = (m : Int) by rw [wz (by omega) (by omega)]; exact hm)
  refine ⟨ms, q2, Ev.bind e1 (show Ev (fun k => spec_l20Term.j0 k false s q1 p H) _ from Ev.step (f := fun k => (spec_l20Rd_pick.f k s q1 4).bind _) (fun k => by rw [spec_l20Term.j0, if_neg (by decide)]) (Ev.bind e2 ?_)), g1, g2, by omega⟩
  simp only [W.out]
  exact e3
theorem termed_ev (q n : Int) (h0 : 0 ≤ q) (hq : q ≤ 1000) : ∃ p H ms q2, Ev (fun k => spec_l20Termed.f k s q n) (p, H, ms, q2) ∧ SmallH H ∧ ms.length ≤ 1000 ∧ 0 ≤ q2 ∧ q2 ≤ q + 200 := by
 obtain ⟨p, H, q1, e0, hH, a1, a2⟩ := house_ev hs hl q 20 h0 (by omega)
 obtain ⟨ms, q2, e1, g1, g2, g3⟩ := term_ev hs hl q1 p n H hH a1 (by omega)
 refine ⟨p, H, ms, q2, ?_, hH, g1, g2, by omega⟩
 unfold spec_l20Termed.f
 exact Ev.bind e0 (Ev.bind e1 (Ev.now _))
end

theorem TmB_len {p : Int} {H : List Int} {ms : List S61} (h : TmB p H ms = true) : ms.length ≤ 9 ∧ HsB p H = true := by
 unfold TmB at h
 simp only [Bool.and_eq_true, decide_eq_true_eq] at h
 exact ⟨by omega, h.1⟩

def inB (c : Int) (i : Nat) : Bool := decide (c / 2 ^ i % 2 = 1)
def C6 (a : Int) : Prop := 0 ≤ a ∧ a < 64
theorem C6.fin {a : Int} (h : C6 a) : ∃ n : Fin 64, a = (n.val : Int) := by
 obtain ⟨n, rfl⟩ := Int.eq_ofNat_of_zero_le h.1
 have := h.2
 exact ⟨⟨n, by omega⟩, rfl⟩
def all6 (f : Nat → Bool) : Bool := f 0 && (f 1 && (f 2 && (f 3 && (f 4 && f 5))))
theorem all6_iff (f : Nat → Bool) : all6 f = true ↔ ∀ i, i < 6 → f i = true := by
 unfold all6
 simp only [Bool.and_eq_true]
 constructor
 ·rintro ⟨h0, h1, h2, h3, h4, h5⟩ i hi
  have : i = 0 ∨ i = 1 ∨ i = 2 ∨ i = 3 ∨ i = 4 ∨ i = 5 := by omega
  rcases this with rfl | rfl | rfl | rfl | rfl | rfl <;> assumption
 ·intro h
  exact ⟨h 0 (by decide), h 1 (by decide), h 2 (by decide), h 3 (by decide), h 4 (by decide), h 5 (by decide)⟩
def cnt6 (f : Nat → Bool) : Int := (f 0).toInt + (f 1).toInt + (f 2).toInt + (f 3).toInt + (f 4).toInt + (f 5).toInt
theorem fin_andNot : ∀ a b : Fin 64, (Go.bits .andNot .i64 (a.val : Int) (b.val : Int) == 0) = all6 (fun i => !inB (a.val : Int) i || inB (b.val : Int) i) := by decide +kernel
theorem fin_and0 : ∀ a b : Fin 64, (Go.bits .and .i64 (a.val : Int) (b.val : Int) == 0) = all6 (fun i => !inB (a.val : Int) i || !inB (b.val : Int) i) := by decide +kernel
theorem fin_le : ∀ a b : Fin 64, all6 (fun i => !inB (a.val : Int) i || inB (b.val : Int) i) = true → (a.val : Int) ≤ (b.val : Int) := by decide +kernel
theorem fin_hd : ∀ a b : Fin 64, hdI (Go.bits .and .i64 (a.val : Int) (b.val : Int)) = cnt6 (fun i => inB (a.val : Int) i && inB (b.val : Int) i) := by decide +kernel
theorem fin_high : ∀ (p : Fin 7) (a : Fin 64) (i : Fin 6), (a.val : Int) < 2 ^ p.val → p.val ≤ i.val → inB (a.val : Int) i.val = false := by decide +kernel
theorem fin_co : ∀ (p : Fin 7) (a : Fin 64) (i : Fin 6), (a.val : Int) < 2 ^ p.val → inB (2 ^ p.val - 1 - (a.val : Int)) i.val = (decide (i.val < p.val) && !inB (a.val : Int) i.val) := by decide +kernel
theorem fin_xor : ∀ (p : Fin 7) (a : Fin 64), (a.val : Int) < 2 ^ p.val → Go.bits .xor .i64 (2 ^ p.val - 1) (a.val : Int) = 2 ^ p.val - 1 - (a.val : Int) := by decide +kernel
def Le (a b : Int) : Prop := ∀ i, i < 6 → inB a i = true → inB b i = true
theorem Le.rfl' (a : Int) : Le a a := fun _ _ h => h
theorem Le.trans {a b c : Int} (h : Le a b) (g : Le b c) : Le a c := fun i hi x => g i hi (h i hi x)
theorem imp_all {a b : Int} : all6 (fun i => !inB a i || inB b i) = true ↔ Le a b := by
 rw [all6_iff]
 unfold Le
 constructor
 ·intro h i hi x
  have := h i hi
  rw [x] at this
  simpa using this
 ·intro h i hi
  cases x : inB a i with
  | false => rfl
  | true => rw [h i hi x]; rfl
theorem andNot_iff {a b : Int} (ha : C6 a) (hb : C6 b) : (Go.bits .andNot .i64 a b == 0) = true ↔ Le a b := by
 obtain ⟨a, rfl⟩ := ha.fin
 obtain ⟨b, rfl⟩ := hb.fin
 rw [fin_andNot, imp_all]
theorem Le.le {a b : Int} (ha : C6 a) (hb : C6 b) (h : Le a b) : a ≤ b := by
 obtain ⟨a, rfl⟩ := ha.fin
 obtain ⟨b, rfl⟩ := hb.fin
 exact fin_le a b (imp_all.2 h)
theorem and0_iff {a b : Int} (ha : C6 a) (hb : C6 b) : Go.bits .and .i64 a b = 0 ↔ ∀ i, i < 6 → inB a i = true → inB b i = false := by
 obtain ⟨a, rfl⟩ := ha.fin
 obtain ⟨b, rfl⟩ := hb.fin
 have e := fin_and0 a b
 rw [← beq_iff_eq (a := Go.bits .and .i64 (a.val : Int) (b.val : Int)), e, all6_iff]
 constructor
 ·intro h i hi x
  have := h i hi
  rw [x] at this
  simpa using this
 ·intro h i hi
  cases x : inB (a.val : Int) i with
  | false => rfl
  | true => rw [h i hi x]; rfl
theorem hd_and {a b : Int} (ha : C6 a) (hb : C6 b) : hdI (Go.bits .and .i64 a b) = cnt6 (fun i => inB a i && inB b i) := by
 obtain ⟨a, rfl⟩ := ha.fin
 obtain ⟨b, rfl⟩ := hb.fin
 exact fin_hd a b
theorem cnt6_mono {f g : Nat → Bool} (h : ∀ i, i < 6 → f i = true → g i = true) : cnt6 f ≤ cnt6 g := by
 have e (i : Nat) (hi : i < 6) : (f i).toInt ≤ (g i).toInt := by
  cases x : f i with
  | false => cases g i <;> decide
  | true => rw [h i hi x]; exact Int.le_refl _
 have e0 := e 0 (by decide)
 have e1 := e 1 (by decide)
 have e2 := e 2 (by decide)
 have e3 := e 3 (by decide)
 have e4 := e 4 (by decide)
 have e5 := e 5 (by decide)
 unfold cnt6
 omega
theorem Le.Sub {c d : Int} (hc : C6 c) (hd : C6 d) (h : Le c d) {B : Int} (hB : C6 B) : hdI (Go.bits .and .i64 B c) ≤ hdI (Go.bits .and .i64 B d) := by
 rw [hd_and hB hc, hd_and hB hd]
 refine cnt6_mono fun i hi x => ?_
 rw [Bool.and_eq_true] at x ⊢
 exact ⟨x.1, h i hi x.2⟩
theorem co_range {p c : Int} (a : 0 ≤ c) (b : c < 2 ^ p.toNat) : 0 ≤ 2 ^ p.toNat - 1 - c ∧ 2 ^ p.toNat - 1 - c < 2 ^ p.toNat := by omega
section
variable {p : Int} (h0 : 1 ≤ p) (h1 : p ≤ 6)
include h0 h1
theorem p_nat : ∃ n : Fin 7, p.toNat = n.val := ⟨⟨p.toNat, by omega⟩, rfl⟩
theorem c6_of {c : Int} (a : 0 ≤ c) (b : c < 2 ^ p.toNat) : C6 c := ⟨a, by have := pow_small h0 h1; omega⟩
theorem co_in {c : Int} (a : 0 ≤ c) (b : c < 2 ^ p.toNat) {i : Nat} (hi : i < 6) : inB (2 ^ p.toNat - 1 - c) i = (decide (i < p.toNat) && !inB c i) := by
 obtain ⟨n, hn⟩ := p_nat h0 h1
 obtain ⟨m, rfl⟩ := (c6_of h0 h1 a b).fin
 rw [hn] at b ⊢
 exact fin_co n m ⟨i, hi⟩ b
theorem in_high {c : Int} (a : 0 ≤ c) (b : c < 2 ^ p.toNat) {i : Nat} (hi : i < 6) (h : inB c i = true) : i < p.toNat := by
 obtain ⟨n, hn⟩ := p_nat h0 h1
 obtain ⟨m, rfl⟩ := (c6_of h0 h1 a b).fin
 rw [hn] at b ⊢
 rcases Nat.lt_or_ge i n.val with g | g
 ·exact g
 ·rw [fin_high n m ⟨i, hi⟩ b g] at h
  cases h
theorem xor_co {c : Int} (a : 0 ≤ c) (b : c < 2 ^ p.toNat) : Go.bits .xor .i64 (2 ^ p.toNat - 1) c = 2 ^ p.toNat - 1 - c := by
 obtain ⟨n, hn⟩ := p_nat h0 h1
 obtain ⟨m, rfl⟩ := (c6_of h0 h1 a b).fin
 rw [hn] at b ⊢
 exact fin_xor n m b
theorem apart_iff {x y : Int} (x0 : 0 ≤ x) (x1 : x < 2 ^ p.toNat) (y0 : 0 ≤ y) (y1 : y < 2 ^ p.toNat) : Go.bits .and .i64 x y = 0 ↔ Le y (2 ^ p.toNat - 1 - x) := by
 rw [and0_iff (c6_of h0 h1 x0 x1) (c6_of h0 h1 y0 y1)]
 unfold Le
 constructor
 ·intro h i hi hy
  rw [co_in h0 h1 x0 x1 hi, decide_eq_true (in_high h0 h1 y0 y1 hi hy), Bool.true_and]
  cases hx : inB x i with
  | false => rfl
  | true => rw [h i hi hx] at hy; cases hy
 ·intro h i hi hx
  cases hy : inB y i with
  | false => rfl
  | true =>
   have := h i hi hy
   rw [co_in h0 h1 x0 x1 hi, hx] at this
   simp at this
end

def allF (S : Int → Bool) : Nat → Int → List Int
 | 0, _ => []
 | n + 1, c => if S c = true then c :: allF S n (c + 1) else allF S n (c + 1)
theorem mem_allF {S : Int → Bool} {x : Int} : ∀ {n : Nat} {c : Int}, x ∈ allF S n c ↔ c ≤ x ∧ x < c + n ∧ S x = true := by
 intro n
 induction n with
 | zero => intro c; simp only [allF, List.not_mem_nil, false_iff]; omega
 | succ n ih =>
  intro c
  rw [allF]
  by_cases h : S c = true
  ·rw [if_pos h, List.mem_cons, ih]
   constructor
   ·rintro (rfl | ⟨a, b, d⟩)
    ·exact ⟨by omega, by omega, h⟩
    ·exact ⟨by omega, by omega, d⟩
   ·rintro ⟨a, b, d⟩
    by_cases e : x = c
    ·exact .inl e
    ·exact .inr ⟨by omega, by omega, d⟩
  ·rw [if_neg h, ih]
   constructor
   ·rintro ⟨a, b, d⟩
    exact ⟨by omega, by omega, d⟩
   ·rintro ⟨a, b, d⟩
    refine ⟨?_, by omega, d⟩
    by_cases e : x = c
    ·rw [e] at d; exact absurd d h
    ·omega
theorem pw_allF (S : Int → Bool) : ∀ (n : Nat) (c : Int), (allF S n c).Pairwise (· < ·) := by
 intro n
 induction n with
 | zero => intro c; exact List.Pairwise.nil
 | succ n ih =>
  intro c
  rw [allF]
  split
  ·exact List.Pairwise.cons (fun x hx => by have := (mem_allF.1 hx).1; omega) (ih _)
  ·exact ih _
theorem len_asc : ∀ (l : List Int) (a : Int) (n : Nat), l.Pairwise (· < ·) → (∀ x ∈ l, a ≤ x ∧ x < a + n) → l.length ≤ n := by
 intro l
 induction l with
 | nil => intro a n _ _; exact Nat.zero_le _
 | cons x l ih =>
  intro a n hp h
  have hx := h x (by simp)
  obtain ⟨m, rfl⟩ : ∃ m, n = m + 1 := ⟨n - 1, by omega⟩
  have := ih (a + 1) m (List.pairwise_cons.1 hp).2 (fun y hy => by
   have h1 := (List.pairwise_cons.1 hp).1 y hy
   have h2 := h y (by simp [hy])
   omega)
  simp only [List.length_cons]
  omega
def undB (A : List Int) (c : Int) : Bool := A.any (fun d => !decide (d = c) && (Go.bits .andNot .i64 d c == 0))
def leastF (S : Int → Bool) (M : Nat) : List Int := (allF S M 0).filter (fun c => !undB (allF S M 0) c)
section
variable {S : Int → Bool} {M : Nat} (hM : M ≤ 64)
include hM
theorem all_c6 {x : Int} (h : x ∈ allF S M 0) : C6 x := by
 have := mem_allF.1 h
 exact ⟨this.1, by omega⟩
theorem mem_least {x : Int} : x ∈ leastF S M ↔ (0 ≤ x ∧ x < M ∧ S x = true) ∧ ∀ d : Int, 0 ≤ d → d < M → S d = true → d ≠ x → ¬ Le d x := by
 unfold leastF
 rw [List.mem_filter]
 have e : (x ∈ allF S M 0) ↔ (0 ≤ x ∧ x < M ∧ S x = true) := by rw [mem_allF]; simp
 constructor
 ·rintro ⟨h1, h2⟩
  refine ⟨e.1 h1, fun d d0 d1 d2 d3 hl => ?_⟩
  have hd : d ∈ allF S M 0 := mem_allF.2 ⟨d0, by omega, d2⟩
  have : undB (allF S M 0) x = true := List.any_eq_true.2 ⟨d, hd, by
   rw [decide_eq_false d3, (andNot_iff (all_c6 hM hd) (all_c6 hM h1)).2 hl]
   rfl⟩
  rw [this] at h2
  cases h2
 ·rintro ⟨h1, h2⟩
  have hx := e.2 h1
  refine ⟨hx, ?_⟩
  cases hu : undB (allF S M 0) x with
  | false => rfl
  | true =>
   obtain ⟨d, hd, h3⟩ := List.any_eq_true.1 hu
   rw [Bool.and_eq_true] at h3
   have hd' := mem_allF.1 hd
   have hne : d ≠ x := by
    intro e
    rw [e] at h3
    simp at h3
   exact absurd ((andNot_iff (all_c6 hM hd) (all_c6 hM hx)).1 h3.2) (h2 d hd'.1 (by omega) hd'.2.2 hne)
theorem least_c6 {x : Int} (h : x ∈ leastF S M) : C6 x := all_c6 hM (List.mem_filter.1 h).1
theorem below : ∀ (n : Nat) (c : Int), c < n → 0 ≤ c → c < M → S c = true → ∃ x, x ∈ leastF S M ∧ Le x c := by
 intro n
 induction n with
 | zero => intro c h1 h2; omega
 | succ n ih =>
  intro c h1 h2 h3 h4
  by_cases h : c ∈ leastF S M
  ·exact ⟨c, h, Le.rfl' c⟩
  ·rw [mem_least hM] at h
   have h := fun q => h ⟨⟨h2, h3, h4⟩, q⟩
   have : ∃ d : Int, 0 ≤ d ∧ d < M ∧ S d = true ∧ d ≠ c ∧ Le d c := Classical.byContradiction fun g => h fun d d0 d1 d2 d3 d4 => g ⟨d, d0, d1, d2, d3, d4⟩
   obtain ⟨d, d0, d1, d2, d3, d4⟩ := this
   have hle := d4.le ⟨d0, by omega⟩ ⟨h2, by omega⟩
   obtain ⟨x, hx, hl⟩ := ih d (by omega) d0 d1 d2
   exact ⟨x, hx, hl.trans d4⟩
end
theorem pw_least (S : Int → Bool) (M : Nat) : (leastF S M).Pairwise (· < ·) := (pw_allF S M 0).filter _
theorem fin_half : ∀ a b : Fin 64, a.val < b.val → a.val / 2 = b.val / 2 → (Go.bits .andNot .i64 (a.val : Int) (b.val : Int) == 0) = true := by decide +kernel
theorem len_least (S : Int → Bool) {M : Nat} (hM : M ≤ 64) : (leastF S M).length ≤ 32 := by
 have hp : ((leastF S M).map (fun x => x / 2)).Pairwise (· < ·) := by
  rw [List.pairwise_map]
  refine (pw_least S M).imp_of_mem fun {a b} ha hb hab => ?_
  have ca := least_c6 hM ha
  have cb := least_c6 hM hb
  have ma := (mem_least hM).1 ha
  have mb := (mem_least hM).1 hb
  by_cases e : a / 2 = b / 2
  ·have hl : Le a b := by
    have cb' := cb
    obtain ⟨n, rfl⟩ := ca.fin
    obtain ⟨m, rfl⟩ := cb.fin
    exact (andNot_iff ca cb').1 (fin_half n m (by omega) (by omega))
   exact absurd hl (mb.2 a ma.1.1 ma.1.2.1 ma.1.2.2 (by omega))
  ·omega
 have := len_asc _ 0 32 hp (fun x hx => by
  obtain ⟨y, hy, rfl⟩ := List.mem_map.1 hx
  have := least_c6 hM hy
  unfold C6 at this
  omega)
 rwa [List.length_map] at this
theorem u64_small : ∀ n : Fin 64, IntKind.u64.wrap (n.val : Int) = (n.val : Int) := by decide +kernel
theorem less_eq (a b : Int) : cmp_Less_int.f a b = some (decide (a < b)) := by
 unfold cmp_Less_int.f cmp_isNaN_int.f
 simp
section
variable (l : List Int) (hp : l.Pairwise (· < ·)) (hl : l.length ≤ 49)
theorem asc_lt (hp : l.Pairwise (· < ·)) {i j : Nat} (h : i < j) (hj : j < l.length) : l.getD i 0 < l.getD j 0 := by
 rw [List.getD_eq_getElem?_getD, List.getElem?_eq_getElem (show i < l.length by omega), List.getD_eq_getElem?_getD, List.getElem?_eq_getElem hj]
 exact List.pairwise_iff_getElem.1 hp i j (by omega) hj h
theorem less_no (hp : l.Pairwise (· < ·)) {i j : Nat} (h : i < j) (hj : j < l.length) : cmp_Less_int.f (rd l (j : Int)) (rd l (i : Int)) = some false := by
 have := asc_lt l hp h hj
 rw [less_eq, rdn, rdn, decide_eq_false (by omega)]
theorem order2_eq (hp : l.Pairwise (· < ·)) {i j : Nat} (h : i < j) (hj : j < l.length) (s : List Int) : slices_order2Ordered_int.f l (i : Int) (j : Int) s = some ((i : Int), (j : Int)) := by
 unfold slices_order2Ordered_int.f
 rw [if_pos (by omega), if_pos (by omega), if_pos (by omega), if_pos (by omega), less_no l hp h hj, Option.bind_some, if_neg (by decide)]
theorem median_eq (hp : l.Pairwise (· < ·)) {i j k : Nat} (h : i < j) (h2 : j < k) (hk : k < l.length) (s : List Int) : slices_medianOrdered_int.f l (i : Int) (j : Int) (k : Int) s = some (j : Int) := by
 unfold slices_medianOrdered_int.f
 rw [order2_eq l hp h (by omega), Option.bind_some]
 show ((slices_order2Ordered_int.f l (j : Int) (k : Int) s).bind _) = _
 rw [order2_eq l hp h2 hk, Option.bind_some]
 show ((slices_order2Ordered_int.f l (i : Int) (j : Int) s).bind _) = _
 rw [order2_eq l hp h (by omega), Option.bind_some]
include hp hl
theorem ins_l0 : ∀ (d i : Nat), 1 ≤ i → i + d = l.length → Ev (fun k => slices_insertionSortOrdered_int.l0 k l 0 (l.length : Int) (i : Int)) () := by
 intro d
 induction d with
 | zero => intro i _ h; exact Ev.step (fun k => by rw [slices_insertionSortOrdered_int.l0, if_neg (by omega)]) (Ev.now ())
 | succ d ih =>
  intro i h0 h
  have w1 := Aside0.mk (show wrap64 ((i : Int) - 1) = ((i - 1 : Nat) : Int) by rw [wz (by omega) (by omega)]; omega)
  have w2 := Aside0.mk (show wrap64 ((i : Int) + 1) = ((i + 1 : Nat) : Int) by rw [wz (by omega) (by omega)]; omega)
  have e := ih (i + 1) (by omega) (by omega)
  refine Ev.step (f := fun k => slices_insertionSortOrdered_int.l1 k l 0 (l.length : Int) (i : Int) (i : Int)) (fun k => by rw [slices_insertionSortOrdered_int.l0, if_pos (by omega)]) (Ev.step (fun k => ?_) e)
  have g1 : (i : Int) > 0 := by omega
  have g2 : (0 : Int) ≤ (i : Int) := by omega
  have g3 : (i : Int) < (l.length : Int) := by omega
  have g4 : (0 : Int) ≤ ((i - 1 : Nat) : Int) := by omega
  have g5 : ((i - 1 : Nat) : Int) < (l.length : Int) := by omega
  rw [slices_insertionSortOrdered_int.l1, if_pos g1, if_pos g2, if_pos g3, w1.out, if_pos g4, if_pos g5, less_no l hp (show i - 1 < i by omega) (by omega), Option.bind_some, if_neg (by decide), w2.out]
theorem part_l1 : ∀ (d i : Nat), 1 ≤ i → i + d = l.length → Ev (fun k => slices_partialInsertionSortOrdered_int.l1 k l 0 (l.length : Int) (i : Int)) true := by
 intro d
 induction d with
 | zero =>
  intro i _ h
  have e : (i : Int) = (l.length : Int) := by omega
  exact Ev.step (fun k => by rw [slices_partialInsertionSortOrdered_int.l1, if_neg (by omega)]) (Ev.step (fun k => by rw [slices_partialInsertionSortOrdered_int.j2, if_pos e]) (Ev.now true))
 | succ d ih =>
  intro i h0 h
  have w1 := Aside0.mk (show wrap64 ((i : Int) - 1) = ((i - 1 : Nat) : Int) by rw [wz (by omega) (by omega)]; omega)
  have w2 := Aside0.mk (show wrap64 ((i : Int) + 1) = ((i + 1 : Nat) : Int) by rw [wz (by omega) (by omega)]; omega)
  have e := ih (i + 1) (by omega) (by omega)
  have g2 : (0 : Int) ≤ (i : Int) := by omega
  have g3 : (i : Int) < (l.length : Int) := by omega
  have g4 : (0 : Int) ≤ ((i - 1 : Nat) : Int) := by omega
  have g5 : ((i - 1 : Nat) : Int) < (l.length : Int) := by omega
  refine Ev.step (fun k => ?_) e
  rw [slices_partialInsertionSortOrdered_int.l1, if_pos g3, if_pos g2, if_pos g3, w1.out, if_pos g4, if_pos g5, less_no l hp (show i - 1 < i by omega) (by omega), Option.bind_some, if_neg (by decide), w2.out]
theorem pivot_ev (h : 12 < l.length) : ∃ j : Int, Ev (fun k => slices_choosePivotOrdered_int.f k l 0 (l.length : Int)) (j, 1) := by
 obtain ⟨q, hq⟩ : ∃ q, l.length / 4 = q := ⟨_, rfl⟩
 have w0 := Aside0.mk (show wrap64 ((l.length : Int) - 0) = (l.length : Int) by rw [wz (by omega) (by omega)]; omega)
 have d0 : Int.tdiv (l.length : Int) 4 = (q : Int) := by rw [Int.tdiv_eq_ediv_of_nonneg (by omega)]; omega
 have w1 := Aside0.mk (show wrap64 (Int.tdiv (l.length : Int) 4) = (q : Int) by rw [d0]; exact wz (by omega) (by omega))
 have w2 := Aside0.mk (show wrap64 (q : Int) = (q : Int) from wz (by omega) (by omega))
 have w3 := Aside0.mk (show wrap64 ((q : Int) * 2) = ((q * 2 : Nat) : Int) by rw [wz (by omega) (by omega)]; omega)
 have w4 := Aside0.mk (show wrap64 ((q : Int) * 3) = ((q * 3 : Nat) : Int) by rw [wz (by omega) (by omega)]; omega)
 have w5 := Aside0.mk (show wrap64 (0 + (q : Int)) = (q : Int) by rw [wz (by omega) (by omega)]; omega)
 have w6 := Aside0.mk (show wrap64 (0 + ((q * 2 : Nat) : Int)) = ((q * 2 : Nat) : Int) by rw [wz (by omega) (by omega)]; omega)
 have w7 := Aside0.mk (show wrap64 (0 + ((q * 3 : Nat) : Int)) = ((q * 3 : Nat) : Int) by rw [wz (by omega) (by omega)]; omega)
 refine ⟨((q * 2 : Nat) : Int), ?_⟩
 unfold slices_choosePivotOrdered_int.f
 simp only [w0.out, w1.out, w2.out, w3.out, w4.out, w5.out, w6.out, w7.out, if_pos (show (l.length : Int) ≥ 8 by omega), if_neg (show ¬ (l.length : Int) ≥ 50 by omega), median_eq l hp (show q < q * 2 by omega) (show q * 2 < q * 3 by omega) (show q * 3 < l.length by omega), Option.bind_some]
 exact Ev.step (fun k => by rw [slices_choosePivotOrdered_int.j0, if_pos rfl]) (Ev.now _)
theorem sort_ev : Ev (fun k => slices_Sort_int_int.f k l) () := by
 have w0 := Aside0.mk (show IntKind.u64.wrap (l.length : Int) = (l.length : Int) from u64_small ⟨l.length, by omega⟩)
 have c0 : (0 : Int) ≤ (l.length : Int) := by omega
 have c1 : (l.length : Int) < 256 := by omega
 have b0 : bits_Len.f (l.length : Int) = some (bits_Len.L l.length) := by
  unfold bits_Len.f
  rw [if_pos c0, if_pos c1, Int.toNat_natCast]
 unfold slices_Sort_int_int.f
 simp only [w0.out, b0, Option.bind_some]
 refine Ev.bind (a := ()) ?_ (Ev.now ())
 have w1 := Aside0.mk (show wrap64 ((l.length : Int) - 0) = (l.length : Int) by rw [wz (by omega) (by omega)]; omega)
 have w2 := Aside0.mk (show wrap64 ((0 : Int) + 1) = ((1 : Nat) : Int) by rw [wz (by decide) (by decide)]; rfl)
 unfold slices_pdqsortOrdered_int.f
 by_cases h : l.length ≤ 12
 ·refine Ev.step (f := fun k => (slices_insertionSortOrdered_int.f k l 0 (l.length : Int)).bind fun _ => some ()) (fun k => by rw [slices_pdqsortOrdered_int.l0, w1.out, if_pos (by omega)]) (Ev.bind (a := ()) ?_ (Ev.now ()))
  unfold slices_insertionSortOrdered_int.f
  simp only [w2.out]
  by_cases g : l.length = 0
  ·exact Ev.step (fun k => by rw [slices_insertionSortOrdered_int.l0, if_neg (by omega)]) (Ev.now ())
  ·exact ins_l0 l hp hl (l.length - 1) 1 (by omega) (by omega)
 ·obtain ⟨j, ej⟩ := pivot_ev l hp hl (by omega)
  have hL : ¬ bits_Len.L l.length = 0 := by
   unfold bits_Len.L
   rw [if_neg (by omega), if_neg (by omega), if_neg (by omega), if_neg (by omega)]
   split <;> (try split) <;> (try split) <;> (try split) <;> decide
  refine Ev.step (f := fun k => (slices_choosePivotOrdered_int.f k l 0 (l.length : Int)).bind fun bt => (if bt.2 = 2 then none else slices_pdqsortOrdered_int.j1 k l 0 (l.length : Int) bt.1 (bt.2 == 1))) (fun k => by rw [slices_pdqsortOrdered_int.l0, w1.out, if_neg (by omega), if_neg hL, if_pos rfl]; simp only [if_true]) (Ev.bind ej ?_)
  simp only [if_neg (show ¬ (1 : Int) = 2 by decide)]
  refine Ev.step (f := fun k => (slices_partialInsertionSortOrdered_int.f k l 0 (l.length : Int)).bind fun t => (if t = true then some () else slices_pdqsortOrdered_int.j2 k l 0 j)) (fun k => by rw [slices_pdqsortOrdered_int.j1, if_pos (by decide)]) (Ev.bind (a := true) ?_ (Ev.now ()))
  unfold slices_partialInsertionSortOrdered_int.f
  simp only [w2.out]
  exact Ev.step (fun k => by rw [slices_partialInsertionSortOrdered_int.l0, if_pos (by decide)]) (part_l1 l hp hl (l.length - 1) 1 (by omega) (by omega))
theorem compact_l0 : ∀ (d i : Nat), 1 ≤ i → i + d = l.length → Ev (fun k => slices_Compact_int_int.l0 k l (i : Int)) l := by
 intro d
 induction d with
 | zero => intro i _ h; exact Ev.step (fun k => by rw [slices_Compact_int_int.l0, if_neg (by omega)]) (Ev.now l)
 | succ d ih =>
  intro i h0 h
  have w1 := Aside0.mk (show wrap64 ((i : Int) - 1) = ((i - 1 : Nat) : Int) by rw [wz (by omega) (by omega)]; omega)
  have w2 := Aside0.mk (show wrap64 ((i : Int) + 1) = ((i + 1 : Nat) : Int) by rw [wz (by omega) (by omega)]; omega)
  have hlt := asc_lt l hp (show i - 1 < i by omega) (show i < l.length by omega)
  have e := ih (i + 1) (by omega) (by omega)
  have g2 : (0 : Int) ≤ (i : Int) := by omega
  have g3 : (i : Int) < (l.length : Int) := by omega
  have g4 : (0 : Int) ≤ ((i - 1 : Nat) : Int) := by omega
  have g5 : ((i - 1 : Nat) : Int) < (l.length : Int) := by omega
  have g6 : ¬ l.getD i 0 = l.getD (i - 1) 0 := by omega
  refine Ev.step (fun k => ?_) e
  rw [slices_Compact_int_int.l0, if_pos g3, if_pos g2, w1.out, if_pos g4, if_pos g5, rdn, rdn, if_neg g6, w2.out]
theorem compact_ev : Ev (fun k => slices_Compact_int_int.f k l) l := by
 unfold slices_Compact_int_int.f
 by_cases h : (l.length : Int) < 2
 ·simp only [if_pos h]; exact Ev.now l
 ·simp only [if_neg h]; exact compact_l0 l hp hl (l.length - 1) 1 (by omega) (by omega)
end
theorem within_eq (c d : Int) : impl_leastCrowds_1_c.f d [c] = some (!decide (d = c) && (Go.bits .andNot .i64 d c == 0)) := by
 unfold impl_leastCrowds_1_c.f
 rw [if_pos (by simp), show rd [c] 0 = c from rfl]
 by_cases h : d = c
 ·rw [if_pos h, decide_eq_true h]; rfl
 ·rw [if_neg h, decide_eq_false h]; rfl
theorem index_l0 (A : List Int) (c : Int) (hn : A.length ≤ 1000) : ∀ (zs : List Int) (i : Nat), A.drop i = zs → ∃ r : Int, Ev (fun k => slices_IndexFunc_w82.l0 k A (A.length : Int) (i : Int) [c]) r ∧ decide (r ≥ 0) = undB zs c := by
 intro zs
 induction zs with
 | nil =>
  intro i h
  exact ⟨-1, Ev.step (fun k => by rw [slices_IndexFunc_w82.l0, if_neg (dnil h)]) (Ev.now _), rfl⟩
 | cons z zs ih =>
  intro i h
  obtain ⟨h1, h2, h3⟩ := dcons h
  obtain ⟨r, e, g⟩ := ih (i + 1) h3
  have hu : undB (z :: zs) c = ((!decide (z = c) && (Go.bits .andNot .i64 z c == 0)) || undB zs c) := rfl
  cases hb : (!decide (z = c) && (Go.bits .andNot .i64 z c == 0)) with
  | true => exact ⟨i, Ev.step (fun k => by rw [slices_IndexFunc_w82.l0, if_pos (by omega), if_pos (by omega), if_pos (by omega), rdn, h2, within_eq, hb, Option.bind_some, if_pos rfl]) (Ev.now _), by rw [hu, hb, decide_eq_true (by omega)]; rfl⟩
  | false => exact ⟨r, Ev.step (fun k => by rw [slices_IndexFunc_w82.l0, if_pos (by omega), if_pos (by omega), if_pos (by omega), rdn, h2, within_eq, hb, Option.bind_some, if_neg (by decide), wsucc h1 (by omega)]) e, by rw [hu, hb, g]; rfl⟩
theorem contains_ev (A : List Int) (c : Int) (hn : A.length ≤ 1000) : Ev (fun k => slices_ContainsFunc_w82.f k A [c]) (undB A c) := by
 obtain ⟨r, e, g⟩ := index_l0 A c hn A 0 rfl
 unfold slices_ContainsFunc_w82.f slices_IndexFunc_w82.f
 exact Ev.bind e (Ev.to (Ev.now _) g)
theorem crowds_end {A out : List Int} {i : Int} (h : ¬ i < (A.length : Int)) (k : Nat) : impl_leastCrowds.l0 (k + 1) A out A (A.length : Int) i = (slices_Sort_int_int.f k out).bind fun _ => (slices_Compact_int_int.f k out).bind fun t => some t := by
 unfold impl_leastCrowds.l0
 exact if_neg h
theorem crowds_l0 (A : List Int) (hn : A.length ≤ 64) (hp : (A.filter (fun c => !undB A c)).Pairwise (· < ·)) (hl : (A.filter (fun c => !undB A c)).length ≤ 49) : ∀ (zs : List Int) (i : Nat) (out : List Int), A.drop i = zs → out.length ≤ i → out ++ zs.filter (fun c => !undB A c) = A.filter (fun c => !undB A c) → Ev (fun k => impl_leastCrowds.l0 k A out A (A.length : Int) (i : Int)) (A.filter (fun c => !undB A c)) := by
 intro zs
 induction zs with
 | nil =>
  intro i out h ho hq
  rw [List.filter_nil, List.append_nil] at hq
  rw [← hq] at hp hl ⊢
  exact Ev.step (f := fun k => (slices_Sort_int_int.f k out).bind fun _ => (slices_Compact_int_int.f k out).bind fun t => some t) (fun k => (crowds_end (dnil h) k)) (Ev.bind (a := ()) (sort_ev out hp hl) (Ev.bind (compact_ev out hp hl) (Ev.now _)))
 | cons z zs ih =>
  intro i out h ho hq
  obtain ⟨h1, h2, h3⟩ := dcons h
  refine Ev.step (f := fun k => (slices_ContainsFunc_w82.f k A [z]).bind fun t => (if t = true then (impl_leastCrowds.l0 k A out A (A.length : Int) ((i + 1 : Nat) : Int)) else (if out.length < 17592186044416 then (impl_leastCrowds.l0 k A (out ++ [z]) A (A.length : Int) ((i + 1 : Nat) : Int)) else (none)))) (fun k => by rw [impl_leastCrowds.l0, if_pos (by omega), if_pos (by omega), if_pos (by omega), rdn, h2, wsucc h1 (by omega)]) (Ev.bind (contains_ev A z (by omega)) ?_)
  cases hu : undB A z with
  | true =>
   simp only [if_true]
   refine ih (i + 1) out h3 (by omega) ?_
   rw [← hq, List.filter_cons, hu]
   rfl
  | false =>
   simp only [Bool.false_eq_true, if_false, if_pos (show out.length < 17592186044416 by omega)]
   refine ih (i + 1) (out ++ [z]) h3 (by simp; omega) ?_
   rw [← hq, List.filter_cons, hu]
   simp
theorem crowds_ev (S : Int → Bool) {M : Nat} (hM : M ≤ 64) : Ev (fun k => impl_leastCrowds.f k (allF S M 0)) (leastF S M) := by
 have hlen : (allF S M 0).length ≤ 64 := len_asc _ 0 64 (pw_allF S M 0) (fun x hx => by have := mem_allF.1 hx; omega)
 exact crowds_l0 _ hlen (pw_least S M) (by have := len_least S hM; unfold leastF at this; omega) _ 0 [] rfl (by simp) rfl
theorem pTm {p : Int} {H : List Int} {t : List S61} (hT : TmB p H t = true) : 1 ≤ p ∧ p ≤ 6 := by
 have := HsB_of (TmB_len hT).2
 exact ⟨this.2.1, this.2.2.1⟩
theorem Mp {p : Int} {H : List Int} {t : List S61} (hT : TmB p H t = true) : ((2 ^ p.toNat : Nat) : Int) = 2 ^ p.toNat ∧ 2 ^ p.toNat ≤ 64 := by
 have q := pTm hT
 have e : ((2 ^ p.toNat : Nat) : Int) = 2 ^ p.toNat := by rw [Int.natCast_pow]; rfl
 have := pow_small q.1 q.2
 exact ⟨e, by omega⟩
section
variable {p : Int} {H : List Int} {t : List S61} (hT : TmB p H t = true) (ht : t.length ≤ 1048576)
include hT ht
theorem leastOf_l0 {M : Nat} (hM : M ≤ 64) (hMp : (M : Int) = 2 ^ p.toNat) : ∀ (d : Nat) (c : Nat) (out : List Int), c + d = M → out.length ≤ c → out ++ allF (fun c => saysB H c t) d (c : Int) = allF (fun c => saysB H c t) M 0 → Ev (fun k => impl_leastOf_w75.l0 k out (M : Int) (c : Int) [(⟨p, H⟩ : S25)] [t]) (leastF (fun c => saysB H c t) M) := by
 intro d
 induction d with
 | zero =>
  intro c out h ho hq
  rw [allF, List.append_nil] at hq
  rw [hq]
  exact Ev.step (fun k => by rw [impl_leastOf_w75.l0, if_neg (by omega)]) (Ev.bind (crowds_ev _ hM) (Ev.now _))
 | succ d ih =>
  intro c out h ho hq
  have w1 := Aside0.mk (show wrap64 ((c : Int) + 1) = ((c + 1 : Nat) : Int) by rw [wz (by omega) (by omega)]; omega)
  have ec := consents_ev p H (c : Int) t ht hT (by omega) (by omega)
  have e1 : Ev (fun k => impl_leastConsents_1_c.f k (c : Int) [(⟨p, H⟩ : S25)] [t]) (saysB H (c : Int) t) := by
   unfold impl_leastConsents_1_c.f
   have r1 : rd_T25 [(⟨p, H⟩ : S25)] 0 = ⟨p, H⟩ := rfl
   have r2 : rd_L5 [t] 0 = t := rfl
   simp only [r1, r2, if_pos (show (0 : Int) < (([(⟨p, H⟩ : S25)] : List S25).length : Int) by simp), if_pos (show (0 : Int) < (([t] : List (List S61)).length : Int) by simp)]
   exact Ev.bind ec (Ev.now _)
  refine Ev.step (f := fun k => (impl_leastConsents_1_c.f k (c : Int) [(⟨p, H⟩ : S25)] [t]).bind fun b => (if b = true then (if out.length < 17592186044416 then (impl_leastOf_w75.l0 k (out ++ [(c : Int)]) (M : Int) ((c + 1 : Nat) : Int) [(⟨p, H⟩ : S25)] [t]) else (none)) else (impl_leastOf_w75.l0 k out (M : Int) ((c + 1 : Nat) : Int) [(⟨p, H⟩ : S25)] [t]))) (fun k => by rw [impl_leastOf_w75.l0, if_pos (by omega), w1.out]) (Ev.bind e1 ?_)
  rw [allF] at hq
  have ce : ((c : Int) + 1) = ((c + 1 : Nat) : Int) := by omega
  rw [ce] at hq
  cases hv : saysB H (c : Int) t with
  | true =>
   rw [if_pos hv] at hq
   simp only [if_true, if_pos (show out.length < 17592186044416 by omega)]
   exact ih (c + 1) (out ++ [(c : Int)]) (by omega) (by simp; omega) (by rw [← hq]; simp)
  | false =>
   rw [if_neg (by rw [hv]; decide)] at hq
   simp only [Bool.false_eq_true, if_false]
   exact ih (c + 1) out (by omega) (by omega) hq
theorem leastConsents_ev (hH : H.length ≤ 1048576) : Ev (fun k => impl_LeastConsents.f k p H t) (leastF (fun c => saysB H c t) (2 ^ p.toNat)) := by
 have q := pTm hT
 have m := Mp hT
 unfold impl_LeastConsents.f
 refine Ev.bind (Ev.to (impl_isTerm_ev p H hH t ht) hT) ?_
 simp only [if_true]
 refine Ev.bind ?_ (Ev.now _)
 unfold impl_leastConsents.f impl_leastOf_w75.f
 simp only [if_pos (show 0 ≤ p by omega), shl1 q.1 q.2]
 rw [← m.1]
 exact Ev.bind (leastOf_l0 hT ht m.2 m.1 _ 0 [] (by omega) (by simp) rfl) (Ev.now _)
end

theorem leaf_need {H : List Int} {m : S61} (h : leafB H m = true) : 1 ≤ m.f2 ∧ m.f2 ≤ hdI (rd H m.f1) := by
 unfold leafB at h
 simp only [Bool.and_eq_true, decide_eq_true_eq] at h
 exact h.2.2
theorem val_le {H : List Int} {c d : Int} (hc : C6 c) (hd : C6 d) (hs : Le c d) (hH : ∀ x ∈ H, 0 < x ∧ x < 64) : ∀ (t : Tm), good H t → val H c t = true → val H d t = true := by
 intro t
 induction t with
 | lf m =>
  intro g h
  have l := leaf_of g
  have x := hH _ l.2.2.2
  have := hs.Sub hc hd (show C6 (rd H m.f1) from ⟨by omega, by omega⟩)
  unfold val at h ⊢
  have h := of_decide_eq_true h
  exact decide_eq_true (by omega)
 | nd m a b iha ihb =>
  intro g h
  unfold val at h ⊢
  by_cases q : m.f0 = 2
  ·rw [if_pos q] at h ⊢
   rw [Bool.or_eq_true] at h ⊢
   exact h.elim (fun z => .inl (iha g.2.1 z)) (fun z => .inr (ihb g.2.2 z))
  ·rw [if_neg q] at h ⊢
   rw [Bool.and_eq_true] at h ⊢
   exact ⟨iha g.2.1 h.1, ihb g.2.2 h.2⟩
theorem fin_zero : ∀ a : Fin 64, hdI (Go.bits .and .i64 (a.val : Int) 0) = 0 := by decide +kernel
theorem val_zero {H : List Int} (hH : ∀ x ∈ H, 0 < x ∧ x < 64) : ∀ (t : Tm), good H t → val H 0 t = false := by
 intro t
 induction t with
 | lf m =>
  intro g
  have l := leaf_of g
  have x := hH _ l.2.2.2
  have n := leaf_need g
  obtain ⟨b, hb⟩ := (show C6 (rd H m.f1) from ⟨by omega, by omega⟩).fin
  have z := fin_zero b
  unfold val
  rw [hb, z, decide_eq_false (by omega)]
 | nd m a b iha ihb =>
  intro g
  unfold val
  rw [iha g.2.1, ihb g.2.2]
  split <;> rfl
theorem tree_of {p : Int} {H : List Int} {t : List S61} (ht : TmB p H t = true) : ∃ tr, good H tr ∧ ∀ c, saysB H c t = val H c tr := by
 unfold TmB at ht
 simp only [Bool.and_eq_true] at ht
 obtain ⟨tr, e1, e2, _⟩ := ps_ok H t [] ht.2.2 (by simp)
 exact ⟨tr, e2, fun c => by unfold saysB; rw [e1]⟩
section
variable {p : Int} {H : List Int} {t : List S61} (hT : TmB p H t = true)
include hT
theorem says_le {c d : Int} (hc : C6 c) (hd : C6 d) (h : Le c d) (hs : saysB H c t = true) : saysB H d t = true := by
 obtain ⟨tr, g, e⟩ := tree_of hT
 have q := HsB_of (TmB_len hT).2
 rw [e] at hs ⊢
 exact val_le hc hd h q.2.2.2 tr g hs
theorem says_zero : saysB H 0 t = false := by
 obtain ⟨tr, g, e⟩ := tree_of hT
 have q := HsB_of (TmB_len hT).2
 rw [e]
 exact val_zero q.2.2.2 tr g
end
def anyF (Q : Int → Bool) : Nat → Int → Bool
 | 0, _ => false
 | n + 1, c => Q c || anyF Q n (c + 1)
theorem anyF_iff {Q : Int → Bool} : ∀ {n : Nat} {c : Int}, anyF Q n c = true ↔ ∃ x, c ≤ x ∧ x < c + n ∧ Q x = true := by
 intro n
 induction n with
 | zero => intro c; rw [anyF]; exact ⟨fun h => (by cases h), fun ⟨x, a, b, _⟩ => by omega⟩
 | succ n ih =>
  intro c
  rw [anyF, Bool.or_eq_true, ih]
  constructor
  ·rintro (h | ⟨x, a, b, h⟩)
   ·exact ⟨c, Int.le_refl _, by omega, h⟩
   ·exact ⟨x, by omega, by omega, h⟩
  ·rintro ⟨x, a, b, h⟩
   by_cases e : x = c
   ·rw [e] at h; exact .inl h
   ·exact .inr ⟨x, by omega, by omega, h⟩
section
variable {p : Int} {H : List Int} {t : List S61} (hT : TmB p H t = true)
include hT
theorem least_says {x : Int} (h : x ∈ leastF (fun c => saysB H c t) (2 ^ p.toNat)) : (0 ≤ x ∧ x < 2 ^ p.toNat) ∧ saysB H x t = true ∧ ∀ d : Int, 0 ≤ d → d < 2 ^ p.toNat → saysB H d t = true → d ≠ x → ¬ Le d x := by
 have m := Mp hT
 have q := (mem_least m.2).1 h
 rw [m.1] at q
 exact ⟨⟨q.1.1, q.1.2.1⟩, q.1.2.2, q.2⟩
theorem below_says {c : Int} (c0 : 0 ≤ c) (c1 : c < 2 ^ p.toNat) (h : saysB H c t = true) : ∃ x, x ∈ leastF (fun c => saysB H c t) (2 ^ p.toNat) ∧ Le x c := by
 have m := Mp hT
 exact below m.2 (c.toNat + 1) c (by omega) c0 (by rw [m.1]; exact c1) h
end

theorem oddterm_ev {s : List Int} (hs : ∀ x ∈ s, (Lit.int .u8 x).wf = true) (hl : s.length ≤ 2000) : ∃ p H ms q2, Ev (fun k => spec_l20Odd.f k s 0) (p, H, ms, q2) ∧ SmallH H ∧ ms.length ≤ 1000 := by
 obtain ⟨p, H, t, q, hdr, hH, ht, q0, q1⟩ := termed_ev hs hl 0 14 (by decide) (by decide)
 obtain ⟨r, e, _⟩ := pick_ev hs hl q 2 q0 (by omega)
 have hH1 := hH.1
 by_cases g : r = 0
 ·by_cases g2 : (H.length : Int) > 0
  ·have g3 : 0 < (H.length : Int) := by omega
   have hm : rd H 0 ∈ H := by
    rw [show (0 : Int) = ((0 : Nat) : Int) from rfl, rdn, List.getD_eq_getElem?_getD, List.getElem?_eq_getElem (show 0 < H.length by omega)]
    exact List.getElem_mem _
   have hmx : mx (rd H 0) 0 ≤ 9223372036854775807 := by
    have := hH.2 _ hm
    unfold mx
    split <;> omega
   have e1 := spec_heads_ev _ hmx
   have e2 := spec_heads_ev _ (hH.2 _ hm)
   by_cases g4 : Int.tmod (hdI (mx (rd H 0) 0)) 2 = 1
   ·refine ⟨p, H, [⟨0, 0, wrap64 ((wrap64 (Int.tdiv (hdI (rd H 0)) 2)) + 1)⟩], q + 1, ?_, hH, by simp⟩
    unfold spec_l20Odd.f
    refine Ev.bind hdr (Ev.bind e ?_)
    simp only [if_pos g, if_pos g2, if_pos g3]
    refine Ev.bind e1 ?_
    simp only [if_pos g4]
    exact Ev.bind e2 (Ev.now _)
   ·refine ⟨p, H, t, q + 1, ?_, hH, ht⟩
    unfold spec_l20Odd.f
    refine Ev.bind hdr (Ev.bind e ?_)
    simp only [if_pos g, if_pos g2, if_pos g3]
    refine Ev.bind e1 ?_
    simp only [if_neg g4]
    exact Ev.now _
  ·refine ⟨p, H, t, q + 1, ?_, hH, ht⟩
   unfold spec_l20Odd.f
   refine Ev.bind hdr (Ev.bind e ?_)
   simp only [if_pos g, if_neg g2]
   exact Ev.now _
 ·refine ⟨p, H, t, q + 1, ?_, hH, ht⟩
  unfold spec_l20Odd.f
  refine Ev.bind hdr (Ev.bind e ?_)
  simp only [if_neg g]
  exact Ev.now _
def pairB (L : List Int) (i : Nat) : Nat → Nat → Bool
 | 0, _ => false
 | d + 1, j => (Go.bits .and .i64 (L.getD i 0) (L.getD j 0) == 0) || pairB L i d (j + 1)
def pairsB (L : List Int) : Nat → Nat → Bool
 | 0, _ => false
 | d + 1, i => pairB L i i 0 || pairsB L d (i + 1)
theorem pairB_iff {L : List Int} {i : Nat} : ∀ {d j : Nat}, pairB L i d j = true ↔ ∃ x, j ≤ x ∧ x < j + d ∧ Go.bits .and .i64 (L.getD i 0) (L.getD x 0) = 0 := by
 intro d
 induction d with
 | zero => intro j; rw [pairB]; exact ⟨fun h => (by cases h), fun ⟨x, a, b, _⟩ => by omega⟩
 | succ d ih =>
  intro j
  rw [pairB, Bool.or_eq_true, ih, beq_iff_eq]
  constructor
  ·rintro (h | ⟨x, a, b, h⟩)
   ·exact ⟨j, Nat.le_refl _, by omega, h⟩
   ·exact ⟨x, by omega, by omega, h⟩
  ·rintro ⟨x, a, b, h⟩
   by_cases e : x = j
   ·rw [e] at h; exact .inl h
   ·exact .inr ⟨x, by omega, by omega, h⟩
theorem pairsB_iff {L : List Int} : ∀ {d i : Nat}, pairsB L d i = true ↔ ∃ x, i ≤ x ∧ x < i + d ∧ ∃ y, y < x ∧ Go.bits .and .i64 (L.getD x 0) (L.getD y 0) = 0 := by
 intro d
 induction d with
 | zero => intro i; rw [pairsB]; exact ⟨fun h => (by cases h), fun ⟨x, a, b, _⟩ => by omega⟩
 | succ d ih =>
  intro i
  rw [pairsB, Bool.or_eq_true, ih, pairB_iff]
  constructor
  ·rintro (⟨y, a, b, h⟩ | ⟨x, a, b, h⟩)
   ·exact ⟨i, Nat.le_refl _, by omega, y, by omega, h⟩
   ·exact ⟨x, by omega, by omega, h⟩
  ·rintro ⟨x, a, b, y, c, h⟩
   by_cases e : x = i
   ·rw [e] at h c; exact .inl ⟨y, by omega, by omega, h⟩
   ·exact .inr ⟨x, by omega, by omega, y, c, h⟩
theorem fin_self : ∀ a : Fin 64, Go.bits .and .i64 (a.val : Int) (a.val : Int) = (a.val : Int) := by decide +kernel
section
variable {p : Int} {H : List Int} {t : List S61} (hT : TmB p H t = true)
include hT
theorem clash_pairs : pairsB (leastF (fun c => saysB H c t) (2 ^ p.toNat)) (leastF (fun c => saysB H c t) (2 ^ p.toNat)).length 0 = anyF (fun c => saysB H c t && saysB H (2 ^ p.toNat - 1 - c) t) (2 ^ p.toNat) 0 := by
 have q := pTm hT
 have m := Mp hT
 obtain ⟨L, hL⟩ : ∃ L, L = leastF (fun c => saysB H c t) (2 ^ p.toNat) := ⟨_, rfl⟩
 rw [← hL]
 have at_ {i : Nat} (hi : i < L.length) : L.getD i 0 ∈ leastF (fun c => saysB H c t) (2 ^ p.toNat) := by
  rw [← hL, List.getD_eq_getElem?_getD, List.getElem?_eq_getElem hi]
  exact List.getElem_mem hi
 rw [Bool.eq_iff_iff, pairsB_iff, anyF_iff]
 constructor
 ·rintro ⟨i, _, hi, j, hj, h⟩
  have lx := least_says hT (at_ (show i < L.length by omega))
  have ly := least_says hT (at_ (show j < L.length by omega))
  have co := co_range lx.1.1 lx.1.2
  have le := (apart_iff q.1 q.2 lx.1.1 lx.1.2 ly.1.1 ly.1.2).1 h
  refine ⟨L.getD i 0, lx.1.1, by rw [Int.zero_add, m.1]; exact lx.1.2, ?_⟩
  rw [lx.2.1, says_le hT (c6_of q.1 q.2 ly.1.1 ly.1.2) (c6_of q.1 q.2 co.1 co.2) le ly.2.1]
  rfl
 ·rintro ⟨c, c0, c1, h⟩
  rw [Int.zero_add, m.1] at c1
  rw [Bool.and_eq_true] at h
  have co := co_range c0 c1
  obtain ⟨x, hx, lx⟩ := below_says hT c0 c1 h.1
  obtain ⟨y, hy, ly⟩ := below_says hT co.1 co.2 h.2
  have sx := least_says hT hx
  have sy := least_says hT hy
  have cx := c6_of q.1 q.2 sx.1.1 sx.1.2
  have cy := c6_of q.1 q.2 sy.1.1 sy.1.2
  have z : Go.bits .and .i64 x y = 0 := by
   rw [and0_iff cx cy]
   intro i hi hxi
   cases w : inB y i with
   | false => rfl
   | true =>
    have a := lx i hi hxi
    have b := ly i hi w
    rw [co_in q.1 q.2 c0 c1 hi, a] at b
    simp at b
  have ne : x ≠ y := by
   intro e
   rw [← e] at z
   obtain ⟨n, hn⟩ := cx.fin
   have := fin_self n
   rw [← hn, z] at this
   rw [← this] at sx
   rw [says_zero hT] at sx
   exact absurd sx.2.1 (by decide)
  rw [← hL] at hx hy
  obtain ⟨i, hi, ei⟩ := List.mem_iff_getElem.1 hx
  obtain ⟨j, hj, ej⟩ := List.mem_iff_getElem.1 hy
  have gi : L.getD i 0 = x := by rw [List.getD_eq_getElem?_getD, List.getElem?_eq_getElem hi, ei]; rfl
  have gj : L.getD j 0 = y := by rw [List.getD_eq_getElem?_getD, List.getElem?_eq_getElem hj, ej]; rfl
  rcases Nat.lt_trichotomy i j with g | g | g
  ·refine ⟨j, Nat.zero_le _, by omega, i, g, ?_⟩
   rw [gi, gj, (and_small cy.1 cy.2 cx.1 cx.2).2.2]
   exact z
  ·rw [g] at gi
   exact absurd (gi.symm.trans gj) ne
  ·refine ⟨i, Nat.zero_le _, by omega, j, g, ?_⟩
   rw [gi, gj]
   exact z
theorem clash_impl (ht : t.length ≤ 1000) (hHl : H.length ≤ 1048576) : Ev (fun k => impl_ClashOk.f k p H t) (anyF (fun c => saysB H c t && saysB H (2 ^ p.toNat - 1 - c) t) (2 ^ p.toNat) 0) := by
 have q := pTm hT
 have m := Mp hT
 have pp := pow_small q.1 q.2
 have main : ∀ (d c : Nat), c + d = 2 ^ p.toNat → Ev (fun k => impl_ClashOk.l0 k t ((2 ^ p.toNat : Nat) : Int) (c : Int) p H) (anyF (fun c => saysB H c t && saysB H (2 ^ p.toNat - 1 - c) t) d (c : Int)) := by
  intro d
  induction d with
  | zero => intro c h; exact Ev.step (fun k => by rw [impl_ClashOk.l0, if_neg (by omega)]) (Ev.now false)
  | succ d ih =>
   intro c h
   have w1 := Aside0.mk (show wrap64 ((c : Int) + 1) = ((c + 1 : Nat) : Int) by rw [wz (by omega) (by omega)]; omega)
   have e := ih (c + 1) (by omega)
   have lt : (c : Int) < 2 ^ p.toNat := by rw [← m.1]; omega
   have co := co_range (p := p) (c := (c : Int)) (by omega) lt
   have ev : impl_everybody.f p = some (2 ^ p.toNat - 1) := by
    unfold impl_everybody.f
    rw [if_pos (by omega), shl1 q.1 q.2, wz (by omega) (by omega)]
   have xe := xor_co q.1 q.2 (c := (c : Int)) (by omega) lt
   rw [anyF, show ((c : Int) + 1) = ((c + 1 : Nat) : Int) by omega]
   refine Ev.step (f := fun k => (impl_consents.f k p H t (c : Int)).bind fun a => (if a = true then ((impl_consents.f k p H t (2 ^ p.toNat - 1 - (c : Int))).bind fun b => (if b = true then (some true) else (impl_ClashOk.l0 k t ((2 ^ p.toNat : Nat) : Int) ((c + 1 : Nat) : Int) p H))) else (impl_ClashOk.l0 k t ((2 ^ p.toNat : Nat) : Int) ((c + 1 : Nat) : Int) p H))) (fun k => by rw [impl_ClashOk.l0, if_pos (by omega), w1.out, ev]; simp only [Option.bind_some, xe]) (Ev.bind (consents_ev p H (c : Int) t (by omega) hT (by omega) (by omega)) ?_)
   cases saysB H (c : Int) t with
   | false => simp only [Bool.false_eq_true, if_false, Bool.false_and, Bool.false_or]; exact e
   | true =>
    simp only [if_true, Bool.true_and]
    refine Ev.bind (consents_ev p H _ t (by omega) hT co.1 (by omega)) ?_
    cases saysB H (2 ^ p.toNat - 1 - (c : Int)) t with
    | true => simp only [if_true, Bool.true_or]; exact Ev.now _
    | false => simp only [Bool.false_eq_true, if_false, Bool.false_or]; exact e
 unfold impl_ClashOk.f
 refine Ev.bind (Ev.to (impl_isTerm_ev p H hHl t (by omega)) hT) ?_
 simp only [if_true, if_pos (show 0 ≤ p by omega), shl1 q.1 q.2]
 rw [← m.1]
 exact main _ 0 (by omega)
theorem clash_spec (ht : t.length ≤ 1000) (hHl : H.length ≤ 1048576) (hc : ∀ c ∈ H, c ≤ 9223372036854775807) : Ev (fun k => spec_ClashOk.f k p H t) (anyF (fun c => saysB H c t && saysB H (2 ^ p.toNat - 1 - c) t) (2 ^ p.toNat) 0) := by
 have q := pTm hT
 have m := Mp hT
 have pp := pow_small q.1 q.2
 have st := Ev.to (spec_TermOk_ev p H hHl hc t (by omega)) hT
 have main : ∀ (d c : Nat), c + d = 2 ^ p.toNat → Ev (fun k => spec_ClashOk.l0 k t (c : Int) p H) (anyF (fun c => saysB H c t && saysB H (2 ^ p.toNat - 1 - c) t) d (c : Int)) := by
  intro d
  induction d with
  | zero =>
   intro c h
   have no : ¬ (c : Int) < 2 ^ p.toNat := by rw [← m.1]; omega
   refine Ev.step (f := fun k => (spec_TermOk.f k p H t).bind fun b => (if b = true then (if 0 ≤ p then (spec_ClashOk.j1 k t (c : Int) (decide ((c : Int) < (shl .i64 1 p))) p H) else (none)) else (spec_ClashOk.j1 k t (c : Int) false p H))) (fun k => by rw [spec_ClashOk.l0]) (Ev.bind st ?_)
   simp only [if_true, if_pos (show 0 ≤ p by omega), shl1 q.1 q.2, decide_eq_false no]
   exact Ev.step (fun k => by rw [spec_ClashOk.j1, if_neg (by decide)]) (Ev.now false)
  | succ d ih =>
   intro c h
   have e := ih (c + 1) (by omega)
   have lt : (c : Int) < 2 ^ p.toNat := by rw [← m.1]; omega
   have co := co_range (p := p) (c := (c : Int)) (by omega) lt
   have w1 := Aside0.mk (show wrap64 ((c : Int) + 1) = ((c + 1 : Nat) : Int) by rw [wz (by omega) (by omega)]; omega)
   have w2 := Aside0.mk (show wrap64 (wrap64 ((2 : Int) ^ p.toNat - 1) - (c : Int)) = 2 ^ p.toNat - 1 - (c : Int) by rw [wz (x := (2 : Int) ^ p.toNat - 1) (by omega) (by omega)]; exact wz (by omega) (by omega))
   rw [anyF, show ((c : Int) + 1) = ((c + 1 : Nat) : Int) by omega]
   refine Ev.step (f := fun k => (spec_TermOk.f k p H t).bind fun b => (if b = true then (if 0 ≤ p then (spec_ClashOk.j1 k t (c : Int) (decide ((c : Int) < (shl .i64 1 p))) p H) else (none)) else (spec_ClashOk.j1 k t (c : Int) false p H))) (fun k => by rw [spec_ClashOk.l0]) (Ev.bind st ?_)
   simp only [if_true, if_pos (show 0 ≤ p by omega), shl1 q.1 q.2, decide_eq_true lt]
   refine Ev.step (f := fun k => (spec_l4Says.f k p H t (c : Int)).bind fun a => (if a = true then ((spec_l4Says.f k p H t (2 ^ p.toNat - 1 - (c : Int))).bind fun b => (if b = true then (some true) else (spec_ClashOk.l0 k t ((c + 1 : Nat) : Int) p H))) else (spec_ClashOk.l0 k t ((c + 1 : Nat) : Int) p H))) (fun k => by rw [spec_ClashOk.j1, if_pos rfl, shl1 q.1 q.2, w1.out, w2.out]; simp only [if_pos (show 0 ≤ p by omega)]) (Ev.bind (l4Says_ev p H (c : Int) t hT (by omega) (by omega)) ?_)
   cases saysB H (c : Int) t with
   | false => simp only [Bool.false_eq_true, if_false, Bool.false_and, Bool.false_or]; exact e
   | true =>
    simp only [if_true, Bool.true_and]
    refine Ev.bind (l4Says_ev p H _ t hT co.1 (by omega)) ?_
    cases saysB H (2 ^ p.toNat - 1 - (c : Int)) t with
    | true => simp only [if_true, Bool.true_or]; exact Ev.now _
    | false => simp only [Bool.false_eq_true, if_false, Bool.false_or]; exact e
 exact main _ 0 (by omega)
end
theorem clash_l1 (ok : Bool) (L : List Int) (i : Nat) (hi : i < L.length) (hn : L.length ≤ 1000) {r : Bool} : ∀ (d j : Nat) (acc : Bool), j + d = i → (Ev (fun k => laws_FnClashOk.l1 k ok L (acc || pairB L i d j) (i : Int) (i : Int)) r) → Ev (fun k => laws_FnClashOk.l1 k ok L acc (i : Int) (j : Int)) r := by
 intro d
 induction d with
 | zero =>
  intro j acc h e
  rw [show (j : Int) = (i : Int) by omega]
  simpa [pairB] using e
 | succ d ih =>
  intro j acc h e
  have w1 := Aside0.mk (show wrap64 ((j : Int) + 1) = ((j + 1 : Nat) : Int) by rw [wz (by omega) (by omega)]; omega)
  rw [pairB] at e
  cases acc with
  | true => exact Ev.step (fun k => by rw [laws_FnClashOk.l1, if_pos (by omega), if_pos rfl, w1.out]) (ih (j + 1) true (by omega) (by simpa using e))
  | false => exact Ev.step (fun k => by rw [laws_FnClashOk.l1, if_pos (by omega), if_neg (by decide), if_pos (by omega), if_pos (by omega), if_pos (by omega), if_pos (by omega), rdn, rdn, w1.out]) (ih (j + 1) _ (by omega) (by simpa using e))
theorem clash_l0 (ok : Bool) (L : List Int) (hn : L.length ≤ 1000) : ∀ (d i : Nat) (acc : Bool), i + d = L.length → (acc || pairsB L d i) = ok → Ev (fun k => laws_FnClashOk.l0 k ok L acc (i : Int)) true := by
 intro d
 induction d with
 | zero =>
  intro i acc h e
  have e : acc = ok := by simpa [pairsB] using e
  subst e
  refine Ev.step (f := fun _ => laws_alive.f.bind fun t => some t) (fun k => by rw [laws_FnClashOk.l0, if_neg (by omega), if_pos (by simp)]) ?_
  rw [alive_eq]
  exact Ev.now _
 | succ d ih =>
  intro i acc h e
  have w1 := Aside0.mk (show wrap64 ((i : Int) + 1) = ((i + 1 : Nat) : Int) by rw [wz (by omega) (by omega)]; omega)
  rw [pairsB, ← Bool.or_assoc] at e
  refine Ev.step (f := fun k => laws_FnClashOk.l1 k ok L acc (i : Int) ((0 : Nat) : Int)) (fun k => by rw [laws_FnClashOk.l0, if_pos (by omega)]; rfl) (clash_l1 ok L i (by omega) hn i 0 acc (by omega) ?_)
  exact Ev.step (fun k => by rw [laws_FnClashOk.l1, if_neg (by omega), w1.out]) (ih (i + 1) _ (by omega) e)
theorem FnClashOk : laws_FnClashOk.Pure := by
 intro l _ _ hw
 refine Ev.rounds ?_
 unfold laws_FnClashOk.f
 by_cases hbig : (l.length : Int) > 1048576
 ·simp only [if_pos hbig]
  exact Ev.now _
 simp only [if_neg hbig]
 obtain ⟨s, hO, hs, hls⟩ := open_some hw
 obtain ⟨p, H, t, q, hdr, hH, ht⟩ := oddterm_ev hs hls
 have hH1 := hH.1
 have hHl : H.length ≤ 1048576 := by omega
 have dr : Ev (fun k => spec_DrawClashOk.f k l) (p, H, t) := by
  unfold spec_DrawClashOk.f
  simp only [hO, Option.bind_some]
  exact Ev.bind hdr (Ev.now _)
 refine Ev.bind dr ?_
 have st := spec_TermOk_ev p H hHl hH.2 t (by omega)
 have sti := impl_isTerm_ev p H hHl t (by omega)
 cases hT : TmB p H t with
 | false =>
  rw [hT] at st sti
  have e1 : Ev (fun k => impl_ClashOk.f k p H t) false := by
   unfold impl_ClashOk.f
   refine Ev.bind sti ?_
   simp only [Bool.false_eq_true, if_false]
   exact Ev.now _
  have e2 : Ev (fun k => spec_ClashOk.f k p H t) false := by
   unfold spec_ClashOk.f
   refine Ev.step (f := fun k => (spec_TermOk.f k p H t).bind fun b => (if b = true then (if 0 ≤ p then (spec_ClashOk.j1 k t 0 (decide ((0 : Int) < (shl .i64 1 p))) p H) else (none)) else (spec_ClashOk.j1 k t 0 false p H))) (fun k => by rw [spec_ClashOk.l0]) (Ev.bind st ?_)
   simp only [Bool.false_eq_true, if_false]
   exact Ev.step (fun k => by rw [spec_ClashOk.j1, if_neg (by decide)]) (Ev.now false)
  refine Ev.bind e1 (Ev.bind e2 ?_)
  simp only [bne_self_eq_false, Bool.false_eq_true, if_false]
  refine Ev.bind st ?_
  simp only [Bool.false_eq_true, if_false, alive_eq, Option.bind_some]
  exact Ev.now _
 | true =>
  rw [hT] at st sti
  have cp := clash_pairs hT
  have eL := leastConsents_ev hT (by omega) hHl
  have lL := len_least (fun c => saysB H c t) (Mp hT).2
  refine Ev.bind (clash_impl hT ht hHl) (Ev.bind (clash_spec hT ht hHl hH.2) ?_)
  simp only [bne_self_eq_false, Bool.false_eq_true, if_false]
  refine Ev.bind st ?_
  simp only [if_true]
  refine Ev.bind eL ?_
  exact clash_l0 _ (leastF (fun c => saysB H c t) (2 ^ p.toNat)) (by omega) (leastF (fun c => saysB H c t) (2 ^ p.toNat)).length 0 false (by omega) (by rw [Bool.false_or]; exact cp)

end Go.Proofs.Ytaddlahbahedeaa.Pure
