/- The law FnAfterDeaths is true: for every code the program's AfterDeaths and the reference's answer alike at the drawn court and people; in two halves it comes to the same, and when all die nobody lives, every office is vacant, and as many died as lived. Conditions: none. -/
import Derived.Test.YtlpjkeejflogjaaQFnAfterDeathsx16
namespace Go.Proofs.Ytlpjkeejflogjaa.Pure
open Go.RowKit Go.Proofs.Ytlpjkeejflogjaa.QFnAfterDeaths Go.Proofs.YtlpjkeejflogjaaW.PrintWords Go.Proofs.YtlpjkeejflogjaaW.PrintLast
set_option linter.unusedVariables false
set_option linter.unusedSimpArgs false

theorem w64 {x : Int} (h0 : -9223372036854775808 ≤ x) (h1 : x ≤ 9223372036854775807) : wrap64 x = x := by unfold wrap64; omega

theorem xor_nn {a b : Int} (ha : 0 ≤ a) (ha1 : a < 9223372036854775808) (hb : 0 ≤ b) (hb1 : b < 9223372036854775808) : 0 ≤ Go.bits .xor .i64 a b := by
 obtain ⟨m, rfl⟩ := Int.eq_ofNat_of_zero_le ha
 obtain ⟨n, rfl⟩ := Int.eq_ofNat_of_zero_le hb
 have hm : m < 2 ^ 63 := by omega
 have hn : n < 2 ^ 63 := by omega
 have hx := Nat.xor_lt_two_pow hm hn
 simp only [Go.bits, BitVec.ofInt_natCast, BitVec.toNat_xor, BitVec.toNat_ofNat]
 have e1 : m % 2 ^ IntKind.i64.bits = m := Nat.mod_eq_of_lt (by simp only [IntKind.bits]; omega)
 have e2 : n % 2 ^ IntKind.i64.bits = n := Nat.mod_eq_of_lt (by simp only [IntKind.bits]; omega)
 rw [e1, e2, IntKind.wrap_i64]
 omega

theorem rd_range {s : List Int} (hs : ∀ x ∈ s, (Lit.int .u8 x).wf = true) (i : Int) : 0 ≤ rd s i ∧ rd s i ≤ 255 := by
 unfold rd
 by_cases h : i.toNat < s.length
 ·have := hs _ (List.getElem_mem h)
  rw [List.getD_eq_getElem?_getD, List.getElem?_eq_getElem h]
  simp [Lit.wf, IntKind.min, IntKind.max, IntKind.bits, IntKind.signed] at this
  simp
  omega
 ·rw [List.getD_eq_getElem?_getD, List.getElem?_eq_none (by omega)]
  simp
theorem tmod_range {a n : Int} (ha : 0 ≤ a) (hn : 0 < n) : 0 ≤ Int.tmod a n ∧ Int.tmod a n < n := by
 rw [Int.tmod_eq_emod_of_nonneg ha]
 exact ⟨Int.emod_nonneg _ (by omega), Int.emod_lt_of_pos _ hn⟩
theorem tdiv_range {a n : Int} (ha : 0 ≤ a) (hn : 0 < n) : 0 ≤ Int.tdiv a n ∧ Int.tdiv a n ≤ a := by
 rw [Int.tdiv_eq_ediv_of_nonneg ha]
 exact ⟨Int.ediv_nonneg ha (by omega), Int.ediv_le_self _ ha⟩

theorem pick_some {s : List Int} (hs : ∀ x ∈ s, (Lit.int .u8 x).wf = true) (hl : s.length ≤ 2000) (p n : Int) (hp0 : 0 ≤ p) (hp : p ≤ 1000000) (k : Nat) (hk : 0 < k) :
  ∃ r, spec_l20Rd_pick.f k s p n = some (r, p + 1) ∧ 0 ≤ r ∧ (0 < n → r < n) ∧ (n ≤ 0 → r = 0) := by
 obtain ⟨k, rfl⟩ : ∃ m, k = m + 1 := ⟨k - 1, by omega⟩
 have e1 : wrap64 (p + 1) = p + 1 := w64 (by omega) (by omega)
 have e2 : wrap64 (p + 1 - 1) = p := by rw [Int.add_sub_cancel]; exact w64 (by omega) (by omega)
 unfold spec_l20Rd_pick.f
 by_cases hn : n < 1
 ·rw [if_pos hn]
  refine ⟨0, ?_, Int.le_refl 0, fun h => by omega, fun _ => rfl⟩
  simp only [spec_l20Rd_pick.j0, e1, if_true]
 rw [if_neg hn]
 by_cases h0 : s.length = 0
 ·have : ((s.length : Int) == 0) = true := by rw [h0]; rfl
  refine ⟨0, ?_, Int.le_refl 0, fun h => h, fun _ => rfl⟩
  rw [this]
  simp only [spec_l20Rd_pick.j0, e1, if_true]
 have hb : ((s.length : Int) == 0) = false := by simp; intro h; rw [h] at h0; exact h0 rfl
 rw [hb]
 simp only [spec_l20Rd_pick.j0, e1, e2]
 rw [if_neg (by decide)]
 have hn0 : ¬ n = 0 := by omega
 by_cases hlt : p < (s.length : Int)
 ·rw [if_pos hlt, if_pos hp0, if_neg hn0]
  have hr := rd_range hs p
  have e3 : wrap64 (rd s p) = rd s p := w64 (by omega) (by omega)
  rw [e3]
  have := tmod_range hr.1 (show 0 < n by omega)
  exact ⟨_, rfl, this.1, fun _ => this.2, fun h => by omega⟩
 rw [if_neg hlt, if_neg (show ¬ (s.length : Int) = 0 by omega)]
 have hL : 0 < (s.length : Int) := by omega
 have t1 := tmod_range hp0 hL
 have f1 : wrap64 (p * 7) = p * 7 := w64 (by omega) (by omega)
 have f2 : wrap64 (p * 7 + 3) = p * 7 + 3 := w64 (by omega) (by omega)
 have t2 := tmod_range (show 0 ≤ p * 7 + 3 by omega) hL
 rw [f1, f2]
 rw [if_pos t1.1, if_pos t1.2, if_pos t2.1, if_pos t2.2, if_neg hn0]
 have r1 := rd_range hs (Int.tmod p s.length)
 have r2 := rd_range hs (Int.tmod (p * 7 + 3) s.length)
 generalize rd s (Int.tmod p s.length) = x at r1 ⊢
 generalize rd s (Int.tmod (p * 7 + 3) s.length) = y at r2 ⊢
 have d1 := tdiv_range hp0 hL
 generalize Int.tdiv p s.length = q at d1 ⊢
 rw [show wrap64 x = x from w64 (by omega) (by omega), show wrap64 y = y from w64 (by omega) (by omega)]
 rw [show wrap64 (x * 131) = x * 131 from w64 (by omega) (by omega), show wrap64 (y * 1117) = y * 1117 from w64 (by omega) (by omega), show wrap64 (p * 29) = p * 29 from w64 (by omega) (by omega), show wrap64 q = q from w64 (by omega) (by omega)]
 rw [show wrap64 (q * 53) = q * 53 from w64 (by omega) (by omega), show wrap64 (x * 131 + y * 1117) = x * 131 + y * 1117 from w64 (by omega) (by omega)]
 rw [show wrap64 (x * 131 + y * 1117 + p * 29) = x * 131 + y * 1117 + p * 29 from w64 (by omega) (by omega)]
 rw [show wrap64 (x * 131 + y * 1117 + p * 29 + q * 53) = x * 131 + y * 1117 + p * 29 + q * 53 from w64 (by omega) (by omega)]
 have hz : 0 ≤ x * 131 + y * 1117 + p * 29 + q * 53 ∧ x * 131 + y * 1117 + p * 29 + q * 53 < 1000000000 := by omega
 generalize x * 131 + y * 1117 + p * 29 + q * 53 = z at hz ⊢
 have d2 := tdiv_range hz.1 (show (0 : Int) < 64 by decide)
 rw [show wrap64 (Int.tdiv z 64) = Int.tdiv z 64 from w64 (by omega) (by omega)]
 have hx := xor_nn hz.1 (by omega) d2.1 (by omega)
 have := tmod_range hx (show 0 < n by omega)
 exact ⟨_, rfl, this.1, fun _ => this.2, fun h => by omega⟩

theorem odd_some {s : List Int} (hs : ∀ x ∈ s, (Lit.int .u8 x).wf = true) (hl : s.length ≤ 2000) (p n : Int) (hp0 : 0 ≤ p) (hp : p ≤ 1000000) (k : Nat) (hk : 0 < k) :
  ∃ b q, spec_l20Rd_odd.f k s p n = some (b, q) ∧ p ≤ q ∧ q ≤ p + 1 ∧ (n ≤ 0 → b = false) := by
 unfold spec_l20Rd_odd.f
 by_cases h : n > 0
 ·rw [if_pos h]
  obtain ⟨r, e, _⟩ := pick_some hs hl p n hp0 hp k hk
  rw [e]
  exact ⟨_, _, rfl, by show p ≤ p + 1; omega, Int.le_refl _, by omega⟩
 ·rw [if_neg h]
  exact ⟨_, _, rfl, by omega, by omega, fun _ => rfl⟩

theorem open_some {l : List Int} (hs : ∀ x ∈ l, (Lit.int .u8 x).wf = true) : ∃ s, spec_l20Open.f l = some (s, 0) ∧ (∀ x ∈ s, (Lit.int .u8 x).wf = true) ∧ s.length ≤ 2000 := by
 unfold spec_l20Open.f
 by_cases h : (l.length : Int) > 2000
 ·rw [if_pos h, if_pos (by omega)]
  exact ⟨_, rfl, fun x hx => hs x (List.mem_of_mem_take hx), by simp <;> omega⟩
 ·rw [if_neg h]
  exact ⟨_, rfl, hs, by omega⟩

theorem wz {x : Int} (h0 : -9223372036854775808 ≤ x) (h1 : x ≤ 9223372036854775807) : wrap64 x = x := by unfold wrap64; omega
theorem wsucc {i n : Nat} (h : i < n) (hn : n ≤ 9223372036854775807) : wrap64 ((i : Int) + 1) = ((i + 1 : Nat) : Int) := by rw [wz (by omega) (by omega)]; omega
theorem dnil {α : Type} {xs : List α} {i : Nat} (h : xs.drop i = []) : ¬ ((i : Int) < (xs.length : Int)) := by
 have := List.drop_eq_nil_iff.1 h
 omega
theorem dcons {α : Type} {xs : List α} {i : Nat} {y : α} {ys : List α} (h : xs.drop i = y :: ys) : i < xs.length ∧ (∀ d, xs.getD i d = y) ∧ xs.drop (i + 1) = ys := by
 have hl : i < xs.length := by
  rcases Nat.lt_or_ge i xs.length with h1 | h1
  ·exact h1
  ·rw [List.drop_eq_nil_iff.2 h1] at h
   cases h
 have e := List.drop_eq_getElem_cons hl
 rw [h] at e
 injection e with e1 e2
 exact ⟨hl, fun d => by rw [List.getD_eq_getElem?_getD, List.getElem?_eq_getElem hl]; exact e1.symm, e2.symm⟩
theorem rdn (xs : List Int) (i : Nat) : rd xs (i : Int) = xs.getD i 0 := by simp [rd]
theorem Ev.to {α : Type} {g : Nat → Option α} {r s : α} (h : Ev g r) (e : r = s) : Ev g s := e ▸ h

theorem pick_ev {s : List Int} (hs : ∀ x ∈ s, (Lit.int .u8 x).wf = true) (hl : s.length ≤ 2000) (p n : Int) (hp0 : 0 ≤ p) (hp : p ≤ 1000000) :
  ∃ r, Ev (fun k => spec_l20Rd_pick.f k s p n) (r, p + 1) ∧ 0 ≤ r ∧ (0 < n → r < n) ∧ (n ≤ 0 → r = 0) := by
 obtain ⟨r, h, h1⟩ := pick_some hs hl p n hp0 hp 1 (by decide)
 exact ⟨r, Ev.of (fun k => spec_l20Rd_pick.mono _ _ _ k) h, h1⟩
theorem odd_ev {s : List Int} (hs : ∀ x ∈ s, (Lit.int .u8 x).wf = true) (hl : s.length ≤ 2000) (p n : Int) (hp0 : 0 ≤ p) (hp : p ≤ 1000000) :
  ∃ b q, Ev (fun k => spec_l20Rd_odd.f k s p n) (b, q) ∧ p ≤ q ∧ q ≤ p + 1 ∧ (n ≤ 0 → b = false) := by
 obtain ⟨b, q, h, h1⟩ := odd_some hs hl p n hp0 hp 1 (by decide)
 exact ⟨b, q, Ev.of (fun k => spec_l20Rd_odd.mono _ _ _ k) h, h1⟩

def CrB (p a : Int) : Bool := decide (1 ≤ p ∧ p ≤ 6 ∧ 0 ≤ a ∧ a < 2 ^ p.toNat)
theorem shl1 {p : Int} (h0 : 1 ≤ p) (h1 : p ≤ 6) : shl .i64 1 p = 2 ^ p.toNat := by
 have : p = 1 ∨ p = 2 ∨ p = 3 ∨ p = 4 ∨ p = 5 ∨ p = 6 := by omega
 rcases this with rfl | rfl | rfl | rfl | rfl | rfl <;> decide +kernel
theorem pow_small {p : Int} (h0 : 1 ≤ p) (h1 : p ≤ 6) : (2 : Int) ≤ 2 ^ p.toNat ∧ (2 : Int) ^ p.toNat ≤ 64 := by
 have : p = 1 ∨ p = 2 ∨ p = 3 ∨ p = 4 ∨ p = 5 ∨ p = 6 := by omega
 rcases this with rfl | rfl | rfl | rfl | rfl | rfl <;> decide
theorem impl_isCrowd_eq (p a : Int) : impl_isCrowd.f p a = some (CrB p a) := by
 unfold impl_isCrowd.f impl_arePeople.f CrB
 by_cases h1 : p ≥ 1
 ·by_cases h2 : p ≤ 6
  ·by_cases h3 : a ≥ 0
   ·have h0 : 0 ≤ p := by omega
    simp [h1, h2, h3, h0, shl1 h1 h2]
   ·simp [h1, h2, h3]
  ·simp [h1, h2]
 ·simp [h1]
theorem CrB_of {p a : Int} (h : CrB p a = true) : 1 ≤ p ∧ p ≤ 6 ∧ 0 ≤ a ∧ a < 2 ^ p.toNat := of_decide_eq_true h

theorem l1In_eq2 (a b c : Int) : spec_l1In.f a b c = some (decide (b ≤ a ∧ a ≤ c)) := by
 unfold spec_l1In.f
 by_cases h : b ≤ a
 ·simp [h]
 ·simp [h]
theorem spec_CrowdOk_eq (p a : Int) : spec_CrowdOk.f p a = some (CrB p a) := by
 unfold spec_CrowdOk.f CrB
 simp only [l1In_eq2, Option.bind_some]
 by_cases h : 1 ≤ p ∧ p ≤ 6
 ·have hp := pow_small h.1 h.2
  simp only [decide_eq_true h, if_true, if_pos (show 0 ≤ p by omega), shl1 h.1 h.2]
  rw [wz (by omega) (by omega)]
  congr 1
  rw [decide_eq_decide]
  omega
 ·simp only [decide_eq_false h, Bool.false_eq_true, if_false]
  congr 1
  symm
  rw [decide_eq_false_iff_not]
  omega

theorem rdL1n (xs : List (List Int)) (i : Nat) : rd_L1 xs (i : Int) = xs.getD i [] := by simp [rd_L1]
def firstAt {α : Type} (p : α → Bool) : List α → Nat → Int
 | [], _ => -1
 | y :: ys, i => if p y then (i : Int) else firstAt p ys (i + 1)
theorem firstAt_any {α : Type} (p : α → Bool) : ∀ (ys : List α) (i : Nat), decide (firstAt p ys i ≥ 0) = ys.any p := by
 intro ys
 induction ys with
 | nil => intro i; simp [firstAt]
 | cons y ys ih =>
  intro i
  unfold firstAt
  cases h : p y with
  | true => simp [h]
  | false => simp [h, ih]
def has (xs : List Int) (w : Int) : Bool := xs.any fun x => decide (w = x)
theorem Index_int_l0 (xs : List Int) (w : Int) (hn : xs.length ≤ 9223372036854775807) : ∀ (zs : List Int) (i : Nat), xs.drop i = zs → Ev (fun k => slices_Index_int_int.l0 k xs w (xs.length : Int) (i : Int)) (firstAt (fun x => decide (w = x)) zs i) := by
 intro zs
 induction zs with
 | nil =>
  intro i h
  exact Ev.step (f := fun _ => some (-1)) (fun k => by rw [slices_Index_int_int.l0, if_neg (dnil h)]) (Ev.now _)
 | cons z zs ih =>
  intro i h
  obtain ⟨h1, h2, h3⟩ := dcons h
  have e := ih (i + 1) h3
  refine Ev.step (f := fun k => if w = z then (some (i : Int)) else (slices_Index_int_int.l0 k xs w (xs.length : Int) ((i + 1 : Nat) : Int))) (fun k => ?_) ?_
  ·rw [slices_Index_int_int.l0, if_pos (by omega), if_pos (by omega), if_pos (by omega), rdn, h2, wsucc h1 hn]
  ·unfold firstAt
   by_cases hb : w = z
   ·simp only [hb, if_true, decide_true]; exact Ev.now _
   ·simp only [if_neg hb, decide_eq_false hb, Bool.false_eq_true, if_false]; exact e
theorem Index_int_ev (xs : List Int) (w : Int) (hn : xs.length ≤ 9223372036854775807) : Ev (fun k => slices_Index_int_int.f k xs w) (firstAt (fun x => decide (w = x)) xs 0) := Index_int_l0 xs w hn xs 0 rfl
theorem Contains_int_ev (xs : List Int) (w : Int) (hn : xs.length ≤ 9223372036854775807) : Ev (fun k => slices_Contains_int_int.f k xs w) (has xs w) := by
 unfold slices_Contains_int_int.f
 exact Ev.bind (Index_int_ev xs w hn) (Ev.to (Ev.now _) (firstAt_any _ _ _))
def lv (p a w : Int) : Bool := decide (0 ≤ w ∧ w < p) && decide (a / 2 ^ w.toNat % 2 = 1)
theorem shr_eq {a w : Int} (h0 : 0 ≤ w) (h1 : w < 6) : shr .i64 a w = a / 2 ^ w.toNat := by
 unfold shr
 rw [Nat.min_eq_left (by simp only [IntKind.bits]; omega)]
theorem div_pow_range {a : Int} (n : Nat) (h0 : 0 ≤ a) (h1 : a < 64) : 0 ≤ a / 2 ^ n ∧ a / 2 ^ n < 64 := by
 have hp : (0 : Int) < 2 ^ n := Int.pow_pos (by decide)
 exact ⟨Int.ediv_nonneg h0 (Int.le_of_lt hp), Int.lt_of_le_of_lt (Int.ediv_le_self _ h0) h1⟩
theorem and_one : ∀ n : Fin 64, Go.bits .and .i64 (n.val : Int) 1 = (n.val : Int) % 2 := by decide +kernel
theorem lives_eq (p : Int) (L : List (List Int)) (H : List Int) (a w : Int) (hp : p ≤ 6) (h0 : 0 ≤ a) (h1 : a < 64) : impl_lives.f p L H a w = some (lv p a w) := by
 unfold impl_lives.f lv
 by_cases hw : w ≥ 0
 ·by_cases hw2 : w < p
  ·have r := div_pow_range w.toNat h0 h1
   obtain ⟨n, hn⟩ := Int.eq_ofNat_of_zero_le r.1
   have e := and_one ⟨n, by omega⟩
   rw [if_pos hw, if_pos hw2, if_pos hw, shr_eq hw (by omega), hn, e]
   rw [decide_eq_true (show 0 ≤ w ∧ w < p from ⟨hw, hw2⟩)]
   rfl
  ·rw [if_pos hw, if_neg hw2, decide_eq_false (by omega)]
   rfl
 ·rw [if_neg hw, decide_eq_false (by omega)]
  rfl
def okF (p : Int) : List Int → List Int → Bool
 | _, [] => true
 | pre, w :: ws => decide (0 ≤ w ∧ w < p) && !has pre w && okF p (pre ++ [w]) ws
def hoF (p a : Int) : List Int → List Int → Bool
 | _, [] => true
 | pre, h :: hs => (decide (h = -1) || (lv p a h && !has pre h)) && hoF p a (pre ++ [h]) hs
def CtB (p : Int) (L : List (List Int)) (H : List Int) (a : Int) : Bool := CrB p a && decide ((L.length : Int) ≤ 3) && decide ((H.length : Int) = (L.length : Int)) && L.all (okF p []) && hoF p a [] H
theorem take_dcons {α : Type} {xs : List α} {i : Nat} {y : α} {ys : List α} (h : xs.drop i = y :: ys) : xs.take (i + 1) = xs.take i ++ [y] := by
 obtain ⟨h1, h2, h3⟩ := dcons h
 rw [List.take_succ_eq_append_getElem h1]
 have := h2 y
 rw [List.getD_eq_getElem?_getD, List.getElem?_eq_getElem h1] at this
 rw [show xs[i] = y from by simpa using this]
section
variable (p : Int) (L : List (List Int)) (H : List Int) (a : Int)
theorem court_l2 (hc : CrB p a = true) (hH : H.length ≤ 1000) : ∀ (zs : List Int) (i : Nat), H.drop i = zs → Ev (fun k => impl_isCourt.l2 k H (H.length : Int) (i : Int) p L H a) (hoF p a (H.take i) zs) := by
 have c := CrB_of hc
 have hp := pow_small c.1 c.2.1
 intro zs
 induction zs with
 | nil =>
  intro i h
  exact Ev.step (f := fun _ => some true) (fun k => by rw [impl_isCourt.l2, if_neg (dnil h)]) (Ev.to (Ev.now _) (by simp [hoF]))
 | cons z zs ih =>
  intro i h
  obtain ⟨h1, h2, h3⟩ := dcons h
  have e := ih (i + 1) h3
  have hi1 : (i : Int) < (H.length : Int) := by omega
  have hi0 : 0 ≤ (i : Int) := by omega
  rw [take_dcons h] at e
  by_cases hz : z = -1
  ·refine Ev.step (f := fun k => impl_isCourt.l2 k H (H.length : Int) ((i + 1 : Nat) : Int) p L H a) (fun k => ?_) (Ev.to e (by simp [hoF, hz]))
   rw [impl_isCourt.l2, if_pos hi1, if_pos hi0, if_pos hi1, rdn, h2, if_pos hz, wsucc h1 (by omega)]
  ·cases hl : lv p a z with
   | false =>
    refine Ev.step (f := fun _ => some false) (fun k => ?_) (Ev.to (Ev.now _) (by simp [hoF, hz, hl]))
    rw [impl_isCourt.l2, if_pos hi1, if_pos hi0, if_pos hi1, rdn, h2, if_neg hz, lives_eq p L H a z c.2.1 c.2.2.1 (by omega), hl]
    rfl
   | true =>
    refine Ev.step (f := fun k => (slices_Contains_int_int.f k (H.take i) z).bind fun t => (if t = true then (some false) else (impl_isCourt.l2 k H (H.length : Int) ((i + 1 : Nat) : Int) p L H a))) (fun k => ?_) (Ev.bind (Contains_int_ev _ z (by simp <;> omega)) ?_)
    ·rw [impl_isCourt.l2, if_pos hi1, if_pos hi0, if_pos hi1, rdn, h2, if_neg hz, lives_eq p L H a z c.2.1 c.2.2.1 (by omega), hl]
     simp only [Option.bind_some, if_true]
     rw [if_pos (by omega), wsucc h1 (by omega)]
     rfl
    ·cases hh : has (H.take i) z with
     | true => simp only [if_true]; exact Ev.to (Ev.now _) (by simp [hoF, hz, hl, hh])
     | false => simp only [Bool.false_eq_true, if_false]; exact Ev.to e (by simp [hoF, hz, hl, hh])
theorem court_l1 (line : List Int) (hn : line.length ≤ 1048576) (x : Nat) (r : Bool) (c : Ev (fun k => impl_isCourt.l0 k L (L.length : Int) ((x + 1 : Nat) : Int) p L H a) r) (hx : x < 1000) :
  ∀ (zs : List Int) (i : Nat), line.drop i = zs → Ev (fun k => impl_isCourt.l1 k line L (L.length : Int) (x : Int) line (line.length : Int) (i : Int) p L H a) (okF p (line.take i) zs && r) := by
 intro zs
 induction zs with
 | nil =>
  intro i h
  refine Ev.step (f := fun k => impl_isCourt.l0 k L (L.length : Int) ((x + 1 : Nat) : Int) p L H a) (fun k => ?_) (Ev.to c (by simp [okF]))
  rw [impl_isCourt.l1, if_neg (dnil h), wz (by omega) (by omega)]
  rfl
 | cons z zs ih =>
  intro i h
  obtain ⟨h1, h2, h3⟩ := dcons h
  have e := ih (i + 1) h3
  have hi1 : (i : Int) < (line.length : Int) := by omega
  have hi0 : 0 ≤ (i : Int) := by omega
  rw [take_dcons h] at e
  by_cases hz : z < 0
  ·refine Ev.step (f := fun _ => some false) (fun k => ?_) (Ev.to (Ev.now _) (by simp [okF]; omega))
   rw [impl_isCourt.l1, if_pos hi1, if_pos hi0, if_pos hi1, rdn, h2, if_pos hz]
  ·by_cases hz2 : z ≥ p
   ·refine Ev.step (f := fun _ => some false) (fun k => ?_) (Ev.to (Ev.now _) (by simp [okF]; omega))
    rw [impl_isCourt.l1, if_pos hi1, if_pos hi0, if_pos hi1, rdn, h2, if_neg hz, if_pos hz2]
   ·have hr : decide (0 ≤ z ∧ z < p) = true := decide_eq_true (by omega)
    refine Ev.step (f := fun k => (slices_Contains_int_int.f k (line.take i) z).bind fun t => (if t = true then (some false) else (impl_isCourt.l1 k line L (L.length : Int) (x : Int) line (line.length : Int) ((i + 1 : Nat) : Int) p L H a))) (fun k => ?_) (Ev.bind (Contains_int_ev _ z (by simp <;> omega)) ?_)
    ·rw [impl_isCourt.l1, if_pos hi1, if_pos hi0, if_pos hi1, rdn, h2, if_neg hz, if_neg hz2, if_pos (by omega), wsucc h1 (by omega)]
     rfl
    ·cases hh : has (line.take i) z with
     | true => simp only [if_true]; exact Ev.to (Ev.now _) (by simp [okF, hh])
     | false => simp only [Bool.false_eq_true, if_false]; exact Ev.to e (by simp only [okF, hh, hr, Bool.not_false, Bool.and_self, Bool.true_and])
theorem court_l0 (hc : CrB p a = true) (hH : H.length ≤ 1000) (hL : L.length ≤ 3) (hin : ∀ l ∈ L, l.length ≤ 1048576) : ∀ (zs : List (List Int)) (i : Nat), L.drop i = zs → Ev (fun k => impl_isCourt.l0 k L (L.length : Int) (i : Int) p L H a) (zs.all (okF p []) && hoF p a [] H) := by
 intro zs
 induction zs with
 | nil =>
  intro i h
  refine Ev.step (f := fun k => impl_isCourt.l2 k H (H.length : Int) ((0 : Nat) : Int) p L H a) (fun k => by rw [impl_isCourt.l0, if_neg (dnil h)]; rfl) (Ev.to (court_l2 p L H a hc hH H 0 rfl) (by simp))
 | cons z zs ih =>
  intro i h
  obtain ⟨h1, h2, h3⟩ := dcons h
  have hz : z ∈ L := List.mem_of_mem_drop (by rw [h]; simp)
  have e := court_l1 p L H a z (hin z hz) i _ (ih (i + 1) h3) (by omega) z 0 rfl
  refine Ev.step (f := fun k => impl_isCourt.l1 k z L (L.length : Int) (i : Int) z (z.length : Int) ((0 : Nat) : Int) p L H a) (fun k => ?_) (Ev.to e (by simp [Bool.and_assoc]))
  rw [impl_isCourt.l0, if_pos (by omega), if_pos (by omega), if_pos (by omega), rdL1n, h2]
  rfl
theorem isCourt_ev (hin : ∀ l ∈ L, l.length ≤ 1048576) : Ev (fun k => impl_isCourt.f k p L H a) (CtB p L H a) := by
 have stop : Ev (fun k => impl_isCourt.j0 k true p L H a) false := Ev.step (f := fun _ => some false) (fun k => by rw [impl_isCourt.j0, if_pos rfl]) (Ev.now _)
 unfold impl_isCourt.f CtB
 simp only [impl_isCrowd_eq, Option.bind_some]
 cases hc : CrB p a with
 | false => simp only [Bool.false_eq_true, if_false, Bool.false_and]; exact stop
 | true =>
  simp only [if_true, Bool.true_and]
  by_cases hL : (L.length : Int) > 3
  ·simp only [if_pos hL]
   exact Ev.to stop (by rw [decide_eq_false (by omega)]; simp)
  ·simp only [if_neg hL]
   by_cases hH : (H.length : Int) = (L.length : Int)
   ·rw [show ((H.length : Int) != (L.length : Int)) = false from by rw [hH]; simp]
    refine Ev.step (f := fun k => impl_isCourt.l0 k L (L.length : Int) ((0 : Nat) : Int) p L H a) (fun k => by rw [impl_isCourt.j0, if_neg (by decide)]; rfl) (Ev.to (court_l0 p L H a hc (by omega) (by omega) hin L 0 rfl) ?_)
    rw [decide_eq_true (show (L.length : Int) ≤ 3 by omega), decide_eq_true hH]
    simp
   ·rw [show ((H.length : Int) != (L.length : Int)) = true from by simpa using hH]
    exact Ev.to stop (by rw [decide_eq_false hH]; simp)
end

theorem has_iff (xs : List Int) (w : Int) : has xs w = true ↔ w ∈ xs := by
 unfold has
 rw [List.any_eq_true]
 constructor
 ·rintro ⟨x, hx, e⟩
  have := of_decide_eq_true e
  subst this
  exact hx
 ·intro h
  exact ⟨w, h, by simp⟩
theorem few : ∀ (n : Nat) (l : List Int), l.Nodup → (∀ x ∈ l, 0 ≤ x ∧ x < (n : Int)) → l.length ≤ n := by
 intro n
 induction n with
 | zero =>
  intro l _ h
  cases l with
  | nil => simp
  | cons x l => have := h x (by simp); omega
 | succ n ih =>
  intro l hd h
  have h1 := ih (l.erase (n : Int)) (hd.erase _) (fun x hx => by
   have h2 := h x (List.mem_of_mem_erase hx)
   have h3 := (hd.mem_erase_iff.1 hx).1
   omega)
  have h2 := List.length_erase (a := (n : Int)) (l := l)
  split at h2 <;> omega
theorem okF_nodup (p : Int) : ∀ (ws pre : List Int), okF p pre ws = true → pre.Nodup → (∀ x ∈ pre, 0 ≤ x ∧ x < p) → (pre ++ ws).Nodup ∧ ∀ x ∈ pre ++ ws, 0 ≤ x ∧ x < p := by
 intro ws
 induction ws with
 | nil => intro pre _ h1 h2; simpa using ⟨h1, h2⟩
 | cons w ws ih =>
  intro pre h h1 h2
  unfold okF at h
  simp only [Bool.and_eq_true, decide_eq_true_eq, Bool.not_eq_true'] at h
  have hm : w ∉ pre := fun hw => by rw [(has_iff pre w).2 hw] at h; cases h.1.2
  have := ih (pre ++ [w]) h.2 (by
   rw [List.nodup_append]
   refine ⟨h1, by simp, fun x hx y hy => ?_⟩
   have : y = w := by simpa using hy
   subst this
   rintro rfl
   exact hm hx) (fun x hx => by
   rcases List.mem_append.1 hx with hx | hx
   ·exact h2 x hx
   ·have : x = w := by simpa using hx
    subst this
    exact h.1.1)
  simpa using this
theorem okF_len {p : Int} (hp : p ≤ 6) {l : List Int} (h : okF p [] l = true) : (l.length : Int) ≤ 6 := by
 have := okF_nodup p l [] h (by simp) (by simp)
 have := few 6 l (by simpa using this.1) (fun x hx => by have := this.2 x (by simpa using hx); omega)
 omega
section
variable (p : Int) (L : List (List Int)) (H : List Int) (a : Int)
theorem scourt_l2 (line : List Int) (hn : line.length ≤ 1048576) (x j : Nat) (hx : x < L.length) (hxl : ∀ d, L.getD x d = line) (w : Int) (hj : j < line.length) (hw : ∀ d, line.getD j d = w) (hL : L.length ≤ 3) (r : Bool)
  (c : Ev (fun k => spec_CourtOk.l1 k (x : Int) ((j + 1 : Nat) : Int) p L H a) r) :
  ∀ (zs : List Int) (i : Nat), (line.take j).drop i = zs → Ev (fun k => spec_CourtOk.l2 k (x : Int) (j : Int) (i : Int) p L H a) (!has zs w && r) := by
 intro zs
 induction zs with
 | nil =>
  intro i h
  have hi : j ≤ i := by have := List.drop_eq_nil_iff.1 h; simp at this; omega
  refine Ev.step (f := fun k => spec_CourtOk.l1 k (x : Int) ((j + 1 : Nat) : Int) p L H a) (fun k => ?_) (Ev.to c (by simp [has]))
  rw [spec_CourtOk.l2, if_neg (by omega), wsucc hj (by omega)]
 | cons z zs ih =>
  intro i h
  obtain ⟨h1, h2, h3⟩ := dcons h
  have hij : i < j := by simp at h1; omega
  have hz : ∀ d, line.getD i d = z := by
   intro d
   have := h2 d
   rw [List.getD_eq_getElem?_getD, List.getElem?_take_of_lt hij] at this
   rw [List.getD_eq_getElem?_getD]
   exact this
  have e := ih (i + 1) h3
  have g1 : (i : Int) < (j : Int) := by omega
  have g2 : 0 ≤ (x : Int) := by omega
  have g3 : (x : Int) < (L.length : Int) := by omega
  have g4 : 0 ≤ (i : Int) := by omega
  have g5 : (i : Int) < (line.length : Int) := by omega
  have g6 : 0 ≤ (j : Int) := by omega
  have g7 : (j : Int) < (line.length : Int) := by omega
  by_cases hb : z = w
  ·refine Ev.step (f := fun _ => some false) (fun k => ?_) (Ev.to (Ev.now _) (by simp [has, hb]))
   rw [spec_CourtOk.l2, if_pos g1, if_pos g2, if_pos g3, if_pos g4, rdL1n, hxl, if_pos g5, if_pos g6, if_pos g7, rdn, rdn, hz, hw, if_pos hb]
  ·have hb' : ¬ w = z := fun e => hb e.symm
   refine Ev.step (f := fun k => spec_CourtOk.l2 k (x : Int) (j : Int) ((i + 1 : Nat) : Int) p L H a) (fun k => ?_) (Ev.to e (by simp [has, hb']))
   rw [spec_CourtOk.l2, if_pos g1, if_pos g2, if_pos g3, if_pos g4, rdL1n, hxl, if_pos g5, if_pos g6, if_pos g7, rdn, rdn, hz, hw, if_neg hb, wsucc hij (by omega)]
theorem scourt_l3 (x : Nat) (hx : x < H.length) (w : Int) (hw : ∀ d, H.getD x d = w) (hH : H.length ≤ 3) (r : Bool) (c : Ev (fun k => spec_CourtOk.l0 k ((x + 1 : Nat) : Int) p L H a) r) :
  ∀ (zs : List Int) (i : Nat), (H.take x).drop i = zs → Ev (fun k => spec_CourtOk.l3 k (x : Int) (i : Int) p L H a) ((decide (w = -1) || !has zs w) && r) := by
 intro zs
 induction zs with
 | nil =>
  intro i h
  have hi : x ≤ i := by have := List.drop_eq_nil_iff.1 h; simp at this; omega
  refine Ev.step (f := fun k => spec_CourtOk.l0 k ((x + 1 : Nat) : Int) p L H a) (fun k => ?_) (Ev.to c (by simp [has]))
  rw [spec_CourtOk.l3, if_neg (by omega), wsucc hx (by omega)]
 | cons z zs ih =>
  intro i h
  obtain ⟨h1, h2, h3⟩ := dcons h
  have hij : i < x := by simp at h1; omega
  have hz : ∀ d, H.getD i d = z := by
   intro d
   have := h2 d
   rw [List.getD_eq_getElem?_getD, List.getElem?_take_of_lt hij] at this
   rw [List.getD_eq_getElem?_getD]
   exact this
  have e := ih (i + 1) h3
  have g1 : (i : Int) < (x : Int) := by omega
  have g2 : 0 ≤ (x : Int) := by omega
  have g3 : (x : Int) < (H.length : Int) := by omega
  have g4 : 0 ≤ (i : Int) := by omega
  have g5 : (i : Int) < (H.length : Int) := by omega
  by_cases hv : w = -1
  ·refine Ev.step (f := fun k => spec_CourtOk.l3 k (x : Int) ((i + 1 : Nat) : Int) p L H a) (fun k => ?_) (Ev.to e (by simp [hv]))
   rw [spec_CourtOk.l3, if_pos g1, if_pos g2, if_pos g3, rdn, hw, if_pos hv, wsucc hij (by omega)]
  ·by_cases hb : w = z
   ·refine Ev.step (f := fun _ => some false) (fun k => ?_) (Ev.to (Ev.now _) (by simp [has, hb]; intro h; omega))
    rw [spec_CourtOk.l3, if_pos g1, if_pos g2, if_pos g3, rdn, hw, if_neg hv, if_pos g4, if_pos g5, rdn, hz, if_pos hb]
   ·refine Ev.step (f := fun k => spec_CourtOk.l3 k (x : Int) ((i + 1 : Nat) : Int) p L H a) (fun k => ?_) (Ev.to e (by simp [has, hb]))
    rw [spec_CourtOk.l3, if_pos g1, if_pos g2, if_pos g3, rdn, hw, if_neg hv, if_pos g4, if_pos g5, rdn, hz, if_neg hb, wsucc hij (by omega)]
theorem scourt_l1 (hp1 : 1 ≤ p) (hp6 : p ≤ 6) (line : List Int) (hn : line.length ≤ 1048576) (x : Nat) (hx : x < L.length) (hxl : ∀ d, L.getD x d = line) (hL : L.length ≤ 3) (r : Bool)
  (c : Ev (fun k => if (x : Int) < (H.length : Int) then (if (rd H x) = (-1) then (spec_CourtOk.j5 k x false p L H a) else (if 0 ≤ (rd H x) then (spec_CourtOk.j5 k x ((Int.tmod (shr .i64 a (rd H x)) 2) == 0) p L H a) else (none))) else (none)) r) :
  ∀ (zs : List Int) (j : Nat), line.drop j = zs → Ev (fun k => spec_CourtOk.l1 k (x : Int) (j : Int) p L H a) (okF p (line.take j) zs && r) := by
 have g2 : 0 ≤ (x : Int) := by omega
 have g3 : (x : Int) < (L.length : Int) := by omega
 have wp : wrap64 (p - 1) = p - 1 := wz (by omega) (by omega)
 intro zs
 induction zs with
 | nil =>
  intro j h
  refine Ev.step (fun k => by rw [spec_CourtOk.l1, if_pos g2, if_pos g3, rdL1n, hxl, if_neg (dnil h)]) (Ev.to c (by simp [okF]))
 | cons z zs ih =>
  intro j h
  obtain ⟨h1, h2, h3⟩ := dcons h
  have e := ih (j + 1) h3
  rw [take_dcons h] at e
  have g4 : (j : Int) < (line.length : Int) := by omega
  have g5 : 0 ≤ (j : Int) := by omega
  by_cases hz : 0 ≤ z ∧ z ≤ p - 1
  ·have e2 := scourt_l2 p L H a line hn x j hx hxl z h1 h2 hL _ e (line.take j) 0 rfl
   refine Ev.step (f := fun k => spec_CourtOk.l2 k (x : Int) (j : Int) ((0 : Nat) : Int) p L H a) (fun k => ?_) (Ev.to e2 ?_)
   ·rw [spec_CourtOk.l1, if_pos g2, if_pos g3, rdL1n, hxl, if_pos g4, if_pos g5, rdn, h2, l1In_eq2, wp, decide_eq_true hz]
    rfl
   ·simp only [okF, decide_eq_true (show 0 ≤ z ∧ z < p by omega), Bool.true_and, Bool.and_assoc]
  ·refine Ev.step (f := fun _ => some false) (fun k => ?_) (Ev.to (Ev.now _) ?_)
   ·rw [spec_CourtOk.l1, if_pos g2, if_pos g3, rdL1n, hxl, if_pos g4, if_pos g5, rdn, h2, l1In_eq2, wp, decide_eq_false hz]
    rfl
   ·simp only [okF, decide_eq_false (show ¬ (0 ≤ z ∧ z < p) by omega), Bool.false_and]
theorem lv_spec {w : Int} (hp6 : p ≤ 6) (h0 : 0 ≤ a) (h1 : a < 64) (hw : 0 ≤ w) (hw2 : w < p) : (Int.tmod (shr .i64 a w) 2 == 0) = !lv p a w := by
 have r := div_pow_range w.toNat h0 h1
 rw [shr_eq hw (by omega), Int.tmod_eq_emod_of_nonneg r.1]
 unfold lv
 rw [decide_eq_true (show 0 ≤ w ∧ w < p from ⟨hw, hw2⟩)]
 generalize a / 2 ^ w.toNat = q at *
 by_cases hq : q % 2 = 1
 ·simp [hq]
 ·have : q % 2 = 0 := by omega
  simp [this]
theorem scourt_l0 (hc : CrB p a = true) (hH : H.length = L.length) (hL : L.length ≤ 3) (hin : ∀ l ∈ L, l.length ≤ 1048576) : ∀ (zs : List (List Int)) (i : Nat), L.drop i = zs → Ev (fun k => spec_CourtOk.l0 k (i : Int) p L H a) (zs.all (okF p []) && hoF p a (H.take i) (H.drop i)) := by
 have c := CrB_of hc
 have hp := pow_small c.1 c.2.1
 have wp : wrap64 (p - 1) = p - 1 := wz (by omega) (by omega)
 intro zs
 induction zs with
 | nil =>
  intro i h
  have hd : H.drop i = [] := List.drop_eq_nil_iff.2 (by have := List.drop_eq_nil_iff.1 h; omega)
  refine Ev.step (f := fun _ => some true) (fun k => by rw [spec_CourtOk.l0, if_neg (dnil h)]) (Ev.to (Ev.now _) (by simp [hd, hoF]))
 | cons z zs ih =>
  intro i h
  obtain ⟨h1, h2, h3⟩ := dcons h
  have hz : z ∈ L := List.mem_of_mem_drop (by rw [h]; simp)
  have e := ih (i + 1) h3
  obtain ⟨w, hs, hd⟩ : ∃ w hs, H.drop i = w :: hs := by
   cases hq : H.drop i with
   | nil => have := List.drop_eq_nil_iff.1 hq; omega
   | cons w hs => exact ⟨w, hs, rfl⟩
  obtain ⟨k1, k2, k3⟩ := dcons hd
  rw [take_dcons hd, k3] at e
  have g1 : (i : Int) < (L.length : Int) := by omega
  have g2 : 0 ≤ (i : Int) := by omega
  have g3 : (i : Int) < (H.length : Int) := by omega
  have stop : ∀ k, spec_CourtOk.j2 (k + 1) (i : Int) true p L H a = some false := fun k => by rw [spec_CourtOk.j2, if_pos rfl]
  have stopE : Ev (fun k => spec_CourtOk.j2 k (i : Int) true p L H a) false := Ev.step stop (Ev.now _)
  rw [hd]
  by_cases hl : (z.length : Int) > 6
  ·have hok : okF p [] z = false := by
    cases hq : okF p [] z with
    | false => rfl
    | true => have := okF_len c.2.1 hq; omega
   refine Ev.step (f := fun k => spec_CourtOk.j2 k (i : Int) true p L H a) (fun k => ?_) (Ev.to stopE (by simp [hok]))
   rw [spec_CourtOk.l0, if_pos g1, if_pos g2, rdL1n, h2, if_pos hl]
  ·by_cases hw : -1 ≤ w ∧ w ≤ p - 1
   ·refine Ev.step (f := fun k => spec_CourtOk.j2 k (i : Int) false p L H a) (fun k => ?_) ?_
    ·rw [spec_CourtOk.l0, if_pos g1, if_pos g2, rdL1n, h2, if_neg hl, if_pos g3, rdn, k2, l1In_eq2, wp, decide_eq_true hw]
     rfl
    refine Ev.step (f := fun k => spec_CourtOk.l1 k (i : Int) ((0 : Nat) : Int) p L H a) (fun k => by rw [spec_CourtOk.j2, if_neg (by decide)]; rfl) ?_
    have e3 := scourt_l3 p L H a i k1 w k2 (by omega) _ e (H.take i) 0 rfl
    have e5 : Ev (fun k => if (i : Int) < (H.length : Int) then (if (rd H i) = (-1) then (spec_CourtOk.j5 k i false p L H a) else (if 0 ≤ (rd H i) then (spec_CourtOk.j5 k i ((Int.tmod (shr .i64 a (rd H i)) 2) == 0) p L H a) else (none))) else (none)) ((decide (w = -1) || (lv p a w && !has (H.take i) w)) && (zs.all (okF p []) && hoF p a (H.take i ++ [w]) hs)) := by
     simp only [if_pos g3, rdn, k2]
     have j5 : Ev (fun k => spec_CourtOk.j5 k (i : Int) false p L H a) ((decide (w = -1) || !has (H.take i) w) && (zs.all (okF p []) && hoF p a (H.take i ++ [w]) hs)) :=
      Ev.step (f := fun k => spec_CourtOk.l3 k (i : Int) ((0 : Nat) : Int) p L H a) (fun k => by rw [spec_CourtOk.j5, if_neg (by decide)]; rfl) e3
     by_cases hv : w = -1
     ·simp only [if_pos hv]
      exact Ev.to j5 (by simp [hv])
     ·simp only [if_neg hv, if_pos (show 0 ≤ w by omega)]
      rw [lv_spec p a c.2.1 c.2.2.1 (by omega) (show 0 ≤ w by omega) (by omega)]
      cases hlv : lv p a w with
      | false => exact Ev.step (f := fun _ => some false) (fun k => by rw [spec_CourtOk.j5, if_pos (by decide)]) (Ev.to (Ev.now _) (by simp [hv]))
      | true => exact Ev.to j5 (by simp [hv])
    have e1 := scourt_l1 p L H a c.1 c.2.1 z (hin z hz) i h1 h2 hL _ e5 z 0 rfl
    refine Ev.to e1 ?_
    simp only [List.take_zero, List.all_cons, hoF]
    cases okF p [] z <;> cases zs.all (okF p []) <;> simp
   ·refine Ev.step (f := fun k => spec_CourtOk.j2 k (i : Int) true p L H a) (fun k => ?_) (Ev.to stopE ?_)
    ·rw [spec_CourtOk.l0, if_pos g1, if_pos g2, rdL1n, h2, if_neg hl, if_pos g3, rdn, k2, l1In_eq2, wp, decide_eq_false hw]
     rfl
    ·have hv : ¬ w = -1 := by omega
     have hlv : lv p a w = false := by unfold lv; rw [decide_eq_false (by omega)]; rfl
     simp [hoF, hv, hlv]
theorem spec_CourtOk_ev (hin : ∀ l ∈ L, l.length ≤ 1048576) : Ev (fun k => spec_CourtOk.f k p L H a) (CtB p L H a) := by
 have stop : Ev (fun k => spec_CourtOk.j0 k true p L H a) false := Ev.step (f := fun _ => some false) (fun k => by rw [spec_CourtOk.j0, if_pos rfl]) (Ev.now _)
 unfold spec_CourtOk.f CtB
 simp only [spec_CrowdOk_eq, Option.bind_some]
 cases hc : CrB p a with
 | false => simp only [Bool.false_eq_true, if_false, Bool.false_and]; exact stop
 | true =>
  simp only [if_true, Bool.true_and]
  by_cases hL : (L.length : Int) > 3
  ·simp only [if_pos hL]
   exact Ev.to stop (by rw [decide_eq_false (by omega)]; simp)
  ·simp only [if_neg hL]
   by_cases hH : (H.length : Int) = (L.length : Int)
   ·rw [show ((H.length : Int) != (L.length : Int)) = false from by rw [hH]; simp]
    refine Ev.step (f := fun k => spec_CourtOk.l0 k ((0 : Nat) : Int) p L H a) (fun k => by rw [spec_CourtOk.j0, if_neg (by decide)]; rfl) (Ev.to (scourt_l0 p L H a hc (by omega) (by omega) hin L 0 rfl) ?_)
    rw [decide_eq_true (show (L.length : Int) ≤ 3 by omega), decide_eq_true hH]
    simp
   ·rw [show ((H.length : Int) != (L.length : Int)) = true from by simpa using hH]
    exact Ev.to stop (by rw [decide_eq_false hH]; simp)
end

def fw (p a : Int) (H : List Int) : List Int → Int
 | [] => -1
 | w :: ws => if (lv p a w && !has H w) = true then w else fw p a H ws
theorem lv_spec1 (p a : Int) {w : Int} (hp6 : p ≤ 6) (h0 : 0 ≤ a) (h1 : a < 64) (hw : 0 ≤ w) (hw2 : w < p) : (Int.tmod (shr .i64 a w) 2 == 1) = lv p a w := by
 have r := div_pow_range w.toNat h0 h1
 rw [shr_eq hw (by omega), Int.tmod_eq_emod_of_nonneg r.1]
 unfold lv
 rw [decide_eq_true (show 0 ≤ w ∧ w < p from ⟨hw, hw2⟩)]
 generalize a / 2 ^ w.toNat = q at *
 by_cases hq : q % 2 = 1
 ·simp [hq]
 ·have : q % 2 = 0 := by omega
  simp [this]
theorem okF_in {p : Int} {line : List Int} (h : okF p [] line = true) : ∀ x ∈ line, 0 ≤ x ∧ x < p := by
 have := (okF_nodup p line [] h (by simp) (by simp)).2
 simpa using this
theorem CtB_of {p : Int} {L : List (List Int)} {H : List Int} {a : Int} (h : CtB p L H a = true) : CrB p a = true ∧ L.length ≤ 3 ∧ H.length = L.length ∧ (∀ l ∈ L, okF p [] l = true) ∧ hoF p a [] H = true := by
 unfold CtB at h
 simp only [Bool.and_eq_true, decide_eq_true_eq, List.all_eq_true] at h
 obtain ⟨⟨⟨⟨h1, h2⟩, h3⟩, h4⟩, h5⟩ := h
 exact ⟨h1, by omega, by omega, h4, h5⟩
section
variable (p : Int) (L : List (List Int)) (H : List Int) (a : Int)
theorem next_l1 (hH : H.length ≤ 1000) (x j w : Int) (r : Int) (wj : wrap64 (j + 1) = j + 1) (c : Ev (fun k => spec_l7Next.l0 k x (j + 1) p L H a) r) : ∀ (zs : List Int) (i : Nat) (v : Bool), H.drop i = zs → Ev (fun k => spec_l7Next.l1 k x j w v (i : Int) p L H a) (if (v && !has zs w) = true then w else r) := by
 intro zs
 induction zs with
 | nil =>
  intro i v h
  cases v with
  | true => exact Ev.step (f := fun _ => some w) (fun k => by rw [spec_l7Next.l1, if_neg (dnil h), if_pos rfl]) (Ev.to (Ev.now _) (by simp [has]))
  | false => exact Ev.step (fun k => by rw [spec_l7Next.l1, if_neg (dnil h), if_neg (by decide), wj]) (Ev.to c (by simp))
 | cons z zs ih =>
  intro i v h
  obtain ⟨h1, h2, h3⟩ := dcons h
  have hi1 : (i : Int) < (H.length : Int) := by omega
  have hi0 : 0 ≤ (i : Int) := by omega
  cases v with
  | true =>
   refine Ev.step (fun k => by rw [spec_l7Next.l1, if_pos hi1, if_pos rfl, if_pos hi0, rdn, h2, wsucc h1 (by omega)]) (Ev.to (ih (i + 1) (z != w) h3) ?_)
   have hw : has (z :: zs) w = (decide (w = z) || has zs w) := rfl
   rw [hw]
   by_cases e : w = z
   ·simp [e]
   ·have : z ≠ w := fun q => e q.symm
    simp [e, this]
  | false => exact Ev.step (fun k => by rw [spec_l7Next.l1, if_pos hi1, if_neg (by decide), wsucc h1 (by omega)]) (Ev.to (ih (i + 1) false h3) (by simp))
theorem next_l0 (hc : CrB p a = true) (hH : H.length ≤ 1000) (line : List Int) (hn : line.length ≤ 1048576) (hl : ∀ z ∈ line, 0 ≤ z ∧ z < p) (x : Nat) (hx : x < L.length) (hxl : L.getD x [] = line) : ∀ (zs : List Int) (j : Nat), line.drop j = zs → Ev (fun k => spec_l7Next.l0 k (x : Int) (j : Int) p L H a) (fw p a H zs) := by
 have c := CrB_of hc
 have g2 : 0 ≤ (x : Int) := by omega
 have g3 : (x : Int) < (L.length : Int) := by omega
 have hpw := pow_small c.1 c.2.1
 intro zs
 induction zs with
 | nil =>
  intro j h
  exact Ev.step (f := fun _ => some (-1)) (fun k => by rw [spec_l7Next.l0, if_pos g2, if_pos g3, rdL1n, hxl, if_neg (dnil h)]) (Ev.now _)
 | cons z zs ih =>
  intro j h
  obtain ⟨h1, h2, h3⟩ := dcons h
  have hz := hl z (List.mem_of_mem_drop (by rw [h]; simp))
  have e := next_l1 p L H a hH (x : Int) (j : Int) z _ (wz (by omega) (by omega)) (ih (j + 1) h3) H 0 (lv p a z) rfl
  have g4 : (j : Int) < (line.length : Int) := by omega
  have g5 : 0 ≤ (j : Int) := by omega
  refine Ev.step (fun k => ?_) e
  rw [spec_l7Next.l0, if_pos g2, if_pos g3, rdL1n, hxl, if_pos g4, if_pos g5, rdn, h2, if_pos hz.1, lv_spec1 p a c.2.1 c.2.2.1 (by omega) hz.1 hz.2]
  rfl
theorem next_ev (hc : CrB p a = true) (hH : H.length ≤ 1000) (hin : ∀ l ∈ L, l.length ≤ 1048576) (hok : ∀ l ∈ L, okF p [] l = true) (x : Nat) (hx : x < L.length) : Ev (fun k => spec_l7Next.f k p L H a (x : Int)) (fw p a H (L.getD x [])) := by
 have hm : L.getD x [] ∈ L := by
  rw [List.getD_eq_getElem?_getD, List.getElem?_eq_getElem hx]
  exact List.getElem_mem hx
 exact next_l0 p L H a hc hH _ (hin _ hm) (okF_in (hok _ hm)) x hx rfl _ 0 rfl
end

theorem Copy_l0 (p : Int) (L : List (List Int)) (H : List Int) (a p2 : Int) (H2 : List Int) (a2 : Int) (hL : L.length ≤ 1000) (hin : ∀ l ∈ L, l.length ≤ 1048576) : ∀ (zs : List (List Int)) (i : Nat) (out : List (List Int)), L.drop i = zs → out.length ≤ i → Ev (fun k => spec_l7Copy.l0 k (i : Int) p L H a p2 out H2 a2) (p2, out ++ zs, H2, a2) := by
 intro zs
 induction zs with
 | nil =>
  intro i out h ho
  exact Ev.step (fun k => by rw [spec_l7Copy.l0, if_neg (dnil h)]) (Ev.to (Ev.now (p2, out, H2, a2)) (by simp))
 | cons z zs ih =>
  intro i out h ho
  obtain ⟨h1, h2, h3⟩ := dcons h
  have hz : z ∈ L := List.mem_of_mem_drop (by rw [h]; simp)
  have hzl := hin z hz
  have e := ih (i + 1) (out ++ [z]) h3 (by simp <;> omega)
  refine Ev.step (fun k => ?_) (Ev.to e (by simp))
  rw [spec_l7Copy.l0, if_pos (by omega)]
  simp only [Option.bind_some, rdL1n, h2]
  rw [if_pos (by omega), if_pos (by simp <;> omega), if_pos (by omega), wsucc h1 (by omega)]
  simp
theorem Copy_ev (p : Int) (L : List (List Int)) (H : List Int) (a : Int) (hL : L.length ≤ 1000) (hH : H.length ≤ 1000) (hin : ∀ l ∈ L, l.length ≤ 1048576) : Ev (fun k => spec_l7Copy.f k p L H a) (p, L, H, a) := by
 unfold spec_l7Copy.f
 simp only [Option.bind_some, List.nil_append]
 simp only [if_pos (show ([] : List Int).length + H.length < 17592186044416 by simp <;> omega)]
 exact Copy_l0 p L H a p H a hL hin L 0 [] rfl (by simp)
def flF (p : Int) (L : List (List Int)) (a : Int) : Nat → List Int → Nat → List Int
 | 0, H, _ => H
 | n + 1, H, i => flF p L a n (if H.getD i 0 = -1 then H.set i (fw p a H (L.getD i [])) else H) (i + 1)
theorem flF_len (p : Int) (L : List (List Int)) (a : Int) : ∀ (n : Nat) (H : List Int) (i : Nat), (flF p L a n H i).length = H.length := by
 intro n
 induction n with
 | zero => intro H i; rfl
 | succ n ih =>
  intro H i
  rw [flF, ih]
  split <;> simp
theorem Filled_l0 (p : Int) (L : List (List Int)) (a : Int) (hc : CrB p a = true) (hin : ∀ l ∈ L, l.length ≤ 1048576) (hok : ∀ l ∈ L, okF p [] l = true) (hL : L.length ≤ 3) : ∀ (n : Nat) (H : List Int) (i : Nat), H.length = L.length → i + n = L.length → Ev (fun k => spec_FilledCourt.l0 k (i : Int) p L H a) (p, L, flF p L a n H i, a) := by
 intro n
 induction n with
 | zero =>
  intro H i hl h
  exact Ev.step (fun k => by rw [spec_FilledCourt.l0, if_neg (by omega)]) (Ev.now (p, L, H, a))
 | succ n ih =>
  intro H i hl h
  rw [flF]
  by_cases hv : H.getD i 0 = -1
  ·rw [if_pos hv]
   refine Ev.step (f := fun k => (spec_l7Next.f k p L H a (i : Int)).bind fun t => spec_FilledCourt.l0 k ((i + 1 : Nat) : Int) p L (H.set i t) a) (fun k => ?_) (Ev.bind (next_ev p L H a hc (by omega) hin hok i (by omega)) (ih _ (i + 1) (by simp; omega) (by omega)))
   rw [spec_FilledCourt.l0, if_pos (by omega), if_pos (by omega), rdn, if_pos hv, wsucc (show i < L.length by omega) (by omega)]
   rfl
  ·rw [if_neg hv]
   refine Ev.step (fun k => ?_) (ih H (i + 1) hl (by omega))
   rw [spec_FilledCourt.l0, if_pos (by omega), if_pos (by omega), rdn, if_neg hv, wsucc (show i < L.length by omega) (by omega)]
theorem spec_FilledCourt_ev (p : Int) (L : List (List Int)) (H : List Int) (a : Int) (hin : ∀ l ∈ L, l.length ≤ 1048576) : Ev (fun k => spec_FilledCourt.f k p L H a) (if CtB p L H a = true then (p, L, flF p L a L.length H 0, a) else (0, [], [], 0)) := by
 unfold spec_FilledCourt.f
 refine Ev.bind (spec_CourtOk_ev p L H a hin) ?_
 cases hc : CtB p L H a with
 | false => simp only [Bool.false_eq_true, if_false]; exact Ev.now _
 | true =>
  obtain ⟨c1, c2, c3, c4, c5⟩ := CtB_of hc
  simp only [if_true]
  exact Ev.bind (Copy_ev p L H a (by omega) (by omega) hin) (Filled_l0 p L a c1 hin c4 c2 L.length H 0 c3 (by omega))

def GoodC (r : Int × List (List Int) × List Int × Int × Int) : Prop := r.2.1.length ≤ 10 ∧ r.2.2.1.length ≤ 10 ∧ (∀ l ∈ r.2.1, l.length ≤ 10) ∧ 0 ≤ r.2.2.2.2 ∧ r.2.2.2.2 ≤ 1000
section
variable {s : List Int} (hs : ∀ x ∈ s, (Lit.int .u8 x).wf = true) (hl : s.length ≤ 2000) (n : Int)
include hs hl
theorem court_j3 (q p : Int) (L : List (List Int)) (H : List Int) (a : Int) (h0 : 0 ≤ q) (hq : q ≤ 900) (hL : L.length ≤ 9) (hH : H.length ≤ 9) (hin : ∀ l ∈ L, l.length ≤ 10) : ∃ r, Ev (fun k => spec_l20Court.j3 k n s q p L H a) r ∧ GoodC r := by
 obtain ⟨o, q1, e1, b1, b2, _⟩ := odd_ev hs hl q n h0 (by omega)
 have st : ∀ k, spec_l20Court.j3 (k + 1) n s q p L H a = _ := fun k => by rw [spec_l20Court.j3]
 cases o with
 | false => exact ⟨(p, L, H, a, q1), Ev.step st (Ev.bind e1 (by simp only [Bool.false_eq_true, if_false]; exact Ev.now _)), by show L.length ≤ 10; omega, by show H.length ≤ 10; omega, hin, by show 0 ≤ q1; omega, by show q1 ≤ 1000; omega⟩
 | true =>
  obtain ⟨r2, e2, c0, c1, _⟩ := pick_ev hs hl q1 3 (by omega) (by omega)
  by_cases g0 : r2 = 0
  ·exact ⟨(0, L, H, a, q1 + 1), Ev.step st (Ev.bind e1 (by simp only [if_true]; exact Ev.bind e2 (by simp only [if_pos g0]; exact Ev.now _))), by show L.length ≤ 10; omega, by show H.length ≤ 10; omega, hin, by show 0 ≤ q1 + 1; omega, by show q1 + 1 ≤ 1000; omega⟩
  by_cases g1 : r2 = 1
  ·refine ⟨(p, L, H ++ [0], a, q1 + 1), Ev.step st (Ev.bind e1 (by simp only [if_true]; exact Ev.bind e2 (by simp only [if_neg g0, if_pos g1, if_pos (show H.length < 17592186044416 by omega)]; exact Ev.now _))), by show L.length ≤ 10; omega, by show (H ++ [0]).length ≤ 10; simp; omega, hin, by show 0 ≤ q1 + 1; omega, by show q1 + 1 ≤ 1000; omega⟩
  by_cases g2 : (H.length : Int) > 0
  ·obtain ⟨r3, e3, d0, d1, _⟩ := pick_ev hs hl (q1 + 1) (H.length : Int) (by omega) (by omega)
   have d1 := d1 (by omega)
   obtain ⟨r4, e4, _⟩ := pick_ev hs hl (q1 + 1 + 1) 7 (by omega) (by omega)
   refine ⟨(p, L, H.set r3.toNat r4, a, q1 + 1 + 1 + 1), Ev.step st (Ev.bind e1 (by simp only [if_true]; exact Ev.bind e2 (by simp only [if_neg g0, if_neg g1, if_pos g2]; exact Ev.bind e3 (Ev.bind e4 (by simp only [if_pos d0, if_pos d1]; exact Ev.now _))))), by show L.length ≤ 10; omega, by show (H.set r3.toNat r4).length ≤ 10; simp; omega, hin, by show 0 ≤ q1 + 1 + 1 + 1; omega, by show q1 + 1 + 1 + 1 ≤ 1000; omega⟩
  ·exact ⟨(p, L, H, a, q1 + 1), Ev.step st (Ev.bind e1 (by simp only [if_true]; exact Ev.bind e2 (by simp only [if_neg g0, if_neg g1, if_neg g2]; exact Ev.now _))), by show L.length ≤ 10; omega, by show H.length ≤ 10; omega, hin, by show 0 ≤ q1 + 1; omega, by show q1 + 1 ≤ 1000; omega⟩
theorem court_l1d (P : Nat) (hP : P ≤ 6) (x6 : Int) (L : List (List Int)) (H : List Int) (a : Int) (hL : L.length ≤ 9) (hH : H.length ≤ 9) (B : Int)
  (cont : ∀ (l : List Int) (q : Int), l.length ≤ 6 → 0 ≤ q → q ≤ B → ∃ r, Ev (fun k => spec_l20Court.l0 k n (wrap64 (x6 - 1)) s q (P : Int) (L ++ [l]) (H ++ [-1]) a) r ∧ GoodC r) (hB : B ≤ 900) :
  ∀ (d x : Nat) (l : List Int) (q : Int), x + d = P → l.length ≤ x → 0 ≤ q → q + 2 * d ≤ B → ∃ r, Ev (fun k => spec_l20Court.l1 k n x6 l (x : Int) s q (P : Int) L H a) r ∧ GoodC r := by
 intro d
 induction d with
 | zero =>
  intro x l q hx hl2 hq0 hq
  obtain ⟨r, e, g⟩ := cont l q (by omega) hq0 (by omega)
  exact ⟨r, Ev.step (fun k => by rw [spec_l20Court.l1, if_neg (by omega), if_pos (by omega), if_pos (by omega)]) e, g⟩
 | succ d ih =>
  intro x l q hx hl2 hq0 hq
  have wx : Unit → wrap64 ((x : Int) + 1) = ((x + 1 : Nat) : Int) := fun _ => by rw [wz (by omega) (by omega)]; omega
  obtain ⟨r1, e1, b0, b1, _⟩ := pick_ev hs hl q 2 hq0 (by omega)
  have st : ∀ k, spec_l20Court.l1 (k + 1) n x6 l (x : Int) s q (P : Int) L H a = _ := fun k => by rw [spec_l20Court.l1, if_pos (by omega), wx ()]
  by_cases g : r1 = 0
  ·have wl : Unit → wrap64 ((l.length : Int) + 1) = (l.length : Int) + 1 := fun _ => wz (by omega) (by omega)
   obtain ⟨r2, e2, c0, c1, _⟩ := pick_ev hs hl (q + 1) ((l.length : Int) + 1) (by omega) (by omega)
   have c1 := c1 (by omega)
   obtain ⟨r, e, gd⟩ := ih (x + 1) (l.take r2.toNat ++ [(x : Int)] ++ l.drop r2.toNat) (q + 1 + 1) (by omega) (by simp <;> omega) (by omega) (by omega)
   refine ⟨r, Ev.step st (Ev.bind e1 ?_), gd⟩
   simp only [if_pos g, wl ()]
   refine Ev.bind e2 ?_
   simp only [Option.bind_some, if_pos c0, if_pos (show r2 ≤ (l.length : Int) by omega), List.nil_append]
   simp only [if_pos (show ([] : List Int).length + (l.take r2.toNat).length < 17592186044416 by simp <;> omega), if_pos (show (l.take r2.toNat).length < 17592186044416 by simp <;> omega), if_pos (show (l.take r2.toNat ++ [(x : Int)]).length + (l.drop r2.toNat).length < 17592186044416 by simp <;> omega)]
   exact e
  ·obtain ⟨r, e, gd⟩ := ih (x + 1) l (q + 1) (by omega) (by omega) (by omega) (by omega)
   exact ⟨r, Ev.step st (Ev.bind e1 (by simp only [if_neg g]; exact e)), gd⟩
theorem court_l0d (P : Nat) (hP : P ≤ 6) (a : Int) : ∀ (m : Nat) (L : List (List Int)) (H : List Int) (q : Int), L.length + m ≤ 6 → H.length + m ≤ 6 → (∀ l ∈ L, l.length ≤ 10) → 0 ≤ q → q + 20 * m ≤ 500 → ∃ r, Ev (fun k => spec_l20Court.l0 k n (m : Int) s q (P : Int) L H a) r ∧ GoodC r := by
 intro m
 induction m with
 | zero =>
  intro L H q hL hH hin hq0 hq
  obtain ⟨r1, e1, b0, b1, _⟩ := pick_ev hs hl q 2 hq0 (by omega)
  have st : ∀ k, spec_l20Court.l0 (k + 1) n ((0 : Nat) : Int) s q (P : Int) L H a = _ := fun k => by rw [spec_l20Court.l0, if_neg (by omega)]
  by_cases g : r1 = 0
  ·have ef := spec_FilledCourt_ev (P : Int) L H a (fun l hl => by have := hin l hl; omega)
   cases hc : CtB (P : Int) L H a with
   | true =>
    rw [if_pos hc] at ef
    obtain ⟨r, e, gd⟩ := court_j3 hs hl n (q + 1) (P : Int) L (flF (P : Int) L a L.length H 0) a (by omega) (by omega) (by omega) (by rw [flF_len]; omega) hin
    exact ⟨r, Ev.step st (Ev.bind e1 (by simp only [if_pos g]; exact Ev.bind ef e)), gd⟩
   | false =>
    rw [if_neg (by rw [hc]; decide)] at ef
    obtain ⟨r, e, gd⟩ := court_j3 hs hl n (q + 1) 0 [] [] 0 (by omega) (by omega) (by simp) (by simp) (by simp)
    exact ⟨r, Ev.step st (Ev.bind e1 (by simp only [if_pos g]; exact Ev.bind ef e)), gd⟩
  ·obtain ⟨r, e, gd⟩ := court_j3 hs hl n (q + 1) (P : Int) L H a (by omega) (by omega) (by omega) (by omega) hin
   exact ⟨r, Ev.step st (Ev.bind e1 (by simp only [if_neg g]; exact e)), gd⟩
 | succ m ih =>
  intro L H q hL hH hin hq0 hq
  have w : Unit → wrap64 (((m + 1 : Nat) : Int) - 1) = (m : Int) := fun _ => by rw [wz (by omega) (by omega)]; omega
  obtain ⟨r, e, gd⟩ := court_l1d hs hl n P hP ((m + 1 : Nat) : Int) L H a (by omega) (by omega) (q + 12) (fun l q2 h1 h2 h3 => by
   rw [w ()]
   refine ih (L ++ [l]) (H ++ [-1]) q2 (by simp; omega) (by simp; omega) (fun x hx => ?_) h2 (by omega)
   rcases List.mem_append.1 hx with hx | hx
   ·exact hin x hx
   ·have : x = l := by simpa using hx
    subst this; omega) (by omega) P 0 [] q (by omega) (by simp) hq0 (by omega)
  exact ⟨r, Ev.step (fun k => by rw [spec_l20Court.l0, if_pos (by omega)]; rfl) e, gd⟩
theorem court_ev : ∃ r, Ev (fun k => spec_l20Court.f k s 0 n) r ∧ GoodC r := by
 obtain ⟨r1, e1, b0, b1, _⟩ := pick_ev hs hl 0 6 (by decide) (by decide)
 have b1 := b1 (by decide)
 obtain ⟨P, hP⟩ := Int.eq_ofNat_of_zero_le (show 0 ≤ 1 + r1 by omega)
 have w1 : Unit → wrap64 (1 + r1) = (P : Int) := fun _ => by rw [wz (by omega) (by omega)]; exact hP
 obtain ⟨r2, e2, _⟩ := pick_ev hs hl (0 + 1) 3 (by decide) (by decide)
 have j0 (q a : Int) (h0 : 0 ≤ q) (hq : q ≤ 100) : ∃ r, Ev (fun k => spec_l20Court.j0 k n s q (P : Int) a) r ∧ GoodC r := by
  obtain ⟨r3, e3, c0, c1, _⟩ := pick_ev hs hl q 4 h0 (by omega)
  have c1 := c1 (by decide)
  obtain ⟨m, rfl⟩ := Int.eq_ofNat_of_zero_le c0
  obtain ⟨r, e, gd⟩ := court_l0d hs hl n P (by omega) a m [] [] (q + 1) (by simp; omega) (by simp; omega) (by simp) (by omega) (by omega)
  exact ⟨r, Ev.step (fun k => by rw [spec_l20Court.j0]) (Ev.bind e3 e), gd⟩
 by_cases g : r2 = 0
 ·obtain ⟨r3, e3, _⟩ := pick_ev hs hl (0 + 1 + 1) (shl .i64 1 (P : Int)) (by decide) (by decide)
  obtain ⟨r, e, gd⟩ := j0 (0 + 1 + 1 + 1) r3 (by decide) (by decide)
  refine ⟨r, ?_, gd⟩
  unfold spec_l20Court.f
  refine Ev.bind e1 ?_
  simp only [w1 (), if_pos (show 0 ≤ (P : Int) by omega)]
  refine Ev.bind e2 ?_
  simp only [if_pos g]
  exact Ev.bind e3 e
 ·obtain ⟨r, e, gd⟩ := j0 (0 + 1 + 1) (wrap64 ((shl .i64 1 (P : Int)) - 1)) (by decide) (by decide)
  refine ⟨r, ?_, gd⟩
  unfold spec_l20Court.f
  refine Ev.bind e1 ?_
  simp only [w1 (), if_pos (show 0 ≤ (P : Int) by omega)]
  refine Ev.bind e2 ?_
  simp only [if_neg g]
  exact e
end

theorem alive_eq : laws_alive.f = some true := by decide +kernel

section
variable (p : Int) (L : List (List Int)) (H : List Int) (a : Int)
theorem follower_l0 (hc : CrB p a = true) (hH : H.length ≤ 1000) (line : List Int) (hn : line.length ≤ 1048576) : ∀ (zs : List Int) (i : Nat), line.drop i = zs → Ev (fun k => impl_follower.l0 k line (line.length : Int) (i : Int) p L H a) (fw p a H zs) := by
 have c := CrB_of hc
 intro zs
 induction zs with
 | nil =>
  intro i h
  exact Ev.step (f := fun _ => some (-1)) (fun k => by rw [impl_follower.l0, if_neg (dnil h)]) (Ev.now _)
 | cons z zs ih =>
  intro i h
  obtain ⟨h1, h2, h3⟩ := dcons h
  have e := ih (i + 1) h3
  have hi1 : (i : Int) < (line.length : Int) := by omega
  have hi0 : 0 ≤ (i : Int) := by omega
  cases hl : lv p a z with
  | false =>
   refine Ev.step (f := fun k => impl_follower.l0 k line (line.length : Int) ((i + 1 : Nat) : Int) p L H a) (fun k => ?_) (Ev.to e (by simp [fw, hl]))
   rw [impl_follower.l0, if_pos hi1, if_pos hi0, if_pos hi1, rdn, h2, lives_eq p L H a z c.2.1 c.2.2.1 (by have := pow_small c.1 c.2.1; omega), hl, wsucc h1 (by omega)]
   rfl
  | true =>
   refine Ev.step (f := fun k => (slices_Contains_int_int.f k H z).bind fun t => if t = true then (impl_follower.l0 k line (line.length : Int) ((i + 1 : Nat) : Int) p L H a) else (some z)) (fun k => ?_) (Ev.bind (Contains_int_ev _ z (by omega)) ?_)
   ·rw [impl_follower.l0, if_pos hi1, if_pos hi0, if_pos hi1, rdn, h2, lives_eq p L H a z c.2.1 c.2.2.1 (by have := pow_small c.1 c.2.1; omega), hl, wsucc h1 (by omega)]
    rfl
   ·cases hh : has H z with
    | true => simp only [if_true]; exact Ev.to e (by simp [fw, hh])
    | false => simp only [Bool.false_eq_true, if_false]; exact Ev.to (Ev.now _) (by simp [fw, hl, hh])
theorem follower_ev (hc : CrB p a = true) (hH : H.length ≤ 1000) (hin : ∀ l ∈ L, l.length ≤ 1048576) (x : Nat) (hx : x < L.length) : Ev (fun k => impl_follower.f k p L H a (x : Int)) (fw p a H (L.getD x [])) := by
 unfold impl_follower.f
 simp only [if_pos (show 0 ≤ (x : Int) by omega), if_pos (show (x : Int) < (L.length : Int) by omega), rdL1n]
 refine follower_l0 p L H a hc hH (L.getD x []) (hin _ ?_) _ 0 rfl
 rw [List.getD_eq_getElem?_getD, List.getElem?_eq_getElem hx]
 exact List.getElem_mem hx
end

theorem getD_cons_of {α : Type} {xs : List α} {i : Nat} (h : i < xs.length) (d : α) : xs.drop i = xs.getD i d :: xs.drop (i + 1) := by
 rw [List.drop_eq_getElem_cons h, List.getD_eq_getElem?_getD, List.getElem?_eq_getElem h]
 rfl
theorem sameIntsD_l0 (xs ys : List Int) (hl : xs.length = ys.length) (hn : xs.length ≤ 1000000) : ∀ (d i : Nat), i + d = xs.length → Ev (fun k => laws_sameInts.l0 k xs ys (i : Int)) (decide (xs.drop i = ys.drop i)) := by
 intro d
 induction d with
 | zero =>
  intro i h
  exact Ev.step (fun k => by rw [laws_sameInts.l0, if_neg (by omega)]) (Ev.to (Ev.now true) (by rw [List.drop_eq_nil_iff.2 (by omega), List.drop_eq_nil_iff.2 (by omega)]; simp))
 | succ d ih =>
  intro i h
  have e := ih (i + 1) (by omega)
  rw [getD_cons_of (show i < xs.length by omega) 0, getD_cons_of (show i < ys.length by omega) 0]
  by_cases q : xs.getD i 0 = ys.getD i 0
  ·refine Ev.step (fun k => by rw [laws_sameInts.l0, if_pos (by omega), if_pos (by omega), if_pos (by omega), rdn, rdn, if_pos q, wsucc (show i < xs.length by omega) (by omega)]) (Ev.to e ?_)
   rw [decide_eq_decide, List.cons.injEq]
   exact ⟨fun h => ⟨q, h⟩, fun h => h.2⟩
  ·refine Ev.step (fun k => by rw [laws_sameInts.l0, if_pos (by omega), if_pos (by omega), if_pos (by omega), rdn, rdn, if_neg q]) (Ev.to (Ev.now false) ?_)
   symm
   rw [decide_eq_false_iff_not, List.cons.injEq]
   exact fun h => q h.1
theorem sameIntsD_ev (xs ys : List Int) (hn : xs.length ≤ 1000000) : Ev (fun k => laws_sameInts.f k xs ys) (decide (xs = ys)) := by
 unfold laws_sameInts.f
 by_cases h : xs.length = ys.length
 ·simp only [if_pos (show (xs.length : Int) = (ys.length : Int) by omega)]
  exact sameIntsD_l0 xs ys h hn xs.length 0 (by omega)
 ·simp only [if_neg (show ¬ (xs.length : Int) = (ys.length : Int) by omega)]
  exact Ev.to (Ev.now false) (by symm; rw [decide_eq_false_iff_not]; rintro rfl; exact h rfl)

theorem sameCourt_l0 (p : Int) (L : List (List Int)) (H : List Int) (a p2 : Int) (L2 : List (List Int)) (H2 : List Int) (a2 : Int) (hl : L.length = L2.length) (hn : L.length ≤ 1000000) (hin : ∀ l ∈ L, l.length ≤ 1000000) : ∀ (d i : Nat), i + d = L.length → Ev (fun k => laws_sameCourt.l0 k (i : Int) p L H a p2 L2 H2 a2) (decide (L.drop i = L2.drop i)) := by
 intro d
 induction d with
 | zero =>
  intro i h
  exact Ev.step (fun k => by rw [laws_sameCourt.l0, if_neg (by omega)]) (Ev.to (Ev.now true) (by rw [List.drop_eq_nil_iff.2 (by omega), List.drop_eq_nil_iff.2 (by omega)]; simp))
 | succ d ih =>
  intro i h
  have e := ih (i + 1) (by omega)
  have hm : L.getD i [] ∈ L := by
   rw [List.getD_eq_getElem?_getD, List.getElem?_eq_getElem (show i < L.length by omega)]
   exact List.getElem_mem _
  rw [getD_cons_of (show i < L.length by omega) [], getD_cons_of (show i < L2.length by omega) []]
  refine Ev.step (fun k => by rw [laws_sameCourt.l0, if_pos (by omega), if_pos (by omega), if_pos (by omega), rdL1n, rdL1n, wsucc (show i < L.length by omega) (by omega)]) (Ev.bind (sameIntsD_ev _ _ (hin _ hm)) ?_)
  by_cases q : L.getD i [] = L2.getD i []
  ·simp only [q, decide_true, if_true]
   exact Ev.to e (by simp)
  ·simp only [decide_eq_false q, Bool.false_eq_true, if_false]
   exact Ev.to (Ev.now false) (by symm; rw [decide_eq_false_iff_not]; intro z; injection z with z _; exact q z)
theorem sameCourtD_ev (p : Int) (L : List (List Int)) (H : List Int) (a p2 : Int) (L2 : List (List Int)) (H2 : List Int) (a2 : Int) (hn : L.length ≤ 1000000) (hin : ∀ l ∈ L, l.length ≤ 1000000) (hH : H.length ≤ 1000000) : Ev (fun k => laws_sameCourt.f k p L H a p2 L2 H2 a2) (decide ((p, L, H, a) = (p2, L2, H2, a2))) := by
 have no : (p, L, H, a) ≠ (p2, L2, H2, a2) → Ev (fun k => laws_sameCourt.j0 k true p L H a p2 L2 H2 a2) (decide ((p, L, H, a) = (p2, L2, H2, a2))) := fun h => Ev.step (fun k => by rw [laws_sameCourt.j0, if_pos rfl]) (Ev.to (Ev.now false) (by rw [decide_eq_false h]))
 unfold laws_sameCourt.f
 by_cases h1 : p = p2
 ·by_cases h2 : a = a2
  ·simp only [if_pos h1, if_pos h2]
   refine Ev.bind (sameIntsD_ev H H2 hH) ?_
   by_cases h3 : H = H2
   ·simp only [decide_eq_true h3, if_true]
    by_cases h4 : L.length = L2.length
    ·rw [show ((L.length : Int) != (L2.length : Int)) = false by rw [h4]; simp]
     refine Ev.step (fun k => by rw [laws_sameCourt.j0, if_neg (by decide)]; rfl) (Ev.to (sameCourt_l0 p L H a p2 L2 H2 a2 h4 hn hin L.length 0 (by omega)) ?_)
     subst h1 h2 h3
     simp
    ·rw [show ((L.length : Int) != (L2.length : Int)) = true by simpa using fun z : (L.length : Int) = L2.length => h4 (by omega)]
     exact no (fun z => h4 (by injection z with _ z; injection z with z _; rw [z]))
   ·simp only [decide_eq_false h3, Bool.false_eq_true, if_false]
    exact no (fun z => h3 (by injection z with _ z; injection z with _ z; injection z with z _))
  ·simp only [if_pos h1, if_neg h2]
   exact no (fun z => h2 (by injection z with _ z; injection z with _ z; injection z with _ z))
 ·simp only [if_neg h1]
  exact no (fun z => h1 (by injection z with z _))

theorem icopy_l0 (X : List (List Int)) (p a : Int) (H : List Int) (hL : X.length ≤ 1000) (hin : ∀ l ∈ X, l.length ≤ 1048576) : ∀ (zs : List (List Int)) (i : Nat) (out : List (List Int)), X.drop i = zs → out.length ≤ i → Ev (fun k => impl_copyCourt.l0 k X (X.length : Int) (i : Int) p out H a) (p, out ++ zs, H, a) := by
 intro zs
 induction zs with
 | nil =>
  intro i out h ho
  exact Ev.step (fun k => by rw [impl_copyCourt.l0, if_neg (dnil h)]) (Ev.to (Ev.now (p, out, H, a)) (by simp))
 | cons z zs ih =>
  intro i out h ho
  obtain ⟨h1, h2, h3⟩ := dcons h
  have hz : z ∈ X := List.mem_of_mem_drop (by rw [h]; simp)
  have hzl := hin z hz
  have e := ih (i + 1) (out ++ [z]) h3 (by simp <;> omega)
  refine Ev.step (fun k => ?_) (Ev.to e (by simp))
  rw [impl_copyCourt.l0, if_pos (by omega), if_pos (by omega), if_pos (by omega)]
  simp only [Option.bind_some, rdL1n, h2]
  rw [if_pos (by simp <;> omega), if_pos (by omega), wsucc h1 (by omega)]
  simp
theorem icopy_ev (p : Int) (L : List (List Int)) (H : List Int) (a : Int) (hL : L.length ≤ 1000) (hH : H.length ≤ 1000) (hin : ∀ l ∈ L, l.length ≤ 1048576) : Ev (fun k => impl_copyCourt.f k p L H a) (p, L, H, a) := by
 unfold impl_copyCourt.f
 simp only [Option.bind_some, List.nil_append]
 simp only [if_pos (show ([] : List Int).length + H.length < 17592186044416 by simp <;> omega)]
 exact icopy_l0 L p a H hL hin L 0 [] rfl (by simp)
theorem ifilled_l0 (p : Int) (L : List (List Int)) (a : Int) (hc : CrB p a = true) (hin : ∀ l ∈ L, l.length ≤ 1048576) (hL : L.length ≤ 3) : ∀ (n : Nat) (H : List Int) (i : Nat), H.length = L.length → i + n = L.length → Ev (fun k => impl_filled.l0 k (L.length : Int) (i : Int) p L H a) (p, L, flF p L a n H i, a) := by
 intro n
 induction n with
 | zero =>
  intro H i hl h
  exact Ev.step (fun k => by rw [impl_filled.l0, if_neg (by omega)]) (Ev.now (p, L, H, a))
 | succ n ih =>
  intro H i hl h
  rw [flF]
  by_cases hv : H.getD i 0 = -1
  ·rw [if_pos hv]
   refine Ev.step (f := fun k => (impl_follower.f k p L H a (i : Int)).bind fun t => impl_filled.l0 k (L.length : Int) ((i + 1 : Nat) : Int) p L (H.set i t) a) (fun k => ?_) (Ev.bind (follower_ev p L H a hc (by omega) hin i (by omega)) (ih _ (i + 1) (by simp; omega) (by omega)))
   rw [impl_filled.l0, if_pos (by omega), if_pos (by omega), if_pos (by omega), rdn, if_pos hv, wsucc (show i < L.length by omega) (by omega)]
   rfl
  ·rw [if_neg hv]
   refine Ev.step (fun k => ?_) (ih H (i + 1) hl (by omega))
   rw [impl_filled.l0, if_pos (by omega), if_pos (by omega), if_pos (by omega), rdn, if_neg hv, wsucc (show i < L.length by omega) (by omega)]
theorem ifilled_ev (p : Int) (L : List (List Int)) (H : List Int) (a : Int) (hc : CrB p a = true) (hin : ∀ l ∈ L, l.length ≤ 1048576) (hL : L.length ≤ 3) (hl : H.length = L.length) : Ev (fun k => impl_filled.f k p L H a) (p, L, flF p L a L.length H 0, a) := by
 unfold impl_filled.f
 rw [hl]
 exact ifilled_l0 p L a hc hin hL L.length H 0 hl (by omega)
def Hd2 (p a : Int) (H : List Int) : Prop := ∀ i, i < H.length → H.getD i 0 = -1 ∨ (lv p a (H.getD i 0) = true ∧ ∀ j, j < i → H.getD j 0 ≠ H.getD i 0)
theorem mem_getD {H : List Int} {w : Int} : w ∈ H ↔ ∃ i, i < H.length ∧ H.getD i 0 = w := by
 constructor
 ·intro h
  obtain ⟨i, hi, e⟩ := List.getElem_of_mem h
  exact ⟨i, hi, by rw [List.getD_eq_getElem?_getD, List.getElem?_eq_getElem hi]; exact e⟩
 ·rintro ⟨i, hi, e⟩
  rw [List.getD_eq_getElem?_getD, List.getElem?_eq_getElem hi] at e
  exact e ▸ List.getElem_mem hi
theorem getD_set (H : List Int) (i j : Nat) (w : Int) (hi : i < H.length) : (H.set i w).getD j 0 = if i = j then w else H.getD j 0 := by
 rw [List.getD_eq_getElem?_getD, List.getElem?_set, List.getD_eq_getElem?_getD]
 by_cases e : i = j
 ·subst e
  simp [hi]
 ·simp [e]
theorem hoF_at (p a : Int) : ∀ (hs pre : List Int), hoF p a pre hs = true ↔ ∀ i, i < hs.length → hs.getD i 0 = -1 ∨ (lv p a (hs.getD i 0) = true ∧ has pre (hs.getD i 0) = false ∧ ∀ j, j < i → hs.getD j 0 ≠ hs.getD i 0) := by
 intro hs
 induction hs with
 | nil => intro pre; simp [hoF]
 | cons z zs ih =>
  intro pre
  rw [hoF, Bool.and_eq_true, ih (pre ++ [z])]
  have hp : ∀ w, has (pre ++ [z]) w = (has pre w || decide (w = z)) := fun w => by simp [has]
  constructor
  ·rintro ⟨h1, h2⟩ i hi
   cases i with
   | zero =>
    simp only [List.getD_cons_zero]
    simp only [Bool.or_eq_true, decide_eq_true_eq, Bool.and_eq_true, Bool.not_eq_true'] at h1
    rcases h1 with h1 | h1
    ·exact .inl h1
    ·exact .inr ⟨h1.1, h1.2, fun j hj => by omega⟩
   | succ i =>
    simp only [List.getD_cons_succ]
    rcases h2 i (by simpa using hi) with h3 | ⟨h3, h4, h5⟩
    ·exact .inl h3
    ·rw [hp] at h4
     simp only [Bool.or_eq_false_iff, decide_eq_false_iff_not] at h4
     refine .inr ⟨h3, h4.1, fun j hj => ?_⟩
     cases j with
     | zero => simp only [List.getD_cons_zero]; exact fun e => h4.2 e.symm
     | succ j => simp only [List.getD_cons_succ]; exact h5 j (by omega)
  ·intro h
   refine ⟨?_, fun i hi => ?_⟩
   ·have := h 0 (by simp)
    simp only [List.getD_cons_zero] at this
    rcases this with h1 | ⟨h1, h2, _⟩
    ·simp [h1]
    ·simp [h1, h2]
   ·have := h (i + 1) (by simpa using hi)
    simp only [List.getD_cons_succ] at this
    rcases this with h1 | ⟨h1, h2, h3⟩
    ·exact .inl h1
    ·refine .inr ⟨h1, ?_, fun j hj => ?_⟩
     ·rw [hp, h2, decide_eq_false]
      ·rfl
      ·have := h3 0 (by omega)
       simp only [List.getD_cons_zero] at this
       exact fun e => this e.symm
     ·have := h3 (j + 1) (by omega)
      simpa only [List.getD_cons_succ] using this
theorem hoF_iff (p a : Int) (H : List Int) : hoF p a [] H = true ↔ Hd2 p a H := by
 rw [hoF_at]
 unfold Hd2
 constructor
 ·intro h i hi
  rcases h i hi with h1 | ⟨h1, _, h3⟩
  ·exact .inl h1
  ·exact .inr ⟨h1, h3⟩
 ·intro h i hi
  rcases h i hi with h1 | ⟨h1, h3⟩
  ·exact .inl h1
  ·exact .inr ⟨h1, rfl, h3⟩
theorem Hd2_set {p a : Int} {H : List Int} {i : Nat} {w : Int} (h : Hd2 p a H) (hi : i < H.length) (hw : w = -1 ∨ (lv p a w = true ∧ w ∉ H)) : Hd2 p a (H.set i w) := by
 intro m hm
 rw [List.length_set] at hm
 rw [getD_set H i m w hi]
 by_cases e : i = m
 ·rw [if_pos e]
  rcases hw with hw | ⟨h1, h2⟩
  ·exact .inl hw
  ·refine .inr ⟨h1, fun j hj => ?_⟩
   rw [getD_set H i j w hi, if_neg (by omega)]
   exact fun q => h2 (mem_getD.2 ⟨j, by omega, q⟩)
 ·rw [if_neg e]
  rcases h m hm with h1 | ⟨h1, h2⟩
  ·exact .inl h1
  ·refine .inr ⟨h1, fun j hj => ?_⟩
   rw [getD_set H i j w hi]
   by_cases e2 : i = j
   ·rw [if_pos e2]
    rcases hw with hw | ⟨_, h4⟩
    ·rw [hw]
     intro q
     rw [← q] at h1
     revert h1
     unfold lv
     rw [decide_eq_false (by omega)]
     simp
    ·exact fun q => h4 (mem_getD.2 ⟨m, hm, q.symm⟩)
   ·rw [if_neg e2]
    exact h2 j hj
theorem lv_nn {p a w : Int} (h : lv p a w = true) : 0 ≤ w ∧ w < p := by
 unfold lv at h
 simp only [Bool.and_eq_true, decide_eq_true_eq] at h
 exact h.1
theorem fw_cases (p a : Int) (H : List Int) : ∀ (ws : List Int), fw p a H ws = -1 ∨ (lv p a (fw p a H ws) = true ∧ fw p a H ws ∉ H) := by
 intro ws
 induction ws with
 | nil => exact .inl rfl
 | cons w ws ih =>
  unfold fw
  split
  ·rename_i h
   simp only [Bool.and_eq_true, Bool.not_eq_true'] at h
   refine .inr ⟨h.1, fun hm => ?_⟩
   rw [(has_iff H w).2 hm] at h
   cases h.2
  ·exact ih
section
variable (p : Int) (L : List (List Int)) (a : Int)
theorem flF_hd2 : ∀ (n : Nat) (H : List Int) (i : Nat), i + n ≤ H.length → Hd2 p a H → Hd2 p a (flF p L a n H i) := by
 intro n
 induction n with
 | zero => intro H i _ h; exact h
 | succ n ih =>
  intro H i hi h
  rw [flF]
  by_cases e : H.getD i 0 = -1
  ·rw [if_pos e]
   exact ih _ _ (by simp; omega) (Hd2_set h (by omega) (fw_cases p a H _))
  ·rw [if_neg e]
   exact ih _ _ (by omega) h
theorem fl_court (H : List Int) (hc : CtB p L H a = true) : CtB p L (flF p L a L.length H 0) a = true := by
 obtain ⟨c1, c2, c3, c4, c5⟩ := CtB_of hc
 have h5 : hoF p a [] (flF p L a L.length H 0) = true := (hoF_iff p a _).2 (flF_hd2 p L a L.length H 0 (by omega) ((hoF_iff p a H).1 c5))
 unfold CtB
 rw [h5, flF_len, c1, c3, List.all_eq_true.2 c4]
 simp
 omega
end

def dv (w : Int) (H : List Int) : List Int := H.map fun h => if h = w then -1 else h
theorem dv_len (w : Int) (H : List Int) : (dv w H).length = H.length := by simp [dv]
theorem dv_at (w : Int) (H : List Int) {i : Nat} (h : i < H.length) : (dv w H).getD i 0 = if H.getD i 0 = w then -1 else H.getD i 0 := by
 unfold dv
 rw [List.getD_eq_getElem?_getD, List.getElem?_map, List.getD_eq_getElem?_getD, List.getElem?_eq_getElem h]
 rfl
theorem shl_all : ∀ w : Fin 6, shl .i64 1 (w.val : Int) = 2 ^ w.val := by decide +kernel
theorem xor_all2 : ∀ (a : Fin 64) (w : Fin 6), (a.val : Int) / 2 ^ w.val % 2 = 1 → Go.bits .xor .i64 (a.val : Int) (2 ^ w.val) = (a.val : Int) - 2 ^ w.val ∧ 0 ≤ (a.val : Int) - 2 ^ w.val := by decide +kernel
theorem sub_all : ∀ (a : Fin 64) (w j : Fin 6), (a.val : Int) / 2 ^ w.val % 2 = 1 → ((a.val : Int) - 2 ^ w.val) / 2 ^ j.val % 2 = if j = w then 0 else (a.val : Int) / 2 ^ j.val % 2 := by decide +kernel
theorem lv_bit {p a w : Int} (h : lv p a w = true) : a / 2 ^ w.toNat % 2 = 1 := by
 unfold lv at h
 simp only [Bool.and_eq_true, decide_eq_true_eq] at h
 exact h.2
section
variable {p a w : Int} (hp : p ≤ 6) (h0 : 0 ≤ a) (h1 : a < 64) (hl : lv p a w = true)
include hp h0 h1 hl
theorem death_num : shl .i64 1 w = 2 ^ w.toNat ∧ Go.bits .xor .i64 a (2 ^ w.toNat) = a - 2 ^ w.toNat ∧ 0 ≤ a - 2 ^ w.toNat ∧ a - 2 ^ w.toNat ≤ a := by
 have hw := lv_nn hl
 have hb := lv_bit hl
 obtain ⟨n, rfl⟩ := Int.eq_ofNat_of_zero_le hw.1
 obtain ⟨m, rfl⟩ := Int.eq_ofNat_of_zero_le h0
 have s := shl_all ⟨n, by omega⟩
 have x := xor_all2 ⟨m, by omega⟩ ⟨n, by omega⟩ hb
 have pp : (0 : Int) < 2 ^ n := Int.pow_pos (by decide)
 exact ⟨s, x.1, x.2, by show (m : Int) - 2 ^ n ≤ m; omega⟩
theorem lv_sub (v : Int) : lv p (a - 2 ^ w.toNat) v = (lv p a v && decide (v ≠ w)) := by
 have hw := lv_nn hl
 have hb := lv_bit hl
 unfold lv
 by_cases hv : 0 ≤ v ∧ v < p
 ·obtain ⟨n, rfl⟩ := Int.eq_ofNat_of_zero_le hw.1
  obtain ⟨m, rfl⟩ := Int.eq_ofNat_of_zero_le h0
  obtain ⟨j, rfl⟩ := Int.eq_ofNat_of_zero_le hv.1
  have s := sub_all ⟨m, by omega⟩ ⟨n, by omega⟩ ⟨j, by omega⟩ hb
  have s2 : ((m : Int) - 2 ^ n) / 2 ^ j % 2 = if j = n then 0 else (m : Int) / 2 ^ j % 2 := by
   rw [s]
   by_cases e : j = n
   ·subst e; simp
   ·rw [if_neg e, if_neg (fun q => e (congrArg Fin.val q))]
  rw [decide_eq_true hv, Bool.true_and, Bool.true_and]
  show decide (((m : Int) - 2 ^ n) / 2 ^ j % 2 = 1) = _
  rw [s2]
  by_cases e : j = n
  ·subst e; simp
  ·rw [if_neg e]
   rw [decide_eq_true (show (j : Int) ≠ (n : Int) by omega), Bool.and_true]
   rfl
 ·rw [decide_eq_false hv, Bool.false_and, Bool.false_and, Bool.false_and]
end
theorem death_court {p a w : Int} {L : List (List Int)} {H : List Int} (hc : CtB p L H a = true) (hl : lv p a w = true) : CtB p L (dv w H) (a - 2 ^ w.toNat) = true := by
 obtain ⟨c1, c2, c3, c4, c5⟩ := CtB_of hc
 have cr := CrB_of c1
 have ps := pow_small cr.1 cr.2.1
 have dn := death_num cr.2.1 cr.2.2.1 (by omega) hl
 have c1' : CrB p (a - 2 ^ w.toNat) = true := decide_eq_true ⟨cr.1, cr.2.1, dn.2.2.1, by omega⟩
 have c5' : hoF p (a - 2 ^ w.toNat) [] (dv w H) = true := by
  rw [hoF_iff] at c5 ⊢
  intro i hi
  rw [dv_len] at hi
  rw [dv_at w H hi]
  by_cases e : H.getD i 0 = w
  ·rw [if_pos e]; exact .inl rfl
  ·rw [if_neg e]
   rcases c5 i hi with h1 | ⟨h1, h2⟩
   ·exact .inl h1
   ·refine .inr ⟨by rw [lv_sub cr.2.1 cr.2.2.1 (by omega) hl, h1, decide_eq_true e]; rfl, fun j hj => ?_⟩
    rw [dv_at w H (show j < H.length by omega)]
    by_cases e2 : H.getD j 0 = w
    ·rw [if_pos e2]
     have := (lv_nn h1).1
     omega
    ·rw [if_neg e2]
     exact h2 j hj
 unfold CtB
 rw [c5', dv_len, c1', c3, List.all_eq_true.2 c4]
 simp
 omega
theorem firstAt_cases (w : Int) : ∀ (hs : List Int) (x : Nat), (firstAt (fun y => decide (w = y)) hs x = -1 ∧ w ∉ hs) ∨ ∃ i, firstAt (fun y => decide (w = y)) hs x = ((x + i : Nat) : Int) ∧ i < hs.length ∧ hs.getD i 0 = w := by
 intro hs
 induction hs with
 | nil => intro x; exact .inl ⟨rfl, by simp⟩
 | cons h hs ih =>
  intro x
  unfold firstAt
  by_cases e : w = h
  ·exact .inr ⟨0, by simp [e], by simp, by simpa using e.symm⟩
  ·rw [if_neg (by simpa using e)]
   rcases ih (x + 1) with ⟨h1, h2⟩ | ⟨i, h1, h2, h3⟩
   ·exact .inl ⟨h1, by simp [e, h2]⟩
   ·exact .inr ⟨i + 1, by rw [h1]; congr 1; omega, by simp; omega, by simpa using h3⟩
theorem dv_none {w : Int} {H : List Int} (h : w ∉ H) : dv w H = H := by
 unfold dv
 have : ∀ x ∈ H, (if x = w then -1 else x) = x := fun x hx => if_neg (fun e : x = w => h (by rw [← e]; exact hx))
 rw [List.map_congr_left this]
 simp
theorem dv_set {p a w : Int} {H : List Int} (hh : Hd2 p a H) (hl : lv p a w = true) {i : Nat} (hi : i < H.length) (e : H.getD i 0 = w) : H.set i (-1) = dv w H := by
 have hw := (lv_nn hl).1
 have uniq : ∀ j, j < H.length → H.getD j 0 = w → j = i := fun j hj e2 => by
  rcases Nat.lt_trichotomy i j with q | q | q
  ·rcases hh j hj with h1 | ⟨_, h2⟩
   ·omega
   ·exact absurd (e.trans e2.symm) (h2 i q)
  ·exact q.symm
  ·rcases hh i hi with h1 | ⟨_, h2⟩
   ·omega
   ·exact absurd (e2.trans e.symm) (h2 j q)
 apply List.ext_getElem?
 intro j
 unfold dv
 rw [List.getElem?_set, List.getElem?_map]
 by_cases q : i = j
 ·subst q
  rw [if_pos rfl, if_pos hi]
  rw [List.getD_eq_getElem?_getD, List.getElem?_eq_getElem hi] at e
  rw [List.getElem?_eq_getElem hi]
  have e : H[i] = w := by simpa using e
  simp [e]
 ·rw [if_neg q]
  by_cases hj : j < H.length
  ·have : H.getD j 0 ≠ w := fun e2 => q (uniq j hj e2).symm
   rw [List.getD_eq_getElem?_getD, List.getElem?_eq_getElem hj] at this
   rw [List.getElem?_eq_getElem hj]
   have this : H[j] ≠ w := by simpa using this
   simp [this]
  ·rw [List.getElem?_eq_none (by omega)]
   rfl
def adH (p : Int) (L : List (List Int)) (H : List Int) (a w : Int) : List Int := flF p L (a - 2 ^ w.toNat) L.length (dv w H) 0
theorem adH_len (p : Int) (L : List (List Int)) (H : List Int) (a w : Int) : (adH p L H a w).length = H.length := by unfold adH; rw [flF_len, dv_len]
theorem ad_court {p a w : Int} {L : List (List Int)} {H : List Int} (hc : CtB p L H a = true) (hl : lv p a w = true) : CtB p L (adH p L H a w) (a - 2 ^ w.toNat) = true := fl_court p L _ _ (death_court hc hl)
section
variable (p : Int) (L : List (List Int)) (H : List Int) (a w : Int) (hin : ∀ l ∈ L, l.length ≤ 1048576)
include hin
theorem iafter_ev (hc : CtB p L H a = true) (hl : lv p a w = true) : Ev (fun k => impl_afterDeath.f k p L H a w) (p, L, adH p L H a w, a - 2 ^ w.toNat) := by
 obtain ⟨c1, c2, c3, c4, c5⟩ := CtB_of hc
 have cr := CrB_of c1
 have ps := pow_small cr.1 cr.2.1
 have dn := death_num cr.2.1 cr.2.2.1 (by omega) hl
 have hw := lv_nn hl
 have dc := death_court hc hl
 obtain ⟨d1, d2, d3, d4, d5⟩ := CtB_of dc
 have fe := ifilled_ev p L (dv w H) (a - 2 ^ w.toNat) d1 hin c2 d3
 unfold impl_afterDeath.f
 refine Ev.bind (icopy_ev p L H a (by omega) (by omega) hin) ?_
 simp only [if_pos hw.1]
 refine Ev.bind (Index_int_ev H w (by omega)) ?_
 simp only [dn.1, dn.2.1]
 rcases firstAt_cases w H 0 with ⟨h1, h2⟩ | ⟨i, h1, h2, h3⟩
 ·rw [h1]
  simp only [if_neg (show ¬ ((-1 : Int) ≥ 0) by decide)]
  rw [dv_none h2] at fe
  refine Ev.bind fe (Ev.to (Ev.now _) ?_)
  unfold adH
  rw [dv_none h2]
 ·rw [h1, Nat.zero_add]
  simp only [if_pos (show (i : Int) ≥ 0 by omega), if_pos (show 0 ≤ (i : Int) by omega), if_pos (show (i : Int) < (H.length : Int) by omega)]
  rw [Int.toNat_natCast, dv_set ((hoF_iff p a H).1 c5) hl h2 h3]
  exact Ev.bind fe (Ev.now _)
end
section
variable (p : Int) (L : List (List Int)) (a w : Int) (hin : ∀ l ∈ L, l.length ≤ 1048576)
include hin
theorem sdeath_l0 (H0 : List Int) (b : Int) (hc : CtB p L (dv w H0) b = true) (hn : H0.length ≤ 1000) : ∀ (zs pre : List Int), pre.length + zs.length = H0.length → dv w H0 = pre ++ dv w zs → Ev (fun k => spec_AfterDeath.l0 k w (pre.length : Int) p L (pre ++ zs) b) (p, L, flF p L b L.length (dv w H0) 0, b, true) := by
 intro zs
 induction zs with
 | nil =>
  intro pre h1 h2
  have hd : dv w H0 = pre := by simpa [dv] using h2
  have ef := spec_FilledCourt_ev p L (dv w H0) b hin
  rw [if_pos hc] at ef
  refine Ev.step (fun k => by rw [spec_AfterDeath.l0, if_neg (by simp)]) ?_
  rw [List.append_nil, ← hd]
  exact Ev.bind ef (Ev.now _)
 | cons z zs ih =>
  intro pre h1 h2
  have hl : (pre ++ z :: zs).length = H0.length := by simp at h1 ⊢; omega
  have hg : (pre ++ z :: zs).getD pre.length 0 = z := by simp
  have hw : wrap64 ((pre.length : Int) + 1) = ((pre.length + 1 : Nat) : Int) := wsucc (n := H0.length) (by simp at h1; omega) (by omega)
  by_cases e : z = w
  ·have e1 := ih (pre ++ [-1]) (by simp at h1 ⊢; omega) (by rw [h2]; simp [dv, e])
   refine Ev.step (fun k => ?_) e1
   rw [spec_AfterDeath.l0, if_pos (by simp; omega), if_pos (by omega), rdn, hg, if_pos e, hw]
   simp
  ·have e1 := ih (pre ++ [z]) (by simp at h1 ⊢; omega) (by rw [h2]; simp [dv, e])
   refine Ev.step (fun k => ?_) e1
   rw [spec_AfterDeath.l0, if_pos (by simp; omega), if_pos (by omega), rdn, hg, if_neg e, hw]
   simp
theorem sAfterDeath_ev (H : List Int) : Ev (fun k => spec_AfterDeath.f k p L H a w) (if (CtB p L H a && lv p a w) = true then (p, L, adH p L H a w, a - 2 ^ w.toNat, true) else (0, [], [], 0, false)) := by
 have no : Ev (fun k => spec_AfterDeath.j0 k w true p L H a) (0, [], [], 0, false) := Ev.step (fun k => by rw [spec_AfterDeath.j0, if_pos rfl]) (Ev.now _)
 unfold spec_AfterDeath.f
 refine Ev.bind (spec_CourtOk_ev p L H a hin) ?_
 cases hc : CtB p L H a with
 | false => simp only [Bool.false_eq_true, if_false, Bool.false_and]; exact no
 | true =>
  obtain ⟨c1, c2, c3, c4, c5⟩ := CtB_of hc
  have cr := CrB_of c1
  have ps := pow_small cr.1 cr.2.1
  have wp : wrap64 (p - 1) = p - 1 := wz (by omega) (by omega)
  simp only [if_true, l1In_eq2, Option.bind_some, wp, Bool.true_and]
  by_cases hr : 0 ≤ w ∧ w ≤ p - 1
  ·rw [decide_eq_true hr]
   simp only [if_true, if_pos hr.1]
   rw [lv_spec p a cr.2.1 cr.2.2.1 (by omega) hr.1 (by omega)]
   cases hl : lv p a w with
   | false => simp only [Bool.not_false, Bool.false_eq_true, if_false]; exact no
   | true =>
    have dn := death_num cr.2.1 cr.2.2.1 (by omega) hl
    simp only [Bool.not_true, if_true]
    have wa : wrap64 (a - shl .i64 1 w) = a - 2 ^ w.toNat := by rw [dn.1]; exact wz (by omega) (by omega)
    refine Ev.step (fun k => by rw [spec_AfterDeath.j0, if_neg (by decide)]) (Ev.bind (Copy_ev p L H a (by omega) (by omega) hin) ?_)
    simp only [if_pos hr.1, wa]
    exact sdeath_l0 p L w hin H (a - 2 ^ w.toNat) (death_court hc hl) (by omega) H [] (by simp) (by simp)
  ·rw [decide_eq_false hr]
   have hl : lv p a w = false := by
    cases hl : lv p a w with
    | false => rfl
    | true => have := lv_nn hl; omega
   simp only [hl, Bool.false_eq_true, if_false]
   exact no
end

def adF (p : Int) (L : List (List Int)) : List Int → List Int → Int → Int → List Int × Int × Int
 | [], H, a, n => (H, a, n)
 | w :: ws, H, a, n => if lv p a w = true then adF p L ws (adH p L H a w) (a - 2 ^ w.toNat) (n + 1) else adF p L ws H a n
section
variable (p : Int) (L : List (List Int)) (hin : ∀ l ∈ L, l.length ≤ 1048576)
include hin
theorem ideaths_l0 (X : List Int) (hX : X.length ≤ 1000) : ∀ (zs : List Int) (i : Nat) (H : List Int) (a n : Int), X.drop i = zs → CtB p L H a = true → 0 ≤ n → n ≤ i → Ev (fun k => impl_AfterDeaths.l0 k n X (X.length : Int) (i : Int) p L H a) (p, L, (adF p L zs H a n).1, (adF p L zs H a n).2.1, (adF p L zs H a n).2.2) := by
 intro zs
 induction zs with
 | nil =>
  intro i H a n h hc h0 h1
  exact Ev.step (fun k => by rw [impl_AfterDeaths.l0, if_neg (dnil h)]) (Ev.now (p, L, H, a, n))
 | cons z zs ih =>
  intro i H a n h hc h0 h1
  obtain ⟨k1, k2, k3⟩ := dcons h
  have cr := CrB_of (CtB_of hc).1
  have ps := pow_small cr.1 cr.2.1
  have lz := lives_eq p L H a z cr.2.1 cr.2.2.1 (by omega)
  rw [adF]
  have st : ∀ k, impl_AfterDeaths.l0 (k + 1) n X (X.length : Int) (i : Int) p L H a = _ := fun k => by rw [impl_AfterDeaths.l0, if_pos (by omega), if_pos (by omega), if_pos (by omega), rdn, k2, lz, Option.bind_some, wsucc k1 (by omega), wz (x := n + 1) (by omega) (by omega)]
  cases hl : lv p a z with
  | false =>
   rw [if_neg (by decide)]
   refine Ev.step st ?_
   simp only [hl, Bool.false_eq_true, if_false]
   exact ih (i + 1) H a n k3 hc h0 (by omega)
  | true =>
   rw [if_pos rfl]
   refine Ev.step st ?_
   simp only [hl, if_true]
   exact Ev.bind (iafter_ev p L H a z hin hc hl) (ih (i + 1) _ _ (n + 1) k3 (ad_court hc hl) (by omega) (by omega))
theorem iAfterDeaths_ev (H : List Int) (a : Int) (X : List Int) : Ev (fun k => impl_AfterDeaths.f k p L H a X) (if (CtB p L H a && decide (X.length ≤ 20)) = true then (p, L, (adF p L X H a 0).1, (adF p L X H a 0).2.1, (adF p L X H a 0).2.2) else (0, [], [], 0, -1)) := by
 have no : Ev (fun k => impl_AfterDeaths.j0 k X true p L H a) (0, [], [], 0, -1) := Ev.step (fun k => by rw [impl_AfterDeaths.j0, if_pos rfl]) (Ev.now _)
 unfold impl_AfterDeaths.f
 refine Ev.bind (isCourt_ev p L H a hin) ?_
 cases hc : CtB p L H a with
 | false => simp only [Bool.false_eq_true, if_false, Bool.false_and]; exact no
 | true =>
  obtain ⟨c1, c2, c3, c4, c5⟩ := CtB_of hc
  simp only [if_true, Bool.true_and]
  by_cases hx : X.length ≤ 20
  ·rw [decide_eq_false (show ¬ ((X.length : Int) > 20) by omega), decide_eq_true hx, if_pos rfl]
   exact Ev.step (fun k => by rw [impl_AfterDeaths.j0, if_neg (by decide)]) (Ev.bind (icopy_ev p L H a (by omega) (by omega) hin) (ideaths_l0 p L hin X (by omega) X 0 H a 0 rfl hc (by omega) (by omega)))
  ·rw [decide_eq_true (show ((X.length : Int) > 20) by omega), decide_eq_false hx, if_neg (by decide)]
   exact no
end
theorem adF_court (p : Int) (L : List (List Int)) : ∀ (ws H : List Int) (a n : Int), CtB p L H a = true → CtB p L (adF p L ws H a n).1 (adF p L ws H a n).2.1 = true := by
 intro ws
 induction ws with
 | nil => intro H a n h; exact h
 | cons w ws ih =>
  intro H a n h
  rw [adF]
  cases hl : lv p a w with
  | false => rw [if_neg (by decide)]; exact ih H a n h
  | true => rw [if_pos rfl]; exact ih _ _ _ (ad_court h hl)
theorem adF_cnt (p : Int) (L : List (List Int)) : ∀ (ws H : List Int) (a n : Int), n ≤ (adF p L ws H a n).2.2 := by
 intro ws
 induction ws with
 | nil => intro H a n; exact Int.le_refl _
 | cons w ws ih =>
  intro H a n
  rw [adF]
  split
  ·have := ih (adH p L H a w) (a - 2 ^ w.toNat) (n + 1); omega
  ·exact ih H a n
theorem adF_len (p : Int) (L : List (List Int)) : ∀ (ws H : List Int) (a n : Int), (adF p L ws H a n).1.length = H.length := by
 intro ws
 induction ws with
 | nil => intro H a n; rfl
 | cons w ws ih =>
  intro H a n
  rw [adF]
  split
  ·rw [ih, adH_len]
  ·exact ih H a n

theorem deaths_l0 {s : List Int} (hs : ∀ x ∈ s, (Lit.int .u8 x).wf = true) (hl : s.length ≤ 2000) (p : Int) (L : List (List Int)) (H : List Int) (a : Int) : ∀ (d : Nat) (X : List Int) (q : Int), X.length + d ≤ 100 → 0 ≤ q → q + d ≤ 100000 → ∃ Y : List Int, Ev (fun k => spec_DrawAfterDeaths.l0 k X (d : Int) s q p L H a) (p, L, H, a, Y) ∧ Y.length = X.length + d := by
 intro d
 induction d with
 | zero =>
  intro X q h1 h2 h3
  exact ⟨X, Ev.step (fun k => by rw [spec_DrawAfterDeaths.l0, if_neg (by omega)]) (Ev.now _), rfl⟩
 | succ d ih =>
  intro X q h1 h2 h3
  obtain ⟨r, e, _⟩ := pick_ev hs hl q (mx p 1) h2 (by omega)
  obtain ⟨Y, eY, hY⟩ := ih (X ++ [r]) (q + 1) (by simp; omega) (by omega) (by omega)
  have w : wrap64 (((d + 1 : Nat) : Int) - 1) = (d : Int) := by rw [wz (by omega) (by omega)]; omega
  refine ⟨Y, Ev.step (fun k => by rw [spec_DrawAfterDeaths.l0, if_pos (by omega)]) (Ev.bind e ?_), by rw [hY]; simp; omega⟩
  simp only [if_pos (show X.length < 17592186044416 by omega), w]
  exact eY
theorem drawdeaths_ev {l : List Int} (hs : ∀ x ∈ l, (Lit.int .u8 x).wf = true) : ∃ p L H a X, Ev (fun k => spec_DrawAfterDeaths.f k l) (p, L, H, a, X) ∧ L.length ≤ 10 ∧ H.length ≤ 10 ∧ (∀ l ∈ L, l.length ≤ 10) ∧ X.length ≤ 100 := by
 obtain ⟨sd, e, hs', hl⟩ := open_some hs
 obtain ⟨⟨p, L, H, a, q⟩, ec, g1, g2, g3, g4, g5⟩ := court_ev hs' hl 12
 have g4 : 0 ≤ q := g4
 have g5 : q ≤ 1000 := g5
 obtain ⟨r1, e1, b0, b1, _⟩ := pick_ev hs' hl q 6 g4 (by omega)
 obtain ⟨r2, e2, c0, c1, _⟩ := pick_ev hs' hl (q + 1) 40 (by omega) (by omega)
 have b1 := b1 (by decide)
 have c1 := c1 (by decide)
 have t := tdiv_range c0 (show (0 : Int) < 39 by decide)
 have t1 : Int.tdiv r2 39 ≤ 1 := by rw [Int.tdiv_eq_ediv_of_nonneg c0]; omega
 obtain ⟨m, hm⟩ := Int.eq_ofNat_of_zero_le (show 0 ≤ r1 + Int.tdiv r2 39 * 20 by omega)
 have w1 : wrap64 (Int.tdiv r2 39) = Int.tdiv r2 39 := wz (by omega) (by omega)
 have w2 : wrap64 (Int.tdiv r2 39 * 20) = Int.tdiv r2 39 * 20 := wz (by omega) (by omega)
 have w3 : wrap64 (r1 + Int.tdiv r2 39 * 20) = (m : Int) := by rw [wz (by omega) (by omega)]; exact hm
 obtain ⟨Y, eY, hY⟩ := deaths_l0 hs' hl p L H a m [] (q + 1 + 1) (by simp; omega) (by omega) (by omega)
 refine ⟨p, L, H, a, Y, ?_, g1, g2, g3, by rw [hY]; simp; omega⟩
 unfold spec_DrawAfterDeaths.f
 simp only [e, Option.bind_some]
 refine Ev.bind ec (Ev.bind e1 (Ev.bind e2 ?_))
 simp only [w1, w2, w3]
 exact eY

def vcF : List Int → Nat → List Int
 | [], _ => []
 | h :: hs, i => if h = -1 then (i : Int) :: vcF hs (i + 1) else vcF hs (i + 1)
theorem impl_VacantOf_l0 (H : List Int) (hH : H.length ≤ 1000) : ∀ (zs : List Int) (i : Nat) (out : List Int), H.drop i = zs → out.length ≤ i → Ev (fun k => impl_VacantOf.l0 k out H (H.length : Int) (i : Int)) (out ++ vcF zs i) := by
 intro zs
 induction zs with
 | nil =>
  intro i out h ho
  exact Ev.step (fun k => by rw [impl_VacantOf.l0, if_neg (dnil h)]) (Ev.to (Ev.now out) (by simp [vcF]))
 | cons z zs ih =>
  intro i out h ho
  obtain ⟨h1, h2, h3⟩ := dcons h
  by_cases hz : z = -1
  ·refine Ev.step (fun k => by rw [impl_VacantOf.l0, if_pos (by omega), if_pos (by omega), if_pos (by omega), rdn, h2, if_pos hz, if_pos (by omega), wsucc h1 (by omega)]) (Ev.to (ih (i + 1) (out ++ [(i : Int)]) h3 (by simp <;> omega)) (by simp [vcF, hz]))
  ·refine Ev.step (fun k => by rw [impl_VacantOf.l0, if_pos (by omega), if_pos (by omega), if_pos (by omega), rdn, h2, if_neg hz, wsucc h1 (by omega)]) (Ev.to (ih (i + 1) out h3 (by omega)) (by simp [vcF, hz]))
def VcB (p : Int) (L : List (List Int)) (H : List Int) (a : Int) : List Int := if CtB p L H a = true then vcF H 0 else []
theorem impl_VacantOf_ev (p : Int) (L : List (List Int)) (H : List Int) (a : Int) (hH : H.length ≤ 1000) (hin : ∀ l ∈ L, l.length ≤ 1048576) : Ev (fun k => impl_VacantOf.f k p L H a) (VcB p L H a) := by
 unfold impl_VacantOf.f VcB
 refine Ev.bind (isCourt_ev p L H a hin) ?_
 cases CtB p L H a with
 | false => simp only [Bool.false_eq_true, if_false]; exact Ev.now _
 | true => simp only [if_true]; exact impl_VacantOf_l0 H hH H 0 [] rfl (by simp)

section
variable (p : Int) (L : List (List Int)) (hin : ∀ l ∈ L, l.length ≤ 1048576)
include hin
theorem sdeaths_l0 (X : List Int) (hX : X.length ≤ 1000) : ∀ (zs : List Int) (i : Nat) (H : List Int) (a n : Int), X.drop i = zs → CtB p L H a = true → 0 ≤ n → n ≤ i → Ev (fun k => spec_AfterDeaths.l0 k X n (i : Int) p L H a) (p, L, (adF p L zs H a n).1, (adF p L zs H a n).2.1, (adF p L zs H a n).2.2) := by
 intro zs
 induction zs with
 | nil =>
  intro i H a n h hc h0 h1
  exact Ev.step (fun k => by rw [spec_AfterDeaths.l0, if_neg (dnil h)]) (Ev.now (p, L, H, a, n))
 | cons z zs ih =>
  intro i H a n h hc h0 h1
  obtain ⟨k1, k2, k3⟩ := dcons h
  have es := sAfterDeath_ev p L a z hin H
  rw [adF]
  cases hl : lv p a z with
  | false =>
   rw [hc, hl] at es
   rw [if_neg (by decide)] at es ⊢
   refine Ev.step (f := fun k => (spec_AfterDeath.f k p L H a z).bind _) (fun k => by rw [spec_AfterDeaths.l0, if_pos (by omega), if_pos (by omega), rdn, k2, wsucc k1 (by omega), wz (x := n + 1) (by omega) (by omega)]) (Ev.bind es ?_)
   simp only [Bool.false_eq_true, if_false]
   exact ih (i + 1) H a n k3 hc h0 (by omega)
  | true =>
   rw [hc, hl, if_pos (by decide)] at es
   rw [if_pos rfl]
   refine Ev.step (f := fun k => (spec_AfterDeath.f k p L H a z).bind _) (fun k => by rw [spec_AfterDeaths.l0, if_pos (by omega), if_pos (by omega), rdn, k2, wsucc k1 (by omega), wz (x := n + 1) (by omega) (by omega)]) (Ev.bind es ?_)
   simp only [if_true]
   exact ih (i + 1) _ _ (n + 1) k3 (ad_court hc hl) (by omega) (by omega)
theorem sAfterDeaths_ev (H : List Int) (a : Int) (X : List Int) : Ev (fun k => spec_AfterDeaths.f k p L H a X) (if (CtB p L H a && decide (X.length ≤ 20)) = true then (p, L, (adF p L X H a 0).1, (adF p L X H a 0).2.1, (adF p L X H a 0).2.2) else (0, [], [], 0, -1)) := by
 have no : Ev (fun k => spec_AfterDeaths.j0 k X true p L H a) (0, [], [], 0, -1) := Ev.step (fun k => by rw [spec_AfterDeaths.j0, if_pos rfl]) (Ev.now _)
 unfold spec_AfterDeaths.f
 refine Ev.bind (spec_CourtOk_ev p L H a hin) ?_
 cases hc : CtB p L H a with
 | false => simp only [Bool.false_eq_true, if_false, Bool.false_and]; exact no
 | true =>
  obtain ⟨c1, c2, c3, c4, c5⟩ := CtB_of hc
  simp only [if_true, Bool.true_and]
  by_cases hx : X.length ≤ 20
  ·rw [decide_eq_false (show ¬ ((X.length : Int) > 20) by omega), decide_eq_true hx, if_pos rfl]
   exact Ev.step (fun k => by rw [spec_AfterDeaths.j0, if_neg (by decide)]) (Ev.bind (Copy_ev p L H a (by omega) (by omega) hin) (sdeaths_l0 p L hin X (by omega) X 0 H a 0 rfl hc (by omega) (by omega)))
  ·rw [decide_eq_true (show ((X.length : Int) > 20) by omega), decide_eq_false hx, if_neg (by decide)]
   exact no
end
theorem adF_off (p : Int) (L : List (List Int)) : ∀ (ws H : List Int) (a n : Int), adF p L ws H a n = ((adF p L ws H a 0).1, (adF p L ws H a 0).2.1, n + (adF p L ws H a 0).2.2) := by
 intro ws
 induction ws with
 | nil => intro H a n; simp [adF]
 | cons w ws ih =>
  intro H a n
  rw [adF, adF]
  split
  ·rw [ih _ _ (n + 1), ih _ _ (0 + 1)]
   simp only [Prod.mk.injEq, true_and]
   omega
  ·exact ih H a n
theorem adF_app (p : Int) (L : List (List Int)) : ∀ (ws us H : List Int) (a n : Int), adF p L (ws ++ us) H a n = adF p L us (adF p L ws H a n).1 (adF p L ws H a n).2.1 (adF p L ws H a n).2.2 := by
 intro ws
 induction ws with
 | nil => intro us H a n; rfl
 | cons w ws ih =>
  intro us H a n
  rw [List.cons_append, adF, adF]
  split
  ·exact ih us _ _ _
  ·exact ih us _ _ _
def cF (p : Int) : List Int → Int → Int → Int × Int
 | [], a, n => (a, n)
 | w :: ws, a, n => if lv p a w = true then cF p ws (a - 2 ^ w.toNat) (n + 1) else cF p ws a n
theorem adF_cF (p : Int) (L : List (List Int)) : ∀ (ws H : List Int) (a n : Int), (adF p L ws H a n).2 = cF p ws a n := by
 intro ws
 induction ws with
 | nil => intro H a n; rfl
 | cons w ws ih =>
  intro H a n
  rw [adF, cF]
  split
  ·exact ih _ _ _
  ·exact ih _ _ _
def Hd (a : Int) : Int := a % 2 + a / 2 % 2 + a / 4 % 2 + a / 8 % 2 + a / 16 % 2 + a / 32 % 2
theorem impl_heads_all : ∀ n : Fin 64, impl_headsOf.f (n.val : Int) = some (Hd (n.val : Int)) := by decide +kernel
def upTo (n : Nat) : List Int := (List.range n).map fun x : Nat => (x : Int)
theorem all_die : ∀ (p : Fin 7) (a : Fin 64), (a.val : Int) < 2 ^ p.val → cF (p.val : Int) (upTo p.val) (a.val : Int) 0 = (0, Hd (a.val : Int)) := by decide +kernel
theorem upTo_len (n : Nat) : (upTo n).length = n := by simp [upTo]
theorem upTo_succ (n : Nat) : upTo (n + 1) = upTo n ++ [(n : Int)] := by simp [upTo, List.range_succ]
theorem iCourtOk_ev (p : Int) (L : List (List Int)) (H : List Int) (a : Int) (hin : ∀ l ∈ L, l.length ≤ 1048576) : Ev (fun k => impl_CourtOk.f k p L H a) (CtB p L H a) := by
 unfold impl_CourtOk.f
 exact Ev.bind (isCourt_ev p L H a hin) (Ev.now _)
theorem vcF_all : ∀ (hs : List Int) (i : Nat), (∀ x ∈ hs, x = -1) → (vcF hs i).length = hs.length := by
 intro hs
 induction hs with
 | nil => intro i _; rfl
 | cons h hs ih =>
  intro i g
  rw [vcF, if_pos (g h (by simp))]
  simp [ih (i + 1) (fun x hx => g x (by simp [hx]))]
theorem deaths_end (p : Int) (L : List (List Int)) (H : List Int) (a : Int) (X K : List Int) (b n n1 n2 : Int) (hc : CtB p L H a = true) (hb : CtB p L K b = true) (hin : ∀ l ∈ L, l.length ≤ 1000000) (hn : wrap64 (n1 + n2) = n) : ∀ (d i : Nat), (i + d : Nat) = p.toNat → Ev (fun k => laws_FnAfterDeaths.l0 k n n1 n2 (upTo i) (i : Int) p L H a p L K b p L K b) true := by
 obtain ⟨c1, c2, c3, c4, c5⟩ := CtB_of hc
 have cr := CrB_of c1
 have ps := pow_small cr.1 cr.2.1
 have hin' : ∀ l ∈ L, l.length ≤ 1048576 := fun l hl => by have := hin l hl; omega
 intro d
 induction d with
 | zero =>
  intro i h
  obtain ⟨P, rfl⟩ := Int.eq_ofNat_of_zero_le (show 0 ≤ p by omega)
  obtain ⟨A, rfl⟩ := Int.eq_ofNat_of_zero_le cr.2.2.1
  have hi : i = P := by omega
  subst hi
  have ad := all_die ⟨i, by omega⟩ ⟨A, by omega⟩ cr.2.2.2
  have ad : cF (i : Int) (upTo i) (A : Int) 0 = (0, Hd (A : Int)) := ad
  have e2 : (adF (i : Int) L (upTo i) H (A : Int) 0).2.1 = 0 := by rw [adF_cF, ad]
  have e3 : (adF (i : Int) L (upTo i) H (A : Int) 0).2.2 = Hd (A : Int) := by rw [adF_cF, ad]
  have ei := iAfterDeaths_ev (i : Int) L hin' H (A : Int) (upTo i)
  rw [if_pos (by rw [hc, decide_eq_true (by rw [upTo_len]; omega)]; rfl), e2, e3] at ei
  have ec := adF_court (i : Int) L (upTo i) H (A : Int) 0 hc
  rw [e2] at ec
  have el := adF_len (i : Int) L (upTo i) H (A : Int) 0
  have hd : impl_HeadsOf.f (i : Int) (A : Int) = some (Hd (A : Int)) := by
   unfold impl_HeadsOf.f
   rw [impl_isCrowd_eq, c1]
   have := impl_heads_all ⟨A, by omega⟩
   have this : impl_headsOf.f (A : Int) = some (Hd (A : Int)) := this
   simp only [Option.bind_some, if_true, this]
  refine Ev.step (f := fun k => (impl_AfterDeaths.f k (i : Int) L H (A : Int) (upTo i)).bind _) (fun k => by rw [laws_FnAfterDeaths.l0, if_neg (by omega)]) (Ev.bind ei ?_)
  refine Ev.bind (iCourtOk_ev (i : Int) L K b hin') ?_
  simp only [hb, if_true]
  refine Ev.bind (sameCourtD_ev (i : Int) L K b (i : Int) L K b (by omega) hin (by have := (CtB_of hb).2.2.1; omega)) ?_
  simp only [decide_true, if_true, if_pos hn, hd, Option.bind_some]
  refine Ev.bind (impl_VacantOf_ev (i : Int) L (adF (i : Int) L (upTo i) H (A : Int) 0).1 0 (by omega) hin') (Ev.to (Ev.now _) ?_)
  have al : ∀ x ∈ (adF (i : Int) L (upTo i) H (A : Int) 0).1, x = -1 := by
   intro x hx
   obtain ⟨j, hj, ej⟩ := mem_getD.1 hx
   have := (hoF_iff (i : Int) 0 _).1 (CtB_of ec).2.2.2.2 j hj
   rw [ej] at this
   rcases this with h1 | ⟨h1, _⟩
   ·exact h1
   ·have := lv_bit h1
    simp at this
  unfold VcB
  rw [ec, if_pos rfl, vcF_all _ 0 al, el, c3]
  simp
 | succ d ih =>
  intro i h
  have e := ih (i + 1) (by omega)
  refine Ev.step (fun k => ?_) e
  rw [laws_FnAfterDeaths.l0, if_pos (by omega), if_pos (by rw [upTo_len]; omega), upTo_succ, wsucc (n := p.toNat) (by omega) (by omega)]
theorem FnAfterDeaths : laws_FnAfterDeaths.Pure := by
 intro l _ _ hs
 refine Ev.rounds ?_
 unfold laws_FnAfterDeaths.f
 by_cases h : (l.length : Int) > 1048576
 ·simp only [if_pos h]
  exact Ev.now _
 simp only [if_neg h]
 obtain ⟨p, L, H, a, X, e3, g1, g2, g3, g4⟩ := drawdeaths_ev hs
 have hin : ∀ l ∈ L, l.length ≤ 1048576 := fun l hl => by have := g3 l hl; omega
 have hin1 : ∀ l ∈ L, l.length ≤ 1000000 := fun l hl => by have := g3 l hl; omega
 have ei := iAfterDeaths_ev p L hin H a X
 have es := sAfterDeaths_ev p L hin H a X
 cases hc : (CtB p L H a && decide (X.length ≤ 20)) with
 | false =>
  rw [if_neg (by rw [hc]; decide)] at ei es
  refine Ev.bind e3 (Ev.bind ei (Ev.bind es (Ev.bind (sameCourtD_ev 0 [] [] 0 0 [] [] 0 (by simp) (by simp) (by simp)) ?_)))
  simp only [decide_true, if_true, bne_self_eq_false]
  refine Ev.step (fun k => by rw [laws_FnAfterDeaths.j0, if_neg (by decide), if_pos (by decide), if_pos rfl]) (Ev.bind (sameCourtD_ev 0 [] [] 0 0 [] [] 0 (by simp) (by simp) (by simp)) ?_)
  simp only [decide_true, if_true, alive_eq, Option.bind_some]
  exact Ev.now _
 | true =>
  rw [if_pos hc] at ei es
  simp only [Bool.and_eq_true, decide_eq_true_eq] at hc
  have hn := adF_cnt p L X H a 0
  have hl := adF_len p L X H a 0
  have c3 := (CtB_of hc.1).2.2.1
  have hb := adF_court p L X H a 0 hc.1
  refine Ev.bind e3 (Ev.bind ei (Ev.bind es (Ev.bind (sameCourtD_ev p L (adF p L X H a 0).1 (adF p L X H a 0).2.1 p L (adF p L X H a 0).1 (adF p L X H a 0).2.1 (by omega) hin1 (by rw [hl]; omega)) ?_)))
  simp only [decide_true, if_true, bne_self_eq_false]
  obtain ⟨m, hm⟩ : ∃ m, m = X.length / 2 := ⟨_, rfl⟩
  have hw : wrap64 ((X.length : Int) / 2) = (m : Int) := by rw [wz (by omega) (by omega)]; omega
  have i1 := iAfterDeaths_ev p L hin H a (X.take m)
  rw [if_pos (by rw [hc.1, decide_eq_true (by simp; omega)]; rfl)] at i1
  have b1 := adF_court p L (X.take m) H a 0 hc.1
  have i2 := iAfterDeaths_ev p L hin (adF p L (X.take m) H a 0).1 (adF p L (X.take m) H a 0).2.1 (X.drop m)
  rw [if_pos (by rw [b1, decide_eq_true (by simp; omega)]; rfl)] at i2
  have ap := adF_app p L (X.take m) (X.drop m) H a 0
  rw [List.take_append_drop, adF_off p L (X.drop m)] at ap
  have n1 := adF_cnt p L (X.take m) H a 0
  have n2 := adF_cnt p L (X.drop m) (adF p L (X.take m) H a 0).1 (adF p L (X.take m) H a 0).2.1 0
  have up : ∀ (zs G : List Int) (c n : Int), (adF p L zs G c n).2.2 ≤ n + zs.length := by
   intro zs
   induction zs with
   | nil => intro G c n; simp [adF]
   | cons z zs ih =>
    intro G c n
    rw [adF]
    split
    ·have := ih (adH p L G c z) (c - 2 ^ z.toNat) (n + 1); simp only [List.length_cons]; omega
    ·have := ih G c n; simp only [List.length_cons]; omega
  have u1 := up (X.take m) H a 0
  have u2 := up (X.drop m) (adF p L (X.take m) H a 0).1 (adF p L (X.take m) H a 0).2.1 0
  have t1 : (X.take m).length ≤ X.length := by simp; omega
  have t2 : (X.drop m).length ≤ X.length := by simp
  refine Ev.step (fun k => by rw [laws_FnAfterDeaths.j0, if_neg (by decide), if_neg (by omega), hw, if_pos (by omega), if_pos (by omega), Int.toNat_natCast]) (Ev.bind i1 (Ev.bind i2 ?_))
  have de := deaths_end p L H a X (adF p L X H a 0).1 (adF p L X H a 0).2.1 (adF p L X H a 0).2.2 (adF p L (X.take m) H a 0).2.2 (adF p L (X.drop m) (adF p L (X.take m) H a 0).1 (adF p L (X.take m) H a 0).2.1 0).2.2 hc.1 hb hin1 (by rw [wz (by omega) (by omega), ap]) p.toNat 0 (by omega)
  have x1 : (adF p L (X.drop m) (adF p L (X.take m) H a 0).1 (adF p L (X.take m) H a 0).2.1 0).1 = (adF p L X H a 0).1 := by rw [ap]
  have x2 : (adF p L (X.drop m) (adF p L (X.take m) H a 0).1 (adF p L (X.take m) H a 0).2.1 0).2.1 = (adF p L X H a 0).2.1 := by rw [ap]
  simp only [x1, x2]
  exact de

end Go.Proofs.Ytlpjkeejflogjaa.Pure
