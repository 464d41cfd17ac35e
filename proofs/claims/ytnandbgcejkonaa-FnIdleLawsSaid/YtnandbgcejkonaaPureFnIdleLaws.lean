/- The law FnIdleLaws is true: for every code the program's IdleLaws and the reference's answer alike at the drawn book; a law that is unbeaten in no case is idle, one that stands twice is idle, and without the first idle one the book says the same. Conditions: none. -/
import Derived.Test.YtnandbgcejkonaaQFnIdleLawsx11
namespace Go.Proofs.Ytnandbgcejkonaa.Pure
open Go.RowKit Go.Proofs.Ytnandbgcejkonaa.QFnIdleLaws Go.Proofs.YtnandbgcejkonaaW.PrintWords Go.Proofs.YtnandbgcejkonaaW.PrintLast
set_option linter.unusedVariables false
set_option linter.unusedSimpArgs false

theorem w64 {x : Int} (h0 : -9223372036854775808 ≤ x) (h1 : x ≤ 9223372036854775807) : wrap64 x = x := by unfold wrap64; omega

theorem xor_nn {a b : Int} (ha : 0 ≤ a) (ha1 : a < 9223372036854775808) (hb : 0 ≤ b) (hb1 : b < 9223372036854775808) : 0 ≤ Go.bits .xor .i64 a b := by
 obtain ⟨m, rfl⟩ := Int.eq_ofNat_of_zero_le ha
 obtain ⟨n, rfl⟩ := Int.eq_ofNat_of_zero_le hb
 have hm : m < 2 ^ 63 := by omega
 have hn : n < 2 ^ 63 := by omega
 have hx := Nat.xor_lt_two_pow hm hn
 simp only [Go.bits, BitVec.ofInt_natCast, BitVec.toNat_xor, BitVec.toNat_ofNat]
 have e1 : m % 2 ^ IntKind.i64.bits = m := Nat.mod_eq_of_lt (by simp only [IntKind.bits]; omega)
 have e2 : n % 2 ^ IntKind.i64.bits = n := Nat.mod_eq_of_lt (by simp only [IntKind.bits]; omega)
 rw [e1, e2, IntKind.wrap_i64]
 omega

theorem rd_range {s : List Int} (hs : ∀ x ∈ s, (Lit.int .u8 x).wf = true) (i : Int) : 0 ≤ rd s i ∧ rd s i ≤ 255 := by
 unfold rd
 by_cases h : i.toNat < s.length
 ·have := hs _ (List.getElem_mem h)
  rw [List.getD_eq_getElem?_getD, List.getElem?_eq_getElem h]
  simp [Lit.wf, IntKind.min, IntKind.max, IntKind.bits, IntKind.signed] at this
  simp
  omega
 ·rw [List.getD_eq_getElem?_getD, List.getElem?_eq_none (by omega)]
  simp
theorem tmod_range {a n : Int} (ha : 0 ≤ a) (hn : 0 < n) : 0 ≤ Int.tmod a n ∧ Int.tmod a n < n := by
 rw [Int.tmod_eq_emod_of_nonneg ha]
 exact ⟨Int.emod_nonneg _ (by omega), Int.emod_lt_of_pos _ hn⟩
theorem tdiv_range {a n : Int} (ha : 0 ≤ a) (hn : 0 < n) : 0 ≤ Int.tdiv a n ∧ Int.tdiv a n ≤ a := by
 rw [Int.tdiv_eq_ediv_of_nonneg ha]
 exact ⟨Int.ediv_nonneg ha (by omega), Int.ediv_le_self _ ha⟩

theorem pick_some {s : List Int} (hs : ∀ x ∈ s, (Lit.int .u8 x).wf = true) (hl : s.length ≤ 2000) (p n : Int) (hp0 : 0 ≤ p) (hp : p ≤ 1000000) (k : Nat) (hk : 0 < k) :
  ∃ r, spec_l20Rd_pick.f k s p n = some (r, p + 1) ∧ 0 ≤ r ∧ (0 < n → r < n) ∧ (n ≤ 0 → r = 0) := by
 obtain ⟨k, rfl⟩ : ∃ m, k = m + 1 := ⟨k - 1, by omega⟩
 have e1 : wrap64 (p + 1) = p + 1 := w64 (by omega) (by omega)
 have e2 : wrap64 (p + 1 - 1) = p := by rw [Int.add_sub_cancel]; exact w64 (by omega) (by omega)
 unfold spec_l20Rd_pick.f
 by_cases hn : n < 1
 ·rw [if_pos hn]
  refine ⟨0, ?_, Int.le_refl 0, fun h => by omega, fun _ => rfl⟩
  simp only [spec_l20Rd_pick.j0, e1, if_true]
 rw [if_neg hn]
 by_cases h0 : s.length = 0
 ·have : ((s.length : Int) == 0) = true := by rw [h0]; rfl
  refine ⟨0, ?_, Int.le_refl 0, fun h => h, fun _ => rfl⟩
  rw [this]
  simp only [spec_l20Rd_pick.j0, e1, if_true]
 have hb : ((s.length : Int) == 0) = false := by simp; intro h; rw [h] at h0; exact h0 rfl
 rw [hb]
 simp only [spec_l20Rd_pick.j0, e1, e2]
 rw [if_neg (by decide)]
 have hn0 : ¬ n = 0 := by omega
 by_cases hlt : p < (s.length : Int)
 ·rw [if_pos hlt, if_pos hp0, if_neg hn0]
  have hr := rd_range hs p
  have e3 : wrap64 (rd s p) = rd s p := w64 (by omega) (by omega)
  rw [e3]
  have := tmod_range hr.1 (show 0 < n by omega)
  exact ⟨_, rfl, this.1, fun _ => this.2, fun h => by omega⟩
 rw [if_neg hlt, if_neg (show ¬ (s.length : Int) = 0 by omega)]
 have hL : 0 < (s.length : Int) := by omega
 have t1 := tmod_range hp0 hL
 have f1 : wrap64 (p * 7) = p * 7 := w64 (by omega) (by omega)
 have f2 : wrap64 (p * 7 + 3) = p * 7 + 3 := w64 (by omega) (by omega)
 have t2 := tmod_range (show 0 ≤ p * 7 + 3 by omega) hL
 rw [f1, f2]
 rw [if_pos t1.1, if_pos t1.2, if_pos t2.1, if_pos t2.2, if_neg hn0]
 have r1 := rd_range hs (Int.tmod p s.length)
 have r2 := rd_range hs (Int.tmod (p * 7 + 3) s.length)
 generalize rd s (Int.tmod p s.length) = x at r1 ⊢
 generalize rd s (Int.tmod (p * 7 + 3) s.length) = y at r2 ⊢
 have d1 := tdiv_range hp0 hL
 generalize Int.tdiv p s.length = q at d1 ⊢
 rw [show wrap64 x = x from w64 (by omega) (by omega), show wrap64 y = y from w64 (by omega) (by omega)]
 rw [show wrap64 (x * 131) = x * 131 from w64 (by omega) (by omega), show wrap64 (y * 1117) = y * 1117 from w64 (by omega) (by omega), show wrap64 (p * 29) = p * 29 from w64 (by omega) (by omega), show wrap64 q = q from w64 (by omega) (by omega)]
 rw [show wrap64 (q * 53) = q * 53 from w64 (by omega) (by omega), show wrap64 (x * 131 + y * 1117) = x * 131 + y * 1117 from w64 (by omega) (by omega)]
 rw [show wrap64 (x * 131 + y * 1117 + p * 29) = x * 131 + y * 1117 + p * 29 from w64 (by omega) (by omega)]
 rw [show wrap64 (x * 131 + y * 1117 + p * 29 + q * 53) = x * 131 + y * 1117 + p * 29 + q * 53 from w64 (by omega) (by omega)]
 have hz : 0 ≤ x * 131 + y * 1117 + p * 29 + q * 53 ∧ x * 131 + y * 1117 + p * 29 + q * 53 < 1000000000 := by omega
 generalize x * 131 + y * 1117 + p * 29 + q * 53 = z at hz ⊢
 have d2 := tdiv_range hz.1 (show (0 : Int) < 64 by decide)
 rw [show wrap64 (Int.tdiv z 64) = Int.tdiv z 64 from w64 (by omega) (by omega)]
 have hx := xor_nn hz.1 (by omega) d2.1 (by omega)
 have := tmod_range hx (show 0 < n by omega)
 exact ⟨_, rfl, this.1, fun _ => this.2, fun h => by omega⟩

theorem odd_some {s : List Int} (hs : ∀ x ∈ s, (Lit.int .u8 x).wf = true) (hl : s.length ≤ 2000) (p n : Int) (hp0 : 0 ≤ p) (hp : p ≤ 1000000) (k : Nat) (hk : 0 < k) :
  ∃ b q, spec_l20Rd_odd.f k s p n = some (b, q) ∧ p ≤ q ∧ q ≤ p + 1 ∧ (n ≤ 0 → b = false) := by
 unfold spec_l20Rd_odd.f
 by_cases h : n > 0
 ·rw [if_pos h]
  obtain ⟨r, e, _⟩ := pick_some hs hl p n hp0 hp k hk
  rw [e]
  exact ⟨_, _, rfl, by show p ≤ p + 1; omega, Int.le_refl _, by omega⟩
 ·rw [if_neg h]
  exact ⟨_, _, rfl, by omega, by omega, fun _ => rfl⟩

theorem open_some {l : List Int} (hs : ∀ x ∈ l, (Lit.int .u8 x).wf = true) : ∃ s, spec_l20Open.f l = some (s, 0) ∧ (∀ x ∈ s, (Lit.int .u8 x).wf = true) ∧ s.length ≤ 2000 := by
 unfold spec_l20Open.f
 by_cases h : (l.length : Int) > 2000
 ·rw [if_pos h, if_pos (by omega)]
  exact ⟨_, rfl, fun x hx => hs x (List.mem_of_mem_take hx), by simp <;> omega⟩
 ·rw [if_neg h]
  exact ⟨_, rfl, hs, by omega⟩

theorem law_some {s : List Int} (hs : ∀ x ∈ s, (Lit.int .u8 x).wf = true) (hl : s.length ≤ 2000) (p n : Int) (hp0 : 0 ≤ p) (hp : p ≤ 900000) (k : Nat) (hk : 0 < k) :
  ∃ a b c d y q, spec_l20Law.f k s p n = some (a, b, c, d, y, q) ∧ p ≤ q ∧ q ≤ p + 8 := by
 unfold spec_l20Law.f
 obtain ⟨r1, e1, _⟩ := pick_some hs hl p 3 hp0 (by omega) k hk
 obtain ⟨r2, e2, _⟩ := pick_some hs hl (p + 1) 8 (by omega) (by omega) k hk
 obtain ⟨r3, e3, _⟩ := pick_some hs hl (p + 1 + 1) 3 (by omega) (by omega) k hk
 obtain ⟨r4, e4, _⟩ := pick_some hs hl (p + 1 + 1 + 1) 4 (by omega) (by omega) k hk
 obtain ⟨r5, e5, _⟩ := pick_some hs hl (p + 1 + 1 + 1 + 1) 2 (by omega) (by omega) k hk
 obtain ⟨o, q, e6, hq1, hq2, _⟩ := odd_some hs hl (p + 1 + 1 + 1 + 1 + 1) n (by omega) (by omega) k hk
 obtain ⟨r7, e7, _⟩ := pick_some hs hl q 3 (by omega) (by omega) k hk
 obtain ⟨r8, e8, h8, h8', _⟩ := pick_some hs hl (q + 1) 2 (by omega) (by omega) k hk
 have h8 := h8' (by decide)
 simp only [e1, e2, e3, e4, e5, e6, Option.bind_some]
 cases o
 ·exact ⟨_, _, _, _, _, _, rfl, by omega, by omega⟩
 ·simp only [e7, Option.bind_some, if_true]
  by_cases h7 : r7 = 0
  ·rw [if_pos h7]
   simp only [e8, Option.bind_some]
   rw [if_pos ‹0 ≤ r8›, if_pos (by simp <;> omega)]
   exact ⟨_, _, _, _, _, _, rfl, by omega, by omega⟩
  ·rw [if_neg h7]
   by_cases h7 : r7 = 1
   ·rw [if_pos h7]
    exact ⟨_, _, _, _, _, _, rfl, by omega, by omega⟩
   ·rw [if_neg h7]
    exact ⟨_, _, _, _, _, _, rfl, by omega, by omega⟩

theorem wz {x : Int} (h0 : -9223372036854775808 ≤ x) (h1 : x ≤ 9223372036854775807) : wrap64 x = x := by unfold wrap64; omega
theorem wsucc {i n : Nat} (h : i < n) (hn : n ≤ 9223372036854775807) : wrap64 ((i : Int) + 1) = ((i + 1 : Nat) : Int) := by rw [wz (by omega) (by omega)]; omega
theorem dnil {α : Type} {xs : List α} {i : Nat} (h : xs.drop i = []) : ¬ ((i : Int) < (xs.length : Int)) := by
 have := List.drop_eq_nil_iff.1 h
 omega
theorem dcons {α : Type} {xs : List α} {i : Nat} {y : α} {ys : List α} (h : xs.drop i = y :: ys) : i < xs.length ∧ (∀ d, xs.getD i d = y) ∧ xs.drop (i + 1) = ys := by
 have hl : i < xs.length := by
  rcases Nat.lt_or_ge i xs.length with h1 | h1
  ·exact h1
  ·rw [List.drop_eq_nil_iff.2 h1] at h
   cases h
 have e := List.drop_eq_getElem_cons hl
 rw [h] at e
 injection e with e1 e2
 exact ⟨hl, fun d => by rw [List.getD_eq_getElem?_getD, List.getElem?_eq_getElem hl]; exact e1.symm, e2.symm⟩
theorem rdn (xs : List Int) (i : Nat) : rd xs (i : Int) = xs.getD i 0 := by simp [rd]
theorem Ev.to {α : Type} {g : Nat → Option α} {r s : α} (h : Ev g r) (e : r = s) : Ev g s := e ▸ h

theorem pick_ev {s : List Int} (hs : ∀ x ∈ s, (Lit.int .u8 x).wf = true) (hl : s.length ≤ 2000) (p n : Int) (hp0 : 0 ≤ p) (hp : p ≤ 1000000) :
  ∃ r, Ev (fun k => spec_l20Rd_pick.f k s p n) (r, p + 1) ∧ 0 ≤ r ∧ (0 < n → r < n) ∧ (n ≤ 0 → r = 0) := by
 obtain ⟨r, h, h1⟩ := pick_some hs hl p n hp0 hp 1 (by decide)
 exact ⟨r, Ev.of (fun k => spec_l20Rd_pick.mono _ _ _ k) h, h1⟩
theorem odd_ev {s : List Int} (hs : ∀ x ∈ s, (Lit.int .u8 x).wf = true) (hl : s.length ≤ 2000) (p n : Int) (hp0 : 0 ≤ p) (hp : p ≤ 1000000) :
  ∃ b q, Ev (fun k => spec_l20Rd_odd.f k s p n) (b, q) ∧ p ≤ q ∧ q ≤ p + 1 ∧ (n ≤ 0 → b = false) := by
 obtain ⟨b, q, h, h1⟩ := odd_some hs hl p n hp0 hp 1 (by decide)
 exact ⟨b, q, Ev.of (fun k => spec_l20Rd_odd.mono _ _ _ k) h, h1⟩

theorem law_ev {s : List Int} (hs : ∀ x ∈ s, (Lit.int .u8 x).wf = true) (hl : s.length ≤ 2000) (p n : Int) (hp0 : 0 ≤ p) (hp : p ≤ 900000) :
  ∃ a b c d y q, Ev (fun k => spec_l20Law.f k s p n) (a, b, c, d, y, q) ∧ p ≤ q ∧ q ≤ p + 8 := by
 obtain ⟨a, b, c, d, y, q, h, h1⟩ := law_some hs hl p n hp0 hp 1 (by decide)
 exact ⟨a, b, c, d, y, q, Ev.of (fun k => spec_l20Law.mono _ _ _ k) h, h1⟩

theorem book_l0 {s : List Int} (hs : ∀ x ∈ s, (Lit.int .u8 x).wf = true) (hl : s.length ≤ 2000) (x1 : Int) : ∀ (n : Nat) (xs : List S46) (p : Int), 0 ≤ p → p ≤ 800000 - 20 * n → xs.length ≤ 1000 - n → n ≤ 1000 →
  ∃ b q, Ev (fun k => spec_l20Book.l0 k x1 xs (n : Int) s p) (b, q) ∧ b.length ≤ xs.length + n + 3 ∧ p ≤ q ∧ q ≤ p + 20 * n + 2 := by
 intro n
 induction n with
 | zero =>
  intro xs p hp0 hp hxs _
  obtain ⟨o, q, e, h1, h2, _⟩ := odd_ev hs hl p x1 hp0 (by omega)
  cases o with
  | false =>
   refine ⟨xs, q, Ev.step (f := fun k => (spec_l20Rd_odd.f k s p x1).bind fun bt => (if bt.1 = true then ((some (([(⟨0, 0, 0, 0, false⟩ : S46), (⟨0, 0, 0, 0, false⟩ : S46), (⟨0, 0, 0, 0, false⟩ : S46)] : List (S46)) : List (S46))).bind fun y => (if xs.length + y.length < 3518437208883 then (some ((xs ++ y), bt.2)) else (none))) else (some (xs, bt.2)))) (fun k => by rw [spec_l20Book.l0, if_neg (by omega)]) (Ev.bind e (Ev.now _)), by omega, by omega, by omega⟩
  | true =>
   refine ⟨xs ++ [⟨0, 0, 0, 0, false⟩, ⟨0, 0, 0, 0, false⟩, ⟨0, 0, 0, 0, false⟩], q, Ev.step (f := fun k => (spec_l20Rd_odd.f k s p x1).bind fun bt => (if bt.1 = true then ((some (([(⟨0, 0, 0, 0, false⟩ : S46), (⟨0, 0, 0, 0, false⟩ : S46), (⟨0, 0, 0, 0, false⟩ : S46)] : List (S46)) : List (S46))).bind fun y => (if xs.length + y.length < 3518437208883 then (some ((xs ++ y), bt.2)) else (none))) else (some (xs, bt.2)))) (fun k => by rw [spec_l20Book.l0, if_neg (by omega)]) (Ev.bind e ?_), by simp, by omega, by omega⟩
   simp only [if_true, Option.bind_some]
   rw [if_pos (by simp <;> omega)]
   exact Ev.now _
 | succ n ih =>
  intro xs p hp0 hp hxs hn
  obtain ⟨a, b, c, d, y, q, e, h1, h2⟩ := law_ev hs hl p 0 hp0 (by omega)
  have hw : wrap64 (((n + 1 : Nat) : Int) - 1) = (n : Int) := by rw [wz (by omega) (by omega)]; omega
  have rest : ∀ (g : Bool) (q : Int), 0 ≤ q → q ≤ p + 9 → p ≤ q → (g = true → 0 < xs.length) → ∃ b2 q2, Ev (fun k => spec_l20Book.j1 k x1 xs ((n + 1 : Nat) : Int) g s q a b c d y) (b2, q2) ∧ b2.length ≤ xs.length + (n + 1) + 3 ∧ p ≤ q2 ∧ q2 ≤ p + 20 * ((n + 1 : Nat) : Int) + 2 := by
   intro g q hq0 hq hq1 hg
   cases g with
   | false =>
    obtain ⟨b2, q2, e2, h3, h4, h5⟩ := ih (xs ++ [⟨a, b, c, d, y⟩]) q hq0 (by omega) (by simp <;> omega) (by omega)
    refine ⟨b2, q2, Ev.step (f := fun k => spec_l20Book.l0 k x1 (xs ++ [⟨a, b, c, d, y⟩]) (n : Int) s q) (fun k => ?_) e2, by simp at h3; omega, by omega, by omega⟩
    rw [spec_l20Book.j1, if_neg (by decide), if_pos (by omega), hw]
   | true =>
    have hpos := hg rfl
    obtain ⟨r, e3, h6, h7, _⟩ := pick_ev hs hl q (xs.length : Int) hq0 (by omega)
    have h7 := h7 (by omega)
    obtain ⟨r2, e4, _⟩ := pick_ev hs hl (q + 1) 2 (by omega) (by omega)
    obtain ⟨b2, q2, e2, h3, h4, h5⟩ := ih (xs ++ [⟨(rd_T46 xs r).f0, (rd_T46 xs r).f1, (rd_T46 xs r).f2, (rd_T46 xs r).f3, (r2 == 0)⟩]) (q + 1 + 1) (by omega) (by omega) (by simp <;> omega) (by omega)
    refine ⟨b2, q2, Ev.step (f := fun k => (spec_l20Rd_pick.f k s q (xs.length : Int)).bind fun bt169 => (if 0 ≤ bt169.1 then (if bt169.1 < (xs.length : Int) then ((spec_l20Rd_pick.f k s bt169.2 2).bind fun bt172 => (if xs.length < 3518437208883 then (spec_l20Book.l0 k x1 (xs ++ [(⟨(rd_T46 xs bt169.1).f0, (rd_T46 xs bt169.1).f1, (rd_T46 xs bt169.1).f2, (rd_T46 xs bt169.1).f3, (bt172.1 == 0)⟩ : S46)]) (wrap64 (((n + 1 : Nat) : Int) - 1)) s bt172.2) else (none))) else (none)) else (none))) (fun k => by rw [spec_l20Book.j1, if_pos rfl]) (Ev.bind e3 ?_), by simp at h3; omega, by omega, by omega⟩
    simp only [if_pos h6, if_pos h7]
    refine Ev.bind e4 ?_
    simp only [if_pos (show xs.length < 3518437208883 by omega), hw]
    exact e2
  by_cases hx : (xs.length : Int) > 0
  ·obtain ⟨r, e3, h6, h7, _⟩ := pick_ev hs hl q 4 (by omega) (by omega)
   obtain ⟨b2, q2, e2, h3, h4, h5⟩ := rest (r == 0) (q + 1) (by omega) (by omega) (by omega) (fun _ => by omega)
   refine ⟨b2, q2, Ev.step (f := fun k => (spec_l20Law.f k s p 0).bind fun bt160 => ((spec_l20Rd_pick.f k s bt160.2.2.2.2.2 4).bind fun bt167 => (spec_l20Book.j1 k x1 xs ((n + 1 : Nat) : Int) (bt167.1 == 0) s bt167.2 bt160.1 bt160.2.1 bt160.2.2.1 bt160.2.2.2.1 bt160.2.2.2.2.1))) (fun k => ?_) (Ev.bind e (Ev.bind e3 e2)), by omega, by omega, by omega⟩
   rw [spec_l20Book.l0, if_pos (by omega)]
   simp only [if_pos hx]
  ·obtain ⟨b2, q2, e2, h3, h4, h5⟩ := rest false q (by omega) (by omega) (by omega) (fun h => by cases h)
   refine ⟨b2, q2, Ev.step (f := fun k => (spec_l20Law.f k s p 0).bind fun bt160 => (spec_l20Book.j1 k x1 xs ((n + 1 : Nat) : Int) false s bt160.2.2.2.2.2 bt160.1 bt160.2.1 bt160.2.2.1 bt160.2.2.2.1 bt160.2.2.2.2.1)) (fun k => ?_) (Ev.bind e e2), by omega, by omega, by omega⟩
   rw [spec_l20Book.l0, if_pos (by omega)]
   simp only [if_neg hx]
theorem book_ev {s : List Int} (hs : ∀ x ∈ s, (Lit.int .u8 x).wf = true) (hl : s.length ≤ 2000) (p n : Int) (hp0 : 0 ≤ p) (hp : p ≤ 700000) :
  ∃ b q, Ev (fun k => spec_l20Book.f k s p n) (b, q) ∧ b.length ≤ 10 ∧ p ≤ q ∧ q ≤ p + 200 := by
 obtain ⟨r, e, h0, h1, _⟩ := pick_ev hs hl p 7 hp0 (by omega)
 have h1 := h1 (by decide)
 obtain ⟨m, rfl⟩ := Int.eq_ofNat_of_zero_le h0
 obtain ⟨b, q, e2, h2, h3, h4⟩ := book_l0 hs hl n m [] (p + 1) (by omega) (by omega) (by simp <;> omega) (by omega)
 refine ⟨b, q, ?_, by simp at h2; omega, by omega, by omega⟩
 unfold spec_l20Book.f
 exact Ev.bind e e2

def LawB (a b c d : Int) : Bool := decide (0 ≤ a ∧ a < 3 ∧ 0 ≤ b ∧ b < 8 ∧ 1 ≤ c ∧ c ≤ 3 ∧ 0 ≤ d ∧ d ≤ 99)
theorem impl_isLaw_eq (a b c d : Int) (y : Bool) : impl_isLaw.f a b c d y = some (LawB a b c d) := by
 unfold impl_isLaw.f impl_isCase.f LawB
 by_cases h1 : a ≥ 0
 ·by_cases h2 : a < 3
  ·by_cases h3 : b ≥ 0
   ·by_cases h4 : b < 8
    ·by_cases h5 : c ≥ 1
     ·by_cases h6 : c ≤ 3
      ·by_cases h7 : d ≥ 0
       ·by_cases h8 : d ≤ 99 <;> simp [h1, h2, h3, h4, h5, h6, h7, h8] <;> omega
       ·simp [h1, h2, h3, h4, h5, h6, h7] <;> omega
      ·simp [h1, h2, h3, h4, h5, h6] <;> omega
     ·simp [h1, h2, h3, h4, h5] <;> omega
    ·simp [h1, h2, h3, h4]
   ·simp [h1, h2, h3] <;> omega
  ·simp [h1, h2]
 ·simp [h1] <;> omega
theorem l1In_eq (a b c : Int) : spec_l1In.f a b c = some (decide (b ≤ a ∧ a ≤ c)) := by
 unfold spec_l1In.f
 by_cases h : b ≤ a
 ·simp [h]
 ·simp [h]
theorem spec_LawOk_eq (a b c d : Int) (y : Bool) : spec_LawOk.f a b c d y = some (LawB a b c d) := by
 unfold spec_LawOk.f LawB
 simp only [l1In_eq, Option.bind_some]
 by_cases h1 : 0 ≤ a ∧ a ≤ 2
 ·by_cases h2 : 0 ≤ b ∧ b ≤ 7
  ·by_cases h3 : 1 ≤ c ∧ c ≤ 3
   ·by_cases h4 : 0 ≤ d ∧ d ≤ 99 <;> simp [h1, h2, h3, h4] <;> omega
   ·simp [h1, h2, h3] <;> omega
  ·simp [h1, h2] <;> omega
 ·simp [h1] <;> omega

def LB (x : S46) : Bool := LawB x.f0 x.f1 x.f2 x.f3
theorem rdT25 (xs : List S46) (i : Nat) : rd_T46 xs (i : Int) = xs.getD i z46 := by simp [rd_T46]
theorem spec_BookOk_l0 (xs : List S46) (hn : xs.length ≤ 9223372036854775807) : ∀ (ys : List S46) (i : Nat), xs.drop i = ys → Ev (fun k => spec_BookOk.l0 k xs (i : Int)) (ys.all LB && decide ((xs.length : Int) ≤ 6)) := by
 intro ys
 induction ys with
 | nil =>
  intro i h
  refine Ev.step (f := fun _ => some (decide ((xs.length : Int) ≤ 6))) (fun k => by rw [spec_BookOk.l0, if_neg (dnil h)]) (Ev.now _)
 | cons y ys ih =>
  intro i h
  obtain ⟨h1, h2, h3⟩ := dcons h
  have e := ih (i + 1) h3
  cases hy : LB y with
  | false =>
   refine Ev.step (f := fun _ => some false) (fun k => ?_) (Ev.to (Ev.now _) (by simp [hy]))
   rw [spec_BookOk.l0, if_pos (by omega), if_pos (by omega), rdT25, h2, spec_LawOk_eq]
   simp only [Option.bind_some]
   rw [if_neg (by rw [show LawB y.f0 y.f1 y.f2 y.f3 = false from hy]; decide)]
  | true =>
   refine Ev.step (f := fun k => spec_BookOk.l0 k xs ((i + 1 : Nat) : Int)) (fun k => ?_) (Ev.to e (by simp [hy]))
   rw [spec_BookOk.l0, if_pos (by omega), if_pos (by omega), rdT25, h2, spec_LawOk_eq]
   simp only [Option.bind_some]
   rw [if_pos (show LawB y.f0 y.f1 y.f2 y.f3 = true from hy), wsucc h1 hn]
theorem spec_BookOk_ev (xs : List S46) (hn : xs.length ≤ 9223372036854775807) : Ev (fun k => spec_BookOk.f k xs) (xs.all LB && decide ((xs.length : Int) ≤ 6)) := by
 have := spec_BookOk_l0 xs hn xs 0 rfl
 exact this
theorem isBook_1_eq (x : S46) : impl_isBook_1.f x.f0 x.f1 x.f2 x.f3 x.f4 = some (!LB x) := by
 unfold impl_isBook_1.f
 rw [impl_isLaw_eq]; rfl
def firstAt {α : Type} (p : α → Bool) : List α → Nat → Int
 | [], _ => -1
 | y :: ys, i => if p y then (i : Int) else firstAt p ys (i + 1)
theorem firstAt_any {α : Type} (p : α → Bool) : ∀ (ys : List α) (i : Nat), decide (firstAt p ys i ≥ 0) = ys.any p := by
 intro ys
 induction ys with
 | nil => intro i; simp [firstAt]
 | cons y ys ih =>
  intro i
  unfold firstAt
  cases h : p y with
  | true => simp [h]
  | false => simp [h, ih]
theorem IndexFunc_w64_l0 (xs : List S46) (hn : xs.length ≤ 9223372036854775807) : ∀ (ys : List S46) (i : Nat), xs.drop i = ys → Ev (fun k => slices_IndexFunc_w45.l0 k xs (xs.length : Int) (i : Int)) (firstAt (fun y => !LB y) ys i) := by
 intro ys
 induction ys with
 | nil =>
  intro i h
  refine Ev.step (f := fun _ => some (-1)) (fun k => by rw [slices_IndexFunc_w45.l0, if_neg (dnil h)]) (Ev.now _)
 | cons y ys ih =>
  intro i h
  obtain ⟨h1, h2, h3⟩ := dcons h
  have e := ih (i + 1) h3
  cases hy : LB y with
  | false =>
   refine Ev.step (f := fun _ => some (i : Int)) (fun k => ?_) (Ev.to (Ev.now _) (by simp [firstAt, hy]))
   rw [slices_IndexFunc_w45.l0, if_pos (by omega), if_pos (by omega), if_pos (by omega), rdT25, h2, isBook_1_eq, hy]
   rfl
  | true =>
   refine Ev.step (f := fun k => slices_IndexFunc_w45.l0 k xs (xs.length : Int) ((i + 1 : Nat) : Int)) (fun k => ?_) (Ev.to e (by simp [firstAt, hy]))
   rw [slices_IndexFunc_w45.l0, if_pos (by omega), if_pos (by omega), if_pos (by omega), rdT25, h2, isBook_1_eq, hy, wsucc h1 hn]
   rfl
theorem impl_isBook_ev (xs : List S46) (hn : xs.length ≤ 9223372036854775807) : Ev (fun k => impl_isBook.f k xs) (xs.all LB && decide ((xs.length : Int) ≤ 6)) := by
 unfold impl_isBook.f
 by_cases h : (xs.length : Int) ≤ 6
 ·simp only [if_pos h]
  have e : Ev (fun k => slices_IndexFunc_w45.f k xs) (firstAt (fun y => !LB y) xs 0) := IndexFunc_w64_l0 xs hn xs 0 rfl
  have e2 : Ev (fun k => slices_ContainsFunc_w45.f k xs) (xs.any fun y => !LB y) := by
   unfold slices_ContainsFunc_w45.f
   refine Ev.bind e (Ev.to (Ev.now _) (firstAt_any _ _ _))
  refine Ev.bind e2 (Ev.to (Ev.now _) ?_)
  simp [h, List.all_eq_not_any_not]
 ·simp only [if_neg h]
  refine Ev.to (Ev.now _) ?_
  simp [h]

def Hd (a : Int) : Int := a % 2 + a / 2 % 2 + a / 4 % 2 + a / 8 % 2 + a / 16 % 2 + a / 32 % 2
theorem spec_heads_all : ∀ n : Fin 64, spec_l1Heads.f 8 (n.val : Int) = some (Hd (n.val : Int)) := by decide +kernel
theorem impl_heads_all : ∀ n : Fin 64, impl_headsOf.f (n.val : Int) = some (Hd (n.val : Int)) := by decide +kernel
theorem spec_heads {a : Int} (h0 : 0 ≤ a) (h1 : a < 64) {k : Nat} (hk : 8 ≤ k) : spec_l1Heads.f k a = some (Hd a) := by
 obtain ⟨n, rfl⟩ := Int.eq_ofNat_of_zero_le h0
 exact at_rounds (fun k => spec_l1Heads.mono _ k) hk (spec_heads_all ⟨n, by omega⟩)
theorem impl_heads {a : Int} (h0 : 0 ≤ a) (h1 : a < 64) : impl_headsOf.f a = some (Hd a) := by
 obtain ⟨n, rfl⟩ := Int.eq_ofNat_of_zero_le h0
 exact impl_heads_all ⟨n, by omega⟩

def BtB (b c d b' c' d' : Int) : Bool := if c = c' then (if Hd b = Hd b' then decide (d > d') else decide (Hd b > Hd b')) else decide (c > c')
theorem cmp_eq (a b : Int) : cmp_Compare_int.f a b = some (if a < b then -1 else if a > b then 1 else 0) := by
 unfold cmp_Compare_int.f cmp_isNaN_int.f
 simp only [Option.bind_some]
 by_cases h : a < b
 ·simp [h]
 ·by_cases h2 : a > b
  ·simp [h, h2]
  ·simp [h, h2]
theorem or3_eq (x y z : Int) {k : Nat} (hk : 4 ≤ k) : cmp_Or_int.f k [x, y, z] = some (if x = 0 then (if y = 0 then z else y) else x) := by
 obtain ⟨k, rfl⟩ : ∃ m, k = m + 4 := ⟨k - 4, by omega⟩
 have e0 : rd [x, y, z] 0 = x := rfl
 have e1 : rd [x, y, z] 1 = y := rfl
 have e2 : rd [x, y, z] 2 = z := rfl
 have w0 : wrap64 (0 + 1) = 1 := by unfold wrap64; omega
 have w1 : wrap64 (1 + 1) = 2 := by unfold wrap64; omega
 have w2 : wrap64 (2 + 1) = 3 := by unfold wrap64; omega
 unfold cmp_Or_int.f
 simp only [cmp_Or_int.l0, List.length_cons, List.length_nil, e0, e1, e2, w0, w1, w2]
 by_cases hx : x = 0
 ·by_cases hy : y = 0
  ·by_cases hz : z = 0
   ·simp [hx, hy, hz]
   ·simp [hx, hy, hz]
  ·simp [hx, hy]
 ·simp [hx]
theorem impl_beats_eq (a b c d : Int) (y : Bool) (a' b' c' d' : Int) (y' : Bool) {k : Nat} (hk : 4 ≤ k) (h0 : 0 ≤ b) (h1 : b < 64) (h0' : 0 ≤ b') (h1' : b' < 64) :
  impl_beats.f k a b c d y a' b' c' d' y' = some (BtB b c d b' c' d') := by
 unfold impl_beats.f BtB
 simp only [cmp_eq, impl_heads h0 h1, impl_heads h0' h1', Option.bind_some, or3_eq _ _ _ hk]
 generalize Hd b = p
 generalize Hd b' = q
 by_cases hc : c = c'
 ·subst hc
  by_cases hp : p = q
  ·subst hp
   by_cases hd : d < d'
   ·simp [hd]; omega
   ·by_cases hd2 : d > d'
    ·simp [hd, hd2]
    ·simp [hd, hd2]
  ·by_cases hd : p < q
   ·simp [hp, hd]; omega
   ·have : p > q := by omega
    simp [hp, hd, this]
 ·by_cases hd : c < c'
  ·simp [hc, hd]; omega
  ·have : c > c' := by omega
   simp [hc, hd, this]
theorem LawB_of {a b c d : Int} (h : LawB a b c d = true) : 0 ≤ a ∧ a < 3 ∧ 0 ≤ b ∧ b < 8 ∧ 1 ≤ c ∧ c ≤ 3 ∧ 0 ≤ d ∧ d ≤ 99 := by
 unfold LawB at h
 exact of_decide_eq_true h
theorem spec_BeatsOk_eq (a b c d : Int) (y : Bool) (a' b' c' d' : Int) (y' : Bool) {k : Nat} (hk : 9 ≤ k) :
  spec_BeatsOk.f k a b c d y a' b' c' d' y' = some (LawB a b c d && LawB a' b' c' d' && BtB b c d b' c' d') := by
 obtain ⟨k, rfl⟩ : ∃ m, k = m + 1 := ⟨k - 1, by omega⟩
 unfold spec_BeatsOk.f
 simp only [spec_LawOk_eq, Option.bind_some, spec_BeatsOk.j0]
 cases h : LawB a b c d with
 | false => simp
 | true =>
  cases h' : LawB a' b' c' d' with
  | false => simp
  | true =>
   have g := LawB_of h
   have g' := LawB_of h'
   simp only [spec_heads (show 0 ≤ b by omega) (show b < 64 by omega) (show 8 ≤ k by omega), spec_heads (show 0 ≤ b' by omega) (show b' < 64 by omega) (show 8 ≤ k by omega), Option.bind_some, BtB]
   by_cases hc : c = c'
   ·by_cases hp : Hd b = Hd b' <;> simp [hc, hp]
   ·simp [hc]

def App (s f : Int) (x : S46) : Bool := decide (x.f0 = s) && decide (Go.bits .andNot .i64 x.f1 f = 0)
def Beat (x y : S46) : Bool := BtB x.f1 x.f2 x.f3 y.f1 y.f2 y.f3
def UB (book : List S46) (s f : Int) (x : S46) : Bool := App s f x && !(book.any fun z => App s f z && Beat z x)
def idxs {α : Type} (p : α → Bool) : List α → Nat → List Int
 | [], _ => []
 | y :: ys, i => if p y then (i : Int) :: idxs p ys (i + 1) else idxs p ys (i + 1)
theorem idxs_len {α : Type} (p : α → Bool) : ∀ (ys : List α) (i : Nat), (idxs p ys i).length ≤ ys.length := by
 intro ys
 induction ys with
 | nil => intro i; simp [idxs]
 | cons y ys ih =>
  intro i
  have := ih (i + 1)
  unfold idxs
  split <;> simp <;> omega
theorem bits_all : ∀ a b : Fin 8, (Go.bits .and .i64 (a.val : Int) (b.val : Int) == (a.val : Int)) = decide (Go.bits .andNot .i64 (a.val : Int) (b.val : Int) = 0) := by decide +kernel
theorem applies_eq {x : S46} (hx : LB x = true) (s f : Int) (h0 : 0 ≤ f) (h1 : f < 8) : spec_l6Applies.f x.f0 x.f1 x.f2 x.f3 x.f4 s f = some (App s f x) := by
 have g := LawB_of (show LawB x.f0 x.f1 x.f2 x.f3 = true from hx)
 unfold spec_l6Applies.f App
 obtain ⟨n, hn⟩ := Int.eq_ofNat_of_zero_le g.2.2.1
 obtain ⟨m, rfl⟩ := Int.eq_ofNat_of_zero_le h0
 have hb := bits_all ⟨n, by omega⟩ ⟨m, by omega⟩
 rw [hn, hb]
 by_cases h : x.f0 = s <;> simp [h]
theorem LB_b {x : S46} (hx : LB x = true) : 0 ≤ x.f1 ∧ x.f1 < 64 := by
 have g := LawB_of (show LawB x.f0 x.f1 x.f2 x.f3 = true from hx)
 omega
theorem unbeaten_1_eq (x y : S46) (hx : LB x = true) (hy : LB y = true) : Ev (fun k => impl_unbeaten_1_c.f k x.f0 x.f1 x.f2 x.f3 x.f4 [y]) (Beat x y) := by
 refine ⟨4, fun k hk => ?_⟩
 show impl_unbeaten_1_c.f k x.f0 x.f1 x.f2 x.f3 x.f4 [y] = some (Beat x y)
 unfold impl_unbeaten_1_c.f
 rw [if_pos (by simp)]
 have e : rd_T46 [y] 0 = y := rfl
 rw [e, impl_beats_eq _ _ _ _ _ _ _ _ _ _ hk (LB_b hx).1 (LB_b hx).2 (LB_b hy).1 (LB_b hy).2]
 rfl
theorem IndexFunc_w70_l0 (xs : List S46) (y : S46) (hn : xs.length ≤ 9223372036854775807) (hx : ∀ x ∈ xs, LB x = true) (hy : LB y = true) : ∀ (zs : List S46) (i : Nat), xs.drop i = zs → Ev (fun k => slices_IndexFunc_w49.l0 k xs (xs.length : Int) (i : Int) [y]) (firstAt (fun x => Beat x y) zs i) := by
 intro zs
 induction zs with
 | nil =>
  intro i h
  exact Ev.step (f := fun _ => some (-1)) (fun k => by rw [slices_IndexFunc_w49.l0, if_neg (dnil h)]) (Ev.now _)
 | cons z zs ih =>
  intro i h
  obtain ⟨h1, h2, h3⟩ := dcons h
  have e := ih (i + 1) h3
  have hz : LB z = true := hx z (List.mem_of_mem_drop (by rw [h]; simp))
  refine Ev.step (f := fun k => (impl_unbeaten_1_c.f k z.f0 z.f1 z.f2 z.f3 z.f4 [y]).bind fun t => (if t = true then (some (i : Int)) else (slices_IndexFunc_w49.l0 k xs (xs.length : Int) ((i + 1 : Nat) : Int) [y]))) (fun k => ?_) (Ev.bind (unbeaten_1_eq z y hz hy) ?_)
  ·rw [slices_IndexFunc_w49.l0, if_pos (by omega), if_pos (by omega), if_pos (by omega), rdT25, h2, wsucc h1 hn]
  ·unfold firstAt
   cases hb : Beat z y with
   | true => simp only [if_true]; exact Ev.now _
   | false => simp only [Bool.false_eq_true, if_false]; exact e
theorem ContainsFunc_w70_ev (xs : List S46) (y : S46) (hn : xs.length ≤ 9223372036854775807) (hx : ∀ x ∈ xs, LB x = true) (hy : LB y = true) : Ev (fun k => slices_ContainsFunc_w49.f k xs [y]) (xs.any fun x => Beat x y) := by
 have e : Ev (fun k => slices_IndexFunc_w49.f k xs [y]) (firstAt (fun x => Beat x y) xs 0) := IndexFunc_w70_l0 xs y hn hx hy xs 0 rfl
 unfold slices_ContainsFunc_w49.f
 exact Ev.bind e (Ev.to (Ev.now _) (firstAt_any _ _ _))
def SB (x y : S46) : Bool := (x.f0 == y.f0 && (x.f1 == y.f1 && (x.f2 == y.f2 && (x.f3 == y.f3 && (x.f4 == y.f4)))))
theorem SB_iff (x y : S46) : SB x y = true ↔ x = y := by
 obtain ⟨a, b, c, d, e⟩ := x
 obtain ⟨a', b', c', d', e'⟩ := y
 simp [SB]
theorem Index_l0 (xs : List S46) (y : S46) (hn : xs.length ≤ 9223372036854775807) : ∀ (zs : List S46) (i : Nat), xs.drop i = zs → Ev (fun k => impl_Law_54.l0 k xs (xs.length : Int) (i : Int) y.f0 y.f1 y.f2 y.f3 y.f4) (firstAt (fun x => SB y x) zs i) := by
 intro zs
 induction zs with
 | nil =>
  intro i h
  exact Ev.step (f := fun _ => some (-1)) (fun k => by rw [impl_Law_54.l0, if_neg (dnil h)]) (Ev.now _)
 | cons z zs ih =>
  intro i h
  obtain ⟨h1, h2, h3⟩ := dcons h
  have e := ih (i + 1) h3
  refine Ev.step (f := fun k => if SB y z = true then (some (i : Int)) else (impl_Law_54.l0 k xs (xs.length : Int) ((i + 1 : Nat) : Int) y.f0 y.f1 y.f2 y.f3 y.f4)) (fun k => ?_) ?_
  ·rw [impl_Law_54.l0, if_pos (by omega), if_pos (by omega), if_pos (by omega), rdT25, h2, wsucc h1 hn]; rfl
  ·unfold firstAt
   cases hb : SB y z with
   | true => simp only [if_true]; exact Ev.now _
   | false => simp only [Bool.false_eq_true, if_false]; exact e
theorem Contains_ev (xs : List S46) (y : S46) (hn : xs.length ≤ 9223372036854775807) : Ev (fun k => impl_Law_48.f k xs y.f0 y.f1 y.f2 y.f3 y.f4) (xs.any fun x => SB y x) := by
 have e : Ev (fun k => impl_Law_54.f k xs y.f0 y.f1 y.f2 y.f3 y.f4) (firstAt (fun x => SB y x) xs 0) := Index_l0 xs y hn xs 0 rfl
 unfold impl_Law_48.f
 exact Ev.bind e (Ev.to (Ev.now _) (firstAt_any _ _ _))
theorem unbeaten_l1 (book : List S46) (s f : Int) (hn : book.length ≤ 1000) (hb : ∀ x ∈ book, LB x = true) : ∀ (zs : List S46) (i : Nat) (out : List Int), book.drop i = zs → out.length ≤ i →
  Ev (fun k => impl_unbeaten.l1 k (book.filter (App s f)) out book (book.length : Int) (i : Int)) (out ++ idxs (UB book s f) zs i) := by
 intro zs
 have hap : (book.filter (App s f)).length ≤ 9223372036854775807 := Nat.le_trans (List.length_filter_le _ _) (by omega)
 have hx : ∀ x ∈ book.filter (App s f), LB x = true := fun x hx => hb x ((List.mem_filter.1 hx).1)
 induction zs with
 | nil =>
  intro i out h _
  exact Ev.step (f := fun _ => some out) (fun k => by rw [impl_unbeaten.l1, if_neg (dnil h)]) (Ev.to (Ev.now _) (by simp [idxs]))
 | cons z zs ih =>
  intro i out h ho
  obtain ⟨h1, h2, h3⟩ := dcons h
  have hz : z ∈ book := List.mem_of_mem_drop (by rw [h]; simp)
  refine Ev.step (f := fun k => (impl_Law_48.f k (book.filter (App s f)) z.f0 z.f1 z.f2 z.f3 z.f4).bind fun t201 => (if t201 = true then ((slices_ContainsFunc_w49.f k (book.filter (App s f)) [z]).bind fun t202 => (if t202 = true then (impl_unbeaten.l1 k (book.filter (App s f)) out book (book.length : Int) ((i + 1 : Nat) : Int)) else (if out.length < 17592186044416 then (impl_unbeaten.l1 k (book.filter (App s f)) (out ++ [(i : Int)]) book (book.length : Int) ((i + 1 : Nat) : Int)) else (none)))) else (impl_unbeaten.l1 k (book.filter (App s f)) out book (book.length : Int) ((i + 1 : Nat) : Int)))) (fun k => ?_) (Ev.bind (Contains_ev _ z hap) ?_)
  ·rw [impl_unbeaten.l1, if_pos (by omega), if_pos (by omega), if_pos (by omega), rdT25, h2, wsucc h1 (by omega)]
  ·have hc : ((book.filter (App s f)).any fun x => SB z x) = App s f z := by
    rw [Bool.eq_iff_iff, List.any_eq_true]
    constructor
    ·rintro ⟨x, hx, he⟩
     rw [SB_iff] at he
     subst he
     exact (List.mem_filter.1 hx).2
    ·intro ha
     exact ⟨z, List.mem_filter.2 ⟨hz, ha⟩, (SB_iff z z).2 rfl⟩
   have hu : ((book.filter (App s f)).any fun x => Beat x z) = (book.any fun x => App s f x && Beat x z) := by rw [List.any_filter]
   rw [hc]
   unfold idxs
   cases ha : App s f z with
   | false =>
    rw [if_neg (show ¬ UB book s f z = true by simp [UB, ha])]
    simp only [Bool.false_eq_true, if_false]
    exact ih (i + 1) out h3 (by omega)
   | true =>
    simp only [if_true]
    refine Ev.bind (ContainsFunc_w70_ev _ z hap hx (hb z hz)) ?_
    rw [hu]
    cases hv : (book.any fun x => App s f x && Beat x z) with
    | true =>
     rw [if_neg (show ¬ UB book s f z = true by simp [UB, ha, hv])]
     simp only [if_true]
     exact ih (i + 1) out h3 (by omega)
    | false =>
     rw [if_pos (show UB book s f z = true by simp [UB, ha, hv])]
     simp only [Bool.false_eq_true, if_false, if_pos (show out.length < 17592186044416 by omega)]
     exact Ev.to (ih (i + 1) (out ++ [(i : Int)]) h3 (by simp <;> omega)) (by simp)
theorem unbeaten_l0 (book : List S46) (s f : Int) (hn : book.length ≤ 1000) (hb : ∀ x ∈ book, LB x = true) : ∀ (zs : List S46) (i : Nat), book.drop i = zs →
  Ev (fun k => impl_unbeaten.l0 k book s f ((book.take i).filter (App s f)) book (book.length : Int) (i : Int)) (idxs (UB book s f) book 0) := by
 intro zs
 induction zs with
 | nil =>
  intro i h
  have hi := List.drop_eq_nil_iff.1 h
  refine Ev.step (f := fun k => impl_unbeaten.l1 k (book.filter (App s f)) [] book (book.length : Int) ((0 : Nat) : Int)) (fun k => ?_) (unbeaten_l1 book s f hn hb book 0 [] rfl (by simp))
  rw [impl_unbeaten.l0, if_neg (dnil h), List.take_of_length_le hi]
  rfl
 | cons z zs ih =>
  intro i h
  obtain ⟨h1, h2, h3⟩ := dcons h
  have ht : book.take (i + 1) = book.take i ++ [z] := by
   rw [List.take_succ_eq_append_getElem h1]
   have := h2 z
   rw [List.getD_eq_getElem?_getD, List.getElem?_eq_getElem h1] at this
   rw [show book[i] = z from by simpa using this]
  have e := ih (i + 1) h3
  have hl : ((book.take i).filter (App s f)).length ≤ 1000 := Nat.le_trans (List.length_filter_le _ _) (by simp <;> omega)
  refine Ev.step (f := fun k => impl_unbeaten.l0 k book s f ((book.take (i + 1)).filter (App s f)) book (book.length : Int) ((i + 1 : Nat) : Int)) (fun k => ?_) e
  rw [impl_unbeaten.l0, if_pos (by omega), if_pos (by omega), if_pos (by omega), rdT25, h2, wsucc h1 (by omega), ht, List.filter_append]
  by_cases ha : z.f0 = s
  ·by_cases ha2 : Go.bits .andNot .i64 z.f1 f = 0
   ·rw [if_pos ha, if_pos ha2, if_pos (by omega), show [z].filter (App s f) = [z] from by simp [App, ha, ha2]]
   ·rw [if_pos ha, if_neg ha2, show [z].filter (App s f) = [] from by simp [App, ha2], List.append_nil]
  ·rw [if_neg ha, show [z].filter (App s f) = [] from by simp [App, ha], List.append_nil]
theorem isCase_eq (a b : Int) : impl_isCase.f a b = some (decide (0 ≤ a ∧ a < 3 ∧ 0 ≤ b ∧ b < 8)) := by
 unfold impl_isCase.f
 by_cases h1 : a ≥ 0
 ·by_cases h2 : a < 3
  ·by_cases h3 : b ≥ 0
   ·by_cases h4 : b < 8 <;> simp [h1, h2, h3, h4]
   ·simp [h1, h2, h3]
  ·simp [h1, h2]
 ·simp [h1]
def UO (book : List S46) (s f : Int) : List Int := if (book.all LB && decide ((book.length : Int) ≤ 6)) = true ∧ 0 ≤ s ∧ s < 3 ∧ 0 ≤ f ∧ f < 8 then idxs (UB book s f) book 0 else []
theorem UO_len (book : List S46) (s f : Int) : (UO book s f).length ≤ 6 := by
 unfold UO
 split
 ·rename_i h
  have := idxs_len (UB book s f) book 0
  have h1 := h.1
  simp at h1
  omega
 ·simp
theorem spec_unb_l1 (book : List S46) (s f : Int) (hn : book.length ≤ 1000) (hb : ∀ x ∈ book, LB x = true) (h0 : 0 ≤ f) (h8 : f < 8) (z : S46) (hz : z ∈ book) (i : Nat) (hi : i < book.length) (hzi : ∀ d, book.getD i d = z) (out : List Int) (ho : out.length ≤ 1000) (rT rF : List Int)
  (hT : Ev (fun k => spec_UnbeatenOf.l0 k book s f (out ++ [(i : Int)]) ((i + 1 : Nat) : Int)) rT) (hF : Ev (fun k => spec_UnbeatenOf.l0 k book s f out ((i + 1 : Nat) : Int)) rF) :
  ∀ (zs : List S46) (j : Nat) (b : Bool), book.drop j = zs → Ev (fun k => spec_UnbeatenOf.l1 k book s f out (i : Int) b (j : Int)) (if (b && zs.all fun w => !(App s f w && Beat w z)) = true then rT else rF) := by
 have stop : ∀ (j : Nat) (b : Bool), Ev (fun k => spec_UnbeatenOf.j3 k book s f out (i : Int) b (j : Int) false) (if b = true then rT else rF) := by
  intro j b
  cases b with
  | false =>
   refine Ev.step (f := fun k => spec_UnbeatenOf.l0 k book s f out ((i + 1 : Nat) : Int)) (fun k => ?_) hF
   rw [spec_UnbeatenOf.j3, if_neg (by decide), if_neg (by decide), wsucc hi (by omega)]
  | true =>
   refine Ev.step (f := fun k => spec_UnbeatenOf.l0 k book s f (out ++ [(i : Int)]) ((i + 1 : Nat) : Int)) (fun k => ?_) hT
   rw [spec_UnbeatenOf.j3, if_neg (by decide), if_pos rfl, if_pos (by omega), wsucc hi (by omega)]
 intro zs
 induction zs with
 | nil =>
  intro j b h
  refine Ev.step (f := fun k => spec_UnbeatenOf.j3 k book s f out (i : Int) b (j : Int) false) (fun k => by rw [spec_UnbeatenOf.l1, if_neg (dnil h)]) (Ev.to (stop j b) (by simp))
 | cons w zs ih =>
  intro j b h
  obtain ⟨h1, h2, h3⟩ := dcons h
  have hw : LB w = true := hb w (List.mem_of_mem_drop (by rw [h]; simp))
  refine Ev.step (f := fun k => spec_UnbeatenOf.j3 k book s f out (i : Int) b (j : Int) b) (fun k => by rw [spec_UnbeatenOf.l1, if_pos (by omega)]) ?_
  cases b with
  | false => exact Ev.to (stop j false) (by simp)
  | true =>
   have hj : (j : Int) < (book.length : Int) := by omega
   have hj0 : 0 ≤ (j : Int) := by omega
   have hi1 : (i : Int) < (book.length : Int) := by omega
   have hi0 : 0 ≤ (i : Int) := by omega
   cases ha : App s f w with
   | false =>
    refine Ev.step (f := fun k => spec_UnbeatenOf.l1 k book s f out (i : Int) true ((j + 1 : Nat) : Int)) (fun k => ?_) (Ev.to (ih (j + 1) true h3) (by simp [ha]))
    rw [spec_UnbeatenOf.j3, if_pos rfl, if_pos hj0, if_pos hj, rdT25, h2, applies_eq hw s f h0 h8, ha]
    simp only [Option.bind_some, Bool.false_eq_true, if_false]
    rw [wsucc h1 (by omega)]
   | true =>
    refine Ev.step (f := fun k => (spec_BeatsOk.f k w.f0 w.f1 w.f2 w.f3 w.f4 z.f0 z.f1 z.f2 z.f3 z.f4).bind fun t => spec_UnbeatenOf.l1 k book s f out (i : Int) (!t) ((j + 1 : Nat) : Int)) (fun k => ?_) (Ev.bind (a := Beat w z) ⟨9, fun k hk => ?_⟩ (Ev.to (ih (j + 1) (!Beat w z) h3) (by simp [ha])))
    ·rw [spec_UnbeatenOf.j3, if_pos rfl, if_pos hj0, if_pos hj, rdT25, h2, applies_eq hw s f h0 h8, ha]
     simp only [Option.bind_some, if_true]
     rw [if_pos hi0, if_pos hi1, rdT25, hzi, wsucc h1 (by omega)]
    ·show spec_BeatsOk.f k w.f0 w.f1 w.f2 w.f3 w.f4 z.f0 z.f1 z.f2 z.f3 z.f4 = some (Beat w z)
     rw [spec_BeatsOk_eq _ _ _ _ _ _ _ _ _ _ hk, show LawB w.f0 w.f1 w.f2 w.f3 = true from hw, show LawB z.f0 z.f1 z.f2 z.f3 = true from hb z hz]
     simp [Beat]
theorem spec_unb_l0 (book : List S46) (s f : Int) (hn : book.length ≤ 1000) (hb : ∀ x ∈ book, LB x = true) (h0 : 0 ≤ f) (h8 : f < 8) : ∀ (zs : List S46) (i : Nat) (out : List Int), book.drop i = zs → out.length ≤ i →
  Ev (fun k => spec_UnbeatenOf.l0 k book s f out (i : Int)) (out ++ idxs (UB book s f) zs i) := by
 intro zs
 induction zs with
 | nil =>
  intro i out h _
  exact Ev.step (f := fun _ => some out) (fun k => by rw [spec_UnbeatenOf.l0, if_neg (dnil h)]) (Ev.to (Ev.now _) (by simp [idxs]))
 | cons z zs ih =>
  intro i out h ho
  obtain ⟨h1, h2, h3⟩ := dcons h
  have hz : z ∈ book := List.mem_of_mem_drop (by rw [h]; simp)
  have e := spec_unb_l1 book s f hn hb h0 h8 z hz i h1 h2 out (by omega) _ _ (ih (i + 1) (out ++ [(i : Int)]) h3 (by simp <;> omega)) (ih (i + 1) out h3 (by omega)) book 0 (App s f z) rfl
  refine Ev.step (f := fun k => spec_UnbeatenOf.l1 k book s f out (i : Int) (App s f z) ((0 : Nat) : Int)) (fun k => ?_) (Ev.to e ?_)
  ·rw [spec_UnbeatenOf.l0, if_pos (by omega), if_pos (by omega), rdT25, h2, applies_eq (hb z hz) s f h0 h8]
   rfl
  ·have hu : UB book s f z = (App s f z && book.all fun w => !(App s f w && Beat w z)) := by
    unfold UB
    congr 1
    rw [List.not_any_eq_all_not]
   rw [← hu]
   cases hv : UB book s f z with
   | true => simp [idxs, hv]
   | false => simp [idxs, hv]
theorem spec_UnbeatenOf_ev (book : List S46) (hn : book.length ≤ 9223372036854775807) (s f : Int) : Ev (fun k => spec_UnbeatenOf.f k book s f) (UO book s f) := by
 have stop : Ev (fun k => spec_UnbeatenOf.j0 k book s f [] true) [] := Ev.step (f := fun _ => some []) (fun k => by rw [spec_UnbeatenOf.j0, if_pos rfl]) (Ev.now _)
 unfold spec_UnbeatenOf.f UO
 simp only [Option.bind_some]
 refine Ev.bind (spec_BookOk_ev book hn) ?_
 cases h : (book.all LB && decide ((book.length : Int) ≤ 6)) with
 | false => simp; exact stop
 | true =>
  simp only [if_true, l1In_eq, Option.bind_some, true_and]
  simp only [Bool.and_eq_true, List.all_eq_true, decide_eq_true_eq] at h
  by_cases hs : 0 ≤ s ∧ s ≤ 2
  ·simp only [decide_eq_true hs, if_true]
   by_cases hf : 0 ≤ f ∧ f ≤ 7
   ·rw [if_pos (by omega)]
    simp only [decide_eq_true hf, Bool.not_true]
    refine Ev.step (f := fun k => spec_UnbeatenOf.l0 k book s f [] ((0 : Nat) : Int)) (fun k => by rw [spec_UnbeatenOf.j0, if_neg (by decide)]; rfl) ?_
    have := spec_unb_l0 book s f (by omega) h.1 hf.1 (by omega) book 0 [] rfl (by simp)
    simpa using this
   ·rw [if_neg (by omega)]
    simp only [decide_eq_false hf, Bool.not_false]
    exact stop
  ·rw [if_neg (by omega)]
   simp only [decide_eq_false hs, Bool.false_eq_true, if_false]
   exact stop

theorem impl_UnbeatenOf_ev (book : List S46) (hn : book.length ≤ 9223372036854775807) (s f : Int) : Ev (fun k => impl_UnbeatenOf.f k book s f) (UO book s f) := by
 unfold impl_UnbeatenOf.f UO
 refine Ev.bind (impl_isBook_ev book hn) ?_
 cases h : (book.all LB && decide ((book.length : Int) ≤ 6)) with
 | false => simp; exact Ev.now _
 | true =>
  simp only [if_true, isCase_eq, Option.bind_some, true_and]
  by_cases hc : 0 ≤ s ∧ s < 3 ∧ 0 ≤ f ∧ f < 8
  ·rw [if_pos hc]
   simp only [decide_eq_true hc, if_true]
   simp only [Bool.and_eq_true, List.all_eq_true, decide_eq_true_eq] at h
   refine Ev.bind (a := idxs (UB book s f) book 0) ?_ (Ev.now _)
   unfold impl_unbeaten.f
   have := unbeaten_l0 book s f (by omega) h.1 book 0 rfl
   simpa using this
  ·rw [if_neg hc]
   simp only [decide_eq_false hc, Bool.false_eq_true, if_false]
   exact Ev.now _

def fin (y n : Bool) : Int := if y then (if n then 2 else 1) else (if n then 0 else 3)
def yesAt (book : List S46) (n : Int) : Bool := (rd_T46 book n).f4
def noAt (book : List S46) (n : Int) : Bool := !(rd_T46 book n).f4
def SY (book : List S46) (ls : List Int) : Int := fin (ls.any (yesAt book)) (ls.any (noAt book))
theorem idxs_mem {α : Type} (p : α → Bool) : ∀ (ys : List α) (i : Nat) (n : Int), n ∈ idxs p ys i → (i : Int) ≤ n ∧ n < i + ys.length := by
 intro ys
 induction ys with
 | nil => intro i n h; simp [idxs] at h
 | cons y ys ih =>
  intro i n h
  unfold idxs at h
  split at h
  ·rcases List.mem_cons.1 h with h | h
   ·subst h; simp <;> omega
   ·have := ih _ _ h
    simp <;> omega
  ·have := ih _ _ h
   simp <;> omega
theorem UO_mem {book : List S46} {s f n : Int} (h : n ∈ UO book s f) : 0 ≤ n ∧ n < (book.length : Int) := by
 unfold UO at h
 split at h
 ·have := idxs_mem _ _ _ _ h
  omega
 ·simp at h
theorem says_j1 (y n : Bool) : Ev (fun k => if y = true then (impl_says.j1 k y n n) else (impl_says.j1 k y n false)) (fin y n) := by
 cases y <;> cases n
 ·exact Ev.step (f := fun _ => some 3) (fun k => by simp [impl_says.j1]) (Ev.now _)
 ·exact Ev.step (f := fun _ => some 0) (fun k => by simp [impl_says.j1]) (Ev.now _)
 ·exact Ev.step (f := fun _ => some 1) (fun k => by simp [impl_says.j1]) (Ev.now _)
 ·exact Ev.step (f := fun _ => some 2) (fun k => by simp [impl_says.j1]) (Ev.now _)
theorem says_l0 (book : List S46) (ls : List Int) (hn : ls.length ≤ 1000) (hm : ∀ n ∈ ls, 0 ≤ n ∧ n < (book.length : Int)) : ∀ (zs : List Int) (i : Nat) (y n : Bool), ls.drop i = zs →
  Ev (fun k => impl_says.l0 k book y n ls (ls.length : Int) (i : Int)) (fin (y || zs.any (yesAt book)) (n || zs.any (noAt book))) := by
 intro zs
 induction zs with
 | nil =>
  intro i y n h
  refine Ev.step (f := fun k => if y = true then (impl_says.j1 k y n n) else (impl_says.j1 k y n false)) (fun k => by rw [impl_says.l0, if_neg (dnil h)]) (Ev.to (says_j1 y n) (by simp))
 | cons z zs ih =>
  intro i y n h
  obtain ⟨h1, h2, h3⟩ := dcons h
  have hz := hm z (List.mem_of_mem_drop (by rw [h]; simp))
  have e := ih (i + 1) (y || yesAt book z) (n || noAt book z) h3
  have hi1 : (i : Int) < (ls.length : Int) := by omega
  have hi0 : 0 ≤ (i : Int) := by omega
  refine Ev.step (f := fun k => impl_says.l0 k book (y || yesAt book z) (n || noAt book z) ls (ls.length : Int) ((i + 1 : Nat) : Int)) (fun k => ?_) (Ev.to e (by simp [Bool.or_assoc]))
  rw [impl_says.l0, if_pos hi1, if_pos hi0, if_pos hi1, rdn, h2, wsucc h1 (by omega)]
  simp only [if_pos hz.1, if_pos hz.2, yesAt, noAt]
  cases y <;> cases n <;> simp

theorem impl_SaysOf_ev (book : List S46) (hn : book.length ≤ 9223372036854775807) (s f : Int) : Ev (fun k => impl_SaysOf.f k book s f) (if (book.all LB && decide ((book.length : Int) ≤ 6)) = true ∧ 0 ≤ s ∧ s < 3 ∧ 0 ≤ f ∧ f < 8 then SY book (UO book s f) else -1) := by
 unfold impl_SaysOf.f
 refine Ev.bind (impl_isBook_ev book hn) ?_
 cases h : (book.all LB && decide ((book.length : Int) ≤ 6)) with
 | false => simp; exact Ev.now _
 | true =>
  simp only [if_true, isCase_eq, Option.bind_some, true_and]
  by_cases hc : 0 ≤ s ∧ s < 3 ∧ 0 ≤ f ∧ f < 8
  ·rw [if_pos hc]
   simp only [decide_eq_true hc, if_true]
   refine Ev.bind (a := SY book (UO book s f)) ?_ (Ev.now _)
   have hm : ∀ n ∈ UO book s f, 0 ≤ n ∧ n < (book.length : Int) := fun n hn => UO_mem hn
   have hl := UO_len book s f
   have hu : UO book s f = idxs (UB book s f) book 0 := by unfold UO; rw [if_pos ⟨h, hc⟩]
   simp only [Bool.and_eq_true, List.all_eq_true, decide_eq_true_eq] at h
   unfold impl_says.f
   refine Ev.bind (a := UO book s f) ?_ ?_
   ·unfold impl_unbeaten.f
    rw [hu]
    have := unbeaten_l0 book s f (by omega) h.1 book 0 rfl
    simpa using this
   ·have := says_l0 book (UO book s f) (by omega) hm (UO book s f) 0 false false rfl
    simpa [SY] using this
  ·rw [if_neg hc]
   simp only [decide_eq_false hc, Bool.false_eq_true, if_false]
   exact Ev.now _

def cnt (p : Int → Bool) : List Int → Nat
 | [] => 0
 | z :: zs => (if p z then 1 else 0) + cnt p zs
theorem cnt_le (p : Int → Bool) : ∀ zs : List Int, cnt p zs ≤ zs.length
 | [] => by simp [cnt]
 | z :: zs => by have := cnt_le p zs; simp only [cnt, List.length_cons]; split <;> omega
theorem cnt_zero (p : Int → Bool) : ∀ zs : List Int, (cnt p zs = 0) ↔ zs.any p = false
 | [] => by simp [cnt]
 | z :: zs => by
  have := cnt_zero p zs
  cases h : p z <;> simp [cnt, h, this]
theorem cnt_all (p : Int → Bool) : ∀ zs : List Int, (cnt p zs = zs.length) ↔ (zs.any fun z => !p z) = false
 | [] => by simp [cnt]
 | z :: zs => by
  have := cnt_all p zs
  have h2 := cnt_le p zs
  cases h : p z
  ·simp [cnt, h]; omega
  ·simp only [cnt, h, if_true, List.length_cons, List.any_cons, Bool.not_true, Bool.false_or]
   rw [← this]
   omega
theorem spec_says_l0 (book : List S46) (ls : List Int) (hn : ls.length ≤ 1000) (hm : ∀ n ∈ ls, 0 ≤ n ∧ n < (book.length : Int)) : ∀ (zs : List Int) (i c : Nat), ls.drop i = zs → c ≤ i →
  Ev (fun k => spec_SaysOf.l0 k book ls (c : Int) (i : Int)) (if (c : Int) + cnt (yesAt book) zs = 0 then 0 else if (c : Int) + cnt (yesAt book) zs = (ls.length : Int) then 1 else 2) := by
 intro zs
 induction zs with
 | nil =>
  intro i c h _
  refine Ev.step (f := fun _ => some (if (c : Int) = 0 then 0 else if (c : Int) = (ls.length : Int) then 1 else 2)) (fun k => ?_) (Ev.to (Ev.now _) (by simp [cnt]))
  rw [spec_SaysOf.l0, if_neg (dnil h)]
  split
  ·rfl
  ·split <;> rfl
 | cons z zs ih =>
  intro i c h hc
  obtain ⟨h1, h2, h3⟩ := dcons h
  have hz := hm z (List.mem_of_mem_drop (by rw [h]; simp))
  have hi1 : (i : Int) < (ls.length : Int) := by omega
  have hi0 : 0 ≤ (i : Int) := by omega
  cases hy : yesAt book z with
  | false =>
   refine Ev.step (f := fun k => spec_SaysOf.l0 k book ls (c : Int) ((i + 1 : Nat) : Int)) (fun k => ?_) (Ev.to (ih (i + 1) c h3 (by omega)) (by simp [cnt, hy]))
   rw [spec_SaysOf.l0, if_pos hi1, if_pos hi0, rdn, h2, if_pos hz.1, if_pos hz.2, if_neg (by rw [show (rd_T46 book z).f4 = false from hy]; decide), wsucc h1 (by omega)]
  | true =>
   refine Ev.step (f := fun k => spec_SaysOf.l0 k book ls ((c + 1 : Nat) : Int) ((i + 1 : Nat) : Int)) (fun k => ?_) (Ev.to (ih (i + 1) (c + 1) h3 (by omega)) ?_)
   ·rw [spec_SaysOf.l0, if_pos hi1, if_pos hi0, rdn, h2, if_pos hz.1, if_pos hz.2, if_pos (show (rd_T46 book z).f4 = true from hy), wsucc h1 (by omega), wz (x := (c : Int) + 1) (by omega) (by omega)]
    rfl
   ·have : ((c + 1 : Nat) : Int) + (cnt (yesAt book) zs : Int) = (c : Int) + (cnt (yesAt book) (z :: zs) : Int) := by simp only [cnt, hy, if_true]; omega
    rw [this]
theorem spec_SaysOf_ev (book : List S46) (hn : book.length ≤ 9223372036854775807) (s f : Int) : Ev (fun k => spec_SaysOf.f k book s f) (if (book.all LB && decide ((book.length : Int) ≤ 6)) = true ∧ 0 ≤ s ∧ s < 3 ∧ 0 ≤ f ∧ f < 8 then SY book (UO book s f) else -1) := by
 have stop : Ev (fun k => spec_SaysOf.j0 k book s f true) (-1) := Ev.step (f := fun _ => some (-1)) (fun k => by rw [spec_SaysOf.j0, if_pos rfl]) (Ev.now _)
 unfold spec_SaysOf.f
 refine Ev.bind (spec_BookOk_ev book hn) ?_
 cases h : (book.all LB && decide ((book.length : Int) ≤ 6)) with
 | false => simp; exact stop
 | true =>
  simp only [if_true, l1In_eq, Option.bind_some, true_and]
  by_cases hs : 0 ≤ s ∧ s ≤ 2
  ·simp only [decide_eq_true hs, if_true]
   by_cases hf : 0 ≤ f ∧ f ≤ 7
   ·rw [if_pos (by omega)]
    simp only [decide_eq_true hf, Bool.not_true]
    refine Ev.step (fun k => by rw [spec_SaysOf.j0, if_neg (by decide)]) ?_
    refine Ev.bind (spec_UnbeatenOf_ev book hn s f) ?_
    have hl := UO_len book s f
    have hm : ∀ n ∈ UO book s f, 0 ≤ n ∧ n < (book.length : Int) := fun n hn => UO_mem hn
    generalize UO book s f = ls at hl hm ⊢
    by_cases h0 : (ls.length : Int) = 0
    ·simp only [if_pos h0]
     obtain rfl : ls = [] := List.eq_nil_of_length_eq_zero (by omega)
     exact Ev.to (Ev.now _) rfl
    ·simp only [if_neg h0]
     refine Ev.to (spec_says_l0 book ls (by omega) hm ls 0 0 rfl (Nat.le_refl _)) ?_
     have z1 := cnt_zero (yesAt book) ls
     have z2 := cnt_all (yesAt book) ls
     unfold SY fin
     have e2 : ls.any (noAt book) = (ls.any fun z => !yesAt book z) := rfl
     rw [e2]
     cases ha : ls.any (yesAt book) with
     | false =>
      have c0 := z1.2 ha
      cases hb : (ls.any fun z => !yesAt book z) with
      | false => have := z2.2 hb; omega
      | true => simp [c0]
     | true =>
      have c0 : cnt (yesAt book) ls ≠ 0 := fun e => by rw [z1.1 e] at ha; cases ha
      cases hb : (ls.any fun z => !yesAt book z) with
      | false => have := z2.2 hb; rw [if_neg (by omega), if_pos (by omega)]; rfl
      | true =>
       have c1 : cnt (yesAt book) ls ≠ ls.length := fun e => by rw [z2.1 e] at hb; cases hb
       rw [if_neg (by omega), if_neg (by omega)]; rfl
   ·rw [if_neg (by omega)]
    simp only [decide_eq_false hf, Bool.not_false]
    exact stop
  ·rw [if_neg (by omega)]
   simp only [decide_eq_false hs, Bool.false_eq_true, if_false]
   exact stop

theorem any_at (book : List S46) (p : S46 → Bool) (g : S46 → Bool) : ∀ (ys : List S46) (i : Nat), book.drop i = ys → (idxs p ys i).any (fun n => g (rd_T46 book n)) = ys.any (fun x => p x && g x) := by
 intro ys
 induction ys with
 | nil => intro i _; rfl
 | cons y ys ih =>
  intro i h
  obtain ⟨h1, h2, h3⟩ := dcons h
  have e := ih (i + 1) h3
  unfold idxs
  cases hp : p y with
  | true => simp only [if_true, List.any_cons, e, rdT25, h2, hp, Bool.true_and]
  | false => simp only [Bool.false_eq_true, if_false, List.any_cons, e, hp, Bool.false_and, Bool.false_or]
def SaysF (book : List S46) (s f : Int) : Int := fin (book.any fun x => UB book s f x && x.f4) (book.any fun x => UB book s f x && !x.f4)
def OkC (book : List S46) (s f : Int) : Prop := (book.all LB && decide ((book.length : Int) ≤ 6)) = true ∧ 0 ≤ s ∧ s < 3 ∧ 0 ≤ f ∧ f < 8
theorem SY_eq (book : List S46) (s f : Int) (h : OkC book s f) : SY book (UO book s f) = SaysF book s f := by
 unfold SY UO SaysF
 unfold OkC at h
 rw [if_pos h]
 congr 1
 ·exact any_at book (UB book s f) (fun x => x.f4) book 0 rfl
 ·exact any_at book (UB book s f) (fun x => !x.f4) book 0 rfl
theorem UB_perm {b c : List S46} (s f : Int) (h : ∀ g : S46 → Bool, c.any g = b.any g) (x : S46) : UB c s f x = UB b s f x := by
 unfold UB
 rw [h]
theorem alive_eq : laws_alive.f = some true := by decide +kernel

def has (xs : List Int) (w : Int) : Bool := xs.any fun x => decide (w = x)
theorem has_iff (xs : List Int) (w : Int) : has xs w = true ↔ w ∈ xs := by
 unfold has
 rw [List.any_eq_true]
 constructor
 ·rintro ⟨x, hx, e⟩
  have := of_decide_eq_true e
  subst this
  exact hx
 ·intro h
  exact ⟨w, h, by simp⟩

theorem hasInt_l0 (xs : List Int) (w : Int) (hn : xs.length ≤ 1000000) : ∀ (zs : List Int) (i : Nat), xs.drop i = zs → Ev (fun k => laws_hasInt.l0 k xs w (i : Int)) (has zs w) := by
 intro zs
 induction zs with
 | nil =>
  intro i h
  exact Ev.step (fun k => by rw [laws_hasInt.l0, if_neg (dnil h)]) (Ev.now false)
 | cons z zs ih =>
  intro i h
  obtain ⟨h1, h2, h3⟩ := dcons h
  by_cases q : z = w
  ·exact Ev.step (fun k => by rw [laws_hasInt.l0, if_pos (by omega), if_pos (by omega), rdn, h2, if_pos q]) (Ev.to (Ev.now true) (by simp [has, q]))
  ·exact Ev.step (fun k => by rw [laws_hasInt.l0, if_pos (by omega), if_pos (by omega), rdn, h2, if_neg q, wsucc h1 (by omega)]) (Ev.to (ih (i + 1) h3) (by have : ¬ w = z := fun e => q e.symm; simp [has, this]))
theorem hasInt_ev (xs : List Int) (w : Int) (hn : xs.length ≤ 1000000) : Ev (fun k => laws_hasInt.f k xs w) (has xs w) := hasInt_l0 xs w hn xs 0 rfl

theorem getD_cons_of {α : Type} {xs : List α} {i : Nat} (h : i < xs.length) (d : α) : xs.drop i = xs.getD i d :: xs.drop (i + 1) := by
 rw [List.drop_eq_getElem_cons h, List.getD_eq_getElem?_getD, List.getElem?_eq_getElem h]
 rfl
theorem sameIntsD_l0 (xs ys : List Int) (hl : xs.length = ys.length) (hn : xs.length ≤ 1000000) : ∀ (d i : Nat), i + d = xs.length → Ev (fun k => laws_sameInts.l0 k xs ys (i : Int)) (decide (xs.drop i = ys.drop i)) := by
 intro d
 induction d with
 | zero =>
  intro i h
  exact Ev.step (fun k => by rw [laws_sameInts.l0, if_neg (by omega)]) (Ev.to (Ev.now true) (by rw [List.drop_eq_nil_iff.2 (by omega), List.drop_eq_nil_iff.2 (by omega)]; simp))
 | succ d ih =>
  intro i h
  have e := ih (i + 1) (by omega)
  rw [getD_cons_of (show i < xs.length by omega) 0, getD_cons_of (show i < ys.length by omega) 0]
  by_cases q : xs.getD i 0 = ys.getD i 0
  ·refine Ev.step (fun k => by rw [laws_sameInts.l0, if_pos (by omega), if_pos (by omega), if_pos (by omega), rdn, rdn, if_pos q, wsucc (show i < xs.length by omega) (by omega)]) (Ev.to e ?_)
   rw [decide_eq_decide, List.cons.injEq]
   exact ⟨fun h => ⟨q, h⟩, fun h => h.2⟩
  ·refine Ev.step (fun k => by rw [laws_sameInts.l0, if_pos (by omega), if_pos (by omega), if_pos (by omega), rdn, rdn, if_neg q]) (Ev.to (Ev.now false) ?_)
   symm
   rw [decide_eq_false_iff_not, List.cons.injEq]
   exact fun h => q h.1
theorem sameIntsD_ev (xs ys : List Int) (hn : xs.length ≤ 1000000) : Ev (fun k => laws_sameInts.f k xs ys) (decide (xs = ys)) := by
 unfold laws_sameInts.f
 by_cases h : xs.length = ys.length
 ·simp only [if_pos (show (xs.length : Int) = (ys.length : Int) by omega)]
  exact sameIntsD_l0 xs ys h hn xs.length 0 (by omega)
 ·simp only [if_neg (show ¬ (xs.length : Int) = (ys.length : Int) by omega)]
  exact Ev.to (Ev.now false) (by symm; rw [decide_eq_false_iff_not]; rintro rfl; exact h rfl)

theorem ascend_l0 (xs : List Int) (hn : xs.length ≤ 1000) (hp : xs.Pairwise (· < ·)) : ∀ (d i : Nat), 1 ≤ i → i + d = xs.length → Ev (fun k => laws_ascend.l0 k xs (i : Int)) true := by
 intro d
 induction d with
 | zero => intro i _ h; exact Ev.step (fun k => by rw [laws_ascend.l0, if_neg (by omega)]) (Ev.now true)
 | succ d ih =>
  intro i h0 h
  have hlt : xs.getD (i - 1) 0 < xs.getD i 0 := by
   rw [List.getD_eq_getElem?_getD, List.getElem?_eq_getElem (show i - 1 < xs.length by omega), List.getD_eq_getElem?_getD, List.getElem?_eq_getElem (show i < xs.length by omega)]
   exact List.pairwise_iff_getElem.1 hp (i - 1) i (by omega) (by omega) (by omega)
  have w1 : Unit → wrap64 ((i : Int) - 1) = ((i - 1 : Nat) : Int) := fun _ => by rw [wz (by omega) (by omega)]; omega
  refine Ev.step (fun k => ?_) (ih (i + 1) (by omega) (by omega))
  rw [laws_ascend.l0, if_pos (by omega), w1 (), if_pos (by omega), if_pos (by omega), if_pos (by omega), rdn, rdn, if_neg (by omega), wsucc (show i < xs.length by omega) (by omega)]
theorem ascend_ev (xs : List Int) (hn : xs.length ≤ 1000) (hp : xs.Pairwise (· < ·)) : Ev (fun k => laws_ascend.f k xs) true := by
 unfold laws_ascend.f
 by_cases h : xs.length = 0
 ·exact Ev.step (fun k => by rw [laws_ascend.l0, if_neg (by omega)]) (Ev.now true)
 ·exact ascend_l0 xs hn hp (xs.length - 1) 1 (by omega) (by omega)

def WL (b : List S46) (i : Int) : List S46 × Bool := if ((b.all LB && decide ((b.length : Int) ≤ 6)) && decide (0 ≤ i ∧ i < (b.length : Int))) = true then (b.eraseIdx i.toNat, true) else ([], false)
theorem impl_WithoutLaw_ev (b : List S46) (hn : b.length ≤ 1048576) (i : Int) : Ev (fun k => impl_WithoutLaw.f k b i) (WL b i) := by
 unfold impl_WithoutLaw.f WL
 refine Ev.bind (impl_isBook_ev b (by omega)) ?_
 cases hb : (b.all LB && decide ((b.length : Int) ≤ 6)) with
 | false => simp only [Bool.false_eq_true, if_false, Bool.false_and]; exact Ev.now _
 | true =>
  simp only [if_true, Bool.true_and]
  by_cases h0 : i < 0
  ·simp only [if_pos h0, decide_eq_false (show ¬ (0 ≤ i ∧ i < (b.length : Int)) by omega), Bool.false_eq_true, if_false]; exact Ev.now _
  ·by_cases h1 : i ≥ (b.length : Int)
   ·simp only [if_neg h0, if_pos h1, decide_eq_false (show ¬ (0 ≤ i ∧ i < (b.length : Int)) by omega), Bool.false_eq_true, if_false]; exact Ev.now _
   ·have w : wrap64 (i + 1) = i + 1 := wz (by omega) (by omega)
    have g0 : 0 ≤ i := by omega
    have g1 : i < (b.length : Int) := by omega
    have e : impl_Law_31.f b i (i + 1) = some (b.eraseIdx i.toNat) := by
     unfold impl_Law_31.f
     rw [if_pos g0, if_pos g1, if_pos rfl]
    simp only [if_neg h0, if_neg h1, decide_eq_true (show 0 ≤ i ∧ i < (b.length : Int) by omega), if_true, Option.bind_some, if_pos (show ([] : List S46).length + b.length < 3518437208883 by simp; omega), List.nil_append, w, e]
    exact Ev.now _
theorem spec_WithoutLaw_ev (b : List S46) (hn : b.length ≤ 1048576) (i : Int) : Ev (fun k => spec_WithoutLaw.f k b i) (WL b i) := by
 unfold spec_WithoutLaw.f WL
 refine Ev.bind (spec_BookOk_ev b (by omega)) ?_
 cases hb : (b.all LB && decide ((b.length : Int) ≤ 6)) with
 | false => simp only [Bool.false_eq_true, if_false, Bool.false_and]; exact Ev.now _
 | true =>
  have w0 : wrap64 ((b.length : Int) - 1) = (b.length : Int) - 1 := wz (by omega) (by omega)
  simp only [if_true, Bool.true_and, l1In_eq, Option.bind_some, w0]
  by_cases h : 0 ≤ i ∧ i ≤ (b.length : Int) - 1
  ·have w : wrap64 (i + 1) = i + 1 := wz (by omega) (by omega)
   have g1 : i ≤ (b.length : Int) := by omega
   have g2 : 0 ≤ i + 1 := by omega
   have g3 : i + 1 ≤ (b.length : Int) := by omega
   have g4 : ([] : List S46).length + (b.take i.toNat).length < 3518437208883 := by simp; omega
   have g5 : (b.take i.toNat).length + (b.drop (i + 1).toNat).length < 3518437208883 := by simp; omega
   have e : (i + 1).toNat = i.toNat + 1 := by omega
   simp only [decide_eq_true h, decide_eq_true (show 0 ≤ i ∧ i < (b.length : Int) by omega), if_true, if_pos h.1, if_pos g1, if_pos g4, List.nil_append, w, if_pos g2, if_pos g3, if_pos g5]
   refine Ev.to (Ev.now _) ?_
   rw [e, List.eraseIdx_eq_take_drop_succ]
  ·simp only [decide_eq_false h, decide_eq_false (show ¬ (0 ≤ i ∧ i < (b.length : Int)) by omega), Bool.false_eq_true, if_false]; exact Ev.now _

theorem Bt_trans {a1 a2 a3 b1 b2 b3 c1 c2 c3 : Int} (h : BtB a1 a2 a3 b1 b2 b3 = true) (h2 : BtB b1 b2 b3 c1 c2 c3 = true) : BtB a1 a2 a3 c1 c2 c3 = true := by
 unfold BtB at *
 (repeat' split at h) <;> (repeat' split at h2) <;> (repeat' split) <;> simp only [decide_eq_true_eq] at * <;> omega
theorem Bt_irr (a1 a2 a3 : Int) : BtB a1 a2 a3 a1 a2 a3 = false := by simp [BtB]
theorem mem_erase_or {b : List S46} {i : Nat} (h : i < b.length) {x : S46} (hx : x ∈ b) : x = b.getD i z46 ∨ x ∈ b.eraseIdx i := by
 rw [List.eraseIdx_eq_take_drop_succ, List.mem_append]
 have e : b = b.take i ++ b.getD i z46 :: b.drop (i + 1) := by
  rw [List.getD_eq_getElem?_getD, List.getElem?_eq_getElem h]
  show b = b.take i ++ b[i] :: b.drop (i + 1)
  rw [← List.drop_eq_getElem_cons h, List.take_append_drop]
 rw [e] at hx
 rcases List.mem_append.1 hx with q | q
 ·exact .inr (.inl q)
 ·rcases List.mem_cons.1 q with q | q
  ·exact .inl q
  ·exact .inr (.inr q)
theorem mem_erase_of {b : List S46} {i : Nat} {x : S46} (hx : x ∈ b.eraseIdx i) : x ∈ b := List.mem_of_mem_eraseIdx hx
theorem UB_iff (b : List S46) (s f : Int) (x : S46) : UB b s f x = true ↔ App s f x = true ∧ ∀ y ∈ b, App s f y = true → Beat y x = false := by
 unfold UB
 rw [Bool.and_eq_true, Bool.not_eq_true', List.any_eq_false]
 constructor
 ·rintro ⟨h1, h2⟩
  refine ⟨h1, fun y hy ha => ?_⟩
  have := h2 y hy
  rw [ha, Bool.true_and] at this
  simpa using this
 ·rintro ⟨h1, h2⟩
  refine ⟨h1, fun y hy => ?_⟩
  cases ha : App s f y with
  | false => simp
  | true => simp [h2 y hy ha]
theorem UB_erase {b : List S46} {i : Nat} (hi : i < b.length) (s f : Int) (hz : UB b s f (b.getD i z46) = false) (g : S46 → Bool) : ((b.eraseIdx i).any fun x => UB (b.eraseIdx i) s f x && g x) = b.any fun x => UB b s f x && g x := by
 have hzn : ∀ x, UB b s f x = true → x ≠ b.getD i z46 := fun x hx e => by rw [e, hz] at hx; cases hx
 rw [Bool.eq_iff_iff, List.any_eq_true, List.any_eq_true]
 constructor
 ·rintro ⟨x, hx, h⟩
  rw [Bool.and_eq_true] at h
  refine ⟨x, mem_erase_of hx, ?_⟩
  rw [Bool.and_eq_true]
  refine ⟨?_, h.2⟩
  obtain ⟨ha, hb⟩ := (UB_iff _ s f x).1 h.1
  refine (UB_iff b s f x).2 ⟨ha, fun y hy hya => ?_⟩
  rcases mem_erase_or hi hy with q | q
  ·cases hyx : Beat y x with
   | false => rfl
   | true =>
    have hn : ¬ (UB b s f y = true) := by rw [q, hz]; decide
    rw [UB_iff] at hn
    have : ∃ w ∈ b, App s f w = true ∧ Beat w y = true := by
     refine Classical.byContradiction fun hno => hn ⟨hya, fun w hw hwa => ?_⟩
     cases hwy : Beat w y with
     | false => rfl
     | true => exact absurd ⟨w, hw, hwa, hwy⟩ hno
    obtain ⟨w, hw, hwa, hwy⟩ := this
    have hwx : Beat w x = true := Bt_trans hwy hyx
    rcases mem_erase_or hi hw with q2 | q2
    ·rw [q2, ← q] at hwy
     have := Bt_irr y.f1 y.f2 y.f3
     unfold Beat at hwy
     rw [this] at hwy
     cases hwy
    ·have := hb w q2 hwa
     rw [this] at hwx
     cases hwx
  ·exact hb y q hya
 ·rintro ⟨x, hx, h⟩
  rw [Bool.and_eq_true] at h
  have hxc : x ∈ b.eraseIdx i := by
   rcases mem_erase_or hi hx with q | q
   ·exact absurd q (hzn x h.1)
   ·exact q
  refine ⟨x, hxc, ?_⟩
  rw [Bool.and_eq_true]
  refine ⟨?_, h.2⟩
  obtain ⟨ha, hb⟩ := (UB_iff _ s f x).1 h.1
  exact (UB_iff _ s f x).2 ⟨ha, fun y hy hya => hb y (mem_erase_of hy) hya⟩
theorem SaysF_erase {b : List S46} {i : Nat} (hi : i < b.length) (s f : Int) (hz : UB b s f (b.getD i z46) = false) : SaysF (b.eraseIdx i) s f = SaysF b s f := by
 unfold SaysF
 rw [UB_erase hi s f hz (fun x => x.f4), UB_erase hi s f hz (fun x => !x.f4)]
theorem OkC_erase {b : List S46} {s f : Int} (i : Nat) (h : OkC b s f) : OkC (b.eraseIdx i) s f := by
 unfold OkC at *
 obtain ⟨h1, h2⟩ := h
 refine ⟨?_, h2⟩
 simp only [Bool.and_eq_true, List.all_eq_true, decide_eq_true_eq] at h1 ⊢
 have := List.length_eraseIdx_le b i
 exact ⟨fun x hx => h1.1 x (mem_erase_of hx), by omega⟩

theorem idxs_iff {α : Type} (p : α → Bool) (d : α) : ∀ (ys : List α) (i : Nat) (n : Int), n ∈ idxs p ys i ↔ ∃ j : Nat, j < ys.length ∧ n = ((i + j : Nat) : Int) ∧ p (ys.getD j d) = true := by
 intro ys
 induction ys with
 | nil => intro i n; simp [idxs]
 | cons y ys ih =>
  intro i n
  have step : (∃ j : Nat, j < (y :: ys).length ∧ n = ((i + j : Nat) : Int) ∧ p ((y :: ys).getD j d) = true) ↔ (n = (i : Int) ∧ p y = true) ∨ ∃ j : Nat, j < ys.length ∧ n = ((i + 1 + j : Nat) : Int) ∧ p (ys.getD j d) = true := by
   constructor
   ·rintro ⟨j, h1, h2, h3⟩
    cases j with
    | zero => exact .inl ⟨by simpa using h2, by simpa using h3⟩
    | succ j => exact .inr ⟨j, by simpa using h1, by rw [h2]; congr 1; omega, by simpa using h3⟩
   ·rintro (⟨h1, h2⟩ | ⟨j, h1, h2, h3⟩)
    ·exact ⟨0, by simp, by simpa using h1, by simpa using h2⟩
    ·exact ⟨j + 1, by simpa using h1, by rw [h2]; congr 1; omega, by simpa using h3⟩
  rw [step, ← ih (i + 1) n, show idxs p (y :: ys) i = if p y then (i : Int) :: idxs p ys (i + 1) else idxs p ys (i + 1) from rfl]
  cases hp : p y with
  | true => simp
  | false => simp
theorem idxs_pair {α : Type} (p : α → Bool) : ∀ (ys : List α) (i : Nat), (idxs p ys i).Pairwise (· < ·) := by
 intro ys
 induction ys with
 | nil => intro i; simp [idxs]
 | cons y ys ih =>
  intro i
  unfold idxs
  split
  ·rw [List.pairwise_cons]
   exact ⟨fun x hx => by have := idxs_mem p ys (i + 1) x hx; omega, ih (i + 1)⟩
  ·exact ih (i + 1)

def alF (b c : List S46) (s f d : Nat) : Bool := (List.range' f d).all fun g => decide (SaysF b (s : Int) (g : Int) = SaysF c (s : Int) (g : Int))
def alS (b c : List S46) (s d : Nat) : Bool := (List.range' s d).all fun t => alF b c t 0 8
def IdB (b : List S46) (i : Nat) : Bool := alS b (b.eraseIdx i) 0 3
theorem IdB_iff (b : List S46) (i : Nat) : IdB b i = true ↔ ∀ s f : Nat, s < 3 → f < 8 → SaysF b (s : Int) (f : Int) = SaysF (b.eraseIdx i) (s : Int) (f : Int) := by
 unfold IdB alS alF
 simp only [List.all_eq_true, List.mem_range'_1, decide_eq_true_eq]
 constructor
 ·intro h s f hs hf
  exact h s ⟨Nat.zero_le _, by omega⟩ f ⟨Nat.zero_le _, by omega⟩
 ·intro h s hs f hf
  exact h s f (by omega) (by omega)
def IDL (b : List S46) : List Int := if (b.all LB && decide ((b.length : Int) ≤ 6)) = true then idxs (IdB b) (List.range' 0 b.length) 0 else []
theorem IDL_len (b : List S46) : (IDL b).length ≤ b.length := by
 unfold IDL
 split
 ·have := idxs_len (IdB b) (List.range' 0 b.length) 0
  simpa using this
 ·simp
theorem OkC_of {b : List S46} (hv : (b.all LB && decide ((b.length : Int) ≤ 6)) = true) {s f : Nat} (hs : s < 3) (hf : f < 8) : OkC b (s : Int) (f : Int) := ⟨hv, by omega, by omega, by omega, by omega⟩
theorem valid_len {b : List S46} (hv : (b.all LB && decide ((b.length : Int) ≤ 6)) = true) : b.length ≤ 6 := by
 simp only [Bool.and_eq_true, decide_eq_true_eq] at hv
 omega
theorem valid_erase {b : List S46} (hv : (b.all LB && decide ((b.length : Int) ≤ 6)) = true) (i : Nat) : ((b.eraseIdx i).all LB && decide (((b.eraseIdx i).length : Int) ≤ 6)) = true := (OkC_erase (s := 0) (f := 0) i ⟨hv, by decide, by decide, by decide, by decide⟩).1
theorem impl_says_ok {b : List S46} {s f : Int} (ok : OkC b s f) : Ev (fun k => impl_says.f k b s f) (SaysF b s f) := by
 have o := ok
 unfold OkC at o
 have hm : ∀ n ∈ UO b s f, 0 ≤ n ∧ n < (b.length : Int) := fun n hn => UO_mem hn
 have hl := UO_len b s f
 have hu : UO b s f = idxs (UB b s f) b 0 := by unfold UO; rw [if_pos o]
 have h := o.1
 simp only [Bool.and_eq_true, List.all_eq_true, decide_eq_true_eq] at h
 unfold impl_says.f
 refine Ev.bind (a := UO b s f) ?_ ?_
 ·unfold impl_unbeaten.f
  rw [hu]
  have := unbeaten_l0 b s f (by omega) h.1 b 0 rfl
  simpa using this
 ·have := says_l0 b (UO b s f) (by omega) hm (UO b s f) 0 false false rfl
  rw [← SY_eq b s f ok]
  simpa [SY] using this
section
variable (b c : List S46) (hb : (b.all LB && decide ((b.length : Int) ≤ 6)) = true) (hc : (c.all LB && decide ((c.length : Int) ≤ 6)) = true)
include hb hc
theorem alike_l1 (s : Nat) (hs : s < 3) (r : Bool) (e : Ev (fun k => impl_sayAlike.l0 k b c (wrap64 ((s : Int) + 1))) r) : ∀ (d f : Nat), f + d = 8 → Ev (fun k => impl_sayAlike.l1 k b c (s : Int) (s : Int) (f : Int)) (alF b c s f d && r) := by
 intro d
 induction d with
 | zero => intro f h; exact Ev.step (fun k => by rw [impl_sayAlike.l1, if_neg (by omega)]) (Ev.to e (by simp [alF]))
 | succ d ih =>
  intro f h
  have e1 := ih (f + 1) (by omega)
  have hf : (f : Int) < 8 := by omega
  have w : wrap64 ((f : Int) + 1) = ((f + 1 : Nat) : Int) := by rw [wz (by omega) (by omega)]; omega
  have hr : alF b c s f (d + 1) = (decide (SaysF b (s : Int) (f : Int) = SaysF c (s : Int) (f : Int)) && alF b c s (f + 1) d) := by
   unfold alF
   rw [List.range'_succ, List.all_cons]
  refine Ev.step (f := fun k => (impl_says.f k b (s : Int) (f : Int)).bind _) (fun k => by rw [impl_sayAlike.l1, if_pos hf, w]) (Ev.bind (impl_says_ok (OkC_of (f := f) hb hs (show f < 8 by omega))) (Ev.bind (impl_says_ok (OkC_of (f := f) hc hs (show f < 8 by omega))) ?_))
  rw [hr]
  by_cases q : SaysF b (s : Int) (f : Int) = SaysF c (s : Int) (f : Int)
  ·simp only [if_pos q, decide_eq_true q, Bool.true_and]; exact e1
  ·simp only [if_neg q, decide_eq_false q, Bool.false_and]; exact Ev.now _
theorem alike_l0 : ∀ (d s : Nat), s + d = 3 → Ev (fun k => impl_sayAlike.l0 k b c (s : Int)) (alS b c s d) := by
 intro d
 induction d with
 | zero => intro s h; exact Ev.step (fun k => by rw [impl_sayAlike.l0, if_neg (by omega)]) (Ev.to (Ev.now true) (by simp [alS]))
 | succ d ih =>
  intro s h
  have e := ih (s + 1) (by omega)
  have w : wrap64 ((s : Int) + 1) = ((s + 1 : Nat) : Int) := by rw [wz (by omega) (by omega)]; omega
  have hr : alS b c s (d + 1) = (alF b c s 0 8 && alS b c (s + 1) d) := by
   unfold alS
   rw [List.range'_succ, List.all_cons]
  rw [hr]
  refine Ev.step (fun k => by rw [impl_sayAlike.l0, if_pos (by omega)]; rfl) (alike_l1 b c hb hc s (by omega) (alS b c (s + 1) d) (by rw [w]; exact e) 8 0 (by omega))
end
section
variable (b : List S46) (hb : (b.all LB && decide ((b.length : Int) ≤ 6)) = true)
include hb
theorem idle_i : ∀ (d i : Nat) (out : List Int), i + d = b.length → out.length ≤ i → Ev (fun k => impl_IdleLaws.l0 k b out (b.length : Int) (i : Int)) (out ++ idxs (IdB b) (List.range' i d) i) := by
 have hl := valid_len hb
 intro d
 induction d with
 | zero => intro i out h ho; exact Ev.step (fun k => by rw [impl_IdleLaws.l0, if_neg (by omega)]) (Ev.to (Ev.now out) (by simp [idxs]))
 | succ d ih =>
  intro i out h ho
  have hi : (i : Int) < (b.length : Int) := by omega
  have w : wrap64 ((i : Int) + 1) = (i : Int) + 1 := wz (by omega) (by omega)
  have hj : ((i : Int) + 1) = ((i + 1 : Nat) : Int) := by omega
  have g1 : ([] : List S46).length + b.length < 3518437208883 := by simp; omega
  have g2 : out.length < 17592186044416 := by omega
  have e : impl_Law_31.f b (i : Int) ((i : Int) + 1) = some (b.eraseIdx i) := by
   unfold impl_Law_31.f
   rw [if_pos (by omega), if_pos hi, if_pos rfl, Int.toNat_natCast]
  have al : Ev (fun k => impl_sayAlike.f k b (b.eraseIdx i)) (IdB b i) := alike_l0 b (b.eraseIdx i) hb (valid_erase hb i) 3 0 rfl
  have hr : idxs (IdB b) (List.range' i (d + 1)) i = if IdB b i then (i : Int) :: idxs (IdB b) (List.range' (i + 1) d) (i + 1) else idxs (IdB b) (List.range' (i + 1) d) (i + 1) := by
   rw [List.range'_succ]
   rfl
  have e1 := ih (i + 1) (out ++ [(i : Int)]) (by omega) (by simp; omega)
  have e2 := ih (i + 1) out (by omega) (by omega)
  refine Ev.step (f := fun k => (impl_sayAlike.f k b (b.eraseIdx i)).bind fun t264 => (if t264 = true then (if out.length < 17592186044416 then (impl_IdleLaws.l0 k b (out ++ [(i : Int)]) (b.length : Int) ((i : Int) + 1)) else (none)) else (impl_IdleLaws.l0 k b out (b.length : Int) ((i : Int) + 1)))) (fun k => by rw [impl_IdleLaws.l0, if_pos hi, Option.bind_some, if_pos g1, List.nil_append, w, e, Option.bind_some]) (Ev.bind al ?_)
  rw [hr]
  cases hd : IdB b i with
  | true =>
   simp only [if_true, if_pos g2, hj]
   exact Ev.to e1 (by simp)
  | false =>
   simp only [Bool.false_eq_true, if_false, hj]
   exact e2
end
theorem impl_IdleLaws_ev (b : List S46) (hn : b.length ≤ 1048576) : Ev (fun k => impl_IdleLaws.f k b) (IDL b) := by
 unfold impl_IdleLaws.f IDL
 refine Ev.bind (impl_isBook_ev b (by omega)) ?_
 cases hb : (b.all LB && decide ((b.length : Int) ≤ 6)) with
 | false => simp only [Bool.false_eq_true, if_false]; exact Ev.now _
 | true => simp only [if_true]; exact idle_i b hb b.length 0 [] (by omega) (by simp)
section
variable (b : List S46) (hb : (b.all LB && decide ((b.length : Int) ≤ 6)) = true) (i : Nat) (out : List Int)
include hb
theorem idle_s2 (s : Nat) (hs : s < 3) (r : Bool → List Int) (e : ∀ fl, Ev (fun k => spec_IdleLaws.l1 k b out (i : Int) (b.eraseIdx i) fl (wrap64 ((s : Int) + 1))) (r fl)) : ∀ (d f : Nat) (fl : Bool), f + d = 8 → Ev (fun k => spec_IdleLaws.l2 k b out (i : Int) (b.eraseIdx i) fl (s : Int) (f : Int)) (r (fl && alF b (b.eraseIdx i) s f d)) := by
 have hl := valid_len hb
 have hel := List.length_eraseIdx_le b i
 intro d
 induction d with
 | zero => intro f fl h; exact Ev.step (fun k => by rw [spec_IdleLaws.l2, if_neg (by omega)]) (Ev.to (e fl) (by simp [alF]))
 | succ d ih =>
  intro f fl h
  have hf : (f : Int) < 8 := by omega
  have w : wrap64 ((f : Int) + 1) = ((f + 1 : Nat) : Int) := by rw [wz (by omega) (by omega)]; omega
  have hr : alF b (b.eraseIdx i) s f (d + 1) = (decide (SaysF b (s : Int) (f : Int) = SaysF (b.eraseIdx i) (s : Int) (f : Int)) && alF b (b.eraseIdx i) s (f + 1) d) := by
   unfold alF
   rw [List.range'_succ, List.all_cons]
  cases fl with
  | false =>
   have e1 := ih (f + 1) false (by omega)
   exact Ev.step (fun k => by rw [spec_IdleLaws.l2, if_pos hf, if_neg (by decide), w]) (Ev.to e1 (by simp))
  | true =>
   have ok := OkC_of hb hs (show f < 8 by omega)
   have ok2 := OkC_of (valid_erase hb i) hs (show f < 8 by omega)
   have s1 := spec_SaysOf_ev (b.eraseIdx i) (by omega) (s : Int) (f : Int)
   have s2 := spec_SaysOf_ev b (by omega) (s : Int) (f : Int)
   have o1 := ok
   have o2 := ok2
   unfold OkC at o1 o2
   rw [if_pos o2, SY_eq _ _ _ ok2] at s1
   rw [if_pos o1, SY_eq _ _ _ ok] at s2
   refine Ev.step (f := fun k => (spec_SaysOf.f k (b.eraseIdx i) (s : Int) (f : Int)).bind _) (fun k => by rw [spec_IdleLaws.l2, if_pos hf, if_pos rfl, w]) (Ev.bind s1 (Ev.bind s2 ?_))
   rw [hr]
   by_cases q : SaysF b (s : Int) (f : Int) = SaysF (b.eraseIdx i) (s : Int) (f : Int)
   ·have e1 := ih (f + 1) true (by omega)
    have q2 : (SaysF (b.eraseIdx i) (s : Int) (f : Int) == SaysF b (s : Int) (f : Int)) = true := by rw [q]; simp
    simp only [q2]
    exact Ev.to e1 (by simp [decide_eq_true q])
   ·have e1 := ih (f + 1) false (by omega)
    have q2 : (SaysF (b.eraseIdx i) (s : Int) (f : Int) == SaysF b (s : Int) (f : Int)) = false := by simpa using fun z => q z.symm
    simp only [q2]
    exact Ev.to e1 (by simp [decide_eq_false q])
theorem idle_s1 (r : Bool → List Int) (e : ∀ fl, Ev (fun k => if fl = true then (if out.length < 17592186044416 then (spec_IdleLaws.l0 k b (out ++ [(i : Int)]) (wrap64 ((i : Int) + 1))) else (none)) else (spec_IdleLaws.l0 k b out (wrap64 ((i : Int) + 1)))) (r fl)) : ∀ (d s : Nat) (fl : Bool), s + d = 3 → Ev (fun k => spec_IdleLaws.l1 k b out (i : Int) (b.eraseIdx i) fl (s : Int)) (r (fl && alS b (b.eraseIdx i) s d)) := by
 intro d
 induction d with
 | zero => intro s fl h; exact Ev.step (fun k => by rw [spec_IdleLaws.l1, if_neg (by omega)]) (Ev.to (e fl) (by simp [alS]))
 | succ d ih =>
  intro s fl h
  have w : wrap64 ((s : Int) + 1) = ((s + 1 : Nat) : Int) := by rw [wz (by omega) (by omega)]; omega
  have hr : alS b (b.eraseIdx i) s (d + 1) = (alF b (b.eraseIdx i) s 0 8 && alS b (b.eraseIdx i) (s + 1) d) := by
   unfold alS
   rw [List.range'_succ, List.all_cons]
  have e2 := idle_s2 b hb i out s (by omega) (fun fl => r (fl && alS b (b.eraseIdx i) (s + 1) d)) (fun fl => by rw [w]; exact ih (s + 1) fl (by omega)) 8 0 fl (by omega)
  refine Ev.step (fun k => by rw [spec_IdleLaws.l1, if_pos (by omega)]; rfl) (Ev.to e2 ?_)
  rw [hr, Bool.and_assoc]
end
section
variable (b : List S46) (hb : (b.all LB && decide ((b.length : Int) ≤ 6)) = true)
include hb
theorem idle_s0 : ∀ (d i : Nat) (out : List Int), i + d = b.length → out.length ≤ i → Ev (fun k => spec_IdleLaws.l0 k b out (i : Int)) (out ++ idxs (IdB b) (List.range' i d) i) := by
 have hl := valid_len hb
 have bk := spec_BookOk_ev b (by omega)
 rw [hb] at bk
 intro d
 induction d with
 | zero =>
  intro i out h ho
  exact Ev.step (fun k => by rw [spec_IdleLaws.l0, if_neg (by omega)]) (Ev.step (f := fun _ => some out) (fun k => by rw [spec_IdleLaws.j1, if_neg (by decide)]) (Ev.to (Ev.now out) (by simp [idxs])))
 | succ d ih =>
  intro i out h ho
  have hi : (i : Int) < (b.length : Int) := by omega
  have w : wrap64 ((i : Int) + 1) = ((i + 1 : Nat) : Int) := by rw [wz (by omega) (by omega)]; omega
  have g2 : out.length < 17592186044416 := by omega
  have hr : idxs (IdB b) (List.range' i (d + 1)) i = if IdB b i then (i : Int) :: idxs (IdB b) (List.range' (i + 1) d) (i + 1) else idxs (IdB b) (List.range' (i + 1) d) (i + 1) := by
   rw [List.range'_succ]
   rfl
  have e1 := ih (i + 1) (out ++ [(i : Int)]) (by omega) (by simp; omega)
  have e2 := ih (i + 1) out (by omega) (by omega)
  have wl := spec_WithoutLaw_ev b (by omega) (i : Int)
  have hw : WL b (i : Int) = (b.eraseIdx i, true) := by
   unfold WL
   rw [if_pos (by rw [hb, decide_eq_true ⟨by omega, hi⟩]; rfl), Int.toNat_natCast]
  rw [hw] at wl
  have key := idle_s1 b hb i out (fun fl => if fl = true then (out ++ [(i : Int)]) ++ idxs (IdB b) (List.range' (i + 1) d) (i + 1) else out ++ idxs (IdB b) (List.range' (i + 1) d) (i + 1)) (fun fl => by
   cases fl with
   | true => simp only [if_true, if_pos g2, w]; exact e1
   | false => simp only [Bool.false_eq_true, if_false, w]; exact e2) 3 0 true rfl
  refine Ev.step (fun k => by rw [spec_IdleLaws.l0, if_pos hi]) (Ev.bind bk (Ev.step (fun k => by rw [spec_IdleLaws.j1, if_pos rfl]) (Ev.bind wl (Ev.to key ?_))))
  rw [hr, Bool.true_and]
  show (if IdB b i = true then _ else _) = _
  cases IdB b i with
  | true => simp
  | false => simp
end
theorem spec_IdleLaws_ev (b : List S46) (hn : b.length ≤ 1048576) : Ev (fun k => spec_IdleLaws.f k b) (IDL b) := by
 unfold spec_IdleLaws.f IDL
 cases hb : (b.all LB && decide ((b.length : Int) ≤ 6)) with
 | true => simp only [if_true]; exact idle_s0 b hb b.length 0 [] (by omega) (by simp)
 | false =>
  have bk := spec_BookOk_ev b (by omega)
  rw [hb] at bk
  have st : Ev (fun k => spec_IdleLaws.j1 k b [] 0 false) ([] : List Int) := Ev.step (f := fun _ => some []) (fun k => by rw [spec_IdleLaws.j1, if_neg (by decide)]) (Ev.now _)
  simp only [Bool.false_eq_true, if_false]
  by_cases h : (0 : Int) < (b.length : Int)
  ·exact Ev.step (fun k => by rw [spec_IdleLaws.l0, if_pos h]) (Ev.bind bk st)
  ·exact Ev.step (fun k => by rw [spec_IdleLaws.l0, if_neg h]) st

theorem IDL_mem {b : List S46} (hb : (b.all LB && decide ((b.length : Int) ≤ 6)) = true) (n : Int) : n ∈ IDL b ↔ ∃ j : Nat, j < b.length ∧ n = (j : Int) ∧ IdB b j = true := by
 have g : ∀ j, j < b.length → (List.range' 0 b.length).getD j 0 = j := fun j hj => by
  rw [List.getD_eq_getElem?_getD, List.getElem?_eq_getElem (by simpa using hj)]
  simp
 unfold IDL
 rw [if_pos hb, idxs_iff (IdB b) 0]
 constructor
 ·rintro ⟨j, h1, h2, h3⟩
  have h1 : j < b.length := by simpa using h1
  rw [g j h1] at h3
  exact ⟨j, h1, by omega, h3⟩
 ·rintro ⟨j, h1, h2, h3⟩
  exact ⟨j, by simpa using h1, by omega, by rw [g j h1]; exact h3⟩
theorem IDL_pair (b : List S46) : (IDL b).Pairwise (· < ·) := by
 unfold IDL
 split
 ·exact idxs_pair _ _ _
 ·simp
theorem IdB_nowhere {b : List S46} {i : Nat} (hi : i < b.length) (h : ∀ s f : Nat, s < 3 → f < 8 → UB b (s : Int) (f : Int) (b.getD i z46) = false) : IdB b i = true :=
 (IdB_iff b i).2 fun s f hs hf => (SaysF_erase hi _ _ (h s f hs hf)).symm
theorem IdB_twice {b : List S46} {i j : Nat} (hi : i < b.length) (hj : j < b.length) (hne : j ≠ i) (h : b.getD j z46 = b.getD i z46) : IdB b i = true := by
 have hm : b.getD i z46 ∈ b.eraseIdx i := by
  rw [List.mem_eraseIdx_iff_getElem]
  refine ⟨j, hj, hne, ?_⟩
  rw [← h, List.getD_eq_getElem?_getD, List.getElem?_eq_getElem hj]
  rfl
 have hany : ∀ g : S46 → Bool, (b.eraseIdx i).any g = b.any g := by
  intro g
  rw [Bool.eq_iff_iff, List.any_eq_true, List.any_eq_true]
  constructor
  ·rintro ⟨x, hx, hg⟩
   exact ⟨x, mem_erase_of hx, hg⟩
  ·rintro ⟨x, hx, hg⟩
   rcases mem_erase_or hi hx with q | q
   ·exact ⟨x, by rw [q]; exact hm, hg⟩
   ·exact ⟨x, q, hg⟩
 refine (IdB_iff b i).2 fun s f _ _ => ?_
 unfold SaysF
 simp only [UB_perm (s : Int) (f : Int) hany, hany]
section
variable (b : List S46) (hb : (b.all LB && decide ((b.length : Int) ≤ 6)) = true)
include hb
theorem il_has {i : Nat} (hi : i < b.length) (h : IdB b i = true) : Ev (fun k => laws_hasInt.f k (IDL b) (i : Int)) true := by
 have hl := valid_len hb
 have hd := IDL_len b
 have e := hasInt_ev (IDL b) (i : Int) (by omega)
 rw [(has_iff _ _).2 ((IDL_mem hb _).2 ⟨i, hi, rfl, h⟩)] at e
 exact e
theorem il_l3 (i : Nat) (hi : i < b.length) (fl7 : Bool) (s : Nat) (hs : s < 3) (e : ∀ fl6 : Bool, (fl6 = true → ∀ s' f' : Nat, s' < s + 1 → f' < 8 → UB b (s' : Int) (f' : Int) (b.getD i z46) = false) → Ev (fun k => laws_FnIdleLaws.l2 k b (IDL b) (i : Int) fl6 fl7 (wrap64 ((s : Int) + 1))) true) : ∀ (d f : Nat) (fl6 : Bool), f + d = 8 → (fl6 = true → ∀ s' f' : Nat, s' < 3 → f' < 8 → (s' < s ∨ (s' = s ∧ f' < f)) → UB b (s' : Int) (f' : Int) (b.getD i z46) = false) → Ev (fun k => laws_FnIdleLaws.l3 k b (IDL b) (i : Int) fl6 fl7 (s : Int) (f : Int)) true := by
 have hl := valid_len hb
 intro d
 induction d with
 | zero =>
  intro f fl6 h h6
  refine Ev.step (fun k => by rw [laws_FnIdleLaws.l3, if_neg (by omega)]) (e fl6 (fun q s' f' h1 h2 => h6 q s' f' (by omega) h2 (by omega)))
 | succ d ih =>
  intro f fl6 h h6
  have hf : (f : Int) < 8 := by omega
  have w : wrap64 ((f : Int) + 1) = ((f + 1 : Nat) : Int) := by rw [wz (by omega) (by omega)]; omega
  cases fl6 with
  | false => exact Ev.step (fun k => by rw [laws_FnIdleLaws.l3, if_pos hf, if_neg (by decide), w]) (ih (f + 1) false (by omega) (fun q => by cases q))
  | true =>
   have ok := OkC_of hb hs (show f < 8 by omega)
   have hu : UO b (s : Int) (f : Int) = idxs (UB b (s : Int) (f : Int)) b 0 := by
    have o := ok
    unfold OkC at o
    unfold UO
    rw [if_pos o]
   have hul := UO_len b (s : Int) (f : Int)
   refine Ev.step (f := fun k => (impl_UnbeatenOf.f k b (s : Int) (f : Int)).bind _) (fun k => by rw [laws_FnIdleLaws.l3, if_pos hf, if_pos rfl, w]) (Ev.bind (impl_UnbeatenOf_ev b (by omega) (s : Int) (f : Int)) (Ev.bind (hasInt_ev (UO b (s : Int) (f : Int)) (i : Int) (by omega)) ?_))
   refine ih (f + 1) _ (by omega) (fun q s' f' h1 h2 h3 => ?_)
   by_cases g : s' < s ∨ (s' = s ∧ f' < f)
   ·exact h6 rfl s' f' h1 h2 g
   ·have e1 : s' = s := by omega
    have e2 : f' = f := by omega
    subst e1 e2
    cases hz : UB b (s' : Int) (f' : Int) (b.getD i z46) with
    | false => rfl
    | true =>
     have : (i : Int) ∈ UO b (s' : Int) (f' : Int) := by
      rw [hu, idxs_iff _ z46]
      exact ⟨i, hi, by omega, hz⟩
     rw [(has_iff _ _).2 this] at q
     cases q
theorem il_l2 (i : Nat) (hi : i < b.length) (fl7 : Bool) (h7 : fl7 = true → IdB b i = true) (e : Ev (fun k => laws_FnIdleLaws.l0 k b (IDL b) (wrap64 ((i : Int) + 1))) true) : ∀ (d s : Nat) (fl6 : Bool), s + d = 3 → (fl6 = true → ∀ s' f' : Nat, s' < s → f' < 8 → UB b (s' : Int) (f' : Int) (b.getD i z46) = false) → Ev (fun k => laws_FnIdleLaws.l2 k b (IDL b) (i : Int) fl6 fl7 (s : Int)) true := by
 intro d
 induction d with
 | zero =>
  intro s fl6 h h6
  have hs3 : ¬ (s : Int) < 3 := by omega
  cases fl6 with
  | true =>
   have hd := IdB_nowhere hi (fun s' f' h1 h2 => h6 rfl s' f' (by omega) h2)
   refine Ev.step (f := fun k => (laws_hasInt.f k (IDL b) (i : Int)).bind _) (fun k => by rw [laws_FnIdleLaws.l2, if_neg hs3, if_pos rfl]) (Ev.bind (il_has b hb hi hd) ?_)
   simp only [if_true]
   exact e
  | false =>
   cases fl7 with
   | true =>
    refine Ev.step (f := fun k => (laws_hasInt.f k (IDL b) (i : Int)).bind _) (fun k => by rw [laws_FnIdleLaws.l2, if_neg hs3, if_neg (by decide), if_pos rfl]) (Ev.bind (il_has b hb hi (h7 rfl)) ?_)
    simp only [if_true]
    exact e
   | false => exact Ev.step (fun k => by rw [laws_FnIdleLaws.l2, if_neg hs3, if_neg (by decide), if_neg (by decide)]) e
 | succ d ih =>
  intro s fl6 h h6
  have w : wrap64 ((s : Int) + 1) = ((s + 1 : Nat) : Int) := by rw [wz (by omega) (by omega)]; omega
  refine Ev.step (fun k => by rw [laws_FnIdleLaws.l2, if_pos (by omega)]; rfl) (il_l3 b hb i hi fl7 s (by omega) (fun fl h => by rw [w]; exact ih (s + 1) fl (by omega) h) 8 0 fl6 (by omega) (fun q s' f' h1 h2 h3 => h6 q s' f' (by omega) h2))
theorem il_l1 (i : Nat) (hi : i < b.length) (e : ∀ fl7 : Bool, (fl7 = true → IdB b i = true) → Ev (fun k => laws_FnIdleLaws.l2 k b (IDL b) (i : Int) true fl7 0) true) : ∀ (d j : Nat) (fl7 : Bool), j + d = b.length → (fl7 = true → IdB b i = true) → Ev (fun k => laws_FnIdleLaws.l1 k b (IDL b) (i : Int) true fl7 (j : Int)) true := by
 have hl := valid_len hb
 intro d
 induction d with
 | zero => intro j fl7 h h7; exact Ev.step (fun k => by rw [laws_FnIdleLaws.l1, if_neg (by omega)]) (e fl7 h7)
 | succ d ih =>
  intro j fl7 h h7
  have hj : (j : Int) < (b.length : Int) := by omega
  have w : wrap64 ((j : Int) + 1) = ((j + 1 : Nat) : Int) := by rw [wz (by omega) (by omega)]; omega
  cases fl7 with
  | true => exact Ev.step (fun k => by rw [laws_FnIdleLaws.l1, if_pos hj, if_pos rfl, w]) (ih (j + 1) true (by omega) h7)
  | false =>
   by_cases q : j = i
   ·exact Ev.step (fun k => by rw [laws_FnIdleLaws.l1, if_pos hj, if_neg (by decide), if_pos (by omega), w]) (ih (j + 1) false (by omega) (fun q => by cases q))
   ·have e1 := ih (j + 1) (SB (b.getD j z46) (b.getD i z46)) (by omega) (fun g => IdB_twice hi (by omega) q ((SB_iff _ _).1 g))
    refine Ev.step (fun k => ?_) e1
    rw [laws_FnIdleLaws.l1, if_pos hj, if_neg (by decide), if_neg (by omega), if_pos (by omega), if_pos (by omega), if_pos (by omega), w, rdT25, rdT25]
    rfl
theorem il_l5 (i : Nat) (hd : IdB b i = true) (s : Nat) (hs : s < 3) (e : Ev (fun k => laws_FnIdleLaws.l4 k b (IDL b) (b.eraseIdx i) true (wrap64 ((s : Int) + 1))) true) : ∀ (d f : Nat), f + d = 8 → Ev (fun k => laws_FnIdleLaws.l5 k b (IDL b) (b.eraseIdx i) true (s : Int) (f : Int)) true := by
 have hl := valid_len hb
 have hel := List.length_eraseIdx_le b i
 intro d
 induction d with
 | zero => intro f h; exact Ev.step (fun k => by rw [laws_FnIdleLaws.l5, if_neg (by omega)]) e
 | succ d ih =>
  intro f h
  have hf : (f : Int) < 8 := by omega
  have w : wrap64 ((f : Int) + 1) = ((f + 1 : Nat) : Int) := by rw [wz (by omega) (by omega)]; omega
  have ok := OkC_of hb hs (show f < 8 by omega)
  have ok2 := OkC_of (valid_erase hb i) hs (show f < 8 by omega)
  have s1 := impl_SaysOf_ev (b.eraseIdx i) (by omega) (s : Int) (f : Int)
  have s2 := impl_SaysOf_ev b (by omega) (s : Int) (f : Int)
  have o1 := ok
  have o2 := ok2
  unfold OkC at o1 o2
  rw [if_pos o2, SY_eq _ _ _ ok2, ← (IdB_iff b i).1 hd s f hs (by omega)] at s1
  rw [if_pos o1, SY_eq _ _ _ ok] at s2
  refine Ev.step (f := fun k => (impl_SaysOf.f k (b.eraseIdx i) (s : Int) (f : Int)).bind _) (fun k => by rw [laws_FnIdleLaws.l5, if_pos hf, if_pos rfl, w]) (Ev.bind s1 (Ev.bind s2 ?_))
  simp only [if_true]
  exact ih (f + 1) (by omega)
theorem il_l4 (i : Nat) (hd : IdB b i = true) : ∀ (d s : Nat), s + d = 3 → Ev (fun k => laws_FnIdleLaws.l4 k b (IDL b) (b.eraseIdx i) true (s : Int)) true := by
 have hl := valid_len hb
 have hil := IDL_len b
 intro d
 induction d with
 | zero =>
  intro s h
  refine Ev.step (f := fun k => (laws_ascend.f k (IDL b)).bind _) (fun k => by rw [laws_FnIdleLaws.l4, if_neg (by omega)]) (Ev.bind (ascend_ev (IDL b) (by omega) (IDL_pair b)) ?_)
  simp only [if_true, alive_eq, Option.bind_some]
  exact Ev.now _
 | succ d ih =>
  intro s h
  have w : wrap64 ((s : Int) + 1) = ((s + 1 : Nat) : Int) := by rw [wz (by omega) (by omega)]; omega
  refine Ev.step (fun k => by rw [laws_FnIdleLaws.l4, if_pos (by omega)]; rfl) (il_l5 b hb i hd s (by omega) (by rw [w]; exact ih (s + 1) (by omega)) 8 0 (by omega))
theorem il_l0 : ∀ (d i : Nat), i + d = b.length → Ev (fun k => laws_FnIdleLaws.l0 k b (IDL b) (i : Int)) true := by
 have hl := valid_len hb
 have hil := IDL_len b
 intro d
 induction d with
 | zero =>
  intro i h
  have hi : ¬ (i : Int) < (b.length : Int) := by omega
  by_cases g : ((IDL b).length : Int) > 0
  ·obtain ⟨n, hn⟩ : ∃ n, n = rd (IDL b) ((0 : Nat) : Int) := ⟨_, rfl⟩
   have hm : n ∈ IDL b := by
    rw [hn, rdn, List.getD_eq_getElem?_getD, List.getElem?_eq_getElem (show 0 < (IDL b).length by omega)]
    exact List.getElem_mem _
   obtain ⟨j, h1, h2, h3⟩ := (IDL_mem hb n).1 hm
   have hw : WL b n = (b.eraseIdx j, true) := by
    unfold WL
    rw [h2, if_pos (by rw [hb, decide_eq_true ⟨by omega, by omega⟩]; rfl), Int.toNat_natCast]
   have e := impl_WithoutLaw_ev b (by omega) n
   rw [hw, hn] at e
   refine Ev.step (f := fun k => (impl_WithoutLaw.f k b (rd (IDL b) ((0 : Nat) : Int))).bind _) (fun k => by rw [laws_FnIdleLaws.l0, if_neg hi, if_pos g, if_pos (by omega)]; rfl) (Ev.bind e ?_)
   exact il_l4 b hb j h3 3 0 rfl
  ·refine Ev.step (f := fun k => (laws_ascend.f k (IDL b)).bind _) (fun k => by rw [laws_FnIdleLaws.l0, if_neg hi, if_neg g]) (Ev.bind (ascend_ev (IDL b) (by omega) (IDL_pair b)) ?_)
   simp only [if_true, alive_eq, Option.bind_some]
   exact Ev.now _
 | succ d ih =>
  intro i h
  have w : wrap64 ((i : Int) + 1) = ((i + 1 : Nat) : Int) := by rw [wz (by omega) (by omega)]; omega
  have e := ih (i + 1) (by omega)
  refine Ev.step (fun k => by rw [laws_FnIdleLaws.l0, if_pos (by omega)]; rfl) (il_l1 b hb i (by omega) (fun fl7 h7 => il_l2 b hb i (by omega) fl7 h7 (by rw [w]; exact e) 3 0 true rfl (fun _ s' f' h1 => by omega)) b.length 0 false (by omega) (fun q => by cases q))
end
theorem FnIdleLaws : laws_FnIdleLaws.Pure := by
 intro l _ _ hs
 refine Ev.rounds ?_
 unfold laws_FnIdleLaws.f
 by_cases h : (l.length : Int) > 1048576
 ·simp only [if_pos h]
  exact Ev.now _
 simp only [if_neg h]
 obtain ⟨sd, e, hs', hl⟩ := open_some hs
 obtain ⟨b, q, ec, hb, q0, q1⟩ := book_ev hs' hl 0 9 (by decide) (by decide)
 have e3 : Ev (fun k => spec_DrawIdleLaws.f k l) b := by
  unfold spec_DrawIdleLaws.f
  simp only [e, Option.bind_some]
  exact Ev.bind ec (Ev.now _)
 have hil := IDL_len b
 refine Ev.bind e3 (Ev.bind (impl_IdleLaws_ev b (by omega)) (Ev.bind (spec_IdleLaws_ev b (by omega)) (Ev.bind (sameIntsD_ev (IDL b) (IDL b) (by omega)) ?_)))
 simp only [decide_true, if_true]
 refine Ev.bind (spec_BookOk_ev b (by omega)) ?_
 cases hv : (b.all LB && decide ((b.length : Int) ≤ 6)) with
 | true => simp only [if_true]; exact il_l0 b hv b.length 0 (by omega)
 | false =>
  have hd : IDL b = [] := by unfold IDL; rw [if_neg (by rw [hv]; decide)]
  rw [hd]
  simp only [Bool.false_eq_true, if_false, List.length_nil, Int.natCast_zero, if_true, alive_eq, Option.bind_some]
  exact Ev.now _

end Go.Proofs.Ytnandbgcejkonaa.Pure
