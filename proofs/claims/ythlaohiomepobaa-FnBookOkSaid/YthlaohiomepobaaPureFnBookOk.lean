/- The law FnBookOk is true: for every code the program's BookOk and the reference's answer alike at the drawn book; no laws are a book, and so is a book without its last law. Conditions: none. -/
import Derived.Test.YthlaohiomepobaaQFnBookOkx3
namespace Go.Proofs.Ythlaohiomepobaa.Pure
open Go.RowKit Go.Proofs.Ythlaohiomepobaa.QFnBookOk Go.Proofs.YthlaohiomepobaaW.PrintWords Go.Proofs.YthlaohiomepobaaW.PrintLast
set_option linter.unusedVariables false
set_option linter.unusedSimpArgs false

theorem w64 {x : Int} (h0 : -9223372036854775808 ≤ x) (h1 : x ≤ 9223372036854775807) : wrap64 x = x := by unfold wrap64; omega

theorem xor_nn {a b : Int} (ha : 0 ≤ a) (ha1 : a < 9223372036854775808) (hb : 0 ≤ b) (hb1 : b < 9223372036854775808) : 0 ≤ Go.bits .xor .i64 a b := by
  obtain ⟨m, rfl⟩ := Int.eq_ofNat_of_zero_le ha
  obtain ⟨n, rfl⟩ := Int.eq_ofNat_of_zero_le hb
  have hm : m < 2 ^ 63 := by omega
  have hn : n < 2 ^ 63 := by omega
  have hx := Nat.xor_lt_two_pow hm hn
  simp only [Go.bits, BitVec.ofInt_natCast, BitVec.toNat_xor, BitVec.toNat_ofNat]
  have e1 : m % 2 ^ IntKind.i64.bits = m := Nat.mod_eq_of_lt (by simp only [IntKind.bits]; omega)
  have e2 : n % 2 ^ IntKind.i64.bits = n := Nat.mod_eq_of_lt (by simp only [IntKind.bits]; omega)
  rw [e1, e2, IntKind.wrap_i64]
  omega

theorem rd_range {s : List Int} (hs : ∀ x ∈ s, (Lit.int .u8 x).wf = true) (i : Int) : 0 ≤ rd s i ∧ rd s i ≤ 255 := by
  unfold rd
  by_cases h : i.toNat < s.length
  · have := hs _ (List.getElem_mem h)
    rw [List.getD_eq_getElem?_getD, List.getElem?_eq_getElem h]
    simp [Lit.wf, IntKind.min, IntKind.max, IntKind.bits, IntKind.signed] at this
    simp
    omega
  · rw [List.getD_eq_getElem?_getD, List.getElem?_eq_none (by omega)]
    simp
theorem tmod_range {a n : Int} (ha : 0 ≤ a) (hn : 0 < n) : 0 ≤ Int.tmod a n ∧ Int.tmod a n < n := by
  rw [Int.tmod_eq_emod_of_nonneg ha]
  exact ⟨Int.emod_nonneg _ (by omega), Int.emod_lt_of_pos _ hn⟩
theorem tdiv_range {a n : Int} (ha : 0 ≤ a) (hn : 0 < n) : 0 ≤ Int.tdiv a n ∧ Int.tdiv a n ≤ a := by
  rw [Int.tdiv_eq_ediv_of_nonneg ha]
  exact ⟨Int.ediv_nonneg ha (by omega), Int.ediv_le_self _ ha⟩

theorem pick_some {s : List Int} (hs : ∀ x ∈ s, (Lit.int .u8 x).wf = true) (hl : s.length ≤ 2000) (p n : Int) (hp0 : 0 ≤ p) (hp : p ≤ 1000000) (k : Nat) (hk : 0 < k) :
    ∃ r, spec_l20Rd_pick.f k s p n = some (r, p + 1) ∧ 0 ≤ r ∧ (0 < n → r < n) ∧ (n ≤ 0 → r = 0) := by
  obtain ⟨k, rfl⟩ : ∃ m, k = m + 1 := ⟨k - 1, by omega⟩
  have e1 : wrap64 (p + 1) = p + 1 := w64 (by omega) (by omega)
  have e2 : wrap64 (p + 1 - 1) = p := by rw [Int.add_sub_cancel]; exact w64 (by omega) (by omega)
  unfold spec_l20Rd_pick.f
  by_cases hn : n < 1
  · rw [if_pos hn]
    refine ⟨0, ?_, Int.le_refl 0, fun h => by omega, fun _ => rfl⟩
    simp only [spec_l20Rd_pick.j0, e1, if_true]
  rw [if_neg hn]
  by_cases h0 : s.length = 0
  · have : ((s.length : Int) == 0) = true := by rw [h0]; rfl
    refine ⟨0, ?_, Int.le_refl 0, fun h => h, fun _ => rfl⟩
    rw [this]
    simp only [spec_l20Rd_pick.j0, e1, if_true]
  have hb : ((s.length : Int) == 0) = false := by simp; intro h; rw [h] at h0; exact h0 rfl
  rw [hb]
  simp only [spec_l20Rd_pick.j0, e1, e2]
  rw [if_neg (by decide)]
  have hn0 : ¬ n = 0 := by omega
  by_cases hlt : p < (s.length : Int)
  · rw [if_pos hlt, if_pos hp0, if_neg hn0]
    have hr := rd_range hs p
    have e3 : wrap64 (rd s p) = rd s p := w64 (by omega) (by omega)
    rw [e3]
    have := tmod_range hr.1 (show 0 < n by omega)
    exact ⟨_, rfl, this.1, fun _ => this.2, fun h => by omega⟩
  rw [if_neg hlt, if_neg (show ¬ (s.length : Int) = 0 by omega)]
  have hL : 0 < (s.length : Int) := by omega
  have t1 := tmod_range hp0 hL
  have f1 : wrap64 (p * 7) = p * 7 := w64 (by omega) (by omega)
  have f2 : wrap64 (p * 7 + 3) = p * 7 + 3 := w64 (by omega) (by omega)
  have t2 := tmod_range (show 0 ≤ p * 7 + 3 by omega) hL
  rw [f1, f2]
  rw [if_pos t1.1, if_pos t1.2, if_pos t2.1, if_pos t2.2, if_neg hn0]
  have r1 := rd_range hs (Int.tmod p s.length)
  have r2 := rd_range hs (Int.tmod (p * 7 + 3) s.length)
  generalize rd s (Int.tmod p s.length) = x at r1 ⊢
  generalize rd s (Int.tmod (p * 7 + 3) s.length) = y at r2 ⊢
  have d1 := tdiv_range hp0 hL
  generalize Int.tdiv p s.length = q at d1 ⊢
  rw [show wrap64 x = x from w64 (by omega) (by omega), show wrap64 y = y from w64 (by omega) (by omega)]
  rw [show wrap64 (x * 131) = x * 131 from w64 (by omega) (by omega), show wrap64 (y * 1117) = y * 1117 from w64 (by omega) (by omega), show wrap64 (p * 29) = p * 29 from w64 (by omega) (by omega), show wrap64 q = q from w64 (by omega) (by omega)]
  rw [show wrap64 (q * 53) = q * 53 from w64 (by omega) (by omega), show wrap64 (x * 131 + y * 1117) = x * 131 + y * 1117 from w64 (by omega) (by omega)]
  rw [show wrap64 (x * 131 + y * 1117 + p * 29) = x * 131 + y * 1117 + p * 29 from w64 (by omega) (by omega)]
  rw [show wrap64 (x * 131 + y * 1117 + p * 29 + q * 53) = x * 131 + y * 1117 + p * 29 + q * 53 from w64 (by omega) (by omega)]
  have hz : 0 ≤ x * 131 + y * 1117 + p * 29 + q * 53 ∧ x * 131 + y * 1117 + p * 29 + q * 53 < 1000000000 := by omega
  generalize x * 131 + y * 1117 + p * 29 + q * 53 = z at hz ⊢
  have d2 := tdiv_range hz.1 (show (0 : Int) < 64 by decide)
  rw [show wrap64 (Int.tdiv z 64) = Int.tdiv z 64 from w64 (by omega) (by omega)]
  have hx := xor_nn hz.1 (by omega) d2.1 (by omega)
  have := tmod_range hx (show 0 < n by omega)
  exact ⟨_, rfl, this.1, fun _ => this.2, fun h => by omega⟩

theorem odd_some {s : List Int} (hs : ∀ x ∈ s, (Lit.int .u8 x).wf = true) (hl : s.length ≤ 2000) (p n : Int) (hp0 : 0 ≤ p) (hp : p ≤ 1000000) (k : Nat) (hk : 0 < k) :
    ∃ b q, spec_l20Rd_odd.f k s p n = some (b, q) ∧ p ≤ q ∧ q ≤ p + 1 ∧ (n ≤ 0 → b = false) := by
  unfold spec_l20Rd_odd.f
  by_cases h : n > 0
  · rw [if_pos h]
    obtain ⟨r, e, _⟩ := pick_some hs hl p n hp0 hp k hk
    rw [e]
    exact ⟨_, _, rfl, by show p ≤ p + 1; omega, Int.le_refl _, by omega⟩
  · rw [if_neg h]
    exact ⟨_, _, rfl, by omega, by omega, fun _ => rfl⟩

theorem open_some {l : List Int} (hs : ∀ x ∈ l, (Lit.int .u8 x).wf = true) : ∃ s, spec_l20Open.f l = some (s, 0) ∧ (∀ x ∈ s, (Lit.int .u8 x).wf = true) ∧ s.length ≤ 2000 := by
  unfold spec_l20Open.f
  by_cases h : (l.length : Int) > 2000
  · rw [if_pos h, if_pos (by omega)]
    exact ⟨_, rfl, fun x hx => hs x (List.mem_of_mem_take hx), by simp <;> omega⟩
  · rw [if_neg h]
    exact ⟨_, rfl, hs, by omega⟩

theorem law_some {s : List Int} (hs : ∀ x ∈ s, (Lit.int .u8 x).wf = true) (hl : s.length ≤ 2000) (p n : Int) (hp0 : 0 ≤ p) (hp : p ≤ 900000) (k : Nat) (hk : 0 < k) :
    ∃ a b c d y q, spec_l20Law.f k s p n = some (a, b, c, d, y, q) ∧ p ≤ q ∧ q ≤ p + 8 := by
  unfold spec_l20Law.f
  obtain ⟨r1, e1, _⟩ := pick_some hs hl p 3 hp0 (by omega) k hk
  obtain ⟨r2, e2, _⟩ := pick_some hs hl (p + 1) 8 (by omega) (by omega) k hk
  obtain ⟨r3, e3, _⟩ := pick_some hs hl (p + 1 + 1) 3 (by omega) (by omega) k hk
  obtain ⟨r4, e4, _⟩ := pick_some hs hl (p + 1 + 1 + 1) 4 (by omega) (by omega) k hk
  obtain ⟨r5, e5, _⟩ := pick_some hs hl (p + 1 + 1 + 1 + 1) 2 (by omega) (by omega) k hk
  obtain ⟨o, q, e6, hq1, hq2, _⟩ := odd_some hs hl (p + 1 + 1 + 1 + 1 + 1) n (by omega) (by omega) k hk
  obtain ⟨r7, e7, _⟩ := pick_some hs hl q 3 (by omega) (by omega) k hk
  obtain ⟨r8, e8, h8, h8', _⟩ := pick_some hs hl (q + 1) 2 (by omega) (by omega) k hk
  have h8 := h8' (by decide)
  simp only [e1, e2, e3, e4, e5, e6, Option.bind_some]
  cases o
  · exact ⟨_, _, _, _, _, _, rfl, by omega, by omega⟩
  · simp only [e7, Option.bind_some, if_true]
    by_cases h7 : r7 = 0
    · rw [if_pos h7]
      simp only [e8, Option.bind_some]
      rw [if_pos ‹0 ≤ r8›, if_pos (by simp <;> omega)]
      exact ⟨_, _, _, _, _, _, rfl, by omega, by omega⟩
    · rw [if_neg h7]
      by_cases h7 : r7 = 1
      · rw [if_pos h7]
        exact ⟨_, _, _, _, _, _, rfl, by omega, by omega⟩
      · rw [if_neg h7]
        exact ⟨_, _, _, _, _, _, rfl, by omega, by omega⟩

/-- A number that fits is not wrapped. -/
theorem wz {x : Int} (h0 : -9223372036854775808 ≤ x) (h1 : x ≤ 9223372036854775807) : wrap64 x = x := by unfold wrap64; omega
theorem wsucc {i n : Nat} (h : i < n) (hn : n ≤ 9223372036854775807) : wrap64 ((i : Int) + 1) = ((i + 1 : Nat) : Int) := by rw [wz (by omega) (by omega)]; omega
/-- What stands from place i on is empty, or begins with element i. -/
theorem dnil {α : Type} {xs : List α} {i : Nat} (h : xs.drop i = []) : ¬ ((i : Int) < (xs.length : Int)) := by
  have := List.drop_eq_nil_iff.1 h
  omega
theorem dcons {α : Type} {xs : List α} {i : Nat} {y : α} {ys : List α} (h : xs.drop i = y :: ys) : i < xs.length ∧ (∀ d, xs.getD i d = y) ∧ xs.drop (i + 1) = ys := by
  have hl : i < xs.length := by
    rcases Nat.lt_or_ge i xs.length with h1 | h1
    · exact h1
    · rw [List.drop_eq_nil_iff.2 h1] at h
      cases h
  have e := List.drop_eq_getElem_cons hl
  rw [h] at e
  injection e with e1 e2
  exact ⟨hl, fun d => by rw [List.getD_eq_getElem?_getD, List.getElem?_eq_getElem hl]; exact e1.symm, e2.symm⟩
theorem rdn (xs : List Int) (i : Nat) : rd xs (i : Int) = xs.getD i 0 := by simp [rd]
theorem set_mid {α β : Type} (l : List α) (c : α → β) (z : β) {i : Nat} {y : α} {ys : List α} (h : l.drop i = y :: ys) :
    ((l.take i).map c ++ List.replicate (l.length - i) z).set i (c y) = (l.take (i + 1)).map c ++ List.replicate (l.length - (i + 1)) z := by
  obtain ⟨h1, h2, h3⟩ := dcons h
  have ht : l.take (i + 1) = l.take i ++ [y] := by
    rw [List.take_succ_eq_append_getElem h1]
    have := h2 y
    rw [List.getD_eq_getElem?_getD, List.getElem?_eq_getElem h1] at this
    rw [show l[i] = y from by simpa using this]
  obtain ⟨m, hm⟩ : ∃ m, l.length - i = m + 1 := ⟨l.length - i - 1, by omega⟩
  have hm2 : l.length - (i + 1) = m := by omega
  have hlen : ((l.take i).map c).length = i := by simp <;> omega
  rw [hm, hm2, ht, List.replicate_succ, List.map_append, List.set_append_right _ _ (by omega), hlen, Nat.sub_self]
  simp
theorem Ev.to {α : Type} {g : Nat → Option α} {r s : α} (h : Ev g r) (e : r = s) : Ev g s := e ▸ h

theorem pick_ev {s : List Int} (hs : ∀ x ∈ s, (Lit.int .u8 x).wf = true) (hl : s.length ≤ 2000) (p n : Int) (hp0 : 0 ≤ p) (hp : p ≤ 1000000) :
    ∃ r, Ev (fun k => spec_l20Rd_pick.f k s p n) (r, p + 1) ∧ 0 ≤ r ∧ (0 < n → r < n) ∧ (n ≤ 0 → r = 0) := by
  obtain ⟨r, h, h1⟩ := pick_some hs hl p n hp0 hp 1 (by decide)
  exact ⟨r, Ev.of (fun k => spec_l20Rd_pick.mono _ _ _ k) h, h1⟩
theorem odd_ev {s : List Int} (hs : ∀ x ∈ s, (Lit.int .u8 x).wf = true) (hl : s.length ≤ 2000) (p n : Int) (hp0 : 0 ≤ p) (hp : p ≤ 1000000) :
    ∃ b q, Ev (fun k => spec_l20Rd_odd.f k s p n) (b, q) ∧ p ≤ q ∧ q ≤ p + 1 ∧ (n ≤ 0 → b = false) := by
  obtain ⟨b, q, h, h1⟩ := odd_some hs hl p n hp0 hp 1 (by decide)
  exact ⟨b, q, Ev.of (fun k => spec_l20Rd_odd.mono _ _ _ k) h, h1⟩

theorem law_ev {s : List Int} (hs : ∀ x ∈ s, (Lit.int .u8 x).wf = true) (hl : s.length ≤ 2000) (p n : Int) (hp0 : 0 ≤ p) (hp : p ≤ 900000) :
    ∃ a b c d y q, Ev (fun k => spec_l20Law.f k s p n) (a, b, c, d, y, q) ∧ p ≤ q ∧ q ≤ p + 8 := by
  obtain ⟨a, b, c, d, y, q, h, h1⟩ := law_some hs hl p n hp0 hp 1 (by decide)
  exact ⟨a, b, c, d, y, q, Ev.of (fun k => spec_l20Law.mono _ _ _ k) h, h1⟩

theorem book_l0 {s : List Int} (hs : ∀ x ∈ s, (Lit.int .u8 x).wf = true) (hl : s.length ≤ 2000) (x1 : Int) : ∀ (n : Nat) (xs : List S25) (p : Int), 0 ≤ p → p ≤ 800000 - 20 * n → xs.length ≤ 1000 - n → n ≤ 1000 →
    ∃ b q, Ev (fun k => spec_l20Book.l0 k x1 xs (n : Int) s p) (b, q) ∧ b.length ≤ xs.length + n + 3 ∧ p ≤ q ∧ q ≤ p + 20 * n + 2 := by
  intro n
  induction n with
  | zero =>
    intro xs p hp0 hp hxs _
    obtain ⟨o, q, e, h1, h2, _⟩ := odd_ev hs hl p x1 hp0 (by omega)
    cases o with
    | false =>
      refine ⟨xs, q, Ev.step (f := fun k => (spec_l20Rd_odd.f k s p x1).bind fun bt => (if bt.1 = true then ((some (([(⟨0, 0, 0, 0, false⟩ : S25), (⟨0, 0, 0, 0, false⟩ : S25), (⟨0, 0, 0, 0, false⟩ : S25)] : List (S25)) : List (S25))).bind fun y => (if xs.length + y.length < 3518437208883 then (some ((xs ++ y), bt.2)) else (none))) else (some (xs, bt.2)))) (fun k => by rw [spec_l20Book.l0, if_neg (by omega)]) (Ev.bind e (Ev.now _)), by omega, by omega, by omega⟩
    | true =>
      refine ⟨xs ++ [⟨0, 0, 0, 0, false⟩, ⟨0, 0, 0, 0, false⟩, ⟨0, 0, 0, 0, false⟩], q, Ev.step (f := fun k => (spec_l20Rd_odd.f k s p x1).bind fun bt => (if bt.1 = true then ((some (([(⟨0, 0, 0, 0, false⟩ : S25), (⟨0, 0, 0, 0, false⟩ : S25), (⟨0, 0, 0, 0, false⟩ : S25)] : List (S25)) : List (S25))).bind fun y => (if xs.length + y.length < 3518437208883 then (some ((xs ++ y), bt.2)) else (none))) else (some (xs, bt.2)))) (fun k => by rw [spec_l20Book.l0, if_neg (by omega)]) (Ev.bind e ?_), by simp, by omega, by omega⟩
      simp only [if_true, Option.bind_some]
      rw [if_pos (by simp <;> omega)]
      exact Ev.now _
  | succ n ih =>
    intro xs p hp0 hp hxs hn
    obtain ⟨a, b, c, d, y, q, e, h1, h2⟩ := law_ev hs hl p 0 hp0 (by omega)
    have hw : wrap64 (((n + 1 : Nat) : Int) - 1) = (n : Int) := by rw [wz (by omega) (by omega)]; omega
    have rest : ∀ (g : Bool) (q : Int), 0 ≤ q → q ≤ p + 9 → p ≤ q → (g = true → 0 < xs.length) → ∃ b2 q2, Ev (fun k => spec_l20Book.j1 k x1 xs ((n + 1 : Nat) : Int) g s q a b c d y) (b2, q2) ∧ b2.length ≤ xs.length + (n + 1) + 3 ∧ p ≤ q2 ∧ q2 ≤ p + 20 * ((n + 1 : Nat) : Int) + 2 := by
      intro g q hq0 hq hq1 hg
      cases g with
      | false =>
        obtain ⟨b2, q2, e2, h3, h4, h5⟩ := ih (xs ++ [⟨a, b, c, d, y⟩]) q hq0 (by omega) (by simp <;> omega) (by omega)
        refine ⟨b2, q2, Ev.step (f := fun k => spec_l20Book.l0 k x1 (xs ++ [⟨a, b, c, d, y⟩]) (n : Int) s q) (fun k => ?_) e2, by simp at h3; omega, by omega, by omega⟩
        rw [spec_l20Book.j1, if_neg (by decide), if_pos (by omega), hw]
      | true =>
        have hpos := hg rfl
        obtain ⟨r, e3, h6, h7, _⟩ := pick_ev hs hl q (xs.length : Int) hq0 (by omega)
        have h7 := h7 (by omega)
        obtain ⟨r2, e4, _⟩ := pick_ev hs hl (q + 1) 2 (by omega) (by omega)
        obtain ⟨b2, q2, e2, h3, h4, h5⟩ := ih (xs ++ [⟨(rd_T25 xs r).f0, (rd_T25 xs r).f1, (rd_T25 xs r).f2, (rd_T25 xs r).f3, (r2 == 0)⟩]) (q + 1 + 1) (by omega) (by omega) (by simp <;> omega) (by omega)
        refine ⟨b2, q2, Ev.step (f := fun k => (spec_l20Rd_pick.f k s q (xs.length : Int)).bind fun bt169 => (if 0 ≤ bt169.1 then (if bt169.1 < (xs.length : Int) then ((spec_l20Rd_pick.f k s bt169.2 2).bind fun bt172 => (if xs.length < 3518437208883 then (spec_l20Book.l0 k x1 (xs ++ [(⟨(rd_T25 xs bt169.1).f0, (rd_T25 xs bt169.1).f1, (rd_T25 xs bt169.1).f2, (rd_T25 xs bt169.1).f3, (bt172.1 == 0)⟩ : S25)]) (wrap64 (((n + 1 : Nat) : Int) - 1)) s bt172.2) else (none))) else (none)) else (none))) (fun k => by rw [spec_l20Book.j1, if_pos rfl]) (Ev.bind e3 ?_), by simp at h3; omega, by omega, by omega⟩
        simp only [if_pos h6, if_pos h7]
        refine Ev.bind e4 ?_
        simp only [if_pos (show xs.length < 3518437208883 by omega), hw]
        exact e2
    by_cases hx : (xs.length : Int) > 0
    · obtain ⟨r, e3, h6, h7, _⟩ := pick_ev hs hl q 4 (by omega) (by omega)
      obtain ⟨b2, q2, e2, h3, h4, h5⟩ := rest (r == 0) (q + 1) (by omega) (by omega) (by omega) (fun _ => by omega)
      refine ⟨b2, q2, Ev.step (f := fun k => (spec_l20Law.f k s p 0).bind fun bt160 => ((spec_l20Rd_pick.f k s bt160.2.2.2.2.2 4).bind fun bt167 => (spec_l20Book.j1 k x1 xs ((n + 1 : Nat) : Int) (bt167.1 == 0) s bt167.2 bt160.1 bt160.2.1 bt160.2.2.1 bt160.2.2.2.1 bt160.2.2.2.2.1))) (fun k => ?_) (Ev.bind e (Ev.bind e3 e2)), by omega, by omega, by omega⟩
      rw [spec_l20Book.l0, if_pos (by omega)]
      simp only [if_pos hx]
    · obtain ⟨b2, q2, e2, h3, h4, h5⟩ := rest false q (by omega) (by omega) (by omega) (fun h => by cases h)
      refine ⟨b2, q2, Ev.step (f := fun k => (spec_l20Law.f k s p 0).bind fun bt160 => (spec_l20Book.j1 k x1 xs ((n + 1 : Nat) : Int) false s bt160.2.2.2.2.2 bt160.1 bt160.2.1 bt160.2.2.1 bt160.2.2.2.1 bt160.2.2.2.2.1)) (fun k => ?_) (Ev.bind e e2), by omega, by omega, by omega⟩
      rw [spec_l20Book.l0, if_pos (by omega)]
      simp only [if_neg hx]
theorem book_ev {s : List Int} (hs : ∀ x ∈ s, (Lit.int .u8 x).wf = true) (hl : s.length ≤ 2000) (p n : Int) (hp0 : 0 ≤ p) (hp : p ≤ 700000) :
    ∃ b q, Ev (fun k => spec_l20Book.f k s p n) (b, q) ∧ b.length ≤ 10 ∧ p ≤ q ∧ q ≤ p + 200 := by
  obtain ⟨r, e, h0, h1, _⟩ := pick_ev hs hl p 7 hp0 (by omega)
  have h1 := h1 (by decide)
  obtain ⟨m, rfl⟩ := Int.eq_ofNat_of_zero_le h0
  obtain ⟨b, q, e2, h2, h3, h4⟩ := book_l0 hs hl n m [] (p + 1) (by omega) (by omega) (by simp <;> omega) (by omega)
  refine ⟨b, q, ?_, by simp at h2; omega, by omega, by omega⟩
  unfold spec_l20Book.f
  exact Ev.bind e e2

/-- What a law's row must say to be one. -/
def LawB (a b c d : Int) : Bool := decide (0 ≤ a ∧ a < 3 ∧ 0 ≤ b ∧ b < 8 ∧ 1 ≤ c ∧ c ≤ 3 ∧ 0 ≤ d ∧ d ≤ 99)
theorem impl_isLaw_eq (a b c d : Int) (y : Bool) : impl_isLaw.f a b c d y = some (LawB a b c d) := by
  unfold impl_isLaw.f impl_isCase.f LawB
  by_cases h1 : a ≥ 0
  · by_cases h2 : a < 3
    · by_cases h3 : b ≥ 0
      · by_cases h4 : b < 8
        · by_cases h5 : c ≥ 1
          · by_cases h6 : c ≤ 3
            · by_cases h7 : d ≥ 0
              · by_cases h8 : d ≤ 99 <;> simp [h1, h2, h3, h4, h5, h6, h7, h8] <;> omega
              · simp [h1, h2, h3, h4, h5, h6, h7] <;> omega
            · simp [h1, h2, h3, h4, h5, h6] <;> omega
          · simp [h1, h2, h3, h4, h5] <;> omega
        · simp [h1, h2, h3, h4]
      · simp [h1, h2, h3] <;> omega
    · simp [h1, h2]
  · simp [h1] <;> omega
theorem l1In_eq (a b c : Int) : spec_l1In.f a b c = some (decide (b ≤ a ∧ a ≤ c)) := by
  unfold spec_l1In.f
  by_cases h : b ≤ a
  · simp [h]
  · simp [h]
theorem spec_LawOk_eq (a b c d : Int) (y : Bool) : spec_LawOk.f a b c d y = some (LawB a b c d) := by
  unfold spec_LawOk.f LawB
  simp only [l1In_eq, Option.bind_some]
  by_cases h1 : 0 ≤ a ∧ a ≤ 2
  · by_cases h2 : 0 ≤ b ∧ b ≤ 7
    · by_cases h3 : 1 ≤ c ∧ c ≤ 3
      · by_cases h4 : 0 ≤ d ∧ d ≤ 99 <;> simp [h1, h2, h3, h4] <;> omega
      · simp [h1, h2, h3] <;> omega
    · simp [h1, h2] <;> omega
  · simp [h1] <;> omega

def LB (x : S25) : Bool := LawB x.f0 x.f1 x.f2 x.f3
theorem rdT25 (xs : List S25) (i : Nat) : rd_T25 xs (i : Int) = xs.getD i z25 := by simp [rd_T25]
theorem spec_BookOk_l0 (xs : List S25) (hn : xs.length ≤ 9223372036854775807) : ∀ (ys : List S25) (i : Nat), xs.drop i = ys → Ev (fun k => spec_BookOk.l0 k xs (i : Int)) (ys.all LB && decide ((xs.length : Int) ≤ 6)) := by
  intro ys
  induction ys with
  | nil =>
    intro i h
    refine Ev.step (f := fun _ => some (decide ((xs.length : Int) ≤ 6))) (fun k => by rw [spec_BookOk.l0, if_neg (dnil h)]) (Ev.now _)
  | cons y ys ih =>
    intro i h
    obtain ⟨h1, h2, h3⟩ := dcons h
    have e := ih (i + 1) h3
    cases hy : LB y with
    | false =>
      refine Ev.step (f := fun _ => some false) (fun k => ?_) (Ev.to (Ev.now _) (by simp [hy]))
      rw [spec_BookOk.l0, if_pos (by omega), if_pos (by omega), rdT25, h2, spec_LawOk_eq]
      simp only [Option.bind_some]
      rw [if_neg (by rw [show LawB y.f0 y.f1 y.f2 y.f3 = false from hy]; decide)]
    | true =>
      refine Ev.step (f := fun k => spec_BookOk.l0 k xs ((i + 1 : Nat) : Int)) (fun k => ?_) (Ev.to e (by simp [hy]))
      rw [spec_BookOk.l0, if_pos (by omega), if_pos (by omega), rdT25, h2, spec_LawOk_eq]
      simp only [Option.bind_some]
      rw [if_pos (show LawB y.f0 y.f1 y.f2 y.f3 = true from hy), wsucc h1 hn]
theorem spec_BookOk_ev (xs : List S25) (hn : xs.length ≤ 9223372036854775807) : Ev (fun k => spec_BookOk.f k xs) (xs.all LB && decide ((xs.length : Int) ≤ 6)) := by
  have := spec_BookOk_l0 xs hn xs 0 rfl
  exact this
theorem isBook_1_eq (x : S25) : impl_isBook_1.f x.f0 x.f1 x.f2 x.f3 x.f4 = some (!LB x) := by
  unfold impl_isBook_1.f
  rw [impl_isLaw_eq]; rfl
/-- The first place whose element meets p, told from place i on; -1 for none. -/
def firstAt {α : Type} (p : α → Bool) : List α → Nat → Int
  | [], _ => -1
  | y :: ys, i => if p y then (i : Int) else firstAt p ys (i + 1)
theorem firstAt_any {α : Type} (p : α → Bool) : ∀ (ys : List α) (i : Nat), decide (firstAt p ys i ≥ 0) = ys.any p := by
  intro ys
  induction ys with
  | nil => intro i; simp [firstAt]
  | cons y ys ih =>
    intro i
    unfold firstAt
    cases h : p y with
    | true => simp [h]
    | false => simp [h, ih]
theorem IndexFunc_w64_l0 (xs : List S25) (hn : xs.length ≤ 9223372036854775807) : ∀ (ys : List S25) (i : Nat), xs.drop i = ys → Ev (fun k => slices_IndexFunc_w64.l0 k xs (xs.length : Int) (i : Int)) (firstAt (fun y => !LB y) ys i) := by
  intro ys
  induction ys with
  | nil =>
    intro i h
    refine Ev.step (f := fun _ => some (-1)) (fun k => by rw [slices_IndexFunc_w64.l0, if_neg (dnil h)]) (Ev.now _)
  | cons y ys ih =>
    intro i h
    obtain ⟨h1, h2, h3⟩ := dcons h
    have e := ih (i + 1) h3
    cases hy : LB y with
    | false =>
      refine Ev.step (f := fun _ => some (i : Int)) (fun k => ?_) (Ev.to (Ev.now _) (by simp [firstAt, hy]))
      rw [slices_IndexFunc_w64.l0, if_pos (by omega), if_pos (by omega), if_pos (by omega), rdT25, h2, isBook_1_eq, hy]
      rfl
    | true =>
      refine Ev.step (f := fun k => slices_IndexFunc_w64.l0 k xs (xs.length : Int) ((i + 1 : Nat) : Int)) (fun k => ?_) (Ev.to e (by simp [firstAt, hy]))
      rw [slices_IndexFunc_w64.l0, if_pos (by omega), if_pos (by omega), if_pos (by omega), rdT25, h2, isBook_1_eq, hy, wsucc h1 hn]
      rfl
theorem impl_isBook_ev (xs : List S25) (hn : xs.length ≤ 9223372036854775807) : Ev (fun k => impl_isBook.f k xs) (xs.all LB && decide ((xs.length : Int) ≤ 6)) := by
  unfold impl_isBook.f
  by_cases h : (xs.length : Int) ≤ 6
  · simp only [if_pos h]
    have e : Ev (fun k => slices_IndexFunc_w64.f k xs) (firstAt (fun y => !LB y) xs 0) := IndexFunc_w64_l0 xs hn xs 0 rfl
    have e2 : Ev (fun k => slices_ContainsFunc_w64.f k xs) (xs.any fun y => !LB y) := by
      unfold slices_ContainsFunc_w64.f
      refine Ev.bind e (Ev.to (Ev.now _) (firstAt_any _ _ _))
    refine Ev.bind e2 (Ev.to (Ev.now _) ?_)
    simp [h, List.all_eq_not_any_not]
  · simp only [if_neg h]
    refine Ev.to (Ev.now _) ?_
    simp [h]

theorem alive_eq : laws_alive.f = some true := by decide +kernel

theorem FnBookOk : laws_FnBookOk.Pure := by
  intro l _ _ hs
  refine Ev.rounds ?_
  unfold laws_FnBookOk.f
  by_cases h : (l.length : Int) > 1048576
  · simp only [if_pos h]
    exact Ev.now _
  simp only [if_neg h]
  obtain ⟨s, e, hs', hl⟩ := open_some hs
  obtain ⟨b, q, e2, hb, _⟩ := book_ev hs' hl 0 3 (by decide) (by decide)
  have e3 : Ev (fun k => spec_DrawBookOk.f k l) b := by
    unfold spec_DrawBookOk.f
    simp only [e, Option.bind_some]
    exact Ev.bind e2 (Ev.now _)
  have im : ∀ xs : List S25, xs.length ≤ 100 → Ev (fun k => impl_BookOk.f k xs) (xs.all LB && decide ((xs.length : Int) ≤ 6)) := by
    intro xs hx
    unfold impl_BookOk.f
    exact Ev.bind (impl_isBook_ev xs (by omega)) (Ev.now _)
  refine Ev.bind e3 (Ev.bind (im b (by omega)) (Ev.bind (spec_BookOk_ev b (by omega)) ?_))
  simp only [bne_self_eq_false, Bool.false_eq_true, if_false]
  refine Ev.bind (im [] (by simp)) ?_
  simp only [List.all_nil, List.length_nil, alive_eq, Option.bind_some]
  simp only [show (true && decide (((0 : Nat) : Int) ≤ 6)) = true from by decide, if_true]
  cases hb2 : (b.all LB && decide ((b.length : Int) ≤ 6)) with
  | false => simp only [Bool.false_eq_true, if_false]; exact Ev.now _
  | true =>
    simp only [if_true]
    have hw : wrap64 ((b.length : Int) - 1) = (b.length : Int) - 1 := wz (by omega) (by omega)
    simp only [hw]
    by_cases h0 : (b.length : Int) - 1 < 0
    · simp only [if_pos h0]; exact Ev.now _
    · simp only [if_neg h0, if_pos (show 0 ≤ (b.length : Int) - 1 by omega), if_pos (show (b.length : Int) - 1 ≤ (b.length : Int) by omega)]
      refine Ev.bind (im _ (by simp <;> omega)) ?_
      suffices hq : (((b.take ((b.length : Int) - 1).toNat).all LB && decide (((b.take ((b.length : Int) - 1).toNat).length : Int) ≤ 6))) = true by
        simp only [hq, if_true]; exact Ev.now _
      · simp only [Bool.and_eq_true, List.all_eq_true, decide_eq_true_eq] at hb2 ⊢
        exact ⟨fun x hx => hb2.1 x (List.mem_of_mem_take hx), by simp <;> omega⟩

end Go.Proofs.Ythlaohiomepobaa.Pure
