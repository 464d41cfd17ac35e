/- The law FnUnbeatenOf is true: for every code the program's UnbeatenOf and the reference's answer alike at the drawn book and case; unbeaten laws beat none of each other, each other applying law is beaten by each of them, some is unbeaten if any applies, and from the last law to the first they are the same. Conditions: none. -/
import Derived.Test.YtlacdgmapojmlaaQFnUnbeatenOfx9
namespace Go.Proofs.Ytlacdgmapojmlaa.Pure
open Go.RowKit Go.Proofs.Ytlacdgmapojmlaa.QFnUnbeatenOf Go.Proofs.YtlacdgmapojmlaaW.PrintWords Go.Proofs.YtlacdgmapojmlaaW.PrintLast
set_option linter.unusedVariables false
set_option linter.unusedSimpArgs false

theorem w64 {x : Int} (h0 : -9223372036854775808 ≤ x) (h1 : x ≤ 9223372036854775807) : wrap64 x = x := by unfold wrap64; omega

theorem xor_nn {a b : Int} (ha : 0 ≤ a) (ha1 : a < 9223372036854775808) (hb : 0 ≤ b) (hb1 : b < 9223372036854775808) : 0 ≤ Go.bits .xor .i64 a b := by
  obtain ⟨m, rfl⟩ := Int.eq_ofNat_of_zero_le ha
  obtain ⟨n, rfl⟩ := Int.eq_ofNat_of_zero_le hb
  have hm : m < 2 ^ 63 := by omega
  have hn : n < 2 ^ 63 := by omega
  have hx := Nat.xor_lt_two_pow hm hn
  simp only [Go.bits, BitVec.ofInt_natCast, BitVec.toNat_xor, BitVec.toNat_ofNat]
  have e1 : m % 2 ^ IntKind.i64.bits = m := Nat.mod_eq_of_lt (by simp only [IntKind.bits]; omega)
  have e2 : n % 2 ^ IntKind.i64.bits = n := Nat.mod_eq_of_lt (by simp only [IntKind.bits]; omega)
  rw [e1, e2, IntKind.wrap_i64]
  omega

theorem rd_range {s : List Int} (hs : ∀ x ∈ s, (Lit.int .u8 x).wf = true) (i : Int) : 0 ≤ rd s i ∧ rd s i ≤ 255 := by
  unfold rd
  by_cases h : i.toNat < s.length
  · have := hs _ (List.getElem_mem h)
    rw [List.getD_eq_getElem?_getD, List.getElem?_eq_getElem h]
    simp [Lit.wf, IntKind.min, IntKind.max, IntKind.bits, IntKind.signed] at this
    simp
    omega
  · rw [List.getD_eq_getElem?_getD, List.getElem?_eq_none (by omega)]
    simp
theorem tmod_range {a n : Int} (ha : 0 ≤ a) (hn : 0 < n) : 0 ≤ Int.tmod a n ∧ Int.tmod a n < n := by
  rw [Int.tmod_eq_emod_of_nonneg ha]
  exact ⟨Int.emod_nonneg _ (by omega), Int.emod_lt_of_pos _ hn⟩
theorem tdiv_range {a n : Int} (ha : 0 ≤ a) (hn : 0 < n) : 0 ≤ Int.tdiv a n ∧ Int.tdiv a n ≤ a := by
  rw [Int.tdiv_eq_ediv_of_nonneg ha]
  exact ⟨Int.ediv_nonneg ha (by omega), Int.ediv_le_self _ ha⟩

theorem pick_some {s : List Int} (hs : ∀ x ∈ s, (Lit.int .u8 x).wf = true) (hl : s.length ≤ 2000) (p n : Int) (hp0 : 0 ≤ p) (hp : p ≤ 1000000) (k : Nat) (hk : 0 < k) :
    ∃ r, spec_l20Rd_pick.f k s p n = some (r, p + 1) ∧ 0 ≤ r ∧ (0 < n → r < n) ∧ (n ≤ 0 → r = 0) := by
  obtain ⟨k, rfl⟩ : ∃ m, k = m + 1 := ⟨k - 1, by omega⟩
  have e1 : wrap64 (p + 1) = p + 1 := w64 (by omega) (by omega)
  have e2 : wrap64 (p + 1 - 1) = p := by rw [Int.add_sub_cancel]; exact w64 (by omega) (by omega)
  unfold spec_l20Rd_pick.f
  by_cases hn : n < 1
  · rw [if_pos hn]
    refine ⟨0, ?_, Int.le_refl 0, fun h => by omega, fun _ => rfl⟩
    simp only [spec_l20Rd_pick.j0, e1, if_true]
  rw [if_neg hn]
  by_cases h0 : s.length = 0
  · have : ((s.length : Int) == 0) = true := by rw [h0]; rfl
    refine ⟨0, ?_, Int.le_refl 0, fun h => h, fun _ => rfl⟩
    rw [this]
    simp only [spec_l20Rd_pick.j0, e1, if_true]
  have hb : ((s.length : Int) == 0) = false := by simp; intro h; rw [h] at h0; exact h0 rfl
  rw [hb]
  simp only [spec_l20Rd_pick.j0, e1, e2]
  rw [if_neg (by decide)]
  have hn0 : ¬ n = 0 := by omega
  by_cases hlt : p < (s.length : Int)
  · rw [if_pos hlt, if_pos hp0, if_neg hn0]
    have hr := rd_range hs p
    have e3 : wrap64 (rd s p) = rd s p := w64 (by omega) (by omega)
    rw [e3]
    have := tmod_range hr.1 (show 0 < n by omega)
    exact ⟨_, rfl, this.1, fun _ => this.2, fun h => by omega⟩
  rw [if_neg hlt, if_neg (show ¬ (s.length : Int) = 0 by omega)]
  have hL : 0 < (s.length : Int) := by omega
  have t1 := tmod_range hp0 hL
  have f1 : wrap64 (p * 7) = p * 7 := w64 (by omega) (by omega)
  have f2 : wrap64 (p * 7 + 3) = p * 7 + 3 := w64 (by omega) (by omega)
  have t2 := tmod_range (show 0 ≤ p * 7 + 3 by omega) hL
  rw [f1, f2]
  rw [if_pos t1.1, if_pos t1.2, if_pos t2.1, if_pos t2.2, if_neg hn0]
  have r1 := rd_range hs (Int.tmod p s.length)
  have r2 := rd_range hs (Int.tmod (p * 7 + 3) s.length)
  generalize rd s (Int.tmod p s.length) = x at r1 ⊢
  generalize rd s (Int.tmod (p * 7 + 3) s.length) = y at r2 ⊢
  have d1 := tdiv_range hp0 hL
  generalize Int.tdiv p s.length = q at d1 ⊢
  rw [show wrap64 x = x from w64 (by omega) (by omega), show wrap64 y = y from w64 (by omega) (by omega)]
  rw [show wrap64 (x * 131) = x * 131 from w64 (by omega) (by omega), show wrap64 (y * 1117) = y * 1117 from w64 (by omega) (by omega), show wrap64 (p * 29) = p * 29 from w64 (by omega) (by omega), show wrap64 q = q from w64 (by omega) (by omega)]
  rw [show wrap64 (q * 53) = q * 53 from w64 (by omega) (by omega), show wrap64 (x * 131 + y * 1117) = x * 131 + y * 1117 from w64 (by omega) (by omega)]
  rw [show wrap64 (x * 131 + y * 1117 + p * 29) = x * 131 + y * 1117 + p * 29 from w64 (by omega) (by omega)]
  rw [show wrap64 (x * 131 + y * 1117 + p * 29 + q * 53) = x * 131 + y * 1117 + p * 29 + q * 53 from w64 (by omega) (by omega)]
  have hz : 0 ≤ x * 131 + y * 1117 + p * 29 + q * 53 ∧ x * 131 + y * 1117 + p * 29 + q * 53 < 1000000000 := by omega
  generalize x * 131 + y * 1117 + p * 29 + q * 53 = z at hz ⊢
  have d2 := tdiv_range hz.1 (show (0 : Int) < 64 by decide)
  rw [show wrap64 (Int.tdiv z 64) = Int.tdiv z 64 from w64 (by omega) (by omega)]
  have hx := xor_nn hz.1 (by omega) d2.1 (by omega)
  have := tmod_range hx (show 0 < n by omega)
  exact ⟨_, rfl, this.1, fun _ => this.2, fun h => by omega⟩

theorem odd_some {s : List Int} (hs : ∀ x ∈ s, (Lit.int .u8 x).wf = true) (hl : s.length ≤ 2000) (p n : Int) (hp0 : 0 ≤ p) (hp : p ≤ 1000000) (k : Nat) (hk : 0 < k) :
    ∃ b q, spec_l20Rd_odd.f k s p n = some (b, q) ∧ p ≤ q ∧ q ≤ p + 1 ∧ (n ≤ 0 → b = false) := by
  unfold spec_l20Rd_odd.f
  by_cases h : n > 0
  · rw [if_pos h]
    obtain ⟨r, e, _⟩ := pick_some hs hl p n hp0 hp k hk
    rw [e]
    exact ⟨_, _, rfl, by show p ≤ p + 1; omega, Int.le_refl _, by omega⟩
  · rw [if_neg h]
    exact ⟨_, _, rfl, by omega, by omega, fun _ => rfl⟩

theorem open_some {l : List Int} (hs : ∀ x ∈ l, (Lit.int .u8 x).wf = true) : ∃ s, spec_l20Open.f l = some (s, 0) ∧ (∀ x ∈ s, (Lit.int .u8 x).wf = true) ∧ s.length ≤ 2000 := by
  unfold spec_l20Open.f
  by_cases h : (l.length : Int) > 2000
  · rw [if_pos h, if_pos (by omega)]
    exact ⟨_, rfl, fun x hx => hs x (List.mem_of_mem_take hx), by simp <;> omega⟩
  · rw [if_neg h]
    exact ⟨_, rfl, hs, by omega⟩

theorem law_some {s : List Int} (hs : ∀ x ∈ s, (Lit.int .u8 x).wf = true) (hl : s.length ≤ 2000) (p n : Int) (hp0 : 0 ≤ p) (hp : p ≤ 900000) (k : Nat) (hk : 0 < k) :
    ∃ a b c d y q, spec_l20Law.f k s p n = some (a, b, c, d, y, q) ∧ p ≤ q ∧ q ≤ p + 8 := by
  unfold spec_l20Law.f
  obtain ⟨r1, e1, _⟩ := pick_some hs hl p 3 hp0 (by omega) k hk
  obtain ⟨r2, e2, _⟩ := pick_some hs hl (p + 1) 8 (by omega) (by omega) k hk
  obtain ⟨r3, e3, _⟩ := pick_some hs hl (p + 1 + 1) 3 (by omega) (by omega) k hk
  obtain ⟨r4, e4, _⟩ := pick_some hs hl (p + 1 + 1 + 1) 4 (by omega) (by omega) k hk
  obtain ⟨r5, e5, _⟩ := pick_some hs hl (p + 1 + 1 + 1 + 1) 2 (by omega) (by omega) k hk
  obtain ⟨o, q, e6, hq1, hq2, _⟩ := odd_some hs hl (p + 1 + 1 + 1 + 1 + 1) n (by omega) (by omega) k hk
  obtain ⟨r7, e7, _⟩ := pick_some hs hl q 3 (by omega) (by omega) k hk
  obtain ⟨r8, e8, h8, h8', _⟩ := pick_some hs hl (q + 1) 2 (by omega) (by omega) k hk
  have h8 := h8' (by decide)
  simp only [e1, e2, e3, e4, e5, e6, Option.bind_some]
  cases o
  · exact ⟨_, _, _, _, _, _, rfl, by omega, by omega⟩
  · simp only [e7, Option.bind_some, if_true]
    by_cases h7 : r7 = 0
    · rw [if_pos h7]
      simp only [e8, Option.bind_some]
      rw [if_pos ‹0 ≤ r8›, if_pos (by simp <;> omega)]
      exact ⟨_, _, _, _, _, _, rfl, by omega, by omega⟩
    · rw [if_neg h7]
      by_cases h7 : r7 = 1
      · rw [if_pos h7]
        exact ⟨_, _, _, _, _, _, rfl, by omega, by omega⟩
      · rw [if_neg h7]
        exact ⟨_, _, _, _, _, _, rfl, by omega, by omega⟩

/-- A number that fits is not wrapped. -/
theorem wz {x : Int} (h0 : -9223372036854775808 ≤ x) (h1 : x ≤ 9223372036854775807) : wrap64 x = x := by unfold wrap64; omega
theorem wsucc {i n : Nat} (h : i < n) (hn : n ≤ 9223372036854775807) : wrap64 ((i : Int) + 1) = ((i + 1 : Nat) : Int) := by rw [wz (by omega) (by omega)]; omega
/-- What stands from place i on is empty, or begins with element i. -/
theorem dnil {α : Type} {xs : List α} {i : Nat} (h : xs.drop i = []) : ¬ ((i : Int) < (xs.length : Int)) := by
  have := List.drop_eq_nil_iff.1 h
  omega
theorem dcons {α : Type} {xs : List α} {i : Nat} {y : α} {ys : List α} (h : xs.drop i = y :: ys) : i < xs.length ∧ (∀ d, xs.getD i d = y) ∧ xs.drop (i + 1) = ys := by
  have hl : i < xs.length := by
    rcases Nat.lt_or_ge i xs.length with h1 | h1
    · exact h1
    · rw [List.drop_eq_nil_iff.2 h1] at h
      cases h
  have e := List.drop_eq_getElem_cons hl
  rw [h] at e
  injection e with e1 e2
  exact ⟨hl, fun d => by rw [List.getD_eq_getElem?_getD, List.getElem?_eq_getElem hl]; exact e1.symm, e2.symm⟩
theorem rdn (xs : List Int) (i : Nat) : rd xs (i : Int) = xs.getD i 0 := by simp [rd]
theorem set_mid {α β : Type} (l : List α) (c : α → β) (z : β) {i : Nat} {y : α} {ys : List α} (h : l.drop i = y :: ys) :
    ((l.take i).map c ++ List.replicate (l.length - i) z).set i (c y) = (l.take (i + 1)).map c ++ List.replicate (l.length - (i + 1)) z := by
  obtain ⟨h1, h2, h3⟩ := dcons h
  have ht : l.take (i + 1) = l.take i ++ [y] := by
    rw [List.take_succ_eq_append_getElem h1]
    have := h2 y
    rw [List.getD_eq_getElem?_getD, List.getElem?_eq_getElem h1] at this
    rw [show l[i] = y from by simpa using this]
  obtain ⟨m, hm⟩ : ∃ m, l.length - i = m + 1 := ⟨l.length - i - 1, by omega⟩
  have hm2 : l.length - (i + 1) = m := by omega
  have hlen : ((l.take i).map c).length = i := by simp <;> omega
  rw [hm, hm2, ht, List.replicate_succ, List.map_append, List.set_append_right _ _ (by omega), hlen, Nat.sub_self]
  simp
theorem Ev.to {α : Type} {g : Nat → Option α} {r s : α} (h : Ev g r) (e : r = s) : Ev g s := e ▸ h

theorem pick_ev {s : List Int} (hs : ∀ x ∈ s, (Lit.int .u8 x).wf = true) (hl : s.length ≤ 2000) (p n : Int) (hp0 : 0 ≤ p) (hp : p ≤ 1000000) :
    ∃ r, Ev (fun k => spec_l20Rd_pick.f k s p n) (r, p + 1) ∧ 0 ≤ r ∧ (0 < n → r < n) ∧ (n ≤ 0 → r = 0) := by
  obtain ⟨r, h, h1⟩ := pick_some hs hl p n hp0 hp 1 (by decide)
  exact ⟨r, Ev.of (fun k => spec_l20Rd_pick.mono _ _ _ k) h, h1⟩
theorem odd_ev {s : List Int} (hs : ∀ x ∈ s, (Lit.int .u8 x).wf = true) (hl : s.length ≤ 2000) (p n : Int) (hp0 : 0 ≤ p) (hp : p ≤ 1000000) :
    ∃ b q, Ev (fun k => spec_l20Rd_odd.f k s p n) (b, q) ∧ p ≤ q ∧ q ≤ p + 1 ∧ (n ≤ 0 → b = false) := by
  obtain ⟨b, q, h, h1⟩ := odd_some hs hl p n hp0 hp 1 (by decide)
  exact ⟨b, q, Ev.of (fun k => spec_l20Rd_odd.mono _ _ _ k) h, h1⟩

theorem law_ev {s : List Int} (hs : ∀ x ∈ s, (Lit.int .u8 x).wf = true) (hl : s.length ≤ 2000) (p n : Int) (hp0 : 0 ≤ p) (hp : p ≤ 900000) :
    ∃ a b c d y q, Ev (fun k => spec_l20Law.f k s p n) (a, b, c, d, y, q) ∧ p ≤ q ∧ q ≤ p + 8 := by
  obtain ⟨a, b, c, d, y, q, h, h1⟩ := law_some hs hl p n hp0 hp 1 (by decide)
  exact ⟨a, b, c, d, y, q, Ev.of (fun k => spec_l20Law.mono _ _ _ k) h, h1⟩

theorem book_l0 {s : List Int} (hs : ∀ x ∈ s, (Lit.int .u8 x).wf = true) (hl : s.length ≤ 2000) (x1 : Int) : ∀ (n : Nat) (xs : List S25) (p : Int), 0 ≤ p → p ≤ 800000 - 20 * n → xs.length ≤ 1000 - n → n ≤ 1000 →
    ∃ b q, Ev (fun k => spec_l20Book.l0 k x1 xs (n : Int) s p) (b, q) ∧ b.length ≤ xs.length + n + 3 ∧ p ≤ q ∧ q ≤ p + 20 * n + 2 := by
  intro n
  induction n with
  | zero =>
    intro xs p hp0 hp hxs _
    obtain ⟨o, q, e, h1, h2, _⟩ := odd_ev hs hl p x1 hp0 (by omega)
    cases o with
    | false =>
      refine ⟨xs, q, Ev.step (f := fun k => (spec_l20Rd_odd.f k s p x1).bind fun bt => (if bt.1 = true then ((some (([(⟨0, 0, 0, 0, false⟩ : S25), (⟨0, 0, 0, 0, false⟩ : S25), (⟨0, 0, 0, 0, false⟩ : S25)] : List (S25)) : List (S25))).bind fun y => (if xs.length + y.length < 3518437208883 then (some ((xs ++ y), bt.2)) else (none))) else (some (xs, bt.2)))) (fun k => by rw [spec_l20Book.l0, if_neg (by omega)]) (Ev.bind e (Ev.now _)), by omega, by omega, by omega⟩
    | true =>
      refine ⟨xs ++ [⟨0, 0, 0, 0, false⟩, ⟨0, 0, 0, 0, false⟩, ⟨0, 0, 0, 0, false⟩], q, Ev.step (f := fun k => (spec_l20Rd_odd.f k s p x1).bind fun bt => (if bt.1 = true then ((some (([(⟨0, 0, 0, 0, false⟩ : S25), (⟨0, 0, 0, 0, false⟩ : S25), (⟨0, 0, 0, 0, false⟩ : S25)] : List (S25)) : List (S25))).bind fun y => (if xs.length + y.length < 3518437208883 then (some ((xs ++ y), bt.2)) else (none))) else (some (xs, bt.2)))) (fun k => by rw [spec_l20Book.l0, if_neg (by omega)]) (Ev.bind e ?_), by simp, by omega, by omega⟩
      simp only [if_true, Option.bind_some]
      rw [if_pos (by simp <;> omega)]
      exact Ev.now _
  | succ n ih =>
    intro xs p hp0 hp hxs hn
    obtain ⟨a, b, c, d, y, q, e, h1, h2⟩ := law_ev hs hl p 0 hp0 (by omega)
    have hw : wrap64 (((n + 1 : Nat) : Int) - 1) = (n : Int) := by rw [wz (by omega) (by omega)]; omega
    have rest : ∀ (g : Bool) (q : Int), 0 ≤ q → q ≤ p + 9 → p ≤ q → (g = true → 0 < xs.length) → ∃ b2 q2, Ev (fun k => spec_l20Book.j1 k x1 xs ((n + 1 : Nat) : Int) g s q a b c d y) (b2, q2) ∧ b2.length ≤ xs.length + (n + 1) + 3 ∧ p ≤ q2 ∧ q2 ≤ p + 20 * ((n + 1 : Nat) : Int) + 2 := by
      intro g q hq0 hq hq1 hg
      cases g with
      | false =>
        obtain ⟨b2, q2, e2, h3, h4, h5⟩ := ih (xs ++ [⟨a, b, c, d, y⟩]) q hq0 (by omega) (by simp <;> omega) (by omega)
        refine ⟨b2, q2, Ev.step (f := fun k => spec_l20Book.l0 k x1 (xs ++ [⟨a, b, c, d, y⟩]) (n : Int) s q) (fun k => ?_) e2, by simp at h3; omega, by omega, by omega⟩
        rw [spec_l20Book.j1, if_neg (by decide), if_pos (by omega), hw]
      | true =>
        have hpos := hg rfl
        obtain ⟨r, e3, h6, h7, _⟩ := pick_ev hs hl q (xs.length : Int) hq0 (by omega)
        have h7 := h7 (by omega)
        obtain ⟨r2, e4, _⟩ := pick_ev hs hl (q + 1) 2 (by omega) (by omega)
        obtain ⟨b2, q2, e2, h3, h4, h5⟩ := ih (xs ++ [⟨(rd_T25 xs r).f0, (rd_T25 xs r).f1, (rd_T25 xs r).f2, (rd_T25 xs r).f3, (r2 == 0)⟩]) (q + 1 + 1) (by omega) (by omega) (by simp <;> omega) (by omega)
        refine ⟨b2, q2, Ev.step (f := fun k => (spec_l20Rd_pick.f k s q (xs.length : Int)).bind fun bt169 => (if 0 ≤ bt169.1 then (if bt169.1 < (xs.length : Int) then ((spec_l20Rd_pick.f k s bt169.2 2).bind fun bt172 => (if xs.length < 3518437208883 then (spec_l20Book.l0 k x1 (xs ++ [(⟨(rd_T25 xs bt169.1).f0, (rd_T25 xs bt169.1).f1, (rd_T25 xs bt169.1).f2, (rd_T25 xs bt169.1).f3, (bt172.1 == 0)⟩ : S25)]) (wrap64 (((n + 1 : Nat) : Int) - 1)) s bt172.2) else (none))) else (none)) else (none))) (fun k => by rw [spec_l20Book.j1, if_pos rfl]) (Ev.bind e3 ?_), by simp at h3; omega, by omega, by omega⟩
        simp only [if_pos h6, if_pos h7]
        refine Ev.bind e4 ?_
        simp only [if_pos (show xs.length < 3518437208883 by omega), hw]
        exact e2
    by_cases hx : (xs.length : Int) > 0
    · obtain ⟨r, e3, h6, h7, _⟩ := pick_ev hs hl q 4 (by omega) (by omega)
      obtain ⟨b2, q2, e2, h3, h4, h5⟩ := rest (r == 0) (q + 1) (by omega) (by omega) (by omega) (fun _ => by omega)
      refine ⟨b2, q2, Ev.step (f := fun k => (spec_l20Law.f k s p 0).bind fun bt160 => ((spec_l20Rd_pick.f k s bt160.2.2.2.2.2 4).bind fun bt167 => (spec_l20Book.j1 k x1 xs ((n + 1 : Nat) : Int) (bt167.1 == 0) s bt167.2 bt160.1 bt160.2.1 bt160.2.2.1 bt160.2.2.2.1 bt160.2.2.2.2.1))) (fun k => ?_) (Ev.bind e (Ev.bind e3 e2)), by omega, by omega, by omega⟩
      rw [spec_l20Book.l0, if_pos (by omega)]
      simp only [if_pos hx]
    · obtain ⟨b2, q2, e2, h3, h4, h5⟩ := rest false q (by omega) (by omega) (by omega) (fun h => by cases h)
      refine ⟨b2, q2, Ev.step (f := fun k => (spec_l20Law.f k s p 0).bind fun bt160 => (spec_l20Book.j1 k x1 xs ((n + 1 : Nat) : Int) false s bt160.2.2.2.2.2 bt160.1 bt160.2.1 bt160.2.2.1 bt160.2.2.2.1 bt160.2.2.2.2.1)) (fun k => ?_) (Ev.bind e e2), by omega, by omega, by omega⟩
      rw [spec_l20Book.l0, if_pos (by omega)]
      simp only [if_neg hx]
theorem book_ev {s : List Int} (hs : ∀ x ∈ s, (Lit.int .u8 x).wf = true) (hl : s.length ≤ 2000) (p n : Int) (hp0 : 0 ≤ p) (hp : p ≤ 700000) :
    ∃ b q, Ev (fun k => spec_l20Book.f k s p n) (b, q) ∧ b.length ≤ 10 ∧ p ≤ q ∧ q ≤ p + 200 := by
  obtain ⟨r, e, h0, h1, _⟩ := pick_ev hs hl p 7 hp0 (by omega)
  have h1 := h1 (by decide)
  obtain ⟨m, rfl⟩ := Int.eq_ofNat_of_zero_le h0
  obtain ⟨b, q, e2, h2, h3, h4⟩ := book_l0 hs hl n m [] (p + 1) (by omega) (by omega) (by simp <;> omega) (by omega)
  refine ⟨b, q, ?_, by simp at h2; omega, by omega, by omega⟩
  unfold spec_l20Book.f
  exact Ev.bind e e2

theorem cased_ev {s : List Int} (hs : ∀ x ∈ s, (Lit.int .u8 x).wf = true) (hl : s.length ≤ 2000) : ∃ b x y q, Ev (fun k => spec_l20Cased.f k s 0) (b, x, y, q) ∧ b.length ≤ 10 ∧ 0 ≤ q ∧ q ≤ 1000 := by
  obtain ⟨b, q, e1, hb, h1, h2⟩ := book_ev hs hl 0 14 (by decide) (by decide)
  obtain ⟨r1, p1, _⟩ := pick_ev hs hl q 3 (by omega) (by omega)
  obtain ⟨r2, p2, _⟩ := pick_ev hs hl (q + 1) 40 (by omega) (by omega)
  obtain ⟨r3, p3, _⟩ := pick_ev hs hl (q + 1 + 1) 8 (by omega) (by omega)
  obtain ⟨r4, p4, _⟩ := pick_ev hs hl (q + 1 + 1 + 1) 40 (by omega) (by omega)
  refine ⟨b, wrap64 ((wrap64 (Int.tdiv r1 2)) + (wrap64 ((wrap64 (Int.tdiv r2 39)) * 3))), wrap64 (r3 - (wrap64 ((wrap64 (Int.tdiv r4 39)) * 8))), q + 1 + 1 + 1 + 1, ?_, hb, by omega, by omega⟩
  unfold spec_l20Cased.f
  exact Ev.bind e1 (Ev.bind p1 (Ev.bind p2 (Ev.bind p3 (Ev.bind p4 (Ev.now _)))))

/-- What a law's row must say to be one. -/
def LawB (a b c d : Int) : Bool := decide (0 ≤ a ∧ a < 3 ∧ 0 ≤ b ∧ b < 8 ∧ 1 ≤ c ∧ c ≤ 3 ∧ 0 ≤ d ∧ d ≤ 99)
theorem impl_isLaw_eq (a b c d : Int) (y : Bool) : impl_isLaw.f a b c d y = some (LawB a b c d) := by
  unfold impl_isLaw.f impl_isCase.f LawB
  by_cases h1 : a ≥ 0
  · by_cases h2 : a < 3
    · by_cases h3 : b ≥ 0
      · by_cases h4 : b < 8
        · by_cases h5 : c ≥ 1
          · by_cases h6 : c ≤ 3
            · by_cases h7 : d ≥ 0
              · by_cases h8 : d ≤ 99 <;> simp [h1, h2, h3, h4, h5, h6, h7, h8] <;> omega
              · simp [h1, h2, h3, h4, h5, h6, h7] <;> omega
            · simp [h1, h2, h3, h4, h5, h6] <;> omega
          · simp [h1, h2, h3, h4, h5] <;> omega
        · simp [h1, h2, h3, h4]
      · simp [h1, h2, h3] <;> omega
    · simp [h1, h2]
  · simp [h1] <;> omega
theorem l1In_eq (a b c : Int) : spec_l1In.f a b c = some (decide (b ≤ a ∧ a ≤ c)) := by
  unfold spec_l1In.f
  by_cases h : b ≤ a
  · simp [h]
  · simp [h]
theorem spec_LawOk_eq (a b c d : Int) (y : Bool) : spec_LawOk.f a b c d y = some (LawB a b c d) := by
  unfold spec_LawOk.f LawB
  simp only [l1In_eq, Option.bind_some]
  by_cases h1 : 0 ≤ a ∧ a ≤ 2
  · by_cases h2 : 0 ≤ b ∧ b ≤ 7
    · by_cases h3 : 1 ≤ c ∧ c ≤ 3
      · by_cases h4 : 0 ≤ d ∧ d ≤ 99 <;> simp [h1, h2, h3, h4] <;> omega
      · simp [h1, h2, h3] <;> omega
    · simp [h1, h2] <;> omega
  · simp [h1] <;> omega

def LB (x : S25) : Bool := LawB x.f0 x.f1 x.f2 x.f3
theorem rdT25 (xs : List S25) (i : Nat) : rd_T25 xs (i : Int) = xs.getD i z25 := by simp [rd_T25]
theorem spec_BookOk_l0 (xs : List S25) (hn : xs.length ≤ 9223372036854775807) : ∀ (ys : List S25) (i : Nat), xs.drop i = ys → Ev (fun k => spec_BookOk.l0 k xs (i : Int)) (ys.all LB && decide ((xs.length : Int) ≤ 6)) := by
  intro ys
  induction ys with
  | nil =>
    intro i h
    refine Ev.step (f := fun _ => some (decide ((xs.length : Int) ≤ 6))) (fun k => by rw [spec_BookOk.l0, if_neg (dnil h)]) (Ev.now _)
  | cons y ys ih =>
    intro i h
    obtain ⟨h1, h2, h3⟩ := dcons h
    have e := ih (i + 1) h3
    cases hy : LB y with
    | false =>
      refine Ev.step (f := fun _ => some false) (fun k => ?_) (Ev.to (Ev.now _) (by simp [hy]))
      rw [spec_BookOk.l0, if_pos (by omega), if_pos (by omega), rdT25, h2, spec_LawOk_eq]
      simp only [Option.bind_some]
      rw [if_neg (by rw [show LawB y.f0 y.f1 y.f2 y.f3 = false from hy]; decide)]
    | true =>
      refine Ev.step (f := fun k => spec_BookOk.l0 k xs ((i + 1 : Nat) : Int)) (fun k => ?_) (Ev.to e (by simp [hy]))
      rw [spec_BookOk.l0, if_pos (by omega), if_pos (by omega), rdT25, h2, spec_LawOk_eq]
      simp only [Option.bind_some]
      rw [if_pos (show LawB y.f0 y.f1 y.f2 y.f3 = true from hy), wsucc h1 hn]
theorem spec_BookOk_ev (xs : List S25) (hn : xs.length ≤ 9223372036854775807) : Ev (fun k => spec_BookOk.f k xs) (xs.all LB && decide ((xs.length : Int) ≤ 6)) := by
  have := spec_BookOk_l0 xs hn xs 0 rfl
  exact this
theorem isBook_1_eq (x : S25) : impl_isBook_1.f x.f0 x.f1 x.f2 x.f3 x.f4 = some (!LB x) := by
  unfold impl_isBook_1.f
  rw [impl_isLaw_eq]; rfl
/-- The first place whose element meets p, told from place i on; -1 for none. -/
def firstAt {α : Type} (p : α → Bool) : List α → Nat → Int
  | [], _ => -1
  | y :: ys, i => if p y then (i : Int) else firstAt p ys (i + 1)
theorem firstAt_any {α : Type} (p : α → Bool) : ∀ (ys : List α) (i : Nat), decide (firstAt p ys i ≥ 0) = ys.any p := by
  intro ys
  induction ys with
  | nil => intro i; simp [firstAt]
  | cons y ys ih =>
    intro i
    unfold firstAt
    cases h : p y with
    | true => simp [h]
    | false => simp [h, ih]
theorem IndexFunc_w64_l0 (xs : List S25) (hn : xs.length ≤ 9223372036854775807) : ∀ (ys : List S25) (i : Nat), xs.drop i = ys → Ev (fun k => slices_IndexFunc_w64.l0 k xs (xs.length : Int) (i : Int)) (firstAt (fun y => !LB y) ys i) := by
  intro ys
  induction ys with
  | nil =>
    intro i h
    refine Ev.step (f := fun _ => some (-1)) (fun k => by rw [slices_IndexFunc_w64.l0, if_neg (dnil h)]) (Ev.now _)
  | cons y ys ih =>
    intro i h
    obtain ⟨h1, h2, h3⟩ := dcons h
    have e := ih (i + 1) h3
    cases hy : LB y with
    | false =>
      refine Ev.step (f := fun _ => some (i : Int)) (fun k => ?_) (Ev.to (Ev.now _) (by simp [firstAt, hy]))
      rw [slices_IndexFunc_w64.l0, if_pos (by omega), if_pos (by omega), if_pos (by omega), rdT25, h2, isBook_1_eq, hy]
      rfl
    | true =>
      refine Ev.step (f := fun k => slices_IndexFunc_w64.l0 k xs (xs.length : Int) ((i + 1 : Nat) : Int)) (fun k => ?_) (Ev.to e (by simp [firstAt, hy]))
      rw [slices_IndexFunc_w64.l0, if_pos (by omega), if_pos (by omega), if_pos (by omega), rdT25, h2, isBook_1_eq, hy, wsucc h1 hn]
      rfl
theorem impl_isBook_ev (xs : List S25) (hn : xs.length ≤ 9223372036854775807) : Ev (fun k => impl_isBook.f k xs) (xs.all LB && decide ((xs.length : Int) ≤ 6)) := by
  unfold impl_isBook.f
  by_cases h : (xs.length : Int) ≤ 6
  · simp only [if_pos h]
    have e : Ev (fun k => slices_IndexFunc_w64.f k xs) (firstAt (fun y => !LB y) xs 0) := IndexFunc_w64_l0 xs hn xs 0 rfl
    have e2 : Ev (fun k => slices_ContainsFunc_w64.f k xs) (xs.any fun y => !LB y) := by
      unfold slices_ContainsFunc_w64.f
      refine Ev.bind e (Ev.to (Ev.now _) (firstAt_any _ _ _))
    refine Ev.bind e2 (Ev.to (Ev.now _) ?_)
    simp [h, List.all_eq_not_any_not]
  · simp only [if_neg h]
    refine Ev.to (Ev.now _) ?_
    simp [h]

/-- How many of the first six bits are 1. -/
def Hd (a : Int) : Int := a % 2 + a / 2 % 2 + a / 4 % 2 + a / 8 % 2 + a / 16 % 2 + a / 32 % 2
theorem spec_heads_all : ∀ n : Fin 64, spec_l1Heads.f 8 (n.val : Int) = some (Hd (n.val : Int)) := by decide +kernel
theorem impl_heads_all : ∀ n : Fin 64, impl_headsOf.f (n.val : Int) = some (Hd (n.val : Int)) := by decide +kernel
theorem spec_heads {a : Int} (h0 : 0 ≤ a) (h1 : a < 64) {k : Nat} (hk : 8 ≤ k) : spec_l1Heads.f k a = some (Hd a) := by
  obtain ⟨n, rfl⟩ := Int.eq_ofNat_of_zero_le h0
  exact at_rounds (fun k => spec_l1Heads.mono _ k) hk (spec_heads_all ⟨n, by omega⟩)
theorem impl_heads {a : Int} (h0 : 0 ≤ a) (h1 : a < 64) : impl_headsOf.f a = some (Hd a) := by
  obtain ⟨n, rfl⟩ := Int.eq_ofNat_of_zero_le h0
  exact impl_heads_all ⟨n, by omega⟩

/-- Whether a law of features b, rank c, day d beats one of b', c', d'. -/
def BtB (b c d b' c' d' : Int) : Bool := if c = c' then (if Hd b = Hd b' then decide (d > d') else decide (Hd b > Hd b')) else decide (c > c')
theorem cmp_eq (a b : Int) : cmp_Compare_int.f a b = some (if a < b then -1 else if a > b then 1 else 0) := by
  unfold cmp_Compare_int.f cmp_isNaN_int.f
  simp only [Option.bind_some]
  by_cases h : a < b
  · simp [h]
  · by_cases h2 : a > b
    · simp [h, h2]
    · simp [h, h2]
theorem or3_eq (x y z : Int) {k : Nat} (hk : 4 ≤ k) : cmp_Or_int.f k [x, y, z] = some (if x = 0 then (if y = 0 then z else y) else x) := by
  obtain ⟨k, rfl⟩ : ∃ m, k = m + 4 := ⟨k - 4, by omega⟩
  have e0 : rd [x, y, z] 0 = x := rfl
  have e1 : rd [x, y, z] 1 = y := rfl
  have e2 : rd [x, y, z] 2 = z := rfl
  have w0 : wrap64 (0 + 1) = 1 := by unfold wrap64; omega
  have w1 : wrap64 (1 + 1) = 2 := by unfold wrap64; omega
  have w2 : wrap64 (2 + 1) = 3 := by unfold wrap64; omega
  unfold cmp_Or_int.f
  simp only [cmp_Or_int.l0, List.length_cons, List.length_nil, e0, e1, e2, w0, w1, w2]
  by_cases hx : x = 0
  · by_cases hy : y = 0
    · by_cases hz : z = 0
      · simp [hx, hy, hz]
      · simp [hx, hy, hz]
    · simp [hx, hy]
  · simp [hx]
theorem impl_beats_eq (a b c d : Int) (y : Bool) (a' b' c' d' : Int) (y' : Bool) {k : Nat} (hk : 4 ≤ k) (h0 : 0 ≤ b) (h1 : b < 64) (h0' : 0 ≤ b') (h1' : b' < 64) :
    impl_beats.f k a b c d y a' b' c' d' y' = some (BtB b c d b' c' d') := by
  unfold impl_beats.f BtB
  simp only [cmp_eq, impl_heads h0 h1, impl_heads h0' h1', Option.bind_some, or3_eq _ _ _ hk]
  generalize Hd b = p
  generalize Hd b' = q
  by_cases hc : c = c'
  · subst hc
    by_cases hp : p = q
    · subst hp
      by_cases hd : d < d'
      · simp [hd]; omega
      · by_cases hd2 : d > d'
        · simp [hd, hd2]
        · simp [hd, hd2]
    · by_cases hd : p < q
      · simp [hp, hd]; omega
      · have : p > q := by omega
        simp [hp, hd, this]
  · by_cases hd : c < c'
    · simp [hc, hd]; omega
    · have : c > c' := by omega
      simp [hc, hd, this]
theorem LawB_of {a b c d : Int} (h : LawB a b c d = true) : 0 ≤ a ∧ a < 3 ∧ 0 ≤ b ∧ b < 8 ∧ 1 ≤ c ∧ c ≤ 3 ∧ 0 ≤ d ∧ d ≤ 99 := by
  unfold LawB at h
  exact of_decide_eq_true h
theorem spec_BeatsOk_eq (a b c d : Int) (y : Bool) (a' b' c' d' : Int) (y' : Bool) {k : Nat} (hk : 9 ≤ k) :
    spec_BeatsOk.f k a b c d y a' b' c' d' y' = some (LawB a b c d && LawB a' b' c' d' && BtB b c d b' c' d') := by
  obtain ⟨k, rfl⟩ : ∃ m, k = m + 1 := ⟨k - 1, by omega⟩
  unfold spec_BeatsOk.f
  simp only [spec_LawOk_eq, Option.bind_some, spec_BeatsOk.j0]
  cases h : LawB a b c d with
  | false => simp
  | true =>
    cases h' : LawB a' b' c' d' with
    | false => simp
    | true =>
      have g := LawB_of h
      have g' := LawB_of h'
      simp only [spec_heads (show 0 ≤ b by omega) (show b < 64 by omega) (show 8 ≤ k by omega), spec_heads (show 0 ≤ b' by omega) (show b' < 64 by omega) (show 8 ≤ k by omega), Option.bind_some, BtB]
      by_cases hc : c = c'
      · by_cases hp : Hd b = Hd b' <;> simp [hc, hp]
      · simp [hc]

theorem impl_BeatsOk_eq (a b c d : Int) (y : Bool) (a' b' c' d' : Int) (y' : Bool) {k : Nat} (hk : 4 ≤ k) :
    impl_BeatsOk.f k a b c d y a' b' c' d' y' = some (LawB a b c d && LawB a' b' c' d' && BtB b c d b' c' d') := by
  unfold impl_BeatsOk.f
  simp only [impl_isLaw_eq, Option.bind_some]
  cases h : LawB a b c d with
  | false => simp
  | true =>
    cases h' : LawB a' b' c' d' with
    | false => simp
    | true =>
      have g := LawB_of h
      have g' := LawB_of h'
      simp [impl_beats_eq a b c d y a' b' c' d' y' hk (by omega) (by omega) (by omega) (by omega)]

/-- Does a law apply to a case; does a first law beat a second one. -/
def App (s f : Int) (x : S25) : Bool := decide (x.f0 = s) && decide (Go.bits .andNot .i64 x.f1 f = 0)
def Beat (x y : S25) : Bool := BtB x.f1 x.f2 x.f3 y.f1 y.f2 y.f3
def UB (book : List S25) (s f : Int) (x : S25) : Bool := App s f x && !(book.any fun z => App s f z && Beat z x)
/-- The places of the elements that meet p. -/
def idxs {α : Type} (p : α → Bool) : List α → Nat → List Int
  | [], _ => []
  | y :: ys, i => if p y then (i : Int) :: idxs p ys (i + 1) else idxs p ys (i + 1)
theorem idxs_len {α : Type} (p : α → Bool) : ∀ (ys : List α) (i : Nat), (idxs p ys i).length ≤ ys.length := by
  intro ys
  induction ys with
  | nil => intro i; simp [idxs]
  | cons y ys ih =>
    intro i
    have := ih (i + 1)
    unfold idxs
    split <;> simp <;> omega
theorem bits_all : ∀ a b : Fin 8, (Go.bits .and .i64 (a.val : Int) (b.val : Int) == (a.val : Int)) = decide (Go.bits .andNot .i64 (a.val : Int) (b.val : Int) = 0) := by decide +kernel
theorem applies_eq {x : S25} (hx : LB x = true) (s f : Int) (h0 : 0 ≤ f) (h1 : f < 8) : spec_l6Applies.f x.f0 x.f1 x.f2 x.f3 x.f4 s f = some (App s f x) := by
  have g := LawB_of (show LawB x.f0 x.f1 x.f2 x.f3 = true from hx)
  unfold spec_l6Applies.f App
  obtain ⟨n, hn⟩ := Int.eq_ofNat_of_zero_le g.2.2.1
  obtain ⟨m, rfl⟩ := Int.eq_ofNat_of_zero_le h0
  have hb := bits_all ⟨n, by omega⟩ ⟨m, by omega⟩
  rw [hn, hb]
  by_cases h : x.f0 = s <;> simp [h]
theorem LB_b {x : S25} (hx : LB x = true) : 0 ≤ x.f1 ∧ x.f1 < 64 := by
  have g := LawB_of (show LawB x.f0 x.f1 x.f2 x.f3 = true from hx)
  omega
theorem unbeaten_1_eq (x y : S25) (hx : LB x = true) (hy : LB y = true) : Ev (fun k => impl_unbeaten_1_c.f k x.f0 x.f1 x.f2 x.f3 x.f4 [y]) (Beat x y) := by
  refine ⟨4, fun k hk => ?_⟩
  show impl_unbeaten_1_c.f k x.f0 x.f1 x.f2 x.f3 x.f4 [y] = some (Beat x y)
  unfold impl_unbeaten_1_c.f
  rw [if_pos (by simp)]
  have e : rd_T25 [y] 0 = y := rfl
  rw [e, impl_beats_eq _ _ _ _ _ _ _ _ _ _ hk (LB_b hx).1 (LB_b hx).2 (LB_b hy).1 (LB_b hy).2]
  rfl
theorem IndexFunc_w70_l0 (xs : List S25) (y : S25) (hn : xs.length ≤ 9223372036854775807) (hx : ∀ x ∈ xs, LB x = true) (hy : LB y = true) : ∀ (zs : List S25) (i : Nat), xs.drop i = zs → Ev (fun k => slices_IndexFunc_w70.l0 k xs (xs.length : Int) (i : Int) [y]) (firstAt (fun x => Beat x y) zs i) := by
  intro zs
  induction zs with
  | nil =>
    intro i h
    exact Ev.step (f := fun _ => some (-1)) (fun k => by rw [slices_IndexFunc_w70.l0, if_neg (dnil h)]) (Ev.now _)
  | cons z zs ih =>
    intro i h
    obtain ⟨h1, h2, h3⟩ := dcons h
    have e := ih (i + 1) h3
    have hz : LB z = true := hx z (List.mem_of_mem_drop (by rw [h]; simp))
    refine Ev.step (f := fun k => (impl_unbeaten_1_c.f k z.f0 z.f1 z.f2 z.f3 z.f4 [y]).bind fun t => (if t = true then (some (i : Int)) else (slices_IndexFunc_w70.l0 k xs (xs.length : Int) ((i + 1 : Nat) : Int) [y]))) (fun k => ?_) (Ev.bind (unbeaten_1_eq z y hz hy) ?_)
    · rw [slices_IndexFunc_w70.l0, if_pos (by omega), if_pos (by omega), if_pos (by omega), rdT25, h2, wsucc h1 hn]
    · unfold firstAt
      cases hb : Beat z y with
      | true => simp only [if_true]; exact Ev.now _
      | false => simp only [Bool.false_eq_true, if_false]; exact e
theorem ContainsFunc_w70_ev (xs : List S25) (y : S25) (hn : xs.length ≤ 9223372036854775807) (hx : ∀ x ∈ xs, LB x = true) (hy : LB y = true) : Ev (fun k => slices_ContainsFunc_w70.f k xs [y]) (xs.any fun x => Beat x y) := by
  have e : Ev (fun k => slices_IndexFunc_w70.f k xs [y]) (firstAt (fun x => Beat x y) xs 0) := IndexFunc_w70_l0 xs y hn hx hy xs 0 rfl
  unfold slices_ContainsFunc_w70.f
  exact Ev.bind e (Ev.to (Ev.now _) (firstAt_any _ _ _))
/-- Two laws are the same, field by field. -/
def SB (x y : S25) : Bool := (x.f0 == y.f0 && (x.f1 == y.f1 && (x.f2 == y.f2 && (x.f3 == y.f3 && (x.f4 == y.f4)))))
theorem SB_iff (x y : S25) : SB x y = true ↔ x = y := by
  obtain ⟨a, b, c, d, e⟩ := x
  obtain ⟨a', b', c', d', e'⟩ := y
  simp [SB]
theorem Index_l0 (xs : List S25) (y : S25) (hn : xs.length ≤ 9223372036854775807) : ∀ (zs : List S25) (i : Nat), xs.drop i = zs → Ev (fun k => impl_Law_75.l0 k xs (xs.length : Int) (i : Int) y.f0 y.f1 y.f2 y.f3 y.f4) (firstAt (fun x => SB y x) zs i) := by
  intro zs
  induction zs with
  | nil =>
    intro i h
    exact Ev.step (f := fun _ => some (-1)) (fun k => by rw [impl_Law_75.l0, if_neg (dnil h)]) (Ev.now _)
  | cons z zs ih =>
    intro i h
    obtain ⟨h1, h2, h3⟩ := dcons h
    have e := ih (i + 1) h3
    refine Ev.step (f := fun k => if SB y z = true then (some (i : Int)) else (impl_Law_75.l0 k xs (xs.length : Int) ((i + 1 : Nat) : Int) y.f0 y.f1 y.f2 y.f3 y.f4)) (fun k => ?_) ?_
    · rw [impl_Law_75.l0, if_pos (by omega), if_pos (by omega), if_pos (by omega), rdT25, h2, wsucc h1 hn]; rfl
    · unfold firstAt
      cases hb : SB y z with
      | true => simp only [if_true]; exact Ev.now _
      | false => simp only [Bool.false_eq_true, if_false]; exact e
theorem Contains_ev (xs : List S25) (y : S25) (hn : xs.length ≤ 9223372036854775807) : Ev (fun k => impl_Law_69.f k xs y.f0 y.f1 y.f2 y.f3 y.f4) (xs.any fun x => SB y x) := by
  have e : Ev (fun k => impl_Law_75.f k xs y.f0 y.f1 y.f2 y.f3 y.f4) (firstAt (fun x => SB y x) xs 0) := Index_l0 xs y hn xs 0 rfl
  unfold impl_Law_69.f
  exact Ev.bind e (Ev.to (Ev.now _) (firstAt_any _ _ _))
theorem unbeaten_l1 (book : List S25) (s f : Int) (hn : book.length ≤ 1000) (hb : ∀ x ∈ book, LB x = true) : ∀ (zs : List S25) (i : Nat) (out : List Int), book.drop i = zs → out.length ≤ i →
    Ev (fun k => impl_unbeaten.l1 k (book.filter (App s f)) out book (book.length : Int) (i : Int)) (out ++ idxs (UB book s f) zs i) := by
  intro zs
  have hap : (book.filter (App s f)).length ≤ 9223372036854775807 := Nat.le_trans (List.length_filter_le _ _) (by omega)
  have hx : ∀ x ∈ book.filter (App s f), LB x = true := fun x hx => hb x ((List.mem_filter.1 hx).1)
  induction zs with
  | nil =>
    intro i out h _
    exact Ev.step (f := fun _ => some out) (fun k => by rw [impl_unbeaten.l1, if_neg (dnil h)]) (Ev.to (Ev.now _) (by simp [idxs]))
  | cons z zs ih =>
    intro i out h ho
    obtain ⟨h1, h2, h3⟩ := dcons h
    have hz : z ∈ book := List.mem_of_mem_drop (by rw [h]; simp)
    refine Ev.step (f := fun k => (impl_Law_69.f k (book.filter (App s f)) z.f0 z.f1 z.f2 z.f3 z.f4).bind fun t201 => (if t201 = true then ((slices_ContainsFunc_w70.f k (book.filter (App s f)) [z]).bind fun t202 => (if t202 = true then (impl_unbeaten.l1 k (book.filter (App s f)) out book (book.length : Int) ((i + 1 : Nat) : Int)) else (if out.length < 17592186044416 then (impl_unbeaten.l1 k (book.filter (App s f)) (out ++ [(i : Int)]) book (book.length : Int) ((i + 1 : Nat) : Int)) else (none)))) else (impl_unbeaten.l1 k (book.filter (App s f)) out book (book.length : Int) ((i + 1 : Nat) : Int)))) (fun k => ?_) (Ev.bind (Contains_ev _ z hap) ?_)
    · rw [impl_unbeaten.l1, if_pos (by omega), if_pos (by omega), if_pos (by omega), rdT25, h2, wsucc h1 (by omega)]
    · have hc : ((book.filter (App s f)).any fun x => SB z x) = App s f z := by
        rw [Bool.eq_iff_iff, List.any_eq_true]
        constructor
        · rintro ⟨x, hx, he⟩
          rw [SB_iff] at he
          subst he
          exact (List.mem_filter.1 hx).2
        · intro ha
          exact ⟨z, List.mem_filter.2 ⟨hz, ha⟩, (SB_iff z z).2 rfl⟩
      have hu : ((book.filter (App s f)).any fun x => Beat x z) = (book.any fun x => App s f x && Beat x z) := by rw [List.any_filter]
      rw [hc]
      unfold idxs
      cases ha : App s f z with
      | false =>
        rw [if_neg (show ¬ UB book s f z = true by simp [UB, ha])]
        simp only [Bool.false_eq_true, if_false]
        exact ih (i + 1) out h3 (by omega)
      | true =>
        simp only [if_true]
        refine Ev.bind (ContainsFunc_w70_ev _ z hap hx (hb z hz)) ?_
        rw [hu]
        cases hv : (book.any fun x => App s f x && Beat x z) with
        | true =>
          rw [if_neg (show ¬ UB book s f z = true by simp [UB, ha, hv])]
          simp only [if_true]
          exact ih (i + 1) out h3 (by omega)
        | false =>
          rw [if_pos (show UB book s f z = true by simp [UB, ha, hv])]
          simp only [Bool.false_eq_true, if_false, if_pos (show out.length < 17592186044416 by omega)]
          exact Ev.to (ih (i + 1) (out ++ [(i : Int)]) h3 (by simp <;> omega)) (by simp)
theorem unbeaten_l0 (book : List S25) (s f : Int) (hn : book.length ≤ 1000) (hb : ∀ x ∈ book, LB x = true) : ∀ (zs : List S25) (i : Nat), book.drop i = zs →
    Ev (fun k => impl_unbeaten.l0 k book s f ((book.take i).filter (App s f)) book (book.length : Int) (i : Int)) (idxs (UB book s f) book 0) := by
  intro zs
  induction zs with
  | nil =>
    intro i h
    have hi := List.drop_eq_nil_iff.1 h
    refine Ev.step (f := fun k => impl_unbeaten.l1 k (book.filter (App s f)) [] book (book.length : Int) ((0 : Nat) : Int)) (fun k => ?_) (unbeaten_l1 book s f hn hb book 0 [] rfl (by simp))
    rw [impl_unbeaten.l0, if_neg (dnil h), List.take_of_length_le hi]
    rfl
  | cons z zs ih =>
    intro i h
    obtain ⟨h1, h2, h3⟩ := dcons h
    have ht : book.take (i + 1) = book.take i ++ [z] := by
      rw [List.take_succ_eq_append_getElem h1]
      have := h2 z
      rw [List.getD_eq_getElem?_getD, List.getElem?_eq_getElem h1] at this
      rw [show book[i] = z from by simpa using this]
    have e := ih (i + 1) h3
    have hl : ((book.take i).filter (App s f)).length ≤ 1000 := Nat.le_trans (List.length_filter_le _ _) (by simp <;> omega)
    refine Ev.step (f := fun k => impl_unbeaten.l0 k book s f ((book.take (i + 1)).filter (App s f)) book (book.length : Int) ((i + 1 : Nat) : Int)) (fun k => ?_) e
    rw [impl_unbeaten.l0, if_pos (by omega), if_pos (by omega), if_pos (by omega), rdT25, h2, wsucc h1 (by omega), ht, List.filter_append]
    by_cases ha : z.f0 = s
    · by_cases ha2 : Go.bits .andNot .i64 z.f1 f = 0
      · rw [if_pos ha, if_pos ha2, if_pos (by omega), show [z].filter (App s f) = [z] from by simp [App, ha, ha2]]
      · rw [if_pos ha, if_neg ha2, show [z].filter (App s f) = [] from by simp [App, ha2], List.append_nil]
    · rw [if_neg ha, show [z].filter (App s f) = [] from by simp [App, ha], List.append_nil]
theorem isCase_eq (a b : Int) : impl_isCase.f a b = some (decide (0 ≤ a ∧ a < 3 ∧ 0 ≤ b ∧ b < 8)) := by
  unfold impl_isCase.f
  by_cases h1 : a ≥ 0
  · by_cases h2 : a < 3
    · by_cases h3 : b ≥ 0
      · by_cases h4 : b < 8 <;> simp [h1, h2, h3, h4]
      · simp [h1, h2, h3]
    · simp [h1, h2]
  · simp [h1]
/-- What UnbeatenOf returns. -/
def UO (book : List S25) (s f : Int) : List Int := if (book.all LB && decide ((book.length : Int) ≤ 6)) = true ∧ 0 ≤ s ∧ s < 3 ∧ 0 ≤ f ∧ f < 8 then idxs (UB book s f) book 0 else []
theorem UO_len (book : List S25) (s f : Int) : (UO book s f).length ≤ 6 := by
  unfold UO
  split
  · rename_i h
    have := idxs_len (UB book s f) book 0
    have h1 := h.1
    simp at h1
    omega
  · simp
theorem spec_unb_l1 (book : List S25) (s f : Int) (hn : book.length ≤ 1000) (hb : ∀ x ∈ book, LB x = true) (h0 : 0 ≤ f) (h8 : f < 8) (z : S25) (hz : z ∈ book) (i : Nat) (hi : i < book.length) (hzi : ∀ d, book.getD i d = z) (out : List Int) (ho : out.length ≤ 1000) (rT rF : List Int)
    (hT : Ev (fun k => spec_UnbeatenOf.l0 k book s f (out ++ [(i : Int)]) ((i + 1 : Nat) : Int)) rT) (hF : Ev (fun k => spec_UnbeatenOf.l0 k book s f out ((i + 1 : Nat) : Int)) rF) :
    ∀ (zs : List S25) (j : Nat) (b : Bool), book.drop j = zs → Ev (fun k => spec_UnbeatenOf.l1 k book s f out (i : Int) b (j : Int)) (if (b && zs.all fun w => !(App s f w && Beat w z)) = true then rT else rF) := by
  have stop : ∀ (j : Nat) (b : Bool), Ev (fun k => spec_UnbeatenOf.j3 k book s f out (i : Int) b (j : Int) false) (if b = true then rT else rF) := by
    intro j b
    cases b with
    | false =>
      refine Ev.step (f := fun k => spec_UnbeatenOf.l0 k book s f out ((i + 1 : Nat) : Int)) (fun k => ?_) hF
      rw [spec_UnbeatenOf.j3, if_neg (by decide), if_neg (by decide), wsucc hi (by omega)]
    | true =>
      refine Ev.step (f := fun k => spec_UnbeatenOf.l0 k book s f (out ++ [(i : Int)]) ((i + 1 : Nat) : Int)) (fun k => ?_) hT
      rw [spec_UnbeatenOf.j3, if_neg (by decide), if_pos rfl, if_pos (by omega), wsucc hi (by omega)]
  intro zs
  induction zs with
  | nil =>
    intro j b h
    refine Ev.step (f := fun k => spec_UnbeatenOf.j3 k book s f out (i : Int) b (j : Int) false) (fun k => by rw [spec_UnbeatenOf.l1, if_neg (dnil h)]) (Ev.to (stop j b) (by simp))
  | cons w zs ih =>
    intro j b h
    obtain ⟨h1, h2, h3⟩ := dcons h
    have hw : LB w = true := hb w (List.mem_of_mem_drop (by rw [h]; simp))
    refine Ev.step (f := fun k => spec_UnbeatenOf.j3 k book s f out (i : Int) b (j : Int) b) (fun k => by rw [spec_UnbeatenOf.l1, if_pos (by omega)]) ?_
    cases b with
    | false => exact Ev.to (stop j false) (by simp)
    | true =>
      have hj : (j : Int) < (book.length : Int) := by omega
      have hj0 : 0 ≤ (j : Int) := by omega
      have hi1 : (i : Int) < (book.length : Int) := by omega
      have hi0 : 0 ≤ (i : Int) := by omega
      cases ha : App s f w with
      | false =>
        refine Ev.step (f := fun k => spec_UnbeatenOf.l1 k book s f out (i : Int) true ((j + 1 : Nat) : Int)) (fun k => ?_) (Ev.to (ih (j + 1) true h3) (by simp [ha]))
        rw [spec_UnbeatenOf.j3, if_pos rfl, if_pos hj0, if_pos hj, rdT25, h2, applies_eq hw s f h0 h8, ha]
        simp only [Option.bind_some, Bool.false_eq_true, if_false]
        rw [wsucc h1 (by omega)]
      | true =>
        refine Ev.step (f := fun k => (spec_BeatsOk.f k w.f0 w.f1 w.f2 w.f3 w.f4 z.f0 z.f1 z.f2 z.f3 z.f4).bind fun t => spec_UnbeatenOf.l1 k book s f out (i : Int) (!t) ((j + 1 : Nat) : Int)) (fun k => ?_) (Ev.bind (a := Beat w z) ⟨9, fun k hk => ?_⟩ (Ev.to (ih (j + 1) (!Beat w z) h3) (by simp [ha])))
        · rw [spec_UnbeatenOf.j3, if_pos rfl, if_pos hj0, if_pos hj, rdT25, h2, applies_eq hw s f h0 h8, ha]
          simp only [Option.bind_some, if_true]
          rw [if_pos hi0, if_pos hi1, rdT25, hzi, wsucc h1 (by omega)]
        · show spec_BeatsOk.f k w.f0 w.f1 w.f2 w.f3 w.f4 z.f0 z.f1 z.f2 z.f3 z.f4 = some (Beat w z)
          rw [spec_BeatsOk_eq _ _ _ _ _ _ _ _ _ _ hk, show LawB w.f0 w.f1 w.f2 w.f3 = true from hw, show LawB z.f0 z.f1 z.f2 z.f3 = true from hb z hz]
          simp [Beat]
theorem spec_unb_l0 (book : List S25) (s f : Int) (hn : book.length ≤ 1000) (hb : ∀ x ∈ book, LB x = true) (h0 : 0 ≤ f) (h8 : f < 8) : ∀ (zs : List S25) (i : Nat) (out : List Int), book.drop i = zs → out.length ≤ i →
    Ev (fun k => spec_UnbeatenOf.l0 k book s f out (i : Int)) (out ++ idxs (UB book s f) zs i) := by
  intro zs
  induction zs with
  | nil =>
    intro i out h _
    exact Ev.step (f := fun _ => some out) (fun k => by rw [spec_UnbeatenOf.l0, if_neg (dnil h)]) (Ev.to (Ev.now _) (by simp [idxs]))
  | cons z zs ih =>
    intro i out h ho
    obtain ⟨h1, h2, h3⟩ := dcons h
    have hz : z ∈ book := List.mem_of_mem_drop (by rw [h]; simp)
    have e := spec_unb_l1 book s f hn hb h0 h8 z hz i h1 h2 out (by omega) _ _ (ih (i + 1) (out ++ [(i : Int)]) h3 (by simp <;> omega)) (ih (i + 1) out h3 (by omega)) book 0 (App s f z) rfl
    refine Ev.step (f := fun k => spec_UnbeatenOf.l1 k book s f out (i : Int) (App s f z) ((0 : Nat) : Int)) (fun k => ?_) (Ev.to e ?_)
    · rw [spec_UnbeatenOf.l0, if_pos (by omega), if_pos (by omega), rdT25, h2, applies_eq (hb z hz) s f h0 h8]
      rfl
    · have hu : UB book s f z = (App s f z && book.all fun w => !(App s f w && Beat w z)) := by
        unfold UB
        congr 1
        rw [List.not_any_eq_all_not]
      rw [← hu]
      cases hv : UB book s f z with
      | true => simp [idxs, hv]
      | false => simp [idxs, hv]
theorem spec_UnbeatenOf_ev (book : List S25) (hn : book.length ≤ 9223372036854775807) (s f : Int) : Ev (fun k => spec_UnbeatenOf.f k book s f) (UO book s f) := by
  have stop : Ev (fun k => spec_UnbeatenOf.j0 k book s f [] true) [] := Ev.step (f := fun _ => some []) (fun k => by rw [spec_UnbeatenOf.j0, if_pos rfl]) (Ev.now _)
  unfold spec_UnbeatenOf.f UO
  simp only [Option.bind_some]
  refine Ev.bind (spec_BookOk_ev book hn) ?_
  cases h : (book.all LB && decide ((book.length : Int) ≤ 6)) with
  | false => simp; exact stop
  | true =>
    simp only [if_true, l1In_eq, Option.bind_some, true_and]
    simp only [Bool.and_eq_true, List.all_eq_true, decide_eq_true_eq] at h
    by_cases hs : 0 ≤ s ∧ s ≤ 2
    · simp only [decide_eq_true hs, if_true]
      by_cases hf : 0 ≤ f ∧ f ≤ 7
      · rw [if_pos (by omega)]
        simp only [decide_eq_true hf, Bool.not_true]
        refine Ev.step (f := fun k => spec_UnbeatenOf.l0 k book s f [] ((0 : Nat) : Int)) (fun k => by rw [spec_UnbeatenOf.j0, if_neg (by decide)]; rfl) ?_
        have := spec_unb_l0 book s f (by omega) h.1 hf.1 (by omega) book 0 [] rfl (by simp)
        simpa using this
      · rw [if_neg (by omega)]
        simp only [decide_eq_false hf, Bool.not_false]
        exact stop
    · rw [if_neg (by omega)]
      simp only [decide_eq_false hs, Bool.false_eq_true, if_false]
      exact stop

theorem impl_UnbeatenOf_ev (book : List S25) (hn : book.length ≤ 9223372036854775807) (s f : Int) : Ev (fun k => impl_UnbeatenOf.f k book s f) (UO book s f) := by
  unfold impl_UnbeatenOf.f UO
  refine Ev.bind (impl_isBook_ev book hn) ?_
  cases h : (book.all LB && decide ((book.length : Int) ≤ 6)) with
  | false => simp; exact Ev.now _
  | true =>
    simp only [if_true, isCase_eq, Option.bind_some, true_and]
    by_cases hc : 0 ≤ s ∧ s < 3 ∧ 0 ≤ f ∧ f < 8
    · rw [if_pos hc]
      simp only [decide_eq_true hc, if_true]
      simp only [Bool.and_eq_true, List.all_eq_true, decide_eq_true_eq] at h
      refine Ev.bind (a := idxs (UB book s f) book 0) ?_ (Ev.now _)
      unfold impl_unbeaten.f
      have := unbeaten_l0 book s f (by omega) h.1 book 0 rfl
      simpa using this
    · rw [if_neg hc]
      simp only [decide_eq_false hc, Bool.false_eq_true, if_false]
      exact Ev.now _

/-- What is said, if some law says yes, if some says no. -/
def fin (y n : Bool) : Int := if y then (if n then 2 else 1) else (if n then 0 else 3)
def yesAt (book : List S25) (n : Int) : Bool := (rd_T25 book n).f4
def noAt (book : List S25) (n : Int) : Bool := !(rd_T25 book n).f4
def SY (book : List S25) (ls : List Int) : Int := fin (ls.any (yesAt book)) (ls.any (noAt book))
theorem idxs_mem {α : Type} (p : α → Bool) : ∀ (ys : List α) (i : Nat) (n : Int), n ∈ idxs p ys i → (i : Int) ≤ n ∧ n < i + ys.length := by
  intro ys
  induction ys with
  | nil => intro i n h; simp [idxs] at h
  | cons y ys ih =>
    intro i n h
    unfold idxs at h
    split at h
    · rcases List.mem_cons.1 h with h | h
      · subst h; simp <;> omega
      · have := ih _ _ h
        simp <;> omega
    · have := ih _ _ h
      simp <;> omega

theorem any_at (book : List S25) (p : S25 → Bool) (g : S25 → Bool) : ∀ (ys : List S25) (i : Nat), book.drop i = ys → (idxs p ys i).any (fun n => g (rd_T25 book n)) = ys.any (fun x => p x && g x) := by
  intro ys
  induction ys with
  | nil => intro i _; rfl
  | cons y ys ih =>
    intro i h
    obtain ⟨h1, h2, h3⟩ := dcons h
    have e := ih (i + 1) h3
    unfold idxs
    cases hp : p y with
    | true => simp only [if_true, List.any_cons, e, rdT25, h2, hp, Bool.true_and]
    | false => simp only [Bool.false_eq_true, if_false, List.any_cons, e, hp, Bool.false_and, Bool.false_or]
theorem idxs_none {α : Type} (p : α → Bool) : ∀ (ys : List α) (i : Nat), (idxs p ys i).length = 0 ↔ ys.any p = false := by
  intro ys
  induction ys with
  | nil => intro i; simp [idxs]
  | cons y ys ih =>
    intro i
    unfold idxs
    cases hp : p y with
    | true => simp [hp]
    | false => simp only [Bool.false_eq_true, if_false, List.any_cons, hp, Bool.false_or]; exact ih (i + 1)
def SaysF (book : List S25) (s f : Int) : Int := fin (book.any fun x => UB book s f x && x.f4) (book.any fun x => UB book s f x && !x.f4)
def OkC (book : List S25) (s f : Int) : Prop := (book.all LB && decide ((book.length : Int) ≤ 6)) = true ∧ 0 ≤ s ∧ s < 3 ∧ 0 ≤ f ∧ f < 8
theorem SY_eq (book : List S25) (s f : Int) (h : OkC book s f) : SY book (UO book s f) = SaysF book s f := by
  unfold SY UO SaysF
  unfold OkC at h
  rw [if_pos h]
  congr 1
  · exact any_at book (UB book s f) (fun x => x.f4) book 0 rfl
  · exact any_at book (UB book s f) (fun x => !x.f4) book 0 rfl
theorem UB_perm {b c : List S25} (s f : Int) (h : ∀ g : S25 → Bool, c.any g = b.any g) (x : S25) : UB c s f x = UB b s f x := by
  unfold UB
  rw [h]
theorem SaysF_rev (b : List S25) (s f : Int) : SaysF b.reverse s f = SaysF b s f := by
  have h : ∀ g : S25 → Bool, b.reverse.any g = b.any g := fun g => by simp
  unfold SaysF
  simp only [UB_perm s f h, h]
def mir (x : S25) : S25 := ⟨x.f0, x.f1, x.f2, x.f3, !x.f4⟩
theorem UB_mir (b : List S25) (s f : Int) (x : S25) : UB (b.map mir) s f (mir x) = UB b s f x := by
  unfold UB
  rw [List.any_map]
  rfl
theorem SaysF_mir (b : List S25) (s f : Int) : SaysF (b.map mir) s f = fin (b.any fun x => UB b s f x && !x.f4) (b.any fun x => UB b s f x && x.f4) := by
  unfold SaysF
  rw [List.any_map, List.any_map]
  congr 1
  · congr 1
    funext x
    show (UB (b.map mir) s f (mir x) && !x.f4) = _
    rw [UB_mir]
  · congr 1
    funext x
    show (UB (b.map mir) s f (mir x) && !(!x.f4)) = _
    rw [UB_mir, Bool.not_not]
theorem any_split (b : List S25) (p : S25 → Bool) : b.any p = ((b.any fun x => p x && x.f4) || (b.any fun x => p x && !x.f4)) := by
  induction b with
  | nil => rfl
  | cons y b ih =>
    simp only [List.any_cons, ih]
    cases p y <;> cases y.f4 <;> simp
theorem OkC_rev {b : List S25} {s f : Int} (h : OkC b s f) : OkC b.reverse s f := by
  unfold OkC at *
  simpa using h
theorem OkC_mir {b : List S25} {s f : Int} (h : OkC b s f) : OkC (b.map mir) s f := by
  unfold OkC at *
  rw [List.all_map, List.length_map]
  exact h

theorem alive_eq : laws_alive.f = some true := by decide +kernel

def has (xs : List Int) (w : Int) : Bool := xs.any fun x => decide (w = x)
theorem has_iff (xs : List Int) (w : Int) : has xs w = true ↔ w ∈ xs := by
  unfold has
  rw [List.any_eq_true]
  constructor
  · rintro ⟨x, hx, e⟩
    have := of_decide_eq_true e
    subst this
    exact hx
  · intro h
    exact ⟨w, h, by simp⟩

theorem hasInt_l0 (xs : List Int) (w : Int) (hn : xs.length ≤ 1000000) : ∀ (zs : List Int) (i : Nat), xs.drop i = zs → Ev (fun k => laws_hasInt.l0 k xs w (i : Int)) (has zs w) := by
  intro zs
  induction zs with
  | nil =>
    intro i h
    exact Ev.step (fun k => by rw [laws_hasInt.l0, if_neg (dnil h)]) (Ev.now false)
  | cons z zs ih =>
    intro i h
    obtain ⟨h1, h2, h3⟩ := dcons h
    by_cases q : z = w
    · exact Ev.step (fun k => by rw [laws_hasInt.l0, if_pos (by omega), if_pos (by omega), rdn, h2, if_pos q]) (Ev.to (Ev.now true) (by simp [has, q]))
    · exact Ev.step (fun k => by rw [laws_hasInt.l0, if_pos (by omega), if_pos (by omega), rdn, h2, if_neg q, wsucc h1 (by omega)]) (Ev.to (ih (i + 1) h3) (by have : ¬ w = z := fun e => q e.symm; simp [has, this]))
theorem hasInt_ev (xs : List Int) (w : Int) (hn : xs.length ≤ 1000000) : Ev (fun k => laws_hasInt.f k xs w) (has xs w) := hasInt_l0 xs w hn xs 0 rfl

theorem getD_cons_of {α : Type} {xs : List α} {i : Nat} (h : i < xs.length) (d : α) : xs.drop i = xs.getD i d :: xs.drop (i + 1) := by
  rw [List.drop_eq_getElem_cons h, List.getD_eq_getElem?_getD, List.getElem?_eq_getElem h]
  rfl
theorem sameIntsD_l0 (xs ys : List Int) (hl : xs.length = ys.length) (hn : xs.length ≤ 1000000) : ∀ (d i : Nat), i + d = xs.length → Ev (fun k => laws_sameInts.l0 k xs ys (i : Int)) (decide (xs.drop i = ys.drop i)) := by
  intro d
  induction d with
  | zero =>
    intro i h
    exact Ev.step (fun k => by rw [laws_sameInts.l0, if_neg (by omega)]) (Ev.to (Ev.now true) (by rw [List.drop_eq_nil_iff.2 (by omega), List.drop_eq_nil_iff.2 (by omega)]; simp))
  | succ d ih =>
    intro i h
    have e := ih (i + 1) (by omega)
    rw [getD_cons_of (show i < xs.length by omega) 0, getD_cons_of (show i < ys.length by omega) 0]
    by_cases q : xs.getD i 0 = ys.getD i 0
    · refine Ev.step (fun k => by rw [laws_sameInts.l0, if_pos (by omega), if_pos (by omega), if_pos (by omega), rdn, rdn, if_pos q, wsucc (show i < xs.length by omega) (by omega)]) (Ev.to e ?_)
      rw [decide_eq_decide, List.cons.injEq]
      exact ⟨fun h => ⟨q, h⟩, fun h => h.2⟩
    · refine Ev.step (fun k => by rw [laws_sameInts.l0, if_pos (by omega), if_pos (by omega), if_pos (by omega), rdn, rdn, if_neg q]) (Ev.to (Ev.now false) ?_)
      symm
      rw [decide_eq_false_iff_not, List.cons.injEq]
      exact fun h => q h.1
theorem sameIntsD_ev (xs ys : List Int) (hn : xs.length ≤ 1000000) : Ev (fun k => laws_sameInts.f k xs ys) (decide (xs = ys)) := by
  unfold laws_sameInts.f
  by_cases h : xs.length = ys.length
  · simp only [if_pos (show (xs.length : Int) = (ys.length : Int) by omega)]
    exact sameIntsD_l0 xs ys h hn xs.length 0 (by omega)
  · simp only [if_neg (show ¬ (xs.length : Int) = (ys.length : Int) by omega)]
    exact Ev.to (Ev.now false) (by symm; rw [decide_eq_false_iff_not]; rintro rfl; exact h rfl)

theorem ascend_l0 (xs : List Int) (hn : xs.length ≤ 1000) (hp : xs.Pairwise (· < ·)) : ∀ (d i : Nat), 1 ≤ i → i + d = xs.length → Ev (fun k => laws_ascend.l0 k xs (i : Int)) true := by
  intro d
  induction d with
  | zero => intro i _ h; exact Ev.step (fun k => by rw [laws_ascend.l0, if_neg (by omega)]) (Ev.now true)
  | succ d ih =>
    intro i h0 h
    have hlt : xs.getD (i - 1) 0 < xs.getD i 0 := by
      rw [List.getD_eq_getElem?_getD, List.getElem?_eq_getElem (show i - 1 < xs.length by omega), List.getD_eq_getElem?_getD, List.getElem?_eq_getElem (show i < xs.length by omega)]
      exact List.pairwise_iff_getElem.1 hp (i - 1) i (by omega) (by omega) (by omega)
    have w1 : Unit → wrap64 ((i : Int) - 1) = ((i - 1 : Nat) : Int) := fun _ => by rw [wz (by omega) (by omega)]; omega
    refine Ev.step (fun k => ?_) (ih (i + 1) (by omega) (by omega))
    rw [laws_ascend.l0, if_pos (by omega), w1 (), if_pos (by omega), if_pos (by omega), if_pos (by omega), rdn, rdn, if_neg (by omega), wsucc (show i < xs.length by omega) (by omega)]
theorem ascend_ev (xs : List Int) (hn : xs.length ≤ 1000) (hp : xs.Pairwise (· < ·)) : Ev (fun k => laws_ascend.f k xs) true := by
  unfold laws_ascend.f
  by_cases h : xs.length = 0
  · exact Ev.step (fun k => by rw [laws_ascend.l0, if_neg (by omega)]) (Ev.now true)
  · exact ascend_l0 xs hn hp (xs.length - 1) 1 (by omega) (by omega)

theorem Bt_trans {a1 a2 a3 b1 b2 b3 c1 c2 c3 : Int} (h : BtB a1 a2 a3 b1 b2 b3 = true) (h2 : BtB b1 b2 b3 c1 c2 c3 = true) : BtB a1 a2 a3 c1 c2 c3 = true := by
  unfold BtB at *
  (repeat' split at h) <;> (repeat' split at h2) <;> (repeat' split) <;> simp only [decide_eq_true_eq] at * <;> omega
theorem Bt_neg {a1 a2 a3 b1 b2 b3 c1 c2 c3 : Int} (h : BtB a1 a2 a3 b1 b2 b3 = true) (h2 : BtB a1 a2 a3 c1 c2 c3 = false) : BtB c1 c2 c3 b1 b2 b3 = true := by
  unfold BtB at *
  (repeat' split at h) <;> (repeat' split at h2) <;> (repeat' split) <;> simp only [decide_eq_true_eq, decide_eq_false_iff_not] at * <;> omega
theorem Bt_irr (a1 a2 a3 : Int) : BtB a1 a2 a3 a1 a2 a3 = false := by simp [BtB]
theorem best : ∀ (l : List S25), l ≠ [] → ∃ x ∈ l, ∀ z ∈ l, Beat z x = false := by
  intro l
  induction l with
  | nil => intro h; exact absurd rfl h
  | cons y ys ih =>
    intro _
    by_cases e : ys = []
    · subst e
      exact ⟨y, by simp, fun z hz => by have : z = y := by simpa using hz
                                        subst this; exact Bt_irr _ _ _⟩
    · obtain ⟨x, hx, h⟩ := ih e
      cases hb : Beat y x with
      | true =>
        refine ⟨y, by simp, fun z hz => ?_⟩
        rcases List.mem_cons.1 hz with q | q
        · subst q; exact Bt_irr _ _ _
        · cases hq : Beat z y with
          | false => rfl
          | true =>
            have := Bt_trans hq hb
            have h2 := h z q
            unfold Beat at h2
            rw [h2] at this
            cases this
      | false =>
        refine ⟨x, by simp [hx], fun z hz => ?_⟩
        rcases List.mem_cons.1 hz with q | q
        · subst q; exact hb
        · exact h z q
theorem idxs_iff {α : Type} (p : α → Bool) (d : α) : ∀ (ys : List α) (i : Nat) (n : Int), n ∈ idxs p ys i ↔ ∃ j : Nat, j < ys.length ∧ n = ((i + j : Nat) : Int) ∧ p (ys.getD j d) = true := by
  intro ys
  induction ys with
  | nil => intro i n; simp [idxs]
  | cons y ys ih =>
    intro i n
    have step : (∃ j : Nat, j < (y :: ys).length ∧ n = ((i + j : Nat) : Int) ∧ p ((y :: ys).getD j d) = true) ↔ (n = (i : Int) ∧ p y = true) ∨ ∃ j : Nat, j < ys.length ∧ n = ((i + 1 + j : Nat) : Int) ∧ p (ys.getD j d) = true := by
      constructor
      · rintro ⟨j, h1, h2, h3⟩
        cases j with
        | zero => exact .inl ⟨by simpa using h2, by simpa using h3⟩
        | succ j => exact .inr ⟨j, by simpa using h1, by rw [h2]; congr 1; omega, by simpa using h3⟩
      · rintro (⟨h1, h2⟩ | ⟨j, h1, h2, h3⟩)
        · exact ⟨0, by simp, by simpa using h1, by simpa using h2⟩
        · exact ⟨j + 1, by simpa using h1, by rw [h2]; congr 1; omega, by simpa using h3⟩
    rw [step, ← ih (i + 1) n, show idxs p (y :: ys) i = if p y then (i : Int) :: idxs p ys (i + 1) else idxs p ys (i + 1) from rfl]
    cases hp : p y with
    | true => simp
    | false => simp
theorem idxs_cnt {α : Type} (p : α → Bool) : ∀ (ys : List α) (i : Nat), (idxs p ys i).length = ys.countP p := by
  intro ys
  induction ys with
  | nil => intro i; rfl
  | cons y ys ih =>
    intro i
    unfold idxs
    cases hp : p y with
    | true => rw [if_pos rfl, List.countP_cons_of_pos hp, List.length_cons, ih]
    | false => rw [if_neg (by decide), List.countP_cons_of_neg (by simp [hp]), ih]
theorem idxs_pair {α : Type} (p : α → Bool) : ∀ (ys : List α) (i : Nat), (idxs p ys i).Pairwise (· < ·) := by
  intro ys
  induction ys with
  | nil => intro i; simp [idxs]
  | cons y ys ih =>
    intro i
    unfold idxs
    split
    · rw [List.pairwise_cons]
      exact ⟨fun x hx => by have := idxs_mem p ys (i + 1) x hx; omega, ih (i + 1)⟩
    · exact ih (i + 1)
theorem getD_memb {b : List S25} {i : Nat} (h : i < b.length) : b.getD i z25 ∈ b := by
  rw [List.getD_eq_getElem?_getD, List.getElem?_eq_getElem h]
  exact List.getElem_mem h
theorem X_spec (b : List S25) (s f : Int) (X : List Int) (hX : X = idxs (UB b s f) b 0) {n : Int} (h : n ∈ X) : ∃ j : Nat, j < b.length ∧ n = (j : Int) ∧ UB b s f (b.getD j z25) = true := by
  rw [hX, idxs_iff _ z25] at h
  obtain ⟨j, h1, h2, h3⟩ := h
  exact ⟨j, h1, by rw [h2, Nat.zero_add], h3⟩
theorem ok_all (b : List S25) (s f : Int) (ok : OkC b s f) : ∀ x ∈ b, LB x = true := by
  have := ok.1
  simp only [Bool.and_eq_true, List.all_eq_true] at this
  exact this.1
section
variable (b : List S25) (s f : Int) (ok : OkC b s f) (X : List Int) (hX : X = idxs (UB b s f) b 0)
include ok hX
theorem unb_l2 (bk : List S25) (i : Nat) (hi : i < b.length) (fl : Bool) (r : Bool) (c : Ev (fun k => laws_FnUnbeatenOf.l1 k b s f X fl bk (wrap64 ((i : Int) + 1))) r) : ∀ (zs : List Int) (j : Nat), X.drop j = zs → Ev (fun k => laws_FnUnbeatenOf.l2 k b s f X fl bk (i : Int) (App s f (b.getD i z25)) (j : Int)) r := by
  have lb := ok_all b s f ok
  have hx := lb _ (getD_memb hi)
  have hlen : X.length ≤ 1000 := by have h1 := idxs_len (UB b s f) b 0; have h2 := ok.1; rw [← hX] at h1; simp at h2; omega
  have g1 : 0 ≤ (i : Int) := by omega
  have g2 : (i : Int) < (b.length : Int) := by omega
  intro zs
  induction zs with
  | nil =>
    intro j h
    exact Ev.step (fun k => by rw [laws_FnUnbeatenOf.l2, if_neg (dnil h)]) c
  | cons z zs ih =>
    intro j h
    obtain ⟨h1, h2, h3⟩ := dcons h
    have e := ih (j + 1) h3
    have hz : z ∈ X := List.mem_of_mem_drop (by rw [h]; simp)
    obtain ⟨n, hn, ez, hu⟩ := X_spec b s f X hX hz
    have ly := lb _ (getD_memb hn)
    have w := wsucc h1 (by omega)
    have bt (x y : S25) (hx : LB x = true) (hy : LB y = true) : Ev (fun k => impl_BeatsOk.f k x.f0 x.f1 x.f2 x.f3 x.f4 y.f0 y.f1 y.f2 y.f3 y.f4) (Beat x y) := ⟨4, fun k hk => by
      show impl_BeatsOk.f k x.f0 x.f1 x.f2 x.f3 x.f4 y.f0 y.f1 y.f2 y.f3 y.f4 = some (Beat x y)
      rw [impl_BeatsOk_eq _ _ _ _ _ _ _ _ _ _ hk, show LawB x.f0 x.f1 x.f2 x.f3 = true from hx, show LawB y.f0 y.f1 y.f2 y.f3 = true from hy]
      simp [Beat]⟩
    have hu2 : App s f (b.getD n z25) = true ∧ ∀ x ∈ b, App s f x = true → Beat x (b.getD n z25) = false := by
      unfold UB at hu
      simp only [Bool.and_eq_true, Bool.not_eq_true', List.any_eq_false] at hu
      refine ⟨hu.1, fun x hx ha => ?_⟩
      have := hu.2 x hx
      rw [ha] at this
      simpa using this
    refine Ev.step (fun k => by rw [laws_FnUnbeatenOf.l2, if_pos (show (j : Int) < (X.length : Int) by omega), if_pos g1, if_pos g2, if_pos (show 0 ≤ (j : Int) by omega), rdn, h2, ez, if_pos (show 0 ≤ (n : Int) by omega), if_pos (show (n : Int) < (b.length : Int) by omega), rdT25, rdT25, w]) (Ev.bind (bt _ _ hx ly) ?_)
    cases ha : App s f (b.getD i z25) with
    | false =>
      rw [ha] at e
      cases Beat (b.getD i z25) (b.getD n z25) with
      | true => simp only [Bool.false_eq_true, if_true, if_false]; exact e
      | false => simp only [Bool.false_eq_true, if_false]; exact e
    | true =>
      rw [ha] at e
      have nb := hu2.2 _ (getD_memb hi) ha
      simp only [nb, Bool.false_eq_true, if_true, if_false]
      refine Ev.bind (hasInt_ev X (i : Int) (by omega)) ?_
      cases hh : has X (i : Int) with
      | true => simp only [if_true]; exact e
      | false =>
        have hni : (i : Int) ∉ X := fun hm => by rw [(has_iff X _).2 hm] at hh; cases hh
        have hub : UB b s f (b.getD i z25) = false := by
          cases q : UB b s f (b.getD i z25) with
          | false => rfl
          | true => exact absurd (by rw [hX, idxs_iff _ z25]; exact ⟨i, hi, by rw [Nat.zero_add], q⟩) hni
        have hz : ∃ z ∈ b, App s f z = true ∧ Beat z (b.getD i z25) = true := by
          unfold UB at hub
          rw [ha] at hub
          simp only [Bool.true_and, Bool.not_eq_false', List.any_eq_true, Bool.and_eq_true] at hub
          exact hub
        obtain ⟨z, hzb, hza, hzz⟩ := hz
        have fin : Beat (b.getD n z25) (b.getD i z25) = true := Bt_neg hzz (hu2.2 z hzb hza)
        simp only [Bool.false_eq_true, if_false]
        refine Ev.bind (bt _ _ ly hx) ?_
        simp only [fin, if_true]
        exact e
theorem unb_l1 (bk : List S25) (r : Bool) (c : Ev (fun k => laws_FnUnbeatenOf.l1 k b s f X (b.any (App s f)) bk (b.length : Int)) r) : ∀ (zs : List S25) (i : Nat) (fl : Bool), b.drop i = zs → (fl || zs.any (App s f)) = b.any (App s f) → Ev (fun k => laws_FnUnbeatenOf.l1 k b s f X fl bk (i : Int)) r := by
  have lb := ok_all b s f ok
  have hf := ok.2
  have hbl : b.length ≤ 6 := by have h2 := ok.1; simp at h2; omega
  intro zs
  induction zs with
  | nil =>
    intro i fl h hfl
    have hi := List.drop_eq_nil_iff.1 h
    have : Ev (fun k => laws_FnUnbeatenOf.l1 k b s f X fl bk (i : Int)) r := by
      have e1 : fl = b.any (App s f) := by simpa using hfl
      rw [e1]
      refine ⟨c.choose + 1, fun k hk => ?_⟩
      have hc := c.choose_spec k (by omega)
      obtain ⟨k, rfl⟩ : ∃ m, k = m + 1 := ⟨k - 1, by omega⟩
      show laws_FnUnbeatenOf.l1 (k + 1) b s f X (b.any (App s f)) bk (i : Int) = some r
      have hc : laws_FnUnbeatenOf.l1 (k + 1) b s f X (b.any (App s f)) bk (b.length : Int) = some r := hc
      rw [laws_FnUnbeatenOf.l1, if_neg (by omega)] at hc ⊢
      exact hc
    exact this
  | cons z zs ih =>
    intro i fl h hfl
    obtain ⟨h1, h2, h3⟩ := dcons h
    have hz : z ∈ b := List.mem_of_mem_drop (by rw [h]; simp)
    have w := wsucc h1 (by omega)
    have g := LawB_of (show LawB z.f0 z.f1 z.f2 z.f3 = true from lb z hz)
    have hz2 := h2 z25
    have hap : (if z.f0 = s then (Go.bits .and .i64 z.f1 f == z.f1) else false) = App s f z := by
      obtain ⟨n, hn⟩ := Int.eq_ofNat_of_zero_le g.2.2.1
      obtain ⟨m, hm⟩ := Int.eq_ofNat_of_zero_le hf.2.2.1
      have hb := bits_all ⟨n, by omega⟩ ⟨m, by omega⟩
      unfold App
      rw [hn, hm, hb]
      by_cases q : z.f0 = s <;> simp [q]
    have e := ih (i + 1) (fl || App s f z) h3 (by rw [← hfl]; simp [Bool.or_assoc])
    have l2 := unb_l2 b s f ok X hX bk i h1 (fl || App s f z) r (by rw [w]; exact e) X 0 rfl
    rw [hz2] at l2
    have j4 : Ev (fun k => laws_FnUnbeatenOf.j4 k b s f X (fl || App s f z) bk (i : Int) (App s f z)) r := Ev.step (fun k => by rw [laws_FnUnbeatenOf.j4]; rfl) l2
    have j3 : Ev (fun k => laws_FnUnbeatenOf.j3 k b s f X fl bk (i : Int) (App s f z)) r := by
      cases fl with
      | true => exact Ev.step (fun k => by rw [laws_FnUnbeatenOf.j3, if_pos rfl]) (by simpa using j4)
      | false => exact Ev.step (fun k => by rw [laws_FnUnbeatenOf.j3, if_neg (by decide)]) (by simpa using j4)
    refine Ev.step (fun k => ?_) j3
    rw [laws_FnUnbeatenOf.l1, if_pos (by omega), if_pos (by omega), rdT25, h2, ← hap]
    by_cases q : z.f0 = s
    · rw [if_pos q, if_pos q]
    · rw [if_neg q, if_neg q]
theorem unb_l3 (Y : List Int) (hY : Y = idxs (UB b s f) b.reverse 0) : ∀ (zs : List Int) (j : Nat), Y.drop j = zs → Ev (fun k => laws_FnUnbeatenOf.l3 k b X (b.any (App s f)) Y (j : Int)) true := by
  have hbl : b.length ≤ 6 := by have h2 := ok.1; simp at h2; omega
  have hlen : X.length ≤ 6 := by have h1 := idxs_len (UB b s f) b 0; rw [← hX] at h1; omega
  have hyl : Y.length = X.length := by rw [hX, hY, idxs_cnt, idxs_cnt, List.countP_reverse]
  intro zs
  induction zs with
  | nil =>
    intro j h
    refine Ev.step (fun k => by rw [laws_FnUnbeatenOf.l3, if_neg (dnil h)]) (Ev.bind (ascend_ev X (by omega) (by rw [hX]; exact idxs_pair _ _ _)) ?_)
    have hs : decide ((X.length : Int) > 0) = b.any (App s f) := by
      have h0 := idxs_none (UB b s f) b 0
      rw [← hX] at h0
      cases q : b.any (App s f) with
      | false =>
        refine decide_eq_false ?_
        have : b.any (UB b s f) = false := by
          rw [List.any_eq_false] at q ⊢
          intro x hx hu
          unfold UB at hu
          simp only [Bool.and_eq_true] at hu
          exact q x hx hu.1
        have := h0.2 this
        omega
      | true =>
        refine decide_eq_true ?_
        have hne : b.filter (App s f) ≠ [] := by
          rw [List.any_eq_true] at q
          obtain ⟨x, hx, ha⟩ := q
          exact List.ne_nil_of_mem (List.mem_filter.2 ⟨hx, ha⟩)
        obtain ⟨x, hx, hbest⟩ := best _ hne
        have hx := List.mem_filter.1 hx
        have hu : b.any (UB b s f) = true := by
          rw [List.any_eq_true]
          refine ⟨x, hx.1, ?_⟩
          unfold UB
          rw [hx.2, Bool.true_and, Bool.not_eq_true', List.any_eq_false]
          intro z hz hc
          simp only [Bool.and_eq_true] at hc
          have := hbest z (List.mem_filter.2 ⟨hz, hc.1⟩)
          rw [this] at hc
          exact absurd hc.2 (by decide)
        have : X.length ≠ 0 := fun e => by rw [h0.1 e] at hu; cases hu
        omega
    simp only [if_true, hs, beq_self_eq_true, hyl]
    exact Ev.now _
  | cons z zs ih =>
    intro j h
    obtain ⟨h1, h2, h3⟩ := dcons h
    have e := ih (j + 1) h3
    have hz : z ∈ Y := List.mem_of_mem_drop (by rw [h]; simp)
    rw [hY, idxs_iff _ z25] at hz
    obtain ⟨n, hn, ez, hu⟩ := hz
    rw [Nat.zero_add] at ez
    have hn : n < b.length := by simpa using hn
    have hr : b.reverse.getD n z25 = b.getD (b.length - 1 - n) z25 := by
      rw [List.getD_eq_getElem?_getD, List.getD_eq_getElem?_getD, List.getElem?_reverse hn]
    rw [hr] at hu
    have hm : ((b.length - 1 - n : Nat) : Int) ∈ X := by rw [hX, idxs_iff _ z25]; exact ⟨b.length - 1 - n, by omega, by rw [Nat.zero_add], hu⟩
    have w1 : wrap64 ((b.length : Int) - 1) = (b.length : Int) - 1 := wz (by omega) (by omega)
    have w2 : wrap64 ((b.length : Int) - 1 - z) = ((b.length - 1 - n : Nat) : Int) := by rw [wz (by omega) (by omega)]; omega
    refine Ev.step (fun k => by rw [laws_FnUnbeatenOf.l3, if_pos (by omega), if_pos (by omega), rdn, h2, w1, w2, wsucc h1 (by omega)]) (Ev.bind (hasInt_ev X _ (by omega)) ?_)
    simp only [(has_iff X _).2 hm, if_true]
    exact e
theorem unb_l0 (hb : b.length ≤ 10) : ∀ (n : Nat), n ≤ b.length → Ev (fun k => laws_FnUnbeatenOf.l0 k b s f X false (b.drop n).reverse ((n : Int) - 1)) true := by
  intro n
  induction n with
  | zero =>
    intro _
    have okr := OkC_rev ok
    have e6 := impl_UnbeatenOf_ev b.reverse (by simp <;> omega) s f
    have hrev : ∀ g : S25 → Bool, b.reverse.any g = b.any g := fun g => by simp
    have hUO : UO b.reverse s f = idxs (UB b s f) b.reverse 0 := by
      unfold UO
      have o := okr
      unfold OkC at o
      rw [if_pos o]
      congr 1
      funext x
      exact UB_perm s f hrev x
    rw [hUO] at e6
    have c : Ev (fun k => laws_FnUnbeatenOf.l1 k b s f X (b.any (App s f)) b.reverse (b.length : Int)) true := Ev.step (fun k => by rw [laws_FnUnbeatenOf.l1, if_neg (by omega)]) (Ev.bind e6 (unb_l3 b s f ok X hX _ rfl _ 0 rfl))
    have e1 := unb_l1 b s f ok X hX b.reverse true c b 0 false rfl (by simp)
    exact Ev.step (fun k => by rw [laws_FnUnbeatenOf.l0, if_neg (by decide)]; rfl) e1
  | succ n ih =>
    intro h
    have e1 := ih (by omega)
    have hd : b.drop n = b[n] :: b.drop (n + 1) := List.drop_eq_getElem_cons (by omega)
    have hr : b.getD n z25 = b[n] := by rw [List.getD_eq_getElem?_getD, List.getElem?_eq_getElem (show n < b.length by omega)]; rfl
    rw [hd, List.reverse_cons] at e1
    have w1 : ((n + 1 : Nat) : Int) - 1 = (n : Int) := by omega
    have w2 : wrap64 ((n : Int) - 1) = (n : Int) - 1 := wz (by omega) (by omega)
    rw [w1]
    refine Ev.step (fun k => ?_) e1
    rw [laws_FnUnbeatenOf.l0, if_pos (by omega), if_pos (by omega), if_pos (by omega), if_pos (by simp <;> omega), rdT25, hr, w2]
end
theorem FnUnbeatenOf : laws_FnUnbeatenOf.Pure := by
  intro l _ _ hs
  refine Ev.rounds ?_
  unfold laws_FnUnbeatenOf.f
  by_cases h : (l.length : Int) > 1048576
  · simp only [if_pos h]
    exact Ev.now _
  simp only [if_neg h]
  obtain ⟨sd, e, hs', hl⟩ := open_some hs
  obtain ⟨b, s, f, q, ec, hb, _⟩ := cased_ev hs' hl
  have e3 : Ev (fun k => spec_DrawUnbeatenOf.f k l) (b, s, f) := by
    unfold spec_DrawUnbeatenOf.f
    simp only [e, Option.bind_some]
    exact Ev.bind ec (Ev.now _)
  have hx6 := UO_len b s f
  refine Ev.bind e3 (Ev.bind (impl_UnbeatenOf_ev b (by omega) s f) (Ev.bind (spec_UnbeatenOf_ev b (by omega) s f) (Ev.bind (sameIntsD_ev (UO b s f) (UO b s f) (by omega)) ?_)))
  simp only [decide_true, if_true]
  refine Ev.bind (spec_BookOk_ev b (by omega)) ?_
  have no (hn : ¬ OkC b s f) : Ev (fun k => laws_FnUnbeatenOf.j0 k b s f (UO b s f) true) true := by
    have : UO b s f = [] := by
      unfold UO
      unfold OkC at hn
      rw [if_neg hn]
    rw [this]
    refine Ev.step (fun k => by rw [laws_FnUnbeatenOf.j0, if_pos rfl, if_pos (by simp)]) ?_
    simp only [alive_eq, Option.bind_some]
    exact Ev.now _
  cases hbk : (b.all LB && decide ((b.length : Int) ≤ 6)) with
  | false =>
    simp only [Bool.false_eq_true, if_false]
    exact no (fun o => by have := o.1; rw [hbk] at this; cases this)
  | true =>
    simp only [if_true]
    by_cases c1 : s < 0
    · simp only [if_pos c1]; exact no (fun o => by have := o.2; omega)
    · by_cases c2 : s ≥ 3
      · simp only [if_neg c1, if_pos c2]; exact no (fun o => by have := o.2; omega)
      · by_cases c3 : f < 0
        · simp only [if_neg c1, if_neg c2, if_pos c3]; exact no (fun o => by have := o.2; omega)
        · simp only [if_neg c1, if_neg c2, if_neg c3]
          by_cases c4 : f ≥ 8
          · rw [decide_eq_true c4]; exact no (fun o => by have := o.2; omega)
          · rw [decide_eq_false c4]
            have ok : OkC b s f := ⟨hbk, by omega, by omega, by omega, by omega⟩
            have hUO : UO b s f = idxs (UB b s f) b 0 := by
              unfold UO
              have o := ok
              unfold OkC at o
              rw [if_pos o]
            have hw : wrap64 ((b.length : Int) - 1) = (b.length : Int) - 1 := wz (by omega) (by omega)
            have st := unb_l0 b s f ok (UO b s f) hUO hb b.length (Nat.le_refl _)
            rw [List.drop_eq_nil_iff.2 (Nat.le_refl _)] at st
            exact Ev.step (fun k => by rw [laws_FnUnbeatenOf.j0, if_neg (by decide), hw]; rfl) st

end Go.Proofs.Ytlacdgmapojmlaa.Pure
