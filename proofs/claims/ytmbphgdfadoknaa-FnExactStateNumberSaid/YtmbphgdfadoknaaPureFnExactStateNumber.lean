/- The law FnExactStateNumber is true: for every charter and state the program's StateNumber returns what the reference's returns, and leaves its arguments as they were. Conditions: none. -/
import Derived.Test.YtmbphgdfadoknaaQFnExactStateNumberx12
namespace Go.Proofs.Ytmbphgdfadoknaa.Pure
open Go.RowKit Go.Proofs.Ytmbphgdfadoknaa.QFnExactStateNumber Go.Proofs.YtmbphgdfadoknaaW.PrintWords Go.Proofs.YtmbphgdfadoknaaW.PrintLast
set_option linter.unusedVariables false
set_option linter.unusedSimpArgs false

/-- A number that fits is not wrapped. -/
theorem wz {x : Int} (h0 : -9223372036854775808 ≤ x) (h1 : x ≤ 9223372036854775807) : wrap64 x = x := by unfold wrap64; omega
theorem wsucc {i n : Nat} (h : i < n) (hn : n ≤ 9223372036854775807) : wrap64 ((i : Int) + 1) = ((i + 1 : Nat) : Int) := by rw [wz (by omega) (by omega)]; omega
/-- What stands from place i on is empty, or begins with element i. -/
theorem dnil {α : Type} {xs : List α} {i : Nat} (h : xs.drop i = []) : ¬ ((i : Int) < (xs.length : Int)) := by
  have := List.drop_eq_nil_iff.1 h
  omega
theorem dcons {α : Type} {xs : List α} {i : Nat} {y : α} {ys : List α} (h : xs.drop i = y :: ys) : i < xs.length ∧ (∀ d, xs.getD i d = y) ∧ xs.drop (i + 1) = ys := by
  have hl : i < xs.length := by
    rcases Nat.lt_or_ge i xs.length with h1 | h1
    · exact h1
    · rw [List.drop_eq_nil_iff.2 h1] at h
      cases h
  have e := List.drop_eq_getElem_cons hl
  rw [h] at e
  injection e with e1 e2
  exact ⟨hl, fun d => by rw [List.getD_eq_getElem?_getD, List.getElem?_eq_getElem hl]; exact e1.symm, e2.symm⟩
theorem rdn (xs : List Int) (i : Nat) : rd xs (i : Int) = xs.getD i 0 := by simp [rd]
theorem set_mid {α β : Type} (l : List α) (c : α → β) (z : β) {i : Nat} {y : α} {ys : List α} (h : l.drop i = y :: ys) :
    ((l.take i).map c ++ List.replicate (l.length - i) z).set i (c y) = (l.take (i + 1)).map c ++ List.replicate (l.length - (i + 1)) z := by
  obtain ⟨h1, h2, h3⟩ := dcons h
  have ht : l.take (i + 1) = l.take i ++ [y] := by
    rw [List.take_succ_eq_append_getElem h1]
    have := h2 y
    rw [List.getD_eq_getElem?_getD, List.getElem?_eq_getElem h1] at this
    rw [show l[i] = y from by simpa using this]
  obtain ⟨m, hm⟩ : ∃ m, l.length - i = m + 1 := ⟨l.length - i - 1, by omega⟩
  have hm2 : l.length - (i + 1) = m := by omega
  have hlen : ((l.take i).map c).length = i := by simp <;> omega
  rw [hm, hm2, ht, List.replicate_succ, List.map_append, List.set_append_right _ _ (by omega), hlen, Nat.sub_self]
  simp
theorem Ev.to {α : Type} {g : Nat → Option α} {r s : α} (h : Ev g r) (e : r = s) : Ev g s := e ▸ h

/-- Is a number a crowd of so many people. -/
def CrB (p a : Int) : Bool := decide (1 ≤ p ∧ p ≤ 6 ∧ 0 ≤ a ∧ a < 2 ^ p.toNat)
theorem shl1 {p : Int} (h0 : 1 ≤ p) (h1 : p ≤ 6) : shl .i64 1 p = 2 ^ p.toNat := by
  have : p = 1 ∨ p = 2 ∨ p = 3 ∨ p = 4 ∨ p = 5 ∨ p = 6 := by omega
  rcases this with rfl | rfl | rfl | rfl | rfl | rfl <;> decide +kernel
theorem pow_small {p : Int} (h0 : 1 ≤ p) (h1 : p ≤ 6) : (2 : Int) ≤ 2 ^ p.toNat ∧ (2 : Int) ^ p.toNat ≤ 64 := by
  have : p = 1 ∨ p = 2 ∨ p = 3 ∨ p = 4 ∨ p = 5 ∨ p = 6 := by omega
  rcases this with rfl | rfl | rfl | rfl | rfl | rfl <;> decide
theorem impl_isCrowd_eq (p a : Int) : impl_isCrowd.f p a = some (CrB p a) := by
  unfold impl_isCrowd.f impl_arePeople.f CrB
  by_cases h1 : p ≥ 1
  · by_cases h2 : p ≤ 6
    · by_cases h3 : a ≥ 0
      · have h0 : 0 ≤ p := by omega
        simp [h1, h2, h3, h0, shl1 h1 h2]
      · simp [h1, h2, h3]
    · simp [h1, h2]
  · simp [h1]
theorem CrB_of {p a : Int} (h : CrB p a = true) : 1 ≤ p ∧ p ≤ 6 ∧ 0 ≤ a ∧ a < 2 ^ p.toNat := of_decide_eq_true h

theorem l1In_eq2 (a b c : Int) : spec_l1In.f a b c = some (decide (b ≤ a ∧ a ≤ c)) := by
  unfold spec_l1In.f
  by_cases h : b ≤ a
  · simp [h]
  · simp [h]
theorem spec_CrowdOk_eq (p a : Int) : spec_CrowdOk.f p a = some (CrB p a) := by
  unfold spec_CrowdOk.f CrB
  simp only [l1In_eq2, Option.bind_some]
  by_cases h : 1 ≤ p ∧ p ≤ 6
  · have hp := pow_small h.1 h.2
    simp only [decide_eq_true h, if_true, if_pos (show 0 ≤ p by omega), shl1 h.1 h.2]
    rw [wz (by omega) (by omega)]
    congr 1
    rw [decide_eq_decide]
    omega
  · simp only [decide_eq_false h, Bool.false_eq_true, if_false]
    congr 1
    symm
    rw [decide_eq_false_iff_not]
    omega

/-- How many of the first b bits are 1. -/
def pc : Nat → Int → Int
  | 0, _ => 0
  | b + 1, n => n % 2 + pc b (n / 2)
theorem pc_nonneg : ∀ (b : Nat) (n : Int), 0 ≤ pc b n ∧ pc b n ≤ b := by
  intro b
  induction b with
  | zero => intro n; simp [pc]
  | succ b ih => intro n; have := ih (n / 2); simp only [pc]; omega
theorem pc_zero : ∀ (b : Nat), pc b 0 = 0 := by
  intro b
  induction b with
  | zero => rfl
  | succ b ih => simp [pc, ih]
theorem spec_heads_l0 : ∀ (b : Nat) (n acc : Int), 0 ≤ n → n < 2 ^ b → 0 ≤ acc → acc + b ≤ 1000 → b ≤ 63 → Ev (fun k => spec_l1Heads.l0 k n acc) (acc + pc b n) := by
  intro b
  induction b with
  | zero =>
    intro n acc h0 h1 h2 h3 h4
    have : n = 0 := by simp at h1; omega
    subst this
    exact Ev.step (f := fun _ => some acc) (fun k => by rw [spec_l1Heads.l0, if_neg (by decide)]) (Ev.to (Ev.now _) (by simp [pc]))
  | succ b ih =>
    intro n acc h0 h1 h2 h3 h4
    by_cases hn : n = 0
    · subst hn
      exact Ev.step (f := fun _ => some acc) (fun k => by rw [spec_l1Heads.l0, if_neg (by decide)]) (Ev.to (Ev.now _) (by rw [pc_zero]; omega))
    · have h5 : n < 2 * 2 ^ b := by rw [Int.pow_succ] at h1; omega
      have h6 : (2 : Int) ^ b ≤ 4611686018427387904 := by
        have h7 : (2 : Nat) ^ b ≤ 2 ^ 62 := Nat.pow_le_pow_right (by decide) (by omega)
        have h8 : ((2 ^ b : Nat) : Int) ≤ ((2 ^ 62 : Nat) : Int) := Int.ofNat_le.2 h7
        rw [Int.natCast_pow] at h8
        exact h8
      have d1 : Int.tdiv n 2 = n / 2 := Int.tdiv_eq_ediv_of_nonneg h0
      have d2 : Int.tmod n 2 = n % 2 := Int.tmod_eq_emod_of_nonneg h0
      have e := ih (n / 2) (acc + n % 2) (by omega) (by omega) (by omega) (by omega) (by omega)
      have w1 : wrap64 (Int.tdiv n 2) = n / 2 := by rw [d1]; exact wz (by omega) (by omega)
      have w2 : wrap64 (acc + Int.tmod n 2) = acc + n % 2 := by rw [d2]; exact wz (by omega) (by omega)
      refine Ev.step (f := fun k => spec_l1Heads.l0 k (n / 2) (acc + n % 2)) (fun k => by rw [spec_l1Heads.l0, if_pos (by omega), w1, w2]) (Ev.to e (by simp only [pc]; omega))
/-- Heads of any number: none below zero. -/
def hdI (n : Int) : Int := if n < 0 then 0 else pc 63 n
theorem spec_heads_ev (n : Int) (h1 : n ≤ 9223372036854775807) : Ev (fun k => spec_l1Heads.f k n) (hdI n) := by
  unfold spec_l1Heads.f hdI
  by_cases hn : n < 0
  · rw [if_pos hn]
    exact Ev.step (f := fun _ => some 0) (fun k => by rw [spec_l1Heads.l0, if_neg (by omega)]) (Ev.now _)
  · rw [if_neg hn]
    exact Ev.to (spec_heads_l0 63 n 0 (by omega) (by simp; omega) (by omega) (by omega) (by omega)) (by omega)
theorem impl_heads_all : ∀ n : Fin 64, impl_headsOf.f (n.val : Int) = some (hdI (n.val : Int)) := by decide +kernel
theorem impl_heads {a : Int} (h0 : 0 ≤ a) (h1 : a < 64) : impl_headsOf.f a = some (hdI a) := by
  obtain ⟨n, rfl⟩ := Int.eq_ofNat_of_zero_le h0
  exact impl_heads_all ⟨n, by omega⟩
def PpB (p : Int) : Bool := decide (1 ≤ p ∧ p ≤ 6)
/-- A house: crowds of so many people, none empty, at most four. -/
def HsB (p : Int) (H : List Int) : Bool := H.all (fun c => CrB p c && !decide (c = 0)) && (PpB p && decide ((H.length : Int) ≤ 4))
theorem HsB_of {p : Int} {H : List Int} (h : HsB p H = true) : H.length ≤ 4 ∧ 1 ≤ p ∧ p ≤ 6 ∧ ∀ c ∈ H, 0 < c ∧ c < 64 := by
  unfold HsB PpB at h
  simp only [Bool.and_eq_true, decide_eq_true_eq, List.all_eq_true] at h
  obtain ⟨h1, ⟨h2, h3⟩, h4⟩ := h
  refine ⟨by omega, h2, h3, fun c hc => ?_⟩
  have := h1 c hc
  have cr := CrB_of this.1
  have ps := pow_small cr.1 cr.2.1
  have : ¬ c = 0 := by simpa using this.2
  omega
theorem arePeople_eq (p : Int) : impl_arePeople.f p = some (PpB p) := by
  unfold impl_arePeople.f PpB
  by_cases h : p ≥ 1
  · simp [h]
  · simp [h]
theorem impl_isHouse_l0 (p : Int) (H : List Int) (hn : H.length ≤ 1048576) : ∀ (zs : List Int) (i : Nat), H.drop i = zs → Ev (fun k => impl_isHouse.l0 k H (H.length : Int) (i : Int) p H) (zs.all (fun c => CrB p c && !decide (c = 0)) && (PpB p && decide ((H.length : Int) ≤ 4))) := by
  intro zs
  induction zs with
  | nil =>
    intro i h
    refine Ev.step (f := fun _ => some (PpB p && decide ((H.length : Int) ≤ 4))) (fun k => ?_) (Ev.to (Ev.now _) (by simp))
    rw [impl_isHouse.l0, if_neg (dnil h), arePeople_eq]
    cases PpB p <;> simp
  | cons z zs ih =>
    intro i h
    obtain ⟨h1, h2, h3⟩ := dcons h
    have e := ih (i + 1) h3
    have hi1 : (i : Int) < (H.length : Int) := by omega
    have hi0 : 0 ≤ (i : Int) := by omega
    cases hc : CrB p z with
    | false =>
      refine Ev.step (f := fun _ => some false) (fun k => ?_) (Ev.to (Ev.now _) (by simp [hc]))
      rw [impl_isHouse.l0, if_pos hi1, if_pos hi0, if_pos hi1, rdn, h2, impl_isCrowd_eq, hc]
      rfl
    | true =>
      by_cases hz : z = 0
      · refine Ev.step (f := fun _ => some false) (fun k => ?_) (Ev.to (Ev.now _) (by simp [hz]))
        rw [impl_isHouse.l0, if_pos hi1, if_pos hi0, if_pos hi1, rdn, h2, impl_isCrowd_eq, hc, Option.bind_some, if_pos rfl, if_pos hz]
      · refine Ev.step (fun k => ?_) (Ev.to e (by simp [hz, hc]))
        rw [impl_isHouse.l0, if_pos hi1, if_pos hi0, if_pos hi1, rdn, h2, impl_isCrowd_eq, hc, Option.bind_some, if_pos rfl, if_neg hz, wsucc h1 (by omega)]
theorem impl_isHouse_ev (p : Int) (H : List Int) (hn : H.length ≤ 1048576) : Ev (fun k => impl_isHouse.f k p H) (HsB p H) := impl_isHouse_l0 p H hn H 0 rfl
theorem spec_HouseOk_l0 (p : Int) (H : List Int) (hn : H.length ≤ 1048576) : ∀ (zs : List Int) (i : Nat), H.drop i = zs → Ev (fun k => spec_HouseOk.l0 k (i : Int) p H) (zs.all (fun c => CrB p c && !decide (c = 0)) && (PpB p && decide ((H.length : Int) ≤ 4))) := by
  intro zs
  induction zs with
  | nil =>
    intro i h
    refine Ev.step (f := fun _ => some (PpB p && decide ((H.length : Int) ≤ 4))) (fun k => ?_) (Ev.to (Ev.now _) (by simp))
    rw [spec_HouseOk.l0, if_neg (dnil h), l1In_eq2, Option.bind_some, show decide (1 ≤ p ∧ p ≤ 6) = PpB p from rfl]
    cases PpB p <;> simp
  | cons z zs ih =>
    intro i h
    obtain ⟨h1, h2, h3⟩ := dcons h
    have e := ih (i + 1) h3
    have hi1 : (i : Int) < (H.length : Int) := by omega
    have hi0 : 0 ≤ (i : Int) := by omega
    cases hc : CrB p z with
    | false =>
      refine Ev.step (f := fun _ => some false) (fun k => ?_) (Ev.to (Ev.now _) (by simp [hc]))
      rw [spec_HouseOk.l0, if_pos hi1, if_pos hi0, rdn, h2, spec_CrowdOk_eq, hc]
      rfl
    | true =>
      by_cases hz : z = 0
      · refine Ev.step (f := fun _ => some false) (fun k => ?_) (Ev.to (Ev.now _) (by simp [hz]))
        rw [spec_HouseOk.l0, if_pos hi1, if_pos hi0, rdn, h2, spec_CrowdOk_eq, hc, Option.bind_some, if_pos rfl, if_pos hz]
      · refine Ev.step (fun k => ?_) (Ev.to e (by simp [hz, hc]))
        rw [spec_HouseOk.l0, if_pos hi1, if_pos hi0, rdn, h2, spec_CrowdOk_eq, hc, Option.bind_some, if_pos rfl, if_neg hz, wsucc h1 (by omega)]
theorem spec_HouseOk_ev (p : Int) (H : List Int) (hn : H.length ≤ 1048576) : Ev (fun k => spec_HouseOk.f k p H) (HsB p H) := spec_HouseOk_l0 p H hn H 0 rfl
/-- A mark that names a crowd and how many of it. -/
def leafB (H : List Int) (m : S75) : Bool := decide (m.f0 = 0) && (decide (0 ≤ m.f1 ∧ m.f1 < H.length) && decide (1 ≤ m.f2 ∧ m.f2 ≤ hdI (rd H m.f1)))
def opB (m : S75) : Bool := (decide (m.f0 = 1) || decide (m.f0 = 2)) && (decide (m.f1 = 0) && decide (m.f2 = 0))
/-- Does the row of marks, from a pile of d on, end with a pile of one. -/
def tmF (H : List Int) : List S75 → Int → Bool
  | [], d => decide (d = 1)
  | m :: ms, d => if leafB H m = true then tmF H ms (d + 1) else if opB m = true then (if d < 2 then false else tmF H ms (d - 1)) else false
def TmB (p : Int) (H : List Int) (ms : List S75) : Bool := HsB p H && (decide ((ms.length : Int) ≤ 9) && tmF H ms 0)
theorem rdMk (xs : List S75) (i : Nat) : rd_T75 xs (i : Int) = xs.getD i z75 := by simp [rd_T75]
theorem impl_isTerm_l0 (p : Int) (H : List Int) (hH : HsB p H = true) (xs : List S75) (hn : xs.length ≤ 1048576) : ∀ (zs : List S75) (i : Nat) (d : Int), xs.drop i = zs → 0 ≤ d → d ≤ i → Ev (fun k => impl_isTerm.l0 k d xs (xs.length : Int) (i : Int) p H) (tmF H zs d) := by
  have hh := HsB_of hH
  intro zs
  induction zs with
  | nil =>
    intro i d h hd0 hd
    refine Ev.step (f := fun _ => some (d == 1)) (fun k => by rw [impl_isTerm.l0, if_neg (dnil h)]) (Ev.to (Ev.now _) ?_)
    unfold tmF
    by_cases e : d = 1 <;> simp [e]
  | cons z zs ih =>
    intro i d h hd0 hd
    obtain ⟨h1, h2, h3⟩ := dcons h
    have hi1 : (i : Int) < (xs.length : Int) := by omega
    have hi0 : 0 ≤ (i : Int) := by omega
    have wd : wrap64 (d + 1) = d + 1 := wz (by omega) (by omega)
    have wd2 : wrap64 (d - 1) = d - 1 := wz (by omega) (by omega)
    have stop (a : Bool) (ha : a = false) (b c e : Int) : ∀ k, impl_isTerm.j2 (k + 1) d xs (xs.length : Int) (i : Int) a p H b c e = some false := fun k => by rw [impl_isTerm.j2, ha, if_neg (by decide)]
    by_cases g0 : z.f0 = 0
    · have nop : opB z = false := by simp [opB, g0]
      by_cases g1 : z.f1 < 0
      · refine Ev.step (f := fun _ => some false) (fun k => ?_) (Ev.to (Ev.now _) ?_)
        · rw [impl_isTerm.l0, if_pos hi1, if_pos hi0, if_pos hi1, rdMk, h2, if_pos g0, if_pos g1]
        · unfold tmF; rw [if_neg (by simp [leafB]; omega), if_neg (by simp [nop])]
      by_cases g2 : z.f1 ≥ (H.length : Int)
      · refine Ev.step (f := fun _ => some false) (fun k => ?_) (Ev.to (Ev.now _) ?_)
        · rw [impl_isTerm.l0, if_pos hi1, if_pos hi0, if_pos hi1, rdMk, h2, if_pos g0, if_neg g1, if_pos g2]
        · unfold tmF; rw [if_neg (by simp [leafB]; omega), if_neg (by simp [nop])]
      have q1 : 0 ≤ z.f1 := by omega
      have q2 : z.f1 < (H.length : Int) := by omega
      by_cases g3 : z.f2 < 1
      · refine Ev.step (f := fun _ => some false) (fun k => ?_) (Ev.to (Ev.now _) ?_)
        · rw [impl_isTerm.l0, if_pos hi1, if_pos hi0, if_pos hi1, rdMk, h2, if_pos g0, if_neg g1, if_neg g2, if_pos g3]
        · unfold tmF; rw [if_neg (by simp [leafB]; omega), if_neg (by simp [nop])]
      have hm : rd H z.f1 ∈ H := by
        obtain ⟨n, hn2⟩ := Int.eq_ofNat_of_zero_le q1
        rw [hn2, rdn, List.getD_eq_getElem?_getD, List.getElem?_eq_getElem (show n < H.length by omega)]
        exact List.getElem_mem _
      have hr := hh.2.2.2 _ hm
      have hd1 := impl_heads (Int.le_of_lt hr.1) hr.2
      by_cases g4 : z.f2 > hdI (rd H z.f1)
      · refine Ev.step (f := fun _ => some false) (fun k => ?_) (Ev.to (Ev.now _) ?_)
        · rw [impl_isTerm.l0, if_pos hi1, if_pos hi0, if_pos hi1, rdMk, h2, if_pos g0, if_neg g1, if_neg g2, if_neg g3, if_pos q1, if_pos q2, hd1, Option.bind_some, if_pos g4]
        · unfold tmF; rw [if_neg (by simp [leafB]; omega), if_neg (by simp [nop])]
      · have lf : leafB H z = true := by
          unfold leafB
          rw [decide_eq_true g0, decide_eq_true (show 0 ≤ z.f1 ∧ z.f1 < (H.length : Int) from ⟨q1, q2⟩), decide_eq_true (show 1 ≤ z.f2 ∧ z.f2 ≤ hdI (rd H z.f1) by omega)]
          rfl
        refine Ev.step (fun k => ?_) (Ev.to (ih (i + 1) (d + 1) h3 (by omega) (by omega)) ?_)
        · rw [impl_isTerm.l0, if_pos hi1, if_pos hi0, if_pos hi1, rdMk, h2, if_pos g0, if_neg g1, if_neg g2, if_neg g3, if_pos q1, if_pos q2, hd1, Option.bind_some, if_neg g4, wd, wsucc h1 (by omega)]
        · rw [tmF, if_pos lf]
    · have nl : leafB H z = false := by unfold leafB; rw [decide_eq_false g0]; rfl
      refine Ev.step (f := fun k => impl_isTerm.j2 k d xs (xs.length : Int) (i : Int) (decide (z.f0 = 1) || decide (z.f0 = 2)) p H z.f0 z.f1 z.f2) (fun k => ?_) ?_
      · rw [impl_isTerm.l0, if_pos hi1, if_pos hi0, if_pos hi1, rdMk, h2, if_neg g0]
        by_cases g5 : z.f0 = 1
        · rw [if_pos g5]; simp [g5]
        · rw [if_neg g5]; simp only [decide_eq_false g5, Bool.false_or]; rfl
      · rw [tmF, nl, if_neg (by decide)]
        cases hop : (decide (z.f0 = 1) || decide (z.f0 = 2)) with
        | false => exact Ev.step (fun k => by rw [impl_isTerm.j2, if_neg (by decide)]) (Ev.to (Ev.now false) (by simp [opB, hop]))
        | true =>
          by_cases g6 : z.f1 = 0
          · by_cases g7 : z.f2 = 0
            · have hb : opB z = true := by simp [opB, hop, g6, g7]
              rw [if_pos hb]
              by_cases g8 : d < 2
              · rw [if_pos g8]
                exact Ev.step (fun k => by rw [impl_isTerm.j2, if_pos rfl, if_pos g6, if_pos g7, if_pos g8]) (Ev.now false)
              · rw [if_neg g8]
                exact Ev.step (fun k => by rw [impl_isTerm.j2, if_pos rfl, if_pos g6, if_pos g7, if_neg g8, wd2, wsucc h1 (by omega)]) (ih (i + 1) (d - 1) h3 (by omega) (by omega))
            · exact Ev.step (fun k => by rw [impl_isTerm.j2, if_pos rfl, if_pos g6, if_neg g7]) (Ev.to (Ev.now false) (by simp [opB, g7]))
          · exact Ev.step (fun k => by rw [impl_isTerm.j2, if_pos rfl, if_neg g6]) (Ev.to (Ev.now false) (by simp [opB, g6]))
theorem impl_isTerm_ev (p : Int) (H : List Int) (hn : H.length ≤ 1048576) (ms : List S75) (hm : ms.length ≤ 1048576) : Ev (fun k => impl_isTerm.f k p H ms) (TmB p H ms) := by
  have stop : Ev (fun k => impl_isTerm.j0 k ms true p H) false := Ev.step (f := fun _ => some false) (fun k => by rw [impl_isTerm.j0, if_pos rfl]) (Ev.now _)
  unfold impl_isTerm.f TmB
  refine Ev.bind (impl_isHouse_ev p H hn) ?_
  cases hH : HsB p H with
  | false => simp only [Bool.false_eq_true, if_false, Bool.false_and]; exact stop
  | true =>
    simp only [if_true, Bool.true_and]
    by_cases h1 : (ms.length : Int) < 1
    · simp only [if_pos h1]
      obtain rfl : ms = [] := List.eq_nil_of_length_eq_zero (by omega)
      exact Ev.to stop (by simp [tmF])
    · simp only [if_neg h1]
      by_cases h2 : (ms.length : Int) > 9
      · simp only [decide_eq_true h2]
        exact Ev.to stop (by rw [decide_eq_false (by omega)]; rfl)
      · simp only [decide_eq_false h2, decide_eq_true (show (ms.length : Int) ≤ 9 by omega), Bool.true_and]
        exact Ev.step (f := fun k => impl_isTerm.l0 k 0 ms (ms.length : Int) ((0 : Nat) : Int) p H) (fun k => by rw [impl_isTerm.j0, if_neg (by decide)]; rfl) (impl_isTerm_l0 p H hH ms hm ms 0 0 rfl (by omega) (by omega))
theorem spec_TermOk_l0 (p : Int) (H : List Int) (hn : H.length ≤ 1048576) (hc : ∀ c ∈ H, c ≤ 9223372036854775807) (xs : List S75) (hx : xs.length ≤ 1048576) : ∀ (zs : List S75) (i : Nat) (d : Int), xs.drop i = zs → 0 ≤ d → d ≤ i → Ev (fun k => spec_TermOk.l0 k xs d (i : Int) p H) (HsB p H && (decide ((xs.length : Int) ≤ 9) && tmF H zs d)) := by
  intro zs
  induction zs with
  | nil =>
    intro i d h hd0 hd
    refine Ev.step (f := fun k => (spec_HouseOk.f k p H).bind fun t => (if t = true then (if d = 1 then (some (decide ((xs.length : Int) ≤ 9))) else (some false)) else (some false))) (fun k => by rw [spec_TermOk.l0, if_neg (dnil h)]) (Ev.bind (spec_HouseOk_ev p H hn) ?_)
    unfold tmF
    cases HsB p H with
    | false => simp only [Bool.false_eq_true, if_false, Bool.false_and]; exact Ev.now _
    | true =>
      simp only [if_true, Bool.true_and]
      by_cases e : d = 1
      · simp only [if_pos e]; exact Ev.to (Ev.now _) (by simp [e])
      · simp only [if_neg e]; exact Ev.to (Ev.now _) (by simp [e])
  | cons z zs ih =>
    intro i d h hd0 hd
    obtain ⟨h1, h2, h3⟩ := dcons h
    have hi1 : (i : Int) < (xs.length : Int) := by omega
    have hi0 : 0 ≤ (i : Int) := by omega
    have wd : wrap64 (d + 1) = d + 1 := wz (by omega) (by omega)
    have wd2 : wrap64 (d - 1) = d - 1 := wz (by omega) (by omega)
    have wl : wrap64 ((H.length : Int) - 1) = (H.length : Int) - 1 := wz (by omega) (by omega)
    have j : Ev (fun k => spec_TermOk.j1 k xs d (i : Int) (leafB H z) p H) (HsB p H && (decide ((xs.length : Int) ≤ 9) && tmF H (z :: zs) d)) := by
      cases hl : leafB H z with
      | true => exact Ev.step (fun k => by rw [spec_TermOk.j1, if_pos rfl, wd, wsucc h1 (by omega)]) (Ev.to (ih (i + 1) (d + 1) h3 (by omega) (by omega)) (by rw [tmF, if_pos hl]))
      | false =>
        rw [tmF, hl, if_neg (by decide)]
        by_cases g1 : z.f0 = 1 ∧ z.f1 = 0 ∧ z.f2 = 0
        · have b1 : (z.f0 == 1 && (z.f1 == 0 && z.f2 == 0)) = true := by simp [g1]
          have hb : opB z = true := by simp [opB, g1]
          rw [if_pos hb]
          by_cases g8 : d < 2
          · rw [if_pos g8]
            exact Ev.step (fun k => by rw [spec_TermOk.j1, if_neg (by decide), if_pos hi0, if_pos hi1, rdMk, h2, if_pos b1, if_neg (by omega)]) (Ev.to (Ev.now false) (by simp))
          · rw [if_neg g8]
            exact Ev.step (fun k => by rw [spec_TermOk.j1, if_neg (by decide), if_pos hi0, if_pos hi1, rdMk, h2, if_pos b1, if_pos (by omega), wd2, wsucc h1 (by omega)]) (ih (i + 1) (d - 1) h3 (by omega) (by omega))
        · have b1 : ¬ (z.f0 == 1 && (z.f1 == 0 && z.f2 == 0)) = true := by simpa using g1
          by_cases g2 : z.f0 = 2 ∧ z.f1 = 0 ∧ z.f2 = 0
          · have b2 : (z.f0 == 2 && (z.f1 == 0 && z.f2 == 0)) = true := by simp [g2]
            have hb : opB z = true := by simp [opB, g2]
            rw [if_pos hb]
            by_cases g8 : d < 2
            · rw [if_pos g8]
              exact Ev.step (fun k => by rw [spec_TermOk.j1, if_neg (by decide), if_pos hi0, if_pos hi1, rdMk, h2, if_neg b1, if_pos b2, if_neg (by omega)]) (Ev.to (Ev.now false) (by simp))
            · rw [if_neg g8]
              exact Ev.step (fun k => by rw [spec_TermOk.j1, if_neg (by decide), if_pos hi0, if_pos hi1, rdMk, h2, if_neg b1, if_pos b2, if_pos (by omega), wd2, wsucc h1 (by omega)]) (ih (i + 1) (d - 1) h3 (by omega) (by omega))
          · have b2 : ¬ (z.f0 == 2 && (z.f1 == 0 && z.f2 == 0)) = true := by simpa using g2
            have hb : ¬ opB z = true := by
              unfold opB
              simp only [Bool.and_eq_true, Bool.or_eq_true, decide_eq_true_eq]
              omega
            rw [if_neg hb]
            exact Ev.step (fun k => by rw [spec_TermOk.j1, if_neg (by decide), if_pos hi0, if_pos hi1, rdMk, h2, if_neg b1, if_neg b2]) (Ev.to (Ev.now false) (by simp))
    by_cases g0 : z.f0 = 0
    · by_cases g1 : 0 ≤ z.f1 ∧ z.f1 < (H.length : Int)
      · have hm : rd H z.f1 ∈ H := by
          obtain ⟨n, hn2⟩ := Int.eq_ofNat_of_zero_le g1.1
          rw [hn2, rdn, List.getD_eq_getElem?_getD, List.getElem?_eq_getElem (show n < H.length by omega)]
          exact List.getElem_mem _
        refine Ev.step (f := fun k => (spec_l1Heads.f k (rd H z.f1)).bind fun t => (spec_l1In.f z.f2 1 t).bind fun u => spec_TermOk.j1 k xs d (i : Int) u p H) (fun k => ?_) (Ev.bind (spec_heads_ev _ (hc _ hm)) ?_)
        · rw [spec_TermOk.l0, if_pos hi1, if_pos hi0, rdMk, h2, if_pos g0, l1In_eq2, wl, Option.bind_some, decide_eq_true (show 0 ≤ z.f1 ∧ z.f1 ≤ (H.length : Int) - 1 by omega), if_pos rfl, if_pos g1.1, if_pos g1.2]
        · have e2 : leafB H z = decide (1 ≤ z.f2 ∧ z.f2 ≤ hdI (rd H z.f1)) := by unfold leafB; rw [decide_eq_true g0, decide_eq_true g1]; simp
          simp only [l1In_eq2, Option.bind_some]
          rw [← e2]
          exact j
      · have nl : leafB H z = false := by unfold leafB; rw [decide_eq_false g1]; simp
        rw [nl] at j
        exact Ev.step (fun k => by rw [spec_TermOk.l0, if_pos hi1, if_pos hi0, rdMk, h2, if_pos g0, l1In_eq2, wl, Option.bind_some, decide_eq_false (show ¬ (0 ≤ z.f1 ∧ z.f1 ≤ (H.length : Int) - 1) by omega), if_neg (by decide)]) j
    · have nl : leafB H z = false := by unfold leafB; rw [decide_eq_false g0]; rfl
      rw [nl] at j
      exact Ev.step (fun k => by rw [spec_TermOk.l0, if_pos hi1, if_pos hi0, rdMk, h2, if_neg g0]) j
theorem spec_TermOk_ev (p : Int) (H : List Int) (hn : H.length ≤ 1048576) (hc : ∀ c ∈ H, c ≤ 9223372036854775807) (ms : List S75) (hm : ms.length ≤ 1048576) : Ev (fun k => spec_TermOk.f k p H ms) (TmB p H ms) := spec_TermOk_l0 p H hn hc ms hm ms 0 0 rfl (by omega) (by omega)

theorem rdSt (xs : List S35) (i : Nat) : rd_T35 xs (i : Int) = xs.getD i z35 := by simp [rd_T35]

/-- A variant of so many offices' rows: its term, and the one it needs, if any, lies elsewhere. -/
def VtB (p : Int) (H : List Int) (R : List (List S35)) (x : Int) (v : S35) : Bool :=
  TmB p H v.f0 && (decide (v.f1 = -1 ∧ v.f2 = 0) || decide (0 ≤ v.f1 ∧ v.f1 < R.length ∧ v.f1 ≠ x ∧ 0 ≤ v.f2 ∧ v.f2 < ((rd_L4 R v.f1).length : Int)))
def cgF (p : Int) (H : List Int) (R : List (List S35)) : List (List S35) → Int → Bool
  | [], _ => true
  | r :: rs, x => (decide (1 ≤ (r.length : Int) ∧ (r.length : Int) ≤ 3) && r.all (VtB p H R x)) && cgF p H R rs (x + 1)
def CgB (p : Int) (H : List Int) (R : List (List S35)) : Bool := HsB p H && (decide (1 ≤ (R.length : Int) ∧ (R.length : Int) ≤ 3) && cgF p H R R 0)
theorem rdVV (xs : List (List S35)) (i : Nat) : rd_L4 xs (i : Int) = xs.getD i [] := by simp [rd_L4]
section
variable (p : Int) (H : List Int) (R : List (List S35))
theorem isCharter_l1 (hH : H.length ≤ 1048576) (x : Nat) (r : List S35) (hr : r.length ≤ 1048576) (hin : ∀ v ∈ r, v.f0.length ≤ 1048576) (b : Bool) (e : Ev (fun k => impl_isCharter.l0 k R (R.length : Int) (wrap64 ((x : Int) + 1)) p H R) b) : ∀ (zs : List S35) (j : Nat), r.drop j = zs → Ev (fun k => impl_isCharter.l1 k (x : Int) R (R.length : Int) (x : Int) r (r.length : Int) (j : Int) p H R) (zs.all (VtB p H R x) && b) := by
  intro zs
  induction zs with
  | nil =>
    intro j h
    exact Ev.step (fun k => by rw [impl_isCharter.l1, if_neg (dnil h)]) (Ev.to e (by simp))
  | cons z zs ih =>
    intro j h
    obtain ⟨h1, h2, h3⟩ := dcons h
    have hz : z ∈ r := List.mem_of_mem_drop (by rw [h]; simp)
    have e1 := ih (j + 1) h3
    have wj := wsucc h1 (show r.length ≤ 9223372036854775807 by omega)
    have j4 : Ev (fun k => impl_isCharter.j4 k (x : Int) R (R.length : Int) (x : Int) r (r.length : Int) (j : Int) (decide (z.f1 = -1 ∧ z.f2 = 0)) p H R z.f0 z.f1 z.f2) ((decide (z.f1 = -1 ∧ z.f2 = 0) || decide (0 ≤ z.f1 ∧ z.f1 < R.length ∧ z.f1 ≠ (x : Int) ∧ 0 ≤ z.f2 ∧ z.f2 < ((rd_L4 R z.f1).length : Int))) && (zs.all (VtB p H R x) && b)) := by
      by_cases g : z.f1 = -1 ∧ z.f2 = 0
      · rw [decide_eq_true g, Bool.true_or, Bool.true_and]
        exact Ev.step (fun k => by rw [impl_isCharter.j4, if_pos rfl, wj]) e1
      · rw [decide_eq_false g, Bool.false_or]
        by_cases g1 : z.f1 < 0
        · exact Ev.step (fun k => by rw [impl_isCharter.j4, if_neg (by decide), if_pos g1]) (Ev.to (Ev.now false) (by rw [decide_eq_false (by omega)]; rfl))
        by_cases g2 : z.f1 ≥ (R.length : Int)
        · exact Ev.step (fun k => by rw [impl_isCharter.j4, if_neg (by decide), if_neg g1, if_pos g2]) (Ev.to (Ev.now false) (by rw [decide_eq_false (by omega)]; rfl))
        by_cases g3 : z.f1 = (x : Int)
        · exact Ev.step (fun k => by rw [impl_isCharter.j4, if_neg (by decide), if_neg g1, if_neg g2, if_pos g3]) (Ev.to (Ev.now false) (by rw [decide_eq_false (by omega)]; rfl))
        by_cases g4 : z.f2 < 0
        · exact Ev.step (fun k => by rw [impl_isCharter.j4, if_neg (by decide), if_neg g1, if_neg g2, if_neg g3, if_pos g4]) (Ev.to (Ev.now false) (by rw [decide_eq_false (by omega)]; rfl))
        by_cases g5 : z.f2 ≥ ((rd_L4 R z.f1).length : Int)
        · exact Ev.step (fun k => by rw [impl_isCharter.j4, if_neg (by decide), if_neg g1, if_neg g2, if_neg g3, if_neg g4, if_pos (by omega), if_pos (by omega), if_pos g5]) (Ev.to (Ev.now false) (by rw [decide_eq_false (by omega)]; rfl))
        · refine Ev.step (fun k => by rw [impl_isCharter.j4, if_neg (by decide), if_neg g1, if_neg g2, if_neg g3, if_neg g4, if_pos (by omega), if_pos (by omega), if_neg g5, wj]) (Ev.to e1 ?_)
          rw [decide_eq_true (show 0 ≤ z.f1 ∧ z.f1 < (R.length : Int) ∧ z.f1 ≠ (x : Int) ∧ 0 ≤ z.f2 ∧ z.f2 < ((rd_L4 R z.f1).length : Int) by omega), Bool.true_and]
    refine Ev.step (f := fun k => (impl_isTerm.f k p H z.f0).bind fun t => if t = true then (impl_isCharter.j4 k (x : Int) R (R.length : Int) (x : Int) r (r.length : Int) (j : Int) (decide (z.f1 = -1 ∧ z.f2 = 0)) p H R z.f0 z.f1 z.f2) else (some false)) (fun k => ?_) (Ev.bind (impl_isTerm_ev p H hH _ (hin z hz)) ?_)
    · rw [impl_isCharter.l1, if_pos (by omega), if_pos (by omega), if_pos (by omega), rdSt, h2]
      by_cases g : z.f1 = -1
      · simp only [if_pos g]
        rw [show (z.f2 == 0) = decide (z.f1 = -1 ∧ z.f2 = 0) from by simp only [g, true_and]; rfl]
      · simp only [if_neg g]
        rw [show decide (z.f1 = -1 ∧ z.f2 = 0) = false from decide_eq_false (by omega)]
    · rw [List.all_cons, VtB]
      cases TmB p H z.f0 with
      | false => simp only [Bool.false_eq_true, if_false, Bool.false_and]; exact Ev.now _
      | true => simp only [if_true, Bool.true_and]; exact Ev.to j4 (by rw [Bool.and_assoc])
theorem isCharter_l0 (hH : H.length ≤ 1048576) (hR : R.length ≤ 1048576) (hin : ∀ r ∈ R, r.length ≤ 1048576 ∧ ∀ v ∈ r, v.f0.length ≤ 1048576) : ∀ (zs : List (List S35)) (i : Nat), R.drop i = zs → Ev (fun k => impl_isCharter.l0 k R (R.length : Int) (i : Int) p H R) (cgF p H R zs i) := by
  intro zs
  induction zs with
  | nil =>
    intro i h
    exact Ev.step (f := fun _ => some true) (fun k => by rw [impl_isCharter.l0, if_neg (dnil h)]) (Ev.now _)
  | cons z zs ih =>
    intro i h
    obtain ⟨h1, h2, h3⟩ := dcons h
    have hz : z ∈ R := List.mem_of_mem_drop (by rw [h]; simp)
    have e := ih (i + 1) h3
    have e : Ev (fun k => impl_isCharter.l0 k R (R.length : Int) (wrap64 ((i : Int) + 1)) p H R) (cgF p H R zs ((i : Int) + 1)) := by
      rw [wsucc h1 (by omega)]
      exact e
    have e1 := isCharter_l1 p H R hH i z (hin z hz).1 (hin z hz).2 _ e z 0 rfl
    have stop : Ev (fun k => impl_isCharter.j2 k (i : Int) z R (R.length : Int) (i : Int) true p H R) false := Ev.step (fun k => by rw [impl_isCharter.j2, if_pos rfl]) (Ev.now false)
    rw [cgF]
    by_cases g1 : (z.length : Int) < 1
    · exact Ev.step (fun k => by rw [impl_isCharter.l0, if_pos (by omega), if_pos (by omega), if_pos (by omega), rdVV, h2, if_pos g1]) (Ev.to stop (by rw [decide_eq_false (by omega)]; rfl))
    by_cases g2 : (z.length : Int) > 3
    · exact Ev.step (fun k => by rw [impl_isCharter.l0, if_pos (by omega), if_pos (by omega), if_pos (by omega), rdVV, h2, if_neg g1, decide_eq_true g2]) (Ev.to stop (by rw [decide_eq_false (by omega)]; rfl))
    · refine Ev.step (f := fun k => impl_isCharter.j2 k (i : Int) z R (R.length : Int) (i : Int) false p H R) (fun k => by rw [impl_isCharter.l0, if_pos (by omega), if_pos (by omega), if_pos (by omega), rdVV, h2, if_neg g1, decide_eq_false g2]) ?_
      refine Ev.step (fun k => by rw [impl_isCharter.j2, if_neg (by decide)]; rfl) (Ev.to e1 ?_)
      rw [decide_eq_true (show 1 ≤ (z.length : Int) ∧ (z.length : Int) ≤ 3 by omega), Bool.true_and]
theorem isCharter_ev (hH : H.length ≤ 1048576) (hR : R.length ≤ 1048576) (hin : ∀ r ∈ R, r.length ≤ 1048576 ∧ ∀ v ∈ r, v.f0.length ≤ 1048576) : Ev (fun k => impl_isCharter.f k p H R) (CgB p H R) := by
  have stop : Ev (fun k => impl_isCharter.j0 k true p H R) false := Ev.step (fun k => by rw [impl_isCharter.j0, if_pos rfl]) (Ev.now false)
  unfold impl_isCharter.f CgB
  refine Ev.bind (impl_isHouse_ev p H hH) ?_
  cases HsB p H with
  | false => simp only [Bool.false_eq_true, if_false, Bool.false_and]; exact stop
  | true =>
    simp only [if_true, Bool.true_and]
    by_cases g1 : (R.length : Int) < 1
    · simp only [if_pos g1]; exact Ev.to stop (by rw [decide_eq_false (by omega)]; rfl)
    · simp only [if_neg g1]
      by_cases g2 : (R.length : Int) > 3
      · simp only [decide_eq_true g2]; exact Ev.to stop (by rw [decide_eq_false (by omega)]; rfl)
      · rw [decide_eq_true (show 1 ≤ (R.length : Int) ∧ (R.length : Int) ≤ 3 by omega), Bool.true_and]
        simp only [decide_eq_false g2]
        exact Ev.step (fun k => by rw [impl_isCharter.j0, if_neg (by decide)]; rfl) (isCharter_l0 p H R hH hR hin R 0 rfl)
theorem CharterOk_l1 (hH : H.length ≤ 1048576) (hh : ∀ c ∈ H, c ≤ 9223372036854775807) (hR : R.length ≤ 1048576) (hRin : ∀ r ∈ R, r.length ≤ 1048576) (x : Nat) (hx : x < R.length) (r : List S35) (hxr : R.getD x [] = r) (hr : r.length ≤ 1048576) (hin : ∀ v ∈ r, v.f0.length ≤ 1048576) (b : Bool) (e : Ev (fun k => spec_CharterOk.l0 k (wrap64 ((x : Int) + 1)) p H R) b) : ∀ (zs : List S35) (j : Nat), r.drop j = zs → Ev (fun k => spec_CharterOk.l1 k (x : Int) (j : Int) p H R) (zs.all (VtB p H R x) && b) := by
  have wr : wrap64 ((R.length : Int) - 1) = (R.length : Int) - 1 := wz (by omega) (by omega)
  intro zs
  induction zs with
  | nil =>
    intro j h
    exact Ev.step (fun k => by rw [spec_CharterOk.l1, if_pos (by omega), if_pos (by omega), rdVV, hxr, if_neg (dnil h)]) (Ev.to e (by simp))
  | cons z zs ih =>
    intro j h
    obtain ⟨h1, h2, h3⟩ := dcons h
    have hz : z ∈ r := List.mem_of_mem_drop (by rw [h]; simp)
    have e1 := ih (j + 1) h3
    have wj := wsucc h1 (show r.length ≤ 9223372036854775807 by omega)
    have j2 : Ev (fun k => spec_CharterOk.j2 k (x : Int) (j : Int) (decide (z.f1 = -1 ∧ z.f2 = 0)) p H R z.f0 z.f1 z.f2) (VtB p H R x z && (zs.all (VtB p H R x) && b)) := by
      refine Ev.step (f := fun k => (spec_TermOk.f k p H z.f0).bind fun t151 => (if t151 = true then (if (decide (z.f1 = -1 ∧ z.f2 = 0)) = true then (spec_CharterOk.l1 k (x : Int) ((j + 1 : Nat) : Int) p H R) else (if z.f1 = (x : Int) then (some false) else ((spec_l1In.f z.f1 0 ((R.length : Int) - 1)).bind fun t152 => (if t152 = true then (if 0 ≤ z.f1 then (if z.f1 < (R.length : Int) then ((spec_l1In.f z.f2 0 (wrap64 (((rd_L4 R z.f1).length : Int) - 1))).bind fun t154 => (if t154 = true then (spec_CharterOk.l1 k (x : Int) ((j + 1 : Nat) : Int) p H R) else (some false))) else (none)) else (none)) else (some false))))) else (some false))) (fun k => by rw [spec_CharterOk.j2, wj, wr]) (Ev.bind (spec_TermOk_ev p H hH hh _ (hin z hz)) ?_)
      rw [VtB]
      cases TmB p H z.f0 with
      | false => simp only [Bool.false_eq_true, if_false, Bool.false_and]; exact Ev.now _
      | true =>
        simp only [if_true, Bool.true_and]
        by_cases g : z.f1 = -1 ∧ z.f2 = 0
        · rw [decide_eq_true g]
          simp only [if_true, Bool.true_or, Bool.true_and]
          exact e1
        · rw [decide_eq_false g]
          simp only [Bool.false_eq_true, if_false, Bool.false_or]
          by_cases g3 : z.f1 = (x : Int)
          · simp only [if_pos g3]
            exact Ev.to (Ev.now false) (by rw [decide_eq_false (by omega)]; rfl)
          · simp only [if_neg g3, l1In_eq2, Option.bind_some]
            by_cases g1 : 0 ≤ z.f1 ∧ z.f1 ≤ (R.length : Int) - 1
            · have q1 : 0 ≤ z.f1 := g1.1
              have q2 : z.f1 < (R.length : Int) := by omega
              have hl : (rd_L4 R z.f1).length ≤ 1048576 := by
                obtain ⟨n, hn⟩ := Int.eq_ofNat_of_zero_le q1
                rw [hn, rdVV, List.getD_eq_getElem?_getD, List.getElem?_eq_getElem (show n < R.length by omega)]
                exact hRin _ (List.getElem_mem _)
              have wl : wrap64 (((rd_L4 R z.f1).length : Int) - 1) = ((rd_L4 R z.f1).length : Int) - 1 := wz (by omega) (by omega)
              simp only [decide_eq_true g1, if_true, if_pos q1, if_pos q2, wl]
              by_cases g5 : 0 ≤ z.f2 ∧ z.f2 ≤ ((rd_L4 R z.f1).length : Int) - 1
              · simp only [decide_eq_true g5, if_true]
                refine Ev.to e1 ?_
                rw [decide_eq_true (show 0 ≤ z.f1 ∧ z.f1 < (R.length : Int) ∧ z.f1 ≠ (x : Int) ∧ 0 ≤ z.f2 ∧ z.f2 < ((rd_L4 R z.f1).length : Int) by omega), Bool.true_and]
              · simp only [decide_eq_false g5, Bool.false_eq_true, if_false]
                exact Ev.to (Ev.now false) (by rw [decide_eq_false (by omega)]; rfl)
            · simp only [decide_eq_false g1, Bool.false_eq_true, if_false]
              exact Ev.to (Ev.now false) (by rw [decide_eq_false (by omega)]; rfl)
    refine Ev.step (fun k => ?_) (Ev.to j2 (by rw [List.all_cons, Bool.and_assoc]))
    rw [spec_CharterOk.l1, if_pos (by omega), if_pos (by omega), rdVV, hxr, if_pos (by omega), if_pos (by omega), rdSt, h2]
    by_cases g : z.f1 = -1
    · rw [if_pos g]
      rw [show (z.f2 == 0) = decide (z.f1 = -1 ∧ z.f2 = 0) from by simp only [g, true_and]; rfl]
    · rw [if_neg g]
      rw [show decide (z.f1 = -1 ∧ z.f2 = 0) = false from decide_eq_false (by omega)]
theorem CharterOk_l0 (hH : H.length ≤ 1048576) (hh : ∀ c ∈ H, c ≤ 9223372036854775807) (hR : R.length ≤ 1048576) (hin : ∀ r ∈ R, r.length ≤ 1048576 ∧ ∀ v ∈ r, v.f0.length ≤ 1048576) : ∀ (zs : List (List S35)) (i : Nat), R.drop i = zs → Ev (fun k => spec_CharterOk.l0 k (i : Int) p H R) (cgF p H R zs i && (HsB p H && decide (1 ≤ (R.length : Int) ∧ (R.length : Int) ≤ 3))) := by
  intro zs
  induction zs with
  | nil =>
    intro i h
    refine Ev.step (f := fun k => (spec_HouseOk.f k p H).bind fun t => (if t = true then ((spec_l1In.f (R.length : Int) 1 3).bind fun t144 => (some t144)) else (some false))) (fun k => by rw [spec_CharterOk.l0, if_neg (dnil h)]) (Ev.bind (spec_HouseOk_ev p H hH) ?_)
    cases HsB p H with
    | false => simp only [Bool.false_eq_true, if_false, Bool.false_and]; exact Ev.now _
    | true => simp only [if_true, l1In_eq2, Option.bind_some, Bool.true_and]; exact Ev.now _
  | cons z zs ih =>
    intro i h
    obtain ⟨h1, h2, h3⟩ := dcons h
    have hz : z ∈ R := List.mem_of_mem_drop (by rw [h]; simp)
    have e := ih (i + 1) h3
    have e : Ev (fun k => spec_CharterOk.l0 k (wrap64 ((i : Int) + 1)) p H R) (cgF p H R zs ((i : Int) + 1) && (HsB p H && decide (1 ≤ (R.length : Int) ∧ (R.length : Int) ≤ 3))) := by
      rw [wsucc h1 (by omega)]
      exact e
    have e1 := CharterOk_l1 p H R hH hh hR (fun r hr => (hin r hr).1) i h1 z (h2 _) (hin z hz).1 (hin z hz).2 _ e z 0 rfl
    rw [cgF]
    by_cases g : 1 ≤ (z.length : Int) ∧ (z.length : Int) ≤ 3
    · refine Ev.step (fun k => by rw [spec_CharterOk.l0, if_pos (by omega), if_pos (by omega), rdVV, h2, l1In_eq2, decide_eq_true g, Option.bind_some, if_pos rfl]; rfl) (Ev.to e1 ?_)
      rw [decide_eq_true g, Bool.true_and, Bool.and_assoc]
    · refine Ev.step (fun k => by rw [spec_CharterOk.l0, if_pos (by omega), if_pos (by omega), rdVV, h2, l1In_eq2, decide_eq_false g, Option.bind_some, if_neg (by decide)]) (Ev.to (Ev.now false) ?_)
      rw [decide_eq_false g]
      rfl
theorem spec_CharterOk_ev (hH : H.length ≤ 1048576) (hh : ∀ c ∈ H, c ≤ 9223372036854775807) (hR : R.length ≤ 1048576) (hin : ∀ r ∈ R, r.length ≤ 1048576 ∧ ∀ v ∈ r, v.f0.length ≤ 1048576) : Ev (fun k => spec_CharterOk.f k p H R) (CgB p H R) := by
  refine Ev.to (CharterOk_l0 p H R hH hh hR hin R 0 rfl) ?_
  unfold CgB
  cases cgF p H R R ((0 : Nat) : Int) <;> cases HsB p H <;> simp_all
end

theorem eqIntS_l0 (xs : List Int) (hn : xs.length ≤ 9223372036854775807) : ∀ (ys : List Int) (i : Nat), xs.drop i = ys → Ev (fun k => laws_eqIntS.l0 k xs xs (i : Int)) true := by
  intro ys
  induction ys with
  | nil =>
    intro i h
    exact Ev.step (f := fun _ => some true) (fun k => by rw [laws_eqIntS.l0, if_neg (dnil h)]) (Ev.now _)
  | cons y ys ih =>
    intro i h
    obtain ⟨h1, h2, h3⟩ := dcons h
    refine Ev.step (f := fun k => laws_eqIntS.l0 k xs xs ((i + 1 : Nat) : Int)) (fun k => ?_) (ih (i + 1) h3)
    rw [laws_eqIntS.l0, if_pos (by omega), if_pos (by omega), if_pos (by omega), if_pos rfl, wsucc h1 hn]
theorem eqIntS_ev (xs : List Int) (hn : xs.length ≤ 9223372036854775807) : Ev (fun k => laws_eqIntS.f k xs xs) true := by
  unfold laws_eqIntS.f
  simp only [if_true]
  exact eqIntS_l0 xs hn xs 0 rfl

theorem szIntS_small {l : List Int} (hp : l.length ≤ 9223372036854775807) (b : Int) (h0 : 0 ≤ b) (hb : b ≤ 1048576) : ∃ r, laws_szIntS.f l b = some r ∧ (¬ r < 0 → r ≤ 1048576 ∧ l.length ≤ 1048576) := by
  unfold laws_szIntS.f
  rw [wz (by omega) (by omega)]
  by_cases h : (b - (l.length : Int)) < 0
  · exact ⟨-1, by rw [if_pos h], by omega⟩
  · exact ⟨_, by rw [if_neg h], by omega⟩
theorem toIntS_l0 (l : List Int) (hn : l.length ≤ 9223372036854775807) : ∀ (ys : List Int) (i : Nat), l.drop i = ys → Ev (fun k => laws_toIntS.l0 k l ((l.take i).map id ++ List.replicate (l.length - i) 0) (i : Int)) (l.map id) := by
  intro ys
  induction ys with
  | nil =>
    intro i h
    have hi := List.drop_eq_nil_iff.1 h
    refine Ev.step (f := fun _ => some (l.map id)) (fun k => ?_) (Ev.now _)
    rw [laws_toIntS.l0, if_neg (dnil h), List.take_of_length_le hi, show l.length - i = 0 by omega]
    simp
  | cons y ys ih =>
    intro i h
    obtain ⟨h1, h2, h3⟩ := dcons h
    refine Ev.step (f := fun k => laws_toIntS.l0 k l ((l.take (i + 1)).map id ++ List.replicate (l.length - (i + 1)) 0) ((i + 1 : Nat) : Int)) (fun k => ?_) (ih (i + 1) h3)
    rw [laws_toIntS.l0, if_pos (by omega), if_pos (by omega), rdn, h2, if_pos (by simp <;> omega), wsucc h1 hn, ← set_mid l id 0 h]
    rfl
theorem toIntS_ev (l : List Int) (hn : l.length ≤ 1048576) : Ev (fun k => laws_toIntS.f k l) l := by
  unfold laws_toIntS.f
  simp only [if_pos (show 0 ≤ (l.length : Int) by omega), if_pos (show ((l.length : Int)).toNat ≤ 35184372088832 by omega)]
  have := toIntS_l0 l (by omega) l 0 rfl
  simpa using this

def cMk (x : S97) : S75 := ⟨x.f0, x.f1, x.f2⟩
def cSt (x : S84) : S35 := ⟨x.f0.map cMk, x.f1, x.f2⟩
theorem rdLM (xs : List S97) (i : Nat) : rd_T97 xs (i : Int) = xs.getD i z97 := by simp [rd_T97]
theorem rdLS (xs : List S84) (i : Nat) : rd_T84 xs (i : Int) = xs.getD i z84 := by simp [rd_T84]
theorem szHouse_small {p : Int} {H : List Int} (hp : H.length ≤ 9223372036854775807) : ∃ r, laws_szHouse.f p H 1048576 = some r ∧ (¬ r < 0 → r ≤ 1048576 ∧ H.length ≤ 1048576) := by
  obtain ⟨r, hr, hs⟩ := szIntS_small hp 1048576 (by omega) (by omega)
  unfold laws_szHouse.f
  rw [hr]
  by_cases h : r < 0
  · exact ⟨-1, by simp only [Option.bind_some, if_pos h], by omega⟩
  · exact ⟨r, by simp only [Option.bind_some, if_neg h], hs⟩
theorem szMarkS_small {l : List S97} (hp : l.length ≤ 9223372036854775807) (b : Int) (h0 : 0 ≤ b) (hb : b ≤ 1048576) : ∃ r, laws_szMarkS.f l b = some r ∧ (¬ r < 0 → r ≤ 1048576 ∧ l.length ≤ 1048576) := by
  unfold laws_szMarkS.f
  rw [wz (by omega) (by omega)]
  by_cases h : (b - (l.length : Int)) < 0
  · exact ⟨-1, by rw [if_pos h], by omega⟩
  · exact ⟨_, by rw [if_neg h], by omega⟩
theorem szVariant_small {l : List S97} (x y : Int) (hp : l.length ≤ 9223372036854775807) (b : Int) (h0 : 0 ≤ b) (hb : b ≤ 1048576) : ∃ r, laws_szVariant.f l x y b = some r ∧ (¬ r < 0 → r ≤ 1048576 ∧ l.length ≤ 1048576) := by
  obtain ⟨r, hr, hs⟩ := szMarkS_small hp b h0 hb
  unfold laws_szVariant.f
  rw [hr]
  by_cases h : r < 0
  · exact ⟨-1, by simp only [Option.bind_some, if_pos h], by omega⟩
  · exact ⟨r, by simp only [Option.bind_some, if_neg h], hs⟩
theorem szVariantS_l0 (L : List S84) (hL : L.length ≤ 9223372036854775807) (hp : ∀ l ∈ L, l.f0.length ≤ 9223372036854775807) : ∀ (zs : List S84) (i : Nat) (b : Int), 0 ≤ b → b ≤ 1048576 → L.drop i = zs → ∃ r, Ev (fun k => laws_szVariantS.l0 k L b (i : Int)) r ∧ (¬ r < 0 → r ≤ 1048576 ∧ ∀ l ∈ zs, l.f0.length ≤ 1048576) := by
  intro zs
  induction zs with
  | nil =>
    intro i b h0 hb h
    exact ⟨b, Ev.step (f := fun _ => some b) (fun k => by rw [laws_szVariantS.l0, if_neg (dnil h)]) (Ev.now _), fun _ => ⟨hb, by simp⟩⟩
  | cons z zs ih =>
    intro i b h0 hb h
    obtain ⟨h1, h2, h3⟩ := dcons h
    have hz : z ∈ L := List.mem_of_mem_drop (by rw [h]; simp)
    obtain ⟨r, hr, hs⟩ := szVariant_small z.f1 z.f2 (hp z hz) b h0 hb
    by_cases h4 : r < 0
    · refine ⟨-1, Ev.step (f := fun _ => some (-1)) (fun k => ?_) (Ev.now _), by omega⟩
      rw [laws_szVariantS.l0, if_pos (by omega), if_pos (by omega), rdLS, h2, hr]
      simp only [Option.bind_some, if_pos h4]
    · obtain ⟨q, hq, ht⟩ := ih (i + 1) r (by omega) (hs h4).1 h3
      refine ⟨q, Ev.step (f := fun k => laws_szVariantS.l0 k L r ((i + 1 : Nat) : Int)) (fun k => ?_) hq, fun h5 => ⟨(ht h5).1, fun l hl => ?_⟩⟩
      · rw [laws_szVariantS.l0, if_pos (by omega), if_pos (by omega), rdLS, h2, hr]
        simp only [Option.bind_some, if_neg h4]
        rw [wsucc h1 hL]
      · rcases List.mem_cons.1 hl with rfl | hl
        · exact (hs h4).2
        · exact (ht h5).2 l hl
theorem szVariantS_small {L : List S84} (hL : L.length ≤ 9223372036854775807) (hp : ∀ l ∈ L, l.f0.length ≤ 9223372036854775807) (b : Int) (h0 : 0 ≤ b) (hb : b ≤ 1048576) : ∃ r, Ev (fun k => laws_szVariantS.f k L b) r ∧ (¬ r < 0 → r ≤ 1048576 ∧ L.length ≤ 1048576 ∧ ∀ l ∈ L, l.f0.length ≤ 1048576) := by
  unfold laws_szVariantS.f
  rw [wz (by omega) (by omega)]
  by_cases h : (b - (L.length : Int)) < 0
  · exact ⟨-1, by simp only [if_pos h]; exact Ev.now _, by omega⟩
  · obtain ⟨r, hr, hs⟩ := szVariantS_l0 L hL hp L 0 (b - L.length) (by omega) (by omega) rfl
    exact ⟨r, by simp only [if_neg h]; exact hr, fun h5 => ⟨(hs h5).1, by omega, (hs h5).2⟩⟩
theorem toHouse_ev (p : Int) (H : List Int) (hH : H.length ≤ 1048576) : Ev (fun k => laws_toHouse.f k p H) (p, H) := by
  unfold laws_toHouse.f
  exact Ev.bind (toIntS_ev H hH) (Ev.now _)
theorem toMarkS_l0 (l : List S97) (hn : l.length ≤ 9223372036854775807) : ∀ (ys : List S97) (i : Nat), l.drop i = ys → Ev (fun k => laws_toMarkS.l0 k l ((l.take i).map cMk ++ List.replicate (l.length - i) z75) (i : Int)) (l.map cMk) := by
  intro ys
  induction ys with
  | nil =>
    intro i h
    have hi := List.drop_eq_nil_iff.1 h
    refine Ev.step (f := fun _ => some (l.map cMk)) (fun k => ?_) (Ev.now _)
    rw [laws_toMarkS.l0, if_neg (dnil h), List.take_of_length_le hi, show l.length - i = 0 by omega]
    simp
  | cons y ys ih =>
    intro i h
    obtain ⟨h1, h2, h3⟩ := dcons h
    refine Ev.step (f := fun k => laws_toMarkS.l0 k l ((l.take (i + 1)).map cMk ++ List.replicate (l.length - (i + 1)) z75) ((i + 1 : Nat) : Int)) (fun k => ?_) (ih (i + 1) h3)
    rw [laws_toMarkS.l0, if_pos (by omega), if_pos (by omega), rdLM, h2]
    unfold laws_toMark.f
    simp only [Option.bind_some]
    rw [if_pos (by simp <;> omega), wsucc h1 hn, ← set_mid l cMk z75 h]
    simp [cMk]
theorem toMarkS_ev (l : List S97) (hn : l.length ≤ 1048576) : Ev (fun k => laws_toMarkS.f k l) (l.map cMk) := by
  unfold laws_toMarkS.f
  simp only [if_pos (show 0 ≤ (l.length : Int) by omega), if_pos (show ((l.length : Int)).toNat ≤ 11728124029610 by omega)]
  have := toMarkS_l0 l (by omega) l 0 rfl
  simpa using this
theorem toVariantS_l0 (l : List S84) (hn : l.length ≤ 9223372036854775807) (hin : ∀ x ∈ l, x.f0.length ≤ 1048576) : ∀ (ys : List S84) (i : Nat), l.drop i = ys → Ev (fun k => laws_toVariantS.l0 k l ((l.take i).map cSt ++ List.replicate (l.length - i) z35) (i : Int)) (l.map cSt) := by
  intro ys
  induction ys with
  | nil =>
    intro i h
    have hi := List.drop_eq_nil_iff.1 h
    refine Ev.step (f := fun _ => some (l.map cSt)) (fun k => ?_) (Ev.now _)
    rw [laws_toVariantS.l0, if_neg (dnil h), List.take_of_length_le hi, show l.length - i = 0 by omega]
    simp
  | cons y ys ih =>
    intro i h
    obtain ⟨h1, h2, h3⟩ := dcons h
    have hy : y ∈ l := List.mem_of_mem_drop (by rw [h]; simp)
    have hc : (i : Int) < (((l.take i).map cSt ++ List.replicate (l.length - i) z35).length : Int) := by simp <;> omega
    refine Ev.step (f := fun k => (laws_toMarkS.f k y.f0).bind fun t => laws_toVariantS.l0 k l (((l.take i).map cSt ++ List.replicate (l.length - i) z35).set i ⟨t, y.f1, y.f2⟩) ((i + 1 : Nat) : Int)) (fun k => ?_) (Ev.bind (toMarkS_ev y.f0 (hin y hy)) ?_)
    · rw [laws_toVariantS.l0, if_pos (by omega), if_pos (by omega), rdLS, h2]
      unfold laws_toVariant.f
      simp only [if_pos hc, wsucc h1 hn, Option.bind_assoc, Option.bind_some]
      rfl
    · have e := ih (i + 1) h3
      rw [← set_mid l cSt z35 h] at e
      exact e
theorem toVariantS_ev (l : List S84) (hn : l.length ≤ 1048576) (hin : ∀ x ∈ l, x.f0.length ≤ 1048576) : Ev (fun k => laws_toVariantS.f k l) (l.map cSt) := by
  unfold laws_toVariantS.f
  simp only [if_pos (show 0 ≤ (l.length : Int) by omega), if_pos (show ((l.length : Int)).toNat ≤ 7036874417766 by omega)]
  have := toVariantS_l0 l (by omega) hin l 0 rfl
  simpa using this
theorem eqHouse_ev (p : Int) (H : List Int) (hH : H.length ≤ 1048576) : Ev (fun k => laws_eqHouse.f k p H p H) true := by
  unfold laws_eqHouse.f
  simp only [if_true]
  refine Ev.bind (eqIntS_ev H (by omega)) ?_
  simp only [if_true]
  exact Ev.now _
theorem eqMark_refl (a b c : Int) : laws_eqMark.f a b c a b c = some true := by
  unfold laws_eqMark.f
  simp
theorem eqMarkS_l0 (xs : List S75) (hn : xs.length ≤ 9223372036854775807) : ∀ (ys : List S75) (i : Nat), xs.drop i = ys → Ev (fun k => laws_eqMarkS.l0 k xs xs (i : Int)) true := by
  intro ys
  induction ys with
  | nil =>
    intro i h
    exact Ev.step (f := fun _ => some true) (fun k => by rw [laws_eqMarkS.l0, if_neg (dnil h)]) (Ev.now _)
  | cons y ys ih =>
    intro i h
    obtain ⟨h1, h2, h3⟩ := dcons h
    refine Ev.step (f := fun k => laws_eqMarkS.l0 k xs xs ((i + 1 : Nat) : Int)) (fun k => ?_) (ih (i + 1) h3)
    rw [laws_eqMarkS.l0, if_pos (by omega), if_pos (by omega), if_pos (by omega), eqMark_refl, wsucc h1 hn]
    rfl
theorem eqMarkS_ev (xs : List S75) (hn : xs.length ≤ 9223372036854775807) : Ev (fun k => laws_eqMarkS.f k xs xs) true := by
  unfold laws_eqMarkS.f
  simp only [if_true]
  exact eqMarkS_l0 xs hn xs 0 rfl
theorem eqVariantS_l0 (xs : List S35) (hn : xs.length ≤ 9223372036854775807) (hin : ∀ x ∈ xs, x.f0.length ≤ 1048576) : ∀ (ys : List S35) (i : Nat), xs.drop i = ys → Ev (fun k => laws_eqVariantS.l0 k xs xs (i : Int)) true := by
  intro ys
  induction ys with
  | nil =>
    intro i h
    exact Ev.step (f := fun _ => some true) (fun k => by rw [laws_eqVariantS.l0, if_neg (dnil h)]) (Ev.now _)
  | cons y ys ih =>
    intro i h
    obtain ⟨h1, h2, h3⟩ := dcons h
    have hy : y ∈ xs := List.mem_of_mem_drop (by rw [h]; simp)
    have := hin y hy
    have st : Ev (fun k => laws_eqVariant.f k y.f0 y.f1 y.f2 y.f0 y.f1 y.f2) true := by
      unfold laws_eqVariant.f
      refine Ev.bind (eqMarkS_ev y.f0 (by omega)) ?_
      simp only [if_true]
      exact Ev.now _
    refine Ev.step (f := fun k => (laws_eqVariant.f k y.f0 y.f1 y.f2 y.f0 y.f1 y.f2).bind fun t => if t = true then laws_eqVariantS.l0 k xs xs ((i + 1 : Nat) : Int) else some false) (fun k => ?_) (Ev.bind st (by simp only [if_true]; exact ih (i + 1) h3))
    rw [laws_eqVariantS.l0, if_pos (by omega), if_pos (by omega), if_pos (by omega), rdSt, h2, wsucc h1 hn]
theorem eqVariantS_ev (xs : List S35) (hn : xs.length ≤ 9223372036854775807) (hin : ∀ x ∈ xs, x.f0.length ≤ 1048576) : Ev (fun k => laws_eqVariantS.f k xs xs) true := by
  unfold laws_eqVariantS.f
  simp only [if_true]
  exact eqVariantS_l0 xs hn hin xs 0 rfl
theorem wf_le {n : Int} (h : Opens.pInt .i64 n) : n ≤ 9223372036854775807 := by
  unfold Opens.pInt Lit.wf at h
  simp at h
  omega

theorem rdLVV (xs : List (List S84)) (i : Nat) : rd_L8 xs (i : Int) = xs.getD i [] := by simp [rd_L8]
def cVs (l : List S84) : List S35 := l.map cSt
def GoodRows (zs : List (List S84)) : Prop := ∀ r ∈ zs, r.length ≤ 1048576 ∧ ∀ v ∈ r, v.f0.length ≤ 1048576
theorem szVariantSS_l0 (L : List (List S84)) (hL : L.length ≤ 9223372036854775807) (hp : ∀ l ∈ L, l.length ≤ 9223372036854775807 ∧ ∀ v ∈ l, v.f0.length ≤ 9223372036854775807) : ∀ (zs : List (List S84)) (i : Nat) (b : Int), 0 ≤ b → b ≤ 1048576 → L.drop i = zs → ∃ r, Ev (fun k => laws_szVariantSS.l0 k L b (i : Int)) r ∧ (¬ r < 0 → r ≤ 1048576 ∧ GoodRows zs) := by
  intro zs
  induction zs with
  | nil =>
    intro i b h0 hb h
    exact ⟨b, Ev.step (f := fun _ => some b) (fun k => by rw [laws_szVariantSS.l0, if_neg (dnil h)]) (Ev.now _), fun _ => ⟨hb, fun r hr => by simp at hr⟩⟩
  | cons z zs ih =>
    intro i b h0 hb h
    obtain ⟨h1, h2, h3⟩ := dcons h
    have hz : z ∈ L := List.mem_of_mem_drop (by rw [h]; simp)
    obtain ⟨r, hr, hs⟩ := szVariantS_small (hp z hz).1 (hp z hz).2 b h0 hb
    by_cases h4 : r < 0
    · refine ⟨-1, Ev.step (f := fun k => (laws_szVariantS.f k z b).bind fun t => if t < 0 then some (-1) else (laws_szVariantSS.l0 k L t ((i + 1 : Nat) : Int))) (fun k => ?_) (Ev.bind hr ?_), by omega⟩
      · rw [laws_szVariantSS.l0, if_pos (by omega), if_pos (by omega), rdLVV, h2, wsucc h1 hL]
      · simp only [if_pos h4]; exact Ev.now _
    · obtain ⟨q, hq, ht⟩ := ih (i + 1) r (by omega) (hs h4).1 h3
      refine ⟨q, Ev.step (f := fun k => (laws_szVariantS.f k z b).bind fun t => if t < 0 then some (-1) else (laws_szVariantSS.l0 k L t ((i + 1 : Nat) : Int))) (fun k => ?_) (Ev.bind hr ?_), fun h5 => ⟨(ht h5).1, fun l hl => ?_⟩⟩
      · rw [laws_szVariantSS.l0, if_pos (by omega), if_pos (by omega), rdLVV, h2, wsucc h1 hL]
      · simp only [if_neg h4]; exact hq
      · rcases List.mem_cons.1 hl with rfl | hl
        · exact (hs h4).2
        · exact (ht h5).2 l hl
theorem szCharter_small {p : Int} {H : List Int} {L : List (List S84)} (hH : H.length ≤ 9223372036854775807) (hL : L.length ≤ 9223372036854775807) (hp : ∀ l ∈ L, l.length ≤ 9223372036854775807 ∧ ∀ v ∈ l, v.f0.length ≤ 9223372036854775807) : ∃ r, Ev (fun k => laws_szCharter.f k p H L 1048576) r ∧ (¬ r < 0 → r ≤ 1048576 ∧ H.length ≤ 1048576 ∧ L.length ≤ 1048576 ∧ GoodRows L) := by
  obtain ⟨r, hr, hs⟩ := szHouse_small (p := p) hH
  unfold laws_szCharter.f
  rw [hr]
  simp only [Option.bind_some]
  by_cases h : r < 0
  · exact ⟨-1, by simp only [if_pos h]; exact Ev.now _, by omega⟩
  · have s := hs h
    simp only [if_neg h]
    by_cases h2 : (r - (L.length : Int)) < 0
    · refine ⟨-1, Ev.bind (a := -1) ?_ (by simp only [if_pos (show (-1 : Int) < 0 by decide)]; exact Ev.now _), by omega⟩
      unfold laws_szVariantSS.f
      rw [wz (by omega) (by omega)]
      simp only [if_pos h2]
      exact Ev.now _
    · obtain ⟨q, hq, ht⟩ := szVariantSS_l0 L hL hp L 0 (r - L.length) (by omega) (by omega) rfl
      have e : Ev (fun k => laws_szVariantSS.f k L r) q := by
        unfold laws_szVariantSS.f
        rw [wz (by omega) (by omega)]
        simp only [if_neg h2]
        exact hq
      by_cases h3 : q < 0
      · exact ⟨-1, Ev.bind e (by simp only [if_pos h3]; exact Ev.now _), by omega⟩
      · exact ⟨q, Ev.bind e (by simp only [if_neg h3]; exact Ev.now _), fun _ => ⟨(ht h3).1, s.2, by omega, (ht h3).2⟩⟩
theorem toVariantSS_l0 (l : List (List S84)) (hn : l.length ≤ 9223372036854775807) (hin : GoodRows l) : ∀ (ys : List (List S84)) (i : Nat), l.drop i = ys → Ev (fun k => laws_toVariantSS.l0 k l ((l.take i).map cVs ++ List.replicate (l.length - i) []) (i : Int)) (l.map cVs) := by
  intro ys
  induction ys with
  | nil =>
    intro i h
    have hi := List.drop_eq_nil_iff.1 h
    refine Ev.step (f := fun _ => some (l.map cVs)) (fun k => ?_) (Ev.now _)
    rw [laws_toVariantSS.l0, if_neg (dnil h), List.take_of_length_le hi, show l.length - i = 0 by omega]
    simp
  | cons y ys ih =>
    intro i h
    obtain ⟨h1, h2, h3⟩ := dcons h
    have hy : y ∈ l := List.mem_of_mem_drop (by rw [h]; simp)
    have hc : (i : Int) < (((l.take i).map cVs ++ List.replicate (l.length - i) ([] : List S35)).length : Int) := by simp <;> omega
    refine Ev.step (f := fun k => (laws_toVariantS.f k y).bind fun t => laws_toVariantSS.l0 k l (((l.take i).map cVs ++ List.replicate (l.length - i) []).set i t) ((i + 1 : Nat) : Int)) (fun k => ?_) (Ev.bind (toVariantS_ev y (hin y hy).1 (hin y hy).2) ?_)
    · rw [laws_toVariantSS.l0, if_pos (by omega), if_pos (by omega), rdLVV, h2]
      simp only [if_pos hc, wsucc h1 hn]
      rfl
    · have e := ih (i + 1) h3
      rw [← set_mid l cVs [] h] at e
      exact e
theorem toVariantSS_ev (l : List (List S84)) (hn : l.length ≤ 1048576) (hin : GoodRows l) : Ev (fun k => laws_toVariantSS.f k l) (l.map cVs) := by
  unfold laws_toVariantSS.f
  simp only [if_pos (show 0 ≤ (l.length : Int) by omega), if_pos (show ((l.length : Int)).toNat ≤ 11728124029610 by omega)]
  have := toVariantSS_l0 l (by omega) hin l 0 rfl
  simpa using this
theorem toCharter_ev (p : Int) (H : List Int) (L : List (List S84)) (hH : H.length ≤ 1048576) (hn : L.length ≤ 1048576) (hin : GoodRows L) : Ev (fun k => laws_toCharter.f k p H L) (p, H, L.map cVs) := by
  unfold laws_toCharter.f
  exact Ev.bind (toHouse_ev p H hH) (Ev.bind (toVariantSS_ev L hn hin) (Ev.now _))
theorem cVs_good {L : List (List S84)} (hin : GoodRows L) : ∀ r ∈ L.map cVs, r.length ≤ 1048576 ∧ ∀ v ∈ r, v.f0.length ≤ 1048576 := by
  intro r hr
  obtain ⟨y, hy, rfl⟩ := List.mem_map.1 hr
  refine ⟨by simpa [cVs] using (hin y hy).1, fun v hv => ?_⟩
  obtain ⟨u, hu, rfl⟩ := List.mem_map.1 hv
  simpa [cSt] using (hin y hy).2 u hu

theorem eqVariantSS_l0 (xs : List (List S35)) (hn : xs.length ≤ 9223372036854775807) (hin : ∀ r ∈ xs, r.length ≤ 1048576 ∧ ∀ v ∈ r, v.f0.length ≤ 1048576) : ∀ (ys : List (List S35)) (i : Nat), xs.drop i = ys → Ev (fun k => laws_eqVariantSS.l0 k xs xs (i : Int)) true := by
  intro ys
  induction ys with
  | nil =>
    intro i h
    exact Ev.step (f := fun _ => some true) (fun k => by rw [laws_eqVariantSS.l0, if_neg (dnil h)]) (Ev.now _)
  | cons y ys ih =>
    intro i h
    obtain ⟨h1, h2, h3⟩ := dcons h
    have hy : y ∈ xs := List.mem_of_mem_drop (by rw [h]; simp)
    have q := hin y hy
    refine Ev.step (f := fun k => (laws_eqVariantS.f k y y).bind fun t => if t = true then laws_eqVariantSS.l0 k xs xs ((i + 1 : Nat) : Int) else some false) (fun k => ?_) (Ev.bind (eqVariantS_ev y (by omega) q.2) (by simp only [if_true]; exact ih (i + 1) h3))
    rw [laws_eqVariantSS.l0, if_pos (by omega), if_pos (by omega), if_pos (by omega), rdVV, h2, wsucc h1 hn]
theorem eqCharter_ev (p : Int) (H : List Int) (R : List (List S35)) (hH : H.length ≤ 1048576) (hn : R.length ≤ 1048576) (hin : ∀ r ∈ R, r.length ≤ 1048576 ∧ ∀ v ∈ r, v.f0.length ≤ 1048576) : Ev (fun k => laws_eqCharter.f k p H R p H R) true := by
  unfold laws_eqCharter.f
  refine Ev.bind (eqHouse_ev p H hH) ?_
  simp only [if_true]
  refine Ev.bind (a := true) ?_ ?_
  · unfold laws_eqVariantSS.f
    simp only [if_true]
    exact eqVariantSS_l0 R (by omega) hin R 0 rfl
  · simp only [if_true]
    exact Ev.now _

def stF (R : List (List S35)) : List Int → Nat → Bool
  | [], _ => true
  | s :: ss, i => if i < R.length then decide (0 ≤ s ∧ s < ((rd_L4 R (i : Int)).length : Int)) && stF R ss (i + 1) else true
def StB (p : Int) (H : List Int) (R : List (List S35)) (st : List Int) : Bool := stF R st 0 && (CgB p H R && decide ((st.length : Int) = (R.length : Int)))
theorem CgB_rows {p : Int} {H : List Int} {R : List (List S35)} (h : CgB p H R = true) : R.length ≤ 3 := by
  unfold CgB at h
  simp only [Bool.and_eq_true, decide_eq_true_eq] at h
  omega
section
variable (p : Int) (H : List Int) (R : List (List S35)) (st : List Int)
theorem isState_l0 (hl : st.length = R.length) (hn : st.length ≤ 1048576) : ∀ (zs : List Int) (i : Nat), st.drop i = zs → Ev (fun k => impl_isState.l0 k st (st.length : Int) (i : Int) p H R) (stF R zs i) := by
  intro zs
  induction zs with
  | nil =>
    intro i h
    exact Ev.step (f := fun _ => some true) (fun k => by rw [impl_isState.l0, if_neg (dnil h)]) (Ev.now _)
  | cons z zs ih =>
    intro i h
    obtain ⟨h1, h2, h3⟩ := dcons h
    have e := ih (i + 1) h3
    rw [stF, if_pos (by omega)]
    by_cases g1 : z < 0
    · exact Ev.step (fun k => by rw [impl_isState.l0, if_pos (by omega), if_pos (by omega), if_pos (by omega), rdn, h2, if_pos g1]) (Ev.to (Ev.now false) (by rw [decide_eq_false (by omega)]; rfl))
    by_cases g2 : z ≥ ((rd_L4 R (i : Int)).length : Int)
    · exact Ev.step (fun k => by rw [impl_isState.l0, if_pos (by omega), if_pos (by omega), if_pos (by omega), rdn, h2, if_neg g1, if_pos (by omega), if_pos g2]) (Ev.to (Ev.now false) (by rw [decide_eq_false (by omega)]; rfl))
    · refine Ev.step (fun k => by rw [impl_isState.l0, if_pos (by omega), if_pos (by omega), if_pos (by omega), rdn, h2, if_neg g1, if_pos (by omega), if_neg g2, wsucc h1 (by omega)]) (Ev.to e ?_)
      rw [decide_eq_true (show 0 ≤ z ∧ z < ((rd_L4 R (i : Int)).length : Int) by omega), Bool.true_and]
theorem isState_ev (hH : H.length ≤ 1048576) (hR : R.length ≤ 1048576) (hin : ∀ r ∈ R, r.length ≤ 1048576 ∧ ∀ v ∈ r, v.f0.length ≤ 1048576) (hn : st.length ≤ 1048576) : Ev (fun k => impl_isState.f k p H R st) (StB p H R st) := by
  have stop : Ev (fun k => impl_isState.j0 k st true p H R) false := Ev.step (fun k => by rw [impl_isState.j0, if_pos rfl]) (Ev.now false)
  unfold impl_isState.f StB
  refine Ev.bind (isCharter_ev p H R hH hR hin) ?_
  cases CgB p H R with
  | false => simp only [Bool.false_eq_true, if_false]; exact Ev.to stop (by simp)
  | true =>
    simp only [if_true, Bool.true_and]
    by_cases g : (st.length : Int) = (R.length : Int)
    · rw [show ((st.length : Int) != (R.length : Int)) = false from by rw [g]; simp, decide_eq_true g, Bool.and_true]
      exact Ev.step (fun k => by rw [impl_isState.j0, if_neg (by decide)]; rfl) (isState_l0 p H R st (by omega) hn st 0 rfl)
    · rw [show ((st.length : Int) != (R.length : Int)) = true from by simpa using g, decide_eq_false g, Bool.and_false]
      exact stop
theorem StateOk_l0 (hH : H.length ≤ 1048576) (hh : ∀ c ∈ H, c ≤ 9223372036854775807) (hR : R.length ≤ 1048576) (hin : ∀ r ∈ R, r.length ≤ 1048576 ∧ ∀ v ∈ r, v.f0.length ≤ 1048576) (hn : st.length ≤ 1048576) : ∀ (zs : List Int) (i : Nat), st.drop i = zs → Ev (fun k => spec_StateOk.l0 k st (i : Int) p H R) (stF R zs i && (CgB p H R && decide ((st.length : Int) = (R.length : Int)))) := by
  have fin (i : Int) : Ev (fun k => spec_StateOk.j1 k st i false p H R) (CgB p H R && decide ((st.length : Int) = (R.length : Int))) := by
    refine Ev.step (f := fun k => (spec_CharterOk.f k p H R).bind fun t163 => (if t163 = true then (some ((st.length : Int) == (R.length : Int))) else (some false))) (fun k => by rw [spec_StateOk.j1, if_neg (by decide)]) (Ev.bind (spec_CharterOk_ev p H R hH hh hR hin) ?_)
    cases CgB p H R with
    | false => simp only [Bool.false_eq_true, if_false, Bool.false_and]; exact Ev.now _
    | true => simp only [if_true, Bool.true_and]; exact Ev.now _
  intro zs
  induction zs with
  | nil =>
    intro i h
    exact Ev.step (fun k => by rw [spec_StateOk.l0, if_neg (dnil h)]) (Ev.to (fin _) (by simp [stF]))
  | cons z zs ih =>
    intro i h
    obtain ⟨h1, h2, h3⟩ := dcons h
    have e := ih (i + 1) h3
    rw [stF]
    by_cases g0 : i < R.length
    · rw [if_pos g0]
      refine Ev.step (f := fun k => spec_StateOk.j1 k st (i : Int) true p H R) (fun k => by rw [spec_StateOk.l0, if_pos (by omega), decide_eq_true (by omega)]) ?_
      have hl : (rd_L4 R (i : Int)).length ≤ 1048576 := by
        rw [rdVV, List.getD_eq_getElem?_getD, List.getElem?_eq_getElem g0]
        exact (hin _ (List.getElem_mem _)).1
      have wl : wrap64 (((rd_L4 R (i : Int)).length : Int) - 1) = ((rd_L4 R (i : Int)).length : Int) - 1 := wz (by omega) (by omega)
      by_cases g1 : 0 ≤ z ∧ z ≤ ((rd_L4 R (i : Int)).length : Int) - 1
      · refine Ev.step (fun k => by rw [spec_StateOk.j1, if_pos rfl, if_pos (by omega), if_pos (by omega), if_pos (by omega), rdn, h2, l1In_eq2, wl, decide_eq_true g1, Option.bind_some, if_pos rfl, wsucc h1 (by omega)]) (Ev.to e ?_)
        rw [decide_eq_true (show 0 ≤ z ∧ z < ((rd_L4 R (i : Int)).length : Int) by omega), Bool.true_and]
      · refine Ev.step (fun k => by rw [spec_StateOk.j1, if_pos rfl, if_pos (by omega), if_pos (by omega), if_pos (by omega), rdn, h2, l1In_eq2, wl, decide_eq_false g1, Option.bind_some, if_neg (by decide)]) (Ev.to (Ev.now false) ?_)
        rw [decide_eq_false (show ¬ (0 ≤ z ∧ z < ((rd_L4 R (i : Int)).length : Int)) by omega)]
        rfl
    · rw [if_neg g0]
      exact Ev.step (fun k => by rw [spec_StateOk.l0, if_pos (by omega), decide_eq_false (by omega)]) (Ev.to (fin _) (by simp))
theorem spec_StateOk_ev (hH : H.length ≤ 1048576) (hh : ∀ c ∈ H, c ≤ 9223372036854775807) (hR : R.length ≤ 1048576) (hin : ∀ r ∈ R, r.length ≤ 1048576 ∧ ∀ v ∈ r, v.f0.length ≤ 1048576) (hn : st.length ≤ 1048576) : Ev (fun k => spec_StateOk.f k p H R st) (StB p H R st) := StateOk_l0 p H R st hH hh hR hin hn st 0 rfl
end

theorem number_l0 (xs : List Int) (hn : xs.length ≤ 1048576) : ∀ (n : Nat) (a : Int), n ≤ xs.length → ∃ r, Ev (fun k => impl_stateNumber.l0 k xs a ((n : Int) - 1)) r ∧ Ev (fun k => spec_l8Code.l0 k xs a ((n : Int) - 1)) r := by
  intro n
  induction n with
  | zero =>
    intro a _
    exact ⟨a, Ev.step (fun k => by rw [impl_stateNumber.l0, if_neg (by omega)]) (Ev.now _), Ev.step (fun k => by rw [spec_l8Code.l0, if_neg (by omega)]) (Ev.now _)⟩
  | succ n ih =>
    intro a h
    obtain ⟨r, r1, r2⟩ := ih (wrap64 ((wrap64 (a * 3)) + (rd xs (n : Int)))) (by omega)
    have e : ((n + 1 : Nat) : Int) - 1 = (n : Int) := by omega
    have w : wrap64 ((n : Int) - 1) = (n : Int) - 1 := wz (by omega) (by omega)
    rw [e]
    exact ⟨r, Ev.step (fun k => by rw [impl_stateNumber.l0, if_pos (by omega), if_pos (by omega), if_pos (by omega), w]) r1, Ev.step (fun k => by rw [spec_l8Code.l0, if_pos (by omega), if_pos (by omega), if_pos (by omega), w]) r2⟩
theorem StateNumber_ev (p : Int) (H : List Int) (R : List (List S35)) (st : List Int) (hH : H.length ≤ 1048576) (hh : ∀ c ∈ H, c ≤ 9223372036854775807) (hR : R.length ≤ 1048576) (hin : ∀ r ∈ R, r.length ≤ 1048576 ∧ ∀ v ∈ r, v.f0.length ≤ 1048576) (hn : st.length ≤ 1048576) : ∃ r, Ev (fun k => spec_StateNumber.f k p H R st) r ∧ Ev (fun k => impl_StateNumber.f k p H R st) r := by
  unfold spec_StateNumber.f impl_StateNumber.f
  have e1 := isState_ev p H R st hH hR hin hn
  have e2 := spec_StateOk_ev p H R st hH hh hR hin hn
  cases h : StB p H R st with
  | false =>
    rw [h] at e1 e2
    exact ⟨-1, Ev.bind e2 (by simp only [Bool.false_eq_true, if_false]; exact Ev.now _), Ev.bind e1 (by simp only [Bool.false_eq_true, if_false]; exact Ev.now _)⟩
  | true =>
    rw [h] at e1 e2
    obtain ⟨r, r1, r2⟩ := number_l0 st hn st.length 0 (Nat.le_refl _)
    have w : wrap64 ((st.length : Int) - 1) = (st.length : Int) - 1 := wz (by omega) (by omega)
    refine ⟨r, Ev.bind e2 ?_, Ev.bind e1 ?_⟩
    · simp only [if_true]
      refine Ev.bind ?_ (Ev.now _)
      unfold spec_l8Code.f
      rw [w]
      exact r2
    · simp only [if_true]
      refine Ev.bind ?_ (Ev.now _)
      unfold impl_stateNumber.f
      rw [w]
      exact r1

theorem FnExactStateNumber : laws_FnExactStateNumber.Pure := by
  intro p H L st _ hH hL hst
  obtain ⟨r, hr, hs⟩ := szCharter_small (p := p) hH.1 hL.1 (fun l hl => ⟨(hL.2 l hl).1, fun v hv => ((hL.2 l hl).2 v hv).1.1⟩)
  refine Ev.rounds ?_
  unfold laws_FnExactStateNumber.f
  by_cases g : (st.length : Int) > 1048576
  · simp only [if_pos g]
    exact Ev.now _
  simp only [if_neg g]
  refine Ev.bind hr ?_
  by_cases h : r < 0
  · simp only [if_pos h]
    exact Ev.now _
  simp only [if_neg h]
  obtain ⟨s0, s1, s2, s3⟩ := hs h
  have hn : st.length ≤ 1048576 := by omega
  have hc : ∀ c ∈ H, c ≤ 9223372036854775807 := fun c hc => wf_le (hH.2 c hc)
  have m1 : (L.map cVs).length ≤ 1048576 := by simp <;> omega
  have m2 := cVs_good s3
  have e1 := toCharter_ev p H L s1 s2 s3
  have e2 := toIntS_ev st hn
  obtain ⟨q, q1, q2⟩ := StateNumber_ev p H _ st s1 hc m1 m2 hn
  refine Ev.bind e1 (Ev.bind e2 (Ev.bind q1 (Ev.bind e1 (Ev.bind e2 (Ev.bind q2 ?_)))))
  simp only [if_true]
  refine Ev.bind e1 (Ev.bind (eqCharter_ev p H _ s1 m1 m2) ?_)
  simp only [if_true]
  refine Ev.bind e2 (Ev.bind (eqIntS_ev st (by omega)) ?_)
  simp only [if_true]
  exact Ev.now _

end Go.Proofs.Ytmbphgdfadoknaa.Pure
