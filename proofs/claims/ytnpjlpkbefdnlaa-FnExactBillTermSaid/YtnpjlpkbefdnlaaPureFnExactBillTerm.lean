/- The law FnExactBillTerm is true: for every house and process the program's BillTerm returns what the reference's returns, leaves its arguments as they were, and its result shares no memory. Conditions: none. -/
import Derived.Test.YtnpjlpkbefdnlaaQFnExactBillTermx17
namespace Go.Proofs.Ytnpjlpkbefdnlaa.Pure
open Go.RowKit Go.Proofs.Ytnpjlpkbefdnlaa.QFnExactBillTerm Go.Proofs.YtnpjlpkbefdnlaaW.PrintWords Go.Proofs.YtnpjlpkbefdnlaaW.PrintLast
set_option linter.unusedVariables false
set_option linter.unusedSimpArgs false

theorem wz {x : Int} (h0 : -9223372036854775808 ≤ x) (h1 : x ≤ 9223372036854775807) : wrap64 x = x := by unfold wrap64; omega
theorem wsucc {i n : Nat} (h : i < n) (hn : n ≤ 9223372036854775807) : wrap64 ((i : Int) + 1) = ((i + 1 : Nat) : Int) := by rw [wz (by omega) (by omega)]; omega
theorem dnil {α : Type} {xs : List α} {i : Nat} (h : xs.drop i = []) : ¬ ((i : Int) < (xs.length : Int)) := by
 have := List.drop_eq_nil_iff.1 h
 omega
theorem dcons {α : Type} {xs : List α} {i : Nat} {y : α} {ys : List α} (h : xs.drop i = y :: ys) : i < xs.length ∧ (∀ d, xs.getD i d = y) ∧ xs.drop (i + 1) = ys := by
 have hl : i < xs.length := by
  rcases Nat.lt_or_ge i xs.length with h1 | h1
  ·exact h1
  ·rw [List.drop_eq_nil_iff.2 h1] at h
   cases h
 have e := List.drop_eq_getElem_cons hl
 rw [h] at e
 injection e with e1 e2
 exact ⟨hl, fun d => by rw [List.getD_eq_getElem?_getD, List.getElem?_eq_getElem hl]; exact e1.symm, e2.symm⟩
theorem rdn (xs : List Int) (i : Nat) : rd xs (i : Int) = xs.getD i 0 := by simp [rd]
theorem set_mid {α β : Type} (l : List α) (c : α → β) (z : β) {i : Nat} {y : α} {ys : List α} (h : l.drop i = y :: ys) :
  ((l.take i).map c ++ List.replicate (l.length - i) z).set i (c y) = (l.take (i + 1)).map c ++ List.replicate (l.length - (i + 1)) z := by
 obtain ⟨h1, h2, h3⟩ := dcons h
 have ht : l.take (i + 1) = l.take i ++ [y] := by
  rw [List.take_succ_eq_append_getElem h1]
  have := h2 y
  rw [List.getD_eq_getElem?_getD, List.getElem?_eq_getElem h1] at this
  rw [show l[i] = y from by simpa using this]
 obtain ⟨m, hm⟩ : ∃ m, l.length - i = m + 1 := ⟨l.length - i - 1, by omega⟩
 have hm2 : l.length - (i + 1) = m := by omega
 have hlen : ((l.take i).map c).length = i := by simp <;> omega
 rw [hm, hm2, ht, List.replicate_succ, List.map_append, List.set_append_right _ _ (by omega), hlen, Nat.sub_self]
 simp
theorem Ev.to {α : Type} {g : Nat → Option α} {r s : α} (h : Ev g r) (e : r = s) : Ev g s := e ▸ h

def CrB (p a : Int) : Bool := decide (1 ≤ p ∧ p ≤ 6 ∧ 0 ≤ a ∧ a < 2 ^ p.toNat)
theorem shl1 {p : Int} (h0 : 1 ≤ p) (h1 : p ≤ 6) : shl .i64 1 p = 2 ^ p.toNat := by
 have : p = 1 ∨ p = 2 ∨ p = 3 ∨ p = 4 ∨ p = 5 ∨ p = 6 := by omega
 rcases this with rfl | rfl | rfl | rfl | rfl | rfl <;> decide +kernel
theorem pow_small {p : Int} (h0 : 1 ≤ p) (h1 : p ≤ 6) : (2 : Int) ≤ 2 ^ p.toNat ∧ (2 : Int) ^ p.toNat ≤ 64 := by
 have : p = 1 ∨ p = 2 ∨ p = 3 ∨ p = 4 ∨ p = 5 ∨ p = 6 := by omega
 rcases this with rfl | rfl | rfl | rfl | rfl | rfl <;> decide
theorem impl_isCrowd_eq (p a : Int) : impl_isCrowd.f p a = some (CrB p a) := by
 unfold impl_isCrowd.f impl_arePeople.f CrB
 by_cases h1 : p ≥ 1
 ·by_cases h2 : p ≤ 6
  ·by_cases h3 : a ≥ 0
   ·have h0 : 0 ≤ p := by omega
    simp [h1, h2, h3, h0, shl1 h1 h2]
   ·simp [h1, h2, h3]
  ·simp [h1, h2]
 ·simp [h1]
theorem CrB_of {p a : Int} (h : CrB p a = true) : 1 ≤ p ∧ p ≤ 6 ∧ 0 ≤ a ∧ a < 2 ^ p.toNat := of_decide_eq_true h

theorem l1In_eq2 (a b c : Int) : spec_l1In.f a b c = some (decide (b ≤ a ∧ a ≤ c)) := by
 unfold spec_l1In.f
 by_cases h : b ≤ a
 ·simp [h]
 ·simp [h]
theorem spec_CrowdOk_eq (p a : Int) : spec_CrowdOk.f p a = some (CrB p a) := by
 unfold spec_CrowdOk.f CrB
 simp only [l1In_eq2, Option.bind_some]
 by_cases h : 1 ≤ p ∧ p ≤ 6
 ·have hp := pow_small h.1 h.2
  simp only [decide_eq_true h, if_true, if_pos (show 0 ≤ p by omega), shl1 h.1 h.2]
  rw [wz (by omega) (by omega)]
  congr 1
  rw [decide_eq_decide]
  omega
 ·simp only [decide_eq_false h, Bool.false_eq_true, if_false]
  congr 1
  symm
  rw [decide_eq_false_iff_not]
  omega

def pc : Nat → Int → Int
 | 0, _ => 0
 | b + 1, n => n % 2 + pc b (n / 2)
theorem pc_zero : ∀ (b : Nat), pc b 0 = 0 := by
 intro b
 induction b with
 | zero => rfl
 | succ b ih => simp [pc, ih]
theorem spec_heads_l0 : ∀ (b : Nat) (n acc : Int), 0 ≤ n → n < 2 ^ b → 0 ≤ acc → acc + b ≤ 1000 → b ≤ 63 → Ev (fun k => spec_l1Heads.l0 k n acc) (acc + pc b n) := by
 intro b
 induction b with
 | zero =>
  intro n acc h0 h1 h2 h3 h4
  have : n = 0 := by simp at h1; omega
  subst this
  exact Ev.step (f := fun _ => some acc) (fun k => by rw [spec_l1Heads.l0, if_neg (by decide)]) (Ev.to (Ev.now _) (by simp [pc]))
 | succ b ih =>
  intro n acc h0 h1 h2 h3 h4
  by_cases hn : n = 0
  ·subst hn
   exact Ev.step (f := fun _ => some acc) (fun k => by rw [spec_l1Heads.l0, if_neg (by decide)]) (Ev.to (Ev.now _) (by rw [pc_zero]; omega))
  ·have h5 : n < 2 * 2 ^ b := by rw [Int.pow_succ] at h1; omega
   have h6 : (2 : Int) ^ b ≤ 4611686018427387904 := by
    have h7 : (2 : Nat) ^ b ≤ 2 ^ 62 := Nat.pow_le_pow_right (by decide) (by omega)
    have h8 : ((2 ^ b : Nat) : Int) ≤ ((2 ^ 62 : Nat) : Int) := Int.ofNat_le.2 h7
    rw [Int.natCast_pow] at h8
    exact h8
   have d1 : Int.tdiv n 2 = n / 2 := Int.tdiv_eq_ediv_of_nonneg h0
   have d2 : Int.tmod n 2 = n % 2 := Int.tmod_eq_emod_of_nonneg h0
   have e := ih (n / 2) (acc + n % 2) (by omega) (by omega) (by omega) (by omega) (by omega)
   have w1 : wrap64 (Int.tdiv n 2) = n / 2 := by rw [d1]; exact wz (by omega) (by omega)
   have w2 : wrap64 (acc + Int.tmod n 2) = acc + n % 2 := by rw [d2]; exact wz (by omega) (by omega)
   refine Ev.step (f := fun k => spec_l1Heads.l0 k (n / 2) (acc + n % 2)) (fun k => by rw [spec_l1Heads.l0, if_pos (by omega), w1, w2]) (Ev.to e (by simp only [pc]; omega))
def hdI (n : Int) : Int := if n < 0 then 0 else pc 63 n
theorem spec_heads_ev (n : Int) (h1 : n ≤ 9223372036854775807) : Ev (fun k => spec_l1Heads.f k n) (hdI n) := by
 unfold spec_l1Heads.f hdI
 by_cases hn : n < 0
 ·rw [if_pos hn]
  exact Ev.step (f := fun _ => some 0) (fun k => by rw [spec_l1Heads.l0, if_neg (by omega)]) (Ev.now _)
 ·rw [if_neg hn]
  exact Ev.to (spec_heads_l0 63 n 0 (by omega) (by simp; omega) (by omega) (by omega) (by omega)) (by omega)
theorem impl_heads_all : ∀ n : Fin 64, impl_headsOf.f (n.val : Int) = some (hdI (n.val : Int)) := by decide +kernel
theorem impl_heads {a : Int} (h0 : 0 ≤ a) (h1 : a < 64) : impl_headsOf.f a = some (hdI a) := by
 obtain ⟨n, rfl⟩ := Int.eq_ofNat_of_zero_le h0
 exact impl_heads_all ⟨n, by omega⟩
def PpB (p : Int) : Bool := decide (1 ≤ p ∧ p ≤ 6)
def HsB (p : Int) (H : List Int) : Bool := H.all (fun c => CrB p c && !decide (c = 0)) && (PpB p && decide ((H.length : Int) ≤ 4))
theorem HsB_of {p : Int} {H : List Int} (h : HsB p H = true) : H.length ≤ 4 ∧ 1 ≤ p ∧ p ≤ 6 ∧ ∀ c ∈ H, 0 < c ∧ c < 64 := by
 unfold HsB PpB at h
 simp only [Bool.and_eq_true, decide_eq_true_eq, List.all_eq_true] at h
 obtain ⟨h1, ⟨h2, h3⟩, h4⟩ := h
 refine ⟨by omega, h2, h3, fun c hc => ?_⟩
 have := h1 c hc
 have cr := CrB_of this.1
 have ps := pow_small cr.1 cr.2.1
 have : ¬ c = 0 := by simpa using this.2
 omega
theorem arePeople_eq (p : Int) : impl_arePeople.f p = some (PpB p) := by
 unfold impl_arePeople.f PpB
 by_cases h : p ≥ 1
 ·simp [h]
 ·simp [h]
theorem impl_isHouse_l0 (p : Int) (H : List Int) (hn : H.length ≤ 1048576) : ∀ (zs : List Int) (i : Nat), H.drop i = zs → Ev (fun k => impl_isHouse.l0 k H (H.length : Int) (i : Int) p H) (zs.all (fun c => CrB p c && !decide (c = 0)) && (PpB p && decide ((H.length : Int) ≤ 4))) := by
 intro zs
 induction zs with
 | nil =>
  intro i h
  refine Ev.step (f := fun _ => some (PpB p && decide ((H.length : Int) ≤ 4))) (fun k => ?_) (Ev.to (Ev.now _) (by simp))
  rw [impl_isHouse.l0, if_neg (dnil h), arePeople_eq]
  cases PpB p <;> simp
 | cons z zs ih =>
  intro i h
  obtain ⟨h1, h2, h3⟩ := dcons h
  have e := ih (i + 1) h3
  have hi1 : (i : Int) < (H.length : Int) := by omega
  have hi0 : 0 ≤ (i : Int) := by omega
  cases hc : CrB p z with
  | false =>
   refine Ev.step (f := fun _ => some false) (fun k => ?_) (Ev.to (Ev.now _) (by simp [hc]))
   rw [impl_isHouse.l0, if_pos hi1, if_pos hi0, if_pos hi1, rdn, h2, impl_isCrowd_eq, hc]
   rfl
  | true =>
   by_cases hz : z = 0
   ·refine Ev.step (f := fun _ => some false) (fun k => ?_) (Ev.to (Ev.now _) (by simp [hz]))
    rw [impl_isHouse.l0, if_pos hi1, if_pos hi0, if_pos hi1, rdn, h2, impl_isCrowd_eq, hc, Option.bind_some, if_pos rfl, if_pos hz]
   ·refine Ev.step (fun k => ?_) (Ev.to e (by simp [hz, hc]))
    rw [impl_isHouse.l0, if_pos hi1, if_pos hi0, if_pos hi1, rdn, h2, impl_isCrowd_eq, hc, Option.bind_some, if_pos rfl, if_neg hz, wsucc h1 (by omega)]
theorem impl_isHouse_ev (p : Int) (H : List Int) (hn : H.length ≤ 1048576) : Ev (fun k => impl_isHouse.f k p H) (HsB p H) := impl_isHouse_l0 p H hn H 0 rfl
theorem spec_HouseOk_l0 (p : Int) (H : List Int) (hn : H.length ≤ 1048576) : ∀ (zs : List Int) (i : Nat), H.drop i = zs → Ev (fun k => spec_HouseOk.l0 k (i : Int) p H) (zs.all (fun c => CrB p c && !decide (c = 0)) && (PpB p && decide ((H.length : Int) ≤ 4))) := by
 intro zs
 induction zs with
 | nil =>
  intro i h
  refine Ev.step (f := fun _ => some (PpB p && decide ((H.length : Int) ≤ 4))) (fun k => ?_) (Ev.to (Ev.now _) (by simp))
  rw [spec_HouseOk.l0, if_neg (dnil h), l1In_eq2, Option.bind_some, show decide (1 ≤ p ∧ p ≤ 6) = PpB p from rfl]
  cases PpB p <;> simp
 | cons z zs ih =>
  intro i h
  obtain ⟨h1, h2, h3⟩ := dcons h
  have e := ih (i + 1) h3
  have hi1 : (i : Int) < (H.length : Int) := by omega
  have hi0 : 0 ≤ (i : Int) := by omega
  cases hc : CrB p z with
  | false =>
   refine Ev.step (f := fun _ => some false) (fun k => ?_) (Ev.to (Ev.now _) (by simp [hc]))
   rw [spec_HouseOk.l0, if_pos hi1, if_pos hi0, rdn, h2, spec_CrowdOk_eq, hc]
   rfl
  | true =>
   by_cases hz : z = 0
   ·refine Ev.step (f := fun _ => some false) (fun k => ?_) (Ev.to (Ev.now _) (by simp [hz]))
    rw [spec_HouseOk.l0, if_pos hi1, if_pos hi0, rdn, h2, spec_CrowdOk_eq, hc, Option.bind_some, if_pos rfl, if_pos hz]
   ·refine Ev.step (fun k => ?_) (Ev.to e (by simp [hz, hc]))
    rw [spec_HouseOk.l0, if_pos hi1, if_pos hi0, rdn, h2, spec_CrowdOk_eq, hc, Option.bind_some, if_pos rfl, if_neg hz, wsucc h1 (by omega)]
theorem spec_HouseOk_ev (p : Int) (H : List Int) (hn : H.length ≤ 1048576) : Ev (fun k => spec_HouseOk.f k p H) (HsB p H) := spec_HouseOk_l0 p H hn H 0 rfl
def leafB (H : List Int) (m : S78) : Bool := decide (m.f0 = 0) && (decide (0 ≤ m.f1 ∧ m.f1 < H.length) && decide (1 ≤ m.f2 ∧ m.f2 ≤ hdI (rd H m.f1)))
def opB (m : S78) : Bool := (decide (m.f0 = 1) || decide (m.f0 = 2)) && (decide (m.f1 = 0) && decide (m.f2 = 0))
def tmF (H : List Int) : List S78 → Int → Bool
 | [], d => decide (d = 1)
 | m :: ms, d => if leafB H m = true then tmF H ms (d + 1) else if opB m = true then (if d < 2 then false else tmF H ms (d - 1)) else false
def TmB (p : Int) (H : List Int) (ms : List S78) : Bool := HsB p H && (decide ((ms.length : Int) ≤ 9) && tmF H ms 0)
theorem rdMk (xs : List S78) (i : Nat) : rd_T78 xs (i : Int) = xs.getD i z78 := by simp [rd_T78]
theorem impl_isTerm_l0 (p : Int) (H : List Int) (hH : HsB p H = true) (xs : List S78) (hn : xs.length ≤ 1048576) : ∀ (zs : List S78) (i : Nat) (d : Int), xs.drop i = zs → 0 ≤ d → d ≤ i → Ev (fun k => impl_isTerm.l0 k d xs (xs.length : Int) (i : Int) p H) (tmF H zs d) := by
 have hh := HsB_of hH
 intro zs
 induction zs with
 | nil =>
  intro i d h hd0 hd
  refine Ev.step (f := fun _ => some (d == 1)) (fun k => by rw [impl_isTerm.l0, if_neg (dnil h)]) (Ev.to (Ev.now _) ?_)
  unfold tmF
  by_cases e : d = 1 <;> simp [e]
 | cons z zs ih =>
  intro i d h hd0 hd
  obtain ⟨h1, h2, h3⟩ := dcons h
  have hi1 : (i : Int) < (xs.length : Int) := by omega
  have hi0 : 0 ≤ (i : Int) := by omega
  have wd : wrap64 (d + 1) = d + 1 := wz (by omega) (by omega)
  have wd2 : wrap64 (d - 1) = d - 1 := wz (by omega) (by omega)
  have stop (a : Bool) (ha : a = false) (b c e : Int) : ∀ k, impl_isTerm.j2 (k + 1) d xs (xs.length : Int) (i : Int) a p H b c e = some false := fun k => by rw [impl_isTerm.j2, ha, if_neg (by decide)]
  by_cases g0 : z.f0 = 0
  ·have nop : opB z = false := by simp [opB, g0]
   by_cases g1 : z.f1 < 0
   ·refine Ev.step (f := fun _ => some false) (fun k => ?_) (Ev.to (Ev.now _) ?_)
    ·rw [impl_isTerm.l0, if_pos hi1, if_pos hi0, if_pos hi1, rdMk, h2, if_pos g0, if_pos g1]
    ·unfold tmF; rw [if_neg (by simp [leafB]; omega), if_neg (by simp [nop])]
   by_cases g2 : z.f1 ≥ (H.length : Int)
   ·refine Ev.step (f := fun _ => some false) (fun k => ?_) (Ev.to (Ev.now _) ?_)
    ·rw [impl_isTerm.l0, if_pos hi1, if_pos hi0, if_pos hi1, rdMk, h2, if_pos g0, if_neg g1, if_pos g2]
    ·unfold tmF; rw [if_neg (by simp [leafB]; omega), if_neg (by simp [nop])]
   have q1 : 0 ≤ z.f1 := by omega
   have q2 : z.f1 < (H.length : Int) := by omega
   by_cases g3 : z.f2 < 1
   ·refine Ev.step (f := fun _ => some false) (fun k => ?_) (Ev.to (Ev.now _) ?_)
    ·rw [impl_isTerm.l0, if_pos hi1, if_pos hi0, if_pos hi1, rdMk, h2, if_pos g0, if_neg g1, if_neg g2, if_pos g3]
    ·unfold tmF; rw [if_neg (by simp [leafB]; omega), if_neg (by simp [nop])]
   have hm : rd H z.f1 ∈ H := by
    obtain ⟨n, hn2⟩ := Int.eq_ofNat_of_zero_le q1
    rw [hn2, rdn, List.getD_eq_getElem?_getD, List.getElem?_eq_getElem (show n < H.length by omega)]
    exact List.getElem_mem _
   have hr := hh.2.2.2 _ hm
   have hd1 := impl_heads (Int.le_of_lt hr.1) hr.2
   by_cases g4 : z.f2 > hdI (rd H z.f1)
   ·refine Ev.step (f := fun _ => some false) (fun k => ?_) (Ev.to (Ev.now _) ?_)
    ·rw [impl_isTerm.l0, if_pos hi1, if_pos hi0, if_pos hi1, rdMk, h2, if_pos g0, if_neg g1, if_neg g2, if_neg g3, if_pos q1, if_pos q2, hd1, Option.bind_some, if_pos g4]
    ·unfold tmF; rw [if_neg (by simp [leafB]; omega), if_neg (by simp [nop])]
   ·have lf : leafB H z = true := by
     unfold leafB
     rw [decide_eq_true g0, decide_eq_true (show 0 ≤ z.f1 ∧ z.f1 < (H.length : Int) from ⟨q1, q2⟩), decide_eq_true (show 1 ≤ z.f2 ∧ z.f2 ≤ hdI (rd H z.f1) by omega)]
     rfl
    refine Ev.step (fun k => ?_) (Ev.to (ih (i + 1) (d + 1) h3 (by omega) (by omega)) ?_)
    ·rw [impl_isTerm.l0, if_pos hi1, if_pos hi0, if_pos hi1, rdMk, h2, if_pos g0, if_neg g1, if_neg g2, if_neg g3, if_pos q1, if_pos q2, hd1, Option.bind_some, if_neg g4, wd, wsucc h1 (by omega)]
    ·rw [tmF, if_pos lf]
  ·have nl : leafB H z = false := by unfold leafB; rw [decide_eq_false g0]; rfl
   refine Ev.step (f := fun k => impl_isTerm.j2 k d xs (xs.length : Int) (i : Int) (decide (z.f0 = 1) || decide (z.f0 = 2)) p H z.f0 z.f1 z.f2) (fun k => ?_) ?_
   ·rw [impl_isTerm.l0, if_pos hi1, if_pos hi0, if_pos hi1, rdMk, h2, if_neg g0]
    by_cases g5 : z.f0 = 1
    ·rw [if_pos g5]; simp [g5]
    ·rw [if_neg g5]; simp only [decide_eq_false g5, Bool.false_or]; rfl
   ·rw [tmF, nl, if_neg (by decide)]
    cases hop : (decide (z.f0 = 1) || decide (z.f0 = 2)) with
    | false => exact Ev.step (fun k => by rw [impl_isTerm.j2, if_neg (by decide)]) (Ev.to (Ev.now false) (by simp [opB, hop]))
    | true =>
     by_cases g6 : z.f1 = 0
     ·by_cases g7 : z.f2 = 0
      ·have hb : opB z = true := by simp [opB, hop, g6, g7]
       rw [if_pos hb]
       by_cases g8 : d < 2
       ·rw [if_pos g8]
        exact Ev.step (fun k => by rw [impl_isTerm.j2, if_pos rfl, if_pos g6, if_pos g7, if_pos g8]) (Ev.now false)
       ·rw [if_neg g8]
        exact Ev.step (fun k => by rw [impl_isTerm.j2, if_pos rfl, if_pos g6, if_pos g7, if_neg g8, wd2, wsucc h1 (by omega)]) (ih (i + 1) (d - 1) h3 (by omega) (by omega))
      ·exact Ev.step (fun k => by rw [impl_isTerm.j2, if_pos rfl, if_pos g6, if_neg g7]) (Ev.to (Ev.now false) (by simp [opB, g7]))
     ·exact Ev.step (fun k => by rw [impl_isTerm.j2, if_pos rfl, if_neg g6]) (Ev.to (Ev.now false) (by simp [opB, g6]))
theorem impl_isTerm_ev (p : Int) (H : List Int) (hn : H.length ≤ 1048576) (ms : List S78) (hm : ms.length ≤ 1048576) : Ev (fun k => impl_isTerm.f k p H ms) (TmB p H ms) := by
 have stop : Ev (fun k => impl_isTerm.j0 k ms true p H) false := Ev.step (f := fun _ => some false) (fun k => by rw [impl_isTerm.j0, if_pos rfl]) (Ev.now _)
 unfold impl_isTerm.f TmB
 refine Ev.bind (impl_isHouse_ev p H hn) ?_
 cases hH : HsB p H with
 | false => simp only [Bool.false_eq_true, if_false, Bool.false_and]; exact stop
 | true =>
  simp only [if_true, Bool.true_and]
  by_cases h1 : (ms.length : Int) < 1
  ·simp only [if_pos h1]
   obtain rfl : ms = [] := List.eq_nil_of_length_eq_zero (by omega)
   exact Ev.to stop (by simp [tmF])
  ·simp only [if_neg h1]
   by_cases h2 : (ms.length : Int) > 9
   ·simp only [decide_eq_true h2]
    exact Ev.to stop (by rw [decide_eq_false (by omega)]; rfl)
   ·simp only [decide_eq_false h2, decide_eq_true (show (ms.length : Int) ≤ 9 by omega), Bool.true_and]
    exact Ev.step (f := fun k => impl_isTerm.l0 k 0 ms (ms.length : Int) ((0 : Nat) : Int) p H) (fun k => by rw [impl_isTerm.j0, if_neg (by decide)]; rfl) (impl_isTerm_l0 p H hH ms hm ms 0 0 rfl (by omega) (by omega))
theorem spec_TermOk_l0 (p : Int) (H : List Int) (hn : H.length ≤ 1048576) (hc : ∀ c ∈ H, c ≤ 9223372036854775807) (xs : List S78) (hx : xs.length ≤ 1048576) : ∀ (zs : List S78) (i : Nat) (d : Int), xs.drop i = zs → 0 ≤ d → d ≤ i → Ev (fun k => spec_TermOk.l0 k xs d (i : Int) p H) (HsB p H && (decide ((xs.length : Int) ≤ 9) && tmF H zs d)) := by
 intro zs
 induction zs with
 | nil =>
  intro i d h hd0 hd
  refine Ev.step (f := fun k => (spec_HouseOk.f k p H).bind fun t => (if t = true then (if d = 1 then (some (decide ((xs.length : Int) ≤ 9))) else (some false)) else (some false))) (fun k => by rw [spec_TermOk.l0, if_neg (dnil h)]) (Ev.bind (spec_HouseOk_ev p H hn) ?_)
  unfold tmF
  cases HsB p H with
  | false => simp only [Bool.false_eq_true, if_false, Bool.false_and]; exact Ev.now _
  | true =>
   simp only [if_true, Bool.true_and]
   by_cases e : d = 1
   ·simp only [if_pos e]; exact Ev.to (Ev.now _) (by simp [e])
   ·simp only [if_neg e]; exact Ev.to (Ev.now _) (by simp [e])
 | cons z zs ih =>
  intro i d h hd0 hd
  obtain ⟨h1, h2, h3⟩ := dcons h
  have hi1 : (i : Int) < (xs.length : Int) := by omega
  have hi0 : 0 ≤ (i : Int) := by omega
  have wd : wrap64 (d + 1) = d + 1 := wz (by omega) (by omega)
  have wd2 : wrap64 (d - 1) = d - 1 := wz (by omega) (by omega)
  have wl : wrap64 ((H.length : Int) - 1) = (H.length : Int) - 1 := wz (by omega) (by omega)
  have j : Ev (fun k => spec_TermOk.j1 k xs d (i : Int) (leafB H z) p H) (HsB p H && (decide ((xs.length : Int) ≤ 9) && tmF H (z :: zs) d)) := by
   cases hl : leafB H z with
   | true => exact Ev.step (fun k => by rw [spec_TermOk.j1, if_pos rfl, wd, wsucc h1 (by omega)]) (Ev.to (ih (i + 1) (d + 1) h3 (by omega) (by omega)) (by rw [tmF, if_pos hl]))
   | false =>
    rw [tmF, hl, if_neg (by decide)]
    by_cases g1 : z.f0 = 1 ∧ z.f1 = 0 ∧ z.f2 = 0
    ·have b1 : (z.f0 == 1 && (z.f1 == 0 && z.f2 == 0)) = true := by simp [g1]
     have hb : opB z = true := by simp [opB, g1]
     rw [if_pos hb]
     by_cases g8 : d < 2
     ·rw [if_pos g8]
      exact Ev.step (fun k => by rw [spec_TermOk.j1, if_neg (by decide), if_pos hi0, if_pos hi1, rdMk, h2, if_pos b1, if_neg (by omega)]) (Ev.to (Ev.now false) (by simp))
     ·rw [if_neg g8]
      exact Ev.step (fun k => by rw [spec_TermOk.j1, if_neg (by decide), if_pos hi0, if_pos hi1, rdMk, h2, if_pos b1, if_pos (by omega), wd2, wsucc h1 (by omega)]) (ih (i + 1) (d - 1) h3 (by omega) (by omega))
    ·have b1 : ¬ (z.f0 == 1 && (z.f1 == 0 && z.f2 == 0)) = true := by simpa using g1
     by_cases g2 : z.f0 = 2 ∧ z.f1 = 0 ∧ z.f2 = 0
     ·have b2 : (z.f0 == 2 && (z.f1 == 0 && z.f2 == 0)) = true := by simp [g2]
      have hb : opB z = true := by simp [opB, g2]
      rw [if_pos hb]
      by_cases g8 : d < 2
      ·rw [if_pos g8]
       exact Ev.step (fun k => by rw [spec_TermOk.j1, if_neg (by decide), if_pos hi0, if_pos hi1, rdMk, h2, if_neg b1, if_pos b2, if_neg (by omega)]) (Ev.to (Ev.now false) (by simp))
      ·rw [if_neg g8]
       exact Ev.step (fun k => by rw [spec_TermOk.j1, if_neg (by decide), if_pos hi0, if_pos hi1, rdMk, h2, if_neg b1, if_pos b2, if_pos (by omega), wd2, wsucc h1 (by omega)]) (ih (i + 1) (d - 1) h3 (by omega) (by omega))
     ·have b2 : ¬ (z.f0 == 2 && (z.f1 == 0 && z.f2 == 0)) = true := by simpa using g2
      have hb : ¬ opB z = true := by
       unfold opB
       simp only [Bool.and_eq_true, Bool.or_eq_true, decide_eq_true_eq]
       omega
      rw [if_neg hb]
      exact Ev.step (fun k => by rw [spec_TermOk.j1, if_neg (by decide), if_pos hi0, if_pos hi1, rdMk, h2, if_neg b1, if_neg b2]) (Ev.to (Ev.now false) (by simp))
  by_cases g0 : z.f0 = 0
  ·by_cases g1 : 0 ≤ z.f1 ∧ z.f1 < (H.length : Int)
   ·have hm : rd H z.f1 ∈ H := by
     obtain ⟨n, hn2⟩ := Int.eq_ofNat_of_zero_le g1.1
     rw [hn2, rdn, List.getD_eq_getElem?_getD, List.getElem?_eq_getElem (show n < H.length by omega)]
     exact List.getElem_mem _
    refine Ev.step (f := fun k => (spec_l1Heads.f k (rd H z.f1)).bind fun t => (spec_l1In.f z.f2 1 t).bind fun u => spec_TermOk.j1 k xs d (i : Int) u p H) (fun k => ?_) (Ev.bind (spec_heads_ev _ (hc _ hm)) ?_)
    ·rw [spec_TermOk.l0, if_pos hi1, if_pos hi0, rdMk, h2, if_pos g0, l1In_eq2, wl, Option.bind_some, decide_eq_true (show 0 ≤ z.f1 ∧ z.f1 ≤ (H.length : Int) - 1 by omega), if_pos rfl, if_pos g1.1, if_pos g1.2]
    ·have e2 : leafB H z = decide (1 ≤ z.f2 ∧ z.f2 ≤ hdI (rd H z.f1)) := by unfold leafB; rw [decide_eq_true g0, decide_eq_true g1]; simp
     simp only [l1In_eq2, Option.bind_some]
     rw [← e2]
     exact j
   ·have nl : leafB H z = false := by unfold leafB; rw [decide_eq_false g1]; simp
    rw [nl] at j
    exact Ev.step (fun k => by rw [spec_TermOk.l0, if_pos hi1, if_pos hi0, rdMk, h2, if_pos g0, l1In_eq2, wl, Option.bind_some, decide_eq_false (show ¬ (0 ≤ z.f1 ∧ z.f1 ≤ (H.length : Int) - 1) by omega), if_neg (by decide)]) j
  ·have nl : leafB H z = false := by unfold leafB; rw [decide_eq_false g0]; rfl
   rw [nl] at j
   exact Ev.step (fun k => by rw [spec_TermOk.l0, if_pos hi1, if_pos hi0, rdMk, h2, if_neg g0]) j
theorem spec_TermOk_ev (p : Int) (H : List Int) (hn : H.length ≤ 1048576) (hc : ∀ c ∈ H, c ≤ 9223372036854775807) (ms : List S78) (hm : ms.length ≤ 1048576) : Ev (fun k => spec_TermOk.f k p H ms) (TmB p H ms) := spec_TermOk_l0 p H hn hc ms hm ms 0 0 rfl (by omega) (by omega)

def tgB (n i t : Int) : Bool := decide (t = 10) || (decide (t = 11) || decide (i < t ∧ t < n))
def prF (p : Int) (H : List Int) (n : Int) : List S41 → Int → Bool
 | [], _ => true
 | s :: ss, i => (TmB p H s.f0 && (tgB n i s.f1 && tgB n i s.f2)) && prF p H n ss (i + 1)
def PrB (p : Int) (H : List Int) (ss : List S41) : Bool := decide (1 ≤ (ss.length : Int) ∧ (ss.length : Int) ≤ 4) && prF p H ss.length ss 0
theorem rdSt (xs : List S41) (i : Nat) : rd_T41 xs (i : Int) = xs.getD i z41 := by simp [rd_T41]
theorem tg_of {n i t : Int} : tgB n i t = true ↔ (t = 10 ∨ t = 11 ∨ (i < t ∧ t < n)) := by
 unfold tgB
 simp only [Bool.or_eq_true, decide_eq_true_eq]
section
variable (p : Int) (H : List Int) (ss : List S41)
theorem impl_isProcess_l1 (hn : ss.length ≤ 1048576) (i : Nat) (r : Bool) (y : List Int) (hy : y.length ≤ 2) (c : Ev (fun k => impl_isProcess.l0 k ss ss (ss.length : Int) (wrap64 ((i : Int) + 1)) p H) r) : ∀ (zs : List Int) (j : Nat), y.drop j = zs → Ev (fun k => impl_isProcess.l1 k ss (i : Int) ss (ss.length : Int) (i : Int) y (y.length : Int) (j : Int) p H) (zs.all (tgB ss.length i) && r) := by
 intro zs
 induction zs with
 | nil =>
  intro j h
  exact Ev.step (fun k => by rw [impl_isProcess.l1, if_neg (dnil h)]) (Ev.to c (by simp))
 | cons z zs ih =>
  intro j h
  obtain ⟨h1, h2, h3⟩ := dcons h
  have e := ih (j + 1) h3
  have hi1 : (j : Int) < (y.length : Int) := by omega
  have hi0 : 0 ≤ (j : Int) := by omega
  by_cases g1 : z = 10
  ·refine Ev.step (fun k => by rw [impl_isProcess.l1, if_pos hi1, if_pos hi0, if_pos hi1, rdn, h2, if_pos g1, wsucc h1 (by omega)]) (Ev.to e ?_)
   have : tgB ss.length i z = true := tg_of.2 (Or.inl g1)
   simp [this]
  by_cases g2 : z = 11
  ·refine Ev.step (fun k => by rw [impl_isProcess.l1, if_pos hi1, if_pos hi0, if_pos hi1, rdn, h2, if_neg g1, if_pos g2, wsucc h1 (by omega)]) (Ev.to e ?_)
   have : tgB ss.length i z = true := tg_of.2 (Or.inr (Or.inl g2))
   simp [this]
  by_cases g3 : z ≤ (i : Int)
  ·refine Ev.step (fun k => by rw [impl_isProcess.l1, if_pos hi1, if_pos hi0, if_pos hi1, rdn, h2, if_neg g1, if_neg g2, if_pos g3]) (Ev.to (Ev.now false) ?_)
   have : tgB ss.length i z = false := by rw [Bool.eq_false_iff]; intro q; have := tg_of.1 q; omega
   simp [this]
  by_cases g4 : z ≥ (ss.length : Int)
  ·refine Ev.step (fun k => by rw [impl_isProcess.l1, if_pos hi1, if_pos hi0, if_pos hi1, rdn, h2, if_neg g1, if_neg g2, if_neg g3, if_pos g4]) (Ev.to (Ev.now false) ?_)
   have : tgB ss.length i z = false := by rw [Bool.eq_false_iff]; intro q; have := tg_of.1 q; omega
   simp [this]
  ·refine Ev.step (fun k => by rw [impl_isProcess.l1, if_pos hi1, if_pos hi0, if_pos hi1, rdn, h2, if_neg g1, if_neg g2, if_neg g3, if_neg g4, wsucc h1 (by omega)]) (Ev.to e ?_)
   have : tgB ss.length i z = true := tg_of.2 (Or.inr (Or.inr (by omega)))
   simp [this]
theorem impl_isProcess_l0 (hH : H.length ≤ 1048576) (hn : ss.length ≤ 1048576) (hin : ∀ s ∈ ss, s.f0.length ≤ 1048576) : ∀ (zs : List S41) (i : Nat), ss.drop i = zs → Ev (fun k => impl_isProcess.l0 k ss ss (ss.length : Int) (i : Int) p H) (prF p H ss.length zs i) := by
 intro zs
 induction zs with
 | nil =>
  intro i h
  exact Ev.step (f := fun _ => some true) (fun k => by rw [impl_isProcess.l0, if_neg (dnil h)]) (Ev.now _)
 | cons z zs ih =>
  intro i h
  obtain ⟨h1, h2, h3⟩ := dcons h
  have hz : z ∈ ss := List.mem_of_mem_drop (by rw [h]; simp)
  have e := ih (i + 1) h3
  have e : Ev (fun k => impl_isProcess.l0 k ss ss (ss.length : Int) (wrap64 ((i : Int) + 1)) p H) (prF p H ss.length zs ((i : Int) + 1)) := by
   rw [wsucc h1 (by omega)]
   exact e
  have e1 := impl_isProcess_l1 p H ss hn i _ [z.f1, z.f2] (by simp) e [z.f1, z.f2] 0 rfl
  have hi1 : (i : Int) < (ss.length : Int) := by omega
  have hi0 : 0 ≤ (i : Int) := by omega
  refine Ev.step (f := fun k => (impl_isTerm.f k p H z.f0).bind fun t => (if t = true then (impl_isProcess.l1 k ss (i : Int) ss (ss.length : Int) (i : Int) [z.f1, z.f2] (([z.f1, z.f2] : List Int).length : Int) ((0 : Nat) : Int) p H) else (some false))) (fun k => ?_) (Ev.bind (impl_isTerm_ev p H hH _ (hin z hz)) ?_)
  ·rw [impl_isProcess.l0, if_pos hi1, if_pos hi0, if_pos hi1, rdSt, h2]
   rfl
  ·rw [prF]
   cases TmB p H z.f0 with
   | false => simp only [Bool.false_eq_true, if_false, Bool.false_and]; exact Ev.now _
   | true =>
    simp only [if_true, Bool.true_and]
    refine Ev.to e1 ?_
    simp [Bool.and_assoc]
theorem impl_isProcess_ev (hH : H.length ≤ 1048576) (hn : ss.length ≤ 1048576) (hin : ∀ s ∈ ss, s.f0.length ≤ 1048576) : Ev (fun k => impl_isProcess.f k p H ss) (PrB p H ss) := by
 have stop : Ev (fun k => impl_isProcess.j0 k ss true p H) false := Ev.step (f := fun _ => some false) (fun k => by rw [impl_isProcess.j0, if_pos rfl]) (Ev.now _)
 unfold impl_isProcess.f PrB
 by_cases h1 : (ss.length : Int) < 1
 ·simp only [if_pos h1]
  exact Ev.to stop (by rw [decide_eq_false (by omega)]; rfl)
 ·simp only [if_neg h1]
  by_cases h2 : (ss.length : Int) > 4
  ·simp only [decide_eq_true h2]
   exact Ev.to stop (by rw [decide_eq_false (by omega)]; rfl)
  ·rw [decide_eq_true (show 1 ≤ (ss.length : Int) ∧ (ss.length : Int) ≤ 4 by omega), Bool.true_and]
   simp only [decide_eq_false h2]
   exact Ev.step (f := fun k => impl_isProcess.l0 k ss ss (ss.length : Int) ((0 : Nat) : Int) p H) (fun k => by rw [impl_isProcess.j0, if_neg (by decide)]; rfl) (impl_isProcess_l0 p H ss hH hn hin ss 0 rfl)
theorem spec_ProcessOk_l0 (hH : H.length ≤ 1048576) (hc : ∀ c ∈ H, c ≤ 9223372036854775807) (hn : ss.length ≤ 1048576) (hin : ∀ s ∈ ss, s.f0.length ≤ 1048576) : ∀ (zs : List S41) (i : Nat), ss.drop i = zs → Ev (fun k => spec_ProcessOk.l0 k ss (i : Int) p H) (prF p H ss.length zs i && decide (1 ≤ (ss.length : Int) ∧ (ss.length : Int) ≤ 4)) := by
 intro zs
 induction zs with
 | nil =>
  intro i h
  exact Ev.step (f := fun _ => some (decide (1 ≤ (ss.length : Int) ∧ (ss.length : Int) ≤ 4))) (fun k => by rw [spec_ProcessOk.l0, if_neg (dnil h), l1In_eq2]; rfl) (Ev.to (Ev.now _) (by simp [prF]))
 | cons z zs ih =>
  intro i h
  obtain ⟨h1, h2, h3⟩ := dcons h
  have hz : z ∈ ss := List.mem_of_mem_drop (by rw [h]; simp)
  have e := ih (i + 1) h3
  have hi1 : (i : Int) < (ss.length : Int) := by omega
  have hi0 : 0 ≤ (i : Int) := by omega
  have w1 : wrap64 ((i : Int) + 1) = ((i + 1 : Nat) : Int) := wsucc h1 (by omega)
  have w2 : wrap64 ((ss.length : Int) - 1) = (ss.length : Int) - 1 := wz (by omega) (by omega)
  have s0 : wrap64 (0 + 1) = 1 := by unfold wrap64; omega
  have s1 : wrap64 (1 + 1) = 2 := by unfold wrap64; omega
  have e3 : Ev (fun k => spec_ProcessOk.l1 k ss (i : Int) 2 p H) (TmB p H z.f0 && (prF p H ss.length zs ((i : Int) + 1) && decide (1 ≤ (ss.length : Int) ∧ (ss.length : Int) ≤ 4))) := by
   refine Ev.step (f := fun k => (spec_TermOk.f k p H z.f0).bind fun t => if t = true then (spec_ProcessOk.l0 k ss ((i + 1 : Nat) : Int) p H) else (some false)) (fun k => by rw [spec_ProcessOk.l1, if_neg (by decide), if_pos hi0, if_pos hi1, rdSt, h2, w1]) (Ev.bind (spec_TermOk_ev p H hH hc _ (hin z hz)) ?_)
   cases TmB p H z.f0 with
   | false => simp only [Bool.false_eq_true, if_false, Bool.false_and]; exact Ev.now _
   | true => simp only [if_true, Bool.true_and]; exact Ev.to e rfl
  have e2 : Ev (fun k => spec_ProcessOk.l1 k ss (i : Int) 1 p H) (tgB ss.length i z.f2 && (TmB p H z.f0 && (prF p H ss.length zs ((i : Int) + 1) && decide (1 ≤ (ss.length : Int) ∧ (ss.length : Int) ≤ 4)))) := by
   by_cases g1 : z.f2 = 10
   ·exact Ev.step (fun k => by rw [spec_ProcessOk.l1, if_pos (by decide), if_pos hi0, if_pos hi1, if_pos rfl, rdSt, h2, if_pos g1, s1]) (Ev.to e3 (by rw [tg_of.2 (Or.inl g1), Bool.true_and]))
   by_cases g2 : z.f2 = 11
   ·exact Ev.step (fun k => by rw [spec_ProcessOk.l1, if_pos (by decide), if_pos hi0, if_pos hi1, if_pos rfl, rdSt, h2, if_neg g1, if_pos g2, s1]) (Ev.to e3 (by rw [tg_of.2 (Or.inr (Or.inl g2)), Bool.true_and]))
   by_cases g3 : ((i + 1 : Nat) : Int) ≤ z.f2 ∧ z.f2 ≤ (ss.length : Int) - 1
   ·refine Ev.step (fun k => by rw [spec_ProcessOk.l1, if_pos (by decide), if_pos hi0, if_pos hi1, if_pos rfl, rdSt, h2, if_neg g1, if_neg g2, l1In_eq2, w1, w2, decide_eq_true g3, Option.bind_some, if_pos rfl, s1]) (Ev.to e3 (by rw [(tg_of (t := z.f2)).2 (Or.inr (Or.inr (by omega))), Bool.true_and]))
   ·refine Ev.step (fun k => by rw [spec_ProcessOk.l1, if_pos (by decide), if_pos hi0, if_pos hi1, if_pos rfl, rdSt, h2, if_neg g1, if_neg g2, l1In_eq2, w1, w2, decide_eq_false g3, Option.bind_some, if_neg (by decide)]) (Ev.to (Ev.now false) ?_)
    have : tgB ss.length i z.f2 = false := by rw [Bool.eq_false_iff]; intro q; have := tg_of.1 q; omega
    rw [this, Bool.false_and]
  have e1 : Ev (fun k => spec_ProcessOk.l1 k ss (i : Int) 0 p H) (tgB ss.length i z.f1 && (tgB ss.length i z.f2 && (TmB p H z.f0 && (prF p H ss.length zs ((i : Int) + 1) && decide (1 ≤ (ss.length : Int) ∧ (ss.length : Int) ≤ 4))))) := by
   by_cases g1 : z.f1 = 10
   ·exact Ev.step (fun k => by rw [spec_ProcessOk.l1, if_pos (by decide), if_pos hi0, if_pos hi1, if_neg (by decide), rdSt, h2, if_pos g1, s0]) (Ev.to e2 (by rw [tg_of.2 (Or.inl g1), Bool.true_and]))
   by_cases g2 : z.f1 = 11
   ·exact Ev.step (fun k => by rw [spec_ProcessOk.l1, if_pos (by decide), if_pos hi0, if_pos hi1, if_neg (by decide), rdSt, h2, if_neg g1, if_pos g2, s0]) (Ev.to e2 (by rw [tg_of.2 (Or.inr (Or.inl g2)), Bool.true_and]))
   by_cases g3 : ((i + 1 : Nat) : Int) ≤ z.f1 ∧ z.f1 ≤ (ss.length : Int) - 1
   ·refine Ev.step (fun k => by rw [spec_ProcessOk.l1, if_pos (by decide), if_pos hi0, if_pos hi1, if_neg (by decide), rdSt, h2, if_neg g1, if_neg g2, l1In_eq2, w1, w2, decide_eq_true g3, Option.bind_some, if_pos rfl, s0]) (Ev.to e2 (by rw [(tg_of (t := z.f1)).2 (Or.inr (Or.inr (by omega))), Bool.true_and]))
   ·refine Ev.step (fun k => by rw [spec_ProcessOk.l1, if_pos (by decide), if_pos hi0, if_pos hi1, if_neg (by decide), rdSt, h2, if_neg g1, if_neg g2, l1In_eq2, w1, w2, decide_eq_false g3, Option.bind_some, if_neg (by decide)]) (Ev.to (Ev.now false) ?_)
    have : tgB ss.length i z.f1 = false := by rw [Bool.eq_false_iff]; intro q; have := tg_of.1 q; omega
    rw [this, Bool.false_and]
  refine Ev.step (fun k => by rw [spec_ProcessOk.l0, if_pos hi1]) (Ev.to e1 ?_)
  rw [prF]
  cases TmB p H z.f0 <;> cases tgB ss.length i z.f1 <;> cases tgB ss.length i z.f2 <;> simp
theorem spec_ProcessOk_ev (hH : H.length ≤ 1048576) (hc : ∀ c ∈ H, c ≤ 9223372036854775807) (hn : ss.length ≤ 1048576) (hin : ∀ s ∈ ss, s.f0.length ≤ 1048576) : Ev (fun k => spec_ProcessOk.f k p H ss) (PrB p H ss) :=
 Ev.to (spec_ProcessOk_l0 p H ss hH hc hn hin ss 0 rfl) (Bool.and_comm _ _)
end

theorem eqIntS_l0 (xs : List Int) (hn : xs.length ≤ 9223372036854775807) : ∀ (ys : List Int) (i : Nat), xs.drop i = ys → Ev (fun k => laws_eqIntS.l0 k xs xs (i : Int)) true := by
 intro ys
 induction ys with
 | nil =>
  intro i h
  exact Ev.step (f := fun _ => some true) (fun k => by rw [laws_eqIntS.l0, if_neg (dnil h)]) (Ev.now _)
 | cons y ys ih =>
  intro i h
  obtain ⟨h1, h2, h3⟩ := dcons h
  refine Ev.step (f := fun k => laws_eqIntS.l0 k xs xs ((i + 1 : Nat) : Int)) (fun k => ?_) (ih (i + 1) h3)
  rw [laws_eqIntS.l0, if_pos (by omega), if_pos (by omega), if_pos (by omega), if_pos rfl, wsucc h1 hn]
theorem eqIntS_ev (xs : List Int) (hn : xs.length ≤ 9223372036854775807) : Ev (fun k => laws_eqIntS.f k xs xs) true := by
 unfold laws_eqIntS.f
 simp only [if_true]
 exact eqIntS_l0 xs hn xs 0 rfl

def mk (a : Int) (l : List Int) (i : Nat) : List Int := (List.range i).map (fun (j : Nat) => a + (j : Int)) ++ l.drop i
theorem mk_len (a : Int) (l : List Int) {i : Nat} (h : i ≤ l.length) : (mk a l i).length = l.length := by simp [mk]; omega
theorem mk_set (a : Int) (l : List Int) {i : Nat} (h : i < l.length) : (mk a l i).set i (a + i) = mk a l (i + 1) := by
 unfold mk
 have hlen : ((List.range i).map (fun (j : Nat) => a + (j : Int))).length = i := by simp
 rw [List.set_append_right _ _ (by omega), hlen, Nat.sub_self, List.drop_eq_getElem_cons h, List.range_succ, List.map_append, List.set_cons_zero, List.append_assoc]
 rfl
theorem markIntS_l0 (a : Int) (l : List Int) (ha : 0 ≤ a) (hb : a ≤ 1000000000) (hn : l.length ≤ 1000000000) : ∀ (d i : Nat), i + d = l.length → Ev (fun k => laws_markIntS.l0 k (mk a l i) (a + (i : Int)) (i : Int)) (a + l.length, mk a l l.length) := by
 intro d
 induction d with
 | zero =>
  intro i h
  obtain rfl : i = l.length := by omega
  exact Ev.step (f := fun _ => some (a + (l.length : Int), mk a l l.length)) (fun k => by rw [laws_markIntS.l0, if_neg (by rw [mk_len a l (Nat.le_refl _)]; omega)]) (Ev.now _)
 | succ d ih =>
  intro i h
  refine Ev.step (f := fun k => laws_markIntS.l0 k (mk a l (i + 1)) (a + ((i + 1 : Nat) : Int)) ((i + 1 : Nat) : Int)) (fun k => ?_) (ih (i + 1) (by omega))
  rw [laws_markIntS.l0, if_pos (by rw [mk_len a l (by omega)]; omega), if_pos (by omega), wz (x := a + i + 1) (by omega) (by omega), wz (x := (i : Int) + 1) (by omega) (by omega)]
  have := mk_set a l (i := i) (by omega)
  rw [show ((i : Int)).toNat = i from rfl, this, show a + (i : Int) + 1 = a + ((i + 1 : Nat) : Int) by omega, show (i : Int) + 1 = ((i + 1 : Nat) : Int) by omega]
theorem markIntS_ev (a : Int) (l : List Int) (ha : 0 ≤ a) (hb : a ≤ 1000000000) (hn : l.length ≤ 1000000000) : Ev (fun k => laws_markIntS.f k l a) (a + l.length, mk a l l.length) := by
 have := markIntS_l0 a l ha hb hn l.length 0 (by omega)
 unfold laws_markIntS.f
 simpa [mk] using this

theorem szIntS_small {l : List Int} (hp : l.length ≤ 9223372036854775807) (b : Int) (h0 : 0 ≤ b) (hb : b ≤ 1048576) : ∃ r, laws_szIntS.f l b = some r ∧ (¬ r < 0 → r ≤ 1048576 ∧ l.length ≤ 1048576) := by
 unfold laws_szIntS.f
 rw [wz (by omega) (by omega)]
 by_cases h : (b - (l.length : Int)) < 0
 ·exact ⟨-1, by rw [if_pos h], by omega⟩
 ·exact ⟨_, by rw [if_neg h], by omega⟩
theorem toIntS_l0 (l : List Int) (hn : l.length ≤ 9223372036854775807) : ∀ (ys : List Int) (i : Nat), l.drop i = ys → Ev (fun k => laws_toIntS.l0 k l ((l.take i).map id ++ List.replicate (l.length - i) 0) (i : Int)) (l.map id) := by
 intro ys
 induction ys with
 | nil =>
  intro i h
  have hi := List.drop_eq_nil_iff.1 h
  refine Ev.step (f := fun _ => some (l.map id)) (fun k => ?_) (Ev.now _)
  rw [laws_toIntS.l0, if_neg (dnil h), List.take_of_length_le hi, show l.length - i = 0 by omega]
  simp
 | cons y ys ih =>
  intro i h
  obtain ⟨h1, h2, h3⟩ := dcons h
  refine Ev.step (f := fun k => laws_toIntS.l0 k l ((l.take (i + 1)).map id ++ List.replicate (l.length - (i + 1)) 0) ((i + 1 : Nat) : Int)) (fun k => ?_) (ih (i + 1) h3)
  rw [laws_toIntS.l0, if_pos (by omega), if_pos (by omega), rdn, h2, if_pos (by simp <;> omega), wsucc h1 hn, ← set_mid l id 0 h]
  rfl
theorem toIntS_ev (l : List Int) (hn : l.length ≤ 1048576) : Ev (fun k => laws_toIntS.f k l) l := by
 unfold laws_toIntS.f
 simp only [if_pos (show 0 ≤ (l.length : Int) by omega), if_pos (show ((l.length : Int)).toNat ≤ 35184372088832 by omega)]
 have := toIntS_l0 l (by omega) l 0 rfl
 simpa using this

def cMk (x : S104) : S78 := ⟨x.f0, x.f1, x.f2⟩
def cSt (x : S85) : S41 := ⟨x.f0.map cMk, x.f1, x.f2⟩
theorem rdLM (xs : List S104) (i : Nat) : rd_T104 xs (i : Int) = xs.getD i z104 := by simp [rd_T104]
theorem rdLS (xs : List S85) (i : Nat) : rd_T85 xs (i : Int) = xs.getD i z85 := by simp [rd_T85]
theorem szHouse_small {p : Int} {H : List Int} (hp : H.length ≤ 9223372036854775807) : ∃ r, laws_szHouse.f p H 1048576 = some r ∧ (¬ r < 0 → r ≤ 1048576 ∧ H.length ≤ 1048576) := by
 obtain ⟨r, hr, hs⟩ := szIntS_small hp 1048576 (by omega) (by omega)
 unfold laws_szHouse.f
 rw [hr]
 by_cases h : r < 0
 ·exact ⟨-1, by simp only [Option.bind_some, if_pos h], by omega⟩
 ·exact ⟨r, by simp only [Option.bind_some, if_neg h], hs⟩
theorem toHouse_ev (p : Int) (H : List Int) (hH : H.length ≤ 1048576) : Ev (fun k => laws_toHouse.f k p H) (p, H) := by
 unfold laws_toHouse.f
 exact Ev.bind (toIntS_ev H hH) (Ev.now _)
theorem toMarkS_l0 (l : List S104) (hn : l.length ≤ 9223372036854775807) : ∀ (ys : List S104) (i : Nat), l.drop i = ys → Ev (fun k => laws_toMarkS.l0 k l ((l.take i).map cMk ++ List.replicate (l.length - i) z78) (i : Int)) (l.map cMk) := by
 intro ys
 induction ys with
 | nil =>
  intro i h
  have hi := List.drop_eq_nil_iff.1 h
  refine Ev.step (f := fun _ => some (l.map cMk)) (fun k => ?_) (Ev.now _)
  rw [laws_toMarkS.l0, if_neg (dnil h), List.take_of_length_le hi, show l.length - i = 0 by omega]
  simp
 | cons y ys ih =>
  intro i h
  obtain ⟨h1, h2, h3⟩ := dcons h
  refine Ev.step (f := fun k => laws_toMarkS.l0 k l ((l.take (i + 1)).map cMk ++ List.replicate (l.length - (i + 1)) z78) ((i + 1 : Nat) : Int)) (fun k => ?_) (ih (i + 1) h3)
  rw [laws_toMarkS.l0, if_pos (by omega), if_pos (by omega), rdLM, h2]
  unfold laws_toMark.f
  simp only [Option.bind_some]
  rw [if_pos (by simp <;> omega), wsucc h1 hn, ← set_mid l cMk z78 h]
  simp [cMk]
theorem toMarkS_ev (l : List S104) (hn : l.length ≤ 1048576) : Ev (fun k => laws_toMarkS.f k l) (l.map cMk) := by
 unfold laws_toMarkS.f
 simp only [if_pos (show 0 ≤ (l.length : Int) by omega), if_pos (show ((l.length : Int)).toNat ≤ 11728124029610 by omega)]
 have := toMarkS_l0 l (by omega) l 0 rfl
 simpa using this
theorem toStepS_l0 (l : List S85) (hn : l.length ≤ 9223372036854775807) (hin : ∀ x ∈ l, x.f0.length ≤ 1048576) : ∀ (ys : List S85) (i : Nat), l.drop i = ys → Ev (fun k => laws_toStepS.l0 k l ((l.take i).map cSt ++ List.replicate (l.length - i) z41) (i : Int)) (l.map cSt) := by
 intro ys
 induction ys with
 | nil =>
  intro i h
  have hi := List.drop_eq_nil_iff.1 h
  refine Ev.step (f := fun _ => some (l.map cSt)) (fun k => ?_) (Ev.now _)
  rw [laws_toStepS.l0, if_neg (dnil h), List.take_of_length_le hi, show l.length - i = 0 by omega]
  simp
 | cons y ys ih =>
  intro i h
  obtain ⟨h1, h2, h3⟩ := dcons h
  have hy : y ∈ l := List.mem_of_mem_drop (by rw [h]; simp)
  have hc : (i : Int) < (((l.take i).map cSt ++ List.replicate (l.length - i) z41).length : Int) := by simp <;> omega
  refine Ev.step (f := fun k => (laws_toMarkS.f k y.f0).bind fun t => laws_toStepS.l0 k l (((l.take i).map cSt ++ List.replicate (l.length - i) z41).set i ⟨t, y.f1, y.f2⟩) ((i + 1 : Nat) : Int)) (fun k => ?_) (Ev.bind (toMarkS_ev y.f0 (hin y hy)) ?_)
  ·rw [laws_toStepS.l0, if_pos (by omega), if_pos (by omega), rdLS, h2]
   unfold laws_toStep.f
   simp only [if_pos hc, wsucc h1 hn, Option.bind_assoc, Option.bind_some]
   rfl
  ·have e := ih (i + 1) h3
   rw [← set_mid l cSt z41 h] at e
   exact e
theorem toStepS_ev (l : List S85) (hn : l.length ≤ 1048576) (hin : ∀ x ∈ l, x.f0.length ≤ 1048576) : Ev (fun k => laws_toStepS.f k l) (l.map cSt) := by
 unfold laws_toStepS.f
 simp only [if_pos (show 0 ≤ (l.length : Int) by omega), if_pos (show ((l.length : Int)).toNat ≤ 7036874417766 by omega)]
 have := toStepS_l0 l (by omega) hin l 0 rfl
 simpa using this
theorem eqHouse_ev (p : Int) (H : List Int) (hH : H.length ≤ 1048576) : Ev (fun k => laws_eqHouse.f k p H p H) true := by
 unfold laws_eqHouse.f
 simp only [if_true]
 refine Ev.bind (eqIntS_ev H (by omega)) ?_
 simp only [if_true]
 exact Ev.now _
theorem eqMark_refl (a b c : Int) : laws_eqMark.f a b c a b c = some true := by
 unfold laws_eqMark.f
 simp
theorem eqMarkS_l0 (xs : List S78) (hn : xs.length ≤ 9223372036854775807) : ∀ (ys : List S78) (i : Nat), xs.drop i = ys → Ev (fun k => laws_eqMarkS.l0 k xs xs (i : Int)) true := by
 intro ys
 induction ys with
 | nil =>
  intro i h
  exact Ev.step (f := fun _ => some true) (fun k => by rw [laws_eqMarkS.l0, if_neg (dnil h)]) (Ev.now _)
 | cons y ys ih =>
  intro i h
  obtain ⟨h1, h2, h3⟩ := dcons h
  refine Ev.step (f := fun k => laws_eqMarkS.l0 k xs xs ((i + 1 : Nat) : Int)) (fun k => ?_) (ih (i + 1) h3)
  rw [laws_eqMarkS.l0, if_pos (by omega), if_pos (by omega), if_pos (by omega), eqMark_refl, wsucc h1 hn]
  rfl
theorem eqMarkS_ev (xs : List S78) (hn : xs.length ≤ 9223372036854775807) : Ev (fun k => laws_eqMarkS.f k xs xs) true := by
 unfold laws_eqMarkS.f
 simp only [if_true]
 exact eqMarkS_l0 xs hn xs 0 rfl
theorem eqStepS_l0 (xs : List S41) (hn : xs.length ≤ 9223372036854775807) (hin : ∀ x ∈ xs, x.f0.length ≤ 1048576) : ∀ (ys : List S41) (i : Nat), xs.drop i = ys → Ev (fun k => laws_eqStepS.l0 k xs xs (i : Int)) true := by
 intro ys
 induction ys with
 | nil =>
  intro i h
  exact Ev.step (f := fun _ => some true) (fun k => by rw [laws_eqStepS.l0, if_neg (dnil h)]) (Ev.now _)
 | cons y ys ih =>
  intro i h
  obtain ⟨h1, h2, h3⟩ := dcons h
  have hy : y ∈ xs := List.mem_of_mem_drop (by rw [h]; simp)
  have := hin y hy
  have st : Ev (fun k => laws_eqStep.f k y.f0 y.f1 y.f2 y.f0 y.f1 y.f2) true := by
   unfold laws_eqStep.f
   refine Ev.bind (eqMarkS_ev y.f0 (by omega)) ?_
   simp only [if_true]
   exact Ev.now _
  refine Ev.step (f := fun k => (laws_eqStep.f k y.f0 y.f1 y.f2 y.f0 y.f1 y.f2).bind fun t => if t = true then laws_eqStepS.l0 k xs xs ((i + 1 : Nat) : Int) else some false) (fun k => ?_) (Ev.bind st (by simp only [if_true]; exact ih (i + 1) h3))
  rw [laws_eqStepS.l0, if_pos (by omega), if_pos (by omega), if_pos (by omega), rdSt, h2, wsucc h1 hn]
theorem eqStepS_ev (xs : List S41) (hn : xs.length ≤ 9223372036854775807) (hin : ∀ x ∈ xs, x.f0.length ≤ 1048576) : Ev (fun k => laws_eqStepS.f k xs xs) true := by
 unfold laws_eqStepS.f
 simp only [if_true]
 exact eqStepS_l0 xs hn hin xs 0 rfl
theorem wf_le {n : Int} (h : Opens.pInt .i64 n) : n ≤ 9223372036854775807 := by
 unfold Opens.pInt Lit.wf at h
 simp at h
 omega

inductive Tm where
 | lf : S78 → Tm
 | nd : S78 → Tm → Tm → Tm
def flat : Tm → List S78
 | .lf m => [m]
 | .nd m a b => flat a ++ (flat b ++ [m])
def good (H : List Int) : Tm → Prop
 | .lf m => leafB H m = true
 | .nd m a b => opB m = true ∧ good H a ∧ good H b
def val (H : List Int) (c : Int) : Tm → Bool
 | .lf m => decide (hdI (Go.bits .and .i64 (rd H m.f1) c) ≥ m.f2)
 | .nd m a b => if m.f0 = 2 then (val H c a || val H c b) else (val H c a && val H c b)
def psF (H : List Int) : List S78 → List Tm → List Tm
 | [], s => s
 | m :: ms, s => if leafB H m = true then psF H ms (.lf m :: s) else match s with
  | b :: a :: s => psF H ms (.nd m a b :: s)
  | s => s
def flats : List Tm → List S78
 | [] => []
 | t :: s => flats s ++ flat t
theorem ps_ok (H : List Int) : ∀ (ms : List S78) (s : List Tm), tmF H ms (s.length : Int) = true → (∀ t ∈ s, good H t) → ∃ t, psF H ms s = [t] ∧ good H t ∧ flat t = flats s ++ ms := by
 intro ms
 induction ms with
 | nil =>
  intro s h hg
  have hl : (s.length : Int) = 1 := of_decide_eq_true h
  match s, hl, hg with
  | [t], _, hg => exact ⟨t, rfl, hg t (by simp), by simp [flats]⟩
  | [], hl, _ => simp at hl
  | _ :: _ :: _, hl, _ => simp at hl; omega
 | cons m ms ih =>
  intro s h hg
  unfold tmF at h
  by_cases hl : leafB H m = true
  ·rw [if_pos hl] at h
   obtain ⟨t, h1, h2, h3⟩ := ih (.lf m :: s) (by simpa using h) (by
    intro t ht
    rcases List.mem_cons.1 ht with rfl | ht
    ·exact hl
    ·exact hg t ht)
   exact ⟨t, by unfold psF; rw [if_pos hl]; exact h1, h2, by rw [h3]; simp [flats, flat]⟩
  ·rw [if_neg hl] at h
   by_cases ho : opB m = true
   ·rw [if_pos ho] at h
    by_cases hd : (s.length : Int) < 2
    ·rw [if_pos hd] at h; cases h
    ·rw [if_neg hd] at h
     match s, hd, hg, h with
     | [], hd, _, _ => simp at hd
     | [_], hd, _, _ => simp at hd
     | b :: a :: s, _, hg, h =>
      obtain ⟨t, h1, h2, h3⟩ := ih (.nd m a b :: s) (by
       have e : (((b :: a :: s).length : Int) - 1) = (((Tm.nd m a b :: s).length : Nat) : Int) := by simp
       rw [← e]; exact h) (by
       intro t ht
       rcases List.mem_cons.1 ht with rfl | ht
       ·exact ⟨ho, hg a (by simp), hg b (by simp)⟩
       ·exact hg t (by simp [ht]))
      exact ⟨t, by rw [psF, if_neg hl]; exact h1, h2, by rw [h3]; simp [flats, flat]⟩
   ·rw [if_neg ho] at h; cases h
def saysB (H : List Int) (c : Int) (ms : List S78) : Bool := match psF H ms [] with
 | t :: _ => val H c t
 | [] => false
theorem flat_pos (t : Tm) : 0 < (flat t).length := by cases t <;> simp [flat] <;> omega
theorem and_fin : ∀ a b : Fin 64, 0 ≤ Go.bits .and .i64 (a.val : Int) (b.val : Int) ∧ Go.bits .and .i64 (a.val : Int) (b.val : Int) < 64 ∧ Go.bits .and .i64 (a.val : Int) (b.val : Int) = Go.bits .and .i64 (b.val : Int) (a.val : Int) := by decide +kernel
theorem and_small {a b : Int} (h0 : 0 ≤ a) (h1 : a < 64) (h2 : 0 ≤ b) (h3 : b < 64) : 0 ≤ Go.bits .and .i64 a b ∧ Go.bits .and .i64 a b < 64 ∧ Go.bits .and .i64 a b = Go.bits .and .i64 b a := by
 obtain ⟨n, rfl⟩ := Int.eq_ofNat_of_zero_le h0
 obtain ⟨m, rfl⟩ := Int.eq_ofNat_of_zero_le h2
 exact and_fin ⟨n, by omega⟩ ⟨m, by omega⟩
theorem leaf_of {H : List Int} {m : S78} (h : leafB H m = true) : m.f0 = 0 ∧ 0 ≤ m.f1 ∧ m.f1 < (H.length : Int) ∧ rd H m.f1 ∈ H := by
 unfold leafB at h
 simp only [Bool.and_eq_true, decide_eq_true_eq] at h
 obtain ⟨h1, ⟨h2, h3⟩, h4⟩ := h
 refine ⟨h1, h2, h3, ?_⟩
 obtain ⟨n, hn2⟩ := Int.eq_ofNat_of_zero_le h2
 rw [hn2, rdn, List.getD_eq_getElem?_getD, List.getElem?_eq_getElem (show n < H.length by omega)]
 exact List.getElem_mem _
theorem op_of {m : S78} (h : opB m = true) : m.f0 = 1 ∨ m.f0 = 2 := by
 unfold opB at h
 simp only [Bool.and_eq_true, Bool.or_eq_true, decide_eq_true_eq] at h
 exact h.1
theorem drop_app {α : Type} {xs a b : List α} {i : Nat} (h : xs.drop i = a ++ b) : xs.drop (i + a.length) = b := by
 rw [← List.drop_drop, h, List.drop_left]
section
variable (p : Int) (H : List Int) (c : Int)
theorem consents_tree (hH : HsB p H = true) (h0 : 0 ≤ c) (h1 : c < 64) (xs : List S78) (hx : xs.length ≤ 1048576) (r : Bool) : ∀ (t : Tm), good H t → ∀ (i : Nat) (rest : List S78) (st : List Bool), xs.drop i = flat t ++ rest → st.length ≤ i →
  Ev (fun k => impl_consents.l0 k c (st ++ [val H c t]) xs (xs.length : Int) ((i + (flat t).length : Nat) : Int) p H) r → Ev (fun k => impl_consents.l0 k c st xs (xs.length : Int) (i : Int) p H) r := by
 have hh := HsB_of hH
 intro t
 induction t with
 | lf m =>
  intro hg i rest st hd hst e
  obtain ⟨d1, d2, d3⟩ := dcons (show xs.drop i = m :: rest from hd)
  obtain ⟨g0, g1, g2, g3⟩ := leaf_of hg
  have hr := hh.2.2.2 _ g3
  have ha := and_small (Int.le_of_lt hr.1) hr.2 h0 h1
  refine Ev.step (fun k => ?_) e
  rw [impl_consents.l0, if_pos (by omega), if_pos (by omega), if_pos (by omega), rdMk, d2, if_pos g0, if_pos g1, if_pos g2, impl_heads ha.1 ha.2.1, Option.bind_some, if_pos (by omega), wsucc d1 (by omega)]
  rfl
 | nd m a b iha ihb =>
  intro hg i rest st hd hst e
  obtain ⟨go, ga, gb⟩ := hg
  have hd' : xs.drop i = flat a ++ (flat b ++ (m :: rest)) := by rw [hd]; simp [flat]
  have hda := drop_app hd'
  have hdb := drop_app hda
  obtain ⟨d1, d2, d3⟩ := dcons hdb
  have pa := flat_pos a
  have pb := flat_pos b
  refine iha ga i _ st hd' hst (ihb gb _ _ _ hda (by simp <;> omega) ?_)
  generalize hj : i + (flat a).length + (flat b).length = j at *
  have ej : i + (flat (Tm.nd m a b)).length = j + 1 := by simp [flat]; omega
  rw [ej] at e
  have hi1 : (j : Int) < (xs.length : Int) := by omega
  have hi0 : 0 ≤ (j : Int) := by omega
  have g0 : ¬ m.f0 = 0 := by have := op_of go; omega
  generalize hva : val H c a = va at *
  generalize hvb : val H c b = vb at *
  have len : ((st ++ [va] ++ [vb]).length : Int) = (st.length : Int) + 2 := by simp <;> omega
  have w2 : wrap64 (((st ++ [va] ++ [vb]).length : Int) - 2) = (st.length : Int) := by rw [len, wz (by omega) (by omega)]; omega
  have w1 : wrap64 (((st ++ [va] ++ [vb]).length : Int) - 1) = (st.length : Int) + 1 := by rw [len, wz (by omega) (by omega)]; omega
  have r2 : rdOf false (st ++ [va] ++ [vb]) (st.length : Int) = va := by simp [rdOf]
  have r1 : rdOf false (st ++ [va] ++ [vb]) ((st.length : Int) + 1) = vb := by
   have : ((st.length : Int) + 1).toNat = st.length + 1 := by omega
   simp [rdOf, this]
  have tk : (st ++ [va] ++ [vb]).take ((st.length : Int)).toNat = st := by simp
  have hv : val H c (Tm.nd m a b) = if m.f0 = 2 then (va || vb) else (va && vb) := by rw [val, hva, hvb]
  rw [hv] at e
  refine Ev.step (fun k => ?_) e
  rw [impl_consents.l0, if_pos hi1, if_pos hi0, if_pos hi1, rdMk, d2, if_neg g0, w2, w1, len, if_pos (by omega), if_pos (by omega), if_pos (by omega), if_pos (by omega), r2, r1, tk]
  simp only [if_pos (show (st.length : Int) ≤ (st.length : Int) + 2 by omega), Option.bind_some, if_pos (show st.length < 140737488355328 by omega), wsucc d1 (show xs.length ≤ 9223372036854775807 by omega)]
  by_cases g2 : m.f0 = 2
  ·simp only [if_pos g2]
   cases va <;> simp
  ·simp only [if_neg g2]
   cases va <;> simp
theorem consents_ev (ms : List S78) (hm : ms.length ≤ 1048576) (ht : TmB p H ms = true) (h0 : 0 ≤ c) (h1 : c < 64) : Ev (fun k => impl_consents.f k p H ms c) (saysB H c ms) := by
 unfold TmB at ht
 simp only [Bool.and_eq_true, decide_eq_true_eq] at ht
 obtain ⟨hH, hl, hf⟩ := ht
 obtain ⟨t, t1, t2, t3⟩ := ps_ok H ms [] (by simpa using hf) (by simp)
 have t3 : flat t = ms := by simpa [flats] using t3
 have hv : saysB H c ms = val H c t := by unfold saysB; rw [t1]
 rw [hv]
 refine consents_tree p H c hH h0 h1 ms hm _ t t2 0 [] [] (by simp [t3]) (by simp) ?_
 rw [t3]
 refine Ev.step (fun k => ?_) (Ev.now (val H c t))
 rw [impl_consents.l0, if_neg (by omega), if_pos (by simp)]
 simp [rdOf]
theorem starts_tree (xs : List S78) (hx : xs.length ≤ 1048576) (r : Int) : ∀ (t : Tm), good H t → ∀ (i : Nat) (rest : List S78) (n : Int), xs.drop i = flat t ++ rest → 0 ≤ n → n + (flat t).length ≤ 1048576 →
  Ev (fun k => spec_l3Starts.l0 k xs n ((i : Int) - 1)) r → Ev (fun k => spec_l3Starts.l0 k xs (n + 1) (((i + (flat t).length : Nat) : Int) - 1)) r := by
 intro t
 induction t with
 | lf m =>
  intro hg i rest n hd hn hn2 e
  obtain ⟨d1, d2, d3⟩ := dcons (show xs.drop i = m :: rest from hd)
  obtain ⟨g0, g1, g2, g3⟩ := leaf_of hg
  have e1 : (((i + (flat (Tm.lf m)).length : Nat) : Int) - 1) = (i : Int) := by simp [flat]
  rw [e1]
  have w1 : wrap64 (n + 1 - 1) = n := by rw [wz (by omega) (by omega)]; omega
  have w2 : wrap64 ((i : Int) - 1) = (i : Int) - 1 := wz (by omega) (by omega)
  refine Ev.step (fun k => ?_) e
  rw [spec_l3Starts.l0, if_pos (by omega), if_pos (by omega), if_pos (by omega), rdMk, d2, if_pos g0, w1, w2]
 | nd m a b iha ihb =>
  intro hg i rest n hd hn hn2 e
  obtain ⟨go, ga, gb⟩ := hg
  have hd' : xs.drop i = flat a ++ (flat b ++ (m :: rest)) := by rw [hd]; simp [flat]
  have hda := drop_app hd'
  have hdb := drop_app hda
  obtain ⟨d1, d2, d3⟩ := dcons hdb
  have hl : (flat (Tm.nd m a b)).length = (flat a).length + (flat b).length + 1 := by simp [flat]; omega
  have pa := flat_pos a
  have pb := flat_pos b
  have ea := iha ga i _ n hd' hn (by omega) e
  have eb := ihb gb _ _ (n + 1) hda (by omega) (by omega) ea
  generalize hj : i + (flat a).length + (flat b).length = j at *
  have e1 : (((i + (flat (Tm.nd m a b)).length : Nat) : Int) - 1) = (j : Int) := by rw [hl]; omega
  rw [e1]
  have g0 : ¬ m.f0 = 0 := by have := op_of go; omega
  have w1 : wrap64 (n + 1 + 1) = n + 1 + 1 := wz (by omega) (by omega)
  have w2 : wrap64 ((j : Int) - 1) = (j : Int) - 1 := wz (by omega) (by omega)
  refine Ev.step (fun k => ?_) eb
  rw [spec_l3Starts.l0, if_pos (by omega), if_pos (by omega), if_pos (by omega), rdMk, d2, if_neg g0, w1, w2]
theorem says_tree (hH : HsB p H = true) (h0 : 0 ≤ c) (h1 : c < 64) : ∀ (t : Tm), good H t → (flat t).length ≤ 1000 → Ev (fun k => spec_l4Says.f k p H (flat t) c) (val H c t) := by
 have hh := HsB_of hH
 intro t
 induction t with
 | lf m =>
  intro hg hl
  obtain ⟨g0, g1, g2, g3⟩ := leaf_of hg
  have hr := hh.2.2.2 _ g3
  have ha := and_small (Int.le_of_lt hr.1) hr.2 h0 h1
  have w1 : wrap64 ((([m] : List S78).length : Int) - 1) = ((0 : Nat) : Int) := by rw [wz (by simp) (by simp)]; simp
  refine Ev.step (f := fun k => (spec_l1Heads.f k (Go.bits .and .i64 c (rd H m.f1))).bind fun t => some (decide (t ≥ m.f2))) (fun k => ?_) (Ev.bind (spec_heads_ev _ (by rw [← ha.2.2]; omega)) ?_)
  ·rw [spec_l4Says.f, show flat (Tm.lf m) = [m] from rfl, w1, if_pos (by omega), if_pos (by simp), rdMk, show ([m] : List S78).getD 0 z78 = m from rfl, if_pos g0, if_pos g1, if_pos g2]
  ·exact Ev.to (Ev.now _) (by rw [val, ha.2.2])
 | nd m a b iha ihb =>
  intro hg hl
  obtain ⟨go, ga, gb⟩ := hg
  have pa := flat_pos a
  have pb := flat_pos b
  have hlen : (flat (Tm.nd m a b)).length = (flat a).length + (flat b).length + 1 := by simp [flat]; omega
  generalize hxs : flat (Tm.nd m a b) = xs at *
  have hd : xs.drop 0 = flat a ++ (flat b ++ [m]) := by rw [← hxs]; rfl
  have hda := drop_app hd
  have hdb := drop_app hda
  obtain ⟨d1, d2, d3⟩ := dcons hdb
  have w1 : wrap64 ((xs.length : Int) - 1) = ((0 + (flat a).length + (flat b).length : Nat) : Int) := by rw [wz (by omega) (by omega)]; omega
  have w2 : wrap64 (((0 + (flat a).length + (flat b).length : Nat) : Int) - 1) = ((0 + (flat a).length + (flat b).length : Nat) : Int) - 1 := wz (by omega) (by omega)
  have hs : Ev (fun k => spec_l3Starts.f k xs (((0 + (flat a).length + (flat b).length : Nat) : Int) - 1)) (((flat a).length : Nat) : Int) := by
   refine starts_tree H xs (by omega) _ b gb (0 + (flat a).length) [m] 0 hda (by omega) (by omega) ?_
   refine Ev.step (fun k => ?_) (Ev.now _)
   rw [spec_l3Starts.l0, if_neg (by omega), wz (by omega) (by omega)]
   congr 1
   omega
  have g0 : ¬ m.f0 = 0 := by have := op_of go; omega
  have ta : xs.take (((flat a).length : Nat) : Int).toNat = flat a := by
   have := hd
   rw [List.drop_zero] at this
   rw [this]
   simp
  have tb : (xs.take (((0 + (flat a).length + (flat b).length : Nat) : Int)).toNat).drop (((flat a).length : Nat) : Int).toNat = flat b := by
   have := hd
   rw [List.drop_zero] at this
   rw [this, ← List.append_assoc]
   have e1 : (((0 + (flat a).length + (flat b).length : Nat) : Int)).toNat = (flat a ++ flat b).length := by rw [List.length_append]; omega
   rw [e1, List.take_left, show (((flat a).length : Nat) : Int).toNat = (flat a).length by simp, List.drop_left]
  have va := iha ga (by omega)
  have vb := ihb gb (by omega)
  refine Ev.step (f := fun k => (spec_l3Starts.f k xs (((0 + (flat a).length + (flat b).length : Nat) : Int) - 1)).bind fun t264 => (if m.f0 = 2 then (if 0 ≤ t264 then (if t264 ≤ (xs.length : Int) then ((spec_l4Says.f k p H (xs.take (t264 : Int).toNat) c).bind fun t270 => (if t270 = true then (some true) else (if t264 ≤ ((0 + (flat a).length + (flat b).length : Nat) : Int) then (if ((0 + (flat a).length + (flat b).length : Nat) : Int) ≤ (xs.length : Int) then ((spec_l4Says.f k p H ((xs.take (((0 + (flat a).length + (flat b).length : Nat) : Int) : Int).toNat).drop (t264 : Int).toNat) c).bind fun t275 => (some t275)) else (none)) else (none)))) else (none)) else (none)) else (if 0 ≤ t264 then (if t264 ≤ (xs.length : Int) then ((spec_l4Says.f k p H (xs.take (t264 : Int).toNat) c).bind fun t280 => (if t280 = true then (if t264 ≤ ((0 + (flat a).length + (flat b).length : Nat) : Int) then (if ((0 + (flat a).length + (flat b).length : Nat) : Int) ≤ (xs.length : Int) then ((spec_l4Says.f k p H ((xs.take (((0 + (flat a).length + (flat b).length : Nat) : Int) : Int).toNat).drop (t264 : Int).toNat) c).bind fun t285 => (some t285)) else (none)) else (none)) else (some false))) else (none)) else (none)))) (fun k => ?_) (Ev.bind hs ?_)
  ·rw [spec_l4Says.f, w1, w2, if_pos (by omega), if_pos (by omega), rdMk, d2, if_neg g0]
  ·simp only [if_pos (show 0 ≤ (((flat a).length : Nat) : Int) by omega), if_pos (show (((flat a).length : Nat) : Int) ≤ (xs.length : Int) by omega), if_pos (show (((flat a).length : Nat) : Int) ≤ ((0 + (flat a).length + (flat b).length : Nat) : Int) by omega), if_pos (show ((0 + (flat a).length + (flat b).length : Nat) : Int) ≤ (xs.length : Int) by omega), ta, tb]
   rw [val]
   by_cases g2 : m.f0 = 2
   ·simp only [if_pos g2]
    refine Ev.bind va ?_
    cases val H c a with
    | true => simp only [if_true, Bool.true_or]; exact Ev.now _
    | false => simp only [Bool.false_eq_true, if_false, Bool.false_or]; exact Ev.bind vb (Ev.now _)
   ·simp only [if_neg g2]
    refine Ev.bind va ?_
    cases val H c a with
    | true => simp only [if_true, Bool.true_and]; exact Ev.bind vb (Ev.now _)
    | false => simp only [Bool.false_eq_true, if_false, Bool.false_and]; exact Ev.now _
theorem l4Says_ev (ms : List S78) (ht : TmB p H ms = true) (h0 : 0 ≤ c) (h1 : c < 64) : Ev (fun k => spec_l4Says.f k p H ms c) (saysB H c ms) := by
 unfold TmB at ht
 simp only [Bool.and_eq_true, decide_eq_true_eq] at ht
 obtain ⟨hH, hl, hf⟩ := ht
 obtain ⟨t, t1, t2, t3⟩ := ps_ok H ms [] (by simpa using hf) (by simp)
 have t3 : flat t = ms := by simpa [flats] using t3
 have hv : saysB H c ms = val H c t := by unfold saysB; rw [t1]
 rw [hv, ← t3]
 exact says_tree p H c hH h0 h1 t t2 (by rw [t3]; omega)
end

theorem prF_get {p : Int} {H : List Int} {n : Int} : ∀ (ss : List S41) (j : Int) (i : Nat), prF p H n ss j = true → i < ss.length → TmB p H (ss.getD i z41).f0 = true ∧ tgB n (j + i) (ss.getD i z41).f1 = true ∧ tgB n (j + i) (ss.getD i z41).f2 = true := by
 intro ss
 induction ss with
 | nil => intro j i _ hi; simp at hi
 | cons s ss ih =>
  intro j i h hi
  rw [prF] at h
  simp only [Bool.and_eq_true] at h
  obtain ⟨⟨h1, h2, h3⟩, h4⟩ := h
  cases i with
  | zero => simpa using ⟨h1, h2, h3⟩
  | succ i =>
   have := ih (j + 1) i h4 (by simp at hi; omega)
   have e : j + 1 + (i : Int) = j + ((i + 1 : Nat) : Int) := by omega
   rw [e] at this
   simpa using this
theorem PrB_of {p : Int} {H : List Int} {ss : List S41} (h : PrB p H ss = true) : 1 ≤ ss.length ∧ ss.length ≤ 4 ∧ ∀ i : Nat, i < ss.length → TmB p H (ss.getD i z41).f0 = true ∧ tgB ss.length i (ss.getD i z41).f1 = true ∧ tgB ss.length i (ss.getD i z41).f2 = true := by
 unfold PrB at h
 simp only [Bool.and_eq_true, decide_eq_true_eq] at h
 refine ⟨by omega, by omega, fun i hi => ?_⟩
 have := prF_get ss 0 i h.2 hi
 simpa using this
theorem TmB_len {p : Int} {H : List Int} {ms : List S78} (h : TmB p H ms = true) : ms.length ≤ 9 ∧ HsB p H = true := by
 unfold TmB at h
 simp only [Bool.and_eq_true, decide_eq_true_eq] at h
 exact ⟨by omega, h.1⟩
def goF (H : List Int) (c : Int) (ss : List S41) : Nat → Int → Bool
 | 0, _ => false
 | f + 1, i => if i < 10 then goF H c ss f (if saysB H c (rd_T41 ss i).f0 = true then (rd_T41 ss i).f1 else (rd_T41 ss i).f2) else decide (i = 10)
section
variable (p : Int) (H : List Int) (c : Int) (ss : List S41)
theorem goF_end (f : Nat) (i : Int) (h : i = 10 ∨ i = 11) : goF H c ss (f + 1) i = decide (i = 10) := by rw [goF, if_neg (by omega)]
theorem lawFrom_l0 (hp : PrB p H ss = true) (h0 : 0 ≤ c) (h1 : c < 64) : ∀ (f : Nat) (i : Nat), i < ss.length → ss.length ≤ i + f → Ev (fun k => impl_lawFrom.l0 k ss (i : Int) c p H) (goF H c ss (f + 1) i) := by
 obtain ⟨p1, p2, p3⟩ := PrB_of hp
 intro f
 induction f with
 | zero => intro i hi hf; omega
 | succ f ih =>
  intro i hi hf
  obtain ⟨t1, t2, t3⟩ := p3 i hi
  have go (t : Int) (ht : tgB ss.length i t = true) : Ev (fun k => impl_lawFrom.l0 k ss t c p H) (goF H c ss (f + 1) t) := by
   rcases tg_of.1 ht with e | e | e
   ·subst e
    exact Ev.step (fun k => by rw [impl_lawFrom.l0, if_neg (by omega)]; rfl) (Ev.to (Ev.now true) (by rw [goF_end _ _ _ _ _ (Or.inl rfl)]; rfl))
   ·subst e
    exact Ev.step (fun k => by rw [impl_lawFrom.l0, if_neg (by omega)]; rfl) (Ev.to (Ev.now false) (by rw [goF_end _ _ _ _ _ (Or.inr rfl)]; rfl))
   ·obtain ⟨n, rfl⟩ := Int.eq_ofNat_of_zero_le (show 0 ≤ t by omega)
    exact ih n (by omega) (by omega)
  rw [goF, if_pos (by omega), rdSt]
  generalize hs : ss.getD i z41 = s at *
  have hl := TmB_len t1
  refine Ev.step (f := fun k => (impl_Step_next.f k s.f0 s.f1 s.f2 p H c).bind fun t => impl_lawFrom.l0 k ss t c p H) (fun k => ?_) (Ev.bind (a := if saysB H c s.f0 = true then s.f1 else s.f2) ?_ ?_)
  ·rw [impl_lawFrom.l0, if_pos (by omega), if_pos (by omega), rdSt, hs]
  ·unfold impl_Step_next.f
   refine Ev.bind (consents_ev p H c s.f0 (by omega) t1 h0 h1) ?_
   cases saysB H c s.f0 with
   | true => simp only [if_true]; exact Ev.now _
   | false => simp only [Bool.false_eq_true, if_false]; exact Ev.now _
  ·cases saysB H c s.f0 with
   | true => simp only [if_true]; exact go _ t2
   | false => simp only [Bool.false_eq_true, if_false]; exact go _ t3
theorem l5From_l0 (hp : PrB p H ss = true) (h0 : 0 ≤ c) (h1 : c < 64) : ∀ (f : Nat) (i : Nat), i < ss.length → ss.length ≤ i + f → Ev (fun k => spec_l5From.l0 k ss (i : Int) c p H) (goF H c ss (f + 1) i) := by
 obtain ⟨p1, p2, p3⟩ := PrB_of hp
 intro f
 induction f with
 | zero => intro i hi hf; omega
 | succ f ih =>
  intro i hi hf
  obtain ⟨t1, t2, t3⟩ := p3 i hi
  have go (t : Int) (ht : tgB ss.length i t = true) : Ev (fun k => spec_l5From.l0 k ss t c p H) (goF H c ss (f + 1) t) := by
   rcases tg_of.1 ht with e | e | e
   ·subst e
    exact Ev.step (fun k => by rw [spec_l5From.l0, if_neg (by omega)]; rfl) (Ev.to (Ev.now true) (by rw [goF_end _ _ _ _ _ (Or.inl rfl)]; rfl))
   ·subst e
    exact Ev.step (fun k => by rw [spec_l5From.l0, if_neg (by omega)]; rfl) (Ev.to (Ev.now false) (by rw [goF_end _ _ _ _ _ (Or.inr rfl)]; rfl))
   ·obtain ⟨n, rfl⟩ := Int.eq_ofNat_of_zero_le (show 0 ≤ t by omega)
    exact ih n (by omega) (by omega)
  rw [goF, if_pos (by omega), rdSt]
  generalize hs : ss.getD i z41 = s at *
  have hl := TmB_len t1
  refine Ev.step (f := fun k => (spec_l4Says.f k p H s.f0 c).bind fun t => (if t = true then (spec_l5From.l0 k ss s.f1 c p H) else (spec_l5From.l0 k ss s.f2 c p H))) (fun k => ?_) (Ev.bind (l4Says_ev p H c s.f0 t1 h0 h1) ?_)
  ·rw [spec_l5From.l0, if_pos (by omega), if_pos (by omega), if_pos (by omega), rdSt, hs]
  ·cases saysB H c s.f0 with
   | true => simp only [if_true]; exact go _ t2
   | false => simp only [Bool.false_eq_true, if_false]; exact go _ t3
end

def sdC (H : List Int) (ss : List S41) (s : S41) : Nat → Int → Bool
 | 0, _ => true
 | d + 1, c => (!goF H c ss 5 s.f2 || goF H c ss 5 s.f1) && sdC H ss s d (c + 1)
def sdF (H : List Int) (ss : List S41) (M : Nat) : List S41 → Bool
 | [] => true
 | s :: zs => sdC H ss s M 0 && sdF H ss M zs
def SdB (p : Int) (H : List Int) (ss : List S41) : Bool := PrB p H ss && sdF H ss (2 ^ p.toNat) ss
section
variable (p : Int) (H : List Int) (ss : List S41)
theorem lawFrom_any (hp : PrB p H ss = true) (c : Int) (h0 : 0 ≤ c) (h1 : c < 64) (i t : Int) (hi : 0 ≤ i) (ht : tgB ss.length i t = true) : Ev (fun k => impl_lawFrom.l0 k ss t c p H) (goF H c ss 5 t) := by
 obtain ⟨p1, p2, p3⟩ := PrB_of hp
 rcases tg_of.1 ht with e | e | e
 ·subst e
  exact Ev.step (fun k => by rw [impl_lawFrom.l0, if_neg (by omega)]; rfl) (Ev.to (Ev.now true) (by rw [goF_end _ _ _ _ _ (Or.inl rfl)]; rfl))
 ·subst e
  exact Ev.step (fun k => by rw [impl_lawFrom.l0, if_neg (by omega)]; rfl) (Ev.to (Ev.now false) (by rw [goF_end _ _ _ _ _ (Or.inr rfl)]; rfl))
 ·obtain ⟨n, rfl⟩ := Int.eq_ofNat_of_zero_le (show 0 ≤ t by omega)
  exact lawFrom_l0 p H c ss hp h0 h1 4 n (by omega) (by omega)
theorem l5From_any (hp : PrB p H ss = true) (c : Int) (h0 : 0 ≤ c) (h1 : c < 64) (i t : Int) (hi : 0 ≤ i) (ht : tgB ss.length i t = true) : Ev (fun k => spec_l5From.l0 k ss t c p H) (goF H c ss 5 t) := by
 obtain ⟨p1, p2, p3⟩ := PrB_of hp
 rcases tg_of.1 ht with e | e | e
 ·subst e
  exact Ev.step (fun k => by rw [spec_l5From.l0, if_neg (by omega)]; rfl) (Ev.to (Ev.now true) (by rw [goF_end _ _ _ _ _ (Or.inl rfl)]; rfl))
 ·subst e
  exact Ev.step (fun k => by rw [spec_l5From.l0, if_neg (by omega)]; rfl) (Ev.to (Ev.now false) (by rw [goF_end _ _ _ _ _ (Or.inr rfl)]; rfl))
 ·obtain ⟨n, rfl⟩ := Int.eq_ofNat_of_zero_le (show 0 ≤ t by omega)
  exact l5From_l0 p H c ss hp h0 h1 4 n (by omega) (by omega)
theorem pow_nat {p : Int} (h0 : 1 ≤ p) (h1 : p ≤ 6) : shl .i64 1 p = ((2 ^ p.toNat : Nat) : Int) ∧ 2 ^ p.toNat ≤ 64 := by
 have : p = 1 ∨ p = 2 ∨ p = 3 ∨ p = 4 ∨ p = 5 ∨ p = 6 := by omega
 rcases this with rfl | rfl | rfl | rfl | rfl | rfl <;> decide +kernel
theorem isSound_l1 (hp : PrB p H ss = true) (M : Nat) (hM : M ≤ 64) (i : Nat) (s : S41) (t2 : tgB ss.length i s.f1 = true) (t3 : tgB ss.length i s.f2 = true) (r : Bool) (e : Ev (fun k => impl_isSound.l0 k ss ss (ss.length : Int) (wrap64 ((i : Int) + 1)) p H) r) :
  ∀ (d c : Nat), c + d = M → Ev (fun k => impl_isSound.l1 k ss ss (ss.length : Int) (i : Int) (M : Int) (c : Int) p H s.f0 s.f1 s.f2) (sdC H ss s d c && r) := by
 intro d
 induction d with
 | zero =>
  intro c h
  exact Ev.step (fun k => by rw [impl_isSound.l1, if_neg (by omega)]) (Ev.to e (by simp [sdC]))
 | succ d ih =>
  intro c h
  have e1 := ih (c + 1) (by omega)
  have wc : wrap64 ((c : Int) + 1) = ((c + 1 : Nat) : Int) := by rw [wz (by omega) (by omega)]; omega
  refine Ev.step (f := fun k => (impl_lawFrom.f k p H ss s.f2 (c : Int)).bind fun t169 => (if t169 = true then ((impl_lawFrom.f k p H ss s.f1 (c : Int)).bind fun t170 => (if t170 = true then (impl_isSound.l1 k ss ss (ss.length : Int) (i : Int) (M : Int) ((c + 1 : Nat) : Int) p H s.f0 s.f1 s.f2) else (some false))) else (impl_isSound.l1 k ss ss (ss.length : Int) (i : Int) (M : Int) ((c + 1 : Nat) : Int) p H s.f0 s.f1 s.f2))) (fun k => ?_) (Ev.bind (lawFrom_any p H ss hp (c : Int) (by omega) (by omega) i _ (by omega) t3) ?_)
  ·rw [impl_isSound.l1, if_pos (by omega), wc]
  ·rw [sdC]
   have e2 : (c : Int) + 1 = ((c + 1 : Nat) : Int) := by omega
   rw [e2]
   cases goF H c ss 5 s.f2 with
   | false => simp only [Bool.false_eq_true, if_false, Bool.not_false, Bool.true_or, Bool.true_and]; exact e1
   | true =>
    simp only [if_true, Bool.not_true, Bool.false_or]
    refine Ev.bind (lawFrom_any p H ss hp (c : Int) (by omega) (by omega) i _ (by omega) t2) ?_
    cases goF H c ss 5 s.f1 with
    | true => simp only [if_true, Bool.true_and]; exact e1
    | false => simp only [Bool.false_eq_true, if_false, Bool.false_and]; exact Ev.now _
theorem PrB_p (hp : PrB p H ss = true) : 1 ≤ p ∧ p ≤ 6 := by
 obtain ⟨p1, p2, p3⟩ := PrB_of hp
 have := HsB_of (TmB_len (p3 0 (by omega)).1).2
 exact ⟨this.2.1, this.2.2.1⟩
theorem isSound_l0 (hp : PrB p H ss = true) : ∀ (zs : List S41) (i : Nat), ss.drop i = zs → Ev (fun k => impl_isSound.l0 k ss ss (ss.length : Int) (i : Int) p H) (sdF H ss (2 ^ p.toNat) zs) := by
 obtain ⟨p1, p2, p3⟩ := PrB_of hp
 have pp := PrB_p p H ss hp
 have pn := pow_nat pp.1 pp.2
 intro zs
 induction zs with
 | nil =>
  intro i h
  exact Ev.step (f := fun _ => some true) (fun k => by rw [impl_isSound.l0, if_neg (dnil h)]) (Ev.now _)
 | cons z zs ih =>
  intro i h
  obtain ⟨h1, h2, h3⟩ := dcons h
  obtain ⟨t1, t2, t3⟩ := p3 i h1
  rw [h2] at t2 t3
  have e := ih (i + 1) h3
  rw [← wsucc h1 (by omega)] at e
  have e1 := isSound_l1 p H ss hp (2 ^ p.toNat) pn.2 i z t2 t3 _ e (2 ^ p.toNat) 0 (by omega)
  refine Ev.step (fun k => ?_) e1
  rw [impl_isSound.l0, if_pos (by omega), if_pos (by omega), if_pos (by omega), rdSt, h2, if_pos (by omega), pn.1]
  rfl
end

section
variable (p : Int) (H : List Int) (ss : List S41)
theorem SoundOk_l1 (hp : PrB p H ss = true) (M : Nat) (hM : M ≤ 64) (hpM : shl .i64 1 p = (M : Int)) (i : Nat) (hi : i < ss.length) (s : S41) (hs : ss.getD i z41 = s) (t2 : tgB ss.length i s.f1 = true) (t3 : tgB ss.length i s.f2 = true) (r : Bool) (e : Ev (fun k => spec_SoundOk.l0 k ss (wrap64 ((i : Int) + 1)) p H) r) :
  ∀ (d c : Nat), c + d = M → Ev (fun k => spec_SoundOk.l1 k ss (i : Int) (c : Int) p H) (sdC H ss s d c && r) := by
 have pp := PrB_p p H ss hp
 intro d
 induction d with
 | zero =>
  intro c h
  exact Ev.step (fun k => by rw [spec_SoundOk.l1, if_pos (by omega), hpM, if_neg (by omega)]) (Ev.to e (by simp [sdC]))
 | succ d ih =>
  intro c h
  have e1 := ih (c + 1) (by omega)
  have wc : wrap64 ((c : Int) + 1) = ((c + 1 : Nat) : Int) := by rw [wz (by omega) (by omega)]; omega
  refine Ev.step (f := fun k => (spec_l5From.f k p H ss s.f2 (c : Int)).bind fun t169 => (if t169 = true then ((spec_l5From.f k p H ss s.f1 (c : Int)).bind fun t170 => (if t170 = true then (spec_SoundOk.l1 k ss (i : Int) ((c + 1 : Nat) : Int) p H) else (some false))) else (spec_SoundOk.l1 k ss (i : Int) ((c + 1 : Nat) : Int) p H))) (fun k => ?_) (Ev.bind (l5From_any p H ss hp (c : Int) (by omega) (by omega) i _ (by omega) t3) ?_)
  ·rw [spec_SoundOk.l1, if_pos (by omega), hpM, if_pos (by omega), if_pos (by omega), if_pos (by omega), rdSt, hs, wc]
  ·rw [sdC]
   have e2 : (c : Int) + 1 = ((c + 1 : Nat) : Int) := by omega
   rw [e2]
   cases goF H c ss 5 s.f2 with
   | false => simp only [Bool.false_eq_true, if_false, Bool.not_false, Bool.true_or, Bool.true_and]; exact e1
   | true =>
    simp only [if_true, Bool.not_true, Bool.false_or]
    refine Ev.bind (l5From_any p H ss hp (c : Int) (by omega) (by omega) i _ (by omega) t2) ?_
    cases goF H c ss 5 s.f1 with
    | true => simp only [if_true, Bool.true_and]; exact e1
    | false => simp only [Bool.false_eq_true, if_false, Bool.false_and]; exact Ev.now _
theorem SoundOk_l0 (hp : PrB p H ss = true) (hH : H.length ≤ 1048576) (hh : ∀ x ∈ H, x ≤ 9223372036854775807) (hn : ss.length ≤ 1048576) (hin : ∀ s ∈ ss, s.f0.length ≤ 1048576) : ∀ (zs : List S41) (i : Nat), ss.drop i = zs → Ev (fun k => spec_SoundOk.l0 k ss (i : Int) p H) (sdF H ss (2 ^ p.toNat) zs) := by
 obtain ⟨p1, p2, p3⟩ := PrB_of hp
 have pp := PrB_p p H ss hp
 have pn := pow_nat pp.1 pp.2
 have pr := Ev.to (spec_ProcessOk_ev p H ss hH hh hn hin) hp
 intro zs
 induction zs with
 | nil =>
  intro i h
  exact Ev.step (f := fun k => spec_SoundOk.j1 k ss (i : Int) false p H) (fun k => by rw [spec_SoundOk.l0, if_neg (dnil h)]) (Ev.step (f := fun k => (spec_ProcessOk.f k p H ss).bind fun t => some t) (fun k => by rw [spec_SoundOk.j1, if_neg (by decide)]) (Ev.bind pr (Ev.now _)))
 | cons z zs ih =>
  intro i h
  obtain ⟨h1, h2, h3⟩ := dcons h
  obtain ⟨t1, t2, t3⟩ := p3 i h1
  rw [h2] at t2 t3
  have e := ih (i + 1) h3
  rw [← wsucc h1 (by omega)] at e
  have e1 := SoundOk_l1 p H ss hp (2 ^ p.toNat) pn.2 pn.1 i h1 z (h2 _) t2 t3 _ e (2 ^ p.toNat) 0 (by omega)
  exact Ev.step (f := fun k => (spec_ProcessOk.f k p H ss).bind fun t => spec_SoundOk.j1 k ss (i : Int) t p H) (fun k => by rw [spec_SoundOk.l0, if_pos (by omega)]) (Ev.bind pr (Ev.step (fun k => by rw [spec_SoundOk.j1, if_pos rfl]; rfl) e1))
theorem spec_SoundOk_ev (hH : H.length ≤ 1048576) (hh : ∀ x ∈ H, x ≤ 9223372036854775807) (hn : ss.length ≤ 1048576) (hin : ∀ s ∈ ss, s.f0.length ≤ 1048576) : Ev (fun k => spec_SoundOk.f k p H ss) (SdB p H ss) := by
 unfold spec_SoundOk.f SdB
 cases hp : PrB p H ss with
 | true =>
  rw [Bool.true_and]
  exact SoundOk_l0 p H ss hp hH hh hn hin ss 0 rfl
 | false =>
  have pr := Ev.to (spec_ProcessOk_ev p H ss hH hh hn hin) hp
  have j : Ev (fun k => spec_SoundOk.j1 k ss 0 false p H) false := Ev.step (f := fun k => (spec_ProcessOk.f k p H ss).bind fun t => some t) (fun k => by rw [spec_SoundOk.j1, if_neg (by decide)]) (Ev.bind pr (Ev.now _))
  by_cases h : (0 : Int) < (ss.length : Int)
  ·exact Ev.step (f := fun k => (spec_ProcessOk.f k p H ss).bind fun t => spec_SoundOk.j1 k ss 0 t p H) (fun k => by rw [spec_SoundOk.l0, if_pos h]) (Ev.bind pr j)
  ·exact Ev.step (f := fun k => spec_SoundOk.j1 k ss 0 false p H) (fun k => by rw [spec_SoundOk.l0, if_neg h]) j
end

section
variable {p : Int} {H : List Int} {ss : List S41}
end

theorem op_noleaf {H : List Int} {m : S78} (h : opB m = true) : ¬ leafB H m = true := by
 intro g
 have a := op_of h
 have b := (leaf_of g).1
 omega
theorem psF_flat (H : List Int) : ∀ (t : Tm), good H t → ∀ (rest : List S78) (s : List Tm), psF H (flat t ++ rest) s = psF H rest (t :: s) := by
 intro t
 induction t with
 | lf m =>
  intro g rest s
  show psF H (m :: rest) s = _
  conv => lhs; unfold psF
  rw [if_pos (show leafB H m = true from g)]
 | nd m a b iha ihb =>
  intro g rest s
  obtain ⟨go, ga, gb⟩ := g
  have e : flat (Tm.nd m a b) ++ rest = flat a ++ (flat b ++ (m :: rest)) := by simp [flat]
  rw [e, iha ga, ihb gb, psF, if_neg (op_noleaf go)]
theorem says_flat {H : List Int} {t : Tm} (g : good H t) (c : Int) : saysB H c (flat t) = val H c t := by
 have := psF_flat H t g [] []
 rw [List.append_nil] at this
 unfold saysB
 rw [this, psF]
theorem tree_of {p : Int} {H : List Int} {ms : List S78} (h : TmB p H ms = true) : ∃ t, good H t ∧ flat t = ms := by
 unfold TmB at h
 simp only [Bool.and_eq_true] at h
 obtain ⟨t, _, e2, e3⟩ := ps_ok H ms [] h.2.2 (by simp)
 exact ⟨t, e2, by rw [e3]; simp [flats]⟩
def preT (m : List S78) (y : List S78 × Int) : List S78 × Int := if y.2 = 0 then (m ++ y.1 ++ [⟨1, 0, 0⟩], 0) else if y.2 = 2 then ([], 2) else (m, 0)
def finT (a n : List S78 × Int) : List S78 × Int := if n.2 = 1 then ([], 1) else if a.2 = 2 then (n.1, n.2) else if n.2 = 0 then (a.1 ++ n.1 ++ [⟨2, 0, 0⟩], 0) else (a.1, 0)
def WT (H : List Int) (r : List S78 × Int) : Prop := (r.2 = 0 ∧ ∃ t, good H t ∧ r.1 = flat t) ∨ (r.2 = 1 ∧ r.1 = []) ∨ (r.2 = 2 ∧ r.1 = [])
def VT (H : List Int) (r : List S78 × Int) (c : Int) : Bool := if r.2 = 1 then true else if r.2 = 2 then false else saysB H c r.1
theorem pre_ok {p : Int} {H : List Int} {m : List S78} {y : List S78 × Int} (hm : TmB p H m = true) (hy : WT H y) : (((preT m y).2 = 0 ∧ ∃ t, good H t ∧ (preT m y).1 = flat t) ∨ ((preT m y).2 = 2 ∧ (preT m y).1 = [])) ∧ ∀ c, VT H (preT m y) c = (saysB H c m && VT H y c) := by
 obtain ⟨t, g, e⟩ := tree_of hm
 obtain ⟨l, k⟩ := y
 rcases hy with ⟨h, u, gu, eu⟩ | ⟨h, eu⟩ | ⟨h, eu⟩
 ·have h : k = 0 := h
  have eu : l = flat u := eu
  subst h eu e
  have ef : flat t ++ flat u ++ [(⟨1, 0, 0⟩ : S78)] = flat (.nd ⟨1, 0, 0⟩ t u) := by simp [flat]
  have gn : good H (.nd ⟨1, 0, 0⟩ t u) := ⟨by decide, g, gu⟩
  refine ⟨.inl ⟨rfl, _, gn, ef⟩, fun c => ?_⟩
  show saysB H c (flat t ++ flat u ++ [(⟨1, 0, 0⟩ : S78)]) = (saysB H c (flat t) && saysB H c (flat u))
  rw [ef, says_flat gn, says_flat g, says_flat gu]
  rfl
 ·have h : k = 1 := h
  have eu : l = [] := eu
  subst h eu e
  refine ⟨.inl ⟨rfl, t, g, rfl⟩, fun c => ?_⟩
  show saysB H c (flat t) = (saysB H c (flat t) && true)
  rw [Bool.and_true]
 ·have h : k = 2 := h
  have eu : l = [] := eu
  subst h eu
  exact ⟨.inr ⟨rfl, rfl⟩, fun c => by show false = (saysB H c m && false); rw [Bool.and_false]⟩
theorem fin_ok {H : List Int} {a n : List S78 × Int} (ha : (a.2 = 0 ∧ ∃ t, good H t ∧ a.1 = flat t) ∨ (a.2 = 2 ∧ a.1 = [])) (hn : WT H n) : WT H (finT a n) ∧ ∀ c, VT H (finT a n) c = (VT H a c || VT H n c) := by
 obtain ⟨la, ka⟩ := a
 obtain ⟨ln, kn⟩ := n
 rcases hn with ⟨h, u, gu, eu⟩ | ⟨h, eu⟩ | ⟨h, eu⟩
 ·have h : kn = 0 := h
  have eu : ln = flat u := eu
  subst h eu
  rcases ha with ⟨h2, t, g, e⟩ | ⟨h2, e⟩
  ·have h2 : ka = 0 := h2
   have e : la = flat t := e
   subst h2 e
   have ef : flat t ++ flat u ++ [(⟨2, 0, 0⟩ : S78)] = flat (.nd ⟨2, 0, 0⟩ t u) := by simp [flat]
   have gn : good H (.nd ⟨2, 0, 0⟩ t u) := ⟨by decide, g, gu⟩
   refine ⟨.inl ⟨rfl, _, gn, ef⟩, fun c => ?_⟩
   show saysB H c (flat t ++ flat u ++ [(⟨2, 0, 0⟩ : S78)]) = (saysB H c (flat t) || saysB H c (flat u))
   rw [ef, says_flat gn, says_flat g, says_flat gu]
   rfl
  ·have h2 : ka = 2 := h2
   have e : la = [] := e
   subst h2 e
   exact ⟨.inl ⟨rfl, u, gu, rfl⟩, fun c => by show saysB H c (flat u) = (false || saysB H c (flat u)); rw [Bool.false_or]⟩
 ·have h : kn = 1 := h
  subst h
  exact ⟨.inr (.inl ⟨rfl, rfl⟩), fun c => by show true = (_ || true); rw [Bool.or_true]⟩
 ·have h : kn = 2 := h
  have eu : ln = [] := eu
  subst h eu
  rcases ha with ⟨h2, t, g, e⟩ | ⟨h2, e⟩
  ·have h2 : ka = 0 := h2
   have e : la = flat t := e
   subst h2 e
   exact ⟨.inl ⟨rfl, t, g, rfl⟩, fun c => by show saysB H c (flat t) = (saysB H c (flat t) || false); rw [Bool.or_false]⟩
  ·have h2 : ka = 2 := h2
   have e : la = [] := e
   subst h2 e
   exact ⟨.inr (.inr ⟨rfl, rfl⟩), fun _ => rfl⟩
def bT (ss : List S41) : Nat → Int → List S78 × Int
 | 0, _ => ([], 1)
 | f + 1, i => if i = 10 then ([], 1) else if i = 11 then ([], 2) else finT (preT (rd_T41 ss i).f0 (bT ss f (rd_T41 ss i).f1)) (bT ss f (rd_T41 ss i).f2)
theorem bT_ten (ss : List S41) (f : Nat) : bT ss (f + 1) 10 = ([], 1) := by rw [bT, if_pos rfl]
theorem bT_eleven (ss : List S41) (f : Nat) : bT ss (f + 1) 11 = ([], 2) := by rw [bT, if_neg (by decide), if_pos rfl]
theorem bT_step (ss : List S41) (f i : Nat) (h : i < 10) : bT ss (f + 1) i = finT (preT (ss.getD i z41).f0 (bT ss f (ss.getD i z41).f1)) (bT ss f (ss.getD i z41).f2) := by rw [bT, if_neg (by omega), if_neg (by omega), rdSt]
theorem pre_len (m : List S78) (y : List S78 × Int) : (preT m y).1.length ≤ m.length + y.1.length + 1 := by
 unfold preT
 split
 ·simp; omega
 ·split <;> simp; omega
theorem fin_len (a n : List S78 × Int) : (finT a n).1.length ≤ a.1.length + n.1.length + 1 := by
 unfold finT
 split
 ·simp
 ·split
  ·simp; omega
  ·split <;> simp <;> omega
section
variable {p : Int} {H : List Int} {ss : List S41}
theorem bT_all (hp : PrB p H ss = true) : ∀ (d : Nat) (i : Int), (i = 10 ∨ i = 11 ∨ (0 ≤ i ∧ i < ss.length ∧ (ss.length : Int) ≤ i + d)) → WT H (bT ss (d + 1) i) ∧ (bT ss (d + 1) i).1.length ≤ 11 * 3 ^ d := by
 obtain ⟨p1, p2, p3⟩ := PrB_of hp
 have pw : ∀ d : Nat, 1 ≤ 3 ^ d := fun d => Nat.pow_pos (by decide)
 intro d
 induction d with
 | zero =>
  intro i h
  rcases h with h | h | h
  ·subst h; rw [bT_ten]; exact ⟨.inr (.inl ⟨rfl, rfl⟩), by simp⟩
  ·subst h; rw [bT_eleven]; exact ⟨.inr (.inr ⟨rfl, rfl⟩), by simp⟩
  ·omega
 | succ d ih =>
  intro i h
  rcases h with h | h | h
  ·subst h; rw [bT_ten]; exact ⟨.inr (.inl ⟨rfl, rfl⟩), by simp⟩
  ·subst h; rw [bT_eleven]; exact ⟨.inr (.inr ⟨rfl, rfl⟩), by simp⟩
  ·obtain ⟨n, rfl⟩ := Int.eq_ofNat_of_zero_le h.1
   obtain ⟨t1, t2, t3⟩ := p3 n (by omega)
   have go (u : Int) (hu : tgB ss.length n u = true) := ih u (by
    rcases tg_of.1 hu with e | e | e
    ·exact .inl e
    ·exact .inr (.inl e)
    ·exact .inr (.inr ⟨by omega, e.2, by omega⟩))
   have a := go _ t2
   have b := go _ t3
   rw [bT_step ss (d + 1) n (by omega)]
   refine ⟨(fin_ok (pre_ok t1 a.1).1 b.1).1, ?_⟩
   have l0 := (TmB_len t1).1
   have l1 := pre_len (ss.getD n z41).f0 (bT ss (d + 1) (ss.getD n z41).f1)
   have l2 := fin_len (preT (ss.getD n z41).f0 (bT ss (d + 1) (ss.getD n z41).f1)) (bT ss (d + 1) (ss.getD n z41).f2)
   have := pw d
   have e3 : 3 ^ (d + 1) = 3 * 3 ^ d := by rw [Nat.pow_succ]; omega
   omega
end
theorem pw81 {d : Nat} (h : d ≤ 4) : 3 ^ d ≤ 81 := Nat.le_trans (Nat.pow_le_pow_right (by decide) h) (by decide)
section
variable {p : Int} {H : List Int} {ss : List S41} (hp : PrB p H ss = true)
include hp
theorem ibill_ev : ∀ (d : Nat) (i : Int), d ≤ 4 → (i = 10 ∨ i = 11 ∨ (0 ≤ i ∧ i < ss.length ∧ (ss.length : Int) ≤ i + d)) → Ev (fun k => impl_billTerm.f k ss i) (bT ss (d + 1) i) := by
 obtain ⟨p1, p2, p3⟩ := PrB_of hp
 have t10 : ∀ d, Ev (fun k => impl_billTerm.f k ss 10) (bT ss (d + 1) 10) := fun d => Ev.step (fun k => by rw [impl_billTerm.f, if_pos rfl]) (Ev.to (Ev.now _) (bT_ten ss d).symm)
 have t11 : ∀ d, Ev (fun k => impl_billTerm.f k ss 11) (bT ss (d + 1) 11) := fun d => Ev.step (fun k => by rw [impl_billTerm.f, if_neg (by decide), if_pos rfl]) (Ev.to (Ev.now _) (bT_eleven ss d).symm)
 intro d
 induction d with
 | zero =>
  intro i _ h
  rcases h with h | h | h
  ·subst h; exact t10 0
  ·subst h; exact t11 0
  ·omega
 | succ d ih =>
  intro i hd h
  rcases h with h | h | h
  ·subst h; exact t10 _
  ·subst h; exact t11 _
  ·obtain ⟨n, rfl⟩ := Int.eq_ofNat_of_zero_le h.1
   obtain ⟨t1, t2, t3⟩ := p3 n (by omega)
   have dom (u : Int) (hu : tgB ss.length n u = true) : u = 10 ∨ u = 11 ∨ (0 ≤ u ∧ u < ss.length ∧ (ss.length : Int) ≤ u + d) := by
    rcases tg_of.1 hu with e | e | e
    ·exact .inl e
    ·exact .inr (.inl e)
    ·exact .inr (.inr ⟨by omega, e.2, by omega⟩)
   have ea := ih _ (by omega) (dom _ t2)
   have eb := ih _ (by omega) (dom _ t3)
   have a := bT_all hp d _ (dom _ t2)
   have b := bT_all hp d _ (dom _ t3)
   have l0 := (TmB_len t1).1
   have q := pw81 (show d ≤ 4 by omega)
   rw [bT_step ss (d + 1) n (by omega)]
   generalize hs : ss.getD n z41 = s at *
   generalize bT ss (d + 1) s.f1 = y at *
   generalize bT ss (d + 1) s.f2 = m at *
   obtain ⟨yl, yk⟩ := y
   obtain ⟨ml, mk⟩ := m
   have la : yl.length ≤ 891 := by have := a.2; simp only at this; omega
   have lb : ml.length ≤ 891 := by have := b.2; simp only at this; omega
   have hn1 : (n : Int) < (ss.length : Int) := by omega
   have hn0 : (0 : Int) ≤ (n : Int) := by omega
   have n10 : ¬ (n : Int) = 10 := by omega
   have n11 : ¬ (n : Int) = 11 := by omega
   have J (l : List S78) (k0 : Int) (hl : l.length ≤ 1000) : Ev (fun k => impl_billTerm.j0 k ss (n : Int) l k0) (finT (l, k0) (ml, mk)) := by
    refine Ev.step (f := fun k => (impl_billTerm.f k ss s.f2).bind fun bt325 => (if bt325.2 = 1 then (some (([] : List S78), 1)) else (if k0 = 2 then (some (bt325.1, bt325.2)) else (if bt325.2 = 0 then (if l.length + bt325.1.length < 5864062014805 then ((some (l ++ bt325.1 : List S78)).bind fun y329 => (if y329.length < 5864062014805 then (some ((y329 ++ [(⟨2, 0, 0⟩ : S78)]), 0)) else (none))) else (none)) else (some (l, 0)))))) (fun k => by rw [impl_billTerm.j0, if_pos hn0, if_pos hn1, rdSt, hs]) (Ev.bind eb ?_)
    unfold finT
    by_cases c1 : mk = 1
    ·simp only [if_pos c1]; exact Ev.now _
    ·simp only [if_neg c1]
     by_cases c2 : k0 = 2
     ·simp only [if_pos c2]; exact Ev.now _
     ·simp only [if_neg c2]
      by_cases c3 : mk = 0
      ·simp only [if_pos c3, if_pos (show l.length + ml.length < 5864062014805 by omega), Option.bind_some, if_pos (show (l ++ ml).length < 5864062014805 by simp; omega)]
       exact Ev.now _
      ·simp only [if_neg c3]; exact Ev.now _
   refine Ev.step (f := fun k => (impl_billTerm.f k ss s.f1).bind fun bt314 => (if bt314.2 = 0 then (if s.f0.length + bt314.1.length < 5864062014805 then ((some (s.f0 ++ bt314.1 : List S78)).bind fun y318 => (if y318.length < 5864062014805 then (impl_billTerm.j0 k ss (n : Int) (y318 ++ [(⟨1, 0, 0⟩ : S78)]) 0) else (none))) else (none)) else (if bt314.2 = 2 then (impl_billTerm.j0 k ss (n : Int) ([] : List S78) 2) else (impl_billTerm.j0 k ss (n : Int) s.f0 0)))) (fun k => by rw [impl_billTerm.f, if_neg n10, if_neg n11, Option.bind_some, if_pos hn0, if_pos hn1, rdSt, hs, if_pos (show ([] : List S78).length + s.f0.length < 5864062014805 by simp; omega), Option.bind_some, List.nil_append]) (Ev.bind ea ?_)
   unfold preT
   by_cases c1 : yk = 0
   ·simp only [if_pos c1, if_pos (show s.f0.length + yl.length < 5864062014805 by omega), Option.bind_some, if_pos (show (s.f0 ++ yl).length < 5864062014805 by simp; omega)]
    exact J _ _ (by simp; omega)
   ·simp only [if_neg c1]
    by_cases c2 : yk = 2
    ·simp only [if_pos c2]; exact J _ _ (by simp)
    ·simp only [if_neg c2]; exact J _ _ (by omega)
theorem sbill_ev : ∀ (d : Nat) (i : Int), d ≤ 4 → (i = 10 ∨ i = 11 ∨ (0 ≤ i ∧ i < ss.length ∧ (ss.length : Int) ≤ i + d)) → Ev (fun k => spec_l5Term.f k ss i) (bT ss (d + 1) i) := by
 obtain ⟨p1, p2, p3⟩ := PrB_of hp
 have t10 : ∀ d, Ev (fun k => spec_l5Term.f k ss 10) (bT ss (d + 1) 10) := fun d => Ev.step (fun k => by rw [spec_l5Term.f, if_pos rfl]) (Ev.to (Ev.now _) (bT_ten ss d).symm)
 have t11 : ∀ d, Ev (fun k => spec_l5Term.f k ss 11) (bT ss (d + 1) 11) := fun d => Ev.step (fun k => by rw [spec_l5Term.f, if_neg (by decide), if_pos rfl]) (Ev.to (Ev.now _) (bT_eleven ss d).symm)
 intro d
 induction d with
 | zero =>
  intro i _ h
  rcases h with h | h | h
  ·subst h; exact t10 0
  ·subst h; exact t11 0
  ·omega
 | succ d ih =>
  intro i hd h
  rcases h with h | h | h
  ·subst h; exact t10 _
  ·subst h; exact t11 _
  ·obtain ⟨n, rfl⟩ := Int.eq_ofNat_of_zero_le h.1
   obtain ⟨t1, t2, t3⟩ := p3 n (by omega)
   have dom (u : Int) (hu : tgB ss.length n u = true) : u = 10 ∨ u = 11 ∨ (0 ≤ u ∧ u < ss.length ∧ (ss.length : Int) ≤ u + d) := by
    rcases tg_of.1 hu with e | e | e
    ·exact .inl e
    ·exact .inr (.inl e)
    ·exact .inr (.inr ⟨by omega, e.2, by omega⟩)
   have ea := ih _ (by omega) (dom _ t2)
   have eb := ih _ (by omega) (dom _ t3)
   have a := bT_all hp d _ (dom _ t2)
   have b := bT_all hp d _ (dom _ t3)
   have l0 := (TmB_len t1).1
   have q := pw81 (show d ≤ 4 by omega)
   rw [bT_step ss (d + 1) n (by omega)]
   generalize hs : ss.getD n z41 = s at *
   generalize bT ss (d + 1) s.f1 = y at *
   generalize bT ss (d + 1) s.f2 = m at *
   obtain ⟨yl, yk⟩ := y
   obtain ⟨ml, mk⟩ := m
   have la : yl.length ≤ 891 := by have := a.2; simp only at this; omega
   have lb : ml.length ≤ 891 := by have := b.2; simp only at this; omega
   have hn1 : (n : Int) < (ss.length : Int) := by omega
   have hn0 : (0 : Int) ≤ (n : Int) := by omega
   have n10 : ¬ (n : Int) = 10 := by omega
   have n11 : ¬ (n : Int) = 11 := by omega
   have wb : mk = 0 ∨ mk = 1 ∨ (mk = 2 ∧ ml = []) := by
    rcases b.1 with h | h | h
    ·exact .inl h.1
    ·exact .inr (.inl h.1)
    ·exact .inr (.inr h)
   have J (l : List S78) (k0 : Int) (hl : l.length ≤ 1000) (hk : k0 = 0 ∨ (k0 = 2 ∧ l = [])) : Ev (fun k => spec_l5Term.j0 k ml mk l k0) (finT (l, k0) (ml, mk)) := by
    unfold finT
    refine Ev.step (f := fun _ => if mk = 1 then (some ((([] : List S78)), 1)) else (if mk = 2 then (some (l, k0)) else (if k0 = 2 then (some (ml, 0)) else (if l.length + ml.length < 5864062014805 then ((some (l ++ ml : List S78)).bind fun y445 => (if y445.length < 5864062014805 then (some ((y445 ++ [(⟨2, 0, 0⟩ : S78)]), 0)) else (none))) else (none))))) (fun k => by rw [spec_l5Term.j0]) ?_
    rcases wb with h | h | ⟨h, e⟩
    ·subst h
     simp only [if_neg (show ¬ (0 : Int) = 1 by decide), if_neg (show ¬ (0 : Int) = 2 by decide), if_true]
     by_cases c2 : k0 = 2
     ·simp only [if_pos c2]; exact Ev.now _
     ·simp only [if_neg c2, if_pos (show l.length + ml.length < 5864062014805 by omega), Option.bind_some, if_pos (show (l ++ ml).length < 5864062014805 by simp; omega)]
      exact Ev.now _
    ·simp only [if_pos h]; exact Ev.now _
    ·subst h e
     simp only [if_neg (show ¬ (2 : Int) = 1 by decide), if_neg (show ¬ (2 : Int) = 0 by decide), if_true]
     rcases hk with h | ⟨h, e⟩
     ·subst h
      simp only [if_neg (show ¬ (0 : Int) = 2 by decide)]
      exact Ev.now _
     ·subst h e
      simp only [if_true]
      exact Ev.now _
   refine Ev.step (f := fun k => (spec_l5Term.f k ss s.f1).bind fun bt417 => ((spec_l5Term.f k ss s.f2).bind fun bt422 => (if bt417.2 = 0 then (if s.f0.length + bt417.1.length < 5864062014805 then ((some (s.f0 ++ bt417.1 : List S78)).bind fun y433 => (if y433.length < 5864062014805 then (spec_l5Term.j0 k bt422.1 bt422.2 (y433 ++ [(⟨1, 0, 0⟩ : S78)]) 0) else (none))) else (none)) else (if bt417.2 = 2 then (spec_l5Term.j0 k bt422.1 bt422.2 (([] : List S78)) 2) else (spec_l5Term.j0 k bt422.1 bt422.2 s.f0 0))))) (fun k => by rw [spec_l5Term.f, if_neg n10, if_neg n11, if_pos hn0, if_pos hn1, rdSt, hs]; simp only [Option.bind_some, List.nil_append, if_pos (show ([] : List S78).length + s.f0.length < 5864062014805 by simp; omega)]) (Ev.bind ea (Ev.bind eb ?_))
   unfold preT
   by_cases c1 : yk = 0
   ·simp only [if_pos c1, if_pos (show s.f0.length + yl.length < 5864062014805 by omega), Option.bind_some, if_pos (show (s.f0 ++ yl).length < 5864062014805 by simp; omega)]
    exact J _ _ (by simp; omega) (.inl rfl)
   ·simp only [if_neg c1]
    by_cases c2 : yk = 2
    ·simp only [if_pos c2]; exact J _ _ (by simp) (.inr ⟨rfl, rfl⟩)
    ·simp only [if_neg c2]; exact J _ _ (by omega) (.inl rfl)
end
def BtB (p : Int) (H : List Int) (ss : List S41) : List S78 × Int := if SdB p H ss = true then (if ((bT ss 5 0).1.length : Int) > 9 then ([], -1) else ((bT ss 5 0).1, (bT ss 5 0).2)) else ([], -1)
section
variable (p : Int) (H : List Int) (ss : List S41) (hH : H.length ≤ 1048576) (hn : ss.length ≤ 1048576) (hin : ∀ s ∈ ss, s.f0.length ≤ 1048576)
include hH hn hin
theorem iBillTerm_ev : Ev (fun k => impl_BillTerm.f k p H ss) (BtB p H ss) := by
 have no : Ev (fun k => impl_BillTerm.j0 k ss true) (([] : List S78), (-1 : Int)) := Ev.step (fun k => by rw [impl_BillTerm.j0, if_pos rfl]) (Ev.now _)
 unfold impl_BillTerm.f BtB SdB
 refine Ev.bind (impl_isProcess_ev p H ss hH hn hin) ?_
 cases hp : PrB p H ss with
 | false => simp only [Bool.false_eq_true, if_false, Bool.false_and]; exact no
 | true =>
  obtain ⟨p1, p2, p3⟩ := PrB_of hp
  simp only [if_true, Bool.true_and]
  refine Ev.bind (isSound_l0 p H ss hp ss 0 rfl) ?_
  cases sdF H ss (2 ^ p.toNat) ss with
  | false => simp only [Bool.not_false, Bool.false_eq_true, if_false]; exact no
  | true =>
   simp only [Bool.not_true, if_true]
   refine Ev.step (f := fun k => (impl_billTerm.f k ss 0).bind _) (fun k => by rw [impl_BillTerm.j0, if_neg (by decide)]) (Ev.bind (ibill_ev hp 4 0 (by decide) (.inr (.inr ⟨by decide, by omega, by omega⟩))) ?_)
   by_cases c : ((bT ss 5 0).1.length : Int) > 9
   ·simp only [if_pos c]; exact Ev.now _
   ·simp only [if_neg c]; exact Ev.now _
theorem sBillTerm_ev (hh : ∀ x ∈ H, x ≤ 9223372036854775807) : Ev (fun k => spec_BillTerm.f k p H ss) (BtB p H ss) := by
 unfold spec_BillTerm.f BtB
 refine Ev.bind (spec_SoundOk_ev p H ss hH hh hn hin) ?_
 cases hS : SdB p H ss with
 | false => simp only [Bool.false_eq_true, if_false]; exact Ev.now _
 | true =>
  have hp : PrB p H ss = true := by unfold SdB at hS; rw [Bool.and_eq_true] at hS; exact hS.1
  obtain ⟨p1, p2, p3⟩ := PrB_of hp
  simp only [if_true]
  refine Ev.bind (sbill_ev hp 4 0 (by decide) (.inr (.inr ⟨by decide, by omega, by omega⟩))) ?_
  by_cases c : ((bT ss 5 0).1.length : Int) > 9
  ·simp only [if_pos c]; exact Ev.now _
  ·simp only [if_neg c]; exact Ev.now _
end

def mkM (a : Int) : S78 := ⟨a, a + 1, a + 2⟩
def mkMs : Nat → Int → List S78
 | 0, _ => []
 | d + 1, a => mkM a :: mkMs d (a + 3)
theorem mkMs_len : ∀ (d : Nat) (a : Int), (mkMs d a).length = d := by
 intro d
 induction d with
 | zero => intro a; rfl
 | succ d ih => intro a; simp [mkMs, ih]
theorem rdmM (pre zs : List S78) (v : S78) : rd_T78 (pre ++ v :: zs) ((pre.length : Nat) : Int) = v := by rw [rdMk]; simp
theorem setmM (pre zs : List S78) (v u : S78) : (pre ++ v :: zs).set (((pre.length : Nat) : Int)).toNat u = pre ++ u :: zs := by rw [Int.toNat_natCast]; simp
theorem markMarkS_l1 : ∀ (zs pre : List S78) (a : Int), 0 ≤ a → a ≤ 1000000000 - 3 * zs.length → pre.length + zs.length ≤ 1048576 → Ev (fun k => laws_markMarkS.l0 k (pre ++ zs) a ((pre.length : Nat) : Int)) (a + 3 * zs.length, pre ++ mkMs zs.length a) := by
 intro zs
 induction zs with
 | nil =>
  intro pre a _ _ _
  exact Ev.step (f := fun _ => some (a, pre ++ [])) (fun k => by rw [laws_markMarkS.l0, if_neg (by simp)]) (Ev.to (Ev.now _) (by simp [mkMs]))
 | cons z zs ih =>
  intro pre a ha hb hn
  have hlen : (z :: zs).length = zs.length + 1 := rfl
  rw [hlen] at hb hn
  have hi1 : ((pre.length : Nat) : Int) < ((pre ++ z :: zs).length : Int) := by simp; omega
  have hi0 : (0 : Int) ≤ ((pre.length : Nat) : Int) := by omega
  have c1 : 0 ≤ a + 3 := by omega
  have c2 : a + 3 ≤ 1000000000 - 3 * (zs.length : Int) := by omega
  have c3 : (pre ++ [mkM a]).length + zs.length ≤ 1048576 := by simp; omega
  have c4 : a + 3 + 3 * (zs.length : Int) = a + 3 * ((zs.length + 1 : Nat) : Int) := by omega
  have e := ih (pre ++ [mkM a]) (a + 3) c1 c2 c3
  have w1 : wrap64 (a + 1) = a + 1 := wz (by omega) (by omega)
  have w2 : wrap64 (a + 1 + 1) = a + 2 := by rw [wz (by omega) (by omega)]; omega
  have w3 : wrap64 (a + 2 + 1) = a + 3 := by rw [wz (by omega) (by omega)]; omega
  have wi : wrap64 (((pre.length : Nat) : Int) + 1) = (((pre ++ [mkM a]).length : Nat) : Int) := by rw [wz (by omega) (by omega)]; simp
  have h0 : ∀ k, laws_markMarkS.l0 (k + 1) (pre ++ z :: zs) a ((pre.length : Nat) : Int) = laws_markMarkS.l0 k (pre ++ mkM a :: zs) (a + 3) (((pre ++ [mkM a]).length : Nat) : Int) := by
   intro k
   rw [laws_markMarkS.l0, if_pos hi1, if_pos hi0]
   simp only [Option.bind_some, w1, w2, w3, wi, rdmM, setmM]
   rfl
  refine Ev.step h0 ?_
  have e2 : pre ++ mkM a :: zs = pre ++ [mkM a] ++ zs := by simp
  rw [e2]
  exact Ev.to e (by rw [hlen, c4]; simp [mkMs])
theorem markMarkS_ev (a : Int) (xs : List S78) (ha : 0 ≤ a) (hb : a ≤ 900000000) (hn : xs.length ≤ 1048576) : Ev (fun k => laws_markMarkS.f k xs a) (a + 3 * (xs.length : Int), mkMs xs.length a) := markMarkS_l1 xs [] a ha (by omega) (by simp; omega)
theorem heldMarkS_l0 (xs : List S78) (hn : xs.length ≤ 1048576) : ∀ (d i : Nat) (a : Int), xs.drop i = mkMs d a → i + d = xs.length → 0 ≤ a → a ≤ 1000000000 - 3 * d → Ev (fun k => laws_heldMarkS.l0 k xs a (i : Int)) (a + 3 * d) := by
 intro d
 induction d with
 | zero =>
  intro i a h hx _ _
  exact Ev.step (f := fun _ => some a) (fun k => by rw [laws_heldMarkS.l0, if_neg (by omega)]) (Ev.to (Ev.now _) (by simp))
 | succ d ih =>
  intro i a h hx ha hb
  obtain ⟨h1, h2, h3⟩ := dcons h
  have hi1 : (i : Int) < (xs.length : Int) := by omega
  have hi0 : 0 ≤ (i : Int) := by omega
  have hj : i + 1 + d = xs.length := by omega
  have ha5 : 0 ≤ a + 3 := by omega
  have hb5 : a + 3 ≤ 1000000000 - 3 * (d : Int) := by omega
  have hs5 : a + 3 + 3 * (d : Int) = a + 3 * ((d + 1 : Nat) : Int) := by omega
  have e := ih (i + 1) (a + 3) h3 hj ha5 hb5
  have w1 : wrap64 (a + 1) = a + 1 := wz (by omega) (by omega)
  have w2 : wrap64 (a + 1 + 1) = a + 2 := by rw [wz (by omega) (by omega)]; omega
  have w3 : wrap64 (a + 2 + 1) = a + 3 := by rw [wz (by omega) (by omega)]; omega
  have wi : wrap64 ((i : Int) + 1) = ((i + 1 : Nat) : Int) := by rw [wz (by omega) (by omega)]; omega
  have hz : rd_T78 xs (i : Int) = mkM a := by rw [rdMk]; exact h2 _
  refine Ev.step (fun k => ?_) (Ev.to e hs5)
  rw [laws_heldMarkS.l0, if_pos hi1, if_pos hi0]
  simp only [hz, w1, w2, w3, wi, mkM, if_true, bne_self_eq_false, Bool.false_eq_true, if_false]
theorem heldMarkS_ev (d : Nat) (hd : d ≤ 1048576) : Ev (fun k => laws_heldMarkS.f k (mkMs d 1) 1) (1 + 3 * (d : Int)) := heldMarkS_l0 (mkMs d 1) (by rw [mkMs_len]; exact hd) d 0 1 rfl (by rw [mkMs_len]; omega) (by decide) (by omega)

def ltsum : List S85 → Nat
 | [] => 0
 | x :: xs => x.f0.length + ltsum xs
def stsum : List S41 → Nat
 | [] => 0
 | x :: xs => x.f0.length + stsum xs
theorem stsum_map : ∀ L : List S85, stsum (L.map cSt) = ltsum L := by
 intro L
 induction L with
 | nil => rfl
 | cons x xs ih => simp [stsum, ltsum, ih, cSt]
theorem ltsum_mem : ∀ (L : List S85) (l : S85), l ∈ L → l.f0.length ≤ ltsum L := by
 intro L
 induction L with
 | nil => intro l h; simp at h
 | cons x xs ih =>
  intro l h
  have hs : ltsum (x :: xs) = x.f0.length + ltsum xs := rfl
  rcases List.mem_cons.1 h with rfl | h
  ·omega
  ·have := ih l h; omega
theorem szStep_sum {l : List S104} (x y : Int) (hp : l.length ≤ 9223372036854775807) (b : Int) (h0 : 0 ≤ b) (hb : b ≤ 1048576) : ∃ r, laws_szStep.f l x y b = some r ∧ (¬ r < 0 → r + (l.length : Int) = b) := by
 unfold laws_szStep.f laws_szMarkS.f
 rw [wz (by omega) (by omega)]
 by_cases h : (b - (l.length : Int)) < 0
 ·exact ⟨-1, by rw [if_pos h]; simp, by omega⟩
 ·exact ⟨b - (l.length : Int), by rw [if_neg h]; simp only [Option.bind_some, if_neg h], by omega⟩
theorem szStepS_s0 (L : List S85) (hL : L.length ≤ 9223372036854775807) (hp : ∀ l ∈ L, l.f0.length ≤ 9223372036854775807) : ∀ (zs : List S85) (i : Nat) (b : Int), 0 ≤ b → b ≤ 1048576 → L.drop i = zs → ∃ r, Ev (fun k => laws_szStepS.l0 k L b (i : Int)) r ∧ (¬ r < 0 → r + (ltsum zs : Int) ≤ b) := by
 intro zs
 induction zs with
 | nil =>
  intro i b h0 hb h
  exact ⟨b, Ev.step (f := fun _ => some b) (fun k => by rw [laws_szStepS.l0, if_neg (dnil h)]) (Ev.now _), fun _ => by simp [ltsum]⟩
 | cons z zs ih =>
  intro i b h0 hb h
  obtain ⟨h1, h2, h3⟩ := dcons h
  have hz : z ∈ L := List.mem_of_mem_drop (by rw [h]; simp)
  obtain ⟨r, hr, hs⟩ := szStep_sum z.f1 z.f2 (hp z hz) b h0 hb
  by_cases h4 : r < 0
  ·refine ⟨-1, Ev.step (f := fun _ => some (-1)) (fun k => ?_) (Ev.now _), by omega⟩
   rw [laws_szStepS.l0, if_pos (by omega), if_pos (by omega), rdLS, h2, hr]
   simp only [Option.bind_some, if_pos h4]
  ·have hs := hs h4
   obtain ⟨q, hq, ht⟩ := ih (i + 1) r (by omega) (by omega) h3
   refine ⟨q, Ev.step (f := fun k => laws_szStepS.l0 k L r ((i + 1 : Nat) : Int)) (fun k => ?_) hq, fun h5 => ?_⟩
   ·rw [laws_szStepS.l0, if_pos (by omega), if_pos (by omega), rdLS, h2, hr]
    simp only [Option.bind_some, if_neg h4]
    rw [wsucc h1 hL]
   ·have := ht h5
    have hs2 : ltsum (z :: zs) = z.f0.length + ltsum zs := rfl
    omega
theorem szStepS_sum {L : List S85} (hL : L.length ≤ 9223372036854775807) (hp : ∀ l ∈ L, l.f0.length ≤ 9223372036854775807) (b : Int) (h0 : 0 ≤ b) (hb : b ≤ 1048576) : ∃ r, Ev (fun k => laws_szStepS.f k L b) r ∧ (¬ r < 0 → L.length + ltsum L ≤ 1048576) := by
 unfold laws_szStepS.f
 rw [wz (by omega) (by omega)]
 by_cases h : (b - (L.length : Int)) < 0
 ·exact ⟨-1, by simp only [if_pos h]; exact Ev.now _, by omega⟩
 ·obtain ⟨r, hr, hs⟩ := szStepS_s0 L hL hp L 0 (b - L.length) (by omega) (by omega) rfl
  exact ⟨r, by simp only [if_neg h]; exact hr, fun h5 => by have := hs h5; omega⟩
theorem markStepS_l0 : ∀ (zs : List S41) (i : Nat) (xs : List S41) (a : Int), xs.drop i = zs → xs.length ≤ 1048576 → 0 ≤ a → a + 3 * (stsum zs : Int) + 2 * (zs.length : Int) ≤ 100000000 → (∀ z ∈ zs, z.f0.length ≤ 1048576) → ∃ ys, Ev (fun k => laws_markStepS.l0 k xs a (i : Int)) (a + 3 * (stsum zs : Int) + 2 * (zs.length : Int), ys) := by
 intro zs
 induction zs with
 | nil =>
  intro i xs a h hn ha hb _
  exact ⟨xs, Ev.step (fun k => by rw [laws_markStepS.l0, if_neg (dnil h)]) (Ev.to (Ev.now (a, xs)) (by simp [stsum]))⟩
 | cons z zs ih =>
  intro i xs a h hn ha hb hz
  obtain ⟨h1, h2, h3⟩ := dcons h
  have hs : stsum (z :: zs) = z.f0.length + stsum zs := rfl
  have hlen : (z :: zs).length = zs.length + 1 := rfl
  have hzl := hz z (by simp)
  have e1 := markMarkS_ev a z.f0 ha (by omega) hzl
  have wi := wsucc h1 (by omega)
  obtain ⟨u, hu⟩ : ∃ u, u = xs.set i (⟨mkMs z.f0.length a, a + 3 * (z.f0.length : Int), a + 3 * (z.f0.length : Int) + 1⟩ : S41) := ⟨_, rfl⟩
  have hul : u.length = xs.length := by rw [hu]; simp
  have hud : u.drop (i + 1) = zs := by rw [hu, List.drop_set_of_lt (by omega), h3]
  obtain ⟨ys, e2⟩ := ih (i + 1) u (a + 3 * (z.f0.length : Int) + 2) hud (by omega) (by omega) (by omega) (fun y hy => hz y (List.mem_cons_of_mem _ hy))
  have w1 : wrap64 (a + 3 * (z.f0.length : Int) + 1) = a + 3 * (z.f0.length : Int) + 1 := wz (by omega) (by omega)
  have w2 : wrap64 (a + 3 * (z.f0.length : Int) + 1 + 1) = a + 3 * (z.f0.length : Int) + 2 := by rw [wz (by omega) (by omega)]; omega
  refine ⟨ys, Ev.step (f := fun k => (laws_markMarkS.f k (rd_T41 xs (i : Int)).f0 a).bind _) (fun k => by rw [laws_markStepS.l0, if_pos (by omega), if_pos (by omega), wi, Int.toNat_natCast]) ?_⟩
  rw [rdSt, h2]
  refine Ev.bind e1 ?_
  simp only [w1, w2, ← hu]
  exact Ev.to e2 (by rw [hs, hlen]; congr 1; omega)
theorem markStepS_ev (xs : List S41) (a : Int) (ha : 0 ≤ a) (hn : xs.length + stsum xs ≤ 1048576) (hb : a ≤ 2000000) (hz : ∀ z ∈ xs, z.f0.length ≤ 1048576) : ∃ ys, Ev (fun k => laws_markStepS.f k xs a) (a + 3 * (stsum xs : Int) + 2 * (xs.length : Int), ys) := by
 unfold laws_markStepS.f
 exact markStepS_l0 xs 0 xs a rfl (by omega) ha (by omega) hz

theorem BtB_len (p : Int) (H : List Int) (ss : List S41) : (BtB p H ss).1.length ≤ 9 := by
 unfold BtB
 split
 ·split
  ·simp
  ·simp only
   omega
 ·simp
theorem FnExactBillTerm : laws_FnExactBillTerm.Pure := by
 intro p H ss _ hH hS
 obtain ⟨r, hr, hs⟩ := szHouse_small (p := p) hH.1
 refine Ev.rounds ?_
 unfold laws_FnExactBillTerm.f
 rw [hr]
 simp only [Option.bind_some]
 by_cases h : r < 0
 ·simp only [if_pos h]
  exact Ev.now _
 simp only [if_neg h]
 obtain ⟨s1, s2⟩ := hs h
 obtain ⟨q, hq, ht⟩ := szStepS_sum hS.1 (fun l hl => (hS.2 l hl).1.1) r (by omega) s1
 refine Ev.bind hq ?_
 by_cases h2 : q < 0
 ·simp only [if_pos h2]
  exact Ev.now _
 simp only [if_neg h2]
 have t1 := ht h2
 have t3 : ∀ l ∈ ss, l.f0.length ≤ 1048576 := fun l hl => by have := ltsum_mem ss l hl; omega
 have e1 := toHouse_ev p H s2
 have e2 := toStepS_ev ss (by omega) t3
 have hc : ∀ c ∈ H, c ≤ 9223372036854775807 := fun c hc => wf_le (hH.2 c hc)
 have m1 : (ss.map cSt).length ≤ 1048576 := by simp <;> omega
 have m2 : ∀ s ∈ ss.map cSt, s.f0.length ≤ 1048576 := by
  intro s hs
  obtain ⟨x, hx, rfl⟩ := List.mem_map.1 hs
  have := t3 x hx
  simpa [cSt] using this
 have m3 : (ss.map cSt).length + stsum (ss.map cSt) ≤ 1048576 := by rw [stsum_map]; simp <;> omega
 have im := iBillTerm_ev p H (ss.map cSt) s2 m1 m2
 have sp := sBillTerm_ev p H (ss.map cSt) s2 m1 m2 hc
 have bl := BtB_len p H (ss.map cSt)
 have mh := markIntS_ev 1 H (by decide) (by decide) (by omega)
 obtain ⟨ys, ms⟩ := markStepS_ev (ss.map cSt) (1 + (H.length : Int)) (by omega) m3 (by omega) m2
 revert im sp bl
 generalize BtB p H (ss.map cSt) = R
 obtain ⟨R1, R2⟩ := R
 intro im sp bl
 simp only at bl
 have eq := eqMarkS_ev R1 (by omega)
 have mm := markMarkS_ev 1 R1 (by decide) (by decide) (by omega)
 have hld := heldMarkS_ev R1.length (by omega)
 have hpos : ¬ (1 + (H.length : Int) + 3 * (stsum (ss.map cSt) : Int) + 2 * ((ss.map cSt).length : Int) < 0) := by omega
 have hpos2 : ¬ (1 + 3 * (R1.length : Int) < 0) := by omega
 refine Ev.bind e1 (Ev.bind e2 (Ev.bind sp (Ev.bind e1 (Ev.bind e2 (Ev.bind im (Ev.bind eq ?_))))))
 simp only [if_true, bne_self_eq_false]
 refine Ev.step (fun k => by rw [laws_FnExactBillTerm.j0, if_neg (by decide)]) ?_
 refine Ev.bind e1 (Ev.bind (eqHouse_ev p H s2) ?_)
 simp only [if_true]
 refine Ev.bind e2 (Ev.bind (eqStepS_ev _ (by omega) m2) ?_)
 simp only [if_true]
 refine Ev.bind (a := (1 + (H.length : Int), mk 1 H H.length)) (by unfold laws_markHouse.f; exact Ev.bind mh (Ev.now _)) ?_
 refine Ev.bind ms ?_
 simp only [if_neg hpos]
 refine Ev.bind eq ?_
 simp only [if_true, bne_self_eq_false]
 refine Ev.step (fun k => by rw [laws_FnExactBillTerm.j1, if_neg (by decide)]) ?_
 refine Ev.bind mm (Ev.bind hld ?_)
 simp only [if_neg hpos2, if_true]
 refine Ev.bind e1 (Ev.bind e2 (Ev.bind im (Ev.bind eq ?_)))
 simp only [if_true, bne_self_eq_false]
 refine Ev.step (fun k => by rw [laws_FnExactBillTerm.j2, if_neg (by decide)]) ?_
 refine Ev.bind hld ?_
 simp only [if_neg hpos2, if_true]
 exact Ev.now _

end Go.Proofs.Ytnpjlpkbefdnlaa.Pure
