/- The law FnExactLeastConsents is true: for every house and term the program's LeastConsents returns what the reference's returns, leaves its arguments as they were, and its result shares no memory. Conditions: none. -/
import Derived.Test.YtaddlahbahedeaaQFnExactLeastConsentsx15
namespace Go.Proofs.Ytaddlahbahedeaa.Pure
open Go.RowKit Go.Proofs.Ytaddlahbahedeaa.QFnExactLeastConsents Go.Proofs.YtaddlahbahedeaaW.PrintWords Go.Proofs.YtaddlahbahedeaaW.PrintLast
set_option linter.unusedVariables false
set_option linter.unusedSimpArgs false

theorem wz {x : Int} (h0 : -9223372036854775808 ≤ x) (h1 : x ≤ 9223372036854775807) : wrap64 x = x := by unfold wrap64; omega
theorem wsucc {i n : Nat} (h : i < n) (hn : n ≤ 9223372036854775807) : wrap64 ((i : Int) + 1) = ((i + 1 : Nat) : Int) := by rw [wz (by omega) (by omega)]; omega
theorem dnil {α : Type} {xs : List α} {i : Nat} (h : xs.drop i = []) : ¬ ((i : Int) < (xs.length : Int)) := by
 have := List.drop_eq_nil_iff.1 h
 omega
theorem dcons {α : Type} {xs : List α} {i : Nat} {y : α} {ys : List α} (h : xs.drop i = y :: ys) : i < xs.length ∧ (∀ d, xs.getD i d = y) ∧ xs.drop (i + 1) = ys := by
 have hl : i < xs.length := by
  rcases Nat.lt_or_ge i xs.length with h1 | h1
  ·exact h1
  ·rw [List.drop_eq_nil_iff.2 h1] at h
   cases h
 have e := List.drop_eq_getElem_cons hl
 rw [h] at e
 injection e with e1 e2
 exact ⟨hl, fun d => by rw [List.getD_eq_getElem?_getD, List.getElem?_eq_getElem hl]; exact e1.symm, e2.symm⟩
theorem rdn (xs : List Int) (i : Nat) : rd xs (i : Int) = xs.getD i 0 := by simp [rd]
theorem set_mid {α β : Type} (l : List α) (c : α → β) (z : β) {i : Nat} {y : α} {ys : List α} (h : l.drop i = y :: ys) :
  ((l.take i).map c ++ List.replicate (l.length - i) z).set i (c y) = (l.take (i + 1)).map c ++ List.replicate (l.length - (i + 1)) z := by
 obtain ⟨h1, h2, h3⟩ := dcons h
 have ht : l.take (i + 1) = l.take i ++ [y] := by
  rw [List.take_succ_eq_append_getElem h1]
  have := h2 y
  rw [List.getD_eq_getElem?_getD, List.getElem?_eq_getElem h1] at this
  rw [show l[i] = y from by simpa using this]
 obtain ⟨m, hm⟩ : ∃ m, l.length - i = m + 1 := ⟨l.length - i - 1, by omega⟩
 have hm2 : l.length - (i + 1) = m := by omega
 have hlen : ((l.take i).map c).length = i := by simp <;> omega
 rw [hm, hm2, ht, List.replicate_succ, List.map_append, List.set_append_right _ _ (by omega), hlen, Nat.sub_self]
 simp
theorem Ev.to {α : Type} {g : Nat → Option α} {r s : α} (h : Ev g r) (e : r = s) : Ev g s := e ▸ h

def CrB (p a : Int) : Bool := decide (1 ≤ p ∧ p ≤ 6 ∧ 0 ≤ a ∧ a < 2 ^ p.toNat)
theorem shl1 {p : Int} (h0 : 1 ≤ p) (h1 : p ≤ 6) : shl .i64 1 p = 2 ^ p.toNat := by
 have : p = 1 ∨ p = 2 ∨ p = 3 ∨ p = 4 ∨ p = 5 ∨ p = 6 := by omega
 rcases this with rfl | rfl | rfl | rfl | rfl | rfl <;> decide +kernel
theorem pow_small {p : Int} (h0 : 1 ≤ p) (h1 : p ≤ 6) : (2 : Int) ≤ 2 ^ p.toNat ∧ (2 : Int) ^ p.toNat ≤ 64 := by
 have : p = 1 ∨ p = 2 ∨ p = 3 ∨ p = 4 ∨ p = 5 ∨ p = 6 := by omega
 rcases this with rfl | rfl | rfl | rfl | rfl | rfl <;> decide
theorem impl_isCrowd_eq (p a : Int) : impl_isCrowd.f p a = some (CrB p a) := by
 unfold impl_isCrowd.f impl_arePeople.f CrB
 by_cases h1 : p ≥ 1
 ·by_cases h2 : p ≤ 6
  ·by_cases h3 : a ≥ 0
   ·have h0 : 0 ≤ p := by omega
    simp [h1, h2, h3, h0, shl1 h1 h2]
   ·simp [h1, h2, h3]
  ·simp [h1, h2]
 ·simp [h1]
theorem CrB_of {p a : Int} (h : CrB p a = true) : 1 ≤ p ∧ p ≤ 6 ∧ 0 ≤ a ∧ a < 2 ^ p.toNat := of_decide_eq_true h

theorem l1In_eq2 (a b c : Int) : spec_l1In.f a b c = some (decide (b ≤ a ∧ a ≤ c)) := by
 unfold spec_l1In.f
 by_cases h : b ≤ a
 ·simp [h]
 ·simp [h]
theorem spec_CrowdOk_eq (p a : Int) : spec_CrowdOk.f p a = some (CrB p a) := by
 unfold spec_CrowdOk.f CrB
 simp only [l1In_eq2, Option.bind_some]
 by_cases h : 1 ≤ p ∧ p ≤ 6
 ·have hp := pow_small h.1 h.2
  simp only [decide_eq_true h, if_true, if_pos (show 0 ≤ p by omega), shl1 h.1 h.2]
  rw [wz (by omega) (by omega)]
  congr 1
  rw [decide_eq_decide]
  omega
 ·simp only [decide_eq_false h, Bool.false_eq_true, if_false]
  congr 1
  symm
  rw [decide_eq_false_iff_not]
  omega

def pc : Nat → Int → Int
 | 0, _ => 0
 | b + 1, n => n % 2 + pc b (n / 2)
theorem pc_zero : ∀ (b : Nat), pc b 0 = 0 := by
 intro b
 induction b with
 | zero => rfl
 | succ b ih => simp [pc, ih]
theorem spec_heads_l0 : ∀ (b : Nat) (n acc : Int), 0 ≤ n → n < 2 ^ b → 0 ≤ acc → acc + b ≤ 1000 → b ≤ 63 → Ev (fun k => spec_l1Heads.l0 k n acc) (acc + pc b n) := by
 intro b
 induction b with
 | zero =>
  intro n acc h0 h1 h2 h3 h4
  have : n = 0 := by simp at h1; omega
  subst this
  exact Ev.step (f := fun _ => some acc) (fun k => by rw [spec_l1Heads.l0, if_neg (by decide)]) (Ev.to (Ev.now _) (by simp [pc]))
 | succ b ih =>
  intro n acc h0 h1 h2 h3 h4
  by_cases hn : n = 0
  ·subst hn
   exact Ev.step (f := fun _ => some acc) (fun k => by rw [spec_l1Heads.l0, if_neg (by decide)]) (Ev.to (Ev.now _) (by rw [pc_zero]; omega))
  ·have h5 : n < 2 * 2 ^ b := by rw [Int.pow_succ] at h1; omega
   have h6 : (2 : Int) ^ b ≤ 4611686018427387904 := by
    have h7 : (2 : Nat) ^ b ≤ 2 ^ 62 := Nat.pow_le_pow_right (by decide) (by omega)
    have h8 : ((2 ^ b : Nat) : Int) ≤ ((2 ^ 62 : Nat) : Int) := Int.ofNat_le.2 h7
    rw [Int.natCast_pow] at h8
    exact h8
   have d1 : Int.tdiv n 2 = n / 2 := Int.tdiv_eq_ediv_of_nonneg h0
   have d2 : Int.tmod n 2 = n % 2 := Int.tmod_eq_emod_of_nonneg h0
   have e := ih (n / 2) (acc + n % 2) (by omega) (by omega) (by omega) (by omega) (by omega)
   have w1 : wrap64 (Int.tdiv n 2) = n / 2 := by rw [d1]; exact wz (by omega) (by omega)
   have w2 : wrap64 (acc + Int.tmod n 2) = acc + n % 2 := by rw [d2]; exact wz (by omega) (by omega)
   refine Ev.step (f := fun k => spec_l1Heads.l0 k (n / 2) (acc + n % 2)) (fun k => by rw [spec_l1Heads.l0, if_pos (by omega), w1, w2]) (Ev.to e (by simp only [pc]; omega))
def hdI (n : Int) : Int := if n < 0 then 0 else pc 63 n
theorem spec_heads_ev (n : Int) (h1 : n ≤ 9223372036854775807) : Ev (fun k => spec_l1Heads.f k n) (hdI n) := by
 unfold spec_l1Heads.f hdI
 by_cases hn : n < 0
 ·rw [if_pos hn]
  exact Ev.step (f := fun _ => some 0) (fun k => by rw [spec_l1Heads.l0, if_neg (by omega)]) (Ev.now _)
 ·rw [if_neg hn]
  exact Ev.to (spec_heads_l0 63 n 0 (by omega) (by simp; omega) (by omega) (by omega) (by omega)) (by omega)
theorem impl_heads_all : ∀ n : Fin 64, impl_headsOf.f (n.val : Int) = some (hdI (n.val : Int)) := by decide +kernel
theorem impl_heads {a : Int} (h0 : 0 ≤ a) (h1 : a < 64) : impl_headsOf.f a = some (hdI a) := by
 obtain ⟨n, rfl⟩ := Int.eq_ofNat_of_zero_le h0
 exact impl_heads_all ⟨n, by omega⟩
def PpB (p : Int) : Bool := decide (1 ≤ p ∧ p ≤ 6)
def HsB (p : Int) (H : List Int) : Bool := H.all (fun c => CrB p c && !decide (c = 0)) && (PpB p && decide ((H.length : Int) ≤ 4))
theorem HsB_of {p : Int} {H : List Int} (h : HsB p H = true) : H.length ≤ 4 ∧ 1 ≤ p ∧ p ≤ 6 ∧ ∀ c ∈ H, 0 < c ∧ c < 64 := by
 unfold HsB PpB at h
 simp only [Bool.and_eq_true, decide_eq_true_eq, List.all_eq_true] at h
 obtain ⟨h1, ⟨h2, h3⟩, h4⟩ := h
 refine ⟨by omega, h2, h3, fun c hc => ?_⟩
 have := h1 c hc
 have cr := CrB_of this.1
 have ps := pow_small cr.1 cr.2.1
 have : ¬ c = 0 := by simpa using this.2
 omega
theorem arePeople_eq (p : Int) : impl_arePeople.f p = some (PpB p) := by
 unfold impl_arePeople.f PpB
 by_cases h : p ≥ 1
 ·simp [h]
 ·simp [h]
theorem impl_isHouse_l0 (p : Int) (H : List Int) (hn : H.length ≤ 1048576) : ∀ (zs : List Int) (i : Nat), H.drop i = zs → Ev (fun k => impl_isHouse.l0 k H (H.length : Int) (i : Int) p H) (zs.all (fun c => CrB p c && !decide (c = 0)) && (PpB p && decide ((H.length : Int) ≤ 4))) := by
 intro zs
 induction zs with
 | nil =>
  intro i h
  refine Ev.step (f := fun _ => some (PpB p && decide ((H.length : Int) ≤ 4))) (fun k => ?_) (Ev.to (Ev.now _) (by simp))
  rw [impl_isHouse.l0, if_neg (dnil h), arePeople_eq]
  cases PpB p <;> simp
 | cons z zs ih =>
  intro i h
  obtain ⟨h1, h2, h3⟩ := dcons h
  have e := ih (i + 1) h3
  have hi1 : (i : Int) < (H.length : Int) := by omega
  have hi0 : 0 ≤ (i : Int) := by omega
  cases hc : CrB p z with
  | false =>
   refine Ev.step (f := fun _ => some false) (fun k => ?_) (Ev.to (Ev.now _) (by simp [hc]))
   rw [impl_isHouse.l0, if_pos hi1, if_pos hi0, if_pos hi1, rdn, h2, impl_isCrowd_eq, hc]
   rfl
  | true =>
   by_cases hz : z = 0
   ·refine Ev.step (f := fun _ => some false) (fun k => ?_) (Ev.to (Ev.now _) (by simp [hz]))
    rw [impl_isHouse.l0, if_pos hi1, if_pos hi0, if_pos hi1, rdn, h2, impl_isCrowd_eq, hc, Option.bind_some, if_pos rfl, if_pos hz]
   ·refine Ev.step (fun k => ?_) (Ev.to e (by simp [hz, hc]))
    rw [impl_isHouse.l0, if_pos hi1, if_pos hi0, if_pos hi1, rdn, h2, impl_isCrowd_eq, hc, Option.bind_some, if_pos rfl, if_neg hz, wsucc h1 (by omega)]
theorem impl_isHouse_ev (p : Int) (H : List Int) (hn : H.length ≤ 1048576) : Ev (fun k => impl_isHouse.f k p H) (HsB p H) := impl_isHouse_l0 p H hn H 0 rfl
theorem spec_HouseOk_l0 (p : Int) (H : List Int) (hn : H.length ≤ 1048576) : ∀ (zs : List Int) (i : Nat), H.drop i = zs → Ev (fun k => spec_HouseOk.l0 k (i : Int) p H) (zs.all (fun c => CrB p c && !decide (c = 0)) && (PpB p && decide ((H.length : Int) ≤ 4))) := by
 intro zs
 induction zs with
 | nil =>
  intro i h
  refine Ev.step (f := fun _ => some (PpB p && decide ((H.length : Int) ≤ 4))) (fun k => ?_) (Ev.to (Ev.now _) (by simp))
  rw [spec_HouseOk.l0, if_neg (dnil h), l1In_eq2, Option.bind_some, show decide (1 ≤ p ∧ p ≤ 6) = PpB p from rfl]
  cases PpB p <;> simp
 | cons z zs ih =>
  intro i h
  obtain ⟨h1, h2, h3⟩ := dcons h
  have e := ih (i + 1) h3
  have hi1 : (i : Int) < (H.length : Int) := by omega
  have hi0 : 0 ≤ (i : Int) := by omega
  cases hc : CrB p z with
  | false =>
   refine Ev.step (f := fun _ => some false) (fun k => ?_) (Ev.to (Ev.now _) (by simp [hc]))
   rw [spec_HouseOk.l0, if_pos hi1, if_pos hi0, rdn, h2, spec_CrowdOk_eq, hc]
   rfl
  | true =>
   by_cases hz : z = 0
   ·refine Ev.step (f := fun _ => some false) (fun k => ?_) (Ev.to (Ev.now _) (by simp [hz]))
    rw [spec_HouseOk.l0, if_pos hi1, if_pos hi0, rdn, h2, spec_CrowdOk_eq, hc, Option.bind_some, if_pos rfl, if_pos hz]
   ·refine Ev.step (fun k => ?_) (Ev.to e (by simp [hz, hc]))
    rw [spec_HouseOk.l0, if_pos hi1, if_pos hi0, rdn, h2, spec_CrowdOk_eq, hc, Option.bind_some, if_pos rfl, if_neg hz, wsucc h1 (by omega)]
theorem spec_HouseOk_ev (p : Int) (H : List Int) (hn : H.length ≤ 1048576) : Ev (fun k => spec_HouseOk.f k p H) (HsB p H) := spec_HouseOk_l0 p H hn H 0 rfl
def leafB (H : List Int) (m : S61) : Bool := decide (m.f0 = 0) && (decide (0 ≤ m.f1 ∧ m.f1 < H.length) && decide (1 ≤ m.f2 ∧ m.f2 ≤ hdI (rd H m.f1)))
def opB (m : S61) : Bool := (decide (m.f0 = 1) || decide (m.f0 = 2)) && (decide (m.f1 = 0) && decide (m.f2 = 0))
def tmF (H : List Int) : List S61 → Int → Bool
 | [], d => decide (d = 1)
 | m :: ms, d => if leafB H m = true then tmF H ms (d + 1) else if opB m = true then (if d < 2 then false else tmF H ms (d - 1)) else false
def TmB (p : Int) (H : List Int) (ms : List S61) : Bool := HsB p H && (decide ((ms.length : Int) ≤ 9) && tmF H ms 0)
theorem rdMk (xs : List S61) (i : Nat) : rd_T61 xs (i : Int) = xs.getD i z61 := by simp [rd_T61]
theorem impl_isTerm_l0 (p : Int) (H : List Int) (hH : HsB p H = true) (xs : List S61) (hn : xs.length ≤ 1048576) : ∀ (zs : List S61) (i : Nat) (d : Int), xs.drop i = zs → 0 ≤ d → d ≤ i → Ev (fun k => impl_isTerm.l0 k d xs (xs.length : Int) (i : Int) p H) (tmF H zs d) := by
 have hh := HsB_of hH
 intro zs
 induction zs with
 | nil =>
  intro i d h hd0 hd
  refine Ev.step (f := fun _ => some (d == 1)) (fun k => by rw [impl_isTerm.l0, if_neg (dnil h)]) (Ev.to (Ev.now _) ?_)
  unfold tmF
  by_cases e : d = 1 <;> simp [e]
 | cons z zs ih =>
  intro i d h hd0 hd
  obtain ⟨h1, h2, h3⟩ := dcons h
  have hi1 : (i : Int) < (xs.length : Int) := by omega
  have hi0 : 0 ≤ (i : Int) := by omega
  have wd : wrap64 (d + 1) = d + 1 := wz (by omega) (by omega)
  have wd2 : wrap64 (d - 1) = d - 1 := wz (by omega) (by omega)
  have stop (a : Bool) (ha : a = false) (b c e : Int) : ∀ k, impl_isTerm.j2 (k + 1) d xs (xs.length : Int) (i : Int) a p H b c e = some false := fun k => by rw [impl_isTerm.j2, ha, if_neg (by decide)]
  by_cases g0 : z.f0 = 0
  ·have nop : opB z = false := by simp [opB, g0]
   by_cases g1 : z.f1 < 0
   ·refine Ev.step (f := fun _ => some false) (fun k => ?_) (Ev.to (Ev.now _) ?_)
    ·rw [impl_isTerm.l0, if_pos hi1, if_pos hi0, if_pos hi1, rdMk, h2, if_pos g0, if_pos g1]
    ·unfold tmF; rw [if_neg (by simp [leafB]; omega), if_neg (by simp [nop])]
   by_cases g2 : z.f1 ≥ (H.length : Int)
   ·refine Ev.step (f := fun _ => some false) (fun k => ?_) (Ev.to (Ev.now _) ?_)
    ·rw [impl_isTerm.l0, if_pos hi1, if_pos hi0, if_pos hi1, rdMk, h2, if_pos g0, if_neg g1, if_pos g2]
    ·unfold tmF; rw [if_neg (by simp [leafB]; omega), if_neg (by simp [nop])]
   have q1 : 0 ≤ z.f1 := by omega
   have q2 : z.f1 < (H.length : Int) := by omega
   by_cases g3 : z.f2 < 1
   ·refine Ev.step (f := fun _ => some false) (fun k => ?_) (Ev.to (Ev.now _) ?_)
    ·rw [impl_isTerm.l0, if_pos hi1, if_pos hi0, if_pos hi1, rdMk, h2, if_pos g0, if_neg g1, if_neg g2, if_pos g3]
    ·unfold tmF; rw [if_neg (by simp [leafB]; omega), if_neg (by simp [nop])]
   have hm : rd H z.f1 ∈ H := by
    obtain ⟨n, hn2⟩ := Int.eq_ofNat_of_zero_le q1
    rw [hn2, rdn, List.getD_eq_getElem?_getD, List.getElem?_eq_getElem (show n < H.length by omega)]
    exact List.getElem_mem _
   have hr := hh.2.2.2 _ hm
   have hd1 := impl_heads (Int.le_of_lt hr.1) hr.2
   by_cases g4 : z.f2 > hdI (rd H z.f1)
   ·refine Ev.step (f := fun _ => some false) (fun k => ?_) (Ev.to (Ev.now _) ?_)
    ·rw [impl_isTerm.l0, if_pos hi1, if_pos hi0, if_pos hi1, rdMk, h2, if_pos g0, if_neg g1, if_neg g2, if_neg g3, if_pos q1, if_pos q2, hd1, Option.bind_some, if_pos g4]
    ·unfold tmF; rw [if_neg (by simp [leafB]; omega), if_neg (by simp [nop])]
   ·have lf : leafB H z = true := by
     unfold leafB
     rw [decide_eq_true g0, decide_eq_true (show 0 ≤ z.f1 ∧ z.f1 < (H.length : Int) from ⟨q1, q2⟩), decide_eq_true (show 1 ≤ z.f2 ∧ z.f2 ≤ hdI (rd H z.f1) by omega)]
     rfl
    refine Ev.step (fun k => ?_) (Ev.to (ih (i + 1) (d + 1) h3 (by omega) (by omega)) ?_)
    ·rw [impl_isTerm.l0, if_pos hi1, if_pos hi0, if_pos hi1, rdMk, h2, if_pos g0, if_neg g1, if_neg g2, if_neg g3, if_pos q1, if_pos q2, hd1, Option.bind_some, if_neg g4, wd, wsucc h1 (by omega)]
    ·rw [tmF, if_pos lf]
  ·have nl : leafB H z = false := by unfold leafB; rw [decide_eq_false g0]; rfl
   refine Ev.step (f := fun k => impl_isTerm.j2 k d xs (xs.length : Int) (i : Int) (decide (z.f0 = 1) || decide (z.f0 = 2)) p H z.f0 z.f1 z.f2) (fun k => ?_) ?_
   ·rw [impl_isTerm.l0, if_pos hi1, if_pos hi0, if_pos hi1, rdMk, h2, if_neg g0]
    by_cases g5 : z.f0 = 1
    ·rw [if_pos g5]; simp [g5]
    ·rw [if_neg g5]; simp only [decide_eq_false g5, Bool.false_or]; rfl
   ·rw [tmF, nl, if_neg (by decide)]
    cases hop : (decide (z.f0 = 1) || decide (z.f0 = 2)) with
    | false => exact Ev.step (fun k => by rw [impl_isTerm.j2, if_neg (by decide)]) (Ev.to (Ev.now false) (by simp [opB, hop]))
    | true =>
     by_cases g6 : z.f1 = 0
     ·by_cases g7 : z.f2 = 0
      ·have hb : opB z = true := by simp [opB, hop, g6, g7]
       rw [if_pos hb]
       by_cases g8 : d < 2
       ·rw [if_pos g8]
        exact Ev.step (fun k => by rw [impl_isTerm.j2, if_pos rfl, if_pos g6, if_pos g7, if_pos g8]) (Ev.now false)
       ·rw [if_neg g8]
        exact Ev.step (fun k => by rw [impl_isTerm.j2, if_pos rfl, if_pos g6, if_pos g7, if_neg g8, wd2, wsucc h1 (by omega)]) (ih (i + 1) (d - 1) h3 (by omega) (by omega))
      ·exact Ev.step (fun k => by rw [impl_isTerm.j2, if_pos rfl, if_pos g6, if_neg g7]) (Ev.to (Ev.now false) (by simp [opB, g7]))
     ·exact Ev.step (fun k => by rw [impl_isTerm.j2, if_pos rfl, if_neg g6]) (Ev.to (Ev.now false) (by simp [opB, g6]))
theorem impl_isTerm_ev (p : Int) (H : List Int) (hn : H.length ≤ 1048576) (ms : List S61) (hm : ms.length ≤ 1048576) : Ev (fun k => impl_isTerm.f k p H ms) (TmB p H ms) := by
 have stop : Ev (fun k => impl_isTerm.j0 k ms true p H) false := Ev.step (f := fun _ => some false) (fun k => by rw [impl_isTerm.j0, if_pos rfl]) (Ev.now _)
 unfold impl_isTerm.f TmB
 refine Ev.bind (impl_isHouse_ev p H hn) ?_
 cases hH : HsB p H with
 | false => simp only [Bool.false_eq_true, if_false, Bool.false_and]; exact stop
 | true =>
  simp only [if_true, Bool.true_and]
  by_cases h1 : (ms.length : Int) < 1
  ·simp only [if_pos h1]
   obtain rfl : ms = [] := List.eq_nil_of_length_eq_zero (by omega)
   exact Ev.to stop (by simp [tmF])
  ·simp only [if_neg h1]
   by_cases h2 : (ms.length : Int) > 9
   ·simp only [decide_eq_true h2]
    exact Ev.to stop (by rw [decide_eq_false (by omega)]; rfl)
   ·simp only [decide_eq_false h2, decide_eq_true (show (ms.length : Int) ≤ 9 by omega), Bool.true_and]
    exact Ev.step (f := fun k => impl_isTerm.l0 k 0 ms (ms.length : Int) ((0 : Nat) : Int) p H) (fun k => by rw [impl_isTerm.j0, if_neg (by decide)]; rfl) (impl_isTerm_l0 p H hH ms hm ms 0 0 rfl (by omega) (by omega))
theorem spec_TermOk_l0 (p : Int) (H : List Int) (hn : H.length ≤ 1048576) (hc : ∀ c ∈ H, c ≤ 9223372036854775807) (xs : List S61) (hx : xs.length ≤ 1048576) : ∀ (zs : List S61) (i : Nat) (d : Int), xs.drop i = zs → 0 ≤ d → d ≤ i → Ev (fun k => spec_TermOk.l0 k xs d (i : Int) p H) (HsB p H && (decide ((xs.length : Int) ≤ 9) && tmF H zs d)) := by
 intro zs
 induction zs with
 | nil =>
  intro i d h hd0 hd
  refine Ev.step (f := fun k => (spec_HouseOk.f k p H).bind fun t => (if t = true then (if d = 1 then (some (decide ((xs.length : Int) ≤ 9))) else (some false)) else (some false))) (fun k => by rw [spec_TermOk.l0, if_neg (dnil h)]) (Ev.bind (spec_HouseOk_ev p H hn) ?_)
  unfold tmF
  cases HsB p H with
  | false => simp only [Bool.false_eq_true, if_false, Bool.false_and]; exact Ev.now _
  | true =>
   simp only [if_true, Bool.true_and]
   by_cases e : d = 1
   ·simp only [if_pos e]; exact Ev.to (Ev.now _) (by simp [e])
   ·simp only [if_neg e]; exact Ev.to (Ev.now _) (by simp [e])
 | cons z zs ih =>
  intro i d h hd0 hd
  obtain ⟨h1, h2, h3⟩ := dcons h
  have hi1 : (i : Int) < (xs.length : Int) := by omega
  have hi0 : 0 ≤ (i : Int) := by omega
  have wd : wrap64 (d + 1) = d + 1 := wz (by omega) (by omega)
  have wd2 : wrap64 (d - 1) = d - 1 := wz (by omega) (by omega)
  have wl : wrap64 ((H.length : Int) - 1) = (H.length : Int) - 1 := wz (by omega) (by omega)
  have j : Ev (fun k => spec_TermOk.j1 k xs d (i : Int) (leafB H z) p H) (HsB p H && (decide ((xs.length : Int) ≤ 9) && tmF H (z :: zs) d)) := by
   cases hl : leafB H z with
   | true => exact Ev.step (fun k => by rw [spec_TermOk.j1, if_pos rfl, wd, wsucc h1 (by omega)]) (Ev.to (ih (i + 1) (d + 1) h3 (by omega) (by omega)) (by rw [tmF, if_pos hl]))
   | false =>
    rw [tmF, hl, if_neg (by decide)]
    by_cases g1 : z.f0 = 1 ∧ z.f1 = 0 ∧ z.f2 = 0
    ·have b1 : (z.f0 == 1 && (z.f1 == 0 && z.f2 == 0)) = true := by simp [g1]
     have hb : opB z = true := by simp [opB, g1]
     rw [if_pos hb]
     by_cases g8 : d < 2
     ·rw [if_pos g8]
      exact Ev.step (fun k => by rw [spec_TermOk.j1, if_neg (by decide), if_pos hi0, if_pos hi1, rdMk, h2, if_pos b1, if_neg (by omega)]) (Ev.to (Ev.now false) (by simp))
     ·rw [if_neg g8]
      exact Ev.step (fun k => by rw [spec_TermOk.j1, if_neg (by decide), if_pos hi0, if_pos hi1, rdMk, h2, if_pos b1, if_pos (by omega), wd2, wsucc h1 (by omega)]) (ih (i + 1) (d - 1) h3 (by omega) (by omega))
    ·have b1 : ¬ (z.f0 == 1 && (z.f1 == 0 && z.f2 == 0)) = true := by simpa using g1
     by_cases g2 : z.f0 = 2 ∧ z.f1 = 0 ∧ z.f2 = 0
     ·have b2 : (z.f0 == 2 && (z.f1 == 0 && z.f2 == 0)) = true := by simp [g2]
      have hb : opB z = true := by simp [opB, g2]
      rw [if_pos hb]
      by_cases g8 : d < 2
      ·rw [if_pos g8]
       exact Ev.step (fun k => by rw [spec_TermOk.j1, if_neg (by decide), if_pos hi0, if_pos hi1, rdMk, h2, if_neg b1, if_pos b2, if_neg (by omega)]) (Ev.to (Ev.now false) (by simp))
      ·rw [if_neg g8]
       exact Ev.step (fun k => by rw [spec_TermOk.j1, if_neg (by decide), if_pos hi0, if_pos hi1, rdMk, h2, if_neg b1, if_pos b2, if_pos (by omega), wd2, wsucc h1 (by omega)]) (ih (i + 1) (d - 1) h3 (by omega) (by omega))
     ·have b2 : ¬ (z.f0 == 2 && (z.f1 == 0 && z.f2 == 0)) = true := by simpa using g2
      have hb : ¬ opB z = true := by
       unfold opB
       simp only [Bool.and_eq_true, Bool.or_eq_true, decide_eq_true_eq]
       omega
      rw [if_neg hb]
      exact Ev.step (fun k => by rw [spec_TermOk.j1, if_neg (by decide), if_pos hi0, if_pos hi1, rdMk, h2, if_neg b1, if_neg b2]) (Ev.to (Ev.now false) (by simp))
  by_cases g0 : z.f0 = 0
  ·by_cases g1 : 0 ≤ z.f1 ∧ z.f1 < (H.length : Int)
   ·have hm : rd H z.f1 ∈ H := by
     obtain ⟨n, hn2⟩ := Int.eq_ofNat_of_zero_le g1.1
     rw [hn2, rdn, List.getD_eq_getElem?_getD, List.getElem?_eq_getElem (show n < H.length by omega)]
     exact List.getElem_mem _
    refine Ev.step (f := fun k => (spec_l1Heads.f k (rd H z.f1)).bind fun t => (spec_l1In.f z.f2 1 t).bind fun u => spec_TermOk.j1 k xs d (i : Int) u p H) (fun k => ?_) (Ev.bind (spec_heads_ev _ (hc _ hm)) ?_)
    ·rw [spec_TermOk.l0, if_pos hi1, if_pos hi0, rdMk, h2, if_pos g0, l1In_eq2, wl, Option.bind_some, decide_eq_true (show 0 ≤ z.f1 ∧ z.f1 ≤ (H.length : Int) - 1 by omega), if_pos rfl, if_pos g1.1, if_pos g1.2]
    ·have e2 : leafB H z = decide (1 ≤ z.f2 ∧ z.f2 ≤ hdI (rd H z.f1)) := by unfold leafB; rw [decide_eq_true g0, decide_eq_true g1]; simp
     simp only [l1In_eq2, Option.bind_some]
     rw [← e2]
     exact j
   ·have nl : leafB H z = false := by unfold leafB; rw [decide_eq_false g1]; simp
    rw [nl] at j
    exact Ev.step (fun k => by rw [spec_TermOk.l0, if_pos hi1, if_pos hi0, rdMk, h2, if_pos g0, l1In_eq2, wl, Option.bind_some, decide_eq_false (show ¬ (0 ≤ z.f1 ∧ z.f1 ≤ (H.length : Int) - 1) by omega), if_neg (by decide)]) j
  ·have nl : leafB H z = false := by unfold leafB; rw [decide_eq_false g0]; rfl
   rw [nl] at j
   exact Ev.step (fun k => by rw [spec_TermOk.l0, if_pos hi1, if_pos hi0, rdMk, h2, if_neg g0]) j
theorem spec_TermOk_ev (p : Int) (H : List Int) (hn : H.length ≤ 1048576) (hc : ∀ c ∈ H, c ≤ 9223372036854775807) (ms : List S61) (hm : ms.length ≤ 1048576) : Ev (fun k => spec_TermOk.f k p H ms) (TmB p H ms) := spec_TermOk_l0 p H hn hc ms hm ms 0 0 rfl (by omega) (by omega)

inductive Tm where
 | lf : S61 → Tm
 | nd : S61 → Tm → Tm → Tm
def flat : Tm → List S61
 | .lf m => [m]
 | .nd m a b => flat a ++ (flat b ++ [m])
def good (H : List Int) : Tm → Prop
 | .lf m => leafB H m = true
 | .nd m a b => opB m = true ∧ good H a ∧ good H b
def val (H : List Int) (c : Int) : Tm → Bool
 | .lf m => decide (hdI (Go.bits .and .i64 (rd H m.f1) c) ≥ m.f2)
 | .nd m a b => if m.f0 = 2 then (val H c a || val H c b) else (val H c a && val H c b)
def psF (H : List Int) : List S61 → List Tm → List Tm
 | [], s => s
 | m :: ms, s => if leafB H m = true then psF H ms (.lf m :: s) else match s with
  | b :: a :: s => psF H ms (.nd m a b :: s)
  | s => s
def flats : List Tm → List S61
 | [] => []
 | t :: s => flats s ++ flat t
theorem ps_ok (H : List Int) : ∀ (ms : List S61) (s : List Tm), tmF H ms (s.length : Int) = true → (∀ t ∈ s, good H t) → ∃ t, psF H ms s = [t] ∧ good H t ∧ flat t = flats s ++ ms := by
 intro ms
 induction ms with
 | nil =>
  intro s h hg
  have hl : (s.length : Int) = 1 := of_decide_eq_true h
  match s, hl, hg with
  | [t], _, hg => exact ⟨t, rfl, hg t (by simp), by simp [flats]⟩
  | [], hl, _ => simp at hl
  | _ :: _ :: _, hl, _ => simp at hl; omega
 | cons m ms ih =>
  intro s h hg
  unfold tmF at h
  by_cases hl : leafB H m = true
  ·rw [if_pos hl] at h
   obtain ⟨t, h1, h2, h3⟩ := ih (.lf m :: s) (by simpa using h) (by
    intro t ht
    rcases List.mem_cons.1 ht with rfl | ht
    ·exact hl
    ·exact hg t ht)
   exact ⟨t, by unfold psF; rw [if_pos hl]; exact h1, h2, by rw [h3]; simp [flats, flat]⟩
  ·rw [if_neg hl] at h
   by_cases ho : opB m = true
   ·rw [if_pos ho] at h
    by_cases hd : (s.length : Int) < 2
    ·rw [if_pos hd] at h; cases h
    ·rw [if_neg hd] at h
     match s, hd, hg, h with
     | [], hd, _, _ => simp at hd
     | [_], hd, _, _ => simp at hd
     | b :: a :: s, _, hg, h =>
      obtain ⟨t, h1, h2, h3⟩ := ih (.nd m a b :: s) (by
       have e : (((b :: a :: s).length : Int) - 1) = (((Tm.nd m a b :: s).length : Nat) : Int) := by simp
       rw [← e]; exact h) (by
       intro t ht
       rcases List.mem_cons.1 ht with rfl | ht
       ·exact ⟨ho, hg a (by simp), hg b (by simp)⟩
       ·exact hg t (by simp [ht]))
      exact ⟨t, by rw [psF, if_neg hl]; exact h1, h2, by rw [h3]; simp [flats, flat]⟩
   ·rw [if_neg ho] at h; cases h
def saysB (H : List Int) (c : Int) (ms : List S61) : Bool := match psF H ms [] with
 | t :: _ => val H c t
 | [] => false
theorem flat_pos (t : Tm) : 0 < (flat t).length := by cases t <;> simp [flat] <;> omega
theorem and_fin : ∀ a b : Fin 64, 0 ≤ Go.bits .and .i64 (a.val : Int) (b.val : Int) ∧ Go.bits .and .i64 (a.val : Int) (b.val : Int) < 64 ∧ Go.bits .and .i64 (a.val : Int) (b.val : Int) = Go.bits .and .i64 (b.val : Int) (a.val : Int) := by decide +kernel
theorem and_small {a b : Int} (h0 : 0 ≤ a) (h1 : a < 64) (h2 : 0 ≤ b) (h3 : b < 64) : 0 ≤ Go.bits .and .i64 a b ∧ Go.bits .and .i64 a b < 64 ∧ Go.bits .and .i64 a b = Go.bits .and .i64 b a := by
 obtain ⟨n, rfl⟩ := Int.eq_ofNat_of_zero_le h0
 obtain ⟨m, rfl⟩ := Int.eq_ofNat_of_zero_le h2
 exact and_fin ⟨n, by omega⟩ ⟨m, by omega⟩
theorem leaf_of {H : List Int} {m : S61} (h : leafB H m = true) : m.f0 = 0 ∧ 0 ≤ m.f1 ∧ m.f1 < (H.length : Int) ∧ rd H m.f1 ∈ H := by
 unfold leafB at h
 simp only [Bool.and_eq_true, decide_eq_true_eq] at h
 obtain ⟨h1, ⟨h2, h3⟩, h4⟩ := h
 refine ⟨h1, h2, h3, ?_⟩
 obtain ⟨n, hn2⟩ := Int.eq_ofNat_of_zero_le h2
 rw [hn2, rdn, List.getD_eq_getElem?_getD, List.getElem?_eq_getElem (show n < H.length by omega)]
 exact List.getElem_mem _
theorem op_of {m : S61} (h : opB m = true) : m.f0 = 1 ∨ m.f0 = 2 := by
 unfold opB at h
 simp only [Bool.and_eq_true, Bool.or_eq_true, decide_eq_true_eq] at h
 exact h.1
theorem drop_app {α : Type} {xs a b : List α} {i : Nat} (h : xs.drop i = a ++ b) : xs.drop (i + a.length) = b := by
 rw [← List.drop_drop, h, List.drop_left]
section
variable (p : Int) (H : List Int) (c : Int)
theorem consents_tree (hH : HsB p H = true) (h0 : 0 ≤ c) (h1 : c < 64) (xs : List S61) (hx : xs.length ≤ 1048576) (r : Bool) : ∀ (t : Tm), good H t → ∀ (i : Nat) (rest : List S61) (st : List Bool), xs.drop i = flat t ++ rest → st.length ≤ i →
  Ev (fun k => impl_consents.l0 k c (st ++ [val H c t]) xs (xs.length : Int) ((i + (flat t).length : Nat) : Int) p H) r → Ev (fun k => impl_consents.l0 k c st xs (xs.length : Int) (i : Int) p H) r := by
 have hh := HsB_of hH
 intro t
 induction t with
 | lf m =>
  intro hg i rest st hd hst e
  obtain ⟨d1, d2, d3⟩ := dcons (show xs.drop i = m :: rest from hd)
  obtain ⟨g0, g1, g2, g3⟩ := leaf_of hg
  have hr := hh.2.2.2 _ g3
  have ha := and_small (Int.le_of_lt hr.1) hr.2 h0 h1
  refine Ev.step (fun k => ?_) e
  rw [impl_consents.l0, if_pos (by omega), if_pos (by omega), if_pos (by omega), rdMk, d2, if_pos g0, if_pos g1, if_pos g2, impl_heads ha.1 ha.2.1, Option.bind_some, if_pos (by omega), wsucc d1 (by omega)]
  rfl
 | nd m a b iha ihb =>
  intro hg i rest st hd hst e
  obtain ⟨go, ga, gb⟩ := hg
  have hd' : xs.drop i = flat a ++ (flat b ++ (m :: rest)) := by rw [hd]; simp [flat]
  have hda := drop_app hd'
  have hdb := drop_app hda
  obtain ⟨d1, d2, d3⟩ := dcons hdb
  have pa := flat_pos a
  have pb := flat_pos b
  refine iha ga i _ st hd' hst (ihb gb _ _ _ hda (by simp <;> omega) ?_)
  generalize hj : i + (flat a).length + (flat b).length = j at *
  have ej : i + (flat (Tm.nd m a b)).length = j + 1 := by simp [flat]; omega
  rw [ej] at e
  have hi1 : (j : Int) < (xs.length : Int) := by omega
  have hi0 : 0 ≤ (j : Int) := by omega
  have g0 : ¬ m.f0 = 0 := by have := op_of go; omega
  generalize hva : val H c a = va at *
  generalize hvb : val H c b = vb at *
  have len : ((st ++ [va] ++ [vb]).length : Int) = (st.length : Int) + 2 := by simp <;> omega
  have w2 : wrap64 (((st ++ [va] ++ [vb]).length : Int) - 2) = (st.length : Int) := by rw [len, wz (by omega) (by omega)]; omega
  have w1 : wrap64 (((st ++ [va] ++ [vb]).length : Int) - 1) = (st.length : Int) + 1 := by rw [len, wz (by omega) (by omega)]; omega
  have r2 : rdOf false (st ++ [va] ++ [vb]) (st.length : Int) = va := by simp [rdOf]
  have r1 : rdOf false (st ++ [va] ++ [vb]) ((st.length : Int) + 1) = vb := by
   have : ((st.length : Int) + 1).toNat = st.length + 1 := by omega
   simp [rdOf, this]
  have tk : (st ++ [va] ++ [vb]).take ((st.length : Int)).toNat = st := by simp
  have hv : val H c (Tm.nd m a b) = if m.f0 = 2 then (va || vb) else (va && vb) := by rw [val, hva, hvb]
  rw [hv] at e
  refine Ev.step (fun k => ?_) e
  rw [impl_consents.l0, if_pos hi1, if_pos hi0, if_pos hi1, rdMk, d2, if_neg g0, w2, w1, len, if_pos (by omega), if_pos (by omega), if_pos (by omega), if_pos (by omega), r2, r1, tk]
  simp only [if_pos (show (st.length : Int) ≤ (st.length : Int) + 2 by omega), Option.bind_some, if_pos (show st.length < 140737488355328 by omega), wsucc d1 (show xs.length ≤ 9223372036854775807 by omega)]
  by_cases g2 : m.f0 = 2
  ·simp only [if_pos g2]
   cases va <;> simp
  ·simp only [if_neg g2]
   cases va <;> simp
theorem consents_ev (ms : List S61) (hm : ms.length ≤ 1048576) (ht : TmB p H ms = true) (h0 : 0 ≤ c) (h1 : c < 64) : Ev (fun k => impl_consents.f k p H ms c) (saysB H c ms) := by
 unfold TmB at ht
 simp only [Bool.and_eq_true, decide_eq_true_eq] at ht
 obtain ⟨hH, hl, hf⟩ := ht
 obtain ⟨t, t1, t2, t3⟩ := ps_ok H ms [] (by simpa using hf) (by simp)
 have t3 : flat t = ms := by simpa [flats] using t3
 have hv : saysB H c ms = val H c t := by unfold saysB; rw [t1]
 rw [hv]
 refine consents_tree p H c hH h0 h1 ms hm _ t t2 0 [] [] (by simp [t3]) (by simp) ?_
 rw [t3]
 refine Ev.step (fun k => ?_) (Ev.now (val H c t))
 rw [impl_consents.l0, if_neg (by omega), if_pos (by simp)]
 simp [rdOf]
theorem starts_tree (xs : List S61) (hx : xs.length ≤ 1048576) (r : Int) : ∀ (t : Tm), good H t → ∀ (i : Nat) (rest : List S61) (n : Int), xs.drop i = flat t ++ rest → 0 ≤ n → n + (flat t).length ≤ 1048576 →
  Ev (fun k => spec_l3Starts.l0 k xs n ((i : Int) - 1)) r → Ev (fun k => spec_l3Starts.l0 k xs (n + 1) (((i + (flat t).length : Nat) : Int) - 1)) r := by
 intro t
 induction t with
 | lf m =>
  intro hg i rest n hd hn hn2 e
  obtain ⟨d1, d2, d3⟩ := dcons (show xs.drop i = m :: rest from hd)
  obtain ⟨g0, g1, g2, g3⟩ := leaf_of hg
  have e1 : (((i + (flat (Tm.lf m)).length : Nat) : Int) - 1) = (i : Int) := by simp [flat]
  rw [e1]
  have w1 : wrap64 (n + 1 - 1) = n := by rw [wz (by omega) (by omega)]; omega
  have w2 : wrap64 ((i : Int) - 1) = (i : Int) - 1 := wz (by omega) (by omega)
  refine Ev.step (fun k => ?_) e
  rw [spec_l3Starts.l0, if_pos (by omega), if_pos (by omega), if_pos (by omega), rdMk, d2, if_pos g0, w1, w2]
 | nd m a b iha ihb =>
  intro hg i rest n hd hn hn2 e
  obtain ⟨go, ga, gb⟩ := hg
  have hd' : xs.drop i = flat a ++ (flat b ++ (m :: rest)) := by rw [hd]; simp [flat]
  have hda := drop_app hd'
  have hdb := drop_app hda
  obtain ⟨d1, d2, d3⟩ := dcons hdb
  have hl : (flat (Tm.nd m a b)).length = (flat a).length + (flat b).length + 1 := by simp [flat]; omega
  have pa := flat_pos a
  have pb := flat_pos b
  have ea := iha ga i _ n hd' hn (by omega) e
  have eb := ihb gb _ _ (n + 1) hda (by omega) (by omega) ea
  generalize hj : i + (flat a).length + (flat b).length = j at *
  have e1 : (((i + (flat (Tm.nd m a b)).length : Nat) : Int) - 1) = (j : Int) := by rw [hl]; omega
  rw [e1]
  have g0 : ¬ m.f0 = 0 := by have := op_of go; omega
  have w1 : wrap64 (n + 1 + 1) = n + 1 + 1 := wz (by omega) (by omega)
  have w2 : wrap64 ((j : Int) - 1) = (j : Int) - 1 := wz (by omega) (by omega)
  refine Ev.step (fun k => ?_) eb
  rw [spec_l3Starts.l0, if_pos (by omega), if_pos (by omega), if_pos (by omega), rdMk, d2, if_neg g0, w1, w2]
theorem says_tree (hH : HsB p H = true) (h0 : 0 ≤ c) (h1 : c < 64) : ∀ (t : Tm), good H t → (flat t).length ≤ 1000 → Ev (fun k => spec_l4Says.f k p H (flat t) c) (val H c t) := by
 have hh := HsB_of hH
 intro t
 induction t with
 | lf m =>
  intro hg hl
  obtain ⟨g0, g1, g2, g3⟩ := leaf_of hg
  have hr := hh.2.2.2 _ g3
  have ha := and_small (Int.le_of_lt hr.1) hr.2 h0 h1
  have w1 : wrap64 ((([m] : List S61).length : Int) - 1) = ((0 : Nat) : Int) := by rw [wz (by simp) (by simp)]; simp
  refine Ev.step (f := fun k => (spec_l1Heads.f k (Go.bits .and .i64 c (rd H m.f1))).bind fun t => some (decide (t ≥ m.f2))) (fun k => ?_) (Ev.bind (spec_heads_ev _ (by rw [← ha.2.2]; omega)) ?_)
  ·rw [spec_l4Says.f, show flat (Tm.lf m) = [m] from rfl, w1, if_pos (by omega), if_pos (by simp), rdMk, show ([m] : List S61).getD 0 z61 = m from rfl, if_pos g0, if_pos g1, if_pos g2]
  ·exact Ev.to (Ev.now _) (by rw [val, ha.2.2])
 | nd m a b iha ihb =>
  intro hg hl
  obtain ⟨go, ga, gb⟩ := hg
  have pa := flat_pos a
  have pb := flat_pos b
  have hlen : (flat (Tm.nd m a b)).length = (flat a).length + (flat b).length + 1 := by simp [flat]; omega
  generalize hxs : flat (Tm.nd m a b) = xs at *
  have hd : xs.drop 0 = flat a ++ (flat b ++ [m]) := by rw [← hxs]; rfl
  have hda := drop_app hd
  have hdb := drop_app hda
  obtain ⟨d1, d2, d3⟩ := dcons hdb
  have w1 : wrap64 ((xs.length : Int) - 1) = ((0 + (flat a).length + (flat b).length : Nat) : Int) := by rw [wz (by omega) (by omega)]; omega
  have w2 : wrap64 (((0 + (flat a).length + (flat b).length : Nat) : Int) - 1) = ((0 + (flat a).length + (flat b).length : Nat) : Int) - 1 := wz (by omega) (by omega)
  have hs : Ev (fun k => spec_l3Starts.f k xs (((0 + (flat a).length + (flat b).length : Nat) : Int) - 1)) (((flat a).length : Nat) : Int) := by
   refine starts_tree H xs (by omega) _ b gb (0 + (flat a).length) [m] 0 hda (by omega) (by omega) ?_
   refine Ev.step (fun k => ?_) (Ev.now _)
   rw [spec_l3Starts.l0, if_neg (by omega), wz (by omega) (by omega)]
   congr 1
   omega
  have g0 : ¬ m.f0 = 0 := by have := op_of go; omega
  have ta : xs.take (((flat a).length : Nat) : Int).toNat = flat a := by
   have := hd
   rw [List.drop_zero] at this
   rw [this]
   simp
  have tb : (xs.take (((0 + (flat a).length + (flat b).length : Nat) : Int)).toNat).drop (((flat a).length : Nat) : Int).toNat = flat b := by
   have := hd
   rw [List.drop_zero] at this
   rw [this, ← List.append_assoc]
   have e1 : (((0 + (flat a).length + (flat b).length : Nat) : Int)).toNat = (flat a ++ flat b).length := by rw [List.length_append]; omega
   rw [e1, List.take_left, show (((flat a).length : Nat) : Int).toNat = (flat a).length by simp, List.drop_left]
  have va := iha ga (by omega)
  have vb := ihb gb (by omega)
  refine Ev.step (f := fun k => (spec_l3Starts.f k xs (((0 + (flat a).length + (flat b).length : Nat) : Int) - 1)).bind fun t264 => (if m.f0 = 2 then (if 0 ≤ t264 then (if t264 ≤ (xs.length : Int) then ((spec_l4Says.f k p H (xs.take (t264 : Int).toNat) c).bind fun t270 => (if t270 = true then (some true) else (if t264 ≤ ((0 + (flat a).length + (flat b).length : Nat) : Int) then (if ((0 + (flat a).length + (flat b).length : Nat) : Int) ≤ (xs.length : Int) then ((spec_l4Says.f k p H ((xs.take (((0 + (flat a).length + (flat b).length : Nat) : Int) : Int).toNat).drop (t264 : Int).toNat) c).bind fun t275 => (some t275)) else (none)) else (none)))) else (none)) else (none)) else (if 0 ≤ t264 then (if t264 ≤ (xs.length : Int) then ((spec_l4Says.f k p H (xs.take (t264 : Int).toNat) c).bind fun t280 => (if t280 = true then (if t264 ≤ ((0 + (flat a).length + (flat b).length : Nat) : Int) then (if ((0 + (flat a).length + (flat b).length : Nat) : Int) ≤ (xs.length : Int) then ((spec_l4Says.f k p H ((xs.take (((0 + (flat a).length + (flat b).length : Nat) : Int) : Int).toNat).drop (t264 : Int).toNat) c).bind fun t285 => (some t285)) else (none)) else (none)) else (some false))) else (none)) else (none)))) (fun k => ?_) (Ev.bind hs ?_)
  ·rw [spec_l4Says.f, w1, w2, if_pos (by omega), if_pos (by omega), rdMk, d2, if_neg g0]
  ·simp only [if_pos (show 0 ≤ (((flat a).length : Nat) : Int) by omega), if_pos (show (((flat a).length : Nat) : Int) ≤ (xs.length : Int) by omega), if_pos (show (((flat a).length : Nat) : Int) ≤ ((0 + (flat a).length + (flat b).length : Nat) : Int) by omega), if_pos (show ((0 + (flat a).length + (flat b).length : Nat) : Int) ≤ (xs.length : Int) by omega), ta, tb]
   rw [val]
   by_cases g2 : m.f0 = 2
   ·simp only [if_pos g2]
    refine Ev.bind va ?_
    cases val H c a with
    | true => simp only [if_true, Bool.true_or]; exact Ev.now _
    | false => simp only [Bool.false_eq_true, if_false, Bool.false_or]; exact Ev.bind vb (Ev.now _)
   ·simp only [if_neg g2]
    refine Ev.bind va ?_
    cases val H c a with
    | true => simp only [if_true, Bool.true_and]; exact Ev.bind vb (Ev.now _)
    | false => simp only [Bool.false_eq_true, if_false, Bool.false_and]; exact Ev.now _
theorem l4Says_ev (ms : List S61) (ht : TmB p H ms = true) (h0 : 0 ≤ c) (h1 : c < 64) : Ev (fun k => spec_l4Says.f k p H ms c) (saysB H c ms) := by
 unfold TmB at ht
 simp only [Bool.and_eq_true, decide_eq_true_eq] at ht
 obtain ⟨hH, hl, hf⟩ := ht
 obtain ⟨t, t1, t2, t3⟩ := ps_ok H ms [] (by simpa using hf) (by simp)
 have t3 : flat t = ms := by simpa [flats] using t3
 have hv : saysB H c ms = val H c t := by unfold saysB; rw [t1]
 rw [hv, ← t3]
 exact says_tree p H c hH h0 h1 t t2 (by rw [t3]; omega)
end

theorem eqIntS_l0 (xs : List Int) (hn : xs.length ≤ 9223372036854775807) : ∀ (ys : List Int) (i : Nat), xs.drop i = ys → Ev (fun k => laws_eqIntS.l0 k xs xs (i : Int)) true := by
 intro ys
 induction ys with
 | nil =>
  intro i h
  exact Ev.step (f := fun _ => some true) (fun k => by rw [laws_eqIntS.l0, if_neg (dnil h)]) (Ev.now _)
 | cons y ys ih =>
  intro i h
  obtain ⟨h1, h2, h3⟩ := dcons h
  refine Ev.step (f := fun k => laws_eqIntS.l0 k xs xs ((i + 1 : Nat) : Int)) (fun k => ?_) (ih (i + 1) h3)
  rw [laws_eqIntS.l0, if_pos (by omega), if_pos (by omega), if_pos (by omega), if_pos rfl, wsucc h1 hn]
theorem eqIntS_ev (xs : List Int) (hn : xs.length ≤ 9223372036854775807) : Ev (fun k => laws_eqIntS.f k xs xs) true := by
 unfold laws_eqIntS.f
 simp only [if_true]
 exact eqIntS_l0 xs hn xs 0 rfl

def mk (a : Int) (l : List Int) (i : Nat) : List Int := (List.range i).map (fun (j : Nat) => a + (j : Int)) ++ l.drop i
theorem mk_len (a : Int) (l : List Int) {i : Nat} (h : i ≤ l.length) : (mk a l i).length = l.length := by simp [mk]; omega
theorem mk_set (a : Int) (l : List Int) {i : Nat} (h : i < l.length) : (mk a l i).set i (a + i) = mk a l (i + 1) := by
 unfold mk
 have hlen : ((List.range i).map (fun (j : Nat) => a + (j : Int))).length = i := by simp
 rw [List.set_append_right _ _ (by omega), hlen, Nat.sub_self, List.drop_eq_getElem_cons h, List.range_succ, List.map_append, List.set_cons_zero, List.append_assoc]
 rfl
theorem mk_get (a : Int) (l : List Int) {i n : Nat} (h : i < n) (hn : n ≤ l.length) : (mk a l n).getD i 0 = a + i := by
 unfold mk
 rw [List.getD_eq_getElem?_getD, List.getElem?_append_left (by simp; exact h)]
 simp [h]
theorem markIntS_l0 (a : Int) (l : List Int) (ha : 0 ≤ a) (hb : a ≤ 1000000000) (hn : l.length ≤ 1000000000) : ∀ (d i : Nat), i + d = l.length → Ev (fun k => laws_markIntS.l0 k (mk a l i) (a + (i : Int)) (i : Int)) (a + l.length, mk a l l.length) := by
 intro d
 induction d with
 | zero =>
  intro i h
  obtain rfl : i = l.length := by omega
  exact Ev.step (f := fun _ => some (a + (l.length : Int), mk a l l.length)) (fun k => by rw [laws_markIntS.l0, if_neg (by rw [mk_len a l (Nat.le_refl _)]; omega)]) (Ev.now _)
 | succ d ih =>
  intro i h
  refine Ev.step (f := fun k => laws_markIntS.l0 k (mk a l (i + 1)) (a + ((i + 1 : Nat) : Int)) ((i + 1 : Nat) : Int)) (fun k => ?_) (ih (i + 1) (by omega))
  rw [laws_markIntS.l0, if_pos (by rw [mk_len a l (by omega)]; omega), if_pos (by omega), wz (x := a + i + 1) (by omega) (by omega), wz (x := (i : Int) + 1) (by omega) (by omega)]
  have := mk_set a l (i := i) (by omega)
  rw [show ((i : Int)).toNat = i from rfl, this, show a + (i : Int) + 1 = a + ((i + 1 : Nat) : Int) by omega, show (i : Int) + 1 = ((i + 1 : Nat) : Int) by omega]
theorem markIntS_ev (a : Int) (l : List Int) (ha : 0 ≤ a) (hb : a ≤ 1000000000) (hn : l.length ≤ 1000000000) : Ev (fun k => laws_markIntS.f k l a) (a + l.length, mk a l l.length) := by
 have := markIntS_l0 a l ha hb hn l.length 0 (by omega)
 unfold laws_markIntS.f
 simpa [mk] using this
theorem heldIntS_l0 (a : Int) (l : List Int) (ha : 0 ≤ a) (hb : a ≤ 1000000000) (hn : l.length ≤ 1000000000) : ∀ (d i : Nat), i + d = l.length → Ev (fun k => laws_heldIntS.l0 k (mk a l l.length) (a + (i : Int)) (i : Int)) (a + l.length) := by
 intro d
 induction d with
 | zero =>
  intro i h
  obtain rfl : i = l.length := by omega
  exact Ev.step (f := fun _ => some (a + (l.length : Int))) (fun k => by rw [laws_heldIntS.l0, if_neg (by rw [mk_len a l (Nat.le_refl _)]; omega)]) (Ev.now _)
 | succ d ih =>
  intro i h
  refine Ev.step (f := fun k => laws_heldIntS.l0 k (mk a l l.length) (a + ((i + 1 : Nat) : Int)) ((i + 1 : Nat) : Int)) (fun k => ?_) (ih (i + 1) (by omega))
  rw [laws_heldIntS.l0, if_pos (by rw [mk_len a l (Nat.le_refl _)]; omega), if_pos (by omega), rdn, mk_get a l (by omega) (Nat.le_refl _), if_pos rfl, wz (x := a + i + 1) (by omega) (by omega), wz (x := (i : Int) + 1) (by omega) (by omega)]
  rw [show a + (i : Int) + 1 = a + ((i + 1 : Nat) : Int) by omega, show (i : Int) + 1 = ((i + 1 : Nat) : Int) by omega]
theorem heldIntS_ev (a : Int) (l : List Int) (ha : 0 ≤ a) (hb : a ≤ 1000000000) (hn : l.length ≤ 1000000000) : Ev (fun k => laws_heldIntS.f k (mk a l l.length) a) (a + l.length) := by
 have := heldIntS_l0 a l ha hb hn l.length 0 (by omega)
 unfold laws_heldIntS.f
 simpa using this

theorem szIntS_small {l : List Int} (hp : l.length ≤ 9223372036854775807) (b : Int) (h0 : 0 ≤ b) (hb : b ≤ 1048576) : ∃ r, laws_szIntS.f l b = some r ∧ (¬ r < 0 → r ≤ 1048576 ∧ l.length ≤ 1048576) := by
 unfold laws_szIntS.f
 rw [wz (by omega) (by omega)]
 by_cases h : (b - (l.length : Int)) < 0
 ·exact ⟨-1, by rw [if_pos h], by omega⟩
 ·exact ⟨_, by rw [if_neg h], by omega⟩
theorem toIntS_l0 (l : List Int) (hn : l.length ≤ 9223372036854775807) : ∀ (ys : List Int) (i : Nat), l.drop i = ys → Ev (fun k => laws_toIntS.l0 k l ((l.take i).map id ++ List.replicate (l.length - i) 0) (i : Int)) (l.map id) := by
 intro ys
 induction ys with
 | nil =>
  intro i h
  have hi := List.drop_eq_nil_iff.1 h
  refine Ev.step (f := fun _ => some (l.map id)) (fun k => ?_) (Ev.now _)
  rw [laws_toIntS.l0, if_neg (dnil h), List.take_of_length_le hi, show l.length - i = 0 by omega]
  simp
 | cons y ys ih =>
  intro i h
  obtain ⟨h1, h2, h3⟩ := dcons h
  refine Ev.step (f := fun k => laws_toIntS.l0 k l ((l.take (i + 1)).map id ++ List.replicate (l.length - (i + 1)) 0) ((i + 1 : Nat) : Int)) (fun k => ?_) (ih (i + 1) h3)
  rw [laws_toIntS.l0, if_pos (by omega), if_pos (by omega), rdn, h2, if_pos (by simp <;> omega), wsucc h1 hn, ← set_mid l id 0 h]
  rfl
theorem toIntS_ev (l : List Int) (hn : l.length ≤ 1048576) : Ev (fun k => laws_toIntS.f k l) l := by
 unfold laws_toIntS.f
 simp only [if_pos (show 0 ≤ (l.length : Int) by omega), if_pos (show ((l.length : Int)).toNat ≤ 35184372088832 by omega)]
 have := toIntS_l0 l (by omega) l 0 rfl
 simpa using this

def cMk (x : S68) : S61 := ⟨x.f0, x.f1, x.f2⟩
theorem rdLM (xs : List S68) (i : Nat) : rd_T68 xs (i : Int) = xs.getD i z68 := by simp [rd_T68]
theorem szHouse_small {p : Int} {H : List Int} (hp : H.length ≤ 9223372036854775807) : ∃ r, laws_szHouse.f p H 1048576 = some r ∧ (¬ r < 0 → r ≤ 1048576 ∧ H.length ≤ 1048576) := by
 obtain ⟨r, hr, hs⟩ := szIntS_small hp 1048576 (by omega) (by omega)
 unfold laws_szHouse.f
 rw [hr]
 by_cases h : r < 0
 ·exact ⟨-1, by simp only [Option.bind_some, if_pos h], by omega⟩
 ·exact ⟨r, by simp only [Option.bind_some, if_neg h], hs⟩
theorem szMarkS_small {l : List S68} (hp : l.length ≤ 9223372036854775807) (b : Int) (h0 : 0 ≤ b) (hb : b ≤ 1048576) : ∃ r, laws_szMarkS.f l b = some r ∧ (¬ r < 0 → r ≤ 1048576 ∧ l.length ≤ 1048576) := by
 unfold laws_szMarkS.f
 rw [wz (by omega) (by omega)]
 by_cases h : (b - (l.length : Int)) < 0
 ·exact ⟨-1, by rw [if_pos h], by omega⟩
 ·exact ⟨_, by rw [if_neg h], by omega⟩
theorem toHouse_ev (p : Int) (H : List Int) (hH : H.length ≤ 1048576) : Ev (fun k => laws_toHouse.f k p H) (p, H) := by
 unfold laws_toHouse.f
 exact Ev.bind (toIntS_ev H hH) (Ev.now _)
theorem toMarkS_l0 (l : List S68) (hn : l.length ≤ 9223372036854775807) : ∀ (ys : List S68) (i : Nat), l.drop i = ys → Ev (fun k => laws_toMarkS.l0 k l ((l.take i).map cMk ++ List.replicate (l.length - i) z61) (i : Int)) (l.map cMk) := by
 intro ys
 induction ys with
 | nil =>
  intro i h
  have hi := List.drop_eq_nil_iff.1 h
  refine Ev.step (f := fun _ => some (l.map cMk)) (fun k => ?_) (Ev.now _)
  rw [laws_toMarkS.l0, if_neg (dnil h), List.take_of_length_le hi, show l.length - i = 0 by omega]
  simp
 | cons y ys ih =>
  intro i h
  obtain ⟨h1, h2, h3⟩ := dcons h
  refine Ev.step (f := fun k => laws_toMarkS.l0 k l ((l.take (i + 1)).map cMk ++ List.replicate (l.length - (i + 1)) z61) ((i + 1 : Nat) : Int)) (fun k => ?_) (ih (i + 1) h3)
  rw [laws_toMarkS.l0, if_pos (by omega), if_pos (by omega), rdLM, h2]
  unfold laws_toMark.f
  simp only [Option.bind_some]
  rw [if_pos (by simp <;> omega), wsucc h1 hn, ← set_mid l cMk z61 h]
  simp [cMk]
theorem toMarkS_ev (l : List S68) (hn : l.length ≤ 1048576) : Ev (fun k => laws_toMarkS.f k l) (l.map cMk) := by
 unfold laws_toMarkS.f
 simp only [if_pos (show 0 ≤ (l.length : Int) by omega), if_pos (show ((l.length : Int)).toNat ≤ 11728124029610 by omega)]
 have := toMarkS_l0 l (by omega) l 0 rfl
 simpa using this
theorem eqHouse_ev (p : Int) (H : List Int) (hH : H.length ≤ 1048576) : Ev (fun k => laws_eqHouse.f k p H p H) true := by
 unfold laws_eqHouse.f
 simp only [if_true]
 refine Ev.bind (eqIntS_ev H (by omega)) ?_
 simp only [if_true]
 exact Ev.now _
theorem eqMark_refl (a b c : Int) : laws_eqMark.f a b c a b c = some true := by
 unfold laws_eqMark.f
 simp
theorem eqMarkS_l0 (xs : List S61) (hn : xs.length ≤ 9223372036854775807) : ∀ (ys : List S61) (i : Nat), xs.drop i = ys → Ev (fun k => laws_eqMarkS.l0 k xs xs (i : Int)) true := by
 intro ys
 induction ys with
 | nil =>
  intro i h
  exact Ev.step (f := fun _ => some true) (fun k => by rw [laws_eqMarkS.l0, if_neg (dnil h)]) (Ev.now _)
 | cons y ys ih =>
  intro i h
  obtain ⟨h1, h2, h3⟩ := dcons h
  refine Ev.step (f := fun k => laws_eqMarkS.l0 k xs xs ((i + 1 : Nat) : Int)) (fun k => ?_) (ih (i + 1) h3)
  rw [laws_eqMarkS.l0, if_pos (by omega), if_pos (by omega), if_pos (by omega), eqMark_refl, wsucc h1 hn]
  rfl
theorem eqMarkS_ev (xs : List S61) (hn : xs.length ≤ 9223372036854775807) : Ev (fun k => laws_eqMarkS.f k xs xs) true := by
 unfold laws_eqMarkS.f
 simp only [if_true]
 exact eqMarkS_l0 xs hn xs 0 rfl
theorem wf_le {n : Int} (h : Opens.pInt .i64 n) : n ≤ 9223372036854775807 := by
 unfold Opens.pInt Lit.wf at h
 simp at h
 omega

def mkM (a : Int) : S61 := ⟨a, a + 1, a + 2⟩
def mkMs : Nat → Int → List S61
 | 0, _ => []
 | d + 1, a => mkM a :: mkMs d (a + 3)
theorem rdmM (pre zs : List S61) (v : S61) : rd_T61 (pre ++ v :: zs) ((pre.length : Nat) : Int) = v := by rw [rdMk]; simp
theorem setmM (pre zs : List S61) (v u : S61) : (pre ++ v :: zs).set (((pre.length : Nat) : Int)).toNat u = pre ++ u :: zs := by rw [Int.toNat_natCast]; simp
theorem markMarkS_l1 : ∀ (zs pre : List S61) (a : Int), 0 ≤ a → a ≤ 1000000000 - 3 * zs.length → pre.length + zs.length ≤ 1048576 → Ev (fun k => laws_markMarkS.l0 k (pre ++ zs) a ((pre.length : Nat) : Int)) (a + 3 * zs.length, pre ++ mkMs zs.length a) := by
 intro zs
 induction zs with
 | nil =>
  intro pre a _ _ _
  exact Ev.step (f := fun _ => some (a, pre ++ [])) (fun k => by rw [laws_markMarkS.l0, if_neg (by simp)]) (Ev.to (Ev.now _) (by simp [mkMs]))
 | cons z zs ih =>
  intro pre a ha hb hn
  have hlen : (z :: zs).length = zs.length + 1 := rfl
  rw [hlen] at hb hn
  have hi1 : ((pre.length : Nat) : Int) < ((pre ++ z :: zs).length : Int) := by simp; omega
  have hi0 : (0 : Int) ≤ ((pre.length : Nat) : Int) := by omega
  have c1 : 0 ≤ a + 3 := by omega
  have c2 : a + 3 ≤ 1000000000 - 3 * (zs.length : Int) := by omega
  have c3 : (pre ++ [mkM a]).length + zs.length ≤ 1048576 := by simp; omega
  have c4 : a + 3 + 3 * (zs.length : Int) = a + 3 * ((zs.length + 1 : Nat) : Int) := by omega
  have e := ih (pre ++ [mkM a]) (a + 3) c1 c2 c3
  have w1 : wrap64 (a + 1) = a + 1 := wz (by omega) (by omega)
  have w2 : wrap64 (a + 1 + 1) = a + 2 := by rw [wz (by omega) (by omega)]; omega
  have w3 : wrap64 (a + 2 + 1) = a + 3 := by rw [wz (by omega) (by omega)]; omega
  have wi : wrap64 (((pre.length : Nat) : Int) + 1) = (((pre ++ [mkM a]).length : Nat) : Int) := by rw [wz (by omega) (by omega)]; simp
  have h0 : ∀ k, laws_markMarkS.l0 (k + 1) (pre ++ z :: zs) a ((pre.length : Nat) : Int) = laws_markMarkS.l0 k (pre ++ mkM a :: zs) (a + 3) (((pre ++ [mkM a]).length : Nat) : Int) := by
   intro k
   rw [laws_markMarkS.l0, if_pos hi1, if_pos hi0]
   simp only [Option.bind_some, w1, w2, w3, wi, rdmM, setmM]
   rfl
  refine Ev.step h0 ?_
  have e2 : pre ++ mkM a :: zs = pre ++ [mkM a] ++ zs := by simp
  rw [e2]
  exact Ev.to e (by rw [hlen, c4]; simp [mkMs])
theorem markMarkS_ev (a : Int) (xs : List S61) (ha : 0 ≤ a) (hb : a ≤ 900000000) (hn : xs.length ≤ 1048576) : Ev (fun k => laws_markMarkS.f k xs a) (a + 3 * (xs.length : Int), mkMs xs.length a) := markMarkS_l1 xs [] a ha (by omega) (by simp; omega)

theorem TmB_len {p : Int} {H : List Int} {ms : List S61} (h : TmB p H ms = true) : ms.length ≤ 9 ∧ HsB p H = true := by
 unfold TmB at h
 simp only [Bool.and_eq_true, decide_eq_true_eq] at h
 exact ⟨by omega, h.1⟩

def inB (c : Int) (i : Nat) : Bool := decide (c / 2 ^ i % 2 = 1)
def C6 (a : Int) : Prop := 0 ≤ a ∧ a < 64
theorem C6.fin {a : Int} (h : C6 a) : ∃ n : Fin 64, a = (n.val : Int) := by
 obtain ⟨n, rfl⟩ := Int.eq_ofNat_of_zero_le h.1
 have := h.2
 exact ⟨⟨n, by omega⟩, rfl⟩
def all6 (f : Nat → Bool) : Bool := f 0 && (f 1 && (f 2 && (f 3 && (f 4 && f 5))))
theorem all6_iff (f : Nat → Bool) : all6 f = true ↔ ∀ i, i < 6 → f i = true := by
 unfold all6
 simp only [Bool.and_eq_true]
 constructor
 ·rintro ⟨h0, h1, h2, h3, h4, h5⟩ i hi
  have : i = 0 ∨ i = 1 ∨ i = 2 ∨ i = 3 ∨ i = 4 ∨ i = 5 := by omega
  rcases this with rfl | rfl | rfl | rfl | rfl | rfl <;> assumption
 ·intro h
  exact ⟨h 0 (by decide), h 1 (by decide), h 2 (by decide), h 3 (by decide), h 4 (by decide), h 5 (by decide)⟩
theorem fin_andNot : ∀ a b : Fin 64, (Go.bits .andNot .i64 (a.val : Int) (b.val : Int) == 0) = all6 (fun i => !inB (a.val : Int) i || inB (b.val : Int) i) := by decide +kernel
theorem fin_andE : ∀ a b : Fin 64, (Go.bits .and .i64 (a.val : Int) (b.val : Int) != (a.val : Int)) = !(Go.bits .andNot .i64 (a.val : Int) (b.val : Int) == 0) := by decide +kernel
theorem fin_le : ∀ a b : Fin 64, all6 (fun i => !inB (a.val : Int) i || inB (b.val : Int) i) = true → (a.val : Int) ≤ (b.val : Int) := by decide +kernel
def Le (a b : Int) : Prop := ∀ i, i < 6 → inB a i = true → inB b i = true
theorem Le.rfl' (a : Int) : Le a a := fun _ _ h => h
theorem Le.trans {a b c : Int} (h : Le a b) (g : Le b c) : Le a c := fun i hi x => g i hi (h i hi x)
theorem imp_all {a b : Int} : all6 (fun i => !inB a i || inB b i) = true ↔ Le a b := by
 rw [all6_iff]
 unfold Le
 constructor
 ·intro h i hi x
  have := h i hi
  rw [x] at this
  simpa using this
 ·intro h i hi
  cases x : inB a i with
  | false => rfl
  | true => rw [h i hi x]; rfl
theorem andNot_iff {a b : Int} (ha : C6 a) (hb : C6 b) : (Go.bits .andNot .i64 a b == 0) = true ↔ Le a b := by
 obtain ⟨a, rfl⟩ := ha.fin
 obtain ⟨b, rfl⟩ := hb.fin
 rw [fin_andNot, imp_all]
theorem andE {a b : Int} (ha : C6 a) (hb : C6 b) : (Go.bits .and .i64 a b != a) = !(Go.bits .andNot .i64 a b == 0) := by
 obtain ⟨a, rfl⟩ := ha.fin
 obtain ⟨b, rfl⟩ := hb.fin
 exact fin_andE a b
theorem Le.le {a b : Int} (ha : C6 a) (hb : C6 b) (h : Le a b) : a ≤ b := by
 obtain ⟨a, rfl⟩ := ha.fin
 obtain ⟨b, rfl⟩ := hb.fin
 exact fin_le a b (imp_all.2 h)
section
variable {p : Int} (h0 : 1 ≤ p) (h1 : p ≤ 6)
include h0 h1
end

def allF (S : Int → Bool) : Nat → Int → List Int
 | 0, _ => []
 | n + 1, c => if S c = true then c :: allF S n (c + 1) else allF S n (c + 1)
theorem mem_allF {S : Int → Bool} {x : Int} : ∀ {n : Nat} {c : Int}, x ∈ allF S n c ↔ c ≤ x ∧ x < c + n ∧ S x = true := by
 intro n
 induction n with
 | zero => intro c; simp only [allF, List.not_mem_nil, false_iff]; omega
 | succ n ih =>
  intro c
  rw [allF]
  by_cases h : S c = true
  ·rw [if_pos h, List.mem_cons, ih]
   constructor
   ·rintro (rfl | ⟨a, b, d⟩)
    ·exact ⟨by omega, by omega, h⟩
    ·exact ⟨by omega, by omega, d⟩
   ·rintro ⟨a, b, d⟩
    by_cases e : x = c
    ·exact .inl e
    ·exact .inr ⟨by omega, by omega, d⟩
  ·rw [if_neg h, ih]
   constructor
   ·rintro ⟨a, b, d⟩
    exact ⟨by omega, by omega, d⟩
   ·rintro ⟨a, b, d⟩
    refine ⟨?_, by omega, d⟩
    by_cases e : x = c
    ·rw [e] at d; exact absurd d h
    ·omega
theorem pw_allF (S : Int → Bool) : ∀ (n : Nat) (c : Int), (allF S n c).Pairwise (· < ·) := by
 intro n
 induction n with
 | zero => intro c; exact List.Pairwise.nil
 | succ n ih =>
  intro c
  rw [allF]
  split
  ·exact List.Pairwise.cons (fun x hx => by have := (mem_allF.1 hx).1; omega) (ih _)
  ·exact ih _
theorem len_asc : ∀ (l : List Int) (a : Int) (n : Nat), l.Pairwise (· < ·) → (∀ x ∈ l, a ≤ x ∧ x < a + n) → l.length ≤ n := by
 intro l
 induction l with
 | nil => intro a n _ _; exact Nat.zero_le _
 | cons x l ih =>
  intro a n hp h
  have hx := h x (by simp)
  obtain ⟨m, rfl⟩ : ∃ m, n = m + 1 := ⟨n - 1, by omega⟩
  have := ih (a + 1) m (List.pairwise_cons.1 hp).2 (fun y hy => by
   have h1 := (List.pairwise_cons.1 hp).1 y hy
   have h2 := h y (by simp [hy])
   omega)
  simp only [List.length_cons]
  omega
def undB (A : List Int) (c : Int) : Bool := A.any (fun d => !decide (d = c) && (Go.bits .andNot .i64 d c == 0))
def leastF (S : Int → Bool) (M : Nat) : List Int := (allF S M 0).filter (fun c => !undB (allF S M 0) c)
section
variable {S : Int → Bool} {M : Nat} (hM : M ≤ 64)
include hM
theorem all_c6 {x : Int} (h : x ∈ allF S M 0) : C6 x := by
 have := mem_allF.1 h
 exact ⟨this.1, by omega⟩
theorem mem_least {x : Int} : x ∈ leastF S M ↔ (0 ≤ x ∧ x < M ∧ S x = true) ∧ ∀ d : Int, 0 ≤ d → d < M → S d = true → d ≠ x → ¬ Le d x := by
 unfold leastF
 rw [List.mem_filter]
 have e : (x ∈ allF S M 0) ↔ (0 ≤ x ∧ x < M ∧ S x = true) := by rw [mem_allF]; simp
 constructor
 ·rintro ⟨h1, h2⟩
  refine ⟨e.1 h1, fun d d0 d1 d2 d3 hl => ?_⟩
  have hd : d ∈ allF S M 0 := mem_allF.2 ⟨d0, by omega, d2⟩
  have : undB (allF S M 0) x = true := List.any_eq_true.2 ⟨d, hd, by
   rw [decide_eq_false d3, (andNot_iff (all_c6 hM hd) (all_c6 hM h1)).2 hl]
   rfl⟩
  rw [this] at h2
  cases h2
 ·rintro ⟨h1, h2⟩
  have hx := e.2 h1
  refine ⟨hx, ?_⟩
  cases hu : undB (allF S M 0) x with
  | false => rfl
  | true =>
   obtain ⟨d, hd, h3⟩ := List.any_eq_true.1 hu
   rw [Bool.and_eq_true] at h3
   have hd' := mem_allF.1 hd
   have hne : d ≠ x := by
    intro e
    rw [e] at h3
    simp at h3
   exact absurd ((andNot_iff (all_c6 hM hd) (all_c6 hM hx)).1 h3.2) (h2 d hd'.1 (by omega) hd'.2.2 hne)
theorem least_c6 {x : Int} (h : x ∈ leastF S M) : C6 x := all_c6 hM (List.mem_filter.1 h).1
theorem below : ∀ (n : Nat) (c : Int), c < n → 0 ≤ c → c < M → S c = true → ∃ x, x ∈ leastF S M ∧ Le x c := by
 intro n
 induction n with
 | zero => intro c h1 h2; omega
 | succ n ih =>
  intro c h1 h2 h3 h4
  by_cases h : c ∈ leastF S M
  ·exact ⟨c, h, Le.rfl' c⟩
  ·rw [mem_least hM] at h
   have h := fun q => h ⟨⟨h2, h3, h4⟩, q⟩
   have : ∃ d : Int, 0 ≤ d ∧ d < M ∧ S d = true ∧ d ≠ c ∧ Le d c := Classical.byContradiction fun g => h fun d d0 d1 d2 d3 d4 => g ⟨d, d0, d1, d2, d3, d4⟩
   obtain ⟨d, d0, d1, d2, d3, d4⟩ := this
   have hle := d4.le ⟨d0, by omega⟩ ⟨h2, by omega⟩
   obtain ⟨x, hx, hl⟩ := ih d (by omega) d0 d1 d2
   exact ⟨x, hx, hl.trans d4⟩
end
theorem pw_least (S : Int → Bool) (M : Nat) : (leastF S M).Pairwise (· < ·) := (pw_allF S M 0).filter _
theorem fin_half : ∀ a b : Fin 64, a.val < b.val → a.val / 2 = b.val / 2 → (Go.bits .andNot .i64 (a.val : Int) (b.val : Int) == 0) = true := by decide +kernel
theorem len_least (S : Int → Bool) {M : Nat} (hM : M ≤ 64) : (leastF S M).length ≤ 32 := by
 have hp : ((leastF S M).map (fun x => x / 2)).Pairwise (· < ·) := by
  rw [List.pairwise_map]
  refine (pw_least S M).imp_of_mem fun {a b} ha hb hab => ?_
  have ca := least_c6 hM ha
  have cb := least_c6 hM hb
  have ma := (mem_least hM).1 ha
  have mb := (mem_least hM).1 hb
  by_cases e : a / 2 = b / 2
  ·have hl : Le a b := by
    have cb' := cb
    obtain ⟨n, rfl⟩ := ca.fin
    obtain ⟨m, rfl⟩ := cb.fin
    exact (andNot_iff ca cb').1 (fin_half n m (by omega) (by omega))
   exact absurd hl (mb.2 a ma.1.1 ma.1.2.1 ma.1.2.2 (by omega))
  ·omega
 have := len_asc _ 0 32 hp (fun x hx => by
  obtain ⟨y, hy, rfl⟩ := List.mem_map.1 hx
  have := least_c6 hM hy
  unfold C6 at this
  omega)
 rwa [List.length_map] at this
theorem u64_small : ∀ n : Fin 64, IntKind.u64.wrap (n.val : Int) = (n.val : Int) := by decide +kernel
theorem less_eq (a b : Int) : cmp_Less_int.f a b = some (decide (a < b)) := by
 unfold cmp_Less_int.f cmp_isNaN_int.f
 simp
section
variable (l : List Int) (hp : l.Pairwise (· < ·)) (hl : l.length ≤ 49)
theorem asc_lt (hp : l.Pairwise (· < ·)) {i j : Nat} (h : i < j) (hj : j < l.length) : l.getD i 0 < l.getD j 0 := by
 rw [List.getD_eq_getElem?_getD, List.getElem?_eq_getElem (show i < l.length by omega), List.getD_eq_getElem?_getD, List.getElem?_eq_getElem hj]
 exact List.pairwise_iff_getElem.1 hp i j (by omega) hj h
theorem less_no (hp : l.Pairwise (· < ·)) {i j : Nat} (h : i < j) (hj : j < l.length) : cmp_Less_int.f (rd l (j : Int)) (rd l (i : Int)) = some false := by
 have := asc_lt l hp h hj
 rw [less_eq, rdn, rdn, decide_eq_false (by omega)]
theorem order2_eq (hp : l.Pairwise (· < ·)) {i j : Nat} (h : i < j) (hj : j < l.length) (s : List Int) : slices_order2Ordered_int.f l (i : Int) (j : Int) s = some ((i : Int), (j : Int)) := by
 unfold slices_order2Ordered_int.f
 rw [if_pos (by omega), if_pos (by omega), if_pos (by omega), if_pos (by omega), less_no l hp h hj, Option.bind_some, if_neg (by decide)]
theorem median_eq (hp : l.Pairwise (· < ·)) {i j k : Nat} (h : i < j) (h2 : j < k) (hk : k < l.length) (s : List Int) : slices_medianOrdered_int.f l (i : Int) (j : Int) (k : Int) s = some (j : Int) := by
 unfold slices_medianOrdered_int.f
 rw [order2_eq l hp h (by omega), Option.bind_some]
 show ((slices_order2Ordered_int.f l (j : Int) (k : Int) s).bind _) = _
 rw [order2_eq l hp h2 hk, Option.bind_some]
 show ((slices_order2Ordered_int.f l (i : Int) (j : Int) s).bind _) = _
 rw [order2_eq l hp h (by omega), Option.bind_some]
include hp hl
theorem ins_l0 : ∀ (d i : Nat), 1 ≤ i → i + d = l.length → Ev (fun k => slices_insertionSortOrdered_int.l0 k l 0 (l.length : Int) (i : Int)) () := by
 intro d
 induction d with
 | zero => intro i _ h; exact Ev.step (fun k => by rw [slices_insertionSortOrdered_int.l0, if_neg (by omega)]) (Ev.now ())
 | succ d ih =>
  intro i h0 h
  have w1 := Aside0.mk (show wrap64 ((i : Int) - 1) = ((i - 1 : Nat) : Int) by rw [wz (by omega) (by omega)]; omega)
  have w2 := Aside0.mk (show wrap64 ((i : Int) + 1) = ((i + 1 : Nat) : Int) by rw [wz (by omega) (by omega)]; omega)
  have e := ih (i + 1) (by omega) (by omega)
  refine Ev.step (f := fun k => slices_insertionSortOrdered_int.l1 k l 0 (l.length : Int) (i : Int) (i : Int)) (fun k => by rw [slices_insertionSortOrdered_int.l0, if_pos (by omega)]) (Ev.step (fun k => ?_) e)
  have g1 : (i : Int) > 0 := by omega
  have g2 : (0 : Int) ≤ (i : Int) := by omega
  have g3 : (i : Int) < (l.length : Int) := by omega
  have g4 : (0 : Int) ≤ ((i - 1 : Nat) : Int) := by omega
  have g5 : ((i - 1 : Nat) : Int) < (l.length : Int) := by omega
  rw [slices_insertionSortOrdered_int.l1, if_pos g1, if_pos g2, if_pos g3, w1.out, if_pos g4, if_pos g5, less_no l hp (show i - 1 < i by omega) (by omega), Option.bind_some, if_neg (by decide), w2.out]
theorem part_l1 : ∀ (d i : Nat), 1 ≤ i → i + d = l.length → Ev (fun k => slices_partialInsertionSortOrdered_int.l1 k l 0 (l.length : Int) (i : Int)) true := by
 intro d
 induction d with
 | zero =>
  intro i _ h
  have e : (i : Int) = (l.length : Int) := by omega
  exact Ev.step (fun k => by rw [slices_partialInsertionSortOrdered_int.l1, if_neg (by omega)]) (Ev.step (fun k => by rw [slices_partialInsertionSortOrdered_int.j2, if_pos e]) (Ev.now true))
 | succ d ih =>
  intro i h0 h
  have w1 := Aside0.mk (show wrap64 ((i : Int) - 1) = ((i - 1 : Nat) : Int) by rw [wz (by omega) (by omega)]; omega)
  have w2 := Aside0.mk (show wrap64 ((i : Int) + 1) = ((i + 1 : Nat) : Int) by rw [wz (by omega) (by omega)]; omega)
  have e := ih (i + 1) (by omega) (by omega)
  have g2 : (0 : Int) ≤ (i : Int) := by omega
  have g3 : (i : Int) < (l.length : Int) := by omega
  have g4 : (0 : Int) ≤ ((i - 1 : Nat) : Int) := by omega
  have g5 : ((i - 1 : Nat) : Int) < (l.length : Int) := by omega
  refine Ev.step (fun k => ?_) e
  rw [slices_partialInsertionSortOrdered_int.l1, if_pos g3, if_pos g2, if_pos g3, w1.out, if_pos g4, if_pos g5, less_no l hp (show i - 1 < i by omega) (by omega), Option.bind_some, if_neg (by decide), w2.out]
theorem pivot_ev (h : 12 < l.length) : ∃ j : Int, Ev (fun k => slices_choosePivotOrdered_int.f k l 0 (l.length : Int)) (j, 1) := by
 obtain ⟨q, hq⟩ : ∃ q, l.length / 4 = q := ⟨_, rfl⟩
 have w0 := Aside0.mk (show wrap64 ((l.length : Int) - 0) = (l.length : Int) by rw [wz (by omega) (by omega)]; omega)
 have d0 : Int.tdiv (l.length : Int) 4 = (q : Int) := by rw [Int.tdiv_eq_ediv_of_nonneg (by omega)]; omega
 have w1 := Aside0.mk (show wrap64 (Int.tdiv (l.length : Int) 4) = (q : Int) by rw [d0]; exact wz (by omega) (by omega))
 have w2 := Aside0.mk (show wrap64 (q : Int) = (q : Int) from wz (by omega) (by omega))
 have w3 := Aside0.mk (show wrap64 ((q : Int) * 2) = ((q * 2 : Nat) : Int) by rw [wz (by omega) (by omega)]; omega)
 have w4 := Aside0.mk (show wrap64 ((q : Int) * 3) = ((q * 3 : Nat) : Int) by rw [wz (by omega) (by omega)]; omega)
 have w5 := Aside0.mk (show wrap64 (0 + (q : Int)) = (q : Int) by rw [wz (by omega) (by omega)]; omega)
 have w6 := Aside0.mk (show wrap64 (0 + ((q * 2 : Nat) : Int)) = ((q * 2 : Nat) : Int) by rw [wz (by omega) (by omega)]; omega)
 have w7 := Aside0.mk (show wrap64 (0 + ((q * 3 : Nat) : Int)) = ((q * 3 : Nat) : Int) by rw [wz (by omega) (by omega)]; omega)
 refine ⟨((q * 2 : Nat) : Int), ?_⟩
 unfold slices_choosePivotOrdered_int.f
 simp only [w0.out, w1.out, w2.out, w3.out, w4.out, w5.out, w6.out, w7.out, if_pos (show (l.length : Int) ≥ 8 by omega), if_neg (show ¬ (l.length : Int) ≥ 50 by omega), median_eq l hp (show q < q * 2 by omega) (show q * 2 < q * 3 by omega) (show q * 3 < l.length by omega), Option.bind_some]
 exact Ev.step (fun k => by rw [slices_choosePivotOrdered_int.j0, if_pos rfl]) (Ev.now _)
theorem sort_ev : Ev (fun k => slices_Sort_int_int.f k l) () := by
 have w0 := Aside0.mk (show IntKind.u64.wrap (l.length : Int) = (l.length : Int) from u64_small ⟨l.length, by omega⟩)
 have c0 : (0 : Int) ≤ (l.length : Int) := by omega
 have c1 : (l.length : Int) < 256 := by omega
 have b0 : bits_Len.f (l.length : Int) = some (bits_Len.L l.length) := by
  unfold bits_Len.f
  rw [if_pos c0, if_pos c1, Int.toNat_natCast]
 unfold slices_Sort_int_int.f
 simp only [w0.out, b0, Option.bind_some]
 refine Ev.bind (a := ()) ?_ (Ev.now ())
 have w1 := Aside0.mk (show wrap64 ((l.length : Int) - 0) = (l.length : Int) by rw [wz (by omega) (by omega)]; omega)
 have w2 := Aside0.mk (show wrap64 ((0 : Int) + 1) = ((1 : Nat) : Int) by rw [wz (by decide) (by decide)]; rfl)
 unfold slices_pdqsortOrdered_int.f
 by_cases h : l.length ≤ 12
 ·refine Ev.step (f := fun k => (slices_insertionSortOrdered_int.f k l 0 (l.length : Int)).bind fun _ => some ()) (fun k => by rw [slices_pdqsortOrdered_int.l0, w1.out, if_pos (by omega)]) (Ev.bind (a := ()) ?_ (Ev.now ()))
  unfold slices_insertionSortOrdered_int.f
  simp only [w2.out]
  by_cases g : l.length = 0
  ·exact Ev.step (fun k => by rw [slices_insertionSortOrdered_int.l0, if_neg (by omega)]) (Ev.now ())
  ·exact ins_l0 l hp hl (l.length - 1) 1 (by omega) (by omega)
 ·obtain ⟨j, ej⟩ := pivot_ev l hp hl (by omega)
  have hL : ¬ bits_Len.L l.length = 0 := by
   unfold bits_Len.L
   rw [if_neg (by omega), if_neg (by omega), if_neg (by omega), if_neg (by omega)]
   split <;> (try split) <;> (try split) <;> (try split) <;> decide
  refine Ev.step (f := fun k => (slices_choosePivotOrdered_int.f k l 0 (l.length : Int)).bind fun bt => (if bt.2 = 2 then none else slices_pdqsortOrdered_int.j1 k l 0 (l.length : Int) bt.1 (bt.2 == 1))) (fun k => by rw [slices_pdqsortOrdered_int.l0, w1.out, if_neg (by omega), if_neg hL, if_pos rfl]; simp only [if_true]) (Ev.bind ej ?_)
  simp only [if_neg (show ¬ (1 : Int) = 2 by decide)]
  refine Ev.step (f := fun k => (slices_partialInsertionSortOrdered_int.f k l 0 (l.length : Int)).bind fun t => (if t = true then some () else slices_pdqsortOrdered_int.j2 k l 0 j)) (fun k => by rw [slices_pdqsortOrdered_int.j1, if_pos (by decide)]) (Ev.bind (a := true) ?_ (Ev.now ()))
  unfold slices_partialInsertionSortOrdered_int.f
  simp only [w2.out]
  exact Ev.step (fun k => by rw [slices_partialInsertionSortOrdered_int.l0, if_pos (by decide)]) (part_l1 l hp hl (l.length - 1) 1 (by omega) (by omega))
theorem compact_l0 : ∀ (d i : Nat), 1 ≤ i → i + d = l.length → Ev (fun k => slices_Compact_int_int.l0 k l (i : Int)) l := by
 intro d
 induction d with
 | zero => intro i _ h; exact Ev.step (fun k => by rw [slices_Compact_int_int.l0, if_neg (by omega)]) (Ev.now l)
 | succ d ih =>
  intro i h0 h
  have w1 := Aside0.mk (show wrap64 ((i : Int) - 1) = ((i - 1 : Nat) : Int) by rw [wz (by omega) (by omega)]; omega)
  have w2 := Aside0.mk (show wrap64 ((i : Int) + 1) = ((i + 1 : Nat) : Int) by rw [wz (by omega) (by omega)]; omega)
  have hlt := asc_lt l hp (show i - 1 < i by omega) (show i < l.length by omega)
  have e := ih (i + 1) (by omega) (by omega)
  have g2 : (0 : Int) ≤ (i : Int) := by omega
  have g3 : (i : Int) < (l.length : Int) := by omega
  have g4 : (0 : Int) ≤ ((i - 1 : Nat) : Int) := by omega
  have g5 : ((i - 1 : Nat) : Int) < (l.length : Int) := by omega
  have g6 : ¬ l.getD i 0 = l.getD (i - 1) 0 := by omega
  refine Ev.step (fun k => ?_) e
  rw [slices_Compact_int_int.l0, if_pos g3, if_pos g2, w1.out, if_pos g4, if_pos g5, rdn, rdn, if_neg g6, w2.out]
theorem compact_ev : Ev (fun k => slices_Compact_int_int.f k l) l := by
 unfold slices_Compact_int_int.f
 by_cases h : (l.length : Int) < 2
 ·simp only [if_pos h]; exact Ev.now l
 ·simp only [if_neg h]; exact compact_l0 l hp hl (l.length - 1) 1 (by omega) (by omega)
end
theorem within_eq (c d : Int) : impl_leastCrowds_1_c.f d [c] = some (!decide (d = c) && (Go.bits .andNot .i64 d c == 0)) := by
 unfold impl_leastCrowds_1_c.f
 rw [if_pos (by simp), show rd [c] 0 = c from rfl]
 by_cases h : d = c
 ·rw [if_pos h, decide_eq_true h]; rfl
 ·rw [if_neg h, decide_eq_false h]; rfl
theorem index_l0 (A : List Int) (c : Int) (hn : A.length ≤ 1000) : ∀ (zs : List Int) (i : Nat), A.drop i = zs → ∃ r : Int, Ev (fun k => slices_IndexFunc_w82.l0 k A (A.length : Int) (i : Int) [c]) r ∧ decide (r ≥ 0) = undB zs c := by
 intro zs
 induction zs with
 | nil =>
  intro i h
  exact ⟨-1, Ev.step (fun k => by rw [slices_IndexFunc_w82.l0, if_neg (dnil h)]) (Ev.now _), rfl⟩
 | cons z zs ih =>
  intro i h
  obtain ⟨h1, h2, h3⟩ := dcons h
  obtain ⟨r, e, g⟩ := ih (i + 1) h3
  have hu : undB (z :: zs) c = ((!decide (z = c) && (Go.bits .andNot .i64 z c == 0)) || undB zs c) := rfl
  cases hb : (!decide (z = c) && (Go.bits .andNot .i64 z c == 0)) with
  | true => exact ⟨i, Ev.step (fun k => by rw [slices_IndexFunc_w82.l0, if_pos (by omega), if_pos (by omega), if_pos (by omega), rdn, h2, within_eq, hb, Option.bind_some, if_pos rfl]) (Ev.now _), by rw [hu, hb, decide_eq_true (by omega)]; rfl⟩
  | false => exact ⟨r, Ev.step (fun k => by rw [slices_IndexFunc_w82.l0, if_pos (by omega), if_pos (by omega), if_pos (by omega), rdn, h2, within_eq, hb, Option.bind_some, if_neg (by decide), wsucc h1 (by omega)]) e, by rw [hu, hb, g]; rfl⟩
theorem contains_ev (A : List Int) (c : Int) (hn : A.length ≤ 1000) : Ev (fun k => slices_ContainsFunc_w82.f k A [c]) (undB A c) := by
 obtain ⟨r, e, g⟩ := index_l0 A c hn A 0 rfl
 unfold slices_ContainsFunc_w82.f slices_IndexFunc_w82.f
 exact Ev.bind e (Ev.to (Ev.now _) g)
theorem crowds_end {A out : List Int} {i : Int} (h : ¬ i < (A.length : Int)) (k : Nat) : impl_leastCrowds.l0 (k + 1) A out A (A.length : Int) i = (slices_Sort_int_int.f k out).bind fun _ => (slices_Compact_int_int.f k out).bind fun t => some t := by
 unfold impl_leastCrowds.l0
 exact if_neg h
theorem crowds_l0 (A : List Int) (hn : A.length ≤ 64) (hp : (A.filter (fun c => !undB A c)).Pairwise (· < ·)) (hl : (A.filter (fun c => !undB A c)).length ≤ 49) : ∀ (zs : List Int) (i : Nat) (out : List Int), A.drop i = zs → out.length ≤ i → out ++ zs.filter (fun c => !undB A c) = A.filter (fun c => !undB A c) → Ev (fun k => impl_leastCrowds.l0 k A out A (A.length : Int) (i : Int)) (A.filter (fun c => !undB A c)) := by
 intro zs
 induction zs with
 | nil =>
  intro i out h ho hq
  rw [List.filter_nil, List.append_nil] at hq
  rw [← hq] at hp hl ⊢
  exact Ev.step (f := fun k => (slices_Sort_int_int.f k out).bind fun _ => (slices_Compact_int_int.f k out).bind fun t => some t) (fun k => (crowds_end (dnil h) k)) (Ev.bind (a := ()) (sort_ev out hp hl) (Ev.bind (compact_ev out hp hl) (Ev.now _)))
 | cons z zs ih =>
  intro i out h ho hq
  obtain ⟨h1, h2, h3⟩ := dcons h
  refine Ev.step (f := fun k => (slices_ContainsFunc_w82.f k A [z]).bind fun t => (if t = true then (impl_leastCrowds.l0 k A out A (A.length : Int) ((i + 1 : Nat) : Int)) else (if out.length < 17592186044416 then (impl_leastCrowds.l0 k A (out ++ [z]) A (A.length : Int) ((i + 1 : Nat) : Int)) else (none)))) (fun k => by rw [impl_leastCrowds.l0, if_pos (by omega), if_pos (by omega), if_pos (by omega), rdn, h2, wsucc h1 (by omega)]) (Ev.bind (contains_ev A z (by omega)) ?_)
  cases hu : undB A z with
  | true =>
   simp only [if_true]
   refine ih (i + 1) out h3 (by omega) ?_
   rw [← hq, List.filter_cons, hu]
   rfl
  | false =>
   simp only [Bool.false_eq_true, if_false, if_pos (show out.length < 17592186044416 by omega)]
   refine ih (i + 1) (out ++ [z]) h3 (by simp; omega) ?_
   rw [← hq, List.filter_cons, hu]
   simp
theorem crowds_ev (S : Int → Bool) {M : Nat} (hM : M ≤ 64) : Ev (fun k => impl_leastCrowds.f k (allF S M 0)) (leastF S M) := by
 have hlen : (allF S M 0).length ≤ 64 := len_asc _ 0 64 (pw_allF S M 0) (fun x hx => by have := mem_allF.1 hx; omega)
 exact crowds_l0 _ hlen (pw_least S M) (by have := len_least S hM; unfold leastF at this; omega) _ 0 [] rfl (by simp) rfl
theorem pTm {p : Int} {H : List Int} {t : List S61} (hT : TmB p H t = true) : 1 ≤ p ∧ p ≤ 6 := by
 have := HsB_of (TmB_len hT).2
 exact ⟨this.2.1, this.2.2.1⟩
theorem Mp {p : Int} {H : List Int} {t : List S61} (hT : TmB p H t = true) : ((2 ^ p.toNat : Nat) : Int) = 2 ^ p.toNat ∧ 2 ^ p.toNat ≤ 64 := by
 have q := pTm hT
 have e : ((2 ^ p.toNat : Nat) : Int) = 2 ^ p.toNat := by rw [Int.natCast_pow]; rfl
 have := pow_small q.1 q.2
 exact ⟨e, by omega⟩
section
variable {p : Int} {H : List Int} {t : List S61} (hT : TmB p H t = true) (ht : t.length ≤ 1048576)
include hT ht
theorem leastOf_l0 {M : Nat} (hM : M ≤ 64) (hMp : (M : Int) = 2 ^ p.toNat) : ∀ (d : Nat) (c : Nat) (out : List Int), c + d = M → out.length ≤ c → out ++ allF (fun c => saysB H c t) d (c : Int) = allF (fun c => saysB H c t) M 0 → Ev (fun k => impl_leastOf_w75.l0 k out (M : Int) (c : Int) [(⟨p, H⟩ : S25)] [t]) (leastF (fun c => saysB H c t) M) := by
 intro d
 induction d with
 | zero =>
  intro c out h ho hq
  rw [allF, List.append_nil] at hq
  rw [hq]
  exact Ev.step (fun k => by rw [impl_leastOf_w75.l0, if_neg (by omega)]) (Ev.bind (crowds_ev _ hM) (Ev.now _))
 | succ d ih =>
  intro c out h ho hq
  have w1 := Aside0.mk (show wrap64 ((c : Int) + 1) = ((c + 1 : Nat) : Int) by rw [wz (by omega) (by omega)]; omega)
  have ec := consents_ev p H (c : Int) t ht hT (by omega) (by omega)
  have e1 : Ev (fun k => impl_leastConsents_1_c.f k (c : Int) [(⟨p, H⟩ : S25)] [t]) (saysB H (c : Int) t) := by
   unfold impl_leastConsents_1_c.f
   have r1 : rd_T25 [(⟨p, H⟩ : S25)] 0 = ⟨p, H⟩ := rfl
   have r2 : rd_L5 [t] 0 = t := rfl
   simp only [r1, r2, if_pos (show (0 : Int) < (([(⟨p, H⟩ : S25)] : List S25).length : Int) by simp), if_pos (show (0 : Int) < (([t] : List (List S61)).length : Int) by simp)]
   exact Ev.bind ec (Ev.now _)
  refine Ev.step (f := fun k => (impl_leastConsents_1_c.f k (c : Int) [(⟨p, H⟩ : S25)] [t]).bind fun b => (if b = true then (if out.length < 17592186044416 then (impl_leastOf_w75.l0 k (out ++ [(c : Int)]) (M : Int) ((c + 1 : Nat) : Int) [(⟨p, H⟩ : S25)] [t]) else (none)) else (impl_leastOf_w75.l0 k out (M : Int) ((c + 1 : Nat) : Int) [(⟨p, H⟩ : S25)] [t]))) (fun k => by rw [impl_leastOf_w75.l0, if_pos (by omega), w1.out]) (Ev.bind e1 ?_)
  rw [allF] at hq
  have ce : ((c : Int) + 1) = ((c + 1 : Nat) : Int) := by omega
  rw [ce] at hq
  cases hv : saysB H (c : Int) t with
  | true =>
   rw [if_pos hv] at hq
   simp only [if_true, if_pos (show out.length < 17592186044416 by omega)]
   exact ih (c + 1) (out ++ [(c : Int)]) (by omega) (by simp; omega) (by rw [← hq]; simp)
  | false =>
   rw [if_neg (by rw [hv]; decide)] at hq
   simp only [Bool.false_eq_true, if_false]
   exact ih (c + 1) out (by omega) (by omega) hq
theorem leastConsents_ev (hH : H.length ≤ 1048576) : Ev (fun k => impl_LeastConsents.f k p H t) (leastF (fun c => saysB H c t) (2 ^ p.toNat)) := by
 have q := pTm hT
 have m := Mp hT
 unfold impl_LeastConsents.f
 refine Ev.bind (Ev.to (impl_isTerm_ev p H hH t ht) hT) ?_
 simp only [if_true]
 refine Ev.bind ?_ (Ev.now _)
 unfold impl_leastConsents.f impl_leastOf_w75.f
 simp only [if_pos (show 0 ≤ p by omega), shl1 q.1 q.2]
 rw [← m.1]
 exact Ev.bind (leastOf_l0 hT ht m.2 m.1 _ 0 [] (by omega) (by simp) rfl) (Ev.now _)
end

theorem allF_same {S R : Int → Bool} : ∀ (n : Nat) (c : Int), (∀ x, c ≤ x → x < c + n → S x = R x) → allF S n c = allF R n c := by
 intro n
 induction n with
 | zero => intro c _; rfl
 | succ n ih =>
  intro c h
  rw [allF, allF, h c (by omega) (by omega), ih (c + 1) (fun x a b => h x (by omega) (by omega))]
theorem filter_allF {S Q : Int → Bool} : ∀ (n : Nat) (c : Int), (allF S n c).filter Q = allF (fun x => S x && Q x) n c := by
 intro n
 induction n with
 | zero => intro c; rfl
 | succ n ih =>
  intro c
  rw [allF, allF]
  cases h : S c with
  | false => simp only [Bool.false_eq_true, if_false, Bool.false_and]; exact ih _
  | true =>
   simp only [if_true, Bool.true_and]
   rw [List.filter_cons, ih]
def allQ (A : List Int) (c : Int) : Bool := A.all (fun d => decide (d = c) || (Go.bits .and .i64 d c != d))
theorem allQ_und {A : List Int} {c : Int} (hc : C6 c) (hA : ∀ d ∈ A, C6 d) : allQ A c = !undB A c := by
 unfold allQ undB
 induction A with
 | nil => rfl
 | cons d A ih =>
  rw [List.all_cons, List.any_cons, ih (fun x hx => hA x (by simp [hx])), Bool.not_or, andE (hA d (by simp)) hc]
  cases decide (d = c) <;> simp
theorem leastF_spec (S : Int → Bool) {M : Nat} (hM : M ≤ 64) : allF (fun c => (allF S M 0).any (fun d => d == c) && allQ (allF S M 0) c) M 0 = leastF S M := by
 unfold leastF
 rw [filter_allF]
 refine allF_same M 0 fun x x0 x1 => ?_
 rw [allQ_und ⟨x0, by omega⟩ (fun d hd => all_c6 hM hd)]
 congr 1
 rw [Bool.eq_iff_iff, List.any_eq_true]
 constructor
 ·rintro ⟨d, hd, e⟩
  have e := eq_of_beq e
  rw [← e]
  exact (mem_allF.1 hd).2.2
 ·intro h
  exact ⟨x, mem_allF.2 ⟨x0, x1, h⟩, by simp⟩
theorem least_l1 (p : Int) (A : List Int) (hn : A.length ≤ 1000) (out : List Int) (c : Int) {r : List Int} : ∀ (zs : List Int) (i : Nat) (a b : Bool), A.drop i = zs → i ≤ A.length → Ev (fun k => spec_l1Least.l1 k p A out c (a || zs.any (fun d => d == c)) (b && allQ zs c) (A.length : Int)) r → Ev (fun k => spec_l1Least.l1 k p A out c a b (i : Int)) r := by
 intro zs
 induction zs with
 | nil =>
  intro i a b h hi e
  have g := List.drop_eq_nil_iff.1 h
  rw [show (i : Int) = (A.length : Int) by omega]
  simpa [allQ] using e
 | cons z zs ih =>
  intro i a b h hi e
  obtain ⟨h1, h2, h3⟩ := dcons h
  have hr : rd A (i : Int) = z := by rw [rdn]; exact h2 _
  have e2 : Ev (fun k => spec_l1Least.l1 k p A out c (a || (z == c)) (b && (decide (z = c) || (Go.bits .and .i64 z c != z))) ((i + 1 : Nat) : Int)) r := by
   refine ih (i + 1) _ _ h3 (by omega) ?_
   rw [Bool.or_assoc, Bool.and_assoc]
   exact e
  have W := Aside0.mk (wsucc h1 (by omega))
  have c0 : (0 : Int) ≤ (i : Int) := by omega
  have c1 : (i : Int) < (A.length : Int) := by omega
  cases a with
  | true =>
   cases b with
   | true =>
    by_cases g : z = c
    ·exact Ev.step (fun k => by rw [spec_l1Least.l1, if_pos c1, if_pos rfl, if_pos rfl, if_pos c0, hr, if_pos g, W.out]) (by simpa [g] using e2)
    ·exact Ev.step (fun k => by rw [spec_l1Least.l1, if_pos c1, if_pos rfl, if_pos rfl, if_pos c0, hr, if_neg g, W.out]) (by simpa [g] using e2)
   | false => exact Ev.step (fun k => by rw [spec_l1Least.l1, if_pos c1, if_pos rfl, if_neg (by decide), W.out]) (by simpa using e2)
  | false =>
   cases b with
   | true =>
    by_cases g : z = c
    ·exact Ev.step (fun k => by rw [spec_l1Least.l1, if_pos c1, if_neg (by decide), if_pos c0, if_pos rfl, hr, if_pos g, W.out]) (by simpa [g] using e2)
    ·exact Ev.step (fun k => by rw [spec_l1Least.l1, if_pos c1, if_neg (by decide), if_pos c0, if_pos rfl, hr, if_neg g, W.out]) (by simpa [g] using e2)
   | false => exact Ev.step (fun k => by rw [spec_l1Least.l1, if_pos c1, if_neg (by decide), if_pos c0, if_neg (by decide), hr, W.out]) (by simpa using e2)
theorem least_l0 {p : Int} (p0 : 1 ≤ p) (p1 : p ≤ 6) {M : Nat} (hM : (M : Int) = 2 ^ p.toNat) (hM2 : M ≤ 64) (A : List Int) (hn : A.length ≤ 1000) (R : List Int) : ∀ (d c : Nat) (out : List Int), c + d = M → out.length ≤ c → out ++ allF (fun c => A.any (fun d => d == c) && allQ A c) d (c : Int) = R → Ev (fun k => spec_l1Least.l0 k p A out (c : Int)) R := by
 intro d
 induction d with
 | zero =>
  intro c out h ho hq
  rw [allF, List.append_nil] at hq
  exact Ev.step (f := fun _ => some out) (fun k => by rw [spec_l1Least.l0, if_pos (by omega), shl1 p0 p1, if_neg (by omega)]) (Ev.to (Ev.now _) hq)
 | succ d ih =>
  intro c out h ho hq
  have w1 := Aside0.mk (show wrap64 ((c : Int) + 1) = ((c + 1 : Nat) : Int) by rw [wz (by omega) (by omega)]; omega)
  have ce : ((c : Int) + 1) = ((c + 1 : Nat) : Int) := by omega
  rw [allF, ce] at hq
  refine Ev.step (f := fun k => spec_l1Least.l1 k p A out (c : Int) false true ((0 : Nat) : Int)) (fun k => by rw [spec_l1Least.l0, if_pos (by omega), shl1 p0 p1, if_pos (by omega)]; rfl) (least_l1 p A hn out (c : Int) A 0 false true rfl (by omega) ?_)
  rw [Bool.false_or, Bool.true_and]
  cases hi : A.any (fun d => d == (c : Int)) with
  | false =>
   rw [hi, Bool.false_and, if_neg (by decide)] at hq
   exact Ev.step (fun k => by rw [spec_l1Least.l1, if_neg (by omega), if_neg (by decide), w1.out]) (ih (c + 1) out (by omega) (by omega) hq)
  | true =>
   cases ha : allQ A (c : Int) with
   | false =>
    rw [hi, ha, Bool.true_and, if_neg (by decide)] at hq
    exact Ev.step (fun k => by rw [spec_l1Least.l1, if_neg (by omega), if_pos rfl, if_neg (by decide), w1.out]) (ih (c + 1) out (by omega) (by omega) hq)
   | true =>
    rw [hi, ha, Bool.true_and, if_pos rfl] at hq
    exact Ev.step (fun k => by rw [spec_l1Least.l1, if_neg (by omega), if_pos rfl, if_pos rfl, if_pos (by omega), w1.out]) (ih (c + 1) (out ++ [(c : Int)]) (by omega) (by simp; omega) (by rw [← hq]; simp))
section
variable {p : Int} {H : List Int} {t : List S61} (hT : TmB p H t = true)
include hT
theorem l4All_ev : Ev (fun k => spec_l4All.f k p H t) (allF (fun c => saysB H c t) (2 ^ p.toNat) 0) := by
 have q := pTm hT
 have m := Mp hT
 have main : ∀ (d c : Nat) (out : List Int), c + d = 2 ^ p.toNat → out.length ≤ c → out ++ allF (fun c => saysB H c t) d (c : Int) = allF (fun c => saysB H c t) (2 ^ p.toNat) 0 → Ev (fun k => spec_l4All.l0 k t out (c : Int) p H) (allF (fun c => saysB H c t) (2 ^ p.toNat) 0) := by
  intro d
  induction d with
  | zero =>
   intro c out h ho hq
   rw [allF, List.append_nil] at hq
   exact Ev.step (f := fun _ => some out) (fun k => by rw [spec_l4All.l0, if_pos (by omega), shl1 q.1 q.2, if_neg (by rw [← m.1]; omega)]) (Ev.to (Ev.now _) hq)
  | succ d ih =>
   intro c out h ho hq
   have w1 := Aside0.mk (show wrap64 ((c : Int) + 1) = ((c + 1 : Nat) : Int) by rw [wz (by omega) (by omega)]; omega)
   have ce : ((c : Int) + 1) = ((c + 1 : Nat) : Int) := by omega
   rw [allF, ce] at hq
   have es := l4Says_ev p H (c : Int) t hT (by omega) (by omega)
   refine Ev.step (f := fun k => (spec_l4Says.f k p H t (c : Int)).bind fun b => (if b = true then (if out.length < 17592186044416 then (spec_l4All.l0 k t (out ++ [(c : Int)]) ((c + 1 : Nat) : Int) p H) else (none)) else (spec_l4All.l0 k t out ((c + 1 : Nat) : Int) p H))) (fun k => by rw [spec_l4All.l0, if_pos (by omega), shl1 q.1 q.2, if_pos (by rw [← m.1]; omega), w1.out]) (Ev.bind es ?_)
   cases hv : saysB H (c : Int) t with
   | true =>
    rw [if_pos hv] at hq
    simp only [if_true, if_pos (show out.length < 17592186044416 by omega)]
    exact ih (c + 1) (out ++ [(c : Int)]) (by omega) (by simp; omega) (by rw [← hq]; simp)
   | false =>
    rw [if_neg (by rw [hv]; decide)] at hq
    simp only [Bool.false_eq_true, if_false]
    exact ih (c + 1) out (by omega) (by omega) hq
 exact main _ 0 [] (by omega) (by simp) rfl
theorem leastSpec_ev (hH : H.length ≤ 1048576) (hc : ∀ c ∈ H, c ≤ 9223372036854775807) (ht : t.length ≤ 1048576) : Ev (fun k => spec_LeastConsents.f k p H t) (leastF (fun c => saysB H c t) (2 ^ p.toNat)) := by
 have q := pTm hT
 have m := Mp hT
 unfold spec_LeastConsents.f
 refine Ev.bind (Ev.to (spec_TermOk_ev p H hH hc t ht) hT) ?_
 simp only [if_true]
 refine Ev.bind (l4All_ev hT) (Ev.bind ?_ (Ev.now _))
 have hlen : (allF (fun c => saysB H c t) (2 ^ p.toNat) 0).length ≤ 64 := len_asc _ 0 64 (pw_allF _ _ 0) (fun x hx => by have := mem_allF.1 hx; omega)
 unfold spec_l1Least.f
 exact least_l0 q.1 q.2 m.1 m.2 _ (by omega) _ (2 ^ p.toNat) 0 [] (by omega) (by simp) (leastF_spec _ m.2)
end

theorem exact_lists (p : Int) (H : List Int) (t : List S61) (hH : H.length ≤ 1048576) (hc : ∀ c ∈ H, c ≤ 9223372036854775807) (ht : t.length ≤ 1048576) : ∃ R : List Int, R.length ≤ 32 ∧ Ev (fun k => impl_LeastConsents.f k p H t) R ∧ Ev (fun k => spec_LeastConsents.f k p H t) R := by
 cases hT : TmB p H t with
 | true => exact ⟨_, len_least _ (Mp hT).2, leastConsents_ev hT ht hH, leastSpec_ev hT hH hc ht⟩
 | false =>
  refine ⟨[], by simp, ?_, ?_⟩
  ·unfold impl_LeastConsents.f
   refine Ev.bind (Ev.to (impl_isTerm_ev p H hH t ht) hT) ?_
   simp only [Bool.false_eq_true, if_false]
   exact Ev.now _
  ·unfold spec_LeastConsents.f
   refine Ev.bind (Ev.to (spec_TermOk_ev p H hH hc t ht) hT) ?_
   simp only [Bool.false_eq_true, if_false]
   exact Ev.now _
theorem FnExactLeastConsents : laws_FnExactLeastConsents.Pure := by
 intro p H t _ hH hS
 obtain ⟨r, hr, hs⟩ := szHouse_small (p := p) hH.1
 refine Ev.rounds ?_
 unfold laws_FnExactLeastConsents.f
 rw [hr]
 simp only [Option.bind_some]
 by_cases h : r < 0
 ·simp only [if_pos h]
  exact Ev.now _
 simp only [if_neg h]
 obtain ⟨s1, s2⟩ := hs h
 obtain ⟨q, hq, ht⟩ := szMarkS_small hS.1 r (by omega) s1
 simp only [hq, Option.bind_some]
 by_cases h2 : q < 0
 ·simp only [if_pos h2]
  exact Ev.now _
 simp only [if_neg h2]
 obtain ⟨t1, t2⟩ := ht h2
 have e1 := toHouse_ev p H s2
 have e2 := toMarkS_ev t t2
 have hc : ∀ c ∈ H, c ≤ 9223372036854775807 := fun c hc => wf_le (hH.2 c hc)
 have m1 : (t.map cMk).length ≤ 1048576 := by simp <;> omega
 obtain ⟨R, hR, im, sp⟩ := exact_lists p H (t.map cMk) s2 hc m1
 have eq := eqIntS_ev R (by omega)
 have mh := markIntS_ev 1 H (by decide) (by decide) (by omega)
 have mm := markMarkS_ev (1 + (H.length : Int)) (t.map cMk) (by omega) (by omega) m1
 have mk1 := markIntS_ev 1 R (by decide) (by decide) (by omega)
 have hld := heldIntS_ev 1 R (by decide) (by decide) (by omega)
 have hpos : ¬ (1 + (H.length : Int) + 3 * ((t.map cMk).length : Int) < 0) := by omega
 have hpos2 : ¬ (1 + (R.length : Int) < 0) := by omega
 refine Ev.bind e1 (Ev.bind e2 (Ev.bind sp (Ev.bind e1 (Ev.bind e2 (Ev.bind im (Ev.bind eq ?_))))))
 simp only [if_true]
 refine Ev.bind e1 (Ev.bind (eqHouse_ev p H s2) ?_)
 simp only [if_true]
 refine Ev.bind e2 (Ev.bind (eqMarkS_ev _ (by omega)) ?_)
 simp only [if_true]
 refine Ev.bind (a := (1 + (H.length : Int), mk 1 H H.length)) (by unfold laws_markHouse.f; exact Ev.bind mh (Ev.now _)) ?_
 refine Ev.bind mm ?_
 simp only [if_neg hpos]
 refine Ev.bind eq ?_
 simp only [Bool.not_true]
 refine Ev.step (fun k => by rw [laws_FnExactLeastConsents.j0, if_neg (by decide)]) ?_
 refine Ev.bind mk1 (Ev.bind hld ?_)
 simp only [if_neg hpos2, if_true]
 refine Ev.bind e1 (Ev.bind e2 (Ev.bind im (Ev.bind eq ?_)))
 simp only [if_true]
 refine Ev.bind hld ?_
 simp only [if_neg hpos2, if_true]
 exact Ev.now _

end Go.Proofs.Ytaddlahbahedeaa.Pure
