/- The law FnExactAfterDeaths is true: for every court and list of people the program's AfterDeaths returns what the reference's returns, leaves its arguments as they were, and its result shares no memory. Conditions: none. -/
import Derived.Test.YtlpjkeejflogjaaQFnExactAfterDeathsx13
namespace Go.Proofs.Ytlpjkeejflogjaa.Pure
open Go.RowKit Go.Proofs.Ytlpjkeejflogjaa.QFnExactAfterDeaths Go.Proofs.YtlpjkeejflogjaaW.PrintWords Go.Proofs.YtlpjkeejflogjaaW.PrintLast
set_option linter.unusedVariables false
set_option linter.unusedSimpArgs false

theorem wz {x : Int} (h0 : -9223372036854775808 ≤ x) (h1 : x ≤ 9223372036854775807) : wrap64 x = x := by unfold wrap64; omega
theorem wsucc {i n : Nat} (h : i < n) (hn : n ≤ 9223372036854775807) : wrap64 ((i : Int) + 1) = ((i + 1 : Nat) : Int) := by rw [wz (by omega) (by omega)]; omega
theorem dnil {α : Type} {xs : List α} {i : Nat} (h : xs.drop i = []) : ¬ ((i : Int) < (xs.length : Int)) := by
 have := List.drop_eq_nil_iff.1 h
 omega
theorem dcons {α : Type} {xs : List α} {i : Nat} {y : α} {ys : List α} (h : xs.drop i = y :: ys) : i < xs.length ∧ (∀ d, xs.getD i d = y) ∧ xs.drop (i + 1) = ys := by
 have hl : i < xs.length := by
  rcases Nat.lt_or_ge i xs.length with h1 | h1
  ·exact h1
  ·rw [List.drop_eq_nil_iff.2 h1] at h
   cases h
 have e := List.drop_eq_getElem_cons hl
 rw [h] at e
 injection e with e1 e2
 exact ⟨hl, fun d => by rw [List.getD_eq_getElem?_getD, List.getElem?_eq_getElem hl]; exact e1.symm, e2.symm⟩
theorem rdn (xs : List Int) (i : Nat) : rd xs (i : Int) = xs.getD i 0 := by simp [rd]
theorem set_mid {α β : Type} (l : List α) (c : α → β) (z : β) {i : Nat} {y : α} {ys : List α} (h : l.drop i = y :: ys) :
  ((l.take i).map c ++ List.replicate (l.length - i) z).set i (c y) = (l.take (i + 1)).map c ++ List.replicate (l.length - (i + 1)) z := by
 obtain ⟨h1, h2, h3⟩ := dcons h
 have ht : l.take (i + 1) = l.take i ++ [y] := by
  rw [List.take_succ_eq_append_getElem h1]
  have := h2 y
  rw [List.getD_eq_getElem?_getD, List.getElem?_eq_getElem h1] at this
  rw [show l[i] = y from by simpa using this]
 obtain ⟨m, hm⟩ : ∃ m, l.length - i = m + 1 := ⟨l.length - i - 1, by omega⟩
 have hm2 : l.length - (i + 1) = m := by omega
 have hlen : ((l.take i).map c).length = i := by simp <;> omega
 rw [hm, hm2, ht, List.replicate_succ, List.map_append, List.set_append_right _ _ (by omega), hlen, Nat.sub_self]
 simp
theorem Ev.to {α : Type} {g : Nat → Option α} {r s : α} (h : Ev g r) (e : r = s) : Ev g s := e ▸ h

def CrB (p a : Int) : Bool := decide (1 ≤ p ∧ p ≤ 6 ∧ 0 ≤ a ∧ a < 2 ^ p.toNat)
theorem shl1 {p : Int} (h0 : 1 ≤ p) (h1 : p ≤ 6) : shl .i64 1 p = 2 ^ p.toNat := by
 have : p = 1 ∨ p = 2 ∨ p = 3 ∨ p = 4 ∨ p = 5 ∨ p = 6 := by omega
 rcases this with rfl | rfl | rfl | rfl | rfl | rfl <;> decide +kernel
theorem pow_small {p : Int} (h0 : 1 ≤ p) (h1 : p ≤ 6) : (2 : Int) ≤ 2 ^ p.toNat ∧ (2 : Int) ^ p.toNat ≤ 64 := by
 have : p = 1 ∨ p = 2 ∨ p = 3 ∨ p = 4 ∨ p = 5 ∨ p = 6 := by omega
 rcases this with rfl | rfl | rfl | rfl | rfl | rfl <;> decide
theorem impl_isCrowd_eq (p a : Int) : impl_isCrowd.f p a = some (CrB p a) := by
 unfold impl_isCrowd.f impl_arePeople.f CrB
 by_cases h1 : p ≥ 1
 ·by_cases h2 : p ≤ 6
  ·by_cases h3 : a ≥ 0
   ·have h0 : 0 ≤ p := by omega
    simp [h1, h2, h3, h0, shl1 h1 h2]
   ·simp [h1, h2, h3]
  ·simp [h1, h2]
 ·simp [h1]
theorem CrB_of {p a : Int} (h : CrB p a = true) : 1 ≤ p ∧ p ≤ 6 ∧ 0 ≤ a ∧ a < 2 ^ p.toNat := of_decide_eq_true h

theorem l1In_eq2 (a b c : Int) : spec_l1In.f a b c = some (decide (b ≤ a ∧ a ≤ c)) := by
 unfold spec_l1In.f
 by_cases h : b ≤ a
 ·simp [h]
 ·simp [h]
theorem spec_CrowdOk_eq (p a : Int) : spec_CrowdOk.f p a = some (CrB p a) := by
 unfold spec_CrowdOk.f CrB
 simp only [l1In_eq2, Option.bind_some]
 by_cases h : 1 ≤ p ∧ p ≤ 6
 ·have hp := pow_small h.1 h.2
  simp only [decide_eq_true h, if_true, if_pos (show 0 ≤ p by omega), shl1 h.1 h.2]
  rw [wz (by omega) (by omega)]
  congr 1
  rw [decide_eq_decide]
  omega
 ·simp only [decide_eq_false h, Bool.false_eq_true, if_false]
  congr 1
  symm
  rw [decide_eq_false_iff_not]
  omega

theorem rdL1n (xs : List (List Int)) (i : Nat) : rd_L1 xs (i : Int) = xs.getD i [] := by simp [rd_L1]
def firstAt {α : Type} (p : α → Bool) : List α → Nat → Int
 | [], _ => -1
 | y :: ys, i => if p y then (i : Int) else firstAt p ys (i + 1)
theorem firstAt_any {α : Type} (p : α → Bool) : ∀ (ys : List α) (i : Nat), decide (firstAt p ys i ≥ 0) = ys.any p := by
 intro ys
 induction ys with
 | nil => intro i; simp [firstAt]
 | cons y ys ih =>
  intro i
  unfold firstAt
  cases h : p y with
  | true => simp [h]
  | false => simp [h, ih]
def has (xs : List Int) (w : Int) : Bool := xs.any fun x => decide (w = x)
theorem Index_int_l0 (xs : List Int) (w : Int) (hn : xs.length ≤ 9223372036854775807) : ∀ (zs : List Int) (i : Nat), xs.drop i = zs → Ev (fun k => slices_Index_int_int.l0 k xs w (xs.length : Int) (i : Int)) (firstAt (fun x => decide (w = x)) zs i) := by
 intro zs
 induction zs with
 | nil =>
  intro i h
  exact Ev.step (f := fun _ => some (-1)) (fun k => by rw [slices_Index_int_int.l0, if_neg (dnil h)]) (Ev.now _)
 | cons z zs ih =>
  intro i h
  obtain ⟨h1, h2, h3⟩ := dcons h
  have e := ih (i + 1) h3
  refine Ev.step (f := fun k => if w = z then (some (i : Int)) else (slices_Index_int_int.l0 k xs w (xs.length : Int) ((i + 1 : Nat) : Int))) (fun k => ?_) ?_
  ·rw [slices_Index_int_int.l0, if_pos (by omega), if_pos (by omega), if_pos (by omega), rdn, h2, wsucc h1 hn]
  ·unfold firstAt
   by_cases hb : w = z
   ·simp only [hb, if_true, decide_true]; exact Ev.now _
   ·simp only [if_neg hb, decide_eq_false hb, Bool.false_eq_true, if_false]; exact e
theorem Index_int_ev (xs : List Int) (w : Int) (hn : xs.length ≤ 9223372036854775807) : Ev (fun k => slices_Index_int_int.f k xs w) (firstAt (fun x => decide (w = x)) xs 0) := Index_int_l0 xs w hn xs 0 rfl
theorem Contains_int_ev (xs : List Int) (w : Int) (hn : xs.length ≤ 9223372036854775807) : Ev (fun k => slices_Contains_int_int.f k xs w) (has xs w) := by
 unfold slices_Contains_int_int.f
 exact Ev.bind (Index_int_ev xs w hn) (Ev.to (Ev.now _) (firstAt_any _ _ _))
def lv (p a w : Int) : Bool := decide (0 ≤ w ∧ w < p) && decide (a / 2 ^ w.toNat % 2 = 1)
theorem shr_eq {a w : Int} (h0 : 0 ≤ w) (h1 : w < 6) : shr .i64 a w = a / 2 ^ w.toNat := by
 unfold shr
 rw [Nat.min_eq_left (by simp only [IntKind.bits]; omega)]
theorem div_pow_range {a : Int} (n : Nat) (h0 : 0 ≤ a) (h1 : a < 64) : 0 ≤ a / 2 ^ n ∧ a / 2 ^ n < 64 := by
 have hp : (0 : Int) < 2 ^ n := Int.pow_pos (by decide)
 exact ⟨Int.ediv_nonneg h0 (Int.le_of_lt hp), Int.lt_of_le_of_lt (Int.ediv_le_self _ h0) h1⟩
theorem and_one : ∀ n : Fin 64, Go.bits .and .i64 (n.val : Int) 1 = (n.val : Int) % 2 := by decide +kernel
theorem lives_eq (p : Int) (L : List (List Int)) (H : List Int) (a w : Int) (hp : p ≤ 6) (h0 : 0 ≤ a) (h1 : a < 64) : impl_lives.f p L H a w = some (lv p a w) := by
 unfold impl_lives.f lv
 by_cases hw : w ≥ 0
 ·by_cases hw2 : w < p
  ·have r := div_pow_range w.toNat h0 h1
   obtain ⟨n, hn⟩ := Int.eq_ofNat_of_zero_le r.1
   have e := and_one ⟨n, by omega⟩
   rw [if_pos hw, if_pos hw2, if_pos hw, shr_eq hw (by omega), hn, e]
   rw [decide_eq_true (show 0 ≤ w ∧ w < p from ⟨hw, hw2⟩)]
   rfl
  ·rw [if_pos hw, if_neg hw2, decide_eq_false (by omega)]
   rfl
 ·rw [if_neg hw, decide_eq_false (by omega)]
  rfl
def okF (p : Int) : List Int → List Int → Bool
 | _, [] => true
 | pre, w :: ws => decide (0 ≤ w ∧ w < p) && !has pre w && okF p (pre ++ [w]) ws
def hoF (p a : Int) : List Int → List Int → Bool
 | _, [] => true
 | pre, h :: hs => (decide (h = -1) || (lv p a h && !has pre h)) && hoF p a (pre ++ [h]) hs
def CtB (p : Int) (L : List (List Int)) (H : List Int) (a : Int) : Bool := CrB p a && decide ((L.length : Int) ≤ 3) && decide ((H.length : Int) = (L.length : Int)) && L.all (okF p []) && hoF p a [] H
theorem take_dcons {α : Type} {xs : List α} {i : Nat} {y : α} {ys : List α} (h : xs.drop i = y :: ys) : xs.take (i + 1) = xs.take i ++ [y] := by
 obtain ⟨h1, h2, h3⟩ := dcons h
 rw [List.take_succ_eq_append_getElem h1]
 have := h2 y
 rw [List.getD_eq_getElem?_getD, List.getElem?_eq_getElem h1] at this
 rw [show xs[i] = y from by simpa using this]
section
variable (p : Int) (L : List (List Int)) (H : List Int) (a : Int)
theorem court_l2 (hc : CrB p a = true) (hH : H.length ≤ 1000) : ∀ (zs : List Int) (i : Nat), H.drop i = zs → Ev (fun k => impl_isCourt.l2 k H (H.length : Int) (i : Int) p L H a) (hoF p a (H.take i) zs) := by
 have c := CrB_of hc
 have hp := pow_small c.1 c.2.1
 intro zs
 induction zs with
 | nil =>
  intro i h
  exact Ev.step (f := fun _ => some true) (fun k => by rw [impl_isCourt.l2, if_neg (dnil h)]) (Ev.to (Ev.now _) (by simp [hoF]))
 | cons z zs ih =>
  intro i h
  obtain ⟨h1, h2, h3⟩ := dcons h
  have e := ih (i + 1) h3
  have hi1 : (i : Int) < (H.length : Int) := by omega
  have hi0 : 0 ≤ (i : Int) := by omega
  rw [take_dcons h] at e
  by_cases hz : z = -1
  ·refine Ev.step (f := fun k => impl_isCourt.l2 k H (H.length : Int) ((i + 1 : Nat) : Int) p L H a) (fun k => ?_) (Ev.to e (by simp [hoF, hz]))
   rw [impl_isCourt.l2, if_pos hi1, if_pos hi0, if_pos hi1, rdn, h2, if_pos hz, wsucc h1 (by omega)]
  ·cases hl : lv p a z with
   | false =>
    refine Ev.step (f := fun _ => some false) (fun k => ?_) (Ev.to (Ev.now _) (by simp [hoF, hz, hl]))
    rw [impl_isCourt.l2, if_pos hi1, if_pos hi0, if_pos hi1, rdn, h2, if_neg hz, lives_eq p L H a z c.2.1 c.2.2.1 (by omega), hl]
    rfl
   | true =>
    refine Ev.step (f := fun k => (slices_Contains_int_int.f k (H.take i) z).bind fun t => (if t = true then (some false) else (impl_isCourt.l2 k H (H.length : Int) ((i + 1 : Nat) : Int) p L H a))) (fun k => ?_) (Ev.bind (Contains_int_ev _ z (by simp <;> omega)) ?_)
    ·rw [impl_isCourt.l2, if_pos hi1, if_pos hi0, if_pos hi1, rdn, h2, if_neg hz, lives_eq p L H a z c.2.1 c.2.2.1 (by omega), hl]
     simp only [Option.bind_some, if_true]
     rw [if_pos (by omega), wsucc h1 (by omega)]
     rfl
    ·cases hh : has (H.take i) z with
     | true => simp only [if_true]; exact Ev.to (Ev.now _) (by simp [hoF, hz, hl, hh])
     | false => simp only [Bool.false_eq_true, if_false]; exact Ev.to e (by simp [hoF, hz, hl, hh])
theorem court_l1 (line : List Int) (hn : line.length ≤ 1048576) (x : Nat) (r : Bool) (c : Ev (fun k => impl_isCourt.l0 k L (L.length : Int) ((x + 1 : Nat) : Int) p L H a) r) (hx : x < 1000) :
  ∀ (zs : List Int) (i : Nat), line.drop i = zs → Ev (fun k => impl_isCourt.l1 k line L (L.length : Int) (x : Int) line (line.length : Int) (i : Int) p L H a) (okF p (line.take i) zs && r) := by
 intro zs
 induction zs with
 | nil =>
  intro i h
  refine Ev.step (f := fun k => impl_isCourt.l0 k L (L.length : Int) ((x + 1 : Nat) : Int) p L H a) (fun k => ?_) (Ev.to c (by simp [okF]))
  rw [impl_isCourt.l1, if_neg (dnil h), wz (by omega) (by omega)]
  rfl
 | cons z zs ih =>
  intro i h
  obtain ⟨h1, h2, h3⟩ := dcons h
  have e := ih (i + 1) h3
  have hi1 : (i : Int) < (line.length : Int) := by omega
  have hi0 : 0 ≤ (i : Int) := by omega
  rw [take_dcons h] at e
  by_cases hz : z < 0
  ·refine Ev.step (f := fun _ => some false) (fun k => ?_) (Ev.to (Ev.now _) (by simp [okF]; omega))
   rw [impl_isCourt.l1, if_pos hi1, if_pos hi0, if_pos hi1, rdn, h2, if_pos hz]
  ·by_cases hz2 : z ≥ p
   ·refine Ev.step (f := fun _ => some false) (fun k => ?_) (Ev.to (Ev.now _) (by simp [okF]; omega))
    rw [impl_isCourt.l1, if_pos hi1, if_pos hi0, if_pos hi1, rdn, h2, if_neg hz, if_pos hz2]
   ·have hr : decide (0 ≤ z ∧ z < p) = true := decide_eq_true (by omega)
    refine Ev.step (f := fun k => (slices_Contains_int_int.f k (line.take i) z).bind fun t => (if t = true then (some false) else (impl_isCourt.l1 k line L (L.length : Int) (x : Int) line (line.length : Int) ((i + 1 : Nat) : Int) p L H a))) (fun k => ?_) (Ev.bind (Contains_int_ev _ z (by simp <;> omega)) ?_)
    ·rw [impl_isCourt.l1, if_pos hi1, if_pos hi0, if_pos hi1, rdn, h2, if_neg hz, if_neg hz2, if_pos (by omega), wsucc h1 (by omega)]
     rfl
    ·cases hh : has (line.take i) z with
     | true => simp only [if_true]; exact Ev.to (Ev.now _) (by simp [okF, hh])
     | false => simp only [Bool.false_eq_true, if_false]; exact Ev.to e (by simp only [okF, hh, hr, Bool.not_false, Bool.and_self, Bool.true_and])
theorem court_l0 (hc : CrB p a = true) (hH : H.length ≤ 1000) (hL : L.length ≤ 3) (hin : ∀ l ∈ L, l.length ≤ 1048576) : ∀ (zs : List (List Int)) (i : Nat), L.drop i = zs → Ev (fun k => impl_isCourt.l0 k L (L.length : Int) (i : Int) p L H a) (zs.all (okF p []) && hoF p a [] H) := by
 intro zs
 induction zs with
 | nil =>
  intro i h
  refine Ev.step (f := fun k => impl_isCourt.l2 k H (H.length : Int) ((0 : Nat) : Int) p L H a) (fun k => by rw [impl_isCourt.l0, if_neg (dnil h)]; rfl) (Ev.to (court_l2 p L H a hc hH H 0 rfl) (by simp))
 | cons z zs ih =>
  intro i h
  obtain ⟨h1, h2, h3⟩ := dcons h
  have hz : z ∈ L := List.mem_of_mem_drop (by rw [h]; simp)
  have e := court_l1 p L H a z (hin z hz) i _ (ih (i + 1) h3) (by omega) z 0 rfl
  refine Ev.step (f := fun k => impl_isCourt.l1 k z L (L.length : Int) (i : Int) z (z.length : Int) ((0 : Nat) : Int) p L H a) (fun k => ?_) (Ev.to e (by simp [Bool.and_assoc]))
  rw [impl_isCourt.l0, if_pos (by omega), if_pos (by omega), if_pos (by omega), rdL1n, h2]
  rfl
theorem isCourt_ev (hin : ∀ l ∈ L, l.length ≤ 1048576) : Ev (fun k => impl_isCourt.f k p L H a) (CtB p L H a) := by
 have stop : Ev (fun k => impl_isCourt.j0 k true p L H a) false := Ev.step (f := fun _ => some false) (fun k => by rw [impl_isCourt.j0, if_pos rfl]) (Ev.now _)
 unfold impl_isCourt.f CtB
 simp only [impl_isCrowd_eq, Option.bind_some]
 cases hc : CrB p a with
 | false => simp only [Bool.false_eq_true, if_false, Bool.false_and]; exact stop
 | true =>
  simp only [if_true, Bool.true_and]
  by_cases hL : (L.length : Int) > 3
  ·simp only [if_pos hL]
   exact Ev.to stop (by rw [decide_eq_false (by omega)]; simp)
  ·simp only [if_neg hL]
   by_cases hH : (H.length : Int) = (L.length : Int)
   ·rw [show ((H.length : Int) != (L.length : Int)) = false from by rw [hH]; simp]
    refine Ev.step (f := fun k => impl_isCourt.l0 k L (L.length : Int) ((0 : Nat) : Int) p L H a) (fun k => by rw [impl_isCourt.j0, if_neg (by decide)]; rfl) (Ev.to (court_l0 p L H a hc (by omega) (by omega) hin L 0 rfl) ?_)
    rw [decide_eq_true (show (L.length : Int) ≤ 3 by omega), decide_eq_true hH]
    simp
   ·rw [show ((H.length : Int) != (L.length : Int)) = true from by simpa using hH]
    exact Ev.to stop (by rw [decide_eq_false hH]; simp)
end

theorem has_iff (xs : List Int) (w : Int) : has xs w = true ↔ w ∈ xs := by
 unfold has
 rw [List.any_eq_true]
 constructor
 ·rintro ⟨x, hx, e⟩
  have := of_decide_eq_true e
  subst this
  exact hx
 ·intro h
  exact ⟨w, h, by simp⟩
theorem few : ∀ (n : Nat) (l : List Int), l.Nodup → (∀ x ∈ l, 0 ≤ x ∧ x < (n : Int)) → l.length ≤ n := by
 intro n
 induction n with
 | zero =>
  intro l _ h
  cases l with
  | nil => simp
  | cons x l => have := h x (by simp); omega
 | succ n ih =>
  intro l hd h
  have h1 := ih (l.erase (n : Int)) (hd.erase _) (fun x hx => by
   have h2 := h x (List.mem_of_mem_erase hx)
   have h3 := (hd.mem_erase_iff.1 hx).1
   omega)
  have h2 := List.length_erase (a := (n : Int)) (l := l)
  split at h2 <;> omega
theorem okF_nodup (p : Int) : ∀ (ws pre : List Int), okF p pre ws = true → pre.Nodup → (∀ x ∈ pre, 0 ≤ x ∧ x < p) → (pre ++ ws).Nodup ∧ ∀ x ∈ pre ++ ws, 0 ≤ x ∧ x < p := by
 intro ws
 induction ws with
 | nil => intro pre _ h1 h2; simpa using ⟨h1, h2⟩
 | cons w ws ih =>
  intro pre h h1 h2
  unfold okF at h
  simp only [Bool.and_eq_true, decide_eq_true_eq, Bool.not_eq_true'] at h
  have hm : w ∉ pre := fun hw => by rw [(has_iff pre w).2 hw] at h; cases h.1.2
  have := ih (pre ++ [w]) h.2 (by
   rw [List.nodup_append]
   refine ⟨h1, by simp, fun x hx y hy => ?_⟩
   have : y = w := by simpa using hy
   subst this
   rintro rfl
   exact hm hx) (fun x hx => by
   rcases List.mem_append.1 hx with hx | hx
   ·exact h2 x hx
   ·have : x = w := by simpa using hx
    subst this
    exact h.1.1)
  simpa using this
theorem okF_len {p : Int} (hp : p ≤ 6) {l : List Int} (h : okF p [] l = true) : (l.length : Int) ≤ 6 := by
 have := okF_nodup p l [] h (by simp) (by simp)
 have := few 6 l (by simpa using this.1) (fun x hx => by have := this.2 x (by simpa using hx); omega)
 omega
section
variable (p : Int) (L : List (List Int)) (H : List Int) (a : Int)
theorem scourt_l2 (line : List Int) (hn : line.length ≤ 1048576) (x j : Nat) (hx : x < L.length) (hxl : ∀ d, L.getD x d = line) (w : Int) (hj : j < line.length) (hw : ∀ d, line.getD j d = w) (hL : L.length ≤ 3) (r : Bool)
  (c : Ev (fun k => spec_CourtOk.l1 k (x : Int) ((j + 1 : Nat) : Int) p L H a) r) :
  ∀ (zs : List Int) (i : Nat), (line.take j).drop i = zs → Ev (fun k => spec_CourtOk.l2 k (x : Int) (j : Int) (i : Int) p L H a) (!has zs w && r) := by
 intro zs
 induction zs with
 | nil =>
  intro i h
  have hi : j ≤ i := by have := List.drop_eq_nil_iff.1 h; simp at this; omega
  refine Ev.step (f := fun k => spec_CourtOk.l1 k (x : Int) ((j + 1 : Nat) : Int) p L H a) (fun k => ?_) (Ev.to c (by simp [has]))
  rw [spec_CourtOk.l2, if_neg (by omega), wsucc hj (by omega)]
 | cons z zs ih =>
  intro i h
  obtain ⟨h1, h2, h3⟩ := dcons h
  have hij : i < j := by simp at h1; omega
  have hz : ∀ d, line.getD i d = z := by
   intro d
   have := h2 d
   rw [List.getD_eq_getElem?_getD, List.getElem?_take_of_lt hij] at this
   rw [List.getD_eq_getElem?_getD]
   exact this
  have e := ih (i + 1) h3
  have g1 : (i : Int) < (j : Int) := by omega
  have g2 : 0 ≤ (x : Int) := by omega
  have g3 : (x : Int) < (L.length : Int) := by omega
  have g4 : 0 ≤ (i : Int) := by omega
  have g5 : (i : Int) < (line.length : Int) := by omega
  have g6 : 0 ≤ (j : Int) := by omega
  have g7 : (j : Int) < (line.length : Int) := by omega
  by_cases hb : z = w
  ·refine Ev.step (f := fun _ => some false) (fun k => ?_) (Ev.to (Ev.now _) (by simp [has, hb]))
   rw [spec_CourtOk.l2, if_pos g1, if_pos g2, if_pos g3, if_pos g4, rdL1n, hxl, if_pos g5, if_pos g6, if_pos g7, rdn, rdn, hz, hw, if_pos hb]
  ·have hb' : ¬ w = z := fun e => hb e.symm
   refine Ev.step (f := fun k => spec_CourtOk.l2 k (x : Int) (j : Int) ((i + 1 : Nat) : Int) p L H a) (fun k => ?_) (Ev.to e (by simp [has, hb']))
   rw [spec_CourtOk.l2, if_pos g1, if_pos g2, if_pos g3, if_pos g4, rdL1n, hxl, if_pos g5, if_pos g6, if_pos g7, rdn, rdn, hz, hw, if_neg hb, wsucc hij (by omega)]
theorem scourt_l3 (x : Nat) (hx : x < H.length) (w : Int) (hw : ∀ d, H.getD x d = w) (hH : H.length ≤ 3) (r : Bool) (c : Ev (fun k => spec_CourtOk.l0 k ((x + 1 : Nat) : Int) p L H a) r) :
  ∀ (zs : List Int) (i : Nat), (H.take x).drop i = zs → Ev (fun k => spec_CourtOk.l3 k (x : Int) (i : Int) p L H a) ((decide (w = -1) || !has zs w) && r) := by
 intro zs
 induction zs with
 | nil =>
  intro i h
  have hi : x ≤ i := by have := List.drop_eq_nil_iff.1 h; simp at this; omega
  refine Ev.step (f := fun k => spec_CourtOk.l0 k ((x + 1 : Nat) : Int) p L H a) (fun k => ?_) (Ev.to c (by simp [has]))
  rw [spec_CourtOk.l3, if_neg (by omega), wsucc hx (by omega)]
 | cons z zs ih =>
  intro i h
  obtain ⟨h1, h2, h3⟩ := dcons h
  have hij : i < x := by simp at h1; omega
  have hz : ∀ d, H.getD i d = z := by
   intro d
   have := h2 d
   rw [List.getD_eq_getElem?_getD, List.getElem?_take_of_lt hij] at this
   rw [List.getD_eq_getElem?_getD]
   exact this
  have e := ih (i + 1) h3
  have g1 : (i : Int) < (x : Int) := by omega
  have g2 : 0 ≤ (x : Int) := by omega
  have g3 : (x : Int) < (H.length : Int) := by omega
  have g4 : 0 ≤ (i : Int) := by omega
  have g5 : (i : Int) < (H.length : Int) := by omega
  by_cases hv : w = -1
  ·refine Ev.step (f := fun k => spec_CourtOk.l3 k (x : Int) ((i + 1 : Nat) : Int) p L H a) (fun k => ?_) (Ev.to e (by simp [hv]))
   rw [spec_CourtOk.l3, if_pos g1, if_pos g2, if_pos g3, rdn, hw, if_pos hv, wsucc hij (by omega)]
  ·by_cases hb : w = z
   ·refine Ev.step (f := fun _ => some false) (fun k => ?_) (Ev.to (Ev.now _) (by simp [has, hb]; intro h; omega))
    rw [spec_CourtOk.l3, if_pos g1, if_pos g2, if_pos g3, rdn, hw, if_neg hv, if_pos g4, if_pos g5, rdn, hz, if_pos hb]
   ·refine Ev.step (f := fun k => spec_CourtOk.l3 k (x : Int) ((i + 1 : Nat) : Int) p L H a) (fun k => ?_) (Ev.to e (by simp [has, hb]))
    rw [spec_CourtOk.l3, if_pos g1, if_pos g2, if_pos g3, rdn, hw, if_neg hv, if_pos g4, if_pos g5, rdn, hz, if_neg hb, wsucc hij (by omega)]
theorem scourt_l1 (hp1 : 1 ≤ p) (hp6 : p ≤ 6) (line : List Int) (hn : line.length ≤ 1048576) (x : Nat) (hx : x < L.length) (hxl : ∀ d, L.getD x d = line) (hL : L.length ≤ 3) (r : Bool)
  (c : Ev (fun k => if (x : Int) < (H.length : Int) then (if (rd H x) = (-1) then (spec_CourtOk.j5 k x false p L H a) else (if 0 ≤ (rd H x) then (spec_CourtOk.j5 k x ((Int.tmod (shr .i64 a (rd H x)) 2) == 0) p L H a) else (none))) else (none)) r) :
  ∀ (zs : List Int) (j : Nat), line.drop j = zs → Ev (fun k => spec_CourtOk.l1 k (x : Int) (j : Int) p L H a) (okF p (line.take j) zs && r) := by
 have g2 : 0 ≤ (x : Int) := by omega
 have g3 : (x : Int) < (L.length : Int) := by omega
 have wp : wrap64 (p - 1) = p - 1 := wz (by omega) (by omega)
 intro zs
 induction zs with
 | nil =>
  intro j h
  refine Ev.step (fun k => by rw [spec_CourtOk.l1, if_pos g2, if_pos g3, rdL1n, hxl, if_neg (dnil h)]) (Ev.to c (by simp [okF]))
 | cons z zs ih =>
  intro j h
  obtain ⟨h1, h2, h3⟩ := dcons h
  have e := ih (j + 1) h3
  rw [take_dcons h] at e
  have g4 : (j : Int) < (line.length : Int) := by omega
  have g5 : 0 ≤ (j : Int) := by omega
  by_cases hz : 0 ≤ z ∧ z ≤ p - 1
  ·have e2 := scourt_l2 p L H a line hn x j hx hxl z h1 h2 hL _ e (line.take j) 0 rfl
   refine Ev.step (f := fun k => spec_CourtOk.l2 k (x : Int) (j : Int) ((0 : Nat) : Int) p L H a) (fun k => ?_) (Ev.to e2 ?_)
   ·rw [spec_CourtOk.l1, if_pos g2, if_pos g3, rdL1n, hxl, if_pos g4, if_pos g5, rdn, h2, l1In_eq2, wp, decide_eq_true hz]
    rfl
   ·simp only [okF, decide_eq_true (show 0 ≤ z ∧ z < p by omega), Bool.true_and, Bool.and_assoc]
  ·refine Ev.step (f := fun _ => some false) (fun k => ?_) (Ev.to (Ev.now _) ?_)
   ·rw [spec_CourtOk.l1, if_pos g2, if_pos g3, rdL1n, hxl, if_pos g4, if_pos g5, rdn, h2, l1In_eq2, wp, decide_eq_false hz]
    rfl
   ·simp only [okF, decide_eq_false (show ¬ (0 ≤ z ∧ z < p) by omega), Bool.false_and]
theorem lv_spec {w : Int} (hp6 : p ≤ 6) (h0 : 0 ≤ a) (h1 : a < 64) (hw : 0 ≤ w) (hw2 : w < p) : (Int.tmod (shr .i64 a w) 2 == 0) = !lv p a w := by
 have r := div_pow_range w.toNat h0 h1
 rw [shr_eq hw (by omega), Int.tmod_eq_emod_of_nonneg r.1]
 unfold lv
 rw [decide_eq_true (show 0 ≤ w ∧ w < p from ⟨hw, hw2⟩)]
 generalize a / 2 ^ w.toNat = q at *
 by_cases hq : q % 2 = 1
 ·simp [hq]
 ·have : q % 2 = 0 := by omega
  simp [this]
theorem scourt_l0 (hc : CrB p a = true) (hH : H.length = L.length) (hL : L.length ≤ 3) (hin : ∀ l ∈ L, l.length ≤ 1048576) : ∀ (zs : List (List Int)) (i : Nat), L.drop i = zs → Ev (fun k => spec_CourtOk.l0 k (i : Int) p L H a) (zs.all (okF p []) && hoF p a (H.take i) (H.drop i)) := by
 have c := CrB_of hc
 have hp := pow_small c.1 c.2.1
 have wp : wrap64 (p - 1) = p - 1 := wz (by omega) (by omega)
 intro zs
 induction zs with
 | nil =>
  intro i h
  have hd : H.drop i = [] := List.drop_eq_nil_iff.2 (by have := List.drop_eq_nil_iff.1 h; omega)
  refine Ev.step (f := fun _ => some true) (fun k => by rw [spec_CourtOk.l0, if_neg (dnil h)]) (Ev.to (Ev.now _) (by simp [hd, hoF]))
 | cons z zs ih =>
  intro i h
  obtain ⟨h1, h2, h3⟩ := dcons h
  have hz : z ∈ L := List.mem_of_mem_drop (by rw [h]; simp)
  have e := ih (i + 1) h3
  obtain ⟨w, hs, hd⟩ : ∃ w hs, H.drop i = w :: hs := by
   cases hq : H.drop i with
   | nil => have := List.drop_eq_nil_iff.1 hq; omega
   | cons w hs => exact ⟨w, hs, rfl⟩
  obtain ⟨k1, k2, k3⟩ := dcons hd
  rw [take_dcons hd, k3] at e
  have g1 : (i : Int) < (L.length : Int) := by omega
  have g2 : 0 ≤ (i : Int) := by omega
  have g3 : (i : Int) < (H.length : Int) := by omega
  have stop : ∀ k, spec_CourtOk.j2 (k + 1) (i : Int) true p L H a = some false := fun k => by rw [spec_CourtOk.j2, if_pos rfl]
  have stopE : Ev (fun k => spec_CourtOk.j2 k (i : Int) true p L H a) false := Ev.step stop (Ev.now _)
  rw [hd]
  by_cases hl : (z.length : Int) > 6
  ·have hok : okF p [] z = false := by
    cases hq : okF p [] z with
    | false => rfl
    | true => have := okF_len c.2.1 hq; omega
   refine Ev.step (f := fun k => spec_CourtOk.j2 k (i : Int) true p L H a) (fun k => ?_) (Ev.to stopE (by simp [hok]))
   rw [spec_CourtOk.l0, if_pos g1, if_pos g2, rdL1n, h2, if_pos hl]
  ·by_cases hw : -1 ≤ w ∧ w ≤ p - 1
   ·refine Ev.step (f := fun k => spec_CourtOk.j2 k (i : Int) false p L H a) (fun k => ?_) ?_
    ·rw [spec_CourtOk.l0, if_pos g1, if_pos g2, rdL1n, h2, if_neg hl, if_pos g3, rdn, k2, l1In_eq2, wp, decide_eq_true hw]
     rfl
    refine Ev.step (f := fun k => spec_CourtOk.l1 k (i : Int) ((0 : Nat) : Int) p L H a) (fun k => by rw [spec_CourtOk.j2, if_neg (by decide)]; rfl) ?_
    have e3 := scourt_l3 p L H a i k1 w k2 (by omega) _ e (H.take i) 0 rfl
    have e5 : Ev (fun k => if (i : Int) < (H.length : Int) then (if (rd H i) = (-1) then (spec_CourtOk.j5 k i false p L H a) else (if 0 ≤ (rd H i) then (spec_CourtOk.j5 k i ((Int.tmod (shr .i64 a (rd H i)) 2) == 0) p L H a) else (none))) else (none)) ((decide (w = -1) || (lv p a w && !has (H.take i) w)) && (zs.all (okF p []) && hoF p a (H.take i ++ [w]) hs)) := by
     simp only [if_pos g3, rdn, k2]
     have j5 : Ev (fun k => spec_CourtOk.j5 k (i : Int) false p L H a) ((decide (w = -1) || !has (H.take i) w) && (zs.all (okF p []) && hoF p a (H.take i ++ [w]) hs)) :=
      Ev.step (f := fun k => spec_CourtOk.l3 k (i : Int) ((0 : Nat) : Int) p L H a) (fun k => by rw [spec_CourtOk.j5, if_neg (by decide)]; rfl) e3
     by_cases hv : w = -1
     ·simp only [if_pos hv]
      exact Ev.to j5 (by simp [hv])
     ·simp only [if_neg hv, if_pos (show 0 ≤ w by omega)]
      rw [lv_spec p a c.2.1 c.2.2.1 (by omega) (show 0 ≤ w by omega) (by omega)]
      cases hlv : lv p a w with
      | false => exact Ev.step (f := fun _ => some false) (fun k => by rw [spec_CourtOk.j5, if_pos (by decide)]) (Ev.to (Ev.now _) (by simp [hv]))
      | true => exact Ev.to j5 (by simp [hv])
    have e1 := scourt_l1 p L H a c.1 c.2.1 z (hin z hz) i h1 h2 hL _ e5 z 0 rfl
    refine Ev.to e1 ?_
    simp only [List.take_zero, List.all_cons, hoF]
    cases okF p [] z <;> cases zs.all (okF p []) <;> simp
   ·refine Ev.step (f := fun k => spec_CourtOk.j2 k (i : Int) true p L H a) (fun k => ?_) (Ev.to stopE ?_)
    ·rw [spec_CourtOk.l0, if_pos g1, if_pos g2, rdL1n, h2, if_neg hl, if_pos g3, rdn, k2, l1In_eq2, wp, decide_eq_false hw]
     rfl
    ·have hv : ¬ w = -1 := by omega
     have hlv : lv p a w = false := by unfold lv; rw [decide_eq_false (by omega)]; rfl
     simp [hoF, hv, hlv]
theorem spec_CourtOk_ev (hin : ∀ l ∈ L, l.length ≤ 1048576) : Ev (fun k => spec_CourtOk.f k p L H a) (CtB p L H a) := by
 have stop : Ev (fun k => spec_CourtOk.j0 k true p L H a) false := Ev.step (f := fun _ => some false) (fun k => by rw [spec_CourtOk.j0, if_pos rfl]) (Ev.now _)
 unfold spec_CourtOk.f CtB
 simp only [spec_CrowdOk_eq, Option.bind_some]
 cases hc : CrB p a with
 | false => simp only [Bool.false_eq_true, if_false, Bool.false_and]; exact stop
 | true =>
  simp only [if_true, Bool.true_and]
  by_cases hL : (L.length : Int) > 3
  ·simp only [if_pos hL]
   exact Ev.to stop (by rw [decide_eq_false (by omega)]; simp)
  ·simp only [if_neg hL]
   by_cases hH : (H.length : Int) = (L.length : Int)
   ·rw [show ((H.length : Int) != (L.length : Int)) = false from by rw [hH]; simp]
    refine Ev.step (f := fun k => spec_CourtOk.l0 k ((0 : Nat) : Int) p L H a) (fun k => by rw [spec_CourtOk.j0, if_neg (by decide)]; rfl) (Ev.to (scourt_l0 p L H a hc (by omega) (by omega) hin L 0 rfl) ?_)
    rw [decide_eq_true (show (L.length : Int) ≤ 3 by omega), decide_eq_true hH]
    simp
   ·rw [show ((H.length : Int) != (L.length : Int)) = true from by simpa using hH]
    exact Ev.to stop (by rw [decide_eq_false hH]; simp)
end

def fw (p a : Int) (H : List Int) : List Int → Int
 | [] => -1
 | w :: ws => if (lv p a w && !has H w) = true then w else fw p a H ws
theorem lv_spec1 (p a : Int) {w : Int} (hp6 : p ≤ 6) (h0 : 0 ≤ a) (h1 : a < 64) (hw : 0 ≤ w) (hw2 : w < p) : (Int.tmod (shr .i64 a w) 2 == 1) = lv p a w := by
 have r := div_pow_range w.toNat h0 h1
 rw [shr_eq hw (by omega), Int.tmod_eq_emod_of_nonneg r.1]
 unfold lv
 rw [decide_eq_true (show 0 ≤ w ∧ w < p from ⟨hw, hw2⟩)]
 generalize a / 2 ^ w.toNat = q at *
 by_cases hq : q % 2 = 1
 ·simp [hq]
 ·have : q % 2 = 0 := by omega
  simp [this]
theorem okF_in {p : Int} {line : List Int} (h : okF p [] line = true) : ∀ x ∈ line, 0 ≤ x ∧ x < p := by
 have := (okF_nodup p line [] h (by simp) (by simp)).2
 simpa using this
theorem CtB_of {p : Int} {L : List (List Int)} {H : List Int} {a : Int} (h : CtB p L H a = true) : CrB p a = true ∧ L.length ≤ 3 ∧ H.length = L.length ∧ (∀ l ∈ L, okF p [] l = true) ∧ hoF p a [] H = true := by
 unfold CtB at h
 simp only [Bool.and_eq_true, decide_eq_true_eq, List.all_eq_true] at h
 obtain ⟨⟨⟨⟨h1, h2⟩, h3⟩, h4⟩, h5⟩ := h
 exact ⟨h1, by omega, by omega, h4, h5⟩
section
variable (p : Int) (L : List (List Int)) (H : List Int) (a : Int)
theorem next_l1 (hH : H.length ≤ 1000) (x j w : Int) (r : Int) (wj : wrap64 (j + 1) = j + 1) (c : Ev (fun k => spec_l7Next.l0 k x (j + 1) p L H a) r) : ∀ (zs : List Int) (i : Nat) (v : Bool), H.drop i = zs → Ev (fun k => spec_l7Next.l1 k x j w v (i : Int) p L H a) (if (v && !has zs w) = true then w else r) := by
 intro zs
 induction zs with
 | nil =>
  intro i v h
  cases v with
  | true => exact Ev.step (f := fun _ => some w) (fun k => by rw [spec_l7Next.l1, if_neg (dnil h), if_pos rfl]) (Ev.to (Ev.now _) (by simp [has]))
  | false => exact Ev.step (fun k => by rw [spec_l7Next.l1, if_neg (dnil h), if_neg (by decide), wj]) (Ev.to c (by simp))
 | cons z zs ih =>
  intro i v h
  obtain ⟨h1, h2, h3⟩ := dcons h
  have hi1 : (i : Int) < (H.length : Int) := by omega
  have hi0 : 0 ≤ (i : Int) := by omega
  cases v with
  | true =>
   refine Ev.step (fun k => by rw [spec_l7Next.l1, if_pos hi1, if_pos rfl, if_pos hi0, rdn, h2, wsucc h1 (by omega)]) (Ev.to (ih (i + 1) (z != w) h3) ?_)
   have hw : has (z :: zs) w = (decide (w = z) || has zs w) := rfl
   rw [hw]
   by_cases e : w = z
   ·simp [e]
   ·have : z ≠ w := fun q => e q.symm
    simp [e, this]
  | false => exact Ev.step (fun k => by rw [spec_l7Next.l1, if_pos hi1, if_neg (by decide), wsucc h1 (by omega)]) (Ev.to (ih (i + 1) false h3) (by simp))
theorem next_l0 (hc : CrB p a = true) (hH : H.length ≤ 1000) (line : List Int) (hn : line.length ≤ 1048576) (hl : ∀ z ∈ line, 0 ≤ z ∧ z < p) (x : Nat) (hx : x < L.length) (hxl : L.getD x [] = line) : ∀ (zs : List Int) (j : Nat), line.drop j = zs → Ev (fun k => spec_l7Next.l0 k (x : Int) (j : Int) p L H a) (fw p a H zs) := by
 have c := CrB_of hc
 have g2 : 0 ≤ (x : Int) := by omega
 have g3 : (x : Int) < (L.length : Int) := by omega
 have hpw := pow_small c.1 c.2.1
 intro zs
 induction zs with
 | nil =>
  intro j h
  exact Ev.step (f := fun _ => some (-1)) (fun k => by rw [spec_l7Next.l0, if_pos g2, if_pos g3, rdL1n, hxl, if_neg (dnil h)]) (Ev.now _)
 | cons z zs ih =>
  intro j h
  obtain ⟨h1, h2, h3⟩ := dcons h
  have hz := hl z (List.mem_of_mem_drop (by rw [h]; simp))
  have e := next_l1 p L H a hH (x : Int) (j : Int) z _ (wz (by omega) (by omega)) (ih (j + 1) h3) H 0 (lv p a z) rfl
  have g4 : (j : Int) < (line.length : Int) := by omega
  have g5 : 0 ≤ (j : Int) := by omega
  refine Ev.step (fun k => ?_) e
  rw [spec_l7Next.l0, if_pos g2, if_pos g3, rdL1n, hxl, if_pos g4, if_pos g5, rdn, h2, if_pos hz.1, lv_spec1 p a c.2.1 c.2.2.1 (by omega) hz.1 hz.2]
  rfl
theorem next_ev (hc : CrB p a = true) (hH : H.length ≤ 1000) (hin : ∀ l ∈ L, l.length ≤ 1048576) (hok : ∀ l ∈ L, okF p [] l = true) (x : Nat) (hx : x < L.length) : Ev (fun k => spec_l7Next.f k p L H a (x : Int)) (fw p a H (L.getD x [])) := by
 have hm : L.getD x [] ∈ L := by
  rw [List.getD_eq_getElem?_getD, List.getElem?_eq_getElem hx]
  exact List.getElem_mem hx
 exact next_l0 p L H a hc hH _ (hin _ hm) (okF_in (hok _ hm)) x hx rfl _ 0 rfl
end

theorem Copy_l0 (p : Int) (L : List (List Int)) (H : List Int) (a p2 : Int) (H2 : List Int) (a2 : Int) (hL : L.length ≤ 1000) (hin : ∀ l ∈ L, l.length ≤ 1048576) : ∀ (zs : List (List Int)) (i : Nat) (out : List (List Int)), L.drop i = zs → out.length ≤ i → Ev (fun k => spec_l7Copy.l0 k (i : Int) p L H a p2 out H2 a2) (p2, out ++ zs, H2, a2) := by
 intro zs
 induction zs with
 | nil =>
  intro i out h ho
  exact Ev.step (fun k => by rw [spec_l7Copy.l0, if_neg (dnil h)]) (Ev.to (Ev.now (p2, out, H2, a2)) (by simp))
 | cons z zs ih =>
  intro i out h ho
  obtain ⟨h1, h2, h3⟩ := dcons h
  have hz : z ∈ L := List.mem_of_mem_drop (by rw [h]; simp)
  have hzl := hin z hz
  have e := ih (i + 1) (out ++ [z]) h3 (by simp <;> omega)
  refine Ev.step (fun k => ?_) (Ev.to e (by simp))
  rw [spec_l7Copy.l0, if_pos (by omega)]
  simp only [Option.bind_some, rdL1n, h2]
  rw [if_pos (by omega), if_pos (by simp <;> omega), if_pos (by omega), wsucc h1 (by omega)]
  simp
theorem Copy_ev (p : Int) (L : List (List Int)) (H : List Int) (a : Int) (hL : L.length ≤ 1000) (hH : H.length ≤ 1000) (hin : ∀ l ∈ L, l.length ≤ 1048576) : Ev (fun k => spec_l7Copy.f k p L H a) (p, L, H, a) := by
 unfold spec_l7Copy.f
 simp only [Option.bind_some, List.nil_append]
 simp only [if_pos (show ([] : List Int).length + H.length < 17592186044416 by simp <;> omega)]
 exact Copy_l0 p L H a p H a hL hin L 0 [] rfl (by simp)
def flF (p : Int) (L : List (List Int)) (a : Int) : Nat → List Int → Nat → List Int
 | 0, H, _ => H
 | n + 1, H, i => flF p L a n (if H.getD i 0 = -1 then H.set i (fw p a H (L.getD i [])) else H) (i + 1)
theorem flF_len (p : Int) (L : List (List Int)) (a : Int) : ∀ (n : Nat) (H : List Int) (i : Nat), (flF p L a n H i).length = H.length := by
 intro n
 induction n with
 | zero => intro H i; rfl
 | succ n ih =>
  intro H i
  rw [flF, ih]
  split <;> simp
theorem Filled_l0 (p : Int) (L : List (List Int)) (a : Int) (hc : CrB p a = true) (hin : ∀ l ∈ L, l.length ≤ 1048576) (hok : ∀ l ∈ L, okF p [] l = true) (hL : L.length ≤ 3) : ∀ (n : Nat) (H : List Int) (i : Nat), H.length = L.length → i + n = L.length → Ev (fun k => spec_FilledCourt.l0 k (i : Int) p L H a) (p, L, flF p L a n H i, a) := by
 intro n
 induction n with
 | zero =>
  intro H i hl h
  exact Ev.step (fun k => by rw [spec_FilledCourt.l0, if_neg (by omega)]) (Ev.now (p, L, H, a))
 | succ n ih =>
  intro H i hl h
  rw [flF]
  by_cases hv : H.getD i 0 = -1
  ·rw [if_pos hv]
   refine Ev.step (f := fun k => (spec_l7Next.f k p L H a (i : Int)).bind fun t => spec_FilledCourt.l0 k ((i + 1 : Nat) : Int) p L (H.set i t) a) (fun k => ?_) (Ev.bind (next_ev p L H a hc (by omega) hin hok i (by omega)) (ih _ (i + 1) (by simp; omega) (by omega)))
   rw [spec_FilledCourt.l0, if_pos (by omega), if_pos (by omega), rdn, if_pos hv, wsucc (show i < L.length by omega) (by omega)]
   rfl
  ·rw [if_neg hv]
   refine Ev.step (fun k => ?_) (ih H (i + 1) hl (by omega))
   rw [spec_FilledCourt.l0, if_pos (by omega), if_pos (by omega), rdn, if_neg hv, wsucc (show i < L.length by omega) (by omega)]
theorem spec_FilledCourt_ev (p : Int) (L : List (List Int)) (H : List Int) (a : Int) (hin : ∀ l ∈ L, l.length ≤ 1048576) : Ev (fun k => spec_FilledCourt.f k p L H a) (if CtB p L H a = true then (p, L, flF p L a L.length H 0, a) else (0, [], [], 0)) := by
 unfold spec_FilledCourt.f
 refine Ev.bind (spec_CourtOk_ev p L H a hin) ?_
 cases hc : CtB p L H a with
 | false => simp only [Bool.false_eq_true, if_false]; exact Ev.now _
 | true =>
  obtain ⟨c1, c2, c3, c4, c5⟩ := CtB_of hc
  simp only [if_true]
  exact Ev.bind (Copy_ev p L H a (by omega) (by omega) hin) (Filled_l0 p L a c1 hin c4 c2 L.length H 0 c3 (by omega))

section
variable (p : Int) (L : List (List Int)) (H : List Int) (a : Int)
theorem follower_l0 (hc : CrB p a = true) (hH : H.length ≤ 1000) (line : List Int) (hn : line.length ≤ 1048576) : ∀ (zs : List Int) (i : Nat), line.drop i = zs → Ev (fun k => impl_follower.l0 k line (line.length : Int) (i : Int) p L H a) (fw p a H zs) := by
 have c := CrB_of hc
 intro zs
 induction zs with
 | nil =>
  intro i h
  exact Ev.step (f := fun _ => some (-1)) (fun k => by rw [impl_follower.l0, if_neg (dnil h)]) (Ev.now _)
 | cons z zs ih =>
  intro i h
  obtain ⟨h1, h2, h3⟩ := dcons h
  have e := ih (i + 1) h3
  have hi1 : (i : Int) < (line.length : Int) := by omega
  have hi0 : 0 ≤ (i : Int) := by omega
  cases hl : lv p a z with
  | false =>
   refine Ev.step (f := fun k => impl_follower.l0 k line (line.length : Int) ((i + 1 : Nat) : Int) p L H a) (fun k => ?_) (Ev.to e (by simp [fw, hl]))
   rw [impl_follower.l0, if_pos hi1, if_pos hi0, if_pos hi1, rdn, h2, lives_eq p L H a z c.2.1 c.2.2.1 (by have := pow_small c.1 c.2.1; omega), hl, wsucc h1 (by omega)]
   rfl
  | true =>
   refine Ev.step (f := fun k => (slices_Contains_int_int.f k H z).bind fun t => if t = true then (impl_follower.l0 k line (line.length : Int) ((i + 1 : Nat) : Int) p L H a) else (some z)) (fun k => ?_) (Ev.bind (Contains_int_ev _ z (by omega)) ?_)
   ·rw [impl_follower.l0, if_pos hi1, if_pos hi0, if_pos hi1, rdn, h2, lives_eq p L H a z c.2.1 c.2.2.1 (by have := pow_small c.1 c.2.1; omega), hl, wsucc h1 (by omega)]
    rfl
   ·cases hh : has H z with
    | true => simp only [if_true]; exact Ev.to e (by simp [fw, hh])
    | false => simp only [Bool.false_eq_true, if_false]; exact Ev.to (Ev.now _) (by simp [fw, hl, hh])
theorem follower_ev (hc : CrB p a = true) (hH : H.length ≤ 1000) (hin : ∀ l ∈ L, l.length ≤ 1048576) (x : Nat) (hx : x < L.length) : Ev (fun k => impl_follower.f k p L H a (x : Int)) (fw p a H (L.getD x [])) := by
 unfold impl_follower.f
 simp only [if_pos (show 0 ≤ (x : Int) by omega), if_pos (show (x : Int) < (L.length : Int) by omega), rdL1n]
 refine follower_l0 p L H a hc hH (L.getD x []) (hin _ ?_) _ 0 rfl
 rw [List.getD_eq_getElem?_getD, List.getElem?_eq_getElem hx]
 exact List.getElem_mem hx
end

theorem icopy_l0 (X : List (List Int)) (p a : Int) (H : List Int) (hL : X.length ≤ 1000) (hin : ∀ l ∈ X, l.length ≤ 1048576) : ∀ (zs : List (List Int)) (i : Nat) (out : List (List Int)), X.drop i = zs → out.length ≤ i → Ev (fun k => impl_copyCourt.l0 k X (X.length : Int) (i : Int) p out H a) (p, out ++ zs, H, a) := by
 intro zs
 induction zs with
 | nil =>
  intro i out h ho
  exact Ev.step (fun k => by rw [impl_copyCourt.l0, if_neg (dnil h)]) (Ev.to (Ev.now (p, out, H, a)) (by simp))
 | cons z zs ih =>
  intro i out h ho
  obtain ⟨h1, h2, h3⟩ := dcons h
  have hz : z ∈ X := List.mem_of_mem_drop (by rw [h]; simp)
  have hzl := hin z hz
  have e := ih (i + 1) (out ++ [z]) h3 (by simp <;> omega)
  refine Ev.step (fun k => ?_) (Ev.to e (by simp))
  rw [impl_copyCourt.l0, if_pos (by omega), if_pos (by omega), if_pos (by omega)]
  simp only [Option.bind_some, rdL1n, h2]
  rw [if_pos (by simp <;> omega), if_pos (by omega), wsucc h1 (by omega)]
  simp
theorem icopy_ev (p : Int) (L : List (List Int)) (H : List Int) (a : Int) (hL : L.length ≤ 1000) (hH : H.length ≤ 1000) (hin : ∀ l ∈ L, l.length ≤ 1048576) : Ev (fun k => impl_copyCourt.f k p L H a) (p, L, H, a) := by
 unfold impl_copyCourt.f
 simp only [Option.bind_some, List.nil_append]
 simp only [if_pos (show ([] : List Int).length + H.length < 17592186044416 by simp <;> omega)]
 exact icopy_l0 L p a H hL hin L 0 [] rfl (by simp)
theorem ifilled_l0 (p : Int) (L : List (List Int)) (a : Int) (hc : CrB p a = true) (hin : ∀ l ∈ L, l.length ≤ 1048576) (hL : L.length ≤ 3) : ∀ (n : Nat) (H : List Int) (i : Nat), H.length = L.length → i + n = L.length → Ev (fun k => impl_filled.l0 k (L.length : Int) (i : Int) p L H a) (p, L, flF p L a n H i, a) := by
 intro n
 induction n with
 | zero =>
  intro H i hl h
  exact Ev.step (fun k => by rw [impl_filled.l0, if_neg (by omega)]) (Ev.now (p, L, H, a))
 | succ n ih =>
  intro H i hl h
  rw [flF]
  by_cases hv : H.getD i 0 = -1
  ·rw [if_pos hv]
   refine Ev.step (f := fun k => (impl_follower.f k p L H a (i : Int)).bind fun t => impl_filled.l0 k (L.length : Int) ((i + 1 : Nat) : Int) p L (H.set i t) a) (fun k => ?_) (Ev.bind (follower_ev p L H a hc (by omega) hin i (by omega)) (ih _ (i + 1) (by simp; omega) (by omega)))
   rw [impl_filled.l0, if_pos (by omega), if_pos (by omega), if_pos (by omega), rdn, if_pos hv, wsucc (show i < L.length by omega) (by omega)]
   rfl
  ·rw [if_neg hv]
   refine Ev.step (fun k => ?_) (ih H (i + 1) hl (by omega))
   rw [impl_filled.l0, if_pos (by omega), if_pos (by omega), if_pos (by omega), rdn, if_neg hv, wsucc (show i < L.length by omega) (by omega)]
theorem ifilled_ev (p : Int) (L : List (List Int)) (H : List Int) (a : Int) (hc : CrB p a = true) (hin : ∀ l ∈ L, l.length ≤ 1048576) (hL : L.length ≤ 3) (hl : H.length = L.length) : Ev (fun k => impl_filled.f k p L H a) (p, L, flF p L a L.length H 0, a) := by
 unfold impl_filled.f
 rw [hl]
 exact ifilled_l0 p L a hc hin hL L.length H 0 hl (by omega)
def Hd2 (p a : Int) (H : List Int) : Prop := ∀ i, i < H.length → H.getD i 0 = -1 ∨ (lv p a (H.getD i 0) = true ∧ ∀ j, j < i → H.getD j 0 ≠ H.getD i 0)
theorem mem_getD {H : List Int} {w : Int} : w ∈ H ↔ ∃ i, i < H.length ∧ H.getD i 0 = w := by
 constructor
 ·intro h
  obtain ⟨i, hi, e⟩ := List.getElem_of_mem h
  exact ⟨i, hi, by rw [List.getD_eq_getElem?_getD, List.getElem?_eq_getElem hi]; exact e⟩
 ·rintro ⟨i, hi, e⟩
  rw [List.getD_eq_getElem?_getD, List.getElem?_eq_getElem hi] at e
  exact e ▸ List.getElem_mem hi
theorem getD_set (H : List Int) (i j : Nat) (w : Int) (hi : i < H.length) : (H.set i w).getD j 0 = if i = j then w else H.getD j 0 := by
 rw [List.getD_eq_getElem?_getD, List.getElem?_set, List.getD_eq_getElem?_getD]
 by_cases e : i = j
 ·subst e
  simp [hi]
 ·simp [e]
theorem hoF_at (p a : Int) : ∀ (hs pre : List Int), hoF p a pre hs = true ↔ ∀ i, i < hs.length → hs.getD i 0 = -1 ∨ (lv p a (hs.getD i 0) = true ∧ has pre (hs.getD i 0) = false ∧ ∀ j, j < i → hs.getD j 0 ≠ hs.getD i 0) := by
 intro hs
 induction hs with
 | nil => intro pre; simp [hoF]
 | cons z zs ih =>
  intro pre
  rw [hoF, Bool.and_eq_true, ih (pre ++ [z])]
  have hp : ∀ w, has (pre ++ [z]) w = (has pre w || decide (w = z)) := fun w => by simp [has]
  constructor
  ·rintro ⟨h1, h2⟩ i hi
   cases i with
   | zero =>
    simp only [List.getD_cons_zero]
    simp only [Bool.or_eq_true, decide_eq_true_eq, Bool.and_eq_true, Bool.not_eq_true'] at h1
    rcases h1 with h1 | h1
    ·exact .inl h1
    ·exact .inr ⟨h1.1, h1.2, fun j hj => by omega⟩
   | succ i =>
    simp only [List.getD_cons_succ]
    rcases h2 i (by simpa using hi) with h3 | ⟨h3, h4, h5⟩
    ·exact .inl h3
    ·rw [hp] at h4
     simp only [Bool.or_eq_false_iff, decide_eq_false_iff_not] at h4
     refine .inr ⟨h3, h4.1, fun j hj => ?_⟩
     cases j with
     | zero => simp only [List.getD_cons_zero]; exact fun e => h4.2 e.symm
     | succ j => simp only [List.getD_cons_succ]; exact h5 j (by omega)
  ·intro h
   refine ⟨?_, fun i hi => ?_⟩
   ·have := h 0 (by simp)
    simp only [List.getD_cons_zero] at this
    rcases this with h1 | ⟨h1, h2, _⟩
    ·simp [h1]
    ·simp [h1, h2]
   ·have := h (i + 1) (by simpa using hi)
    simp only [List.getD_cons_succ] at this
    rcases this with h1 | ⟨h1, h2, h3⟩
    ·exact .inl h1
    ·refine .inr ⟨h1, ?_, fun j hj => ?_⟩
     ·rw [hp, h2, decide_eq_false]
      ·rfl
      ·have := h3 0 (by omega)
       simp only [List.getD_cons_zero] at this
       exact fun e => this e.symm
     ·have := h3 (j + 1) (by omega)
      simpa only [List.getD_cons_succ] using this
theorem hoF_iff (p a : Int) (H : List Int) : hoF p a [] H = true ↔ Hd2 p a H := by
 rw [hoF_at]
 unfold Hd2
 constructor
 ·intro h i hi
  rcases h i hi with h1 | ⟨h1, _, h3⟩
  ·exact .inl h1
  ·exact .inr ⟨h1, h3⟩
 ·intro h i hi
  rcases h i hi with h1 | ⟨h1, h3⟩
  ·exact .inl h1
  ·exact .inr ⟨h1, rfl, h3⟩
theorem Hd2_set {p a : Int} {H : List Int} {i : Nat} {w : Int} (h : Hd2 p a H) (hi : i < H.length) (hw : w = -1 ∨ (lv p a w = true ∧ w ∉ H)) : Hd2 p a (H.set i w) := by
 intro m hm
 rw [List.length_set] at hm
 rw [getD_set H i m w hi]
 by_cases e : i = m
 ·rw [if_pos e]
  rcases hw with hw | ⟨h1, h2⟩
  ·exact .inl hw
  ·refine .inr ⟨h1, fun j hj => ?_⟩
   rw [getD_set H i j w hi, if_neg (by omega)]
   exact fun q => h2 (mem_getD.2 ⟨j, by omega, q⟩)
 ·rw [if_neg e]
  rcases h m hm with h1 | ⟨h1, h2⟩
  ·exact .inl h1
  ·refine .inr ⟨h1, fun j hj => ?_⟩
   rw [getD_set H i j w hi]
   by_cases e2 : i = j
   ·rw [if_pos e2]
    rcases hw with hw | ⟨_, h4⟩
    ·rw [hw]
     intro q
     rw [← q] at h1
     revert h1
     unfold lv
     rw [decide_eq_false (by omega)]
     simp
    ·exact fun q => h4 (mem_getD.2 ⟨m, hm, q.symm⟩)
   ·rw [if_neg e2]
    exact h2 j hj
theorem lv_nn {p a w : Int} (h : lv p a w = true) : 0 ≤ w ∧ w < p := by
 unfold lv at h
 simp only [Bool.and_eq_true, decide_eq_true_eq] at h
 exact h.1
theorem fw_cases (p a : Int) (H : List Int) : ∀ (ws : List Int), fw p a H ws = -1 ∨ (lv p a (fw p a H ws) = true ∧ fw p a H ws ∉ H) := by
 intro ws
 induction ws with
 | nil => exact .inl rfl
 | cons w ws ih =>
  unfold fw
  split
  ·rename_i h
   simp only [Bool.and_eq_true, Bool.not_eq_true'] at h
   refine .inr ⟨h.1, fun hm => ?_⟩
   rw [(has_iff H w).2 hm] at h
   cases h.2
  ·exact ih
section
variable (p : Int) (L : List (List Int)) (a : Int)
theorem flF_hd2 : ∀ (n : Nat) (H : List Int) (i : Nat), i + n ≤ H.length → Hd2 p a H → Hd2 p a (flF p L a n H i) := by
 intro n
 induction n with
 | zero => intro H i _ h; exact h
 | succ n ih =>
  intro H i hi h
  rw [flF]
  by_cases e : H.getD i 0 = -1
  ·rw [if_pos e]
   exact ih _ _ (by simp; omega) (Hd2_set h (by omega) (fw_cases p a H _))
  ·rw [if_neg e]
   exact ih _ _ (by omega) h
theorem fl_court (H : List Int) (hc : CtB p L H a = true) : CtB p L (flF p L a L.length H 0) a = true := by
 obtain ⟨c1, c2, c3, c4, c5⟩ := CtB_of hc
 have h5 : hoF p a [] (flF p L a L.length H 0) = true := (hoF_iff p a _).2 (flF_hd2 p L a L.length H 0 (by omega) ((hoF_iff p a H).1 c5))
 unfold CtB
 rw [h5, flF_len, c1, c3, List.all_eq_true.2 c4]
 simp
 omega
end

def dv (w : Int) (H : List Int) : List Int := H.map fun h => if h = w then -1 else h
theorem dv_len (w : Int) (H : List Int) : (dv w H).length = H.length := by simp [dv]
theorem dv_at (w : Int) (H : List Int) {i : Nat} (h : i < H.length) : (dv w H).getD i 0 = if H.getD i 0 = w then -1 else H.getD i 0 := by
 unfold dv
 rw [List.getD_eq_getElem?_getD, List.getElem?_map, List.getD_eq_getElem?_getD, List.getElem?_eq_getElem h]
 rfl
theorem shl_all : ∀ w : Fin 6, shl .i64 1 (w.val : Int) = 2 ^ w.val := by decide +kernel
theorem xor_all2 : ∀ (a : Fin 64) (w : Fin 6), (a.val : Int) / 2 ^ w.val % 2 = 1 → Go.bits .xor .i64 (a.val : Int) (2 ^ w.val) = (a.val : Int) - 2 ^ w.val ∧ 0 ≤ (a.val : Int) - 2 ^ w.val := by decide +kernel
theorem sub_all : ∀ (a : Fin 64) (w j : Fin 6), (a.val : Int) / 2 ^ w.val % 2 = 1 → ((a.val : Int) - 2 ^ w.val) / 2 ^ j.val % 2 = if j = w then 0 else (a.val : Int) / 2 ^ j.val % 2 := by decide +kernel
theorem lv_bit {p a w : Int} (h : lv p a w = true) : a / 2 ^ w.toNat % 2 = 1 := by
 unfold lv at h
 simp only [Bool.and_eq_true, decide_eq_true_eq] at h
 exact h.2
section
variable {p a w : Int} (hp : p ≤ 6) (h0 : 0 ≤ a) (h1 : a < 64) (hl : lv p a w = true)
include hp h0 h1 hl
theorem death_num : shl .i64 1 w = 2 ^ w.toNat ∧ Go.bits .xor .i64 a (2 ^ w.toNat) = a - 2 ^ w.toNat ∧ 0 ≤ a - 2 ^ w.toNat ∧ a - 2 ^ w.toNat ≤ a := by
 have hw := lv_nn hl
 have hb := lv_bit hl
 obtain ⟨n, rfl⟩ := Int.eq_ofNat_of_zero_le hw.1
 obtain ⟨m, rfl⟩ := Int.eq_ofNat_of_zero_le h0
 have s := shl_all ⟨n, by omega⟩
 have x := xor_all2 ⟨m, by omega⟩ ⟨n, by omega⟩ hb
 have pp : (0 : Int) < 2 ^ n := Int.pow_pos (by decide)
 exact ⟨s, x.1, x.2, by show (m : Int) - 2 ^ n ≤ m; omega⟩
theorem lv_sub (v : Int) : lv p (a - 2 ^ w.toNat) v = (lv p a v && decide (v ≠ w)) := by
 have hw := lv_nn hl
 have hb := lv_bit hl
 unfold lv
 by_cases hv : 0 ≤ v ∧ v < p
 ·obtain ⟨n, rfl⟩ := Int.eq_ofNat_of_zero_le hw.1
  obtain ⟨m, rfl⟩ := Int.eq_ofNat_of_zero_le h0
  obtain ⟨j, rfl⟩ := Int.eq_ofNat_of_zero_le hv.1
  have s := sub_all ⟨m, by omega⟩ ⟨n, by omega⟩ ⟨j, by omega⟩ hb
  have s2 : ((m : Int) - 2 ^ n) / 2 ^ j % 2 = if j = n then 0 else (m : Int) / 2 ^ j % 2 := by
   rw [s]
   by_cases e : j = n
   ·subst e; simp
   ·rw [if_neg e, if_neg (fun q => e (congrArg Fin.val q))]
  rw [decide_eq_true hv, Bool.true_and, Bool.true_and]
  show decide (((m : Int) - 2 ^ n) / 2 ^ j % 2 = 1) = _
  rw [s2]
  by_cases e : j = n
  ·subst e; simp
  ·rw [if_neg e]
   rw [decide_eq_true (show (j : Int) ≠ (n : Int) by omega), Bool.and_true]
   rfl
 ·rw [decide_eq_false hv, Bool.false_and, Bool.false_and, Bool.false_and]
end
theorem death_court {p a w : Int} {L : List (List Int)} {H : List Int} (hc : CtB p L H a = true) (hl : lv p a w = true) : CtB p L (dv w H) (a - 2 ^ w.toNat) = true := by
 obtain ⟨c1, c2, c3, c4, c5⟩ := CtB_of hc
 have cr := CrB_of c1
 have ps := pow_small cr.1 cr.2.1
 have dn := death_num cr.2.1 cr.2.2.1 (by omega) hl
 have c1' : CrB p (a - 2 ^ w.toNat) = true := decide_eq_true ⟨cr.1, cr.2.1, dn.2.2.1, by omega⟩
 have c5' : hoF p (a - 2 ^ w.toNat) [] (dv w H) = true := by
  rw [hoF_iff] at c5 ⊢
  intro i hi
  rw [dv_len] at hi
  rw [dv_at w H hi]
  by_cases e : H.getD i 0 = w
  ·rw [if_pos e]; exact .inl rfl
  ·rw [if_neg e]
   rcases c5 i hi with h1 | ⟨h1, h2⟩
   ·exact .inl h1
   ·refine .inr ⟨by rw [lv_sub cr.2.1 cr.2.2.1 (by omega) hl, h1, decide_eq_true e]; rfl, fun j hj => ?_⟩
    rw [dv_at w H (show j < H.length by omega)]
    by_cases e2 : H.getD j 0 = w
    ·rw [if_pos e2]
     have := (lv_nn h1).1
     omega
    ·rw [if_neg e2]
     exact h2 j hj
 unfold CtB
 rw [c5', dv_len, c1', c3, List.all_eq_true.2 c4]
 simp
 omega
theorem firstAt_cases (w : Int) : ∀ (hs : List Int) (x : Nat), (firstAt (fun y => decide (w = y)) hs x = -1 ∧ w ∉ hs) ∨ ∃ i, firstAt (fun y => decide (w = y)) hs x = ((x + i : Nat) : Int) ∧ i < hs.length ∧ hs.getD i 0 = w := by
 intro hs
 induction hs with
 | nil => intro x; exact .inl ⟨rfl, by simp⟩
 | cons h hs ih =>
  intro x
  unfold firstAt
  by_cases e : w = h
  ·exact .inr ⟨0, by simp [e], by simp, by simpa using e.symm⟩
  ·rw [if_neg (by simpa using e)]
   rcases ih (x + 1) with ⟨h1, h2⟩ | ⟨i, h1, h2, h3⟩
   ·exact .inl ⟨h1, by simp [e, h2]⟩
   ·exact .inr ⟨i + 1, by rw [h1]; congr 1; omega, by simp; omega, by simpa using h3⟩
theorem dv_none {w : Int} {H : List Int} (h : w ∉ H) : dv w H = H := by
 unfold dv
 have : ∀ x ∈ H, (if x = w then -1 else x) = x := fun x hx => if_neg (fun e : x = w => h (by rw [← e]; exact hx))
 rw [List.map_congr_left this]
 simp
theorem dv_set {p a w : Int} {H : List Int} (hh : Hd2 p a H) (hl : lv p a w = true) {i : Nat} (hi : i < H.length) (e : H.getD i 0 = w) : H.set i (-1) = dv w H := by
 have hw := (lv_nn hl).1
 have uniq : ∀ j, j < H.length → H.getD j 0 = w → j = i := fun j hj e2 => by
  rcases Nat.lt_trichotomy i j with q | q | q
  ·rcases hh j hj with h1 | ⟨_, h2⟩
   ·omega
   ·exact absurd (e.trans e2.symm) (h2 i q)
  ·exact q.symm
  ·rcases hh i hi with h1 | ⟨_, h2⟩
   ·omega
   ·exact absurd (e2.trans e.symm) (h2 j q)
 apply List.ext_getElem?
 intro j
 unfold dv
 rw [List.getElem?_set, List.getElem?_map]
 by_cases q : i = j
 ·subst q
  rw [if_pos rfl, if_pos hi]
  rw [List.getD_eq_getElem?_getD, List.getElem?_eq_getElem hi] at e
  rw [List.getElem?_eq_getElem hi]
  have e : H[i] = w := by simpa using e
  simp [e]
 ·rw [if_neg q]
  by_cases hj : j < H.length
  ·have : H.getD j 0 ≠ w := fun e2 => q (uniq j hj e2).symm
   rw [List.getD_eq_getElem?_getD, List.getElem?_eq_getElem hj] at this
   rw [List.getElem?_eq_getElem hj]
   have this : H[j] ≠ w := by simpa using this
   simp [this]
  ·rw [List.getElem?_eq_none (by omega)]
   rfl
def adH (p : Int) (L : List (List Int)) (H : List Int) (a w : Int) : List Int := flF p L (a - 2 ^ w.toNat) L.length (dv w H) 0
theorem adH_len (p : Int) (L : List (List Int)) (H : List Int) (a w : Int) : (adH p L H a w).length = H.length := by unfold adH; rw [flF_len, dv_len]
theorem ad_court {p a w : Int} {L : List (List Int)} {H : List Int} (hc : CtB p L H a = true) (hl : lv p a w = true) : CtB p L (adH p L H a w) (a - 2 ^ w.toNat) = true := fl_court p L _ _ (death_court hc hl)
section
variable (p : Int) (L : List (List Int)) (H : List Int) (a w : Int) (hin : ∀ l ∈ L, l.length ≤ 1048576)
include hin
theorem iafter_ev (hc : CtB p L H a = true) (hl : lv p a w = true) : Ev (fun k => impl_afterDeath.f k p L H a w) (p, L, adH p L H a w, a - 2 ^ w.toNat) := by
 obtain ⟨c1, c2, c3, c4, c5⟩ := CtB_of hc
 have cr := CrB_of c1
 have ps := pow_small cr.1 cr.2.1
 have dn := death_num cr.2.1 cr.2.2.1 (by omega) hl
 have hw := lv_nn hl
 have dc := death_court hc hl
 obtain ⟨d1, d2, d3, d4, d5⟩ := CtB_of dc
 have fe := ifilled_ev p L (dv w H) (a - 2 ^ w.toNat) d1 hin c2 d3
 unfold impl_afterDeath.f
 refine Ev.bind (icopy_ev p L H a (by omega) (by omega) hin) ?_
 simp only [if_pos hw.1]
 refine Ev.bind (Index_int_ev H w (by omega)) ?_
 simp only [dn.1, dn.2.1]
 rcases firstAt_cases w H 0 with ⟨h1, h2⟩ | ⟨i, h1, h2, h3⟩
 ·rw [h1]
  simp only [if_neg (show ¬ ((-1 : Int) ≥ 0) by decide)]
  rw [dv_none h2] at fe
  refine Ev.bind fe (Ev.to (Ev.now _) ?_)
  unfold adH
  rw [dv_none h2]
 ·rw [h1, Nat.zero_add]
  simp only [if_pos (show (i : Int) ≥ 0 by omega), if_pos (show 0 ≤ (i : Int) by omega), if_pos (show (i : Int) < (H.length : Int) by omega)]
  rw [Int.toNat_natCast, dv_set ((hoF_iff p a H).1 c5) hl h2 h3]
  exact Ev.bind fe (Ev.now _)
end
section
variable (p : Int) (L : List (List Int)) (a w : Int) (hin : ∀ l ∈ L, l.length ≤ 1048576)
include hin
theorem sdeath_l0 (H0 : List Int) (b : Int) (hc : CtB p L (dv w H0) b = true) (hn : H0.length ≤ 1000) : ∀ (zs pre : List Int), pre.length + zs.length = H0.length → dv w H0 = pre ++ dv w zs → Ev (fun k => spec_AfterDeath.l0 k w (pre.length : Int) p L (pre ++ zs) b) (p, L, flF p L b L.length (dv w H0) 0, b, true) := by
 intro zs
 induction zs with
 | nil =>
  intro pre h1 h2
  have hd : dv w H0 = pre := by simpa [dv] using h2
  have ef := spec_FilledCourt_ev p L (dv w H0) b hin
  rw [if_pos hc] at ef
  refine Ev.step (fun k => by rw [spec_AfterDeath.l0, if_neg (by simp)]) ?_
  rw [List.append_nil, ← hd]
  exact Ev.bind ef (Ev.now _)
 | cons z zs ih =>
  intro pre h1 h2
  have hl : (pre ++ z :: zs).length = H0.length := by simp at h1 ⊢; omega
  have hg : (pre ++ z :: zs).getD pre.length 0 = z := by simp
  have hw : wrap64 ((pre.length : Int) + 1) = ((pre.length + 1 : Nat) : Int) := wsucc (n := H0.length) (by simp at h1; omega) (by omega)
  by_cases e : z = w
  ·have e1 := ih (pre ++ [-1]) (by simp at h1 ⊢; omega) (by rw [h2]; simp [dv, e])
   refine Ev.step (fun k => ?_) e1
   rw [spec_AfterDeath.l0, if_pos (by simp; omega), if_pos (by omega), rdn, hg, if_pos e, hw]
   simp
  ·have e1 := ih (pre ++ [z]) (by simp at h1 ⊢; omega) (by rw [h2]; simp [dv, e])
   refine Ev.step (fun k => ?_) e1
   rw [spec_AfterDeath.l0, if_pos (by simp; omega), if_pos (by omega), rdn, hg, if_neg e, hw]
   simp
theorem sAfterDeath_ev (H : List Int) : Ev (fun k => spec_AfterDeath.f k p L H a w) (if (CtB p L H a && lv p a w) = true then (p, L, adH p L H a w, a - 2 ^ w.toNat, true) else (0, [], [], 0, false)) := by
 have no : Ev (fun k => spec_AfterDeath.j0 k w true p L H a) (0, [], [], 0, false) := Ev.step (fun k => by rw [spec_AfterDeath.j0, if_pos rfl]) (Ev.now _)
 unfold spec_AfterDeath.f
 refine Ev.bind (spec_CourtOk_ev p L H a hin) ?_
 cases hc : CtB p L H a with
 | false => simp only [Bool.false_eq_true, if_false, Bool.false_and]; exact no
 | true =>
  obtain ⟨c1, c2, c3, c4, c5⟩ := CtB_of hc
  have cr := CrB_of c1
  have ps := pow_small cr.1 cr.2.1
  have wp : wrap64 (p - 1) = p - 1 := wz (by omega) (by omega)
  simp only [if_true, l1In_eq2, Option.bind_some, wp, Bool.true_and]
  by_cases hr : 0 ≤ w ∧ w ≤ p - 1
  ·rw [decide_eq_true hr]
   simp only [if_true, if_pos hr.1]
   rw [lv_spec p a cr.2.1 cr.2.2.1 (by omega) hr.1 (by omega)]
   cases hl : lv p a w with
   | false => simp only [Bool.not_false, Bool.false_eq_true, if_false]; exact no
   | true =>
    have dn := death_num cr.2.1 cr.2.2.1 (by omega) hl
    simp only [Bool.not_true, if_true]
    have wa : wrap64 (a - shl .i64 1 w) = a - 2 ^ w.toNat := by rw [dn.1]; exact wz (by omega) (by omega)
    refine Ev.step (fun k => by rw [spec_AfterDeath.j0, if_neg (by decide)]) (Ev.bind (Copy_ev p L H a (by omega) (by omega) hin) ?_)
    simp only [if_pos hr.1, wa]
    exact sdeath_l0 p L w hin H (a - 2 ^ w.toNat) (death_court hc hl) (by omega) H [] (by simp) (by simp)
  ·rw [decide_eq_false hr]
   have hl : lv p a w = false := by
    cases hl : lv p a w with
    | false => rfl
    | true => have := lv_nn hl; omega
   simp only [hl, Bool.false_eq_true, if_false]
   exact no
end

def adF (p : Int) (L : List (List Int)) : List Int → List Int → Int → Int → List Int × Int × Int
 | [], H, a, n => (H, a, n)
 | w :: ws, H, a, n => if lv p a w = true then adF p L ws (adH p L H a w) (a - 2 ^ w.toNat) (n + 1) else adF p L ws H a n
section
variable (p : Int) (L : List (List Int)) (hin : ∀ l ∈ L, l.length ≤ 1048576)
include hin
theorem ideaths_l0 (X : List Int) (hX : X.length ≤ 1000) : ∀ (zs : List Int) (i : Nat) (H : List Int) (a n : Int), X.drop i = zs → CtB p L H a = true → 0 ≤ n → n ≤ i → Ev (fun k => impl_AfterDeaths.l0 k n X (X.length : Int) (i : Int) p L H a) (p, L, (adF p L zs H a n).1, (adF p L zs H a n).2.1, (adF p L zs H a n).2.2) := by
 intro zs
 induction zs with
 | nil =>
  intro i H a n h hc h0 h1
  exact Ev.step (fun k => by rw [impl_AfterDeaths.l0, if_neg (dnil h)]) (Ev.now (p, L, H, a, n))
 | cons z zs ih =>
  intro i H a n h hc h0 h1
  obtain ⟨k1, k2, k3⟩ := dcons h
  have cr := CrB_of (CtB_of hc).1
  have ps := pow_small cr.1 cr.2.1
  have lz := lives_eq p L H a z cr.2.1 cr.2.2.1 (by omega)
  rw [adF]
  have st : ∀ k, impl_AfterDeaths.l0 (k + 1) n X (X.length : Int) (i : Int) p L H a = _ := fun k => by rw [impl_AfterDeaths.l0, if_pos (by omega), if_pos (by omega), if_pos (by omega), rdn, k2, lz, Option.bind_some, wsucc k1 (by omega), wz (x := n + 1) (by omega) (by omega)]
  cases hl : lv p a z with
  | false =>
   rw [if_neg (by decide)]
   refine Ev.step st ?_
   simp only [hl, Bool.false_eq_true, if_false]
   exact ih (i + 1) H a n k3 hc h0 (by omega)
  | true =>
   rw [if_pos rfl]
   refine Ev.step st ?_
   simp only [hl, if_true]
   exact Ev.bind (iafter_ev p L H a z hin hc hl) (ih (i + 1) _ _ (n + 1) k3 (ad_court hc hl) (by omega) (by omega))
theorem iAfterDeaths_ev (H : List Int) (a : Int) (X : List Int) : Ev (fun k => impl_AfterDeaths.f k p L H a X) (if (CtB p L H a && decide (X.length ≤ 20)) = true then (p, L, (adF p L X H a 0).1, (adF p L X H a 0).2.1, (adF p L X H a 0).2.2) else (0, [], [], 0, -1)) := by
 have no : Ev (fun k => impl_AfterDeaths.j0 k X true p L H a) (0, [], [], 0, -1) := Ev.step (fun k => by rw [impl_AfterDeaths.j0, if_pos rfl]) (Ev.now _)
 unfold impl_AfterDeaths.f
 refine Ev.bind (isCourt_ev p L H a hin) ?_
 cases hc : CtB p L H a with
 | false => simp only [Bool.false_eq_true, if_false, Bool.false_and]; exact no
 | true =>
  obtain ⟨c1, c2, c3, c4, c5⟩ := CtB_of hc
  simp only [if_true, Bool.true_and]
  by_cases hx : X.length ≤ 20
  ·rw [decide_eq_false (show ¬ ((X.length : Int) > 20) by omega), decide_eq_true hx, if_pos rfl]
   exact Ev.step (fun k => by rw [impl_AfterDeaths.j0, if_neg (by decide)]) (Ev.bind (icopy_ev p L H a (by omega) (by omega) hin) (ideaths_l0 p L hin X (by omega) X 0 H a 0 rfl hc (by omega) (by omega)))
  ·rw [decide_eq_true (show ((X.length : Int) > 20) by omega), decide_eq_false hx, if_neg (by decide)]
   exact no
end
theorem adF_len (p : Int) (L : List (List Int)) : ∀ (ws H : List Int) (a n : Int), (adF p L ws H a n).1.length = H.length := by
 intro ws
 induction ws with
 | nil => intro H a n; rfl
 | cons w ws ih =>
  intro H a n
  rw [adF]
  split
  ·rw [ih, adH_len]
  ·exact ih H a n

section
variable (p : Int) (L : List (List Int)) (hin : ∀ l ∈ L, l.length ≤ 1048576)
include hin
theorem sdeaths_l0 (X : List Int) (hX : X.length ≤ 1000) : ∀ (zs : List Int) (i : Nat) (H : List Int) (a n : Int), X.drop i = zs → CtB p L H a = true → 0 ≤ n → n ≤ i → Ev (fun k => spec_AfterDeaths.l0 k X n (i : Int) p L H a) (p, L, (adF p L zs H a n).1, (adF p L zs H a n).2.1, (adF p L zs H a n).2.2) := by
 intro zs
 induction zs with
 | nil =>
  intro i H a n h hc h0 h1
  exact Ev.step (fun k => by rw [spec_AfterDeaths.l0, if_neg (dnil h)]) (Ev.now (p, L, H, a, n))
 | cons z zs ih =>
  intro i H a n h hc h0 h1
  obtain ⟨k1, k2, k3⟩ := dcons h
  have es := sAfterDeath_ev p L a z hin H
  rw [adF]
  cases hl : lv p a z with
  | false =>
   rw [hc, hl] at es
   rw [if_neg (by decide)] at es ⊢
   refine Ev.step (f := fun k => (spec_AfterDeath.f k p L H a z).bind _) (fun k => by rw [spec_AfterDeaths.l0, if_pos (by omega), if_pos (by omega), rdn, k2, wsucc k1 (by omega), wz (x := n + 1) (by omega) (by omega)]) (Ev.bind es ?_)
   simp only [Bool.false_eq_true, if_false]
   exact ih (i + 1) H a n k3 hc h0 (by omega)
  | true =>
   rw [hc, hl, if_pos (by decide)] at es
   rw [if_pos rfl]
   refine Ev.step (f := fun k => (spec_AfterDeath.f k p L H a z).bind _) (fun k => by rw [spec_AfterDeaths.l0, if_pos (by omega), if_pos (by omega), rdn, k2, wsucc k1 (by omega), wz (x := n + 1) (by omega) (by omega)]) (Ev.bind es ?_)
   simp only [if_true]
   exact ih (i + 1) _ _ (n + 1) k3 (ad_court hc hl) (by omega) (by omega)
theorem sAfterDeaths_ev (H : List Int) (a : Int) (X : List Int) : Ev (fun k => spec_AfterDeaths.f k p L H a X) (if (CtB p L H a && decide (X.length ≤ 20)) = true then (p, L, (adF p L X H a 0).1, (adF p L X H a 0).2.1, (adF p L X H a 0).2.2) else (0, [], [], 0, -1)) := by
 have no : Ev (fun k => spec_AfterDeaths.j0 k X true p L H a) (0, [], [], 0, -1) := Ev.step (fun k => by rw [spec_AfterDeaths.j0, if_pos rfl]) (Ev.now _)
 unfold spec_AfterDeaths.f
 refine Ev.bind (spec_CourtOk_ev p L H a hin) ?_
 cases hc : CtB p L H a with
 | false => simp only [Bool.false_eq_true, if_false, Bool.false_and]; exact no
 | true =>
  obtain ⟨c1, c2, c3, c4, c5⟩ := CtB_of hc
  simp only [if_true, Bool.true_and]
  by_cases hx : X.length ≤ 20
  ·rw [decide_eq_false (show ¬ ((X.length : Int) > 20) by omega), decide_eq_true hx, if_pos rfl]
   exact Ev.step (fun k => by rw [spec_AfterDeaths.j0, if_neg (by decide)]) (Ev.bind (Copy_ev p L H a (by omega) (by omega) hin) (sdeaths_l0 p L hin X (by omega) X 0 H a 0 rfl hc (by omega) (by omega)))
  ·rw [decide_eq_true (show ((X.length : Int) > 20) by omega), decide_eq_false hx, if_neg (by decide)]
   exact no
end

theorem eqIntS_l0 (xs : List Int) (hn : xs.length ≤ 9223372036854775807) : ∀ (ys : List Int) (i : Nat), xs.drop i = ys → Ev (fun k => laws_eqIntS.l0 k xs xs (i : Int)) true := by
 intro ys
 induction ys with
 | nil =>
  intro i h
  exact Ev.step (f := fun _ => some true) (fun k => by rw [laws_eqIntS.l0, if_neg (dnil h)]) (Ev.now _)
 | cons y ys ih =>
  intro i h
  obtain ⟨h1, h2, h3⟩ := dcons h
  refine Ev.step (f := fun k => laws_eqIntS.l0 k xs xs ((i + 1 : Nat) : Int)) (fun k => ?_) (ih (i + 1) h3)
  rw [laws_eqIntS.l0, if_pos (by omega), if_pos (by omega), if_pos (by omega), if_pos rfl, wsucc h1 hn]
theorem eqIntS_ev (xs : List Int) (hn : xs.length ≤ 9223372036854775807) : Ev (fun k => laws_eqIntS.f k xs xs) true := by
 unfold laws_eqIntS.f
 simp only [if_true]
 exact eqIntS_l0 xs hn xs 0 rfl

def mk (a : Int) (l : List Int) (i : Nat) : List Int := (List.range i).map (fun (j : Nat) => a + (j : Int)) ++ l.drop i
theorem mk_len (a : Int) (l : List Int) {i : Nat} (h : i ≤ l.length) : (mk a l i).length = l.length := by simp [mk]; omega
theorem mk_set (a : Int) (l : List Int) {i : Nat} (h : i < l.length) : (mk a l i).set i (a + i) = mk a l (i + 1) := by
 unfold mk
 have hlen : ((List.range i).map (fun (j : Nat) => a + (j : Int))).length = i := by simp
 rw [List.set_append_right _ _ (by omega), hlen, Nat.sub_self, List.drop_eq_getElem_cons h, List.range_succ, List.map_append, List.set_cons_zero, List.append_assoc]
 rfl
theorem mk_get (a : Int) (l : List Int) {i n : Nat} (h : i < n) (hn : n ≤ l.length) : (mk a l n).getD i 0 = a + i := by
 unfold mk
 rw [List.getD_eq_getElem?_getD, List.getElem?_append_left (by simp; exact h)]
 simp [h]
theorem markIntS_l0 (a : Int) (l : List Int) (ha : 0 ≤ a) (hb : a ≤ 1000000000) (hn : l.length ≤ 1000000000) : ∀ (d i : Nat), i + d = l.length → Ev (fun k => laws_markIntS.l0 k (mk a l i) (a + (i : Int)) (i : Int)) (a + l.length, mk a l l.length) := by
 intro d
 induction d with
 | zero =>
  intro i h
  obtain rfl : i = l.length := by omega
  exact Ev.step (f := fun _ => some (a + (l.length : Int), mk a l l.length)) (fun k => by rw [laws_markIntS.l0, if_neg (by rw [mk_len a l (Nat.le_refl _)]; omega)]) (Ev.now _)
 | succ d ih =>
  intro i h
  refine Ev.step (f := fun k => laws_markIntS.l0 k (mk a l (i + 1)) (a + ((i + 1 : Nat) : Int)) ((i + 1 : Nat) : Int)) (fun k => ?_) (ih (i + 1) (by omega))
  rw [laws_markIntS.l0, if_pos (by rw [mk_len a l (by omega)]; omega), if_pos (by omega), wz (x := a + i + 1) (by omega) (by omega), wz (x := (i : Int) + 1) (by omega) (by omega)]
  have := mk_set a l (i := i) (by omega)
  rw [show ((i : Int)).toNat = i from rfl, this, show a + (i : Int) + 1 = a + ((i + 1 : Nat) : Int) by omega, show (i : Int) + 1 = ((i + 1 : Nat) : Int) by omega]
theorem markIntS_ev (a : Int) (l : List Int) (ha : 0 ≤ a) (hb : a ≤ 1000000000) (hn : l.length ≤ 1000000000) : Ev (fun k => laws_markIntS.f k l a) (a + l.length, mk a l l.length) := by
 have := markIntS_l0 a l ha hb hn l.length 0 (by omega)
 unfold laws_markIntS.f
 simpa [mk] using this
theorem heldIntS_l0 (a : Int) (l : List Int) (ha : 0 ≤ a) (hb : a ≤ 1000000000) (hn : l.length ≤ 1000000000) : ∀ (d i : Nat), i + d = l.length → Ev (fun k => laws_heldIntS.l0 k (mk a l l.length) (a + (i : Int)) (i : Int)) (a + l.length) := by
 intro d
 induction d with
 | zero =>
  intro i h
  obtain rfl : i = l.length := by omega
  exact Ev.step (f := fun _ => some (a + (l.length : Int))) (fun k => by rw [laws_heldIntS.l0, if_neg (by rw [mk_len a l (Nat.le_refl _)]; omega)]) (Ev.now _)
 | succ d ih =>
  intro i h
  refine Ev.step (f := fun k => laws_heldIntS.l0 k (mk a l l.length) (a + ((i + 1 : Nat) : Int)) ((i + 1 : Nat) : Int)) (fun k => ?_) (ih (i + 1) (by omega))
  rw [laws_heldIntS.l0, if_pos (by rw [mk_len a l (Nat.le_refl _)]; omega), if_pos (by omega), rdn, mk_get a l (by omega) (Nat.le_refl _), if_pos rfl, wz (x := a + i + 1) (by omega) (by omega), wz (x := (i : Int) + 1) (by omega) (by omega)]
  rw [show a + (i : Int) + 1 = a + ((i + 1 : Nat) : Int) by omega, show (i : Int) + 1 = ((i + 1 : Nat) : Int) by omega]
theorem heldIntS_ev (a : Int) (l : List Int) (ha : 0 ≤ a) (hb : a ≤ 1000000000) (hn : l.length ≤ 1000000000) : Ev (fun k => laws_heldIntS.f k (mk a l l.length) a) (a + l.length) := by
 have := heldIntS_l0 a l ha hb hn l.length 0 (by omega)
 unfold laws_heldIntS.f
 simpa using this

theorem toIntS_l0 (l : List Int) (hn : l.length ≤ 9223372036854775807) : ∀ (ys : List Int) (i : Nat), l.drop i = ys → Ev (fun k => laws_toIntS.l0 k l ((l.take i).map id ++ List.replicate (l.length - i) 0) (i : Int)) (l.map id) := by
 intro ys
 induction ys with
 | nil =>
  intro i h
  have hi := List.drop_eq_nil_iff.1 h
  refine Ev.step (f := fun _ => some (l.map id)) (fun k => ?_) (Ev.now _)
  rw [laws_toIntS.l0, if_neg (dnil h), List.take_of_length_le hi, show l.length - i = 0 by omega]
  simp
 | cons y ys ih =>
  intro i h
  obtain ⟨h1, h2, h3⟩ := dcons h
  refine Ev.step (f := fun k => laws_toIntS.l0 k l ((l.take (i + 1)).map id ++ List.replicate (l.length - (i + 1)) 0) ((i + 1 : Nat) : Int)) (fun k => ?_) (ih (i + 1) h3)
  rw [laws_toIntS.l0, if_pos (by omega), if_pos (by omega), rdn, h2, if_pos (by simp <;> omega), wsucc h1 hn, ← set_mid l id 0 h]
  rfl
theorem toIntS_ev (l : List Int) (hn : l.length ≤ 1048576) : Ev (fun k => laws_toIntS.f k l) l := by
 unfold laws_toIntS.f
 simp only [if_pos (show 0 ≤ (l.length : Int) by omega), if_pos (show ((l.length : Int)).toNat ≤ 35184372088832 by omega)]
 have := toIntS_l0 l (by omega) l 0 rfl
 simpa using this

theorem toIntSS_l0 (l : List (List Int)) (hn : l.length ≤ 9223372036854775807) (hin : ∀ x ∈ l, x.length ≤ 1048576) : ∀ (ys : List (List Int)) (i : Nat), l.drop i = ys → Ev (fun k => laws_toIntSS.l0 k l ((l.take i).map id ++ List.replicate (l.length - i) []) (i : Int)) (l.map id) := by
 intro ys
 induction ys with
 | nil =>
  intro i h
  have hi := List.drop_eq_nil_iff.1 h
  refine Ev.step (f := fun _ => some (l.map id)) (fun k => ?_) (Ev.now _)
  rw [laws_toIntSS.l0, if_neg (dnil h), List.take_of_length_le hi, show l.length - i = 0 by omega]
  simp
 | cons y ys ih =>
  intro i h
  obtain ⟨h1, h2, h3⟩ := dcons h
  have hy : y ∈ l := List.mem_of_mem_drop (by rw [h]; simp)
  refine Ev.step (f := fun k => (laws_toIntS.f k y).bind fun t => laws_toIntSS.l0 k l (((l.take i).map id ++ List.replicate (l.length - i) []).set i t) ((i + 1 : Nat) : Int)) (fun k => ?_) (Ev.bind (toIntS_ev y (hin y hy)) ?_)
  ·have hc : (i : Int) < (((l.take i).map id ++ List.replicate (l.length - i) ([] : List Int)).length : Int) := by simp <;> omega
   rw [laws_toIntSS.l0, if_pos (by omega), if_pos (by omega), rdL1n, h2]
   simp only [if_pos hc, wsucc h1 hn]
   rfl
  ·have e := ih (i + 1) h3
   rw [← set_mid l id [] h] at e
   exact e
theorem toIntSS_ev (l : List (List Int)) (hn : l.length ≤ 1048576) (hin : ∀ x ∈ l, x.length ≤ 1048576) : Ev (fun k => laws_toIntSS.f k l) l := by
 unfold laws_toIntSS.f
 simp only [if_pos (show 0 ≤ (l.length : Int) by omega), if_pos (show ((l.length : Int)).toNat ≤ 11728124029610 by omega)]
 have := toIntSS_l0 l (by omega) hin l 0 rfl
 simpa using this
theorem toCourt_ev (p : Int) (L : List (List Int)) (H : List Int) (a : Int) (hL : L.length ≤ 1048576) (hin : ∀ x ∈ L, x.length ≤ 1048576) (hH : H.length ≤ 1048576) : Ev (fun k => laws_toCourt.f k p L H a) (p, L, H, a) := by
 unfold laws_toCourt.f
 exact Ev.bind (toIntSS_ev L hL hin) (Ev.bind (toIntS_ev H hH) (Ev.now _))

theorem eqIntSS_l0 (xs : List (List Int)) (hn : xs.length ≤ 9223372036854775807) (hin : ∀ x ∈ xs, x.length ≤ 1048576) : ∀ (ys : List (List Int)) (i : Nat), xs.drop i = ys → Ev (fun k => laws_eqIntSS.l0 k xs xs (i : Int)) true := by
 intro ys
 induction ys with
 | nil =>
  intro i h
  exact Ev.step (f := fun _ => some true) (fun k => by rw [laws_eqIntSS.l0, if_neg (dnil h)]) (Ev.now _)
 | cons y ys ih =>
  intro i h
  obtain ⟨h1, h2, h3⟩ := dcons h
  have hy : y ∈ xs := List.mem_of_mem_drop (by rw [h]; simp)
  have := hin y hy
  refine Ev.step (f := fun k => (laws_eqIntS.f k y y).bind fun t => if t = true then laws_eqIntSS.l0 k xs xs ((i + 1 : Nat) : Int) else some false) (fun k => ?_) (Ev.bind (eqIntS_ev y (by omega)) (by simp only [if_true]; exact ih (i + 1) h3))
  rw [laws_eqIntSS.l0, if_pos (by omega), if_pos (by omega), if_pos (by omega), rdL1n, h2, wsucc h1 hn]
theorem eqIntSS_ev (xs : List (List Int)) (hn : xs.length ≤ 9223372036854775807) (hin : ∀ x ∈ xs, x.length ≤ 1048576) : Ev (fun k => laws_eqIntSS.f k xs xs) true := by
 unfold laws_eqIntSS.f
 simp only [if_true]
 exact eqIntSS_l0 xs hn hin xs 0 rfl
theorem eqCourt_ev (p : Int) (L : List (List Int)) (H : List Int) (a : Int) (hL : L.length ≤ 1048576) (hin : ∀ x ∈ L, x.length ≤ 1048576) (hH : H.length ≤ 1048576) : Ev (fun k => laws_eqCourt.f k p L H a p L H a) true := by
 unfold laws_eqCourt.f
 simp only [if_true]
 refine Ev.bind (eqIntSS_ev L (by omega) hin) ?_
 simp only [if_true]
 refine Ev.bind (eqIntS_ev H (by omega)) ?_
 simp only [if_true]
 exact Ev.now _

def lsum : List (List Int) → Nat
 | [] => 0
 | x :: xs => x.length + lsum xs
def mkSS : Int → List (List Int) → List (List Int)
 | _, [] => []
 | a, x :: xs => mk a x x.length :: mkSS (a + (x.length : Int)) xs
theorem mkSS_len : ∀ (xs : List (List Int)) (a : Int), (mkSS a xs).length = xs.length := by
 intro xs
 induction xs with
 | nil => intro a; rfl
 | cons x xs ih => intro a; simp [mkSS, ih]
theorem set_mid2 {α : Type} {l : List α} {i : Nat} {y v : α} {ys : List α} (h : l.drop i = y :: ys) : (l.set i v).take (i + 1) = l.take i ++ [v] ∧ (l.set i v).drop (i + 1) = ys := by
 obtain ⟨h1, h2, h3⟩ := dcons h
 constructor
 ·rw [List.take_succ_eq_append_getElem (by simp; exact h1), List.getElem_set_self, List.take_set_of_le (Nat.le_refl _)]
 ·rw [List.drop_set_of_lt (by omega), h3]
theorem markSS_l0 : ∀ (zs : List (List Int)) (i : Nat) (xs : List (List Int)) (a : Int), xs.drop i = zs → xs.length ≤ 1048576 → 0 ≤ a → a + (lsum zs : Int) ≤ 1000000000 → Ev (fun k => laws_markIntSS.l0 k xs a (i : Int)) (a + (lsum zs : Int), xs.take i ++ mkSS a zs) := by
 intro zs
 induction zs with
 | nil =>
  intro i xs a h hn ha hb
  have hi := List.drop_eq_nil_iff.1 h
  exact Ev.step (fun k => by rw [laws_markIntSS.l0, if_neg (dnil h)]) (Ev.to (Ev.now (a, xs)) (by simp [lsum, mkSS, List.take_of_length_le hi]))
 | cons z zs ih =>
  intro i xs a h hn ha hb
  obtain ⟨h1, h2, h3⟩ := dcons h
  have hs : lsum (z :: zs) = z.length + lsum zs := rfl
  have e1 := markIntS_ev a z ha (by omega) (by omega)
  have ws := wsucc h1 (by omega)
  obtain ⟨t1, t2⟩ := set_mid2 (v := mk a z z.length) h
  have e2 := ih (i + 1) (xs.set i (mk a z z.length)) (a + (z.length : Int)) t2 (by simp; omega) (by omega) (by omega)
  refine Ev.step (f := fun k => (laws_markIntS.f k (rd_L1 xs (i : Int)) a).bind _) (fun k => by rw [laws_markIntSS.l0, if_pos (by omega), if_pos (by omega), ws, Int.toNat_natCast]) ?_
  rw [rdL1n, h2]
  refine Ev.bind e1 (Ev.to e2 ?_)
  rw [t1]
  simp [mkSS, lsum]
  omega
theorem markIntSS_ev (a : Int) (xs : List (List Int)) (hn : xs.length ≤ 1048576) (ha : 0 ≤ a) (hb : a + (lsum xs : Int) ≤ 1000000000) : Ev (fun k => laws_markIntSS.f k xs a) (a + (lsum xs : Int), mkSS a xs) := by
 have := markSS_l0 xs 0 xs a rfl hn ha hb
 unfold laws_markIntSS.f
 simpa using this
theorem szIntS_sum {l : List Int} (hp : l.length ≤ 9223372036854775807) (b : Int) (h0 : 0 ≤ b) (hb : b ≤ 1048576) : ∃ r, laws_szIntS.f l b = some r ∧ (¬ r < 0 → r + (l.length : Int) = b) := by
 unfold laws_szIntS.f
 rw [wz (by omega) (by omega)]
 by_cases h : (b - (l.length : Int)) < 0
 ·exact ⟨-1, by rw [if_pos h], by omega⟩
 ·exact ⟨_, by rw [if_neg h], by omega⟩
theorem szIntSS_s0 (L : List (List Int)) (hL : L.length ≤ 9223372036854775807) (hp : ∀ l ∈ L, l.length ≤ 9223372036854775807) : ∀ (zs : List (List Int)) (i : Nat) (b : Int), 0 ≤ b → b ≤ 1048576 → L.drop i = zs → ∃ r, Ev (fun k => laws_szIntSS.l0 k L b (i : Int)) r ∧ (¬ r < 0 → r + (lsum zs : Int) ≤ b) := by
 intro zs
 induction zs with
 | nil =>
  intro i b h0 hb h
  exact ⟨b, Ev.step (f := fun _ => some b) (fun k => by rw [laws_szIntSS.l0, if_neg (dnil h)]) (Ev.now _), fun _ => by simp [lsum]⟩
 | cons z zs ih =>
  intro i b h0 hb h
  obtain ⟨h1, h2, h3⟩ := dcons h
  have hz : z ∈ L := List.mem_of_mem_drop (by rw [h]; simp)
  obtain ⟨r, hr, hs⟩ := szIntS_sum (hp z hz) b h0 hb
  by_cases h4 : r < 0
  ·refine ⟨-1, Ev.step (f := fun _ => some (-1)) (fun k => ?_) (Ev.now _), by omega⟩
   rw [laws_szIntSS.l0, if_pos (by omega), if_pos (by omega), rdL1n, h2, hr]
   simp only [Option.bind_some, if_pos h4]
  ·have hs := hs h4
   obtain ⟨q, hq, ht⟩ := ih (i + 1) r (by omega) (by omega) h3
   refine ⟨q, Ev.step (f := fun k => laws_szIntSS.l0 k L r ((i + 1 : Nat) : Int)) (fun k => ?_) hq, fun h5 => ?_⟩
   ·rw [laws_szIntSS.l0, if_pos (by omega), if_pos (by omega), rdL1n, h2, hr]
    simp only [Option.bind_some, if_neg h4]
    rw [wsucc h1 hL]
   ·have := ht h5
    have hs2 : lsum (z :: zs) = z.length + lsum zs := rfl
    omega
theorem lsum_mem : ∀ (L : List (List Int)) (l : List Int), l ∈ L → l.length ≤ lsum L := by
 intro L
 induction L with
 | nil => intro l h; simp at h
 | cons x xs ih =>
  intro l h
  have hs : lsum (x :: xs) = x.length + lsum xs := rfl
  rcases List.mem_cons.1 h with rfl | h
  ·omega
  ·have := ih l h; omega
theorem szCourt_sum {p a : Int} {L : List (List Int)} {H : List Int} (hL : L.length ≤ 9223372036854775807) (hp : ∀ l ∈ L, l.length ≤ 9223372036854775807) (hH : H.length ≤ 9223372036854775807) : ∃ r, Ev (fun k => laws_szCourt.f k p L H a 1048576) r ∧ (¬ r < 0 → L.length + lsum L + H.length ≤ 1048576) := by
 have S : ∃ r, Ev (fun k => laws_szIntSS.f k L 1048576) r ∧ (¬ r < 0 → r + (lsum L : Int) + (L.length : Int) ≤ 1048576) := by
  unfold laws_szIntSS.f
  rw [wz (by omega) (by omega)]
  by_cases h : ((1048576 : Int) - (L.length : Int)) < 0
  ·exact ⟨-1, by simp only [if_pos h]; exact Ev.now _, by omega⟩
  ·obtain ⟨r, hr, hs⟩ := szIntSS_s0 L hL hp L 0 (1048576 - L.length) (by omega) (by omega) rfl
   exact ⟨r, by simp only [if_neg h]; exact hr, fun h5 => by have := hs h5; omega⟩
 obtain ⟨r, hr, hs⟩ := S
 unfold laws_szCourt.f
 by_cases h : r < 0
 ·exact ⟨-1, Ev.bind hr (by simp only [if_pos h]; exact Ev.now _), by omega⟩
 ·have s1 := hs h
  obtain ⟨q, hq, ht⟩ := szIntS_sum hH r (by omega) (by omega)
  by_cases h2 : q < 0
  ·exact ⟨-1, Ev.bind hr (by simp only [if_neg h, hq, Option.bind_some, if_pos h2]; exact Ev.now _), by omega⟩
  ·have ht := ht h2
   exact ⟨q, Ev.bind hr (by simp only [if_neg h, hq, Option.bind_some, if_neg h2]; exact Ev.now _), fun _ => by omega⟩

theorem markCourt_ev (p : Int) (L : List (List Int)) (H : List Int) (a : Int) (hs : L.length + lsum L + H.length ≤ 1048576) : Ev (fun k => laws_markCourt.f k p L H a 1) (1 + (lsum L : Int) + (H.length : Int), mkSS 1 L, mk (1 + (lsum L : Int)) H H.length) := by
 unfold laws_markCourt.f
 exact Ev.bind (markIntSS_ev 1 L (by omega) (by decide) (by omega)) (Ev.bind (markIntS_ev (1 + (lsum L : Int)) H (by omega) (by omega) (by omega)) (Ev.now _))
theorem heldSS_l0 (M : List (List Int)) (hM : M.length ≤ 1048576) : ∀ (zs : List (List Int)) (i : Nat) (a : Int), M.drop i = mkSS a zs → 0 ≤ a → a + (lsum zs : Int) ≤ 1000000000 → Ev (fun k => laws_heldIntSS.l0 k M a (i : Int)) (a + (lsum zs : Int)) := by
 intro zs
 induction zs with
 | nil =>
  intro i a h ha hb
  exact Ev.step (fun k => by rw [laws_heldIntSS.l0, if_neg (dnil h)]) (Ev.to (Ev.now a) (by simp [lsum]))
 | cons z zs ih =>
  intro i a h ha hb
  obtain ⟨h1, h2, h3⟩ := dcons (y := mk a z z.length) (ys := mkSS (a + (z.length : Int)) zs) h
  have hs : lsum (z :: zs) = z.length + lsum zs := rfl
  have e1 := heldIntS_ev a z ha (by omega) (by omega)
  have ws := wsucc h1 (by omega)
  have e2 := ih (i + 1) (a + (z.length : Int)) h3 (by omega) (by omega)
  refine Ev.step (f := fun k => (laws_heldIntS.f k (rd_L1 M (i : Int)) a).bind _) (fun k => by rw [laws_heldIntSS.l0, if_pos (by omega), if_pos (by omega), ws]) ?_
  rw [rdL1n, h2]
  refine Ev.bind e1 ?_
  simp only [if_neg (show ¬ (a + (z.length : Int) < 0) by omega)]
  exact Ev.to e2 (by omega)
theorem heldCourt_ev (p : Int) (L : List (List Int)) (H : List Int) (a : Int) (hs : L.length + lsum L + H.length ≤ 1048576) : Ev (fun k => laws_heldCourt.f k p (mkSS 1 L) (mk (1 + (lsum L : Int)) H H.length) a 1) (1 + (lsum L : Int) + (H.length : Int)) := by
 unfold laws_heldCourt.f laws_heldIntSS.f
 refine Ev.bind (heldSS_l0 (mkSS 1 L) (by rw [mkSS_len]; omega) L 0 1 rfl (by decide) (by omega)) ?_
 simp only [if_neg (show ¬ (1 + (lsum L : Int) < 0) by omega)]
 refine Ev.bind (heldIntS_ev (1 + (lsum L : Int)) H (by omega) (by omega) (by omega)) ?_
 simp only [if_neg (show ¬ (1 + (lsum L : Int) + (H.length : Int) < 0) by omega)]
 exact Ev.now _

def AdsC (p : Int) (L : List (List Int)) (H : List Int) (a : Int) (X : List Int) : Int × List (List Int) × List Int × Int × Int := if (CtB p L H a && decide (X.length ≤ 20)) = true then (p, L, (adF p L X H a 0).1, (adF p L X H a 0).2.1, (adF p L X H a 0).2.2) else (0, [], [], 0, -1)
theorem AdsC_sz (p : Int) (L : List (List Int)) (H : List Int) (a : Int) (X : List Int) : (AdsC p L H a X).2.1.length + lsum (AdsC p L H a X).2.1 + (AdsC p L H a X).2.2.1.length ≤ L.length + lsum L + H.length := by
 unfold AdsC
 split
 ·simp [adF_len]
 ·simp [lsum]
theorem FnExactAfterDeaths : laws_FnExactAfterDeaths.Pure := by
 intro p L H a X _ hL hH _ hX
 obtain ⟨r, hr, hs⟩ := szCourt_sum (p := p) (a := a) hL.1 (fun l hl => (hL.2 l hl).1) hH.1
 refine Ev.rounds ?_
 unfold laws_FnExactAfterDeaths.f
 by_cases hx : (X.length : Int) > 1048576
 ·simp only [if_pos hx]
  exact Ev.now _
 simp only [if_neg hx]
 refine Ev.bind hr ?_
 by_cases h : r < 0
 ·simp only [if_pos h]
  exact Ev.now _
 simp only [if_neg h]
 have s0 := hs h
 have s3 : ∀ l ∈ L, l.length ≤ 1048576 := fun l hl => by have := lsum_mem L l hl; omega
 have e1 := toCourt_ev p L H a (by omega) s3 (by omega)
 have e2 := toIntS_ev X (by omega)
 have im : Ev (fun k => impl_AfterDeaths.f k p L H a X) (AdsC p L H a X) := iAfterDeaths_ev p L s3 H a X
 have sp : Ev (fun k => spec_AfterDeaths.f k p L H a X) (AdsC p L H a X) := sAfterDeaths_ev p L s3 H a X
 have sz := AdsC_sz p L H a X
 have mc := markCourt_ev p L H a s0
 have mx := markIntS_ev (1 + (lsum L : Int) + (H.length : Int)) X (by omega) (by omega) (by omega)
 revert im sp sz
 generalize AdsC p L H a X = R
 obtain ⟨R1, R2, R3, R4, R5⟩ := R
 intro im sp sz
 simp only at sz
 have t3 : ∀ l ∈ R2, l.length ≤ 1048576 := fun l hl => by have := lsum_mem R2 l hl; omega
 have eq := eqCourt_ev R1 R2 R3 R4 (by omega) t3 (by omega)
 have mr := markCourt_ev R1 R2 R3 R4 (by omega)
 have hld := heldCourt_ev R1 R2 R3 R4 (by omega)
 have hpos : ¬ (1 + (lsum L : Int) + (H.length : Int) + (X.length : Int) < 0) := by omega
 have hpos2 : ¬ (1 + (lsum R2 : Int) + (R3.length : Int) < 0) := by omega
 refine Ev.bind e1 (Ev.bind e2 (Ev.bind sp (Ev.bind e1 (Ev.bind e2 (Ev.bind im (Ev.bind eq ?_))))))
 simp only [if_true, bne_self_eq_false]
 refine Ev.step (fun k => by rw [laws_FnExactAfterDeaths.j0, if_neg (by decide)]) ?_
 refine Ev.bind e1 (Ev.bind (eqCourt_ev p L H a (by omega) s3 (by omega)) ?_)
 simp only [if_true]
 refine Ev.bind e2 (Ev.bind (eqIntS_ev X (by omega)) ?_)
 simp only [if_true]
 refine Ev.bind mc (Ev.bind mx ?_)
 simp only [if_neg hpos]
 refine Ev.bind eq ?_
 simp only [if_true, bne_self_eq_false]
 refine Ev.step (fun k => by rw [laws_FnExactAfterDeaths.j1, if_neg (by decide)]) ?_
 refine Ev.bind mr (Ev.bind hld ?_)
 simp only [if_neg hpos2, if_true]
 refine Ev.bind e1 (Ev.bind e2 (Ev.bind im (Ev.bind eq ?_)))
 simp only [if_true, bne_self_eq_false]
 refine Ev.step (fun k => by rw [laws_FnExactAfterDeaths.j2, if_neg (by decide)]) ?_
 refine Ev.bind hld ?_
 simp only [if_neg hpos2, if_true]
 exact Ev.now _

end Go.Proofs.Ytlpjkeejflogjaa.Pure
