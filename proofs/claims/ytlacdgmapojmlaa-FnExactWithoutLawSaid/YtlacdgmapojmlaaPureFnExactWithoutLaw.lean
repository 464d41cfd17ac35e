/- The law FnExactWithoutLaw is true: for every book and place the program's WithoutLaw returns what the reference's returns, leaves its argument as it was, and its result shares no memory. Conditions: none. -/
import Derived.Test.YtlacdgmapojmlaaQFnExactWithoutLawx4
namespace Go.Proofs.Ytlacdgmapojmlaa.Pure
open Go.RowKit Go.Proofs.Ytlacdgmapojmlaa.QFnExactWithoutLaw Go.Proofs.YtlacdgmapojmlaaW.PrintWords Go.Proofs.YtlacdgmapojmlaaW.PrintLast
set_option linter.unusedVariables false
set_option linter.unusedSimpArgs false

theorem wz {x : Int} (h0 : -9223372036854775808 ≤ x) (h1 : x ≤ 9223372036854775807) : wrap64 x = x := by unfold wrap64; omega
theorem wsucc {i n : Nat} (h : i < n) (hn : n ≤ 9223372036854775807) : wrap64 ((i : Int) + 1) = ((i + 1 : Nat) : Int) := by rw [wz (by omega) (by omega)]; omega
theorem dnil {α : Type} {xs : List α} {i : Nat} (h : xs.drop i = []) : ¬ ((i : Int) < (xs.length : Int)) := by
 have := List.drop_eq_nil_iff.1 h
 omega
theorem dcons {α : Type} {xs : List α} {i : Nat} {y : α} {ys : List α} (h : xs.drop i = y :: ys) : i < xs.length ∧ (∀ d, xs.getD i d = y) ∧ xs.drop (i + 1) = ys := by
 have hl : i < xs.length := by
  rcases Nat.lt_or_ge i xs.length with h1 | h1
  ·exact h1
  ·rw [List.drop_eq_nil_iff.2 h1] at h
   cases h
 have e := List.drop_eq_getElem_cons hl
 rw [h] at e
 injection e with e1 e2
 exact ⟨hl, fun d => by rw [List.getD_eq_getElem?_getD, List.getElem?_eq_getElem hl]; exact e1.symm, e2.symm⟩
theorem set_mid {α β : Type} (l : List α) (c : α → β) (z : β) {i : Nat} {y : α} {ys : List α} (h : l.drop i = y :: ys) :
  ((l.take i).map c ++ List.replicate (l.length - i) z).set i (c y) = (l.take (i + 1)).map c ++ List.replicate (l.length - (i + 1)) z := by
 obtain ⟨h1, h2, h3⟩ := dcons h
 have ht : l.take (i + 1) = l.take i ++ [y] := by
  rw [List.take_succ_eq_append_getElem h1]
  have := h2 y
  rw [List.getD_eq_getElem?_getD, List.getElem?_eq_getElem h1] at this
  rw [show l[i] = y from by simpa using this]
 obtain ⟨m, hm⟩ : ∃ m, l.length - i = m + 1 := ⟨l.length - i - 1, by omega⟩
 have hm2 : l.length - (i + 1) = m := by omega
 have hlen : ((l.take i).map c).length = i := by simp <;> omega
 rw [hm, hm2, ht, List.replicate_succ, List.map_append, List.set_append_right _ _ (by omega), hlen, Nat.sub_self]
 simp
theorem Ev.to {α : Type} {g : Nat → Option α} {r s : α} (h : Ev g r) (e : r = s) : Ev g s := e ▸ h

def LawB (a b c d : Int) : Bool := decide (0 ≤ a ∧ a < 3 ∧ 0 ≤ b ∧ b < 8 ∧ 1 ≤ c ∧ c ≤ 3 ∧ 0 ≤ d ∧ d ≤ 99)
theorem impl_isLaw_eq (a b c d : Int) (y : Bool) : impl_isLaw.f a b c d y = some (LawB a b c d) := by
 unfold impl_isLaw.f impl_isCase.f LawB
 by_cases h1 : a ≥ 0
 ·by_cases h2 : a < 3
  ·by_cases h3 : b ≥ 0
   ·by_cases h4 : b < 8
    ·by_cases h5 : c ≥ 1
     ·by_cases h6 : c ≤ 3
      ·by_cases h7 : d ≥ 0
       ·by_cases h8 : d ≤ 99 <;> simp [h1, h2, h3, h4, h5, h6, h7, h8] <;> omega
       ·simp [h1, h2, h3, h4, h5, h6, h7] <;> omega
      ·simp [h1, h2, h3, h4, h5, h6] <;> omega
     ·simp [h1, h2, h3, h4, h5] <;> omega
    ·simp [h1, h2, h3, h4]
   ·simp [h1, h2, h3] <;> omega
  ·simp [h1, h2]
 ·simp [h1] <;> omega
theorem l1In_eq (a b c : Int) : spec_l1In.f a b c = some (decide (b ≤ a ∧ a ≤ c)) := by
 unfold spec_l1In.f
 by_cases h : b ≤ a
 ·simp [h]
 ·simp [h]
theorem spec_LawOk_eq (a b c d : Int) (y : Bool) : spec_LawOk.f a b c d y = some (LawB a b c d) := by
 unfold spec_LawOk.f LawB
 simp only [l1In_eq, Option.bind_some]
 by_cases h1 : 0 ≤ a ∧ a ≤ 2
 ·by_cases h2 : 0 ≤ b ∧ b ≤ 7
  ·by_cases h3 : 1 ≤ c ∧ c ≤ 3
   ·by_cases h4 : 0 ≤ d ∧ d ≤ 99 <;> simp [h1, h2, h3, h4] <;> omega
   ·simp [h1, h2, h3] <;> omega
  ·simp [h1, h2] <;> omega
 ·simp [h1] <;> omega

def LB (x : S25) : Bool := LawB x.f0 x.f1 x.f2 x.f3
theorem rdT25 (xs : List S25) (i : Nat) : rd_T25 xs (i : Int) = xs.getD i z25 := by simp [rd_T25]
theorem spec_BookOk_l0 (xs : List S25) (hn : xs.length ≤ 9223372036854775807) : ∀ (ys : List S25) (i : Nat), xs.drop i = ys → Ev (fun k => spec_BookOk.l0 k xs (i : Int)) (ys.all LB && decide ((xs.length : Int) ≤ 6)) := by
 intro ys
 induction ys with
 | nil =>
  intro i h
  refine Ev.step (f := fun _ => some (decide ((xs.length : Int) ≤ 6))) (fun k => by rw [spec_BookOk.l0, if_neg (dnil h)]) (Ev.now _)
 | cons y ys ih =>
  intro i h
  obtain ⟨h1, h2, h3⟩ := dcons h
  have e := ih (i + 1) h3
  cases hy : LB y with
  | false =>
   refine Ev.step (f := fun _ => some false) (fun k => ?_) (Ev.to (Ev.now _) (by simp [hy]))
   rw [spec_BookOk.l0, if_pos (by omega), if_pos (by omega), rdT25, h2, spec_LawOk_eq]
   simp only [Option.bind_some]
   rw [if_neg (by rw [show LawB y.f0 y.f1 y.f2 y.f3 = false from hy]; decide)]
  | true =>
   refine Ev.step (f := fun k => spec_BookOk.l0 k xs ((i + 1 : Nat) : Int)) (fun k => ?_) (Ev.to e (by simp [hy]))
   rw [spec_BookOk.l0, if_pos (by omega), if_pos (by omega), rdT25, h2, spec_LawOk_eq]
   simp only [Option.bind_some]
   rw [if_pos (show LawB y.f0 y.f1 y.f2 y.f3 = true from hy), wsucc h1 hn]
theorem spec_BookOk_ev (xs : List S25) (hn : xs.length ≤ 9223372036854775807) : Ev (fun k => spec_BookOk.f k xs) (xs.all LB && decide ((xs.length : Int) ≤ 6)) := by
 have := spec_BookOk_l0 xs hn xs 0 rfl
 exact this
theorem isBook_1_eq (x : S25) : impl_isBook_1.f x.f0 x.f1 x.f2 x.f3 x.f4 = some (!LB x) := by
 unfold impl_isBook_1.f
 rw [impl_isLaw_eq]; rfl
def firstAt {α : Type} (p : α → Bool) : List α → Nat → Int
 | [], _ => -1
 | y :: ys, i => if p y then (i : Int) else firstAt p ys (i + 1)
theorem firstAt_any {α : Type} (p : α → Bool) : ∀ (ys : List α) (i : Nat), decide (firstAt p ys i ≥ 0) = ys.any p := by
 intro ys
 induction ys with
 | nil => intro i; simp [firstAt]
 | cons y ys ih =>
  intro i
  unfold firstAt
  cases h : p y with
  | true => simp [h]
  | false => simp [h, ih]
theorem IndexFunc_w64_l0 (xs : List S25) (hn : xs.length ≤ 9223372036854775807) : ∀ (ys : List S25) (i : Nat), xs.drop i = ys → Ev (fun k => slices_IndexFunc_w64.l0 k xs (xs.length : Int) (i : Int)) (firstAt (fun y => !LB y) ys i) := by
 intro ys
 induction ys with
 | nil =>
  intro i h
  refine Ev.step (f := fun _ => some (-1)) (fun k => by rw [slices_IndexFunc_w64.l0, if_neg (dnil h)]) (Ev.now _)
 | cons y ys ih =>
  intro i h
  obtain ⟨h1, h2, h3⟩ := dcons h
  have e := ih (i + 1) h3
  cases hy : LB y with
  | false =>
   refine Ev.step (f := fun _ => some (i : Int)) (fun k => ?_) (Ev.to (Ev.now _) (by simp [firstAt, hy]))
   rw [slices_IndexFunc_w64.l0, if_pos (by omega), if_pos (by omega), if_pos (by omega), rdT25, h2, isBook_1_eq, hy]
   rfl
  | true =>
   refine Ev.step (f := fun k => slices_IndexFunc_w64.l0 k xs (xs.length : Int) ((i + 1 : Nat) : Int)) (fun k => ?_) (Ev.to e (by simp [firstAt, hy]))
   rw [slices_IndexFunc_w64.l0, if_pos (by omega), if_pos (by omega), if_pos (by omega), rdT25, h2, isBook_1_eq, hy, wsucc h1 hn]
   rfl
theorem impl_isBook_ev (xs : List S25) (hn : xs.length ≤ 9223372036854775807) : Ev (fun k => impl_isBook.f k xs) (xs.all LB && decide ((xs.length : Int) ≤ 6)) := by
 unfold impl_isBook.f
 by_cases h : (xs.length : Int) ≤ 6
 ·simp only [if_pos h]
  have e : Ev (fun k => slices_IndexFunc_w64.f k xs) (firstAt (fun y => !LB y) xs 0) := IndexFunc_w64_l0 xs hn xs 0 rfl
  have e2 : Ev (fun k => slices_ContainsFunc_w64.f k xs) (xs.any fun y => !LB y) := by
   unfold slices_ContainsFunc_w64.f
   refine Ev.bind e (Ev.to (Ev.now _) (firstAt_any _ _ _))
  refine Ev.bind e2 (Ev.to (Ev.now _) ?_)
  simp [h, List.all_eq_not_any_not]
 ·simp only [if_neg h]
  refine Ev.to (Ev.now _) ?_
  simp [h]

def cL (x : S23) : S25 := ⟨x.f0, x.f1, x.f2, x.f3, x.f4⟩
theorem rdT23 (xs : List S23) (i : Nat) : rd_T23 xs (i : Int) = xs.getD i z23 := by simp [rd_T23]
theorem toLawS_l0 (l : List S23) (hn : l.length ≤ 9223372036854775807) : ∀ (ys : List S23) (i : Nat), l.drop i = ys → Ev (fun k => laws_toLawS.l0 k l ((l.take i).map cL ++ List.replicate (l.length - i) z25) (i : Int)) (l.map cL) := by
 intro ys
 induction ys with
 | nil =>
  intro i h
  have hi := List.drop_eq_nil_iff.1 h
  refine Ev.step (f := fun _ => some (l.map cL)) (fun k => ?_) (Ev.now _)
  rw [laws_toLawS.l0, if_neg (dnil h), List.take_of_length_le hi, show l.length - i = 0 by omega]
  simp
 | cons y ys ih =>
  intro i h
  obtain ⟨h1, h2, h3⟩ := dcons h
  refine Ev.step (f := fun k => laws_toLawS.l0 k l ((l.take (i + 1)).map cL ++ List.replicate (l.length - (i + 1)) z25) ((i + 1 : Nat) : Int)) (fun k => ?_) (ih (i + 1) h3)
  rw [laws_toLawS.l0, if_pos (by omega), if_pos (by omega), rdT23, h2]
  unfold laws_toLaw.f
  simp only [Option.bind_some]
  rw [if_pos (by simp <;> omega), wsucc h1 hn, ← set_mid l cL z25 h]
  simp [cL]
theorem toLawS_ev (l : List S23) (hn : l.length ≤ 1048576) : Ev (fun k => laws_toLawS.f k l) (l.map cL) := by
 unfold laws_toLawS.f
 simp only [if_pos (show 0 ≤ (l.length : Int) by omega), if_pos (show ((l.length : Int)).toNat ≤ 7036874417766 by omega)]
 have := toLawS_l0 l (by omega) l 0 rfl
 simpa using this
theorem eqLaw_refl (a b c d : Int) (y : Bool) : laws_eqLaw.f a b c d y a b c d y = some true := by
 unfold laws_eqLaw.f
 simp
theorem eqLawS_l0 (xs : List S25) (hn : xs.length ≤ 9223372036854775807) : ∀ (ys : List S25) (i : Nat), xs.drop i = ys → Ev (fun k => laws_eqLawS.l0 k xs xs (i : Int)) true := by
 intro ys
 induction ys with
 | nil =>
  intro i h
  exact Ev.step (f := fun _ => some true) (fun k => by rw [laws_eqLawS.l0, if_neg (dnil h)]) (Ev.now _)
 | cons y ys ih =>
  intro i h
  obtain ⟨h1, h2, h3⟩ := dcons h
  refine Ev.step (f := fun k => laws_eqLawS.l0 k xs xs ((i + 1 : Nat) : Int)) (fun k => ?_) (ih (i + 1) h3)
  rw [laws_eqLawS.l0, if_pos (by omega), if_pos (by omega), if_pos (by omega), eqLaw_refl, wsucc h1 hn]
  rfl
theorem eqLawS_ev (xs : List S25) (hn : xs.length ≤ 9223372036854775807) : Ev (fun k => laws_eqLawS.f k xs xs) true := by
 unfold laws_eqLawS.f
 simp only [if_true]
 exact eqLawS_l0 xs hn xs 0 rfl
theorem szLawS_small {l : List S23} (hp : l.length ≤ 9223372036854775807) : ∃ r, laws_szLawS.f l 1048576 = some r ∧ (¬ r < 0 → l.length ≤ 1048576) := by
 unfold laws_szLawS.f
 rw [wz (by omega) (by omega)]
 by_cases h : (1048576 - (l.length : Int)) < 0
 ·exact ⟨-1, by rw [if_pos h], by omega⟩
 ·exact ⟨_, by rw [if_neg h], by omega⟩

def mkL (a : Int) : S25 := ⟨a, a + 1, a + 2, a + 3, (Int.tmod (a + 4) 3 == 0)⟩
def mks : Nat → Int → List S25
 | 0, _ => []
 | d + 1, a => mkL a :: mks d (a + 5)
theorem mks_len : ∀ (d : Nat) (a : Int), (mks d a).length = d := by
 intro d
 induction d with
 | zero => intro a; rfl
 | succ d ih => intro a; simp [mks, ih]
theorem rdm (pre zs : List S25) (v : S25) : rd_T25 (pre ++ v :: zs) ((pre.length : Nat) : Int) = v := by rw [rdT25]; simp
theorem setm (pre zs : List S25) (v u : S25) : (pre ++ v :: zs).set (((pre.length : Nat) : Int)).toNat u = pre ++ u :: zs := by rw [Int.toNat_natCast]; simp
theorem markLawS_l1 : ∀ (zs pre : List S25) (a : Int), 0 ≤ a → a ≤ 1000000000 - 5 * zs.length → pre.length + zs.length ≤ 1048576 → Ev (fun k => laws_markLawS.l0 k (pre ++ zs) a ((pre.length : Nat) : Int)) (a + 5 * zs.length, pre ++ mks zs.length a) := by
 intro zs
 induction zs with
 | nil =>
  intro pre a _ _ _
  exact Ev.step (f := fun _ => some (a, pre ++ [])) (fun k => by rw [laws_markLawS.l0, if_neg (by simp)]) (Ev.to (Ev.now _) (by simp [mks]))
 | cons z zs ih =>
  intro pre a ha hb hn
  have hlen : (z :: zs).length = zs.length + 1 := rfl
  rw [hlen] at hb hn
  have hi1 : ((pre.length : Nat) : Int) < ((pre ++ z :: zs).length : Int) := by simp; omega
  have hi0 : (0 : Int) ≤ ((pre.length : Nat) : Int) := by omega
  have c1 : 0 ≤ a + 5 := by omega
  have c2 : a + 5 ≤ 1000000000 - 5 * (zs.length : Int) := by omega
  have c3 : (pre ++ [mkL a]).length + zs.length ≤ 1048576 := by simp; omega
  have c4 : a + 5 + 5 * (zs.length : Int) = a + 5 * ((zs.length + 1 : Nat) : Int) := by omega
  have e := ih (pre ++ [mkL a]) (a + 5) c1 c2 c3
  have w1 : wrap64 (a + 1) = a + 1 := wz (by omega) (by omega)
  have w2 : wrap64 (a + 1 + 1) = a + 2 := by rw [wz (by omega) (by omega)]; omega
  have w3 : wrap64 (a + 2 + 1) = a + 3 := by rw [wz (by omega) (by omega)]; omega
  have w4 : wrap64 (a + 3 + 1) = a + 4 := by rw [wz (by omega) (by omega)]; omega
  have w5 : wrap64 (a + 4 + 1) = a + 5 := by rw [wz (by omega) (by omega)]; omega
  have wi : wrap64 (((pre.length : Nat) : Int) + 1) = (((pre ++ [mkL a]).length : Nat) : Int) := by rw [wz (by omega) (by omega)]; simp
  have h0 : ∀ k, laws_markLawS.l0 (k + 1) (pre ++ z :: zs) a ((pre.length : Nat) : Int) = laws_markLawS.l0 k (pre ++ mkL a :: zs) (a + 5) (((pre ++ [mkL a]).length : Nat) : Int) := by
   intro k
   rw [laws_markLawS.l0, if_pos hi1, if_pos hi0]
   simp only [Option.bind_some, w1, w2, w3, w4, w5, wi, rdm, setm]
   rfl
  refine Ev.step h0 ?_
  have e2 : pre ++ mkL a :: zs = pre ++ [mkL a] ++ zs := by simp
  rw [e2]
  exact Ev.to e (by rw [hlen, c4]; simp [mks])
theorem markLawS_ev2 (xs : List S25) (hn : xs.length ≤ 1048576) : Ev (fun k => laws_markLawS.f k xs 1) (1 + 5 * (xs.length : Int), mks xs.length 1) := markLawS_l1 xs [] 1 (by decide) (by omega) (by simp; omega)
theorem heldLawS_l0 (xs : List S25) (hn : xs.length ≤ 1048576) : ∀ (d i : Nat) (a : Int), xs.drop i = mks d a → i + d = xs.length → 0 ≤ a → a ≤ 1000000000 - 5 * d → Ev (fun k => laws_heldLawS.l0 k xs a (i : Int)) (a + 5 * d) := by
 intro d
 induction d with
 | zero =>
  intro i a h hx _ _
  exact Ev.step (f := fun _ => some a) (fun k => by rw [laws_heldLawS.l0, if_neg (by omega)]) (Ev.to (Ev.now _) (by simp))
 | succ d ih =>
  intro i a h hx ha hb
  obtain ⟨h1, h2, h3⟩ := dcons h
  have hi1 : (i : Int) < (xs.length : Int) := by omega
  have hi0 : 0 ≤ (i : Int) := by omega
  have hj : i + 1 + d = xs.length := by omega
  have ha5 : 0 ≤ a + 5 := by omega
  have hb5 : a + 5 ≤ 1000000000 - 5 * (d : Int) := by omega
  have hs5 : a + 5 + 5 * (d : Int) = a + 5 * ((d + 1 : Nat) : Int) := by omega
  have e := ih (i + 1) (a + 5) h3 hj ha5 hb5
  have w1 : wrap64 (a + 1) = a + 1 := wz (by omega) (by omega)
  have w2 : wrap64 (a + 1 + 1) = a + 2 := by rw [wz (by omega) (by omega)]; omega
  have w3 : wrap64 (a + 2 + 1) = a + 3 := by rw [wz (by omega) (by omega)]; omega
  have w4 : wrap64 (a + 3 + 1) = a + 4 := by rw [wz (by omega) (by omega)]; omega
  have w5 : wrap64 (a + 4 + 1) = a + 5 := by rw [wz (by omega) (by omega)]; omega
  have wi : wrap64 ((i : Int) + 1) = ((i + 1 : Nat) : Int) := by rw [wz (by omega) (by omega)]; omega
  have hz : rd_T25 xs (i : Int) = mkL a := by rw [rdT25]; exact h2 _
  refine Ev.step (fun k => ?_) (Ev.to e hs5)
  rw [laws_heldLawS.l0, if_pos hi1, if_pos hi0]
  simp only [hz, w1, w2, w3, w4, w5, wi, mkL, if_true, bne_self_eq_false, Bool.false_eq_true, if_false]
theorem heldLawS_ev (d : Nat) (hd : d ≤ 1048576) : Ev (fun k => laws_heldLawS.f k (mks d 1) 1) (1 + 5 * (d : Int)) := heldLawS_l0 (mks d 1) (by rw [mks_len]; exact hd) d 0 1 rfl (by rw [mks_len]; omega) (by decide) (by omega)

def WL (b : List S25) (i : Int) : List S25 × Bool := if ((b.all LB && decide ((b.length : Int) ≤ 6)) && decide (0 ≤ i ∧ i < (b.length : Int))) = true then (b.eraseIdx i.toNat, true) else ([], false)
theorem WL_len (b : List S25) (i : Int) : (WL b i).1.length ≤ 6 := by
 unfold WL
 split
 ·rename_i h
  simp only [Bool.and_eq_true, decide_eq_true_eq] at h
  have := List.length_eraseIdx_le b i.toNat
  show (b.eraseIdx i.toNat).length ≤ 6
  omega
 ·simp
theorem impl_WithoutLaw_ev (b : List S25) (hn : b.length ≤ 1048576) (i : Int) : Ev (fun k => impl_WithoutLaw.f k b i) (WL b i) := by
 unfold impl_WithoutLaw.f WL
 refine Ev.bind (impl_isBook_ev b (by omega)) ?_
 cases hb : (b.all LB && decide ((b.length : Int) ≤ 6)) with
 | false => simp only [Bool.false_eq_true, if_false, Bool.false_and]; exact Ev.now _
 | true =>
  simp only [if_true, Bool.true_and]
  by_cases h0 : i < 0
  ·simp only [if_pos h0, decide_eq_false (show ¬ (0 ≤ i ∧ i < (b.length : Int)) by omega), Bool.false_eq_true, if_false]; exact Ev.now _
  ·by_cases h1 : i ≥ (b.length : Int)
   ·simp only [if_neg h0, if_pos h1, decide_eq_false (show ¬ (0 ≤ i ∧ i < (b.length : Int)) by omega), Bool.false_eq_true, if_false]; exact Ev.now _
   ·have w : wrap64 (i + 1) = i + 1 := wz (by omega) (by omega)
    have g0 : 0 ≤ i := by omega
    have g1 : i < (b.length : Int) := by omega
    have e : impl_Law_55.f b i (i + 1) = some (b.eraseIdx i.toNat) := by
     unfold impl_Law_55.f
     rw [if_pos g0, if_pos g1, if_pos rfl]
    simp only [if_neg h0, if_neg h1, decide_eq_true (show 0 ≤ i ∧ i < (b.length : Int) by omega), if_true, Option.bind_some, if_pos (show ([] : List S25).length + b.length < 3518437208883 by simp; omega), List.nil_append, w, e]
    exact Ev.now _
theorem spec_WithoutLaw_ev (b : List S25) (hn : b.length ≤ 1048576) (i : Int) : Ev (fun k => spec_WithoutLaw.f k b i) (WL b i) := by
 unfold spec_WithoutLaw.f WL
 refine Ev.bind (spec_BookOk_ev b (by omega)) ?_
 cases hb : (b.all LB && decide ((b.length : Int) ≤ 6)) with
 | false => simp only [Bool.false_eq_true, if_false, Bool.false_and]; exact Ev.now _
 | true =>
  have w0 : wrap64 ((b.length : Int) - 1) = (b.length : Int) - 1 := wz (by omega) (by omega)
  simp only [if_true, Bool.true_and, l1In_eq, Option.bind_some, w0]
  by_cases h : 0 ≤ i ∧ i ≤ (b.length : Int) - 1
  ·have w : wrap64 (i + 1) = i + 1 := wz (by omega) (by omega)
   have g1 : i ≤ (b.length : Int) := by omega
   have g2 : 0 ≤ i + 1 := by omega
   have g3 : i + 1 ≤ (b.length : Int) := by omega
   have g4 : ([] : List S25).length + (b.take i.toNat).length < 3518437208883 := by simp; omega
   have g5 : (b.take i.toNat).length + (b.drop (i + 1).toNat).length < 3518437208883 := by simp; omega
   have e : (i + 1).toNat = i.toNat + 1 := by omega
   simp only [decide_eq_true h, decide_eq_true (show 0 ≤ i ∧ i < (b.length : Int) by omega), if_true, if_pos h.1, if_pos g1, if_pos g4, List.nil_append, w, if_pos g2, if_pos g3, if_pos g5]
   refine Ev.to (Ev.now _) ?_
   rw [e, List.eraseIdx_eq_take_drop_succ]
  ·simp only [decide_eq_false h, decide_eq_false (show ¬ (0 ≤ i ∧ i < (b.length : Int)) by omega), Bool.false_eq_true, if_false]; exact Ev.now _

theorem FnExactWithoutLaw : laws_FnExactWithoutLaw.Pure := by
 intro l at_ hp _
 obtain ⟨r, hr, hs⟩ := szLawS_small hp.1
 refine Ev.rounds ?_
 unfold laws_FnExactWithoutLaw.f
 simp only [hr, Option.bind_some]
 by_cases h : r < 0
 ·simp only [if_pos h]
  exact Ev.now _
 simp only [if_neg h]
 have hl := hs h
 have e1 := toLawS_ev l hl
 have hm : (l.map cL).length ≤ 1048576 := by simp <;> omega
 have hm9 : (l.map cL).length ≤ 9223372036854775807 := by omega
 have hu := WL_len (l.map cL) at_
 have eq := eqLawS_ev (WL (l.map cL) at_).1 (by omega)
 have im := impl_WithoutLaw_ev (l.map cL) hm at_
 have mkd := markLawS_ev2 (WL (l.map cL) at_).1 (by omega)
 have hld := heldLawS_ev (WL (l.map cL) at_).1.length (by omega)
 have ml := markLawS_ev2 (l.map cL) hm
 have hpos : ¬ (1 + 5 * ((l.map cL).length : Int) < 0) := by omega
 have hpos2 : ¬ (1 + 5 * ((WL (l.map cL) at_).1.length : Int) < 0) := by omega
 refine Ev.bind e1 (Ev.bind (spec_WithoutLaw_ev _ hm at_) (Ev.bind e1 (Ev.bind im (Ev.bind eq ?_))))
 simp only [if_true, bne_self_eq_false]
 refine Ev.step (f := fun k => (laws_toLawS.f k l).bind _) (fun k => by rw [laws_FnExactWithoutLaw.j0, if_neg (by decide)]) (Ev.bind e1 (Ev.bind (eqLawS_ev _ hm9) ?_))
 simp only [if_true]
 refine Ev.bind ml ?_
 simp only [if_neg hpos]
 refine Ev.bind eq ?_
 simp only [if_true, bne_self_eq_false]
 refine Ev.step (f := fun k => (laws_markLawS.f k (WL (l.map cL) at_).1 1).bind _) (fun k => by rw [laws_FnExactWithoutLaw.j1, if_neg (by decide)]) (Ev.bind mkd ?_)
 refine Ev.bind hld ?_
 simp only [if_neg hpos2, if_true]
 refine Ev.bind e1 (Ev.bind im (Ev.bind eq ?_))
 simp only [if_true, bne_self_eq_false]
 refine Ev.step (f := fun k => (laws_heldLawS.f k (mks (WL (l.map cL) at_).1.length 1) 1).bind _) (fun k => by rw [laws_FnExactWithoutLaw.j2, if_neg (by decide)]) (Ev.bind hld ?_)
 simp only [if_neg hpos2, if_true]
 exact Ev.now _

end Go.Proofs.Ytlacdgmapojmlaa.Pure
