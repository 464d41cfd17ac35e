-- Printed for this claim by a turned copy of the print (wip/myprint). Lean checks it. Squeezed. Worded. Tightened.
import Derived.Test.YtlacdgmapojmlaaQFnExactWithoutLawx0
import Derived.Test.YtlacdgmapojmlaaQFnExactWithoutLawx2
namespace Go.Proofs.Ytlacdgmapojmlaa.QFnExactWithoutLaw
open Go.RowKit Go.Proofs.YtlacdgmapojmlaaW.PrintWords Go.Proofs.YtlacdgmapojmlaaW.PrintLast Go.Proofs.YtlacdgmapojmlaaW.PrintMore
attribute [local go_sem] max2_int min2_int max_two min_two max_three min_three max_four min_four Opens.cell_twice   -- for this text's walks alone
set_option linter.unusedVariables false
set_option linter.unusedSimpArgs false

/-! ### impl_Law_55: function 55 -/
section
open Kd
theorem impl_Law_55.run_clear_row {P : Program} {α : Type} (d : Kd α) {W : World} (base : Nat) (t ty e : TypeId) (i : TypeInfo) (z : Value) (ht : P.underlying t = some (.slice e)) (hz : (zeroValue e).run P W = .ok z W) (hzs : z.cells.size = d.sz) (hz1 : ∀ u ∈ (Builtin.zeroCells z.cells 1).toList, u.oneCell' = true)
  {g m c : Nat} {xs : List α} {ok : Nat → Prop} (HO : d.R e W base ok (.slice (some ⟨g, 0, none⟩) m c) xs) (hmc : m < c) (c2 : Nat) :
  ∃ w1, (Builtin.clear_ #[t] ty #[.slice (some ⟨g, m * d.sz, none⟩) 1 c2]).run P W = .ok (.tuple #[]) w1 ∧ d.R e w1 base ok (.slice (some ⟨g, 0, none⟩) m c) xs ∧ W.grownBy w1 (some g) := by
 obtain ⟨hn, hnc, _⟩ := R_reads' HO
 obtain ⟨hok, inner, hown, hr⟩ := HO
 rcases hown.2 with ⟨hv, _⟩ | ⟨g', cap', cur, hv, hb, hh, hle, hcm, hcs, htake⟩
 ·cases hv
 injection hv with ha hl hc
 injection ha with ha
 injection ha with hg
 subst hg; subst hc
 obtain ⟨news, hnews⟩ : ∃ news, news = (Builtin.zeroCells z.cells 1).toList := ⟨_, rfl⟩
 have hnl : news.length = d.sz := by rw [hnews, Array.length_toList, size_zeroCells, hzs, Nat.one_mul]
 have hfit : m * d.sz + news.length ≤ cur.size := by
  rw [hnl, hcs, ← Nat.succ_mul]
  exact Nat.mul_le_mul_right _ hmc
 have hst := run_storeCells_cells (P := P) g (m * d.sz) news 0 W (fun j hj => by rw [Nat.add_zero, cell_of_row W g _ cur e (0, 0) hh]; simp; omega) (fun j _ => blk_frozen hh _) (by rw [hnews]; exact hz1)
 rw [Nat.add_zero] at hst
 have hrun : (Builtin.clear_ #[t] ty #[.slice (some ⟨g, m * d.sz, none⟩) 1 c2]).run P W = .ok (.tuple #[]) (W.setCells g (m * d.sz) news) := by
  rw [hnews] at hst
  simp [Builtin.clear_, run_underlying ht, hz, hst, hnews]
 obtain ⟨cur', h3, h4, h5⟩ := setCells_row news (m * d.sz) W cur hh hfit
 obtain ⟨s1, s2, s3, s4⟩ := setCells_same g news (m * d.sz) W
 have hfar : ∀ k', k' ≠ g → (W.setCells g (m * d.sz) news).heap[k']? = W.heap[k']? := fun k' hk' => setCells_far news _ k' hk'
 have hgo : ∀ m, some g = (Value.slice (some ⟨g, 0, none⟩) m c).ownBlock := fun m => by simp [Value.ownBlock]
 refine ⟨_, hrun, ⟨hok, inner, ⟨hown.1, .inr ⟨g, c, cur', by rw [hl], hb, h3, hle, hcm, by rw [h4, hcs], ?_⟩⟩, ?_⟩, ⟨s1, s2, s3, by rw [s4]; exact Nat.le_refl _, fun k' _ hk' => hfar k' (fun he => hk' (by rw [he]))⟩⟩
 ·have e1 : cur'.toList.take (m * d.sz) = cur.toList.take (m * d.sz) := by
   rw [h5, List.append_assoc]
   exact List.take_left' (by rw [List.length_take, Array.length_toList]; omega)
  rw [← hn, e1, hn, htake]
 ·exact hr.imp_ (fun p q hp => d.M_move (fun k' hk' => hfar k' (fun he => hk'.2 (by rw [← hgo, he]))) hp)
end
section
open Kd
variable {P : Program} {ops : Array Oper} {rest : List Oper} {o : Oper} {a : Act} {Q : Exit → Act → World → Prop} {α : Type}
theorem impl_Law_55.R_clear (d : Kd α) {W : World} (base : Nat) (hgd : o.guard = none) (x : Operand) (t e : TypeId) (ho : o.op = .call { callee := .builtin .clear, args := #[x], argTypes := #[t] }) (i : TypeInfo) (z : Value) (ht : P.underlying t = some (.slice e)) (hz : (zeroValue e).run P W = .ok z W) (hzs : z.cells.size = d.sz) (hz1 : ∀ u ∈ (Builtin.zeroCells z.cells 1).toList, u.oneCell' = true)
  {g m c c2 : Nat} {xs : List α} {ok : Nat → Prop} (hx : a.eval x = .slice (some ⟨g, m * d.sz, none⟩) 1 c2) (HO : d.R e W base ok (.slice (some ⟨g, 0, none⟩) m c) xs) (hmc : m < c)
  (h : ∀ w1, d.R e w1 base ok (.slice (some ⟨g, 0, none⟩) m c) xs → W.grownBy w1 (some g) → wpList P ops Q rest (a.put o.dst (.tuple #[])) w1) : wpList P ops Q (o :: rest) a W := by
 obtain ⟨w1, hr, h1, h2⟩ := impl_Law_55.run_clear_row (P := P) d base t o.type e i z ht hz hzs hz1 HO hmc c2
 refine wpList_plain hgd fun K hK => ?_
 unfold Oper.wp execOp
 simp only [ho, resolve, invoke, builtin, Sem.run_bind, Sem.run_pure, Result.andThen_ok, List.map_toArray, List.map_cons, List.map_nil, hx, hr]
 exact hK _ _ (h w1 h1 h2)
end
def impl_Law_55.f (l0 : List S25) (a1 : Int) (a2 : Int) : Option (List S25) := if 0 ≤ a1 then (if a1 < (l0.length : Int) then (if a2 = a1 + 1 then some (l0.eraseIdx a1.toNat) else none) else none) else none
set_option maxHeartbeats 8000000 in
set_option maxRecDepth 100000 in
theorem impl_Law_55.calls (P0_ : Nat → Prop) (u9000_ : Value) (l0 : List (S25)) (a1 : Int) (a2 : Int) (r : List (S25)) (w0 w : World) (hB : Below w0.heap.size w0 w) (ho0 : Kd.R k25 25 w w0.heap.size P0_ u9000_ l0) (h : impl_Law_55.f l0 a1 a2 = some r) :
  Calls Try.prog 55 #[u9000_, .int .i64 a1, .int .i64 a2] w fun e w' => ∃ v1_, e = .returned v1_ ∧ Kd.R k25 25 w' w0.heap.size (fun k_ => (P0_ k_ ∨ w.heap.size ≤ k_)) v1_ r ∧ Below w0.heap.size w0 w' ∧ Kept w w' (fun k_ => P0_ k_) := by
 unfold impl_Law_55.f at h
 by_cases c1 : 0 ≤ a1
 ·rw [if_pos c1] at h
  by_cases c2 : a1 < (l0.length : Int)
  ·rw [if_pos c2] at h
   by_cases c3 : a2 = a1 + 1
   ·rw [if_pos c3] at h
    injection h with h
    subst h c3
    obtain ⟨i, rfl⟩ := Int.eq_ofNat_of_zero_le c1
    rw [Int.toNat_natCast]
    have hi : i < l0.length := by omega
    obtain ⟨g, c, rfl, gb, gl, cl, hG⟩ := Kd.R_form ho0 (by omega)
    have hlc : l0.length ≤ c := (Kd.R_reads' ho0).2.1
    have HK := Aside0.mk (Kept.refl w (fun k_ => P0_ k_))
    have HB := Aside0.mk hB
    have h1 : (0 : Int) ≤ (i : Int) := by omega
    have h2 : (i : Int) ≤ (i : Int) + 1 := by omega
    have h3 : (i : Int) + 1 ≤ (l0.length : Int) := by omega
    have h4 : (l0.length : Int) ≤ (c : Int) := by omega
    have h5 : ¬ (i : Int) = (i : Int) + 1 := by omega
    have h6 : (i : Int) ≤ (c : Int) := by omega
    have h7 : (0 : Int) ≤ (i : Int) + 1 := by omega
    go_enter Try.func55, Try.ntmps55
    go_wp2
    have ho1 := Kd.R_drew ho0
    have hb1 := below_drew1 hB
    have hk1 : Kept w w.drew (fun k_ => P0_ k_) := Kept.drew HK.out
    refine start_ (n := 8) (S := fun _ => True) (ds := []) #[F,F,F,F,F,F,F,F] kr rfl rfl trivial (fun hHeld => ?_)
    generalize w.drew = w1 at ho1 hb1 hk1 hHeld ⊢
    refine pu 0 (some 20) #[T,F,F,F,F,F,F,F] kr ?_
    refine pu 1 (some 21) #[T,T,F,F,F,F,F,F] kr ?_
    refine pu 3 (some 23) #[T,T,F,T,F,F,F,F] kr ?_
    refine pu 4 (some 24) #[T,T,F,T,T,F,F,F] kr ?_
    refine pu 2 (some 22) #[T,T,T,T,T,F,F,F] kr ?_
    refine pu 5 (some 25) #[T,T,T,T,T,T,F,F] kr ?_
    refine one_ (i := 6) (N := some 26) #[T,T,T,T,T,T,T,F] rfl rfl kr (by decide) (fun K hK => ?_)
    refine Kd.R_delete_step k25 (w0 := w0) w0.heap.size (by rfl) (.tmp 22) (.tmp 25) 34 25 rfl Try.underlying34 kr (g := g) (n := l0.length) (c := c) (k := i) rfl rfl ?hA ?hm ho1 hi hb1 hb1.size ?_
    case hA => simp [Addr.add, show (k25).sz = 5 from rfl]
    case hm => omega
    intro w2 ho hb hg
    refine hK.out _ _ trivial (fun hHeld2 => ?_)
    have hk2 : Kept w w2 (fun k_ => P0_ k_) := Kept.of_grown (S := fun k_ => P0_ k_) hg hk1 (fun k_ e_ => by injection e_ with e_; subst e_; exact .inl (ho0.1 _ rfl))
    obtain ⟨m, hm⟩ : ∃ m, l0.length = m + 1 := ⟨l0.length - 1, by omega⟩
    have hm1 : l0.length - 1 = m := by omega
    rw [hm1] at ho ⊢
    refine norm_ (a' := ?_) ?_ ?_
    rotate_left
    ·show Act.put _ (some 26) _ = _
     simp only [Act.put, List.setIfInBounds_toArray, List.set_cons_zero, List.set_cons_succ, i64_w, i32_w]
     rfl
    refine pu 7 (some 0) #[T,T,T,T,T,T,T,T] kr ?_
    refine done_ kr ?_
    have q1 : (0 : Int) ≤ (m : Int) := by omega
    have q2 : (m : Int) ≤ (l0.length : Int) := by omega
    have q3 : l0.length - m = 1 := by omega
    have q4 : ¬ c = m := by omega
    have q5 : m < c := by omega
    go_wp2_with (first
     | (refine impl_Law_55.R_clear k25 w0.heap.size rfl (.tmp 31) 34 25 rfl default (.agg #[.int .i64 0, .int .i64 0, .int .i64 0, .int .i64 0, .bool false]) Try.underlying34 ?hz ?hzs ?hz1 (g := g) (m := m) (c := c) (c2 := c - m) ?hx ho q5 ?_; (case hz => first | (go_simp; done) | (go_simp; rfl)); (case hzs => rfl); (case hz1 => decide +kernel); (case hx => first | rfl | (simp [q3, q4]; done) | (show Value.slice _ _ _ = _; simp [q3, q4, Addr.add]; done)); intro w3 ho3 hg3))
    all_goals
     (try (have e_ : c = i + 1 := (by assumption); subst e_))
     go_ret
     exact ⟨_, rfl, Kd.R_mono ho3 (fun k_ hk => .inl hk), hb.grown hg3 hb.size (fun k_ e_ => by injection e_ with e_; subst e_; exact gb), Kept.of_grown (S := fun k_ => P0_ k_) hg3 hk2 (fun k_ e_ => by injection e_ with e_; subst e_; exact .inl (ho0.1 _ rfl))⟩
   ·rw [if_neg c3] at h; cases h
  ·rw [if_neg c2] at h; cases h
 ·rw [if_neg c1] at h; cases h

/-! ### impl_WithoutLaw: function 29 -/
def impl_WithoutLaw.f (k : Nat) (l0 : List (S25)) (a1 : Int) : Option ((List (S25)) × Bool) := (impl_isBook.f k l0).bind fun t159 => (if t159 = true then (if a1 < 0 then (some (([] : List (S25)), false)) else (if a1 ≥ (l0.length : Int) then (some (([] : List (S25)), false)) else ((some (([] : List (S25)) : List (S25))).bind fun y160 => (if y160.length + l0.length < 3518437208883 then ((impl_Law_55.f (y160 ++ l0) a1 (wrap64 (a1 + 1))).bind fun t166 => (some (t166, true))) else (none))))) else (some (([] : List (S25)), false)))
theorem impl_WithoutLaw.mono : ∀ a0 a1 k, LeO (impl_WithoutLaw.f k a0 a1) (impl_WithoutLaw.f (k + 1) a0 a1) := by
 intro a0 a1 k
 unfold impl_WithoutLaw.f
 repeat' first
   | (with_reducible exact impl_isBook.mono _ _)
   | (with_reducible exact LeO.refl _)
   | (with_reducible exact LeO.none _)
   | (with_reducible refine LeO.ite ?_ ?_)
   | (with_reducible refine LeO.bind ?_ (fun _ => ?_))
   | exact impl_isBook.mono _ _
   | exact LeO.none _
   | refine LeO.ite ?_ ?_
   | refine LeO.bind ?_ (fun _ => ?_)
set_option maxHeartbeats 8000000 in
set_option maxRecDepth 100000 in
theorem impl_WithoutLaw.calls (k : Nat) (A0 : Option Addr) (c0 : Nat) (l0 : List (S25)) (a1 : Int) (r1 : List (S25)) (r2 : Bool) (w : World) (hr0 : Kd.C k25 w A0 l0.length l0) (hc0 : l0.length ≤ c0) (h : impl_WithoutLaw.f k l0 a1 = some (r1, r2)) :
  Calls Try.prog 29 #[.slice A0 l0.length c0, .int .i64 a1] w fun e w' => ∃ v0_ : Value, e = .returned (.tuple #[v0_, .bool r2]) ∧ Kd.R k25 25 w' w.heap.size (fun _ => True) v0_ r1 ∧ Below w.heap.size w w' := by
 have HR0 := Aside0.mk hr0
 have HC0 := Aside0.mk hc0
 clear hr0 hc0
 have HB := Aside0.mk (Below.refl w.heap.size w)
 have H : ((impl_isBook.f k l0).bind fun t159 => (if t159 = true then (if a1 < 0 then (some (([] : List (S25)), false)) else (if a1 ≥ (l0.length : Int) then (some (([] : List (S25)), false)) else ((some (([] : List (S25)) : List (S25))).bind fun y160 => (if y160.length + l0.length < 3518437208883 then ((impl_Law_55.f (y160 ++ l0) a1 (wrap64 (a1 + 1))).bind fun t166 => (some (t166, true))) else (none))))) else (some (([] : List (S25)), false)))) = some (r1, r2) := h
 clear h
 replace H := Option.bind_eq_some_iff.mp H
 obtain ⟨t159, A30, H⟩ := H
 replace H : (if t159 = true then (if a1 < 0 then (some (([] : List (S25)), false)) else (if a1 ≥ (l0.length : Int) then (some (([] : List (S25)), false)) else ((some (([] : List (S25)) : List (S25))).bind fun y160 => (if y160.length + l0.length < 3518437208883 then ((impl_Law_55.f (y160 ++ l0) a1 (wrap64 (a1 + 1))).bind fun t166 => (some (t166, true))) else (none))))) else (some (([] : List (S25)), false))) = some (r1, r2) := H
 have A3 := Aside0.mk A30
 clear A30
 by_cases c4 : t159 = true
 ·subst c4
  have H1 : (if a1 < 0 then (some (([] : List (S25)), false)) else (if a1 ≥ (l0.length : Int) then (some (([] : List (S25)), false)) else ((some (([] : List (S25)) : List (S25))).bind fun y160 => (if y160.length + l0.length < 3518437208883 then ((impl_Law_55.f (y160 ++ l0) a1 (wrap64 (a1 + 1))).bind fun t166 => (some (t166, true))) else (none))))) = some (r1, r2) := by rw [if_pos rfl] at H; exact H
  clear H
  have H := H1
  clear H1
  by_cases c5 : a1 < 0
  ·rw [if_pos c5] at H
   have c5b0 : decide (a1 < 0) = true := decide_eq_true c5
   clear c5
   simp only [Option.some.injEq, Prod.mk.injEq] at H
   obtain ⟨rfl, rfl⟩ := H
   go_enter Try.func29, Try.ntmps29
   go_wp2_with (first | ((with_reducible refine gate_callee (f := 49) rfl ?_); refine goesL_ (some 7) rfl rfl Try.func49 kr rfl #[.slice A0 l0.length c0] rfl lm ?_; (with_reducible refine (impl_isBook.calls k _ _ l0 true _ ?side1 ?side2 A3.out).mono ?_); (case side1 => repeat (first | exact HR0.out | (with_reducible refine Kd.C_alloc ?_ _) | (with_reducible refine Kd.C_drewN ?_ _) | (with_reducible refine Kd.C_drew ?_))); (case side2 => exact HC0.out); rintro e w6 ⟨rfl, hb⟩; refine ⟨_, rfl, ?_⟩; have n0_ := Aside0.mk (below_step bh hb); clear HB; have HB := n0_; clear n0_; (try clear hb); (try clear hb2); (try clear hk); (try clear hi)))
   go_ret2
   exact ⟨_, by first | rfl | (simp [errW_none, errW_some] <;> rfl) | (simp [*, errW_none, errW_some] <;> rfl), by first | exact Kd.R_nil _ _ _ _ _ | exact Kd.N_nil _ _ _ _ _ | exact Kd.V_nil _ _ _ _ _ | exact Kd.Q_nil _ _ _ _ _ | exact Kd.S_nil _ _ _ _ _, by exact bh⟩
  ·rw [if_neg c5] at H
   have c5b0 : decide (a1 < 0) = false := decide_eq_false c5
   clear c5
   by_cases c7 : a1 ≥ (l0.length : Int)
   ·rw [if_pos c7] at H
    have c7b0 : decide ((l0.length : Int) ≤ a1) = true := decide_eq_true c7
    clear c7
    simp only [Option.some.injEq, Prod.mk.injEq] at H
    obtain ⟨rfl, rfl⟩ := H
    go_enter Try.func29, Try.ntmps29
    go_wp2_with (first | ((with_reducible refine gate_callee (f := 49) rfl ?_); refine goesL_ (some 7) rfl rfl Try.func49 kr rfl #[.slice A0 l0.length c0] rfl lm ?_; (with_reducible refine (impl_isBook.calls k _ _ l0 true _ ?side1 ?side2 A3.out).mono ?_); (case side1 => repeat (first | exact HR0.out | (with_reducible refine Kd.C_alloc ?_ _) | (with_reducible refine Kd.C_drewN ?_ _) | (with_reducible refine Kd.C_drew ?_))); (case side2 => exact HC0.out); rintro e w8 ⟨rfl, hb⟩; refine ⟨_, rfl, ?_⟩; have n0_ := Aside0.mk (below_step bh hb); clear HB; have HB := n0_; clear n0_; (try clear hb); (try clear hb2); (try clear hk); (try clear hi)))
    go_ret2
    exact ⟨_, by first | rfl | (simp [errW_none, errW_some] <;> rfl) | (simp [*, errW_none, errW_some] <;> rfl), by first | exact Kd.R_nil _ _ _ _ _ | exact Kd.N_nil _ _ _ _ _ | exact Kd.V_nil _ _ _ _ _ | exact Kd.Q_nil _ _ _ _ _ | exact Kd.S_nil _ _ _ _ _, by exact bh⟩
   ·rw [if_neg c7] at H
    have c7b0 : decide ((l0.length : Int) ≤ a1) = false := decide_eq_false c7
    clear c7
    obtain ⟨y160, hy160⟩ : ∃ y_ : List (S25), y_ = (([] : List (S25))) := ⟨_, rfl⟩
    replace H : (if y160.length + l0.length < 3518437208883 then ((impl_Law_55.f (y160 ++ l0) a1 (wrap64 (a1 + 1))).bind fun t166 => (some (t166, true))) else (none)) = some (r1, r2) := by first | (rw [hy160]; with_reducible exact H) | (have H2_ := (Option.bind_some _ _).symm.trans H; rw [hy160]; with_reducible exact H2_) | (have H2_ := (Option.bind_some _ _).symm.trans H; with_reducible exact H2_) | with_reducible exact H | (rw [hy160]; exact H) | exact H
    have Ny160 := Aside0.mk hy160
    clear hy160
    by_cases c9 : y160.length + l0.length < 3518437208883
    ·rw [if_pos c9] at H
     have LMc9 := Aside0.mk c9
     clear c9
     obtain ⟨y163, hy163⟩ : ∃ y_ : List (S25), y_ = (y160 ++ l0) := ⟨_, rfl⟩
     replace H : ((impl_Law_55.f y163 a1 (wrap64 (a1 + 1))).bind fun t166 => (some (t166, true))) = some (r1, r2) := by first | (rw [hy163]; with_reducible exact H) | (have H2_ := (Option.bind_some _ _).symm.trans H; rw [hy163]; with_reducible exact H2_) | (have H2_ := (Option.bind_some _ _).symm.trans H; with_reducible exact H2_) | with_reducible exact H | (rw [hy163]; exact H) | exact H
     have Ny163 := Aside0.mk hy163
     clear hy163
     replace H := Option.bind_eq_some_iff.mp H
     obtain ⟨t166, A100, H⟩ := H
     replace H : (some (t166, true)) = some (r1, r2) := H
     have A10 := Aside0.mk A100
     clear A100
     simp only [Option.some.injEq, Prod.mk.injEq] at H
     obtain ⟨rfl, rfl⟩ := H
     go_enter Try.func29, Try.ntmps29
     go_wp2_with (first | ((with_reducible refine gate_callee (f := 49) rfl ?_); refine goesL_ (some 7) rfl rfl Try.func49 kr rfl #[.slice A0 l0.length c0] rfl lm ?_; (with_reducible refine (impl_isBook.calls k _ _ l0 true _ ?side1 ?side2 A3.out).mono ?_); (case side1 => repeat (first | exact HR0.out | (with_reducible refine Kd.C_alloc ?_ _) | (with_reducible refine Kd.C_drewN ?_ _) | (with_reducible refine Kd.C_drew ?_))); (case side2 => exact HC0.out); rintro e w11 ⟨rfl, hb⟩; refine ⟨_, rfl, ?_⟩; have n0_ := Aside0.mk (below_step bh hb); clear HB; have HB := n0_; clear n0_; (try clear hb); (try clear hb2); (try clear hk); (try clear hi)) | ((with_reducible refine gate_dst (N := 19) rfl ?_); (try (refine gate_guard (by rfl) ?_; dsimp only)); refine Kd.R_lit k25 _ 25 ?hg (N := 19) ?hd (xs := ([] : List (S25))) (inner := []) (ok := fun _ => True) (okp := fun _ => True) ?hr ?hp (fun _ hk => hk) trivial (Below.refl _ _) (Nat.le_refl _) (by simp) ?_; (case hd => rfl); (case hg => rfl); (case hr => first | (go_simp; done) | (go_simp; rfl)); (case hp => exact (Reps.none _ _)); intro v161 w12 ho13 hb hg_ hnew_; clear hg_ hnew_; (first | rw [← Ny160.out] at ho13 | (simp only [Int.reduceToNat] at ho13; rw [← Ny160.out] at ho13)); have n0_ := Aside0.mk (Kd.R_lower ho13 (below_size bh)); have n1_ := Aside0.mk (below_step bh hb); clear HB; have HO162 := n0_; have HB := n1_; clear n0_ n1_ hb ho13) | ((with_reducible refine gate_builtin (b := .append) (xs := #[.tmp 19, .tmp 20]) rfl ?_); (try (refine gate_guard (by rfl) ?_; dsimp only)); at_builtin; refine Kd.R_append_rows k25 (w0 := w) w.heap.size rfl (.tmp 19) (.tmp 20) 34 25 (.agg #[(.int .i64 0), (.int .i64 0), (.int .i64 0), (.int .i64 0), (.bool false)]) 40 rfl Try.underlying34 info25 rfl (by decide) (by omega) v161 y160 l0 _ _ _ (fun _ => True) (fun _ => False) rfl rfl ?aO ?aR (fun _ _ h => h) (fun _ h => h.elim) ?aF ?aB ?aS ?aL ?_; (case aR => repeat (first | exact (Kd.C_below HR0.out HB.out) | (with_reducible refine Kd.C_alloc ?_ _) | (with_reducible refine Kd.C_drewN ?_ _) | (with_reducible refine Kd.C_drew ?_))); (case aB => exact bh); (case aF => exact (fun _ _ => trivial)); (case aO => exact (rz HO162)); (case aS => exact (below_size bh)); (case aL => have := LMc9.out; omega); intro v164 w14 ho hb hg hat; rw [← Ny163.out] at ho; have n0_ := Aside0.mk (hb); have n1_ := Aside0.mk (ho); clear HB HO162; have HB := n0_; have HO165 := n1_; clear n0_ n1_ ho hb hg hat; obtain ⟨Ao15, co15, eo15⟩ := Kd.R_slice HO165.out; subst eo15) | ((with_reducible refine gate_callee (f := 55) rfl ?_); refine goesL_ (some 25) rfl rfl Try.func55 kr rfl #[.slice Ao15 y163.length co15, .int .i64 a1, .int .i64 (wrap64 (a1 + 1))] rfl lm ?_; (with_reducible refine (impl_Law_55.calls (fun k_ => some k_ = (.slice Ao15 y163.length co15 : Value).ownBlock) (.slice Ao15 y163.length co15) y163 a1 (wrap64 (a1 + 1)) t166 w _ ?side1 ?side2 A10.out).mono ?_); (case side1 => repeat (first | (with_reducible first | exact HB.out | apply below_alloc | apply pw_below_drewN | apply below_drew1) | exact HB.out)); (case side2 => exact Kd.R_tight rfl HO165.out); rintro e w16 ⟨v167, rfl, ho0, hb, hkp⟩; refine ⟨_, rfl, ?_⟩; have n0_ := Aside0.mk (Kd.R_mono (ok' := fun k_ => True) ho0 (fun k_ hk_ => trivial)); have n1_ := Aside0.mk (hb); clear HB HO165; have HO168 := n0_; have HB := n1_; clear n0_ n1_; (try clear hb); (try clear hkp); (try clear ho0)))
     go_ret2
     exact ⟨_, by first | rfl | (simp [errW_none, errW_some] <;> rfl) | (simp [*, errW_none, errW_some] <;> rfl), by (with_reducible repeat (first | apply Kd.R_alloc | apply Kd.R_drewN | apply Kd.R_drew)); exact HO168.out, by exact bh⟩
    ·rw [if_neg c9] at H
     exact absurd H (by simp)
 ·replace c4 := Bool.eq_false_iff.mpr c4
  subst c4
  have H1 : (some (([] : List (S25)), false)) = some (r1, r2) := by rw [if_neg (show ¬ (false = true) by decide)] at H; exact H
  clear H
  have H := H1
  clear H1
  simp only [Option.some.injEq, Prod.mk.injEq] at H
  obtain ⟨rfl, rfl⟩ := H
  go_enter Try.func29, Try.ntmps29
  go_wp2_with (first | ((with_reducible refine gate_callee (f := 49) rfl ?_); refine goesL_ (some 7) rfl rfl Try.func49 kr rfl #[.slice A0 l0.length c0] rfl lm ?_; (with_reducible refine (impl_isBook.calls k _ _ l0 false _ ?side1 ?side2 A3.out).mono ?_); (case side1 => repeat (first | exact HR0.out | (with_reducible refine Kd.C_alloc ?_ _) | (with_reducible refine Kd.C_drewN ?_ _) | (with_reducible refine Kd.C_drew ?_))); (case side2 => exact HC0.out); rintro e w17 ⟨rfl, hb⟩; refine ⟨_, rfl, ?_⟩; have n0_ := Aside0.mk (below_step bh hb); clear HB; have HB := n0_; clear n0_; (try clear hb); (try clear hb2); (try clear hk); (try clear hi)))
  go_ret2
  exact ⟨_, by first | rfl | (simp [errW_none, errW_some] <;> rfl) | (simp [*, errW_none, errW_some] <;> rfl), by first | exact Kd.R_nil _ _ _ _ _ | exact Kd.N_nil _ _ _ _ _ | exact Kd.V_nil _ _ _ _ _ | exact Kd.Q_nil _ _ _ _ _ | exact Kd.S_nil _ _ _ _ _, by exact bh⟩

/-! ### laws_markLawS: function 30 -/
def laws_markLawS.l0 : Nat → List (S25) → Int → Int → Option (Int × (List (S25)))
 | 0, _, _, _ => none
 | k + 1, x0, x1, x5 => if x5 < (x0.length : Int) then (if 0 ≤ x5 then ((some (x0.set (x5 : Int).toNat (⟨x1, (rd_T25 x0 x5).f1, (rd_T25 x0 x5).f2, (rd_T25 x0 x5).f3, (rd_T25 x0 x5).f4⟩ : S25) : List (S25))).bind fun y169 => ((some (y169.set (x5 : Int).toNat (⟨(rd_T25 y169 x5).f0, wrap64 (x1 + 1), (rd_T25 y169 x5).f2, (rd_T25 y169 x5).f3, (rd_T25 y169 x5).f4⟩ : S25) : List (S25))).bind fun y170 => ((some (y170.set (x5 : Int).toNat (⟨(rd_T25 y170 x5).f0, (rd_T25 y170 x5).f1, wrap64 ((wrap64 (x1 + 1)) + 1), (rd_T25 y170 x5).f3, (rd_T25 y170 x5).f4⟩ : S25) : List (S25))).bind fun y171 => ((some (y171.set (x5 : Int).toNat (⟨(rd_T25 y171 x5).f0, (rd_T25 y171 x5).f1, (rd_T25 y171 x5).f2, wrap64 ((wrap64 ((wrap64 (x1 + 1)) + 1)) + 1), (rd_T25 y171 x5).f4⟩ : S25) : List (S25))).bind fun y172 => (laws_markLawS.l0 k (y172.set (x5 : Int).toNat (⟨(rd_T25 y172 x5).f0, (rd_T25 y172 x5).f1, (rd_T25 y172 x5).f2, (rd_T25 y172 x5).f3, ((Int.tmod (wrap64 ((wrap64 ((wrap64 ((wrap64 (x1 + 1)) + 1)) + 1)) + 1)) 3) == 0)⟩ : S25)) (wrap64 ((wrap64 ((wrap64 ((wrap64 ((wrap64 (x1 + 1)) + 1)) + 1)) + 1)) + 1)) (wrap64 (x5 + 1))))))) else (none)) else (some (x1, x0))
def laws_markLawS.f (k : Nat) (l0 : List (S25)) (a1 : Int) : Option (Int × (List (S25))) := laws_markLawS.l0 k l0 a1 0
theorem laws_markLawS.mono_l : ∀ k, (∀ y0 y1 y2, LeO (laws_markLawS.l0 k y0 y1 y2) (laws_markLawS.l0 (k + 1) y0 y1 y2))
 | 0 => fun _ _ _ r h => by simp [laws_markLawS.l0] at h
 | k + 1 => by
  have ih0 := laws_markLawS.mono_l k
  ·intro y0 y1 y2
   unfold laws_markLawS.l0
   repeat' first
   | (with_reducible exact ih0 _ _ _)
   | (with_reducible exact LeO.refl _)
   | (with_reducible exact LeO.none _)
   | (with_reducible refine LeO.ite ?_ ?_)
   | (with_reducible refine LeO.bind ?_ (fun _ => ?_))
   | exact ih0 _ _ _
   | exact LeO.none _
   | refine LeO.ite ?_ ?_
   | refine LeO.bind ?_ (fun _ => ?_)
theorem laws_markLawS.mono : ∀ a0 a1 k, LeO (laws_markLawS.f k a0 a1) (laws_markLawS.f (k + 1) a0 a1) := by
 intro a0 a1 k
 have ih0 := laws_markLawS.mono_l k
 unfold laws_markLawS.f
 repeat' first
   | (with_reducible exact ih0 _ _ _)
   | (with_reducible exact LeO.refl _)
   | (with_reducible exact LeO.none _)
   | (with_reducible refine LeO.ite ?_ ?_)
   | (with_reducible refine LeO.bind ?_ (fun _ => ?_))
   | exact ih0 _ _ _
   | exact LeO.none _
   | refine LeO.ite ?_ ?_
   | refine LeO.bind ?_ (fun _ => ?_)
set_option maxHeartbeats 8000000 in
set_option maxRecDepth 100000 in
theorem laws_markLawS.calls (k : Nat) (P0_ : Nat → Prop) (u9000_ : Value) (l0 : List (S25)) (a1 : Int) (r1 : Int) (r2 : List (S25)) (w0 w : World) (hB : Below w0.heap.size w0 w) (ho0 : Kd.R k25 25 w w0.heap.size P0_ u9000_ l0) (h : laws_markLawS.f k l0 a1 = some (r1, r2)) :
  Calls Try.prog 30 #[u9000_, .int .i64 a1] w fun e w' => e = .returned (.int .i64 r1) ∧ Kd.R k25 25 w' w0.heap.size (fun k_ => (P0_ k_ ∨ w.heap.size ≤ k_)) u9000_ r2 ∧ Below w0.heap.size w0 w' ∧ Kept w w' (fun k_ => P0_ k_) := by
 have HO0 := Aside0.mk (show Kd.R k25 25 w w0.heap.size (fun k_ => (P0_ k_ ∨ w.heap.size ≤ k_)) u9000_ l0 from Kd.R_mono ho0 (fun k_ hk => (.inl hk)))
 have HK := Aside0.mk (Kept.refl w (fun k_ => P0_ k_))
 have HW0 := Aside0.mk hB.size
 have HB := Aside0.mk hB
 clear hB
 have H : (laws_markLawS.l0 k l0 a1 0) = some (r1, r2) := h
 clear h
 have H' := Aside0.mk H
 clear H
 go_enter Try.func30, Try.ntmps30
 go_wp2
 go_loopg [1, 5] k (fun kq v1 v5 w' => ∃ (x0_1 : List (S25)) (x1_1 : Int) (x5_1 : Int), v1 = .int .i64 x1_1 ∧ v5 = .int .i64 x5_1 ∧ Aside0 (laws_markLawS.l0 kq x0_1 x1_1 x5_1 = some (r1, r2)) ∧ Aside0 (kq ≤ k) ∧ Aside0 (Kd.R k25 25 w' w0.heap.size (fun k_ => (P0_ k_ ∨ w.heap.size ≤ k_)) u9000_ x0_1) ∧ Aside0 (Kept w w' (fun k_ => P0_ k_)) ∧ Aside0 (Below w0.heap.size w0 w'))
 case atStart => exact ⟨(l0), (a1), (0), (by first | rfl | (simp; done) | (simp [*]; done)), (by first | rfl | (simp; done) | (simp [*]; done)), H', ⟨Nat.le_refl _⟩, ⟨rz HO0⟩, ⟨by repeat (first | (with_reducible first | exact HK.out | apply Kept.alloc | apply Kept.drewN | apply Kept.drew) | exact HK.out)⟩, ⟨by exact bh⟩⟩
 case round =>
  clear H'
  try clear p2
  obtain ⟨x0_1, x1_1, x5_1, rfl, rfl, HA, HK1, HO_0, HK, HB⟩ := hrel
  cases gk with
  | zero => exact absurd HA.out (by simp [laws_markLawS.l0])
  | succ k1 =>
   have H := HA.out
   clear HA
   simp only [laws_markLawS.l0] at H
   by_cases c3 : x5_1 < (x0_1.length : Int)
   ·rw [if_pos c3] at H
    have c3b0 : decide (x5_1 < (x0_1.length : Int)) = true := decide_eq_true c3
    clear c3
    by_cases c4 : 0 ≤ x5_1
    ·rw [if_pos c4] at H
     have c4b0 : decide (0 ≤ x5_1) = true := decide_eq_true c4
     clear c4
     obtain ⟨y169, hy169⟩ : ∃ y_ : List (S25), y_ = (x0_1.set (x5_1 : Int).toNat (⟨x1_1, (rd_T25 x0_1 x5_1).f1, (rd_T25 x0_1 x5_1).f2, (rd_T25 x0_1 x5_1).f3, (rd_T25 x0_1 x5_1).f4⟩ : S25)) := ⟨_, rfl⟩
     replace H : ((some (y169.set (x5_1 : Int).toNat (⟨(rd_T25 y169 x5_1).f0, wrap64 (x1_1 + 1), (rd_T25 y169 x5_1).f2, (rd_T25 y169 x5_1).f3, (rd_T25 y169 x5_1).f4⟩ : S25) : List (S25))).bind fun y170 => ((some (y170.set (x5_1 : Int).toNat (⟨(rd_T25 y170 x5_1).f0, (rd_T25 y170 x5_1).f1, wrap64 ((wrap64 (x1_1 + 1)) + 1), (rd_T25 y170 x5_1).f3, (rd_T25 y170 x5_1).f4⟩ : S25) : List (S25))).bind fun y171 => ((some (y171.set (x5_1 : Int).toNat (⟨(rd_T25 y171 x5_1).f0, (rd_T25 y171 x5_1).f1, (rd_T25 y171 x5_1).f2, wrap64 ((wrap64 ((wrap64 (x1_1 + 1)) + 1)) + 1), (rd_T25 y171 x5_1).f4⟩ : S25) : List (S25))).bind fun y172 => (laws_markLawS.l0 k1 (y172.set (x5_1 : Int).toNat (⟨(rd_T25 y172 x5_1).f0, (rd_T25 y172 x5_1).f1, (rd_T25 y172 x5_1).f2, (rd_T25 y172 x5_1).f3, ((Int.tmod (wrap64 ((wrap64 ((wrap64 ((wrap64 (x1_1 + 1)) + 1)) + 1)) + 1)) 3) == 0)⟩ : S25)) (wrap64 ((wrap64 ((wrap64 ((wrap64 ((wrap64 (x1_1 + 1)) + 1)) + 1)) + 1)) + 1)) (wrap64 (x5_1 + 1)))))) = some (r1, r2) := by first | (rw [hy169]; with_reducible exact H) | (have H2_ := (Option.bind_some _ _).symm.trans H; rw [hy169]; with_reducible exact H2_) | (have H2_ := (Option.bind_some _ _).symm.trans H; with_reducible exact H2_) | with_reducible exact H | (rw [hy169]; exact H) | exact H
     have Ny169 := Aside0.mk hy169
     clear hy169
     obtain ⟨y170, hy170⟩ : ∃ y_ : List (S25), y_ = (y169.set (x5_1 : Int).toNat (⟨(rd_T25 y169 x5_1).f0, wrap64 (x1_1 + 1), (rd_T25 y169 x5_1).f2, (rd_T25 y169 x5_1).f3, (rd_T25 y169 x5_1).f4⟩ : S25)) := ⟨_, rfl⟩
     replace H : ((some (y170.set (x5_1 : Int).toNat (⟨(rd_T25 y170 x5_1).f0, (rd_T25 y170 x5_1).f1, wrap64 ((wrap64 (x1_1 + 1)) + 1), (rd_T25 y170 x5_1).f3, (rd_T25 y170 x5_1).f4⟩ : S25) : List (S25))).bind fun y171 => ((some (y171.set (x5_1 : Int).toNat (⟨(rd_T25 y171 x5_1).f0, (rd_T25 y171 x5_1).f1, (rd_T25 y171 x5_1).f2, wrap64 ((wrap64 ((wrap64 (x1_1 + 1)) + 1)) + 1), (rd_T25 y171 x5_1).f4⟩ : S25) : List (S25))).bind fun y172 => (laws_markLawS.l0 k1 (y172.set (x5_1 : Int).toNat (⟨(rd_T25 y172 x5_1).f0, (rd_T25 y172 x5_1).f1, (rd_T25 y172 x5_1).f2, (rd_T25 y172 x5_1).f3, ((Int.tmod (wrap64 ((wrap64 ((wrap64 ((wrap64 (x1_1 + 1)) + 1)) + 1)) + 1)) 3) == 0)⟩ : S25)) (wrap64 ((wrap64 ((wrap64 ((wrap64 ((wrap64 (x1_1 + 1)) + 1)) + 1)) + 1)) + 1)) (wrap64 (x5_1 + 1))))) = some (r1, r2) := by first | (rw [hy170]; with_reducible exact H) | (have H2_ := (Option.bind_some _ _).symm.trans H; rw [hy170]; with_reducible exact H2_) | (have H2_ := (Option.bind_some _ _).symm.trans H; with_reducible exact H2_) | with_reducible exact H | (rw [hy170]; exact H) | exact H
     have Ny170 := Aside0.mk hy170
     clear hy170
     obtain ⟨y171, hy171⟩ : ∃ y_ : List (S25), y_ = (y170.set (x5_1 : Int).toNat (⟨(rd_T25 y170 x5_1).f0, (rd_T25 y170 x5_1).f1, wrap64 ((wrap64 (x1_1 + 1)) + 1), (rd_T25 y170 x5_1).f3, (rd_T25 y170 x5_1).f4⟩ : S25)) := ⟨_, rfl⟩
     replace H : ((some (y171.set (x5_1 : Int).toNat (⟨(rd_T25 y171 x5_1).f0, (rd_T25 y171 x5_1).f1, (rd_T25 y171 x5_1).f2, wrap64 ((wrap64 ((wrap64 (x1_1 + 1)) + 1)) + 1), (rd_T25 y171 x5_1).f4⟩ : S25) : List (S25))).bind fun y172 => (laws_markLawS.l0 k1 (y172.set (x5_1 : Int).toNat (⟨(rd_T25 y172 x5_1).f0, (rd_T25 y172 x5_1).f1, (rd_T25 y172 x5_1).f2, (rd_T25 y172 x5_1).f3, ((Int.tmod (wrap64 ((wrap64 ((wrap64 ((wrap64 (x1_1 + 1)) + 1)) + 1)) + 1)) 3) == 0)⟩ : S25)) (wrap64 ((wrap64 ((wrap64 ((wrap64 ((wrap64 (x1_1 + 1)) + 1)) + 1)) + 1)) + 1)) (wrap64 (x5_1 + 1)))) = some (r1, r2) := by first | (rw [hy171]; with_reducible exact H) | (have H2_ := (Option.bind_some _ _).symm.trans H; rw [hy171]; with_reducible exact H2_) | (have H2_ := (Option.bind_some _ _).symm.trans H; with_reducible exact H2_) | with_reducible exact H | (rw [hy171]; exact H) | exact H
     have Ny171 := Aside0.mk hy171
     clear hy171
     obtain ⟨y172, hy172⟩ : ∃ y_ : List (S25), y_ = (y171.set (x5_1 : Int).toNat (⟨(rd_T25 y171 x5_1).f0, (rd_T25 y171 x5_1).f1, (rd_T25 y171 x5_1).f2, wrap64 ((wrap64 ((wrap64 (x1_1 + 1)) + 1)) + 1), (rd_T25 y171 x5_1).f4⟩ : S25)) := ⟨_, rfl⟩
     replace H : (laws_markLawS.l0 k1 (y172.set (x5_1 : Int).toNat (⟨(rd_T25 y172 x5_1).f0, (rd_T25 y172 x5_1).f1, (rd_T25 y172 x5_1).f2, (rd_T25 y172 x5_1).f3, ((Int.tmod (wrap64 ((wrap64 ((wrap64 ((wrap64 (x1_1 + 1)) + 1)) + 1)) + 1)) 3) == 0)⟩ : S25)) (wrap64 ((wrap64 ((wrap64 ((wrap64 ((wrap64 (x1_1 + 1)) + 1)) + 1)) + 1)) + 1)) (wrap64 (x5_1 + 1))) = some (r1, r2) := by first | (rw [hy172]; with_reducible exact H) | (have H2_ := (Option.bind_some _ _).symm.trans H; rw [hy172]; with_reducible exact H2_) | (have H2_ := (Option.bind_some _ _).symm.trans H; with_reducible exact H2_) | with_reducible exact H | (rw [hy172]; exact H) | exact H
     have Ny172 := Aside0.mk hy172
     clear hy172
     obtain ⟨y173, hy173⟩ : ∃ y_ : List (S25), y_ = (y172.set (x5_1 : Int).toNat (⟨(rd_T25 y172 x5_1).f0, (rd_T25 y172 x5_1).f1, (rd_T25 y172 x5_1).f2, (rd_T25 y172 x5_1).f3, ((Int.tmod (wrap64 ((wrap64 ((wrap64 ((wrap64 (x1_1 + 1)) + 1)) + 1)) + 1)) 3) == 0)⟩ : S25)) := ⟨_, rfl⟩
     replace H : (laws_markLawS.l0 k1 y173 (wrap64 ((wrap64 ((wrap64 ((wrap64 ((wrap64 (x1_1 + 1)) + 1)) + 1)) + 1)) + 1)) (wrap64 (x5_1 + 1))) = some (r1, r2) := by first | (rw [hy173]; with_reducible exact H) | (have H2_ := (Option.bind_some _ _).symm.trans H; rw [hy173]; with_reducible exact H2_) | (have H2_ := (Option.bind_some _ _).symm.trans H; with_reducible exact H2_) | with_reducible exact H | (rw [hy173]; exact H) | exact H
     have Ny173 := Aside0.mk hy173
     clear hy173
     have H' := Aside0.mk H
     clear H
     obtain ⟨Ao10, co10, eo10⟩ := Kd.R_slice HO_0.out
     subst eo10
     have p5 : 0 ≤ (x5_1 : Int) := oda
     have q5 : (x5_1 : Int) < ((x0_1.length : Int) : Int) := oda
     obtain ⟨go5, co5, eo5, gb5, gl5, cl5, HG5⟩ := Kd.R_form HO_0.out (by omega)
     (first | cases eo5 | (injection eo5 with ea_ en_ ec_; (first | subst ea_ | (injection ea_ with ea_; subst ea_)); subst ec_; clear en_))
     have GB5 := Aside0.mk gb5
     have GG5 := Aside0.mk HG5
     clear gb5 gl5 HG5
     have HMgo5 := Aside0.mk (show (P0_ go5 ∨ w.heap.size ≤ go5) from (HO_0.out.1 _ rfl))
     obtain ⟨ce5, hcl5, hM5, hcc5, hfr5⟩ := Kd.R_elem HO_0.out z25 (x5_1 : Int) p5 q5
     obtain rfl := k25_openM hM5
     have hx5_0 : wr.cell? ⟨go5, (x5_1 : Int).toNat * 5, none⟩ = some (.int .i64 ((rd_T25 x0_1 x5_1).f0)) := hcc5 0 _ rfl
     have hx5_1 : wr.cell? ⟨go5, (x5_1 : Int).toNat * 5 + 1, none⟩ = some (.int .i64 ((rd_T25 x0_1 x5_1).f1)) := hcc5 1 _ rfl
     have hx5_2 : wr.cell? ⟨go5, (x5_1 : Int).toNat * 5 + 2, none⟩ = some (.int .i64 ((rd_T25 x0_1 x5_1).f2)) := hcc5 2 _ rfl
     have hx5_3 : wr.cell? ⟨go5, (x5_1 : Int).toNat * 5 + 3, none⟩ = some (.int .i64 ((rd_T25 x0_1 x5_1).f3)) := hcc5 3 _ rfl
     have hx5_4 : wr.cell? ⟨go5, (x5_1 : Int).toNat * 5 + 4, none⟩ = some (.bool ((rd_T25 x0_1 x5_1).f4)) := hcc5 4 _ rfl
     have hf5_0 : wr.frozen? ⟨go5, (x5_1 : Int).toNat * 5, none⟩ = false := hfr5 0
     have hf5_1 : wr.frozen? ⟨go5, (x5_1 : Int).toNat * 5 + 1, none⟩ = false := hfr5 1
     have hf5_2 : wr.frozen? ⟨go5, (x5_1 : Int).toNat * 5 + 2, none⟩ = false := hfr5 2
     have hf5_3 : wr.frozen? ⟨go5, (x5_1 : Int).toNat * 5 + 3, none⟩ = false := hfr5 3
     have hf5_4 : wr.frozen? ⟨go5, (x5_1 : Int).toNat * 5 + 4, none⟩ = false := hfr5 4
     (try clear hcl5); (try clear hcc5); (try clear hfr5); (try clear hM5)
     replace p5 := eq_true p5
     replace q5 := eq_true q5
     have HX11 := Aside0.mk (show Kd.R k25 25 wr w0.heap.size (fun k_ => (P0_ k_ ∨ w.heap.size ≤ k_)) (.slice (some ⟨go5, 0, none⟩) x0_1.length co10) x0_1 from (rz HO_0))
     obtain ⟨ce11, hcl11, hM11, hcc11, hfr11⟩ := Kd.R_elem HX11.out z25 (x5_1 : Int) oda (by have h_ : (x5_1 : Int) < ((x0_1.length : Int) : Int) := oda; first | exact h_ | (have e_ := (Kd.R_reads' HO_0.out).1; omega) | simpa using h_)
     obtain rfl := k25_openM hM11
     have HP11 := Kd.R_seg HX11.out (x5_1 : Int) oda (by have h_ : (x5_1 : Int) < ((x0_1.length : Int) : Int) := oda; first | exact h_ | (have e_ := (Kd.R_reads' HO_0.out).1; omega) | simpa using h_) (seg := [.int .i64 x1_1]) (j := 0) hcl11 hcc11 (show 1 ≤ 5 from by decide) (x' := (⟨x1_1, (rd_T25 x0_1 x5_1).f1, (rd_T25 x0_1 x5_1).f2, (rd_T25 x0_1 x5_1).f3, (rd_T25 x0_1 x5_1).f4⟩ : S25)) (k25_mkM _ _ _ (⟨x1_1, (rd_T25 x0_1 x5_1).f1, (rd_T25 x0_1 x5_1).f2, (rd_T25 x0_1 x5_1).f3, (rd_T25 x0_1 x5_1).f4⟩ : S25) ) (fun _ hk => hk)
     have hx11_0 := hcc11 0 _ rfl
     (try simp only [show (k25).sz = 5 from rfl, Nat.mul_one, Nat.add_zero] at hx11_0)
     have hf11_0 := hfr11 0
     (try simp only [show (k25).sz = 5 from rfl, Nat.mul_one, Nat.add_zero] at hf11_0)
     (try clear hcl11); (try clear hcc11); (try clear hfr11); (try clear hM11)
     go_wp2_with (first | ((with_reducible refine gate_store (t := 3) (p := 16) rfl ?_); refine store_event (t := 3) (p := 16) (v := ?vo_w12) (w1 := (wr.setCell ⟨go5, (x5_1 : Int).toNat * 5, none⟩ (.int .i64 x1_1))) ?hg ?ho ?hn ?hr ?_; (case ho => rfl); (case hg => rfl); (case hn => rfl); (case hr => first | (go_simp; done) | (go_simp; rfl)); intro w12 hw; have hg : wr.grownBy w12 (some go5) := (by rw [hw]; exact HP11.2); have hp_ : Kd.R k25 25 w12 w0.heap.size (fun k_ => (P0_ k_ ∨ w.heap.size ≤ k_)) (.slice (some ⟨go5, 0, none⟩) x0_1.length co10) y169 := (by rw [hw, Ny169.out]; exact HP11.1); clear HP11; have n0_ := Aside0.mk (hp_); have n1_ := Aside0.mk ((by rw [hw]; exact below_set (HB.out) GB5.out : Below w0.heap.size w0 w12)); have n2_ := Aside0.mk (Kept.of_grown (S := (fun k_ => P0_ k_)) hg (by repeat (first | (with_reducible first | exact HK.out | apply Kept.alloc | apply Kept.drewN | apply Kept.drew) | exact HK.out)) (fun k_ e_ => (HO_0.out.1 k_ e_))); clear HO_0 HB HK; have HO_0 := n0_; have HB := n1_; have HK := n2_; clear n0_ n1_ n2_ hg hw hp_; have p6 : 0 ≤ (x5_1 : Int) := oda; have q6 : (x5_1 : Int) < ((x0_1.length : Int) : Int) := oda; obtain ⟨ce6, hcl6, hM6, hcc6, hfr6⟩ := Kd.R_elem HO_0.out z25 (x5_1 : Int) p6 q6; obtain rfl := k25_openM hM6; have hx6_0 : w12.cell? ⟨go5, (x5_1 : Int).toNat * 5, none⟩ = some (.int .i64 ((rd_T25 y169 x5_1).f0)) := hcc6 0 _ rfl; have hx6_1 : w12.cell? ⟨go5, (x5_1 : Int).toNat * 5 + 1, none⟩ = some (.int .i64 ((rd_T25 y169 x5_1).f1)) := hcc6 1 _ rfl; have hx6_2 : w12.cell? ⟨go5, (x5_1 : Int).toNat * 5 + 2, none⟩ = some (.int .i64 ((rd_T25 y169 x5_1).f2)) := hcc6 2 _ rfl; have hx6_3 : w12.cell? ⟨go5, (x5_1 : Int).toNat * 5 + 3, none⟩ = some (.int .i64 ((rd_T25 y169 x5_1).f3)) := hcc6 3 _ rfl; have hx6_4 : w12.cell? ⟨go5, (x5_1 : Int).toNat * 5 + 4, none⟩ = some (.bool ((rd_T25 y169 x5_1).f4)) := hcc6 4 _ rfl; have hf6_0 : w12.frozen? ⟨go5, (x5_1 : Int).toNat * 5, none⟩ = false := hfr6 0; have hf6_1 : w12.frozen? ⟨go5, (x5_1 : Int).toNat * 5 + 1, none⟩ = false := hfr6 1; have hf6_2 : w12.frozen? ⟨go5, (x5_1 : Int).toNat * 5 + 2, none⟩ = false := hfr6 2; have hf6_3 : w12.frozen? ⟨go5, (x5_1 : Int).toNat * 5 + 3, none⟩ = false := hfr6 3; have hf6_4 : w12.frozen? ⟨go5, (x5_1 : Int).toNat * 5 + 4, none⟩ = false := hfr6 4; (try clear hcl6); (try clear hcc6); (try clear hfr6); (try clear hM6); replace p6 := eq_true p6; replace q6 := eq_true q6; have HX13 := Aside0.mk (show Kd.R k25 25 w12 w0.heap.size (fun k_ => (P0_ k_ ∨ w.heap.size ≤ k_)) (.slice (some ⟨go5, 0, none⟩) x0_1.length co10) y169 from (rz HO_0)); obtain ⟨ce13, hcl13, hM13, hcc13, hfr13⟩ := Kd.R_elem HX13.out z25 (x5_1 : Int) oda (by have h_ : (x5_1 : Int) < ((x0_1.length : Int) : Int) := oda; first | exact h_ | (have e_ := (Kd.R_reads' HO_0.out).1; omega) | simpa using h_); obtain rfl := k25_openM hM13; have HP13 := Kd.R_seg HX13.out (x5_1 : Int) oda (by have h_ : (x5_1 : Int) < ((x0_1.length : Int) : Int) := oda; first | exact h_ | (have e_ := (Kd.R_reads' HO_0.out).1; omega) | simpa using h_) (seg := [.int .i64 (wrap64 (x1_1 + 1))]) (j := 1) hcl13 hcc13 (show 2 ≤ 5 from by decide) (x' := (⟨(rd_T25 y169 x5_1).f0, wrap64 (x1_1 + 1), (rd_T25 y169 x5_1).f2, (rd_T25 y169 x5_1).f3, (rd_T25 y169 x5_1).f4⟩ : S25)) (k25_mkM _ _ _ (⟨(rd_T25 y169 x5_1).f0, wrap64 (x1_1 + 1), (rd_T25 y169 x5_1).f2, (rd_T25 y169 x5_1).f3, (rd_T25 y169 x5_1).f4⟩ : S25) ) (fun _ hk => hk); have hx13_1 := hcc13 1 _ rfl; (try simp only [show (k25).sz = 5 from rfl, Nat.mul_one, Nat.add_zero] at hx13_1); have hf13_1 := hfr13 1; (try simp only [show (k25).sz = 5 from rfl, Nat.mul_one, Nat.add_zero] at hf13_1); (try clear hcl13); (try clear hcc13); (try clear hfr13); (try clear hM13)) | ((with_reducible refine gate_store (t := 3) (p := 23) rfl ?_); refine store_event (t := 3) (p := 23) (v := ?vo_w14) (w1 := (w12.setCell ⟨go5, (x5_1 : Int).toNat * 5 + 1, none⟩ (.int .i64 (wrap64 (x1_1 + 1))))) ?hg ?ho ?hn ?hr ?_; (case ho => rfl); (case hg => rfl); (case hn => rfl); (case hr => first | (go_simp; done) | (go_simp; rfl)); intro w14 hw; have hg : w12.grownBy w14 (some go5) := (by rw [hw]; exact HP13.2); have hp_ : Kd.R k25 25 w14 w0.heap.size (fun k_ => (P0_ k_ ∨ w.heap.size ≤ k_)) (.slice (some ⟨go5, 0, none⟩) x0_1.length co10) y170 := (by rw [hw, Ny170.out]; exact HP13.1); clear HP13; have n0_ := Aside0.mk (hp_); have n1_ := Aside0.mk ((by rw [hw]; exact below_set (HB.out) GB5.out : Below w0.heap.size w0 w14)); have n2_ := Aside0.mk (Kept.of_grown (S := (fun k_ => P0_ k_)) hg (by repeat (first | (with_reducible first | exact HK.out | apply Kept.alloc | apply Kept.drewN | apply Kept.drew) | exact HK.out)) (fun k_ e_ => (HO_0.out.1 k_ e_))); clear HO_0 HB HK; have HO_0 := n0_; have HB := n1_; have HK := n2_; clear n0_ n1_ n2_ hg hw hp_; have p7 : 0 ≤ (x5_1 : Int) := oda; have q7 : (x5_1 : Int) < ((x0_1.length : Int) : Int) := oda; obtain ⟨ce7, hcl7, hM7, hcc7, hfr7⟩ := Kd.R_elem HO_0.out z25 (x5_1 : Int) p7 q7; obtain rfl := k25_openM hM7; have hx7_0 : w14.cell? ⟨go5, (x5_1 : Int).toNat * 5, none⟩ = some (.int .i64 ((rd_T25 y170 x5_1).f0)) := hcc7 0 _ rfl; have hx7_1 : w14.cell? ⟨go5, (x5_1 : Int).toNat * 5 + 1, none⟩ = some (.int .i64 ((rd_T25 y170 x5_1).f1)) := hcc7 1 _ rfl; have hx7_2 : w14.cell? ⟨go5, (x5_1 : Int).toNat * 5 + 2, none⟩ = some (.int .i64 ((rd_T25 y170 x5_1).f2)) := hcc7 2 _ rfl; have hx7_3 : w14.cell? ⟨go5, (x5_1 : Int).toNat * 5 + 3, none⟩ = some (.int .i64 ((rd_T25 y170 x5_1).f3)) := hcc7 3 _ rfl; have hx7_4 : w14.cell? ⟨go5, (x5_1 : Int).toNat * 5 + 4, none⟩ = some (.bool ((rd_T25 y170 x5_1).f4)) := hcc7 4 _ rfl; have hf7_0 : w14.frozen? ⟨go5, (x5_1 : Int).toNat * 5, none⟩ = false := hfr7 0; have hf7_1 : w14.frozen? ⟨go5, (x5_1 : Int).toNat * 5 + 1, none⟩ = false := hfr7 1; have hf7_2 : w14.frozen? ⟨go5, (x5_1 : Int).toNat * 5 + 2, none⟩ = false := hfr7 2; have hf7_3 : w14.frozen? ⟨go5, (x5_1 : Int).toNat * 5 + 3, none⟩ = false := hfr7 3; have hf7_4 : w14.frozen? ⟨go5, (x5_1 : Int).toNat * 5 + 4, none⟩ = false := hfr7 4; (try clear hcl7); (try clear hcc7); (try clear hfr7); (try clear hM7); replace p7 := eq_true p7; replace q7 := eq_true q7; have HX15 := Aside0.mk (show Kd.R k25 25 w14 w0.heap.size (fun k_ => (P0_ k_ ∨ w.heap.size ≤ k_)) (.slice (some ⟨go5, 0, none⟩) x0_1.length co10) y170 from (rz HO_0)); obtain ⟨ce15, hcl15, hM15, hcc15, hfr15⟩ := Kd.R_elem HX15.out z25 (x5_1 : Int) oda (by have h_ : (x5_1 : Int) < ((x0_1.length : Int) : Int) := oda; first | exact h_ | (have e_ := (Kd.R_reads' HO_0.out).1; omega) | simpa using h_); obtain rfl := k25_openM hM15; have HP15 := Kd.R_seg HX15.out (x5_1 : Int) oda (by have h_ : (x5_1 : Int) < ((x0_1.length : Int) : Int) := oda; first | exact h_ | (have e_ := (Kd.R_reads' HO_0.out).1; omega) | simpa using h_) (seg := [.int .i64 (wrap64 ((wrap64 (x1_1 + 1)) + 1))]) (j := 2) hcl15 hcc15 (show 3 ≤ 5 from by decide) (x' := (⟨(rd_T25 y170 x5_1).f0, (rd_T25 y170 x5_1).f1, wrap64 ((wrap64 (x1_1 + 1)) + 1), (rd_T25 y170 x5_1).f3, (rd_T25 y170 x5_1).f4⟩ : S25)) (k25_mkM _ _ _ (⟨(rd_T25 y170 x5_1).f0, (rd_T25 y170 x5_1).f1, wrap64 ((wrap64 (x1_1 + 1)) + 1), (rd_T25 y170 x5_1).f3, (rd_T25 y170 x5_1).f4⟩ : S25) ) (fun _ hk => hk); have hx15_2 := hcc15 2 _ rfl; (try simp only [show (k25).sz = 5 from rfl, Nat.mul_one, Nat.add_zero] at hx15_2); have hf15_2 := hfr15 2; (try simp only [show (k25).sz = 5 from rfl, Nat.mul_one, Nat.add_zero] at hf15_2); (try clear hcl15); (try clear hcc15); (try clear hfr15); (try clear hM15)) | ((with_reducible refine gate_store (t := 3) (p := 30) rfl ?_); refine store_event (t := 3) (p := 30) (v := ?vo_w16) (w1 := (w14.setCell ⟨go5, (x5_1 : Int).toNat * 5 + 2, none⟩ (.int .i64 (wrap64 ((wrap64 (x1_1 + 1)) + 1))))) ?hg ?ho ?hn ?hr ?_; (case ho => rfl); (case hg => rfl); (case hn => rfl); (case hr => first | (go_simp; done) | (go_simp; rfl)); intro w16 hw; have hg : w14.grownBy w16 (some go5) := (by rw [hw]; exact HP15.2); have hp_ : Kd.R k25 25 w16 w0.heap.size (fun k_ => (P0_ k_ ∨ w.heap.size ≤ k_)) (.slice (some ⟨go5, 0, none⟩) x0_1.length co10) y171 := (by rw [hw, Ny171.out]; exact HP15.1); clear HP15; have n0_ := Aside0.mk (hp_); have n1_ := Aside0.mk ((by rw [hw]; exact below_set (HB.out) GB5.out : Below w0.heap.size w0 w16)); have n2_ := Aside0.mk (Kept.of_grown (S := (fun k_ => P0_ k_)) hg (by repeat (first | (with_reducible first | exact HK.out | apply Kept.alloc | apply Kept.drewN | apply Kept.drew) | exact HK.out)) (fun k_ e_ => (HO_0.out.1 k_ e_))); clear HO_0 HB HK; have HO_0 := n0_; have HB := n1_; have HK := n2_; clear n0_ n1_ n2_ hg hw hp_; have p8 : 0 ≤ (x5_1 : Int) := oda; have q8 : (x5_1 : Int) < ((x0_1.length : Int) : Int) := oda; obtain ⟨ce8, hcl8, hM8, hcc8, hfr8⟩ := Kd.R_elem HO_0.out z25 (x5_1 : Int) p8 q8; obtain rfl := k25_openM hM8; have hx8_0 : w16.cell? ⟨go5, (x5_1 : Int).toNat * 5, none⟩ = some (.int .i64 ((rd_T25 y171 x5_1).f0)) := hcc8 0 _ rfl; have hx8_1 : w16.cell? ⟨go5, (x5_1 : Int).toNat * 5 + 1, none⟩ = some (.int .i64 ((rd_T25 y171 x5_1).f1)) := hcc8 1 _ rfl; have hx8_2 : w16.cell? ⟨go5, (x5_1 : Int).toNat * 5 + 2, none⟩ = some (.int .i64 ((rd_T25 y171 x5_1).f2)) := hcc8 2 _ rfl; have hx8_3 : w16.cell? ⟨go5, (x5_1 : Int).toNat * 5 + 3, none⟩ = some (.int .i64 ((rd_T25 y171 x5_1).f3)) := hcc8 3 _ rfl; have hx8_4 : w16.cell? ⟨go5, (x5_1 : Int).toNat * 5 + 4, none⟩ = some (.bool ((rd_T25 y171 x5_1).f4)) := hcc8 4 _ rfl; have hf8_0 : w16.frozen? ⟨go5, (x5_1 : Int).toNat * 5, none⟩ = false := hfr8 0; have hf8_1 : w16.frozen? ⟨go5, (x5_1 : Int).toNat * 5 + 1, none⟩ = false := hfr8 1; have hf8_2 : w16.frozen? ⟨go5, (x5_1 : Int).toNat * 5 + 2, none⟩ = false := hfr8 2; have hf8_3 : w16.frozen? ⟨go5, (x5_1 : Int).toNat * 5 + 3, none⟩ = false := hfr8 3; have hf8_4 : w16.frozen? ⟨go5, (x5_1 : Int).toNat * 5 + 4, none⟩ = false := hfr8 4; (try clear hcl8); (try clear hcc8); (try clear hfr8); (try clear hM8); replace p8 := eq_true p8; replace q8 := eq_true q8; have HX17 := Aside0.mk (show Kd.R k25 25 w16 w0.heap.size (fun k_ => (P0_ k_ ∨ w.heap.size ≤ k_)) (.slice (some ⟨go5, 0, none⟩) x0_1.length co10) y171 from (rz HO_0)); obtain ⟨ce17, hcl17, hM17, hcc17, hfr17⟩ := Kd.R_elem HX17.out z25 (x5_1 : Int) oda (by have h_ : (x5_1 : Int) < ((x0_1.length : Int) : Int) := oda; first | exact h_ | (have e_ := (Kd.R_reads' HO_0.out).1; omega) | simpa using h_); obtain rfl := k25_openM hM17; have HP17 := Kd.R_seg HX17.out (x5_1 : Int) oda (by have h_ : (x5_1 : Int) < ((x0_1.length : Int) : Int) := oda; first | exact h_ | (have e_ := (Kd.R_reads' HO_0.out).1; omega) | simpa using h_) (seg := [.int .i64 (wrap64 ((wrap64 ((wrap64 (x1_1 + 1)) + 1)) + 1))]) (j := 3) hcl17 hcc17 (show 4 ≤ 5 from by decide) (x' := (⟨(rd_T25 y171 x5_1).f0, (rd_T25 y171 x5_1).f1, (rd_T25 y171 x5_1).f2, wrap64 ((wrap64 ((wrap64 (x1_1 + 1)) + 1)) + 1), (rd_T25 y171 x5_1).f4⟩ : S25)) (k25_mkM _ _ _ (⟨(rd_T25 y171 x5_1).f0, (rd_T25 y171 x5_1).f1, (rd_T25 y171 x5_1).f2, wrap64 ((wrap64 ((wrap64 (x1_1 + 1)) + 1)) + 1), (rd_T25 y171 x5_1).f4⟩ : S25) ) (fun _ hk => hk); have hx17_3 := hcc17 3 _ rfl; (try simp only [show (k25).sz = 5 from rfl, Nat.mul_one, Nat.add_zero] at hx17_3); have hf17_3 := hfr17 3; (try simp only [show (k25).sz = 5 from rfl, Nat.mul_one, Nat.add_zero] at hf17_3); (try clear hcl17); (try clear hcc17); (try clear hfr17); (try clear hM17)) | ((with_reducible refine gate_store (t := 3) (p := 37) rfl ?_); refine store_event (t := 3) (p := 37) (v := ?vo_w18) (w1 := (w16.setCell ⟨go5, (x5_1 : Int).toNat * 5 + 3, none⟩ (.int .i64 (wrap64 ((wrap64 ((wrap64 (x1_1 + 1)) + 1)) + 1))))) ?hg ?ho ?hn ?hr ?_; (case ho => rfl); (case hg => rfl); (case hn => rfl); (case hr => first | (go_simp; done) | (go_simp; rfl)); intro w18 hw; have hg : w16.grownBy w18 (some go5) := (by rw [hw]; exact HP17.2); have hp_ : Kd.R k25 25 w18 w0.heap.size (fun k_ => (P0_ k_ ∨ w.heap.size ≤ k_)) (.slice (some ⟨go5, 0, none⟩) x0_1.length co10) y172 := (by rw [hw, Ny172.out]; exact HP17.1); clear HP17; have n0_ := Aside0.mk (hp_); have n1_ := Aside0.mk ((by rw [hw]; exact below_set (HB.out) GB5.out : Below w0.heap.size w0 w18)); have n2_ := Aside0.mk (Kept.of_grown (S := (fun k_ => P0_ k_)) hg (by repeat (first | (with_reducible first | exact HK.out | apply Kept.alloc | apply Kept.drewN | apply Kept.drew) | exact HK.out)) (fun k_ e_ => (HO_0.out.1 k_ e_))); clear HO_0 HB HK; have HO_0 := n0_; have HB := n1_; have HK := n2_; clear n0_ n1_ n2_ hg hw hp_; have p9 : 0 ≤ (x5_1 : Int) := oda; have q9 : (x5_1 : Int) < ((x0_1.length : Int) : Int) := oda; obtain ⟨ce9, hcl9, hM9, hcc9, hfr9⟩ := Kd.R_elem HO_0.out z25 (x5_1 : Int) p9 q9; obtain rfl := k25_openM hM9; have hx9_0 : w18.cell? ⟨go5, (x5_1 : Int).toNat * 5, none⟩ = some (.int .i64 ((rd_T25 y172 x5_1).f0)) := hcc9 0 _ rfl; have hx9_1 : w18.cell? ⟨go5, (x5_1 : Int).toNat * 5 + 1, none⟩ = some (.int .i64 ((rd_T25 y172 x5_1).f1)) := hcc9 1 _ rfl; have hx9_2 : w18.cell? ⟨go5, (x5_1 : Int).toNat * 5 + 2, none⟩ = some (.int .i64 ((rd_T25 y172 x5_1).f2)) := hcc9 2 _ rfl; have hx9_3 : w18.cell? ⟨go5, (x5_1 : Int).toNat * 5 + 3, none⟩ = some (.int .i64 ((rd_T25 y172 x5_1).f3)) := hcc9 3 _ rfl; have hx9_4 : w18.cell? ⟨go5, (x5_1 : Int).toNat * 5 + 4, none⟩ = some (.bool ((rd_T25 y172 x5_1).f4)) := hcc9 4 _ rfl; have hf9_0 : w18.frozen? ⟨go5, (x5_1 : Int).toNat * 5, none⟩ = false := hfr9 0; have hf9_1 : w18.frozen? ⟨go5, (x5_1 : Int).toNat * 5 + 1, none⟩ = false := hfr9 1; have hf9_2 : w18.frozen? ⟨go5, (x5_1 : Int).toNat * 5 + 2, none⟩ = false := hfr9 2; have hf9_3 : w18.frozen? ⟨go5, (x5_1 : Int).toNat * 5 + 3, none⟩ = false := hfr9 3; have hf9_4 : w18.frozen? ⟨go5, (x5_1 : Int).toNat * 5 + 4, none⟩ = false := hfr9 4; (try clear hcl9); (try clear hcc9); (try clear hfr9); (try clear hM9); replace p9 := eq_true p9; replace q9 := eq_true q9; have HX19 := Aside0.mk (show Kd.R k25 25 w18 w0.heap.size (fun k_ => (P0_ k_ ∨ w.heap.size ≤ k_)) (.slice (some ⟨go5, 0, none⟩) x0_1.length co10) y172 from (rz HO_0)); obtain ⟨ce19, hcl19, hM19, hcc19, hfr19⟩ := Kd.R_elem HX19.out z25 (x5_1 : Int) oda (by have h_ : (x5_1 : Int) < ((x0_1.length : Int) : Int) := oda; first | exact h_ | (have e_ := (Kd.R_reads' HO_0.out).1; omega) | simpa using h_); obtain rfl := k25_openM hM19; have HP19 := Kd.R_seg HX19.out (x5_1 : Int) oda (by have h_ : (x5_1 : Int) < ((x0_1.length : Int) : Int) := oda; first | exact h_ | (have e_ := (Kd.R_reads' HO_0.out).1; omega) | simpa using h_) (seg := [.bool ((Int.tmod (wrap64 ((wrap64 ((wrap64 ((wrap64 (x1_1 + 1)) + 1)) + 1)) + 1)) 3) == 0)]) (j := 4) hcl19 hcc19 (show 5 ≤ 5 from by decide) (x' := (⟨(rd_T25 y172 x5_1).f0, (rd_T25 y172 x5_1).f1, (rd_T25 y172 x5_1).f2, (rd_T25 y172 x5_1).f3, ((Int.tmod (wrap64 ((wrap64 ((wrap64 ((wrap64 (x1_1 + 1)) + 1)) + 1)) + 1)) 3) == 0)⟩ : S25)) (k25_mkM _ _ _ (⟨(rd_T25 y172 x5_1).f0, (rd_T25 y172 x5_1).f1, (rd_T25 y172 x5_1).f2, (rd_T25 y172 x5_1).f3, ((Int.tmod (wrap64 ((wrap64 ((wrap64 ((wrap64 (x1_1 + 1)) + 1)) + 1)) + 1)) 3) == 0)⟩ : S25) ) (fun _ hk => hk); have hx19_4 := hcc19 4 _ rfl; (try simp only [show (k25).sz = 5 from rfl, Nat.mul_one, Nat.add_zero] at hx19_4); have hf19_4 := hfr19 4; (try simp only [show (k25).sz = 5 from rfl, Nat.mul_one, Nat.add_zero] at hf19_4); (try clear hcl19); (try clear hcc19); (try clear hfr19); (try clear hM19)) | ((with_reducible refine gate_store (t := 4) (p := 46) rfl ?_); refine store_event (t := 4) (p := 46) (v := ?vo_w20) (w1 := (w18.setCell ⟨go5, (x5_1 : Int).toNat * 5 + 4, none⟩ (.bool ((Int.tmod (wrap64 ((wrap64 ((wrap64 ((wrap64 (x1_1 + 1)) + 1)) + 1)) + 1)) 3) == 0)))) ?hg ?ho ?hn ?hr ?_; (case ho => rfl); (case hg => rfl); (case hn => rfl); (case hr => first | (go_simp; done) | (go_simp; rfl)); intro w20 hw; have hg : w18.grownBy w20 (some go5) := (by rw [hw]; exact HP19.2); have hp_ : Kd.R k25 25 w20 w0.heap.size (fun k_ => (P0_ k_ ∨ w.heap.size ≤ k_)) (.slice (some ⟨go5, 0, none⟩) x0_1.length co10) y173 := (by rw [hw, Ny173.out]; exact HP19.1); clear HP19; have n0_ := Aside0.mk (hp_); have n1_ := Aside0.mk ((by rw [hw]; exact below_set (HB.out) GB5.out : Below w0.heap.size w0 w20)); have n2_ := Aside0.mk (Kept.of_grown (S := (fun k_ => P0_ k_)) hg (by repeat (first | (with_reducible first | exact HK.out | apply Kept.alloc | apply Kept.drewN | apply Kept.drew) | exact HK.out)) (fun k_ e_ => (HO_0.out.1 k_ e_))); clear HO_0 HB HK; have HO_0 := n0_; have HB := n1_; have HK := n2_; clear n0_ n1_ n2_ hg hw hp_))
     go_roundg k1
     case measure => have := HK1.out; omega
     case rel => exact ⟨(y173), (wrap64 ((wrap64 ((wrap64 ((wrap64 ((wrap64 (x1_1 + 1)) + 1)) + 1)) + 1)) + 1)), (wrap64 (x5_1 + 1)), (by first | rfl | (simp; done) | (simp [*]; done)), (by first | rfl | (simp; done) | (simp [*]; done)), H', ⟨by have := HK1.out; omega⟩, ⟨rz HO_0⟩, ⟨by repeat (first | (with_reducible first | exact HK.out | apply Kept.alloc | apply Kept.drewN | apply Kept.drew) | exact HK.out)⟩, ⟨by exact bh⟩⟩
    ·rw [if_neg c4] at H
     exact absurd H (by simp)
   ·rw [if_neg c3] at H
    have c3b0 : decide (x5_1 < (x0_1.length : Int)) = false := decide_eq_false c3
    clear c3
    simp only [Option.some.injEq, Prod.mk.injEq] at H
    obtain ⟨rfl, rfl⟩ := H
    obtain ⟨Ao21, co21, eo21⟩ := Kd.R_slice HO_0.out
    subst eo21
    go_wp2
    go_ret
    exact ⟨by first | rfl | (simp [errW_none, errW_some] <;> rfl) | (simp [*, errW_none, errW_some] <;> rfl), by (with_reducible repeat (first | apply Kd.R_alloc | apply Kd.R_drewN | apply Kd.R_drew)); exact HO_0.out, by repeat (first | (with_reducible first | exact HB.out | apply below_alloc | apply pw_below_drewN | apply below_drew1) | exact HB.out), by repeat (first | (with_reducible first | exact HK.out | apply Kept.alloc | apply Kept.drewN | apply Kept.drew) | exact HK.out)⟩

/-! ### laws_heldLawS: function 31 -/
def laws_heldLawS.l0 : Nat → List (S25) → Int → Int → Option (Int)
 | 0, _, _, _ => none
 | k + 1, x0, x1, x5 => if x5 < (x0.length : Int) then (if 0 ≤ x5 then (if ((rd_T25 x0 x5).f0) = x1 then (if ((rd_T25 x0 x5).f1) = (wrap64 (x1 + 1)) then (if ((rd_T25 x0 x5).f2) = (wrap64 ((wrap64 (x1 + 1)) + 1)) then (if ((rd_T25 x0 x5).f3) = (wrap64 ((wrap64 ((wrap64 (x1 + 1)) + 1)) + 1)) then (if (((rd_T25 x0 x5).f4) != ((Int.tmod (wrap64 ((wrap64 ((wrap64 ((wrap64 (x1 + 1)) + 1)) + 1)) + 1)) 3) == 0)) = true then (some (-1)) else (laws_heldLawS.l0 k x0 (wrap64 ((wrap64 ((wrap64 ((wrap64 ((wrap64 (x1 + 1)) + 1)) + 1)) + 1)) + 1)) (wrap64 (x5 + 1)))) else (some (-1))) else (some (-1))) else (some (-1))) else (some (-1))) else (none)) else (some x1)
def laws_heldLawS.f (k : Nat) (l0 : List (S25)) (a1 : Int) : Option (Int) := laws_heldLawS.l0 k l0 a1 0
theorem laws_heldLawS.mono_l : ∀ k, (∀ y0 y1 y2, LeO (laws_heldLawS.l0 k y0 y1 y2) (laws_heldLawS.l0 (k + 1) y0 y1 y2))
 | 0 => fun _ _ _ r h => by simp [laws_heldLawS.l0] at h
 | k + 1 => by
  have ih0 := laws_heldLawS.mono_l k
  ·intro y0 y1 y2
   unfold laws_heldLawS.l0
   repeat' first
   | (with_reducible exact ih0 _ _ _)
   | (with_reducible exact LeO.refl _)
   | (with_reducible exact LeO.none _)
   | (with_reducible refine LeO.ite ?_ ?_)
   | (with_reducible refine LeO.bind ?_ (fun _ => ?_))
   | exact ih0 _ _ _
   | exact LeO.none _
   | refine LeO.ite ?_ ?_
   | refine LeO.bind ?_ (fun _ => ?_)
theorem laws_heldLawS.mono : ∀ a0 a1 k, LeO (laws_heldLawS.f k a0 a1) (laws_heldLawS.f (k + 1) a0 a1) := by
 intro a0 a1 k
 have ih0 := laws_heldLawS.mono_l k
 unfold laws_heldLawS.f
 repeat' first
   | (with_reducible exact ih0 _ _ _)
   | (with_reducible exact LeO.refl _)
   | (with_reducible exact LeO.none _)
   | (with_reducible refine LeO.ite ?_ ?_)
   | (with_reducible refine LeO.bind ?_ (fun _ => ?_))
   | exact ih0 _ _ _
   | exact LeO.none _
   | refine LeO.ite ?_ ?_
   | refine LeO.bind ?_ (fun _ => ?_)
set_option maxHeartbeats 8000000 in
set_option maxRecDepth 100000 in
theorem laws_heldLawS.calls (k : Nat) (A0 : Option Addr) (c0 : Nat) (l0 : List (S25)) (a1 : Int) (r : Int) (w : World) (hr0 : Kd.C k25 w A0 l0.length l0) (hc0 : l0.length ≤ c0) (h : laws_heldLawS.f k l0 a1 = some r) :
  Calls Try.prog 31 #[.slice A0 l0.length c0, .int .i64 a1] w fun e w' => e = .returned (.int .i64 r) ∧ Drawn0 w w' := by
 have HR0 := Aside0.mk hr0
 have HC0 := Aside0.mk hc0
 clear hr0 hc0
 have H : (laws_heldLawS.l0 k l0 a1 0) = some r := h
 clear h
 have H' := Aside0.mk H
 clear H
 go_enter Try.func31, Try.ntmps31
 go_wp2
 go_loopg [1, 5] k (fun kq v1 v5 w' => ∃ (x1_1 : Int) (x5_1 : Int), v1 = .int .i64 x1_1 ∧ v5 = .int .i64 x5_1 ∧ Aside0 (laws_heldLawS.l0 kq l0 x1_1 x5_1 = some r) ∧ Aside0 (kq ≤ k) ∧ Drawn0 w w')
 case atStart => exact ⟨(a1), (0), (by first | rfl | (simp; done) | (simp [*]; done)), (by first | rfl | (simp; done) | (simp [*]; done)), H', ⟨Nat.le_refl _⟩, by repeat (first | exact Drawn0.refl _ | apply Drawn0.step)⟩
 case round =>
  clear H'
  try clear p2
  obtain ⟨x1_1, x5_1, rfl, rfl, HA, HK1, ⟨m1, rfl⟩⟩ := hrel
  cases gk with
  | zero => exact absurd HA.out (by simp [laws_heldLawS.l0])
  | succ k1 =>
   have H := HA.out
   clear HA
   simp only [laws_heldLawS.l0] at H
   by_cases c3 : x5_1 < (l0.length : Int)
   ·rw [if_pos c3] at H
    have c3b0 : decide (x5_1 < (l0.length : Int)) = true := decide_eq_true c3
    clear c3
    by_cases c4 : 0 ≤ x5_1
    ·rw [if_pos c4] at H
     have c4b0 : decide (0 ≤ x5_1) = true := decide_eq_true c4
     clear c4
     by_cases c5 : ((rd_T25 l0 x5_1).f0) = x1_1
     ·rw [if_pos c5] at H
      have c5b0 : (((rd_T25 l0 x5_1).f0) == x1_1) = true := beq_iff_eq.mpr c5
      have c5b1 : (((rd_T25 l0 x5_1).f0) != x1_1) = false := bne_eq_false_iff_eq.mpr c5
      clear c5
      by_cases c6 : ((rd_T25 l0 x5_1).f1) = (wrap64 (x1_1 + 1))
      ·rw [if_pos c6] at H
       have c6b0 : (((rd_T25 l0 x5_1).f1) == (wrap64 (x1_1 + 1))) = true := beq_iff_eq.mpr c6
       have c6b1 : (((rd_T25 l0 x5_1).f1) != (wrap64 (x1_1 + 1))) = false := bne_eq_false_iff_eq.mpr c6
       clear c6
       by_cases c7 : ((rd_T25 l0 x5_1).f2) = (wrap64 ((wrap64 (x1_1 + 1)) + 1))
       ·rw [if_pos c7] at H
        have c7b0 : (((rd_T25 l0 x5_1).f2) == (wrap64 ((wrap64 (x1_1 + 1)) + 1))) = true := beq_iff_eq.mpr c7
        have c7b1 : (((rd_T25 l0 x5_1).f2) != (wrap64 ((wrap64 (x1_1 + 1)) + 1))) = false := bne_eq_false_iff_eq.mpr c7
        clear c7
        by_cases c8 : ((rd_T25 l0 x5_1).f3) = (wrap64 ((wrap64 ((wrap64 (x1_1 + 1)) + 1)) + 1))
        ·rw [if_pos c8] at H
         have c8b0 : (((rd_T25 l0 x5_1).f3) == (wrap64 ((wrap64 ((wrap64 (x1_1 + 1)) + 1)) + 1))) = true := beq_iff_eq.mpr c8
         have c8b1 : (((rd_T25 l0 x5_1).f3) != (wrap64 ((wrap64 ((wrap64 (x1_1 + 1)) + 1)) + 1))) = false := bne_eq_false_iff_eq.mpr c8
         clear c8
         by_cases c9 : (((rd_T25 l0 x5_1).f4) != ((Int.tmod (wrap64 ((wrap64 ((wrap64 ((wrap64 (x1_1 + 1)) + 1)) + 1)) + 1)) 3) == 0)) = true
         ·rw [if_pos c9] at H
          have c9b0 : (((rd_T25 l0 x5_1).f4) != ((Int.tmod (wrap64 ((wrap64 ((wrap64 ((wrap64 (x1_1 + 1)) + 1)) + 1)) + 1)) 3) == 0)) = true := c9
          (try (have c9b1 : decide (((rd_T25 l0 x5_1).f4) = ((Int.tmod (wrap64 ((wrap64 ((wrap64 ((wrap64 (x1_1 + 1)) + 1)) + 1)) + 1)) 3) == 0)) = false := by simpa using c9))
          (try (have c9b2 : (((rd_T25 l0 x5_1).f4) == ((Int.tmod (wrap64 ((wrap64 ((wrap64 ((wrap64 (x1_1 + 1)) + 1)) + 1)) + 1)) 3) == 0)) = false := by simpa using c9))
          (try (have c9b3 : ¬ (((rd_T25 l0 x5_1).f4) = ((Int.tmod (wrap64 ((wrap64 ((wrap64 ((wrap64 (x1_1 + 1)) + 1)) + 1)) + 1)) 3) == 0)) := by simpa using c9))
          clear c9
          obtain rfl := Option.some.inj H
          have p174 : 0 ≤ (x5_1 : Int) := oda
          have q174 : x5_1 < (l0.length : Int) := oda
          obtain ⟨ad174, e174, hx174_0, hx174_1, hx174_2, hx174_3, hx174_4⟩ := at_T25 HR0.out x5_1 p174 q174
          cases e174
          replace p174 := eq_true p174
          replace q174 := eq_true q174
          have p175 : 0 ≤ (x5_1 : Int) := oda
          have q175 : x5_1 < (l0.length : Int) := oda
          obtain ⟨ad175, e175, hx175_0, hx175_1, hx175_2, hx175_3, hx175_4⟩ := at_T25 HR0.out x5_1 p175 q175
          obtain rfl : ad174 = ad175 := (by injection e175)
          replace p175 := eq_true p175
          replace q175 := eq_true q175
          have p176 : 0 ≤ (x5_1 : Int) := oda
          have q176 : x5_1 < (l0.length : Int) := oda
          obtain ⟨ad176, e176, hx176_0, hx176_1, hx176_2, hx176_3, hx176_4⟩ := at_T25 HR0.out x5_1 p176 q176
          obtain rfl : ad174 = ad176 := (by injection e176)
          replace p176 := eq_true p176
          replace q176 := eq_true q176
          have p177 : 0 ≤ (x5_1 : Int) := oda
          have q177 : x5_1 < (l0.length : Int) := oda
          obtain ⟨ad177, e177, hx177_0, hx177_1, hx177_2, hx177_3, hx177_4⟩ := at_T25 HR0.out x5_1 p177 q177
          obtain rfl : ad174 = ad177 := (by injection e177)
          replace p177 := eq_true p177
          replace q177 := eq_true q177
          have p178 : 0 ≤ (x5_1 : Int) := oda
          have q178 : x5_1 < (l0.length : Int) := oda
          obtain ⟨ad178, e178, hx178_0, hx178_1, hx178_2, hx178_3, hx178_4⟩ := at_T25 HR0.out x5_1 p178 q178
          obtain rfl : ad174 = ad178 := (by injection e178)
          replace p178 := eq_true p178
          replace q178 := eq_true q178
          go_wp2
          go_ret
          exact ⟨by first | rfl | (simp; done) | (simp [*]; done), by repeat (first | exact Drawn0.refl _ | apply Drawn0.step)⟩
         ·rw [if_neg c9] at H
          have c9b0 : (((rd_T25 l0 x5_1).f4) != ((Int.tmod (wrap64 ((wrap64 ((wrap64 ((wrap64 (x1_1 + 1)) + 1)) + 1)) + 1)) 3) == 0)) = false := by simpa using c9
          (try (have c9b1 : decide (((rd_T25 l0 x5_1).f4) = ((Int.tmod (wrap64 ((wrap64 ((wrap64 ((wrap64 (x1_1 + 1)) + 1)) + 1)) + 1)) 3) == 0)) = true := by simpa using c9))
          (try (have c9b2 : (((rd_T25 l0 x5_1).f4) == ((Int.tmod (wrap64 ((wrap64 ((wrap64 ((wrap64 (x1_1 + 1)) + 1)) + 1)) + 1)) 3) == 0)) = true := by simpa using c9))
          clear c9
          have H' := Aside0.mk H
          clear H
          have p174 : 0 ≤ (x5_1 : Int) := oda
          have q174 : x5_1 < (l0.length : Int) := oda
          obtain ⟨ad174, e174, hx174_0, hx174_1, hx174_2, hx174_3, hx174_4⟩ := at_T25 HR0.out x5_1 p174 q174
          cases e174
          replace p174 := eq_true p174
          replace q174 := eq_true q174
          have p175 : 0 ≤ (x5_1 : Int) := oda
          have q175 : x5_1 < (l0.length : Int) := oda
          obtain ⟨ad175, e175, hx175_0, hx175_1, hx175_2, hx175_3, hx175_4⟩ := at_T25 HR0.out x5_1 p175 q175
          obtain rfl : ad174 = ad175 := (by injection e175)
          replace p175 := eq_true p175
          replace q175 := eq_true q175
          have p176 : 0 ≤ (x5_1 : Int) := oda
          have q176 : x5_1 < (l0.length : Int) := oda
          obtain ⟨ad176, e176, hx176_0, hx176_1, hx176_2, hx176_3, hx176_4⟩ := at_T25 HR0.out x5_1 p176 q176
          obtain rfl : ad174 = ad176 := (by injection e176)
          replace p176 := eq_true p176
          replace q176 := eq_true q176
          have p177 : 0 ≤ (x5_1 : Int) := oda
          have q177 : x5_1 < (l0.length : Int) := oda
          obtain ⟨ad177, e177, hx177_0, hx177_1, hx177_2, hx177_3, hx177_4⟩ := at_T25 HR0.out x5_1 p177 q177
          obtain rfl : ad174 = ad177 := (by injection e177)
          replace p177 := eq_true p177
          replace q177 := eq_true q177
          have p178 : 0 ≤ (x5_1 : Int) := oda
          have q178 : x5_1 < (l0.length : Int) := oda
          obtain ⟨ad178, e178, hx178_0, hx178_1, hx178_2, hx178_3, hx178_4⟩ := at_T25 HR0.out x5_1 p178 q178
          obtain rfl : ad174 = ad178 := (by injection e178)
          replace p178 := eq_true p178
          replace q178 := eq_true q178
          go_wp2
          go_roundg k1
          case measure => have := HK1.out; omega
          case rel => exact ⟨(wrap64 ((wrap64 ((wrap64 ((wrap64 ((wrap64 (x1_1 + 1)) + 1)) + 1)) + 1)) + 1)), (wrap64 (x5_1 + 1)), (by first | rfl | (simp; done) | (simp [*]; done)), (by first | rfl | (simp; done) | (simp [*]; done)), H', ⟨by have := HK1.out; omega⟩, by repeat (first | exact Drawn0.refl _ | apply Drawn0.step)⟩
        ·rw [if_neg c8] at H
         have c8b0 : (((rd_T25 l0 x5_1).f3) == (wrap64 ((wrap64 ((wrap64 (x1_1 + 1)) + 1)) + 1))) = false := beq_eq_false_iff_ne.mpr c8
         have c8b1 : (((rd_T25 l0 x5_1).f3) != (wrap64 ((wrap64 ((wrap64 (x1_1 + 1)) + 1)) + 1))) = true := bne_iff_ne.mpr c8
         obtain rfl := Option.some.inj H
         have p174 : 0 ≤ (x5_1 : Int) := oda
         have q174 : x5_1 < (l0.length : Int) := oda
         obtain ⟨ad174, e174, hx174_0, hx174_1, hx174_2, hx174_3, hx174_4⟩ := at_T25 HR0.out x5_1 p174 q174
         cases e174
         replace p174 := eq_true p174
         replace q174 := eq_true q174
         have p175 : 0 ≤ (x5_1 : Int) := oda
         have q175 : x5_1 < (l0.length : Int) := oda
         obtain ⟨ad175, e175, hx175_0, hx175_1, hx175_2, hx175_3, hx175_4⟩ := at_T25 HR0.out x5_1 p175 q175
         obtain rfl : ad174 = ad175 := (by injection e175)
         replace p175 := eq_true p175
         replace q175 := eq_true q175
         have p176 : 0 ≤ (x5_1 : Int) := oda
         have q176 : x5_1 < (l0.length : Int) := oda
         obtain ⟨ad176, e176, hx176_0, hx176_1, hx176_2, hx176_3, hx176_4⟩ := at_T25 HR0.out x5_1 p176 q176
         obtain rfl : ad174 = ad176 := (by injection e176)
         replace p176 := eq_true p176
         replace q176 := eq_true q176
         have p177 : 0 ≤ (x5_1 : Int) := oda
         have q177 : x5_1 < (l0.length : Int) := oda
         obtain ⟨ad177, e177, hx177_0, hx177_1, hx177_2, hx177_3, hx177_4⟩ := at_T25 HR0.out x5_1 p177 q177
         obtain rfl : ad174 = ad177 := (by injection e177)
         replace p177 := eq_true p177
         replace q177 := eq_true q177
         go_wp2
         go_ret
         exact ⟨by first | rfl | (simp; done) | (simp [*]; done), by repeat (first | exact Drawn0.refl _ | apply Drawn0.step)⟩
       ·rw [if_neg c7] at H
        have c7b0 : (((rd_T25 l0 x5_1).f2) == (wrap64 ((wrap64 (x1_1 + 1)) + 1))) = false := beq_eq_false_iff_ne.mpr c7
        have c7b1 : (((rd_T25 l0 x5_1).f2) != (wrap64 ((wrap64 (x1_1 + 1)) + 1))) = true := bne_iff_ne.mpr c7
        obtain rfl := Option.some.inj H
        have p174 : 0 ≤ (x5_1 : Int) := oda
        have q174 : x5_1 < (l0.length : Int) := oda
        obtain ⟨ad174, e174, hx174_0, hx174_1, hx174_2, hx174_3, hx174_4⟩ := at_T25 HR0.out x5_1 p174 q174
        cases e174
        replace p174 := eq_true p174
        replace q174 := eq_true q174
        have p175 : 0 ≤ (x5_1 : Int) := oda
        have q175 : x5_1 < (l0.length : Int) := oda
        obtain ⟨ad175, e175, hx175_0, hx175_1, hx175_2, hx175_3, hx175_4⟩ := at_T25 HR0.out x5_1 p175 q175
        obtain rfl : ad174 = ad175 := (by injection e175)
        replace p175 := eq_true p175
        replace q175 := eq_true q175
        have p176 : 0 ≤ (x5_1 : Int) := oda
        have q176 : x5_1 < (l0.length : Int) := oda
        obtain ⟨ad176, e176, hx176_0, hx176_1, hx176_2, hx176_3, hx176_4⟩ := at_T25 HR0.out x5_1 p176 q176
        obtain rfl : ad174 = ad176 := (by injection e176)
        replace p176 := eq_true p176
        replace q176 := eq_true q176
        go_wp2
        go_ret
        exact ⟨by first | rfl | (simp; done) | (simp [*]; done), by repeat (first | exact Drawn0.refl _ | apply Drawn0.step)⟩
      ·rw [if_neg c6] at H
       have c6b0 : (((rd_T25 l0 x5_1).f1) == (wrap64 (x1_1 + 1))) = false := beq_eq_false_iff_ne.mpr c6
       have c6b1 : (((rd_T25 l0 x5_1).f1) != (wrap64 (x1_1 + 1))) = true := bne_iff_ne.mpr c6
       obtain rfl := Option.some.inj H
       have p174 : 0 ≤ (x5_1 : Int) := oda
       have q174 : x5_1 < (l0.length : Int) := oda
       obtain ⟨ad174, e174, hx174_0, hx174_1, hx174_2, hx174_3, hx174_4⟩ := at_T25 HR0.out x5_1 p174 q174
       cases e174
       replace p174 := eq_true p174
       replace q174 := eq_true q174
       have p175 : 0 ≤ (x5_1 : Int) := oda
       have q175 : x5_1 < (l0.length : Int) := oda
       obtain ⟨ad175, e175, hx175_0, hx175_1, hx175_2, hx175_3, hx175_4⟩ := at_T25 HR0.out x5_1 p175 q175
       obtain rfl : ad174 = ad175 := (by injection e175)
       replace p175 := eq_true p175
       replace q175 := eq_true q175
       go_wp2
       go_ret
       exact ⟨by first | rfl | (simp; done) | (simp [*]; done), by repeat (first | exact Drawn0.refl _ | apply Drawn0.step)⟩
     ·rw [if_neg c5] at H
      have c5b0 : (((rd_T25 l0 x5_1).f0) == x1_1) = false := beq_eq_false_iff_ne.mpr c5
      have c5b1 : (((rd_T25 l0 x5_1).f0) != x1_1) = true := bne_iff_ne.mpr c5
      obtain rfl := Option.some.inj H
      have p174 : 0 ≤ (x5_1 : Int) := oda
      have q174 : x5_1 < (l0.length : Int) := oda
      obtain ⟨ad174, e174, hx174_0, hx174_1, hx174_2, hx174_3, hx174_4⟩ := at_T25 HR0.out x5_1 p174 q174
      cases e174
      replace p174 := eq_true p174
      replace q174 := eq_true q174
      go_wp2
      go_ret
      exact ⟨by first | rfl | (simp; done) | (simp [*]; done), by repeat (first | exact Drawn0.refl _ | apply Drawn0.step)⟩
    ·rw [if_neg c4] at H
     exact absurd H (by simp)
   ·rw [if_neg c3] at H
    have c3b0 : decide (x5_1 < (l0.length : Int)) = false := decide_eq_false c3
    clear c3
    obtain rfl := Option.some.inj H
    go_wp2
    go_ret
    exact ⟨by first | rfl | (simp; done) | (simp [*]; done), by repeat (first | exact Drawn0.refl _ | apply Drawn0.step)⟩

end Go.Proofs.Ytlacdgmapojmlaa.QFnExactWithoutLaw
