-- Printed for this claim by a turned copy of the print (wip/myprint). Lean checks it. Squeezed. Worded. Tightened.
import Derived.Test.YtmbphgdfadoknaaQFnCharterOkx0
import Derived.Test.YtmbphgdfadoknaaQFnCharterOkx2
import Derived.Test.YtmbphgdfadoknaaQFnCharterOkx3
namespace Go.Proofs.Ytmbphgdfadoknaa.QFnCharterOk
open Go.RowKit Go.Proofs.YtmbphgdfadoknaaW.PrintWords Go.Proofs.YtmbphgdfadoknaaW.PrintLast Go.Proofs.YtmbphgdfadoknaaW.PrintMore
attribute [local go_sem] max2_int min2_int max_two min_two max_three min_three max_four min_four Opens.cell_twice   -- for this text's walks alone
set_option linter.unusedVariables false
set_option linter.unusedSimpArgs false

/-- For one event on what element i leads to, where a new row (its blocks: okg, nobody's so far) goes over into the element. -/
theorem S_borrowG {α : Type} {d : Kd α} {e : Nat} {W : World} {base n cap : Nat} {ok okg : Nat → Prop} {xs : List α} {ad : Addr} (h : Kd.S d e W base (fun k => ok k ∧ ¬ okg k) (.slice (some ad) n cap) xs) (hgo : ∀ k, okg k → ok k ∧ some k ≠ (Value.slice (some ad) n cap).ownBlock) (z : α) (i : Int) (h0 : 0 ≤ i) (h1 : i < n) :
  ∃ (oki : Nat → Prop) (c : List Value), c.length = d.sz ∧ d.M W base oki (xs.getD i.toNat z) c ∧ (∀ j u, c[j]? = some u → W.cell? (ad.add (i.toNat * d.sz + j)) = some u) ∧ (∀ k, oki k → ok k ∧ some k ≠ (Value.slice (some ad) n cap).ownBlock) ∧ (∀ k, okg k → oki k) ∧
   ∀ {w1 : World} {row : Option Nat} {x' : α}, W.grownBy w1 row → (∀ k, row = some k → oki k) → d.M w1 base oki x' c → Kd.S d e w1 base ok (.slice (some ad) n cap) (xs.set i.toNat x') := by
 obtain ⟨g, rfl⟩ := Kd.R_head (Kd.S_R h)
 obtain ⟨oki, c, hcl, hM, hcc, hoki, hH⟩ := Kd.S_lend h z i h0 h1
 refine ⟨fun k => oki k ∨ okg k, c, hcl, d.M_mono (fun _ hk => .inl hk) hM, fun j u hu => ?_, fun k hk => hk.elim (fun hk => ⟨(hoki k hk).1.1, fun he => (hoki k hk).2 ?_⟩) (hgo k), fun _ hk => .inr hk, fun hg hrow hM1 => Kd.H_back (Kd.H_grown (Kd.H_more hH (fun k hk => (hgo k hk).1)) hg hrow) hM1 (fun _ hk => hk)⟩
 ·rw [add_at, Nat.zero_add]
  exact hcc j u hu
 ·simpa [Value.ownBlock] using he
theorem S_num {α : Type} {d : Kd α} {e : Nat} {W : World} {base : Nat} {ok : Nat → Prop} {v : Value} {xs : List α} (_h : Kd.S d e W base ok v xs) : ∃ N : Nat, N = base := ⟨_, rfl⟩
theorem R_num {α : Type} {d : Kd α} {e : Nat} {W : World} {base : Nat} {ok : Nat → Prop} {v : Value} {xs : List α} (_h : Kd.R d e W base ok v xs) : ∃ N : Nat, N = base := ⟨_, rfl⟩
theorem S_geN {α : Type} {d : Kd α} {e : Nat} {W : World} {base N : Nat} {ok : Nat → Prop} {v : Value} {xs : List α} (h : Kd.S d e W base ok v xs) (hN : N = base) : Kd.S d e W base (fun k => ok k ∧ N ≤ k) v xs := Kd.S_mono (Kd.S_bound h) (fun _ hk => ⟨hk.1, hN ▸ hk.2.1⟩)
theorem S_ltN {α : Type} {d : Kd α} {e : Nat} {W : World} {b B N : Nat} {ok : Nat → Prop} {v : Value} {xs : List α} (h : Kd.S d e W b (fun k => ok k ∧ k < B) v xs) (hN : N = B) : Kd.S d e W b (fun k => ok k ∧ k < N) v xs := Kd.S_mono h (fun _ hk => ⟨hk.1, hN ▸ hk.2⟩)
/-! ### spec_l20Charter: function 26 -/
mutual
def spec_l20Charter.l0 : Nat → Int → Int → Int → List Int → Int → Int → List Int → List (List (S35)) → Option (Int × List Int × (List (List (S35))) × Int)
 | 0, _, _, _, _, _, _, _, _ => none
 | k + 1, x1, x6, x7, x1000, x1001, x167000, x167001, x167002 => if x7 < x6 then ((spec_l20Rd_pick.f k x1000 x1001 3).bind fun bt172 => (spec_l20Charter.l1 k x1 x6 x7 (([] : List (S35))) (wrap64 (1 + bt172.1)) x1000 bt172.2 x167000 x167001 x167002)) else (spec_l20Charter.l2 k x1 x6 0 x1000 x1001 x167000 x167001 x167002)
def spec_l20Charter.l1 : Nat → Int → Int → Int → List (S35) → Int → List Int → Int → Int → List Int → List (List (S35)) → Option (Int × List Int × (List (List (S35))) × Int)
 | 0, _, _, _, _, _, _, _, _, _, _ => none
 | k + 1, x1, x6, x7, x8, x9, x1000, x1001, x167000, x167001, x167002 => if x9 > 0 then ((spec_l20Atom.f k x1000 x1001 x167000 x167001).bind fun bt174 => (if x8.length < 3518437208883 then (spec_l20Charter.l1 k x1 x6 x7 (x8 ++ [(⟨bt174.1, (-1), 0⟩ : S35)]) (wrap64 (x9 - 1)) x1000 bt174.2 x167000 x167001 x167002) else (none))) else (if x167002.length < 5864062014805 then (spec_l20Charter.l0 k x1 x6 (wrap64 (x7 + 1)) x1000 x1001 x167000 x167001 (x167002 ++ [x8])) else (none))
def spec_l20Charter.l2 : Nat → Int → Int → Int → List Int → Int → Int → List Int → List (List (S35)) → Option (Int × List Int × (List (List (S35))) × Int)
 | 0, _, _, _, _, _, _, _, _ => none
 | k + 1, x1, x6, x10, x1000, x1001, x167000, x167001, x167002 => if x10 < x6 then (spec_l20Charter.j3 k x1 x6 x10 (decide (x6 > 1)) x1000 x1001 x167000 x167001 x167002) else (spec_l20Charter.j3 k x1 x6 x10 false x1000 x1001 x167000 x167001 x167002)
def spec_l20Charter.j3 : Nat → Int → Int → Int → Bool → List Int → Int → Int → List Int → List (List (S35)) → Option (Int × List Int × (List (List (S35))) × Int)
 | 0, _, _, _, _, _, _, _, _, _ => none
 | k + 1, x1, x6, x10, x52, x1000, x1001, x167000, x167001, x167002 => if x52 = true then (spec_l20Charter.l3 k x1 x6 x10 0 x1000 x1001 x167000 x167001 x167002) else ((spec_l20Rd_odd.f k x1000 x1001 x1).bind fun bt200 => (if bt200.1 = true then ((spec_l20Rd_pick.f k x1000 bt200.2 3).bind fun bt202 => (if bt202.1 = 0 then (if 0 < (x167002.length : Int) then (if 0 < ((rd_L5 x167002 0).length : Int) then (some (x167000, x167001, (x167002.set (0 : Int).toNat ((rd_L5 x167002 0).set (0 : Int).toNat (⟨(rd_T35 (rd_L5 x167002 0) 0).f0, 0, (rd_T35 (rd_L5 x167002 0) 0).f2⟩ : S35))), bt202.2)) else (none)) else (none)) else (if bt202.1 = 1 then (some (x167000, x167001, (([] : List (List (S35)))), bt202.2)) else (if 0 < (x167002.length : Int) then (if 0 < ((rd_L5 x167002 0).length : Int) then (some (x167000, x167001, (x167002.set (0 : Int).toNat ((rd_L5 x167002 0).set (0 : Int).toNat (⟨(([] : List (S75))), (rd_T35 (rd_L5 x167002 0) 0).f1, (rd_T35 (rd_L5 x167002 0) 0).f2⟩ : S35))), bt202.2)) else (none)) else (none))))) else (some (x167000, x167001, x167002, bt200.2))))
def spec_l20Charter.l3 : Nat → Int → Int → Int → Int → List Int → Int → Int → List Int → List (List (S35)) → Option (Int × List Int × (List (List (S35))) × Int)
 | 0, _, _, _, _, _, _, _, _, _ => none
 | k + 1, x1, x6, x10, x11, x1000, x1001, x167000, x167001, x167002 => if 0 ≤ x10 then (if x10 < (x167002.length : Int) then (if x11 < ((rd_L5 x167002 x10).length : Int) then ((spec_l20Rd_pick.f k x1000 x1001 (wrap64 (x6 - 1))).bind fun bt185 => (if x6 = 0 then (none) else ((spec_l20Rd_pick.f k x1000 bt185.2 3).bind fun bt187 => (if bt187.1 = 0 then (if 0 ≤ x11 then ((some (x167002.set (x10 : Int).toNat ((rd_L5 x167002 x10).set (x11 : Int).toNat (⟨(rd_T35 (rd_L5 x167002 x10) x11).f0, Int.tmod (wrap64 ((wrap64 (x10 + 1)) + bt185.1)) x6, (rd_T35 (rd_L5 x167002 x10) x11).f2⟩ : S35)) : List (List (S35)))).bind fun y192 => (if 0 ≤ (Int.tmod (wrap64 ((wrap64 (x10 + 1)) + bt185.1)) x6) then (if (Int.tmod (wrap64 ((wrap64 (x10 + 1)) + bt185.1)) x6) < (x167002.length : Int) then ((spec_l20Rd_pick.f k x1000 bt187.2 ((rd_L5 y192 (Int.tmod (wrap64 ((wrap64 (x10 + 1)) + bt185.1)) x6)).length : Int)).bind fun bt195 => (if x11 < ((rd_L5 y192 x10).length : Int) then (spec_l20Charter.l3 k x1 x6 x10 (wrap64 (x11 + 1)) x1000 bt195.2 x167000 x167001 (y192.set (x10 : Int).toNat ((rd_L5 y192 x10).set (x11 : Int).toNat (⟨(rd_T35 (rd_L5 y192 x10) x11).f0, (rd_T35 (rd_L5 y192 x10) x11).f1, bt195.1⟩ : S35)))) else (none))) else (none)) else (none))) else (none)) else (spec_l20Charter.l3 k x1 x6 x10 (wrap64 (x11 + 1)) x1000 bt187.2 x167000 x167001 x167002))))) else (spec_l20Charter.l2 k x1 x6 (wrap64 (x10 + 1)) x1000 x1001 x167000 x167001 x167002)) else (none)) else (none)
end
def spec_l20Charter.f (k : Nat) (s0_0 : List Int) (s0_1 : Int) (a1 : Int) : Option (Int × List Int × (List (List (S35))) × Int) := (spec_l20House.f k s0_0 s0_1 0).bind fun bt161 => ((spec_l20Rd_pick.f k s0_0 bt161.2.2 3).bind fun bt167 => (spec_l20Charter.l0 k a1 (wrap64 (1 + bt167.1)) 0 s0_0 bt167.2 bt161.1 bt161.2.1 ([] : List (List (S35)))))
theorem spec_l20Charter.mono_l : ∀ k, (∀ y0 y1 y2 y3 y4 y5 y6 y7, LeO (spec_l20Charter.l0 k y0 y1 y2 y3 y4 y5 y6 y7) (spec_l20Charter.l0 (k + 1) y0 y1 y2 y3 y4 y5 y6 y7)) ∧ (∀ y0 y1 y2 y3 y4 y5 y6 y7 y8 y9, LeO (spec_l20Charter.l1 k y0 y1 y2 y3 y4 y5 y6 y7 y8 y9) (spec_l20Charter.l1 (k + 1) y0 y1 y2 y3 y4 y5 y6 y7 y8 y9)) ∧ (∀ y0 y1 y2 y3 y4 y5 y6 y7, LeO (spec_l20Charter.l2 k y0 y1 y2 y3 y4 y5 y6 y7) (spec_l20Charter.l2 (k + 1) y0 y1 y2 y3 y4 y5 y6 y7)) ∧ (∀ y0 y1 y2 y3 y4 y5 y6 y7 y8, LeO (spec_l20Charter.j3 k y0 y1 y2 y3 y4 y5 y6 y7 y8) (spec_l20Charter.j3 (k + 1) y0 y1 y2 y3 y4 y5 y6 y7 y8)) ∧ (∀ y0 y1 y2 y3 y4 y5 y6 y7 y8, LeO (spec_l20Charter.l3 k y0 y1 y2 y3 y4 y5 y6 y7 y8) (spec_l20Charter.l3 (k + 1) y0 y1 y2 y3 y4 y5 y6 y7 y8))
 | 0 => ⟨fun _ _ _ _ _ _ _ _ r h => by simp [spec_l20Charter.l0] at h, fun _ _ _ _ _ _ _ _ _ _ r h => by simp [spec_l20Charter.l1] at h, fun _ _ _ _ _ _ _ _ r h => by simp [spec_l20Charter.l2] at h, fun _ _ _ _ _ _ _ _ _ r h => by simp [spec_l20Charter.j3] at h, fun _ _ _ _ _ _ _ _ _ r h => by simp [spec_l20Charter.l3] at h⟩
 | k + 1 => by
  obtain ⟨ih0, ih1, ih2, ih3, ih4⟩ := spec_l20Charter.mono_l k
  refine ⟨?_, ?_, ?_, ?_, ?_⟩
  ·intro y0 y1 y2 y3 y4 y5 y6 y7
   unfold spec_l20Charter.l0
   repeat' first
   | (with_reducible exact ih0 _ _ _ _ _ _ _ _)
   | (with_reducible exact ih1 _ _ _ _ _ _ _ _ _ _)
   | (with_reducible exact ih2 _ _ _ _ _ _ _ _)
   | (with_reducible exact ih3 _ _ _ _ _ _ _ _ _)
   | (with_reducible exact ih4 _ _ _ _ _ _ _ _ _)
   | (with_reducible exact spec_l20Atom.mono _ _ _ _ _)
   | (with_reducible exact spec_l20House.mono _ _ _ _)
   | (with_reducible exact spec_l20Rd_odd.mono _ _ _ _)
   | (with_reducible exact spec_l20Rd_pick.mono _ _ _ _)
   | (with_reducible exact LeO.refl _)
   | (with_reducible exact LeO.none _)
   | (with_reducible refine LeO.ite ?_ ?_)
   | (with_reducible refine LeO.bind ?_ (fun _ => ?_))
   | exact ih0 _ _ _ _ _ _ _ _
   | exact ih1 _ _ _ _ _ _ _ _ _ _
   | exact ih2 _ _ _ _ _ _ _ _
   | exact ih3 _ _ _ _ _ _ _ _ _
   | exact ih4 _ _ _ _ _ _ _ _ _
   | exact spec_l20Atom.mono _ _ _ _ _
   | exact spec_l20House.mono _ _ _ _
   | exact spec_l20Rd_odd.mono _ _ _ _
   | exact spec_l20Rd_pick.mono _ _ _ _
   | exact LeO.none _
   | refine LeO.ite ?_ ?_
   | refine LeO.bind ?_ (fun _ => ?_)
  ·intro y0 y1 y2 y3 y4 y5 y6 y7 y8 y9
   unfold spec_l20Charter.l1
   repeat' first
   | (with_reducible exact ih0 _ _ _ _ _ _ _ _)
   | (with_reducible exact ih1 _ _ _ _ _ _ _ _ _ _)
   | (with_reducible exact ih2 _ _ _ _ _ _ _ _)
   | (with_reducible exact ih3 _ _ _ _ _ _ _ _ _)
   | (with_reducible exact ih4 _ _ _ _ _ _ _ _ _)
   | (with_reducible exact spec_l20Atom.mono _ _ _ _ _)
   | (with_reducible exact spec_l20House.mono _ _ _ _)
   | (with_reducible exact spec_l20Rd_odd.mono _ _ _ _)
   | (with_reducible exact spec_l20Rd_pick.mono _ _ _ _)
   | (with_reducible exact LeO.refl _)
   | (with_reducible exact LeO.none _)
   | (with_reducible refine LeO.ite ?_ ?_)
   | (with_reducible refine LeO.bind ?_ (fun _ => ?_))
   | exact ih0 _ _ _ _ _ _ _ _
   | exact ih1 _ _ _ _ _ _ _ _ _ _
   | exact ih2 _ _ _ _ _ _ _ _
   | exact ih3 _ _ _ _ _ _ _ _ _
   | exact ih4 _ _ _ _ _ _ _ _ _
   | exact spec_l20Atom.mono _ _ _ _ _
   | exact spec_l20House.mono _ _ _ _
   | exact spec_l20Rd_odd.mono _ _ _ _
   | exact spec_l20Rd_pick.mono _ _ _ _
   | exact LeO.none _
   | refine LeO.ite ?_ ?_
   | refine LeO.bind ?_ (fun _ => ?_)
  ·intro y0 y1 y2 y3 y4 y5 y6 y7
   unfold spec_l20Charter.l2
   repeat' first
   | (with_reducible exact ih0 _ _ _ _ _ _ _ _)
   | (with_reducible exact ih1 _ _ _ _ _ _ _ _ _ _)
   | (with_reducible exact ih2 _ _ _ _ _ _ _ _)
   | (with_reducible exact ih3 _ _ _ _ _ _ _ _ _)
   | (with_reducible exact ih4 _ _ _ _ _ _ _ _ _)
   | (with_reducible exact spec_l20Atom.mono _ _ _ _ _)
   | (with_reducible exact spec_l20House.mono _ _ _ _)
   | (with_reducible exact spec_l20Rd_odd.mono _ _ _ _)
   | (with_reducible exact spec_l20Rd_pick.mono _ _ _ _)
   | (with_reducible exact LeO.refl _)
   | (with_reducible exact LeO.none _)
   | (with_reducible refine LeO.ite ?_ ?_)
   | (with_reducible refine LeO.bind ?_ (fun _ => ?_))
   | exact ih0 _ _ _ _ _ _ _ _
   | exact ih1 _ _ _ _ _ _ _ _ _ _
   | exact ih2 _ _ _ _ _ _ _ _
   | exact ih3 _ _ _ _ _ _ _ _ _
   | exact ih4 _ _ _ _ _ _ _ _ _
   | exact spec_l20Atom.mono _ _ _ _ _
   | exact spec_l20House.mono _ _ _ _
   | exact spec_l20Rd_odd.mono _ _ _ _
   | exact spec_l20Rd_pick.mono _ _ _ _
   | exact LeO.none _
   | refine LeO.ite ?_ ?_
   | refine LeO.bind ?_ (fun _ => ?_)
  ·intro y0 y1 y2 y3 y4 y5 y6 y7 y8
   unfold spec_l20Charter.j3
   repeat' first
   | (with_reducible exact ih0 _ _ _ _ _ _ _ _)
   | (with_reducible exact ih1 _ _ _ _ _ _ _ _ _ _)
   | (with_reducible exact ih2 _ _ _ _ _ _ _ _)
   | (with_reducible exact ih3 _ _ _ _ _ _ _ _ _)
   | (with_reducible exact ih4 _ _ _ _ _ _ _ _ _)
   | (with_reducible exact spec_l20Atom.mono _ _ _ _ _)
   | (with_reducible exact spec_l20House.mono _ _ _ _)
   | (with_reducible exact spec_l20Rd_odd.mono _ _ _ _)
   | (with_reducible exact spec_l20Rd_pick.mono _ _ _ _)
   | (with_reducible exact LeO.refl _)
   | (with_reducible exact LeO.none _)
   | (with_reducible refine LeO.ite ?_ ?_)
   | (with_reducible refine LeO.bind ?_ (fun _ => ?_))
   | exact ih0 _ _ _ _ _ _ _ _
   | exact ih1 _ _ _ _ _ _ _ _ _ _
   | exact ih2 _ _ _ _ _ _ _ _
   | exact ih3 _ _ _ _ _ _ _ _ _
   | exact ih4 _ _ _ _ _ _ _ _ _
   | exact spec_l20Atom.mono _ _ _ _ _
   | exact spec_l20House.mono _ _ _ _
   | exact spec_l20Rd_odd.mono _ _ _ _
   | exact spec_l20Rd_pick.mono _ _ _ _
   | exact LeO.none _
   | refine LeO.ite ?_ ?_
   | refine LeO.bind ?_ (fun _ => ?_)
  ·intro y0 y1 y2 y3 y4 y5 y6 y7 y8
   unfold spec_l20Charter.l3
   repeat' first
   | (with_reducible exact ih0 _ _ _ _ _ _ _ _)
   | (with_reducible exact ih1 _ _ _ _ _ _ _ _ _ _)
   | (with_reducible exact ih2 _ _ _ _ _ _ _ _)
   | (with_reducible exact ih3 _ _ _ _ _ _ _ _ _)
   | (with_reducible exact ih4 _ _ _ _ _ _ _ _ _)
   | (with_reducible exact spec_l20Atom.mono _ _ _ _ _)
   | (with_reducible exact spec_l20House.mono _ _ _ _)
   | (with_reducible exact spec_l20Rd_odd.mono _ _ _ _)
   | (with_reducible exact spec_l20Rd_pick.mono _ _ _ _)
   | (with_reducible exact LeO.refl _)
   | (with_reducible exact LeO.none _)
   | (with_reducible refine LeO.ite ?_ ?_)
   | (with_reducible refine LeO.bind ?_ (fun _ => ?_))
   | exact ih0 _ _ _ _ _ _ _ _
   | exact ih1 _ _ _ _ _ _ _ _ _ _
   | exact ih2 _ _ _ _ _ _ _ _
   | exact ih3 _ _ _ _ _ _ _ _ _
   | exact ih4 _ _ _ _ _ _ _ _ _
   | exact spec_l20Atom.mono _ _ _ _ _
   | exact spec_l20House.mono _ _ _ _
   | exact spec_l20Rd_odd.mono _ _ _ _
   | exact spec_l20Rd_pick.mono _ _ _ _
   | exact LeO.none _
   | refine LeO.ite ?_ ?_
   | refine LeO.bind ?_ (fun _ => ?_)
theorem spec_l20Charter.mono : ∀ a0 a1 a2 k, LeO (spec_l20Charter.f k a0 a1 a2) (spec_l20Charter.f (k + 1) a0 a1 a2) := by
 intro a0 a1 a2 k
 obtain ⟨ih0, ih1, ih2, ih3, ih4⟩ := spec_l20Charter.mono_l k
 unfold spec_l20Charter.f
 repeat' first
   | (with_reducible exact ih0 _ _ _ _ _ _ _ _)
   | (with_reducible exact ih1 _ _ _ _ _ _ _ _ _ _)
   | (with_reducible exact ih2 _ _ _ _ _ _ _ _)
   | (with_reducible exact ih3 _ _ _ _ _ _ _ _ _)
   | (with_reducible exact ih4 _ _ _ _ _ _ _ _ _)
   | (with_reducible exact spec_l20Atom.mono _ _ _ _ _)
   | (with_reducible exact spec_l20House.mono _ _ _ _)
   | (with_reducible exact spec_l20Rd_odd.mono _ _ _ _)
   | (with_reducible exact spec_l20Rd_pick.mono _ _ _ _)
   | (with_reducible exact LeO.refl _)
   | (with_reducible exact LeO.none _)
   | (with_reducible refine LeO.ite ?_ ?_)
   | (with_reducible refine LeO.bind ?_ (fun _ => ?_))
   | exact ih0 _ _ _ _ _ _ _ _
   | exact ih1 _ _ _ _ _ _ _ _ _ _
   | exact ih2 _ _ _ _ _ _ _ _
   | exact ih3 _ _ _ _ _ _ _ _ _
   | exact ih4 _ _ _ _ _ _ _ _ _
   | exact spec_l20Atom.mono _ _ _ _ _
   | exact spec_l20House.mono _ _ _ _
   | exact spec_l20Rd_odd.mono _ _ _ _
   | exact spec_l20Rd_pick.mono _ _ _ _
   | exact LeO.none _
   | refine LeO.ite ?_ ?_
   | refine LeO.bind ?_ (fun _ => ?_)
def spec_l20Charter.T21 : Bool × List (List Nat × List Nat) := (true, [([], []), ([0], [0]), ([], []), ([1, 2], [1, 2]), ([3], [3]), ([], []), ([], []), ([], []), ([7], [7]), ([], []), ([8, 9], [8, 9]), ([10], [10]), ([11], [11]), ([6, 12], [6, 12]), ([4, 5, 0, 1, 2, 3, 4, 5, 6, 7, 8, 9, 10, 11, 12, 13], [4, 5]), ([14, 0, 1, 2, 3, 4, 5, 6, 7, 8, 9, 10, 11, 12, 13], [14]), ([15, 13, 13, 0, 1, 2, 3, 4, 5, 6, 7, 8, 9, 10, 11, 12, 13], [13, 15])])
def spec_l20Charter.B21 : List Nat := [0, 1, 0, 7, 15, 0, 0, 0, 128, 0, 896, 1920, 3968, 8128, 16383, 32767, 65535]
theorem spec_l20Charter.tab21 : rtab .any (opsOf Try.f26 21) = spec_l20Charter.T21 := by kernel_rfl
theorem spec_l20Charter.bits21 : waitsOk spec_l20Charter.T21.2 spec_l20Charter.B21 = true := by kernel_rfl
set_option maxHeartbeats 8000000 in
set_option maxRecDepth 100000 in
theorem spec_l20Charter.calls (k : Nat) (g : Nat) (s0_0 : List Int) (s0_1 : Int) (a1 : Int) (r1 : Int) (r2 : List Int) (r3 : List (List (S35))) (r4 : Int) (w0 w : World) (hI : IsS73 w0 w g s0_0 s0_1) (hB : Below w0.heap.size w0 w) (h : spec_l20Charter.f k s0_0 s0_1 a1 = some (r1, r2, r3, r4)) :
  Calls Try.prog 26 #[.pointer (some ⟨g, 0, none⟩), .int .i64 a1] w fun e w' => ∃ v1_ v2_ : Value, e = .returned (.agg #[.int .i64 r1, v1_, v2_]) ∧ Kd.R (Kd.int .i64) 3 w' w.heap.size (fun _ => True) v1_ r2 ∧ Kd.S (Kd.slice 35 k35) 32 w' w.heap.size (fun _ => True) v2_ r3 ∧ IsS73 w0 w' g s0_0 r4 ∧ Below w0.heap.size w0 w' ∧ KeepBut w w' g none := by
 have hu28 := Try.underlying28
 have hu25 := Try.underlying25
 have hu35 := Try.underlying35
 have HI0 := Aside0.mk hI
 have HK := Aside0.mk (KeepBut.refl w g none)
 have HL := Aside0.mk hB.size
 clear hI
 have HW0 := Aside0.mk hB.size
 have HB := Aside0.mk hB
 clear hB
 have H : ((spec_l20House.f k s0_0 s0_1 0).bind fun bt161 => ((spec_l20Rd_pick.f k s0_0 bt161.2.2 3).bind fun bt167 => (spec_l20Charter.l0 k a1 (wrap64 (1 + bt167.1)) 0 s0_0 bt167.2 bt161.1 bt161.2.1 ([] : List (List (S35)))))) = some (r1, r2, r3, r4) := h
 clear h
 replace H := Option.bind_eq_some_iff.mp H
 obtain ⟨⟨t161, t162, t165⟩, A30, H⟩ := H
 replace H : ((spec_l20Rd_pick.f k s0_0 t165 3).bind fun bt167 => (spec_l20Charter.l0 k a1 (wrap64 (1 + bt167.1)) 0 s0_0 bt167.2 t161 t162 ([] : List (List (S35))))) = some (r1, r2, r3, r4) := H
 have A3 := Aside0.mk A30
 clear A30
 replace H := Option.bind_eq_some_iff.mp H
 obtain ⟨⟨t167, t168⟩, A40, H⟩ := H
 replace H : (spec_l20Charter.l0 k a1 (wrap64 (1 + t167)) 0 s0_0 t168 t161 t162 ([] : List (List (S35)))) = some (r1, r2, r3, r4) := H
 have A4 := Aside0.mk A40
 clear A40
 have H' := Aside0.mk H
 clear H
 go_enter Try.func26, Try.ntmps26
 go_wp2_with (first | ((with_reducible refine gate_dst (N := 4) rfl ?_); refine box_event ?hg (N := 4) ?hd (cs := #[.int .i64 0, .slice none 0 0, .slice none 0 0]) (t := 28) ?hr ?_; (case hd => rfl); (case hg => rfl); (case hr => first | (go_simp; done) | (go_simp; rfl)); intro gb160 hg w5 hbox hb; have n0_ := Aside0.mk (IsS73.below (by repeat (first | (with_reducible first | exact HI0.out | apply IsS73.alloc | apply IsS73.drewN | apply IsS73.drew | apply IsS73.set_1) | exact HI0.out)) hb); have n1_ := Aside0.mk (KeepBut.trans (by repeat (first | (with_reducible first | exact HK.out | apply KeepBut.set_ | apply keep_drewN | apply keep_drew | apply keep_alloc) | exact HK.out)) (KeepBut.of_below hb g none) (.inl rfl)); have n2_ := Aside0.mk (below_step (by repeat (first | (with_reducible first | exact HB.out | apply below_alloc | apply pw_below_drewN | apply below_drew1 | refine below_set ?_ (IsS73.ge HI0.out)) | exact HB.out)) hb); have n3_ := Aside0.mk (hbox); have n4_ := Aside0.mk ((by rw [hg]; exact (keep_size (w := w) (g := g) (row := none) (by repeat (first | (with_reducible first | exact HK.out | apply KeepBut.set_ | apply keep_drewN | apply keep_drew | apply keep_alloc) | exact HK.out))) : w.heap.size ≤ gb160)); have n5_ := Aside0.mk ((Nat.le_trans HW0.out (by rw [hg]; exact (keep_size (w := w) (g := g) (row := none) (by repeat (first | (with_reducible first | exact HK.out | apply KeepBut.set_ | apply keep_drewN | apply keep_drew | apply keep_alloc) | exact HK.out))) : w.heap.size ≤ gb160) : w0.heap.size ≤ gb160)); have n6_ := Aside0.mk ((by rw [hg]; exact Nat.ne_of_lt (IsS73.lt (show IsS73 w0 _ g s0_0 s0_1 from by repeat (first | (with_reducible first | exact HI0.out | apply IsS73.alloc | apply IsS73.drewN | apply IsS73.drew | apply IsS73.set_1) | exact HI0.out))) : g ≠ gb160)); have n7_ := Aside0.mk ((by rw [hg]; exact Nat.ne_of_gt (IsS73.lt (show IsS73 w0 _ g s0_0 s0_1 from by repeat (first | (with_reducible first | exact HI0.out | apply IsS73.alloc | apply IsS73.drewN | apply IsS73.drew | apply IsS73.set_1) | exact HI0.out))) : gb160 ≠ g)); clear HI0 HK HB; have HI0 := n0_; have HK := n1_; have HB := n2_; have BK160 := n3_; have GW160 := n4_; have GE160 := n5_; have NB0_160 := n6_; have NB160_0 := n7_; clear n0_ n1_ n2_ n3_ n4_ n5_ n6_ n7_ hb hbox hg) | ((with_reducible refine gate_callee (f := 43) rfl ?_); refine goesL_ (some 14) rfl rfl Try.func43 kr rfl #[.pointer (some ⟨g, 0, none⟩), .int .i64 0] rfl lm ?_; (with_reducible refine (spec_l20House.calls k g s0_0 s0_1 0 t161 t162 t165 w0 _ ?side1 ?side2 A3.out).mono ?_); (case side1 => repeat (first | (with_reducible first | exact HI0.out | apply IsS73.alloc | apply IsS73.drewN | apply IsS73.drew | apply IsS73.set_1 | refine IsS73.far ?_ NB0_160.out _) | exact HI0.out)); (case side2 => repeat (first | (with_reducible first | exact HB.out | apply below_alloc | apply pw_below_drewN | apply below_drew1 | refine below_set ?_ (IsS73.ge HI0.out) | refine below_set ?_ GE160.out) | exact HB.out)); rintro e w6 ⟨v163, rfl, ho0, hi, hb, hk⟩; refine ⟨_, rfl, ?_⟩; have n0_ := Aside0.mk (KeepBut.blk hk (bz BK160) NB160_0.out (by simp)); have n1_ := Aside0.mk (Kd.R_lower ho0 (keep_size (w := w) (g := g) (row := none) (by repeat (first | (with_reducible first | exact HK.out | apply KeepBut.set_ | apply keep_drewN | apply keep_drew | apply keep_alloc | refine keep_far ?_ GW160.out _) | exact HK.out)))); have n2_ := Aside0.mk (KeepBut.trans (by repeat (first | (with_reducible first | exact HK.out | apply KeepBut.set_ | apply keep_drewN | apply keep_drew | apply keep_alloc | refine keep_far ?_ GW160.out _) | exact HK.out)) hk (.inl rfl)); have n3_ := Aside0.mk (hb); have n4_ := Aside0.mk (hi); clear BK160 HK HB HI0; have BK160 := n0_; have HO164 := n1_; have HK := n2_; have HB := n3_; have HI0 := n4_; clear n0_ n1_ n2_ n3_ n4_; (try clear hb); (try clear hb2); (try clear hk); (try clear hi); (try clear ho0); obtain ⟨Ao7, co7, eo7⟩ := Kd.R_slice HO164.out; subst eo7) | ((with_reducible refine gate_dst (N := 5) rfl ?_); refine box_event ?hg (N := 5) ?hd (cs := #[.int .i64 0, .slice none 0 0, .slice none 0 0]) (t := 28) ?hr ?_; (case hd => rfl); (case hg => rfl); (case hr => first | (go_simp; done) | (go_simp; rfl)); intro gb166 hg w8 hbox hb; have n0_ := Aside0.mk (Kd.R_below (rz HO164) hb); have n1_ := Aside0.mk (IsS73.below (by repeat (first | (with_reducible first | exact HI0.out | apply IsS73.alloc | apply IsS73.drewN | apply IsS73.drew | apply IsS73.set_1 | refine IsS73.far ?_ NB0_160.out _) | exact HI0.out)) hb); have n2_ := Aside0.mk (blk_below (bz BK160) hb); have n3_ := Aside0.mk (KeepBut.trans (by repeat (first | (with_reducible first | exact HK.out | apply KeepBut.set_ | apply keep_drewN | apply keep_drew | apply keep_alloc | refine keep_far ?_ GW160.out _) | exact HK.out)) (KeepBut.of_below hb g none) (.inl rfl)); have n4_ := Aside0.mk (below_step (by repeat (first | (with_reducible first | exact HB.out | apply below_alloc | apply pw_below_drewN | apply below_drew1 | refine below_set ?_ (IsS73.ge HI0.out) | refine below_set ?_ GE160.out) | exact HB.out)) hb); have n5_ := Aside0.mk (hbox); have n6_ := Aside0.mk ((by rw [hg]; exact (keep_size (w := w) (g := g) (row := none) (by repeat (first | (with_reducible first | exact HK.out | apply KeepBut.set_ | apply keep_drewN | apply keep_drew | apply keep_alloc | refine keep_far ?_ GW160.out _) | exact HK.out))) : w.heap.size ≤ gb166)); have n7_ := Aside0.mk ((Nat.le_trans HW0.out (by rw [hg]; exact (keep_size (w := w) (g := g) (row := none) (by repeat (first | (with_reducible first | exact HK.out | apply KeepBut.set_ | apply keep_drewN | apply keep_drew | apply keep_alloc | refine keep_far ?_ GW160.out _) | exact HK.out))) : w.heap.size ≤ gb166) : w0.heap.size ≤ gb166)); have n8_ := Aside0.mk ((gn hg (bz BK160))); have n9_ := Aside0.mk ((gm hg (bz BK160))); have n10_ := Aside0.mk ((by rw [hg]; exact Nat.ne_of_lt (IsS73.lt (show IsS73 w0 _ g s0_0 t165 from by repeat (first | (with_reducible first | exact HI0.out | apply IsS73.alloc | apply IsS73.drewN | apply IsS73.drew | apply IsS73.set_1 | refine IsS73.far ?_ NB0_160.out _) | exact HI0.out))) : g ≠ gb166)); have n11_ := Aside0.mk ((by rw [hg]; exact Nat.ne_of_gt (IsS73.lt (show IsS73 w0 _ g s0_0 t165 from by repeat (first | (with_reducible first | exact HI0.out | apply IsS73.alloc | apply IsS73.drewN | apply IsS73.drew | apply IsS73.set_1 | refine IsS73.far ?_ NB0_160.out _) | exact HI0.out))) : gb166 ≠ g)); clear HO164 HI0 BK160 HK HB; have HO164 := n0_; have HI0 := n1_; have BK160 := n2_; have HK := n3_; have HB := n4_; have BK166 := n5_; have GW166 := n6_; have GE166 := n7_; have NB160_166 := n8_; have NB166_160 := n9_; have NB0_166 := n10_; have NB166_0 := n11_; clear n0_ n1_ n2_ n3_ n4_ n5_ n6_ n7_ n8_ n9_ n10_ n11_ hb hbox hg; have hnb9 := NB166_160.out; have hnc9 := NB160_166.out; have hnb10 := NB166_0.out; have hnc10 := NB0_166.out; have hcz11_0 := cz0 BK166; have hcz11_1 := cz1 BK166; have hcz11_2 := cz2 BK166; have hfz11_0 := blk_frozen BK166.out 0; have hfz11_1 := blk_frozen BK166.out 1; have hfz11_2 := blk_frozen BK166.out 2) | ((with_reducible refine gate_callee (f := 44) rfl ?_); refine goesL_ (some 17) rfl rfl Try.func44 kr rfl #[.pointer (some ⟨g, 0, none⟩), .int .i64 3] rfl lm ?_; (with_reducible refine (spec_l20Rd_pick.calls k g s0_0 t165 3 t167 t168 w0 _ ?side1 ?side2 A4.out).mono ?_); (case side1 => repeat (first | (with_reducible first | exact HI0.out | apply IsS73.alloc | apply IsS73.drewN | apply IsS73.drew | apply IsS73.set_1 | refine IsS73.far ?_ NB0_160.out _ | refine IsS73.far ?_ NB0_166.out _) | exact HI0.out)); (case side2 => repeat (first | (with_reducible first | exact HB.out | apply below_alloc | apply pw_below_drewN | apply below_drew1 | refine below_set ?_ (IsS73.ge HI0.out) | refine below_set ?_ GE160.out | refine below_set ?_ GE166.out) | exact HB.out)); rintro e w12 ⟨rfl, hi, hb, hk⟩; refine ⟨_, rfl, ?_⟩; have n0_ := Aside0.mk (KeepBut.blk hk (g' := gb160) (o := .cells #[.int .i64 0, .slice none 0 0, .slice none 0 0] 28 (0, 0)) (bf NB160_166 BK160) NB160_0.out (by simp)); have n1_ := Aside0.mk (Kd.R_mono (Kd.R_keep (IsS73.apart (show IsS73 w0 _ g s0_0 t165 from by repeat (first | (with_reducible first | exact HI0.out | apply IsS73.alloc | apply IsS73.drewN | apply IsS73.drew | apply IsS73.set_1 | refine IsS73.far ?_ NB0_160.out _ | refine IsS73.far ?_ NB0_166.out _) | exact HI0.out)) (fR HO164 BK166) (by decide)) hk (fun _ h => h.2)) (fun _ h => h.1)); have n2_ := Aside0.mk (KeepBut.blk hk (g' := gb166) (o := .cells #[.int .i64 t161, .slice Ao7 t162.length co7, .slice none 0 0] 28 (0, 0)) (bp BK166) NB166_0.out (by simp)); have n3_ := Aside0.mk (KeepBut.trans (by repeat (first | (with_reducible first | exact HK.out | apply KeepBut.set_ | apply keep_drewN | apply keep_drew | apply keep_alloc | refine keep_far ?_ GW160.out _ | refine keep_far ?_ GW166.out _) | exact HK.out)) hk (.inl rfl)); have n4_ := Aside0.mk (hb); have n5_ := Aside0.mk (hi); clear BK160 HO164 BK166 HK HB HI0; have BK160 := n0_; have HO164 := n1_; have BK166 := n2_; have HK := n3_; have HB := n4_; have HI0 := n5_; clear n0_ n1_ n2_ n3_ n4_ n5_; (try clear hb); (try clear hb2); (try clear hk); (try clear hi)))
 go_loopg [7] k (fun kq v7 w' => ∃ (x7_1 : Int) (x1001_1 : Int) (x167002_1 : List (List (S35))) (u167002 : Value), v7 = .int .i64 x7_1 ∧ Aside0 (spec_l20Charter.l0 kq a1 (wrap64 (1 + t167)) x7_1 s0_0 x1001_1 t161 t162 x167002_1 = some (r1, r2, r3, r4)) ∧ Aside0 (kq ≤ k) ∧ Aside0 (Kd.R (Kd.int .i64) 3 w' w.heap.size (fun _ => True) (.slice Ao7 t162.length co7) t162) ∧ Aside0 (Kd.S (Kd.slice 35 k35) 32 w' w.heap.size (fun _ => True) u167002 x167002_1) ∧ Aside0 (w'.heap[gb160]? = some (.cells #[.int .i64 0, (.slice none 0 0), (.slice none 0 0)] 28 (0, 0))) ∧ Aside0 (w'.heap[gb166]? = some (.cells #[.int .i64 t161, (.slice Ao7 t162.length co7), u167002] 28 (0, 0))) ∧ Aside0 (IsS73 w0 w' g s0_0 x1001_1) ∧ Aside0 (KeepBut w w' g none) ∧ Aside0 (Below w0.heap.size w0 w'))
 case atStart => exact ⟨(0), (t168), (([] : List (List (S35)))), (.slice none 0 0), (by first | rfl | (simp; done) | (simp [*]; done)), H', ⟨Nat.le_refl _⟩, ⟨rz HO164⟩, ⟨by first | exact Kd.S_nil _ _ _ _ _ | exact Kd.N_nil _ _ _ _ _ | exact Kd.V_nil _ _ _ _ _ | exact Kd.Q_nil _ _ _ _ _ | exact Kd.R_nil _ _ _ _ _⟩, ⟨bz BK160⟩, ⟨bz BK166⟩, ⟨by repeat (first | (with_reducible first | exact HI0.out | apply IsS73.alloc | apply IsS73.drewN | apply IsS73.drew | apply IsS73.set_1 | refine IsS73.far ?_ NB0_160.out _ | refine IsS73.far ?_ NB0_166.out _) | exact HI0.out)⟩, ⟨by repeat (first | (with_reducible first | exact HK.out | apply KeepBut.set_ | apply keep_drewN | apply keep_drew | apply keep_alloc | refine keep_far ?_ GW160.out _ | refine keep_far ?_ GW166.out _) | exact HK.out)⟩, ⟨by repeat (first | (with_reducible first | exact HB.out | apply below_alloc | apply pw_below_drewN | apply below_drew1 | refine below_set ?_ (IsS73.ge HI0.out) | refine below_set ?_ GE160.out | refine below_set ?_ GE166.out) | exact HB.out)⟩⟩
 case round =>
  clear H'
  try clear c1
  try clear c2
  try clear p2
  try clear c4
  try clear p6
  try clear c9
  try clear c10
  try clear hcz11_0
  try clear hcz11_1
  try clear hcz11_2
  try clear hfz11_0
  try clear hfz11_1
  try clear hfz11_2
  obtain ⟨x7_1, x1001_1, x167002_1, u167002, rfl, HA, HK1, HO_167001, HO_167002, BK160, BK166, HI0, HK, HB⟩ := hrel
  cases gk with
  | zero => exact absurd HA.out (by simp [spec_l20Charter.l0])
  | succ k1 =>
   have H := HA.out
   clear HA
   simp only [spec_l20Charter.l0] at H
   by_cases c13 : x7_1 < (wrap64 (1 + t167))
   ·rw [if_pos c13] at H
    have c13b0 : decide (x7_1 < (wrap64 (1 + t167))) = true := decide_eq_true c13
    clear c13
    obtain ⟨y169, hy169⟩ : ∃ y_ : List (S35), y_ = (([] : List (S35))) := ⟨_, rfl⟩
    replace H : ((spec_l20Rd_pick.f k1 s0_0 x1001_1 3).bind fun bt172 => (spec_l20Charter.l1 k1 a1 (wrap64 (1 + t167)) x7_1 y169 (wrap64 (1 + bt172.1)) s0_0 bt172.2 t161 t162 x167002_1)) = some (r1, r2, r3, r4) := by first | (rw [hy169]; with_reducible exact H) | (have H2_ := (Option.bind_some _ _).symm.trans H; rw [hy169]; with_reducible exact H2_) | (have H2_ := (Option.bind_some _ _).symm.trans H; with_reducible exact H2_) | with_reducible exact H | (rw [hy169]; exact H) | exact H
    have Ny169 := Aside0.mk hy169
    clear hy169
    replace H := Option.bind_eq_some_iff.mp H
    obtain ⟨⟨t172, t173⟩, A140, H⟩ := H
    replace H : (spec_l20Charter.l1 k1 a1 (wrap64 (1 + t167)) x7_1 y169 (wrap64 (1 + t172)) s0_0 t173 t161 t162 x167002_1) = some (r1, r2, r3, r4) := H
    have A14 := Aside0.mk A140
    clear A140
    have H' := Aside0.mk H
    clear H
    go_wp2_with (first | ((with_reducible refine gate_dst (N := 24) rfl ?_); refine Kd.S_lit k35 _ 35 ?hg (N := 24) ?hd (xs := ([] : List (S35))) (inner := []) (ok := fun _ => True) (okp := fun _ => True) ?hr ?hp (fun _ hk => hk) trivial (Below.refl _ _) (Nat.le_refl _) (by simp) ?_; (case hd => rfl); (case hg => rfl); (case hr => first | (go_simp; done) | (go_simp; rfl)); (case hp => exact (Reps.none _ _)); intro v170 w15 ho16 hb hg_ hnew_; clear hg_ hnew_; obtain ⟨N_, hN_⟩ := S_num ho16; (first | rw [← Ny169.out] at ho16 | (simp only [Int.reduceToNat] at ho16; rw [← Ny169.out] at ho16)); have n0_ := Aside0.mk (Kd.R_below (rz HO_167001) hb); have n1_ := Aside0.mk (S_ltN (Kd.S_told (Kd.S_old (sz HO_167002) hb) (Kd.S_base ho16)) hN_); have n2_ := Aside0.mk (Kd.S_lower (S_geN ho16 hN_) (keep_size (w := w) (g := g) (row := none) (by repeat (first | (with_reducible first | exact HK.out | apply KeepBut.set_ | apply keep_drewN | apply keep_drew | apply keep_alloc | refine keep_far ?_ GW160.out _ | refine keep_far ?_ GW166.out _) | exact HK.out)))); have n3_ := Aside0.mk (blk_below (bz BK160) hb); have n4_ := Aside0.mk (blk_below (bz BK166) hb); have n5_ := Aside0.mk (IsS73.below (by repeat (first | (with_reducible first | exact HI0.out | apply IsS73.alloc | apply IsS73.drewN | apply IsS73.drew | apply IsS73.set_1 | refine IsS73.far ?_ NB0_160.out _ | refine IsS73.far ?_ NB0_166.out _) | exact HI0.out)) hb); have n6_ := Aside0.mk (KeepBut.trans (by repeat (first | (with_reducible first | exact HK.out | apply KeepBut.set_ | apply keep_drewN | apply keep_drew | apply keep_alloc | refine keep_far ?_ GW160.out _ | refine keep_far ?_ GW166.out _) | exact HK.out)) (KeepBut.of_below hb g none) (.inl rfl)); have n7_ := Aside0.mk (below_step (by repeat (first | (with_reducible first | exact HB.out | apply below_alloc | apply pw_below_drewN | apply below_drew1 | refine below_set ?_ (IsS73.ge HI0.out) | refine below_set ?_ GE160.out | refine below_set ?_ GE166.out) | exact HB.out)) hb); clear hN_ HO_167001 HO_167002 BK160 BK166 HI0 HK HB; have HO_167001 := n0_; have HO_167002 := n1_; have HO171 := n2_; have BK160 := n3_; have BK166 := n4_; have HI0 := n5_; have HK := n6_; have HB := n7_; clear n0_ n1_ n2_ n3_ n4_ n5_ n6_ n7_ hb ho16) | ((with_reducible refine gate_callee (f := 44) rfl ?_); refine goesL_ (some 26) rfl rfl Try.func44 kr rfl #[.pointer (some ⟨g, 0, none⟩), .int .i64 3] rfl lm ?_; (with_reducible refine (spec_l20Rd_pick.calls k1 g s0_0 x1001_1 3 t172 t173 w0 _ ?side1 ?side2 A14.out).mono ?_); (case side1 => repeat (first | (with_reducible first | exact HI0.out | apply IsS73.alloc | apply IsS73.drewN | apply IsS73.drew | apply IsS73.set_1 | refine IsS73.far ?_ NB0_160.out _ | refine IsS73.far ?_ NB0_166.out _) | exact HI0.out)); (case side2 => repeat (first | (with_reducible first | exact HB.out | apply below_alloc | apply pw_below_drewN | apply below_drew1 | refine below_set ?_ (IsS73.ge HI0.out) | refine below_set ?_ GE160.out | refine below_set ?_ GE166.out) | exact HB.out)); rintro e w17 ⟨rfl, hi, hb, hk⟩; refine ⟨_, rfl, ?_⟩; have n0_ := Aside0.mk (Kd.R_mono (Kd.R_keep (IsS73.apart (show IsS73 w0 _ g s0_0 x1001_1 from by repeat (first | (with_reducible first | exact HI0.out | apply IsS73.alloc | apply IsS73.drewN | apply IsS73.drew | apply IsS73.set_1 | refine IsS73.far ?_ NB0_160.out _ | refine IsS73.far ?_ NB0_166.out _) | exact HI0.out)) (rz HO_167001) (by decide)) hk (fun _ h => h.2)) (fun _ h => h.1)); have n1_ := Aside0.mk (Kd.S_mono (Kd.S_keep (IsS73.apartS (show IsS73 w0 _ g s0_0 x1001_1 from by repeat (first | (with_reducible first | exact HI0.out | apply IsS73.alloc | apply IsS73.drewN | apply IsS73.drew | apply IsS73.set_1 | refine IsS73.far ?_ NB0_160.out _ | refine IsS73.far ?_ NB0_166.out _) | exact HI0.out)) (sz HO_167002) (by decide)) hk (fun _ h => h.2)) (fun _ h => h.1)); have n2_ := Aside0.mk (KeepBut.blk hk (bz BK160) NB160_0.out (by simp)); have n3_ := Aside0.mk (KeepBut.blk hk (bz BK166) NB166_0.out (by simp)); have n4_ := Aside0.mk (Kd.S_mono (Kd.S_keep (IsS73.apartS (show IsS73 w0 _ g s0_0 x1001_1 from by repeat (first | (with_reducible first | exact HI0.out | apply IsS73.alloc | apply IsS73.drewN | apply IsS73.drew | apply IsS73.set_1 | refine IsS73.far ?_ NB0_160.out _ | refine IsS73.far ?_ NB0_166.out _) | exact HI0.out)) (sz HO171) (by decide)) hk (fun _ h => h.2)) (fun _ h => h.1)); have n5_ := Aside0.mk (KeepBut.trans (by repeat (first | (with_reducible first | exact HK.out | apply KeepBut.set_ | apply keep_drewN | apply keep_drew | apply keep_alloc | refine keep_far ?_ GW160.out _ | refine keep_far ?_ GW166.out _) | exact HK.out)) hk (.inl rfl)); have n6_ := Aside0.mk (hb); have n7_ := Aside0.mk (hi); clear HO_167001 HO_167002 BK160 BK166 HO171 HK HB HI0; have HO_167001 := n0_; have HO_167002 := n1_; have BK160 := n2_; have BK166 := n3_; have HO171 := n4_; have HK := n5_; have HB := n6_; have HI0 := n7_; clear n0_ n1_ n2_ n3_ n4_ n5_ n6_ n7_; (try clear hb); (try clear hb2); (try clear hk); (try clear hi)))
    go_loopg [8, 9] k1 (fun kq v8 v9 w' => ∃ (F_ : Nat → Prop) (x8_2 : List (S35)) (x9_2 : Int) (x1001_2 : Int), v9 = .int .i64 x9_2 ∧ Aside0 (spec_l20Charter.l1 kq a1 (wrap64 (1 + t167)) x7_1 x8_2 x9_2 s0_0 x1001_2 t161 t162 x167002_1 = some (r1, r2, r3, r4)) ∧ Aside0 (kq ≤ k1) ∧ Aside0 (Kd.S k35 35 w' w.heap.size (fun k_ => F_ k_) v8 x8_2) ∧ Aside0 (Kd.R (Kd.int .i64) 3 w' w.heap.size (fun _ => True) (.slice Ao7 t162.length co7) t162) ∧ Aside0 (Kd.S (Kd.slice 35 k35) 32 w' w.heap.size (fun k_ => some k_ ≠ (v8 : Value).ownBlock ∧ ¬ F_ k_) u167002 x167002_1) ∧ Aside0 (w'.heap[gb160]? = some (.cells #[.int .i64 0, (.slice none 0 0), (.slice none 0 0)] 28 (0, 0))) ∧ Aside0 (w'.heap[gb166]? = some (.cells #[.int .i64 t161, (.slice Ao7 t162.length co7), u167002] 28 (0, 0))) ∧ Aside0 (IsS73 w0 w' g s0_0 x1001_2) ∧ Aside0 (KeepBut w w' g none) ∧ Aside0 (Below w0.heap.size w0 w'))
    case atStart => exact ⟨(fun k_ => N_ ≤ k_), (y169), (wrap64 (1 + t172)), (t173), (by first | rfl | (simp; done) | (simp [*]; done)), H', ⟨Nat.le_refl _⟩, ⟨by (with_reducible repeat (first | apply Kd.S_alloc | apply Kd.S_drewN | apply Kd.S_drew)); exact Kd.S_mono HO171.out (fun z_ hk => hk.2)⟩, ⟨rz HO_167001⟩, ⟨by (with_reducible repeat (first | apply Kd.S_alloc | apply Kd.S_drewN | apply Kd.S_drew)); exact Kd.S_mono HO_167002.out (fun z_ hk => ⟨hk.1.2, Nat.not_le.2 hk.2⟩)⟩, ⟨bz BK160⟩, ⟨bz BK166⟩, ⟨by repeat (first | (with_reducible first | exact HI0.out | apply IsS73.alloc | apply IsS73.drewN | apply IsS73.drew | apply IsS73.set_1 | refine IsS73.far ?_ NB0_160.out _ | refine IsS73.far ?_ NB0_166.out _) | exact HI0.out)⟩, ⟨by repeat (first | (with_reducible first | exact HK.out | apply KeepBut.set_ | apply keep_drewN | apply keep_drew | apply keep_alloc | refine keep_far ?_ GW160.out _ | refine keep_far ?_ GW166.out _) | exact HK.out)⟩, ⟨by repeat (first | (with_reducible first | exact HB.out | apply below_alloc | apply pw_below_drewN | apply below_drew1 | refine below_set ?_ (IsS73.ge HI0.out) | refine below_set ?_ GE160.out | refine below_set ?_ GE166.out) | exact HB.out)⟩⟩
    case round =>
     clear H'
     try clear c1
     try clear c2
     try clear p2
     try clear c4
     try clear p6
     try clear c9
     try clear c10
     try clear c13
     try clear c13b0
     try clear hcz11_0
     try clear hcz11_1
     try clear hcz11_2
     try clear hfz11_0
     try clear hfz11_1
     try clear hfz11_2
     try clear p2
     try clear p6
     obtain ⟨F_, x8_2, x9_2, x1001_2, rfl, HA, HK2, HO_8, HO_167001, HO_167002, BK160, BK166, HI0, HK, HB⟩ := hrel
     cases gk with
     | zero => exact absurd HA.out (by simp [spec_l20Charter.l1])
     | succ k2 =>
      have H := HA.out
      clear HA
      simp only [spec_l20Charter.l1] at H
      by_cases c18 : x9_2 > 0
      ·rw [if_pos c18] at H
       have c18b0 : decide (0 < x9_2) = true := decide_eq_true c18
       clear c18
       replace H := Option.bind_eq_some_iff.mp H
       obtain ⟨⟨t174, t177⟩, A190, H⟩ := H
       replace H : (if x8_2.length < 3518437208883 then (spec_l20Charter.l1 k2 a1 (wrap64 (1 + t167)) x7_1 (x8_2 ++ [(⟨t174, (-1), 0⟩ : S35)]) (wrap64 (x9_2 - 1)) s0_0 t177 t161 t162 x167002_1) else (none)) = some (r1, r2, r3, r4) := H
       have A19 := Aside0.mk A190
       clear A190
       by_cases c20 : x8_2.length < 3518437208883
       ·rw [if_pos c20] at H
        have LMc20 := Aside0.mk c20
        clear c20
        obtain ⟨y178, hy178⟩ : ∃ y_ : List (S35), y_ = (x8_2 ++ [(⟨t174, (-1), 0⟩ : S35)]) := ⟨_, rfl⟩
        replace H : (spec_l20Charter.l1 k2 a1 (wrap64 (1 + t167)) x7_1 y178 (wrap64 (x9_2 - 1)) s0_0 t177 t161 t162 x167002_1) = some (r1, r2, r3, r4) := by first | (rw [hy178]; with_reducible exact H) | (have H2_ := (Option.bind_some _ _).symm.trans H; rw [hy178]; with_reducible exact H2_) | (have H2_ := (Option.bind_some _ _).symm.trans H; with_reducible exact H2_) | with_reducible exact H | (rw [hy178]; exact H) | exact H
        have Ny178 := Aside0.mk hy178
        clear hy178
        have H' := Aside0.mk H
        clear H
        have hnb21 := NB166_160.out
        have hnc21 := NB160_166.out
        have hnb22 := NB166_0.out
        have hnc22 := NB0_166.out
        have hcz23_0 := cz0 BK166
        have hcz23_1 := cz1 BK166
        have hcz23_2 := cz2 BK166
        have hfz23_0 := blk_frozen BK166.out 0
        have hfz23_1 := blk_frozen BK166.out 1
        have hfz23_2 := blk_frozen BK166.out 2
        go_wp2_with (first | ((with_reducible refine gate_callee (f := 45) rfl ?_); refine goesL_ (some 36) rfl rfl Try.func45 kr rfl #[.pointer (some ⟨g, 0, none⟩), .agg #[.int .i64 t161, .slice Ao7 t162.length co7]] rfl lm ?_; (with_reducible refine (spec_l20Atom.calls k2 g s0_0 x1001_2 t161 _ _ t162 t174 t177 w0 _ ?side1 ?side2 ?side3 ?side4 ?side5 A19.out).mono ?_); (case side1 => repeat (first | (with_reducible first | exact HI0.out | apply IsS73.alloc | apply IsS73.drewN | apply IsS73.drew | apply IsS73.set_1 | refine IsS73.far ?_ NB0_160.out _ | refine IsS73.far ?_ NB0_166.out _) | exact HI0.out)); (case side2 => repeat (first | (with_reducible first | exact HB.out | apply below_alloc | apply pw_below_drewN | apply below_drew1 | refine below_set ?_ (IsS73.ge HI0.out) | refine below_set ?_ GE160.out | refine below_set ?_ GE166.out) | exact HB.out)); (case side3 => repeat (first | exact (Kd.R_reads' HO_167001.out).2.2 | (with_reducible refine Kd.C_alloc ?_ _) | (with_reducible refine Kd.C_drewN ?_ _) | (with_reducible refine Kd.C_drew ?_))); (case side4 => exact (Kd.R_reads' HO_167001.out).2.1); (case side5 => exact far_slice (IsS73.own_ne HI0.out HO_167001.out (by decide))); rintro e w24 ⟨v175, rfl, ho0, hi, hb, hk⟩; refine ⟨_, rfl, ?_⟩; obtain ⟨N2_, hN2_⟩ := R_num ho0; have HNb_ := Aside0.mk (show ∀ k_, (v175 : Value).ownBlock = some k_ → N2_ ≤ k_ from fun k_ e_ => hN2_ ▸ Kd.R_base ho0 k_ e_); have HNs_ := Aside0.mk (show N2_ ≤ w24.heap.size from hN2_ ▸ hk.1); have n0_ := Aside0.mk (Kd.S_mono (Kd.S_told (Kd.S_oldK (IsS73.apartS (show IsS73 w0 _ g s0_0 x1001_2 from by repeat (first | (with_reducible first | exact HI0.out | apply IsS73.alloc | apply IsS73.drewN | apply IsS73.drew | apply IsS73.set_1 | refine IsS73.far ?_ NB0_160.out _ | refine IsS73.far ?_ NB0_166.out _) | exact HI0.out)) (sz HO_8) (by decide)) hk) (Kd.R_base ho0)) (fun _ h_ => h_.1)); have n1_ := Aside0.mk (Kd.R_mono (Kd.R_keep (IsS73.apart (show IsS73 w0 _ g s0_0 x1001_2 from by repeat (first | (with_reducible first | exact HI0.out | apply IsS73.alloc | apply IsS73.drewN | apply IsS73.drew | apply IsS73.set_1 | refine IsS73.far ?_ NB0_160.out _ | refine IsS73.far ?_ NB0_166.out _) | exact HI0.out)) (rz HO_167001) (by decide)) hk (fun _ h => h.2)) (fun _ h => h.1)); have n2_ := Aside0.mk (S_ltN (Kd.S_told (Kd.S_oldK (IsS73.apartS (show IsS73 w0 _ g s0_0 x1001_2 from by repeat (first | (with_reducible first | exact HI0.out | apply IsS73.alloc | apply IsS73.drewN | apply IsS73.drew | apply IsS73.set_1 | refine IsS73.far ?_ NB0_160.out _ | refine IsS73.far ?_ NB0_166.out _) | exact HI0.out)) (sz HO_167002) (by decide)) hk) (Kd.R_base ho0)) hN2_); have n3_ := Aside0.mk (KeepBut.blk hk (bz BK160) NB160_0.out (by simp)); have n4_ := Aside0.mk (KeepBut.blk hk (bz BK166) NB166_0.out (by simp)); have n5_ := Aside0.mk (Kd.R_lower ho0 (keep_size (w := w) (g := g) (row := none) (by repeat (first | (with_reducible first | exact HK.out | apply KeepBut.set_ | apply keep_drewN | apply keep_drew | apply keep_alloc | refine keep_far ?_ GW160.out _ | refine keep_far ?_ GW166.out _) | exact HK.out)))); have n6_ := Aside0.mk (KeepBut.trans (by repeat (first | (with_reducible first | exact HK.out | apply KeepBut.set_ | apply keep_drewN | apply keep_drew | apply keep_alloc | refine keep_far ?_ GW160.out _ | refine keep_far ?_ GW166.out _) | exact HK.out)) hk (.inl rfl)); have n7_ := Aside0.mk (hb); have n8_ := Aside0.mk (hi); clear hN2_ HO_8 HO_167001 HO_167002 BK160 BK166 HK HB HI0; have HO_8 := n0_; have HO_167001 := n1_; have HO_167002 := n2_; have BK160 := n3_; have BK166 := n4_; have HO176 := n5_; have HK := n6_; have HB := n7_; have HI0 := n8_; clear n0_ n1_ n2_ n3_ n4_ n5_ n6_ n7_ n8_; (try clear hb); (try clear hb2); (try clear hk); (try clear hi); (try clear ho0); obtain ⟨Ao25, co25, eo25⟩ := Kd.R_slice HO176.out; subst eo25) | ((with_reducible refine gate_builtin (b := .append) (xs := #[.tmp 32, .tmp 38]) rfl ?_); at_builtin; refine Kd.S_append k35 w.heap.size rfl (.tmp 32) (.tmp 38) 32 35 (.agg #[(.slice none 0 0), (.int .i64 0), (.int .i64 0)]) 40 rfl Try.underlying32 info35 rfl (by decide) (by omega) u8 x8_2 (⟨t174, (-1), 0⟩ : S35) [.slice Ao25 t174.length co25, .int .i64 (-1), .int .i64 0] (fun k_ => F_ k_ ∨ N2_ ≤ k_) (fun k_ => some k_ = (.slice Ao25 t174.length co25 : Value).ownBlock) rfl rfl ?aP (fun k_ hk_ => ⟨.inr (HNb_.out k_ hk_.symm), (((Kd.R_mono (ok' := fun k_ => ((fun _ => True)) k_ ∧ some k_ ≠ (u8 : Value).ownBlock) (Kd.R_apart' (HO176.out) (Kd.S_typed HO_8.out) (by decide)) (fun k_ hk => ⟨trivial, hk.2⟩))).1 k_ hk_.symm).2⟩) ?aF ?aO (Below.refl _ _) ?aS ?aL ?_; (case aP => exact k35_mkM _ _ _ (⟨t174, (-1), 0⟩ : S35) (Kd.R_mono (Kd.R_tight rfl (Kd.R_mono (ok' := fun k_ => ((fun _ => True)) k_ ∧ some k_ ≠ (u8 : Value).ownBlock) (Kd.R_apart' (HO176.out) (Kd.S_typed HO_8.out) (by decide)) (fun k_ hk => ⟨trivial, hk.2⟩))) (fun _ h_ => h_))); (case aF => exact (fun k_ h_ => .inr (Nat.le_trans HNs_.out h_))); (case aO => exact (by (with_reducible repeat (first | apply Kd.S_alloc | apply Kd.S_drewN | apply Kd.S_drew)); exact Kd.S_mono HO_8.out (fun k_ hk => ⟨.inl hk.1, fun e_ => hk.2 e_⟩))); (case aS => exact (keep_size (w := w) (g := g) (row := none) (by repeat (first | (with_reducible first | exact HK.out | apply KeepBut.set_ | apply keep_drewN | apply keep_drew | apply keep_alloc | refine keep_far ?_ GW160.out _ | refine keep_far ?_ GW166.out _) | exact HK.out)))); (case aL => have := LMc20.out; omega); intro v179 w26 ho hb hg hat; rw [← Ny178.out] at ho; have n0_ := Aside0.mk (Kd.R_over' (rz HO_167001) (Kd.S_typed (sz HO_8)) (by decide) hg); have n1_ := Aside0.mk (Kd.S_after (ok := (fun k_ => ¬ (F_ k_ ∨ N2_ ≤ k_))) (by (with_reducible repeat (first | apply Kd.S_alloc | apply Kd.S_drewN | apply Kd.S_drew)); exact Kd.S_mono HO_167002.out (fun k_ hk => ⟨fun h_ => h_.elim hk.1.1.2 (Nat.not_le.2 hk.2), hk.1.1.1⟩)) hg hat); have n2_ := Aside0.mk (blk_grown (bz BK160) hg (Kd.S_ne HO_8.out BK160.out (by decide))); have n3_ := Aside0.mk (blk_grown (bz BK166) hg (Kd.S_ne HO_8.out BK166.out (by decide))); have n4_ := Aside0.mk (IsS73.grown ((show IsS73 w0 _ g s0_0 t177 from by repeat (first | (with_reducible first | exact HI0.out | apply IsS73.alloc | apply IsS73.drewN | apply IsS73.drew | apply IsS73.set_1 | refine IsS73.far ?_ NB0_160.out _ | refine IsS73.far ?_ NB0_166.out _) | exact HI0.out))) hg (IsS73.own_neS HI0.out HO_8.out (by decide))); have n5_ := Aside0.mk (below_weaken (by repeat (first | (with_reducible first | exact HB.out | apply below_alloc | apply pw_below_drewN | apply below_drew1 | refine below_set ?_ (IsS73.ge HI0.out) | refine below_set ?_ GE160.out | refine below_set ?_ GE166.out) | exact HB.out)) HL.out hb); have n6_ := Aside0.mk (KeepBut.trans (by repeat (first | (with_reducible first | exact HK.out | apply KeepBut.set_ | apply keep_drewN | apply keep_drew | apply keep_alloc | refine keep_far ?_ GW160.out _ | refine keep_far ?_ GW166.out _) | exact HK.out)) (KeepBut.of_grown hg g) (Kd.S_base2 HO_8.out)); have n7_ := Aside0.mk (ho); clear HO_167001 HO_167002 BK160 BK166 HI0 HB HK HO_8 HO176; have HO_167001 := n0_; have HO_167002 := n1_; have BK160 := n2_; have BK166 := n3_; have HI0 := n4_; have HB := n5_; have HK := n6_; have HO180 := n7_; clear n0_ n1_ n2_ n3_ n4_ n5_ n6_ n7_ ho hb hg hat))
        go_roundg k2
        case measure => have := HK1.out; have := HK2.out; omega
        case rel => exact ⟨(fun k_ => F_ k_ ∨ N2_ ≤ k_), (y178), (wrap64 (x9_2 - 1)), (t177), (by first | rfl | (simp; done) | (simp [*]; done)), H', ⟨by have := HK1.out; have := HK2.out; omega⟩, ⟨sz HO180⟩, ⟨rz HO_167001⟩, ⟨by (with_reducible repeat (first | apply Kd.S_alloc | apply Kd.S_drewN | apply Kd.S_drew)); exact Kd.S_mono HO_167002.out (fun z_ hk => ⟨hk.2, hk.1⟩)⟩, ⟨bz BK160⟩, ⟨bz BK166⟩, ⟨by repeat (first | (with_reducible first | exact HI0.out | apply IsS73.alloc | apply IsS73.drewN | apply IsS73.drew | apply IsS73.set_1 | refine IsS73.far ?_ NB0_160.out _ | refine IsS73.far ?_ NB0_166.out _) | exact HI0.out)⟩, ⟨by repeat (first | (with_reducible first | exact HK.out | apply KeepBut.set_ | apply keep_drewN | apply keep_drew | apply keep_alloc | refine keep_far ?_ GW160.out _ | refine keep_far ?_ GW166.out _) | exact HK.out)⟩, ⟨by repeat (first | (with_reducible first | exact HB.out | apply below_alloc | apply pw_below_drewN | apply below_drew1 | refine below_set ?_ (IsS73.ge HI0.out) | refine below_set ?_ GE160.out | refine below_set ?_ GE166.out) | exact HB.out)⟩⟩
       ·rw [if_neg c20] at H
        exact absurd H (by simp)
      ·rw [if_neg c18] at H
       have c18b0 : decide (0 < x9_2) = false := decide_eq_false c18
       clear c18
       by_cases c27 : x167002_1.length < 5864062014805
       ·rw [if_pos c27] at H
        have LMc27 := Aside0.mk c27
        clear c27
        obtain ⟨y181, hy181⟩ : ∃ y_ : List (List (S35)), y_ = (x167002_1 ++ [x8_2]) := ⟨_, rfl⟩
        replace H : (spec_l20Charter.l0 k2 a1 (wrap64 (1 + t167)) (wrap64 (x7_1 + 1)) s0_0 x1001_2 t161 t162 y181) = some (r1, r2, r3, r4) := by first | (rw [hy181]; with_reducible exact H) | (have H2_ := (Option.bind_some _ _).symm.trans H; rw [hy181]; with_reducible exact H2_) | (have H2_ := (Option.bind_some _ _).symm.trans H; with_reducible exact H2_) | with_reducible exact H | (rw [hy181]; exact H) | exact H
        have Ny181 := Aside0.mk hy181
        clear hy181
        have H' := Aside0.mk H
        clear H
        have hnb28 := NB166_160.out
        have hnc28 := NB160_166.out
        have hnb29 := NB166_0.out
        have hnc29 := NB0_166.out
        have hcz30_0 := cz0 BK166
        have hcz30_1 := cz1 BK166
        have hcz30_2 := cz2 BK166
        have hfz30_0 := blk_frozen BK166.out 0
        have hfz30_1 := blk_frozen BK166.out 1
        have hfz30_2 := blk_frozen BK166.out 2
        obtain ⟨Ao32, co32, eo32⟩ := Kd.S_slice HO_8.out
        subst eo32
        go_wp2_with (first | ((with_reducible refine gate_builtin (b := .append) (xs := #[.tmp 41, .tmp 43]) rfl ?_); at_builtin; refine Kd.S_append (Kd.slice 35 k35) w.heap.size rfl (.tmp 41) (.tmp 43) 26 32 (.slice none 0 0) 24 rfl Try.underlying26 info32 rfl (by decide) (by omega) u167002 x167002_1 x8_2 [.slice Ao32 x8_2.length co32] (fun _ => True) (fun k_ => F_ k_) rfl rfl ?aP (fun k_ hk_ => ⟨trivial, fun e_ => ((Kd.S_R HO_167002.out).1 k_ e_.symm).2 hk_⟩) ?aF ?aO (Below.refl _ _) ?aS ?aL ?_; (case aP => exact Kd.M_row (Kd.S_R HO_8.out)); (case aF => exact (fun _ _ => trivial)); (case aO => exact (by (with_reducible repeat (first | apply Kd.S_alloc | apply Kd.S_drewN | apply Kd.S_drew)); exact Kd.S_mono HO_167002.out (fun k_ hk => ⟨trivial, fun e_ => hk.2 e_⟩))); (case aS => exact (keep_size (w := w) (g := g) (row := none) (by repeat (first | (with_reducible first | exact HK.out | apply KeepBut.set_ | apply keep_drewN | apply keep_drew | apply keep_alloc | refine keep_far ?_ GW160.out _ | refine keep_far ?_ GW166.out _) | exact HK.out)))); (case aL => have := LMc27.out; omega); intro v182 w31 ho hb hg hat; rw [← Ny181.out] at ho; have n0_ := Aside0.mk (Kd.R_over' (rz HO_167001) (Kd.S_typed (sz HO_167002)) (by decide) hg); have n1_ := Aside0.mk (blk_grown (bz BK160) hg (Kd.S_ne HO_167002.out BK160.out (by decide))); have n2_ := Aside0.mk (blk_grown (bz BK166) hg (Kd.S_ne HO_167002.out BK166.out (by decide))); have n3_ := Aside0.mk (IsS73.grown ((show IsS73 w0 _ g s0_0 x1001_2 from by repeat (first | (with_reducible first | exact HI0.out | apply IsS73.alloc | apply IsS73.drewN | apply IsS73.drew | apply IsS73.set_1 | refine IsS73.far ?_ NB0_160.out _ | refine IsS73.far ?_ NB0_166.out _) | exact HI0.out))) hg (IsS73.own_neS HI0.out HO_167002.out (by decide))); have n4_ := Aside0.mk (below_weaken (by repeat (first | (with_reducible first | exact HB.out | apply below_alloc | apply pw_below_drewN | apply below_drew1 | refine below_set ?_ (IsS73.ge HI0.out) | refine below_set ?_ GE160.out | refine below_set ?_ GE166.out) | exact HB.out)) HL.out hb); have n5_ := Aside0.mk (KeepBut.trans (by repeat (first | (with_reducible first | exact HK.out | apply KeepBut.set_ | apply keep_drewN | apply keep_drew | apply keep_alloc | refine keep_far ?_ GW160.out _ | refine keep_far ?_ GW166.out _) | exact HK.out)) (KeepBut.of_grown hg g) (Kd.S_base2 HO_167002.out)); have n6_ := Aside0.mk (ho); clear HO_167001 BK160 BK166 HI0 HB HK HO_167002 HO_8; have HO_167001 := n0_; have BK160 := n1_; have BK166 := n2_; have HI0 := n3_; have HB := n4_; have HK := n5_; have HO183 := n6_; clear n0_ n1_ n2_ n3_ n4_ n5_ n6_ ho hb hg hat; obtain ⟨Ao33, co33, eo33⟩ := Kd.S_slice HO183.out; subst eo33; have hcz34_0 := cz0 BK166; have hcz34_1 := cz1 BK166; have hcz34_2 := cz2 BK166; have hfz34_0 := blk_frozen BK166.out 0; have hfz34_1 := blk_frozen BK166.out 1; have hfz34_2 := blk_frozen BK166.out 2))
        go_roundg k2
        case measure => have := HK1.out; have := HK2.out; omega
        case rel => exact ⟨(wrap64 (x7_1 + 1)), (x1001_2), (y181), (.slice Ao33 y181.length co33), (by first | rfl | (simp; done) | (simp [*]; done)), H', ⟨by have := HK1.out; have := HK2.out; omega⟩, ⟨gR HO_167001 BK166⟩, ⟨gS HO183 BK166⟩, ⟨bf NB160_166 BK160⟩, ⟨bp BK166⟩, ⟨by repeat (first | (with_reducible first | exact HI0.out | apply IsS73.alloc | apply IsS73.drewN | apply IsS73.drew | apply IsS73.set_1 | refine IsS73.far ?_ NB0_160.out _ | refine IsS73.far ?_ NB0_166.out _) | exact HI0.out)⟩, ⟨by repeat (first | (with_reducible first | exact HK.out | apply KeepBut.set_ | apply keep_drewN | apply keep_drew | apply keep_alloc | refine keep_far ?_ GW160.out _ | refine keep_far ?_ GW166.out _) | exact HK.out)⟩, ⟨by repeat (first | (with_reducible first | exact HB.out | apply below_alloc | apply pw_below_drewN | apply below_drew1 | refine below_set ?_ (IsS73.ge HI0.out) | refine below_set ?_ GE160.out | refine below_set ?_ GE166.out) | exact HB.out)⟩⟩
       ·rw [if_neg c27] at H
        exact absurd H (by simp)
   ·rw [if_neg c13] at H
    have c13b0 : decide (x7_1 < (wrap64 (1 + t167))) = false := decide_eq_false c13
    clear c13
    have H' := Aside0.mk H
    clear H
    go_wp2
    go_loopg [10] k1 (fun kq v10 w' => ∃ (x10_2 : Int) (x1001_2 : Int) (x167002_2 : List (List (S35))) (u167002 : Value), v10 = .int .i64 x10_2 ∧ Aside0 (spec_l20Charter.l2 kq a1 (wrap64 (1 + t167)) x10_2 s0_0 x1001_2 t161 t162 x167002_2 = some (r1, r2, r3, r4)) ∧ Aside0 (kq ≤ k1) ∧ Aside0 (Kd.R (Kd.int .i64) 3 w' w.heap.size (fun _ => True) (.slice Ao7 t162.length co7) t162) ∧ Aside0 (Kd.S (Kd.slice 35 k35) 32 w' w.heap.size (fun _ => True) u167002 x167002_2) ∧ Aside0 (w'.heap[gb160]? = some (.cells #[.int .i64 0, (.slice none 0 0), (.slice none 0 0)] 28 (0, 0))) ∧ Aside0 (w'.heap[gb166]? = some (.cells #[.int .i64 t161, (.slice Ao7 t162.length co7), u167002] 28 (0, 0))) ∧ Aside0 (IsS73 w0 w' g s0_0 x1001_2) ∧ Aside0 (KeepBut w w' g none) ∧ Aside0 (Below w0.heap.size w0 w'))
    case atStart => exact ⟨(0), (x1001_1), (x167002_1), (u167002), (by first | rfl | (simp; done) | (simp [*]; done)), H', ⟨Nat.le_refl _⟩, ⟨rz HO_167001⟩, ⟨sz HO_167002⟩, ⟨bz BK160⟩, ⟨bz BK166⟩, ⟨by repeat (first | (with_reducible first | exact HI0.out | apply IsS73.alloc | apply IsS73.drewN | apply IsS73.drew | apply IsS73.set_1 | refine IsS73.far ?_ NB0_160.out _ | refine IsS73.far ?_ NB0_166.out _) | exact HI0.out)⟩, ⟨by repeat (first | (with_reducible first | exact HK.out | apply KeepBut.set_ | apply keep_drewN | apply keep_drew | apply keep_alloc | refine keep_far ?_ GW160.out _ | refine keep_far ?_ GW166.out _) | exact HK.out)⟩, ⟨by repeat (first | (with_reducible first | exact HB.out | apply below_alloc | apply pw_below_drewN | apply below_drew1 | refine below_set ?_ (IsS73.ge HI0.out) | refine below_set ?_ GE160.out | refine below_set ?_ GE166.out) | exact HB.out)⟩⟩
    case round =>
     clear H'
     try clear c1
     try clear c2
     try clear p2
     try clear c4
     try clear p6
     try clear c9
     try clear c10
     try clear c13
     try clear c13b0
     try clear c18
     try clear c18b0
     try clear c20
     try clear c21
     try clear c22
     try clear c26
     try clear c27
     try clear c28
     try clear c29
     try clear hcz11_0
     try clear hcz11_1
     try clear hcz11_2
     try clear hcz23_0
     try clear hcz23_1
     try clear hcz23_2
     try clear hcz30_0
     try clear hcz30_1
     try clear hcz30_2
     try clear hcz34_0
     try clear hcz34_1
     try clear hcz34_2
     try clear hfz11_0
     try clear hfz11_1
     try clear hfz11_2
     try clear hfz23_0
     try clear hfz23_1
     try clear hfz23_2
     try clear hfz30_0
     try clear hfz30_1
     try clear hfz30_2
     try clear hfz34_0
     try clear hfz34_1
     try clear hfz34_2
     try clear p2
     try clear p6
     obtain ⟨x10_2, x1001_2, x167002_2, u167002, rfl, HA, HK2, HO_167001, HO_167002, BK160, BK166, HI0, HK, HB⟩ := hrel
     cases gk with
     | zero => exact absurd HA.out (by simp [spec_l20Charter.l2])
     | succ k2 =>
      have H := HA.out
      clear HA
      simp only [spec_l20Charter.l2] at H
      have HC35 := Aside0.mk H
      clear H
      go_upto_region 13 with (fail)
      go_cut [52] (fun v52 wc => ∃ (kq : Nat) (x52_34 : Bool), v52 = .bool x52_34 ∧ Aside0 (spec_l20Charter.j3 kq a1 (wrap64 (1 + t167)) x10_2 x52_34 s0_0 x1001_2 t161 t162 x167002_2 = some (r1, r2, r3, r4)) ∧ Aside0 (kq ≤ k2) ∧ Aside0 (Kd.R (Kd.int .i64) 3 wc w.heap.size (fun _ => True) (.slice Ao7 t162.length co7) t162) ∧ Aside0 (Kd.S (Kd.slice 35 k35) 32 wc w.heap.size (fun _ => True) u167002 x167002_2) ∧ Aside0 (wc.heap[gb160]? = some (.cells #[.int .i64 0, (.slice none 0 0), (.slice none 0 0)] 28 (0, 0))) ∧ Aside0 (wc.heap[gb166]? = some (.cells #[.int .i64 t161, (.slice Ao7 t162.length co7), u167002] 28 (0, 0))) ∧ Aside0 (IsS73 w0 wc g s0_0 x1001_2) ∧ Aside0 (KeepBut w wc g none) ∧ Aside0 (Below w0.heap.size w0 wc))
      case first =>
       have H := HC35.out
       clear HC35
       by_cases c36 : x10_2 < (wrap64 (1 + t167))
       ·rw [if_pos c36] at H
        have c36b0 : decide (x10_2 < (wrap64 (1 + t167))) = true := decide_eq_true c36
        clear c36
        (first | rw [c36b0] | (simp only [i64_w, i32_w]; rw [c36b0]) | skip)
        have H' := Aside0.mk H
        clear H
        go_wp2
        go_meet
        case rel => exact ⟨_, (decide ((wrap64 (1 + t167)) > 1)), (by first | rfl | (simp; done) | (simp [*]; done)), H', ⟨by have := HK1.out; have := HK2.out; first | omega | exact Nat.le_refl _⟩, ⟨rz HO_167001⟩, ⟨sz HO_167002⟩, ⟨bz BK160⟩, ⟨bz BK166⟩, ⟨by repeat (first | (with_reducible first | exact HI0.out | apply IsS73.alloc | apply IsS73.drewN | apply IsS73.drew | apply IsS73.set_1 | refine IsS73.far ?_ NB0_160.out _ | refine IsS73.far ?_ NB0_166.out _) | exact HI0.out)⟩, ⟨by repeat (first | (with_reducible first | exact HK.out | apply KeepBut.set_ | apply keep_drewN | apply keep_drew | apply keep_alloc | refine keep_far ?_ GW160.out _ | refine keep_far ?_ GW166.out _) | exact HK.out)⟩, ⟨by repeat (first | (with_reducible first | exact HB.out | apply below_alloc | apply pw_below_drewN | apply below_drew1 | refine below_set ?_ (IsS73.ge HI0.out) | refine below_set ?_ GE160.out | refine below_set ?_ GE166.out) | exact HB.out)⟩⟩
       ·rw [if_neg c36] at H
        have c36b0 : decide (x10_2 < (wrap64 (1 + t167))) = false := decide_eq_false c36
        clear c36
        (first | rw [c36b0] | (simp only [i64_w, i32_w]; rw [c36b0]) | skip)
        have H' := Aside0.mk H
        clear H
        go_wp2
        go_meet
        case rel => exact ⟨_, (false), (by first | rfl | (simp; done) | (simp [*]; done)), H', ⟨by have := HK1.out; have := HK2.out; first | omega | exact Nat.le_refl _⟩, ⟨rz HO_167001⟩, ⟨sz HO_167002⟩, ⟨bz BK160⟩, ⟨bz BK166⟩, ⟨by repeat (first | (with_reducible first | exact HI0.out | apply IsS73.alloc | apply IsS73.drewN | apply IsS73.drew | apply IsS73.set_1 | refine IsS73.far ?_ NB0_160.out _ | refine IsS73.far ?_ NB0_166.out _) | exact HI0.out)⟩, ⟨by repeat (first | (with_reducible first | exact HK.out | apply KeepBut.set_ | apply keep_drewN | apply keep_drew | apply keep_alloc | refine keep_far ?_ GW160.out _ | refine keep_far ?_ GW166.out _) | exact HK.out)⟩, ⟨by repeat (first | (with_reducible first | exact HB.out | apply below_alloc | apply pw_below_drewN | apply below_drew1 | refine below_set ?_ (IsS73.ge HI0.out) | refine below_set ?_ GE160.out | refine below_set ?_ GE166.out) | exact HB.out)⟩⟩
      case rest =>
       clear HC35
       try clear c1
       try clear c2
       try clear p2
       try clear c3
       try clear c4
       try clear p6
       try clear c9
       try clear c10
       try clear c13
       try clear c13b0
       try clear c18
       try clear c18b0
       try clear c20
       try clear c21
       try clear c22
       try clear c26
       try clear c27
       try clear c28
       try clear c29
       try clear c36
       try clear c36b0
       try clear hcz11_0
       try clear hcz11_1
       try clear hcz11_2
       try clear hcz23_0
       try clear hcz23_1
       try clear hcz23_2
       try clear hcz30_0
       try clear hcz30_1
       try clear hcz30_2
       try clear hcz34_0
       try clear hcz34_1
       try clear hcz34_2
       try clear hfz11_0
       try clear hfz11_1
       try clear hfz11_2
       try clear hfz23_0
       try clear hfz23_1
       try clear hfz23_2
       try clear hfz30_0
       try clear hfz30_1
       try clear hfz30_2
       try clear hfz34_0
       try clear hfz34_1
       try clear hfz34_2
       try clear p2
       try clear p6
       obtain ⟨kq, x52_34, rfl, HA, HJ34, HO_167001, HO_167002, BK160, BK166, HI0, HK, HB⟩ := hcut
       cases kq with
       | zero => exact absurd HA.out (by simp [spec_l20Charter.j3])
       | succ kj34 =>
        have H := HA.out
        clear HA
        simp only [spec_l20Charter.j3] at H
        by_cases c37 : x52_34 = true
        ·subst c37
         have H1 : (spec_l20Charter.l3 kj34 a1 (wrap64 (1 + t167)) x10_2 0 s0_0 x1001_2 t161 t162 x167002_2) = some (r1, r2, r3, r4) := by rw [if_pos rfl] at H; exact H
         clear H
         have H := H1
         clear H1
         have H' := Aside0.mk H
         clear H
         go_wp2
         go_loopg [11] kj34 (fun kq v11 w' => ∃ (x11_4 : Int) (x1001_4 : Int) (x167002_4 : List (List (S35))) (u167002 : Value), v11 = .int .i64 x11_4 ∧ Aside0 (spec_l20Charter.l3 kq a1 (wrap64 (1 + t167)) x10_2 x11_4 s0_0 x1001_4 t161 t162 x167002_4 = some (r1, r2, r3, r4)) ∧ Aside0 (kq ≤ kj34) ∧ Aside0 (Kd.R (Kd.int .i64) 3 w' w.heap.size (fun _ => True) (.slice Ao7 t162.length co7) t162) ∧ Aside0 (Kd.S (Kd.slice 35 k35) 32 w' w.heap.size (fun _ => True) u167002 x167002_4) ∧ Aside0 (w'.heap[gb160]? = some (.cells #[.int .i64 0, (.slice none 0 0), (.slice none 0 0)] 28 (0, 0))) ∧ Aside0 (w'.heap[gb166]? = some (.cells #[.int .i64 t161, (.slice Ao7 t162.length co7), u167002] 28 (0, 0))) ∧ Aside0 (IsS73 w0 w' g s0_0 x1001_4) ∧ Aside0 (KeepBut w w' g none) ∧ Aside0 (Below w0.heap.size w0 w'))
         case atStart => exact ⟨(0), (x1001_2), (x167002_2), (u167002), (by first | rfl | (simp; done) | (simp [*]; done)), H', ⟨Nat.le_refl _⟩, ⟨rz HO_167001⟩, ⟨sz HO_167002⟩, ⟨bz BK160⟩, ⟨bz BK166⟩, ⟨by repeat (first | (with_reducible first | exact HI0.out | apply IsS73.alloc | apply IsS73.drewN | apply IsS73.drew | apply IsS73.set_1 | refine IsS73.far ?_ NB0_160.out _ | refine IsS73.far ?_ NB0_166.out _) | exact HI0.out)⟩, ⟨by repeat (first | (with_reducible first | exact HK.out | apply KeepBut.set_ | apply keep_drewN | apply keep_drew | apply keep_alloc | refine keep_far ?_ GW160.out _ | refine keep_far ?_ GW166.out _) | exact HK.out)⟩, ⟨by repeat (first | (with_reducible first | exact HB.out | apply below_alloc | apply pw_below_drewN | apply below_drew1 | refine below_set ?_ (IsS73.ge HI0.out) | refine below_set ?_ GE160.out | refine below_set ?_ GE166.out) | exact HB.out)⟩⟩
         case round =>
          clear H'
          try clear c1
          try clear c2
          try clear p2
          try clear c3
          try clear c4
          try clear p6
          try clear c9
          try clear c10
          try clear c13
          try clear c13b0
          try clear c18
          try clear c18b0
          try clear c20
          try clear c21
          try clear c22
          try clear c26
          try clear c27
          try clear c28
          try clear c29
          try clear c36
          try clear c36b0
          try clear c37
          try clear hcz11_0
          try clear hcz11_1
          try clear hcz11_2
          try clear hcz23_0
          try clear hcz23_1
          try clear hcz23_2
          try clear hcz30_0
          try clear hcz30_1
          try clear hcz30_2
          try clear hcz34_0
          try clear hcz34_1
          try clear hcz34_2
          try clear hfz11_0
          try clear hfz11_1
          try clear hfz11_2
          try clear hfz23_0
          try clear hfz23_1
          try clear hfz23_2
          try clear hfz30_0
          try clear hfz30_1
          try clear hfz30_2
          try clear hfz34_0
          try clear hfz34_1
          try clear hfz34_2
          try clear p2
          try clear p6
          obtain ⟨x11_4, x1001_4, x167002_4, u167002, rfl, HA, HK4, HO_167001, HO_167002, BK160, BK166, HI0, HK, HB⟩ := hrel
          cases gk with
          | zero => exact absurd HA.out (by simp [spec_l20Charter.l3])
          | succ k4 =>
           have H := HA.out
           clear HA
           simp only [spec_l20Charter.l3] at H
           by_cases c38 : 0 ≤ x10_2
           ·rw [if_pos c38] at H
            have c38b0 : decide (0 ≤ x10_2) = true := decide_eq_true c38
            clear c38
            by_cases c39 : x10_2 < (x167002_4.length : Int)
            ·rw [if_pos c39] at H
             have c39b0 : decide (x10_2 < (x167002_4.length : Int)) = true := decide_eq_true c39
             clear c39
             by_cases c40 : x11_4 < ((rd_L5 x167002_4 x10_2).length : Int)
             ·rw [if_pos c40] at H
              have c40b0 : decide (x11_4 < ((rd_L5 x167002_4 x10_2).length : Int)) = true := decide_eq_true c40
              clear c40
              replace H := Option.bind_eq_some_iff.mp H
              obtain ⟨⟨t185, t186⟩, A410, H⟩ := H
              replace H : (if (wrap64 (1 + t167)) = 0 then (none) else ((spec_l20Rd_pick.f k4 s0_0 t186 3).bind fun bt187 => (if bt187.1 = 0 then (if 0 ≤ x11_4 then ((some (x167002_4.set (x10_2 : Int).toNat ((rd_L5 x167002_4 x10_2).set (x11_4 : Int).toNat (⟨(rd_T35 (rd_L5 x167002_4 x10_2) x11_4).f0, Int.tmod (wrap64 ((wrap64 (x10_2 + 1)) + t185)) (wrap64 (1 + t167)), (rd_T35 (rd_L5 x167002_4 x10_2) x11_4).f2⟩ : S35)) : List (List (S35)))).bind fun y192 => (if 0 ≤ (Int.tmod (wrap64 ((wrap64 (x10_2 + 1)) + t185)) (wrap64 (1 + t167))) then (if (Int.tmod (wrap64 ((wrap64 (x10_2 + 1)) + t185)) (wrap64 (1 + t167))) < (x167002_4.length : Int) then ((spec_l20Rd_pick.f k4 s0_0 bt187.2 ((rd_L5 y192 (Int.tmod (wrap64 ((wrap64 (x10_2 + 1)) + t185)) (wrap64 (1 + t167)))).length : Int)).bind fun bt195 => (if x11_4 < ((rd_L5 y192 x10_2).length : Int) then (spec_l20Charter.l3 k4 a1 (wrap64 (1 + t167)) x10_2 (wrap64 (x11_4 + 1)) s0_0 bt195.2 t161 t162 (y192.set (x10_2 : Int).toNat ((rd_L5 y192 x10_2).set (x11_4 : Int).toNat (⟨(rd_T35 (rd_L5 y192 x10_2) x11_4).f0, (rd_T35 (rd_L5 y192 x10_2) x11_4).f1, bt195.1⟩ : S35)))) else (none))) else (none)) else (none))) else (none)) else (spec_l20Charter.l3 k4 a1 (wrap64 (1 + t167)) x10_2 (wrap64 (x11_4 + 1)) s0_0 bt187.2 t161 t162 x167002_4)))) = some (r1, r2, r3, r4) := H
              have A41 := Aside0.mk A410
              clear A410
              by_cases c42 : (wrap64 (1 + t167)) = 0
              ·rw [if_pos c42] at H
               exact absurd H (by simp)
              ·rw [if_neg c42] at H
               have c42b0 : ((wrap64 (1 + t167)) == 0) = false := beq_eq_false_iff_ne.mpr c42
               have c42b1 : ((wrap64 (1 + t167)) != 0) = true := bne_iff_ne.mpr c42
               replace H := Option.bind_eq_some_iff.mp H
               obtain ⟨⟨t187, t188⟩, A430, H⟩ := H
               replace H : (if t187 = 0 then (if 0 ≤ x11_4 then ((some (x167002_4.set (x10_2 : Int).toNat ((rd_L5 x167002_4 x10_2).set (x11_4 : Int).toNat (⟨(rd_T35 (rd_L5 x167002_4 x10_2) x11_4).f0, Int.tmod (wrap64 ((wrap64 (x10_2 + 1)) + t185)) (wrap64 (1 + t167)), (rd_T35 (rd_L5 x167002_4 x10_2) x11_4).f2⟩ : S35)) : List (List (S35)))).bind fun y192 => (if 0 ≤ (Int.tmod (wrap64 ((wrap64 (x10_2 + 1)) + t185)) (wrap64 (1 + t167))) then (if (Int.tmod (wrap64 ((wrap64 (x10_2 + 1)) + t185)) (wrap64 (1 + t167))) < (x167002_4.length : Int) then ((spec_l20Rd_pick.f k4 s0_0 t188 ((rd_L5 y192 (Int.tmod (wrap64 ((wrap64 (x10_2 + 1)) + t185)) (wrap64 (1 + t167)))).length : Int)).bind fun bt195 => (if x11_4 < ((rd_L5 y192 x10_2).length : Int) then (spec_l20Charter.l3 k4 a1 (wrap64 (1 + t167)) x10_2 (wrap64 (x11_4 + 1)) s0_0 bt195.2 t161 t162 (y192.set (x10_2 : Int).toNat ((rd_L5 y192 x10_2).set (x11_4 : Int).toNat (⟨(rd_T35 (rd_L5 y192 x10_2) x11_4).f0, (rd_T35 (rd_L5 y192 x10_2) x11_4).f1, bt195.1⟩ : S35)))) else (none))) else (none)) else (none))) else (none)) else (spec_l20Charter.l3 k4 a1 (wrap64 (1 + t167)) x10_2 (wrap64 (x11_4 + 1)) s0_0 t188 t161 t162 x167002_4)) = some (r1, r2, r3, r4) := H
               have A43 := Aside0.mk A430
               clear A430
               by_cases c44 : t187 = 0
               ·rw [if_pos c44] at H
                have c44b0 : (t187 == 0) = true := beq_iff_eq.mpr c44
                have c44b1 : (t187 != 0) = false := bne_eq_false_iff_eq.mpr c44
                clear c44
                by_cases c45 : 0 ≤ x11_4
                ·rw [if_pos c45] at H
                 have c45b0 : decide (0 ≤ x11_4) = true := decide_eq_true c45
                 clear c45
                 obtain ⟨y190, hy190⟩ : ∃ y_ : List (S35), y_ = ((rd_L5 x167002_4 x10_2).set (x11_4 : Int).toNat (⟨(rd_T35 (rd_L5 x167002_4 x10_2) x11_4).f0, Int.tmod (wrap64 ((wrap64 (x10_2 + 1)) + t185)) (wrap64 (1 + t167)), (rd_T35 (rd_L5 x167002_4 x10_2) x11_4).f2⟩ : S35)) := ⟨_, rfl⟩
                 replace H : ((some (x167002_4.set (x10_2 : Int).toNat y190 : List (List (S35)))).bind fun y192 => (if 0 ≤ (Int.tmod (wrap64 ((wrap64 (x10_2 + 1)) + t185)) (wrap64 (1 + t167))) then (if (Int.tmod (wrap64 ((wrap64 (x10_2 + 1)) + t185)) (wrap64 (1 + t167))) < (x167002_4.length : Int) then ((spec_l20Rd_pick.f k4 s0_0 t188 ((rd_L5 y192 (Int.tmod (wrap64 ((wrap64 (x10_2 + 1)) + t185)) (wrap64 (1 + t167)))).length : Int)).bind fun bt195 => (if x11_4 < ((rd_L5 y192 x10_2).length : Int) then (spec_l20Charter.l3 k4 a1 (wrap64 (1 + t167)) x10_2 (wrap64 (x11_4 + 1)) s0_0 bt195.2 t161 t162 (y192.set (x10_2 : Int).toNat ((rd_L5 y192 x10_2).set (x11_4 : Int).toNat (⟨(rd_T35 (rd_L5 y192 x10_2) x11_4).f0, (rd_T35 (rd_L5 y192 x10_2) x11_4).f1, bt195.1⟩ : S35)))) else (none))) else (none)) else (none))) = some (r1, r2, r3, r4) := by first | (rw [hy190]; with_reducible exact H) | (have H2_ := (Option.bind_some _ _).symm.trans H; rw [hy190]; with_reducible exact H2_) | (have H2_ := (Option.bind_some _ _).symm.trans H; with_reducible exact H2_) | with_reducible exact H | (rw [hy190]; exact H) | exact H
                 have Ny190 := Aside0.mk hy190
                 clear hy190
                 obtain ⟨y192, hy192⟩ : ∃ y_ : List (List (S35)), y_ = (x167002_4.set (x10_2 : Int).toNat y190) := ⟨_, rfl⟩
                 replace H : (if 0 ≤ (Int.tmod (wrap64 ((wrap64 (x10_2 + 1)) + t185)) (wrap64 (1 + t167))) then (if (Int.tmod (wrap64 ((wrap64 (x10_2 + 1)) + t185)) (wrap64 (1 + t167))) < (x167002_4.length : Int) then ((spec_l20Rd_pick.f k4 s0_0 t188 ((rd_L5 y192 (Int.tmod (wrap64 ((wrap64 (x10_2 + 1)) + t185)) (wrap64 (1 + t167)))).length : Int)).bind fun bt195 => (if x11_4 < ((rd_L5 y192 x10_2).length : Int) then (spec_l20Charter.l3 k4 a1 (wrap64 (1 + t167)) x10_2 (wrap64 (x11_4 + 1)) s0_0 bt195.2 t161 t162 (y192.set (x10_2 : Int).toNat ((rd_L5 y192 x10_2).set (x11_4 : Int).toNat (⟨(rd_T35 (rd_L5 y192 x10_2) x11_4).f0, (rd_T35 (rd_L5 y192 x10_2) x11_4).f1, bt195.1⟩ : S35)))) else (none))) else (none)) else (none)) = some (r1, r2, r3, r4) := by first | (rw [hy192]; with_reducible exact H) | (have H2_ := (Option.bind_some _ _).symm.trans H; rw [hy192]; with_reducible exact H2_) | (have H2_ := (Option.bind_some _ _).symm.trans H; with_reducible exact H2_) | with_reducible exact H | (rw [hy192]; exact H) | exact H
                 have Ny192 := Aside0.mk hy192
                 clear hy192
                 obtain ⟨ji47, hji47⟩ : ∃ j_ : Int, (Int.tmod (wrap64 ((wrap64 (x10_2 + 1)) + t185)) (wrap64 (1 + t167))) = j_ := ⟨_, rfl⟩
                 replace H : (if 0 ≤ (ji47) then (if (ji47) < (x167002_4.length : Int) then ((spec_l20Rd_pick.f k4 s0_0 t188 ((rd_L5 y192 (ji47)).length : Int)).bind fun bt195 => (if x11_4 < ((rd_L5 y192 x10_2).length : Int) then (spec_l20Charter.l3 k4 a1 (wrap64 (1 + t167)) x10_2 (wrap64 (x11_4 + 1)) s0_0 bt195.2 t161 t162 (y192.set (x10_2 : Int).toNat ((rd_L5 y192 x10_2).set (x11_4 : Int).toNat (⟨(rd_T35 (rd_L5 y192 x10_2) x11_4).f0, (rd_T35 (rd_L5 y192 x10_2) x11_4).f1, bt195.1⟩ : S35)))) else (none))) else (none)) else (none)) = some (r1, r2, r3, r4) := by first | (rw [hji47] at H; exact H) | (simp only [hji47] at H ⊢; exact H)
                 (try rw [hji47] at A41)
                 (try rw [hji47] at A43)
                 by_cases c48 : 0 ≤ (ji47)
                 ·rw [if_pos c48] at H
                  have c48b0 : decide (0 ≤ (ji47)) = true := decide_eq_true c48
                  clear c48
                  by_cases c49 : (ji47) < (x167002_4.length : Int)
                  ·rw [if_pos c49] at H
                   have c49b0 : decide ((ji47) < (x167002_4.length : Int)) = true := decide_eq_true c49
                   clear c49
                   replace H := Option.bind_eq_some_iff.mp H
                   obtain ⟨⟨t195, t196⟩, A500, H⟩ := H
                   replace H : (if x11_4 < ((rd_L5 y192 x10_2).length : Int) then (spec_l20Charter.l3 k4 a1 (wrap64 (1 + t167)) x10_2 (wrap64 (x11_4 + 1)) s0_0 t196 t161 t162 (y192.set (x10_2 : Int).toNat ((rd_L5 y192 x10_2).set (x11_4 : Int).toNat (⟨(rd_T35 (rd_L5 y192 x10_2) x11_4).f0, (rd_T35 (rd_L5 y192 x10_2) x11_4).f1, t195⟩ : S35)))) else (none)) = some (r1, r2, r3, r4) := H
                   have A50 := Aside0.mk A500
                   clear A500
                   by_cases c51 : x11_4 < ((rd_L5 y192 x10_2).length : Int)
                   ·rw [if_pos c51] at H
                    have c51b0 : decide (x11_4 < ((rd_L5 y192 x10_2).length : Int)) = true := decide_eq_true c51
                    clear c51
                    obtain ⟨y197, hy197⟩ : ∃ y_ : List (S35), y_ = ((rd_L5 y192 x10_2).set (x11_4 : Int).toNat (⟨(rd_T35 (rd_L5 y192 x10_2) x11_4).f0, (rd_T35 (rd_L5 y192 x10_2) x11_4).f1, t195⟩ : S35)) := ⟨_, rfl⟩
                    replace H : (spec_l20Charter.l3 k4 a1 (wrap64 (1 + t167)) x10_2 (wrap64 (x11_4 + 1)) s0_0 t196 t161 t162 (y192.set (x10_2 : Int).toNat y197)) = some (r1, r2, r3, r4) := by first | (rw [hy197]; with_reducible exact H) | (have H2_ := (Option.bind_some _ _).symm.trans H; rw [hy197]; with_reducible exact H2_) | (have H2_ := (Option.bind_some _ _).symm.trans H; with_reducible exact H2_) | with_reducible exact H | (rw [hy197]; exact H) | exact H
                    have Ny197 := Aside0.mk hy197
                    clear hy197
                    obtain ⟨y199, hy199⟩ : ∃ y_ : List (List (S35)), y_ = (y192.set (x10_2 : Int).toNat y197) := ⟨_, rfl⟩
                    replace H : (spec_l20Charter.l3 k4 a1 (wrap64 (1 + t167)) x10_2 (wrap64 (x11_4 + 1)) s0_0 t196 t161 t162 y199) = some (r1, r2, r3, r4) := by first | (rw [hy199]; with_reducible exact H) | (have H2_ := (Option.bind_some _ _).symm.trans H; rw [hy199]; with_reducible exact H2_) | (have H2_ := (Option.bind_some _ _).symm.trans H; with_reducible exact H2_) | with_reducible exact H | (rw [hy199]; exact H) | exact H
                    have Ny199 := Aside0.mk hy199
                    clear hy199
                    have H' := Aside0.mk H
                    clear H
                    have hnb53 := NB166_160.out
                    have hnc53 := NB160_166.out
                    have hnb54 := NB166_0.out
                    have hnc54 := NB0_166.out
                    have hcz55_0 := cz0 BK166
                    have hcz55_1 := cz1 BK166
                    have hcz55_2 := cz2 BK166
                    have hfz55_0 := blk_frozen BK166.out 0
                    have hfz55_1 := blk_frozen BK166.out 1
                    have hfz55_2 := blk_frozen BK166.out 2
                    obtain ⟨Ao56, co56, eo56⟩ := Kd.S_slice HO_167002.out
                    subst eo56
                    have p184 : 0 ≤ (x10_2 : Int) := oda
                    have q184 : x10_2 < (x167002_4.length : Int) := oda
                    obtain ⟨ad184, A184_0, c184_0, e184, hx184_0, hl184_0, hi184_0⟩ := at_L5 (Kd.S_reads' HO_167002.out).2.2 x10_2 p184 q184
                    cases e184
                    obtain ⟨ce184, hce184, hMe184, hcc184⟩ := Kd.S_get HO_167002.out [] x10_2 p184 (by first | exact q184 | exact oda | (have e_ := (Kd.S_reads' HO_167002.out).1; omega))
                    obtain ⟨ve184_0, rfl, ge184_0⟩ := hMe184
                    have hv184_0 := hcc184 0 _ rfl
                    rw [Nat.add_zero, show ((Kd.slice 35 k35)).sz = 1 from rfl, Nat.mul_one] at hv184_0
                    replace hv184_0 := Option.some.inj (hv184_0.symm.trans hx184_0)
                    rw [hv184_0] at ge184_0
                    have HL184_0 := Aside0.mk (show Kd.R k35 35 _ _ _ _ (rd_L5 x167002_4 x10_2) from ge184_0)
                    clear hv184_0 ge184_0
                    have HX184_0 := Aside0.mk hx184_0
                    clear hcc184 hce184
                    have HR184_0 := Aside0.mk hi184_0
                    have HC184_0 := Aside0.mk hl184_0
                    clear hi184_0 hl184_0
                    replace p184 := eq_true p184
                    replace q184 := eq_true q184
                    try go_wp2_with (first | ((with_reducible refine gate_callee (f := 44) rfl ?_); refine goesL_ (some 70) rfl rfl Try.func44 kr rfl #[.pointer (some ⟨g, 0, none⟩), .int .i64 (wrap64 ((wrap64 (1 + t167)) - 1))] rfl lm ?_; (with_reducible refine (spec_l20Rd_pick.calls k4 g s0_0 x1001_4 (wrap64 ((wrap64 (1 + t167)) - 1)) t185 t186 w0 _ ?side1 ?side2 A41.out).mono ?_); (case side1 => repeat (first | (with_reducible first | exact HI0.out | apply IsS73.alloc | apply IsS73.drewN | apply IsS73.drew | apply IsS73.set_1 | refine IsS73.far ?_ NB0_160.out _ | refine IsS73.far ?_ NB0_166.out _) | exact HI0.out)); (case side2 => repeat (first | (with_reducible first | exact HB.out | apply below_alloc | apply pw_below_drewN | apply below_drew1 | refine below_set ?_ (IsS73.ge HI0.out) | refine below_set ?_ GE160.out | refine below_set ?_ GE166.out) | exact HB.out)); rintro e w57 ⟨rfl, hi, hb, hk⟩; refine ⟨_, rfl, ?_⟩; have n0_ := Aside0.mk (Kd.R_mono (Kd.R_keep (IsS73.apart (show IsS73 w0 _ g s0_0 x1001_4 from by repeat (first | (with_reducible first | exact HI0.out | apply IsS73.alloc | apply IsS73.drewN | apply IsS73.drew | apply IsS73.set_1 | refine IsS73.far ?_ NB0_160.out _ | refine IsS73.far ?_ NB0_166.out _) | exact HI0.out)) (rz HO_167001) (by decide)) hk (fun _ h => h.2)) (fun _ h => h.1)); have n1_ := Aside0.mk (Kd.S_mono (Kd.S_keep (IsS73.apartS (show IsS73 w0 _ g s0_0 x1001_4 from by repeat (first | (with_reducible first | exact HI0.out | apply IsS73.alloc | apply IsS73.drewN | apply IsS73.drew | apply IsS73.set_1 | refine IsS73.far ?_ NB0_160.out _ | refine IsS73.far ?_ NB0_166.out _) | exact HI0.out)) (sz HO_167002) (by decide)) hk (fun _ h => h.2)) (fun _ h => h.1)); have n2_ := Aside0.mk (KeepBut.blk hk (bz BK160) NB160_0.out (by simp)); have n3_ := Aside0.mk (KeepBut.blk hk (bz BK166) NB166_0.out (by simp)); have n4_ := Aside0.mk (Kd.R_mono (Kd.R_keep (IsS73.apart (show IsS73 w0 _ g s0_0 x1001_4 from by repeat (first | (with_reducible first | exact HI0.out | apply IsS73.alloc | apply IsS73.drewN | apply IsS73.drew | apply IsS73.set_1 | refine IsS73.far ?_ NB0_160.out _ | refine IsS73.far ?_ NB0_166.out _) | exact HI0.out)) (rz HL184_0) (by decide)) hk (fun _ h => h.2)) (fun _ h => h.1)); have n5_ := Aside0.mk (keep_cell hk HX184_0.out (by first | (rw [add_block]; exact Kd.own_blk (IsS73.own_neS HI0.out HO_167002.out (by decide))) | (show (Addr.add _ _).block ≠ _; rw [add_block]; exact Kd.own_blk (IsS73.own_neS HI0.out HO_167002.out (by decide))) | exact Kd.own_blk (IsS73.own_neS HI0.out HO_167002.out (by decide)) | (dsimp only; exact Kd.own_blk (IsS73.own_neS HI0.out HO_167002.out (by decide))))); have n6_ := Aside0.mk (KeepBut.trans (by repeat (first | (with_reducible first | exact HK.out | apply KeepBut.set_ | apply keep_drewN | apply keep_drew | apply keep_alloc | refine keep_far ?_ GW160.out _ | refine keep_far ?_ GW166.out _) | exact HK.out)) hk (.inl rfl)); have n7_ := Aside0.mk (hb); have n8_ := Aside0.mk (hi); clear HO_167001 HO_167002 BK160 BK166 HL184_0 HX184_0 HK HB HI0; have HO_167001 := n0_; have HO_167002 := n1_; have BK160 := n2_; have BK166 := n3_; have HL184_0 := n4_; have HX184_0 := n5_; have HK := n6_; have HB := n7_; have HI0 := n8_; clear n0_ n1_ n2_ n3_ n4_ n5_ n6_ n7_ n8_; (try clear hb); (try clear hb2); (try clear hk); (try clear hi)) | ((with_reducible refine gate_callee (f := 44) rfl ?_); refine goesL_ (some 75) rfl rfl Try.func44 kr rfl #[.pointer (some ⟨g, 0, none⟩), .int .i64 3] rfl lm ?_; (with_reducible refine (spec_l20Rd_pick.calls k4 g s0_0 t186 3 t187 t188 w0 _ ?side1 ?side2 A43.out).mono ?_); (case side1 => repeat (first | (with_reducible first | exact HI0.out | apply IsS73.alloc | apply IsS73.drewN | apply IsS73.drew | apply IsS73.set_1 | refine IsS73.far ?_ NB0_160.out _ | refine IsS73.far ?_ NB0_166.out _) | exact HI0.out)); (case side2 => repeat (first | (with_reducible first | exact HB.out | apply below_alloc | apply pw_below_drewN | apply below_drew1 | refine below_set ?_ (IsS73.ge HI0.out) | refine below_set ?_ GE160.out | refine below_set ?_ GE166.out) | exact HB.out)); rintro e w58 ⟨rfl, hi, hb, hk⟩; refine ⟨_, rfl, ?_⟩; have n0_ := Aside0.mk (Kd.R_mono (Kd.R_keep (IsS73.apart (show IsS73 w0 _ g s0_0 t186 from by repeat (first | (with_reducible first | exact HI0.out | apply IsS73.alloc | apply IsS73.drewN | apply IsS73.drew | apply IsS73.set_1 | refine IsS73.far ?_ NB0_160.out _ | refine IsS73.far ?_ NB0_166.out _) | exact HI0.out)) (rz HO_167001) (by decide)) hk (fun _ h => h.2)) (fun _ h => h.1)); have n1_ := Aside0.mk (Kd.S_mono (Kd.S_keep (IsS73.apartS (show IsS73 w0 _ g s0_0 t186 from by repeat (first | (with_reducible first | exact HI0.out | apply IsS73.alloc | apply IsS73.drewN | apply IsS73.drew | apply IsS73.set_1 | refine IsS73.far ?_ NB0_160.out _ | refine IsS73.far ?_ NB0_166.out _) | exact HI0.out)) (sz HO_167002) (by decide)) hk (fun _ h => h.2)) (fun _ h => h.1)); have n2_ := Aside0.mk (KeepBut.blk hk (bz BK160) NB160_0.out (by simp)); have n3_ := Aside0.mk (KeepBut.blk hk (bz BK166) NB166_0.out (by simp)); have n4_ := Aside0.mk (Kd.R_mono (Kd.R_keep (IsS73.apart (show IsS73 w0 _ g s0_0 t186 from by repeat (first | (with_reducible first | exact HI0.out | apply IsS73.alloc | apply IsS73.drewN | apply IsS73.drew | apply IsS73.set_1 | refine IsS73.far ?_ NB0_160.out _ | refine IsS73.far ?_ NB0_166.out _) | exact HI0.out)) (rz HL184_0) (by decide)) hk (fun _ h => h.2)) (fun _ h => h.1)); have n5_ := Aside0.mk (keep_cell hk HX184_0.out (by first | (rw [add_block]; exact Kd.own_blk (IsS73.own_neS HI0.out HO_167002.out (by decide))) | (show (Addr.add _ _).block ≠ _; rw [add_block]; exact Kd.own_blk (IsS73.own_neS HI0.out HO_167002.out (by decide))) | exact Kd.own_blk (IsS73.own_neS HI0.out HO_167002.out (by decide)) | (dsimp only; exact Kd.own_blk (IsS73.own_neS HI0.out HO_167002.out (by decide))))); have n6_ := Aside0.mk (KeepBut.trans (by repeat (first | (with_reducible first | exact HK.out | apply KeepBut.set_ | apply keep_drewN | apply keep_drew | apply keep_alloc | refine keep_far ?_ GW160.out _ | refine keep_far ?_ GW166.out _) | exact HK.out)) hk (.inl rfl)); have n7_ := Aside0.mk (hb); have n8_ := Aside0.mk (hi); clear HO_167001 HO_167002 BK160 BK166 HL184_0 HX184_0 HK HB HI0; have HO_167001 := n0_; have HO_167002 := n1_; have BK160 := n2_; have BK166 := n3_; have HL184_0 := n4_; have HX184_0 := n5_; have HK := n6_; have HB := n7_; have HI0 := n8_; clear n0_ n1_ n2_ n3_ n4_ n5_ n6_ n7_ n8_; (try clear hb); (try clear hb2); (try clear hk); (try clear hi); have hcz59_0 := cz0 BK166; have hcz59_1 := cz1 BK166; have hcz59_2 := cz2 BK166; have hfz59_0 := blk_frozen BK166.out 0; have hfz59_1 := blk_frozen BK166.out 1; have hfz59_2 := blk_frozen BK166.out 2; have p189 : 0 ≤ (x10_2 : Int) := oda; have q189 : x10_2 < (x167002_4.length : Int) := oda; obtain ⟨ad189, A189_0, c189_0, e189, hx189_0, hl189_0, hi189_0⟩ := at_L5 (Kd.S_reads' HO_167002.out).2.2 x10_2 p189 q189; obtain rfl : ad184 = ad189 := (by injection e189); obtain ⟨ce189, hce189, hMe189, hcc189⟩ := Kd.S_get HO_167002.out [] x10_2 p189 (by first | exact q189 | exact oda | (have e_ := (Kd.S_reads' HO_167002.out).1; omega)); obtain ⟨ve189_0, rfl, ge189_0⟩ := hMe189; have hv189_0 := hcc189 0 _ rfl; rw [Nat.add_zero, show ((Kd.slice 35 k35)).sz = 1 from rfl, Nat.mul_one] at hv189_0; replace hv189_0 := Option.some.inj (hv189_0.symm.trans hx189_0); rw [hv189_0] at ge189_0; have HL189_0 := Aside0.mk (show Kd.R k35 35 _ _ _ _ (rd_L5 x167002_4 x10_2) from ge189_0); clear hv189_0 ge189_0; have HX189_0 := Aside0.mk hx189_0; clear hcc189 hce189; have HR189_0 := Aside0.mk hi189_0; have HC189_0 := Aside0.mk hl189_0; clear hi189_0 hl189_0; replace p189 := eq_true p189; replace q189 := eq_true q189; have p46 : 0 ≤ (x11_4 : Int) := oda; have q46 : (x11_4 : Int) < (((rd_L5 x167002_4 x10_2).length : Int) : Int) := oda; obtain ⟨go46, co46, eo46, gb46, gl46, cl46, HG46⟩ := Kd.R_form HL189_0.out (by omega); (first | cases eo46 | (injection eo46 with ea_ en_ ec_; (first | subst ea_ | (injection ea_ with ea_; subst ea_)); subst ec_; clear en_)); have GB46 := Aside0.mk gb46; have GG46 := Aside0.mk HG46; clear gb46 gl46 HG46; obtain ⟨ce46, hcl46, hM46, hcc46, hfr46⟩ := Kd.R_elem HL189_0.out z35 (x11_4 : Int) p46 q46; obtain ⟨ve46_0, rfl, ge46_0⟩ := k35_openM hM46; have hx46_0 : w58.cell? ⟨go46, (x11_4 : Int).toNat * 3, none⟩ = some (ve46_0) := hcc46 0 _ rfl; have hx46_1 : w58.cell? ⟨go46, (x11_4 : Int).toNat * 3 + 1, none⟩ = some (.int .i64 ((rd_T35 (rd_L5 x167002_4 x10_2) x11_4).f1)) := hcc46 1 _ rfl; have hx46_2 : w58.cell? ⟨go46, (x11_4 : Int).toNat * 3 + 2, none⟩ = some (.int .i64 ((rd_T35 (rd_L5 x167002_4 x10_2) x11_4).f2)) := hcc46 2 _ rfl; have hf46_0 : w58.frozen? ⟨go46, (x11_4 : Int).toNat * 3, none⟩ = false := hfr46 0; have hf46_1 : w58.frozen? ⟨go46, (x11_4 : Int).toNat * 3 + 1, none⟩ = false := hfr46 1; have hf46_2 : w58.frozen? ⟨go46, (x11_4 : Int).toNat * 3 + 2, none⟩ = false := hfr46 2; (try clear hcl46); (try clear hcc46); (try clear hfr46); (try clear hM46); replace p46 := eq_true p46; replace q46 := eq_true q46; have hq60 : (x10_2 : Int) < (x167002_4.length : Int) := (by have h_ : (x10_2 : Int) < ((x167002_4.length : Int) : Int) := oda; first | exact h_ | (have e_ := (Kd.S_reads' HO_167002.out).1; omega) | simpa only [List.length_set, List.length_set] using h_); obtain ⟨oki60, ce60, hcl60, hM60, hcc60, hok60, hbk60⟩ := Kd.S_borrow HO_167002.out [] (x10_2 : Int) oda (by first | exact hq60 | (have e_ := (Kd.S_reads' HO_167002.out).1; omega)); obtain ⟨ve60_0, rfl, ge60_0⟩ := hM60; have hv60 := hcc60 0 _ rfl; rw [Nat.add_zero, show ((Kd.slice 35 k35)).sz = 1 from rfl, Nat.mul_one] at hv60; replace hv60 := Option.some.inj (hv60.symm.trans HX189_0.out); subst hv60; clear hcc60 hcl60; replace ge60_0 := (show Kd.R k35 35 _ _ _ _ (rd_L5 x167002_4 x10_2) from ge60_0); obtain ⟨cf60, hcl60, hN60, hcc60, hfr60⟩ := Kd.R_elem ge60_0 z35 (x11_4 : Int) oda (by have h_ : (x11_4 : Int) < (((rd_L5 x167002_4 x10_2).length : Int) : Int) := oda; first | exact h_ | (have e_ := (Kd.S_reads' HR189_0.out).1; omega) | simpa using h_); obtain ⟨vf60_0, rfl, gf60_0⟩ := k35_openM hN60; have HP60 := Kd.R_seg ge60_0 (x11_4 : Int) oda (by have h_ : (x11_4 : Int) < (((rd_L5 x167002_4 x10_2).length : Int) : Int) := oda; first | exact h_ | (have e_ := (Kd.S_reads' HR189_0.out).1; omega) | simpa using h_) (seg := [.int .i64 ji47]) (j := 1) hcl60 hcc60 (show 2 ≤ 3 from by decide) (x' := (⟨(rd_T35 (rd_L5 x167002_4 x10_2) x11_4).f0, ji47, (rd_T35 (rd_L5 x167002_4 x10_2) x11_4).f2⟩ : S35)) (k35_mkM _ _ _ (⟨(rd_T35 (rd_L5 x167002_4 x10_2) x11_4).f0, ji47, (rd_T35 (rd_L5 x167002_4 x10_2) x11_4).f2⟩ : S35) gf60_0) (fun _ hk => hk); clear hcl60 hcc60 hfr60 hN60) | ((with_reducible refine gate_store (t := 3) (p := 85) rfl ?_); refine store_event (t := 3) (p := 85) (v := ?vo_w61) (w1 := (w58.setCell ⟨go46, (x11_4 : Int).toNat * 3 + 1, none⟩ (.int .i64 ji47))) ?hg ?ho ?hn ?hr ?_; (case ho => rfl); (case hg => rfl); (case hn => rfl); (case hr => first | (go_simp; done) | (go_simp; rfl)); intro w61 hw; have hg : w58.grownBy w61 (some go46) := (by rw [hw]; exact HP60.2); have hz_ : Kd.R k35 35 w61 w.heap.size oki60 (.slice (some ⟨go46, 0, none⟩) (rd_L5 x167002_4 x10_2).length c189_0) y190 := (by rw [hw, Ny190.out]; first | exact HP60.1 | (simp only [hji47]; exact HP60.1)); have hp_ : Kd.S (Kd.slice 35 k35) 32 w61 w.heap.size (fun _ => True) (.slice (some ad184) x167002_4.length co56) y192 := (by rw [Ny192.out]; exact hbk60 hg (fun k_ e_ => by injection e_ with e_; subst e_; exact ge60_0.1 _ rfl) (Kd.M_row hz_)); have hm_ := Kd.R_mono hz_ hok60; clear HP60 hbk60; have n0_ := Aside0.mk (Kd.R_over' (v := (.slice (some ⟨go46, 0, none⟩) (rd_L5 x167002_4 x10_2).length c189_0)) (rz HO_167001) (Kd.R_typed HL189_0.out) (by decide) hg); have n1_ := Aside0.mk (hp_); have n2_ := Aside0.mk (blk_grown (bz BK160) hg (Kd.R_ne HL189_0.out BK160.out (by decide))); have n3_ := Aside0.mk (blk_grown (bz BK166) hg (Kd.R_ne HL189_0.out BK166.out (by decide))); have n4_ := Aside0.mk (IsS73.grown ((show IsS73 w0 _ g s0_0 t188 from by repeat (first | (with_reducible first | exact HI0.out | apply IsS73.alloc | apply IsS73.drewN | apply IsS73.drew | apply IsS73.set_1 | refine IsS73.far ?_ NB0_160.out _ | refine IsS73.far ?_ NB0_166.out _) | exact HI0.out))) hg (IsS73.own_ne HI0.out HL189_0.out (by decide))); have n5_ := Aside0.mk ((by rw [hw]; exact below_set (HB.out) (Nat.le_trans HL.out GB46.out) : Below w0.heap.size w0 w61)); have n6_ := Aside0.mk (KeepBut.trans (by repeat (first | (with_reducible first | exact HK.out | apply KeepBut.set_ | apply keep_drewN | apply keep_drew | apply keep_alloc | refine keep_far ?_ GW160.out _ | refine keep_far ?_ GW166.out _) | exact HK.out)) (KeepBut.of_grown hg g) (Kd.R_base2 HL189_0.out)); have n7_ := Aside0.mk (hm_); have n8_ := Aside0.mk ((Kd.R_reads' hm_).2.1); clear HO_167001 HO_167002 BK160 BK166 HI0 HB HK HL184_0 HL189_0; have HO_167001 := n0_; have HO_167002 := n1_; have BK160 := n2_; have BK166 := n3_; have HI0 := n4_; have HB := n5_; have HK := n6_; have HL218 := n7_; have HC191 := n8_; clear n0_ n1_ n2_ n3_ n4_ n5_ n6_ n7_ n8_ hg hw hp_ hz_ hm_ hok60))
                    have n0_ := Aside0.mk (Kd.R_drew HO_167001.out)
                    have n1_ := Aside0.mk (Kd.S_drew HO_167002.out)
                    have n2_ := Aside0.mk (Kd.R_drew HL218.out)
                    have n3_ := Aside0.mk (blk_drew BK160.out)
                    have n4_ := Aside0.mk (blk_drew BK166.out)
                    have n5_ := Aside0.mk (IsS73.drew HI0.out)
                    have n6_ := Aside0.mk (keep_drew HK.out)
                    have n7_ := Aside0.mk (below_drew1 HB.out)
                    clear HO_167001 HO_167002 HL218 BK160 BK166 HI0 HK HB
                    have HO_167001 := n0_
                    have HO_167002 := n1_
                    have HL218 := n2_
                    have BK160 := n3_
                    have BK166 := n4_
                    have HI0 := n5_
                    have HK := n6_
                    have HB := n7_
                    clear n0_ n1_ n2_ n3_ n4_ n5_ n6_ n7_
                    have p193 : 0 ≤ (x10_2 : Int) := oda
                    have q193 : x10_2 < (y192.length : Int) := (by have h_ : (x10_2 : Int) < ((x167002_4.length : Int) : Int) := oda; first | (have e_ := (Kd.S_reads' HO_167002.out).1; omega) | simpa only [Ny192.out, List.length_set] using h_)
                    have ql193 : ((x10_2 : Int) < ((x167002_4.length : Int) : Int)) = True := eq_true oda
                    obtain ⟨ad193, A193_0, c193_0, e193, hx193_0, hl193_0, hi193_0⟩ := at_L5 (Kd.S_reads' HO_167002.out).2.2 x10_2 p193 q193
                    obtain rfl : ad184 = ad193 := (by injection e193)
                    obtain ⟨ce193, hce193, hMe193, hcc193⟩ := Kd.S_get HO_167002.out [] x10_2 p193 (by first | exact q193 | exact oda | (have e_ := (Kd.S_reads' HO_167002.out).1; omega))
                    obtain ⟨ve193_0, rfl, ge193_0⟩ := hMe193
                    have hv193_0 := hcc193 0 _ rfl
                    rw [Nat.add_zero, show ((Kd.slice 35 k35)).sz = 1 from rfl, Nat.mul_one] at hv193_0
                    replace hv193_0 := Option.some.inj (hv193_0.symm.trans hx193_0)
                    rw [hv193_0] at ge193_0
                    have HL193_0 := Aside0.mk (show Kd.R k35 35 _ _ _ _ (rd_L5 y192 x10_2) from ge193_0)
                    clear hv193_0 ge193_0
                    have HX193_0 := Aside0.mk hx193_0
                    clear hcc193 hce193
                    have HR193_0 := Aside0.mk hi193_0
                    have HC193_0 := Aside0.mk hl193_0
                    clear hi193_0 hl193_0
                    replace p193 := eq_true p193
                    replace q193 := eq_true q193
                    have p194 : 0 ≤ ((ji47) : Int) := oda
                    have q194 : (ji47) < (y192.length : Int) := (by have h_ : ((ji47) : Int) < ((x167002_4.length : Int) : Int) := oda; first | (have e_ := (Kd.S_reads' HO_167002.out).1; omega) | simpa only [Ny192.out, List.length_set] using h_)
                    have ql194 : (((ji47) : Int) < ((x167002_4.length : Int) : Int)) = True := eq_true oda
                    obtain ⟨ad194, A194_0, c194_0, e194, hx194_0, hl194_0, hi194_0⟩ := at_L5 (Kd.S_reads' HO_167002.out).2.2 (ji47) p194 q194
                    obtain rfl : ad184 = ad194 := (by injection e194)
                    obtain ⟨ce194, hce194, hMe194, hcc194⟩ := Kd.S_get HO_167002.out [] (ji47) p194 (by first | exact q194 | exact oda | (have e_ := (Kd.S_reads' HO_167002.out).1; omega))
                    obtain ⟨ve194_0, rfl, ge194_0⟩ := hMe194
                    have hv194_0 := hcc194 0 _ rfl
                    rw [Nat.add_zero, show ((Kd.slice 35 k35)).sz = 1 from rfl, Nat.mul_one] at hv194_0
                    replace hv194_0 := Option.some.inj (hv194_0.symm.trans hx194_0)
                    rw [hv194_0] at ge194_0
                    have HL194_0 := Aside0.mk (show Kd.R k35 35 _ _ _ _ (rd_L5 y192 (ji47)) from ge194_0)
                    clear hv194_0 ge194_0
                    have HX194_0 := Aside0.mk hx194_0
                    clear hcc194 hce194
                    have HR194_0 := Aside0.mk hi194_0
                    have HC194_0 := Aside0.mk hl194_0
                    clear hi194_0 hl194_0
                    replace p194 := eq_true p194
                    replace q194 := eq_true q194
                    refine start_ (n := 17) (S := fun w' => w'.cell? ⟨gb166, 0, none⟩ = some (.int .i64 t161) ∧ w'.cell? ⟨gb166, 1, none⟩ = some (.slice Ao7 t162.length co7) ∧ w'.cell? ⟨gb166, 2, none⟩ = some (.slice (some ad184) x167002_4.length co56) ∧ w'.cell? (ad184.add (x10_2).toNat) = some (.slice A193_0 (rd_L5 y192 x10_2).length c193_0) ∧ w'.cell? (ad184.add ((ji47)).toNat) = some (.slice A194_0 (rd_L5 y192 (ji47)).length c194_0)) (ds := [16]) #[F,F,F,F,F,F,F,F,F,F,F,F,F,F,F,F,F] kr rfl rfl ⟨cz0 BK166, cz1 BK166, cz2 BK166, hx193_0, hx194_0⟩ (fun hHeld => ?_); refine with_tabW spec_l20Charter.tab21 spec_l20Charter.bits21 (fun HT_ HW_ => ?_)
                    generalize w61.drew = w62 at HO_167001 HO_167002 HL218 BK160 BK166 HI0 HK HB HL193_0 HL194_0 HR193_0 HR194_0 HX193_0 HX194_0 hx193_0 hx194_0 hHeld ⊢
                    refine pu 0 (some 86) #[T,F,F,F,F,F,F,F,F,F,F,F,F,F,F,F,F] (any_of HT_.out kr) ?_
                    refine pu 2 (some 88) #[T,F,T,F,F,F,F,F,F,F,F,F,F,F,F,F,F] (any_of HT_.out kr) ?_
                    refine pu 5 (some 91) #[T,F,T,F,F,T,F,F,F,F,F,F,F,F,F,F,F] (any_of HT_.out kr) ?_
                    refine pu 6 (some 92) #[T,F,T,F,F,T,T,F,F,F,F,F,F,F,F,F,F] (any_of HT_.out kr) ?_
                    refine pu 7 (some 93) #[T,F,T,F,F,T,T,T,F,F,F,F,F,F,F,F,F] (any_of HT_.out kr) ?_
                    refine pu 9 (some 95) #[T,F,T,F,F,T,T,T,F,T,F,F,F,F,F,F,F] (any_of HT_.out kr) ?_
                    refine tk5 1 (some 87) #[T,T,T,F,F,T,T,T,F,T,F,F,F,F,F,F,F] (take_ofW HT_.out HW_.out kr) ?_
                    refine pu 3 (some 89) #[T,T,T,T,F,T,T,T,F,T,F,F,F,F,F,F,F] (any_of HT_.out kr) ?_
                    refine tk5 4 (some 90) #[T,T,T,T,T,T,T,T,F,T,F,F,F,F,F,F,F] (take_ofW HT_.out HW_.out kr) ?_
                    refine tk5 8 (some 94) #[T,T,T,T,T,T,T,T,T,T,F,F,F,F,F,F,F] (take_ofW HT_.out HW_.out kr) ?_
                    refine pu 10 (some 96) #[T,T,T,T,T,T,T,T,T,T,T,F,F,F,F,F,F] (any_of HT_.out kr) ?_
                    refine tk5 11 (some 97) #[T,T,T,T,T,T,T,T,T,T,T,T,F,F,F,F,F] (take_ofW HT_.out HW_.out kr) ?_
                    refine pu 12 (some 98) #[T,T,T,T,T,T,T,T,T,T,T,T,T,F,F,F,F] (any_of HT_.out kr) ?_
                    refine one_ (i := 13) (N := some 99) #[T,T,T,T,T,T,T,T,T,T,T,T,T,T,F,F,F] rfl rfl (one_of HT_.out kr) (by decide) (fun K hK => ?_)
                    refine goes_ Try.func44 kr rfl #[.pointer (some ⟨g, 0, none⟩), .int .i64 ((rd_L5 y192 (ji47)).length : Int)] (by rfl) rfl rfl (by (try simp only [List.map_toArray, List.map_cons, List.map_nil]); first | done | (simp only [hji47]; rfl) | rfl | (simp only [List.length_drop, List.length_take]; rfl)) ?_
                    with_reducible refine (spec_l20Rd_pick.calls k4 g s0_0 t188 ((rd_L5 y192 (ji47)).length : Int) t195 t196 w0 _ ?side1 ?side2 A50.out).mono ?_
                    (case side1 => repeat (first | (with_reducible first | exact HI0.out | apply IsS73.alloc | apply IsS73.drewN | apply IsS73.drew | apply IsS73.set_1 | refine IsS73.far ?_ NB0_160.out _ | refine IsS73.far ?_ NB0_166.out _) | exact HI0.out))
                    (case side2 => repeat (first | (with_reducible first | exact HB.out | apply below_alloc | apply pw_below_drewN | apply below_drew1 | refine below_set ?_ (IsS73.ge HI0.out) | refine below_set ?_ GE160.out | refine below_set ?_ GE166.out) | exact HB.out))
                    rintro e w63 ⟨rfl, hi, hb, hk⟩
                    have HS3_ := keep_cell hk (hHeld.2.2.2.1) (by first | (rw [add_block]; exact Kd.own_blk (IsS73.own_neS HI0.out HO_167002.out (by decide))) | (show (Addr.add _ _).block ≠ _; rw [add_block]; exact Kd.own_blk (IsS73.own_neS HI0.out HO_167002.out (by decide))) | exact Kd.own_blk (IsS73.own_neS HI0.out HO_167002.out (by decide)))
                    have HS4_ := keep_cell hk (hHeld.2.2.2.2) (by first | (rw [add_block]; exact Kd.own_blk (IsS73.own_neS HI0.out HO_167002.out (by decide))) | (show (Addr.add _ _).block ≠ _; rw [add_block]; exact Kd.own_blk (IsS73.own_neS HI0.out HO_167002.out (by decide))) | exact Kd.own_blk (IsS73.own_neS HI0.out HO_167002.out (by decide)))
                    refine ⟨_, rfl, ?_⟩
                    have n0_ := Aside0.mk (Kd.R_mono (Kd.R_keep (IsS73.apart (show IsS73 w0 _ g s0_0 t188 from by repeat (first | (with_reducible first | exact HI0.out | apply IsS73.alloc | apply IsS73.drewN | apply IsS73.drew | apply IsS73.set_1 | refine IsS73.far ?_ NB0_160.out _ | refine IsS73.far ?_ NB0_166.out _) | exact HI0.out)) (rz HO_167001) (by decide)) hk (fun _ h => h.2)) (fun _ h => h.1))
                    have n1_ := Aside0.mk (Kd.S_mono (Kd.S_keep (IsS73.apartS (show IsS73 w0 _ g s0_0 t188 from by repeat (first | (with_reducible first | exact HI0.out | apply IsS73.alloc | apply IsS73.drewN | apply IsS73.drew | apply IsS73.set_1 | refine IsS73.far ?_ NB0_160.out _ | refine IsS73.far ?_ NB0_166.out _) | exact HI0.out)) (sz HO_167002) (by decide)) hk (fun _ h => h.2)) (fun _ h => h.1))
                    have n2_ := Aside0.mk (KeepBut.blk hk (bz BK160) NB160_0.out (by simp))
                    have n3_ := Aside0.mk (KeepBut.blk hk (bz BK166) NB166_0.out (by simp))
                    have n4_ := Aside0.mk (Kd.R_mono (Kd.R_keep (IsS73.apart (show IsS73 w0 _ g s0_0 t188 from by repeat (first | (with_reducible first | exact HI0.out | apply IsS73.alloc | apply IsS73.drewN | apply IsS73.drew | apply IsS73.set_1 | refine IsS73.far ?_ NB0_160.out _ | refine IsS73.far ?_ NB0_166.out _) | exact HI0.out)) (rz HL218) (by decide)) hk (fun _ h => h.2)) (fun _ h => h.1))
                    have n5_ := Aside0.mk (Kd.R_mono (Kd.R_keep (IsS73.apart (show IsS73 w0 _ g s0_0 t188 from by repeat (first | (with_reducible first | exact HI0.out | apply IsS73.alloc | apply IsS73.drewN | apply IsS73.drew | apply IsS73.set_1 | refine IsS73.far ?_ NB0_160.out _ | refine IsS73.far ?_ NB0_166.out _) | exact HI0.out)) (rz HL193_0) (by decide)) hk (fun _ h => h.2)) (fun _ h => h.1))
                    have n6_ := Aside0.mk (keep_cell hk HX193_0.out (by first | (rw [add_block]; exact Kd.own_blk (IsS73.own_neS HI0.out HO_167002.out (by decide))) | (show (Addr.add _ _).block ≠ _; rw [add_block]; exact Kd.own_blk (IsS73.own_neS HI0.out HO_167002.out (by decide))) | exact Kd.own_blk (IsS73.own_neS HI0.out HO_167002.out (by decide)) | (dsimp only; exact Kd.own_blk (IsS73.own_neS HI0.out HO_167002.out (by decide)))))
                    have n7_ := Aside0.mk (Kd.R_mono (Kd.R_keep (IsS73.apart (show IsS73 w0 _ g s0_0 t188 from by repeat (first | (with_reducible first | exact HI0.out | apply IsS73.alloc | apply IsS73.drewN | apply IsS73.drew | apply IsS73.set_1 | refine IsS73.far ?_ NB0_160.out _ | refine IsS73.far ?_ NB0_166.out _) | exact HI0.out)) (rz HL194_0) (by decide)) hk (fun _ h => h.2)) (fun _ h => h.1))
                    have n8_ := Aside0.mk (keep_cell hk HX194_0.out (by first | (rw [add_block]; exact Kd.own_blk (IsS73.own_neS HI0.out HO_167002.out (by decide))) | (show (Addr.add _ _).block ≠ _; rw [add_block]; exact Kd.own_blk (IsS73.own_neS HI0.out HO_167002.out (by decide))) | exact Kd.own_blk (IsS73.own_neS HI0.out HO_167002.out (by decide)) | (dsimp only; exact Kd.own_blk (IsS73.own_neS HI0.out HO_167002.out (by decide)))))
                    have n9_ := Aside0.mk (KeepBut.trans (by repeat (first | (with_reducible first | exact HK.out | apply KeepBut.set_ | apply keep_drewN | apply keep_drew | apply keep_alloc | refine keep_far ?_ GW160.out _ | refine keep_far ?_ GW166.out _) | exact HK.out)) hk (.inl rfl))
                    have n10_ := Aside0.mk (hb)
                    have n11_ := Aside0.mk (hi)
                    clear HO_167001 HO_167002 BK160 BK166 HL218 HL193_0 HX193_0 HL194_0 HX194_0 HK HB HI0
                    have HO_167001 := n0_
                    have HO_167002 := n1_
                    have BK160 := n2_
                    have BK166 := n3_
                    have HL218 := n4_
                    have HL193_0 := n5_
                    have HX193_0 := n6_
                    have HL194_0 := n7_
                    have HX194_0 := n8_
                    have HK := n9_
                    have HB := n10_
                    have HI0 := n11_
                    clear n0_ n1_ n2_ n3_ n4_ n5_ n6_ n7_ n8_ n9_ n10_ n11_
                    (try clear hb)
                    (try clear hb2)
                    (try clear hk)
                    (try clear hi)
                    have p52 : 0 ≤ (x11_4 : Int) := oda
                    have q52 : (x11_4 : Int) < (((rd_L5 y192 x10_2).length : Int) : Int) := oda
                    obtain ⟨go52, co52, eo52, gb52, gl52, cl52, HG52⟩ := Kd.R_form HL193_0.out (by omega)
                    (first | cases eo52 | (injection eo52 with ea_ en_ ec_; (first | subst ea_ | (injection ea_ with ea_; subst ea_)); subst ec_; clear en_))
                    have GB52 := Aside0.mk gb52
                    have GG52 := Aside0.mk HG52
                    clear gb52 gl52 HG52
                    obtain ⟨ce52, hcl52, hM52, hcc52, hfr52⟩ := Kd.R_elem HL193_0.out z35 (x11_4 : Int) p52 q52
                    obtain ⟨ve52_0, rfl, ge52_0⟩ := k35_openM hM52
                    have hx52_0 : World.cell? _ ⟨go52, (x11_4 : Int).toNat * 3, none⟩ = some (ve52_0) := hcc52 0 _ rfl
                    have hx52_1 : World.cell? _ ⟨go52, (x11_4 : Int).toNat * 3 + 1, none⟩ = some (.int .i64 ((rd_T35 (rd_L5 y192 x10_2) x11_4).f1)) := hcc52 1 _ rfl
                    have hx52_2 : World.cell? _ ⟨go52, (x11_4 : Int).toNat * 3 + 2, none⟩ = some (.int .i64 ((rd_T35 (rd_L5 y192 x10_2) x11_4).f2)) := hcc52 2 _ rfl
                    have hf52_0 : World.frozen? _ ⟨go52, (x11_4 : Int).toNat * 3, none⟩ = false := hfr52 0
                    have hf52_1 : World.frozen? _ ⟨go52, (x11_4 : Int).toNat * 3 + 1, none⟩ = false := hfr52 1
                    have hf52_2 : World.frozen? _ ⟨go52, (x11_4 : Int).toNat * 3 + 2, none⟩ = false := hfr52 2
                    (try clear hcl52); (try clear hcc52); (try clear hfr52); (try clear hM52)
                    replace p52 := eq_true p52
                    replace q52 := eq_true q52
                    have hq64 : (x10_2 : Int) < (y192.length : Int) := (by have h_ : (x10_2 : Int) < ((x167002_4.length : Int) : Int) := oda; first | exact h_ | (have e_ := (Kd.S_reads' HO_167002.out).1; omega) | simpa only [Ny192.out, List.length_set] using h_)
                    obtain ⟨oki64, ce64, hcl64, hM64, hcc64, hok64, hbk64⟩ := Kd.S_borrow HO_167002.out [] (x10_2 : Int) oda (by first | exact hq64 | (have e_ := (Kd.S_reads' HO_167002.out).1; omega))
                    obtain ⟨ve64_0, rfl, ge64_0⟩ := hM64
                    have hv64 := hcc64 0 _ rfl
                    rw [Nat.add_zero, show ((Kd.slice 35 k35)).sz = 1 from rfl, Nat.mul_one] at hv64
                    replace hv64 := Option.some.inj (hv64.symm.trans HX193_0.out)
                    subst hv64
                    clear hcc64 hcl64
                    replace ge64_0 := (show Kd.R k35 35 _ _ _ _ (rd_L5 y192 x10_2) from ge64_0)
                    obtain ⟨cf64, hcl64, hN64, hcc64, hfr64⟩ := Kd.R_elem ge64_0 z35 (x11_4 : Int) oda (by have h_ : (x11_4 : Int) < (((rd_L5 y192 x10_2).length : Int) : Int) := oda; first | exact h_ | (have e_ := (Kd.S_reads' HR193_0.out).1; omega) | simpa using h_)
                    obtain ⟨vf64_0, rfl, gf64_0⟩ := k35_openM hN64
                    have HP64 := Kd.R_seg ge64_0 (x11_4 : Int) oda (by have h_ : (x11_4 : Int) < (((rd_L5 y192 x10_2).length : Int) : Int) := oda; first | exact h_ | (have e_ := (Kd.S_reads' HR193_0.out).1; omega) | simpa using h_) (seg := [.int .i64 t195]) (j := 2) hcl64 hcc64 (show 3 ≤ 3 from by decide) (x' := (⟨(rd_T35 (rd_L5 y192 x10_2) x11_4).f0, (rd_T35 (rd_L5 y192 x10_2) x11_4).f1, t195⟩ : S35)) (k35_mkM _ _ _ (⟨(rd_T35 (rd_L5 y192 x10_2) x11_4).f0, (rd_T35 (rd_L5 y192 x10_2) x11_4).f1, t195⟩ : S35) gf64_0) (fun _ hk => hk)
                    clear hcl64 hcc64 hfr64 hN64
                    have HN0_go52 := Aside0.mk (show g ≠ go52 from by have h_ := IsS73.own_ne HI0.out HL193_0.out (by decide); intro e_; exact h_ (by rw [e_]; rfl))
                    rw [← Ny197.out] at HP64
                    have HS64 := hbk64 HP64.2 (fun k_ e_ => by injection e_ with e_; subst e_; exact ge64_0.1 _ rfl) (x' := y197) (Kd.M_row HP64.1)
                    rw [← Ny199.out] at HS64
                    have HQ64 := Aside0.mk HS64
                    clear HP64 HS64 hbk64 hok64
                    refine hK.out _ _ ⟨cz0 BK166, cz1 BK166, cz2 BK166, HS3_, HS4_⟩ (fun hHeld => ?_)
                    clear hK K
                    refine norm_ (a' := ?_) ?_ ?_
                    rotate_left
                    ·show Act.put _ (some 99) _ = _
                     simp only [Act.put, List.setIfInBounds_toArray, List.set_cons_zero, List.set_cons_succ, i64_w, i32_w]
                     rfl
                    refine pu 14 (some 100) #[T,T,T,T,T,T,T,T,T,T,T,T,T,T,T,F,F] (any_of HT_.out kr) ?_
                    refine pu 15 (some 101) #[T,T,T,T,T,T,T,T,T,T,T,T,T,T,T,T,F] (any_of HT_.out kr) ?_
                    refine last_ (i := 16) (N := none) #[T,T,T,T,T,T,T,T,T,T,T,T,T,T,T,T,T] rfl rfl (one_of HT_.out kr) (by decide) (fun K hK => ?_)
                    refine skip_ (w1 := ?_) (by rfl) rfl ?_ ?_
                    rotate_left
                    ·go_simp
                     rfl
                    refine hK.out _ _ ?_
                    clear hK K
                    refine done_ (done_of HT_.out kr) ?_
                    try go_wp2
                    go_roundg k4
                    case measure => have := HK1.out; have := HK2.out; have := HJ34.out; have := HK4.out; omega
                    case rel => exact ⟨(wrap64 (x11_4 + 1)), (t196), (y199), (.slice (some ad184) x167002_4.length co56), (by first | rfl | (simp; done) | (simp [*]; done)), H', ⟨by have := HK1.out; have := HK2.out; have := HJ34.out; have := HK4.out; omega⟩, ⟨by (with_reducible repeat (first | apply Kd.R_alloc | apply Kd.R_drewN | apply Kd.R_drew)); exact Kd.R_mono (Kd.R_far (p := ⟨go52, (x11_4 : Int).toNat * 3 + 2, none⟩) (Kd.R_types HO_167001.out GG52.out (by decide)) (fun _ hk => hk.2) (.int .i64 t195)) (fun _ hk => trivial)⟩, ⟨sz HQ64⟩, ⟨by (with_reducible repeat (first | refine blk_drewN ?_ _ | refine blk_drew ?_ | refine blk_alloc ?_ _)); refine blk_far ?_ (by have h_ := Kd.R_ne HL193_0.out BK160.out (by decide); intro e_; exact h_ (by rw [e_]; rfl)) _; (with_reducible repeat (first | refine blk_drewN ?_ _ | refine blk_drew ?_ | refine blk_alloc ?_ _)); exact BK160.out⟩, ⟨by (with_reducible repeat (first | refine blk_drewN ?_ _ | refine blk_drew ?_ | refine blk_alloc ?_ _)); refine blk_far ?_ (by have h_ := Kd.R_ne HL193_0.out BK166.out (by decide); intro e_; exact h_ (by rw [e_]; rfl)) _; (with_reducible repeat (first | refine blk_drewN ?_ _ | refine blk_drew ?_ | refine blk_alloc ?_ _)); exact BK166.out⟩, ⟨by repeat (first | (with_reducible first | exact HI0.out | apply IsS73.alloc | apply IsS73.drewN | apply IsS73.drew | apply IsS73.set_1 | refine IsS73.far ?_ HN0_go52.out _ | refine IsS73.far ?_ NB0_160.out _ | refine IsS73.far ?_ NB0_166.out _) | exact HI0.out)⟩, ⟨by repeat (first | (with_reducible first | exact HK.out | apply KeepBut.set_ | apply keep_drewN | apply keep_drew | apply keep_alloc | refine keep_far ?_ GB52.out _ | refine keep_far ?_ GW160.out _ | refine keep_far ?_ GW166.out _) | exact HK.out)⟩, ⟨by repeat (first | (with_reducible first | exact HB.out | apply below_alloc | apply pw_below_drewN | apply below_drew1 | refine below_set ?_ (Nat.le_trans HL.out GB52.out) | refine below_set ?_ (IsS73.ge HI0.out) | refine below_set ?_ GE160.out | refine below_set ?_ GE166.out) | exact HB.out)⟩⟩
                   ·rw [if_neg c51] at H
                    exact absurd H (by simp)
                  ·rw [if_neg c49] at H
                   exact absurd H (by simp)
                 ·rw [if_neg c48] at H
                  exact absurd H (by simp)
                ·rw [if_neg c45] at H
                 exact absurd H (by simp)
               ·rw [if_neg c44] at H
                have c44b0 : (t187 == 0) = false := beq_eq_false_iff_ne.mpr c44
                have c44b1 : (t187 != 0) = true := bne_iff_ne.mpr c44
                have H' := Aside0.mk H
                clear H
                have hnb66 := NB166_160.out
                have hnc66 := NB160_166.out
                have hnb67 := NB166_0.out
                have hnc67 := NB0_166.out
                have hcz68_0 := cz0 BK166
                have hcz68_1 := cz1 BK166
                have hcz68_2 := cz2 BK166
                have hfz68_0 := blk_frozen BK166.out 0
                have hfz68_1 := blk_frozen BK166.out 1
                have hfz68_2 := blk_frozen BK166.out 2
                obtain ⟨Ao69, co69, eo69⟩ := Kd.S_slice HO_167002.out
                subst eo69
                have p184 : 0 ≤ (x10_2 : Int) := oda
                have q184 : x10_2 < (x167002_4.length : Int) := oda
                obtain ⟨ad184, A184_0, c184_0, e184, hx184_0, hl184_0, hi184_0⟩ := at_L5 (Kd.S_reads' HO_167002.out).2.2 x10_2 p184 q184
                cases e184
                obtain ⟨ce184, hce184, hMe184, hcc184⟩ := Kd.S_get HO_167002.out [] x10_2 p184 (by first | exact q184 | exact oda | (have e_ := (Kd.S_reads' HO_167002.out).1; omega))
                obtain ⟨ve184_0, rfl, ge184_0⟩ := hMe184
                have hv184_0 := hcc184 0 _ rfl
                rw [Nat.add_zero, show ((Kd.slice 35 k35)).sz = 1 from rfl, Nat.mul_one] at hv184_0
                replace hv184_0 := Option.some.inj (hv184_0.symm.trans hx184_0)
                rw [hv184_0] at ge184_0
                have HL184_0 := Aside0.mk (show Kd.R k35 35 _ _ _ _ (rd_L5 x167002_4 x10_2) from ge184_0)
                clear hv184_0 ge184_0
                have HX184_0 := Aside0.mk hx184_0
                clear hcc184 hce184
                have HR184_0 := Aside0.mk hi184_0
                have HC184_0 := Aside0.mk hl184_0
                clear hi184_0 hl184_0
                replace p184 := eq_true p184
                replace q184 := eq_true q184
                go_wp2_with (first | ((with_reducible refine gate_callee (f := 44) rfl ?_); refine goesL_ (some 70) rfl rfl Try.func44 kr rfl #[.pointer (some ⟨g, 0, none⟩), .int .i64 (wrap64 ((wrap64 (1 + t167)) - 1))] rfl lm ?_; (with_reducible refine (spec_l20Rd_pick.calls k4 g s0_0 x1001_4 (wrap64 ((wrap64 (1 + t167)) - 1)) t185 t186 w0 _ ?side1 ?side2 A41.out).mono ?_); (case side1 => repeat (first | (with_reducible first | exact HI0.out | apply IsS73.alloc | apply IsS73.drewN | apply IsS73.drew | apply IsS73.set_1 | refine IsS73.far ?_ NB0_160.out _ | refine IsS73.far ?_ NB0_166.out _) | exact HI0.out)); (case side2 => repeat (first | (with_reducible first | exact HB.out | apply below_alloc | apply pw_below_drewN | apply below_drew1 | refine below_set ?_ (IsS73.ge HI0.out) | refine below_set ?_ GE160.out | refine below_set ?_ GE166.out) | exact HB.out)); rintro e w70 ⟨rfl, hi, hb, hk⟩; refine ⟨_, rfl, ?_⟩; have n0_ := Aside0.mk (Kd.R_mono (Kd.R_keep (IsS73.apart (show IsS73 w0 _ g s0_0 x1001_4 from by repeat (first | (with_reducible first | exact HI0.out | apply IsS73.alloc | apply IsS73.drewN | apply IsS73.drew | apply IsS73.set_1 | refine IsS73.far ?_ NB0_160.out _ | refine IsS73.far ?_ NB0_166.out _) | exact HI0.out)) (rz HO_167001) (by decide)) hk (fun _ h => h.2)) (fun _ h => h.1)); have n1_ := Aside0.mk (Kd.S_mono (Kd.S_keep (IsS73.apartS (show IsS73 w0 _ g s0_0 x1001_4 from by repeat (first | (with_reducible first | exact HI0.out | apply IsS73.alloc | apply IsS73.drewN | apply IsS73.drew | apply IsS73.set_1 | refine IsS73.far ?_ NB0_160.out _ | refine IsS73.far ?_ NB0_166.out _) | exact HI0.out)) (sz HO_167002) (by decide)) hk (fun _ h => h.2)) (fun _ h => h.1)); have n2_ := Aside0.mk (KeepBut.blk hk (bz BK160) NB160_0.out (by simp)); have n3_ := Aside0.mk (KeepBut.blk hk (bz BK166) NB166_0.out (by simp)); have n4_ := Aside0.mk (Kd.R_mono (Kd.R_keep (IsS73.apart (show IsS73 w0 _ g s0_0 x1001_4 from by repeat (first | (with_reducible first | exact HI0.out | apply IsS73.alloc | apply IsS73.drewN | apply IsS73.drew | apply IsS73.set_1 | refine IsS73.far ?_ NB0_160.out _ | refine IsS73.far ?_ NB0_166.out _) | exact HI0.out)) (rz HL184_0) (by decide)) hk (fun _ h => h.2)) (fun _ h => h.1)); have n5_ := Aside0.mk (keep_cell hk HX184_0.out (by first | (rw [add_block]; exact Kd.own_blk (IsS73.own_neS HI0.out HO_167002.out (by decide))) | (show (Addr.add _ _).block ≠ _; rw [add_block]; exact Kd.own_blk (IsS73.own_neS HI0.out HO_167002.out (by decide))) | exact Kd.own_blk (IsS73.own_neS HI0.out HO_167002.out (by decide)) | (dsimp only; exact Kd.own_blk (IsS73.own_neS HI0.out HO_167002.out (by decide))))); have n6_ := Aside0.mk (KeepBut.trans (by repeat (first | (with_reducible first | exact HK.out | apply KeepBut.set_ | apply keep_drewN | apply keep_drew | apply keep_alloc | refine keep_far ?_ GW160.out _ | refine keep_far ?_ GW166.out _) | exact HK.out)) hk (.inl rfl)); have n7_ := Aside0.mk (hb); have n8_ := Aside0.mk (hi); clear HO_167001 HO_167002 BK160 BK166 HL184_0 HX184_0 HK HB HI0; have HO_167001 := n0_; have HO_167002 := n1_; have BK160 := n2_; have BK166 := n3_; have HL184_0 := n4_; have HX184_0 := n5_; have HK := n6_; have HB := n7_; have HI0 := n8_; clear n0_ n1_ n2_ n3_ n4_ n5_ n6_ n7_ n8_; (try clear hb); (try clear hb2); (try clear hk); (try clear hi)) | ((with_reducible refine gate_callee (f := 44) rfl ?_); refine goesL_ (some 75) rfl rfl Try.func44 kr rfl #[.pointer (some ⟨g, 0, none⟩), .int .i64 3] rfl lm ?_; (with_reducible refine (spec_l20Rd_pick.calls k4 g s0_0 t186 3 t187 t188 w0 _ ?side1 ?side2 A43.out).mono ?_); (case side1 => repeat (first | (with_reducible first | exact HI0.out | apply IsS73.alloc | apply IsS73.drewN | apply IsS73.drew | apply IsS73.set_1 | refine IsS73.far ?_ NB0_160.out _ | refine IsS73.far ?_ NB0_166.out _) | exact HI0.out)); (case side2 => repeat (first | (with_reducible first | exact HB.out | apply below_alloc | apply pw_below_drewN | apply below_drew1 | refine below_set ?_ (IsS73.ge HI0.out) | refine below_set ?_ GE160.out | refine below_set ?_ GE166.out) | exact HB.out)); rintro e w71 ⟨rfl, hi, hb, hk⟩; refine ⟨_, rfl, ?_⟩; have n0_ := Aside0.mk (Kd.R_mono (Kd.R_keep (IsS73.apart (show IsS73 w0 _ g s0_0 t186 from by repeat (first | (with_reducible first | exact HI0.out | apply IsS73.alloc | apply IsS73.drewN | apply IsS73.drew | apply IsS73.set_1 | refine IsS73.far ?_ NB0_160.out _ | refine IsS73.far ?_ NB0_166.out _) | exact HI0.out)) (rz HO_167001) (by decide)) hk (fun _ h => h.2)) (fun _ h => h.1)); have n1_ := Aside0.mk (Kd.S_mono (Kd.S_keep (IsS73.apartS (show IsS73 w0 _ g s0_0 t186 from by repeat (first | (with_reducible first | exact HI0.out | apply IsS73.alloc | apply IsS73.drewN | apply IsS73.drew | apply IsS73.set_1 | refine IsS73.far ?_ NB0_160.out _ | refine IsS73.far ?_ NB0_166.out _) | exact HI0.out)) (sz HO_167002) (by decide)) hk (fun _ h => h.2)) (fun _ h => h.1)); have n2_ := Aside0.mk (KeepBut.blk hk (bz BK160) NB160_0.out (by simp)); have n3_ := Aside0.mk (KeepBut.blk hk (bz BK166) NB166_0.out (by simp)); have n4_ := Aside0.mk (Kd.R_mono (Kd.R_keep (IsS73.apart (show IsS73 w0 _ g s0_0 t186 from by repeat (first | (with_reducible first | exact HI0.out | apply IsS73.alloc | apply IsS73.drewN | apply IsS73.drew | apply IsS73.set_1 | refine IsS73.far ?_ NB0_160.out _ | refine IsS73.far ?_ NB0_166.out _) | exact HI0.out)) (rz HL184_0) (by decide)) hk (fun _ h => h.2)) (fun _ h => h.1)); have n5_ := Aside0.mk (keep_cell hk HX184_0.out (by first | (rw [add_block]; exact Kd.own_blk (IsS73.own_neS HI0.out HO_167002.out (by decide))) | (show (Addr.add _ _).block ≠ _; rw [add_block]; exact Kd.own_blk (IsS73.own_neS HI0.out HO_167002.out (by decide))) | exact Kd.own_blk (IsS73.own_neS HI0.out HO_167002.out (by decide)) | (dsimp only; exact Kd.own_blk (IsS73.own_neS HI0.out HO_167002.out (by decide))))); have n6_ := Aside0.mk (KeepBut.trans (by repeat (first | (with_reducible first | exact HK.out | apply KeepBut.set_ | apply keep_drewN | apply keep_drew | apply keep_alloc | refine keep_far ?_ GW160.out _ | refine keep_far ?_ GW166.out _) | exact HK.out)) hk (.inl rfl)); have n7_ := Aside0.mk (hb); have n8_ := Aside0.mk (hi); clear HO_167001 HO_167002 BK160 BK166 HL184_0 HX184_0 HK HB HI0; have HO_167001 := n0_; have HO_167002 := n1_; have BK160 := n2_; have BK166 := n3_; have HL184_0 := n4_; have HX184_0 := n5_; have HK := n6_; have HB := n7_; have HI0 := n8_; clear n0_ n1_ n2_ n3_ n4_ n5_ n6_ n7_ n8_; (try clear hb); (try clear hb2); (try clear hk); (try clear hi)))
                go_roundg k4
                case measure => have := HK1.out; have := HK2.out; have := HJ34.out; have := HK4.out; omega
                case rel => exact ⟨(wrap64 (x11_4 + 1)), (t188), (x167002_4), (.slice (some ad184) x167002_4.length co69), (by first | rfl | (simp; done) | (simp [*]; done)), H', ⟨by have := HK1.out; have := HK2.out; have := HJ34.out; have := HK4.out; omega⟩, ⟨rz HO_167001⟩, ⟨sz HO_167002⟩, ⟨bz BK160⟩, ⟨bz BK166⟩, ⟨by repeat (first | (with_reducible first | exact HI0.out | apply IsS73.alloc | apply IsS73.drewN | apply IsS73.drew | apply IsS73.set_1 | refine IsS73.far ?_ NB0_160.out _ | refine IsS73.far ?_ NB0_166.out _) | exact HI0.out)⟩, ⟨by repeat (first | (with_reducible first | exact HK.out | apply KeepBut.set_ | apply keep_drewN | apply keep_drew | apply keep_alloc | refine keep_far ?_ GW160.out _ | refine keep_far ?_ GW166.out _) | exact HK.out)⟩, ⟨by repeat (first | (with_reducible first | exact HB.out | apply below_alloc | apply pw_below_drewN | apply below_drew1 | refine below_set ?_ (IsS73.ge HI0.out) | refine below_set ?_ GE160.out | refine below_set ?_ GE166.out) | exact HB.out)⟩⟩
             ·rw [if_neg c40] at H
              have c40b0 : decide (x11_4 < ((rd_L5 x167002_4 x10_2).length : Int)) = false := decide_eq_false c40
              clear c40
              have H' := Aside0.mk H
              clear H
              have hnb72 := NB166_160.out
              have hnc72 := NB160_166.out
              have hnb73 := NB166_0.out
              have hnc73 := NB0_166.out
              have hcz74_0 := cz0 BK166
              have hcz74_1 := cz1 BK166
              have hcz74_2 := cz2 BK166
              have hfz74_0 := blk_frozen BK166.out 0
              have hfz74_1 := blk_frozen BK166.out 1
              have hfz74_2 := blk_frozen BK166.out 2
              obtain ⟨Ao75, co75, eo75⟩ := Kd.S_slice HO_167002.out
              subst eo75
              have p184 : 0 ≤ (x10_2 : Int) := oda
              have q184 : x10_2 < (x167002_4.length : Int) := oda
              obtain ⟨ad184, A184_0, c184_0, e184, hx184_0, hl184_0, hi184_0⟩ := at_L5 (Kd.S_reads' HO_167002.out).2.2 x10_2 p184 q184
              cases e184
              obtain ⟨ce184, hce184, hMe184, hcc184⟩ := Kd.S_get HO_167002.out [] x10_2 p184 (by first | exact q184 | exact oda | (have e_ := (Kd.S_reads' HO_167002.out).1; omega))
              obtain ⟨ve184_0, rfl, ge184_0⟩ := hMe184
              have hv184_0 := hcc184 0 _ rfl
              rw [Nat.add_zero, show ((Kd.slice 35 k35)).sz = 1 from rfl, Nat.mul_one] at hv184_0
              replace hv184_0 := Option.some.inj (hv184_0.symm.trans hx184_0)
              rw [hv184_0] at ge184_0
              have HL184_0 := Aside0.mk (show Kd.R k35 35 _ _ _ _ (rd_L5 x167002_4 x10_2) from ge184_0)
              clear hv184_0 ge184_0
              have HX184_0 := Aside0.mk hx184_0
              clear hcc184 hce184
              have HR184_0 := Aside0.mk hi184_0
              have HC184_0 := Aside0.mk hl184_0
              clear hi184_0 hl184_0
              replace p184 := eq_true p184
              replace q184 := eq_true q184
              go_wp2
              go_roundg k4
              case measure => have := HK1.out; have := HK2.out; have := HJ34.out; have := HK4.out; omega
              case rel => exact ⟨(wrap64 (x10_2 + 1)), (x1001_4), (x167002_4), (.slice (some ad184) x167002_4.length co75), (by first | rfl | (simp; done) | (simp [*]; done)), H', ⟨by have := HK1.out; have := HK2.out; have := HJ34.out; have := HK4.out; omega⟩, ⟨rz HO_167001⟩, ⟨sz HO_167002⟩, ⟨bz BK160⟩, ⟨bz BK166⟩, ⟨by repeat (first | (with_reducible first | exact HI0.out | apply IsS73.alloc | apply IsS73.drewN | apply IsS73.drew | apply IsS73.set_1 | refine IsS73.far ?_ NB0_160.out _ | refine IsS73.far ?_ NB0_166.out _) | exact HI0.out)⟩, ⟨by repeat (first | (with_reducible first | exact HK.out | apply KeepBut.set_ | apply keep_drewN | apply keep_drew | apply keep_alloc | refine keep_far ?_ GW160.out _ | refine keep_far ?_ GW166.out _) | exact HK.out)⟩, ⟨by repeat (first | (with_reducible first | exact HB.out | apply below_alloc | apply pw_below_drewN | apply below_drew1 | refine below_set ?_ (IsS73.ge HI0.out) | refine below_set ?_ GE160.out | refine below_set ?_ GE166.out) | exact HB.out)⟩⟩
            ·rw [if_neg c39] at H
             exact absurd H (by simp)
           ·rw [if_neg c38] at H
            exact absurd H (by simp)
        ·replace c37 := Bool.eq_false_iff.mpr c37
         subst c37
         have H1 : ((spec_l20Rd_odd.f kj34 s0_0 x1001_2 a1).bind fun bt200 => (if bt200.1 = true then ((spec_l20Rd_pick.f kj34 s0_0 bt200.2 3).bind fun bt202 => (if bt202.1 = 0 then (if 0 < (x167002_2.length : Int) then (if 0 < ((rd_L5 x167002_2 0).length : Int) then (some (t161, t162, (x167002_2.set (0 : Int).toNat ((rd_L5 x167002_2 0).set (0 : Int).toNat (⟨(rd_T35 (rd_L5 x167002_2 0) 0).f0, 0, (rd_T35 (rd_L5 x167002_2 0) 0).f2⟩ : S35))), bt202.2)) else (none)) else (none)) else (if bt202.1 = 1 then (some (t161, t162, (([] : List (List (S35)))), bt202.2)) else (if 0 < (x167002_2.length : Int) then (if 0 < ((rd_L5 x167002_2 0).length : Int) then (some (t161, t162, (x167002_2.set (0 : Int).toNat ((rd_L5 x167002_2 0).set (0 : Int).toNat (⟨(([] : List (S75))), (rd_T35 (rd_L5 x167002_2 0) 0).f1, (rd_T35 (rd_L5 x167002_2 0) 0).f2⟩ : S35))), bt202.2)) else (none)) else (none))))) else (some (t161, t162, x167002_2, bt200.2)))) = some (r1, r2, r3, r4) := by rw [if_neg (show ¬ (false = true) by decide)] at H; exact H
         clear H
         have H := H1
         clear H1
         replace H := Option.bind_eq_some_iff.mp H
         obtain ⟨⟨t200, t201⟩, A760, H⟩ := H
         replace H : (if t200 = true then ((spec_l20Rd_pick.f kj34 s0_0 t201 3).bind fun bt202 => (if bt202.1 = 0 then (if 0 < (x167002_2.length : Int) then (if 0 < ((rd_L5 x167002_2 0).length : Int) then (some (t161, t162, (x167002_2.set (0 : Int).toNat ((rd_L5 x167002_2 0).set (0 : Int).toNat (⟨(rd_T35 (rd_L5 x167002_2 0) 0).f0, 0, (rd_T35 (rd_L5 x167002_2 0) 0).f2⟩ : S35))), bt202.2)) else (none)) else (none)) else (if bt202.1 = 1 then (some (t161, t162, (([] : List (List (S35)))), bt202.2)) else (if 0 < (x167002_2.length : Int) then (if 0 < ((rd_L5 x167002_2 0).length : Int) then (some (t161, t162, (x167002_2.set (0 : Int).toNat ((rd_L5 x167002_2 0).set (0 : Int).toNat (⟨(([] : List (S75))), (rd_T35 (rd_L5 x167002_2 0) 0).f1, (rd_T35 (rd_L5 x167002_2 0) 0).f2⟩ : S35))), bt202.2)) else (none)) else (none))))) else (some (t161, t162, x167002_2, t201))) = some (r1, r2, r3, r4) := H
         have A76 := Aside0.mk A760
         clear A760
         by_cases c77 : t200 = true
         ·subst c77
          have H1 : ((spec_l20Rd_pick.f kj34 s0_0 t201 3).bind fun bt202 => (if bt202.1 = 0 then (if 0 < (x167002_2.length : Int) then (if 0 < ((rd_L5 x167002_2 0).length : Int) then (some (t161, t162, (x167002_2.set (0 : Int).toNat ((rd_L5 x167002_2 0).set (0 : Int).toNat (⟨(rd_T35 (rd_L5 x167002_2 0) 0).f0, 0, (rd_T35 (rd_L5 x167002_2 0) 0).f2⟩ : S35))), bt202.2)) else (none)) else (none)) else (if bt202.1 = 1 then (some (t161, t162, (([] : List (List (S35)))), bt202.2)) else (if 0 < (x167002_2.length : Int) then (if 0 < ((rd_L5 x167002_2 0).length : Int) then (some (t161, t162, (x167002_2.set (0 : Int).toNat ((rd_L5 x167002_2 0).set (0 : Int).toNat (⟨(([] : List (S75))), (rd_T35 (rd_L5 x167002_2 0) 0).f1, (rd_T35 (rd_L5 x167002_2 0) 0).f2⟩ : S35))), bt202.2)) else (none)) else (none))))) = some (r1, r2, r3, r4) := by rw [if_pos rfl] at H; exact H
          clear H
          have H := H1
          clear H1
          replace H := Option.bind_eq_some_iff.mp H
          obtain ⟨⟨t202, t203⟩, A780, H⟩ := H
          replace H : (if t202 = 0 then (if 0 < (x167002_2.length : Int) then (if 0 < ((rd_L5 x167002_2 0).length : Int) then (some (t161, t162, (x167002_2.set (0 : Int).toNat ((rd_L5 x167002_2 0).set (0 : Int).toNat (⟨(rd_T35 (rd_L5 x167002_2 0) 0).f0, 0, (rd_T35 (rd_L5 x167002_2 0) 0).f2⟩ : S35))), t203)) else (none)) else (none)) else (if t202 = 1 then (some (t161, t162, (([] : List (List (S35)))), t203)) else (if 0 < (x167002_2.length : Int) then (if 0 < ((rd_L5 x167002_2 0).length : Int) then (some (t161, t162, (x167002_2.set (0 : Int).toNat ((rd_L5 x167002_2 0).set (0 : Int).toNat (⟨(([] : List (S75))), (rd_T35 (rd_L5 x167002_2 0) 0).f1, (rd_T35 (rd_L5 x167002_2 0) 0).f2⟩ : S35))), t203)) else (none)) else (none)))) = some (r1, r2, r3, r4) := H
          have A78 := Aside0.mk A780
          clear A780
          by_cases c79 : t202 = 0
          ·rw [if_pos c79] at H
           have c79b0 : (t202 == 0) = true := beq_iff_eq.mpr c79
           have c79b1 : (t202 != 0) = false := bne_eq_false_iff_eq.mpr c79
           clear c79
           by_cases c80 : 0 < (x167002_2.length : Int)
           ·rw [if_pos c80] at H
            have c80b0 : decide (0 < (x167002_2.length : Int)) = true := decide_eq_true c80
            have c80b1 : decide (0 < x167002_2.length) = true := decide_eq_true (by omega)
            clear c80
            by_cases c81 : 0 < ((rd_L5 x167002_2 0).length : Int)
            ·rw [if_pos c81] at H
             have c81b0 : decide (0 < ((rd_L5 x167002_2 0).length : Int)) = true := decide_eq_true c81
             have c81b1 : decide (0 < (rd_L5 x167002_2 0).length) = true := decide_eq_true (by omega)
             clear c81
             obtain ⟨y205, hy205⟩ : ∃ y_ : List (S35), y_ = ((rd_L5 x167002_2 0).set (0 : Int).toNat (⟨(rd_T35 (rd_L5 x167002_2 0) 0).f0, 0, (rd_T35 (rd_L5 x167002_2 0) 0).f2⟩ : S35)) := ⟨_, rfl⟩
             replace H : (some (t161, t162, (x167002_2.set (0 : Int).toNat y205), t203)) = some (r1, r2, r3, r4) := by first | (rw [hy205]; with_reducible exact H) | (have H2_ := (Option.bind_some _ _).symm.trans H; rw [hy205]; with_reducible exact H2_) | (have H2_ := (Option.bind_some _ _).symm.trans H; with_reducible exact H2_) | with_reducible exact H | (rw [hy205]; exact H) | exact H
             have Ny205 := Aside0.mk hy205
             clear hy205
             obtain ⟨y207, hy207⟩ : ∃ y_ : List (List (S35)), y_ = (x167002_2.set (0 : Int).toNat y205) := ⟨_, rfl⟩
             replace H : (some (t161, t162, y207, t203)) = some (r1, r2, r3, r4) := by first | (rw [hy207]; with_reducible exact H) | (have H2_ := (Option.bind_some _ _).symm.trans H; rw [hy207]; with_reducible exact H2_) | (have H2_ := (Option.bind_some _ _).symm.trans H; with_reducible exact H2_) | with_reducible exact H | (rw [hy207]; exact H) | exact H
             have Ny207 := Aside0.mk hy207
             clear hy207
             simp only [Option.some.injEq, Prod.mk.injEq] at H
             obtain ⟨rfl, rfl, rfl, rfl⟩ := H
             go_wp2_with (first | ((with_reducible refine gate_callee (f := 46) rfl ?_); refine goesL_ (some 104) rfl rfl Try.func46 kr rfl #[.pointer (some ⟨g, 0, none⟩), .int .i64 a1] rfl lm ?_; (with_reducible refine (spec_l20Rd_odd.calls kj34 g s0_0 x1001_2 a1 true t201 w0 _ ?side1 ?side2 A76.out).mono ?_); (case side1 => repeat (first | (with_reducible first | exact HI0.out | apply IsS73.alloc | apply IsS73.drewN | apply IsS73.drew | apply IsS73.set_1 | refine IsS73.far ?_ NB0_160.out _ | refine IsS73.far ?_ NB0_166.out _) | exact HI0.out)); (case side2 => repeat (first | (with_reducible first | exact HB.out | apply below_alloc | apply pw_below_drewN | apply below_drew1 | refine below_set ?_ (IsS73.ge HI0.out) | refine below_set ?_ GE160.out | refine below_set ?_ GE166.out) | exact HB.out)); rintro e w83 ⟨rfl, hi, hb, hk⟩; refine ⟨_, rfl, ?_⟩; have n0_ := Aside0.mk (Kd.R_mono (Kd.R_keep (IsS73.apart (show IsS73 w0 _ g s0_0 x1001_2 from by repeat (first | (with_reducible first | exact HI0.out | apply IsS73.alloc | apply IsS73.drewN | apply IsS73.drew | apply IsS73.set_1 | refine IsS73.far ?_ NB0_160.out _ | refine IsS73.far ?_ NB0_166.out _) | exact HI0.out)) (rz HO_167001) (by decide)) hk (fun _ h => h.2)) (fun _ h => h.1)); have n1_ := Aside0.mk (Kd.S_mono (Kd.S_keep (IsS73.apartS (show IsS73 w0 _ g s0_0 x1001_2 from by repeat (first | (with_reducible first | exact HI0.out | apply IsS73.alloc | apply IsS73.drewN | apply IsS73.drew | apply IsS73.set_1 | refine IsS73.far ?_ NB0_160.out _ | refine IsS73.far ?_ NB0_166.out _) | exact HI0.out)) (sz HO_167002) (by decide)) hk (fun _ h => h.2)) (fun _ h => h.1)); have n2_ := Aside0.mk (KeepBut.blk hk (bz BK160) NB160_0.out (by simp)); have n3_ := Aside0.mk (KeepBut.blk hk (bz BK166) NB166_0.out (by simp)); have n4_ := Aside0.mk (KeepBut.trans (by repeat (first | (with_reducible first | exact HK.out | apply KeepBut.set_ | apply keep_drewN | apply keep_drew | apply keep_alloc | refine keep_far ?_ GW160.out _ | refine keep_far ?_ GW166.out _) | exact HK.out)) hk (.inl rfl)); have n5_ := Aside0.mk (hb); have n6_ := Aside0.mk (hi); clear HO_167001 HO_167002 BK160 BK166 HK HB HI0; have HO_167001 := n0_; have HO_167002 := n1_; have BK160 := n2_; have BK166 := n3_; have HK := n4_; have HB := n5_; have HI0 := n6_; clear n0_ n1_ n2_ n3_ n4_ n5_ n6_; (try clear hb); (try clear hb2); (try clear hk); (try clear hi)) | ((with_reducible refine gate_callee (f := 44) rfl ?_); refine goesL_ (some 106) rfl rfl Try.func44 kr rfl #[.pointer (some ⟨g, 0, none⟩), .int .i64 3] rfl lm ?_; (with_reducible refine (spec_l20Rd_pick.calls kj34 g s0_0 t201 3 t202 t203 w0 _ ?side1 ?side2 A78.out).mono ?_); (case side1 => repeat (first | (with_reducible first | exact HI0.out | apply IsS73.alloc | apply IsS73.drewN | apply IsS73.drew | apply IsS73.set_1 | refine IsS73.far ?_ NB0_160.out _ | refine IsS73.far ?_ NB0_166.out _) | exact HI0.out)); (case side2 => repeat (first | (with_reducible first | exact HB.out | apply below_alloc | apply pw_below_drewN | apply below_drew1 | refine below_set ?_ (IsS73.ge HI0.out) | refine below_set ?_ GE160.out | refine below_set ?_ GE166.out) | exact HB.out)); rintro e w84 ⟨rfl, hi, hb, hk⟩; refine ⟨_, rfl, ?_⟩; have n0_ := Aside0.mk (Kd.R_mono (Kd.R_keep (IsS73.apart (show IsS73 w0 _ g s0_0 t201 from by repeat (first | (with_reducible first | exact HI0.out | apply IsS73.alloc | apply IsS73.drewN | apply IsS73.drew | apply IsS73.set_1 | refine IsS73.far ?_ NB0_160.out _ | refine IsS73.far ?_ NB0_166.out _) | exact HI0.out)) (rz HO_167001) (by decide)) hk (fun _ h => h.2)) (fun _ h => h.1)); have n1_ := Aside0.mk (Kd.S_mono (Kd.S_keep (IsS73.apartS (show IsS73 w0 _ g s0_0 t201 from by repeat (first | (with_reducible first | exact HI0.out | apply IsS73.alloc | apply IsS73.drewN | apply IsS73.drew | apply IsS73.set_1 | refine IsS73.far ?_ NB0_160.out _ | refine IsS73.far ?_ NB0_166.out _) | exact HI0.out)) (sz HO_167002) (by decide)) hk (fun _ h => h.2)) (fun _ h => h.1)); have n2_ := Aside0.mk (KeepBut.blk hk (bz BK160) NB160_0.out (by simp)); have n3_ := Aside0.mk (KeepBut.blk hk (bz BK166) NB166_0.out (by simp)); have n4_ := Aside0.mk (KeepBut.trans (by repeat (first | (with_reducible first | exact HK.out | apply KeepBut.set_ | apply keep_drewN | apply keep_drew | apply keep_alloc | refine keep_far ?_ GW160.out _ | refine keep_far ?_ GW166.out _) | exact HK.out)) hk (.inl rfl)); have n5_ := Aside0.mk (hb); have n6_ := Aside0.mk (hi); clear HO_167001 HO_167002 BK160 BK166 HK HB HI0; have HO_167001 := n0_; have HO_167002 := n1_; have BK160 := n2_; have BK166 := n3_; have HK := n4_; have HB := n5_; have HI0 := n6_; clear n0_ n1_ n2_ n3_ n4_ n5_ n6_; (try clear hb); (try clear hb2); (try clear hk); (try clear hi); have hnb85 := NB166_160.out; have hnc85 := NB160_166.out; have hnb86 := NB166_0.out; have hnc86 := NB0_166.out; have hcz87_0 := cz0 BK166; have hcz87_1 := cz1 BK166; have hcz87_2 := cz2 BK166; have hfz87_0 := blk_frozen BK166.out 0; have hfz87_1 := blk_frozen BK166.out 1; have hfz87_2 := blk_frozen BK166.out 2; obtain ⟨Ao88, co88, eo88⟩ := Kd.S_slice HO_167002.out; subst eo88; have p204 : 0 ≤ (0 : Int) := (by omega); have q204 : 0 < (x167002_2.length : Int) := oda; obtain ⟨ad204, A204_0, c204_0, e204, hx204_0, hl204_0, hi204_0⟩ := at_L5 (Kd.S_reads' HO_167002.out).2.2 0 p204 q204; cases e204; obtain ⟨ce204, hce204, hMe204, hcc204⟩ := Kd.S_get HO_167002.out [] 0 p204 (by first | exact q204 | exact oda | (have e_ := (Kd.S_reads' HO_167002.out).1; omega)); obtain ⟨ve204_0, rfl, ge204_0⟩ := hMe204; have hv204_0 := hcc204 0 _ rfl; rw [Nat.add_zero, show ((Kd.slice 35 k35)).sz = 1 from rfl, Nat.mul_one] at hv204_0; replace hv204_0 := Option.some.inj (hv204_0.symm.trans hx204_0); rw [hv204_0] at ge204_0; have HL204_0 := Aside0.mk (show Kd.R k35 35 _ _ _ _ (rd_L5 x167002_2 0) from ge204_0); clear hv204_0 ge204_0; have HX204_0 := Aside0.mk hx204_0; clear hcc204 hce204; have qi204 : (0 < x167002_2.length) = True := eq_true (by omega); (try rw [show ((0 : Int)).toNat = 0 from rfl] at hx204_0); (try rw [Addr.add_zero'] at hx204_0); have HR204_0 := Aside0.mk hi204_0; have HC204_0 := Aside0.mk hl204_0; clear hi204_0 hl204_0; replace p204 := eq_true p204; replace q204 := eq_true q204; have p82 : 0 ≤ (0 : Int) := (by omega); have q82 : (0 : Int) < (((rd_L5 x167002_2 0).length : Int) : Int) := oda; have qi82 : (0 < (rd_L5 x167002_2 0).length) = True := eq_true (by omega); obtain ⟨go82, co82, eo82, gb82, gl82, cl82, HG82⟩ := Kd.R_form HL204_0.out (by omega); (first | cases eo82 | (injection eo82 with ea_ en_ ec_; (first | subst ea_ | (injection ea_ with ea_; subst ea_)); subst ec_; clear en_)); have GB82 := Aside0.mk gb82; have GG82 := Aside0.mk HG82; clear gb82 gl82 HG82; obtain ⟨ce82, hcl82, hM82, hcc82, hfr82⟩ := Kd.R_elem HL204_0.out z35 (0 : Int) p82 q82; obtain ⟨ve82_0, rfl, ge82_0⟩ := k35_openM hM82; have hx82_0 : w84.cell? ⟨go82, (0 : Int).toNat * 3, none⟩ = some (ve82_0) := hcc82 0 _ rfl; have hx82_1 : w84.cell? ⟨go82, (0 : Int).toNat * 3 + 1, none⟩ = some (.int .i64 ((rd_T35 (rd_L5 x167002_2 0) 0).f1)) := hcc82 1 _ rfl; have hx82_2 : w84.cell? ⟨go82, (0 : Int).toNat * 3 + 2, none⟩ = some (.int .i64 ((rd_T35 (rd_L5 x167002_2 0) 0).f2)) := hcc82 2 _ rfl; have hf82_0 : w84.frozen? ⟨go82, (0 : Int).toNat * 3, none⟩ = false := hfr82 0; have hf82_1 : w84.frozen? ⟨go82, (0 : Int).toNat * 3 + 1, none⟩ = false := hfr82 1; have hf82_2 : w84.frozen? ⟨go82, (0 : Int).toNat * 3 + 2, none⟩ = false := hfr82 2; (try clear hcl82); (try clear hcc82); (try clear hfr82); (try clear hM82); (try rw [show ((0 : Int)).toNat = 0 from rfl] at hx82_0); (try simp only [Nat.reduceMul, Nat.zero_mul, Nat.zero_add, Nat.reduceAdd] at hx82_0); (try rw [show ((0 : Int)).toNat = 0 from rfl] at hf82_0); (try simp only [Nat.reduceMul, Nat.zero_mul, Nat.zero_add, Nat.reduceAdd] at hf82_0); (try rw [show ((0 : Int)).toNat = 0 from rfl] at hx82_1); (try simp only [Nat.reduceMul, Nat.zero_mul, Nat.zero_add, Nat.reduceAdd] at hx82_1); (try rw [show ((0 : Int)).toNat = 0 from rfl] at hf82_1); (try simp only [Nat.reduceMul, Nat.zero_mul, Nat.zero_add, Nat.reduceAdd] at hf82_1); (try rw [show ((0 : Int)).toNat = 0 from rfl] at hx82_2); (try simp only [Nat.reduceMul, Nat.zero_mul, Nat.zero_add, Nat.reduceAdd] at hx82_2); (try rw [show ((0 : Int)).toNat = 0 from rfl] at hf82_2); (try simp only [Nat.reduceMul, Nat.zero_mul, Nat.zero_add, Nat.reduceAdd] at hf82_2); replace p82 := eq_true p82; replace q82 := eq_true q82; have hq89 : (0 : Int) < (x167002_2.length : Int) := (by have h_ : (0 : Int) < ((x167002_2.length : Int) : Int) := oda; first | exact h_ | (have e_ := (Kd.S_reads' HO_167002.out).1; omega) | simpa only [List.length_set, List.length_set] using h_); obtain ⟨oki89, ce89, hcl89, hM89, hcc89, hok89, hbk89⟩ := Kd.S_borrow HO_167002.out [] (0 : Int) (by omega) (by first | exact hq89 | (have e_ := (Kd.S_reads' HO_167002.out).1; omega)); obtain ⟨ve89_0, rfl, ge89_0⟩ := hM89; have hv89 := hcc89 0 _ rfl; rw [Nat.add_zero, show ((Kd.slice 35 k35)).sz = 1 from rfl, Nat.mul_one] at hv89; replace hv89 := Option.some.inj (hv89.symm.trans HX204_0.out); subst hv89; clear hcc89 hcl89; replace ge89_0 := (show Kd.R k35 35 _ _ _ _ (rd_L5 x167002_2 0) from ge89_0); obtain ⟨cf89, hcl89, hN89, hcc89, hfr89⟩ := Kd.R_elem ge89_0 z35 (0 : Int) (by omega) (by have h_ : (0 : Int) < (((rd_L5 x167002_2 0).length : Int) : Int) := oda; first | exact h_ | (have e_ := (Kd.S_reads' HR204_0.out).1; omega) | simpa using h_); obtain ⟨vf89_0, rfl, gf89_0⟩ := k35_openM hN89; have HP89 := Kd.R_seg ge89_0 (0 : Int) (by omega) (by have h_ : (0 : Int) < (((rd_L5 x167002_2 0).length : Int) : Int) := oda; first | exact h_ | (have e_ := (Kd.S_reads' HR204_0.out).1; omega) | simpa using h_) (seg := [.int .i64 0]) (j := 1) hcl89 hcc89 (show 2 ≤ 3 from by decide) (x' := (⟨(rd_T35 (rd_L5 x167002_2 0) 0).f0, 0, (rd_T35 (rd_L5 x167002_2 0) 0).f2⟩ : S35)) (k35_mkM _ _ _ (⟨(rd_T35 (rd_L5 x167002_2 0) 0).f0, 0, (rd_T35 (rd_L5 x167002_2 0) 0).f2⟩ : S35) gf89_0) (fun _ hk => hk); clear hcl89 hcc89 hfr89 hN89) | ((with_reducible refine gate_store (t := 3) (p := 121) rfl ?_); refine store_event (t := 3) (p := 121) (v := ?vo_w90) (w1 := (w84.setCell ⟨go82, 1, none⟩ (.int .i64 0))) ?hg ?ho ?hn ?hr ?_; (case ho => rfl); (case hg => rfl); (case hn => rfl); (case hr => first | (go_simp; done) | (go_simp; rfl)); intro w90 hw; have hg : w84.grownBy w90 (some go82) := (by rw [hw]; exact HP89.2); have hz_ : Kd.R k35 35 w90 w.heap.size oki89 (.slice (some ⟨go82, 0, none⟩) (rd_L5 x167002_2 0).length c204_0) y205 := (by rw [hw, Ny205.out]; first | exact HP89.1); have hp_ : Kd.S (Kd.slice 35 k35) 32 w90 w.heap.size (fun _ => True) (.slice (some ad204) x167002_2.length co88) y207 := (by rw [Ny207.out]; exact hbk89 hg (fun k_ e_ => by injection e_ with e_; subst e_; exact ge89_0.1 _ rfl) (Kd.M_row hz_)); have hm_ := Kd.R_mono hz_ hok89; clear HP89 hbk89; have n0_ := Aside0.mk (Kd.R_over' (v := (.slice (some ⟨go82, 0, none⟩) (rd_L5 x167002_2 0).length c204_0)) (rz HO_167001) (Kd.R_typed HL204_0.out) (by decide) hg); have n1_ := Aside0.mk (hp_); have n2_ := Aside0.mk (blk_grown (bz BK160) hg (Kd.R_ne HL204_0.out BK160.out (by decide))); have n3_ := Aside0.mk (blk_grown (bz BK166) hg (Kd.R_ne HL204_0.out BK166.out (by decide))); have n4_ := Aside0.mk (IsS73.grown ((show IsS73 w0 _ g s0_0 t203 from by repeat (first | (with_reducible first | exact HI0.out | apply IsS73.alloc | apply IsS73.drewN | apply IsS73.drew | apply IsS73.set_1 | refine IsS73.far ?_ NB0_160.out _ | refine IsS73.far ?_ NB0_166.out _) | exact HI0.out))) hg (IsS73.own_ne HI0.out HL204_0.out (by decide))); have n5_ := Aside0.mk ((by rw [hw]; exact below_set (HB.out) (Nat.le_trans HL.out GB82.out) : Below w0.heap.size w0 w90)); have n6_ := Aside0.mk (KeepBut.trans (by repeat (first | (with_reducible first | exact HK.out | apply KeepBut.set_ | apply keep_drewN | apply keep_drew | apply keep_alloc | refine keep_far ?_ GW160.out _ | refine keep_far ?_ GW166.out _) | exact HK.out)) (KeepBut.of_grown hg g) (Kd.R_base2 HL204_0.out)); have n7_ := Aside0.mk (hm_); have n8_ := Aside0.mk ((Kd.R_reads' hm_).2.1); clear HO_167001 HO_167002 BK160 BK166 HI0 HB HK HL204_0; have HO_167001 := n0_; have HO_167002 := n1_; have BK160 := n2_; have BK166 := n3_; have HI0 := n4_; have HB := n5_; have HK := n6_; have HL219 := n7_; have HC206 := n8_; clear n0_ n1_ n2_ n3_ n4_ n5_ n6_ n7_ n8_ hg hw hp_ hz_ hm_ hok89; have hcz91_0 := cz0 BK166; have hcz91_1 := cz1 BK166; have hcz91_2 := cz2 BK166; have hfz91_0 := blk_frozen BK166.out 0; have hfz91_1 := blk_frozen BK166.out 1; have hfz91_2 := blk_frozen BK166.out 2; have hnb92 := NB160_0.out; have hnc92 := NB0_160.out; have hcz93_0 := cz0 BK160; have hcz93_1 := cz1 BK160; have hcz93_2 := cz2 BK160; have hfz93_0 := blk_frozen BK160.out 0; have hfz93_1 := blk_frozen BK160.out 1; have hfz93_2 := blk_frozen BK160.out 2))
             refine bodyPost_ret (results_cell_row rfl _ _ gb160 28 #[.int .i64 t161, .slice Ao7 t162.length co7, .slice (some ad204) x167002_2.length co88] (0, 0) _ rfl (bp BK160) Try.underlying28 rfl kr) rfl ?_
             exact ⟨_, _, by first | rfl | (simp [errW_none, errW_some] <;> rfl) | (simp [*, errW_none, errW_some] <;> rfl), by (with_reducible repeat (first | apply Kd.R_alloc | apply Kd.R_drewN | apply Kd.R_drew)); exact Kd.R_mono (Kd.R_far (p := ⟨gb160, 2, none⟩) (Kd.R_far (p := ⟨gb160, 1, none⟩) (Kd.R_far (p := ⟨gb160, 0, none⟩) (Kd.R_types HO_167001.out BK160.out (by decide)) (fun _ hk => hk.2) (.int .i64 t161)) (fun _ hk => hk.2) (.slice Ao7 t162.length co7)) (fun _ hk => hk.2) (.slice (some ad204) x167002_2.length co88)) (fun _ hk => trivial), by (with_reducible repeat (first | apply Kd.S_alloc | apply Kd.S_drewN | apply Kd.S_drew)); exact Kd.S_mono (Kd.S_far (p := ⟨gb160, 2, none⟩) (Kd.S_far (p := ⟨gb160, 1, none⟩) (Kd.S_far (p := ⟨gb160, 0, none⟩) (Kd.S_types HO_167002.out BK160.out (by decide)) (fun _ hk => hk.2) (.int .i64 t161)) (fun _ hk => hk.2) (.slice Ao7 t162.length co7)) (fun _ hk => hk.2) (.slice (some ad204) x167002_2.length co88)) (fun _ hk => trivial), by repeat (first | (with_reducible first | exact HI0.out | apply IsS73.alloc | apply IsS73.drewN | apply IsS73.drew | apply IsS73.set_1 | refine IsS73.far ?_ NB0_160.out _ | refine IsS73.far ?_ NB0_166.out _) | exact HI0.out), by repeat (first | (with_reducible first | exact HB.out | apply below_alloc | apply pw_below_drewN | apply below_drew1 | refine below_set ?_ (IsS73.ge HI0.out) | refine below_set ?_ GE160.out | refine below_set ?_ GE166.out) | exact HB.out), by repeat (first | (with_reducible first | exact HK.out | apply KeepBut.set_ | apply keep_drewN | apply keep_drew | apply keep_alloc | refine keep_far ?_ GW160.out _ | refine keep_far ?_ GW166.out _) | exact HK.out)⟩
            ·rw [if_neg c81] at H
             exact absurd H (by simp)
           ·rw [if_neg c80] at H
            exact absurd H (by simp)
          ·rw [if_neg c79] at H
           have c79b0 : (t202 == 0) = false := beq_eq_false_iff_ne.mpr c79
           have c79b1 : (t202 != 0) = true := bne_iff_ne.mpr c79
           by_cases c94 : t202 = 1
           ·rw [if_pos c94] at H
            have c94b0 : (t202 == 1) = true := beq_iff_eq.mpr c94
            have c94b1 : (t202 != 1) = false := bne_eq_false_iff_eq.mpr c94
            clear c94
            obtain ⟨y208, hy208⟩ : ∃ y_ : List (List (S35)), y_ = (([] : List (List (S35)))) := ⟨_, rfl⟩
            replace H : (some (t161, t162, y208, t203)) = some (r1, r2, r3, r4) := by first | (rw [hy208]; with_reducible exact H) | (have H2_ := (Option.bind_some _ _).symm.trans H; rw [hy208]; with_reducible exact H2_) | (have H2_ := (Option.bind_some _ _).symm.trans H; with_reducible exact H2_) | with_reducible exact H | (rw [hy208]; exact H) | exact H
            have Ny208 := Aside0.mk hy208
            clear hy208
            simp only [Option.some.injEq, Prod.mk.injEq] at H
            obtain ⟨rfl, rfl, rfl, rfl⟩ := H
            go_wp2_with (first | ((with_reducible refine gate_callee (f := 46) rfl ?_); refine goesL_ (some 104) rfl rfl Try.func46 kr rfl #[.pointer (some ⟨g, 0, none⟩), .int .i64 a1] rfl lm ?_; (with_reducible refine (spec_l20Rd_odd.calls kj34 g s0_0 x1001_2 a1 true t201 w0 _ ?side1 ?side2 A76.out).mono ?_); (case side1 => repeat (first | (with_reducible first | exact HI0.out | apply IsS73.alloc | apply IsS73.drewN | apply IsS73.drew | apply IsS73.set_1 | refine IsS73.far ?_ NB0_160.out _ | refine IsS73.far ?_ NB0_166.out _) | exact HI0.out)); (case side2 => repeat (first | (with_reducible first | exact HB.out | apply below_alloc | apply pw_below_drewN | apply below_drew1 | refine below_set ?_ (IsS73.ge HI0.out) | refine below_set ?_ GE160.out | refine below_set ?_ GE166.out) | exact HB.out)); rintro e w95 ⟨rfl, hi, hb, hk⟩; refine ⟨_, rfl, ?_⟩; have n0_ := Aside0.mk (Kd.R_mono (Kd.R_keep (IsS73.apart (show IsS73 w0 _ g s0_0 x1001_2 from by repeat (first | (with_reducible first | exact HI0.out | apply IsS73.alloc | apply IsS73.drewN | apply IsS73.drew | apply IsS73.set_1 | refine IsS73.far ?_ NB0_160.out _ | refine IsS73.far ?_ NB0_166.out _) | exact HI0.out)) (rz HO_167001) (by decide)) hk (fun _ h => h.2)) (fun _ h => h.1)); have n1_ := Aside0.mk (Kd.S_mono (Kd.S_keep (IsS73.apartS (show IsS73 w0 _ g s0_0 x1001_2 from by repeat (first | (with_reducible first | exact HI0.out | apply IsS73.alloc | apply IsS73.drewN | apply IsS73.drew | apply IsS73.set_1 | refine IsS73.far ?_ NB0_160.out _ | refine IsS73.far ?_ NB0_166.out _) | exact HI0.out)) (sz HO_167002) (by decide)) hk (fun _ h => h.2)) (fun _ h => h.1)); have n2_ := Aside0.mk (KeepBut.blk hk (bz BK160) NB160_0.out (by simp)); have n3_ := Aside0.mk (KeepBut.blk hk (bz BK166) NB166_0.out (by simp)); have n4_ := Aside0.mk (KeepBut.trans (by repeat (first | (with_reducible first | exact HK.out | apply KeepBut.set_ | apply keep_drewN | apply keep_drew | apply keep_alloc | refine keep_far ?_ GW160.out _ | refine keep_far ?_ GW166.out _) | exact HK.out)) hk (.inl rfl)); have n5_ := Aside0.mk (hb); have n6_ := Aside0.mk (hi); clear HO_167001 HO_167002 BK160 BK166 HK HB HI0; have HO_167001 := n0_; have HO_167002 := n1_; have BK160 := n2_; have BK166 := n3_; have HK := n4_; have HB := n5_; have HI0 := n6_; clear n0_ n1_ n2_ n3_ n4_ n5_ n6_; (try clear hb); (try clear hb2); (try clear hk); (try clear hi)) | ((with_reducible refine gate_callee (f := 44) rfl ?_); refine goesL_ (some 106) rfl rfl Try.func44 kr rfl #[.pointer (some ⟨g, 0, none⟩), .int .i64 3] rfl lm ?_; (with_reducible refine (spec_l20Rd_pick.calls kj34 g s0_0 t201 3 t202 t203 w0 _ ?side1 ?side2 A78.out).mono ?_); (case side1 => repeat (first | (with_reducible first | exact HI0.out | apply IsS73.alloc | apply IsS73.drewN | apply IsS73.drew | apply IsS73.set_1 | refine IsS73.far ?_ NB0_160.out _ | refine IsS73.far ?_ NB0_166.out _) | exact HI0.out)); (case side2 => repeat (first | (with_reducible first | exact HB.out | apply below_alloc | apply pw_below_drewN | apply below_drew1 | refine below_set ?_ (IsS73.ge HI0.out) | refine below_set ?_ GE160.out | refine below_set ?_ GE166.out) | exact HB.out)); rintro e w96 ⟨rfl, hi, hb, hk⟩; refine ⟨_, rfl, ?_⟩; have n0_ := Aside0.mk (Kd.R_mono (Kd.R_keep (IsS73.apart (show IsS73 w0 _ g s0_0 t201 from by repeat (first | (with_reducible first | exact HI0.out | apply IsS73.alloc | apply IsS73.drewN | apply IsS73.drew | apply IsS73.set_1 | refine IsS73.far ?_ NB0_160.out _ | refine IsS73.far ?_ NB0_166.out _) | exact HI0.out)) (rz HO_167001) (by decide)) hk (fun _ h => h.2)) (fun _ h => h.1)); have n1_ := Aside0.mk (Kd.S_mono (Kd.S_keep (IsS73.apartS (show IsS73 w0 _ g s0_0 t201 from by repeat (first | (with_reducible first | exact HI0.out | apply IsS73.alloc | apply IsS73.drewN | apply IsS73.drew | apply IsS73.set_1 | refine IsS73.far ?_ NB0_160.out _ | refine IsS73.far ?_ NB0_166.out _) | exact HI0.out)) (sz HO_167002) (by decide)) hk (fun _ h => h.2)) (fun _ h => h.1)); have n2_ := Aside0.mk (KeepBut.blk hk (bz BK160) NB160_0.out (by simp)); have n3_ := Aside0.mk (KeepBut.blk hk (bz BK166) NB166_0.out (by simp)); have n4_ := Aside0.mk (KeepBut.trans (by repeat (first | (with_reducible first | exact HK.out | apply KeepBut.set_ | apply keep_drewN | apply keep_drew | apply keep_alloc | refine keep_far ?_ GW160.out _ | refine keep_far ?_ GW166.out _) | exact HK.out)) hk (.inl rfl)); have n5_ := Aside0.mk (hb); have n6_ := Aside0.mk (hi); clear HO_167001 HO_167002 BK160 BK166 HK HB HI0; have HO_167001 := n0_; have HO_167002 := n1_; have BK160 := n2_; have BK166 := n3_; have HK := n4_; have HB := n5_; have HI0 := n6_; clear n0_ n1_ n2_ n3_ n4_ n5_ n6_; (try clear hb); (try clear hb2); (try clear hk); (try clear hi)) | ((with_reducible refine gate_dst (N := 124) rfl ?_); refine Kd.S_lit (Kd.slice 35 k35) _ 32 ?hg (N := 124) ?hd (xs := ([] : List (List (S35)))) (inner := []) (ok := fun _ => True) (okp := fun _ => True) ?hr ?hp (fun _ hk => hk) trivial (Below.refl _ _) (Nat.le_refl _) (by simp) ?_; (case hd => rfl); (case hg => rfl); (case hr => first | (go_simp; done) | (go_simp; rfl)); (case hp => exact (Reps.none _ _)); intro v209 w97 ho98 hb hg_ hnew_; clear hg_ hnew_; (first | rw [← Ny208.out] at ho98 | (simp only [Int.reduceToNat] at ho98; rw [← Ny208.out] at ho98)); have n0_ := Aside0.mk (Kd.R_below (rz HO_167001) hb); have n1_ := Aside0.mk (Kd.S_elder' (sz HO_167002) (Kd.S_base ho98) hb); have n2_ := Aside0.mk (Kd.S_lower (Kd.S_new' ho98 (Kd.S_lt (sz HO_167002))) (keep_size (w := w) (g := g) (row := none) (by repeat (first | (with_reducible first | exact HK.out | apply KeepBut.set_ | apply keep_drewN | apply keep_drew | apply keep_alloc | refine keep_far ?_ GW160.out _ | refine keep_far ?_ GW166.out _) | exact HK.out)))); have n3_ := Aside0.mk (blk_below (bz BK160) hb); have n4_ := Aside0.mk (blk_below (bz BK166) hb); have n5_ := Aside0.mk (IsS73.below (by repeat (first | (with_reducible first | exact HI0.out | apply IsS73.alloc | apply IsS73.drewN | apply IsS73.drew | apply IsS73.set_1 | refine IsS73.far ?_ NB0_160.out _ | refine IsS73.far ?_ NB0_166.out _) | exact HI0.out)) hb); have n6_ := Aside0.mk (KeepBut.trans (by repeat (first | (with_reducible first | exact HK.out | apply KeepBut.set_ | apply keep_drewN | apply keep_drew | apply keep_alloc | refine keep_far ?_ GW160.out _ | refine keep_far ?_ GW166.out _) | exact HK.out)) (KeepBut.of_below hb g none) (.inl rfl)); have n7_ := Aside0.mk (below_step (by repeat (first | (with_reducible first | exact HB.out | apply below_alloc | apply pw_below_drewN | apply below_drew1 | refine below_set ?_ (IsS73.ge HI0.out) | refine below_set ?_ GE160.out | refine below_set ?_ GE166.out) | exact HB.out)) hb); clear HO_167001 HO_167002 BK160 BK166 HI0 HK HB; have HO_167001 := n0_; have HO_167002 := n1_; have HO210 := n2_; have BK160 := n3_; have BK166 := n4_; have HI0 := n5_; have HK := n6_; have HB := n7_; clear n0_ n1_ n2_ n3_ n4_ n5_ n6_ n7_ hb ho98; obtain ⟨Ao99, co99, eo99⟩ := Kd.S_slice HO210.out; subst eo99; have hnb100 := NB166_160.out; have hnc100 := NB160_166.out; have hnb101 := NB166_0.out; have hnc101 := NB0_166.out; have hcz102_0 := cz0 BK166; have hcz102_1 := cz1 BK166; have hcz102_2 := cz2 BK166; have hfz102_0 := blk_frozen BK166.out 0; have hfz102_1 := blk_frozen BK166.out 1; have hfz102_2 := blk_frozen BK166.out 2; have hnb103 := NB160_0.out; have hnc103 := NB0_160.out; have hcz104_0 := cz0 BK160; have hcz104_1 := cz1 BK160; have hcz104_2 := cz2 BK160; have hfz104_0 := blk_frozen BK160.out 0; have hfz104_1 := blk_frozen BK160.out 1; have hfz104_2 := blk_frozen BK160.out 2))
            refine bodyPost_ret (results_cell_row rfl _ _ gb160 28 #[.int .i64 t161, .slice Ao7 t162.length co7, .slice Ao99 y208.length co99] (0, 0) _ rfl (by (with_reducible repeat (first | refine blk_drewN ?_ _ | refine blk_drew ?_ | refine blk_alloc ?_ _)); refine blk_put (cs := #[.int .i64 t161, .slice Ao7 t162.length co7, .slice none 0 0]) ?_ 2 _ rfl; (with_reducible repeat (first | refine blk_drewN ?_ _ | refine blk_drew ?_ | refine blk_alloc ?_ _)); refine blk_put (cs := #[.int .i64 t161, .slice none 0 0, .slice none 0 0]) ?_ 1 _ rfl; (with_reducible repeat (first | refine blk_drewN ?_ _ | refine blk_drew ?_ | refine blk_alloc ?_ _)); refine blk_put (cs := #[.int .i64 0, .slice none 0 0, .slice none 0 0]) ?_ 0 _ rfl; (with_reducible repeat (first | refine blk_drewN ?_ _ | refine blk_drew ?_ | refine blk_alloc ?_ _)); refine blk_far ?_ NB160_166.out _; (with_reducible repeat (first | refine blk_drewN ?_ _ | refine blk_drew ?_ | refine blk_alloc ?_ _)); exact BK160.out) Try.underlying28 rfl kr) rfl ?_
            exact ⟨_, _, by first | rfl | (simp [errW_none, errW_some] <;> rfl) | (simp [*, errW_none, errW_some] <;> rfl), by (with_reducible repeat (first | apply Kd.R_alloc | apply Kd.R_drewN | apply Kd.R_drew)); exact Kd.R_mono (Kd.R_far (p := ⟨gb160, 2, none⟩) (Kd.R_far (p := ⟨gb160, 1, none⟩) (Kd.R_far (p := ⟨gb160, 0, none⟩) (Kd.R_far (p := ⟨gb166, 2, none⟩) (Kd.R_types (Kd.R_types HO_167001.out BK166.out (by decide)) BK160.out (by decide)) (fun _ hk => hk.1.2) (.slice Ao99 y208.length co99)) (fun _ hk => hk.2) (.int .i64 t161)) (fun _ hk => hk.2) (.slice Ao7 t162.length co7)) (fun _ hk => hk.2) (.slice Ao99 y208.length co99)) (fun _ hk => trivial), by (with_reducible repeat (first | apply Kd.S_alloc | apply Kd.S_drewN | apply Kd.S_drew)); exact Kd.S_mono (Kd.S_far (p := ⟨gb160, 2, none⟩) (Kd.S_far (p := ⟨gb160, 1, none⟩) (Kd.S_far (p := ⟨gb160, 0, none⟩) (Kd.S_far (p := ⟨gb166, 2, none⟩) (Kd.S_types (Kd.S_types HO210.out BK166.out (by decide)) BK160.out (by decide)) (fun _ hk => hk.1.2) (.slice Ao99 y208.length co99)) (fun _ hk => hk.2) (.int .i64 t161)) (fun _ hk => hk.2) (.slice Ao7 t162.length co7)) (fun _ hk => hk.2) (.slice Ao99 y208.length co99)) (fun _ hk => trivial), by repeat (first | (with_reducible first | exact HI0.out | apply IsS73.alloc | apply IsS73.drewN | apply IsS73.drew | apply IsS73.set_1 | refine IsS73.far ?_ NB0_160.out _ | refine IsS73.far ?_ NB0_166.out _) | exact HI0.out), by repeat (first | (with_reducible first | exact HB.out | apply below_alloc | apply pw_below_drewN | apply below_drew1 | refine below_set ?_ (IsS73.ge HI0.out) | refine below_set ?_ GE160.out | refine below_set ?_ GE166.out) | exact HB.out), by repeat (first | (with_reducible first | exact HK.out | apply KeepBut.set_ | apply keep_drewN | apply keep_drew | apply keep_alloc | refine keep_far ?_ GW160.out _ | refine keep_far ?_ GW166.out _) | exact HK.out)⟩
           ·rw [if_neg c94] at H
            have c94b0 : (t202 == 1) = false := beq_eq_false_iff_ne.mpr c94
            have c94b1 : (t202 != 1) = true := bne_iff_ne.mpr c94
            by_cases c105 : 0 < (x167002_2.length : Int)
            ·rw [if_pos c105] at H
             have c105b0 : decide (0 < (x167002_2.length : Int)) = true := decide_eq_true c105
             have c105b1 : decide (0 < x167002_2.length) = true := decide_eq_true (by omega)
             clear c105
             obtain ⟨y212, hy212⟩ : ∃ y_ : List (S75), y_ = (([] : List (S75))) := ⟨_, rfl⟩
             replace H : (if 0 < ((rd_L5 x167002_2 0).length : Int) then (some (t161, t162, (x167002_2.set (0 : Int).toNat ((rd_L5 x167002_2 0).set (0 : Int).toNat (⟨y212, (rd_T35 (rd_L5 x167002_2 0) 0).f1, (rd_T35 (rd_L5 x167002_2 0) 0).f2⟩ : S35))), t203)) else (none)) = some (r1, r2, r3, r4) := by first | (rw [hy212]; with_reducible exact H) | (have H2_ := (Option.bind_some _ _).symm.trans H; rw [hy212]; with_reducible exact H2_) | (have H2_ := (Option.bind_some _ _).symm.trans H; with_reducible exact H2_) | with_reducible exact H | (rw [hy212]; exact H) | exact H
             have Ny212 := Aside0.mk hy212
             clear hy212
             by_cases c106 : 0 < ((rd_L5 x167002_2 0).length : Int)
             ·rw [if_pos c106] at H
              have c106b0 : decide (0 < ((rd_L5 x167002_2 0).length : Int)) = true := decide_eq_true c106
              have c106b1 : decide (0 < (rd_L5 x167002_2 0).length) = true := decide_eq_true (by omega)
              clear c106
              obtain ⟨y215, hy215⟩ : ∃ y_ : List (S35), y_ = ((rd_L5 x167002_2 0).set (0 : Int).toNat (⟨y212, (rd_T35 (rd_L5 x167002_2 0) 0).f1, (rd_T35 (rd_L5 x167002_2 0) 0).f2⟩ : S35)) := ⟨_, rfl⟩
              replace H : (some (t161, t162, (x167002_2.set (0 : Int).toNat y215), t203)) = some (r1, r2, r3, r4) := by first | (rw [hy215]; with_reducible exact H) | (have H2_ := (Option.bind_some _ _).symm.trans H; rw [hy215]; with_reducible exact H2_) | (have H2_ := (Option.bind_some _ _).symm.trans H; with_reducible exact H2_) | with_reducible exact H | (rw [hy215]; exact H) | exact H
              have Ny215 := Aside0.mk hy215
              clear hy215
              obtain ⟨y217, hy217⟩ : ∃ y_ : List (List (S35)), y_ = (x167002_2.set (0 : Int).toNat y215) := ⟨_, rfl⟩
              replace H : (some (t161, t162, y217, t203)) = some (r1, r2, r3, r4) := by first | (rw [hy217]; with_reducible exact H) | (have H2_ := (Option.bind_some _ _).symm.trans H; rw [hy217]; with_reducible exact H2_) | (have H2_ := (Option.bind_some _ _).symm.trans H; with_reducible exact H2_) | with_reducible exact H | (rw [hy217]; exact H) | exact H
              have Ny217 := Aside0.mk hy217
              clear hy217
              simp only [Option.some.injEq, Prod.mk.injEq] at H
              obtain ⟨rfl, rfl, rfl, rfl⟩ := H
              go_wp2_with (first | ((with_reducible refine gate_callee (f := 46) rfl ?_); refine goesL_ (some 104) rfl rfl Try.func46 kr rfl #[.pointer (some ⟨g, 0, none⟩), .int .i64 a1] rfl lm ?_; (with_reducible refine (spec_l20Rd_odd.calls kj34 g s0_0 x1001_2 a1 true t201 w0 _ ?side1 ?side2 A76.out).mono ?_); (case side1 => repeat (first | (with_reducible first | exact HI0.out | apply IsS73.alloc | apply IsS73.drewN | apply IsS73.drew | apply IsS73.set_1 | refine IsS73.far ?_ NB0_160.out _ | refine IsS73.far ?_ NB0_166.out _) | exact HI0.out)); (case side2 => repeat (first | (with_reducible first | exact HB.out | apply below_alloc | apply pw_below_drewN | apply below_drew1 | refine below_set ?_ (IsS73.ge HI0.out) | refine below_set ?_ GE160.out | refine below_set ?_ GE166.out) | exact HB.out)); rintro e w108 ⟨rfl, hi, hb, hk⟩; refine ⟨_, rfl, ?_⟩; have n0_ := Aside0.mk (Kd.R_mono (Kd.R_keep (IsS73.apart (show IsS73 w0 _ g s0_0 x1001_2 from by repeat (first | (with_reducible first | exact HI0.out | apply IsS73.alloc | apply IsS73.drewN | apply IsS73.drew | apply IsS73.set_1 | refine IsS73.far ?_ NB0_160.out _ | refine IsS73.far ?_ NB0_166.out _) | exact HI0.out)) (rz HO_167001) (by decide)) hk (fun _ h => h.2)) (fun _ h => h.1)); have n1_ := Aside0.mk (Kd.S_mono (Kd.S_keep (IsS73.apartS (show IsS73 w0 _ g s0_0 x1001_2 from by repeat (first | (with_reducible first | exact HI0.out | apply IsS73.alloc | apply IsS73.drewN | apply IsS73.drew | apply IsS73.set_1 | refine IsS73.far ?_ NB0_160.out _ | refine IsS73.far ?_ NB0_166.out _) | exact HI0.out)) (sz HO_167002) (by decide)) hk (fun _ h => h.2)) (fun _ h => h.1)); have n2_ := Aside0.mk (KeepBut.blk hk (bz BK160) NB160_0.out (by simp)); have n3_ := Aside0.mk (KeepBut.blk hk (bz BK166) NB166_0.out (by simp)); have n4_ := Aside0.mk (KeepBut.trans (by repeat (first | (with_reducible first | exact HK.out | apply KeepBut.set_ | apply keep_drewN | apply keep_drew | apply keep_alloc | refine keep_far ?_ GW160.out _ | refine keep_far ?_ GW166.out _) | exact HK.out)) hk (.inl rfl)); have n5_ := Aside0.mk (hb); have n6_ := Aside0.mk (hi); clear HO_167001 HO_167002 BK160 BK166 HK HB HI0; have HO_167001 := n0_; have HO_167002 := n1_; have BK160 := n2_; have BK166 := n3_; have HK := n4_; have HB := n5_; have HI0 := n6_; clear n0_ n1_ n2_ n3_ n4_ n5_ n6_; (try clear hb); (try clear hb2); (try clear hk); (try clear hi)) | ((with_reducible refine gate_callee (f := 44) rfl ?_); refine goesL_ (some 106) rfl rfl Try.func44 kr rfl #[.pointer (some ⟨g, 0, none⟩), .int .i64 3] rfl lm ?_; (with_reducible refine (spec_l20Rd_pick.calls kj34 g s0_0 t201 3 t202 t203 w0 _ ?side1 ?side2 A78.out).mono ?_); (case side1 => repeat (first | (with_reducible first | exact HI0.out | apply IsS73.alloc | apply IsS73.drewN | apply IsS73.drew | apply IsS73.set_1 | refine IsS73.far ?_ NB0_160.out _ | refine IsS73.far ?_ NB0_166.out _) | exact HI0.out)); (case side2 => repeat (first | (with_reducible first | exact HB.out | apply below_alloc | apply pw_below_drewN | apply below_drew1 | refine below_set ?_ (IsS73.ge HI0.out) | refine below_set ?_ GE160.out | refine below_set ?_ GE166.out) | exact HB.out)); rintro e w109 ⟨rfl, hi, hb, hk⟩; refine ⟨_, rfl, ?_⟩; have n0_ := Aside0.mk (Kd.R_mono (Kd.R_keep (IsS73.apart (show IsS73 w0 _ g s0_0 t201 from by repeat (first | (with_reducible first | exact HI0.out | apply IsS73.alloc | apply IsS73.drewN | apply IsS73.drew | apply IsS73.set_1 | refine IsS73.far ?_ NB0_160.out _ | refine IsS73.far ?_ NB0_166.out _) | exact HI0.out)) (rz HO_167001) (by decide)) hk (fun _ h => h.2)) (fun _ h => h.1)); have n1_ := Aside0.mk (Kd.S_mono (Kd.S_keep (IsS73.apartS (show IsS73 w0 _ g s0_0 t201 from by repeat (first | (with_reducible first | exact HI0.out | apply IsS73.alloc | apply IsS73.drewN | apply IsS73.drew | apply IsS73.set_1 | refine IsS73.far ?_ NB0_160.out _ | refine IsS73.far ?_ NB0_166.out _) | exact HI0.out)) (sz HO_167002) (by decide)) hk (fun _ h => h.2)) (fun _ h => h.1)); have n2_ := Aside0.mk (KeepBut.blk hk (bz BK160) NB160_0.out (by simp)); have n3_ := Aside0.mk (KeepBut.blk hk (bz BK166) NB166_0.out (by simp)); have n4_ := Aside0.mk (KeepBut.trans (by repeat (first | (with_reducible first | exact HK.out | apply KeepBut.set_ | apply keep_drewN | apply keep_drew | apply keep_alloc | refine keep_far ?_ GW160.out _ | refine keep_far ?_ GW166.out _) | exact HK.out)) hk (.inl rfl)); have n5_ := Aside0.mk (hb); have n6_ := Aside0.mk (hi); clear HO_167001 HO_167002 BK160 BK166 HK HB HI0; have HO_167001 := n0_; have HO_167002 := n1_; have BK160 := n2_; have BK166 := n3_; have HK := n4_; have HB := n5_; have HI0 := n6_; clear n0_ n1_ n2_ n3_ n4_ n5_ n6_; (try clear hb); (try clear hb2); (try clear hk); (try clear hi); have hnb110 := NB166_160.out; have hnc110 := NB160_166.out; have hnb111 := NB166_0.out; have hnc111 := NB0_166.out; have hcz112_0 := cz0 BK166; have hcz112_1 := cz1 BK166; have hcz112_2 := cz2 BK166; have hfz112_0 := blk_frozen BK166.out 0; have hfz112_1 := blk_frozen BK166.out 1; have hfz112_2 := blk_frozen BK166.out 2; obtain ⟨Ao113, co113, eo113⟩ := Kd.S_slice HO_167002.out; subst eo113; have p211 : 0 ≤ (0 : Int) := (by omega); have q211 : 0 < (x167002_2.length : Int) := oda; obtain ⟨ad211, A211_0, c211_0, e211, hx211_0, hl211_0, hi211_0⟩ := at_L5 (Kd.S_reads' HO_167002.out).2.2 0 p211 q211; cases e211; obtain ⟨ce211, hce211, hMe211, hcc211⟩ := Kd.S_get HO_167002.out [] 0 p211 (by first | exact q211 | exact oda | (have e_ := (Kd.S_reads' HO_167002.out).1; omega)); obtain ⟨ve211_0, rfl, ge211_0⟩ := hMe211; have hv211_0 := hcc211 0 _ rfl; rw [Nat.add_zero, show ((Kd.slice 35 k35)).sz = 1 from rfl, Nat.mul_one] at hv211_0; replace hv211_0 := Option.some.inj (hv211_0.symm.trans hx211_0); rw [hv211_0] at ge211_0; have HL211_0 := Aside0.mk (show Kd.R k35 35 _ _ _ _ (rd_L5 x167002_2 0) from ge211_0); clear hv211_0 ge211_0; have HX211_0 := Aside0.mk hx211_0; clear hcc211 hce211; have qi211 : (0 < x167002_2.length) = True := eq_true (by omega); (try rw [show ((0 : Int)).toNat = 0 from rfl] at hx211_0); (try rw [Addr.add_zero'] at hx211_0); have HR211_0 := Aside0.mk hi211_0; have HC211_0 := Aside0.mk hl211_0; clear hi211_0 hl211_0; replace p211 := eq_true p211; replace q211 := eq_true q211) | ((with_reducible refine gate_dst (N := 111) rfl ?_); refine Kd.R_lit k75 _ 75 ?hg (N := 111) ?hd (xs := ([] : List (S75))) (inner := []) (ok := fun _ => True) (okp := fun _ => True) ?hr ?hp (fun _ hk => hk) trivial (Below.refl _ _) (Nat.le_refl _) (by simp) ?_; (case hd => rfl); (case hg => rfl); (case hr => first | (go_simp; done) | (go_simp; rfl)); (case hp => exact (Reps.none _ _)); intro v213 w114 ho115 hb hg_ hnew_; clear hg_ hnew_; (first | rw [← Ny212.out] at ho115 | (simp only [Int.reduceToNat] at ho115; rw [← Ny212.out] at ho115)); have n0_ := Aside0.mk (Kd.R_below (rz HO_167001) hb); have n1_ := Aside0.mk (Kd.S_elder' (sz HO_167002) (Kd.R_base ho115) hb); have n2_ := Aside0.mk (Kd.R_elder' (rz HL211_0) (Kd.R_base ho115) hb); have n3_ := Aside0.mk (Kd.R_lower ho115 (keep_size (w := w) (g := g) (row := none) (by repeat (first | (with_reducible first | exact HK.out | apply KeepBut.set_ | apply keep_drewN | apply keep_drew | apply keep_alloc | refine keep_far ?_ GW160.out _ | refine keep_far ?_ GW166.out _) | exact HK.out)))); have n4_ := Aside0.mk (blk_below (bz BK160) hb); have n5_ := Aside0.mk (blk_below (bz BK166) hb); have n6_ := Aside0.mk (IsS73.below (by repeat (first | (with_reducible first | exact HI0.out | apply IsS73.alloc | apply IsS73.drewN | apply IsS73.drew | apply IsS73.set_1 | refine IsS73.far ?_ NB0_160.out _ | refine IsS73.far ?_ NB0_166.out _) | exact HI0.out)) hb); have n7_ := Aside0.mk (Kd.C_below (by repeat (first | (with_reducible exact HR211_0.out) | (with_reducible refine Kd.C_alloc ?_ _) | (with_reducible refine Kd.C_drewN ?_ _) | (with_reducible refine Kd.C_drew ?_) | exact HR211_0.out)) hb); have n8_ := Aside0.mk (pw_cell_below hb HX211_0.out); have n9_ := Aside0.mk (KeepBut.trans (by repeat (first | (with_reducible first | exact HK.out | apply KeepBut.set_ | apply keep_drewN | apply keep_drew | apply keep_alloc | refine keep_far ?_ GW160.out _ | refine keep_far ?_ GW166.out _) | exact HK.out)) (KeepBut.of_below hb g none) (.inl rfl)); have n10_ := Aside0.mk (below_step (by repeat (first | (with_reducible first | exact HB.out | apply below_alloc | apply pw_below_drewN | apply below_drew1 | refine below_set ?_ (IsS73.ge HI0.out) | refine below_set ?_ GE160.out | refine below_set ?_ GE166.out) | exact HB.out)) hb); clear HO_167001 HO_167002 HL211_0 BK160 BK166 HI0 HR211_0 HX211_0 HK HB; have HO_167001 := n0_; have HO_167002 := n1_; have HL211_0 := n2_; have HO214 := n3_; have BK160 := n4_; have BK166 := n5_; have HI0 := n6_; have HR211_0 := n7_; have HX211_0 := n8_; have HK := n9_; have HB := n10_; clear n0_ n1_ n2_ n3_ n4_ n5_ n6_ n7_ n8_ n9_ n10_ hb ho115; have p107 : 0 ≤ (0 : Int) := (by omega); have q107 : (0 : Int) < (((rd_L5 x167002_2 0).length : Int) : Int) := oda; have qi107 : (0 < (rd_L5 x167002_2 0).length) = True := eq_true (by omega); obtain ⟨go107, co107, eo107, gb107, gl107, cl107, HG107⟩ := Kd.R_form HL211_0.out (by omega); (first | cases eo107 | (injection eo107 with ea_ en_ ec_; (first | subst ea_ | (injection ea_ with ea_; subst ea_)); subst ec_; clear en_)); have GB107 := Aside0.mk gb107; have GG107 := Aside0.mk HG107; clear gb107 gl107 HG107; obtain ⟨ce107, hcl107, hM107, hcc107, hfr107⟩ := Kd.R_elem HL211_0.out z35 (0 : Int) p107 q107; obtain ⟨ve107_0, rfl, ge107_0⟩ := k35_openM hM107; have hx107_0 : w114.cell? ⟨go107, (0 : Int).toNat * 3, none⟩ = some (ve107_0) := hcc107 0 _ rfl; have hx107_1 : w114.cell? ⟨go107, (0 : Int).toNat * 3 + 1, none⟩ = some (.int .i64 ((rd_T35 (rd_L5 x167002_2 0) 0).f1)) := hcc107 1 _ rfl; have hx107_2 : w114.cell? ⟨go107, (0 : Int).toNat * 3 + 2, none⟩ = some (.int .i64 ((rd_T35 (rd_L5 x167002_2 0) 0).f2)) := hcc107 2 _ rfl; have hf107_0 : w114.frozen? ⟨go107, (0 : Int).toNat * 3, none⟩ = false := hfr107 0; have hf107_1 : w114.frozen? ⟨go107, (0 : Int).toNat * 3 + 1, none⟩ = false := hfr107 1; have hf107_2 : w114.frozen? ⟨go107, (0 : Int).toNat * 3 + 2, none⟩ = false := hfr107 2; (try clear hcl107); (try clear hcc107); (try clear hfr107); (try clear hM107); (try rw [show ((0 : Int)).toNat = 0 from rfl] at hx107_0); (try simp only [Nat.reduceMul, Nat.zero_mul, Nat.zero_add, Nat.reduceAdd] at hx107_0); (try rw [show ((0 : Int)).toNat = 0 from rfl] at hf107_0); (try simp only [Nat.reduceMul, Nat.zero_mul, Nat.zero_add, Nat.reduceAdd] at hf107_0); (try rw [show ((0 : Int)).toNat = 0 from rfl] at hx107_1); (try simp only [Nat.reduceMul, Nat.zero_mul, Nat.zero_add, Nat.reduceAdd] at hx107_1); (try rw [show ((0 : Int)).toNat = 0 from rfl] at hf107_1); (try simp only [Nat.reduceMul, Nat.zero_mul, Nat.zero_add, Nat.reduceAdd] at hf107_1); (try rw [show ((0 : Int)).toNat = 0 from rfl] at hx107_2); (try simp only [Nat.reduceMul, Nat.zero_mul, Nat.zero_add, Nat.reduceAdd] at hx107_2); (try rw [show ((0 : Int)).toNat = 0 from rfl] at hf107_2); (try simp only [Nat.reduceMul, Nat.zero_mul, Nat.zero_add, Nat.reduceAdd] at hf107_2); replace p107 := eq_true p107; replace q107 := eq_true q107; have n_ := Aside0.mk (Kd.S_mono (ok' := (fun k_ => some k_ ≠ (v213 : Value).ownBlock)) HO_167002.out (fun k_ hk => hk.2)); clear HO_167002; have HO_167002 := n_; clear n_; obtain ⟨Ao118, co118, eo118⟩ := Kd.R_slice HO214.out; subst eo118; have hq116 : (0 : Int) < (x167002_2.length : Int) := (by have h_ : (0 : Int) < ((x167002_2.length : Int) : Int) := oda; first | exact h_ | (have e_ := (Kd.S_reads' HO_167002.out).1; omega) | simpa only [List.length_set, List.length_set] using h_); obtain ⟨oki116, ce116, hcl116, hM116, hcc116, hok116, hgk116, hbk116⟩ := S_borrowG (ok := (fun _ => True)) (okg := fun k_ => some k_ = (.slice Ao118 y212.length co118 : Value).ownBlock) (Kd.S_mono HO_167002.out (fun k_ hk => ⟨trivial, fun e_ => (hk) e_⟩)) (fun k_ e_ => ⟨trivial, ((Kd.R_apart' HO214.out (Kd.S_typed HO_167002.out) (by decide)).1 k_ e_.symm).2⟩) [] (0 : Int) (by omega) (by first | exact hq116 | (have e_ := (Kd.S_reads' HO_167002.out).1; omega)); obtain ⟨ve116_0, rfl, ge116_0⟩ := hM116; have hv116 := hcc116 0 _ rfl; rw [Nat.add_zero, show ((Kd.slice 35 k35)).sz = 1 from rfl, Nat.mul_one] at hv116; replace hv116 := Option.some.inj (hv116.symm.trans HX211_0.out); subst hv116; clear hcc116 hcl116; replace ge116_0 := (show Kd.R k35 35 _ _ _ _ (rd_L5 x167002_2 0) from ge116_0); obtain ⟨cf116, hcl116, hN116, hcc116, hfr116⟩ := Kd.R_elem ge116_0 z35 (0 : Int) (by omega) (by have h_ : (0 : Int) < (((rd_L5 x167002_2 0).length : Int) : Int) := oda; first | exact h_ | (have e_ := (Kd.S_reads' HR211_0.out).1; omega) | simpa using h_); obtain ⟨vf116_0, rfl, gf116_0⟩ := k35_openM hN116; have HP116 := Kd.R_seg ge116_0 (0 : Int) (by omega) (by have h_ : (0 : Int) < (((rd_L5 x167002_2 0).length : Int) : Int) := oda; first | exact h_ | (have e_ := (Kd.S_reads' HR211_0.out).1; omega) | simpa using h_) (seg := [.slice Ao118 y212.length co118]) (j := 0) hcl116 hcc116 (show 1 ≤ 3 from by decide) (x' := (⟨y212, (rd_T35 (rd_L5 x167002_2 0) 0).f1, (rd_T35 (rd_L5 x167002_2 0) 0).f2⟩ : S35)) (k35_mkM _ _ _ (⟨y212, (rd_T35 (rd_L5 x167002_2 0) 0).f1, (rd_T35 (rd_L5 x167002_2 0) 0).f2⟩ : S35) (Kd.R_mono (Kd.R_tight rfl HO214.out) (fun k_ e_ => ⟨hgk116 k_ e_, fun e2_ => ((Kd.R_apart' HO214.out (Kd.R_typed ge116_0) (by decide)).1 k_ e_.symm).2 (by rw [e2_]; rfl)⟩))) (fun _ hk => hk); clear hcl116 hcc116 hfr116 hN116) | ((with_reducible refine gate_store (t := 33) (p := 113) rfl ?_); refine store_event (t := 33) (p := 113) (v := ?vo_w117) (w1 := (w114.setCell ⟨go107, 0, none⟩ (.slice Ao118 y212.length co118))) ?hg ?ho ?hn ?hr ?_; (case ho => rfl); (case hg => rfl); (case hn => rfl); (case hr => first | (go_simp; done) | (go_simp; rfl)); intro w117 hw; have hg : w114.grownBy w117 (some go107) := (by rw [hw]; exact HP116.2); have hz_ : Kd.R k35 35 w117 w.heap.size oki116 (.slice (some ⟨go107, 0, none⟩) (rd_L5 x167002_2 0).length c211_0) y215 := (by rw [hw, Ny215.out]; first | exact HP116.1); have hp_ : Kd.S (Kd.slice 35 k35) 32 w117 w.heap.size (fun _ => True) (.slice (some ad211) x167002_2.length co113) y217 := (by rw [Ny217.out]; exact hbk116 hg (fun k_ e_ => by injection e_ with e_; subst e_; exact ge116_0.1 _ rfl) (Kd.M_row hz_)); have hm_ := Kd.R_mono hz_ hok116; clear HP116 hbk116; have n0_ := Aside0.mk (Kd.R_over' (v := (.slice (some ⟨go107, 0, none⟩) (rd_L5 x167002_2 0).length c211_0)) (rz HO_167001) (Kd.R_typed HL211_0.out) (by decide) hg); have n1_ := Aside0.mk (hp_); have n2_ := Aside0.mk (blk_grown (bz BK160) hg (Kd.R_ne HL211_0.out BK160.out (by decide))); have n3_ := Aside0.mk (blk_grown (bz BK166) hg (Kd.R_ne HL211_0.out BK166.out (by decide))); have n4_ := Aside0.mk (IsS73.grown ((show IsS73 w0 _ g s0_0 t203 from by repeat (first | (with_reducible first | exact HI0.out | apply IsS73.alloc | apply IsS73.drewN | apply IsS73.drew | apply IsS73.set_1 | refine IsS73.far ?_ NB0_160.out _ | refine IsS73.far ?_ NB0_166.out _) | exact HI0.out))) hg (IsS73.own_ne HI0.out HL211_0.out (by decide))); have n5_ := Aside0.mk ((by rw [hw]; exact below_set (HB.out) (Nat.le_trans HL.out GB107.out) : Below w0.heap.size w0 w117)); have n6_ := Aside0.mk (KeepBut.trans (by repeat (first | (with_reducible first | exact HK.out | apply KeepBut.set_ | apply keep_drewN | apply keep_drew | apply keep_alloc | refine keep_far ?_ GW160.out _ | refine keep_far ?_ GW166.out _) | exact HK.out)) (KeepBut.of_grown hg g) (Kd.R_base2 HL211_0.out)); have n7_ := Aside0.mk (hm_); have n8_ := Aside0.mk ((Kd.R_reads' hm_).2.1); clear HO_167001 HO_167002 BK160 BK166 HI0 HB HK HL211_0 HO214; have HO_167001 := n0_; have HO_167002 := n1_; have BK160 := n2_; have BK166 := n3_; have HI0 := n4_; have HB := n5_; have HK := n6_; have HL220 := n7_; have HC216 := n8_; clear n0_ n1_ n2_ n3_ n4_ n5_ n6_ n7_ n8_ hg hw hp_ hz_ hm_ hok116; have hcz119_0 := cz0 BK166; have hcz119_1 := cz1 BK166; have hcz119_2 := cz2 BK166; have hfz119_0 := blk_frozen BK166.out 0; have hfz119_1 := blk_frozen BK166.out 1; have hfz119_2 := blk_frozen BK166.out 2; have hnb120 := NB160_0.out; have hnc120 := NB0_160.out; have hcz121_0 := cz0 BK160; have hcz121_1 := cz1 BK160; have hcz121_2 := cz2 BK160; have hfz121_0 := blk_frozen BK160.out 0; have hfz121_1 := blk_frozen BK160.out 1; have hfz121_2 := blk_frozen BK160.out 2))
              refine bodyPost_ret (results_cell_row rfl _ _ gb160 28 #[.int .i64 t161, .slice Ao7 t162.length co7, .slice (some ad211) x167002_2.length co113] (0, 0) _ rfl (bp BK160) Try.underlying28 rfl kr) rfl ?_
              exact ⟨_, _, by first | rfl | (simp [errW_none, errW_some] <;> rfl) | (simp [*, errW_none, errW_some] <;> rfl), by (with_reducible repeat (first | apply Kd.R_alloc | apply Kd.R_drewN | apply Kd.R_drew)); exact Kd.R_mono (Kd.R_far (p := ⟨gb160, 2, none⟩) (Kd.R_far (p := ⟨gb160, 1, none⟩) (Kd.R_far (p := ⟨gb160, 0, none⟩) (Kd.R_types HO_167001.out BK160.out (by decide)) (fun _ hk => hk.2) (.int .i64 t161)) (fun _ hk => hk.2) (.slice Ao7 t162.length co7)) (fun _ hk => hk.2) (.slice (some ad211) x167002_2.length co113)) (fun _ hk => trivial), by (with_reducible repeat (first | apply Kd.S_alloc | apply Kd.S_drewN | apply Kd.S_drew)); exact Kd.S_mono (Kd.S_far (p := ⟨gb160, 2, none⟩) (Kd.S_far (p := ⟨gb160, 1, none⟩) (Kd.S_far (p := ⟨gb160, 0, none⟩) (Kd.S_types HO_167002.out BK160.out (by decide)) (fun _ hk => hk.2) (.int .i64 t161)) (fun _ hk => hk.2) (.slice Ao7 t162.length co7)) (fun _ hk => hk.2) (.slice (some ad211) x167002_2.length co113)) (fun _ hk => trivial), by repeat (first | (with_reducible first | exact HI0.out | apply IsS73.alloc | apply IsS73.drewN | apply IsS73.drew | apply IsS73.set_1 | refine IsS73.far ?_ NB0_160.out _ | refine IsS73.far ?_ NB0_166.out _) | exact HI0.out), by repeat (first | (with_reducible first | exact HB.out | apply below_alloc | apply pw_below_drewN | apply below_drew1 | refine below_set ?_ (IsS73.ge HI0.out) | refine below_set ?_ GE160.out | refine below_set ?_ GE166.out) | exact HB.out), by repeat (first | (with_reducible first | exact HK.out | apply KeepBut.set_ | apply keep_drewN | apply keep_drew | apply keep_alloc | refine keep_far ?_ GW160.out _ | refine keep_far ?_ GW166.out _) | exact HK.out)⟩
             ·rw [if_neg c106] at H
              exact absurd H (by simp)
            ·rw [if_neg c105] at H
             exact absurd H (by simp)
         ·replace c77 := Bool.eq_false_iff.mpr c77
          subst c77
          have H1 : (some (t161, t162, x167002_2, t201)) = some (r1, r2, r3, r4) := by rw [if_neg (show ¬ (false = true) by decide)] at H; exact H
          clear H
          have H := H1
          clear H1
          simp only [Option.some.injEq, Prod.mk.injEq] at H
          obtain ⟨rfl, rfl, rfl, rfl⟩ := H
          go_wp2_with (first | ((with_reducible refine gate_callee (f := 46) rfl ?_); refine goesL_ (some 104) rfl rfl Try.func46 kr rfl #[.pointer (some ⟨g, 0, none⟩), .int .i64 a1] rfl lm ?_; (with_reducible refine (spec_l20Rd_odd.calls kj34 g s0_0 x1001_2 a1 false t201 w0 _ ?side1 ?side2 A76.out).mono ?_); (case side1 => repeat (first | (with_reducible first | exact HI0.out | apply IsS73.alloc | apply IsS73.drewN | apply IsS73.drew | apply IsS73.set_1 | refine IsS73.far ?_ NB0_160.out _ | refine IsS73.far ?_ NB0_166.out _) | exact HI0.out)); (case side2 => repeat (first | (with_reducible first | exact HB.out | apply below_alloc | apply pw_below_drewN | apply below_drew1 | refine below_set ?_ (IsS73.ge HI0.out) | refine below_set ?_ GE160.out | refine below_set ?_ GE166.out) | exact HB.out)); rintro e w122 ⟨rfl, hi, hb, hk⟩; refine ⟨_, rfl, ?_⟩; have n0_ := Aside0.mk (Kd.R_mono (Kd.R_keep (IsS73.apart (show IsS73 w0 _ g s0_0 x1001_2 from by repeat (first | (with_reducible first | exact HI0.out | apply IsS73.alloc | apply IsS73.drewN | apply IsS73.drew | apply IsS73.set_1 | refine IsS73.far ?_ NB0_160.out _ | refine IsS73.far ?_ NB0_166.out _) | exact HI0.out)) (rz HO_167001) (by decide)) hk (fun _ h => h.2)) (fun _ h => h.1)); have n1_ := Aside0.mk (Kd.S_mono (Kd.S_keep (IsS73.apartS (show IsS73 w0 _ g s0_0 x1001_2 from by repeat (first | (with_reducible first | exact HI0.out | apply IsS73.alloc | apply IsS73.drewN | apply IsS73.drew | apply IsS73.set_1 | refine IsS73.far ?_ NB0_160.out _ | refine IsS73.far ?_ NB0_166.out _) | exact HI0.out)) (sz HO_167002) (by decide)) hk (fun _ h => h.2)) (fun _ h => h.1)); have n2_ := Aside0.mk (KeepBut.blk hk (bz BK160) NB160_0.out (by simp)); have n3_ := Aside0.mk (KeepBut.blk hk (bz BK166) NB166_0.out (by simp)); have n4_ := Aside0.mk (KeepBut.trans (by repeat (first | (with_reducible first | exact HK.out | apply KeepBut.set_ | apply keep_drewN | apply keep_drew | apply keep_alloc | refine keep_far ?_ GW160.out _ | refine keep_far ?_ GW166.out _) | exact HK.out)) hk (.inl rfl)); have n5_ := Aside0.mk (hb); have n6_ := Aside0.mk (hi); clear HO_167001 HO_167002 BK160 BK166 HK HB HI0; have HO_167001 := n0_; have HO_167002 := n1_; have BK160 := n2_; have BK166 := n3_; have HK := n4_; have HB := n5_; have HI0 := n6_; clear n0_ n1_ n2_ n3_ n4_ n5_ n6_; (try clear hb); (try clear hb2); (try clear hk); (try clear hi); have hnb123 := NB166_160.out; have hnc123 := NB160_166.out; have hnb124 := NB166_0.out; have hnc124 := NB0_166.out; have hcz125_0 := cz0 BK166; have hcz125_1 := cz1 BK166; have hcz125_2 := cz2 BK166; have hfz125_0 := blk_frozen BK166.out 0; have hfz125_1 := blk_frozen BK166.out 1; have hfz125_2 := blk_frozen BK166.out 2; have hnb126 := NB160_0.out; have hnc126 := NB0_160.out; have hcz127_0 := cz0 BK160; have hcz127_1 := cz1 BK160; have hcz127_2 := cz2 BK160; have hfz127_0 := blk_frozen BK160.out 0; have hfz127_1 := blk_frozen BK160.out 1; have hfz127_2 := blk_frozen BK160.out 2; obtain ⟨Ao128, co128, eo128⟩ := Kd.S_slice HO_167002.out; subst eo128))
          refine bodyPost_ret (results_cell_row rfl _ _ gb160 28 #[.int .i64 t161, .slice Ao7 t162.length co7, .slice Ao128 x167002_2.length co128] (0, 0) _ rfl (bp BK160) Try.underlying28 rfl kr) rfl ?_
          exact ⟨_, _, by first | rfl | (simp [errW_none, errW_some] <;> rfl) | (simp [*, errW_none, errW_some] <;> rfl), by (with_reducible repeat (first | apply Kd.R_alloc | apply Kd.R_drewN | apply Kd.R_drew)); exact Kd.R_mono (Kd.R_far (p := ⟨gb160, 2, none⟩) (Kd.R_far (p := ⟨gb160, 1, none⟩) (Kd.R_far (p := ⟨gb160, 0, none⟩) (Kd.R_types HO_167001.out BK160.out (by decide)) (fun _ hk => hk.2) (.int .i64 t161)) (fun _ hk => hk.2) (.slice Ao7 t162.length co7)) (fun _ hk => hk.2) (.slice Ao128 x167002_2.length co128)) (fun _ hk => trivial), by (with_reducible repeat (first | apply Kd.S_alloc | apply Kd.S_drewN | apply Kd.S_drew)); exact Kd.S_mono (Kd.S_far (p := ⟨gb160, 2, none⟩) (Kd.S_far (p := ⟨gb160, 1, none⟩) (Kd.S_far (p := ⟨gb160, 0, none⟩) (Kd.S_types HO_167002.out BK160.out (by decide)) (fun _ hk => hk.2) (.int .i64 t161)) (fun _ hk => hk.2) (.slice Ao7 t162.length co7)) (fun _ hk => hk.2) (.slice Ao128 x167002_2.length co128)) (fun _ hk => trivial), by repeat (first | (with_reducible first | exact HI0.out | apply IsS73.alloc | apply IsS73.drewN | apply IsS73.drew | apply IsS73.set_1 | refine IsS73.far ?_ NB0_160.out _ | refine IsS73.far ?_ NB0_166.out _) | exact HI0.out), by repeat (first | (with_reducible first | exact HB.out | apply below_alloc | apply pw_below_drewN | apply below_drew1 | refine below_set ?_ (IsS73.ge HI0.out) | refine below_set ?_ GE160.out | refine below_set ?_ GE166.out) | exact HB.out), by repeat (first | (with_reducible first | exact HK.out | apply KeepBut.set_ | apply keep_drewN | apply keep_drew | apply keep_alloc | refine keep_far ?_ GW160.out _ | refine keep_far ?_ GW166.out _) | exact HK.out)⟩

end Go.Proofs.Ytmbphgdfadoknaa.QFnCharterOk
