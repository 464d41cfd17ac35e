-- Printed for this claim by a turned copy of the print (wip/myprint). Lean checks it. Squeezed. Worded.
import Derived.Test.YtlpjkeejflogjaaProg
import Derived.Below
import Derived.Deep.Draws
import Derived.Deep.AppendLies
import Derived.Maps.AppendAt
import Derived.OwnWalk
import Derived.Laws.BytesArg
import Derived.Laws.MakeOwn
import Derived.Laws.OwnMore
import Derived.Deep.OwnRows
import Derived.Tactics
import Derived.Lib.ConvBytes
import Derived.Laws.Slices
import Derived.WalkKit
import Derived.KernelRfl
import Derived.RowKit3
import Derived.Deep.LoopGhost
import Derived.Deep.QuietTactic
import Derived.BigQuiet
import Derived.WideLaws
import Derived.Deep.DeepCutAuto
import Derived.Deep.CutBlock
import Derived.Deep.RegionHeld3
import Derived.Laws.Rows
import Derived.Lib.AppendStr
import Derived.ArgAppend
import Derived.Laws.IdiomCopy
import Derived.OrdersHeld
import Derived.Laws.BitsLemmas
import Derived.RowKit
import Derived.Test.YtlpjkeejflogjaaUFnAfterDeathOpens
import Derived.Test.YtlpjkeejflogjaaUFnAfterDeathWWords
import Derived.Test.YtlpjkeejflogjaaUFnAfterDeathWLast
import Derived.Test.YtlpjkeejflogjaaUFnAfterDeathWTab
import Derived.Test.YtlpjkeejflogjaaUFnAfterDeathWFour
import Derived.Test.YtlpjkeejflogjaaUFnAfterDeathWQPut
import Derived.Test.YtlpjkeejflogjaaUFnAfterDeathWApart
import Derived.Test.YtlpjkeejflogjaaUFnAfterDeathWArr
import Derived.Test.YtlpjkeejflogjaaUFnAfterDeathWZeros
import Derived.Test.YtlpjkeejflogjaaUFnAfterDeathWFoot
import Derived.Test.YtlpjkeejflogjaaUFnAfterDeathWKept
import Derived.Test.YtlpjkeejflogjaaUFnAfterDeathWShare
import Derived.Test.YtlpjkeejflogjaaUFnAfterDeathWN
import Derived.Test.YtlpjkeejflogjaaUFnAfterDeathWFootNe
import Derived.Test.YtlpjkeejflogjaaUFnAfterDeathWAt
import Derived.Test.YtlpjkeejflogjaaUFnAfterDeathWEqStruct
import Derived.Test.YtlpjkeejflogjaaUFnAfterDeathWRepsOne
import Derived.Test.YtlpjkeejflogjaaUFnAfterDeathWInv
import Derived.Test.YtlpjkeejflogjaaUFnAfterDeathWInvWords
import Derived.Test.YtlpjkeejflogjaaUFnAfterDeathWGuard
import Derived.Test.YtlpjkeejflogjaaUFnAfterDeathWNEv
import Derived.Test.YtlpjkeejflogjaaUFnAfterDeathWMore
namespace Go.Proofs.Ytlpjkeejflogjaa.QFnAfterDeath
abbrev T : Bool := true
abbrev F : Bool := false
open Go.RowKit Go.Proofs.YtlpjkeejflogjaaW.PrintWords Go.Proofs.YtlpjkeejflogjaaW.PrintLast Go.Proofs.YtlpjkeejflogjaaW.PrintMore
attribute [local go_sem] max2_int min2_int max_two min_two max_three min_three max_four min_four   -- for this text's walks alone
set_option linter.unusedVariables false
set_option linter.unusedSimpArgs false



def errW : Option Int → Value
 | none => .nilIface
 | some c => .iface 0 (.int .i64 c)
theorem errW_none : errW none = .nilIface := rfl
theorem errW_some (c : Int) : errW (some c) = .iface 0 (.int .i64 c) := rfl

theorem info3 : (Try.prog.info? 3).map (fun i => (i.zero, i.size, i.bytes)) = some (some (.int .i64 0), 1, 8) := by kernel_rfl
theorem info5 : (Try.prog.info? 5).map (fun i => (i.zero, i.size, i.bytes)) = some (some (.int .u8 0), 1, 1) := by kernel_rfl
theorem info23 : (Try.prog.info? 23).map (fun i => (i.zero, i.size, i.bytes)) = some (some (.slice none 0 0), 1, 24) := by kernel_rfl
-- the values' own types
def rd_L1 (xs : List (List Int)) (i : Int) : (List Int) := xs.getD i.toNat ([] : List Int)
theorem at_L1 {w : World} {A : Option Addr} {n : Nat} {xs : List (List Int)} (h : Kd.C (Kd.slice 3 (Kd.int .i64)) w A n xs) (i : Int) (h0 : 0 ≤ i) (h1 : i < n) : ∃ ad A0 c0, A = some ad ∧ w.cell? (ad.add i.toNat) = some (.slice A0 (rd_L1 xs i).length c0) ∧ (rd_L1 xs i).length ≤ c0 ∧ (Kd.int .i64).C w A0 (rd_L1 xs i).length (rd_L1 xs i) := by
 obtain ⟨ad, c, e, _, hK, hc0⟩ := Kd.C_get h ([] : List Int) i h0 h1
 have hc : ∀ j u, c[j]? = some u → w.cell? (ad.add (i.toNat * 1 + j)) = some u := hc0
 obtain ⟨A0, c0, rfl, l0, g0⟩ := hK
 exact ⟨ad, A0, c0, e, by have hq := hc 0 _ rfl; rwa [Nat.mul_one, Nat.add_zero] at hq, l0, g0⟩

theorem bz {W W1 : World} {g : Nat} {o : Obj} (f : Aside0 (W.heap[g]? = some o)) (h : W.heap[g]? = some o → W1.heap[g]? = some o := by (intro h; (with_reducible repeat (first | refine blk_drewN ?_ _ | refine blk_drew ?_ | refine blk_alloc ?_ _)); exact h)) : W1.heap[g]? = some o := h f.out
theorem rz {α : Type} {d : Kd α} {e : Nat} {W W1 : World} {base : Nat} {ok : Nat → Prop} {v : Value} {xs : List α} (f : Aside0 (Kd.R d e W base ok v xs)) (h : Kd.R d e W base ok v xs → Kd.R d e W1 base ok v xs := by (intro h; (with_reducible repeat (first | apply Kd.R_alloc | apply Kd.R_drewN | apply Kd.R_drew)); exact h)) : Kd.R d e W1 base ok v xs := h f.out
theorem sz {α : Type} {d : Kd α} {e : Nat} {W W1 : World} {base : Nat} {ok : Nat → Prop} {v : Value} {xs : List α} (f : Aside0 (Kd.S d e W base ok v xs)) (h : Kd.S d e W base ok v xs → Kd.S d e W1 base ok v xs := by (intro h; (with_reducible repeat (first | apply Kd.S_alloc | apply Kd.S_drewN | apply Kd.S_drew)); exact h)) : Kd.S d e W1 base ok v xs := h f.out
theorem vz {α : Type} {d : Kd α} {e : Nat} {W W1 : World} {base : Nat} {ok : Nat → Prop} {v : Value} {xs : List α} (f : Aside0 (Kd.V d e W base ok v xs)) (h : Kd.V d e W base ok v xs → Kd.V d e W1 base ok v xs := by (intro h; (with_reducible repeat (first | apply Kd.V_alloc | apply Kd.V_drewN | apply Kd.V_drew)); exact h)) : Kd.V d e W1 base ok v xs := h f.out
theorem nz {α : Type} {d : Kd α} {e : Nat} {W W1 : World} {base : Nat} {ok : Nat → Prop} {v : Value} {xs : List α} (f : Aside0 (Kd.N d e W base ok v xs)) (h : Kd.N d e W base ok v xs → Kd.N d e W1 base ok v xs := by (intro h; (with_reducible repeat (first | apply Kd.N_alloc | apply Kd.N_drewN | apply Kd.N_drew)); exact h)) : Kd.N d e W1 base ok v xs := h f.out
theorem qz {α : Type} {d : Kd α} {e : Nat} {W W1 : World} {base : Nat} {ok : Nat → Prop} {v : Value} {xs : List α} (f : Aside0 (Kd.Q d e W base ok v xs)) (h : Kd.Q d e W base ok v xs → Kd.Q d e W1 base ok v xs := by (intro h; (with_reducible repeat (first | apply Kd.Q_alloc | apply Kd.Q_drewN | apply Kd.Q_drew)); exact h)) : Kd.Q d e W1 base ok v xs := h f.out
theorem bh {p : Prop} (h : p := by repeat (first | (with_reducible first | exact HB.out | apply below_alloc | apply pw_below_drewN | apply below_drew1 | refine below_set ?_ (Aside0.out (by assumption))) | exact HB.out)) : p := h
theorem gs {W0 W : World} {b : Nat} (hg : b = W.heap.size) (h : Below W0.heap.size W0 W) : W0.heap.size ≤ b := by rw [hg]; exact below_size h
theorem gn {W : World} {a b : Nat} {o : Obj} (hg : b = W.heap.size) (h : W.heap[a]? = some o) : a ≠ b := by rw [hg]; exact Nat.ne_of_lt (blk_lt h)
theorem gm {W : World} {a b : Nat} {o : Obj} (hg : b = W.heap.size) (h : W.heap[a]? = some o) : b ≠ a := by rw [hg]; exact Nat.ne_of_gt (blk_lt h)
theorem oda {p : Prop} [Decidable p] (h : decide p = true := by first | (with_reducible assumption) | assumption) : p := of_decide_eq_true h
theorem lm {p : Prop} (h : p := by (try simp only [List.map_toArray, List.map_cons, List.map_nil]); first | done | rfl | (simp only [List.length_drop, List.length_take]; rfl)) : p := h
theorem kr {p : Prop} (h : p := by kernel_rfl) : p := h
end Go.Proofs.Ytlpjkeejflogjaa.QFnAfterDeath
