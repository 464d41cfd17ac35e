/- Readings of arguments: whatever value of a type the form can read as data has cells that the print's kinds (Kd) tell. Conditions: the type's own shape, type by type. -/
import Derived.Test.YtaddlahbahedeaaUFnExactLeastConsentsWWords
import Derived.ChangeSlices
import Derived.SizedLaws
set_option linter.unusedVariables false
namespace Go.Proofs.Ytaddlahbahedeaa.Opens
open Go.ChangeShapes Go.WideShapes Go.Proofs.YtaddlahbahedeaaW.PrintWords

/-- A cell that is stored into twice: the walk looks no deeper than one store into the same cell. -/
theorem cell_twice (w : World) (a : Addr) (u v : Value) (h : (w.cell? a).isSome = true) : ((w.setCell a u).setCell a v).cell? a = some v := World.cell?_setCell_same' _ _ _ (by rw [World.cell?_setCell_same' _ _ _ h]; rfl)
def pInt (k : IntKind) (n : Int) : Prop := (Lit.int k n).wf = true
def pSlice {α : Type} (p : α → Prop) (l : List α) : Prop := l.length ≤ 9223372036854775807 ∧ ∀ x, x ∈ l → p x
def pPair {α β : Type} (p : α → Prop) (q : β → Prop) (x : α × β) : Prop := p x.1 ∧ q x.2
def pIso {α β : Type} (p : α → Prop) (f : β → α) (x : β) : Prop := p (f x)

section
variable {H : Type} {enc : TypeId × Value → H} {P : Program} {W : World}

/-- Whatever reads as data of type t has cells that the kind d tells, of a value that meets p. -/
def Opens {α : Type} (enc : TypeId × Value → H) (P : Program) (W : World) (t : TypeId) (d : Kd α) (p : α → Prop) : Prop :=
  ∀ fuel cs x, DataW.trod enc P W 0 (fun _ => true) true fuel t cs = some x → ∃ a, d.K W a cs ∧ p a

theorem opens_int {t : TypeId} {k : IntKind} (h : P.underlying t = some (.int k)) : Opens enc P W t (Kd.int k) (pInt k) := by
  intro fuel cs x hx
  obtain ⟨m, rfl, rfl, hw⟩ := DataW.trod_int h hx
  exact ⟨m, rfl, hw⟩
theorem opens_slice {α : Type} {t e : TypeId} {d : Kd α} {p : α → Prop} (ht : P.underlying t = some (.slice e)) (hc : P.cellsOf e = d.sz) (he : Opens enc P W e d p) :
    Opens enc P W t (Kd.slice e d) (pSlice p) := by
  intro fuel cs x hx
  rcases DataW.trod_slice ht hx with ⟨rfl, rfl⟩ | ⟨a, len, cap, elems, rest, n, _, rfl, rfl, hb, hl, hm, hlen, hel, hsp, hns⟩
  · exact ⟨[], ⟨none, 0, rfl, Nat.le_refl _, Kd.C_nil _ _⟩, by simp [pSlice]⟩
  · have each : ∀ i, i < len → ∃ y, (∃ c, d.K W y c ∧ ∀ j u, c[j]? = some u → W.cell? (a.add (i * d.sz + j)) = some u) ∧ p y := by
      intro i hi
      have h1 := hel i hi
      have hi' : i < elems.length := by omega
      rw [List.getElem?_eq_getElem hi', Option.bind_eq_some_iff] at h1
      obtain ⟨c, hcs, ht1⟩ := h1
      obtain ⟨y, hK, hp⟩ := he _ _ _ ht1
      refine ⟨y, ⟨c, hK, fun j u hj => ?_⟩, hp⟩
      obtain ⟨_, hlc, hcell⟩ := World.cells?_some hcs
      have hj' : j < P.cellsOf e := by
        rw [← hlc]
        exact (List.getElem?_eq_some_iff.1 hj).1
      have := hcell j hj'
      rw [hj] at this
      rw [hc, add_add] at this
      exact this
    let ys : List α := (List.range len).attach.map fun i => Classical.choose (each i.1 (List.mem_range.1 i.2))
    have hys : ys.length = len := by simp [ys]
    have hget : ∀ i (hi : i < len), ys[i]? = some (Classical.choose (each i hi)) := by
      intro i hi
      simp [ys, hi]
    refine ⟨ys, ⟨some a, cap, by rw [hys], by omega, ?_⟩, by rw [hys]; simp only [maxLen] at hm; omega, ?_⟩
    · refine ⟨rfl, by rw [hys]; simp only [maxLen] at hm; omega, fun hn => ⟨a, rfl, fun i y hy => ?_⟩⟩
      have hi : i < len := by rw [← hys]; exact (List.getElem?_eq_some_iff.1 hy).1
      rw [hget i hi] at hy
      injection hy with hy
      rw [← hy]
      obtain ⟨c, hK, hcell⟩ := (Classical.choose_spec (each i hi)).1
      exact ⟨c, d.K_len hK, hK, hcell⟩
    · intro y hy
      obtain ⟨i, hi⟩ := List.getElem?_of_mem hy
      have hi' : i < len := by rw [← hys]; exact (List.getElem?_eq_some_iff.1 hi).1
      rw [hget i hi'] at hi
      injection hi with hi
      rw [← hi]
      exact (Classical.choose_spec (each i hi')).2
/-- Fields in their order, from place o on: what they hold, as nested pairs. -/
def OpensF {α : Type} (enc : TypeId × Value → H) (P : Program) (W : World) (o : Nat) (fs : List Field) (d : Kd α) (p : α → Prop) : Prop :=
  ∀ (n : Nat) (cs : List Value), cs.length = o + d.sz → (∀ f ∈ fs, ∃ y, DataW.trod enc P W 0 (fun _ => true) true n f.type ((cs.drop f.offset).take (P.cellsOf f.type)) = some y) → ∃ a, d.K W a (cs.drop o) ∧ p a

theorem opensF_one {α : Type} {o : Nat} {f : Field} {d : Kd α} {p : α → Prop} (ho : f.offset = o) (hc : P.cellsOf f.type = d.sz) (h : Opens enc P W f.type d p) : OpensF enc P W o [f] d p := by
  intro n cs hl hf
  obtain ⟨y, hy⟩ := hf f (by simp)
  obtain ⟨a, hK, hp⟩ := h _ _ _ hy
  rw [ho, hc, List.take_of_length_le (by simp; omega)] at hK
  exact ⟨a, hK, hp⟩
theorem opensF_cons {α β : Type} {o : Nat} {f : Field} {fs : List Field} {d : Kd α} {d2 : Kd β} {p : α → Prop} {q : β → Prop} (ho : f.offset = o) (hc : P.cellsOf f.type = d.sz) (h : Opens enc P W f.type d p)
    (h2 : OpensF enc P W (o + d.sz) fs d2 q) : OpensF enc P W o (f :: fs) (Kd.pair d d2) (pPair p q) := by
  intro n cs hl hf
  obtain ⟨y, hy⟩ := hf f (by simp)
  obtain ⟨a, hK, hp⟩ := h _ _ _ hy
  obtain ⟨b, hK2, hq⟩ := h2 n cs (by rw [hl]; simp only [Kd.pair]; omega) (fun g hg => hf g (by simp [hg]))
  rw [ho, hc] at hK
  refine ⟨(a, b), ⟨_, _, ?_, hK, hK2⟩, hp, hq⟩
  rw [← List.drop_drop, List.take_append_drop]
theorem opens_struct {α : Type} {t : TypeId} {fs : Array Field} {d : Kd α} {p : α → Prop} (ht : P.underlying t = some (.struct fs)) (hc : P.cellsOf t = d.sz) (h : OpensF enc P W 0 fs.toList d p) : Opens enc P W t d p := by
  intro fuel cs x hx
  obtain ⟨xs, n, _, _, hl, hlen, hf⟩ := DataW.trod_struct ht hx
  obtain ⟨a, hK, hp⟩ := h n cs (by rw [hl, hc]; omega) (fun f hf' => by
    obtain ⟨i, hi⟩ := List.getElem?_of_mem hf'
    have hi2 : fs[i]? = some f := by simpa using hi
    have h1 := hf i f hi2
    have h3 : i < xs.length := by rw [hlen]; exact (Array.getElem?_eq_some_iff.1 hi2).1
    rw [List.getElem?_eq_getElem h3] at h1
    exact ⟨_, h1⟩)
  exact ⟨a, by simpa using hK, hp⟩
theorem opens_iso {α β : Type} {t : TypeId} {d : Kd α} {p : α → Prop} {f : β → α} (g : α → β) (hg : ∀ a, f (g a) = a) (h : Opens enc P W t d p) : Opens enc P W t (Kd.iso d f) (pIso p f) := by
  intro fuel cs x hx
  obtain ⟨a, hK, hp⟩ := h _ _ _ hx
  exact ⟨g a, by show d.K W (f (g a)) cs; rw [hg]; exact hK, by show p (f (g a)); rw [hg]; exact hp⟩

/-- A variable in memory, told as a row of one element that is read. -/
theorem C_box {α : Type} {d : Kd α} {g t : Nat} {cs : Array Value} {x : α} (h : W.heap[g]? = some (.cells cs t (0, 0))) (hK : d.K W x cs.toList) : d.C W (some ⟨g, 0, none⟩) [x].length [x] := by
  refine ⟨rfl, by simp, fun _ => ⟨_, rfl, fun j p hj => ?_⟩⟩
  have hj0 : j = 0 := by
    have := (List.getElem?_eq_some_iff.1 hj).1
    simpa using this
  subst hj0
  have hp : p = x := by simpa using hj.symm
  subst hp
  refine ⟨cs.toList, d.K_len hK, hK, fun i u hu => ?_⟩
  rw [Nat.zero_mul, Nat.zero_add, Go.Proofs.YtaddlahbahedeaaW.PrintWords.add_plain]
  have := blk_cell h i
  rw [this]
  simpa using hu
/-- A slice that came in: its cells. -/
theorem slice_parts {α : Type} {e : Nat} {d : Kd α} {a : Option Addr} {len cap : Nat} {l : List α} (h : (Kd.slice e d).K W l [.slice a len cap]) : len = l.length ∧ l.length ≤ cap ∧ d.C W a l.length l := by
  obtain ⟨A, c, he, hl, hC⟩ := h
  injection he with he
  injection he with h1 h2 h3
  subst h1 h3
  exact ⟨h2, hl, hC⟩
end
end Go.Proofs.Ytaddlahbahedeaa.Opens
