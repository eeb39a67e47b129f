/-
  From what the listed variables hold to the abstract heap.
-/
import Derived.Test.YtkichddiobkchaaGreatDoorMD
import Derived.ProofKit
import Derived.OpenShut
import Derived.LaidMore
import Derived.Below
set_option linter.unusedSectionVars false
set_option linter.unusedVariables false
set_option linter.unusedSimpArgs false
namespace Go.Am
open Go Go.RowKit
variable {P : Program} {W : World}

theorem laid_nth : ∀ {l : List (String × DataW Unit)} {ps : List MemPlace} {i : Nat} {n : String} {d : DataW Unit}, DataW.LaidVars P W l ps → l[i]? = some (n, d) →
    ∃ g t cs fuel p, P.globalNamed n = some g ∧ (P.globals[g]?).map (·.type) = some t ∧ W.var? P n = some cs ∧ DataW.trod (fun _ => ()) P W 0 (fun _ => true) false fuel t cs.toList = some (d, p)
  | [], ps, i, n, d, h, hi => by simp at hi
  | (m, e) :: l, ps, 0, n, d, h, hi => by
    simp at hi
    obtain ⟨rfl, rfl⟩ := hi
    obtain ⟨g, t, cs, fuel, p, q, h1, h2, h3, h4, _, _⟩ := h
    exact ⟨g, t, cs, fuel, p, h1, h2, h3, h4⟩
  | (m, e) :: l, ps, i + 1, n, d, h, hi => by
    obtain ⟨g, t, cs, fuel, p, q, h1, h2, h3, h4, h5, _⟩ := h
    exact laid_nth h5 (by simpa using hi)
theorem var_heap {n : String} {g : Nat} {cs : Array Value} (hg : P.globalNamed n = some g) (hv : W.var? P n = some cs) : ∃ e f, W.heap[g]? = some (.cells cs e f) := by
  unfold World.var? at hv
  rw [hg, Option.bind_some] at hv
  split at hv
  · rename_i cs' e f h
    cases hv
    exact ⟨e, f, h⟩
  · cases hv
section
variable {H : Type} {enc : TypeId × Value → H} {base : Nat} {spare : Nat → Bool} {held : Bool} {fuel : Nat} {t : TypeId} {cs : List Value} {x : DataW H × List MemPlace}
theorem trod_float {k : FloatKind} (ht : P.underlying t = some (.float k)) (h : DataW.trod enc P W base spare held fuel t cs = some x) : ∃ n, cs = [.float k n] ∧ x = (.lit (.float k n), []) := by
  cases fuel with
  | zero => simp [DataW.trod] at h
  | succ n =>
    unfold DataW.trod at h
    rw [ht] at h
    split at h <;> simp_all
end
theorem cells_any {a : Addr} {l : List Value} (h : W.cells? 0 a 1 = some l) : ∃ v, l = [v] ∧ W.cell? a = some v := by
  unfold World.cells? at h
  simp [Addr.add] at h
  obtain ⟨v, h1, h2⟩ := Option.bind_eq_some_iff.1 h
  exact ⟨v, (Option.some.inj h2).symm, h1⟩
theorem cell_heap {a : Addr} {v : Value} (h : W.cell? a = some v) : a.spot = none ∧ ∃ c e f, W.heap[a.block]? = some (.cells c e f) ∧ c[a.off]? = some v := by
  unfold World.cell? at h
  split at h
  · rename_i c e f hb
    split at h
    · cases h
    · rename_i hs
      refine ⟨by simpa using hs, c, e, f, hb, h⟩
  · cases h
/-- A slice of floats that reads as these bits: where its cells lie. -/
theorem laid_floats {k : FloatKind} {t e : TypeId} (ht : P.underlying t = some (.slice e)) (he : P.underlying e = some (.float k)) (hc : P.cellsOf e = 1) {fuel : Nat} {cs : List Value} {bits : List Nat} {p : List MemPlace} (hb : bits ≠ [])
    (h : DataW.trod (fun _ => ()) P W 0 (fun _ => true) false fuel t cs = some (.slice (bits.map fun n => .lit (.float k n)) [], p)) :
    ∃ b o, cs = [.slice (some ⟨b, o, none⟩) bits.length bits.length] ∧ ∃ pc et f, W.heap[b]? = some (.cells pc et f) ∧ ∀ i n, bits[i]? = some n → pc[o + i]? = some (.float k n) := by
  rcases DataW.trod_slice ht h with ⟨_, h1⟩ | ⟨a, len, cap, elems, rest, n, _, h2, h3, _, h4, _, h5, h6, h7, _⟩
  · cases h1
  · simp only [Prod.mk.injEq, DataW.slice.injEq] at h3
    obtain ⟨⟨h8, h9⟩, _⟩ := h3
    have hr : rest = [] := by
      have : rest.map (·.1) = [] := h9.symm
      simpa using this
    have hlen : elems.length = bits.length := by
      have := congrArg List.length h8
      simpa using this.symm
    obtain ⟨h10, _⟩ := h7 rfl
    rw [hr] at h10
    simp at h10
    have hcap : cap = len := by omega
    have cell : ∀ i m, bits[i]? = some m → W.cell? (a.add i) = some (.float k m) := by
      intro i m hm
      have hi : i < bits.length := (List.getElem?_eq_some_iff.1 hm).1
      have h11 := h6 i (by omega)
      rw [hc, Nat.mul_one] at h11
      have hi2 : i < elems.length := by omega
      rw [List.getElem?_eq_getElem hi2] at h11
      obtain ⟨l, h12, h13⟩ := Option.bind_eq_some_iff.1 h11
      obtain ⟨v, rfl, h14⟩ := cells_any h12
      obtain ⟨m', h15, h16⟩ := trod_float he h13
      simp at h15
      have h17 : (bits.map fun n => (DataW.lit (.float k n) : DataW Unit))[i]? = (elems.map (·.1))[i]? := by rw [h8]
      rw [List.getElem?_map, List.getElem?_map, hm, List.getElem?_eq_getElem hi2, h16] at h17
      simp at h17
      rw [h14, h15, h17]
    have h0 : ∃ m, bits[0]? = some m := by
      cases bits with
      | nil => exact absurd rfl hb
      | cons x l => exact ⟨x, rfl⟩
    obtain ⟨m0, hm0⟩ := h0
    have c0 := cell 0 m0 hm0
    have ea : a.add 0 = a := by simp [Addr.add]
    rw [ea] at c0
    obtain ⟨hs, pc, et, f, hbk, _⟩ := cell_heap c0
    obtain ⟨b, o, s⟩ := a
    simp only at hs
    subst hs
    refine ⟨b, o, by rw [h2, hcap]; simp; omega, pc, et, f, hbk, fun i n hn => ?_⟩
    have ci := cell i n hn
    obtain ⟨_, pc', et', f', hbk', hcell⟩ := cell_heap ci
    have e1 : (Addr.add ⟨b, o, none⟩ i).block = b := by unfold Addr.add; split <;> rfl
    have e2 : (Addr.add ⟨b, o, none⟩ i).off = o + i := by
      unfold Addr.add; split
      · rename_i h; subst h; rfl
      · rfl
    rw [e1] at hbk'
    rw [e2] at hcell
    rw [hbk] at hbk'
    cases hbk'
    exact hcell

/-! ### A heap of which the program writes nothing -/
/-- What is known of some blocks: where they lie, and which cells. -/
structure Lays (W : World) (φ : Phi) (h : AH) : Prop where
  fresh : ∀ b, h.next ≤ b → φ b = none
  low : ∀ b p, φ b = some p → p.blk < W.heap.size
  obj : ∀ b, h.get b = .dead ∨ ∃ c p pc e f, h.get b = .cells true c ∧ φ b = some p ∧ W.heap[p.blk]? = some (.cells pc e f) ∧ p.off + p.ext ≤ pc.size ∧ c.length ≤ p.ext ∧ ∀ i v, c[i]? = some v → ∃ v', pc[p.off + i]? = some v' ∧ VR φ v v'
theorem Lays.hr {φ : Phi} {h : AH} (l : Lays W φ h) : HR φ h W where
  fresh := l.fresh
  low := l.low
  obj := fun b => by
    rcases l.obj b with h1 | ⟨c, p, pc, e, f, h1, h2, h3, h4, h5, h6⟩
    · rw [h1]; trivial
    · rw [h1]
      exact ⟨p, pc, e, f, h2, h3, h4, h5, (fun e => by cases e), h6⟩
  sep := fun b b' p p' _ _ _ _ _ hm => by
    rcases l.obj b with h1 | ⟨c, _, _, _, _, h1, _⟩
    · rw [h1] at hm; cases hm
    · rw [h1] at hm; cases hm
theorem Lays.below {φ φ' : Phi} {h h' : AH} {w' : World} (l : Lays W φ h) (k : Keep φ h W φ' h' w') : Below W.heap.size W w' where
  os := k.os
  tape := k.tape
  output := k.output
  size := k.size
  block := fun n hn => k.same n hn fun b p _ hm => by
    rcases l.obj b with h1 | ⟨c, _, _, _, _, h1, _⟩
    · rw [h1] at hm; cases hm
    · rw [h1] at hm; cases hm
end Go.Am
