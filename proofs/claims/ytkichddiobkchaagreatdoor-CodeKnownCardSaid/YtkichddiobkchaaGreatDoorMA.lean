/-
  The abstract machine over the model's code and the machines over it: A1 to A9, joined.
-/
import Derived.Orders
import Derived.Below
import Derived.Laws.CopyRow
import Derived.Laws.Sem
import Derived.Laws.AppendOwn
import Derived.Laws.BytesString
import Derived.Laws.MakeOwn
set_option linter.unusedSectionVars false
set_option linter.unusedVariables false
set_option linter.unusedSimpArgs false
/-
  An abstract machine over the model's code, part 1: the abstract heap, and how it stands to a world. Logical blocks, no tape, no capacities.
-/
namespace Go.Am
open Go

/-! ### Tries -/
inductive Tr (α : Type) where
  | leaf
  | node (v : Option α) (l r : Tr α)

namespace Tr
variable {α : Type}
def val : Tr α → Option α | .leaf => none | .node v _ _ => v
def left : Tr α → Tr α | .leaf => .leaf | .node _ l _ => l
def right : Tr α → Tr α | .leaf => .leaf | .node _ _ r => r
def get : Tr α → Nat → Option α
  | .leaf, _ => none
  | .node v l r, n => cond (Nat.beq n 0) v (cond (Nat.beq (n % 2) 1) (l.get (n / 2)) (r.get (n / 2 - 1)))
def setF : Nat → Tr α → Nat → Option α → Tr α
  | 0, t, _, _ => t
  | f + 1, t, n, a =>
    cond (Nat.beq n 0) (.node a t.left t.right)
      (cond (Nat.beq (n % 2) 1) (.node t.val (setF f t.left (n / 2) a) t.right) (.node t.val t.left (setF f t.right (n / 2 - 1) a)))
def set (t : Tr α) (n : Nat) (a : α) : Tr α := setF (n + 1) t n (some a)
def del (t : Tr α) (n : Nat) : Tr α := setF (n + 1) t n none

theorem get_zero (t : Tr α) : t.get 0 = t.val := by cases t <;> rfl
theorem get_odd (t : Tr α) (k : Nat) : t.get (2 * k + 1) = t.left.get k := by
  cases t with
  | leaf => rfl
  | node v l r =>
    have h1 : (2 * k + 1) % 2 = 1 := by omega
    have h2 : (2 * k + 1) / 2 = k := by omega
    have h0 : Nat.beq (2 * k + 1) 0 = false := rfl
    simp [get, h0, h1, h2, left]
theorem get_even (t : Tr α) (k : Nat) : t.get (2 * k + 2) = t.right.get k := by
  cases t with
  | leaf => rfl
  | node v l r =>
    have h1 : (2 * k + 2) % 2 = 0 := by omega
    have h2 : (2 * k + 2) / 2 - 1 = k := by omega
    have h0 : Nat.beq (2 * k + 2) 0 = false := rfl
    have h3 : Nat.beq 0 1 = false := rfl
    simp only [get, h0, h1, h2, h3, right, cond_false]
theorem split3 (n : Nat) : n = 0 ∨ (∃ k, n = 2 * k + 1) ∨ (∃ k, n = 2 * k + 2) := by
  rcases Nat.eq_zero_or_pos n with h | h
  · exact .inl h
  · rcases Nat.mod_two_eq_zero_or_one n with h2 | h2
    · exact .inr (.inr ⟨n / 2 - 1, by omega⟩)
    · exact .inr (.inl ⟨n / 2, by omega⟩)
theorem get_setF (f : Nat) : ∀ (t : Tr α) (n : Nat) (a : Option α) (m : Nat), n < f → (setF f t n a).get m = if m = n then a else t.get m := by
  induction f with
  | zero => intro t n a m h; omega
  | succ f ih =>
    intro t n a m h
    rcases split3 n with rfl | ⟨k, rfl⟩ | ⟨k, rfl⟩
    · simp only [setF]
      rcases split3 m with rfl | ⟨j, rfl⟩ | ⟨j, rfl⟩
      · simp [get]
      · rw [get_odd]; simp [get_odd, left]
      · rw [get_even]; simp [get_even, right]
    · have h1 : (2 * k + 1) % 2 = 1 := by omega
      have h2 : (2 * k + 1) / 2 = k := by omega
      have h0 : Nat.beq (2 * k + 1) 0 = false := rfl
      simp only [setF, h1, h2, h0, cond_false]
      rcases split3 m with rfl | ⟨j, rfl⟩ | ⟨j, rfl⟩
      · simp [get_zero, val]
      · rw [get_odd, get_odd]
        simp only [left, Nat.beq_refl, cond_true]
        rw [ih _ _ _ _ (by omega)]
        by_cases e : j = k
        · simp [e]
        · rw [if_neg e, if_neg (by omega)]
      · rw [get_even, get_even]
        simp only [Nat.beq_refl, cond_true, right]
        rw [if_neg (by omega)]
    · have h1 : (2 * k + 2) % 2 = 0 := by omega
      have h2 : (2 * k + 2) / 2 - 1 = k := by omega
      have h0 : Nat.beq (2 * k + 2) 0 = false := rfl
      have h3 : Nat.beq 0 1 = false := rfl
      simp only [setF, h1, h2, h0, h3, cond_false]
      rcases split3 m with rfl | ⟨j, rfl⟩ | ⟨j, rfl⟩
      · simp [get_zero, val]
      · rw [get_odd, get_odd]
        simp only [left]
        rw [if_neg (by omega)]
      · rw [get_even, get_even]
        simp only [right]
        rw [ih _ _ _ _ (by omega)]
        by_cases e : j = k
        · simp [e]
        · rw [if_neg e, if_neg (by omega)]
theorem get_set (t : Tr α) (n : Nat) (a : α) (m : Nat) : (t.set n a).get m = if m = n then some a else t.get m := get_setF _ _ _ _ _ (Nat.lt_succ_self _)
theorem get_del (t : Tr α) (n : Nat) (m : Nat) : (t.del n).get m = if m = n then none else t.get m := get_setF _ _ _ _ _ (Nat.lt_succ_self _)
@[simp] theorem get_leaf (m : Nat) : (Tr.leaf : Tr α).get m = none := rfl
end Tr

/-! ### The abstract heap -/
inductive AObj where
  | dead
  | cells (ro : Bool) (c : List Value)
  | map (es : List MapEntry) (clock : Nat)
  | mapIter (m : Option Nat) (since : Nat) (seen : List Nat) (stepped : Nat)
  | strIter (s : ByteArray) (pos : Nat)

def AObj.live : AObj → Bool | .dead => false | _ => true
def AObj.mut : AObj → Bool | .dead => false | .cells ro _ => !ro | _ => true

structure AH where
  next : Nat
  t : Tr AObj

namespace AH
def get (h : AH) (b : Nat) : AObj := cond (Nat.blt b h.next) ((h.t.get b).getD .dead) .dead
def set (h : AH) (b : Nat) (o : AObj) : AH := { h with t := h.t.set b o }
def push (h : AH) (o : AObj) : AH := { next := h.next + 1, t := h.t.set h.next o }
theorem get_eq (h : AH) (b : Nat) : h.get b = if b < h.next then (h.t.get b).getD .dead else .dead := by
  unfold get
  by_cases e : b < h.next
  · have : Nat.blt b h.next = true := by simp [Nat.blt_eq, e]
    simp [this, e]
  · have : Nat.blt b h.next = false := by
      rw [Bool.eq_false_iff]; intro h'; exact e (by simpa [Nat.blt_eq] using h')
    simp [this, e]
theorem get_ge (h : AH) {b : Nat} (hb : h.next ≤ b) : h.get b = .dead := by rw [get_eq, if_neg (by omega)]
theorem get_set (h : AH) (b : Nat) (o : AObj) (m : Nat) (hb : b < h.next) : (h.set b o).get m = if m = b then o else h.get m := by
  simp only [get_eq, set, Tr.get_set]
  by_cases e : m = b
  · subst e; simp [hb]
  · simp [e]
theorem get_push (h : AH) (o : AObj) (m : Nat) : (h.push o).get m = if m = h.next then o else h.get m := by
  simp only [get_eq, push, Tr.get_set]
  by_cases e : m = h.next
  · subst e; simp
  · by_cases e2 : m < h.next
    · simp [e, e2, Nat.lt_succ_of_lt e2]
    · simp [e, e2, show ¬ m < h.next + 1 by omega]
theorem lt_of_live (h : AH) {b : Nat} (hl : h.get b ≠ .dead) : b < h.next := by
  rcases Nat.lt_or_ge b h.next with h1 | h1
  · exact h1
  · exact absurd (h.get_ge h1) hl
@[simp] theorem next_set (h : AH) (b : Nat) (o : AObj) : (h.set b o).next = h.next := rfl
@[simp] theorem next_push (h : AH) (o : AObj) : (h.push o).next = h.next + 1 := rfl
end AH

/-! ### How values stand to values -/
structure Pl where
  blk : Nat
  off : Nat
  ext : Nat

abbrev Phi := Nat → Option Pl
def Phi.le (φ ψ : Phi) : Prop := ∀ b p, φ b = some p → ψ b = some p
theorem Phi.le_refl (φ : Phi) : φ.le φ := fun _ _ h => h
theorem Phi.le_trans {φ ψ χ : Phi} (h : φ.le ψ) (k : ψ.le χ) : φ.le χ := fun b p e => k b p (h b p e)

/-- The third number of an abstract slice is the size of an element in cells; its capacity is not told. -/
inductive SliceR (φ : Phi) : Option Addr → Nat → Nat → Option Addr → Nat → Nat → Prop
  | nil : SliceR φ none 0 0 none 0 0
  | some {b o n z cap : Nat} {p : Pl} (h : φ b = .some p) (hn : n ≤ cap) (hc : o + cap * z ≤ p.ext) :
      SliceR φ (.some ⟨b, o, none⟩) n z (.some ⟨p.blk, p.off + o, none⟩) n cap
  | empty (a a' : Addr) (z : Nat) : SliceR φ (.some a) 0 z (.some a') 0 0

mutual
inductive VR (φ : Phi) : Value → Value → Prop
  | bool (b : Bool) : VR φ (.bool b) (.bool b)
  | int (k : IntKind) (n : Int) : VR φ (.int k n) (.int k n)
  | float (k : FloatKind) (n : Nat) : VR φ (.float k n) (.float k n)
  | complex (k : FloatKind) (a b : Nat) : VR φ (.complex k a b) (.complex k a b)
  | string (s : ByteArray) : VR φ (.string s) (.string s)
  | ptrNil : VR φ (.pointer none) (.pointer none)
  | ptr {b o : Nat} {p : Pl} (h : φ b = some p) : VR φ (.pointer (some ⟨b, o, none⟩)) (.pointer (some ⟨p.blk, p.off + o, none⟩))
  | slice {a : Option Addr} {n z : Nat} {a' : Option Addr} {n' cap : Nat} (h : SliceR φ a n z a' n' cap) : VR φ (.slice a n z) (.slice a' n' cap)
  | mapNil : VR φ (.map none) (.map none)
  | map {r : Nat} {p : Pl} (h : φ r = some p) : VR φ (.map (some r)) (.map (some p.blk))
  | func (fn : Fn) : VR φ (.func fn #[] #[]) (.func fn #[] #[])
  | nilFunc : VR φ .nilFunc .nilFunc
  | iface (t : TypeId) {v v' : Value} (h : VR φ v v') : VR φ (.iface t v) (.iface t v')
  | nilIface : VR φ .nilIface .nilIface
  | agg {c c' : List Value} (h : VRs φ c c') : VR φ (.agg c.toArray) (.agg c'.toArray)
  | tuple {c c' : List Value} (h : VRs φ c c') : VR φ (.tuple c.toArray) (.tuple c'.toArray)
inductive VRs (φ : Phi) : List Value → List Value → Prop
  | nil : VRs φ [] []
  | cons {v v' : Value} {l l' : List Value} (h : VR φ v v') (t : VRs φ l l') : VRs φ (v :: l) (v' :: l')
end

theorem SliceR.mono {φ ψ : Phi} (hle : φ.le ψ) {a a' : Option Addr} {n z n' cap : Nat} (h : SliceR φ a n z a' n' cap) : SliceR ψ a n z a' n' cap := by
  cases h with
  | nil => exact .nil
  | some h hn hc => exact .some (hle _ _ h) hn hc
  | empty a a' z => exact .empty _ _ _

mutual
theorem VR.mono {φ ψ : Phi} (hle : φ.le ψ) {v v' : Value} : VR φ v v' → VR ψ v v'
  | .bool _ => .bool _
  | .int _ _ => .int _ _
  | .float _ _ => .float _ _
  | .complex _ _ _ => .complex _ _ _
  | .string _ => .string _
  | .ptrNil => .ptrNil
  | .ptr h => .ptr (hle _ _ h)
  | .slice h => .slice (h.mono hle)
  | .mapNil => .mapNil
  | .map h => .map (hle _ _ h)
  | .func _ => .func _
  | .nilFunc => .nilFunc
  | .iface t h => .iface t (h.mono hle)
  | .nilIface => .nilIface
  | .agg h => .agg (h.mono hle)
  | .tuple h => .tuple (h.mono hle)
theorem VRs.mono {φ ψ : Phi} (hle : φ.le ψ) {l l' : List Value} : VRs φ l l' → VRs ψ l l'
  | .nil => .nil
  | .cons h t => .cons (h.mono hle) (t.mono hle)
end

theorem VRs.length {φ : Phi} {l l' : List Value} (h : VRs φ l l') : l'.length = l.length := by
  induction l generalizing l' with
  | nil => cases h; rfl
  | cons x t ih => cases h with | cons h t => simp [ih t]
theorem VRs.get {φ : Phi} {l l' : List Value} (h : VRs φ l l') {i : Nat} {v : Value} (hv : l[i]? = some v) : ∃ v', l'[i]? = some v' ∧ VR φ v v' := by
  induction l generalizing l' i with
  | nil => simp at hv
  | cons x t ih =>
    cases h with
    | cons hx ht =>
      cases i with
      | zero => simp at hv; subst hv; exact ⟨_, rfl, hx⟩
      | succ i => simpa using ih ht (by simpa using hv)
theorem VRs.of_get {φ : Phi} : ∀ {l l' : List Value}, l'.length = l.length → (∀ (i : Nat) (v : Value), l[i]? = some v → ∃ v', l'[i]? = some v' ∧ VR φ v v') → VRs φ l l'
  | [], [], _, _ => .nil
  | [], _ :: _, h, _ => by simp at h
  | _ :: _, [], h, _ => by simp at h
  | x :: l, y :: l', h, hg => by
    refine .cons ?_ (VRs.of_get (by simpa using h) fun i v hv => by simpa using hg (i + 1) v (by simpa using hv))
    obtain ⟨v', h1, h2⟩ := hg 0 x rfl
    simp at h1; subst h1; exact h2
theorem VRs.append {φ : Phi} {l l' m m' : List Value} (h : VRs φ l l') (k : VRs φ m m') : VRs φ (l ++ m) (l' ++ m') := by
  induction l generalizing l' with
  | nil => cases h; simpa using k
  | cons x t ih => cases h with | cons hx ht => exact .cons hx (ih ht)
theorem VRs.take {φ : Phi} {l l' : List Value} (h : VRs φ l l') (n : Nat) : VRs φ (l.take n) (l'.take n) := by
  induction l generalizing l' n with
  | nil => cases h; simpa using VRs.nil
  | cons x t ih =>
    cases h with
    | cons hx ht => cases n with
      | zero => exact .nil
      | succ n => exact .cons hx (ih ht n)
theorem VRs.drop {φ : Phi} {l l' : List Value} (h : VRs φ l l') (n : Nat) : VRs φ (l.drop n) (l'.drop n) := by
  induction l generalizing l' n with
  | nil => cases h; simpa using VRs.nil
  | cons x t ih =>
    cases h with
    | cons hx ht => cases n with
      | zero => exact .cons hx ht
      | succ n => exact ih ht n

/-! ### Values without an address -/
def groundF : Nat → Value → Bool
  | _, .bool _ | _, .int _ _ | _, .float _ _ | _, .complex _ _ _ | _, .string _ | _, .pointer none | _, .map none | _, .nilFunc | _, .nilIface => true
  | _, .slice none 0 0 => true
  | _, .func _ first captured => first.isEmpty && captured.isEmpty
  | n + 1, .iface _ v => groundF n v
  | n + 1, .agg c => c.toList.all (groundF n)
  | n + 1, .tuple c => c.toList.all (groundF n)
  | _, _ => false
abbrev ground (v : Value) : Bool := groundF 5 v

theorem VRs.ground_of {φ : Phi} {p : Value → Bool} (hp : ∀ v v', p v = true → VR φ v v' → v' = v) :
    ∀ {l l' : List Value}, l.all p = true → VRs φ l l' → l' = l
  | [], _, _, .nil => rfl
  | x :: l, _, h, .cons hx ht => by
    simp at h
    rw [hp _ _ h.1 hx, VRs.ground_of hp (by simpa using h.2) ht]
theorem VR.ground_of {φ : Phi} : ∀ (n : Nat) (v v' : Value), groundF n v = true → VR φ v v' → v' = v := by
  intro n
  induction n with
  | zero =>
    intro v v' h hv
    cases hv with
    | slice hs => cases hs with
      | nil => rfl
      | _ => simp [groundF] at h
    | _ => first | rfl | (simp [groundF] at h)
  | succ n ih =>
    intro v v' h hv
    cases hv with
    | slice hs => cases hs with
      | nil => rfl
      | _ => simp [groundF] at h
    | iface t hx => rw [ih _ _ (by simpa [groundF] using h) hx]
    | agg hx => rw [VRs.ground_of ih (by simpa [groundF] using h) hx]
    | tuple hx => rw [VRs.ground_of ih (by simpa [groundF] using h) hx]
    | _ => first | rfl | (simp [groundF] at h)
theorem VRs.ground_refl {φ : Phi} {p : Value → Bool} (hp : ∀ v, p v = true → VR φ v v) : ∀ {l : List Value}, l.all p = true → VRs φ l l
  | [], _ => .nil
  | x :: l, h => by simp at h; exact .cons (hp _ h.1) (VRs.ground_refl hp (by simpa using h.2))
theorem VR.ground_refl {φ : Phi} : ∀ (n : Nat) (v : Value), groundF n v = true → VR φ v v := by
  intro n
  induction n with
  | zero =>
    intro v h
    cases v with
    | bool => exact .bool _
    | int => exact .int _ _
    | float => exact .float _ _
    | complex => exact .complex _ _ _
    | string => exact .string _
    | pointer a => cases a with
      | none => exact .ptrNil
      | some a => simp [groundF] at h
    | map a => cases a with
      | none => exact .mapNil
      | some a => simp [groundF] at h
    | slice a n c => cases a with
      | none => cases n with
        | zero => cases c with
          | zero => exact .slice .nil
          | succ c => simp [groundF] at h
        | succ n => simp [groundF] at h
      | some a => simp [groundF] at h
    | func fn f c =>
      simp [groundF] at h
      obtain ⟨rfl, rfl⟩ := h
      exact .func _
    | nilFunc => exact .nilFunc
    | nilIface => exact .nilIface
    | _ => simp [groundF] at h
  | succ n ih =>
    intro v h
    cases v with
    | bool => exact .bool _
    | int => exact .int _ _
    | float => exact .float _ _
    | complex => exact .complex _ _ _
    | string => exact .string _
    | pointer a => cases a with
      | none => exact .ptrNil
      | some a => simp [groundF] at h
    | map a => cases a with
      | none => exact .mapNil
      | some a => simp [groundF] at h
    | slice a n c => cases a with
      | none => cases n with
        | zero => cases c with
          | zero => exact .slice .nil
          | succ c => simp [groundF] at h
        | succ n => simp [groundF] at h
      | some a => simp [groundF] at h
    | func fn f c =>
      simp [groundF] at h
      obtain ⟨rfl, rfl⟩ := h
      exact .func _
    | nilFunc => exact .nilFunc
    | nilIface => exact .nilIface
    | iface t v => exact .iface t (ih _ (by simpa [groundF] using h))
    | agg c => exact VR.agg (c := c.toList) (c' := c.toList) (VRs.ground_refl ih (by simpa [groundF] using h))
    | tuple c => exact VR.tuple (c := c.toList) (c' := c.toList) (VRs.ground_refl ih (by simpa [groundF] using h))
    | _ => simp [groundF] at h
end Go.Am

/-
  An abstract machine over the model's code, part 2: when an abstract heap stands for a part of a world, and what a step leaves alone.
-/
namespace Go.Am
open Go

structure ER (φ : Phi) (e e' : MapEntry) : Prop where
  gr : ground e.key = true
  key : e'.key = e.key
  born : e'.born = e.born
  val : VR φ e.val e'.val
inductive ERs (φ : Phi) : List MapEntry → List MapEntry → Prop
  | nil : ERs φ [] []
  | cons {e e' : MapEntry} {l l' : List MapEntry} (h : ER φ e e') (t : ERs φ l l') : ERs φ (e :: l) (e' :: l')
theorem ERs.mono {φ ψ : Phi} (hle : φ.le ψ) {l l' : List MapEntry} : ERs φ l l' → ERs ψ l l'
  | .nil => .nil
  | .cons h t => .cons ⟨h.gr, h.key, h.born, h.val.mono hle⟩ (t.mono hle)
theorem ERs.length {φ : Phi} {l l' : List MapEntry} (h : ERs φ l l') : l'.length = l.length := by
  induction l generalizing l' with
  | nil => cases h; rfl
  | cons x t ih => cases h with | cons h t => simp [ih t]
theorem ERs.append {φ : Phi} {l l' m m' : List MapEntry} (h : ERs φ l l') (k : ERs φ m m') : ERs φ (l ++ m) (l' ++ m') := by
  induction l generalizing l' with
  | nil => cases h; simpa using k
  | cons x t ih => cases h with | cons hx ht => exact .cons hx (ih ht)
theorem ERs.get {φ : Phi} {l l' : List MapEntry} (h : ERs φ l l') {i : Nat} {v : MapEntry} (hv : l[i]? = some v) : ∃ v', l'[i]? = some v' ∧ ER φ v v' := by
  induction l generalizing l' i with
  | nil => simp at hv
  | cons x t ih =>
    cases h with
    | cons hx ht =>
      cases i with
      | zero => simp at hv; subst hv; exact ⟨_, rfl, hx⟩
      | succ i => simpa using ih ht (by simpa using hv)

/-- None of these cells is frozen. -/
def Soft (f : Nat × Nat) (o n : Nat) : Prop := ∀ i, o ≤ i → i < o + n → ¬ (f.1 ≤ i ∧ i < f.2)
theorem soft_zero (o n : Nat) : Soft (0, 0) o n := fun i _ _ h => by simp at h

def ObjOk (φ : Phi) (pl : Option Pl) (heap : Array Obj) : AObj → Prop
  | .dead => True
  | .cells ro c => ∃ p pc e f, pl = some p ∧ heap[p.blk]? = some (.cells pc e f) ∧ p.off + p.ext ≤ pc.size ∧ c.length ≤ p.ext ∧
      (ro = false → Soft f p.off p.ext) ∧ ∀ i v, c[i]? = some v → ∃ v', pc[p.off + i]? = some v' ∧ VR φ v v'
  | .map es clock => ∃ p es', pl = some p ∧ heap[p.blk]? = some (.map es' clock) ∧ ERs φ es es'.toList
  | .mapIter m since seen stepped => ∃ p m', pl = some p ∧ heap[p.blk]? = some (.mapIter m' since seen.toArray stepped) ∧ VR φ (.map m) (.map m') ∧ p.off = 0
  | .strIter s pos => ∃ p, pl = some p ∧ heap[p.blk]? = some (.stringIter s pos)

theorem ObjOk.mono {φ ψ : Phi} (hle : φ.le ψ) {pl : Option Pl} {heap heap' : Array Obj} {o : AObj}
    (hb : ∀ p, pl = some p → o.live = true → heap'[p.blk]? = heap[p.blk]?) (h : ObjOk φ pl heap o) : ObjOk ψ pl heap' o := by
  cases o with
  | dead => trivial
  | cells ro c =>
    obtain ⟨p, pc, e, f, hp, h1, h2, h3, h4, h5⟩ := h
    refine ⟨p, pc, e, f, hp, by rw [hb p hp rfl]; exact h1, h2, h3, h4, fun i v hv => ?_⟩
    obtain ⟨v', ha, hv'⟩ := h5 i v hv
    exact ⟨v', ha, hv'.mono hle⟩
  | map es clock =>
    obtain ⟨p, es', hp, h1, h2⟩ := h
    exact ⟨p, es', hp, by rw [hb p hp rfl]; exact h1, h2.mono hle⟩
  | mapIter m since seen st =>
    obtain ⟨p, m', hp, h1, h2, h3⟩ := h
    exact ⟨p, m', hp, by rw [hb p hp rfl]; exact h1, h2.mono hle, h3⟩
  | strIter s pos =>
    obtain ⟨p, hp, h1⟩ := h
    exact ⟨p, hp, by rw [hb p hp rfl]; exact h1⟩
theorem ObjOk.at_some {φ : Phi} {pl : Option Pl} {heap : Array Obj} {o : AObj} (h : ObjOk φ pl heap o) (hl : o.live = true) : ∃ p, pl = some p := by
  cases o with
  | dead => cases hl
  | cells ro c => obtain ⟨p, _, _, _, hp, _⟩ := h; exact ⟨p, hp⟩
  | map es clock => obtain ⟨p, _, hp, _⟩ := h; exact ⟨p, hp⟩
  | mapIter m since seen st => obtain ⟨p, _, hp, _⟩ := h; exact ⟨p, hp⟩
  | strIter s pos => obtain ⟨p, hp, _⟩ := h; exact ⟨p, hp⟩

structure HR (φ : Phi) (h : AH) (w : World) : Prop where
  fresh : ∀ b, h.next ≤ b → φ b = none
  low : ∀ b p, φ b = some p → p.blk < w.heap.size
  obj : ∀ b, ObjOk φ (φ b) w.heap (h.get b)
  sep : ∀ b b' p p', b ≠ b' → φ b = some p → φ b' = some p' → (h.get b).live = true → (h.get b').live = true → (h.get b).mut = true → p.blk ≠ p'.blk

/-- What a step leaves alone: all memory that was there and that the abstract heap does not own. -/
structure Keep (φ : Phi) (h : AH) (w : World) (φ' : Phi) (h' : AH) (w' : World) : Prop where
  os : w'.os = w.os
  tape : w'.tape = w.tape
  output : w'.output = w.output
  size : w.heap.size ≤ w'.heap.size
  le : φ.le φ'
  next : h.next ≤ h'.next
  same : ∀ k, k < w.heap.size → (∀ b p, φ b = some p → (h.get b).mut = true → p.blk ≠ k) → w'.heap[k]? = w.heap[k]?
  own : ∀ b p, φ' b = some p → (h'.get b).mut = true → p.blk < w.heap.size → ∃ b0 p0, φ b0 = some p0 ∧ (h.get b0).mut = true ∧ p0.blk = p.blk
  ownl : ∀ b p, φ' b = some p → (h'.get b).live = true → p.blk < w.heap.size → ∃ b0 p0, φ b0 = some p0 ∧ (h.get b0).live = true ∧ p0.blk = p.blk
  old : ∀ b, b < h.next → φ b = none → φ' b = none

theorem Keep.refl (φ : Phi) (h : AH) (w : World) : Keep φ h w φ h w :=
  ⟨rfl, rfl, rfl, Nat.le_refl _, φ.le_refl, Nat.le_refl _, fun _ _ _ => rfl, fun b p hp hm _ => ⟨b, p, hp, hm, rfl⟩, fun b p hp hm _ => ⟨b, p, hp, hm, rfl⟩, fun _ _ h => h⟩
theorem Keep.trans {φ φ1 φ2 : Phi} {h h1 h2 : AH} {w w1 w2 : World} (a : Keep φ h w φ1 h1 w1) (b : Keep φ1 h1 w1 φ2 h2 w2) : Keep φ h w φ2 h2 w2 where
  os := b.os.trans a.os
  tape := b.tape.trans a.tape
  output := b.output.trans a.output
  size := Nat.le_trans a.size b.size
  le := Phi.le_trans a.le b.le
  next := Nat.le_trans a.next b.next
  same := fun k hk hno => by
    rw [b.same k (Nat.lt_of_lt_of_le hk a.size) ?_, a.same k hk hno]
    intro c p hp hm e
    obtain ⟨c0, p0, h0, m0, e0⟩ := a.own c p hp hm (by omega)
    exact hno c0 p0 h0 m0 (by omega)
  own := fun c p hp hm hlt => by
    obtain ⟨c1, p1, hp1, hm1, e1⟩ := b.own c p hp hm (Nat.lt_of_lt_of_le hlt a.size)
    obtain ⟨c0, p0, h0, m0, e0⟩ := a.own c1 p1 hp1 hm1 (by omega)
    exact ⟨c0, p0, h0, m0, by omega⟩
  ownl := fun c p hp hm hlt => by
    obtain ⟨c1, p1, hp1, hm1, e1⟩ := b.ownl c p hp hm (Nat.lt_of_lt_of_le hlt a.size)
    obtain ⟨c0, p0, h0, m0, e0⟩ := a.ownl c1 p1 hp1 hm1 (by omega)
    exact ⟨c0, p0, h0, m0, by omega⟩
  old := fun c hc hn => b.old c (Nat.lt_of_lt_of_le hc a.next) (a.old c hc hn)

/-- The streams of two worlds are the same. -/
structure SameOut (w w' : World) : Prop where
  os : w'.os = w.os
  tape : w'.tape = w.tape
  output : w'.output = w.output
theorem SameOut.refl (w : World) : SameOut w w := ⟨rfl, rfl, rfl⟩

/-- A world that differs in its draws alone. -/
theorem HR.same_heap {φ : Phi} {h : AH} {w w' : World} (hr : HR φ h w) (e : w'.heap = w.heap) : HR φ h w' :=
  ⟨hr.fresh, fun b p hp => by rw [e]; exact hr.low b p hp, fun b => by rw [e]; exact hr.obj b, hr.sep⟩
theorem Keep.same_heap (φ : Phi) (h : AH) {w w' : World} (s : SameOut w w') (e : w'.heap = w.heap) : Keep φ h w φ h w' :=
  ⟨s.os, s.tape, s.output, by rw [e]; exact Nat.le_refl _, φ.le_refl, Nat.le_refl _, fun _ _ _ => by rw [e], fun b p hp hm _ => ⟨b, p, hp, hm, rfl⟩, fun b p hp hm _ => ⟨b, p, hp, hm, rfl⟩, fun _ _ h => h⟩

def Phi.put (φ : Phi) (b : Nat) (p : Pl) : Phi := fun c => if c = b then some p else φ c
theorem Phi.put_self (φ : Phi) (b : Nat) (p : Pl) : φ.put b p b = some p := if_pos rfl
theorem Phi.put_ne (φ : Phi) {b c : Nat} (p : Pl) (h : c ≠ b) : φ.put b p c = φ c := if_neg h
theorem Phi.le_put {φ : Phi} {b : Nat} (p : Pl) (h : φ b = none) : φ.le (φ.put b p) := fun c q hq => by
  by_cases e : c = b
  · subst e; rw [h] at hq; cases hq
  · rw [φ.put_ne p e]; exact hq

/-- A new block. -/
theorem HR.push {φ : Phi} {h : AH} {w w' : World} (hr : HR φ h w) {o : AObj} {o' : Obj} {ext : Nat} (hw : w'.heap = w.heap.push o')
    (ho : ObjOk (φ.put h.next ⟨w.heap.size, 0, ext⟩) (some ⟨w.heap.size, 0, ext⟩) w'.heap o) : HR (φ.put h.next ⟨w.heap.size, 0, ext⟩) (h.push o) w' where
  fresh := fun b hb => by
    simp at hb
    rw [Phi.put_ne _ _ (by omega)]; exact hr.fresh b (by omega)
  low := fun b p hp => by
    rw [hw]; simp
    by_cases e : b = h.next
    · subst e; rw [Phi.put_self] at hp; cases hp; simp
    · rw [Phi.put_ne _ _ e] at hp; have := hr.low b p hp; omega
  obj := fun b => by
    rw [AH.get_push]
    by_cases e : b = h.next
    · subst e; rw [if_pos rfl, Phi.put_self]; exact ho
    · rw [if_neg e, Phi.put_ne _ _ e]
      refine (hr.obj b).mono (Phi.le_put _ (hr.fresh _ (Nat.le_refl _))) fun p hp _ => ?_
      have := hr.low b p hp
      rw [hw, Array.getElem?_push, if_neg (by omega)]
  sep := fun b b' p p' hne hp hp' hl hl' hm => by
    rw [AH.get_push] at hl hl' hm
    by_cases e : b = h.next
    · subst e
      rw [Phi.put_self] at hp; cases hp
      rw [Phi.put_ne _ _ (by omega)] at hp'
      have := hr.low b' p' hp'
      show w.heap.size ≠ _
      omega
    · rw [Phi.put_ne _ _ e] at hp
      rw [if_neg e] at hl hm
      by_cases e' : b' = h.next
      · subst e'
        rw [Phi.put_self] at hp'; cases hp'
        have := hr.low b p hp
        show _ ≠ w.heap.size
        omega
      · rw [Phi.put_ne _ _ e'] at hp'
        rw [if_neg e'] at hl'
        exact hr.sep b b' p p' hne hp hp' hl hl' hm
theorem Keep.push {φ : Phi} {h : AH} {w w' : World} (hr : HR φ h w) (s : SameOut w w') {o : AObj} {o' : Obj} {ext : Nat} (hw : w'.heap = w.heap.push o') :
    Keep φ h w (φ.put h.next ⟨w.heap.size, 0, ext⟩) (h.push o) w' where
  os := s.os
  tape := s.tape
  output := s.output
  size := by rw [hw]; simp
  le := Phi.le_put _ (hr.fresh _ (Nat.le_refl _))
  next := by simp
  same := fun k hk _ => by rw [hw, Array.getElem?_push, if_neg (by omega)]
  own := fun b p hp hm hlt => by
    by_cases e : b = h.next
    · subst e; rw [Phi.put_self] at hp; cases hp; simp at hlt
    · rw [Phi.put_ne _ _ e] at hp
      rw [AH.get_push, if_neg e] at hm
      exact ⟨b, p, hp, hm, rfl⟩
  ownl := fun b p hp hm hlt => by
    by_cases e : b = h.next
    · subst e; rw [Phi.put_self] at hp; cases hp; simp at hlt
    · rw [Phi.put_ne _ _ e] at hp
      rw [AH.get_push, if_neg e] at hm
      exact ⟨b, p, hp, hm, rfl⟩
  old := fun b hb hn => by rw [Phi.put_ne _ _ (by omega)]; exact hn

/-- A block that is owned is written. -/
theorem HR.set {φ : Phi} {h : AH} {w w' : World} (hr : HR φ h w) {b : Nat} {p : Pl} {o : AObj} {o' : Obj} (hp : φ b = some p) (hm : (h.get b).mut = true)
    (hw : w'.heap = w.heap.setIfInBounds p.blk o') (ho : ObjOk φ (some p) w'.heap o) : HR φ (h.set b o) w' := by
  have hlive : (h.get b).live = true := by cases e : h.get b <;> simp_all [AObj.live, AObj.mut]
  have hb : b < h.next := h.lt_of_live (by intro e; rw [e] at hm; cases hm)
  refine ⟨fun c hc => hr.fresh c hc, fun c q hq => by rw [hw]; simp; exact hr.low c q hq, fun c => ?_, fun c c' q q' hne hq hq' hlc hlc' hmc => ?_⟩
  · rw [AH.get_set _ _ _ _ hb]
    by_cases e : c = b
    · subst e; rw [if_pos rfl, hp]; exact ho
    · rw [if_neg e]
      refine (hr.obj c).mono φ.le_refl fun q hq hlc => ?_
      have := hr.sep b c p q (Ne.symm e) hp hq hlive hlc hm
      rw [hw, Array.getElem?_setIfInBounds, if_neg this]
  · rw [AH.get_set _ _ _ _ hb] at hlc hlc' hmc
    by_cases e : c = b
    · subst e
      rw [if_neg (Ne.symm hne)] at hlc'
      rw [hq] at hp; cases hp
      exact hr.sep c c' _ q' hne hq hq' hlive hlc' hm
    · rw [if_neg e] at hlc hmc
      by_cases e' : c' = b
      · subst e'
        rw [hq'] at hp; cases hp
        exact hr.sep c c' q _ hne hq hq' hlc hlive hmc
      · rw [if_neg e'] at hlc'
        exact hr.sep c c' q q' hne hq hq' hlc hlc' hmc
theorem Keep.set {φ : Phi} {h : AH} {w w' : World} (s : SameOut w w') {b : Nat} {p : Pl} {o : AObj} {o' : Obj} (hp : φ b = some p) (hm : (h.get b).mut = true)
    (hw : w'.heap = w.heap.setIfInBounds p.blk o') : Keep φ h w φ (h.set b o) w' where
  os := s.os
  tape := s.tape
  output := s.output
  size := by rw [hw]; simp
  le := φ.le_refl
  next := by simp
  same := fun k hk hno => by rw [hw, Array.getElem?_setIfInBounds, if_neg (hno b p hp hm)]
  own := fun c q hq hmc hlt => by
    have hb : b < h.next := h.lt_of_live (by intro e; rw [e] at hm; cases hm)
    rw [AH.get_set _ _ _ _ hb] at hmc
    by_cases e : c = b
    · subst e; rw [hq] at hp; cases hp; exact ⟨c, _, hq, hm, rfl⟩
    · rw [if_neg e] at hmc; exact ⟨c, q, hq, hmc, rfl⟩
  ownl := fun c q hq hmc hlt => by
    have hlive : (h.get b).live = true := by cases e : h.get b <;> simp_all [AObj.live, AObj.mut]
    have hb : b < h.next := h.lt_of_live (by intro e; rw [e] at hm; cases hm)
    rw [AH.get_set _ _ _ _ hb] at hmc
    by_cases e : c = b
    · subst e; rw [hq] at hp; cases hp; exact ⟨c, _, hq, hlive, rfl⟩
    · rw [if_neg e] at hmc; exact ⟨c, q, hq, hmc, rfl⟩
  old := fun _ _ hn => hn

/-- A block that is owned goes, nothing is written. -/
theorem HR.kill {φ : Phi} {h : AH} {w : World} (hr : HR φ h w) (b : Nat) : HR φ (h.set b .dead) w := by
  by_cases hb : b < h.next
  · refine ⟨fun c hc => hr.fresh c hc, hr.low, fun c => ?_, fun c c' q q' hne hq hq' hlc hlc' hmc => ?_⟩
    · rw [AH.get_set _ _ _ _ hb]
      by_cases e : c = b
      · subst e; rw [if_pos rfl]; trivial
      · rw [if_neg e]; exact hr.obj c
    · rw [AH.get_set _ _ _ _ hb] at hlc hlc' hmc
      by_cases e : c = b
      · subst e; rw [if_pos rfl] at hlc; cases hlc
      · by_cases e' : c' = b
        · subst e'; rw [if_pos rfl] at hlc'; cases hlc'
        · rw [if_neg e] at hlc hmc; rw [if_neg e'] at hlc'
          exact hr.sep c c' q q' hne hq hq' hlc hlc' hmc
  · have hg : ∀ m, (h.set b .dead).get m = h.get m := fun m => by
      simp only [AH.get_eq, AH.set, Tr.get_set]
      by_cases e : m = b
      · subst e; simp [hb]
      · simp [e]
    exact ⟨fun c hc => hr.fresh c hc, hr.low, fun c => by rw [hg]; exact hr.obj c, fun c c' q q' => by rw [hg, hg]; exact hr.sep c c' q q'⟩
theorem Keep.kill (φ : Phi) (h : AH) (w : World) (b : Nat) : Keep φ h w φ (h.set b .dead) w := by
  refine ⟨rfl, rfl, rfl, Nat.le_refl _, φ.le_refl, Nat.le_refl _, fun _ _ _ => rfl, fun c q hq hmc _ => ⟨c, q, hq, ?_, rfl⟩, fun c q hq hmc _ => ⟨c, q, hq, ?_, rfl⟩, fun _ _ h => h⟩
  all_goals
    simp only [AH.get_eq, AH.set, Tr.get_set] at hmc ⊢
    by_cases e : c = b
    · subst e; simp [AObj.mut, AObj.live] at hmc
    · simpa [e] using hmc

/-- A new abstract block over a physical one that an abstract block owned, which has gone. -/
theorem HR.again {φ : Phi} {h : AH} {w w' : World} (hr : HR φ h w) {b : Nat} {p q : Pl} {o : AObj} {o' : Obj} (hp : φ b = some p) (hm : (h.get b).mut = true)
    (hq : q.blk = p.blk) (hw : w'.heap = w.heap.setIfInBounds p.blk o')
    (ho : ObjOk (φ.put h.next q) (some q) w'.heap o) : HR (φ.put h.next q) ((h.set b .dead).push o) w' := by
  have hlive : (h.get b).live = true := by cases e : h.get b <;> simp_all [AObj.live, AObj.mut]
  have hb : b < h.next := h.lt_of_live (by intro e; rw [e] at hm; cases hm)
  have hn : φ h.next = none := hr.fresh _ (Nat.le_refl _)
  have hg : ∀ m, ((h.set b .dead).push o).get m = if m = h.next then o else if m = b then .dead else h.get m := fun m => by
    rw [AH.get_push, AH.next_set, AH.get_set _ _ _ _ hb]
  refine ⟨fun c hc => ?_, fun c r hr' => ?_, fun c => ?_, fun c c' r r' hne hc hc' hlc hlc' hmc => ?_⟩
  · simp at hc
    rw [Phi.put_ne _ _ (by omega)]; exact hr.fresh c (by omega)
  · rw [hw]; simp
    by_cases e : c = h.next
    · subst e; rw [Phi.put_self] at hr'; cases hr'; rw [hq]; exact hr.low b p hp
    · rw [Phi.put_ne _ _ e] at hr'; exact hr.low c r hr'
  · rw [hg]
    by_cases e : c = h.next
    · subst e; rw [if_pos rfl, Phi.put_self]; exact ho
    · rw [if_neg e, Phi.put_ne _ _ e]
      by_cases e2 : c = b
      · rw [if_pos e2]; trivial
      · rw [if_neg e2]
        refine (hr.obj c).mono (Phi.le_put _ hn) fun r hr' hlc => ?_
        have := hr.sep b c p r (Ne.symm e2) hp hr' hlive hlc hm
        rw [hw, Array.getElem?_setIfInBounds, if_neg this]
  · rw [hg] at hlc hlc' hmc
    by_cases e : c = h.next
    · subst e
      rw [Phi.put_self] at hc; cases hc
      rw [Phi.put_ne _ _ (Ne.symm hne)] at hc'
      rw [if_neg (Ne.symm hne)] at hlc'
      by_cases e2 : c' = b
      · rw [if_pos e2] at hlc'; cases hlc'
      · rw [if_neg e2] at hlc'
        rw [hq]
        exact hr.sep b c' p r' (Ne.symm e2) hp hc' hlive hlc' hm
    · rw [Phi.put_ne _ _ e] at hc
      rw [if_neg e] at hlc hmc
      by_cases e2 : c = b
      · rw [if_pos e2] at hlc; cases hlc
      · rw [if_neg e2] at hlc hmc
        by_cases e' : c' = h.next
        · subst e'
          rw [Phi.put_self] at hc'; cases hc'
          rw [hq]
          exact hr.sep c b r p e2 hc hp hlc hlive hmc
        · rw [Phi.put_ne _ _ e'] at hc'
          rw [if_neg e'] at hlc'
          by_cases e3 : c' = b
          · rw [if_pos e3] at hlc'; cases hlc'
          · rw [if_neg e3] at hlc'
            exact hr.sep c c' r r' hne hc hc' hlc hlc' hmc
theorem Keep.again {φ : Phi} {h : AH} {w w' : World} (hr : HR φ h w) (s : SameOut w w') {b : Nat} {p q : Pl} {o : AObj} {o' : Obj} (hp : φ b = some p) (hm : (h.get b).mut = true)
    (hq : q.blk = p.blk) (hw : w'.heap = w.heap.setIfInBounds p.blk o') : Keep φ h w (φ.put h.next q) ((h.set b .dead).push o) w' where
  os := s.os
  tape := s.tape
  output := s.output
  size := by rw [hw]; simp
  le := Phi.le_put _ (hr.fresh _ (Nat.le_refl _))
  next := by simp
  same := fun k hk hno => by rw [hw, Array.getElem?_setIfInBounds, if_neg (hno b p hp hm)]
  own := fun c r hr' hmc hlt => by
    have hb : b < h.next := h.lt_of_live (by intro e; rw [e] at hm; cases hm)
    rw [AH.get_push, AH.next_set, AH.get_set _ _ _ _ hb] at hmc
    by_cases e : c = h.next
    · subst e; rw [Phi.put_self] at hr'; cases hr'; exact ⟨b, p, hp, hm, hq.symm⟩
    · rw [Phi.put_ne _ _ e] at hr'
      rw [if_neg e] at hmc
      by_cases e2 : c = b
      · rw [if_pos e2] at hmc; cases hmc
      · rw [if_neg e2] at hmc; exact ⟨c, r, hr', hmc, rfl⟩
  ownl := fun c r hr' hmc hlt => by
    have hlive : (h.get b).live = true := by cases e : h.get b <;> simp_all [AObj.live, AObj.mut]
    have hb : b < h.next := h.lt_of_live (by intro e; rw [e] at hm; cases hm)
    rw [AH.get_push, AH.next_set, AH.get_set _ _ _ _ hb] at hmc
    by_cases e : c = h.next
    · subst e; rw [Phi.put_self] at hr'; cases hr'; exact ⟨b, p, hp, hlive, hq.symm⟩
    · rw [Phi.put_ne _ _ e] at hr'
      rw [if_neg e] at hmc
      by_cases e2 : c = b
      · rw [if_pos e2] at hmc; cases hmc
      · rw [if_neg e2] at hmc; exact ⟨c, r, hr', hmc, rfl⟩
  old := fun c hc hn => by rw [Phi.put_ne _ _ (by omega)]; exact hn
end Go.Am

/-
  An abstract machine over the model's code, part 3: the operations that neither call nor range.
-/
namespace Go.Am
open Go

/-- A run that needs no world. -/
def pureRun (P : Program) {α : Type} : Sem α → Option α
  | .pure a => some a
  | .program k => pureRun P (k P)
  | .mark _ k => pureRun P k
  | _ => none
theorem pureRun_run {P : Program} {α : Type} (s : Sem α) {a : α} (h : pureRun P s = some a) (w : World) : s.run P w = .ok a w := by
  induction s with
  | pure b => simp [pureRun] at h; subst h; rfl
  | program k ih => exact ih P (by simpa [pureRun] using h)
  | mark m k ih => exact ih (by simpa [pureRun] using h)
  | _ => simp [pureRun] at h

/-- An operation, its types looked up. -/
inductive AOp where
  | mv (x : Operand)
  | pick (c a b : Operand)
  | new (zs : List Value)
  | box (x : Operand)
  | build (zs : List Value) (parts : List (Nat × Nat × Operand))
  | buildSlice (sz len : Nat) (zs : List Value) (parts : List (Nat × Nat × Operand))
  | load (agg : Option Nat) (a : Operand)
  | store (n : Nat) (a x : Operand)
  | nilCheck (x : Operand)
  | fieldAddr (off : Nat) (x : Operand)
  | indexAddr (arr : Option Nat) (sz : Nat) (x i : Operand)
  | field (agg : Option Nat) (off : Nat) (x : Operand)
  | extract (x : Operand) (i : Nat)
  | sliceS (sz : Nat) (x : Operand) (lo hi : Option Operand)
  | sliceA (n sz : Nat) (x : Operand) (lo hi : Option Operand)
  | scal (o : Oper)
  | lenS (x : Operand)
  | append (sz bytes : Nat) (s x : Operand)
  | makeMap
  | makeSlice (sz bytes : Nat) (zs : List Value) (l c : Operand)
  | lookup (kt : TypeId) (zero : Value) (m k : Operand) (ok : Bool)
  | mapUpdate (kt : TypeId) (m k x : Operand)
  | range (m : Operand)
  | entry (it : Operand)
  | bytesOf (x : Operand)
  | stringOf (x : Operand)
  | makeIface (t : TypeId) (x : Operand)

/-- Parts laid into a row of cells. -/
def fillL (ρ : Operand → Option Value) (cs : List Value) : List (Nat × Nat × Operand) → Option (List Value)
  | [] => some cs
  | (off, size, x) :: rest =>
    match ρ x with
    | some v =>
      cond (Nat.beq v.cells.size size && Nat.ble (off + size) cs.length)
        (fillL ρ (cs.take off ++ v.cells.toList ++ cs.drop (off + size)) rest) none
    | none => none

def natOf : Option Value → Option Nat
  | some (.int _ (.ofNat n)) => some n
  | _ => none
def boundOf (ρ : Operand → Option Value) (d : Nat) : Option Operand → Option Nat
  | none => some d
  | some x => natOf (ρ x)
def cellsAt (h : AH) : Value → Option (Nat × Nat × Bool × List Value)
  | .pointer (some ⟨b, o, none⟩) => match h.get b with
    | .cells ro c => some (b, o, ro, c)
    | _ => none
  | _ => none
/-- The cells of a slice (n elements). -/
def segOf (h : AH) (sz : Nat) : Value → Option (Nat × List Value)
  | .slice none 0 0 => some (0, [])
  | .slice (some ⟨b, o, none⟩) n z =>
    cond (Nat.beq n 0) (some (0, []))
      (cond (Nat.beq z sz)
        (match h.get b with
        | .cells _ c => cond (Nat.ble (o + n * sz) c.length) (some (n, (c.drop o).take (n * sz))) none
        | _ => none) none)
  | _ => none
def allGround (ρ : Operand → Option Value) (l : List Operand) : Bool := l.all fun x => match ρ x with | some v => ground v | none => false
def hasOne : Value → Bool | .agg _ | .tuple _ => false | _ => true
def findK (P : Program) (em : Bool) (kt : TypeId) (k : Value) (es : List MapEntry) : Option (Option Nat) :=
  match pureRun P (Instr.checkKey em 10000 kt k), pureRun P (Instr.findKey kt k (es.map fun e => { e with val := undef })) with
  | some (), some (some (i, _)) => some (some i)
  | some (), some none => some none
  | _, _ => none

def isByteV : Value → Bool | .int .u8 (.ofNat n) => Nat.blt n 256 | _ => false
def byteOfV : Value → UInt8 | .int _ (.ofNat n) => n.toUInt8 | _ => 0
abbrev byteV (b : UInt8) : Value := .int .u8 b.toNat

def AOp.run (P : Program) (ρ : Operand → Option Value) (h : AH) : AOp → Option (Value × AH)
  | .mv x => (ρ x).map fun v => (v, h)
  | .pick c a b => match ρ c with
    | some (.bool t) => (cond t (ρ a) (ρ b)).map fun v => (v, h)
    | _ => none
  | .new zs => some (.pointer (some ⟨h.next, 0, none⟩), h.push (.cells false zs))
  | .box x => (ρ x).map fun v => (.pointer (some ⟨h.next, 0, none⟩), h.push (.cells false v.cells.toList))
  | .build zs parts => (fillL ρ zs parts).map fun cs => (.agg cs.toArray, h)
  | .buildSlice sz len zs parts => (fillL ρ zs parts).map fun cs => (.slice (some ⟨h.next, 0, none⟩) len sz, h.push (.cells false cs))
  | .load agg a => match ρ a with
    | some v => match cellsAt h v with
      | some (_, o, _, c) => match agg with
        | none => (c[o]?).map fun v => (v, h)
        | some n => cond (Nat.ble (o + n) c.length) (some (.agg ((c.drop o).take n).toArray, h)) none
      | none => none
    | none => none
  | .store n a x => match ρ a, ρ x with
    | some v, some u => match cellsAt h v with
      | some (b, o, ro, c) =>
        cond (!ro && Nat.beq u.cells.size n && Nat.ble (o + n) c.length && u.cells.toList.all hasOne)
          (some (undef, h.set b (.cells false (c.take o ++ u.cells.toList ++ c.drop (o + n))))) none
      | none => none
    | _, _ => none
  | .nilCheck x => match ρ x with
    | some (.pointer (some a)) => some (.pointer (some a), h)
    | _ => none
  | .fieldAddr off x => match ρ x with
    | some (.pointer (some ⟨b, o, none⟩)) => some (.pointer (some ⟨b, o + off, none⟩), h)
    | _ => none
  | .indexAddr (some n) sz x i => match ρ x, natOf (ρ i) with
    | some (.pointer (some ⟨b, o, none⟩)), some k => cond (Nat.blt k n) (some (.pointer (some ⟨b, o + k * sz, none⟩), h)) none
    | _, _ => none
  | .indexAddr none sz x i => match ρ x, natOf (ρ i) with
    | some (.slice (some ⟨b, o, none⟩) n z), some k => cond (Nat.blt k n && Nat.beq z sz) (some (.pointer (some ⟨b, o + k * sz, none⟩), h)) none
    | _, _ => none
  | .field agg off x => match ρ x with
    | some (.agg cs) => match agg with
      | none => (cs[off]?).map fun v => (v, h)
      | some n => some (.agg ((cs.toList.drop off).take n).toArray, h)
    | _ => none
  | .extract x i => match ρ x with
    | some (.tuple vs) => (vs[i]?).map fun v => (v, h)
    | _ => none
  | .sliceS sz x lo hi => match ρ x with
    | some (.slice a n z) => match boundOf ρ 0 lo, boundOf ρ n hi with
      | some l, some m => cond (Nat.ble l m && Nat.ble m n) (match a with
        | none => some (.slice none 0 0, h)
        | some ⟨b, o, none⟩ => cond (Nat.beq z sz) (some (.slice (some ⟨b, o + l * sz, none⟩) (m - l) sz, h)) none
        | _ => none) none
      | _, _ => none
    | _ => none
  | .sliceA n sz x lo hi => match ρ x with
    | some v => match cellsAt h v with
      | some (b, o, _, c) => match boundOf ρ 0 lo, boundOf ρ n hi with
        | some l, some m => cond (Nat.ble l m && Nat.ble m n && Nat.ble (o + n * sz) c.length) (some (.slice (some ⟨b, o + l * sz, none⟩) (m - l) sz, h)) none
        | _, _ => none
      | none => none
    | none => none
  | .scal o => cond (allGround ρ o.op.operands.toList)
      (match pureRun P (execOp (fun x => (ρ x).getD undef) o) with
      | some (.value v) => cond (ground v) (some (v, h)) none
      | _ => none) none
  | .lenS x => match ρ x with
    | some (.slice _ n _) => some (.int .i64 n, h)
    | _ => none
  | .append sz bytes s x => match ρ s, ρ x with
    | some v, some u => match segOf h sz u with
      | some (0, _) => match v with
        | .slice _ _ _ => some (v, h)
        | _ => none
      | some (m, nw) => match v with
        | .slice none 0 0 => cond (Nat.ble (m * bytes) 140737488355328 && Nat.ble m 140737488355328)
            (some (.slice (some ⟨h.next, 0, none⟩) m sz, h.push (.cells false nw))) none
        | .slice (some ⟨b, o, none⟩) n z => match h.get b with
          | .cells false c =>
            cond (Nat.beq z sz && Nat.ble (o + n * sz) c.length && Nat.ble ((n + m) * bytes) 140737488355328 && Nat.ble (n + m) 140737488355328 && nw.all hasOne)
              (some (.slice (some ⟨h.next, 0, none⟩) (n + m) sz, (h.set b .dead).push (.cells false ((c.drop o).take (n * sz) ++ nw)))) none
          | _ => none
        | _ => none
      | none => none
    | _, _ => none
  | .makeMap => some (.map (some h.next), h.push (.map [] 0))
  | .makeSlice sz bytes zs l c => match natOf (ρ l), natOf (ρ c) with
    | some l, some c => cond (Nat.ble l c && Nat.ble (bytes * c) 281474976710656 && Nat.ble c 281474976710656)
        (some (.slice (some ⟨h.next, 0, none⟩) l sz, h.push (.cells false ((List.replicate c zs).flatten)))) none
    | _, _ => none
  | .lookup kt zero m k ok => match ρ m, ρ k with
    | some (.map (some r)), some kv => match h.get r with
      | .map es _ => cond (ground kv) (match findK P es.isEmpty kt kv es with
        | some (some i) => match es[i]? with
          | some e => some (cond ok (.tuple #[e.val, .bool true]) e.val, h)
          | none => none
        | some none => some (cond ok (.tuple #[zero, .bool false]) zero, h)
        | none => none) none
      | _ => none
    | _, _ => none
  | .mapUpdate kt m k x => match ρ m, ρ k, ρ x with
    | some (.map (some r)), some kv, some xv => match h.get r with
      | .map es clock => cond (ground kv) (match findK P false kt kv es with
        | some (some i) => match es[i]? with
          | some e => cond (Instr.sameBits 10000 e.key kv)
              (some (undef, h.set r (.map (es.take i ++ { e with key := kv, val := xv } :: es.drop (i + 1)) clock))) none
          | none => none
        | some none => some (undef, h.set r (.map (es ++ [{ key := kv, val := xv, born := clock }]) (clock + 1)))
        | none => none) none
      | _ => none
    | _, _, _ => none
  | .range m => match ρ m with
    | some (.map (some r)) => match h.get r with
      | .map _ clock => some (.pointer (some ⟨h.next, 0, none⟩), h.push (.mapIter (some r) clock [] clock))
      | _ => none
    | _ => none
  | .entry it => match ρ it with
    | some (.pointer (some ⟨i, 0, none⟩)) => match h.get i with
      | .mapIter (some r) _ seen stepped => match h.get r, seen.getLast? with
        | .map es clock, some stamp => cond (Nat.beq clock stepped) (match es.find? (fun e => Nat.beq e.born stamp) with
          | some e => some (.tuple #[e.key, e.val], h)
          | none => none) none
        | _, _ => none
      | _ => none
    | _ => none
  | .bytesOf x => match ρ x with
    | some (.string s) => some (.slice (some ⟨h.next, 0, none⟩) s.size 1, h.push (.cells false (s.data.toList.map byteV)))
    | _ => none
  | .stringOf x => match ρ x with
    | some v => match segOf h 1 v with
      | some (_, c) => cond (c.all isByteV) (some (.string ⟨(c.map byteOfV).toArray⟩, h)) none
      | none => none
    | none => none
  | .makeIface t x => (ρ x).map fun v => (.iface t v, h)
end Go.Am

/-
  An abstract machine over the model's code, part 4: cells that are read and written.
-/
namespace Go.Am
open Go
variable {P : Program}

theorem hasOne_eq (v : Value) : hasOne v = v.oneCell' := by cases v <;> rfl
theorem addr_add (B O i : Nat) : (⟨B, O, none⟩ : Addr).add i = ⟨B, O + i, none⟩ := by unfold Addr.add; split <;> simp_all

theorem run_storeCells_soft (g o : Nat) (t : TypeId) (f : Nat × Nat) : ∀ (vs : List Value) (i : Nat) (cur : Array Value) (w : World), w.heap[g]? = some (.cells cur t f) →
    Soft f (o + i) vs.length → o + i + vs.length ≤ cur.size → (∀ v ∈ vs, v.oneCell' = true) →
    (storeCells ⟨g, o, none⟩ vs i).run P w = .ok () (w.setRow g (cur.toList.take (o + i) ++ vs ++ cur.toList.drop (o + i + vs.length)).toArray)
  | [], i, cur, w, hg, _, _, _ => by
    simp only [storeCells, List.append_nil, List.length_nil, Nat.add_zero, List.take_append_drop, Array.toArray_toList]
    rw [setRow_self w g cur t f hg]
    rfl
  | v :: rest, i, cur, w, hg, hs, hl, h1 => by
    have hi : o + i < cur.size := by simp at hl; omega
    have hcell : w.cell? ⟨g, o + i, none⟩ = some cur[o + i] := by simp [World.cell?, hg, hi]
    have hfro : w.frozen? ⟨g, o + i, none⟩ = false := by
      have := hs (o + i) (Nat.le_refl _) (by simp)
      simp only [World.frozen?, hg]
      simpa using this
    have hst : (store ((⟨g, o, none⟩ : Addr).add i) v).run P w = .ok () (w.setRow g (cur.setIfInBounds (o + i) v)) := by
      rw [addr_add, run_store P w _ v _ (h1 v (by simp)), hcell]
      simp [hfro, setCell_eq_setRow w g (o + i) cur t f v hg]
    have ih := run_storeCells_soft g o t f rest (i + 1) (cur.setIfInBounds (o + i) v) (w.setRow g (cur.setIfInBounds (o + i) v)) (setRow_heap w g cur _ t _ hg)
      (fun j hj hj2 => hs j (by omega) (by simp; omega)) (by simp at hl ⊢; omega) (fun x hx => h1 x (by simp [hx]))
    simp only [storeCells, Sem.run_bind, hst, Result.andThen_ok, ih, setRow_setRow]
    congr 3
    have e := list_seg_step cur.toList (o + i) v rest (by simp at hl ⊢; omega)
    simpa [Array.toList_setIfInBounds, Nat.add_assoc] using e

theorem setRow_heap_eq (w : World) (g : Nat) (old cs : Array Value) (t : TypeId) (f : Nat × Nat) (hg : w.heap[g]? = some (.cells old t f)) :
    (w.setRow g cs).heap = w.heap.setIfInBounds g (.cells cs t f) := by
  apply Array.ext_getElem?
  intro i
  simp only [World.setRow, Array.getElem?_modify, Array.getElem?_setIfInBounds]
  by_cases e : g = i
  · subst e
    have hlt : g < w.heap.size := (Array.getElem?_eq_some_iff.1 hg).1
    rw [if_pos rfl, if_pos rfl, if_pos hlt, hg]
    rfl
  · simp [e]
theorem sameOut_setRow (w : World) (g : Nat) (cs : Array Value) : SameOut w (w.setRow g cs) := ⟨rfl, rfl, rfl⟩

theorem VR.oneCell {φ : Phi} {v v' : Value} (h : VR φ v v') : v'.oneCell' = v.oneCell' := by cases h <;> rfl
theorem VR.cells {φ : Phi} {v v' : Value} (h : VR φ v v') : VRs φ v.cells.toList v'.cells.toList := by
  cases h with
  | agg h => simpa [Value.cells] using h
  | _ => exact .cons (by constructor <;> assumption) .nil
theorem VR.cells_size {φ : Phi} {v v' : Value} (h : VR φ v v') : v'.cells.size = v.cells.size := by simpa using h.cells.length
theorem VRs.oneCells {φ : Phi} {l l' : List Value} (h : VRs φ l l') (h1 : l.all hasOne = true) : ∀ v ∈ l', v.oneCell' = true := by
  induction l generalizing l' with
  | nil => cases h; simp
  | cons x t ih =>
    cases h with
    | cons hx ht =>
      simp at h1
      intro v hv
      simp at hv
      rcases hv with rfl | hv
      · rw [hx.oneCell, ← hasOne_eq]; exact h1.1
      · exact ih ht (by simpa using h1.2) v hv

/-- The cells of an abstract block, in the world. -/
theorem HR.cells {φ : Phi} {h : AH} {w : World} (hr : HR φ h w) {b : Nat} {ro : Bool} {c : List Value} (hb : h.get b = .cells ro c) :
    ∃ p pc e f, φ b = some p ∧ w.heap[p.blk]? = some (.cells pc e f) ∧ p.off + p.ext ≤ pc.size ∧ c.length ≤ p.ext ∧ (ro = false → Soft f p.off p.ext) ∧
      VRs φ c ((pc.toList.drop p.off).take c.length) := by
  have := hr.obj b
  rw [hb] at this
  obtain ⟨p, pc, e, f, hp, h1, h2, h3, h4, h5⟩ := this
  refine ⟨p, pc, e, f, hp, h1, h2, h3, h4, VRs.of_get (by simp; omega) fun i v hv => ?_⟩
  obtain ⟨v', ha, hv'⟩ := h5 i v hv
  refine ⟨v', ?_, hv'⟩
  have hi : i < c.length := (List.getElem?_eq_some_iff.1 hv).1
  simp [hi, List.getElem?_drop, ← ha]

theorem cellsAt_inv {h : AH} {v : Value} {b o : Nat} {ro : Bool} {c : List Value} (hc : cellsAt h v = some (b, o, ro, c)) :
    v = .pointer (some ⟨b, o, none⟩) ∧ h.get b = .cells ro c := by
  unfold cellsAt at hc
  split at hc
  · split at hc
    · cases hc; exact ⟨rfl, by assumption⟩
    · cases hc
  · cases hc
theorem VR.ptr_inv {φ : Phi} {b o : Nat} {v' : Value} (h : VR φ (.pointer (some ⟨b, o, none⟩)) v') : ∃ p, φ b = some p ∧ v' = .pointer (some ⟨p.blk, p.off + o, none⟩) := by
  cases h with | ptr h => exact ⟨_, h, rfl⟩

/-- A row of cells of an abstract block, read. -/
theorem load_cells {φ : Phi} {h : AH} {w : World} (hr : HR φ h w) {b o n : Nat} {ro : Bool} {c : List Value} {p : Pl} (hb : h.get b = .cells ro c) (hp : φ b = some p) (hn : o + n ≤ c.length) :
    ∃ l', (loadCells ⟨p.blk, p.off + o, none⟩ n).run P w = .ok l'.toArray w ∧ VRs φ ((c.drop o).take n) l' ∧ ∀ j v, l'[j]? = some v → w.cell? ⟨p.blk, p.off + o + j, none⟩ = some v := by
  obtain ⟨p', pc, e, f, hp', h1, h2, h3, _, h5⟩ := hr.cells hb
  rw [hp] at hp'; cases hp'
  have hl : ((pc.toList.drop (p.off + o)).take n).length = n := by simp; omega
  have hcell : ∀ j v, ((pc.toList.drop (p.off + o)).take n)[j]? = some v → w.cell? ⟨p.blk, p.off + o + j, none⟩ = some v := by
    intro j v hv
    have hj : j < n := by have := (List.getElem?_eq_some_iff.1 hv).1; omega
    simp only [World.cell?, h1]
    rw [List.getElem?_take, if_pos hj, List.getElem?_drop] at hv
    simpa using hv
  refine ⟨(pc.toList.drop (p.off + o)).take n, ?_, ?_, hcell⟩
  · have := run_loadCells_list (P := P) w ⟨p.blk, p.off + o, none⟩ ((pc.toList.drop (p.off + o)).take n) (fun j v hv => by rw [addr_add]; exact hcell j v hv)
    rw [hl] at this
    exact this
  · have h6 := (h5.drop o).take n
    rw [List.drop_take, List.drop_drop, List.take_take] at h6
    rw [Nat.min_eq_left (by omega)] at h6
    exact h6

/-- A row of cells of an abstract block, written. -/
theorem store_cells {φ : Phi} {h : AH} {w : World} (hr : HR φ h w) {b o : Nat} {c us us' : List Value} {p : Pl} (hb : h.get b = .cells false c) (hp : φ b = some p)
    (hn : o + us.length ≤ c.length) (hu : VRs φ us us') (h1 : us.all hasOne = true) :
    ∃ w', (storeCells ⟨p.blk, p.off + o, none⟩ us' 0).run P w = .ok () w' ∧ HR φ (h.set b (.cells false (c.take o ++ us ++ c.drop (o + us.length)))) w' ∧
      Keep φ h w φ (h.set b (.cells false (c.take o ++ us ++ c.drop (o + us.length)))) w' := by
  obtain ⟨p', pc, e, f, hp', hw, h2, h3, h4, h5⟩ := hr.cells hb
  rw [hp] at hp'; cases hp'
  have hlen := hu.length
  have hm : (h.get b).mut = true := by rw [hb]; rfl
  have hrun := run_storeCells_soft (P := P) p.blk (p.off + o) e f us' 0 pc w hw
    (fun i hi hi2 => h4 rfl i (by omega) (by omega)) (by omega) (hu.oneCells h1)
  have hheap := setRow_heap_eq w p.blk pc (pc.toList.take (p.off + o + 0) ++ us' ++ pc.toList.drop (p.off + o + 0 + us'.length)).toArray e f hw
  refine ⟨_, hrun, hr.set hp hm hheap ?_, Keep.set (sameOut_setRow _ _ _) hp hm hheap⟩
  have hlt : p.blk < w.heap.size := (Array.getElem?_eq_some_iff.1 hw).1
  refine ⟨p, (pc.toList.take (p.off + o + 0) ++ us' ++ pc.toList.drop (p.off + o + 0 + us'.length)).toArray, e, f, rfl, ?_, by simp; omega, by simp; omega, h4, fun i v hv => ?_⟩
  · rw [hheap, Array.getElem?_setIfInBounds, if_pos rfl, if_pos hlt]
  simp only [Nat.add_zero, List.getElem?_toArray]
  have hi : i < c.length := by have := (List.getElem?_eq_some_iff.1 hv).1; simp at this; omega
  rcases Nat.lt_or_ge i o with hio | hio
  · rw [List.append_assoc, List.getElem?_append_left (by simp; omega), List.getElem?_take, if_pos hio] at hv
    rw [List.append_assoc, List.getElem?_append_left (by simp; omega), List.getElem?_take, if_pos (by omega)]
    obtain ⟨v', ha, hv'⟩ := h5.get hv
    refine ⟨v', ?_, hv'⟩
    simpa [List.getElem?_take, hi, List.getElem?_drop] using ha
  · rcases Nat.lt_or_ge i (o + us.length) with hi2 | hi2
    · rw [List.append_assoc, List.getElem?_append_right (by simp; omega), List.getElem?_append_left (by simp; omega)] at hv
      rw [List.append_assoc, List.getElem?_append_right (by simp; omega), List.getElem?_append_left (by simp; omega)]
      simp only [List.length_take] at hv ⊢
      rw [Nat.min_eq_left (by omega)] at hv
      rw [Nat.min_eq_left (by simp; omega)]
      obtain ⟨v', ha, hv'⟩ := hu.get hv
      exact ⟨v', by rw [← ha]; congr 1; omega, hv'⟩
    · rw [List.getElem?_append_right (by simp; omega)] at hv
      rw [List.getElem?_append_right (by simp; omega)]
      simp only [List.length_append, List.length_take, List.getElem?_drop] at hv ⊢
      rw [Nat.min_eq_left (by omega)] at hv
      rw [Nat.min_eq_left (by simp; omega)]
      obtain ⟨v', ha, hv'⟩ := h5.get hv
      refine ⟨v', ?_, hv'⟩
      rw [← ha, List.getElem?_take, if_pos (by omega), List.getElem?_drop]
      congr 1
      omega
end Go.Am

/-
  An abstract machine over the model's code, part 5: each operation of the abstract machine stands for the model's.
-/
namespace Go.Am
open Go
variable {P : Program}

def EnvR (φ : Phi) (ρ : Operand → Option Value) (e : Operand → Value) : Prop := ∀ x v, ρ x = some v → VR φ v (e x)
/-- The model's run of s ends well, as the abstract one. -/
def Sd (P : Program) (φ : Phi) (h : AH) (w : World) (s : Sem Value) (v : Value) (h' : AH) : Prop :=
  ∃ v' w' φ', s.run P w = .ok v' w' ∧ VR φ' v v' ∧ HR φ' h' w' ∧ Keep φ h w φ' h' w'

theorem Sd.quiet {φ : Phi} {h : AH} {w : World} {s : Sem Value} {v v' : Value} (hr : HR φ h w) (hs : s.run P w = .ok v' w) (hv : VR φ v v') : Sd P φ h w s v h :=
  ⟨v', w, φ, hs, hv, hr, Keep.refl _ _ _⟩

theorem nbeq {a b : Nat} : (Nat.beq a b = true) = (a = b) := propext ⟨Nat.eq_of_beq_eq_true, fun h => by subst h; exact Nat.beq_refl _⟩
theorem nblt {a b : Nat} : (Nat.blt a b = true) = (a < b) := by simp [Nat.blt_eq]
def isAggD : TypeDesc → Bool | .struct _ | .array _ _ => true | _ => false
theorem run_isAggD {t : TypeId} {d : TypeDesc} (hd : P.underlying t = some d) (w : World) : (isAgg t).run P w = .ok (isAggD d) w := by
  simp only [isAgg, Sem.run_bind, run_underlying hd, Result.andThen_ok]
  cases d <;> rfl

theorem run_zeroOf {t : TypeId} {i : TypeInfo} {z : Value} (hi : P.info? t = some i) (hz : i.zero = some z) (w : World) : (zeroValue t).run P w = .ok z w := by
  simp [zeroValue, typeInfo, hi, hz]
theorem run_sizeOf' {t : TypeId} {i : TypeInfo} (hi : P.info? t = some i) (w : World) : (sizeOf t).run P w = .ok i.size w := by
  simp [sizeOf, typeInfo, hi]
theorem run_info {t : TypeId} {i : TypeInfo} (hi : P.info? t = some i) (w : World) : (typeInfo t).run P w = .ok i w := by
  simp [typeInfo, hi]

/-- A new row of cells. -/
theorem new_row {φ : Phi} {h : AH} {w : World} (hr : HR φ h w) (ro : Bool) (elem : TypeId) {c c' : List Value} (hc : VRs φ c c') (rest : List Value) (f : Nat × Nat)
    (hf : ro = false → Soft f 0 (c' ++ rest).length) {w' : World} (hs : SameOut w w') (hw : w'.heap = w.heap.push (.cells (c' ++ rest).toArray elem f)) :
    HR (φ.put h.next ⟨w.heap.size, 0, (c' ++ rest).length⟩) (h.push (.cells ro c)) w' ∧
      Keep φ h w (φ.put h.next ⟨w.heap.size, 0, (c' ++ rest).length⟩) (h.push (.cells ro c)) w' := by
  have hle : φ.le (φ.put h.next ⟨w.heap.size, 0, (c' ++ rest).length⟩) := Phi.le_put _ (hr.fresh _ (Nat.le_refl _))
  have hl := hc.length
  refine ⟨hr.push hw ⟨_, (c' ++ rest).toArray, elem, f, rfl, by rw [hw]; simp, by simp, by simp; omega, hf, fun i v hv => ?_⟩, Keep.push hr hs hw⟩
  obtain ⟨v', ha, hv'⟩ := (hc.mono hle).get hv
  refine ⟨v', ?_, hv'⟩
  have hi : i < c'.length := (List.getElem?_eq_some_iff.1 ha).1
  simp [List.getElem?_append_left hi, ha]

theorem sd_new {φ : Phi} {h : AH} {w : World} (hr : HR φ h w) (elem : TypeId) {v : Value} (zs : List Value) (hz : VRs φ zs v.cells.toList) :
    Sd P φ h w (do pure (.pointer (some (← newVar elem v)))) (.pointer (some ⟨h.next, 0, none⟩)) (h.push (.cells false zs)) := by
  obtain ⟨h1, h2⟩ := new_row hr false elem hz [] (0, 0) (fun _ => soft_zero _ _) (w' := { w with heap := w.heap.push (.cells v.cells elem) }) ⟨rfl, rfl, rfl⟩ (by simp)
  refine ⟨.pointer (some ⟨w.heap.size, 0, none⟩), _, _, by simp [newVar, newRow], ?_, h1, h2⟩
  exact .ptr (p := ⟨w.heap.size, 0, (v.cells.toList ++ []).length⟩) (Phi.put_self _ _ _)

theorem splice (off : Nat) : ∀ (vs : List Value) (k : Nat) (cs : Array Value), off + k + vs.length ≤ cs.size →
    (vs.zipIdx k).foldl (fun cs (x : Value × Nat) => cs.setIfInBounds (off + x.2) x.1) cs = (cs.toList.take (off + k) ++ vs ++ cs.toList.drop (off + k + vs.length)).toArray
  | [], k, cs, _ => by simp
  | v :: rest, k, cs, hl => by
    simp at hl
    simp only [List.zipIdx_cons, List.foldl_cons]
    rw [splice off rest (k + 1) (cs.setIfInBounds (off + k) v) (by simp; omega)]
    have e := list_seg_step cs.toList (off + k) v rest (by simp; omega)
    congr 1
    simpa [Array.toList_setIfInBounds, Nat.add_assoc] using e

theorem VRs.splice {φ : Phi} {c c' u u' : List Value} (h : VRs φ c c') (k : VRs φ u u') (o : Nat) :
    VRs φ (c.take o ++ u ++ c.drop (o + u.length)) (c'.take o ++ u' ++ c'.drop (o + u'.length)) := by
  rw [k.length]
  exact ((h.take o).append k).append (h.drop _)

theorem fill_ok {φ : Phi} {ρ : Operand → Option Value} {e : Operand → Value} (he : EnvR φ ρ e) (place : Nat → Option (Nat × Nat)) :
    ∀ (ps : List (Nat × Operand)) (qs : List (Nat × Nat × Operand)) (c c' r : List Value), VRs φ c c' →
      qs.map (fun q => (some (q.1, q.2.1), q.2.2)) = ps.map (fun p => (place p.1, p.2)) → fillL ρ c qs = some r →
      ∃ r', Instr.fill place c'.toArray (ps.map fun p => (p.1, e p.2)) = some r'.toArray ∧ VRs φ r r'
  | [], qs, c, c', r, hc, hq, hf => by
    cases qs with
    | nil => simp [fillL] at hf; subst hf; exact ⟨c', rfl, hc⟩
    | cons q qs => simp at hq
  | (i, x) :: ps, [], c, c', r, hc, hq, hf => by simp at hq
  | (i, x) :: ps, (off, size, y) :: qs, c, c', r, hc, hq, hf => by
    simp only [List.map_cons, List.cons.injEq, Prod.mk.injEq] at hq
    obtain ⟨⟨hp, rfl⟩, hq⟩ := hq
    simp only [fillL] at hf
    cases hv : ρ y with
    | none => rw [hv] at hf; cases hf
    | some v =>
      rw [hv] at hf
      simp only at hf
      cases hb : Nat.beq v.cells.size size && Nat.ble (off + size) c.length with
      | false => rw [hb] at hf; cases hf
      | true =>
        rw [hb] at hf
        simp only [cond_true] at hf
        simp only [Bool.and_eq_true, nbeq, Nat.ble_eq] at hb
        have hvv := he _ _ hv
        have h2 := hvv.cells
        have h3 := hvv.cells_size
        have hl := hc.length
        have e1 : ((e y).cells.size ≠ size || decide (off + (e y).cells.size > c'.toArray.size)) = false := by
          simp; omega
        obtain ⟨r', hr', hrr⟩ := fill_ok he place ps qs (c.take off ++ v.cells.toList ++ c.drop (off + size)) (c'.take off ++ (e y).cells.toList ++ c'.drop (off + size)) r
          (by have := hc.splice h2 off; simp only [Array.length_toList] at this; rw [h3, hb.1] at this; exact this) hq hf
        refine ⟨r', ?_, hrr⟩
        simp only [List.map_cons, Instr.fill, ← hp]
        rw [if_neg (by simp; omega)]
        rw [← hr']
        congr 1
        have := splice off (e y).cells.toList 0 c'.toArray (by simp; omega)
        rw [← Array.foldl_toList, Array.toList_zipIdx]
        rw [this]
        simp only [Nat.add_zero, Array.length_toList]
        rw [h3, hb.1]

theorem sd_load {φ : Phi} {h : AH} {w : World} (hr : HR φ h w) {t : TypeId} {i : TypeInfo} {d : TypeDesc} (hi : P.info? t = some i) (hd : P.underlying t = some d)
    {v v' u : Value} {b o : Nat} {ro : Bool} {c : List Value} (hc : cellsAt h v = some (b, o, ro, c)) (hv : VR φ v v')
    (hu : (isAggD d = true ∧ o + i.size ≤ c.length ∧ u = .agg ((c.drop o).take i.size).toArray) ∨ (isAggD d = false ∧ c[o]? = some u)) :
    Sd P φ h w (Instr.loadAt t v') u h := by
  obtain ⟨rfl, hb⟩ := cellsAt_inv hc
  obtain ⟨p, hp, rfl⟩ := hv.ptr_inv
  obtain ⟨p', pc, e, f, hp', hw, h2, h3, _, h5⟩ := hr.cells hb
  rw [hp] at hp'; cases hp'
  rcases hu with ⟨ht, hn, hu⟩ | ⟨ht, hu⟩
  · obtain ⟨l', hl, hv, _⟩ := load_cells (P := P) hr hb hp hn
    refine Sd.quiet hr (v' := .agg l'.toArray) ?_ (by rw [hu]; exact .agg hv)
    simp only [Instr.loadAt, Instr.sureAddr, Sem.run_bind, Sem.run_pure, Result.andThen_ok, loadVar, run_isAggD hd, ht, if_true, run_sizeOf' hi, hl]
  · obtain ⟨u', hu', huv⟩ := h5.get hu
    have ho : o < c.length := (List.getElem?_eq_some_iff.1 hu).1
    rw [List.getElem?_take, if_pos ho, List.getElem?_drop] at hu'
    refine Sd.quiet hr (v' := u') ?_ huv
    have hcell : w.cell? ⟨p.blk, p.off + o, none⟩ = some u' := by simp only [World.cell?, hw]; simpa using hu'
    simp only [Instr.loadAt, Instr.sureAddr, Sem.run_bind, Sem.run_pure, Result.andThen_ok, loadVar, run_isAggD hd, ht, if_false, Bool.false_eq_true, run_load, hcell]

theorem sd_store {φ : Phi} {h : AH} {w : World} (hr : HR φ h w) {t : TypeId} {i : TypeInfo} (hi : P.info? t = some i)
    {v v' u u' : Value} {b o : Nat} {c : List Value} (hc : cellsAt h v = some (b, o, false, c)) (hv : VR φ v v') (hu : VR φ u u')
    (hs : u.cells.size = i.size) (hn : o + i.size ≤ c.length) (h1 : u.cells.toList.all hasOne = true) :
    ∃ w', (Instr.storeAt t v' u').run P w = .ok () w' ∧ HR φ (h.set b (.cells false (c.take o ++ u.cells.toList ++ c.drop (o + i.size)))) w' ∧
      Keep φ h w φ (h.set b (.cells false (c.take o ++ u.cells.toList ++ c.drop (o + i.size)))) w' := by
  obtain ⟨rfl, hb⟩ := cellsAt_inv hc
  obtain ⟨p, hp, rfl⟩ := hv.ptr_inv
  obtain ⟨w', hw', hh, hk⟩ := store_cells (P := P) (o := o) hr hb hp (by simp; omega) hu.cells h1
  refine ⟨w', ?_, by simpa [hs] using hh, by simpa [hs] using hk⟩
  have : ¬ (u'.cells.size ≠ i.size) := by rw [hu.cells_size]; simp [hs]
  simp only [Instr.storeAt, Instr.sureAddr, Sem.run_bind, Sem.run_pure, Result.andThen_ok, storeVar, run_sizeOf' hi, this, if_false]
  exact hw'
end Go.Am

/-
  An abstract machine over the model's code, part 6: addresses, parts, slices, append.
-/
namespace Go.Am
open Go
variable {P : Program}

theorem natOf_inv {v : Option Value} {n : Nat} (h : natOf v = some n) : ∃ k, v = some (.int k n) := by
  unfold natOf at h
  split at h
  · cases h; exact ⟨_, rfl⟩
  · cases h
theorem VR.int_inv {φ : Phi} {k : IntKind} {n : Int} {v' : Value} (h : VR φ (.int k n) v') : v' = .int k n := by cases h; rfl
theorem VR.agg_inv {φ : Phi} {c : Array Value} {v' : Value} (h : VR φ (.agg c) v') : ∃ c' : List Value, v' = .agg c'.toArray ∧ VRs φ c.toList c' := by
  generalize hx : Value.agg c = x at h
  cases h with
  | agg h => cases hx; exact ⟨_, rfl, by simpa using h⟩
  | _ => cases hx
theorem VR.tuple_inv {φ : Phi} {c : Array Value} {v' : Value} (h : VR φ (.tuple c) v') : ∃ c' : List Value, v' = .tuple c'.toArray ∧ VRs φ c.toList c' := by
  generalize hx : Value.tuple c = x at h
  cases h with
  | tuple h => cases hx; exact ⟨_, rfl, by simpa using h⟩
  | _ => cases hx
theorem VR.slice_inv {φ : Phi} {a : Option Addr} {n z : Nat} {v' : Value} (h : VR φ (.slice a n z) v') : ∃ a' cap, v' = .slice a' n cap ∧ SliceR φ a n z a' n cap := by
  cases h with
  | slice h => cases h with
    | nil => exact ⟨_, _, rfl, .nil⟩
    | some h hn hc => exact ⟨_, _, rfl, .some h hn hc⟩
    | empty a a' z => exact ⟨_, _, rfl, .empty _ _ _⟩

theorem sd_fieldAddr {φ : Phi} {h : AH} {w : World} (hr : HR φ h w) {s : TypeId} {fields : Array Field} {f : Nat} {fl : Field} {i : TypeInfo}
    (hu : P.underlying s = some (.struct fields)) (hf : fields[f]? = some fl) (hi : P.info? fl.type = some i) (hn : i.size ≠ 0)
    {b o : Nat} {v' : Value} (hv : VR φ (.pointer (some ⟨b, o, none⟩)) v') :
    Sd P φ h w (Instr.fieldAt s v' f) (.pointer (some ⟨b, o + fl.offset, none⟩)) h := by
  obtain ⟨p, hp, rfl⟩ := hv.ptr_inv
  refine Sd.quiet hr (v' := .pointer (some ⟨p.blk, p.off + (o + fl.offset), none⟩)) ?_ (.ptr hp)
  simp only [Instr.fieldAt, Sem.run_bind, run_underlying hu, Result.andThen_ok, hf, Instr.sureAddr, Sem.run_pure, fieldPlace, run_sizeOf' hi, hn, if_false, addr_add]
  rw [Nat.add_assoc]

theorem sd_indexAddr_arr {φ : Phi} {h : AH} {w : World} (hr : HR φ h w) {t e : TypeId} {n : Nat} {i : TypeInfo}
    (hu : P.underlying t = some (.array n e)) (hi : P.info? e = some i) {b o k : Nat} {ik : IntKind} (hk : k < n) {v' : Value} (hv : VR φ (.pointer (some ⟨b, o, none⟩)) v') :
    Sd P φ h w (Instr.indexAt t v' (.int ik k)) (.pointer (some ⟨b, o + k * i.size, none⟩)) h := by
  obtain ⟨p, hp, rfl⟩ := hv.ptr_inv
  refine Sd.quiet hr (v' := .pointer (some ⟨p.blk, p.off + (o + k * i.size), none⟩)) ?_ (.ptr hp)
  have hk' : 0 ≤ (k : Int) ∧ (k : Int) < (n : Int) := by omega
  simp only [Instr.indexAt, Sem.run_bind, asIntOf, run_underlying hu, Result.andThen_ok, Instr.sureAddr, Sem.run_pure, hk', and_self, if_true, run_sizeOf' hi, addr_add, Int.toNat_natCast]
  rw [Nat.add_assoc]

theorem sd_indexAddr_slice {φ : Phi} {h : AH} {w : World} (hr : HR φ h w) {t e : TypeId} {n : Nat} {i : TypeInfo}
    (hu : P.underlying t = some (.slice e)) (hi : P.info? e = some i) {b o k : Nat} {ik : IntKind} (hk : k < n) {v' : Value} (hv : VR φ (.slice (some ⟨b, o, none⟩) n i.size) v') :
    Sd P φ h w (Instr.indexAt t v' (.int ik k)) (.pointer (some ⟨b, o + k * i.size, none⟩)) h := by
  obtain ⟨a', cap, rfl, hs⟩ := hv.slice_inv
  cases hs with
  | empty => omega
  | some hp hn hc =>
    rename_i p
    refine Sd.quiet hr (v' := .pointer (some ⟨p.blk, p.off + (o + k * i.size), none⟩)) ?_ (.ptr hp)
    have hk' : 0 ≤ (k : Int) ∧ (k : Int) < (n : Int) := by omega
    simp only [Instr.indexAt, Sem.run_bind, asIntOf, run_underlying hu, Result.andThen_ok, Sem.run_pure, hk', and_self, if_true, run_sizeOf' hi, addr_add, Int.toNat_natCast]
    rw [Nat.add_assoc]

theorem sd_field {φ : Phi} {h : AH} {w : World} (hr : HR φ h w) {t : TypeId} {fields : Array Field} {f : Nat} {fl : Field} {i : TypeInfo} {d : TypeDesc}
    (hu : P.underlying t = some (.struct fields)) (hf : fields[f]? = some fl) (hi : P.info? fl.type = some i) (hd : P.underlying fl.type = some d)
    {c : Array Value} {v' u : Value} (hv : VR φ (.agg c) v')
    (hx : (isAggD d = true ∧ u = .agg ((c.toList.drop fl.offset).take i.size).toArray) ∨ (isAggD d = false ∧ c[fl.offset]? = some u)) :
    Sd P φ h w (Instr.field t v' f) u h := by
  obtain ⟨c', rfl, hc⟩ := hv.agg_inv
  rcases hx with ⟨ht, rfl⟩ | ⟨ht, hx⟩
  · refine Sd.quiet hr (v' := .agg ((c'.drop fl.offset).take i.size).toArray) ?_ (.agg ((hc.drop _).take _))
    simp only [Instr.field, Sem.run_bind, run_underlying hu, Result.andThen_ok, hf, asAgg, Sem.run_pure, part, run_isAggD hd, ht, if_true, run_sizeOf' hi]
    congr 2
    apply Array.ext'
    simp [List.extract_eq_take_drop]
  · obtain ⟨u', hu', huv⟩ := hc.get (i := fl.offset) (by simpa using hx)
    refine Sd.quiet hr (v' := u') ?_ huv
    simp [Instr.field, run_underlying hu, hf, asAgg, part, run_isAggD hd, ht, hu']

theorem run_sliceBound (w : World) {k : IntKind} {n y : Nat} (h : n ≤ y) (c : BoundsCode) : (Instr.sliceBound (.int k n) y c).run P w = .ok n w := by
  have : 0 ≤ (n : Int) ∧ (n : Int) ≤ (y : Int) := by omega
  simp [Instr.sliceBound, asIntOf, this]

theorem run_sliceBounds (w : World) (isS : Bool) {len cap l m : Nat} {lo hi : Option Value} (hl : lo = none ∧ l = 0 ∨ ∃ k, lo = some (.int k l)) (hh : hi = none ∧ m = len ∨ ∃ k, hi = some (.int k m))
    (h1 : l ≤ m) (h2 : m ≤ cap) : (Instr.sliceBounds isS len cap lo hi none).run P w = .ok (l, m, cap) w := by
  rcases hh with ⟨rfl, rfl⟩ | ⟨k, rfl⟩ <;> rcases hl with ⟨rfl, rfl⟩ | ⟨k', rfl⟩ <;>
    simp [Instr.sliceBounds, run_sliceBound _ h2, run_sliceBound _ h1]

theorem boundOf_inv {φ : Phi} {ρ : Operand → Option Value} {e : Operand → Value} (he : EnvR φ ρ e) {d n : Nat} {x : Option Operand} (h : boundOf ρ d x = some n) :
    x.map e = none ∧ n = d ∨ ∃ k, x.map e = some (.int k n) := by
  cases x with
  | none => simp [boundOf] at h; exact .inl ⟨rfl, h.symm⟩
  | some y =>
    simp only [boundOf] at h
    obtain ⟨k, hk⟩ := natOf_inv h
    exact .inr ⟨k, by simp [(he _ _ hk).int_inv]⟩

theorem sd_sliceS {φ : Phi} {h : AH} {w : World} (hr : HR φ h w) {t e : TypeId} {i : TypeInfo}
    (hu : P.underlying t = some (.slice e)) (hi : P.info? e = some i) {a : Option Addr} {n z l m : Nat} {lo hi' : Option Value}
    (hl : lo = none ∧ l = 0 ∨ ∃ k, lo = some (.int k l)) (hh : hi' = none ∧ m = n ∨ ∃ k, hi' = some (.int k m)) (h1 : l ≤ m) (h2 : m ≤ n)
    {v' u : Value} (hv : VR φ (.slice a n z) v')
    (hx : (a = none ∧ u = .slice none 0 0) ∨ ∃ b o, a = some ⟨b, o, none⟩ ∧ z = i.size ∧ u = .slice (some ⟨b, o + l * i.size, none⟩) (m - l) i.size) :
    Sd P φ h w (Instr.sliceAt t v' lo hi' none) u h := by
  obtain ⟨a', cap, rfl, hs⟩ := hv.slice_inv
  have hcap : n ≤ cap := by cases hs <;> omega
  have hb := run_sliceBounds (P := P) w true hl hh h1 (show m ≤ cap by omega)
  have hrun : (Instr.sliceAt t (.slice a' n cap) lo hi' none).run P w = .ok (.slice (if cap = l then a' else a'.map (·.add (l * i.size))) (m - l) (cap - l)) w := by
    simp only [Instr.sliceAt, Instr.slice, Sem.run_bind, run_underlying hu, Result.andThen_ok, hb, run_sizeOf' hi, Sem.run_pure]
  refine Sd.quiet hr hrun ?_
  rcases hx with ⟨rfl, rfl⟩ | ⟨b, o, rfl, rfl, rfl⟩
  · cases hs
    have : l = 0 ∧ m = 0 := by omega
    obtain ⟨rfl, rfl⟩ := this
    exact .slice .nil
  · cases hs with
    | empty =>
      have : l = 0 ∧ m = 0 := by omega
      obtain ⟨rfl, rfl⟩ := this
      exact .slice (.empty _ _ _)
    | some hp hn hc =>
      rename_i p
      by_cases e : cap = l
      · have : m - l = 0 ∧ cap - l = 0 := by omega
        rw [if_pos e, this.1, this.2]
        exact .slice (.empty _ _ _)
      · rw [if_neg e]
        simp only [Option.map_some, addr_add]
        rw [Nat.add_assoc]
        refine .slice (.some hp (by omega) ?_)
        have : l * i.size + (cap - l) * i.size = cap * i.size := by rw [← Nat.add_mul]; congr 1; omega
        omega

theorem sd_sliceA {φ : Phi} {h : AH} {w : World} (hr : HR φ h w) {t e : TypeId} {i : TypeInfo} {n : Nat}
    (hu : P.underlying t = some (.array n e)) (hi : P.info? e = some i) {l m : Nat} {lo hi' : Option Value}
    (hl : lo = none ∧ l = 0 ∨ ∃ k, lo = some (.int k l)) (hh : hi' = none ∧ m = n ∨ ∃ k, hi' = some (.int k m)) (h1 : l ≤ m) (h2 : m ≤ n)
    {v v' : Value} {b o : Nat} {ro : Bool} {c : List Value} (hc : cellsAt h v = some (b, o, ro, c)) (hfit : o + n * i.size ≤ c.length) (hv : VR φ v v') :
    Sd P φ h w (Instr.sliceAt t v' lo hi' none) (.slice (some ⟨b, o + l * i.size, none⟩) (m - l) i.size) h := by
  obtain ⟨rfl, hb⟩ := cellsAt_inv hc
  obtain ⟨p, hp, rfl⟩ := hv.ptr_inv
  obtain ⟨p', pc, e', f, hp', hw, h3, h4, _, h5⟩ := hr.cells hb
  rw [hp] at hp'; cases hp'
  have hbd := run_sliceBounds (P := P) w false hl hh h1 h2
  have hrun : (Instr.sliceAt t (.pointer (some ⟨p.blk, p.off + o, none⟩)) lo hi' none).run P w =
      .ok (.slice (some (if n = l then ⟨p.blk, p.off + o, none⟩ else (⟨p.blk, p.off + o, none⟩ : Addr).add (l * i.size))) (m - l) (n - l)) w := by
    simp only [Instr.sliceAt, Instr.sureAddr, Sem.run_bind, run_underlying hu, Result.andThen_ok, hbd, run_sizeOf' hi, Sem.run_pure]
  refine Sd.quiet hr hrun ?_
  by_cases e : n = l
  · have : m - l = 0 ∧ n - l = 0 := by omega
    rw [if_pos e, this.1, this.2]
    exact .slice (.empty _ _ _)
  · rw [if_neg e, addr_add, Nat.add_assoc]
    refine .slice (.some hp (by omega) ?_)
    have : l * i.size + (n - l) * i.size = n * i.size := by rw [← Nat.add_mul]; congr 1; omega
    omega

theorem segOf_inv {φ : Phi} {h : AH} {w : World} (hr : HR φ h w) {sz m : Nat} {u u' : Value} {l : List Value} (hs : segOf h sz u = some (m, l)) (hv : VR φ u u') :
    ∃ a' cap, u' = .slice a' m cap ∧ l.length = m * sz ∧ (m = 0 ∨ ∃ a0 l', a' = some a0 ∧ VRs φ l l' ∧ (loadCells a0 (m * sz)).run P w = .ok l'.toArray w ∧ ∀ j v, l'[j]? = some v → w.cell? (a0.add j) = some v) := by
  unfold segOf at hs
  split at hs
  · cases hs; obtain ⟨a', cap, rfl, hx⟩ := hv.slice_inv; exact ⟨a', cap, rfl, by simp, .inl rfl⟩
  · rename_i b o n z
    obtain ⟨a', cap, rfl, hx⟩ := hv.slice_inv
    cases hn : Nat.beq n 0 with
    | true =>
      rw [hn] at hs
      cases hs
      rw [nbeq] at hn; subst hn
      exact ⟨a', cap, rfl, by simp, .inl rfl⟩
    | false =>
      rw [hn] at hs
      simp only [cond_false] at hs
      have hn0 : n ≠ 0 := by intro e; subst e; exact absurd hn (by decide)
      cases hz : Nat.beq z sz with
      | false => rw [hz] at hs; cases hs
      | true =>
        rw [hz] at hs
        rw [nbeq] at hz; subst hz
        simp only [cond_true] at hs
        split at hs
        · rename_i ro c hb
          cases hle : Nat.ble (o + n * z) c.length with
          | false => rw [hle] at hs; cases hs
          | true =>
            rw [hle] at hs
            simp only [Nat.ble_eq] at hle
            cases hs
            cases hx with
            | empty => exact absurd rfl hn0
            | some hp hn' hc =>
              obtain ⟨l', hl, hvl, hcell⟩ := load_cells (P := P) hr hb hp hle
              exact ⟨_, cap, rfl, by simp; omega, .inr ⟨_, l', rfl, hvl, hl, fun j v hj => by rw [addr_add]; exact hcell j v hj⟩⟩
        · cases hs
  · cases hs

theorem cut_bound (w : World) (need old : Nat) (e : TypeId) : need ≤ grownCap w need old e := grownCap_ge w need old e

theorem sd_append_none {φ : Phi} {h : AH} {w : World} (hr : HR φ h w) {t ty e : TypeId} {i : TypeInfo} (ht : P.underlying t = some (.slice e)) (hi : P.info? e = some i)
    {a : Option Addr} {n z : Nat} {v' u u' : Value} {l : List Value} (hs : segOf h i.size u = some (0, l)) (hv : VR φ (.slice a n z) v') (hu : VR φ u u') :
    Sd P φ h w (Builtin.append_ #[t, t] ty #[v', u']) (.slice a n z) h := by
  obtain ⟨a', cap, rfl, hx⟩ := hv.slice_inv
  obtain ⟨a2, cap2, rfl, _, _⟩ := segOf_inv (P := P) hr hs hu
  have hcap : n ≤ cap := by cases hx <;> omega
  refine Sd.quiet hr (v' := .slice a' n cap) ?_ (.slice hx)
  have hsl : ∀ a0 : Addr, (storeCells a0 [] 0).run P w = .ok () w := fun _ => rfl
  cases a' with
  | none => cases a2 <;> simp [Builtin.append_, run_underlying ht, run_sizeOf' hi, Builtin.lenOf, hcap, Builtin.firstCells, loadCells, loadCellsFrom]
  | some a0 => cases a2 <;> simp [Builtin.append_, run_underlying ht, run_sizeOf' hi, Builtin.lenOf, hcap, Builtin.firstCells, loadCells, loadCellsFrom, storeCells]

theorem sd_append_nil {φ : Phi} {h : AH} {w : World} (hr : HR φ h w) {t ty e : TypeId} {i : TypeInfo} {z : Value} (ht : P.underlying t = some (.slice e)) (hi : P.info? e = some i) (hz : i.zero = some z)
    {m : Nat} {v' u u' : Value} {l : List Value} (hs : segOf h i.size u = some (m, l)) (hm : m ≠ 0) (hv : VR φ (.slice none 0 0) v') (hu : VR φ u u') (hzs : z.cells.size = i.size)
    (hb1 : m * i.bytes ≤ 140737488355328) (hb2 : m ≤ 140737488355328) :
    Sd P φ h w (Builtin.append_ #[t, t] ty #[v', u']) (.slice (some ⟨h.next, 0, none⟩) m i.size) (h.push (.cells false l)) := by
  obtain ⟨a', cap, rfl, hx⟩ := hv.slice_inv
  cases hx
  obtain ⟨a2, cap2, rfl, hll, hx⟩ := segOf_inv (P := P) hr hs hu
  obtain ⟨a0, l', rfl, hvl, hload, hcell⟩ := hx.resolve_left hm
  have hrun := run_append_nil (P := P) w t ty e i z ht hi hz a0 m cap2 l' (by rw [hvl.length]; exact hll) hcell (by omega) (by omega) (by omega)
  have hge := cut_bound w m 0 e
  obtain ⟨h1, h2⟩ := new_row hr false e hvl (Builtin.zeroCells z.cells (grownCap w m 0 e - m)).toList (0, 0) (fun _ => soft_zero _ _)
    (w' := w.drew.alloc (.cells (l'.toArray ++ Builtin.zeroCells z.cells (grownCap w m 0 e - m)) e)) ⟨rfl, rfl, rfl⟩ (congrArg (fun x => w.heap.push (Obj.cells x e)) (by simp))
  refine ⟨_, _, _, hrun, ?_, h1, h2⟩
  have : (⟨w.heap.size, 0, none⟩ : Addr) = ⟨(⟨w.heap.size, 0, (l' ++ (Builtin.zeroCells z.cells (grownCap w m 0 e - m)).toList).length⟩ : Pl).blk, (⟨w.heap.size, 0, (l' ++ (Builtin.zeroCells z.cells (grownCap w m 0 e - m)).toList).length⟩ : Pl).off + 0, none⟩ := rfl
  rw [this]
  refine .slice (.some (Phi.put_self _ _ _) hge ?_)
  simp only [List.length_append, Array.length_toList, size_zeroCells, hzs, hvl.length, hll, ← Nat.add_mul, Nat.zero_add]
  exact Nat.mul_le_mul_right _ (by omega)

theorem sd_append_some {φ : Phi} {h : AH} {w : World} (hr : HR φ h w) {t ty e : TypeId} {i : TypeInfo} {z : Value} (ht : P.underlying t = some (.slice e)) (hi : P.info? e = some i) (hz : i.zero = some z)
    {b o n m : Nat} {v' u u' : Value} {c l : List Value} (hs : segOf h i.size u = some (m, l)) (hm : m ≠ 0) (hv : VR φ (.slice (some ⟨b, o, none⟩) n i.size) v') (hu : VR φ u u') (hzs : z.cells.size = i.size)
    (hb : h.get b = .cells false c) (hfit : o + n * i.size ≤ c.length) (h1 : l.all hasOne = true)
    (hb1 : (n + m) * i.bytes ≤ 140737488355328) (hb2 : n + m ≤ 140737488355328) :
    Sd P φ h w (Builtin.append_ #[t, t] ty #[v', u']) (.slice (some ⟨h.next, 0, none⟩) (n + m) i.size) ((h.set b .dead).push (.cells false ((c.drop o).take (n * i.size) ++ l))) := by
  obtain ⟨a', cap, rfl, hx⟩ := hv.slice_inv
  obtain ⟨a2, cap2, rfl, hll, hx2⟩ := segOf_inv (P := P) hr hs hu
  obtain ⟨a0, l', rfl, hvl, hload, hcell⟩ := hx2.resolve_left hm
  have hll' : l'.length = m * i.size := by rw [hvl.length]; exact hll
  have hmul : (n + m) * i.size = n * i.size + m * i.size := Nat.add_mul _ _ _
  -- it grows
  have grows : ∀ (ad : Addr) (sCap : Nat) (old old' : List Value), VRs φ old old' → old.length = n * i.size → old = (c.drop o).take (n * i.size) → (∀ j v, old'[j]? = some v → w.cell? (ad.add j) = some v) → sCap < n + m →
      Sd P φ h w (Builtin.append_ #[t, t] ty #[.slice (some ad) n sCap, .slice (some a0) m cap2]) (.slice (some ⟨h.next, 0, none⟩) (n + m) i.size) ((h.set b .dead).push (.cells false ((c.drop o).take (n * i.size) ++ l))) := by
    intro ad sCap old old' hvo hol hoe hco hlt
    have hrun := run_append_grow (P := P) w t ty e i z ht hi hz ad n sCap old' (by rw [hvo.length]; exact hol) hco a0 m cap2 l' hll' hcell hlt (by omega) (growslice_fits hlt hb1)
    have hge := cut_bound w (n + m) sCap e
    have hr2 := hr.kill b
    obtain ⟨h3, h4⟩ := new_row hr2 false e (hvo.append hvl) (Builtin.zeroCells z.cells (grownCap w (n + m) sCap e - (n + m))).toList (0, 0) (fun _ => soft_zero _ _)
      (w' := w.drew.alloc (.cells (old'.toArray ++ l'.toArray ++ Builtin.zeroCells z.cells (grownCap w (n + m) sCap e - (n + m))) e)) ⟨rfl, rfl, rfl⟩ (congrArg (fun x => w.heap.push (Obj.cells x e)) (by simp))
    rw [AH.next_set] at h3 h4
    rw [← hoe]
    refine ⟨_, _, _, hrun, ?_, h3, (Keep.kill φ h w b).trans h4⟩
    have : (⟨w.heap.size, 0, none⟩ : Addr) = ⟨(⟨w.heap.size, 0, (old' ++ l' ++ (Builtin.zeroCells z.cells (grownCap w (n + m) sCap e - (n + m))).toList).length⟩ : Pl).blk, (⟨w.heap.size, 0, (old' ++ l' ++ (Builtin.zeroCells z.cells (grownCap w (n + m) sCap e - (n + m))).toList).length⟩ : Pl).off + 0, none⟩ := rfl
    rw [this]
    refine .slice (.some (Phi.put_self _ _ _) hge ?_)
    simp only [List.length_append, Array.length_toList, size_zeroCells, hzs, hvo.length, hol, hll', Nat.zero_add]
    rw [← hmul, ← Nat.add_mul]
    exact Nat.mul_le_mul_right _ (by omega)
  cases hx with
  | empty a a'' z =>
    refine grows _ _ [] [] .nil (by simp) (by simp) (by simp) (by omega)
  | some hp hn hc =>
    rename_i p
    obtain ⟨p', pc, e', f, hp', hw, h2, h3, h4, h5⟩ := hr.cells hb
    rw [hp] at hp'; cases hp'
    by_cases hroom : n + m ≤ cap
    · -- in place
      have hmul2 : (n + m) * i.size ≤ cap * i.size := Nat.mul_le_mul_right _ hroom
      have hsub : (l'.toArray).toList = l' := rfl
      have hst := run_storeCells_soft (P := P) p.blk (p.off + o + n * i.size) e' f l' 0 pc w hw (fun j hj hj2 => h4 rfl j (by omega) (by omega)) (by omega)
        (hvl.oneCells h1)
      have hrun : (Builtin.append_ #[t, t] ty #[.slice (some ⟨p.blk, p.off + o, none⟩) n cap, .slice (some a0) m cap2]).run P w =
          .ok (.slice (some ⟨p.blk, p.off + o, none⟩) (n + m) cap) (w.setRow p.blk (pc.toList.take (p.off + o + n * i.size + 0) ++ l' ++ pc.toList.drop (p.off + o + n * i.size + 0 + l'.length)).toArray) := by
        simp [Builtin.append_, run_underlying ht, run_sizeOf' hi, Builtin.lenOf, hroom, Builtin.firstCells, hload, addr_add]
        simp at hst
        rw [hst]
        rfl
      have hheap := setRow_heap_eq w p.blk pc (pc.toList.take (p.off + o + n * i.size + 0) ++ l' ++ pc.toList.drop (p.off + o + n * i.size + 0 + l'.length)).toArray e' f hw
      have hmt : (h.get b).mut = true := by rw [hb]; rfl
      have hlt : p.blk < w.heap.size := (Array.getElem?_eq_some_iff.1 hw).1
      have hle : φ.le (φ.put h.next ⟨p.blk, p.off + o, p.ext - o⟩) := Phi.le_put _ (hr.fresh _ (Nat.le_refl _))
      refine ⟨_, _, φ.put h.next ⟨p.blk, p.off + o, p.ext - o⟩, hrun, ?_, hr.again hp hmt rfl hheap ?_, Keep.again hr (sameOut_setRow _ _ _) hp hmt rfl hheap⟩
      · exact VR.slice (SliceR.some (o := 0) (p := ⟨p.blk, p.off + o, p.ext - o⟩) (Phi.put_self _ _ _) hroom (by simp; omega))
      · refine ⟨_, (pc.toList.take (p.off + o + n * i.size + 0) ++ l' ++ pc.toList.drop (p.off + o + n * i.size + 0 + l'.length)).toArray, e', f, rfl, ?_, by simp; omega, by simp; omega, fun _ j hj hj2 => h4 rfl j (by simp at hj; omega) (by simp at hj2; omega), fun k v hk => ?_⟩
        · rw [hheap, Array.getElem?_setIfInBounds, if_pos rfl, if_pos hlt]
        · simp only [Nat.add_zero, List.getElem?_toArray]
          rcases Nat.lt_or_ge k (n * i.size) with hk1 | hk1
          · rw [List.getElem?_append_left (by simp; omega), List.getElem?_take, if_pos hk1, List.getElem?_drop] at hk
            obtain ⟨v', ha, hv'⟩ := h5.get hk
            refine ⟨v', ?_, hv'.mono hle⟩
            rw [List.append_assoc, List.getElem?_append_left (by simp; omega), List.getElem?_take, if_pos (by omega)]
            rw [List.getElem?_take, if_pos (by omega), List.getElem?_drop] at ha
            rw [← ha]; congr 1; omega
          · have hkl : k < n * i.size + l.length := by
              have := (List.getElem?_eq_some_iff.1 hk).1
              simp at this; omega
            rw [List.getElem?_append_right (by simp; omega)] at hk
            simp only [List.length_take, List.length_drop] at hk
            rw [Nat.min_eq_left (by omega)] at hk
            obtain ⟨v', ha, hv'⟩ := hvl.get hk
            refine ⟨v', ?_, hv'.mono hle⟩
            rw [List.append_assoc, List.getElem?_append_right (by simp; omega), List.getElem?_append_left (by simp; omega)]
            rw [← ha]
            simp only [List.length_take, Array.length_toList]
            congr 1; omega
    · obtain ⟨old', hlo, hvo, hco⟩ := load_cells (P := P) hr hb hp hfit
      exact grows _ _ _ old' hvo (by simp; omega) rfl (fun j v hj => by rw [addr_add]; exact hco j v hj) (by omega)
end Go.Am

/-
  An abstract machine over the model's code, part 7: maps, bytes and strings, make, plain values.
-/
namespace Go.Am
open Go
variable {P : Program}

theorem pureRun_bind {α β : Type} (x : Sem α) (f : α → Sem β) : pureRun P (x >>= f) = (pureRun P x).bind fun a => pureRun P (f a) := by
  show pureRun P (x.bind f) = _
  induction x with
  | pure b => rfl
  | program k ih => exact ih P
  | mark m k ih => exact ih
  | _ => simp [pureRun, Sem.bind]

def valAt (l : List MapEntry) (j : Nat) : Value := ((l[j]?).map (·.val)).getD undef

theorem findNow_keys (kind : TypeDesc) (k : Value) : ∀ (l l' : List MapEntry) (i : Nat), l'.map (·.key) = l.map (·.key) →
    Instr.findNow kind k l' i = (Instr.findNow kind k l i).map (Option.map fun x => (x.1, valAt l' (x.1 - i)))
  | [], [], _, _ => rfl
  | [], _ :: _, _, h => by simp at h
  | _ :: _, [], _, h => by simp at h
  | e :: l, e' :: l', i, h => by
    simp only [List.map_cons, List.cons.injEq] at h
    have ih := findNow_keys kind k l l' (i + 1) h.2
    simp only [Instr.findNow, h.1]
    cases Instr.sameNow kind k e.key with
    | none => rfl
    | some b =>
      cases b with
      | true => simp [valAt]
      | false =>
        simp only [ih]
        cases hr : Instr.findNow kind k l (i + 1) with
        | none => rfl
        | some r =>
          cases r with
          | none => rfl
          | some x =>
            have hx : i + 1 ≤ x.1 := by
              clear ih
              have gen : ∀ (l : List MapEntry) (i : Nat) (x : Nat × Value), Instr.findNow kind k l i = some (some x) → i ≤ x.1 := by
                intro l
                induction l with
                | nil => intro i x hx; simp [Instr.findNow] at hx
                | cons e l ih =>
                  intro i x hx
                  simp only [Instr.findNow] at hx
                  split at hx
                  · cases hx; exact Nat.le_refl _
                  · exact Nat.le_of_succ_le (ih _ _ hx)
                  · cases hx
              exact gen _ _ _ hr
            have : x.1 - i = (x.1 - (i + 1)) + 1 := by omega
            simp [valAt, this]

theorem findAsking_keys (kt : TypeId) (k : Value) : ∀ (l l' : List MapEntry) (i : Nat) (r : Option (Nat × Value)), l'.map (·.key) = l.map (·.key) →
    pureRun P (Instr.findAsking kt k l i) = some r → (∀ x, r = some x → i ≤ x.1 ∧ x.1 - i < l.length) ∧ pureRun P (Instr.findAsking kt k l' i) = some (r.map fun x => (x.1, valAt l' (x.1 - i)))
  | [], [], _, r, _, h => by simp [Instr.findAsking, pureRun, Pure.pure] at h ⊢; subst h; simp
  | [], _ :: _, _, _, h, _ => by simp at h
  | _ :: _, [], _, _, h, _ => by simp at h
  | e :: l, e' :: l', i, r, h, hr => by
    simp only [List.map_cons, List.cons.injEq] at h
    simp only [Instr.findAsking, pureRun_bind, h.1] at hr ⊢
    cases hq : pureRun P (Op.equal kt k e.key) with
    | none => rw [hq] at hr; simp at hr
    | some b =>
      rw [hq] at hr
      simp only [Option.bind_some] at hr ⊢
      cases b with
      | true =>
        simp [pureRun, Pure.pure] at hr
        subst hr
        simp [pureRun, Pure.pure, valAt]
      | false =>
        simp only [Bool.false_eq_true, if_false] at hr ⊢
        obtain ⟨hb, hx⟩ := findAsking_keys kt k l l' (i + 1) r h.2 hr
        refine ⟨fun x hx => ?_, ?_⟩
        · obtain ⟨h1, h2⟩ := hb x hx; simp; omega
        · rw [hx]
          cases r with
          | none => rfl
          | some x =>
            obtain ⟨h1, h2⟩ := hb x rfl
            have : x.1 - i = (x.1 - (i + 1)) + 1 := by omega
            simp [valAt, this]

theorem findNow_lt (kind : TypeDesc) (k : Value) : ∀ (l : List MapEntry) (i : Nat) (x : Nat × Value), Instr.findNow kind k l i = some (some x) → i ≤ x.1 ∧ x.1 - i < l.length
  | [], i, x, hx => by simp [Instr.findNow] at hx
  | e :: l, i, x, hx => by
    simp only [Instr.findNow] at hx
    split at hx
    · cases hx; simp
    · have := findNow_lt kind k l (i + 1) x hx; simp; omega
    · cases hx

theorem findKey_keys (kt : TypeId) (k : Value) (l l' : List MapEntry) (r : Option (Nat × Value)) (h : l'.map (·.key) = l.map (·.key))
    (hr : pureRun P (Instr.findKey kt k l) = some r) : (∀ x, r = some x → x.1 < l.length) ∧ pureRun P (Instr.findKey kt k l') = some (r.map fun x => (x.1, valAt l' x.1)) := by
  simp only [Instr.findKey, pureRun_bind] at hr ⊢
  cases hd : pureRun P (underlying kt) with
  | none => rw [hd] at hr; simp at hr
  | some d =>
    rw [hd] at hr
    simp only [Option.bind_some] at hr ⊢
    have hn := findNow_keys d k l l' 0 h
    cases hf : Instr.findNow d k l 0 with
    | some q =>
      rw [hf] at hr hn
      simp [pureRun, Pure.pure] at hr
      subst hr
      rw [hn]
      refine ⟨fun x hx => ?_, by simp [pureRun, Pure.pure]⟩
      subst hx
      have := findNow_lt d k l 0 x hf
      omega
    | none =>
      rw [hf] at hr hn
      rw [hn]
      obtain ⟨h1, h2⟩ := findAsking_keys (P := P) kt k l l' 0 r h hr
      refine ⟨fun x hx => by have := h1 x hx; omega, ?_⟩
      simpa using h2

theorem ERs.keys {φ : Phi} {l l' : List MapEntry} (h : ERs φ l l') : l'.map (·.key) = l.map (·.key) := by
  induction l generalizing l' with
  | nil => cases h; rfl
  | cons x t ih => cases h with | cons h t => simp [ih t, h.key]

theorem find_both {φ : Phi} {em : Bool} {kt : TypeId} {kv : Value} {es es' : List MapEntry} {r : Option Nat} (hs : ERs φ es es') (h : findK P em kt kv es = some r) (w : World) :
    (Instr.checkKey em 10000 kt kv).run P w = .ok () w ∧ (∀ i, r = some i → i < es.length) ∧ (Instr.findKey kt kv es').run P w = .ok (r.map fun i => (i, valAt es' i)) w := by
  unfold findK at h
  cases h1 : pureRun P (Instr.checkKey em 10000 kt kv) with
  | none => rw [h1] at h; simp at h
  | some u =>
    cases h2 : pureRun P (Instr.findKey kt kv (es.map fun e => { e with val := undef })) with
    | none => rw [h1, h2] at h; simp at h
    | some q =>
      have hk : es'.map (·.key) = (es.map fun e => ({ e with val := undef } : MapEntry)).map (·.key) := by rw [hs.keys]; simp
      obtain ⟨h3, h4⟩ := findKey_keys (P := P) kt kv _ es' q hk h2
      refine ⟨pureRun_run _ h1 w, ?_⟩
      rw [h1, h2] at h
      cases q with
      | none =>
        simp at h; subst h
        exact ⟨by simp, pureRun_run _ h4 w⟩
      | some x =>
        simp at h; subst h
        refine ⟨fun i hi => ?_, pureRun_run _ h4 w⟩
        cases hi
        simpa using h3 x rfl

theorem VR.map_inv {φ : Phi} {r : Nat} {v' : Value} (h : VR φ (.map (some r)) v') : ∃ p, φ r = some p ∧ v' = .map (some p.blk) := by
  cases h with | map h => exact ⟨_, h, rfl⟩
theorem HR.map {φ : Phi} {h : AH} {w : World} (hr : HR φ h w) {b : Nat} {es : List MapEntry} {clock : Nat} (hb : h.get b = .map es clock) :
    ∃ p es', φ b = some p ∧ w.heap[p.blk]? = some (.map es' clock) ∧ ERs φ es es'.toList := by
  have := hr.obj b
  rw [hb] at this
  exact this

theorem run_getObj_map {w : World} {r : Nat} {es : Array MapEntry} {c : Nat} (h : w.heap[r]? = some (.map es c)) : (getObj r).run P w = .ok (.map es c) w := by
  simp [getObj, Sem.run, h]
theorem run_setObj_map {w : World} {r : Nat} {es : Array MapEntry} {c : Nat} (h : w.heap[r]? = some (.map es c)) (o : Obj) : (setObj r o).run P w = .ok () { w with heap := w.heap.setIfInBounds r o } := by
  simp [setObj, Sem.run, h]

theorem sd_lookup {φ : Phi} {h : AH} {w : World} (hr : HR φ h w) {t kt et : TypeId} {i : TypeInfo} {z : Value} (ht : P.underlying t = some (.map kt et)) (hi : P.info? et = some i) (hz : i.zero = some z)
    (hzg : ground z = true) {r clock : Nat} {m' kv kv' u : Value} {es : List MapEntry} {q : Option Nat} {ok : Bool} (hm : VR φ (.map (some r)) m') (hk : VR φ kv kv') (hg : ground kv = true) (hb : h.get r = .map es clock) (hf : findK P es.isEmpty kt kv es = some q)
    (hu : match q with | some j => ∃ e, es[j]? = some e ∧ u = cond ok (.tuple #[e.val, .bool true]) e.val | none => u = cond ok (.tuple #[z, .bool false]) z) :
    Sd P φ h w (Instr.lookup t m' kv' ok) u h := by
  obtain ⟨p, hp, rfl⟩ := hm.map_inv
  obtain rfl := VR.ground_of _ _ _ hg hk
  obtain ⟨p', es', hp', hw, hes⟩ := hr.map hb
  rw [hp] at hp'; cases hp'
  obtain ⟨h1, h2, h3⟩ := find_both (P := P) hes hf w
  have hem : es'.isEmpty = es.isEmpty := by
    have := hes.length
    rw [Array.length_toList] at this
    cases es with
    | nil => simp at this; simp [this]
    | cons x t => simp at this; rw [Array.isEmpty]; simp [this]
  have h1' : (Instr.checkKey es'.isEmpty 10000 kt kv').run P w = .ok () w := by rw [hem]; exact h1
  cases q with
  | none =>
    simp only at hu
    refine Sd.quiet hr (v' := if ok then .tuple #[z, .bool false] else z) ?_ ?_
    · cases ok <;> simp [Instr.lookup, run_underlying ht, run_getObj_map hw, h1', h3, run_zeroOf hi hz]
    · have hzz := VR.ground_refl (φ := φ) _ _ hzg
      rw [hu]
      cases ok with
      | false => exact hzz
      | true => exact VR.tuple (c := [z, .bool false]) (c' := [z, .bool false]) (.cons hzz (.cons (.bool _) .nil))
  | some j =>
    obtain ⟨e, he, rfl⟩ := hu
    obtain ⟨e', he', hee⟩ := hes.get he
    have hval : valAt es'.toList j = e'.val := by unfold valAt; rw [he']; rfl
    refine Sd.quiet hr (v' := if ok then .tuple #[e'.val, .bool true] else e'.val) ?_ ?_
    · cases ok <;> simp [Instr.lookup, run_underlying ht, run_getObj_map hw, h1', h3, hval]
    · cases ok with
      | false => exact hee.val
      | true => exact VR.tuple (c := [e.val, .bool true]) (c' := [e'.val, .bool true]) (.cons hee.val (.cons (.bool _) .nil))

theorem ERs.set {φ : Phi} {l l' : List MapEntry} (h : ERs φ l l') {i : Nat} {e e' : MapEntry} (he : ER φ e e') (hi : i < l.length) :
    ERs φ (l.take i ++ e :: l.drop (i + 1)) (l'.set i e') := by
  induction l generalizing l' i with
  | nil => simp at hi
  | cons x t ih =>
    cases h with
    | cons hx ht => cases i with
      | zero => exact .cons he (by simpa using ht)
      | succ i => exact .cons hx (by simpa using ih ht (by simpa using hi))

theorem sd_mapUpdate {φ : Phi} {h : AH} {w : World} (hr : HR φ h w) {t kt et : TypeId} (ht : P.underlying t = some (.map kt et))
    {r clock : Nat} {m' kv kv' xv xv' : Value} {es : List MapEntry} {q : Option Nat} {o : AObj} (hm : VR φ (.map (some r)) m') (hk : VR φ kv kv') (hx : VR φ xv xv') (hg : ground kv = true) (hb : h.get r = .map es clock) (hf : findK P false kt kv es = some q)
    (hu : match q with
      | some j => ∃ e, es[j]? = some e ∧ Instr.sameBits 10000 e.key kv = true ∧ o = .map (es.take j ++ { e with key := kv, val := xv } :: es.drop (j + 1)) clock
      | none => o = .map (es ++ [{ key := kv, val := xv, born := clock }]) (clock + 1)) :
    ∃ w', (Instr.mapUpdate t m' kv' xv').run P w = .ok () w' ∧ HR φ (h.set r o) w' ∧ Keep φ h w φ (h.set r o) w' := by
  obtain ⟨p, hp, rfl⟩ := hm.map_inv
  obtain rfl := VR.ground_of _ _ _ hg hk
  obtain ⟨p', es', hp', hw, hes⟩ := hr.map hb
  rw [hp] at hp'; cases hp'
  have hlt : p.blk < w.heap.size := (Array.getElem?_eq_some_iff.1 hw).1
  have hmt : (h.get r).mut = true := by rw [hb]; rfl
  obtain ⟨h1, h2, h3⟩ := find_both (P := P) hes hf w
  -- what is written
  have fin : ∀ (es2 : Array MapEntry) (c2 : Nat) (l2 : List MapEntry), ERs φ l2 es2.toList → o = .map l2 c2 →
      (Instr.mapUpdate t (.map (some p.blk)) kv' xv').run P w = .ok () { w with heap := w.heap.setIfInBounds p.blk (.map es2 c2) } →
      ∃ w', (Instr.mapUpdate t (.map (some p.blk)) kv' xv').run P w = .ok () w' ∧ HR φ (h.set r o) w' ∧ Keep φ h w φ (h.set r o) w' := by
    intro es2 c2 l2 he2 ho hrun
    have hs : SameOut w { w with heap := w.heap.setIfInBounds p.blk (.map es2 c2) } := ⟨rfl, rfl, rfl⟩
    refine ⟨{ w with heap := w.heap.setIfInBounds p.blk (.map es2 c2) }, hrun, hr.set hp hmt (o' := .map es2 c2) rfl ?_, Keep.set hs hp hmt (o' := .map es2 c2) rfl⟩
    rw [ho]
    exact ⟨p, es2, rfl, by simp [hlt], he2⟩
  cases q with
  | none =>
    simp only at hu
    refine fin (es'.push { key := kv', val := xv', born := clock }) (clock + 1) _ ?_ hu ?_
    · rw [Array.toList_push]
      exact hes.append (.cons ⟨hg, rfl, rfl, hx⟩ .nil)
    · simp [Instr.mapUpdate, run_underlying ht, run_getObj_map hw, h1, h3, run_setObj_map hw]
  | some j =>
    obtain ⟨e, he, hsb, ho⟩ := hu
    obtain ⟨e', he', hee⟩ := hes.get he
    have hj : j < es.length := h2 j rfl
    have hj' : j < es'.size := by have := hes.length; simp at this; omega
    have hkey : (((es'[j]?).map (·.key)).getD kv') = e.key := by
      rw [show es'[j]? = some e' by simpa using he']; exact hee.key
    refine fin (es'.modify j fun x => { x with key := kv', val := xv' }) clock _ ?_ ho ?_
    · have := hes.set (i := j) (e := { e with key := kv', val := xv }) (e' := { e' with key := kv', val := xv' }) ⟨hg, rfl, hee.born, hx⟩ hj
      rw [Array.toList_modify]
      have h9 : es'.toList[j]? = some e' := he'
      have e1 : (es'.toList.modify j fun x => ({ key := kv', val := xv', born := x.born } : MapEntry)) = es'.toList.set j { key := kv', val := xv', born := e'.born } := by
        apply List.ext_getElem?
        intro k
        by_cases hkj : j = k
        · subst hkj; simp only [List.getElem?_modify, if_true, h9]; simp [hj']
        · simp [hkj]
      rw [e1]
      exact this
    · simp [Instr.mapUpdate, run_underlying ht, run_getObj_map hw, h1, h3, run_setObj_map hw, hkey, Instr.keyThatStays, hsb]

/-- A new block of another kind. -/
theorem new_obj {φ : Phi} {h : AH} {w : World} (hr : HR φ h w) {o : AObj} {o' : Obj} {w' : World} (hs : SameOut w w') (hw : w'.heap = w.heap.push o')
    (ho : ObjOk (φ.put h.next ⟨w.heap.size, 0, 1⟩) (some ⟨w.heap.size, 0, 1⟩) w'.heap o) :
    HR (φ.put h.next ⟨w.heap.size, 0, 1⟩) (h.push o) w' ∧ Keep φ h w (φ.put h.next ⟨w.heap.size, 0, 1⟩) (h.push o) w' :=
  ⟨hr.push hw ho, Keep.push hr hs hw⟩

theorem sd_makeMap {φ : Phi} {h : AH} {w : World} (hr : HR φ h w) (t : TypeId) : Sd P φ h w (Instr.makeMap t none) (.map (some h.next)) (h.push (.map [] 0)) := by
  have hs : SameOut w { w with heap := w.heap.push (.map #[] 0) } := ⟨rfl, rfl, rfl⟩
  obtain ⟨h1, h2⟩ := new_obj hr hs rfl (o := .map [] 0) ⟨_, #[], rfl, by simp, .nil⟩
  refine ⟨.map (some w.heap.size), _, _, by simp [Instr.makeMap], ?_, h1, h2⟩
  exact VR.map (p := ⟨w.heap.size, 0, 1⟩) (Phi.put_self _ _ _)

theorem sd_range {φ : Phi} {h : AH} {w : World} (hr : HR φ h w) {t kt et : TypeId} (ht : P.underlying t = some (.map kt et)) {r clock : Nat} {es : List MapEntry} {m' : Value}
    (hm : VR φ (.map (some r)) m') (hb : h.get r = .map es clock) :
    Sd P φ h w (Instr.range t m') (.pointer (some ⟨h.next, 0, none⟩)) (h.push (.mapIter (some r) clock [] clock)) := by
  obtain ⟨p, hp, rfl⟩ := hm.map_inv
  obtain ⟨p', es', hp', hw, hes⟩ := hr.map hb
  rw [hp] at hp'; cases hp'
  have hs : SameOut w { w with heap := w.heap.push (.mapIter (some p.blk) clock #[] clock) } := ⟨rfl, rfl, rfl⟩
  have hle : φ.le (φ.put h.next ⟨w.heap.size, 0, 1⟩) := Phi.le_put _ (hr.fresh _ (Nat.le_refl _))
  obtain ⟨h1, h2⟩ := new_obj hr hs rfl (o := .mapIter (some r) clock [] clock) ⟨_, some p.blk, rfl, by simp, .map (hle _ _ hp), rfl⟩
  refine ⟨.pointer (some ⟨w.heap.size, 0, none⟩), _, _, by simp [Instr.range, run_underlying ht, run_getObj_map hw], ?_, h1, h2⟩
  exact VR.ptr (p := ⟨w.heap.size, 0, 1⟩) (Phi.put_self _ _ _)

theorem HR.iter {φ : Phi} {h : AH} {w : World} (hr : HR φ h w) {b r since stepped : Nat} {seen : List Nat} (hb : h.get b = .mapIter (some r) since seen stepped) :
    ∃ p p', φ b = some p ∧ φ r = some p' ∧ w.heap[p.blk]? = some (.mapIter (some p'.blk) since seen.toArray stepped) ∧ p.off = 0 := by
  have := hr.obj b
  rw [hb] at this
  obtain ⟨p, m', hp, h1, h2, h3⟩ := this
  obtain ⟨p', hp', hm⟩ := h2.map_inv
  cases hm
  exact ⟨p, p', hp, hp', h1, h3⟩
theorem run_getObj_iter {w : World} {i : Nat} {m : Option Nat} {since stepped : Nat} {seen : Array Nat} (h : w.heap[i]? = some (.mapIter m since seen stepped)) : (getObj i).run P w = .ok (.mapIter m since seen stepped) w := by
  simp [getObj, Sem.run, h]

theorem ERs.find {φ : Phi} {l l' : List MapEntry} (h : ERs φ l l') (n : Nat) {e : MapEntry} (he : l.find? (fun e => Nat.beq e.born n) = some e) :
    ∃ e', l'.find? (fun e => e.born == n) = some e' ∧ ER φ e e' := by
  induction l generalizing l' with
  | nil => simp at he
  | cons x t ih =>
    cases h with
    | cons hx ht =>
      rename_i x' t'
      rw [List.find?_cons] at he ⊢
      have hb : (x'.born == n) = Nat.beq x.born n := by rw [hx.born]; cases hq : Nat.beq x.born n with
        | true => rw [nbeq] at hq; simp [hq]
        | false => rw [beq_eq_false_iff_ne]; intro e; subst e; rw [Nat.beq_refl] at hq; cases hq
      rw [hb]
      cases hq : Nat.beq x.born n with
      | true => rw [hq] at he; cases he; exact ⟨_, rfl, hx⟩
      | false => rw [hq] at he; exact ih ht he

theorem sd_entry {φ : Phi} {h : AH} {w : World} (hr : HR φ h w) {i r since stepped clock stamp : Nat} {seen : List Nat} {es : List MapEntry} {e : MapEntry} {it' : Value}
    (hit : VR φ (.pointer (some ⟨i, 0, none⟩)) it') (hb : h.get i = .mapIter (some r) since seen stepped) (hm : h.get r = .map es clock) (hs : seen.getLast? = some stamp) (hc : clock = stepped)
    (he : es.find? (fun e => Nat.beq e.born stamp) = some e) : Sd P φ h w (Instr.entry it') (.tuple #[e.key, e.val]) h := by
  obtain ⟨p, hp, rfl⟩ := hit.ptr_inv
  obtain ⟨q, q', hq, hq', hw, h0⟩ := hr.iter hb
  rw [hp] at hq; cases hq
  obtain ⟨m, es', hmp, hmw, hes⟩ := hr.map hm
  rw [hq'] at hmp; cases hmp
  obtain ⟨e', he', hee⟩ := hes.find stamp he
  have hback : seen.toArray.back? = some stamp := by simpa using hs
  have hf : es'.find? (fun e => e.born == stamp) = some e' := by rw [← Array.find?_toList]; exact he'
  refine Sd.quiet hr (v' := .tuple #[e'.key, e'.val]) ?_ ?_
  · simp only [h0, Nat.add_zero, Instr.entry, Sem.run_bind, run_getObj_iter hw, Result.andThen_ok, hback, run_getObj_map hmw]
    simp [hc, hf]
  · rw [hee.key]
    exact VR.tuple (c := [e.key, e.val]) (c' := [e.key, e'.val]) (.cons (VR.ground_refl _ _ hee.gr) (.cons hee.val .nil))

theorem bytes_ground (l : List UInt8) : (l.map byteV).all ground = true := by
  rw [List.all_eq_true]; intro v hv; obtain ⟨b, _, rfl⟩ := List.mem_map.1 hv; rfl

theorem sd_bytesOf {φ : Phi} {h : AH} {w : World} (hr : HR φ h w) {src dst e : TypeId} {d : TypeDesc} (hs : P.underlying src = some d) (ht : P.underlying dst = some (.slice e)) (he : P.underlying e = some (.int .u8))
    {s : ByteArray} (v' : Value) (hv : VR φ (.string s) v') :
    Sd P φ h w (convert src dst v') (.slice (some ⟨h.next, 0, none⟩) s.size 1) (h.push (.cells false (s.data.toList.map byteV))) := by
  have : v' = .string s := by cases hv; rfl
  subst this
  have hu : (underlying src).run P w = .ok d w := run_underlying hs w
  have hcv : (convert src dst (.string s)).run P w = (Conv.stringToBytes e s).run P w := by
    simp only [convert, Sem.run_bind, hu, run_underlying ht, Result.andThen_ok]
    cases d <;> simp [run_underlying he]
  have hl : VRs φ (s.data.toList.map byteV) (s.data.toList.map byteV) := VRs.ground_refl (p := ground) (fun v hv => VR.ground_refl 5 v hv) (bytes_ground _)
  obtain ⟨cap, hcap⟩ : ∃ cap, cap = s.size + w.tape w.drawn (.appendCap s.size 0 e) % (2 ^ 63 - s.size) := ⟨_, rfl⟩
  have hlen : ((s.data.toList.map byteV) ++ List.replicate (cap - s.size) (Value.int .u8 0)).length = cap := by
    have : s.data.size = s.size := rfl
    simp; omega
  have hsame : SameOut w ({ w with drawn := w.drawn + 1, heap := w.heap.push (.cells ((s.data.toList.map byteV) ++ List.replicate (cap - s.size) (Value.int .u8 0)).toArray e (cap, cap + 1)) } : World) := ⟨rfl, rfl, rfl⟩
  obtain ⟨h1, h2⟩ := new_row hr false e hl (List.replicate (cap - s.size) (.int .u8 0)) (cap, cap + 1)
    (fun _ i hi hi2 hh => by rw [hlen] at hi2; simp at hh; omega) hsame rfl
  refine ⟨.slice (some ⟨w.heap.size, 0, none⟩) s.size cap, _, _, ?_, ?_, h1, h2⟩
  · rw [hcv]
    have harr : (s.data.map byteV) ++ Array.replicate (cap - s.size) (Value.int .u8 0) =
        ((s.data.toList.map byteV) ++ List.replicate (cap - s.size) (Value.int .u8 0)).toArray := by
      apply Array.ext'; simp
    simp only [Conv.stringToBytes, Sem.run_bind, run_choose, Question.forced, Bool.false_eq_true, if_false, Result.andThen_ok, Question.cut, newRow, run_newObj, Sem.run_pure]
    rw [← hcap, harr]
    simp only [markStringish, Sem.run_bind, run_shape, Result.andThen_ok]
    have hsh : ∀ w2 : World, w2.heap = w.heap.push (.cells ((s.data.toList.map byteV) ++ List.replicate (cap - s.size) (Value.int .u8 0)).toArray e) → w2.shape? w.heap.size = some (e, cap) := by
      intro w2 hw2
      simp only [World.shape?, hw2, Array.getElem?_push_size, List.size_toArray, hlen]
    rw [hsh _ rfl]
    simp only [run_freeze, Result.andThen_ok, World.freeze, Nat.one_ne_zero, if_false]
    refine congrArg (fun x => Result.ok (Value.slice (some ⟨w.heap.size, 0, none⟩) s.size cap) ({ heap := x, tape := w.tape, drawn := w.drawn + 1, os := w.os, output := w.output } : World)) ?_
    apply Array.ext_getElem?
    intro k
    rw [Array.getElem?_modify, Array.getElem?_push, Array.getElem?_push]
    by_cases hk : k = w.heap.size
    · subst hk; simp
    · simp [hk, Ne.symm hk]
  · refine VR.slice (SliceR.some (o := 0) (p := ⟨w.heap.size, 0, _⟩) (Phi.put_self _ _ _) (by rw [hcap]; exact Nat.le_add_right _ _) ?_)
    simp only [hlen]
    omega

theorem toNat_byte (c : List Value) (hc : c.all isByteV = true) : ∃ ns : List Int, c = ns.map (Value.int .u8) ∧
    ns.foldl (fun r n => r.push (UInt8.ofNat n.toNat)) ByteArray.empty = ⟨(c.map byteOfV).toArray⟩ := by
  have gen : ∀ (c : List Value) (b : ByteArray), c.all isByteV = true → ∃ ns : List Int, c = ns.map (Value.int .u8) ∧
      ns.foldl (fun r n => r.push (UInt8.ofNat n.toNat)) b = ⟨(b.data.toList ++ c.map byteOfV).toArray⟩ := by
    intro c
    induction c with
    | nil => intro b _; exact ⟨[], rfl, by simp⟩
    | cons v c ih =>
      intro b h
      simp only [List.all_cons, Bool.and_eq_true] at h
      obtain ⟨h1, h2⟩ := h
      unfold isByteV at h1
      split at h1
      · rename_i n
        obtain ⟨ns, rfl, hns⟩ := ih (b.push n.toUInt8) h2
        refine ⟨(.ofNat n) :: ns, rfl, ?_⟩
        simp only [List.foldl_cons, List.map_cons]
        rw [show UInt8.ofNat (Int.toNat (.ofNat n)) = n.toUInt8 from rfl, hns]
        simp [ByteArray.push, byteOfV]
      · cases h1
  obtain ⟨ns, h1, h2⟩ := gen c ByteArray.empty hc
  exact ⟨ns, h1, by rw [h2]; rfl⟩

theorem sd_stringOf {φ : Phi} {h : AH} {w : World} (hr : HR φ h w) {src dst e : TypeId} (hs : P.underlying src = some (.slice e)) (ht : P.underlying dst = some .string) (he : P.underlying e = some (.int .u8))
    {v v' : Value} {n : Nat} {c : List Value} (hg : segOf h 1 v = some (n, c)) (hc : c.all isByteV = true) (hv : VR φ v v') :
    Sd P φ h w (convert src dst v') (.string ⟨(c.map byteOfV).toArray⟩) h := by
  obtain ⟨a', cap, rfl, hl, hx⟩ := segOf_inv (P := P) hr hg hv
  refine Sd.quiet hr ?_ (.string _)
  rw [run_convert_bytes_string w src dst e a' n cap hs he ht]
  obtain ⟨ns, hns, hfold⟩ := toNat_byte c hc
  have empty : n = 0 → c = [] := fun e => by subst e; exact List.eq_nil_of_length_eq_zero (by simpa using hl)
  cases a' with
  | none =>
    rcases hx with rfl | ⟨a0, l', h0, _⟩
    · rw [empty rfl]; simp [Conv.bytesToString]; rfl
    · cases h0
  | some a0 =>
    have hload : (loadCells a0 n).run P w = .ok (ns.map (Value.int .u8)).toArray w := by
      rcases hx with rfl | ⟨a1, l', h0, hvl, hload, _⟩
      · rw [← hns, empty rfl]; rfl
      · cases h0
        rw [Nat.mul_one] at hload
        rw [hload, ← hns]
        have : l' = c := VRs.ground_of (p := ground) (VR.ground_of 5) (by rw [hns, List.all_eq_true]; intro v hv; obtain ⟨b, _, rfl⟩ := List.mem_map.1 hv; rfl) hvl
        rw [this]
    rw [run_bytesToString w a0 n cap ns hload, hfold]

theorem flat_get {α : Type} (z : List α) : ∀ (c k : Nat), ((List.replicate c z).flatten)[k]? = if k < c * z.length then z[k % z.length]? else none
  | 0, k => by simp
  | c + 1, k => by
    rw [List.replicate_succ, List.flatten_cons]
    rcases Nat.lt_or_ge k z.length with h | h
    · rw [List.getElem?_append_left h, if_pos (by rw [Nat.add_mul]; omega), Nat.mod_eq_of_lt h]
    · rw [List.getElem?_append_right h, flat_get z c]
      have e1 : (k - z.length) % z.length = k % z.length := by rw [← Nat.mod_eq_sub_mod h]
      rw [e1]
      by_cases h2 : k < (c + 1) * z.length
      · rw [if_pos h2, if_pos (by rw [Nat.add_mul] at h2; omega)]
      · rw [if_neg h2, if_neg (by rw [Nat.add_mul] at h2; omega)]
theorem made_flat (z : Array Value) (c : Nat) : ((Array.range (c * z.size)).map (fun j => z[j % z.size]!)) = ((List.replicate c z.toList).flatten).toArray := by
  apply Array.ext_getElem?
  intro k
  rw [Array.getElem?_map]
  have e : (((List.replicate c z.toList).flatten).toArray)[k]? = ((List.replicate c z.toList).flatten)[k]? := by simp
  rw [e, flat_get, Array.length_toList]
  by_cases h : k < c * z.size
  · rw [if_pos h]
    have hz : 0 < z.size := by rcases Nat.eq_zero_or_pos z.size with e | e; · rw [e] at h; omega
                               · exact e
    have hm : k % z.size < z.size := Nat.mod_lt _ hz
    simp [h, hm]
  · rw [if_neg h]
    simp [Nat.not_lt.1 h]

theorem sd_makeSlice {φ : Phi} {h : AH} {w : World} (hr : HR φ h w) {t e : TypeId} {i : TypeInfo} {z : Value} (ht : P.underlying t = some (.slice e)) (hi : P.info? e = some i) (hz : i.zero = some z)
    (hzs : z.cells.size = i.size) (hzg : z.cells.toList.all ground = true) {l c : Nat} {kl kc : IntKind} (h1 : l ≤ c) (h2 : i.bytes * c ≤ 281474976710656) (h3 : c ≤ 281474976710656) :
    Sd P φ h w (Instr.makeSlice t (.int kl l) (.int kc c)) (.slice (some ⟨h.next, 0, none⟩) l i.size) (h.push (.cells false ((List.replicate c z.cells.toList).flatten))) := by
  have hb' : (i.bytes : Int) * (c : Int) ≤ 281474976710656 := by
    have h : ((i.bytes * c : Nat) : Int) ≤ 281474976710656 := by omega
    rwa [Int.natCast_mul] at h
  have hrun := run_make (P := P) w t e i z ht hi hz kl kc l c (by omega) (by omega) hb' (by omega)
  have hg : VRs φ ((List.replicate c z.cells.toList).flatten) ((List.replicate c z.cells.toList).flatten) := by
    refine VRs.ground_refl (p := ground) (fun v hv => VR.ground_refl 5 v hv) ?_
    rw [List.all_eq_true] at hzg ⊢
    intro v hv
    obtain ⟨l, hl, hv⟩ := List.mem_flatten.1 hv
    rw [(List.mem_replicate.1 hl).2] at hv
    exact hzg v hv
  have hmade : madeCells z.cells (((c : Int).toNat) * i.size) = ((List.replicate c z.cells.toList).flatten).toArray := by
    rw [Int.toNat_natCast, ← hzs]; exact made_flat _ _
  rw [hmade] at hrun
  obtain ⟨h4, h5⟩ := new_row hr false e hg [] (0, 0) (fun _ => soft_zero _ _) (w' := w.alloc (.cells ((List.replicate c z.cells.toList).flatten).toArray e)) ⟨rfl, rfl, rfl⟩
    (congrArg (fun x => w.heap.push (Obj.cells x e)) (by simp))
  refine ⟨_, _, _, hrun, ?_, h4, h5⟩
  rw [Int.toNat_natCast, Int.toNat_natCast]
  refine VR.slice (SliceR.some (o := 0) (p := ⟨w.heap.size, 0, _⟩) (Phi.put_self _ _ _) h1 ?_)
  simp [hzs]
end Go.Am

/-
  An abstract machine over the model's code, part 8: an operation with its types looked up, and that it stands for the model's.
-/
namespace Go.Am
open Go
variable {P : Program}

def aggOf (P : Program) (t : TypeId) : Option (Option Nat) :=
  match P.info? t, P.underlying t with
  | some i, some d => some (cond (isAggD d) (some i.size) none)
  | _, _ => none
def zeroOf (P : Program) (t : TypeId) : Option (Value × Nat × Nat) :=
  match P.info? t with
  | some i => match i.zero with
    | some z => cond (z.cells.toList.all ground && Nat.beq z.cells.size i.size) (some (z, i.size, i.bytes)) none
    | none => none
  | none => none
def places (P : Program) : List Field → Option (List (Nat × Nat))
  | [] => some []
  | f :: fs => match P.info? f.type, places P fs with
    | some i, some l => some ((f.offset, i.size) :: l)
    | _, _ => none
def placed (pl : List (Nat × Nat)) : List (Nat × Operand) → Option (List (Nat × Nat × Operand))
  | [] => some []
  | (i, x) :: ps => match pl[i]?, placed pl ps with
    | some q, some l => some ((q.1, q.2, x) :: l)
    | _, _ => none
def isU8 (P : Program) (e : TypeId) : Bool := match P.underlying e with | some (.int .u8) => true | _ => false
def hasBody (P : Program) (f : FuncId) : Bool := match P.funcs[f]? with
  | some fn => fn.body.isSome && !(fn.name == "runtime.NumGoroutine")
  | none => false

def compCall (P : Program) (o : Oper) (c : Call) : Option AOp :=
  match c.callee with
  | .builtin .append => match c.args.toList, c.argTypes.toList with
    | [s, x], [t, t'] => cond (Nat.beq t t') (match P.underlying t with
      | some (.slice e) => match zeroOf P e with
        | some (_, size, bytes) => some (.append size bytes s x)
        | none => none
      | _ => none) none
    | _, _ => none
  | .builtin .len => match c.args.toList, c.argTypes.toList with
    | [x], [t] => match P.underlying t with
      | some (.slice _) => some (.lenS x)
      | some .string => some (.scal o)
      | _ => none
    | _, _ => none
  | .builtin .max | .builtin .min | .builtin .complex | .builtin .real | .builtin .imag => some (.scal o)
  | _ => none

def compOp (P : Program) (o : Oper) : Option AOp :=
  match o.op with
  | .move x | .assign x => some (.mv x)
  | .pick c a b => some (.pick c a b)
  | .alloc t => (zeroOf P t).map fun z => .new z.1.cells.toList
  | .box _ x => some (.box x)
  | .build t parts => match P.underlying t, zeroOf P t with
    | some (.struct fields), some z => match places P fields.toList with
      | some pl => (placed pl parts.toList).map fun ps => .build z.1.cells.toList ps
      | none => none
    | some (.array _ e), some z => match P.info? e with
      | some i => some (.build z.1.cells.toList (parts.toList.map fun p => (p.1 * i.size, i.size, p.2)))
      | none => none
    | _, _ => none
  | .buildSlice t len parts => match P.underlying t with
    | some (.slice e) => match zeroOf P e with
      | some (z, size, _) => cond (Nat.ble (len * size) 16777216)
          (some (.buildSlice size len ((List.replicate len z.cells.toList).flatten) (parts.toList.map fun p => (p.1 * size, size, p.2)))) none
      | none => none
    | _ => none
  | .load t a => (aggOf P t).map fun g => .load g a
  | .store t a x => (P.info? t).map fun i => .store i.size a x
  | .nilCheck x => some (.nilCheck x)
  | .fieldAddr s x f => match P.underlying s with
    | some (.struct fields) => match fields[f]? with
      | some fl => match P.info? fl.type with
        | some i => cond (Nat.beq i.size 0) none (some (.fieldAddr fl.offset x))
        | none => none
      | none => none
    | _ => none
  | .indexAddr t x i => match P.underlying t with
    | some (.array n e) => (P.info? e).map fun inf => .indexAddr (some n) inf.size x i
    | some (.slice e) => (P.info? e).map fun inf => .indexAddr none inf.size x i
    | _ => none
  | .field t x f => match P.underlying t with
    | some (.struct fields) => match fields[f]? with
      | some fl => (aggOf P fl.type).map fun g => .field g fl.offset x
      | none => none
    | _ => none
  | .extract t i => some (.extract t i)
  | .slice t x lo hi none => match P.underlying t with
    | some .string => some (.scal o)
    | some (.slice e) => (P.info? e).map fun i => .sliceS i.size x lo hi
    | some (.array n e) => (P.info? e).map fun i => .sliceA n i.size x lo hi
    | _ => none
  | .binOp _ _ _ _ _ => some (.scal o)
  | .unOp _ _ _ | .index _ _ _ => some (.scal o)
  | .convert src dst x => match P.underlying src, P.underlying dst with
    | some (.slice e), some .string => cond (isU8 P e) (some (.stringOf x)) none
    | some .string, some (.slice e) => cond (isU8 P e) (some (.bytesOf x)) none
    | _, _ => some (.scal o)
  | .makeInterface t x => match P.underlying t with
    | some (.interface _) | none => none
    | some _ => some (.makeIface t x)
  | .makeMap _ none => some .makeMap
  | .makeSlice t l c => match P.underlying t with
    | some (.slice e) => (zeroOf P e).map fun z => .makeSlice z.2.1 z.2.2 z.1.cells.toList l c
    | _ => none
  | .lookup t m k ok => match P.underlying t with
    | some (.map kt et) => match zeroOf P et with
      | some (z, _, _) => cond (ground z) (some (.lookup kt z m k ok)) none
      | none => none
    | _ => none
  | .mapUpdate t m k x => match P.underlying t with
    | some (.map kt _) => some (.mapUpdate kt m k x)
    | _ => none
  | .range t m => match P.underlying t with
    | some (.map _ _) => some (.range m)
    | _ => none
  | .entry it => some (.entry it)
  | .call c => compCall P o c
  | _ => none

/-- The model's run of an operation ends well, as the abstract one. -/
def So (P : Program) (φ : Phi) (h : AH) (w : World) (s : Sem Next) (v : Value) (h' : AH) : Prop :=
  ∃ n v' w' φ', s.run P w = .ok n w' ∧ (n = .value v' ∨ (n = .skip ∧ v' = undef)) ∧ VR φ' v v' ∧ HR φ' h' w' ∧ Keep φ h w φ' h' w'
theorem So.of_sd {φ : Phi} {h h' : AH} {w : World} {s : Sem Value} {v : Value} (hs : Sd P φ h w s v h') : So P φ h w (do pure (.value (← s))) v h' := by
  obtain ⟨v', w', φ', h1, h2, h3, h4⟩ := hs
  exact ⟨.value v', v', w', φ', by simp [h1], .inl rfl, h2, h3, h4⟩
theorem So.of_su {φ : Phi} {h h' : AH} {w : World} {s : Sem Unit} (hs : ∃ w', s.run P w = .ok () w' ∧ HR φ h' w' ∧ Keep φ h w φ h' w') : So P φ h w (do s; pure .skip) undef h' := by
  obtain ⟨w', h1, h3, h4⟩ := hs
  exact ⟨.skip, undef, w', φ, by simp [h1], .inr ⟨rfl, rfl⟩, VR.tuple (c := []) (c' := []) .nil, h3, h4⟩

theorem zeroOf_inv {t : TypeId} {z : Value} {n b : Nat} (h : zeroOf P t = some (z, n, b)) :
    ∃ i, P.info? t = some i ∧ i.zero = some z ∧ i.size = n ∧ i.bytes = b ∧ z.cells.toList.all ground = true ∧ z.cells.size = n := by
  unfold zeroOf at h
  split at h
  · rename_i i hi
    split at h
    · rename_i z' hz
      cases hb : z'.cells.toList.all ground && Nat.beq z'.cells.size i.size with
      | false => rw [hb] at h; cases h
      | true =>
        rw [hb] at h
        simp only [Bool.and_eq_true, nbeq] at hb
        cases h
        exact ⟨i, hi, hz, rfl, rfl, hb.1, hb.2⟩
    · cases h
  · cases h
theorem aggOf_inv {t : TypeId} {g : Option Nat} (h : aggOf P t = some g) : ∃ i d, P.info? t = some i ∧ P.underlying t = some d ∧ g = cond (isAggD d) (some i.size) none := by
  unfold aggOf at h
  split at h
  · rename_i i d hi hd; cases h; exact ⟨i, d, hi, hd, rfl⟩
  · cases h
theorem ground_all {φ : Phi} {l : List Value} (h : l.all ground = true) : VRs φ l l := VRs.ground_refl (p := ground) (fun v hv => VR.ground_refl 5 v hv) h

theorem run_places : ∀ (fs : List Field) (l : List (Nat × Nat)) (w : World), places P fs = some l →
    (fs.mapM fun f => Prod.mk f.offset <$> sizeOf f.type : Sem (List (Nat × Nat))).run P w = .ok l w
  | [], l, w, h => by simp [places] at h; subst h; rfl
  | f :: fs, l, w, h => by
    simp only [places] at h
    split at h
    · rename_i i l' hi hl
      cases h
      simp [List.mapM_cons, run_sizeOf' hi, run_places fs l' w hl]
    · cases h
theorem placed_ok : ∀ (pl : List (Nat × Nat)) (ps : List (Nat × Operand)) (qs : List (Nat × Nat × Operand)), placed pl ps = some qs →
    qs.map (fun q => (some (q.1, q.2.1), q.2.2)) = ps.map (fun p => (pl[p.1]?, p.2))
  | pl, [], qs, h => by simp [placed] at h; subst h; rfl
  | pl, (i, x) :: ps, qs, h => by
    simp only [placed] at h
    split at h
    · rename_i q l hq hl
      cases h
      simp [placed_ok pl ps l hl, hq]
    · cases h

section
variable {φ : Phi} {h h' : AH} {w : World} {ρ : Operand → Option Value} {e : Operand → Value} {v : Value}

theorem op_build (he : EnvR φ ρ e) (hr : HR φ h w) {o : Oper} {t : TypeId} {parts : Array (Nat × Operand)} (ho : o.op = .build t parts) {ao : AOp} (hc : compOp P o = some ao)
    (hrun : ao.run P ρ h = some (v, h')) : So P φ h w (execOp e o) v h' := by
  have hex : execOp e o = (do pure (.value (← Instr.build t (parts.map fun (i, x) => (i, e x))))) := by unfold execOp; rw [ho]
  rw [hex]
  refine So.of_sd ?_
  have hpl : (parts.map fun (i, x) => (i, e x)).toList = parts.toList.map fun p => (p.1, e p.2) := by simp
  simp only [compOp, ho] at hc
  split at hc
  · rename_i fields z hu hz
    obtain ⟨i, hi, hz1, hz2, hz3, hz4, hz5⟩ := zeroOf_inv (z := z.1) (n := z.2.1) (b := z.2.2) hz
    split at hc
    · rename_i pl hpl'
      obtain ⟨ps, hps, rfl⟩ := Option.map_eq_some_iff.1 hc
      simp only [AOp.run, Option.map_eq_some_iff, Prod.mk.injEq] at hrun
      obtain ⟨cs, hcs, rfl, rfl⟩ := hrun
      obtain ⟨r', hr', hrr⟩ := fill_ok he (fun i => pl[i]?) parts.toList ps _ _ cs (ground_all hz4) (placed_ok pl _ _ hps) hcs
      refine Sd.quiet hr (v' := .agg r'.toArray) ?_ (.agg hrr)
      have hm : (fields.mapM fun f => do pure (f.offset, ← sizeOf f.type) : Sem (Array (Nat × Nat))).run P w = .ok pl.toArray w := by
        rw [Array.mapM_eq_mapM_toList]
        simp [run_places _ _ w hpl']
      simp only [Instr.build, Sem.run_bind, run_zeroOf hi hz1, Result.andThen_ok, run_underlying hu, hm, hpl]
      have : Instr.fill (fun x => pl.toArray[x]?) z.1.cells (parts.toList.map fun p => (p.1, e p.2)) = some r'.toArray := by
        simpa using hr'
      rw [this]
      rfl
    · cases hc
  · rename_i n el z hu hz
    obtain ⟨i, hi, hz1, hz2, hz3, hz4, hz5⟩ := zeroOf_inv (z := z.1) (n := z.2.1) (b := z.2.2) hz
    split at hc
    · rename_i inf hinf
      cases hc
      simp only [AOp.run, Option.map_eq_some_iff, Prod.mk.injEq] at hrun
      obtain ⟨cs, hcs, rfl, rfl⟩ := hrun
      obtain ⟨r', hr', hrr⟩ := fill_ok he (fun i => some (i * inf.size, inf.size)) parts.toList _ _ _ cs (ground_all hz4) (by simp) hcs
      refine Sd.quiet hr (v' := .agg r'.toArray) ?_ (.agg hrr)
      simp only [Instr.build, Sem.run_bind, run_zeroOf hi hz1, Result.andThen_ok, run_underlying hu, run_sizeOf' hinf, hpl]
      have : Instr.fill (fun i => some (i * inf.size, inf.size)) z.1.cells (parts.toList.map fun p => (p.1, e p.2)) = some r'.toArray := by simpa using hr'
      rw [this]
      rfl
    · cases hc
  · cases hc

theorem op_buildSlice (he : EnvR φ ρ e) (hr : HR φ h w) {o : Oper} {t : TypeId} {len : Nat} {parts : Array (Nat × Operand)} (ho : o.op = .buildSlice t len parts) {ao : AOp} (hc : compOp P o = some ao)
    (hrun : ao.run P ρ h = some (v, h')) : So P φ h w (execOp e o) v h' := by
  have hex : execOp e o = (do pure (.value (← Instr.buildSlice t len (parts.map fun (i, x) => (i, e x))))) := by unfold execOp; rw [ho]
  rw [hex]
  refine So.of_sd ?_
  have hpl : (parts.map fun (i, x) => (i, e x)).toList = parts.toList.map fun p => (p.1, e p.2) := by simp
  simp only [compOp, ho] at hc
  split at hc
  · rename_i el hu
    split at hc
    · rename_i z size b hz
      obtain ⟨i, hi, hz1, rfl, hz3, hz4, hz5⟩ := zeroOf_inv hz
      cases hble : Nat.ble (len * i.size) 16777216 with
      | false => rw [hble] at hc; cases hc
      | true =>
        rw [hble] at hc
        simp only [Nat.ble_eq] at hble
        cases hc
        simp only [AOp.run, Option.map_eq_some_iff, Prod.mk.injEq] at hrun
        obtain ⟨cs, hcs, rfl, rfl⟩ := hrun
        have hg : ((List.replicate len z.cells.toList).flatten).all ground = true := by
          rw [List.all_eq_true] at hz4 ⊢
          intro v hv
          obtain ⟨l, hl, hv⟩ := List.mem_flatten.1 hv
          rw [(List.mem_replicate.1 hl).2] at hv
          exact hz4 v hv
        obtain ⟨r', hr', hrr⟩ := fill_ok he (fun j => some (j * i.size, i.size)) parts.toList _ _ _ cs (ground_all hg) (by simp) hcs
        have hlen : ∀ (qs : List (Nat × Nat × Operand)) (c r : List Value), fillL ρ c qs = some r → r.length = c.length := by
          intro qs
          induction qs with
          | nil => intro c r h; simp [fillL] at h; subst h; rfl
          | cons q qs ih =>
            intro c r h
            obtain ⟨off, size, y⟩ := q
            simp only [fillL] at h
            split at h
            · rename_i v hv
              cases hb : Nat.beq v.cells.size size && Nat.ble (off + size) c.length with
              | false => rw [hb] at h; cases h
              | true =>
                rw [hb] at h
                simp only [Bool.and_eq_true, nbeq, Nat.ble_eq] at hb
                rw [ih _ _ h]
                simp only [List.length_append, List.length_take, List.length_drop, Array.length_toList]
                omega
            · cases h
        have hcl : cs.length = len * i.size := by rw [hlen _ _ _ hcs]; simp [hz5]
        obtain ⟨h1, h2⟩ := new_row hr false el hrr [] (0, 0) (fun _ => soft_zero _ _) (w' := w.alloc (.cells r'.toArray el)) ⟨rfl, rfl, rfl⟩
          (congrArg (fun x => w.heap.push (Obj.cells x el)) (by simp))
        refine ⟨.slice (some ⟨w.heap.size, 0, none⟩) len len, _, _, ?_, ?_, h1, h2⟩
        · have hn : ¬ (len * i.size > 2 ^ 24) := by omega
          have hfl : Instr.fill (fun j => some (j * i.size, i.size)) ((List.replicate len z.cells.toList).flatten).toArray (parts.toList.map fun p => (p.1, e p.2)) = some r'.toArray := by simpa using hr'
          by_cases h0 : len * i.size = 0
          · have hcells : (Array.range (len * i.size)).map (fun j => (#[] : Array Value)[j % (#[] : Array Value).size]!) = ((List.replicate len z.cells.toList).flatten).toArray := by
              have : ((List.replicate len z.cells.toList).flatten) = [] := List.eq_nil_of_length_eq_zero (by simp [hz5]; simpa using h0)
              rw [this, h0]; simp
            simp only [Instr.buildSlice, Sem.run_bind, run_underlying hu, Result.andThen_ok, run_sizeOf' hi, hn, if_false]
            rw [if_pos h0]
            simp only [Sem.run_bind, Sem.run_pure, Result.andThen_ok, hcells, hpl, hfl]
            rfl
          · have hcells : (Array.range (len * i.size)).map (fun j => z.cells[j % z.cells.size]!) = ((List.replicate len z.cells.toList).flatten).toArray := by
              rw [← hz5]; exact made_flat _ _
            simp only [Instr.buildSlice, Sem.run_bind, run_underlying hu, Result.andThen_ok, run_sizeOf' hi, hn, if_false]
            rw [if_neg h0]
            simp only [Sem.run_bind, run_zeroOf hi hz1, Sem.run_pure, Result.andThen_ok, hcells, hpl, hfl]
            rfl
        · refine VR.slice (SliceR.some (o := 0) (p := ⟨w.heap.size, 0, _⟩) (Phi.put_self _ _ _) (Nat.le_refl _) ?_)
          simp [hrr.length, hcl]
    · cases hc
  · cases hc
end
end Go.Am

/-
  An abstract machine over the model's code, part 9: every operation but a call and a step of a range stands for the model's.
-/
namespace Go.Am
open Go
variable {P : Program}

theorem condT {α : Type} {b : Bool} {x y : Option α} {r : α} (h : cond b x y = some r) (hy : y = none) : b = true ∧ x = some r := by
  cases b with
  | false => rw [hy] at h; cases h
  | true => exact ⟨rfl, h⟩

theorem someT {a v : Value} {b h' : AH} (h : some (a, b) = some (v, h')) : v = a ∧ h' = b := by cases h; exact ⟨rfl, rfl⟩

section
variable {φ : Phi} {h h' : AH} {w : World} {ρ : Operand → Option Value} {e : Operand → Value} {v : Value}

theorem op_scal (he : EnvR φ ρ e) (hr : HR φ h w) {o : Oper} (hs : ∀ cs b, o.op ≠ .select cs b) (hrun : (AOp.scal o).run P ρ h = some (v, h')) : So P φ h w (execOp e o) v h' := by
  simp only [AOp.run] at hrun
  obtain ⟨hg, hrun⟩ := condT hrun rfl
  split at hrun
  · rename_i u hp
    obtain ⟨hgu, hrun⟩ := condT hrun rfl
    cases hrun
    have hce : execOp (fun x => (ρ x).getD undef) o = execOp e o := by
      refine execOp_congr o hs fun x hx => ?_
      have hx' : x ∈ o.op.operands.toList := by simpa using hx
      have := List.all_eq_true.1 hg x hx'
      cases hv : ρ x with
      | none => rw [hv] at this; cases this
      | some y =>
        rw [hv] at this
        have hy := VR.ground_of 5 _ _ this (he x y hv)
        show (some y).getD undef = e x
        rw [hy]; rfl
    rw [hce] at hp
    refine ⟨.value v, v, w, φ, pureRun_run _ hp w, .inl rfl, VR.ground_refl 5 _ hgu, hr, Keep.refl _ _ _⟩
  · cases hrun

theorem op_mv (he : EnvR φ ρ e) (hr : HR φ h w) {o : Oper} {x : Operand} (ho : execOp e o = pure (.value (e x))) (hrun : (AOp.mv x).run P ρ h = some (v, h')) : So P φ h w (execOp e o) v h' := by
  simp only [AOp.run, Option.map_eq_some_iff, Prod.mk.injEq] at hrun
  obtain ⟨u, hu, rfl, rfl⟩ := hrun
  rw [ho]
  exact ⟨.value (e x), e x, w, φ, rfl, .inl rfl, he _ _ hu, hr, Keep.refl _ _ _⟩

theorem op_pick (he : EnvR φ ρ e) (hr : HR φ h w) {o : Oper} {c a b : Operand} (ho : o.op = .pick c a b) (hrun : (AOp.pick c a b).run P ρ h = some (v, h')) : So P φ h w (execOp e o) v h' := by
  simp only [AOp.run] at hrun
  split at hrun
  · rename_i t hc
    have hb : e c = .bool t := by have h1 := he _ _ hc; generalize e c = y at h1; cases h1; rfl
    simp only [Option.map_eq_some_iff, Prod.mk.injEq] at hrun
    obtain ⟨u, hu, rfl, rfl⟩ := hrun
    refine ⟨.value (if t then e a else e b), _, w, φ, by unfold execOp; rw [ho]; simp [hb, asBool], .inl rfl, ?_, hr, Keep.refl _ _ _⟩
    cases t with
    | false => exact he _ _ hu
    | true => exact he _ _ hu
  · cases hrun

theorem op_simple (he : EnvR φ ρ e) (hr : HR φ h w) {o : Oper} {ao : AOp} (hc : compOp P o = some ao) (hrun : ao.run P ρ h = some (v, h')) : So P φ h w (execOp e o) v h' := by
  cases ho : o.op with
  | move x => simp only [compOp, ho] at hc; cases hc; exact op_mv he hr (by unfold execOp; rw [ho]) hrun
  | assign x => simp only [compOp, ho] at hc; cases hc; exact op_mv he hr (by unfold execOp; rw [ho]) hrun
  | pick c a b => simp only [compOp, ho] at hc; cases hc; exact op_pick he hr ho hrun
  | alloc t =>
    simp only [compOp, ho, Option.map_eq_some_iff] at hc
    obtain ⟨z, hz, rfl⟩ := hc
    obtain ⟨i, hi, hz1, hz2, hz3, hz4, hz5⟩ := zeroOf_inv (z := z.1) (n := z.2.1) (b := z.2.2) hz
    simp only [AOp.run, Option.some.injEq, Prod.mk.injEq] at hrun
    obtain ⟨rfl, rfl⟩ := hrun
    have hex : execOp e o = (do pure (.value (← Instr.alloc t true (.tuple #[])))) := by unfold execOp; rw [ho]
    rw [hex]
    refine So.of_sd ?_
    have := sd_new (P := P) hr t (v := z.1) z.1.cells.toList (ground_all hz4)
    obtain ⟨v', w', φ', h1, h2⟩ := this
    exact ⟨v', w', φ', by simp only [Instr.alloc, Sem.run_bind, run_zeroOf hi hz1, Result.andThen_ok]; exact h1, h2⟩
  | box t x =>
    simp only [compOp, ho] at hc; cases hc
    simp only [AOp.run, Option.map_eq_some_iff, Prod.mk.injEq] at hrun
    obtain ⟨u, hu, rfl, rfl⟩ := hrun
    have hex : execOp e o = (do pure (.value (← Instr.box t (e x)))) := by unfold execOp; rw [ho]
    rw [hex]
    exact So.of_sd (sd_new (P := P) hr t (v := e x) _ (he _ _ hu).cells)
  | build t parts => exact op_build he hr ho hc hrun
  | buildSlice t len parts => exact op_buildSlice he hr ho hc hrun
  | load t a =>
    simp only [compOp, ho, Option.map_eq_some_iff] at hc
    obtain ⟨g, hg, rfl⟩ := hc
    obtain ⟨i, d, hi, hd, rfl⟩ := aggOf_inv hg
    simp only [AOp.run] at hrun
    split at hrun
    · rename_i u hu
      split at hrun
      · rename_i b off ro c hca
        have hex : execOp e o = (do pure (.value (← Instr.loadAt t (e a)))) := by unfold execOp; rw [ho]
        rw [hex]
        refine So.of_sd ?_
        cases hag : isAggD d with
        | true =>
          rw [hag] at hrun
          simp only [cond_true] at hrun
          obtain ⟨hb, hrun⟩ := condT hrun rfl
          cases hrun
          exact sd_load hr hi hd hca (he _ _ hu) (.inl ⟨hag, by simpa using hb, rfl⟩)
        | false =>
          rw [hag] at hrun
          simp only [cond_false, Option.map_eq_some_iff, Prod.mk.injEq] at hrun
          obtain ⟨x, hx, rfl, rfl⟩ := hrun
          exact sd_load hr hi hd hca (he _ _ hu) (.inr ⟨hag, hx⟩)
      · cases hrun
    · cases hrun
  | store t a x =>
    simp only [compOp, ho, Option.map_eq_some_iff] at hc
    obtain ⟨i, hi, rfl⟩ := hc
    simp only [AOp.run] at hrun
    split at hrun
    · rename_i u1 u2 hu1 hu2
      split at hrun
      · rename_i b off ro c hca
        obtain ⟨hb, hrun⟩ := condT hrun rfl
        simp only [Bool.and_eq_true, nbeq, Nat.ble_eq, Bool.not_eq_true'] at hb
        obtain ⟨⟨⟨hro, h2⟩, h3⟩, h4⟩ := hb
        obtain ⟨rfl, rfl⟩ := someT hrun
        subst hro
        have hex : execOp e o = (do Instr.storeAt t (e a) (e x); pure .skip) := by unfold execOp; rw [ho]
        rw [hex]
        exact So.of_su (sd_store hr hi hca (he _ _ hu1) (he _ _ hu2) h2 h3 h4)
      · cases hrun
    · cases hrun
  | nilCheck x =>
    simp only [compOp, ho] at hc; cases hc
    simp only [AOp.run] at hrun
    split at hrun
    · rename_i a ha
      obtain ⟨rfl, rfl⟩ := someT hrun
      have hv := he _ _ ha
      have hx : ∃ a', e x = .pointer (some a') := by generalize e x = y at hv; cases hv; exact ⟨_, rfl⟩
      obtain ⟨a', hx⟩ := hx
      refine ⟨.value (e x), e x, w, φ, ?_, .inl rfl, hv, hr, Keep.refl _ _ _⟩
      have hex : execOp e o = pure (.value (e x)) := by unfold execOp; simp only [ho, hx]
      rw [hex]; rfl
    · cases hrun
  | fieldAddr s x f =>
    simp only [compOp, ho] at hc
    split at hc
    · rename_i fields hu
      split at hc
      · rename_i fl hf
        split at hc
        · rename_i i hi
          cases hb : Nat.beq i.size 0 with
          | true => rw [hb] at hc; cases hc
          | false =>
            rw [hb] at hc
            cases hc
            simp only [AOp.run] at hrun
            split at hrun
            · rename_i b off hx
              cases hrun
              have hex : execOp e o = (do pure (.value (← Instr.fieldAt s (e x) f))) := by unfold execOp; rw [ho]
              rw [hex]
              exact So.of_sd (sd_fieldAddr hr hu hf hi (by intro h0; rw [h0] at hb; cases hb) (he _ _ hx))
            · cases hrun
        · cases hc
      · cases hc
    · cases hc
  | indexAddr t x ix =>
    simp only [compOp, ho] at hc
    have hex : execOp e o = (do pure (.value (← Instr.indexAt t (e x) (e ix)))) := by unfold execOp; rw [ho]
    split at hc
    · rename_i n el hu
      obtain ⟨inf, hinf, rfl⟩ := Option.map_eq_some_iff.1 hc
      simp only [AOp.run] at hrun
      split at hrun
      · rename_i b off k hx hk
        obtain ⟨hb, hrun⟩ := condT hrun rfl
        cases hrun
        rw [nblt] at hb
        obtain ⟨ik, hik⟩ := natOf_inv hk
        rw [hex, (he _ _ hik).int_inv]
        exact So.of_sd (sd_indexAddr_arr hr hu hinf hb (he _ _ hx))
      · cases hrun
    · rename_i el hu
      obtain ⟨inf, hinf, rfl⟩ := Option.map_eq_some_iff.1 hc
      simp only [AOp.run] at hrun
      split at hrun
      · rename_i b off n z k hx hk
        obtain ⟨hb, hrun⟩ := condT hrun rfl
        cases hrun
        simp only [Bool.and_eq_true, nblt, nbeq] at hb
        obtain ⟨hb, rfl⟩ := hb
        obtain ⟨ik, hik⟩ := natOf_inv hk
        rw [hex, (he _ _ hik).int_inv]
        exact So.of_sd (sd_indexAddr_slice hr hu hinf hb (he _ _ hx))
      · cases hrun
    · cases hc
  | field t x f =>
    simp only [compOp, ho] at hc
    split at hc
    · rename_i fields hu
      split at hc
      · rename_i fl hf
        obtain ⟨g, hg, rfl⟩ := Option.map_eq_some_iff.1 hc
        obtain ⟨i, d, hi, hd, rfl⟩ := aggOf_inv hg
        simp only [AOp.run] at hrun
        split at hrun
        · rename_i cs hx
          have hex : execOp e o = (do pure (.value (← Instr.field t (e x) f))) := by unfold execOp; rw [ho]
          rw [hex]
          refine So.of_sd ?_
          cases hag : isAggD d with
          | true =>
            rw [hag] at hrun
            cases hrun
            exact sd_field hr hu hf hi hd (he _ _ hx) (.inl ⟨hag, rfl⟩)
          | false =>
            rw [hag] at hrun
            simp only [cond_false, Option.map_eq_some_iff, Prod.mk.injEq] at hrun
            obtain ⟨y, hy, rfl, rfl⟩ := hrun
            exact sd_field hr hu hf hi hd (he _ _ hx) (.inr ⟨hag, hy⟩)
        · cases hrun
      · cases hc
    · cases hc
  | extract t ix =>
    simp only [compOp, ho] at hc; cases hc
    simp only [AOp.run] at hrun
    split at hrun
    · rename_i vs hx
      simp only [Option.map_eq_some_iff, Prod.mk.injEq] at hrun
      obtain ⟨y, hy, rfl, rfl⟩ := hrun
      obtain ⟨c', hc', hv⟩ := (he _ _ hx).tuple_inv
      obtain ⟨y', hy', hyy⟩ := hv.get (i := ix) (by simpa using hy)
      have hex : execOp e o = (do pure (.value (← Instr.extract (e t) ix))) := by unfold execOp; rw [ho]
      rw [hex, hc']
      refine So.of_sd (Sd.quiet hr (v' := y') ?_ hyy)
      simp [Instr.extract, hy']
    · cases hrun
  | slice t x lo hi mx =>
    cases mx with
    | some m => simp [compOp, ho] at hc
    | none =>
      simp only [compOp, ho] at hc
      split at hc
      · cases hc; exact op_scal he hr (by intro cs b; rw [ho]; intro h; cases h) hrun
      · rename_i el hu
        obtain ⟨i, hinf, rfl⟩ := Option.map_eq_some_iff.1 hc
        simp only [AOp.run] at hrun
        split at hrun
        · rename_i a n z hx
          split at hrun
          · rename_i l m hl hm
            obtain ⟨hb, hrun⟩ := condT hrun rfl
            simp only [Bool.and_eq_true, Nat.ble_eq] at hb
            have hex : execOp e o = (do pure (.value (← Instr.sliceAt t (e x) (lo.map e) (hi.map e) none))) := by unfold execOp; rw [ho]; rfl
            rw [hex]
            refine So.of_sd ?_
            have hh : h' = h ∧ ((a = none ∧ v = .slice none 0 0) ∨ ∃ b o, a = some ⟨b, o, none⟩ ∧ z = i.size ∧ v = .slice (some ⟨b, o + l * i.size, none⟩) (m - l) i.size) := by
              split at hrun
              · cases hrun; exact ⟨rfl, .inl ⟨rfl, rfl⟩⟩
              · have hq := condT hrun rfl
                obtain ⟨hz, hr3⟩ := hq
                rw [nbeq] at hz
                obtain ⟨rfl, rfl⟩ := someT hr3
                exact ⟨rfl, .inr ⟨_, _, rfl, hz, rfl⟩⟩
              · cases hrun
            obtain ⟨rfl, hh⟩ := hh
            exact sd_sliceS hr hu hinf (boundOf_inv he hl) (boundOf_inv he hm) hb.1 hb.2 (he _ _ hx) hh
          · cases hrun
        · cases hrun
      · rename_i n el hu
        obtain ⟨i, hinf, rfl⟩ := Option.map_eq_some_iff.1 hc
        simp only [AOp.run] at hrun
        split at hrun
        · rename_i u hx
          split at hrun
          · rename_i b off ro c hca
            split at hrun
            · rename_i l m hl hm
              obtain ⟨hb, hrun⟩ := condT hrun rfl
              simp only [Bool.and_eq_true, Nat.ble_eq] at hb
              cases hrun
              have hex : execOp e o = (do pure (.value (← Instr.sliceAt t (e x) (lo.map e) (hi.map e) none))) := by unfold execOp; rw [ho]; rfl
              rw [hex]
              exact So.of_sd (sd_sliceA hr hu hinf (boundOf_inv he hl) (boundOf_inv he hm) hb.1.1 hb.1.2 hca hb.2 (he _ _ hx))
            · cases hrun
          · cases hrun
        · cases hrun
      · cases hc
  | binOp op t x y ty => simp only [compOp, ho] at hc; cases hc; exact op_scal he hr (by intro cs b; rw [ho]; intro h; cases h) hrun
  | unOp op t x => simp only [compOp, ho] at hc; cases hc; exact op_scal he hr (by intro cs b; rw [ho]; intro h; cases h) hrun
  | index t x y => simp only [compOp, ho] at hc; cases hc; exact op_scal he hr (by intro cs b; rw [ho]; intro h; cases h) hrun
  | convert src dst x =>
    simp only [compOp, ho] at hc
    have hex : execOp e o = (do pure (.value (← convert src dst (e x)))) := by unfold execOp; rw [ho]
    have u8 : ∀ el, isU8 P el = true → P.underlying el = some (.int .u8) := by
      intro el h8; unfold isU8 at h8; split at h8
      · assumption
      · cases h8
    split at hc
    · rename_i el hs hd
      obtain ⟨h8, hc⟩ := condT hc rfl
      cases hc
      simp only [AOp.run] at hrun
      split at hrun
      · rename_i u hu
        split at hrun
        · rename_i n c hg
          obtain ⟨hb, hr3⟩ := condT hrun rfl
          obtain ⟨rfl, rfl⟩ := someT hr3
          rw [hex]
          exact So.of_sd (sd_stringOf hr hs hd (u8 _ h8) hg hb (he _ _ hu))
        · cases hrun
      · cases hrun
    · rename_i el hs hd
      obtain ⟨h8, hc⟩ := condT hc rfl
      cases hc
      simp only [AOp.run] at hrun
      split at hrun
      · rename_i s hu
        obtain ⟨rfl, rfl⟩ := someT hrun
        rw [hex]
        exact So.of_sd (sd_bytesOf hr hs hd (u8 _ h8) _ (he _ _ hu))
      · cases hrun
    · cases hc; exact op_scal he hr (by intro cs b; rw [ho]; intro h; cases h) hrun
  | makeInterface t x =>
    simp only [compOp, ho] at hc
    have hex : execOp e o = (do pure (.value (← Instr.makeInterface t (e x)))) := by unfold execOp; rw [ho]
    split at hc
    · cases hc
    · cases hc
    · rename_i d hd1 hd2
      cases hc
      simp only [AOp.run, Option.map_eq_some_iff, Prod.mk.injEq] at hrun
      obtain ⟨u, hu, rfl, rfl⟩ := hrun
      rw [hex]
      refine So.of_sd (Sd.quiet hr (v' := .iface t (e x)) ?_ (.iface t (he _ _ hu)))
      simp only [Instr.makeInterface, Sem.run_bind, run_underlying hd2, Result.andThen_ok]
      cases d <;> first | rfl | (exact absurd hd2 (hd1 _))
  | makeMap t r =>
    cases r with
    | some r => simp [compOp, ho] at hc
    | none =>
      simp only [compOp, ho] at hc; cases hc
      simp only [AOp.run] at hrun
      obtain ⟨rfl, rfl⟩ := someT hrun
      have hex : execOp e o = (do pure (.value (← Instr.makeMap t none))) := by unfold execOp; rw [ho]; rfl
      rw [hex]
      exact So.of_sd (sd_makeMap hr t)
  | makeSlice t l c =>
    simp only [compOp, ho] at hc
    split at hc
    · rename_i el hu
      obtain ⟨z, hz, rfl⟩ := Option.map_eq_some_iff.1 hc
      obtain ⟨i, hi, hz1, hz2, hz3, hz4, hz5⟩ := zeroOf_inv (z := z.1) (n := z.2.1) (b := z.2.2) hz
      simp only [AOp.run] at hrun
      split at hrun
      · rename_i nl nc hl hcc
        obtain ⟨hb, hr3⟩ := condT hrun rfl
        obtain ⟨rfl, rfl⟩ := someT hr3
        simp only [Bool.and_eq_true, Nat.ble_eq] at hb
        obtain ⟨kl, hkl⟩ := natOf_inv hl
        obtain ⟨kc, hkc⟩ := natOf_inv hcc
        have hex : execOp e o = (do pure (.value (← Instr.makeSlice t (e l) (e c)))) := by unfold execOp; rw [ho]
        rw [hex, (he _ _ hkl).int_inv, (he _ _ hkc).int_inv]
        rw [← hz2, ← hz3] at *
        exact So.of_sd (sd_makeSlice hr hu hi hz1 hz5 hz4 hb.1.1 hb.1.2 hb.2)
      · cases hrun
    · cases hc
  | lookup t m k ok =>
    simp only [compOp, ho] at hc
    split at hc
    · rename_i kt et hu
      split at hc
      · rename_i z n b hz
        obtain ⟨hzg, hc⟩ := condT hc rfl
        cases hc
        obtain ⟨i, hi, hz1, hz2, hz3, hz4, hz5⟩ := zeroOf_inv hz
        simp only [AOp.run] at hrun
        split at hrun
        · rename_i r kv hm hk
          split at hrun
          · rename_i es clock hb
            obtain ⟨hg, hr3⟩ := condT hrun rfl
            have hex : execOp e o = (do pure (.value (← Instr.lookup t (e m) (e k) ok))) := by unfold execOp; rw [ho]
            rw [hex]
            refine So.of_sd ?_
            split at hr3
            · rename_i j hf
              split at hr3
              · rename_i en hen
                obtain ⟨rfl, rfl⟩ := someT hr3
                exact sd_lookup hr hu hi hz1 hzg (he _ _ hm) (he _ _ hk) hg hb hf ⟨en, hen, rfl⟩
              · cases hr3
            · rename_i hf
              obtain ⟨rfl, rfl⟩ := someT hr3
              exact sd_lookup hr hu hi hz1 hzg (he _ _ hm) (he _ _ hk) hg hb hf rfl
            · cases hr3
          · cases hrun
        · cases hrun
      · cases hc
    · cases hc
  | mapUpdate t m k x =>
    simp only [compOp, ho] at hc
    split at hc
    · rename_i kt et hu
      cases hc
      simp only [AOp.run] at hrun
      split at hrun
      · rename_i r kv xv hm hk hx
        split at hrun
        · rename_i es clock hb
          obtain ⟨hg, hr3⟩ := condT hrun rfl
          have hex : execOp e o = (do Instr.mapUpdate t (e m) (e k) (e x); pure .skip) := by unfold execOp; rw [ho]
          rw [hex]
          split at hr3
          · rename_i j hf
            split at hr3
            · rename_i en hen
              obtain ⟨hsb, hr4⟩ := condT hr3 rfl
              obtain ⟨rfl, rfl⟩ := someT hr4
              exact So.of_su (sd_mapUpdate hr hu (he _ _ hm) (he _ _ hk) (he _ _ hx) hg hb hf ⟨en, hen, hsb, rfl⟩)
            · cases hr3
          · rename_i hf
            obtain ⟨rfl, rfl⟩ := someT hr3
            exact So.of_su (sd_mapUpdate hr hu (he _ _ hm) (he _ _ hk) (he _ _ hx) hg hb hf rfl)
          · cases hr3
        · cases hrun
      · cases hrun
    · cases hc
  | range t m =>
    simp only [compOp, ho] at hc
    split at hc
    · rename_i kt et hu
      cases hc
      simp only [AOp.run] at hrun
      split at hrun
      · rename_i r hm
        split at hrun
        · rename_i es clock hb
          obtain ⟨rfl, rfl⟩ := someT hrun
          have hex : execOp e o = (do pure (.value (← Instr.range t (e m)))) := by unfold execOp; rw [ho]
          rw [hex]
          exact So.of_sd (sd_range hr hu (he _ _ hm) hb)
        · cases hrun
      · cases hrun
    · cases hc
  | entry it =>
    simp only [compOp, ho] at hc; cases hc
    simp only [AOp.run] at hrun
    split at hrun
    · rename_i i hit
      split at hrun
      · rename_i r since seen stepped hb
        split at hrun
        · rename_i es clock stamp hm hs
          obtain ⟨hcl, hr3⟩ := condT hrun rfl
          rw [nbeq] at hcl
          split at hr3
          · rename_i en hen
            obtain ⟨rfl, rfl⟩ := someT hr3
            have hex : execOp e o = (do pure (.value (← Instr.entry (e it)))) := by unfold execOp; rw [ho]
            rw [hex]
            exact So.of_sd (sd_entry hr (he _ _ hit) hb hm hs hcl hen)
          · cases hr3
        · cases hrun
      · cases hrun
    · cases hrun
  | call c =>
    simp only [compOp, ho] at hc
    have hcallee : ∀ (b : Builtin), c.callee = .builtin b → execOp e o = builtin b c.argTypes o.type (c.args.map fun | .const _ => true | _ => false) (c.args.map e) := by
      intro b hb
      unfold execOp; rw [ho]
      simp only [resolve, hb]
      rfl
    unfold compCall at hc
    split at hc
    · rename_i hb
      split at hc
      · rename_i s x t t' hargs htys
        obtain ⟨htt, hc2⟩ := condT hc rfl
        rw [nbeq] at htt
        clear hc
        subst htt
        split at hc2
        · rename_i el hu
          split at hc2
          · rename_i z size bytes hz
            obtain ⟨i, hi, hz1, rfl, rfl, hz4, hz5⟩ := zeroOf_inv hz
            cases hc2
            have ha : c.args.map e = #[e s, e x] := by apply Array.ext'; simp [hargs]
            have ht2 : c.argTypes = #[t, t] := by apply Array.ext'; simp [htys]
            have hex : execOp e o = (do pure (.value (← Builtin.append_ #[t, t] o.type #[e s, e x]))) := by
              rw [hcallee _ hb, ha, ht2]; rfl
            rw [hex]
            refine So.of_sd ?_
            simp only [AOp.run] at hrun
            split at hrun
            · rename_i v1 u1 hs hx
              split at hrun
              · rename_i l hseg
                split at hrun
                · obtain ⟨rfl, rfl⟩ := someT hrun
                  exact sd_append_none hr hu hi hseg (he _ _ hs) (he _ _ hx)
                · cases hrun
              · rename_i m nw hne hseg
                have hm : m ≠ 0 := by rintro rfl; exact hne rfl
                split at hrun
                · obtain ⟨hb, hr3⟩ := condT hrun rfl
                  obtain ⟨rfl, rfl⟩ := someT hr3
                  simp only [Bool.and_eq_true, Nat.ble_eq] at hb
                  exact sd_append_nil hr hu hi hz1 hseg hm (he _ _ hs) (he _ _ hx) hz5 hb.1 hb.2
                · rename_i b off n z2
                  split at hrun
                  · rename_i cs hbk
                    obtain ⟨hb, hr3⟩ := condT hrun rfl
                    obtain ⟨rfl, rfl⟩ := someT hr3
                    simp only [Bool.and_eq_true, nbeq, Nat.ble_eq] at hb
                    obtain ⟨⟨⟨⟨hz2, h2⟩, h3⟩, h4⟩, h5⟩ := hb
                    subst hz2
                    exact sd_append_some hr hu hi hz1 hseg hm (he _ _ hs) (he _ _ hx) hz5 hbk h2 h5 h3 h4
                  · cases hrun
                · cases hrun
              · cases hrun
            · cases hrun
          · cases hc2
        · cases hc2
      · cases hc
    · rename_i hb
      split at hc
      · rename_i x t hargs htys
        split at hc
        · rename_i el hu
          cases hc
          have ha : c.args.map e = #[e x] := by apply Array.ext'; simp [hargs]
          have ht2 : c.argTypes = #[t] := by apply Array.ext'; simp [htys]
          have hex : execOp e o = (do pure (.value (← Builtin.len_ #[t] o.type #[e x]))) := by
            rw [hcallee _ hb, ha, ht2]; rfl
          simp only [AOp.run] at hrun
          split at hrun
          · rename_i a n z hx
            obtain ⟨rfl, rfl⟩ := someT hrun
            obtain ⟨a', cap, hv, _⟩ := (he _ _ hx).slice_inv
            rw [hex, hv]
            refine So.of_sd (Sd.quiet hr (v' := .int .i64 n) ?_ (.int _ _))
            simp [Builtin.len_, run_underlying hu, goInt]
          · cases hrun
        · cases hc; exact op_scal he hr (by intro cs b; rw [ho]; intro h; cases h) hrun
        · cases hc
      · cases hc
    all_goals first | (cases hc; exact op_scal he hr (by intro cs b; rw [ho]; intro h; cases h) hrun) | cases hc
  | _ => simp [compOp, ho] at hc
end
end Go.Am
