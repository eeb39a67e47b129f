/-
  The abstract machine over the model's code and the machines over it: B1 to B9, joined.
-/
import Derived.Test.YtkichddiobkchaaGreatDoorMA
import Derived.Scope
set_option linter.unusedSectionVars false
set_option linter.unusedVariables false
set_option linter.unusedSimpArgs false
/-
  An abstract machine over the model's code, part 10: the code, and its run.
-/
namespace Go.Am
open Go

/-- What a run is told by: a proposition, or a Bool. -/
structure Alg (R : Type) where
  bot : R
  all : List R → R
  eq : Value → Value → R → R
/-- Are two values the same? -/
def eqvF : Nat → Value → Value → Bool
  | _, .bool a, .bool b => a == b
  | _, .int j a, .int k b => j == k && a == b
  | _, .float j a, .float k b => j == k && a == b
  | _, .complex j a c, .complex k b d => j == k && a == b && c == d
  | _, .string a, .string b => a.data.toList == b.data.toList
  | _, .pointer a, .pointer b => a == b
  | _, .slice a n c, .slice b m d => a == b && n == m && c == d
  | _, .map a, .map b => a == b
  | _, .nilFunc, .nilFunc => true
  | _, .nilIface, .nilIface => true
  | n + 1, .iface t v, .iface u w => t == u && eqvF n v w
  | n + 1, .agg a, .agg b => a.size == b.size && (a.toList.zip b.toList).all fun x => eqvF n x.1 x.2
  | n + 1, .tuple a, .tuple b => a.size == b.size && (a.toList.zip b.toList).all fun x => eqvF n x.1 x.2
  | _, _, _ => false
def AProp : Alg Prop := ⟨False, fun l => ∀ p ∈ l, p, fun v u k => v = u ∧ k⟩
def ABool : Alg Bool := ⟨false, fun l => l.all id, fun v u k => eqvF 5 v u && k⟩

inductive Ex where
  | normal
  | exit (id : Nat)
  | ret

/-- A frame: its slots, and the calls that are deferred. -/
structure Fr where
  t : Tr Value
  d : List (FuncId × List Value)
abbrev CS (R : Type) := FuncId → List Value → AH → (Value → AH → R) → R
abbrev BodyT (R : Type) := Fr → AH → (Ex → Fr → AH → R) → R
abbrev LO (R : Type) := BodyT R → BodyT R

inductive XOp where
  | simple (op : AOp)
  | call (f : FuncId) (args : List Operand)
  | next (it : Operand)
  | defer (f : FuncId) (args : List Operand)

structure RO where
  dst : Option Nat
  op : XOp
  guard : Option (Nat × Bool)

/-- A stage of a region that draws its order: what is laid into memory ahead of an operation that acts, that operation, what can be reckoned behind it, and what must read as it did. -/
structure Stage where
  ab : List Nat
  e : Nat
  lev : List Nat
  re : List Nat
/-- An operation, and where each slot that it reads comes from: an operation of the region, or the frame ahead of it. -/
structure RD where
  o : RO
  src : List (Nat × Option Nat)
structure DR where
  ros : List RD
  lev0 : List Nat
  stages : List Stage
  fin : List Nat

inductive AC where
  | skip
  | ops (l : List RO)
  | draw (d : DR)
  | seq (a b : AC)
  | cond (c : Operand) (a b : AC)
  | block (id : Nat) (b : AC)
  | loop (b : AC)
  | exit (id : Nat)
  | ret

/-- What an operand stands for: G package-level variables. -/
def opd (G : Nat) (fr : Fr) : Operand → Option Value
  | .tmp t => fr.t.get t
  | .const v => cond (ground v) (some v) none
  | .global g => cond (Nat.blt g G) (some (.pointer (some ⟨g, 0, none⟩))) none
  | .func f => some (.func (.func f) #[] #[])
def opds (ρ : Operand → Option Value) : List Operand → Option (List Value)
  | [] => some []
  | x :: l => match ρ x, opds ρ l with
    | some v, some vs => some (v :: vs)
    | _, _ => none
def putD (fr : Fr) (d : Option Nat) (v : Value) : Fr := match d with
  | some d => { fr with t := fr.t.set d v }
  | none => fr
def delD (fr : Fr) (d : Option Nat) : Fr := match d with
  | some d => { fr with t := fr.t.del d }
  | none => fr
/-- Is a guarded operation run? -/
def wantedV (want : Bool) : Option Value → Option Bool
  | some (.bool b) => some (b == want)
  | some (.tuple _) => some false
  | _ => none
def wantedA (fr : Fr) : Option (Nat × Bool) → Option Bool
  | none => some true
  | some (s, want) => wantedV want (fr.t.get s)

def nextA {R : Type} (A : Alg R) (h : AH) (K : Value → AH → R) : Option Value → R
  | some (.pointer (some ⟨i, 0, none⟩)) => match h.get i with
    | .mapIter (some r) since seen last => match h.get r with
      | .map es clock =>
        cond (!seen.isEmpty && !es.isEmpty && es.all (fun e => Nat.ble last e.born)) A.bot
          (A.all ((cond ((es.filter fun e => !seen.contains e.born && Nat.blt e.born since).isEmpty) [K (.tuple #[.bool false]) h] []) ++
            (es.filter fun e => !seen.contains e.born).map fun e => K (.tuple #[.bool true, e.key, e.val]) (h.set i (.mapIter (some r) since (seen ++ [e.born]) clock))))
      | _ => A.bot
    | _ => A.bot
  | _ => A.bot

section
variable {R : Type} (A : Alg R) (P : Program) (G : Nat) (cs : CS R) (lo : LO R)

def xrunA (ρ : Operand → Option Value) (h : AH) (K : Value → AH → R) : XOp → R
  | .call f args => match opds ρ args with
    | some vs => cs f vs h K
    | none => A.bot
  | .next it => nextA A h K (ρ it)
  | .simple op => match op.run P ρ h with
    | some (v, h') => K v h'
    | none => A.bot
  | .defer _ _ => A.bot
def stepA (o : RO) (fr : Fr) (h : AH) (K : Fr → AH → R) : R :=
  match wantedA fr o.guard with
  | some true => match o.op with
    | .defer f args => match opds (opd G fr) args with
      | some vs => K { delD fr o.dst with d := (f, vs) :: fr.d } h
      | none => A.bot
    | op => xrunA A P cs (opd G fr) h (fun v h' => K (putD fr o.dst v) h') op
  | some false => K (putD fr o.dst undef) h
  | none => A.bot

def opsA : List RO → Fr → AH → (Fr → AH → R) → R
  | [], fr, h, K => K fr h
  | o :: l, fr, h, K => stepA A P G cs o fr h fun fr h => opsA l fr h K

def execA (drawA : DR → Fr → AH → (Fr → AH → R) → R) : AC → BodyT R
  | .skip, fr, h, K => K .normal fr h
  | .ops l, fr, h, K => opsA A P G cs l fr h (K .normal)
  | .draw d, fr, h, K => drawA d fr h (K .normal)
  | .seq a b, fr, h, K => execA drawA a fr h fun e fr h => match e with
    | .normal => execA drawA b fr h K
    | e => K e fr h
  | .cond c a b, fr, h, K => match opd G fr c with
    | some (.bool t) => match t with
      | true => execA drawA a fr h K
      | false => execA drawA b fr h K
    | _ => A.bot
  | .block id b, fr, h, K => execA drawA b fr h fun e fr h => match e with
    | .exit i => cond (Nat.beq i id) (K .normal fr h) (K e fr h)
    | e => K e fr h
  | .loop b, fr, h, K => lo (execA drawA b) fr h K
  | .exit id, fr, h, K => K (.exit id) fr h
  | .ret, fr, h, K => K .ret fr h
end

/-- A loop of at most n rounds. -/
def loopN {R : Type} (A : Alg R) : Nat → LO R
  | 0, _, _, _, _ => A.bot
  | n + 1, body, fr, h, K => body fr h fun e fr h => match e with
    | .normal => loopN A n body fr h K
    | e => K e fr h

/-! ### The operations of a region, compiled -/
def callOf (o : Oper) : Option (FuncId × List Operand) := match o.op with
  | .call c => match c.callee with
    | .value (.func f) => some (f, c.args.toList)
    | _ => none
  | _ => none
def deferOf (o : Oper) : Option (FuncId × List Operand) := match o.op with
  | .defer c => match c.callee with
    | .value (.func f) => some (f, c.args.toList)
    | _ => none
  | _ => none
def nextOf (o : Oper) : Option Operand := match o.op with
  | .next it false => some it
  | _ => none
def compX (P : Program) (o : Oper) : Option XOp :=
  match callOf o with
  | some (f, args) => cond (hasBody P f) (some (.call f args)) (some (.simple (.scal o)))
  | none => match nextOf o with
    | some it => some (.next it)
    | none => match deferOf o with
      | some (f, args) => cond (hasBody P f) (some (.defer f args)) none
      | none => (compOp P o).map .simple
def compRO (P : Program) (n : Nat) (ops : Array Oper) (o : Oper) : Option RO :=
  match compX P o with
  | some op =>
    cond (match o.dst with | some d => Nat.blt d n | none => true)
      (match o.guard with
      | none => some ⟨o.dst, op, none⟩
      | some (j, want) => match (ops[j]?).bind (·.dst) with
        | some s => some ⟨o.dst, op, some (s, want)⟩
        | none => none) none
  | none => none
def compROs (P : Program) (n : Nat) (ops : Array Oper) : List Oper → Option (List RO)
  | [] => some []
  | o :: l => match compRO P n ops o, compROs P n ops l with
    | some r, some rs => some (r :: rs)
    | _, _ => none
def comp (P : Program) (n : Nat) (compDraw : Array Oper → Option DR) : Code → Option AC
  | .skip => some .skip
  | .region _ ops d => cond d ((compDraw ops).map .draw) ((compROs P n ops ops.toList).map .ops)
  | .seq a b => match comp P n compDraw a, comp P n compDraw b with
    | some a, some b => some (.seq a b)
    | _, _ => none
  | .cond c a b => match comp P n compDraw a, comp P n compDraw b with
    | some a, some b => some (.cond c a b)
    | _, _ => none
  | .block id b => (comp P n compDraw b).map (.block id)
  | .loop b => (comp P n compDraw b).map .loop
  | .exit id => some (.exit id)
  | .ret => some .ret
  | .scope b => comp P n compDraw b
  | .label _ => some .skip
  | _ => none

/-! ### How frames stand to frames -/
def FrR (φ : Phi) (fr : Fr) (tmps : Array Value) : Prop := ∀ t v, fr.t.get t = some v → ∃ v', tmps[t]? = some v' ∧ VR φ v v'
inductive DefR (φ : Phi) : List (FuncId × List Value) → List Deferred → Prop
  | nil : DefR φ [] []
  | cons {f : FuncId} {vs : List Value} {args : Array Value} {l : List (FuncId × List Value)} {l' : List Deferred} (h : VRs φ vs args.toList) (t : DefR φ l l') :
      DefR φ ((f, vs) :: l) ({ target := .fn (.func f) #[], args := args } :: l')
theorem DefR.mono {φ ψ : Phi} (hle : φ.le ψ) {l : List (FuncId × List Value)} {l' : List Deferred} : DefR φ l l' → DefR ψ l l'
  | .nil => .nil
  | .cons h t => .cons (h.mono hle) (t.mono hle)
def GlobR (G : Nat) (φ : Phi) : Prop := ∀ g, g < G → ∃ ext, φ g = some ⟨g, 0, ext⟩
theorem FrR.mono {φ ψ : Phi} (hle : φ.le ψ) {fr : Fr} {tmps : Array Value} (h : FrR φ fr tmps) : FrR ψ fr tmps := fun t v ht => by
  obtain ⟨v', h1, h2⟩ := h t v ht
  exact ⟨v', h1, h2.mono hle⟩
theorem GlobR.mono {G : Nat} {φ ψ : Phi} (hle : φ.le ψ) (h : GlobR G φ) : GlobR G ψ := fun g hg => by
  obtain ⟨ext, h1⟩ := h g hg
  exact ⟨ext, hle _ _ h1⟩
theorem env_opd {φ : Phi} {G : Nat} {fr : Fr} {a : Act} (hg : GlobR G φ) (hf : FrR φ fr a.tmps) : EnvR φ (opd G fr) a.eval := by
  intro x v hx
  cases x with
  | tmp t =>
    obtain ⟨v', h1, h2⟩ := hf t v hx
    show VR φ v (a.tmps.getD t undef)
    rw [Array.getD_eq_getD_getElem?, h1]
    exact h2
  | const u =>
    simp only [opd] at hx
    obtain ⟨h1, h2⟩ := condT hx rfl
    cases h2
    exact VR.ground_refl 5 _ h1
  | global g =>
    simp only [opd] at hx
    obtain ⟨h1, h2⟩ := condT hx rfl
    cases h2
    rw [nblt] at h1
    obtain ⟨ext, he⟩ := hg g h1
    exact VR.ptr he
  | func f => cases hx; exact .func _
theorem opds_ok {φ : Phi} {ρ : Operand → Option Value} {e : Operand → Value} (he : EnvR φ ρ e) : ∀ {l : List Operand} {vs : List Value}, opds ρ l = some vs → VRs φ vs (l.map e)
  | [], vs, h => by simp [opds] at h; subst h; exact .nil
  | x :: l, vs, h => by
    simp only [opds] at h
    split at h
    · rename_i v vs' hv hvs
      cases h
      exact .cons (he _ _ hv) (opds_ok he hvs)
    · cases h
theorem FrR.put {φ : Phi} {fr : Fr} {a : Act} (hf : FrR φ fr a.tmps) {d : Option Nat} {v v' : Value} (hd : ∀ k, d = some k → k < a.tmps.size) (hv : VR φ v v') : FrR φ (putD fr d v) (a.put d v').tmps := by
  cases d with
  | none => exact hf
  | some k =>
    intro t u hu
    simp only [putD, Tr.get_set] at hu
    simp only [Act.put]
    by_cases e : t = k
    · subst e
      rw [if_pos rfl] at hu; cases hu
      exact ⟨v', by simp [hd t rfl], hv⟩
    · rw [if_neg e] at hu
      obtain ⟨u', h1, h2⟩ := hf t u hu
      exact ⟨u', by rw [Array.getElem?_setIfInBounds, if_neg (Ne.symm e)]; exact h1, h2⟩
theorem FrR.del {φ : Phi} {fr : Fr} {a : Act} (hf : FrR φ fr a.tmps) (d : Option Nat) (u : Value) : FrR φ (delD fr d) (a.put d u).tmps := by
  cases d with
  | none => exact hf
  | some k =>
    intro t v hv
    simp only [delD, Tr.get_del] at hv
    simp only [Act.put]
    by_cases e : t = k
    · subst e; rw [if_pos rfl] at hv; cases hv
    · rw [if_neg e] at hv
      obtain ⟨u', h1, h2⟩ := hf t v hv
      exact ⟨u', by rw [Array.getElem?_setIfInBounds, if_neg (Ne.symm e)]; exact h1, h2⟩
theorem size_put (a : Act) (d : Option Nat) (v : Value) : (a.put d v).tmps.size = a.tmps.size := by cases d <;> simp [Act.put]
theorem defers_put (a : Act) (d : Option Nat) (v : Value) : (a.put d v).defers = a.defers := by cases d <;> simp [Act.put]
end Go.Am

/-
  An abstract machine over the model's code, part 11: a run of the abstract machine stands for the model's.
-/
namespace Go.Am
open Go
variable {P : Program} {G : Nat}

def Post (φ : Phi) (h : AH) (w : World) (Q : Value → AH → Prop) : Ending → World → Prop := fun e w' =>
  ∃ v v' h' φ', e = .returned v' ∧ Q v h' ∧ VR φ' v v' ∧ HR φ' h' w' ∧ Keep φ h w φ' h' w'
/-- What the abstract machine says of a function holds of the model's. -/
def SoundF (P : Program) (G : Nat) (f : FuncId) (S : List Value → AH → (Value → AH → Prop) → Prop) : Prop :=
  ∀ args h Q, S args h Q → ∀ φ w args', HR φ h w → GlobR G φ → VRs φ args args'.toList → Calls P f args' w (Post φ h w Q)

structure Rel (G n : Nat) (φ0 : Phi) (h0 : AH) (w0 : World) (φ : Phi) (fr : Fr) (h : AH) (a : Act) (w : World) : Prop where
  hr : HR φ h w
  gl : GlobR G φ
  fm : FrR φ fr a.tmps
  sz : n ≤ a.tmps.size
  ds : DefR φ fr.d a.defers
  kp : Keep φ0 h0 w0 φ h w

theorem Rel.step {n : Nat} {φ0 : Phi} {h0 : AH} {w0 : World} {φ : Phi} {fr : Fr} {h : AH} {a : Act} {w : World} (r : Rel G n φ0 h0 w0 φ fr h a w)
    {φ' : Phi} {h' : AH} {w' : World} {v v' : Value} {d : Option Nat} (hd : ∀ k, d = some k → k < n) (hr : HR φ' h' w') (hk : Keep φ h w φ' h' w') (hv : VR φ' v v') :
    Rel G n φ0 h0 w0 φ' (putD fr d v) h' (a.put d v') w' where
  hr := hr
  gl := r.gl.mono hk.le
  fm := (r.fm.mono hk.le).put (fun k e => Nat.lt_of_lt_of_le (hd k e) r.sz) hv
  sz := by rw [size_put]; exact r.sz
  ds := by rw [defers_put]; have := r.ds.mono hk.le; cases d <;> exact this
  kp := r.kp.trans hk

theorem exec_call {e : Operand → Value} {o : Oper} {c : Call} {f : FuncId} (ho : o.op = .call c) (hc : c.callee = .value (.func f)) (he : e (.func f) = .func (.func f) #[] #[]) (hb : hasBody P f = true) (w : World) :
    (execOp e o).run P w = .ok (.enter f (c.args.map e)) w := by
  unfold hasBody at hb
  split at hb
  · rename_i fn hf
    simp only [Bool.and_eq_true, Bool.not_eq_true'] at hb
    have hex : execOp e o = (do let d ← resolve e c o.type; invoke d.target d.args) := by unfold execOp; rw [ho]
    rw [hex]
    have hn : fn.body.isNone = false := by cases hbd : fn.body <;> simp_all
    have hn2 : fn.body ≠ none := by intro h; rw [h] at hn; cases hn
    have hb2 : fn.name ≠ "runtime.NumGoroutine" := by simpa using hb.2
    simp [resolve, hc, he, Deferred.ofValue, invoke, callFunc, hf, hb2, hn2]
  · cases hb

theorem compRO_inv {n : Nat} {ops : Array Oper} {o : Oper} {r : RO} (h : compRO P n ops o = some r) :
    compX P o = some r.op ∧ r.dst = o.dst ∧ (∀ k, o.dst = some k → k < n) ∧
      ((o.guard = none ∧ r.guard = none) ∨ ∃ j want s, o.guard = some (j, want) ∧ (ops[j]?).bind (·.dst) = some s ∧ r.guard = some (s, want)) := by
  unfold compRO at h
  split at h
  · rename_i op hop
    obtain ⟨h1, h2⟩ := condT h rfl
    have hd : ∀ k, o.dst = some k → k < n := by
      intro k hk
      rw [hk] at h1
      simpa [nblt] using h1
    split at h2
    · rename_i hg
      cases h2
      exact ⟨hop, rfl, hd, .inl ⟨hg, rfl⟩⟩
    · rename_i j want hg
      split at h2
      · rename_i s hs
        cases h2
        exact ⟨hop, rfl, hd, .inr ⟨j, want, s, hg, hs, rfl⟩⟩
      · cases h2
  · cases h

theorem So.wp {φ : Phi} {h h' : AH} {w : World} {o : Oper} {a : Act} {v : Value} {next : Act → World → Prop} {Q : Exit → Act → World → Prop} (hs : So P φ h w (execOp a.eval o) v h')
    (hn : ∀ v' w' φ', VR φ' v v' → HR φ' h' w' → Keep φ h w φ' h' w' → next (a.put o.dst v') w') : o.wp P a w next Q := by
  obtain ⟨n, v', w', φ', h1, h2, h3, h4, h5⟩ := hs
  unfold Oper.wp
  rw [h1]
  rcases h2 with rfl | ⟨rfl, rfl⟩
  · exact hn _ _ _ h3 h4 h5
  · exact hn _ _ _ h3 h4 h5

theorem ERs.filter {φ : Phi} {l l' : List MapEntry} (h : ERs φ l l') (p q : MapEntry → Bool) (hp : ∀ e e', ER φ e e' → q e' = p e) : ERs φ (l.filter p) (l'.filter q) := by
  induction l generalizing l' with
  | nil => cases h; exact .nil
  | cons x t ih =>
    cases h with
    | cons hx ht =>
      rename_i x' t'
      rw [List.filter_cons, List.filter_cons, hp _ _ hx]
      split
      · exact .cons hx (ih ht)
      · exact ih ht

theorem next_sound {φ : Phi} {h : AH} {w : World} (hr : HR φ h w) {it : Value} {it' : Value} {K : Value → AH → Prop} (hit : VR φ it it') (hn : nextA AProp h K (some it)) (ty : TypeId) :
    ∃ v v' h' w', (Instr.next it' false ty).run P w = .ok v' w' ∧ K v h' ∧ VR φ v v' ∧ HR φ h' w' ∧ Keep φ h w φ h' w' := by
  unfold nextA at hn
  split at hn
  · rename_i i hi
    cases hi
    split at hn
    · rename_i r since seen last hb
      split at hn
      · rename_i es clock hm
        cases hbad : (!seen.isEmpty && !es.isEmpty && es.all (fun e => Nat.ble last e.born)) with
        | true => rw [hbad] at hn; exact hn.elim
        | false =>
          rw [hbad] at hn
          simp only [cond_false] at hn
          obtain ⟨p, hp, rfl⟩ := hit.ptr_inv
          obtain ⟨q, q', hq, hq', hw, h0⟩ := hr.iter hb
          rw [hp] at hq; cases hq
          obtain ⟨m, es', hmp, hmw, hes⟩ := hr.map hm
          rw [hq'] at hmp; cases hmp
          have hbad' : (!seen.toArray.isEmpty && !es'.isEmpty && es'.all (fun e => decide (e.born ≥ last))) = false := by
            rw [← hbad]
            have e1 : seen.toArray.isEmpty = seen.isEmpty := by cases seen <;> simp
            have e2 : es'.isEmpty = es.isEmpty := by
              have := hes.length
              rw [Array.length_toList] at this
              cases es with
              | nil => simp at this; simp [this]
              | cons x t => simp at this; rw [Array.isEmpty]; simp [this]
            have e3 : es'.all (fun e => decide (e.born ≥ last)) = es.all (fun e => Nat.ble last e.born) := by
              rw [← Array.all_toList]
              generalize es'.toList = l' at hes
              clear hm hbad hmw e2 hn
              induction hes with
              | nil => rfl
              | cons hx ht ih =>
                rename_i x x' t t'
                simp only [List.all_cons]
                rw [ih, hx.born]
                congr 1
                rw [Bool.eq_iff_iff]; simp
            rw [e1, e2, e3]
          -- the candidates
          have hleft := hes.filter (fun e => !seen.contains e.born) (fun e => !seen.toArray.contains e.born) (fun e e' h => by rw [h.born]; simp)
          have hold := hleft.filter (fun e => Nat.blt e.born since) (fun e => decide (e.born < since)) (fun e e' h => by rw [h.born, Bool.eq_iff_iff]; simp)
          obtain ⟨left', hl'⟩ : ∃ left', left' = es'.filter fun e => !seen.toArray.contains e.born := ⟨_, rfl⟩
          have hll : left'.toList = es'.toList.filter fun e => !seen.toArray.contains e.born := by rw [hl']; simp
          rw [← hll] at hleft hold
          obtain ⟨old', ho'⟩ : ∃ old', old' = left'.filter fun e => decide (e.born < since) := ⟨_, rfl⟩
          obtain ⟨new', hn'⟩ : ∃ new', new' = left'.filter fun e => decide (e.born ≥ since) := ⟨_, rfl⟩
          obtain ⟨cands, hcand⟩ : ∃ cands : Array (Option MapEntry), cands = (if old'.isEmpty then #[none] else #[]) ++ (old' ++ new').map some := ⟨_, rfl⟩
          have hpos : 0 < cands.size := by
            rw [hcand]
            by_cases h1 : old'.isEmpty = true
            · simp [h1]; omega
            · have : 0 < old'.size := by
                rcases Nat.eq_zero_or_pos old'.size with h2 | h2
                · exact absurd (by simpa [Array.isEmpty] using h2) h1
                · exact h2
              simp; omega
          -- the draw
          obtain ⟨jx, w1, hch, hjx, hw1, hs1⟩ : ∃ jx w1, (choose (.mapNext cands.size)).run P w = .ok jx w1 ∧ jx < cands.size ∧ w1.heap = w.heap ∧ SameOut w w1 := by
            rw [run_choose]
            by_cases hf : (Question.mapNext cands.size).forced = true
            · rw [if_pos hf]; exact ⟨0, w, rfl, hpos, rfl, SameOut.refl _⟩
            · rw [if_neg hf]; exact ⟨_, _, rfl, Nat.mod_lt _ hpos, rfl, ⟨rfl, rfl, rfl⟩⟩
          have hold' : ERs φ (es.filter fun e => !seen.contains e.born && Nat.blt e.born since) old'.toList := by
            rw [ho', Array.toList_filter]
            have := hold
            rw [List.filter_filter] at this
            simpa [Bool.and_comm] using this
          have hrun : ∀ (r : Result Value), (match cands[jx]? with
              | some (some e) => (do setObj p.blk (.mapIter (some q'.blk) since (seen.toArray.push e.born) clock); pure (.tuple #[.bool true, e.key, e.val]) : Sem Value)
              | some none => pure (.tuple #[.bool false])
              | none => stuck "Next: no such candidate").run P w1 = r → (Instr.next (.pointer (some ⟨p.blk, p.off + 0, none⟩)) false ty).run P w = r := by
            intro r hr1
            rw [← hr1]
            simp only [h0, Nat.add_zero, Instr.next, Sem.run_bind, run_getObj_iter hw, Result.andThen_ok, run_getObj_map hmw, hbad', Bool.false_eq_true, if_false]
            rw [← hl', ← ho', ← hn', ← hcand, hch]
            simp only [Result.andThen_ok]
            cases cands[jx]? with
            | none => rfl
            | some c => cases c <;> rfl
          cases hcj : cands[jx]? with
          | none => rw [Array.getElem?_eq_none_iff] at hcj; omega
          | some c =>
            have hmem : c ∈ cands := Array.mem_of_getElem? hcj
            have hr1 := hr.same_heap hw1
            have hk1 := Keep.same_heap φ h hs1 hw1
            cases c with
            | none =>
              have hemp : old'.isEmpty = true := by
                rw [hcand] at hmem
                by_cases h1 : old'.isEmpty = true
                · exact h1
                · simp [h1] at hmem
              have hemp2 : (es.filter fun e => !seen.contains e.born && Nat.blt e.born since).isEmpty = true := by
                have := hold'.length
                have h3 : old'.size = 0 := by simpa [Array.isEmpty] using hemp
                rw [Array.length_toList, h3] at this
                exact List.isEmpty_iff.2 (List.eq_nil_of_length_eq_zero this.symm)
              have hK : K (.tuple #[.bool false]) h := hn _ (by rw [hemp2]; simp)
              exact ⟨_, .tuple #[.bool false], h, w1, hrun _ (by rw [hcj]; rfl), hK, VR.tuple (c := [.bool false]) (c' := [.bool false]) (.cons (.bool _) .nil), hr1, hk1⟩
            | some e' =>
              have hin : e' ∈ left'.toList := by
                rw [hcand] at hmem
                have : e' ∈ old' ++ new' := by
                  by_cases h1 : old'.isEmpty = true
                  · simp [h1] at hmem; simpa using hmem
                  · simpa [h1] using hmem
                rw [Array.mem_append, ho', hn'] at this
                rcases this with h1 | h1 <;> exact Array.mem_toList_iff.2 (Array.mem_filter.1 h1).1
              obtain ⟨k, hk⟩ := List.mem_iff_getElem?.1 hin
              have hkl : k < (es.filter fun e => !seen.contains e.born).length := by rw [← hleft.length]; exact (List.getElem?_eq_some_iff.1 hk).1
              obtain ⟨e2, he2, hee⟩ := hleft.get (List.getElem?_eq_getElem hkl)
              rw [hk] at he2; cases he2
              obtain ⟨e, hee0⟩ : ∃ e, e = (es.filter fun e => !seen.contains e.born)[k] := ⟨_, rfl⟩
              rw [← hee0] at hee
              have heml : e ∈ es.filter fun e => !seen.contains e.born := by rw [hee0]; exact List.getElem_mem hkl
              have hK : K (.tuple #[.bool true, e.key, e.val]) (h.set i (.mapIter (some r) since (seen ++ [e.born]) clock)) :=
                hn _ (List.mem_append.2 (.inr (List.mem_map.2 ⟨e, heml, rfl⟩)))
              have hlt : p.blk < w1.heap.size := by rw [hw1]; exact (Array.getElem?_eq_some_iff.1 hw).1
              have hmt : (h.get i).mut = true := by rw [hb]; rfl
              have hs2 : SameOut w1 { w1 with heap := w1.heap.setIfInBounds p.blk (.mapIter (some q'.blk) since (seen.toArray.push e'.born) clock) } := ⟨rfl, rfl, rfl⟩
              refine ⟨_, .tuple #[.bool true, e'.key, e'.val], h.set i (.mapIter (some r) since (seen ++ [e.born]) clock), _, hrun _ ?_, hK, ?_, hr1.set hp hmt (o' := .mapIter (some q'.blk) since (seen.toArray.push e'.born) clock) rfl ?_,
                hk1.trans (Keep.set hs2 hp hmt (o' := .mapIter (some q'.blk) since (seen.toArray.push e'.born) clock) rfl)⟩
              · rw [hcj]
                have hso : (setObj p.blk (.mapIter (some q'.blk) since (seen.toArray.push e'.born) clock)).run P w1 = .ok () { w1 with heap := w1.heap.setIfInBounds p.blk (.mapIter (some q'.blk) since (seen.toArray.push e'.born) clock) } := by
                  simp [setObj, Sem.run, hw1, hw]
                simp only [Sem.run_bind, hso, Result.andThen_ok, Sem.run_pure]
              · rw [hee.key]
                exact VR.tuple (c := [.bool true, e.key, e.val]) (c' := [.bool true, e.key, e'.val]) (.cons (.bool _) (.cons (VR.ground_refl 5 _ hee.gr) (.cons hee.val .nil)))
              · refine ⟨p, some q'.blk, rfl, ?_, .map hq', h0⟩
                rw [hee.born]
                simp [hlt]
      · exact hn.elim
    · exact hn.elim
  · exact hn.elim

theorem x_sound {cs : CS Prop} (hcs : ∀ f, SoundF P G f (cs f)) {o : Oper} {op : XOp} (hop : compX P o = some op) {φ : Phi} {h : AH} {a : Act} {w : World} (hr : HR φ h w) (gl : GlobR G φ)
    {ρ : Operand → Option Value} (he : EnvR φ ρ a.eval) {K : Value → AH → Prop} (hs : xrunA AProp P cs ρ h K op) {next : Act → World → Prop} {Q : Exit → Act → World → Prop}
    (hn : ∀ φ' v h' v' w', K v h' → VR φ' v v' → HR φ' h' w' → Keep φ h w φ' h' w' → next (a.put o.dst v') w') : o.wp P a w next Q := by
  cases op with
  | call f args =>
    have hcall : ∃ c, o.op = .call c ∧ c.callee = .value (.func f) ∧ c.args.toList = args ∧ hasBody P f = true := by
      unfold compX at hop
      split at hop
      · rename_i f' args' hca
        cases hb : hasBody P f' with
        | false => rw [hb] at hop; cases hop
        | true =>
          rw [hb] at hop
          cases hop
          unfold callOf at hca
          split at hca
          · rename_i c ho
            split at hca
            · rename_i f2 hcal
              cases hca
              exact ⟨c, ho, hcal, rfl, hb⟩
            · cases hca
          · cases hca
      · split at hop
        · cases hop
        · split at hop
          · obtain ⟨hb, hop2⟩ := condT hop rfl; cases hop2
          · obtain ⟨x, _, hx⟩ := Option.map_eq_some_iff.1 hop; cases hx
    obtain ⟨c, ho, hcal, rfl, hb⟩ := hcall
    simp only [xrunA] at hs
    split at hs
    · rename_i vs hvs
      have hvr := opds_ok he hvs
      have hex := exec_call (e := a.eval) ho hcal rfl hb w
      have hvr' : VRs φ vs (c.args.map a.eval).toList := by rw [Array.toList_map]; exact hvr
      have := hcs f vs h _ hs φ w _ hr gl hvr'
      unfold Oper.wp
      rw [hex]
      refine this.mono ?_
      rintro ee w' ⟨v, v', h', φ', rfl, hK, hv, hr', hk'⟩
      exact hn φ' v h' v' w' hK hv hr' hk'
    · exact hs.elim
  | next it =>
    have hnext : o.op = .next it false := by
      unfold compX at hop
      split at hop
      · rename_i f' args' hca; cases hb : hasBody P f' <;> rw [hb] at hop <;> cases hop
      · split at hop
        · rename_i it' hit
          cases hop
          unfold nextOf at hit
          split at hit
          · cases hit; assumption
          · cases hit
        · split at hop
          · obtain ⟨hb, hop2⟩ := condT hop rfl; cases hop2
          · obtain ⟨x, _, hx⟩ := Option.map_eq_some_iff.1 hop; cases hx
    simp only [xrunA] at hs
    cases hit : ρ it with
    | none => rw [hit] at hs; exact hs.elim
    | some u =>
      rw [hit] at hs
      obtain ⟨v, v', h', w', h1, h2, h3, h4, h5⟩ := next_sound (P := P) hr (he _ _ hit) hs o.type
      have hex : execOp a.eval o = (do pure (.value (← Instr.next (a.eval it) false o.type))) := by unfold execOp; rw [hnext]
      refine So.wp (φ := φ) (h := h) (h' := h') (v := v) ?_ ?_
      · rw [hex]; exact ⟨.value v', v', w', φ, by simp [h1], .inl rfl, h3, h4, h5⟩
      · intro v2 w2 φ2 hv hr' hk'
        exact hn φ2 v h' v2 w2 h2 hv hr' hk'
  | simple op =>
    have hop' : compOp P o = some op ∨ (op = .scal o ∧ ∀ cs b, o.op ≠ .select cs b) := by
      unfold compX at hop
      split at hop
      · rename_i f' args' hca
        cases hb : hasBody P f' with
        | true => rw [hb] at hop; cases hop
        | false =>
          rw [hb] at hop
          cases hop
          refine .inr ⟨rfl, fun cs b h => ?_⟩
          unfold callOf at hca
          rw [h] at hca
          cases hca
      · split at hop
        · cases hop
        · split at hop
          · obtain ⟨hb, hop2⟩ := condT hop rfl; cases hop2
          · obtain ⟨x, hx1, hx⟩ := Option.map_eq_some_iff.1 hop; cases hx; exact .inl hx1
    simp only [xrunA] at hs
    split at hs
    · rename_i v h' hrun
      have hso : So P φ h w (execOp a.eval o) v h' := by
        rcases hop' with hop' | ⟨rfl, hsel⟩
        · exact op_simple he hr hop' hrun
        · exact op_scal he hr hsel hrun
      exact So.wp hso fun v' w' φ' hv hr' hk' => hn φ' v h' v' w' hs hv hr' hk'
    · exact hs.elim
  | defer f args => exact hs.elim

theorem step_sound {n : Nat} {φ0 : Phi} {h0 : AH} {w0 : World} {cs : CS Prop} (hcs : ∀ f, SoundF P G f (cs f)) {ops : Array Oper} {o : Oper} {r : RO} (hc : compRO P n ops o = some r)
    {φ : Phi} {fr : Fr} {h : AH} {a : Act} {w : World} (rel : Rel G n φ0 h0 w0 φ fr h a w) {K : Fr → AH → Prop} (hs : stepA AProp P G cs r fr h K)
    {next : Act → World → Prop} {Q : Exit → Act → World → Prop} (hn : ∀ φ' fr' h' a' w', K fr' h' → Rel G n φ0 h0 w0 φ' fr' h' a' w' → next a' w') :
    if Region.wanted o (yielded ops a.tmps) then o.wp P a w next Q else next (a.put o.dst undef) w := by
  obtain ⟨hop, hdst, hd, hg⟩ := compRO_inv hc
  have he : EnvR φ (opd G fr) a.eval := env_opd rel.gl rel.fm
  have hw : ∀ b, wantedA fr r.guard = some b → Region.wanted o (yielded ops a.tmps) = b := by
    intro b hb
    rcases hg with ⟨h1, h2⟩ | ⟨j, want, s, h1, h2, h3⟩
    · rw [h2] at hb; cases hb; simp [Region.wanted, h1]
    · rw [h3] at hb
      simp only [wantedA, wantedV] at hb
      split at hb
      · rename_i bb hbb
        cases hb
        obtain ⟨v', hv1, hv2⟩ := rel.fm s _ hbb
        cases hv2
        have hy : yielded ops a.tmps j = some bb := by
          simp only [yielded, h2, Option.bind_some, hv1]
        simp only [Region.wanted, h1, hy]
        cases bb <;> cases want <;> rfl
      · rename_i c hbb
        cases hb
        obtain ⟨v', hv1, hv2⟩ := rel.fm s _ hbb
        obtain ⟨c', rfl, _⟩ := hv2.tuple_inv
        have hy : yielded ops a.tmps j = none := by
          simp only [yielded, h2, Option.bind_some, hv1]
        simp only [Region.wanted, h1, hy]
        rfl
      · cases hb
  unfold stepA at hs
  split at hs
  · rename_i hwt
    rw [hw _ hwt]
    simp only [if_true]
    split at hs
    · -- a call that is deferred
      rename_i f args hro
      rw [hro] at hop
      have hcall : ∃ c, o.op = .defer c ∧ c.callee = .value (.func f) ∧ c.args.toList = args ∧ hasBody P f = true := by
        unfold compX at hop
        split at hop
        · rename_i f' args' hca; cases hb : hasBody P f' <;> rw [hb] at hop <;> cases hop
        · split at hop
          · cases hop
          · split at hop
            · rename_i f' args' hca
              obtain ⟨hb, hop2⟩ := condT hop rfl
              cases hop2
              unfold deferOf at hca
              split at hca
              · rename_i c ho
                split at hca
                · rename_i f2 hcal
                  cases hca
                  exact ⟨c, ho, hcal, rfl, hb⟩
                · cases hca
              · cases hca
            · obtain ⟨x, _, hx⟩ := Option.map_eq_some_iff.1 hop; cases hx
      obtain ⟨c, ho, hcal, rfl, hb⟩ := hcall
      split at hs
      · rename_i vs hvs
        have hvr := opds_ok he hvs
        have hvr' : VRs φ vs (c.args.map a.eval).toList := by rw [Array.toList_map]; exact hvr
        have hex : (execOp a.eval o).run P w = .ok (.defer { target := .fn (.func f) #[], args := c.args.map a.eval }) w := by
          have h1 : execOp a.eval o = (do pure (.defer (← resolve a.eval c o.type))) := by unfold execOp; rw [ho]
          rw [h1]
          have h2 : a.eval (.func f) = .func (.func f) #[] #[] := rfl
          simp [resolve, hcal, h2, Deferred.ofValue]
        unfold Oper.wp
        rw [hex]
        refine hn φ _ h _ w hs ⟨rel.hr, rel.gl, ?_, ?_, ?_, rel.kp⟩
        · have := rel.fm.del (a := { a with defers := { target := .fn (.func f) #[], args := c.args.map a.eval } :: a.defers }) o.dst undef
          rw [← hdst] at this ⊢
          exact this
        · rw [size_put]; exact rel.sz
        · rw [defers_put]; exact .cons hvr' rel.ds
      · exact hs.elim
    · rename_i op' hnd
      refine x_sound hcs hop rel.hr rel.gl he hs fun φ' v h' v' w' hK hv hr' hk' => ?_
      exact hn φ' _ h' _ w' hK (by rw [hdst]; exact rel.step hd hr' hk' hv)
  · rename_i hwf
    rw [hw _ hwf]
    simp only [Bool.false_eq_true, if_false]
    exact hn φ _ h _ w hs (by rw [hdst]; exact rel.step hd rel.hr (Keep.refl _ _ _) (VR.tuple (c := []) (c' := []) .nil))
  · exact hs.elim

/-- The operations of a region, in the text's order. -/
theorem ops_sound {n : Nat} {φ0 : Phi} {h0 : AH} {w0 : World} {cs : CS Prop} (hcs : ∀ f, SoundF P G f (cs f)) {ops : Array Oper} {Q : Exit → Act → World → Prop} :
    ∀ (l : List Oper) (k : Nat) (rs : List RO), (∀ j, l[j]? = ops[k + j]?) → compROs P n ops l = some rs → ∀ {φ : Phi} {fr : Fr} {h : AH} {a : Act} {w : World}, Rel G n φ0 h0 w0 φ fr h a w →
      ∀ {K : Fr → AH → Prop}, opsA AProp P G cs rs fr h K → (∀ φ' fr' h' a' w', K fr' h' → Rel G n φ0 h0 w0 φ' fr' h' a' w' → Q .normal a' w') → wpOps P ops Q (List.range' k l.length) a w
  | [], k, rs, _, hc, φ, fr, h, a, w, rel, K, hs, hq => by
    simp [compROs] at hc; subst hc
    exact hq _ _ _ _ _ hs rel
  | o :: l, k, rs, hl, hc, φ, fr, h, a, w, rel, K, hs, hq => by
    simp only [compROs] at hc
    split at hc
    · rename_i r rs' hr hrs
      cases hc
      have h0 : ops[k]? = some o := by have := hl 0; simpa using this.symm
      simp only [List.length_cons, List.range'_succ, wpOps, h0]
      have := step_sound (P := P) (G := G) hcs hr rel hs (next := wpOps P ops Q (List.range' (k + 1) l.length)) (Q := Q)
        (fun φ' fr' h' a' w' hK hrel => ops_sound hcs l (k + 1) rs' (fun j => by have := hl (j + 1); simp at this; rw [this]; congr 1; omega) hrs hrel hK hq)
      by_cases hw : Region.wanted o (yielded ops a.tmps) = true
      · rw [if_pos hw] at this ⊢; exact .inl this
      · rw [if_neg hw] at this ⊢; exact this
    · cases hc

inductive ExR : Ex → Exit → Prop
  | normal : ExR .normal .normal
  | exit (id : Nat) : ExR (.exit id) (.exit id)
  | ret : ExR .ret .ret

/-- What holds behind a piece of code. -/
def Then (G n : Nat) (φ0 : Phi) (h0 : AH) (w0 : World) (K : Ex → Fr → AH → Prop) : Exit → Act → World → Prop := fun e a w =>
  ∃ e' φ fr h, ExR e' e ∧ K e' fr h ∧ Rel G n φ0 h0 w0 φ fr h a w

theorem wp_loop_ix {P : Program} {Q : Exit → Act → World → Prop} {c : Code} (I : Nat → Act → World → Prop)
    (round : ∀ m a w, I m a w → c.wp P (Exit.then (fun a' w' => ∃ m', m' < m ∧ I m' a' w') Q) a w) (m : Nat) {a : Act} {w : World} (h : I m a w) : (Code.loop c).wp P Q a w := by
  intro b k cs
  have key : ∀ n a w, I n a w → ∃ e a' w', Q e a' w' ∧ Arrives P (lone (b.at a (.code c :: .inLoop c :: k)) cs w) b k cs e a' w' := by
    intro n
    induction n using Nat.strongRecOn with
    | _ n ih =>
      intro a w hI
      obtain ⟨e, a₁, w₁, hq, harr⟩ := round n a w hI b (.inLoop c :: k) cs
      cases e with
      | normal =>
        obtain ⟨m', hlt, hI₁⟩ := hq
        obtain ⟨e₂, a₂, w₂, hq₂, harr₂⟩ := ih m' hlt a₁ w₁ hI₁
        exact ⟨e₂, a₂, w₂, hq₂, .of_steps (Steps.trans harr (.one step_inLoop)) harr₂⟩
      | exit id => exact ⟨_, a₁, w₁, hq, .pass (x := .inLoop c) rfl (fun _ _ => .inl (by simp)) harr⟩
      | goto l => exact ⟨_, a₁, w₁, hq, .pass (x := .inLoop c) rfl (fun _ _ => .inl (by simp)) harr⟩
      | ret => exact ⟨_, a₁, w₁, hq, .pass (x := .inLoop c) rfl (fun _ _ => .inl (by simp)) harr⟩
      | panic ch => exact ⟨_, a₁, w₁, hq, .pass (x := .inLoop c) rfl (fun _ _ => .inl (by simp)) harr⟩
      | outgrown => exact ⟨_, a₁, w₁, hq, .pass (x := .inLoop c) rfl (fun _ _ => .inl (by simp)) harr⟩
  obtain ⟨e, a', w', hq, harr⟩ := key m a w h
  exact ⟨e, a', w', hq, .of_steps (.one step_loop) harr⟩

/-- What a run of a region that draws its order must be for. -/
def SoundDraw (P : Program) (G n : Nat) (compDraw : Array Oper → Option DR) (drawA : DR → Fr → AH → (Fr → AH → Prop) → Prop) : Prop :=
  ∀ (id : Nat) (ops : Array Oper) (l : DR), compDraw ops = some l → ∀ {φ0 : Phi} {h0 : AH} {w0 : World} {φ : Phi} {fr : Fr} {h : AH} {a : Act} {w : World},
    Rel G n φ0 h0 w0 φ fr h a w → ∀ {K : Fr → AH → Prop}, drawA l fr h K → ∀ {Q : Exit → Act → World → Prop}, (∀ φ' fr' h' a' w', K fr' h' → Rel G n φ0 h0 w0 φ' fr' h' a' w' → Q .normal a' w') →
      (Code.region id ops true).wp P Q a w

theorem exec_sound {n : Nat} {φ0 : Phi} {h0 : AH} {w0 : World} {cs : CS Prop} (hcs : ∀ f, SoundF P G f (cs f)) {lo : LO Prop}
    (hlo : ∀ body fr h K, lo body fr h K → ∃ m, loopN AProp m body fr h K) {compDraw : Array Oper → Option DR} {drawA : DR → Fr → AH → (Fr → AH → Prop) → Prop} (hdr : SoundDraw P G n compDraw drawA) :
    ∀ (c : Code) (ac : AC), comp P n compDraw c = some ac → ∀ {φ : Phi} {fr : Fr} {h : AH} {a : Act} {w : World}, Rel G n φ0 h0 w0 φ fr h a w →
      ∀ {K : Ex → Fr → AH → Prop}, execA AProp P G cs lo drawA ac fr h K → c.wp P (Then G n φ0 h0 w0 K) a w := by
  intro c
  induction c with
  | skip =>
    intro ac hc φ fr h a w rel K hs
    simp only [comp] at hc; cases hc
    exact wp_skip ⟨.normal, φ, fr, h, .normal, hs, rel⟩
  | region id ops d =>
    intro ac hc φ fr h a w rel K hs
    simp only [comp] at hc
    cases d with
    | true =>
      obtain ⟨l, hl, rfl⟩ := Option.map_eq_some_iff.1 hc
      exact hdr id ops l hl rel hs fun φ' fr' h' a' w' hK hrel => ⟨.normal, φ', fr', h', .normal, hK, hrel⟩
    | false =>
      obtain ⟨l, hl, rfl⟩ := Option.map_eq_some_iff.1 hc
      refine wp_region ?_
      have := ops_sound (P := P) (G := G) hcs (ops := ops) (Q := Then G n φ0 h0 w0 K) ops.toList 0 l (fun j => by simp) hl rel hs
        (fun φ' fr' h' a' w' hK hrel => ⟨.normal, φ', fr', h', .normal, hK, hrel⟩)
      rw [List.range_eq_range']
      simpa using this
  | seq x y ihx ihy =>
    intro ac hc φ fr h a w rel K hs
    simp only [comp] at hc
    split at hc
    · rename_i ax ay hx hy
      cases hc
      refine wp_seq (wp_mono (ihx ax hx rel hs) ?_)
      rintro e a' w' ⟨e', φ', fr', h', he, hK, hrel⟩
      cases he with
      | normal => exact ihy ay hy hrel hK
      | exit id => exact ⟨_, φ', fr', h', .exit id, hK, hrel⟩
      | ret => exact ⟨_, φ', fr', h', .ret, hK, hrel⟩
    · cases hc
  | cond c x y ihx ihy =>
    intro ac hc φ fr h a w rel K hs
    simp only [comp] at hc
    split at hc
    · rename_i ax ay hx hy
      cases hc
      simp only [execA] at hs
      split at hs
      · rename_i t ht
        have hv := env_opd (a := a) rel.gl rel.fm c _ ht
        have hb : a.eval c = .bool t := by generalize a.eval c = q at hv; cases hv; rfl
        refine wp_cond hb ?_
        cases t with
        | true => exact ihx ax hx rel hs
        | false => exact ihy ay hy rel hs
      · exact hs.elim
    · cases hc
  | block id b ih =>
    intro ac hc φ fr h a w rel K hs
    simp only [comp] at hc
    obtain ⟨ab, hb, rfl⟩ := Option.map_eq_some_iff.1 hc
    refine wp_block (wp_mono (ih ab hb rel hs) ?_)
    rintro e a' w' ⟨e', φ', fr', h', he, hK, hrel⟩
    cases he with
    | normal => exact ⟨_, φ', fr', h', .normal, hK, hrel⟩
    | exit i =>
      simp only at hK
      by_cases e : i = id
      · subst e
        simp only [Nat.beq_refl, cond_true] at hK
        simp only [Exit.inBlock, if_true]
        exact ⟨_, φ', fr', h', .normal, hK, hrel⟩
      · have : Nat.beq i id = false := by rw [Bool.eq_false_iff]; intro h; rw [nbeq] at h; exact e h
        simp only [this, cond_false] at hK
        simp only [Exit.inBlock, if_neg e]
        exact ⟨_, φ', fr', h', .exit i, hK, hrel⟩
    | ret => exact ⟨_, φ', fr', h', .ret, hK, hrel⟩
  | loop b ih =>
    intro ac hc φ fr h a w rel K hs
    simp only [comp] at hc
    obtain ⟨ab, hb, rfl⟩ := Option.map_eq_some_iff.1 hc
    simp only [execA] at hs
    obtain ⟨m, hm⟩ := hlo _ _ _ _ hs
    refine wp_loop_ix (fun m a w => ∃ φ fr h, loopN AProp m (execA AProp P G cs lo drawA ab) fr h K ∧ Rel G n φ0 h0 w0 φ fr h a w) ?_ m ⟨φ, fr, h, hm, rel⟩
    rintro m a w ⟨φ, fr, h, hm, rel⟩
    cases m with
    | zero => exact hm.elim
    | succ m =>
      refine wp_mono (ih ab hb rel hm) ?_
      rintro e a' w' ⟨e', φ', fr', h', he, hK, hrel⟩
      cases he with
      | normal => exact ⟨m, Nat.lt_succ_self _, φ', fr', h', hK, hrel⟩
      | exit i => exact ⟨_, φ', fr', h', .exit i, hK, hrel⟩
      | ret => exact ⟨_, φ', fr', h', .ret, hK, hrel⟩
  | exit id =>
    intro ac hc φ fr h a w rel K hs
    simp only [comp] at hc; cases hc
    exact wp_exit ⟨_, φ, fr, h, .exit id, hs, rel⟩
  | ret =>
    intro ac hc φ fr h a w rel K hs
    simp only [comp] at hc; cases hc
    exact wp_ret ⟨_, φ, fr, h, .ret, hs, rel⟩
  | label l =>
    intro ac hc φ fr h a w rel K hs
    simp only [comp] at hc; cases hc
    exact wp_label ⟨_, φ, fr, h, .normal, hs, rel⟩
  | scope b ih =>
    intro ac hc φ fr h a w rel K hs
    simp only [comp] at hc
    refine wp_scope_straight (wp_mono (ih ac hc rel hs) ?_)
    rintro e a' w' ⟨e', φ', fr', h', he, hK, hrel⟩
    cases he with
    | normal => exact ⟨_, φ', fr', h', .normal, hK, hrel⟩
    | exit i => exact ⟨_, φ', fr', h', .exit i, hK, hrel⟩
    | ret => exact ⟨_, φ', fr', h', .ret, hK, hrel⟩
  | _ => intro ac hc; simp [comp] at hc
end Go.Am

/-
  An abstract machine over the model's code, part 12: regions that draw their order: their run, and their plan.
-/
namespace Go.Am
open Go

/-- What a new block's address is handed back as. -/
inductive AKind where
  | ptr
  | slice (len sz : Nat)
def AKind.val (id : Nat) : AKind → Value
  | .ptr => .pointer (some ⟨id, 0, none⟩)
  | .slice len sz => .slice (some ⟨id, 0, none⟩) len sz
def allocOf (ρ : Operand → Option Value) : AOp → Option (AObj × AKind)
  | .new zs => some (.cells false zs, .ptr)
  | .box x => (ρ x).map fun v => (.cells false v.cells.toList, .ptr)
  | .buildSlice sz len zs parts => (fillL ρ zs parts).map fun cs => (.cells false cs, .slice len sz)
  | _ => none

def tmpsOf (l : List Operand) : List Nat := l.filterMap fun | .tmp t => some t | _ => none
def AOp.slots : AOp → List Nat
  | .mv x | .box x | .load _ x | .nilCheck x | .fieldAddr _ x | .field _ _ x | .extract x _ | .lenS x | .range x | .entry x | .bytesOf x | .stringOf x | .makeIface _ x => tmpsOf [x]
  | .pick c a b => tmpsOf [c, a, b]
  | .new _ | .makeMap => []
  | .build _ ps | .buildSlice _ _ _ ps => tmpsOf (ps.map (·.2.2))
  | .store _ a b | .indexAddr _ _ a b | .append _ _ a b | .makeSlice _ _ _ a b | .lookup _ _ a b _ => tmpsOf [a, b]
  | .sliceS _ x lo hi | .sliceA _ _ x lo hi => tmpsOf ([x] ++ lo.toList ++ hi.toList)
  | .scal o => tmpsOf o.op.operands.toList
  | .mapUpdate _ m k x => tmpsOf [m, k, x]
def XOp.slots : XOp → List Nat
  | .simple op => op.slots
  | .call _ args | .defer _ args => tmpsOf args
  | .next it => tmpsOf [it]
def RO.slots (o : RO) : List Nat := o.op.slots ++ (match o.guard with | some (s, _) => [s] | none => [])

/-- It only reckons, or reads. -/
def AOp.isN : AOp → Bool
  | .store .. | .append .. | .mapUpdate .. | .makeMap | .makeSlice .. | .range _ | .bytesOf _ | .new _ | .box _ | .buildSlice .. => false
  | _ => true
def AOp.isA : AOp → Bool
  | .new _ | .box _ | .buildSlice .. => true
  | _ => false
/-- It reads no memory. -/
def AOp.pure : AOp → Bool
  | .load .. | .sliceA .. | .lookup .. | .entry _ | .stringOf _ => false
  | op => op.isN
def XOp.isE : XOp → Bool
  | .simple op => !(op.isN || op.isA)
  | _ => true
def XOp.isA : XOp → Bool
  | .simple op => op.isA
  | _ => false
def XOp.pure : XOp → Bool
  | .simple op => op.pure
  | _ => false

def lookS : List (Nat × Option Nat) → Nat → Option (Option Nat)
  | [], _ => none
  | (s, j) :: l, t => cond (Nat.beq s t) (some j) (lookS l t)
/-- What an operand stands for inside such a region: vs: what its operations have come to. -/
def opdS (G : Nat) (fr : Fr) (vs : Tr Value) (src : List (Nat × Option Nat)) : Operand → Option Value
  | .tmp t => match lookS src t with
    | some (some j) => vs.get j
    | some none => fr.t.get t
    | none => none
  | x => opd G fr x
def wantedS (G : Nat) (fr : Fr) (vs : Tr Value) (r : RD) : Option Bool := match r.o.guard with
  | none => some true
  | some (s, want) => wantedV want (opdS G fr vs r.src (.tmp s))

abbrev Pend := Tr (Nat × AObj)

section
variable {R : Type} (A : Alg R) (P : Program) (G : Nat) (cs : CS R) (d : DR) (fr : Fr)

def levA : List Nat → Tr Value → AH → Pend → (Tr Value → AH → Pend → R) → R
  | [], vs, h, pd, K => K vs h pd
  | i :: l, vs, h, pd, K => match d.ros[i]? with
    | some r => match wantedS G fr vs r with
      | some true => match r.o.op with
        | .simple op => cond op.isA
            (match allocOf (opdS G fr vs r.src) op with
            | some (obj, k) => levA l (vs.set i (k.val h.next)) (h.push .dead) (pd.set i (h.next, obj)) K
            | none => A.bot)
            (match op.run P (opdS G fr vs r.src) h with
            | some (v, _) => levA l (vs.set i v) h pd K
            | none => A.bot)
        | _ => A.bot
      | some false => levA l (vs.set i undef) h pd K
      | none => A.bot
    | none => A.bot

def absA : List Nat → AH → Pend → AH × Pend
  | [], h, pd => (h, pd)
  | i :: l, h, pd => match pd.get i with
    | some (id, obj) => absA l (h.set id obj) (pd.del i)
    | none => absA l h pd

def recA : List Nat → Tr Value → AH → R → R
  | [], _, _, k => k
  | i :: l, vs, h, k => match d.ros[i]? with
    | some r => match wantedS G fr vs r with
      | some true => match r.o.op with
        | .simple op => match op.run P (opdS G fr vs r.src) h, vs.get i with
          | some (v, _), some u => A.eq v u (recA l vs h k)
          | _, _ => A.bot
        | _ => A.bot
      | some false => recA l vs h k
      | none => A.bot
    | none => A.bot

def stgA : List Stage → Tr Value → AH → Pend → (Tr Value → AH → Pend → R) → R
  | [], vs, h, pd, K => K vs h pd
  | s :: ss, vs, h, pd, K => match d.ros[s.e]? with
    | some r => match wantedS G fr vs r with
      | some true => xrunA A P cs (opdS G fr vs r.src) (absA s.ab h pd).1
          (fun v h' => levA A P G d fr s.lev (vs.set s.e v) h' (absA s.ab h pd).2 fun vs h pd => recA A P G d fr s.re vs h (stgA ss vs h pd K)) r.o.op
      | some false => levA A P G d fr s.lev (vs.set s.e undef) (absA s.ab h pd).1 (absA s.ab h pd).2 fun vs h pd => recA A P G d fr s.re vs h (stgA ss vs h pd K)
      | none => A.bot
    | none => A.bot

/-- The frame behind the region. -/
def finA : Nat → List RD → Tr Value → Tr Value → Tr Value
  | _, [], _, t => t
  | i, r :: l, vs, t => match r.o.dst with
    | some s => match vs.get i with
      | some v => finA (i + 1) l vs (t.set s v)
      | none => finA (i + 1) l vs (t.del s)
    | none => finA (i + 1) l vs t

def drawA (fr : Fr) (h : AH) (K : Fr → AH → R) : R :=
  levA A P G d fr d.lev0 .leaf h .leaf fun vs h pd => stgA A P G cs d fr d.stages vs h pd fun vs h pd =>
    K { fr with t := finA 0 d.ros vs fr.t } (absA d.fin h pd).1
end

/-! ### The plan -/
def bits (m : Nat) (i : Nat) : Bool := m.testBit i
def mkDR (ros : List RO) (bf : List Nat) : DR :=
  let idx := List.range ros.length
  let isE (i : Nat) : Bool := (ros[i]?).any (·.op.isE)
  let isA (i : Nat) : Bool := (ros[i]?).any (·.op.isA)
  let isR (i : Nat) : Bool := (ros[i]?).any fun o => !o.op.isE && !o.op.isA && !o.op.pure
  let es := idx.filter isE
  let before (i j : Nat) : Bool := bits (bf.getD j 0) i
  let level (i : Nat) : Nat := (es.filter (before · i)).length
  let lev (k : Nat) : List Nat := idx.filter fun i => !isE i && level i == k
  { ros := ros.zipIdx.map fun (o, i) => ⟨o, o.slots.map fun t => (t, idx.find? fun j => (ros[j]?).any (·.dst == some t) && before j i)⟩, lev0 := lev 0,
    stages := es.zipIdx.map fun (e, k) =>
      let ahead := es.take k
      { ab := idx.filter fun i => isA i && before i e && !ahead.any (before i ·), e, lev := lev (k + 1),
        re := idx.filter fun i => isR i && Nat.ble (level i) k && !(ahead ++ [e]).any (before i ·) },
    fin := idx.filter fun i => isA i && !es.any (before i ·) }

def flat : List Stage → List Nat
  | [] => []
  | s :: ss => s.e :: s.lev ++ flat ss
def nodupB : List Nat → Bool
  | [] => true
  | x :: l => !l.contains x && nodupB l
def writes (ros : List RD) (t : Nat) (j : Nat) : Bool := match ros[j]? with
  | some r => match r.o.dst with
    | some s => Nat.beq s t
    | none => false
  | none => false
/-- Each source is what it is said to be, and stands ahead in the plan. -/
def depsB (ros : List RD) (bf : List Nat) : List Nat → List Nat → Bool
  | _, [] => true
  | ahead, i :: l => (match ros[i]? with
      | some r => r.src.all fun (t, j) => match j with
        | some j => writes ros t j && bits (bf.getD i 0) j && ahead.contains j
        | none => (List.range ros.length).all fun j => !writes ros t j || Nat.beq i j || bits (bf.getD j 0) i
      | none => false) && depsB ros bf (i :: ahead) l
def dstsB (ros : List RD) : Bool := nodupB (ros.filterMap (·.o.dst))
def isEat (ros : List RD) (i : Nat) : Bool := match ros[i]? with
  | some r => r.o.op.isE
  | none => false
def isRat (ros : List RD) (i : Nat) : Bool := match ros[i]? with
  | some r => !r.o.op.isE && !r.o.op.isA && !r.o.op.pure
  | none => false
def stagesB (ros : List RD) (bf : List Nat) : List Nat → List Nat → List Stage → Bool
  | _, _, [] => true
  | es, reads, s :: ss =>
    isEat ros s.e && es.all (bits (bf.getD s.e 0) ·) && s.ab.all (bits (bf.getD s.e 0) ·) &&
    s.lev.all (fun i => !isEat ros i && bits (bf.getD i 0) s.e) &&
    (reads.filter fun r => !bits (bf.getD s.e 0) r).all (s.re.contains ·) &&
    stagesB ros bf (s.e :: es) ((reads.filter fun r => !bits (bf.getD s.e 0) r) ++ s.lev.filter (isRat ros)) ss
def drawOk (bf : List Nat) (d : DR) : Bool :=
  let order := d.lev0 ++ flat d.stages
  Nat.beq order.length d.ros.length && nodupB order && order.all (Nat.blt · d.ros.length) && dstsB d.ros && depsB d.ros bf [] order &&
  d.lev0.all (fun i => !isEat d.ros i) && stagesB d.ros bf [] (d.lev0.filter (isRat d.ros)) d.stages
def acycB : Nat → List Oper → Bool
  | _, [] => true
  | i, o :: l => o.after.toList.all (fun e => !Region.binds .any e || Nat.blt e.on i) && acycB (i + 1) l
def compDraw (P : Program) (n : Nat) (ops : Array Oper) : Option DR :=
  match compROs P n ops ops.toList with
  | some ros => cond (acycB 0 ops.toList && drawOk (Region.before ops).toList (mkDR ros (Region.before ops).toList)) (some (mkDR ros (Region.before ops).toList)) none
  | none => none

/-! ### Functions -/
inductive ARes where
  | tmp (t : Nat)
  | cell (t : Nat) (agg : Option Nat)
structure AF where
  nparams : Nat
  body : AC
  res : List ARes
def compRes (P : Program) : List ResultVar → Option (List ARes)
  | [] => some []
  | .tmp t :: l => (compRes P l).map (.tmp t :: ·)
  | .cell a t :: l => match aggOf P t, compRes P l with
    | some g, some r => some (.cell a g :: r)
    | _, _ => none
def compF (P : Program) (fn : Func) : Option AF :=
  match fn.body with
  | some c => match comp P fn.ntmps (compDraw P fn.ntmps) c, compRes P fn.results.toList with
    | some b, some r => cond (Nat.ble fn.params.size fn.ntmps) (some ⟨fn.params.size, b, r⟩) none
    | _, _ => none
  | none => none
def frameOf : Nat → List Value → Tr Value → Tr Value
  | _, [], t => t
  | i, v :: l, t => frameOf (i + 1) l (t.set i v)
def resA (fr : Fr) (h : AH) : List ARes → Option (List Value)
  | [] => some []
  | .tmp t :: l => match fr.t.get t, resA fr h l with
    | some v, some r => some (v :: r)
    | _, _ => none
  | .cell t agg :: l => match fr.t.get t with
    | some a => match cellsAt h a, resA fr h l with
      | some (_, o, _, c), some r => match agg with
        | none => (c[o]?).map (· :: r)
        | some n => cond (Nat.ble (o + n) c.length) (some (.agg ((c.drop o).take n).toArray :: r)) none
      | _, _ => none
    | none => none
def oneOf : List Value → Value
  | [v] => v
  | vs => .tuple vs.toArray
/-- The calls that were deferred, the last one first. -/
def defersA {R : Type} (A : Alg R) (cs : CS R) : List (FuncId × List Value) → AH → (AH → R) → R
  | [], h, K => K h
  | (f, vs) :: l, h, K => cs f vs h fun _ h => defersA A cs l h K
def callA {R : Type} (A : Alg R) (P : Program) (G : Nat) (cs csd : CS R) (lo : LO R) (f : AF) (args : List Value) (h : AH) (K : Value → AH → R) : R :=
  execA A P G cs lo (fun d => drawA A P G cs d) f.body ⟨frameOf 0 args .leaf, []⟩ h fun e fr h => match e with
    | .exit _ => A.bot
    | _ => defersA A csd fr.d h fun h => match resA fr h f.res with
      | some vs => K (oneOf vs) h
      | none => A.bot
end Go.Am

/-
  An abstract machine over the model's code, part 13: what stands ahead of what in a region that draws its order.
-/
namespace Go.Am
open Go
variable {P : Program} {G : Nat}

theorem foldl_push {α β : Type} (f : Array β → α → β) : ∀ (l : List α) (acc : Array β),
    (∀ i, i < acc.size → (l.foldl (fun acc o => acc.push (f acc o)) acc)[i]? = acc[i]?) ∧
    ∀ k o, l[k]? = some o → ∃ acc' : Array β, acc'.size = acc.size + k ∧ (∀ i, i < acc'.size → acc'[i]? = (l.foldl (fun acc o => acc.push (f acc o)) acc)[i]?) ∧
      (l.foldl (fun acc o => acc.push (f acc o)) acc)[acc.size + k]? = some (f acc' o)
  | [], acc => ⟨fun _ _ => rfl, fun k o h => by simp at h⟩
  | x :: l, acc => by
    obtain ⟨h1, h2⟩ := foldl_push f l (acc.push (f acc x))
    simp only [List.foldl_cons]
    refine ⟨fun i hi => ?_, fun k o hk => ?_⟩
    · rw [h1 i (by simp; omega), Array.getElem?_push, if_neg (by omega)]
    · cases k with
      | zero =>
        simp at hk; subst hk
        refine ⟨acc, rfl, fun i hi => ?_, ?_⟩
        · rw [h1 i (by simp; omega), Array.getElem?_push, if_neg (by omega)]
        · rw [Nat.add_zero, h1 acc.size (by simp), Array.getElem?_push, if_pos rfl]
      | succ k =>
        obtain ⟨acc', h3, h4, h5⟩ := h2 k o (by simpa using hk)
        simp only [Array.size_push] at h3 h5
        exact ⟨acc', by omega, h4, by rw [show acc.size + (k + 1) = acc.size + 1 + k by omega]; exact h5⟩

theorem fold_bits (acc : Array Nat) (i : Nat) : ∀ (es : List Edge) (s : Nat),
    (es.foldl (fun s e => if Region.binds .any e then s ||| 2 ^ e.on ||| acc.getD e.on 0 else s) s).testBit i = true →
      s.testBit i = true ∨ ∃ e ∈ es, Region.binds .any e = true ∧ (i = e.on ∨ (acc.getD e.on 0).testBit i = true)
  | [], s, h => .inl h
  | e :: es, s, h => by
    simp only [List.foldl_cons] at h
    rcases fold_bits acc i es _ h with h1 | ⟨e', he', h1⟩
    · split at h1
      · rename_i hb
        simp only [Nat.testBit_or, Bool.or_eq_true, Nat.testBit_two_pow, decide_eq_true_eq] at h1
        rcases h1 with (h1 | h1) | h1
        · exact .inl h1
        · exact .inr ⟨e, by simp, hb, .inl h1.symm⟩
        · exact .inr ⟨e, by simp, hb, .inr h1⟩
      · exact .inl h1
    · exact .inr ⟨e', by simp [he'], h1⟩

theorem before_spec {ops : Array Oper} {j : Nat} {o : Oper} (ho : ops[j]? = some o) {i : Nat} (h : bits ((Region.before ops).toList.getD j 0) i = true) :
    ∃ e ∈ o.after.toList, Region.binds .any e = true ∧ (i = e.on ∨ (e.on < j ∧ bits ((Region.before ops).toList.getD e.on 0) i = true)) := by
  have hb : Region.before ops = ops.toList.foldl (fun acc o => acc.push (o.after.toList.foldl (fun s e => if Region.binds .any e then s ||| 2 ^ e.on ||| acc.getD e.on 0 else s) 0)) #[] := by
    unfold Region.before
    rw [← Array.foldl_toList]
    congr 1
    funext acc o
    rw [Array.foldl_toList]
  obtain ⟨_, h2⟩ := foldl_push (fun (acc : Array Nat) (o : Oper) => o.after.toList.foldl (fun s e => if Region.binds .any e then s ||| 2 ^ e.on ||| acc.getD e.on 0 else s) 0) ops.toList #[]
  obtain ⟨acc', h3, h4, h5⟩ := h2 j o (by simpa using ho)
  rw [← hb] at h4 h5
  simp only [Array.size_empty, Nat.zero_add] at h3 h5
  have hget : (Region.before ops).toList.getD j 0 = o.after.toList.foldl (fun s e => if Region.binds .any e then s ||| 2 ^ e.on ||| acc'.getD e.on 0 else s) 0 := by
    rw [List.getD_eq_getElem?_getD, Array.getElem?_toList, h5]; rfl
  rw [hget] at h
  rcases fold_bits acc' i _ 0 h with h6 | ⟨e, he, hbn, h6⟩
  · simp at h6
  · refine ⟨e, he, hbn, ?_⟩
    rcases h6 with h6 | h6
    · exact .inl h6
    · refine .inr ?_
      by_cases hlt : e.on < acc'.size
      · refine ⟨by omega, ?_⟩
        have := h4 e.on hlt
        unfold bits
        rw [List.getD_eq_getElem?_getD, Array.getElem?_toList, ← this]
        rw [Array.getD_eq_getD_getElem?] at h6
        exact h6
      · rw [Array.getD_eq_getD_getElem?, Array.getElem?_eq_none (by omega)] at h6
        simp at h6

abbrev Dn (listed : Array Bool) (j : Nat) : Prop := listed.getD j false = true
/-- What is done has behind it all that stands ahead of it. -/
def Closed (ops : Array Oper) (listed : Array Bool) : Prop := ∀ j o, ops[j]? = some o → Dn listed j → ∀ e ∈ o.after.toList, Region.binds .any e = true → Dn listed e.on
theorem before_done {ops : Array Oper} {listed : Array Bool} (hc : Closed ops listed) : ∀ (j : Nat) (o : Oper), ops[j]? = some o → (∀ e ∈ o.after.toList, Region.binds .any e = true → Dn listed e.on) →
    ∀ i, bits ((Region.before ops).toList.getD j 0) i = true → Dn listed i := by
  intro j
  induction j using Nat.strongRecOn with
  | _ j ih =>
    intro o ho hr i hi
    obtain ⟨e, he, hb, h1⟩ := before_spec ho hi
    have hd := hr e he hb
    rcases h1 with rfl | ⟨hlt, h1⟩
    · exact hd
    · cases hoe : ops[e.on]? with
      | some o' => exact ih e.on hlt o' hoe (hc e.on o' hoe hd) i h1
      | none =>
        -- there is no such operation: nothing stands ahead of it
        have hsz : (Region.before ops).toList.length = ops.size := by
          have hb : Region.before ops = ops.toList.foldl (fun acc o => acc.push (o.after.toList.foldl (fun s e => if Region.binds .any e then s ||| 2 ^ e.on ||| acc.getD e.on 0 else s) 0)) #[] := by
            unfold Region.before
            rw [← Array.foldl_toList]
            congr 1
            funext acc o
            rw [Array.foldl_toList]
          have gen : ∀ (l : List Oper) (acc : Array Nat), (l.foldl (fun acc o => acc.push (o.after.toList.foldl (fun s e => if Region.binds .any e then s ||| 2 ^ e.on ||| acc.getD e.on 0 else s) 0)) acc).size = acc.size + l.length := by
            intro l
            induction l with
            | nil => intro acc; simp
            | cons x l ih => intro acc; simp only [List.foldl_cons, List.length_cons]; rw [ih]; simp; omega
          rw [Array.length_toList, hb, gen]; simp
        rw [Array.getElem?_eq_none_iff] at hoe
        rw [List.getD_eq_getElem?_getD, List.getElem?_eq_none (by omega)] at h1
        simp [bits] at h1
theorem ready_iff {ops : Array Oper} {listed : Array Bool} {i : Nat} (h : i ∈ Region.ready .any ops listed) :
    ∃ o, ops[i]? = some o ∧ listed.getD i true = false ∧ ∀ e ∈ o.after.toList, Region.binds .any e = true → Dn listed e.on := by
  unfold Region.ready at h
  rw [List.mem_filter] at h
  obtain ⟨h1, h2⟩ := h
  cases ho : ops[i]? with
  | none => rw [ho] at h2; simp at h2
  | some o =>
    rw [ho] at h2
    simp only [Option.map_some, Option.getD_some, Bool.and_eq_true, Bool.not_eq_true'] at h2
    refine ⟨o, rfl, h2.1, fun e he hb => ?_⟩
    have := h2.2
    rw [Array.all_eq_true_iff_forall_mem] at this
    have := this e (Array.mem_toList_iff.1 he)
    rw [hb, Bool.not_true, Bool.false_or] at this
    exact this

theorem acyc_inv : ∀ (l : List Oper) (k : Nat), acycB k l = true → ∀ j o, l[j]? = some o → ∀ e ∈ o.after.toList, Region.binds .any e = true → e.on < k + j
  | [], _, _, j, o, h => by simp at h
  | x :: l, k, h, j, o, ho => by
    simp only [acycB, Bool.and_eq_true] at h
    cases j with
    | zero =>
      simp at ho; subst ho
      intro e he hb
      have := List.all_eq_true.1 h.1 e he
      simp only [hb, Bool.not_true, Bool.false_or] at this
      simpa [nblt] using this
    | succ j =>
      intro e he hb
      have := acyc_inv l (k + 1) h.2 j o (by simpa using ho) e he hb
      omega

/-- Where nothing can be done all is done. -/
theorem all_done {ops : Array Oper} (hac : acycB 0 ops.toList = true) {listed : Array Bool} (hsz : listed.size = ops.size) (hr : Region.ready .any ops listed = []) : ∀ i, i < ops.size → Dn listed i := by
  intro i
  induction i using Nat.strongRecOn with
  | _ i ih =>
    intro hi
    cases hd : listed.getD i false with
    | true => exact hd
    | false =>
      exfalso
      have hmem : i ∈ Region.ready .any ops listed := by
        unfold Region.ready
        rw [List.mem_filter]
        refine ⟨by simpa using hi, ?_⟩
        have ho : ops[i]? = some ops[i] := by simp [hi]
        have hdt : listed.getD i true = false := by
          rw [Array.getD_eq_getD_getElem?] at hd ⊢
          have : i < listed.size := by omega
          simp [this] at hd ⊢; exact hd
        rw [ho, hdt]
        simp only [Bool.not_false, Option.map_some, Option.getD_some, Bool.true_and]
        rw [Array.all_eq_true_iff_forall_mem]
        intro e he
        cases hb : Region.binds .any e with
        | false => rfl
        | true =>
          have hlt := acyc_inv _ 0 hac i ops[i] (by simp [hi]) e (Array.mem_toList_iff.2 he) hb
          simp only [Bool.not_true, Bool.false_or]
          exact ih e.on (by omega) (by omega)
      rw [hr] at hmem
      cases hmem
end Go.Am

/-
  An abstract machine over the model's code, part 14: operations that only reckon, and operations that only make a block.
-/
namespace Go.Am
open Go
variable {P : Program} {G : Nat}

theorem map_pair {α : Type} {x : Option α} {f : α → Value} {h h1 : AH} {v : Value} (e : (x.map fun a => (f a, h)) = some (v, h1)) : h1 = h := by
  obtain ⟨a, _, ha⟩ := Option.map_eq_some_iff.1 e
  cases ha; rfl
theorem run_N {op : AOp} (hn : op.isN = true) {ρ : Operand → Option Value} {h h1 : AH} {v : Value} (hr : op.run P ρ h = some (v, h1)) : h1 = h := by
  cases op with
  | mv x => exact map_pair hr
  | build zs ps => exact map_pair hr
  | makeIface t x => exact map_pair hr
  | pick c a b =>
    simp only [AOp.run] at hr
    split at hr
    · exact map_pair hr
    · cases hr
  | load g a =>
    simp only [AOp.run] at hr
    split at hr
    · split at hr
      · split at hr
        · exact map_pair (f := fun v => v) hr
        · obtain ⟨_, h2⟩ := condT hr rfl; exact (someT h2).2
      · cases hr
    · cases hr
  | nilCheck x =>
    simp only [AOp.run] at hr
    split at hr
    · exact (someT hr).2
    · cases hr
  | fieldAddr o x =>
    simp only [AOp.run] at hr
    split at hr
    · exact (someT hr).2
    · cases hr
  | indexAddr arr sz x i =>
    cases arr <;> simp only [AOp.run] at hr <;> split at hr <;> first | (obtain ⟨_, h2⟩ := condT hr rfl; exact (someT h2).2) | cases hr
  | field g o x =>
    simp only [AOp.run] at hr
    split at hr
    · split at hr
      · exact map_pair (f := fun v => v) hr
      · exact (someT hr).2
    · cases hr
  | extract x i =>
    simp only [AOp.run] at hr
    split at hr
    · exact map_pair (f := fun v => v) hr
    · cases hr
  | sliceS sz x lo hi =>
    simp only [AOp.run] at hr
    split at hr
    · split at hr
      · obtain ⟨_, h2⟩ := condT hr rfl
        split at h2
        · exact (someT h2).2
        · obtain ⟨_, h3⟩ := condT h2 rfl; exact (someT h3).2
        · cases h2
      · cases hr
    · cases hr
  | sliceA n sz x lo hi =>
    simp only [AOp.run] at hr
    split at hr
    · split at hr
      · split at hr
        · obtain ⟨_, h2⟩ := condT hr rfl; exact (someT h2).2
        · cases hr
      · cases hr
    · cases hr
  | scal o =>
    simp only [AOp.run] at hr
    obtain ⟨_, h2⟩ := condT hr rfl
    split at h2
    · obtain ⟨_, h3⟩ := condT h2 rfl; exact (someT h3).2
    · cases h2
  | lenS x =>
    simp only [AOp.run] at hr
    split at hr
    · exact (someT hr).2
    · cases hr
  | lookup kt z m k ok =>
    simp only [AOp.run] at hr
    split at hr
    · split at hr
      · obtain ⟨_, h2⟩ := condT hr rfl
        split at h2
        · split at h2
          · exact (someT h2).2
          · cases h2
        · exact (someT h2).2
        · cases h2
      · cases hr
    · cases hr
  | entry it =>
    simp only [AOp.run] at hr
    split at hr
    · split at hr
      · split at hr
        · obtain ⟨_, h2⟩ := condT hr rfl
          split at h2
          · exact (someT h2).2
          · cases h2
        · cases hr
      · cases hr
    · cases hr
  | stringOf x =>
    simp only [AOp.run] at hr
    split at hr
    · split at hr
      · obtain ⟨_, h2⟩ := condT hr rfl; exact (someT h2).2
      · cases hr
    · cases hr
  | _ => simp [AOp.isN] at hn

theorem map_any {α : Type} {x : Option α} {f : α → Value} {h h1 : AH} {v : Value} (e : (x.map fun a => (f a, h)) = some (v, h1)) (h2 : AH) : (x.map fun a => (f a, h2)) = some (v, h2) := by
  obtain ⟨a, ha, hb⟩ := Option.map_eq_some_iff.1 e
  cases hb; rw [ha]; rfl
theorem run_pure {op : AOp} (hn : op.pure = true) {ρ : Operand → Option Value} {h h1 : AH} {v : Value} (hr : op.run P ρ h = some (v, h1)) (h2 : AH) : op.run P ρ h2 = some (v, h2) := by
  cases op with
  | mv x => exact map_any hr h2
  | build zs ps => exact map_any hr h2
  | makeIface t x => exact map_any hr h2
  | pick c a b =>
    simp only [AOp.run] at hr ⊢
    split at hr
    · exact map_any (f := fun v => v) hr h2
    · cases hr
  | nilCheck x =>
    simp only [AOp.run] at hr ⊢
    split at hr
    · cases hr; rfl
    · cases hr
  | fieldAddr o x =>
    simp only [AOp.run] at hr ⊢
    split at hr
    · cases hr; rfl
    · cases hr
  | indexAddr arr sz x i =>
    cases arr <;> simp only [AOp.run] at hr ⊢ <;> split at hr <;> first | (obtain ⟨hb, h3⟩ := condT hr rfl; rw [hb]; cases h3; rfl) | cases hr
  | field g o x =>
    simp only [AOp.run] at hr ⊢
    split at hr
    · split at hr
      · exact map_any (f := fun v => v) hr h2
      · cases hr; rfl
    · cases hr
  | extract x i =>
    simp only [AOp.run] at hr ⊢
    split at hr
    · exact map_any (f := fun v => v) hr h2
    · cases hr
  | sliceS sz x lo hi =>
    simp only [AOp.run] at hr ⊢
    split at hr
    · split at hr
      · obtain ⟨hb, h3⟩ := condT hr rfl
        rw [hb]
        simp only [cond_true]
        split at h3
        · cases h3; rfl
        · obtain ⟨hz, h4⟩ := condT h3 rfl; rw [hz]; cases h4; rfl
        · cases h3
      · cases hr
    · cases hr
  | scal o =>
    simp only [AOp.run] at hr ⊢
    obtain ⟨hb, h3⟩ := condT hr rfl
    rw [hb]
    simp only [cond_true]
    split at h3
    · obtain ⟨hg, h4⟩ := condT h3 rfl; rw [hg]; cases h4; rfl
    · cases h3
  | lenS x =>
    simp only [AOp.run] at hr ⊢
    split at hr
    · cases hr; rfl
    · cases hr
  | _ => simp [AOp.pure, AOp.isN] at hn

/-- A block alone is made. -/
def Makes (P : Program) (φ : Phi) (w : World) (s : Sem Next) (obj : AObj) (k : AKind) : Prop :=
  ∃ v' w' ob' ext, s.run P w = .ok (.value v') w' ∧ w'.heap = w.heap.push ob' ∧ SameOut w w' ∧
    (∀ ψ, φ.le ψ → ObjOk ψ (some ⟨w.heap.size, 0, ext⟩) w'.heap obj) ∧ ∀ ψ id, ψ id = some ⟨w.heap.size, 0, ext⟩ → VR ψ (k.val id) v'

theorem row_ok {φ : Phi} {heap : Array Obj} {elem : TypeId} {c c' : List Value} (hc : VRs φ c c') {ψ : Phi} (hle : φ.le ψ) :
    ObjOk ψ (some ⟨heap.size, 0, c'.length⟩) (heap.push (.cells c'.toArray elem)) (.cells false c) := by
  refine ⟨_, c'.toArray, elem, (0, 0), rfl, by simp, by simp, by simp [hc.length], fun _ => soft_zero _ _, fun i v hv => ?_⟩
  obtain ⟨v', ha, hv'⟩ := (hc.mono hle).get hv
  exact ⟨v', by simpa using ha, hv'⟩

theorem makes_var {φ : Phi} {w : World} (elem : TypeId) {v : Value} {zs : List Value} (hz : VRs φ zs v.cells.toList) {s : Sem Value} (hs : s.run P w = (newVar elem v >>= fun a => pure (.pointer (some a)) : Sem Value).run P w) :
    Makes P φ w (do pure (.value (← s))) (.cells false zs) .ptr := by
  refine ⟨.pointer (some ⟨w.heap.size, 0, none⟩), { w with heap := w.heap.push (.cells v.cells elem) }, .cells v.cells elem, v.cells.toList.length, ?_, rfl, ⟨rfl, rfl, rfl⟩, fun ψ hle => ?_, fun ψ id hid => ?_⟩
  · simp [hs, newVar, newRow]
  · have := row_ok (heap := w.heap) (elem := elem) hz hle
    simpa using this
  · exact VR.ptr hid

theorem alloc_conc {o : Oper} {op : AOp} (hc : compOp P o = some op) (ha : op.isA = true) {φ : Phi} {ρ : Operand → Option Value} {e : Operand → Value} (he : EnvR φ ρ e) {obj : AObj} {k : AKind}
    (hal : allocOf ρ op = some (obj, k)) (w : World) : Makes P φ w (execOp e o) obj k := by
  cases ho : o.op with
  | alloc t =>
    simp only [compOp, ho, Option.map_eq_some_iff] at hc
    obtain ⟨z, hz, rfl⟩ := hc
    obtain ⟨i, hi, hz1, hz2, hz3, hz4, hz5⟩ := zeroOf_inv (z := z.1) (n := z.2.1) (b := z.2.2) hz
    simp only [allocOf, Option.some.injEq, Prod.mk.injEq] at hal
    obtain ⟨rfl, rfl⟩ := hal
    have hex : execOp e o = (do pure (.value (← Instr.alloc t true (.tuple #[])))) := by unfold execOp; rw [ho]
    rw [hex]
    exact makes_var t (ground_all hz4) (by simp only [Instr.alloc, Sem.run_bind, run_zeroOf hi hz1, Result.andThen_ok])
  | box t x =>
    simp only [compOp, ho] at hc; cases hc
    simp only [allocOf, Option.map_eq_some_iff, Prod.mk.injEq] at hal
    obtain ⟨u, hu, rfl, rfl⟩ := hal
    have hex : execOp e o = (do pure (.value (← Instr.box t (e x)))) := by unfold execOp; rw [ho]
    rw [hex]
    exact makes_var t (he _ _ hu).cells rfl
  | buildSlice t len parts =>
    have hex : execOp e o = (do pure (.value (← Instr.buildSlice t len (parts.map fun (i, x) => (i, e x))))) := by unfold execOp; rw [ho]
    rw [hex]
    have hpl : (parts.map fun (i, x) => (i, e x)).toList = parts.toList.map fun p => (p.1, e p.2) := by simp
    simp only [compOp, ho] at hc
    split at hc
    · rename_i el hu
      split at hc
      · rename_i z size b hz
        obtain ⟨i, hi, hz1, rfl, hz3, hz4, hz5⟩ := zeroOf_inv hz
        obtain ⟨hble, hc⟩ := condT hc rfl
        simp only [Nat.ble_eq] at hble
        cases hc
        simp only [allocOf, Option.map_eq_some_iff, Prod.mk.injEq] at hal
        obtain ⟨cs, hcs, rfl, rfl⟩ := hal
        have hg : ((List.replicate len z.cells.toList).flatten).all ground = true := by
          rw [List.all_eq_true] at hz4 ⊢
          intro v hv
          obtain ⟨l, hl, hv⟩ := List.mem_flatten.1 hv
          rw [(List.mem_replicate.1 hl).2] at hv
          exact hz4 v hv
        obtain ⟨r', hr', hrr⟩ := fill_ok he (fun j => some (j * i.size, i.size)) parts.toList _ _ _ cs (ground_all (φ := φ) hg) (by simp) hcs
        have hlen : ∀ (qs : List (Nat × Nat × Operand)) (c r : List Value), fillL ρ c qs = some r → r.length = c.length := by
          intro qs
          induction qs with
          | nil => intro c r h; simp [fillL] at h; subst h; rfl
          | cons q qs ih =>
            intro c r h
            obtain ⟨off, size, y⟩ := q
            simp only [fillL] at h
            split at h
            · rename_i v hv
              obtain ⟨hb, h⟩ := condT h rfl
              simp only [Bool.and_eq_true, nbeq, Nat.ble_eq] at hb
              rw [ih _ _ h]
              simp only [List.length_append, List.length_take, List.length_drop, Array.length_toList]
              omega
            · cases h
        have hcl : cs.length = len * i.size := by rw [hlen _ _ _ hcs]; simp [hz5]
        refine ⟨.slice (some ⟨w.heap.size, 0, none⟩) len len, { w with heap := w.heap.push (.cells r'.toArray el) }, .cells r'.toArray el, r'.length, ?_, rfl, ⟨rfl, rfl, rfl⟩, fun ψ hle => row_ok hrr hle, fun ψ id hid => ?_⟩
        · have hn : ¬ (len * i.size > 2 ^ 24) := by omega
          have hfl : Instr.fill (fun j => some (j * i.size, i.size)) ((List.replicate len z.cells.toList).flatten).toArray (parts.toList.map fun p => (p.1, e p.2)) = some r'.toArray := by simpa using hr'
          by_cases h0 : len * i.size = 0
          · have hcells : (Array.range (len * i.size)).map (fun j => (#[] : Array Value)[j % (#[] : Array Value).size]!) = ((List.replicate len z.cells.toList).flatten).toArray := by
              have : ((List.replicate len z.cells.toList).flatten) = [] := List.eq_nil_of_length_eq_zero (by simp [hz5]; simpa using h0)
              rw [this, h0]; simp
            simp only [Instr.buildSlice, Sem.run_bind, run_underlying hu, Result.andThen_ok, run_sizeOf' hi, hn, if_false]
            rw [if_pos h0]
            simp only [Sem.run_bind, Sem.run_pure, Result.andThen_ok, hcells, hpl, hfl]
            rfl
          · have hcells : (Array.range (len * i.size)).map (fun j => z.cells[j % z.cells.size]!) = ((List.replicate len z.cells.toList).flatten).toArray := by
              rw [← hz5]; exact made_flat _ _
            simp only [Instr.buildSlice, Sem.run_bind, run_underlying hu, Result.andThen_ok, run_sizeOf' hi, hn, if_false]
            rw [if_neg h0]
            simp only [Sem.run_bind, run_zeroOf hi hz1, Sem.run_pure, Result.andThen_ok, hcells, hpl, hfl]
            rfl
        · refine VR.slice (SliceR.some (o := 0) (p := ⟨w.heap.size, 0, _⟩) hid (Nat.le_refl _) ?_)
          simp [hrr.length, hcl]
      · cases hc
    · cases hc
  | _ =>
    exfalso
    have : op.isA = false := by
      simp only [compOp, ho] at hc
      try unfold compCall at hc
      (repeat' (split at hc)) <;> first
        | contradiction
        | (cases hc; done)
        | (cases hc; rfl)
        | (obtain ⟨_, hc2⟩ := condT hc rfl; cases hc2; rfl)
        | (obtain ⟨_, _, hx⟩ := Option.map_eq_some_iff.1 hc; cases hx; rfl)
        | (obtain ⟨_, hc2⟩ := condT hc rfl; (repeat' (split at hc2)) <;> first | (cases hc2; done) | (cases hc2; rfl))
        | (rename_i iq hiq; cases hq : Nat.beq iq.size 0 <;> rw [hq] at hc <;> first | (cases hc; done) | (cases hc; rfl))
    rw [this] at ha; cases ha
end Go.Am

/-
  An abstract machine over the model's code, part 15: the state inside a region that draws its order.
-/
namespace Go.Am
open Go
variable {P : Program} {G : Nat}

/-! ### More memory changes no reading -/
def More (h h2 : AH) : Prop := ∀ b, h.get b ≠ .dead → h2.get b = h.get b
theorem More.cellsAt {h h2 : AH} (m : More h h2) {v : Value} {x : Nat × Nat × Bool × List Value} (e : cellsAt h v = some x) : cellsAt h2 v = some x := by
  obtain ⟨b, o, ro, c⟩ := x
  obtain ⟨rfl, hb⟩ := cellsAt_inv e
  have : h2.get b = .cells ro c := by rw [m b (by rw [hb]; simp), hb]
  simp [Am.cellsAt, this]
theorem More.segOf {h h2 : AH} (m : More h h2) {sz : Nat} {v : Value} {x : Nat × List Value} (e : segOf h sz v = some x) : segOf h2 sz v = some x := by
  unfold Am.segOf at e ⊢
  split at e
  · exact e
  · rename_i b o n z
    cases hn : Nat.beq n 0 with
    | true => rw [hn] at e; simpa [hn] using e
    | false =>
      rw [hn] at e
      simp only [cond_false] at e
      obtain ⟨hz, e⟩ := condT e rfl
      simp only [cond_false, hz, cond_true]
      split at e
      · rename_i ro c hb
        rw [m b (by rw [hb]; simp), hb]; exact e
      · cases e
  · cases e
theorem run_more {op : AOp} (hn : op.isN = true) {ρ : Operand → Option Value} {h h1 h2 : AH} {v : Value} (hr : op.run P ρ h = some (v, h1)) (m : More h h2) : op.run P ρ h2 = some (v, h2) := by
  by_cases hp : op.pure = true
  · exact run_pure hp hr h2
  · cases op with
    | load g a =>
      simp only [AOp.run] at hr ⊢
      split at hr
      · split at hr
        · rename_i hc
          rw [m.cellsAt hc]
          simp only
          split at hr
          · exact map_any (f := fun v => v) hr h2
          · obtain ⟨hb, h3⟩ := condT hr rfl; rw [hb]; cases h3; rfl
        · cases hr
      · cases hr
    | sliceA n sz x lo hi =>
      simp only [AOp.run] at hr ⊢
      split at hr
      · split at hr
        · rename_i hc
          rw [m.cellsAt hc]
          simp only
          split at hr
          · obtain ⟨hb, h3⟩ := condT hr rfl; rw [hb]; cases h3; rfl
          · cases hr
        · cases hr
      · cases hr
    | lookup kt z mm k ok =>
      simp only [AOp.run] at hr ⊢
      split at hr
      · rename_i r kv _ _
        split at hr
        · rename_i es clock hb
          rw [m r (by rw [hb]; simp), hb]
          simp only
          obtain ⟨hg, h3⟩ := condT hr rfl
          rw [hg]
          simp only [cond_true]
          split at h3
          · split at h3
            · cases h3; rfl
            · cases h3
          · cases h3; rfl
          · cases h3
        · cases hr
      · cases hr
    | entry it =>
      simp only [AOp.run] at hr ⊢
      split at hr
      · rename_i i _
        split at hr
        · rename_i r since seen stepped hb
          rw [m i (by rw [hb]; simp), hb]
          simp only
          split at hr
          · rename_i es clock stamp hm hs
            rw [m r (by rw [hm]; simp), hm, hs]
            simp only
            obtain ⟨hc, h3⟩ := condT hr rfl
            rw [hc]
            simp only [cond_true]
            split at h3
            · cases h3; rfl
            · cases h3
          · cases hr
        · cases hr
      · cases hr
    | stringOf x =>
      simp only [AOp.run] at hr ⊢
      split at hr
      · split at hr
        · rename_i hc
          rw [m.segOf hc]
          simp only
          obtain ⟨hb, h3⟩ := condT hr rfl; rw [hb]; cases h3; rfl
        · cases hr
      · cases hr
    | _ => first | (exact absurd rfl hp) | (exact absurd hn (by simp [AOp.isN]))
theorem More.refl (h : AH) : More h h := fun _ _ => rfl
theorem More.push_dead (h : AH) : More h (h.push .dead) := fun b hb => by
  rw [AH.get_push]
  split
  · rename_i e; subst e; exact absurd (h.get_ge (Nat.le_refl _)) hb
  · rfl
theorem More.set {h : AH} {id : Nat} (hd : h.get id = .dead) (hlt : id < h.next) (o : AObj) : More h (h.set id o) := fun b hb => by
  rw [AH.get_set _ _ _ _ hlt]
  split
  · rename_i e; subst e; exact absurd hd hb
  · rfl

/-! ### A block that was made ahead is laid down -/
theorem HR.absorb {φ : Phi} {h : AH} {w : World} (hr : HR φ h w) {id : Nat} {p : Pl} {o : AObj} (hlt : id < h.next) (hp : φ id = some p) (ho : ObjOk φ (some p) w.heap o)
    (hno : ∀ b q, b ≠ id → φ b = some q → (h.get b).live = true → q.blk ≠ p.blk) : HR φ (h.set id o) w := by
  refine ⟨fun c hc => hr.fresh c hc, hr.low, fun c => ?_, fun c c' q q' hne hq hq' hlc hlc' hmc => ?_⟩
  · rw [AH.get_set _ _ _ _ hlt]
    by_cases e : c = id
    · subst e; rw [if_pos rfl, hp]; exact ho
    · rw [if_neg e]; exact hr.obj c
  · rw [AH.get_set _ _ _ _ hlt] at hlc hlc' hmc
    by_cases e : c = id
    · subst e
      rw [if_neg (Ne.symm hne)] at hlc'
      rw [hp] at hq; cases hq
      exact (hno c' q' (Ne.symm hne) hq' hlc').symm
    · rw [if_neg e] at hlc hmc
      by_cases e' : c' = id
      · subst e'
        rw [hp] at hq'; cases hq'
        exact hno c q e hq hlc
      · rw [if_neg e'] at hlc'
        exact hr.sep c c' q q' hne hq hq' hlc hlc' hmc
theorem HR.push_dead {φ : Phi} {h : AH} {w : World} (hr : HR φ h w) : HR φ (h.push .dead) w := by
  have hg : ∀ m, (h.push .dead).get m = h.get m := fun m => by
    rw [AH.get_push]
    split
    · rename_i e; subst e; exact (h.get_ge (Nat.le_refl _)).symm
    · rfl
  exact ⟨fun c hc => hr.fresh c (by simp at hc; omega), hr.low, fun c => by rw [hg]; exact hr.obj c, fun c c' q q' => by rw [hg, hg]; exact hr.sep c c' q q'⟩
theorem Keep.push_dead (φ : Phi) (h : AH) (w : World) : Keep φ h w φ (h.push .dead) w := by
  have hg : ∀ m, (h.push .dead).get m = h.get m := fun m => by
    rw [AH.get_push]
    split
    · rename_i e; subst e; exact (h.get_ge (Nat.le_refl _)).symm
    · rfl
  exact ⟨rfl, rfl, rfl, Nat.le_refl _, φ.le_refl, by simp, fun _ _ _ => rfl, fun b p hp hm _ => ⟨b, p, hp, by rw [hg] at hm; exact hm, rfl⟩,
    fun b p hp hm _ => ⟨b, p, hp, by rw [hg] at hm; exact hm, rfl⟩, fun _ _ h => h⟩

/-! ### The state -/
section
variable (P : Program) (G n : Nat) (d : DR) (fr : Fr) (φs : Phi) (hs : AH) (ws : World)

/-- Of an operation that has been reckoned ahead: that it will come to the same; but for what it reads. -/
def JW (vs : Tr Value) (pd : Pend) (i : Nat) : Prop := ∃ r, d.ros[i]? = some r ∧ pd.get i = none ∧
  ((wantedS G fr vs r = some false ∧ vs.get i = some undef) ∨ (wantedS G fr vs r = some true ∧ ∃ op, r.o.op = .simple op ∧ op.isA = false ∧ op.isN = true ∧ ∃ v, vs.get i = some v))
def JF (vs : Tr Value) (h : AH) (pd : Pend) (i : Nat) : Prop := ∃ r, d.ros[i]? = some r ∧
  ((wantedS G fr vs r = some false ∧ vs.get i = some undef ∧ pd.get i = none) ∨ (wantedS G fr vs r = some true ∧ ∃ op, r.o.op = .simple op ∧
    ((op.isA = false ∧ op.isN = true ∧ pd.get i = none ∧ ∃ v h1, op.run P (opdS G fr vs r.src) h = some (v, h1) ∧ vs.get i = some v) ∨
     (op.isA = true ∧ ∃ obj k id, allocOf (opdS G fr vs r.src) op = some (obj, k) ∧ pd.get i = some (id, obj) ∧ vs.get i = some (k.val id)))))

structure Core (listed : Array Bool) (X : List Nat) (vs : Tr Value) (h : AH) (pd : Pend) (φ : Phi) (a : Act) (w : World) : Prop where
  hr : HR φ h w
  gl : GlobR G φ
  kp : Keep φs hs ws φ h w
  sz : n ≤ a.tmps.size
  ds : DefR φ fr.d a.defers
  outer : ∀ t v, fr.t.get t = some v → (∀ j, writes d.ros t j = true → ¬ Dn listed j) → ∃ v', a.tmps[t]? = some v' ∧ VR φ v v'
  vals : ∀ j r v t, Dn listed j → d.ros[j]? = some r → vs.get j = some v → r.o.dst = some t → ∃ v', a.tmps[t]? = some v' ∧ VR φ v v'
  sub : ∀ j, Dn listed j → j ∈ X
  src : ∀ i r t j, i ∈ X → d.ros[i]? = some r → (t, some j) ∈ r.src → j ∈ X
  p1 : ∀ i id obj, pd.get i = some (id, obj) → i ∈ X ∧ id < h.next ∧ hs.next ≤ id ∧ h.get id = .dead ∧ (¬ Dn listed i → φ id = none) ∧
    (Dn listed i → ∃ p, φ id = some p ∧ ws.heap.size ≤ p.blk ∧ ObjOk φ (some p) w.heap obj ∧
      ∀ b q, b ≠ id → φ b = some q → ((h.get b).live = true ∨ ∃ j o, pd.get j = some (b, o) ∧ Dn listed j) → q.blk ≠ p.blk)
  p2 : ∀ i j id o o', pd.get i = some (id, o) → pd.get j = some (id, o') → i = j
end

theorem lookS_mem : ∀ {l : List (Nat × Option Nat)} {t : Nat} {q : Option Nat}, lookS l t = some q → (t, q) ∈ l
  | [], t, q, h => by simp [lookS] at h
  | (s, j) :: l, t, q, h => by
    simp only [lookS] at h
    cases hb : Nat.beq s t with
    | true => rw [hb] at h; cases h; rw [nbeq] at hb; subst hb; simp
    | false => rw [hb] at h; exact List.mem_cons_of_mem _ (lookS_mem h)
theorem opdS_congr {fr : Fr} {vs vs' : Tr Value} {src : List (Nat × Option Nat)} (h : ∀ t j, (t, some j) ∈ src → vs'.get j = vs.get j) : opdS G fr vs' src = opdS G fr vs src := by
  funext x
  cases x with
  | tmp t =>
    simp only [opdS]
    cases hl : lookS src t with
    | none => rfl
    | some q => cases q with
      | none => rfl
      | some j => exact h t j (lookS_mem hl)
  | _ => rfl
theorem wantedS_congr {fr : Fr} {vs vs' : Tr Value} {r : RD} (h : ∀ t j, (t, some j) ∈ r.src → vs'.get j = vs.get j) : wantedS G fr vs' r = wantedS G fr vs r := by
  unfold wantedS
  rw [opdS_congr h]
theorem writes_inv {ros : List RD} {t j : Nat} (h : writes ros t j = true) : ∃ r, ros[j]? = some r ∧ r.o.dst = some t := by
  unfold writes at h
  split at h
  · rename_i r hr
    split at h
    · rename_i s hs
      rw [nbeq] at h; subst h
      exact ⟨r, hr, hs⟩
    · cases h
  · cases h
theorem writes_of {ros : List RD} {t j : Nat} {r : RD} (hr : ros[j]? = some r) (hd : r.o.dst = some t) : writes ros t j = true := by
  unfold writes; rw [hr]; simp [hd]

section
variable {n : Nat} {d : DR} {fr : Fr} {φs : Phi} {hs : AH} {ws : World} {listed : Array Bool} {X : List Nat} {vs : Tr Value} {h : AH} {pd : Pend} {φ : Phi} {a : Act} {w : World}

theorem Core.env (c : Core G n d fr φs hs ws listed X vs h pd φ a w) {r : RD} (h1 : ∀ t j, (t, some j) ∈ r.src → writes d.ros t j = true ∧ Dn listed j)
    (h2 : ∀ t, (t, none) ∈ r.src → ∀ j, writes d.ros t j = true → ¬ Dn listed j) : EnvR φ (opdS G fr vs r.src) a.eval := by
  have base : EnvR φ (opd G ⟨.leaf, []⟩) a.eval := env_opd c.gl (fun t v ht => by simp at ht)
  intro x v hx
  cases x with
  | tmp t =>
    simp only [opdS] at hx
    have fin : (∃ v', a.tmps[t]? = some v' ∧ VR φ v v') → VR φ v (a.eval (.tmp t)) := by
      rintro ⟨v', e1, e2⟩
      show VR φ v (a.tmps.getD t undef)
      rw [Array.getD_eq_getD_getElem?, e1]
      exact e2
    split at hx
    · rename_i j hl
      obtain ⟨hw, hd⟩ := h1 t j (lookS_mem hl)
      obtain ⟨rj, hrj, hdj⟩ := writes_inv hw
      exact fin (c.vals j rj v t hd hrj hx hdj)
    · rename_i hl
      exact fin (c.outer t v hx (h2 t (lookS_mem hl)))
    · cases hx
  | const u => exact base (.const u) v hx
  | global g => exact base (.global g) v hx
  | func f => exact base (.func f) v hx

theorem wantedV_ok {ops : Array Oper} {o : Oper} {r : RO} (hg : (o.guard = none ∧ r.guard = none) ∨ ∃ j want s, o.guard = some (j, want) ∧ (ops[j]?).bind (·.dst) = some s ∧ r.guard = some (s, want))
    {ρ : Operand → Option Value} {φ : Phi} {a : Act} (he : EnvR φ ρ a.eval) {b : Bool}
    (hb : (match r.guard with | none => some true | some (s, want) => wantedV want (ρ (.tmp s))) = some b) : Region.wanted o (yielded ops a.tmps) = b := by
  rcases hg with ⟨h1, h2⟩ | ⟨j, want, s, h1, h2, h3⟩
  · rw [h2] at hb; cases hb; simp [Region.wanted, h1]
  · rw [h3] at hb
    simp only [wantedV] at hb
    split at hb
    · rename_i bb hbb
      cases hb
      have hv := he _ _ hbb
      have hv2 : a.tmps.getD s undef = .bool bb := by
        have : VR φ (.bool bb) (a.tmps.getD s undef) := hv
        generalize a.tmps.getD s undef = q at this
        cases this; rfl
      have hy : yielded ops a.tmps j = some bb := by
        rw [Array.getD_eq_getD_getElem?] at hv2
        cases hs : a.tmps[s]? with
        | none => rw [hs] at hv2; cases hv2
        | some x => rw [hs] at hv2; simp only [Option.getD_some] at hv2; subst hv2; simp only [yielded, h2, Option.bind_some, hs]
      simp only [Region.wanted, h1, hy]
      cases bb <;> cases want <;> rfl
    · rename_i c hbb
      cases hb
      have hv := he _ _ hbb
      have hv2 : ∃ c', a.tmps.getD s undef = .tuple c' := by
        have : VR φ (.tuple c) (a.tmps.getD s undef) := hv
        obtain ⟨c', hc', _⟩ := this.tuple_inv
        exact ⟨_, hc'⟩
      obtain ⟨c', hv2⟩ := hv2
      have hy : yielded ops a.tmps j = none := by
        rw [Array.getD_eq_getD_getElem?] at hv2
        cases hs : a.tmps[s]? with
        | none => simp only [yielded, h2, Option.bind_some, hs]
        | some x => rw [hs] at hv2; simp only [Option.getD_some] at hv2; subst hv2; simp only [yielded, h2, Option.bind_some, hs]
      simp only [Region.wanted, h1, hy]
      rfl
    · cases hb
end
end Go.Am

/-
  An abstract machine over the model's code, part 16: the steps of a region that draws its order.
-/
namespace Go.Am
open Go
variable {P : Program} {G : Nat}

theorem nodupB_inv : ∀ {l : List Nat}, nodupB l = true → l.Nodup
  | [], _ => .nil
  | x :: l, h => by
    simp only [nodupB, Bool.and_eq_true, Bool.not_eq_true'] at h
    refine List.nodup_cons.2 ⟨fun hx => ?_, nodupB_inv h.2⟩
    have : l.contains x = true := by simpa using hx
    rw [this] at h; cases h.1
theorem dsts_inv : ∀ {ros : List RD}, dstsB ros = true → ∀ {i j t : Nat} {r q : RD}, ros[i]? = some r → ros[j]? = some q → r.o.dst = some t → q.o.dst = some t → i = j
  | [], _, i, j, t, r, q, hi, _, _, _ => by simp at hi
  | x :: l, h, i, j, t, r, q, hi, hj, hr, hq => by
    unfold dstsB at h
    have hn := nodupB_inv h
    have key : ∀ (k : Nat) (s : RD), l[k]? = some s → s.o.dst = some t → t ∈ l.filterMap (·.o.dst) := fun k s hk hs => List.mem_filterMap.2 ⟨s, List.mem_of_getElem? hk, hs⟩
    cases hx : x.o.dst with
    | none =>
      simp only [List.filterMap_cons, hx] at h
      cases i with
      | zero => simp at hi; subst hi; rw [hx] at hr; cases hr
      | succ i => cases j with
        | zero => simp at hj; subst hj; rw [hx] at hq; cases hq
        | succ j => exact congrArg _ (dsts_inv (ros := l) h (by simpa using hi) (by simpa using hj) hr hq)
    | some s =>
      simp only [List.filterMap_cons, hx] at hn h
      obtain ⟨h1, h2⟩ := List.nodup_cons.1 hn
      cases i with
      | zero => cases j with
        | zero => rfl
        | succ j =>
          simp at hi; subst hi; rw [hx] at hr; cases hr
          exact absurd (key j q (by simpa using hj) hq) h1
      | succ i => cases j with
        | zero =>
          simp at hj; subst hj; rw [hx] at hq; cases hq
          exact absurd (key i r (by simpa using hi) hr) h1
        | succ j =>
          have h3 : dstsB l = true := by
            simp only [nodupB, Bool.and_eq_true] at h
            exact h.2
          exact congrArg _ (dsts_inv h3 (by simpa using hi) (by simpa using hj) hr hq)

theorem compROs_get {n : Nat} {ops : Array Oper} : ∀ {l : List Oper} {rs : List RO}, compROs P n ops l = some rs → rs.length = l.length ∧ ∀ (i : Nat) (o : Oper), l[i]? = some o → ∃ r, rs[i]? = some r ∧ compRO P n ops o = some r
  | [], rs, h => by simp [compROs] at h; subst h; exact ⟨rfl, fun i o h => by simp at h⟩
  | x :: l, rs, h => by
    simp only [compROs] at h
    split at h
    · rename_i r rs' hr hrs
      cases h
      obtain ⟨h1, h2⟩ := compROs_get hrs
      refine ⟨by simp [h1], fun i o ho => ?_⟩
      cases i with
      | zero => simp at ho; subst ho; exact ⟨r, rfl, hr⟩
      | succ i => simpa using h2 i o (by simpa using ho)
    · cases h

theorem dn_set {listed : Array Bool} {i : Nat} (hi : i < listed.size) (j : Nat) : Dn (listed.setIfInBounds i true) j ↔ j = i ∨ Dn listed j := by
  unfold Dn
  rw [Array.getD_eq_getD_getElem?, Array.getD_eq_getD_getElem?, Array.getElem?_setIfInBounds]
  by_cases e : i = j
  · subst e; simp [hi]
  · rw [if_neg e]
    constructor
    · exact .inr
    · rintro (h | h)
      · exact absurd h.symm e
      · exact h

theorem not_live_dead {o : AObj} (h : o.live ≠ true) : o = .dead := by cases o <;> simp_all [AObj.live]
theorem mut_live {o : AObj} (h : o.mut = true) : o.live = true := by cases o <;> simp_all [AObj.live, AObj.mut]

section
variable {n : Nat} {d : DR} {fr : Fr} {φs : Phi} {hs : AH} {ws : World} {listed : Array Bool} {X : List Nat} {vs : Tr Value} {h : AH} {pd : Pend} {φ : Phi} {a : Act} {w : World}

/-- An operation is done. -/
theorem Core.step (c : Core G n d fr φs hs ws listed X vs h pd φ a w) (hu : dstsB d.ros = true) {i : Nat} (hi : i < listed.size) (hpd : pd.get i = none) {r : RD} (hri : d.ros[i]? = some r)
    (hdst : ∀ k, r.o.dst = some k → k < n) {φ' : Phi} {h' : AH} {w' : World} {v v' : Value} (hr' : HR φ' h' w') (hk : Keep φ h w φ' h' w') (hv : VR φ' v v') {X' : List Nat} (hX : ∀ j, j ∈ X → j ∈ X') (hiX : i ∈ X')
    (hsrc : ∀ i r t j, i ∈ X' → d.ros[i]? = some r → (t, some j) ∈ r.src → j ∈ X') {vs' : Tr Value} (hvs : ∀ j, j ≠ i → Dn listed j → vs'.get j = vs.get j) (hvi : vs'.get i = some v) :
    Core G n d fr φs hs ws (listed.setIfInBounds i true) X' vs' h' pd φ' (a.put r.o.dst v') w' where
  hr := hr'
  gl := c.gl.mono hk.le
  kp := c.kp.trans hk
  sz := by rw [size_put]; exact c.sz
  ds := by rw [defers_put]; exact c.ds.mono hk.le
  outer := fun t u ht hno => by
    obtain ⟨v1, h1, h2⟩ := c.outer t u ht fun j hw hd => hno j hw ((dn_set hi j).2 (.inr hd))
    refine ⟨v1, ?_, h2.mono hk.le⟩
    cases hd : r.o.dst with
    | none => exact h1
    | some k =>
      have : k ≠ t := fun e => by subst e; exact hno i (writes_of hri hd) ((dn_set hi i).2 (.inl rfl))
      simp only [Act.put, Array.getElem?_setIfInBounds, if_neg this]; exact h1
  vals := fun j q u t hd hq hu' ht => by
    by_cases e : j = i
    · subst e
      rw [hri] at hq; cases hq
      rw [hvi] at hu'; cases hu'
      refine ⟨v', ?_, hv⟩
      have hlt := Nat.lt_of_lt_of_le (hdst t ht) c.sz
      simp only [ht, Act.put, Array.getElem?_setIfInBounds, if_pos hlt, if_true]
    · have hd' := ((dn_set hi j).1 hd).resolve_left e
      rw [hvs j e hd'] at hu'
      obtain ⟨v1, h1, h2⟩ := c.vals j q u t hd' hq hu' ht
      refine ⟨v1, ?_, h2.mono hk.le⟩
      cases hdi : r.o.dst with
      | none => exact h1
      | some k =>
        have : k ≠ t := fun e' => by subst e'; exact e (dsts_inv hu hq hri ht hdi)
        simp only [Act.put, Array.getElem?_setIfInBounds, if_neg this]; exact h1
  sub := fun j hd => by
    rcases (dn_set hi j).1 hd with rfl | hd
    · exact hiX
    · exact hX j (c.sub j hd)
  src := hsrc
  p1 := fun j id obj hj => by
    obtain ⟨h1, h2, h3, h4, h5, h6⟩ := c.p1 j id obj hj
    have hji : j ≠ i := fun e => by subst e; rw [hpd] at hj; cases hj
    have hdj : Dn (listed.setIfInBounds i true) j ↔ Dn listed j := by rw [dn_set hi]; exact ⟨fun x => x.resolve_left hji, .inr⟩
    have hdead : h'.get id = .dead := by
      refine not_live_dead fun hl => ?_
      obtain ⟨q, hq⟩ := (hr'.obj id).at_some hl
      by_cases hd : Dn listed j
      · obtain ⟨p, hp, hp1, hp2, hp3⟩ := h6 hd
        have := hk.le _ _ hp
        obtain ⟨b0, p0, hb1, hb2, hb3⟩ := hk.ownl id p this hl (c.hr.low _ _ hp)
        have hne : b0 ≠ id := fun e => by subst e; rw [h4] at hb2; cases hb2
        exact hp3 b0 p0 hne hb1 (.inl hb2) hb3
      · rw [hk.old id h2 (h5 hd)] at hq; cases hq
    refine ⟨hX j h1, Nat.lt_of_lt_of_le h2 hk.next, h3, hdead, fun hd => ?_, fun hd => ?_⟩
    · exact hk.old id h2 (h5 fun x => hd (hdj.2 x))
    · obtain ⟨p, hp, hp1, hp2, hp3⟩ := h6 (hdj.1 hd)
      refine ⟨p, hk.le _ _ hp, hp1, hp2.mono hk.le fun q hq _ => ?_, fun b q hne hb hlp => ?_⟩
      · cases hq
        refine hk.same p.blk (c.hr.low _ _ hp) fun b q hb hm => ?_
        by_cases e : b = id
        · subst e; rw [h4] at hm; cases hm
        · exact hp3 b q e hb (.inl (mut_live hm))
      · rcases hlp with hl | ⟨j', o', hj', hd'⟩
        · intro e
          have hlow := c.hr.low _ _ hp
          obtain ⟨b0, p0, hb1, hb2, hb3⟩ := hk.ownl b q hb hl (by omega)
          have hne0 : b0 ≠ id := fun e => by subst e; rw [h4] at hb2; cases hb2
          exact hp3 b0 p0 hne0 hb1 (.inl hb2) (by omega)
        · have hji' : j' ≠ i := fun e => by subst e; rw [hpd] at hj'; cases hj'
          have hdj' : Dn listed j' := ((dn_set hi j').1 hd').resolve_left hji'
          obtain ⟨_, _, _, _, _, g6⟩ := c.p1 j' b o' hj'
          obtain ⟨p', hp', _⟩ := g6 hdj'
          have := hk.le _ _ hp'
          rw [this] at hb
          rw [← Option.some.inj hb]
          exact hp3 b p' hne hp' (.inr ⟨j', o', hj', hdj'⟩)
  p2 := c.p2

/-- A block is made. -/
theorem Core.made (c : Core G n d fr φs hs ws listed X vs h pd φ a w) (hu : dstsB d.ros = true) {i : Nat} (hi : i < listed.size) (hnd : ¬ Dn listed i) {id : Nat} {obj : AObj} (hpd : pd.get i = some (id, obj)) {r : RD} (hri : d.ros[i]? = some r)
    (hdst : ∀ k, r.o.dst = some k → k < n) {k : AKind} (hvi : vs.get i = some (k.val id)) {v' : Value} {w' : World} {ob' : Obj} {ext : Nat} (hw : w'.heap = w.heap.push ob') (hs' : SameOut w w')
    (hob : ∀ ψ, φ.le ψ → ObjOk ψ (some ⟨w.heap.size, 0, ext⟩) w'.heap obj) (hv : ∀ ψ id, ψ id = some ⟨w.heap.size, 0, ext⟩ → VR ψ (k.val id) v') :
    Core G n d fr φs hs ws (listed.setIfInBounds i true) X vs h pd (φ.put id ⟨w.heap.size, 0, ext⟩) (a.put r.o.dst v') w' := by
  obtain ⟨q1, q2, q3, q4, q5, _⟩ := c.p1 i id obj hpd
  have hn := q5 hnd
  have hle : φ.le (φ.put id ⟨w.heap.size, 0, ext⟩) := Phi.le_put _ hn
  have hheap : ∀ {b : Nat} {p : Pl}, φ b = some p → w'.heap[p.blk]? = w.heap[p.blk]? := fun hp => by
    have := c.hr.low _ _ hp
    rw [hw, Array.getElem?_push, if_neg (by omega)]
  have hne_of : ∀ {b : Nat} {p : Pl}, (φ.put id ⟨w.heap.size, 0, ext⟩) b = some p → (h.get b).live = true → φ b = some p ∧ b ≠ id := fun {b p} hp hl => by
    have : b ≠ id := fun e => by subst e; rw [q4] at hl; cases hl
    rw [Phi.put_ne _ _ this] at hp
    exact ⟨hp, this⟩
  refine ⟨⟨fun b hb => ?_, fun b p hp => ?_, fun b => ?_, fun b b' p p' hne hp hp' hl hl' hm => ?_⟩, c.gl.mono hle,
    ⟨by rw [hs'.os]; exact c.kp.os, by rw [hs'.tape]; exact c.kp.tape, by rw [hs'.output]; exact c.kp.output, by rw [hw]; simp; have := c.kp.size; omega, Phi.le_trans c.kp.le hle, c.kp.next, fun k hk hno => ?_, fun b p hp hm hlt => ?_, fun b p hp hm hlt => ?_, fun b hb hbn => ?_⟩,
    by rw [size_put]; exact c.sz, by rw [defers_put]; exact c.ds.mono hle, fun t u ht hno => ?_, fun j q u t hd hq hu' ht => ?_, fun j hd => ?_, c.src, fun j idj objj hj => ?_, c.p2⟩
  · rw [Phi.put_ne _ _ (by omega)]; exact c.hr.fresh b hb
  · rw [hw]; simp
    by_cases e : b = id
    · subst e; rw [Phi.put_self] at hp; cases hp; simp
    · rw [Phi.put_ne _ _ e] at hp; have := c.hr.low b p hp; omega
  · by_cases e : b = id
    · subst e; rw [q4]; trivial
    · rw [Phi.put_ne _ _ e]
      exact (c.hr.obj b).mono hle fun p hp _ => hheap hp
  · obtain ⟨hp1, _⟩ := hne_of hp hl
    obtain ⟨hp1', _⟩ := hne_of hp' hl'
    exact c.hr.sep b b' p p' hne hp1 hp1' hl hl' hm
  · have := c.kp.size
    rw [hw, Array.getElem?_push, if_neg (by omega)]
    exact c.kp.same k hk hno
  · obtain ⟨hp1, _⟩ := hne_of hp (mut_live hm)
    exact c.kp.own b p hp1 hm hlt
  · obtain ⟨hp1, _⟩ := hne_of hp hm
    exact c.kp.ownl b p hp1 hm hlt
  · rw [Phi.put_ne _ _ (by omega)]; exact c.kp.old b hb hbn
  · obtain ⟨v1, h1, h2⟩ := c.outer t u ht fun j hw hd => hno j hw ((dn_set hi j).2 (.inr hd))
    refine ⟨v1, ?_, h2.mono hle⟩
    cases hd : r.o.dst with
    | none => exact h1
    | some k =>
      have : k ≠ t := fun e => by subst e; exact hno i (writes_of hri hd) ((dn_set hi i).2 (.inl rfl))
      simp only [Act.put, Array.getElem?_setIfInBounds, if_neg this]; exact h1
  · by_cases e : j = i
    · subst e
      rw [hri] at hq; cases hq
      rw [hvi] at hu'; cases hu'
      refine ⟨v', ?_, hv _ _ (Phi.put_self _ _ _)⟩
      have hlt := Nat.lt_of_lt_of_le (hdst t ht) c.sz
      simp only [ht, Act.put, Array.getElem?_setIfInBounds, if_pos hlt, if_true]
    · have hd' := ((dn_set hi j).1 hd).resolve_left e
      obtain ⟨v1, h1, h2⟩ := c.vals j q u t hd' hq hu' ht
      refine ⟨v1, ?_, h2.mono hle⟩
      cases hdi : r.o.dst with
      | none => exact h1
      | some k =>
        have : k ≠ t := fun e' => by subst e'; exact e (dsts_inv hu hq hri ht hdi)
        simp only [Act.put, Array.getElem?_setIfInBounds, if_neg this]; exact h1
  · rcases (dn_set hi j).1 hd with rfl | hd
    · exact q1
    · exact c.sub j hd
  · obtain ⟨h1, h2, h3, h4, h5, h6⟩ := c.p1 j idj objj hj
    refine ⟨h1, h2, h3, h4, fun hd => ?_, fun hd => ?_⟩
    · have hji : j ≠ i := fun e => hd ((dn_set hi j).2 (.inl e))
      have hid : idj ≠ id := fun e => by subst e; exact hji (c.p2 j i _ _ _ hj hpd)
      rw [Phi.put_ne _ _ hid]
      exact h5 fun x => hd ((dn_set hi j).2 (.inr x))
    · by_cases e : j = i
      · subst e
        rw [hpd] at hj; cases hj
        refine ⟨_, Phi.put_self _ _ _, c.kp.size, hob _ hle, fun b q hne hb hlp => ?_⟩
        rw [Phi.put_ne _ _ hne] at hb
        have := c.hr.low _ _ hb
        show _ ≠ w.heap.size
        omega
      · have hid : idj ≠ id := fun e' => by subst e'; exact e (c.p2 j i _ _ _ hj hpd)
        have hdj := ((dn_set hi j).1 hd).resolve_left e
        obtain ⟨p, hp, hp1, hp2, hp3⟩ := h6 hdj
        refine ⟨p, by rw [Phi.put_ne _ _ hid]; exact hp, hp1, hp2.mono hle fun q hq _ => by cases hq; exact hheap hp, fun b q hne hb hlp => ?_⟩
        by_cases eb : b = id
        · subst eb
          rw [Phi.put_self] at hb; cases hb
          have := c.hr.low _ _ hp
          show w.heap.size ≠ _
          omega
        · rw [Phi.put_ne _ _ eb] at hb
          refine hp3 b q hne hb ?_
          rcases hlp with hl | ⟨j', o', hj', hd'⟩
          · exact .inl hl
          · refine .inr ⟨j', o', hj', ((dn_set hi j').1 hd').resolve_left fun e => ?_⟩
            subst e
            rw [hpd] at hj'; cases hj'
            exact eb rfl

/-- What was made is laid down. -/
theorem Core.absorb1 (c : Core G n d fr φs hs ws listed X vs h pd φ a w) {i id : Nat} {obj : AObj} (hpd : pd.get i = some (id, obj)) (hd : Dn listed i) :
    Core G n d fr φs hs ws listed X vs (h.set id obj) (pd.del i) φ a w := by
  obtain ⟨q1, q2, q3, q4, _, q6⟩ := c.p1 i id obj hpd
  obtain ⟨p, hp, hp1, hp2, hp3⟩ := q6 hd
  have hold : ∀ b, b < hs.next → b ≠ id := fun b hb => by omega
  have hget : ∀ b, (h.set id obj).get b = if b = id then obj else h.get b := fun b => h.get_set _ _ _ q2
  refine ⟨c.hr.absorb q2 hp hp2 fun b q hne hb hl => hp3 b q hne hb (.inl hl), c.gl,
    ⟨c.kp.os, c.kp.tape, c.kp.output, c.kp.size, c.kp.le, by simpa using c.kp.next, c.kp.same, fun b q hq hm hlt => ?_, fun b q hq hm hlt => ?_, c.kp.old⟩,
    c.sz, c.ds, c.outer, c.vals, c.sub, c.src, fun j idj objj hj => ?_, fun j j' idj o o' hj hj' => ?_⟩
  · rw [hget] at hm
    by_cases e : b = id
    · subst e; rw [hp] at hq; cases hq; omega
    · rw [if_neg e] at hm; exact c.kp.own b q hq hm hlt
  · rw [hget] at hm
    by_cases e : b = id
    · subst e; rw [hp] at hq; cases hq; omega
    · rw [if_neg e] at hm; exact c.kp.ownl b q hq hm hlt
  · rw [Tr.get_del] at hj
    by_cases e : j = i
    · rw [if_pos e] at hj; cases hj
    · rw [if_neg e] at hj
      obtain ⟨h1, h2, h3, h4, h5, h6⟩ := c.p1 j idj objj hj
      have hid : idj ≠ id := fun e' => by subst e'; exact e (c.p2 j i _ _ _ hj hpd)
      refine ⟨h1, by simpa using h2, h3, by rw [hget, if_neg hid]; exact h4, h5, fun hdj => ?_⟩
      obtain ⟨pj, hpj, hpj1, hpj2, hpj3⟩ := h6 hdj
      refine ⟨pj, hpj, hpj1, hpj2, fun b q hne hb hlp => ?_⟩
      refine hpj3 b q hne hb ?_
      rcases hlp with hl | ⟨j', o', hj', hd'⟩
      · rw [hget] at hl
        by_cases eb : b = id
        · subst eb; exact .inr ⟨i, obj, hpd, hd⟩
        · rw [if_neg eb] at hl; exact .inl hl
      · rw [Tr.get_del] at hj'
        by_cases ej : j' = i
        · rw [if_pos ej] at hj'; cases hj'
        · rw [if_neg ej] at hj'; exact .inr ⟨j', o', hj', hd'⟩
  · rw [Tr.get_del] at hj hj'
    by_cases e : j = i
    · rw [if_pos e] at hj; cases hj
    · by_cases e' : j' = i
      · rw [if_pos e'] at hj'; cases hj'
      · rw [if_neg e] at hj; rw [if_neg e'] at hj'; exact c.p2 _ _ _ _ _ hj hj'
theorem Core.absorb : ∀ (l : List Nat) {h : AH} {pd : Pend}, Core G n d fr φs hs ws listed X vs h pd φ a w → (∀ i ∈ l, Dn listed i) →
    Core G n d fr φs hs ws listed X vs (absA l h pd).1 (absA l h pd).2 φ a w ∧ ∀ j, ¬ Dn listed j → (absA l h pd).2.get j = pd.get j
  | [], h, pd, c, _ => ⟨c, fun _ _ => rfl⟩
  | i :: l, h, pd, c, hl => by
    simp only [absA]
    split
    · rename_i id obj hpd
      obtain ⟨h1, h2⟩ := Core.absorb l (c.absorb1 hpd (hl i (by simp))) fun j hj => hl j (by simp [hj])
      refine ⟨h1, fun j hj => ?_⟩
      rw [h2 j hj, Tr.get_del, if_neg fun e => by subst e; exact hj (hl j (by simp))]
    · exact Core.absorb l c fun j hj => hl j (by simp [hj])
end
end Go.Am

/-
  An abstract machine over the model's code, part 17: a region that draws its order.
-/
namespace Go.Am
open Go
variable {P : Program} {G : Nat}

theorem AOp.isN_of {op : AOp} (h1 : (XOp.simple op).isE = false) (h2 : op.isA = false) : op.isN = true := by
  simp only [XOp.isE, h2, Bool.or_false, Bool.not_eq_false'] at h1
  exact h1
theorem XOp.isE_false {op : XOp} (h : op.isE = false) : ∃ o, op = .simple o := by
  cases op with
  | simple o => exact ⟨o, rfl⟩
  | _ => simp [XOp.isE] at h
theorem alloc_isA {op : AOp} {ρ : Operand → Option Value} {x : AObj × AKind} (h : allocOf ρ op = some x) : op.isA = true := by
  unfold allocOf at h
  split at h <;> first | rfl | cases h
theorem wantedS_same {fr : Fr} {vs vs' : Tr Value} {r : RD} (h : ∀ t j, (t, some j) ∈ r.src → vs'.get j = vs.get j) : wantedS G fr vs' r = wantedS G fr vs r := wantedS_congr h

theorem JF.mono {d : DR} {fr : Fr} {vs vs' : Tr Value} {h h' : AH} {pd pd' : Pend} {i : Nat} (j : JF P G d fr vs h pd i) (hs : ∀ r, d.ros[i]? = some r → ∀ t k, (t, some k) ∈ r.src → vs'.get k = vs.get k)
    (hi : vs'.get i = vs.get i) (hp : pd'.get i = pd.get i) (m : More h h') : JF P G d fr vs' h' pd' i := by
  obtain ⟨r, hr, hc⟩ := j
  have e1 : wantedS G fr vs' r = wantedS G fr vs r := wantedS_congr (hs r hr)
  have e2 : opdS G fr vs' r.src = opdS G fr vs r.src := opdS_congr (hs r hr)
  refine ⟨r, hr, ?_⟩
  rw [e1, e2, hi, hp]
  rcases hc with hc | ⟨hw, op, ho, hc⟩
  · exact .inl hc
  · refine .inr ⟨hw, op, ho, ?_⟩
    rcases hc with ⟨h1, h2, h3, v, h4, h5, h6⟩ | hc
    · have := run_N h2 h5; subst this
      exact .inl ⟨h1, h2, h3, v, h', run_more h2 h5 m, h6⟩
    · exact .inr hc

theorem depsB_cons {ros : List RD} {bf ahead : List Nat} {i : Nat} {l : List Nat} (h : depsB ros bf ahead (i :: l) = true) :
    (∃ r, ros[i]? = some r ∧ (∀ t j, (t, some j) ∈ r.src → writes ros t j = true ∧ bits (bf.getD i 0) j = true ∧ j ∈ ahead) ∧
      ∀ t, (t, none) ∈ r.src → ∀ j, j < ros.length → writes ros t j = true → j = i ∨ bits (bf.getD j 0) i = true) ∧ depsB ros bf (i :: ahead) l = true := by
  simp only [depsB, Bool.and_eq_true] at h
  refine ⟨?_, h.2⟩
  have h1 := h.1
  split at h1
  · rename_i r hr
    refine ⟨r, hr, fun t j hj => ?_, fun t ht j hlt hw => ?_⟩
    · have := List.all_eq_true.1 h1 _ hj
      simp only [Bool.and_eq_true] at this
      exact ⟨this.1.1, this.1.2, by simpa using this.2⟩
    · have := List.all_eq_true.1 h1 _ ht
      simp only at this
      have := List.all_eq_true.1 this j (by simpa using hlt)
      rw [hw] at this
      simp only [Bool.not_true, Bool.false_or, Bool.or_eq_true, nbeq] at this
      exact this.imp Eq.symm id
  · cases h1
theorem writes_lt {ros : List RD} {t j : Nat} (h : writes ros t j = true) : j < ros.length := by
  obtain ⟨r, hr, _⟩ := writes_inv h
  exact (List.getElem?_eq_some_iff.1 hr).1

section
variable {n : Nat} {d : DR} {fr : Fr} {φs : Phi} {hs : AH} {ws : World} {listed : Array Bool} {φ : Phi} {a : Act} {w : World}

theorem lev_inv {bf : List Nat} {K : Tr Value → AH → Pend → Prop} : ∀ (l rest X : List Nat) {vs : Tr Value} {h : AH} {pd : Pend}, Core G n d fr φs hs ws listed X vs h pd φ a w →
    depsB d.ros bf X (l ++ rest) = true → (l ++ rest).Nodup → (∀ i ∈ l, i ∉ X) → (∀ i ∈ l, isEat d.ros i = false ∧ ¬ Dn listed i) → levA AProp P G d fr l vs h pd K →
      ∃ X' vs' h' pd', K vs' h' pd' ∧ Core G n d fr φs hs ws listed X' vs' h' pd' φ a w ∧ depsB d.ros bf X' rest = true ∧ (∀ i, i ∈ X' ↔ i ∈ X ∨ i ∈ l) ∧
        (∀ i ∈ X, vs'.get i = vs.get i ∧ pd'.get i = pd.get i) ∧ More h h' ∧ ∀ i ∈ l, JF P G d fr vs' h' pd' i
  | [], rest, X, vs, h, pd, c, hd, _, _, _, hl => ⟨X, vs, h, pd, hl, c, hd, fun i => by simp, fun _ _ => ⟨rfl, rfl⟩, More.refl h, fun i hi => by simp at hi⟩
  | i :: l, rest, X, vs, h, pd, c, hd, hn, hX, hE, hl => by
    obtain ⟨⟨r, hr, hs1, _⟩, hd'⟩ := depsB_cons hd
    obtain ⟨hn1, hn2⟩ := List.nodup_cons.1 hn
    have hiX : i ∉ X := hX i (by simp)
    have hnd : ¬ Dn listed i := (hE i (by simp)).2
    have hpi : pd.get i = none := by
      cases hp : pd.get i with
      | none => rfl
      | some q => exact absurd (c.p1 i q.1 q.2 hp).1 hiX
    have hsrc : ∀ i' r' t j, i' ∈ i :: X → d.ros[i']? = some r' → (t, some j) ∈ r'.src → j ∈ i :: X := by
      intro i' r' t j hi' hr' ht
      rcases List.mem_cons.1 hi' with rfl | hi'
      · rw [hr] at hr'; cases hr'
        exact List.mem_cons_of_mem _ (hs1 t j ht).2.2
      · exact List.mem_cons_of_mem _ (c.src i' r' t j hi' hr' ht)
    -- the state behind this operation
    have key : ∀ (vs1 : Tr Value) (h1 : AH) (pd1 : Pend), levA AProp P G d fr l vs1 h1 pd1 K → Core G n d fr φs hs ws listed (i :: X) vs1 h1 pd1 φ a w →
        (∀ j ∈ X, vs1.get j = vs.get j ∧ pd1.get j = pd.get j) → More h h1 → JF P G d fr vs1 h1 pd1 i → ∃ X' vs' h' pd', K vs' h' pd' ∧ Core G n d fr φs hs ws listed X' vs' h' pd' φ a w ∧ depsB d.ros bf X' rest = true ∧ (∀ k, k ∈ X' ↔ k ∈ X ∨ k ∈ i :: l) ∧
        (∀ i ∈ X, vs'.get i = vs.get i ∧ pd'.get i = pd.get i) ∧ More h h' ∧ ∀ k ∈ i :: l, JF P G d fr vs' h' pd' k := by
      intro vs1 h1 pd1 hl1 c1 hag hm hj
      obtain ⟨X', vs', h', pd', hK, c', hd2, hX', hag', hm', hjf⟩ := lev_inv l rest (i :: X) c1 hd' hn2
        (fun k hk => by
          intro hx
          rcases List.mem_cons.1 hx with rfl | hx
          · exact hn1 (by simp [hk])
          · exact hX k (by simp [hk]) hx)
        (fun k hk => hE k (by simp [hk])) hl1
      refine ⟨X', vs', h', pd', hK, c', hd2, fun k => ?_, fun k hk => ?_, fun b hb => ?_, fun k hk => ?_⟩
      · rw [hX' k]; simp only [List.mem_cons]
        constructor
        · rintro ((rfl | h) | h)
          · exact .inr (.inl rfl)
          · exact .inl h
          · exact .inr (.inr h)
        · rintro (h | rfl | h)
          · exact .inl (.inr h)
          · exact .inl (.inl rfl)
          · exact .inr h
      · obtain ⟨e1, e2⟩ := hag' k (by simp [hk])
        obtain ⟨e3, e4⟩ := hag k hk
        exact ⟨by rw [e1, e3], by rw [e2, e4]⟩
      · have := hm b hb
        rw [hm' b (by rw [this]; exact hb), this]
      · rcases List.mem_cons.1 hk with rfl | hk
        · obtain ⟨e1, e2⟩ := hag' k (by simp)
          refine hj.mono (fun r' hr' t j ht => ?_) e1 e2 hm'
          rw [hr] at hr'; cases hr'
          exact (hag' j (by simp [(hs1 t j ht).2.2])).1
        · exact hjf k hk
    have hvsC : ∀ (v : Value), Core G n d fr φs hs ws listed (i :: X) (vs.set i v) h pd φ a w := fun v =>
      ⟨c.hr, c.gl, c.kp, c.sz, c.ds, c.outer, fun j q u t hdj hq hu ht => by
        rw [Tr.get_set, if_neg fun e => by subst e; exact hnd hdj] at hu
        exact c.vals j q u t hdj hq hu ht, fun j hj => List.mem_cons_of_mem _ (c.sub j hj), hsrc,
        fun j id obj hj => by
          obtain ⟨q1, q2⟩ := c.p1 j id obj hj
          exact ⟨List.mem_cons_of_mem _ q1, q2⟩, c.p2⟩
    have hwS : ∀ v, wantedS G fr (vs.set i v) r = wantedS G fr vs r := fun v => wantedS_congr fun t j ht => by
      rw [Tr.get_set, if_neg fun e => by subst e; exact hiX (hs1 t j ht).2.2]
    have hoS : ∀ v, opdS G fr (vs.set i v) r.src = opdS G fr vs r.src := fun v => opdS_congr fun t j ht => by
      rw [Tr.get_set, if_neg fun e => by subst e; exact hiX (hs1 t j ht).2.2]
    have hagS : ∀ (v : Value), ∀ j ∈ X, (vs.set i v).get j = vs.get j := fun v j hj => by
      rw [Tr.get_set, if_neg fun e => by subst e; exact hiX hj]
    simp only [levA, hr] at hl
    split at hl
    · rename_i hw
      split at hl
      · rename_i op hop
        cases ha : op.isA with
        | true =>
          rw [ha] at hl
          simp only [cond_true] at hl
          split at hl
          · rename_i obj k hal
            have hnx := c.kp.next
            have hg : ∀ m, (h.push .dead).get m = h.get m := fun m => by
              rw [AH.get_push]
              split
              · rename_i e; subst e; exact (h.get_ge (Nat.le_refl _)).symm
              · rfl
            refine key _ _ _ hl ?_ (fun j hj => ⟨hagS _ j hj, by rw [Tr.get_set, if_neg fun e => by subst e; exact hiX hj]⟩) (More.push_dead h) ⟨r, hr, .inr ⟨by rw [hwS]; exact hw, op, hop, .inr ⟨ha, obj, k, h.next, by rw [hoS]; exact hal, by rw [Tr.get_set, if_pos rfl], by rw [Tr.get_set, if_pos rfl]⟩⟩⟩
            have c0 := hvsC (k.val h.next)
            refine ⟨c0.hr.push_dead, c0.gl, c0.kp.trans (Keep.push_dead _ _ _), c0.sz, c0.ds, c0.outer, c0.vals, c0.sub, c0.src, fun j id obj' hj => ?_, fun j j' id o o' hj hj' => ?_⟩
            · rw [Tr.get_set] at hj
              by_cases e : j = i
              · subst e
                rw [if_pos rfl] at hj; cases hj
                exact ⟨by simp, by simp, hnx, by rw [hg]; exact h.get_ge (Nat.le_refl _), fun _ => c.hr.fresh _ (Nat.le_refl _), fun x => absurd x hnd⟩
              · rw [if_neg e] at hj
                obtain ⟨q1, q2, q3, q4, q5, q6⟩ := c.p1 j id obj' hj
                refine ⟨List.mem_cons_of_mem _ q1, by simp; omega, q3, by rw [hg]; exact q4, q5, fun hdj => ?_⟩
                obtain ⟨p, hp, hp1, hp2, hp3⟩ := q6 hdj
                refine ⟨p, hp, hp1, hp2, fun b q hne hb hlp => hp3 b q hne hb ?_⟩
                rcases hlp with hlv | ⟨j', o', hj', hdj'⟩
                · rw [hg] at hlv; exact .inl hlv
                · have hne' : j' ≠ i := fun e => by rw [e] at hdj'; exact hnd hdj'
                  rw [Tr.get_set, if_neg hne'] at hj'
                  exact .inr ⟨j', o', hj', hdj'⟩
            · rw [Tr.get_set] at hj hj'
              by_cases e : j = i
              · by_cases e' : j' = i
                · rw [e, e']
                · rw [if_pos e] at hj; rw [if_neg e'] at hj'
                  cases hj
                  have := (c.p1 j' _ _ hj').2.1
                  omega
              · by_cases e' : j' = i
                · rw [if_neg e] at hj; rw [if_pos e'] at hj'
                  cases hj'
                  have := (c.p1 j _ _ hj).2.1
                  omega
                · rw [if_neg e] at hj; rw [if_neg e'] at hj'
                  exact c.p2 _ _ _ _ _ hj hj'
          · exact hl.elim
        | false =>
          rw [ha] at hl
          simp only [cond_false] at hl
          split at hl
          · rename_i v h1 hrun
            have hE' : op.isN = true := by
              have := (hE i (by simp)).1
              simp only [isEat, hr, hop] at this
              exact AOp.isN_of this ha
            refine key _ _ _ hl (hvsC v) (fun j hj => ⟨hagS _ j hj, rfl⟩) (More.refl h) ⟨r, hr, .inr ⟨by rw [hwS]; exact hw, op, hop, .inl ⟨ha, hE', hpi, v, h1, by rw [hoS]; exact hrun, by rw [Tr.get_set, if_pos rfl]⟩⟩⟩
          · exact hl.elim
      · exact hl.elim
    · rename_i hw
      refine key _ _ _ hl (hvsC undef) (fun j hj => ⟨hagS _ j hj, rfl⟩) (More.refl h) ⟨r, hr, .inl ⟨by rw [hwS]; exact hw, by rw [Tr.get_set, if_pos rfl], hpi⟩⟩
    · exact hl.elim

theorem rec_inv {vs : Tr Value} {h : AH} {k : Prop} : ∀ (l : List Nat), recA AProp P G d fr l vs h k → k ∧ ∀ i ∈ l, ∀ r, d.ros[i]? = some r → wantedS G fr vs r = some true → ∀ op, r.o.op = .simple op →
    ∃ v h1, op.run P (opdS G fr vs r.src) h = some (v, h1) ∧ vs.get i = some v
  | [], hk => ⟨hk, fun i hi => by simp at hi⟩
  | i :: l, hl => by
    simp only [recA] at hl
    split at hl
    · rename_i r hr
      split at hl
      · rename_i hw
        split at hl
        · rename_i op hop
          split at hl
          · rename_i v h1 u hrun hu
            obtain ⟨hvu, hl⟩ := hl
            subst hvu
            obtain ⟨h2, h3⟩ := rec_inv l hl
            refine ⟨h2, fun j hj q hq hwq op' hop' => ?_⟩
            rcases List.mem_cons.1 hj with rfl | hj
            · rw [hr] at hq; cases hq
              rw [hop] at hop'; cases hop'
              exact ⟨v, h1, hrun, hu⟩
            · exact h3 j hj q hq hwq op' hop'
          · exact hl.elim
        · exact hl.elim
      · rename_i hw
        obtain ⟨h2, h3⟩ := rec_inv l hl
        refine ⟨h2, fun j hj q hq hwq => ?_⟩
        rcases List.mem_cons.1 hj with rfl | hj
        · rw [hr] at hq; cases hq
          rw [hw] at hwq; cases hwq
        · exact h3 j hj q hq hwq
      · exact hl.elim
    · exact hl.elim

/-- What the code and the plan have to do with each other. -/
structure Plan (P : Program) (n : Nat) (ops : Array Oper) (d : DR) (bf : List Nat) : Prop where
  bf : bf = (Region.before ops).toList
  ac : acycB 0 ops.toList = true
  len : d.ros.length = ops.size
  ro : ∀ (i : Nat) (o : Oper), ops[i]? = some o → ∃ r, d.ros[i]? = some r ∧ compRO P n ops o = some r.o
  du : dstsB d.ros = true

structure Inv (P : Program) (G n : Nat) (ops : Array Oper) (d : DR) (bf : List Nat) (fr : Fr) (cs : CS Prop) (K : Tr Value → AH → Pend → Prop) (φs : Phi) (hs : AH) (ws : World) (listed : Array Bool)
    (X : List Nat) (es reads : List Nat) (ss : List Stage) (vs : Tr Value) (h : AH) (pd : Pend) (φ : Phi) (a : Act) (w : World) : Prop where
  c : Core G n d fr φs hs ws listed X vs h pd φ a w
  run : stgA AProp P G cs d fr ss vs h pd K
  deps : depsB d.ros bf X (flat ss) = true
  stg : stagesB d.ros bf es reads ss = true
  nd : (flat ss).Nodup
  dis : ∀ i ∈ flat ss, i ∉ X
  lt : ∀ i ∈ flat ss, i < ops.size
  all : ∀ i, i < ops.size → i ∈ X ∨ i ∈ flat ss
  ed : ∀ i ∈ X, isEat d.ros i = true → Dn listed i
  jf : ∀ i ∈ X, ¬ Dn listed i → JF P G d fr vs h pd i
  rd : ∀ i ∈ X, ¬ Dn listed i → isRat d.ros i = true → i ∈ reads
  sz : listed.size = ops.size
  cl : Closed ops listed
  est : ∀ i ∈ es, i ∈ X

theorem stg_front {ros : List RD} {bf : List Nat} : ∀ {ss : List Stage} {es reads : List Nat}, stagesB ros bf es reads ss = true → ∀ i ∈ flat ss, (∃ s ss', ss = s :: ss' ∧ i = s.e) ∨ ∃ e, e ∈ flat ss ∧ bits (bf.getD i 0) e = true := by
  have gen : ∀ {ss : List Stage} {es reads : List Nat}, stagesB ros bf es reads ss = true → ∀ i ∈ flat ss, (∀ e ∈ es, bits (bf.getD i 0) e = true) ∨ ∃ e, e ∈ flat ss ∧ bits (bf.getD i 0) e = true := by
    intro ss
    induction ss with
    | nil => intro es reads _ i hi; simp [flat] at hi
    | cons s ss ih =>
      intro es reads h i hi
      simp only [stagesB, Bool.and_eq_true] at h
      obtain ⟨⟨⟨⟨⟨h1, h2⟩, h3⟩, h4⟩, h5⟩, h6⟩ := h
      simp only [flat, List.cons_append, List.mem_cons, List.mem_append] at hi ⊢
      rcases hi with rfl | hi | hi
      · exact .inl fun e he => List.all_eq_true.1 h2 e he
      · have := List.all_eq_true.1 h4 i hi
        simp only [Bool.and_eq_true] at this
        exact .inr ⟨s.e, .inl rfl, this.2⟩
      · rcases ih h6 i hi with h | ⟨e, he, hb⟩
        · exact .inr ⟨s.e, .inl rfl, h s.e (by simp)⟩
        · exact .inr ⟨e, .inr (.inr he), hb⟩
  intro ss es reads h i hi
  cases ss with
  | nil => simp [flat] at hi
  | cons s ss =>
    simp only [stagesB, Bool.and_eq_true] at h
    obtain ⟨⟨⟨⟨⟨h1, h2⟩, h3⟩, h4⟩, h5⟩, h6⟩ := h
    simp only [flat, List.cons_append, List.mem_cons, List.mem_append] at hi
    rcases hi with rfl | hi | hi
    · exact .inl ⟨s, ss, rfl, rfl⟩
    · have := List.all_eq_true.1 h4 i hi
      simp only [Bool.and_eq_true] at this
      exact .inr ⟨s.e, by simp [flat], this.2⟩
    · rcases gen h6 i hi with h | ⟨e, he, hb⟩
      · exact .inr ⟨s.e, by simp [flat], h s.e (by simp)⟩
      · exact .inr ⟨e, by simp [flat, he], hb⟩
end
end Go.Am

/-
  An abstract machine over the model's code, part 18: a region that draws its order, whole.
-/
namespace Go.Am
open Go
variable {P : Program} {G : Nat}

section
variable {n : Nat} {ops : Array Oper} {d : DR} {bf : List Nat} {fr : Fr} {cs : CS Prop} {K : Tr Value → AH → Pend → Prop} {φs : Phi} {hs : AH} {ws : World} {listed : Array Bool}
  {X es reads : List Nat} {ss : List Stage} {vs : Tr Value} {h : AH} {pd : Pend} {φ : Phi} {a : Act} {w : World}

theorem closed_set (hsz : listed.size = ops.size) (hcl : Closed ops listed) {i : Nat} {o : Oper} (ho : ops[i]? = some o) (hpre : ∀ e ∈ o.after.toList, Region.binds .any e = true → Dn listed e.on) :
    Closed ops (listed.setIfInBounds i true) := by
  have hi : i < listed.size := by rw [hsz]; exact (Array.getElem?_eq_some_iff.1 ho).1
  intro j q hq hd e he hb
  rw [dn_set hi]
  rcases (dn_set hi j).1 hd with rfl | hd
  · rw [ho] at hq; cases hq
    exact .inr (hpre e he hb)
  · exact .inr (hcl j q hq hd e he hb)

/-- Where an operation's sources are known. -/
theorem Inv.env (v : Inv P G n ops d bf fr cs K φs hs ws listed X es reads ss vs h pd φ a w) (pl : Plan P n ops d bf) {i : Nat} {o : Oper} (ho : ops[i]? = some o) (hnd : ¬ Dn listed i)
    (hpre : ∀ e ∈ o.after.toList, Region.binds .any e = true → Dn listed e.on) {r : RD} (hr : d.ros[i]? = some r) {ahead : List Nat} {l : List Nat} (hd : depsB d.ros bf ahead (i :: l) = true) :
    EnvR φ (opdS G fr vs r.src) a.eval := by
  obtain ⟨⟨r', hr', h1, h2⟩, _⟩ := depsB_cons hd
  rw [hr] at hr'; cases hr'
  refine v.c.env (fun t j ht => ?_) fun t ht j hw hdj => ?_
  · obtain ⟨e1, e2, _⟩ := h1 t j ht
    refine ⟨e1, before_done v.cl i o ho hpre j ?_⟩
    rw [← pl.bf]; exact e2
  · rcases h2 t ht j (writes_lt hw) hw with rfl | hb
    · exact hnd hdj
    · have hjl : j < ops.size := by rw [← pl.len]; exact writes_lt hw
      have hoj : ops[j]? = some ops[j] := by simp [hjl]
      refine hnd (before_done v.cl j ops[j] hoj (v.cl j ops[j] hoj hdj) i ?_)
      rw [← pl.bf]; exact hb

theorem depsB_mem {ros : List RD} {bf : List Nat} : ∀ {l ahead : List Nat}, depsB ros bf ahead l = true → ∀ i ∈ l, ∃ ahead' l', depsB ros bf ahead' (i :: l') = true
  | x :: l, ahead, h, i, hi => by
    rcases List.mem_cons.1 hi with rfl | hi
    · exact ⟨_, _, h⟩
    · exact depsB_mem (depsB_cons h).2 i hi

theorem mem_erase_of {U : List Nat} {i j : Nat} (h : j ∈ U) (hne : j ≠ i) : j ∈ U.erase i := (List.mem_erase_of_ne hne).2 h

theorem draw_run (hcs : ∀ f, SoundF P G f (cs f)) (pl : Plan P n ops d bf) (full : ∀ i, i < ops.size → ∃ ahead l, depsB d.ros bf ahead (i :: l) = true) {Q : Exit → Act → World → Prop}
    (hq : ∀ listed X vs h pd φ a w, Core G n d fr φs hs ws listed X vs h pd φ a w → (∀ i, i < ops.size → Dn listed i) → K vs h pd → Q .normal a w) :
    ∀ (fuel : Nat) {listed : Array Bool} {X es reads : List Nat} {ss : List Stage} {vs : Tr Value} {h : AH} {pd : Pend} {φ : Phi} {a : Act} {w : World} (U : List Nat), U.length ≤ fuel → (∀ i, i < ops.size → ¬ Dn listed i → i ∈ U) →
      Inv P G n ops d bf fr cs K φs hs ws listed X es reads ss vs h pd φ a w → wpAny P .any ops Q fuel listed a w := by
  -- when nothing is ready
  have fin : ∀ {listed : Array Bool} {X es reads : List Nat} {ss : List Stage} {vs : Tr Value} {h : AH} {pd : Pend} {φ : Phi} {a : Act} {w : World},
      Inv P G n ops d bf fr cs K φs hs ws listed X es reads ss vs h pd φ a w → Region.ready .any ops listed = [] → Q .normal a w := by
    intro listed X es reads ss vs h pd φ a w v hr
    have hall := all_done pl.ac v.sz hr
    have hss : ss = [] := by
      cases ss with
      | nil => rfl
      | cons s ss =>
        have hm : s.e ∈ flat (s :: ss) := by simp [flat]
        exact absurd (v.c.sub _ (hall _ (v.lt _ hm))) (v.dis _ hm)
    subst hss
    exact hq listed X vs h pd φ a w v.c hall v.run
  intro fuel
  induction fuel with
  | zero =>
    intro listed X es reads ss vs h pd φ a w U hU hUa v
    have hr : Region.ready .any ops listed = [] := by
      cases hrd : Region.ready .any ops listed with
      | nil => rfl
      | cons i l =>
        obtain ⟨o, ho, hl, _⟩ := ready_iff (ops := ops) (listed := listed) (i := i) (by rw [hrd]; simp)
        have hi : i < ops.size := (Array.getElem?_eq_some_iff.1 ho).1
        have : i ∈ U := hUa i hi fun hd => by
          have hi' : i < listed.size := by rw [v.sz]; exact hi
          unfold Dn at hd
          rw [Array.getD_eq_getD_getElem?] at hd hl
          simp [hi'] at hd hl
          rw [hl] at hd; cases hd
        have := List.length_pos_of_mem this
        omega
    exact ⟨hr, fin v hr⟩
  | succ fuel ih =>
    intro listed X es reads ss vs h pd φ a w U hU hUa v
    refine ⟨fun hr => fin v hr, fun i hi => ?_⟩
    obtain ⟨o, ho, hl, hpre⟩ := ready_iff hi
    have hio : i < ops.size := (Array.getElem?_eq_some_iff.1 ho).1
    have hil : i < listed.size := by rw [v.sz]; exact hio
    have hnd : ¬ Dn listed i := fun hd => by
      unfold Dn at hd
      rw [Array.getD_eq_getD_getElem?] at hd hl
      simp [hil] at hd hl
      rw [hl] at hd; cases hd
    have hbef : ∀ j, bits (bf.getD i 0) j = true → Dn listed j := fun j hj => by
      rw [pl.bf] at hj
      exact before_done v.cl i o ho hpre j hj
    have hcl' := closed_set v.sz v.cl ho hpre
    have hsz' : (listed.setIfInBounds i true).size = ops.size := by simp [v.sz]
    have hiU : i ∈ U := hUa i hio hnd
    have hU' : (U.erase i).length ≤ fuel := by rw [List.length_erase_of_mem hiU]; omega
    have hUa' : ∀ j, j < ops.size → ¬ Dn (listed.setIfInBounds i true) j → j ∈ U.erase i := fun j hj hd => by
      have hne : j ≠ i := fun e => hd ((dn_set hil j).2 (.inl e))
      exact mem_erase_of (hUa j hj fun x => hd ((dn_set hil j).2 (.inr x))) hne
    obtain ⟨r, hri, hro⟩ := pl.ro i o ho
    obtain ⟨hop, hdst, hdn, hg⟩ := compRO_inv hro
    obtain ⟨ahead0, l0, hdep0⟩ := full i hio
    have he : EnvR φ (opdS G fr vs r.src) a.eval := v.env pl ho hnd hpre hri hdep0
    have hw : ∀ b, wantedS G fr vs r = some b → Region.wanted o (yielded ops a.tmps) = b := fun b hb => by
      unfold wantedS at hb
      exact wantedV_ok hg he hb
    have hdr : ∀ k, r.o.dst = some k → k < n := fun k hk => hdn k (by rw [← hdst]; exact hk)
    unfold wpOp
    simp only [ho]
    by_cases hiX : i ∈ X
    · -- it has been reckoned
      have hj := v.jf i hiX hnd
      obtain ⟨r', hr', hc⟩ := hj
      rw [hri] at hr'; cases hr'
      have back : ∀ {φ' : Phi} {a' : Act} {w' : World}, Core G n d fr φs hs ws (listed.setIfInBounds i true) X vs h pd φ' a' w' → wpAny P .any ops Q fuel (listed.setIfInBounds i true) a' w' := fun c' =>
        ih (U.erase i) hU' hUa' ⟨c', v.run, v.deps, v.stg, v.nd, v.dis, v.lt, v.all, fun j hj he => (dn_set hil j).2 (.inr (v.ed j hj he)),
          fun j hj hd => v.jf j hj fun x => hd ((dn_set hil j).2 (.inr x)), fun j hj hd => v.rd j hj fun x => hd ((dn_set hil j).2 (.inr x)), hsz', hcl', v.est⟩
      rcases hc with ⟨hwf, hvi, hpi⟩ | ⟨hwt, op, hro', hc⟩
      · rw [hw _ hwf]
        simp only [Bool.false_eq_true, if_false]
        rw [← hdst]
        exact back (v.c.step pl.du hil hpi hri hdr v.c.hr (Keep.refl _ _ _) (VR.tuple (c := []) (c' := []) .nil) (fun _ h => h) hiX v.c.src (fun _ _ _ => rfl) hvi)
      · rw [hw _ hwt]
        simp only [if_true]
        refine .inl ?_
        rw [hro'] at hop
        rcases hc with ⟨hA, hN, hpi, u, h1, hrun, hvi⟩ | ⟨hA, obj, k, id, hal, hpi, hvi⟩
        · have := run_N hN hrun; subst this
          refine x_sound hcs hop v.c.hr v.c.gl he (K := fun v' h' => v' = u ∧ h' = h1) ?_ fun φ' v1 h1' v' w' hK hv hr' hk' => ?_
          · simp [xrunA, hrun]
          · obtain ⟨rfl, rfl⟩ := hK
            rw [← hdst]
            exact back (v.c.step pl.du hil hpi hri hdr hr' hk' hv (fun _ h => h) hiX v.c.src (fun _ _ _ => rfl) hvi)
        · have hop' : compOp P o = some op := by
            unfold compX at hop
            split at hop
            · rename_i f' args' hca
              cases hb : hasBody P f' with
              | true => rw [hb] at hop; cases hop
              | false => rw [hb] at hop; cases hop; cases hA
            · split at hop
              · cases hop
              · split at hop
                · obtain ⟨hb, hop2⟩ := condT hop rfl; cases hop2
                · obtain ⟨x, hx1, hx⟩ := Option.map_eq_some_iff.1 hop; cases hx; exact hx1
          obtain ⟨v', w', ob', ext, e1, e2, e3, e4, e5⟩ := alloc_conc hop' hA he hal w
          unfold Oper.wp
          rw [e1]
          show wpAny P .any ops Q fuel (listed.setIfInBounds i true) (a.put o.dst v') w'
          rw [← hdst]
          exact back (v.c.made pl.du hil hnd hpi hri hdr hvi e2 e3 e4 e5)
    · -- it acts
      have hif : i ∈ flat ss := (v.all i hio).resolve_left hiX
      rcases stg_front v.stg i hif with ⟨s, ss', rfl, rfl⟩ | ⟨e, hef, hb⟩
      · have hst := v.stg
        simp only [stagesB, Bool.and_eq_true] at hst
        obtain ⟨⟨⟨⟨⟨g1, g2⟩, g3⟩, g4⟩, g5⟩, g6⟩ := hst
        have hrun := v.run
        simp only [stgA, hri] at hrun
        have hdep := v.deps
        simp only [flat, List.cons_append] at hdep
        obtain ⟨⟨r', hr', hs1, _⟩, hdep'⟩ := depsB_cons hdep
        rw [hri] at hr'; cases hr'
        have hnd2 := v.nd
        simp only [flat, List.cons_append] at hnd2
        obtain ⟨n1, n2⟩ := List.nodup_cons.1 hnd2
        obtain ⟨cab, hpab⟩ := v.c.absorb s.ab fun j hj => hbef j (List.all_eq_true.1 g3 j hj)
        have hpi : (absA s.ab h pd).2.get s.e = none := by
          cases hp : (absA s.ab h pd).2.get s.e with
          | none => rfl
          | some q => exact absurd (cab.p1 s.e q.1 q.2 hp).1 hiX
        have hsrc : ∀ i' r' t j, i' ∈ s.e :: X → d.ros[i']? = some r' → (t, some j) ∈ r'.src → j ∈ s.e :: X := by
          intro i' r' t j hi' hr' ht
          rcases List.mem_cons.1 hi' with rfl | hi'
          · rw [hri] at hr'; cases hr'
            exact List.mem_cons_of_mem _ (hs1 t j ht).2.2
          · exact List.mem_cons_of_mem _ (v.c.src i' r' t j hi' hr' ht)
        -- behind it
        have behind : ∀ {φ' : Phi} {u u' : Value} {h1 : AH} {w1 : World}, HR φ' h1 w1 → Keep φ (absA s.ab h pd).1 w φ' h1 w1 → VR φ' u u' →
            (levA AProp P G d fr s.lev (vs.set s.e u) h1 (absA s.ab h pd).2 fun vs h pd => recA AProp P G d fr s.re vs h (stgA AProp P G cs d fr ss' vs h pd K)) →
            wpAny P .any ops Q fuel (listed.setIfInBounds s.e true) (a.put o.dst u') w1 := by
          intro φ' u u' h1 w1 hr1 hk1 hv1 hl1
          have c1 := cab.step pl.du hil hpi hri hdr hr1 hk1 hv1 (X' := s.e :: X) (fun _ h => List.mem_cons_of_mem _ h) (by simp) hsrc (vs' := vs.set s.e u)
            (fun j hne _ => by rw [Tr.get_set, if_neg hne]) (by rw [Tr.get_set, if_pos rfl])
          rw [hdst] at c1
          have hlevD : ∀ j ∈ s.lev, isEat d.ros j = false ∧ ¬ Dn (listed.setIfInBounds s.e true) j := fun j hj => by
            have := List.all_eq_true.1 g4 j hj
            simp only [Bool.and_eq_true, Bool.not_eq_true'] at this
            refine ⟨this.1, fun hd => ?_⟩
            have hjf : j ∈ flat (s :: ss') := by simp [flat, hj]
            rcases (dn_set hil j).1 hd with e | hd
            · exact n1 (by rw [← e]; simp [hj])
            · exact v.dis j hjf (v.c.sub j hd)
          obtain ⟨X', vs', h', pd', hK, c', hd2, hX', hag, hm, hjf⟩ := lev_inv s.lev (flat ss') (s.e :: X) c1 hdep' n2
            (fun j hj hx => by
              rcases List.mem_cons.1 hx with rfl | hx
              · exact n1 (by simp [hj])
              · exact v.dis j (by simp [flat, hj]) hx) hlevD hl1
          obtain ⟨hK, hre⟩ := rec_inv _ hK
          have hag2 : ∀ j ∈ X, vs'.get j = vs.get j := fun j hj => by
            rw [(hag j (by simp [hj])).1, Tr.get_set, if_neg fun e => by subst e; exact hiX hj]
          refine ih (U.erase s.e) hU' hUa' (es := s.e :: es) (ss := ss') ⟨c', hK, hd2, g6, (List.nodup_append.1 n2).2.1, fun j hj hx => ?_, fun j hj => v.lt j (by simp [flat, hj]), fun j hj => ?_, fun j hj hej => ?_, fun j hj hdj => ?_, fun j hj hdj hrj => ?_, hsz', hcl', fun j hj => ?_⟩
          · rcases (hX' j).1 hx with hx | hx
            · rcases List.mem_cons.1 hx with rfl | hx
              · exact n1 (by simp [hj])
              · exact v.dis j (by simp [flat, hj]) hx
            · exact (List.nodup_append.1 n2).2.2 j hx j hj rfl
          · rcases v.all j hj with hx | hx
            · exact .inl ((hX' j).2 (.inl (by simp [hx])))
            · simp only [flat, List.cons_append, List.mem_cons, List.mem_append] at hx
              rcases hx with rfl | hx | hx
              · exact .inl ((hX' _).2 (.inl (by simp)))
              · exact .inl ((hX' j).2 (.inr hx))
              · exact .inr hx
          · rcases (hX' j).1 hj with hx | hx
            · rcases List.mem_cons.1 hx with rfl | hx
              · exact (dn_set hil _).2 (.inl rfl)
              · exact (dn_set hil j).2 (.inr (v.ed j hx hej))
            · rw [(hlevD j hx).1] at hej; cases hej
          · rcases (hX' j).1 hj with hx | hx
            · rcases List.mem_cons.1 hx with rfl | hx
              · exact absurd ((dn_set hil _).2 (.inl rfl)) hdj
              · have hdj0 : ¬ Dn listed j := fun x => hdj ((dn_set hil j).2 (.inr x))
                obtain ⟨q, hq0, hc⟩ := v.jf j hx hdj0
                have e1 : wantedS G fr vs' q = wantedS G fr vs q := wantedS_congr fun t k ht => hag2 k (v.c.src j q t k hx hq0 ht)
                have e2 : opdS G fr vs' q.src = opdS G fr vs q.src := opdS_congr fun t k ht => hag2 k (v.c.src j q t k hx hq0 ht)
                have e3 : pd'.get j = pd.get j := by rw [(hag j (by simp [hx])).2, hpab j hdj0]
                refine ⟨q, hq0, ?_⟩
                rw [e1, e2, e3, hag2 j hx]
                rcases hc with hc | ⟨hwt, op, ho', hc⟩
                · exact .inl hc
                · refine .inr ⟨hwt, op, ho', ?_⟩
                  rcases hc with ⟨hA, hN, hp, u1, h2, hr2, hu1⟩ | hc
                  · by_cases hpu : op.pure = true
                    · exact .inl ⟨hA, hN, hp, u1, h', run_pure hpu hr2 h', hu1⟩
                    · have hrat : isRat d.ros j = true := by
                        simp only [isRat, hq0, ho', XOp.isE, XOp.isA, XOp.pure, hN, hA]
                        simp [hpu]
                      have hjr := v.rd j hx hdj0 hrat
                      have hnb : bits (bf.getD s.e 0) j = false := by
                        cases hb : bits (bf.getD s.e 0) j with
                        | false => rfl
                        | true => exact absurd (hbef j hb) hdj0
                      have hjre : j ∈ s.re := by
                        have := List.all_eq_true.1 g5 j (List.mem_filter.2 ⟨hjr, by rw [hnb]; rfl⟩)
                        simpa using this
                      obtain ⟨v3, h3, hr3, hv3⟩ := hre j hjre q hq0 (by rw [e1]; exact hwt) op ho'
                      rw [e2] at hr3
                      refine .inl ⟨hA, hN, hp, v3, h3, hr3, ?_⟩
                      rw [← hv3, hag2 j hx]
                  · exact .inr hc
            · exact hjf j hx
          · rcases (hX' j).1 hj with hx | hx
            · rcases List.mem_cons.1 hx with rfl | hx
              · exact absurd ((dn_set hil _).2 (.inl rfl)) hdj
              · have hdj0 : ¬ Dn listed j := fun x => hdj ((dn_set hil j).2 (.inr x))
                have hjr := v.rd j hx hdj0 hrj
                have hnb : bits (bf.getD s.e 0) j = false := by
                  cases hb : bits (bf.getD s.e 0) j with
                  | false => rfl
                  | true => exact absurd (hbef j hb) hdj0
                exact List.mem_append.2 (.inl (List.mem_filter.2 ⟨hjr, by rw [hnb]; rfl⟩))
            · exact List.mem_append.2 (.inr (List.mem_filter.2 ⟨hx, hrj⟩))
          · rcases List.mem_cons.1 hj with rfl | hj
            · exact (hX' _).2 (.inl (by simp))
            · exact (hX' j).2 (.inl (by simp [v.est j hj]))
        split at hrun
        · rename_i hwt
          rw [hw _ hwt]
          simp only [if_true]
          refine .inl ?_
          exact x_sound hcs hop cab.hr cab.gl he hrun fun φ' u h1 u' w1 hK hv1 hr1 hk1 => behind hr1 hk1 hv1 hK
        · rename_i hwf
          rw [hw _ hwf]
          simp only [Bool.false_eq_true, if_false]
          exact behind cab.hr (Keep.refl _ _ _) (VR.tuple (c := []) (c' := []) .nil) hrun
        · exact hrun.elim
      · exact absurd (v.c.sub e (hbef e hb)) (v.dis e hef)

theorem fin_get : ∀ (l : List RD) (i : Nat) (t : Tr Value), (∀ (j k : Nat) (r q : RD) (s : Nat), l[j]? = some r → l[k]? = some q → r.o.dst = some s → q.o.dst = some s → j = k) →
    ∀ s u, (finA i l vs t).get s = some u → (∃ (j : Nat) (r : RD), l[j]? = some r ∧ r.o.dst = some s ∧ vs.get (i + j) = some u) ∨ ((∀ (j : Nat) (r : RD), l[j]? = some r → r.o.dst ≠ some s) ∧ t.get s = some u)
  | [], i, t, _, s, u, h => .inr ⟨fun j r h => by simp at h, h⟩
  | x :: l, i, t, hu, s, u, h => by
    have hu' : ∀ (j k : Nat) (r q : RD) (s : Nat), l[j]? = some r → l[k]? = some q → r.o.dst = some s → q.o.dst = some s → j = k := fun j k r q s h1 h2 h3 h4 => by
      have := hu (j + 1) (k + 1) r q s (by simpa using h1) (by simpa using h2) h3 h4
      omega
    have lift : ∀ t' : Tr Value, ((∃ (j : Nat) (r : RD), l[j]? = some r ∧ r.o.dst = some s ∧ vs.get (i + 1 + j) = some u) ∨ ((∀ (j : Nat) (r : RD), l[j]? = some r → r.o.dst ≠ some s) ∧ t'.get s = some u)) →
        (∃ (j : Nat) (r : RD), (x :: l)[j]? = some r ∧ r.o.dst = some s ∧ vs.get (i + j) = some u) ∨ ((∀ (j : Nat) (r : RD), l[j]? = some r → r.o.dst ≠ some s) ∧ t'.get s = some u) := by
      rintro t' (⟨j, r, h1, h2, h3⟩ | h1)
      · exact .inl ⟨j + 1, r, by simpa using h1, h2, by rw [← h3]; congr 1; omega⟩
      · exact .inr h1
    have cl : ∀ (hx : x.o.dst ≠ some s), (∀ (j : Nat) (r : RD), l[j]? = some r → r.o.dst ≠ some s) → ∀ (j : Nat) (r : RD), (x :: l)[j]? = some r → r.o.dst ≠ some s := fun hx h j r hj => by
      cases j with
      | zero => simp at hj; subst hj; exact hx
      | succ j => exact h j r (by simpa using hj)
    simp only [finA] at h
    cases hx : x.o.dst with
    | none =>
      rw [hx] at h
      rcases lift _ (fin_get l (i + 1) _ hu' s u h) with h1 | ⟨h1, h2⟩
      · exact .inl h1
      · exact .inr ⟨cl (by rw [hx]; simp) h1, h2⟩
    | some s' =>
      rw [hx] at h
      simp only at h
      split at h
      · rename_i v' hv'
        rcases lift _ (fin_get l (i + 1) _ hu' s u h) with h1 | ⟨h1, h2⟩
        · exact .inl h1
        · rw [Tr.get_set] at h2
          by_cases e : s = s'
          · subst e
            rw [if_pos rfl] at h2; cases h2
            exact .inl ⟨0, x, rfl, hx, hv'⟩
          · rw [if_neg e] at h2
            exact .inr ⟨cl (by rw [hx]; simpa using fun e' => e e'.symm) h1, h2⟩
      · rcases lift _ (fin_get l (i + 1) _ hu' s u h) with h1 | ⟨h1, h2⟩
        · exact .inl h1
        · rw [Tr.get_del] at h2
          by_cases e : s = s'
          · rw [if_pos e] at h2; cases h2
          · rw [if_neg e] at h2
            exact .inr ⟨cl (by rw [hx]; simpa using fun e' => e e'.symm) h1, h2⟩
end

theorem length_le_below : ∀ (N : Nat) {l : List Nat}, l.Nodup → (∀ i ∈ l, i < N) → l.length ≤ N
  | 0, l, _, h => by cases l with
    | nil => simp
    | cons x l => exact absurd (h x (by simp)) (by omega)
  | N + 1, l, hn, h => by
    have h1 := length_le_below N (l := l.erase N) (hn.erase N) fun i hi => by
      obtain ⟨h2, h3⟩ := (List.Nodup.mem_erase_iff hn).1 hi
      have := h i h3
      omega
    have h2 : l.length ≤ (l.erase N).length + 1 := by
      by_cases hN : N ∈ l
      · rw [List.length_erase_of_mem hN]; omega
      · rw [List.erase_of_not_mem hN]; omega
    omega
theorem pigeon {N : Nat} {l : List Nat} (hn : l.Nodup) (h : ∀ i ∈ l, i < N) (hl : l.length = N) (i : Nat) (hi : i < N) : i ∈ l := by
  by_cases hm : i ∈ l
  · exact hm
  · have := length_le_below N (l := i :: l) (List.nodup_cons.2 ⟨hm, hn⟩) fun j hj => by
      rcases List.mem_cons.1 hj with rfl | hj
      · exact hi
      · exact h j hj
    simp at this; omega

theorem draw_sound (hm : P.follows .mixedOrders = true) {n : Nat} {cs : CS Prop} (hcs : ∀ f, SoundF P G f (cs f)) : SoundDraw P G n (compDraw P n) (fun d => drawA AProp P G cs d) := by
  intro id ops d hd φ0 h0 w0 φ fr h a w rel K hs Q hq
  unfold compDraw at hd
  split at hd
  · rename_i ros hros
    obtain ⟨hb, hd⟩ := condT hd rfl
    obtain ⟨bf, hbf⟩ : ∃ bf, bf = (Region.before ops).toList := ⟨_, rfl⟩
    rw [← hbf] at hb hd
    rw [Bool.and_eq_true] at hb
    obtain ⟨hac, hok⟩ := hb
    obtain ⟨r1, r2⟩ := compROs_get hros
    cases hd
    obtain ⟨d, hdd⟩ : ∃ d, d = mkDR ros bf := ⟨_, rfl⟩
    rw [← hdd] at hok hs
    have hlen : d.ros.length = ops.size := by rw [hdd]; simp [mkDR, r1]
    have hro : ∀ (i : Nat) (o : Oper), ops[i]? = some o → ∃ r, d.ros[i]? = some r ∧ compRO P n ops o = some r.o := fun i o ho => by
      obtain ⟨r, h1, h2⟩ := r2 i o (by simpa using ho)
      rw [hdd]
      simp only [mkDR, List.getElem?_map, List.getElem?_zipIdx, h1, Option.map_some]
      exact ⟨_, rfl, h2⟩
    simp only [drawOk, Bool.and_eq_true] at hok
    obtain ⟨⟨⟨⟨⟨⟨k1, k2⟩, k3⟩, k4⟩, k5⟩, k6⟩, k7⟩ := hok
    have pl : Plan P n ops d bf := ⟨hbf, hac, hlen, hro, k4⟩
    have hnd := nodupB_inv k2
    have hlt : ∀ i ∈ d.lev0 ++ flat d.stages, i < ops.size := fun i hi => by
      have := List.all_eq_true.1 k3 i hi
      rw [nblt, hlen] at this; exact this
    have hmem : ∀ i, i < ops.size → i ∈ d.lev0 ++ flat d.stages := by
      rw [nbeq, hlen] at k1
      -- a list without repeats, of that many numbers below it
      exact fun i hi => pigeon hnd hlt k1 i hi
    have c0 : Core G n d fr φ h { w with drawn := w.drawn + 1 } (Array.replicate ops.size false) [] .leaf h .leaf φ a { w with drawn := w.drawn + 1 } := by
      have hnone : ∀ j, ¬ Dn (Array.replicate ops.size false) j := fun j hj => by
        unfold Dn at hj
        rw [Array.getD_eq_getD_getElem?, Array.getElem?_replicate] at hj
        split at hj <;> simp at hj
      refine ⟨rel.hr.same_heap rfl, rel.gl, Keep.refl _ _ _, rel.sz, rel.ds, fun t v ht _ => rel.fm t v ht, fun j r v t hj => absurd hj (hnone j), fun j hj => absurd hj (hnone j), fun i r t j hi => by simp at hi, fun i id obj hi => by simp at hi, fun i j id o o' hi => by simp at hi⟩
    refine wp_region_any hm ?_
    simp only [drawA] at hs
    have hnone : ∀ j, ¬ Dn (Array.replicate ops.size false) j := fun j hj => by
      unfold Dn at hj
      rw [Array.getD_eq_getD_getElem?, Array.getElem?_replicate] at hj
      split at hj <;> simp at hj
    obtain ⟨X', vs', h', pd', hK, c', hd2, hX', _, _, hjf⟩ := lev_inv d.lev0 (flat d.stages) [] c0 k5 hnd (fun i _ hi => by simp at hi)
      (fun i hi => ⟨by have := List.all_eq_true.1 k6 i hi; simpa using this, hnone i⟩) hs
    have hXl : ∀ i, i ∈ X' ↔ i ∈ d.lev0 := fun i => by rw [hX' i]; simp
    refine draw_run hcs pl (fun i hi => depsB_mem k5 i (hmem i hi)) (Q := Q) (fr := fr) (φs := φ) (hs := h) (ws := { w with drawn := w.drawn + 1 }) ?_ ops.size (List.range ops.size) (by simp) (fun i hi _ => by simpa using hi)
      (es := []) (reads := d.lev0.filter (isRat d.ros)) (ss := d.stages) ⟨c', hK, hd2, k7, (List.nodup_append.1 hnd).2.1, fun i hi hx => ?_, fun i hi => hlt i (by simp [hi]), fun i hi => ?_, fun i hi hE => ?_, fun i hi _ => hjf i ((hXl i).1 hi), fun i hi _ hr => List.mem_filter.2 ⟨(hXl i).1 hi, hr⟩, by simp, fun j o _ hj => absurd hj (hnone j), fun i hi => by simp at hi⟩
    · intro listed X vs h2 pd φ2 a2 w2 c hall hK2
      have hfin : ∀ i ∈ d.fin, Dn listed i := fun i hi => by
        refine hall i ?_
        have : i ∈ d.fin := hi
        rw [hdd] at this
        simp only [mkDR, List.mem_filter, List.mem_range, r1, Array.length_toList] at this
        exact this.1
      obtain ⟨cf, _⟩ := c.absorb d.fin hfin
      · refine hq φ2 _ _ a2 w2 hK2 ⟨cf.hr, cf.gl, fun s u hu => ?_, cf.sz, cf.ds, (rel.kp.trans (Keep.same_heap _ _ (w' := { w with drawn := w.drawn + 1 }) ⟨rfl, rfl, rfl⟩ rfl)).trans cf.kp⟩
        rcases fin_get d.ros 0 fr.t (fun j k r q s h1 h2 h3 h4 => dsts_inv k4 h1 h2 h3 h4) s u hu with ⟨j, r, h1, h3, h4⟩ | ⟨h1, h3⟩
        · rw [Nat.zero_add] at h4
          exact cf.vals j r u s (hall j (by rw [← hlen]; exact (List.getElem?_eq_some_iff.1 h1).1)) h1 h4 h3
        · refine cf.outer s u h3 fun j hw => ?_
          obtain ⟨r, hr, hdr⟩ := writes_inv hw
          exact absurd hdr (h1 j r hr)
    · have := (List.nodup_append.1 hnd).2.2 i ((hXl i).1 hx) i hi
      exact this rfl
    · rcases List.mem_append.1 (hmem i hi) with h | h
      · exact .inl ((hXl i).2 h)
      · exact .inr h
    · have := List.all_eq_true.1 k6 i ((hXl i).1 hi)
      rw [hE] at this; cases this
  · cases hd
end Go.Am
