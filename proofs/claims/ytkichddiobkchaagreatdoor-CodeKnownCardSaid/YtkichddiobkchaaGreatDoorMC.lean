/-
  The abstract machine over the model's code and the machines over it: C1 to D9, joined.
-/
import Derived.Test.YtkichddiobkchaaGreatDoorMB
import Derived.Defers
import Derived.Laws.Strings
set_option linter.unusedSectionVars false
set_option linter.unusedVariables false
set_option linter.unusedSimpArgs false
/-
  An abstract machine over the model's code, part 19: functions.
-/
namespace Go.Am
open Go
variable {P : Program} {G : Nat}

/-- A function that defers nothing. -/
def callA0 {R : Type} (A : Alg R) (P : Program) (G : Nat) (cs : CS R) (lo : LO R) (f : AF) (args : List Value) (h : AH) (K : Value → AH → R) : R :=
  execA A P G cs lo (fun d => drawA A P G cs d) f.body ⟨frameOf 0 args .leaf, []⟩ h fun e fr h => match e with
    | .exit _ => A.bot
    | _ => match fr.d with
      | [] => match resA fr h f.res with
        | some vs => K (oneOf vs) h
        | none => A.bot
      | _ :: _ => A.bot
/-- The same of a function that is deferred. -/
def SoundD (P : Program) (G : Nat) (f : FuncId) (S : List Value → AH → (Value → AH → Prop) → Prop) : Prop :=
  ∀ args h Q, S args h Q → hasBody P f = true ∧ ∀ φ w args', HR φ h w → GlobR G φ → VRs φ args args'.toList → ∀ u, CallsD P f args' u w fun e u' w' => u' = u ∧ Post φ h w Q e w'

theorem frameOf_get : ∀ (l : List Value) (i : Nat) (t : Tr Value) (s : Nat) (v : Value), (frameOf i l t).get s = some v → (∃ k, s = i + k ∧ l[k]? = some v) ∨ t.get s = some v
  | [], i, t, s, v, h => .inr h
  | x :: l, i, t, s, v, h => by
    rcases frameOf_get l (i + 1) _ s v h with ⟨k, h1, h2⟩ | h1
    · exact .inl ⟨k + 1, by omega, by simpa using h2⟩
    · rw [Tr.get_set] at h1
      by_cases e : s = i
      · rw [if_pos e] at h1; cases h1
        exact .inl ⟨0, by omega, rfl⟩
      · rw [if_neg e] at h1; exact .inr h1

theorem cell_run {φ : Phi} {h : AH} {w : World} (hr : HR φ h w) {t : TypeId} {i : TypeInfo} {d : TypeDesc} (hi : P.info? t = some i) (hd : P.underlying t = some d)
    {v v' u : Value} {b o : Nat} {ro : Bool} {c : List Value} (hc : cellsAt h v = some (b, o, ro, c)) (hv : VR φ v v')
    (hu : (isAggD d = true ∧ o + i.size ≤ c.length ∧ u = .agg ((c.drop o).take i.size).toArray) ∨ (isAggD d = false ∧ c[o]? = some u)) :
    ∃ u', (do loadVar t (← asAddr v') : Sem Value).run P w = .ok u' w ∧ VR φ u u' := by
  obtain ⟨rfl, hb⟩ := cellsAt_inv hc
  obtain ⟨p, hp, rfl⟩ := hv.ptr_inv
  obtain ⟨p', pc, e, f, hp', hw, h2, h3, _, h5⟩ := hr.cells hb
  rw [hp] at hp'; cases hp'
  rcases hu with ⟨ht, hn, hu⟩ | ⟨ht, hu⟩
  · obtain ⟨l', hl, hv, _⟩ := load_cells (P := P) hr hb hp hn
    refine ⟨.agg l'.toArray, ?_, by rw [hu]; exact .agg hv⟩
    simp only [asAddr, Sem.run_bind, Sem.run_pure, Result.andThen_ok, loadVar, run_isAggD hd, ht, if_true, run_sizeOf' hi, hl]
  · obtain ⟨u', hu', huv⟩ := h5.get hu
    have ho : o < c.length := (List.getElem?_eq_some_iff.1 hu).1
    rw [List.getElem?_take, if_pos ho, List.getElem?_drop] at hu'
    refine ⟨u', ?_, huv⟩
    have hcell : w.cell? ⟨p.blk, p.off + o, none⟩ = some u' := by simp only [World.cell?, hw]; simpa using hu'
    simp only [asAddr, Sem.run_bind, Sem.run_pure, Result.andThen_ok, loadVar, run_isAggD hd, ht, if_false, Bool.false_eq_true, run_load, hcell]

theorem res_list {φ : Phi} {fr : Fr} {tmps : Array Value} {h : AH} {w : World} (hr : HR φ h w) (hf : FrR φ fr tmps) : ∀ (l : List ResultVar) (rs : List ARes) (vs : List Value), compRes P l = some rs → resA fr h rs = some vs →
    ∃ vs', (l.mapM fun
    | .tmp t => pure (tmps.getD t undef)
    | .cell a t => do loadVar t (← asAddr (tmps.getD a undef)) : Sem (List Value)).run P w = .ok vs' w ∧ VRs φ vs vs'
  | [], rs, vs, hc, hs => by
    simp [compRes] at hc; subst hc
    simp [resA] at hs; subst hs
    exact ⟨[], rfl, .nil⟩
  | .tmp t :: l, rs, vs, hc, hs => by
    simp only [compRes, Option.map_eq_some_iff] at hc
    obtain ⟨rs', hc, rfl⟩ := hc
    simp only [resA] at hs
    split at hs
    · rename_i v r hv hvs
      cases hs
      obtain ⟨vs', h1, h2⟩ := res_list hr hf l rs' r hc hvs
      obtain ⟨v', h3, h4⟩ := hf t v hv
      have hget : tmps.getD t undef = v' := by rw [Array.getD_eq_getD_getElem?, h3]; rfl
      refine ⟨v' :: vs', ?_, .cons h4 h2⟩
      rw [List.mapM_cons]
      simp only [Sem.run_bind, Sem.run_pure, Result.andThen_ok, hget, h1]
    · cases hs
  | .cell a t :: l, rs, vs, hc, hs => by
    simp only [compRes] at hc
    split at hc
    · rename_i g rs' hg hc'
      cases hc
      obtain ⟨i, d, hi, hd, rfl⟩ := aggOf_inv hg
      simp only [resA] at hs
      split at hs
      · rename_i av hav
        split at hs
        · rename_i b o ro c r hca hvs
          obtain ⟨vs', h1, h2⟩ := res_list hr hf l rs' r hc' hvs
          obtain ⟨a', h3, h4⟩ := hf a av hav
          have hget : tmps.getD a undef = a' := by rw [Array.getD_eq_getD_getElem?, h3]; rfl
          have fin : ∀ u, ((isAggD d = true ∧ o + i.size ≤ c.length ∧ u = .agg ((c.drop o).take i.size).toArray) ∨ (isAggD d = false ∧ c[o]? = some u)) → vs = u :: r →
              ∃ vs', ((ResultVar.cell a t :: l).mapM fun
              | .tmp t => pure (tmps.getD t undef)
              | .cell a t => do loadVar t (← asAddr (tmps.getD a undef)) : Sem (List Value)).run P w = .ok vs' w ∧ VRs φ vs vs' := by
            intro u hu hvsu
            obtain ⟨u', h5, h6⟩ := cell_run (P := P) hr hi hd hca h4 hu
            refine ⟨u' :: vs', ?_, by rw [hvsu]; exact .cons h6 h2⟩
            rw [List.mapM_cons]
            rw [Sem.run_bind]
            simp only [hget, h5, Result.andThen_ok, Sem.run_bind, h1, Sem.run_pure]
          cases hag : isAggD d with
          | true =>
            rw [hag] at hs
            simp only [cond_true] at hs
            obtain ⟨hb, hs2⟩ := condT hs rfl
            cases hs2
            exact fin _ (.inl ⟨hag, by simpa using hb, rfl⟩) rfl
          | false =>
            rw [hag] at hs
            simp only [cond_false, Option.map_eq_some_iff] at hs
            obtain ⟨u, hu, rfl⟩ := hs
            exact fin u (.inr ⟨hag, hu⟩) rfl
        · cases hs
      · cases hs
    · cases hc

theorem res_ok {φ : Phi} {fr : Fr} {tmps : Array Value} {h : AH} {w : World} (hr : HR φ h w) (hf : FrR φ fr tmps) {fn : Func} {rs : List ARes} {vs : List Value} (hc : compRes P fn.results.toList = some rs) (hs : resA fr h rs = some vs) :
    ∃ v', (results fn tmps).run P w = .ok v' w ∧ VR φ (oneOf vs) v' := by
  obtain ⟨vs', h1, h2⟩ := res_list (P := P) hr hf _ _ _ hc hs
  refine ⟨if h : vs'.toArray.size = 1 then vs'.toArray[0] else .tuple vs'.toArray, ?_, ?_⟩
  · unfold results
    rw [Sem.run_bind, Array.mapM_eq_mapM_toList]
    simp only [Sem.run_map, Sem.run_pure]
    exact congrArg (fun x => Result.andThen (Result.andThen x _) _) h1
  · cases h2 with
    | nil => exact VR.tuple (c := []) (c' := []) .nil
    | cons hv ht => cases ht with
      | nil => exact hv
      | cons hv2 ht2 => exact VR.tuple (.cons hv (.cons hv2 ht2))

/-- The deferred calls, and what is handed back. -/
theorem leaves_ok {csd : CS Prop} (hcd : ∀ f, SoundD P G f (csd f)) {φ0 : Phi} {h0 : AH} {w0 : World} {fr : Fr} {tmps : Array Value} {fn : Func} {R : Ending → World → Prop} {K : AH → Prop} :
    ∀ (l : List (FuncId × List Value)) (l' : List Deferred) {φ : Phi} {h : AH} {w : World}, DefR φ l l' → HR φ h w → GlobR G φ → Keep φ0 h0 w0 φ h w → FrR φ fr tmps → defersA AProp csd l h K →
      (∀ φ' h' w', K h' → HR φ' h' w' → Keep φ0 h0 w0 φ' h' w' → FrR φ' fr tmps → ∃ v, (results fn tmps).run P w' = .ok v w' ∧ R (.returned v) w') → Leaves P fn tmps R l' .returning w
  | [], l', φ, h, w, hd, hr, gl, hk, hf, hs, hK => by
    cases hd
    exact hK φ h w hs hr hk hf
  | (f, vs) :: l, l', φ, h, w, hd, hr, gl, hk, hf, hs, hK => by
    cases hd with
    | cons hv ht =>
      rename_i args l'
      simp only [defersA] at hs
      obtain ⟨hb, hc⟩ := hcd f vs h _ hs
      refine ⟨by simp, .func f, #[], f, args, rfl, ?_, (hc φ w args hr gl hv .returning).mono ?_⟩
      · unfold hasBody at hb
        split at hb
        · rename_i fn' hfn
          simp only [Bool.and_eq_true, Bool.not_eq_true'] at hb
          have hn : fn'.body.isNone = false := by cases hbd : fn'.body <;> simp_all
          have hn2 : fn'.body ≠ none := by intro h; rw [h] at hn; cases hn
          have hb2 : fn'.name ≠ "runtime.NumGoroutine" := by simpa using hb.2
          simp [invoke, callFunc, hfn, hb2, hn2]
        · cases hb
      · rintro e u' w' ⟨rfl, v, v', h', φ', rfl, hQ, _, hr', hk'⟩
        exact leaves_ok hcd l l' (ht.mono hk'.le) hr' (gl.mono hk'.le) (hk.trans hk') (hf.mono hk'.le) hQ hK

theorem frame_rel {n : Nat} {φ : Phi} {h : AH} {w : World} (hr : HR φ h w) (gl : GlobR G φ) {args : List Value} {args' : Array Value} (hv : VRs φ args args'.toList) :
    Rel G n φ h w φ ⟨frameOf 0 args .leaf, []⟩ h { tmps := args' ++ Array.replicate (n - args'.size) undef, defers := [] } w := by
  refine ⟨hr, gl, fun t v ht => ?_, by simp; omega, .nil, Keep.refl _ _ _⟩
  rcases frameOf_get _ _ _ _ _ ht with ⟨k, e, hk⟩ | hk
  · rw [Nat.zero_add] at e; subst e
    obtain ⟨v', h1, h2⟩ := hv.get hk
    refine ⟨v', ?_, h2⟩
    rw [Array.getElem?_toList] at h1
    have := (Array.getElem?_eq_some_iff.1 h1).1
    simp only [Array.getElem?_append, this, if_true]
    exact h1
  · simp at hk

theorem call_sound (hm : P.follows .mixedOrders = true) {cs csd : CS Prop} (hcs : ∀ f, SoundF P G f (cs f)) (hcd : ∀ f, SoundD P G f (csd f)) {lo : LO Prop}
    (hlo : ∀ body fr h K, lo body fr h K → ∃ m, loopN AProp m body fr h K) {f : FuncId} {fn : Func} {af : AF} (hf : P.funcs[f]? = some fn) (hc : compF P fn = some af) : SoundF P G f (callA AProp P G cs csd lo af) := by
  intro args h Q hs φ w args' hr gl hv
  unfold compF at hc
  split at hc
  · rename_i c hb
    split at hc
    · rename_i b r hcb hcr
      obtain ⟨_, hc⟩ := condT hc rfl
      cases hc
      refine calls_of_wp_defers hf hb (wp_mono (exec_sound (P := P) (G := G) hcs hlo (draw_sound hm hcs) c b hcb (frame_rel hr gl hv) hs) ?_)
      have fin : ∀ (a : Act) (w' : World) (φ' : Phi) (fr : Fr) (h' : AH), Rel G fn.ntmps φ h w φ' fr h' a w' → (defersA AProp csd fr.d h' fun h => match resA fr h r with
          | some vs => Q (oneOf vs) h
          | none => False) → Leaves P fn a.tmps (Post φ h w Q) a.defers .returning w' := by
        intro a w' φ' fr h' rel hd
        refine leaves_ok hcd fr.d a.defers rel.ds rel.hr rel.gl rel.kp rel.fm hd fun φ2 h2 w2 hK hr2 hk2 hf2 => ?_
        split at hK
        · rename_i vs hvs
          obtain ⟨v', h3, h4⟩ := res_ok (P := P) hr2 hf2 hcr hvs
          exact ⟨v', h3, _, v', h2, φ2, rfl, hK, h4, hr2, hk2⟩
        · exact hK.elim
      rintro e a w' ⟨e', φ', fr, h', hex, hK, rel⟩
      cases hex with
      | normal => exact fin a w' φ' fr h' rel hK
      | ret => exact fin a w' φ' fr h' rel hK
      | exit id => exact hK.elim
    · cases hc
  · cases hc

theorem call0_sound (hm : P.follows .mixedOrders = true) {cs : CS Prop} (hcs : ∀ f, SoundF P G f (cs f)) {lo : LO Prop}
    (hlo : ∀ body fr h K, lo body fr h K → ∃ m, loopN AProp m body fr h K) {f : FuncId} {fn : Func} {af : AF} (hf : P.funcs[f]? = some fn) (hc : compF P fn = some af) (hbd : hasBody P f = true) : SoundD P G f (callA0 AProp P G cs lo af) := by
  refine fun args h Q hs => ⟨hbd, fun φ w args' hr gl hv u => ?_⟩
  unfold compF at hc
  split at hc
  · rename_i c hb
    split at hc
    · rename_i b r hcb hcr
      obtain ⟨_, hc⟩ := condT hc rfl
      cases hc
      refine callsD_of_wp hf hb (wp_mono (exec_sound (P := P) (G := G) hcs hlo (draw_sound hm hcs) c b hcb (frame_rel hr gl hv) hs) ?_)
      have fin : ∀ (a : Act) (w' : World) (φ' : Phi) (fr : Fr) (h' : AH), Rel G fn.ntmps φ h w φ' fr h' a w' → (match fr.d with
          | [] => match resA fr h' r with
            | some vs => Q (oneOf vs) h'
            | none => False
          | _ :: _ => False) → a.defers = [] ∧ ∃ v, (results fn a.tmps).run P w' = .ok v w' ∧ Post φ h w Q (.returned v) w' := by
        intro a w' φ' fr h' rel hd
        split at hd
        · rename_i hfd
          have hds := rel.ds
          rw [hfd] at hds
          split at hd
          · rename_i vs hvs
            obtain ⟨v', h3, h4⟩ := res_ok (P := P) rel.hr rel.fm hcr hvs
            refine ⟨?_, v', h3, _, v', h', φ', rfl, hd, h4, rel.hr, rel.kp⟩
            generalize a.defers = q at hds
            cases hds; rfl
          · exact hd.elim
        · exact hd.elim
      rintro e a w' ⟨e', φ', fr, h', hex, hK, rel⟩
      cases hex with
      | normal => exact fin a w' φ' fr h' rel hK
      | ret => exact fin a w' φ' fr h' rel hK
      | exit id => exact hK.elim
    · cases hc
  · cases hc
end Go.Am

/-
  An abstract machine over the model's code, part 20: runs that are told by a Bool, and weaker ends.
-/
namespace Go.Am
open Go
variable {P : Program} {G : Nat}

/-- T: that an answer is a good one. -/
structure Good {R : Type} (A : Alg R) (T : R → Prop) : Prop where
  bot : T A.bot → False
  all : ∀ l, T (A.all l) → ∀ p ∈ l, T p
  eq : ∀ v u k, T (A.eq v u k) → v = u ∧ T k
theorem good_prop : Good AProp id := ⟨id, fun _ h => h, fun _ _ _ h => h⟩

def CsR {R : Type} (T : R → Prop) (cs : CS R) (csP : CS Prop) : Prop := ∀ f vs h (K : Value → AH → R) (K' : Value → AH → Prop), (∀ v h, T (K v h) → K' v h) → T (cs f vs h K) → csP f vs h K'
def BodyR {R : Type} (T : R → Prop) (b : BodyT R) (bP : BodyT Prop) : Prop := ∀ fr h (K : Ex → Fr → AH → R) (K' : Ex → Fr → AH → Prop), (∀ e fr h, T (K e fr h) → K' e fr h) → T (b fr h K) → bP fr h K'
def LoR {R : Type} (T : R → Prop) (lo : LO R) (loP : LO Prop) : Prop := ∀ b bP, BodyR T b bP → BodyR T (lo b) (loP bP)

section
variable {R : Type} {A : Alg R} {T : R → Prop} (g : Good A T) {cs : CS R} {csP : CS Prop} (hc : CsR T cs csP)
include g

theorem next_rel {h : AH} {K : Value → AH → R} {K' : Value → AH → Prop} (hK : ∀ v h, T (K v h) → K' v h) {x : Option Value} (ht : T (nextA A h K x)) : nextA AProp h K' x := by
  unfold nextA at ht ⊢
  split at ht
  · split at ht
    · rename_i r since seen last hb
      split at ht
      · rename_i es clock hm
        cases hbad : (!seen.isEmpty && !es.isEmpty && es.all (fun e => Nat.ble last e.born)) with
        | true => rw [hbad] at ht; exact (g.bot ht).elim
        | false =>
          rw [hbad] at ht
          simp only [cond_false] at ht ⊢
          have hall := g.all _ ht
          intro p hp
          rcases List.mem_append.1 hp with hp | hp
          · cases hc2 : (es.filter fun e => !seen.contains e.born && Nat.blt e.born since).isEmpty with
            | false => rw [hc2] at hp; cases hp
            | true =>
              rw [hc2] at hp
              simp only [cond_true, List.mem_singleton] at hp
              subst hp
              exact hK _ _ (hall _ (List.mem_append.2 (.inl (by rw [hc2]; simp))))
          · obtain ⟨e, he, rfl⟩ := List.mem_map.1 hp
            exact hK _ _ (hall _ (List.mem_append.2 (.inr (List.mem_map.2 ⟨e, he, rfl⟩))))
      · exact (g.bot ht).elim
    · exact (g.bot ht).elim
  · exact (g.bot ht).elim

include hc
theorem xrun_rel {ρ : Operand → Option Value} {h : AH} {K : Value → AH → R} {K' : Value → AH → Prop} (hK : ∀ v h, T (K v h) → K' v h) {op : XOp} (ht : T (xrunA A P cs ρ h K op)) : xrunA AProp P csP ρ h K' op := by
  cases op with
  | call f args =>
    simp only [xrunA] at ht ⊢
    split at ht
    · exact hc _ _ _ _ _ hK ht
    · exact (g.bot ht).elim
  | next it => exact next_rel g hK ht
  | simple op =>
    simp only [xrunA] at ht ⊢
    split at ht
    · exact hK _ _ ht
    · exact (g.bot ht).elim
  | defer f args => exact (g.bot ht).elim

theorem step_rel {o : RO} {fr : Fr} {h : AH} {K : Fr → AH → R} {K' : Fr → AH → Prop} (hK : ∀ fr h, T (K fr h) → K' fr h) (ht : T (stepA A P G cs o fr h K)) : stepA AProp P G csP o fr h K' := by
  unfold stepA at ht ⊢
  split at ht
  · rename_i hw
    split at ht
    · rename_i f args hop
      split at ht
      · exact hK _ _ ht
      · exact (g.bot ht).elim
    · rename_i op hnd
      exact xrun_rel g hc (fun v h => hK _ _) ht
  · exact hK _ _ ht
  · exact (g.bot ht).elim

theorem ops_rel : ∀ {l : List RO} {fr : Fr} {h : AH} {K : Fr → AH → R} {K' : Fr → AH → Prop}, (∀ fr h, T (K fr h) → K' fr h) → T (opsA A P G cs l fr h K) → opsA AProp P G csP l fr h K'
  | [], fr, h, K, K', hK, ht => hK _ _ ht
  | o :: l, fr, h, K, K', hK, ht => step_rel g hc (fun fr h h1 => ops_rel hK h1) ht

omit hc in
theorem lev_rel {d : DR} {fr : Fr} : ∀ {l : List Nat} {vs : Tr Value} {h : AH} {pd : Pend} {K : Tr Value → AH → Pend → R} {K' : Tr Value → AH → Pend → Prop}, (∀ vs h pd, T (K vs h pd) → K' vs h pd) →
    T (levA A P G d fr l vs h pd K) → levA AProp P G d fr l vs h pd K'
  | [], vs, h, pd, K, K', hK, ht => hK _ _ _ ht
  | i :: l, vs, h, pd, K, K', hK, ht => by
    simp only [levA] at ht ⊢
    split at ht
    · rename_i r hr
      split at ht
      · rename_i hw
        split at ht
        · rename_i op hop
          cases ha : op.isA with
          | true =>
            rw [ha] at ht
            simp only [cond_true] at ht ⊢
            split at ht
            · rename_i obj k hal
              exact lev_rel hK ht
            · exact (g.bot ht).elim
          | false =>
            rw [ha] at ht
            simp only [cond_false] at ht ⊢
            split at ht
            · rename_i v h1 hrun
              exact lev_rel hK ht
            · exact (g.bot ht).elim
        · exact (g.bot ht).elim
      · rename_i hw
        exact lev_rel hK ht
      · exact (g.bot ht).elim
    · exact (g.bot ht).elim
omit hc in
theorem rec_rel {d : DR} {fr : Fr} : ∀ {l : List Nat} {vs : Tr Value} {h : AH} {k : R} {k' : Prop}, (T k → k') → T (recA A P G d fr l vs h k) → recA AProp P G d fr l vs h k'
  | [], vs, h, k, k', hk, ht => hk ht
  | i :: l, vs, h, k, k', hk, ht => by
    simp only [recA] at ht ⊢
    split at ht
    · rename_i r hr
      split at ht
      · rename_i hw
        split at ht
        · rename_i op hop
          split at ht
          · rename_i v h1 u hrun hu
            obtain ⟨e, h2⟩ := g.eq _ _ _ ht
            exact ⟨e, rec_rel hk h2⟩
          · exact (g.bot ht).elim
        · exact (g.bot ht).elim
      · rename_i hw
        exact rec_rel hk ht
      · exact (g.bot ht).elim
    · exact (g.bot ht).elim
theorem stg_rel {d : DR} {fr : Fr} : ∀ {l : List Stage} {vs : Tr Value} {h : AH} {pd : Pend} {K : Tr Value → AH → Pend → R} {K' : Tr Value → AH → Pend → Prop}, (∀ vs h pd, T (K vs h pd) → K' vs h pd) →
    T (stgA A P G cs d fr l vs h pd K) → stgA AProp P G csP d fr l vs h pd K'
  | [], vs, h, pd, K, K', hK, ht => hK _ _ _ ht
  | s :: l, vs, h, pd, K, K', hK, ht => by
    simp only [stgA] at ht ⊢
    split at ht
    · rename_i r hr
      split at ht
      · rename_i hw
        exact xrun_rel g hc (fun v h h1 => lev_rel g (fun vs h pd h2 => rec_rel g (fun h3 => stg_rel hK h3) h2) h1) ht
      · rename_i hw
        exact lev_rel g (fun vs h pd h2 => rec_rel g (fun h3 => stg_rel hK h3) h2) ht
      · exact (g.bot ht).elim
    · exact (g.bot ht).elim
theorem draw_rel {d : DR} {fr : Fr} {h : AH} {K : Fr → AH → R} {K' : Fr → AH → Prop} (hK : ∀ fr h, T (K fr h) → K' fr h) (ht : T (drawA A P G cs d fr h K)) : drawA AProp P G csP d fr h K' := by
  unfold drawA at ht ⊢
  exact lev_rel g (fun vs h pd h1 => stg_rel g hc (fun vs h pd h2 => hK _ _ h2) h1) ht

theorem exec_rel {lo : LO R} {loP : LO Prop} (hl : LoR T lo loP) : ∀ {c : AC}, BodyR T (execA A P G cs lo (fun d => drawA A P G cs d) c) (execA AProp P G csP loP (fun d => drawA AProp P G csP d) c) := by
  intro c
  induction c with
  | skip => intro fr h K K' hK ht; exact hK _ _ _ ht
  | ops l => intro fr h K K' hK ht; exact ops_rel g hc (fun fr h => hK _ fr h) ht
  | draw d => intro fr h K K' hK ht; exact draw_rel g hc (fun fr h => hK _ fr h) ht
  | seq a b iha ihb =>
    intro fr h K K' hK ht
    refine iha _ _ _ _ (fun e fr h h1 => ?_) ht
    cases e with
    | normal => exact ihb _ _ _ _ hK h1
    | exit id => exact hK _ _ _ h1
    | ret => exact hK _ _ _ h1
  | cond c a b iha ihb =>
    intro fr h K K' hK ht
    simp only [execA] at ht ⊢
    split at ht
    · rename_i t hc2
      cases t with
      | true => exact iha _ _ _ _ hK ht
      | false => exact ihb _ _ _ _ hK ht
    · exact (g.bot ht).elim
  | block id b ih =>
    intro fr h K K' hK ht
    refine ih _ _ _ _ (fun e fr h h1 => ?_) ht
    cases e with
    | normal => exact hK _ _ _ h1
    | ret => exact hK _ _ _ h1
    | exit i =>
      simp only at h1 ⊢
      cases hb : Nat.beq i id with
      | true => rw [hb] at h1; exact hK _ _ _ h1
      | false => rw [hb] at h1; exact hK _ _ _ h1
  | loop b ih => exact hl _ _ ih
  | exit id => intro fr h K K' hK ht; exact hK _ _ _ ht
  | ret => intro fr h K K' hK ht; exact hK _ _ _ ht

omit hc in
theorem loop_rel (n : Nat) : LoR T (loopN A n) (loopN AProp n) := by
  intro b bP hb
  induction n with
  | zero => intro fr h K K' hK ht; exact (g.bot ht).elim
  | succ n ih =>
    intro fr h K K' hK ht
    refine hb _ _ _ _ (fun e fr h h1 => ?_) ht
    cases e with
    | normal => exact ih _ _ _ _ hK h1
    | exit id => exact hK _ _ _ h1
    | ret => exact hK _ _ _ h1

omit hc in
theorem defers_rel {csd : CS R} {csdP : CS Prop} (hd : CsR T csd csdP) : ∀ {l : List (FuncId × List Value)} {h : AH} {K : AH → R} {K' : AH → Prop}, (∀ h, T (K h) → K' h) → T (defersA A csd l h K) → defersA AProp csdP l h K'
  | [], h, K, K', hK, ht => hK _ ht
  | (f, vs) :: l, h, K, K', hK, ht => hd _ _ _ _ _ (fun _ h h1 => defers_rel hd hK h1) ht

theorem call_rel {csd : CS R} {csdP : CS Prop} (hd : CsR T csd csdP) {lo : LO R} {loP : LO Prop} (hl : LoR T lo loP) {af : AF} {vs : List Value} {h : AH} {K : Value → AH → R} {K' : Value → AH → Prop}
    (hK : ∀ v h, T (K v h) → K' v h) (ht : T (callA A P G cs csd lo af vs h K)) : callA AProp P G csP csdP loP af vs h K' := by
  unfold callA at ht ⊢
  refine exec_rel g hc hl _ _ _ _ (fun e fr h h1 => ?_) ht
  have fin : T (defersA A csd fr.d h fun h => match resA fr h af.res with
      | some vs => K (oneOf vs) h
      | none => A.bot) → defersA AProp csdP fr.d h fun h => match resA fr h af.res with
      | some vs => K' (oneOf vs) h
      | none => False := fun h2 => defers_rel g hd (fun h h3 => by
    split at h3
    · exact hK _ _ h3
    · exact (g.bot h3).elim) h2
  cases e with
  | normal => exact fin h1
  | ret => exact fin h1
  | exit id => exact (g.bot h1).elim
theorem call0_rel {lo : LO R} {loP : LO Prop} (hl : LoR T lo loP) {af : AF} {vs : List Value} {h : AH} {K : Value → AH → R} {K' : Value → AH → Prop}
    (hK : ∀ v h, T (K v h) → K' v h) (ht : T (callA0 A P G cs lo af vs h K)) : callA0 AProp P G csP loP af vs h K' := by
  unfold callA0 at ht ⊢
  refine exec_rel g hc hl _ _ _ _ (fun e fr h h1 => ?_) ht
  have fin : T (match fr.d with
      | [] => match resA fr h af.res with
        | some vs => K (oneOf vs) h
        | none => A.bot
      | _ :: _ => A.bot) → (match fr.d with
      | [] => match resA fr h af.res with
        | some vs => K' (oneOf vs) h
        | none => False
      | _ :: _ => False) := fun h2 => by
    split at h2
    · split at h2
      · exact hK _ _ h2
      · exact (g.bot h2).elim
    · exact (g.bot h2).elim
  cases e with
  | normal => exact fin h1
  | ret => exact fin h1
  | exit id => exact (g.bot h1).elim
end

theorem eqvF_eq : ∀ (n : Nat) (v u : Value), eqvF n v u = true → v = u := by
  intro n
  induction n with
  | zero =>
    intro v u h
    unfold eqvF at h
    split at h <;> first
      | (simp only [Bool.and_eq_true, beq_iff_eq] at h; simp [h]; done)
      | rfl
      | (simp at h; done)
      | (exfalso; omega)
      | (simp only [beq_iff_eq] at h; exact congrArg _ (ByteArray.ext (Array.toList_inj.1 h)))
  | succ n ih =>
    intro v u h
    have lst : ∀ (a b : Array Value), (a.size == b.size && (a.toList.zip b.toList).all fun x => eqvF n x.1 x.2) = true → a = b := by
      intro a b h
      simp only [Bool.and_eq_true, beq_iff_eq] at h
      obtain ⟨h1, h2⟩ := h
      have gen : ∀ (l m : List Value), l.length = m.length → ((l.zip m).all fun x => eqvF n x.1 x.2) = true → l = m := by
        intro l
        induction l with
        | nil => intro m hl _; cases m with
          | nil => rfl
          | cons y m => simp at hl
        | cons x l ih2 => intro m hl hz; cases m with
          | nil => simp at hl
          | cons y m =>
            simp only [List.zip_cons_cons, List.all_cons, Bool.and_eq_true] at hz
            rw [ih x y hz.1, ih2 m (by simpa using hl) hz.2]
      have := gen a.toList b.toList (by simpa using h1) h2
      exact Array.toList_inj.1 this
    unfold eqvF at h
    split at h <;> first
      | (simp only [Bool.and_eq_true, beq_iff_eq] at h; simp [h]; done)
      | rfl
      | (simp only [beq_iff_eq] at h; exact congrArg _ (ByteArray.ext (Array.toList_inj.1 h)))
      | (simp only [Bool.and_eq_true, beq_iff_eq] at h; obtain ⟨h1, h2⟩ := h; subst h1; rename_i he; have he := Nat.succ.inj he; subst he; rw [ih _ _ h2])
      | (rename_i he; have he := Nat.succ.inj he; subst he; rw [lst _ _ h])
      | (simp at h; done)
theorem good_bool : Good ABool (· = true) := by
  refine ⟨fun h => by simp [ABool] at h, fun l h p hp => ?_, fun v u k h => ?_⟩
  · simp only [ABool, List.all_eq_true] at h
    exact h p hp
  · simp only [ABool, Bool.and_eq_true] at h
    exact ⟨eqvF_eq 5 _ _ h.1, h.2⟩
end Go.Am

/-
  An abstract machine over the model's code, part 21: a program's functions, to a depth.
-/
namespace Go.Am
open Go
variable {P : Program} {G : Nat}

abbrev Tab := Tr AF
/-- sm: functions that are told without their code. -/
def callN {R : Type} (A : Alg R) (P : Program) (G : Nat) (tab : Tab) (lo : LO R) (sm : Tr (List Value → AH → (Value → AH → R) → R)) : Nat → CS R
  | 0, _, _, _, _ => A.bot
  | n + 1, f, args, h, K => match sm.get f with
    | some s => s args h K
    | none => match tab.get f with
      | some af => callA A P G (callN A P G tab lo sm n)
          (fun f args h K => match tab.get f with
            | some af => callA0 A P G (callN A P G tab lo sm n) lo af args h K
            | none => A.bot) lo af args h K
      | none => A.bot
def TabOk (P : Program) (tab : Tab) : Prop := ∀ f af, tab.get f = some af → ∃ fn, P.funcs[f]? = some fn ∧ compF P fn = some af ∧ hasBody P f = true

theorem callN_sound (hm : P.follows .mixedOrders = true) {tab : Tab} (ht : TabOk P tab) {lo : LO Prop} (hlo : ∀ body fr h K, lo body fr h K → ∃ m, loopN AProp m body fr h K)
    {sm : Tr (List Value → AH → (Value → AH → Prop) → Prop)} (hs : ∀ f s, sm.get f = some s → SoundF P G f s) : ∀ (n : Nat) (f : FuncId), SoundF P G f (callN AProp P G tab lo sm n f)
  | 0, f => fun args h Q hq => hq.elim
  | n + 1, f => by
    intro args h Q hq
    simp only [callN] at hq
    split at hq
    · rename_i s hsf
      exact hs f s hsf args h Q hq
    · split at hq
      · rename_i af haf
        obtain ⟨fn, h1, h2, _⟩ := ht f af haf
        refine call_sound hm (callN_sound hm ht hlo hs n) (fun g => ?_) hlo h1 h2 args h Q hq
        intro args h Q hq
        split at hq
        · rename_i ag hag
          obtain ⟨fn, h1, h2, h3⟩ := ht g ag hag
          exact call0_sound hm (callN_sound hm ht hlo hs n) hlo h1 h2 h3 args h Q hq
        · exact hq.elim
      · exact hq.elim

def SmR {R : Type} (T : R → Prop) (sm : Tr (List Value → AH → (Value → AH → R) → R)) (smP : Tr (List Value → AH → (Value → AH → Prop) → Prop)) : Prop :=
  ∀ f, (sm.get f = none → smP.get f = none) ∧ ∀ s, sm.get f = some s → ∃ sP, smP.get f = some sP ∧ ∀ vs h (K : Value → AH → R) (K' : Value → AH → Prop), (∀ v h, T (K v h) → K' v h) → T (s vs h K) → sP vs h K'
theorem callN_rel {R : Type} {A : Alg R} {T : R → Prop} (g : Good A T) {tab : Tab} {lo : LO R} {loP : LO Prop} (hl : LoR T lo loP) {sm : Tr (List Value → AH → (Value → AH → R) → R)}
    {smP : Tr (List Value → AH → (Value → AH → Prop) → Prop)} (hsm : SmR T sm smP) : ∀ n, CsR T (callN A P G tab lo sm n) (callN AProp P G tab loP smP n)
  | 0 => fun f vs h K K' hK ht => (g.bot ht).elim
  | n + 1 => by
    intro f vs h K K' hK ht
    simp only [callN] at ht ⊢
    split at ht
    · rename_i s hsf
      obtain ⟨sP, h1, h2⟩ := (hsm f).2 s hsf
      rw [h1]
      exact h2 _ _ _ _ hK ht
    · rename_i hsf
      rw [(hsm f).1 hsf]
      simp only
      split at ht
      · refine call_rel g (callN_rel g hl hsm n) (fun f vs h K K' hK ht => ?_) hl hK ht
        split at ht
        · exact call0_rel g (callN_rel g hl hsm n) hl hK ht
        · exact (g.bot ht).elim
      · exact (g.bot ht).elim

/-! ### Tables, written out -/
def tabOf : List (Nat × AF) → Tab
  | [] => .leaf
  | (f, af) :: l => (tabOf l).set f af
theorem tabOf_get : ∀ {l : List (Nat × AF)} {f : Nat} {af : AF}, (tabOf l).get f = some af → (f, af) ∈ l
  | [], f, af, h => by simp [tabOf] at h
  | (g, ag) :: l, f, af, h => by
    simp only [tabOf, Tr.get_set] at h
    split at h
    · rename_i e; subst e; cases h; simp
    · exact List.mem_cons_of_mem _ (tabOf_get h)
def noAF : AF := ⟨0, .ret, []⟩
def afOf (P : Program) (fn : Func) : AF := (compF P fn).getD noAF
def RowOk (P : Program) (p : Nat × AF) : Prop := ∃ fn, P.funcs[p.1]? = some fn ∧ compF P fn = some p.2 ∧ hasBody P p.1 = true
theorem afOf_ok {fn : Func} (h : (compF P fn).isSome = true) : compF P fn = some (afOf P fn) := by
  unfold afOf
  cases hc : compF P fn with
  | none => rw [hc] at h; cases h
  | some a => rfl
theorem rowOk {f : Nat} {fn : Func} (hf : P.funcs[f]? = some fn) (hc : (compF P fn).isSome = true) (hn : (fn.name == "runtime.NumGoroutine") = false) : RowOk P (f, afOf P fn) := by
  have h1 := afOf_ok hc
  refine ⟨fn, hf, h1, ?_⟩
  unfold hasBody
  rw [hf]
  have hb : fn.body.isSome = true := by
    unfold compF at h1
    split at h1
    · rename_i c hb; rw [hb]; rfl
    · cases h1
  simp [hb, hn]
theorem tabOk {l : List (Nat × AF)} (h : ∀ p ∈ l, RowOk P p) : TabOk P (tabOf l) := fun f af hf => h (f, af) (tabOf_get hf)
end Go.Am

/-
  A machine that is quick to reckon with, part 1: what an operation comes to when more is known of its operands.
-/
namespace Go.Am
open Go
variable {P : Program} {G : Nat}

def Le (ρ ρ' : Operand → Option Value) : Prop := ∀ x v, ρ x = some v → ρ' x = some v

section
variable {ρ ρ' : Operand → Option Value} (hl : Le ρ ρ')
include hl
theorem natOf_mono {x : Operand} {n : Nat} (h : natOf (ρ x) = some n) : natOf (ρ' x) = some n := by
  cases hx : ρ x with
  | none => rw [hx] at h; cases h
  | some v => rw [hx] at h; rw [hl _ _ hx]; exact h
theorem boundOf_mono {d n : Nat} {x : Option Operand} (h : boundOf ρ d x = some n) : boundOf ρ' d x = some n := by
  cases x with
  | none => exact h
  | some x => exact natOf_mono hl h
theorem fillL_mono : ∀ {ps : List (Nat × Nat × Operand)} {cs r : List Value}, fillL ρ cs ps = some r → fillL ρ' cs ps = some r
  | [], cs, r, h => h
  | (off, size, x) :: ps, cs, r, h => by
    simp only [fillL] at h ⊢
    cases hx : ρ x with
    | none => rw [hx] at h; cases h
    | some v =>
      rw [hx] at h
      rw [hl _ _ hx]
      simp only at h ⊢
      obtain ⟨hb, h2⟩ := condT h rfl
      rw [hb]
      exact fillL_mono h2
theorem map_mono {x : Operand} {f : Value → Value × AH} {r : Value × AH} (h : (ρ x).map f = some r) : (ρ' x).map f = some r := by
  obtain ⟨v, hv, rfl⟩ := Option.map_eq_some_iff.1 h
  rw [hl _ _ hv]; rfl
theorem opds_mono : ∀ {l : List Operand} {vs : List Value}, opds ρ l = some vs → opds ρ' l = some vs
  | [], vs, h => h
  | x :: l, vs, h => by
    simp only [opds] at h ⊢
    split at h
    · rename_i v vs' hv hvs
      rw [hl _ _ hv, opds_mono hvs]
      exact h
    · cases h

theorem run_mono {op : AOp} {h : AH} {r : Value × AH} (hsel : ∀ o, op = .scal o → ∀ cs b, o.op ≠ .select cs b) (hr : op.run P ρ h = some r) : op.run P ρ' h = some r := by
  -- one operand
  have one : ∀ {x : Operand} {f : Value → Option (Value × AH)}, (match ρ x with | some v => f v | none => none) = some r → (match ρ' x with | some v => f v | none => none) = some r := by
    intro x f h1
    cases hx : ρ x with
    | none => rw [hx] at h1; cases h1
    | some v => rw [hx] at h1; rw [hl _ _ hx]; exact h1
  cases op with
  | mv x => exact map_mono hl hr
  | box x => exact map_mono hl hr
  | makeIface t x => exact map_mono hl hr
  | new zs => exact hr
  | makeMap => exact hr
  | build zs ps =>
    simp only [AOp.run, Option.map_eq_some_iff] at hr ⊢
    obtain ⟨c, hc, h2⟩ := hr
    exact ⟨c, fillL_mono hl hc, h2⟩
  | buildSlice a b zs ps =>
    simp only [AOp.run, Option.map_eq_some_iff] at hr ⊢
    obtain ⟨c, hc, h2⟩ := hr
    exact ⟨c, fillL_mono hl hc, h2⟩
  | pick c a b =>
    simp only [AOp.run] at hr ⊢
    split at hr
    · rename_i t hc
      rw [hl _ _ hc]
      simp only
      cases t with
      | true => exact map_mono hl hr
      | false => exact map_mono hl hr
    · cases hr
  | scal o =>
    simp only [AOp.run] at hr ⊢
    obtain ⟨hg, h2⟩ := condT hr rfl
    have hag : ∀ x ∈ o.op.operands.toList, ρ' x = ρ x ∧ (match ρ x with | some v => ground v | none => false) = true := fun x hx => by
      have := List.all_eq_true.1 hg x hx
      cases hv : ρ x with
      | none => rw [hv] at this; cases this
      | some v => rw [hv] at this; exact ⟨hl _ _ hv, this⟩
    have hg' : allGround ρ' o.op.operands.toList = true := List.all_eq_true.2 fun x hx => by
      obtain ⟨e1, e2⟩ := hag x hx
      rw [e1]; exact e2
    have hce : execOp (fun x => (ρ' x).getD undef) o = execOp (fun x => (ρ x).getD undef) o := execOp_congr o (hsel o rfl) fun x hx => by
      rw [(hag x (by simpa using hx)).1]
    rw [hg', hce]
    exact h2
  | load agg a => simp only [AOp.run] at hr ⊢; exact one hr
  | store n a x =>
    simp only [AOp.run] at hr ⊢
    split at hr
    · rename_i v u hv hu
      rw [hl _ _ hv, hl _ _ hu]; exact hr
    · cases hr
  | nilCheck x =>
    simp only [AOp.run] at hr ⊢
    split at hr
    · rename_i a ha; rw [hl _ _ ha]; exact hr
    · cases hr
  | fieldAddr off x =>
    simp only [AOp.run] at hr ⊢
    split at hr
    · rename_i ha; rw [hl _ _ ha]; exact hr
    · cases hr
  | indexAddr arr sz x i =>
    cases arr <;> simp only [AOp.run] at hr ⊢ <;> split at hr <;> first
      | (rename_i h1 h2; rw [hl _ _ h1, natOf_mono hl h2]; exact hr)
      | cases hr
  | field agg off x =>
    simp only [AOp.run] at hr ⊢
    split at hr
    · rename_i ha; rw [hl _ _ ha]; exact hr
    · cases hr
  | extract x i =>
    simp only [AOp.run] at hr ⊢
    split at hr
    · rename_i ha; rw [hl _ _ ha]; exact hr
    · cases hr
  | sliceS sz x lo hi =>
    simp only [AOp.run] at hr ⊢
    split at hr
    · rename_i ha
      split at hr
      · rename_i h1 h2
        rw [hl _ _ ha]
        simp only
        rw [boundOf_mono hl h1, boundOf_mono hl h2]; exact hr
      · cases hr
    · cases hr
  | sliceA n sz x lo hi =>
    simp only [AOp.run] at hr ⊢
    split at hr
    · rename_i ha
      split at hr
      · rename_i hc
        split at hr
        · rename_i h1 h2
          rw [hl _ _ ha]
          simp only
          rw [hc]
          simp only
          rw [boundOf_mono hl h1, boundOf_mono hl h2]; exact hr
        · cases hr
      · cases hr
    · cases hr
  | lenS x =>
    simp only [AOp.run] at hr ⊢
    split at hr
    · rename_i ha; rw [hl _ _ ha]; exact hr
    · cases hr
  | append sz b s x =>
    simp only [AOp.run] at hr ⊢
    split at hr
    · rename_i v u hv hu
      rw [hl _ _ hv, hl _ _ hu]; exact hr
    · cases hr
  | makeSlice sz b zs l c =>
    simp only [AOp.run] at hr ⊢
    split at hr
    · rename_i v u hv hu
      rw [natOf_mono hl hv, natOf_mono hl hu]; exact hr
    · cases hr
  | lookup kt z m k ok =>
    simp only [AOp.run] at hr ⊢
    split at hr
    · rename_i hv hu
      rw [hl _ _ hv, hl _ _ hu]; exact hr
    · cases hr
  | mapUpdate kt m k x =>
    simp only [AOp.run] at hr ⊢
    split at hr
    · rename_i hv hu hx
      rw [hl _ _ hv, hl _ _ hu, hl _ _ hx]; exact hr
    · cases hr
  | range m =>
    simp only [AOp.run] at hr ⊢
    split at hr
    · rename_i ha; rw [hl _ _ ha]; exact hr
    · cases hr
  | entry it =>
    simp only [AOp.run] at hr ⊢
    split at hr
    · rename_i ha; rw [hl _ _ ha]; exact hr
    · cases hr
  | bytesOf x =>
    simp only [AOp.run] at hr ⊢
    split at hr
    · rename_i ha; rw [hl _ _ ha]; exact hr
    · cases hr
  | stringOf x => simp only [AOp.run] at hr ⊢; exact one hr

theorem allocOf_mono {op : AOp} {r : AObj × AKind} (hr : allocOf ρ op = some r) : allocOf ρ' op = some r := by
  unfold allocOf at hr ⊢
  split at hr
  · exact hr
  · rename_i x
    obtain ⟨v, hv, rfl⟩ := Option.map_eq_some_iff.1 hr
    rw [hl _ _ hv]; rfl
  · rename_i a b zs ps
    obtain ⟨c, hc, rfl⟩ := Option.map_eq_some_iff.1 hr
    rw [fillL_mono hl hc]; rfl
  · cases hr
end
end Go.Am

/-
  A machine that is quick to reckon with, part 2: its code, and its run.
-/
namespace Go.Am
open Go
variable {P : Program} {G : Nat}

/-! ### Slots by paths -/
inductive Pa where
  | z
  | l (p : Pa)
  | r (p : Pa)
def Pa.ofN : Nat → Nat → Pa
  | 0, _ => .z
  | f + 1, n => cond (Nat.beq n 0) .z (cond (Nat.beq (n % 2) 1) (.l (Pa.ofN f (n / 2))) (.r (Pa.ofN f (n / 2 - 1))))
def Pa.of (n : Nat) : Pa := Pa.ofN (n + 1) n
noncomputable def getP {α : Type} (p : Pa) : Tr α → Option α :=
  Pa.rec (motive := fun _ => Tr α → Option α) (fun t => Tr.casesOn t none fun v _ _ => v) (fun _ ih t => Tr.casesOn t none fun _ l _ => ih l) (fun _ ih t => Tr.casesOn t none fun _ _ r => ih r) p
noncomputable def setP {α : Type} (a : Option α) (p : Pa) : Tr α → Tr α :=
  Pa.rec (motive := fun _ => Tr α → Tr α) (fun t => Tr.casesOn t (.node a .leaf .leaf) fun _ l r => .node a l r)
    (fun _ ih t => Tr.casesOn t (.node none (ih .leaf) .leaf) fun v l r => .node v (ih l) r) (fun _ ih t => Tr.casesOn t (.node none .leaf (ih .leaf)) fun v l r => .node v l (ih r)) p
theorem getP_ofN {α : Type} : ∀ (f n : Nat) (t : Tr α), n < f → getP (Pa.ofN f n) t = t.get n
  | 0, n, t, h => by omega
  | f + 1, n, t, h => by
    rcases Tr.split3 n with rfl | ⟨k, rfl⟩ | ⟨k, rfl⟩
    · cases t <;> rfl
    · have h1 : (2 * k + 1) % 2 = 1 := by omega
      have h2 : (2 * k + 1) / 2 = k := by omega
      have h0 : Nat.beq (2 * k + 1) 0 = false := rfl
      rw [Tr.get_odd, ← getP_ofN f k _ (by omega)]
      simp only [Pa.ofN, h0, h1, h2, cond_false, Nat.beq_refl, cond_true]
      cases t with
      | leaf => rw [getP_ofN f k _ (by omega)]; rfl
      | node v l r => rfl
    · have h1 : (2 * k + 2) % 2 = 0 := by omega
      have h2 : (2 * k + 2) / 2 - 1 = k := by omega
      have h0 : Nat.beq (2 * k + 2) 0 = false := rfl
      have h3 : Nat.beq 0 1 = false := rfl
      rw [Tr.get_even, ← getP_ofN f k _ (by omega)]
      simp only [Pa.ofN, h0, h1, h2, h3, cond_false]
      cases t with
      | leaf => rw [getP_ofN f k _ (by omega)]; rfl
      | node v l r => rfl
theorem setP_ofN {α : Type} (a : Option α) : ∀ (f n : Nat) (t : Tr α), n < f → setP a (Pa.ofN f n) t = Tr.setF f t n a
  | 0, n, t, h => by omega
  | f + 1, n, t, h => by
    rcases Tr.split3 n with rfl | ⟨k, rfl⟩ | ⟨k, rfl⟩
    · cases t <;> rfl
    · have h1 : (2 * k + 1) % 2 = 1 := by omega
      have h2 : (2 * k + 1) / 2 = k := by omega
      have h0 : Nat.beq (2 * k + 1) 0 = false := rfl
      simp only [Pa.ofN, Tr.setF, h0, h1, h2, cond_false, Nat.beq_refl, cond_true]
      rw [← setP_ofN a f k _ (by omega)]
      cases t <;> rfl
    · have h1 : (2 * k + 2) % 2 = 0 := by omega
      have h2 : (2 * k + 2) / 2 - 1 = k := by omega
      have h0 : Nat.beq (2 * k + 2) 0 = false := rfl
      have h3 : Nat.beq 0 1 = false := rfl
      simp only [Pa.ofN, Tr.setF, h0, h1, h2, h3, cond_false]
      rw [← setP_ofN a f k _ (by omega)]
      cases t <;> rfl
theorem getP_of {α : Type} (n : Nat) (t : Tr α) : getP (Pa.of n) t = t.get n := getP_ofN _ _ _ (Nat.lt_succ_self _)
theorem setP_of {α : Type} (n : Nat) (a : α) (t : Tr α) : setP (some a) (Pa.of n) t = t.set n a := setP_ofN _ _ _ _ (Nat.lt_succ_self _)
theorem delP_of {α : Type} (n : Nat) (t : Tr α) : setP none (Pa.of n) t = t.del n := setP_ofN _ _ _ _ (Nat.lt_succ_self _)

/-! ### Operations -/
inductive KA where
  | loc (i : Nat)
  | slot (p : Pa)
  | val (v : Value)
noncomputable def nthK (L : List Value) (i : Nat) : Option Value :=
  List.rec (motive := fun _ => Nat → Option Value) (fun _ => none) (fun x _ ih i => Nat.casesOn i (some x) fun k => ih k) L i
noncomputable def kval (fr : Tr Value) (L : List Value) (a : KA) : Option Value := KA.casesOn a (fun i => nthK L i) (fun p => getP p fr) (fun v => some v)
noncomputable def kvals (fr : Tr Value) (L : List Value) (l : List KA) : Option (List Value) :=
  List.rec (motive := fun _ => Option (List Value)) (some []) (fun a _ ih => Option.casesOn (kval fr L a) none fun v => Option.casesOn ih none fun vs => some (v :: vs)) l

inductive KF where
  | slow (op : AOp) (ts : List Nat)
  | mv
  | load (agg : Option Nat)
  | store (n : Nat)
  | nilCheck
  | fieldAddr (off : Nat)
  | indexArr (n sz : Nat)
  | indexSl (sz : Nat)
  | field (agg : Option Nat) (off : Nat)
  | extract (i : Nat)
  | lenS
  | pick
  | iop (op : BinOp)
  | seq
  | sne
  | slen
  | sidx
  | scut (lo hi : Bool)
  | not

def lookT : List Nat → List Value → Nat → Option Value
  | t :: ts, v :: vs, s => cond (Nat.beq t s) (some v) (lookT ts vs s)
  | _, _, _ => none
/-- Operands that are told by a list; what is written out is told by itself. -/
def opdT (G : Nat) (ts : List Nat) (vs : List Value) : Operand → Option Value
  | .tmp t => lookT ts vs t
  | x => opd G ⟨.leaf, []⟩ x

def rLoad (agg : Option Nat) (h : AH) (v : Value) : Option (Value × AH) := match cellsAt h v with
  | some (_, o, _, c) => match agg with
    | none => (c[o]?).map fun v => (v, h)
    | some n => cond (Nat.ble (o + n) c.length) (some (.agg ((c.drop o).take n).toArray, h)) none
  | none => none
def rStore (n : Nat) (h : AH) (v u : Value) : Option (Value × AH) := match cellsAt h v with
  | some (b, o, ro, c) =>
    cond (!ro && Nat.beq u.cells.size n && Nat.ble (o + n) c.length && u.cells.toList.all hasOne)
      (some (undef, h.set b (.cells false (c.take o ++ u.cells.toList ++ c.drop (o + n))))) none
  | none => none
def rNil (h : AH) : Value → Option (Value × AH)
  | .pointer (some a) => some (.pointer (some a), h)
  | _ => none
def rFieldAddr (off : Nat) (h : AH) : Value → Option (Value × AH)
  | .pointer (some ⟨b, o, none⟩) => some (.pointer (some ⟨b, o + off, none⟩), h)
  | _ => none
def rIndexArr (n sz : Nat) (h : AH) (v : Value) (i : Value) : Option (Value × AH) := match v, natOf (some i) with
  | .pointer (some ⟨b, o, none⟩), some k => cond (Nat.blt k n) (some (.pointer (some ⟨b, o + k * sz, none⟩), h)) none
  | _, _ => none
def rIndexSl (sz : Nat) (h : AH) (v : Value) (i : Value) : Option (Value × AH) := match v, natOf (some i) with
  | .slice (some ⟨b, o, none⟩) n z, some k => cond (Nat.blt k n && Nat.beq z sz) (some (.pointer (some ⟨b, o + k * sz, none⟩), h)) none
  | _, _ => none
def rField (agg : Option Nat) (off : Nat) (h : AH) : Value → Option (Value × AH)
  | .agg cs => match agg with
    | none => (cs[off]?).map fun v => (v, h)
    | some n => some (.agg ((cs.toList.drop off).take n).toArray, h)
  | _ => none
def rExtract (i : Nat) (h : AH) : Value → Option (Value × AH)
  | .tuple vs => (vs[i]?).map fun v => (v, h)
  | _ => none
def rLenS (h : AH) : Value → Option (Value × AH)
  | .slice _ n _ => some (.int .i64 n, h)
  | _ => none
def rPick (h : AH) (c a b : Value) : Option (Value × AH) := match c with
  | .bool t => some (cond t a b, h)
  | _ => none
def addI (k : IntKind) : Int → Int → Int
  | .ofNat x, .ofNat y => match k with
    | .i64 => cond (Nat.blt (x + y) 9223372036854775808) (.ofNat (x + y)) (k.wrap (.ofNat x + .ofNat y))
    | _ => k.wrap (.ofNat x + .ofNat y)
  | a, b => k.wrap (a + b)
def subI (k : IntKind) : Int → Int → Int
  | .ofNat x, .ofNat y => match k with
    | .i64 => cond (Nat.ble y x && Nat.blt (x - y) 9223372036854775808) (.ofNat (x - y)) (k.wrap (.ofNat x - .ofNat y))
    | _ => k.wrap (.ofNat x - .ofNat y)
  | a, b => k.wrap (a - b)
def eqI : Int → Int → Bool
  | .ofNat x, .ofNat y => Nat.beq x y
  | a, b => a == b
def ltI : Int → Int → Bool
  | .ofNat x, .ofNat y => Nat.blt x y
  | a, b => decide (a < b)
def leI : Int → Int → Bool
  | .ofNat x, .ofNat y => Nat.ble x y
  | a, b => decide (a ≤ b)
theorem wrap_small64 (n : Int) (h0 : 0 ≤ n) (h1 : n < 9223372036854775808) : IntKind.i64.wrap n = n := by
  simp [IntKind.wrap, IntKind.bits, IntKind.signed]; omega
theorem addI_eq (k : IntKind) (a b : Int) : addI k a b = k.wrap (a + b) := by
  unfold addI
  split
  · rename_i x y
    split
    · cases hb : Nat.blt (x + y) 9223372036854775808 with
      | false => rfl
      | true =>
        rw [Nat.blt_eq] at hb
        have e : (Int.ofNat x + Int.ofNat y) = ((x + y : Nat) : Int) := by simp
        rw [e, wrap_small64 _ (by omega) (by omega)]; rfl
    · rfl
  · rfl
theorem subI_eq (k : IntKind) (a b : Int) : subI k a b = k.wrap (a - b) := by
  unfold subI
  split
  · rename_i x y
    split
    · cases hb : (Nat.ble y x && Nat.blt (x - y) 9223372036854775808) with
      | false => rfl
      | true =>
        simp only [Bool.and_eq_true, Nat.blt_eq, Nat.ble_eq] at hb
        have e : (Int.ofNat x - Int.ofNat y) = ((x - y : Nat) : Int) := by simp only [Int.ofNat_eq_natCast]; omega
        rw [e, wrap_small64 _ (by omega) (by omega)]; rfl
    · rfl
  · rfl
theorem eqI_eq (a b : Int) : eqI a b = (a == b) := by
  unfold eqI
  split
  · rename_i x y
    rw [Bool.eq_iff_iff]; simp; omega
  · rfl
theorem ltI_eq (a b : Int) : ltI a b = decide (a < b) := by
  unfold ltI
  split
  · rename_i x y
    rw [Bool.eq_iff_iff]; simp
  · rfl
theorem leI_eq (a b : Int) : leI a b = decide (a ≤ b) := by
  unfold leI
  split
  · rename_i x y
    rw [Bool.eq_iff_iff]; simp
  · rfl
def iopV (op : BinOp) (k : IntKind) (a b : Int) : Option Value := match op with
  | .add => some (.int k (addI k a b))
  | .sub => some (.int k (subI k a b))
  | .mul => some (.int k (k.wrap (a * b)))
  | .eql => some (.bool (eqI a b))
  | .neq => some (.bool (!eqI a b))
  | .lss => some (.bool (ltI a b))
  | .leq => some (.bool (leI a b))
  | .gtr => some (.bool (ltI b a))
  | .geq => some (.bool (leI b a))
  | _ => none
def rIop (op : BinOp) (h : AH) (x y : Value) : Option (Value × AH) := match x, y with
  | .int k a, .int k' b => cond (k == k') ((iopV op k a b).map fun v => (v, h)) none
  | _, _ => none
def sameB (a b : List UInt8) : Bool := match a, b with
  | [], [] => true
  | x :: a, y :: b => cond (Nat.beq x.toNat y.toNat) (sameB a b) false
  | _, _ => false
def rSeq (ne : Bool) (h : AH) (x y : Value) : Option (Value × AH) := match x, y with
  | .string a, .string b => some (.bool (xor ne (sameB a.data.toList b.data.toList)), h)
  | _, _ => none
def rSlen (h : AH) : Value → Option (Value × AH)
  | .string a => some (.int .i64 a.data.toList.length, h)
  | _ => none
def rSidx (h : AH) (x i : Value) : Option (Value × AH) := match x, natOf (some i) with
  | .string a, some k => (a.data.toList[k]?).map fun b => (.int .u8 b.toNat, h)
  | _, _ => none
def cutOf (d : Nat) : Option Value → Option Nat
  | none => some d
  | some v => natOf (some v)
def rScut (h : AH) (x : Value) (lo hi : Option Value) : Option (Value × AH) := match x with
  | .string a => match cutOf 0 lo, cutOf a.data.toList.length hi with
    | some l, some m => cond (Nat.ble l m && Nat.ble m a.data.toList.length) (some (.string ⟨((a.data.toList.drop l).take (m - l)).toArray⟩, h)) none
    | _, _ => none
  | _ => none
def rNot (h : AH) : Value → Option (Value × AH)
  | .bool b => some (.bool (!b), h)
  | _ => none
def un1 (f : Value → Option (Value × AH)) : List Value → Option (Value × AH)
  | [x] => f x
  | _ => none
def un2 (f : Value → Value → Option (Value × AH)) : List Value → Option (Value × AH)
  | [x, y] => f x y
  | _ => none
def un3 (f : Value → Value → Value → Option (Value × AH)) : List Value → Option (Value × AH)
  | [x, y, z] => f x y z
  | _ => none
def rCut (lo hi : Bool) (h : AH) (vs : List Value) : Option (Value × AH) := match lo, hi, vs with
  | false, false, [x] => rScut h x none none
  | true, false, [x, a] => rScut h x (some a) none
  | false, true, [x, b] => rScut h x none (some b)
  | true, true, [x, a, b] => rScut h x (some a) (some b)
  | _, _, _ => none

def KF.run (P : Program) (G : Nat) (h : AH) (vs : List Value) : KF → Option (Value × AH)
  | .slow op ts => op.run P (opdT G ts vs) h
  | .mv => un1 (fun v => some (v, h)) vs
  | .load agg => un1 (rLoad agg h) vs
  | .store n => un2 (rStore n h) vs
  | .nilCheck => un1 (rNil h) vs
  | .fieldAddr off => un1 (rFieldAddr off h) vs
  | .indexArr n sz => un2 (rIndexArr n sz h) vs
  | .indexSl sz => un2 (rIndexSl sz h) vs
  | .field agg off => un1 (rField agg off h) vs
  | .extract i => un1 (rExtract i h) vs
  | .lenS => un1 (rLenS h) vs
  | .pick => un3 (rPick h) vs
  | .iop op => un2 (rIop op h) vs
  | .seq => un2 (rSeq false h) vs
  | .sne => un2 (rSeq true h) vs
  | .slen => un1 (rSlen h) vs
  | .sidx => un2 (rSidx h) vs
  | .scut lo hi => rCut lo hi h vs
  | .not => un1 (rNot h) vs

inductive KG where
  | no
  | yes (a : KA) (want : Bool)
inductive KS where
  | op (f : KF) (args : List KA) (g : KG)
  | alloc (i : Nat) (f : AOp) (ts : List Nat) (args : List KA) (g : KG)
  | call (f : FuncId) (args : List KA) (g : KG)
  | next (it : KA) (g : KG)
  | chk (a : KA)
  | abs (i : Nat)
  | re (f : KF) (args : List KA) (g : KG) (u : KA)

inductive KC where
  | skip
  | dfr (f : FuncId) (args : List KA)
  | reg (l : List KS) (wb : List (Pa × KA))
  | seq (a b : KC)
  | cond (c : KA) (a b : KC)
  | block (id : Nat) (b : KC)
  | loop (b : KC)
  | exit (id : Nat)
  | ret

noncomputable def kwant (fr : Tr Value) (L : List Value) (g : KG) : Option Bool := KG.casesOn g (some true) fun a want => wantedV want (kval fr L a)
def takePd : List (Nat × Nat × AObj) → Nat → Option (Nat × AObj)
  | [], _ => none
  | (j, q) :: l, i => cond (Nat.beq j i) (some q) (takePd l i)
def dropPd : List (Nat × Nat × AObj) → Nat → List (Nat × Nat × AObj)
  | [], _ => []
  | (j, q) :: l, i => cond (Nat.beq j i) (dropPd l i) ((j, q) :: dropPd l i)

section
variable {R : Type} (A : Alg R) (P : Program) (G : Nat) (cs : CS R)
abbrev KK (R : Type) := List Value → AH → List (Nat × Nat × AObj) → R

noncomputable def kOp (fr : Tr Value) (f : KF) (args : List KA) (g : KG) (L : List Value) (h : AH) (pd : List (Nat × Nat × AObj)) (K : KK R) : R :=
  Option.casesOn (kwant fr L g) A.bot fun b => Bool.casesOn b (K (undef :: L) h pd)
    (Option.casesOn (kvals fr L args) A.bot fun vs => Option.casesOn (f.run P G h vs) A.bot fun r => Prod.casesOn r fun v h => K (v :: L) h pd)
noncomputable def kAlloc (fr : Tr Value) (i : Nat) (f : AOp) (ts : List Nat) (args : List KA) (g : KG) (L : List Value) (h : AH) (pd : List (Nat × Nat × AObj)) (K : KK R) : R :=
  Option.casesOn (kwant fr L g) A.bot fun b => Bool.casesOn b (K (undef :: L) h pd)
    (Option.casesOn (kvals fr L args) A.bot fun vs => Option.casesOn (allocOf (opdT G ts vs) f) A.bot fun r => Prod.casesOn r fun obj k => K (k.val h.next :: L) (h.push .dead) ((i, h.next, obj) :: pd))
noncomputable def kCall (fr : Tr Value) (f : FuncId) (args : List KA) (g : KG) (L : List Value) (h : AH) (pd : List (Nat × Nat × AObj)) (K : KK R) : R :=
  Option.casesOn (kwant fr L g) A.bot fun b => Bool.casesOn b (K (undef :: L) h pd)
    (Option.casesOn (kvals fr L args) A.bot fun vs => cs f vs h fun v h => K (v :: L) h pd)
noncomputable def kNext (fr : Tr Value) (it : KA) (g : KG) (L : List Value) (h : AH) (pd : List (Nat × Nat × AObj)) (K : KK R) : R :=
  Option.casesOn (kwant fr L g) A.bot fun b => Bool.casesOn b (K (undef :: L) h pd) (nextA A h (fun v h => K (v :: L) h pd) (kval fr L it))
noncomputable def kChk (fr : Tr Value) (a : KA) (L : List Value) (h : AH) (pd : List (Nat × Nat × AObj)) (K : KK R) : R :=
  Option.casesOn (kval fr L a) A.bot fun _ => K L h pd
def kAbs (i : Nat) (L : List Value) (h : AH) (pd : List (Nat × Nat × AObj)) (K : KK R) : R := match takePd pd i with
  | some (id, obj) => K L (h.set id obj) (dropPd pd i)
  | none => K L h pd
noncomputable def kRe (fr : Tr Value) (f : KF) (args : List KA) (g : KG) (u : KA) (L : List Value) (h : AH) (pd : List (Nat × Nat × AObj)) (K : KK R) : R :=
  Option.casesOn (kwant fr L g) A.bot fun b => Bool.casesOn b (K L h pd)
    (Option.casesOn (kvals fr L args) A.bot fun vs => Option.casesOn (f.run P G h vs) A.bot fun r => Prod.casesOn r fun v _ => Option.casesOn (kval fr L u) A.bot fun u => A.eq v u (K L h pd))
noncomputable def kStep (fr : Tr Value) (s : KS) : List Value → AH → List (Nat × Nat × AObj) → KK R → R :=
  KS.casesOn s (kOp A P G fr) (kAlloc A G fr) (kCall A cs fr) (kNext A fr) (kChk A fr) kAbs (kRe A P G fr)
noncomputable def kSteps (fr : Tr Value) (l : List KS) : List Value → AH → List (Nat × Nat × AObj) → KK R → R :=
  List.rec (motive := fun _ => List Value → AH → List (Nat × Nat × AObj) → KK R → R) (fun L h pd K => K L h pd) (fun s _ ih L h pd K => kStep A P G cs fr s L h pd fun L h pd => ih L h pd K) l
noncomputable def kBack (fr : Tr Value) (L : List Value) (wb : List (Pa × KA)) (t : Tr Value) : Tr Value :=
  List.rec (motive := fun _ => Tr Value → Tr Value) (fun t => t) (fun p _ ih t => ih (setP (kval fr L p.2) p.1 t)) wb t
noncomputable def kReg (l : List KS) (wb : List (Pa × KA)) (fr : Fr) (h : AH) (K : Ex → Fr → AH → R) : R :=
  kSteps A P G cs fr.t l [] h [] fun L h _ => K .normal { fr with t := kBack fr.t L wb fr.t } h
def kSeq (b : BodyT R) (K : Ex → Fr → AH → R) : Ex → Fr → AH → R
  | .normal, fr, h => b fr h K
  | e, fr, h => K e fr h
def kBlock (id : Nat) (K : Ex → Fr → AH → R) : Ex → Fr → AH → R
  | .exit i, fr, h => cond (Nat.beq i id) (K .normal fr h) (K (.exit i) fr h)
  | e, fr, h => K e fr h
noncomputable def kCond (c : KA) (a b : BodyT R) (fr : Fr) (h : AH) (K : Ex → Fr → AH → R) : R := match kval fr.t [] c with
  | some (.bool t) => match t with
    | true => a fr h K
    | false => b fr h K
  | _ => A.bot
noncomputable def kDfr (f : FuncId) (args : List KA) (fr : Fr) (h : AH) (K : Ex → Fr → AH → R) : R :=
  Option.casesOn (kvals fr.t [] args) A.bot fun vs => K .normal { fr with d := (f, vs) :: fr.d } h
noncomputable def execK (lo : LO R) (c : KC) : BodyT R :=
  KC.rec (motive := fun _ => BodyT R) (fun fr h K => K .normal fr h) (kDfr A) (kReg A P G cs)
    (fun _ _ iha ihb fr h K => iha fr h (kSeq ihb K)) (fun c _ _ iha ihb => kCond A c iha ihb) (fun id _ ih fr h K => ih fr h (kBlock id K)) (fun _ ih => lo ih)
    (fun id fr h K => K (.exit id) fr h) (fun fr h K => K .ret fr h) c
end
end Go.Am

/-
  A machine that is quick to reckon with, part 3: its operations.
-/
namespace Go.Am
open Go
variable {P : Program} {G : Nat}

def opdC (G : Nat) : Operand → Option Value
  | .tmp _ => none
  | x => opd G ⟨.leaf, []⟩ x

/-- An operation tells the same as another one does of its operands. -/
def KfOk (P : Program) (G : Nat) (op : AOp) (f : KF) (args : List Operand) : Prop :=
  ∀ (ρ : Operand → Option Value) (vs : List Value) (h : AH) (r : Value × AH), Le (opdC G) ρ → opds ρ args = some vs → f.run P G h vs = some r → op.run P ρ h = some r

theorem opds1 {ρ : Operand → Option Value} {x : Operand} {vs : List Value} (h : opds ρ [x] = some vs) : ∃ v, ρ x = some v ∧ vs = [v] := by
  simp only [opds] at h
  split at h
  · rename_i v vs' hv hvs; cases hvs; cases h; exact ⟨v, hv, rfl⟩
  · cases h
theorem opds2 {ρ : Operand → Option Value} {x y : Operand} {vs : List Value} (h : opds ρ [x, y] = some vs) : ∃ v u, ρ x = some v ∧ ρ y = some u ∧ vs = [v, u] := by
  have h0 : opds ρ (x :: [y]) = some vs := h
  rw [opds] at h0
  split at h0
  · rename_i v vs' hv hvs
    obtain ⟨u, hu, rfl⟩ := opds1 hvs
    cases h0; exact ⟨v, u, hv, hu, rfl⟩
  · cases h0
theorem opds3 {ρ : Operand → Option Value} {x y z : Operand} {vs : List Value} (h : opds ρ [x, y, z] = some vs) : ∃ v u t, ρ x = some v ∧ ρ y = some u ∧ ρ z = some t ∧ vs = [v, u, t] := by
  have h0 : opds ρ (x :: [y, z]) = some vs := h
  rw [opds] at h0
  split at h0
  · rename_i v vs' hv hvs
    obtain ⟨u, t, hu, ht, rfl⟩ := opds2 hvs
    cases h0; exact ⟨v, u, t, hv, hu, ht, rfl⟩
  · cases h0

theorem opds_look {ρ : Operand → Option Value} : ∀ {ts : List Nat} {vs : List Value}, opds ρ (ts.map .tmp) = some vs → ∀ s v, lookT ts vs s = some v → ρ (.tmp s) = some v
  | [], vs, h, s, v, hl => by simp [opds] at h; subst h; simp [lookT] at hl
  | t :: ts, vs, h, s, v, hl => by
    simp only [List.map_cons, opds] at h
    split at h
    · rename_i u us hu hus
      cases h
      simp only [lookT] at hl
      cases hb : Nat.beq t s with
      | true =>
        rw [hb] at hl; cases hl
        rw [nbeq] at hb; subst hb; exact hu
      | false => rw [hb] at hl; exact opds_look hus s v hl
    · cases h
theorem opdT_le {ρ : Operand → Option Value} {ts : List Nat} {vs : List Value} (hc : Le (opdC G) ρ) (h : opds ρ (ts.map .tmp) = some vs) : Le (opdT G ts vs) ρ := by
  intro x v hx
  cases x with
  | tmp t => exact opds_look h t v hx
  | const u => exact hc (.const u) v hx
  | global g => exact hc (.global g) v hx
  | func f => exact hc (.func f) v hx

def noSel (op : AOp) : Bool := match op with
  | .scal o => match o.op with
    | .select _ _ => false
    | _ => true
  | _ => true
theorem noSel_inv {op : AOp} (h : noSel op = true) : ∀ o, op = .scal o → ∀ cs b, o.op ≠ .select cs b := by
  rintro o rfl cs b ho
  simp [noSel, ho] at h
theorem slow_ok {op : AOp} (hs : noSel op = true) (ts : List Nat) : KfOk P G op (.slow op ts) (ts.map .tmp) := fun _ _ _ _ hc ho hr => run_mono (opdT_le hc ho) (noSel_inv hs) hr

theorem mv_ok (x : Operand) : KfOk P G (.mv x) .mv [x] := by
  intro ρ vs h r _ ho hr
  obtain ⟨v, hv, rfl⟩ := opds1 ho
  simp only [AOp.run, hv]; exact hr
theorem load_ok (agg : Option Nat) (a : Operand) : KfOk P G (.load agg a) (.load agg) [a] := by
  intro ρ vs h r _ ho hr
  obtain ⟨v, hv, rfl⟩ := opds1 ho
  simp only [AOp.run, hv]; exact hr
theorem store_ok (n : Nat) (a x : Operand) : KfOk P G (.store n a x) (.store n) [a, x] := by
  intro ρ vs h r _ ho hr
  obtain ⟨v, u, hv, hu, rfl⟩ := opds2 ho
  simp only [AOp.run, hv, hu]; exact hr
theorem nil_ok (x : Operand) : KfOk P G (.nilCheck x) .nilCheck [x] := by
  intro ρ vs h r _ ho hr
  obtain ⟨v, hv, rfl⟩ := opds1 ho
  simp only [KF.run, un1, rNil] at hr
  split at hr
  · simp only [AOp.run, hv]; exact hr
  · cases hr
theorem fieldAddr_ok (off : Nat) (x : Operand) : KfOk P G (.fieldAddr off x) (.fieldAddr off) [x] := by
  intro ρ vs h r _ ho hr
  obtain ⟨v, hv, rfl⟩ := opds1 ho
  simp only [KF.run, un1, rFieldAddr] at hr
  split at hr
  · simp only [AOp.run, hv]; exact hr
  · cases hr
theorem indexArr_ok (n sz : Nat) (x i : Operand) : KfOk P G (.indexAddr (some n) sz x i) (.indexArr n sz) [x, i] := by
  intro ρ vs h r _ ho hr
  obtain ⟨v, u, hv, hu, rfl⟩ := opds2 ho
  simp only [KF.run, un2, rIndexArr] at hr
  split at hr
  · rename_i hk
    simp only [AOp.run, hv, hu, hk]; exact hr
  · cases hr
theorem indexSl_ok (sz : Nat) (x i : Operand) : KfOk P G (.indexAddr none sz x i) (.indexSl sz) [x, i] := by
  intro ρ vs h r _ ho hr
  obtain ⟨v, u, hv, hu, rfl⟩ := opds2 ho
  simp only [KF.run, un2, rIndexSl] at hr
  split at hr
  · rename_i hk
    simp only [AOp.run, hv, hu, hk]; exact hr
  · cases hr
theorem field_ok (agg : Option Nat) (off : Nat) (x : Operand) : KfOk P G (.field agg off x) (.field agg off) [x] := by
  intro ρ vs h r _ ho hr
  obtain ⟨v, hv, rfl⟩ := opds1 ho
  simp only [KF.run, un1] at hr
  cases v <;> first
    | (simp only [AOp.run, hv]; exact hr)
    | (simp [rField] at hr; done)
theorem extract_ok (x : Operand) (i : Nat) : KfOk P G (.extract x i) (.extract i) [x] := by
  intro ρ vs h r _ ho hr
  obtain ⟨v, hv, rfl⟩ := opds1 ho
  simp only [KF.run, un1, rExtract] at hr
  split at hr
  · simp only [AOp.run, hv]; exact hr
  · cases hr
theorem lenS_ok (x : Operand) : KfOk P G (.lenS x) .lenS [x] := by
  intro ρ vs h r _ ho hr
  obtain ⟨v, hv, rfl⟩ := opds1 ho
  simp only [KF.run, un1, rLenS] at hr
  split at hr
  · simp only [AOp.run, hv]; exact hr
  · cases hr
theorem pick_ok (c a b : Operand) : KfOk P G (.pick c a b) .pick [c, a, b] := by
  intro ρ vs h r _ ho hr
  obtain ⟨v, u, t, hv, hu, ht, rfl⟩ := opds3 ho
  simp only [KF.run, un3, rPick] at hr
  split at hr
  · rename_i tb
    simp only [AOp.run, hv]
    cases tb with
    | true => simp only [cond_true, hu]; exact hr
    | false => simp only [cond_false, ht]; exact hr
  · cases hr

/-! ### Scalar operations -/
theorem scal_of {o : Oper} {ρ : Operand → Option Value} {h : AH} {v : Value} (hg : allGround ρ o.op.operands.toList = true) (hr : pureRun P (execOp (fun x => (ρ x).getD undef) o) = some (.value v)) (hv : ground v = true) :
    (AOp.scal o).run P ρ h = some (v, h) := by
  simp only [AOp.run, hg, cond_true, hr, hv]
theorem iop_ok {o : Oper} {op : BinOp} {t : TypeId} {x y : Operand} {c : TypeId} (ho : o.op = .binOp op t x y c) : KfOk P G (.scal o) (.iop op) [x, y] := by
  intro ρ vs h r _ hop hr
  obtain ⟨v, u, hv, hu, rfl⟩ := opds2 hop
  simp only [KF.run, un2, rIop] at hr
  split at hr
  · rename_i k a k' b
    obtain ⟨hk, hr2⟩ := condT hr rfl
    have hk : k = k' := by simpa using hk
    subst hk
    obtain ⟨v, hi, rfl⟩ := Option.map_eq_some_iff.1 hr2
    refine scal_of ?_ ?_ ?_
    · rw [ho]
      simp [allGround, Op.operands, hv, hu, ground, groundF]
    · have hex : execOp (fun x => (ρ x).getD undef) o = (do pure (.value (← (do eqGuard op t x y ((ρ x).getD undef) ((ρ y).getD undef); binOp op t ((ρ x).getD undef) ((ρ y).getD undef))))) := by unfold execOp; rw [ho]
      rw [hex, hv, hu]
      simp only [Option.getD_some]
      cases op <;> simp only [iopV, addI_eq, subI_eq, eqI_eq, ltI_eq, leI_eq] at hi <;> first | (cases hi; done) | (cases hi; cases k <;> rfl)
    · cases op <;> simp only [iopV] at hi <;> first | (cases hi; done) | (cases hi; rfl)
  · cases hr
end Go.Am

/-
  A machine that is quick to reckon with, part 4: texts.
-/
namespace Go.Am
open Go
variable {P : Program} {G : Nat}

theorem pure_bind' {α β : Type} (s : Sem α) (f : α → Sem β) : pureRun P (s >>= f) = (pureRun P s).bind fun a => pureRun P (f a) := by
  show pureRun P (s.bind f) = _
  induction s with
  | pure a => rfl
  | program k ih => exact ih P
  | mark m k ih => exact ih
  | _ => rfl
@[simp] theorem pure_bindS {α β : Type} (s : Sem α) (f : α → Sem β) : pureRun P (s >>= f) = (pureRun P s).bind fun a => pureRun P (f a) := pure_bind' s f
@[simp] theorem pure_pure {α : Type} (a : α) : pureRun P (pure a : Sem α) = some a := rfl
@[simp] theorem pure_mapS {α β : Type} (s : Sem α) (f : α → β) : pureRun P (f <$> s) = (pureRun P s).map f := by
  have : f <$> s = s >>= fun a => pure (f a) := rfl
  rw [this, pure_bind']
  cases pureRun P s <;> rfl
theorem size_len (a : ByteArray) : a.data.toList.length = a.size := by simp
theorem pure_under {t : TypeId} {d : TypeDesc} (h : P.underlying t = some d) : pureRun P (underlying t) = some d := by
  have : pureRun P (underlying t) = pureRun P (match P.underlying t with | some d => (pure d : Sem TypeDesc) | none => stuck "" ) := by
    unfold underlying
    simp only [pure_bindS]
    show pureRun P _ = _
    rw [h]
  rw [this, h]; rfl

theorem sameB_eq : ∀ (a b : List UInt8), sameB a b = (a == b)
  | [], [] => rfl
  | [], y :: b => rfl
  | x :: a, [] => rfl
  | x :: a, y :: b => by
    have e : (x :: a == y :: b) = (x == y && a == b) := rfl
    rw [e]
    simp only [sameB]
    cases hb : Nat.beq x.toNat y.toNat with
    | true =>
      rw [nbeq] at hb
      have : x = y := UInt8.toNat_inj.1 hb
      subst this
      simp [sameB_eq a b]
    | false =>
      have : x ≠ y := fun e => by subst e; rw [Nat.beq_refl] at hb; cases hb
      simp [this]

theorem bin_ex {o : Oper} {op : BinOp} {t : TypeId} {x y : Operand} {c : TypeId} (ho : o.op = .binOp op t x y c) (e : Operand → Value) :
    execOp e o = (do pure (.value (← (do eqGuard op t x y (e x) (e y); binOp op t (e x) (e y))))) := by unfold execOp; rw [ho]
theorem seq_ok {o : Oper} {ne : Bool} {t : TypeId} {x y : Operand} {c : TypeId} (ho : o.op = .binOp (cond ne .neq .eql) t x y c) : KfOk P G (.scal o) (cond ne .sne .seq) [x, y] := by
  intro ρ vs h r _ hop hr
  obtain ⟨v, u, hv, hu, rfl⟩ := opds2 hop
  have hr : rSeq ne h v u = some r := by cases ne <;> exact hr
  unfold rSeq at hr
  split at hr
  · rename_i a b
    cases hr
    refine scal_of ?_ ?_ rfl
    · rw [ho]
      simp [allGround, Op.operands, hv, hu, ground, groundF]
    · rw [bin_ex ho, hv, hu]
      simp only [Option.getD_some, sameB_eq]
      have e1 : ∀ b : ByteArray, b.toList = b.data.toList := fun b => ByteArray.toList_eq b
      cases ne <;> simp [eqGuard, binOp, Op.stringOp, e1, bne]
  · cases hr
theorem not_ok {o : Oper} {t : TypeId} {x : Operand} (ho : o.op = .unOp .not t x) : KfOk P G (.scal o) .not [x] := by
  intro ρ vs h r _ hop hr
  obtain ⟨v, hv, rfl⟩ := opds1 hop
  simp only [KF.run, un1, rNot] at hr
  split at hr
  · cases hr
    refine scal_of ?_ ?_ rfl
    · rw [ho]
      simp [allGround, Op.operands, hv, ground, groundF]
    · have hex : ∀ e : Operand → Value, execOp e o = (do pure (.value (← Op.unary .not (e x)))) := fun e => by unfold execOp; rw [ho]
      rw [hex, hv]
      simp [Op.unary]
  · cases hr
theorem natOf_nat {v : Value} {n : Nat} (h : natOf (some v) = some n) : ∃ k, v = .int k n := by
  obtain ⟨k, hk⟩ := natOf_inv h
  exact ⟨k, Option.some.inj hk⟩
theorem sidx_ok {o : Oper} {t : TypeId} {x i : Operand} (ho : o.op = .index t x i) (ht : P.underlying t = some .string) : KfOk P G (.scal o) .sidx [x, i] := by
  intro ρ vs h r _ hop hr
  obtain ⟨v, u, hv, hu, rfl⟩ := opds2 hop
  simp only [KF.run, un2, rSidx] at hr
  split at hr
  · rename_i a n hn
    obtain ⟨k, rfl⟩ := natOf_nat hn
    obtain ⟨b, hb, rfl⟩ := Option.map_eq_some_iff.1 hr
    refine scal_of ?_ ?_ rfl
    · rw [ho]
      simp [allGround, Op.operands, hv, hu, ground, groundF]
    · have hex : ∀ e : Operand → Value, execOp e o = (do pure (.value (← Instr.index t (e x) (e i)))) := fun e => by unfold execOp; rw [ho]
      rw [hex, hv, hu]
      have hlt : n < a.data.toList.length := (List.getElem?_eq_some_iff.1 hb).1
      have hget : a[n]? = some b := by
        have hs : n < a.size := by rw [size_len] at hlt; exact hlt
        rw [getElem?_pos a n hs]
        rw [List.getElem?_eq_getElem hlt] at hb
        simpa [ByteArray.getElem_eq_getElem_data] using hb
      simp [Instr.index, asIntOf, pure_under ht, hget]
  · cases hr
theorem slen_ok {o : Oper} {c : Call} {t : TypeId} {x : Operand} (ho : o.op = .call c) (hc : c.callee = .builtin .len) (ha : c.args = #[x]) (hat : c.argTypes = #[t]) (ht : P.underlying t = some .string) : KfOk P G (.scal o) .slen [x] := by
  intro ρ vs h r _ hop hr
  obtain ⟨v, hv, rfl⟩ := opds1 hop
  simp only [KF.run, un1, rSlen] at hr
  split at hr
  · rename_i a
    cases hr
    refine scal_of ?_ ?_ rfl
    · rw [ho]
      simp [allGround, Op.operands, Call.operands, hc, ha, hv, ground, groundF]
    · have hex : ∀ e : Operand → Value, execOp e o = (do let d ← resolve e c o.type; invoke d.target d.args) := fun e => by unfold execOp; rw [ho]
      rw [hex]
      simp [resolve, hc, ha, hat, invoke, builtin, Builtin.len_, pure_under ht, hv, goInt]
  · cases hr
theorem cut_bound' {v : Value} {n y : Nat} (h : natOf (some v) = some n) (hle : n ≤ y) (c : BoundsCode) : pureRun P (Instr.sliceBound v y c) = some n := by
  obtain ⟨k, rfl⟩ := natOf_nat h
  have : 0 ≤ (n : Int) ∧ (n : Int) ≤ (y : Int) := by omega
  simp [Instr.sliceBound, asIntOf, this]
theorem scut_run {a : ByteArray} {lo hi : Option Value} {h : AH} {r : Value × AH} (hr : rScut h (.string a) lo hi = some r) {t : TypeId} (ht : P.underlying t = some .string) :
    ∃ s, r = (.string s, h) ∧ pureRun P (Instr.slice t (.string a) lo hi none) = some (.string s) := by
  simp only [rScut] at hr
  split at hr
  · rename_i l m hl hm
    obtain ⟨hb, hr⟩ := condT hr rfl
    cases hr
    simp only [Bool.and_eq_true, Nat.ble_eq] at hb
    refine ⟨_, rfl, ?_⟩
    have hbnd : pureRun P (Instr.sliceBounds false a.size a.size lo hi none) = some (l, m, a.size) := by
      have hsz : a.size = a.data.toList.length := (size_len a).symm
      cases hi with
      | none =>
        simp only [cutOf, Option.some.injEq] at hm
        cases lo with
        | none =>
          simp only [cutOf, Option.some.injEq] at hl
          subst hl
          simp [Instr.sliceBounds]; rw [← hm]; exact hsz
        | some v =>
          simp only [cutOf] at hl
          simp [Instr.sliceBounds, cut_bound' hl (show l ≤ a.size by omega)]; rw [← hm]; exact hsz
      | some w =>
        simp only [cutOf] at hm
        cases lo with
        | none =>
          simp only [cutOf, Option.some.injEq] at hl
          subst hl
          simp [Instr.sliceBounds, cut_bound' hm (show m ≤ a.size by omega)]
        | some v =>
          simp only [cutOf] at hl
          simp [Instr.sliceBounds, cut_bound' hm (show m ≤ a.size by omega), cut_bound' hl hb.1]
    have hcut : a.extract l m = ⟨((a.data.toList.drop l).take (m - l)).toArray⟩ := by
      apply ByteArray.ext
      rw [ByteArray.data_extract]
      apply Array.toList_inj.1
      rw [Array.toList_extract, List.extract_eq_take_drop]
    simp only [Instr.slice, pure_bindS, pure_under ht, Option.bind_some, Option.isSome_none, Bool.false_eq_true, if_false, hbnd, hcut, pure_pure]
  · cases hr
theorem scut_ok {o : Oper} {t : TypeId} {x : Operand} {lo hi : Option Operand} (ho : o.op = .slice t x lo hi none) (ht : P.underlying t = some .string) :
    KfOk P G (.scal o) (.scut lo.isSome hi.isSome) ([x] ++ lo.toList ++ hi.toList) := by
  intro ρ vs h r _ hop hr
  have hex : ∀ e : Operand → Value, execOp e o = (do pure (.value (← Instr.sliceAt t (e x) (lo.map e) (hi.map e) none))) := fun e => by unfold execOp; rw [ho]; rfl
  have hat : ∀ (v : Value) (lo hi : Option Value), pureRun P (Instr.sliceAt t v lo hi none) = pureRun P (Instr.slice t v lo hi none) := fun v lo hi => by
    simp only [Instr.sliceAt, pure_bindS, pure_under ht, Option.bind_some]
  -- the values
  have key : ∀ (v : Value) (l h2 : Option Value), ρ x = some v → (∀ y, lo = some y → ∃ u, ρ y = some u ∧ l = some u ∧ ground u = true) → (lo = none → l = none) → (∀ y, hi = some y → ∃ u, ρ y = some u ∧ h2 = some u ∧ ground u = true) → (hi = none → h2 = none) →
      rScut h v l h2 = some r → (AOp.scal o).run P ρ h = some r := by
    intro v l h2 hv hl1 hl2 hh1 hh2 hr
    cases v with
    | string a =>
      obtain ⟨s, rfl, hs⟩ := scut_run (P := P) hr ht
      refine scal_of ?_ ?_ rfl
      · rw [ho]
        cases lo with
        | none => cases hi with
          | none => simp [allGround, Op.operands, hv, ground, groundF]
          | some y =>
            obtain ⟨u, e1, _, e2⟩ := hh1 y rfl
            simp [allGround, Op.operands, hv, e1, e2, show ground (Value.string a) = true from rfl]
        | some z => 
          obtain ⟨u0, e10, _, e20⟩ := hl1 z rfl
          cases hi with
          | none => simp [allGround, Op.operands, hv, e10, e20, show ground (Value.string a) = true from rfl]
          | some y =>
            obtain ⟨u, e1, _, e2⟩ := hh1 y rfl
            simp [allGround, Op.operands, hv, e1, e2, e10, e20, show ground (Value.string a) = true from rfl]
      · rw [hex]
        have el : (lo.map fun x => (ρ x).getD undef) = l := by
          cases lo with
          | none => exact (hl2 rfl).symm
          | some z => obtain ⟨u0, e10, e, _⟩ := hl1 z rfl; rw [e]; simp [e10]
        have eh : (hi.map fun x => (ρ x).getD undef) = h2 := by
          cases hi with
          | none => exact (hh2 rfl).symm
          | some z => obtain ⟨u0, e10, e, _⟩ := hh1 z rfl; rw [e]; simp [e10]
        rw [el, eh, hv]
        simp [hat, hs]
    | _ => simp [rScut] at hr
  have gr : ∀ {u : Value} {n : Nat}, natOf (some u) = some n → ground u = true := fun hn => by
    obtain ⟨k, rfl⟩ := natOf_nat hn; rfl
  cases lo with
  | none => cases hi with
    | none =>
      obtain ⟨v, hv, rfl⟩ := opds1 hop
      exact key v none none hv (fun y e => by cases e) (fun _ => rfl) (fun y e => by cases e) (fun _ => rfl) hr
    | some y =>
      obtain ⟨v, u, hv, hu, rfl⟩ := opds2 (show opds ρ [x, y] = some vs from hop)
      have hr : rScut h v none (some u) = some r := hr
      refine key v none (some u) hv (fun y e => by cases e) (fun _ => rfl) (fun z e => ?_) (fun e => by cases e) hr
      cases e
      refine ⟨u, hu, rfl, ?_⟩
      cases v <;> simp only [rScut] at hr <;> first | (cases hr; done) | (split at hr <;> first | (rename_i h1 h2; exact gr h2) | cases hr)
  | some z => cases hi with
    | none =>
      obtain ⟨v, u, hv, hu, rfl⟩ := opds2 (show opds ρ [x, z] = some vs from hop)
      have hr : rScut h v (some u) none = some r := hr
      refine key v (some u) none hv (fun y e => ?_) (fun e => by cases e) (fun z e => by cases e) (fun _ => rfl) hr
      cases e
      refine ⟨u, hu, rfl, ?_⟩
      cases v <;> simp only [rScut] at hr <;> first | (cases hr; done) | (split at hr <;> first | (rename_i h1 h2; exact gr h1) | cases hr)
    | some y =>
      obtain ⟨v, u, u2, hv, hu, hu2, rfl⟩ := opds3 (show opds ρ [x, z, y] = some vs from hop)
      have hr : rScut h v (some u) (some u2) = some r := hr
      have hg : ground u = true ∧ ground u2 = true := by
        cases v <;> simp only [rScut] at hr <;> first | (cases hr; done) | (split at hr <;> first | (rename_i h1 h2; exact ⟨gr h1, gr h2⟩) | cases hr)
      refine key v (some u) (some u2) hv (fun y e => ?_) (fun e => by cases e) (fun y e => ?_) (fun e => by cases e) hr
      · cases e; exact ⟨u, hu, rfl, hg.1⟩
      · cases e; exact ⟨u2, hu2, rfl, hg.2⟩
end Go.Am

/-
  A machine that is quick to reckon with, part 5: which operation is told by which, and regions in the text's order.
-/
namespace Go.Am
open Go
variable {P : Program} {G : Nat}

/-- What an operation's run looks at. -/
def bareO (o : Oper) : Oper := { dst := none, op := o.op, type := o.type, pos := "", after := #[], guard := none }
def bare : AOp → AOp
  | .scal o => .scal (bareO o)
  | op => op
theorem bare_run (op : AOp) (ρ : Operand → Option Value) (h : AH) : (bare op).run P ρ h = op.run P ρ h := by
  cases op <;> first | rfl | (simp only [bare, AOp.run]; rfl)
def slowOf (op : AOp) : Option (KF × List Operand) := cond (noSel op) (some (.slow (bare op) op.slots, op.slots.map .tmp)) none
def isStr (P : Program) (t : TypeId) : Bool := match P.underlying t with | some .string => true | _ => false
def isInt (P : Program) (t : TypeId) : Bool := match P.underlying t with | some (.int _) => true | _ => false
def intOp : BinOp → Bool
  | .add | .sub | .mul | .eql | .neq | .lss | .leq | .gtr | .geq => true
  | _ => false
def scalOf (P : Program) (o : Oper) : Option (KF × List Operand) := match o.op with
  | .binOp op t x y _ => cond (isInt P t && intOp op) (some (.iop op, [x, y])) (cond (isStr P t) (match op with
    | .eql => some (.seq, [x, y])
    | .neq => some (.sne, [x, y])
    | _ => slowOf (.scal o)) (slowOf (.scal o)))
  | .unOp .not _ x => some (.not, [x])
  | .index t x i => cond (isStr P t) (some (.sidx, [x, i])) (slowOf (.scal o))
  | .slice t x lo hi none => cond (isStr P t) (some (.scut lo.isSome hi.isSome, [x] ++ lo.toList ++ hi.toList)) (slowOf (.scal o))
  | .call c => match c.callee, c.args.toList, c.argTypes.toList with
    | .builtin .len, [x], [t] => cond (isStr P t) (some (.slen, [x])) (slowOf (.scal o))
    | _, _, _ => slowOf (.scal o)
  | _ => slowOf (.scal o)
def kfOf (P : Program) : AOp → Option (KF × List Operand)
  | .mv x => some (.mv, [x])
  | .load agg a => some (.load agg, [a])
  | .store n a x => some (.store n, [a, x])
  | .nilCheck x => some (.nilCheck, [x])
  | .fieldAddr off x => some (.fieldAddr off, [x])
  | .indexAddr (some n) sz x i => some (.indexArr n sz, [x, i])
  | .indexAddr none sz x i => some (.indexSl sz, [x, i])
  | .field agg off x => some (.field agg off, [x])
  | .extract x i => some (.extract i, [x])
  | .lenS x => some (.lenS, [x])
  | .pick c a b => some (.pick, [c, a, b])
  | .scal o => scalOf P o
  | op => slowOf op

theorem isStr_inv {t : TypeId} (h : isStr P t = true) : P.underlying t = some .string := by
  unfold isStr at h
  split at h
  · assumption
  · cases h
theorem slowOf_ok {op : AOp} {f : KF} {args : List Operand} (h : slowOf op = some (f, args)) : KfOk P G op f args := by
  obtain ⟨h1, h2⟩ := condT h rfl
  cases h2
  intro ρ vs h r hc ho hr
  have hr' : (bare op).run P (opdT G op.slots vs) h = some r := hr
  rw [bare_run] at hr'
  exact run_mono (opdT_le hc ho) (noSel_inv h1) hr'
theorem scalOf_ok {o : Oper} {f : KF} {args : List Operand} (h : scalOf P o = some (f, args)) : KfOk P G (.scal o) f args := by
  unfold scalOf at h
  split at h
  · rename_i op t x y c ho
    cases hi : (isInt P t && intOp op) with
    | true => rw [hi] at h; cases h; exact iop_ok ho
    | false =>
      rw [hi] at h
      simp only [cond_false] at h
      cases hs : isStr P t with
      | true =>
        rw [hs] at h
        simp only [cond_true] at h
        split at h
        · cases h; exact seq_ok (ne := false) ho
        · cases h; exact seq_ok (ne := true) ho
        · exact slowOf_ok h
      | false => rw [hs] at h; exact slowOf_ok h
  · rename_i t x ho
    cases h; exact not_ok ho
  · rename_i t x i ho
    cases hs : isStr P t with
    | true => rw [hs] at h; cases h; exact sidx_ok ho (isStr_inv hs)
    | false => rw [hs] at h; exact slowOf_ok h
  · rename_i t x lo hi ho
    cases hs : isStr P t with
    | true => rw [hs] at h; cases h; exact scut_ok ho (isStr_inv hs)
    | false => rw [hs] at h; exact slowOf_ok h
  · rename_i c ho
    split at h
    · rename_i x t hc ha hat
      cases hs : isStr P t with
      | true =>
        rw [hs] at h; cases h
        exact slen_ok ho hc (by rw [← Array.toArray_toList (xs := c.args), ha]) (by rw [← Array.toArray_toList (xs := c.argTypes), hat]) (isStr_inv hs)
      | false => rw [hs] at h; exact slowOf_ok h
    · exact slowOf_ok h
  · exact slowOf_ok h
theorem kfOf_ok {op : AOp} {f : KF} {args : List Operand} (h : kfOf P op = some (f, args)) : KfOk P G op f args := by
  cases op with
  | mv x => cases h; exact mv_ok _
  | load agg a => cases h; exact load_ok _ _
  | store n a x => cases h; exact store_ok _ _ _
  | nilCheck x => cases h; exact nil_ok _
  | fieldAddr off x => cases h; exact fieldAddr_ok _ _
  | indexAddr arr sz x i => cases arr with
    | none => cases h; exact indexSl_ok _ _ _
    | some n => cases h; exact indexArr_ok _ _ _ _
  | field agg off x => cases h; exact field_ok _ _ _
  | extract x i => cases h; exact extract_ok _ _
  | lenS x => cases h; exact lenS_ok _
  | pick c a b => cases h; exact pick_ok _ _ _
  | scal o => exact scalOf_ok h
  | _ => exact slowOf_ok h

/-! ### Where a value stands -/
inductive SA where
  | pos (i : Nat)
  | slot (s : Nat)
  | val (v : Value)
def SA.at (n : Nat) : SA → KA
  | .pos i => .loc (n - 1 - i)
  | .slot s => .slot (Pa.of s)
  | .val v => .val v
def SA.old (n : Nat) : SA → Bool
  | .pos i => Nat.blt i n
  | _ => true
def saOf : List (Nat × SA) → Nat → SA
  | [], t => .slot t
  | (s, a) :: l, t => cond (Nat.beq s t) a (saOf l t)
def srcOf (G : Nat) (σ : Nat → Option SA) : Operand → Option SA
  | .tmp t => σ t
  | .const v => cond (ground v) (some (.val v)) none
  | .global g => cond (Nat.blt g G) (some (.val (.pointer (some ⟨g, 0, none⟩)))) none
  | .func f => some (.val (.func (.func f) #[] #[]))
def argsOf (G : Nat) (σ : Nat → Option SA) (n : Nat) : List Operand → Option (List KA)
  | [] => some []
  | x :: l => match srcOf G σ x, argsOf G σ n l with
    | some a, some as => cond (a.old n) (some (a.at n :: as)) none
    | _, _ => none
def guardOf (σ : Nat → Option SA) (n : Nat) : Option (Nat × Bool) → Option KG
  | none => some .no
  | some (s, want) => match σ s with
    | some a => cond (a.old n) (some (.yes (a.at n) want)) none
    | none => none
def ksOf (P : Program) (G : Nat) (σ : Nat → Option SA) (n : Nat) (g : KG) : XOp → Option KS
  | .simple op => match kfOf P op with
    | some (f, xs) => (argsOf G σ n xs).map fun as => .op f as g
    | none => none
  | .call f xs => (argsOf G σ n xs).map fun as => .call f as g
  | .next it => match srcOf G σ it with
    | some a => cond (a.old n) (some (.next (a.at n) g)) none
    | none => none
  | .defer _ _ => none

theorem nthK_nil (i : Nat) : nthK [] i = none := rfl
theorem nthK_zero (x : Value) (L : List Value) : nthK (x :: L) 0 = some x := rfl
theorem nthK_succ (x : Value) (L : List Value) (i : Nat) : nthK (x :: L) (i + 1) = nthK L i := rfl
theorem nthK_lt : ∀ {L : List Value} {i : Nat} {v : Value}, nthK L i = some v → i < L.length
  | [], i, v, h => by cases h
  | x :: L, 0, v, h => by simp
  | x :: L, i + 1, v, h => by
    have := nthK_lt (L := L) (i := i) (v := v) h
    simp; omega
theorem kval_push {fr : Tr Value} {L : List Value} {a : SA} {n : Nat} (hn : L.length = n) (ho : a.old n = true) (u : Value) : kval fr (u :: L) (a.at (n + 1)) = kval fr L (a.at n) := by
  cases a with
  | pos i =>
    simp only [SA.old, nblt] at ho
    show nthK (u :: L) (n + 1 - 1 - i) = nthK L (n - 1 - i)
    have : n + 1 - 1 - i = (n - 1 - i) + 1 := by omega
    rw [this]; rfl
  | slot s => rfl
  | val v => rfl
theorem kval_new {fr : Tr Value} {L : List Value} {n : Nat} (u : Value) : kval fr (u :: L) ((SA.pos n).at (n + 1)) = some u := by
  show nthK (u :: L) (n + 1 - 1 - n) = some u
  have : n + 1 - 1 - n = 0 := by omega
  rw [this]; rfl

def gOf (ρ : Operand → Option Value) : Option (Nat × Bool) → Option Bool
  | none => some true
  | some (t, want) => wantedV want (ρ (.tmp t))
/-- What stands somewhere is what the operand is. -/
structure SigOk (G n : Nat) (σ : Nat → Option SA) (fr : Tr Value) (L : List Value) (ρ : Operand → Option Value) : Prop where
  len : L.length = n
  con : Le (opdC G) ρ
  tmp : ∀ t a v, σ t = some a → kval fr L (a.at n) = some v → ρ (.tmp t) = some v

section
variable {n : Nat} {σ : Nat → Option SA} {fr : Tr Value} {L : List Value} {ρ : Operand → Option Value} (s : SigOk G n σ fr L ρ)
include s
theorem src_ok {x : Operand} {a : SA} (h : srcOf G σ x = some a) {v : Value} (hv : kval fr L (a.at n) = some v) : ρ x = some v := by
  cases x with
  | tmp t => exact s.tmp t a v h hv
  | const u =>
    simp only [srcOf] at h
    obtain ⟨h1, h2⟩ := condT h rfl
    cases h2; cases hv
    exact s.con (.const _) _ (by simp [opdC, opd, h1])
  | global g =>
    simp only [srcOf] at h
    obtain ⟨h1, h2⟩ := condT h rfl
    cases h2; cases hv
    exact s.con (.global _) _ (by simp [opdC, opd, h1])
  | func f =>
    cases h; cases hv
    exact s.con (.func _) _ rfl
theorem args_ok : ∀ {xs : List Operand} {as : List KA} {vs : List Value}, argsOf G σ n xs = some as → kvals fr L as = some vs → opds ρ xs = some vs
  | [], as, vs, h, hv => by
    simp only [argsOf, Option.some.injEq] at h; subst h
    exact hv
  | x :: xs, as, vs, h, hv => by
    simp only [argsOf] at h
    split at h
    · rename_i a as' ha has
      obtain ⟨_, h⟩ := condT h rfl
      cases h
      have hv' : Option.rec none (fun v => Option.rec none (fun vs => some (v :: vs)) (kvals fr L as')) (kval fr L (a.at n)) = some vs := hv
      cases h1 : kval fr L (a.at n) with
      | none => rw [h1] at hv'; cases hv'
      | some u =>
        rw [h1] at hv'
        cases h2 : kvals fr L as' with
        | none => rw [h2] at hv'; cases hv'
        | some us =>
          rw [h2] at hv'
          cases hv'
          simp only [opds, src_ok s ha h1, args_ok has h2]
    · cases h
theorem guard_ok {og : Option (Nat × Bool)} {g : KG} (h : guardOf σ n og = some g) {b : Bool} (hb : kwant fr L g = some b) :
    gOf ρ og = some b := by
  cases og with
  | none => cases h; exact hb
  | some q =>
    obtain ⟨t, want⟩ := q
    simp only [guardOf] at h
    split at h
    · rename_i a ha
      obtain ⟨_, h⟩ := condT h rfl
      cases h
      have hb' : wantedV want (kval fr L (a.at n)) = some b := hb
      cases h1 : kval fr L (a.at n) with
      | none => rw [h1] at hb'; cases hb'
      | some u =>
        rw [h1] at hb'
        simp only [gOf, s.tmp t a u ha h1]
        exact hb'
    · cases h
end

/-- One operation. -/
theorem ks_ok {cs : CS Prop} (hm : CsR id cs cs) {n : Nat} {σ : Nat → Option SA} {fr : Tr Value} {L : List Value} {ρ : Operand → Option Value} (s : SigOk G n σ fr L ρ) {op : XOp} {og : Option (Nat × Bool)} {g : KG} {k : KS}
    (hg : guardOf σ n og = some g) (hk : ksOf P G σ n g op = some k) {h : AH} {pd : List (Nat × Nat × AObj)} {K : KK Prop} (hr : kStep AProp P G cs fr k L h pd K) {K' : Value → AH → Prop} (hK : ∀ v h, K (v :: L) h pd → K' v h) :
    ∃ b, gOf ρ og = some b ∧ (b = true → xrunA AProp P cs ρ h K' op) ∧ (b = false → K' undef h) := by
  have key : ∀ {body : Prop}, (Option.rec (motive := fun _ => Prop) False (fun b => Bool.rec (motive := fun _ => Prop) (K (undef :: L) h pd) body b) (kwant fr L g)) → (body → xrunA AProp P cs ρ h K' op) →
      ∃ b, gOf ρ og = some b ∧ (b = true → xrunA AProp P cs ρ h K' op) ∧ (b = false → K' undef h) := by
    intro body hr hb
    cases hw : kwant fr L g with
    | none => rw [hw] at hr; exact hr.elim
    | some b =>
      rw [hw] at hr
      refine ⟨b, guard_ok s hg hw, fun e => ?_, fun e => ?_⟩
      · subst e; exact hb hr
      · subst e; exact hK _ _ hr
  cases op with
  | simple op =>
    simp only [ksOf] at hk
    split at hk
    · rename_i f xs hf
      obtain ⟨as, has, rfl⟩ := Option.map_eq_some_iff.1 hk
      refine key hr fun hb => ?_
      cases hv : kvals fr L as with
      | none => rw [hv] at hb; exact hb.elim
      | some vs =>
        rw [hv] at hb
        have hb' : Option.rec (motive := fun _ => Prop) False (fun r => Prod.rec (motive := fun _ => Prop) (fun v h => K (v :: L) h pd) r) (f.run P G h vs) := hb
        cases hrun : f.run P G h vs with
        | none => rw [hrun] at hb'; exact hb'.elim
        | some r =>
          rw [hrun] at hb'
          obtain ⟨v, h'⟩ := r
          have := kfOf_ok (G := G) hf ρ vs h _ s.con (args_ok s has hv) hrun
          simp only [xrunA, this]
          exact hK _ _ hb'
    · cases hk
  | call f xs =>
    simp only [ksOf, Option.map_eq_some_iff] at hk
    obtain ⟨as, has, rfl⟩ := hk
    refine key hr fun hb => ?_
    cases hv : kvals fr L as with
    | none => rw [hv] at hb; exact hb.elim
    | some vs =>
      rw [hv] at hb
      simp only [xrunA, args_ok s has hv]
      exact hm f vs h _ _ (fun v h h1 => hK v h h1) hb
  | next it =>
    simp only [ksOf] at hk
    split at hk
    · rename_i a ha
      obtain ⟨_, hk⟩ := condT hk rfl
      cases hk
      refine key hr fun hb => ?_
      have hb' : nextA AProp h (fun v h => K (v :: L) h pd) (kval fr L (a.at n)) := hb
      simp only [xrunA]
      cases hv : kval fr L (a.at n) with
      | none => rw [hv] at hb'; exact hb'.elim
      | some u =>
        rw [hv] at hb'
        rw [src_ok s ha hv]
        exact next_rel good_prop (fun v h h1 => hK v h h1) hb'
    · cases hk
  | defer f xs => simp [ksOf] at hk
end Go.Am

/-
  A machine that is quick to reckon with, part 6: regions in the text's order.
-/
namespace Go.Am
open Go
variable {P : Program} {G : Nat}

def mvOf (o : RO) : Option Operand := match o.guard, o.op with
  | none, .simple (.mv x) => some x
  | _, _ => none
def bindD : Option Nat → SA → List (Nat × SA) → List (Nat × SA)
  | some d, a, σ => (d, a) :: σ
  | none, _, σ => σ
/-- That a value is there: told by a step for a slot alone. -/
def chkOf (n : Nat) : SA → List KS → List KS
  | .slot s, ks => .chk ((SA.slot s).at n) :: ks
  | _, ks => ks
def compSeq (P : Program) (G : Nat) : List RO → Nat → List (Nat × SA) → Option (List KS × Nat × List (Nat × SA))
  | [], n, σ => some ([], n, σ)
  | o :: l, n, σ => match mvOf o with
    | some x => match srcOf G (fun t => some (saOf σ t)) x with
      | some a => cond (a.old n) ((compSeq P G l n (bindD o.dst a σ)).map fun r => (chkOf n a r.1, r.2)) none
      | none => none
    | none => match guardOf (fun t => some (saOf σ t)) n o.guard with
      | some g => match ksOf P G (fun t => some (saOf σ t)) n g o.op with
        | some k => (compSeq P G l (n + 1) (bindD o.dst (.pos n) σ)).map fun r => (k :: r.1, r.2)
        | none => none
      | none => none
def compReg (P : Program) (G : Nat) (gs : Nat → Bool) (l : List RO) : Option KC := match compSeq P G l 0 [] with
  | some (ks, n, σ) => some (.reg ks (((σ.map (·.1)).filter gs).map fun s => (Pa.of s, (saOf σ s).at n)))
  | none => none

def OldS (σ : List (Nat × SA)) (n : Nat) : Prop := ∀ t, (saOf σ t).old n = true
theorem old_mono {a : SA} {n m : Nat} (h : a.old n = true) (hle : n ≤ m) : a.old m = true := by
  cases a with
  | pos i => simp only [SA.old, nblt] at h ⊢; omega
  | _ => rfl
theorem old_bind {σ : List (Nat × SA)} {n m : Nat} (h : OldS σ n) (hle : n ≤ m) {d : Option Nat} {a : SA} (ha : a.old m = true) : OldS (bindD d a σ) m := by
  intro t
  cases d with
  | none => exact old_mono (h t) hle
  | some d =>
    simp only [bindD, saOf]
    cases Nat.beq d t with
    | true => exact ha
    | false => exact old_mono (h t) hle

theorem chk_ok {fr : Tr Value} {a : KA} {L : List Value} {h : AH} {pd : List (Nat × Nat × AObj)} {K : KK Prop} {cs : CS Prop} (hr : kStep AProp P G cs fr (.chk a) L h pd K) : ∃ v, kval fr L a = some v ∧ K L h pd := by
  have hr' : Option.rec (motive := fun _ => Prop) False (fun _ => K L h pd) (kval fr L a) := hr
  cases hv : kval fr L a with
  | none => rw [hv] at hr'; exact hr'.elim
  | some v => rw [hv] at hr'; exact ⟨v, rfl, hr'⟩
theorem nthK_some : ∀ {L : List Value} {i : Nat}, i < L.length → ∃ v, nthK L i = some v
  | [], i, h => by simp at h
  | x :: L, 0, _ => ⟨x, rfl⟩
  | x :: L, i + 1, h => nthK_some (L := L) (i := i) (by simpa using h)
theorem chkOf_ok {fr : Tr Value} {a : SA} {n : Nat} {ks : List KS} {L : List Value} (hn : L.length = n) (ho : a.old n = true) {h : AH} {pd : List (Nat × Nat × AObj)} {K : KK Prop} {cs : CS Prop} (hr : kSteps AProp P G cs fr (chkOf n a ks) L h pd K) :
    ∃ v, kval fr L (a.at n) = some v ∧ kSteps AProp P G cs fr ks L h pd K := by
  cases a with
  | slot s => exact chk_ok (P := P) (G := G) (cs := cs) (fr := fr) (a := (SA.slot s).at n) (L := L) (h := h) (pd := pd) (K := fun L h pd => kSteps AProp P G cs fr ks L h pd K) hr
  | val v => exact ⟨v, rfl, hr⟩
  | pos i =>
    simp only [SA.old, nblt] at ho
    obtain ⟨v, hv⟩ := nthK_some (L := L) (i := n - 1 - i) (by omega)
    exact ⟨v, hv, hr⟩
theorem con_opd (fr : Fr) : Le (opdC G) (opd G fr) := by
  intro x v hx
  cases x with
  | tmp t => cases hx
  | _ => exact hx
theorem mvOf_inv {o : RO} {x : Operand} (h : mvOf o = some x) : o.guard = none ∧ o.op = .simple (.mv x) := by
  unfold mvOf at h
  split at h
  · rename_i hg ho; cases h; exact ⟨hg, ho⟩
  · cases h
theorem wantedA_gOf (fr : Fr) (g : Option (Nat × Bool)) : wantedA fr g = gOf (opd G fr) g := by cases g <;> rfl
theorem putD_get {fr : Fr} {d : Option Nat} {v : Value} {t : Nat} : (putD fr d v).t.get t = if d = some t then some v else fr.t.get t := by
  cases d with
  | none => simp [putD]
  | some d =>
    simp only [putD, Tr.get_set]
    by_cases e : t = d
    · subst e; simp
    · rw [if_neg e, if_neg (by simpa using Ne.symm e)]
theorem putD_d (fr : Fr) (d : Option Nat) (v : Value) : (putD fr d v).d = fr.d := by cases d <;> rfl
theorem saOf_bind {d : Option Nat} {a : SA} {σ : List (Nat × SA)} {t : Nat} : saOf (bindD d a σ) t = if d = some t then a else saOf σ t := by
  cases d with
  | none => simp [bindD]
  | some d =>
    simp only [bindD, saOf]
    cases hb : Nat.beq d t with
    | true => rw [nbeq] at hb; subst hb; simp
    | false =>
      have : d ≠ t := fun e => by subst e; rw [Nat.beq_refl] at hb; cases hb
      simp [this]

theorem seq_sim {cs : CS Prop} (hm : CsR id cs cs) {fr0 : Tr Value} {d0 : List (FuncId × List Value)} {pd : List (Nat × Nat × AObj)} {KK : KK Prop} {K' : Fr → AH → Prop} : ∀ (l : List RO) (n : Nat) (σ : List (Nat × SA)) {ks : List KS} {n' : Nat} {σ' : List (Nat × SA)},
    compSeq P G l n σ = some (ks, n', σ') → ∀ {L : List Value} {h : AH} {fr : Fr}, SigOk G n (fun t => some (saOf σ t)) fr0 L (opd G fr) → OldS σ n → fr.d = d0 → kSteps AProp P G cs fr0 ks L h pd KK →
      (∀ L' h' fr', SigOk G n' (fun t => some (saOf σ' t)) fr0 L' (opd G fr') → fr'.d = d0 → KK L' h' pd → K' fr' h') → opsA AProp P G cs l fr h K'
  | [], n, σ, ks, n', σ', hc, L, h, fr, hs, ho, hd, hr, hK => by
    cases hc
    exact hK L h fr hs hd hr
  | o :: l, n, σ, ks, n', σ', hc, L, h, fr, hs, ho, hd, hr, hK => by
    simp only [compSeq] at hc
    simp only [opsA]
    split at hc
    · rename_i x hx
      obtain ⟨hg, hop⟩ := mvOf_inv hx
      split at hc
      · rename_i a ha
        obtain ⟨hao, hc⟩ := condT hc rfl
        obtain ⟨⟨ks', n2, σ2⟩, hc', he⟩ := Option.map_eq_some_iff.1 hc
        cases he
        obtain ⟨v, hv, hr'⟩ := chkOf_ok (P := P) (G := G) (ks := ks') hs.len hao hr
        have hρ := src_ok hs ha hv
        simp only [stepA, hg, wantedA, hop, xrunA, AOp.run, hρ, Option.map_some]
        refine seq_sim hm l n _ hc' ⟨hs.len, con_opd _, fun t b u hb hu => ?_⟩ (old_bind ho (Nat.le_refl _) hao) (by rw [putD_d]; exact hd) hr' hK
        cases hb
        show (putD fr o.dst v).t.get t = some u
        rw [saOf_bind] at hu
        rw [putD_get]
        by_cases e : o.dst = some t
        · rw [if_pos e] at hu ⊢
          rw [hv] at hu; exact hu
        · rw [if_neg e] at hu ⊢
          exact hs.tmp t _ u rfl hu
      · cases hc
    · rename_i hx
      split at hc
      · rename_i g hg
        split at hc
        · rename_i k hk
          obtain ⟨⟨ks', n2, σ2⟩, hc', he⟩ := Option.map_eq_some_iff.1 hc
          cases he
          have next : ∀ v h', kSteps AProp P G cs fr0 ks' (v :: L) h' pd KK → opsA AProp P G cs l (putD fr o.dst v) h' K' := by
            intro v h' hr'
            refine seq_sim hm l (n + 1) _ hc' ⟨by simp [hs.len], con_opd _, fun t b u hb hu => ?_⟩ (old_bind ho (Nat.le_succ _) (by simp [SA.old, nblt])) (by rw [putD_d]; exact hd) hr' hK
            cases hb
            show (putD fr o.dst v).t.get t = some u
            rw [saOf_bind] at hu
            rw [putD_get]
            by_cases e : o.dst = some t
            · rw [if_pos e] at hu ⊢
              rw [kval_new] at hu; exact hu
            · rw [if_neg e] at hu ⊢
              rw [kval_push hs.len (ho t)] at hu
              exact hs.tmp t _ u rfl hu
          obtain ⟨b, hb, h1, h2⟩ := ks_ok (P := P) (G := G) hm hs hg hk (K := fun L h pd => kSteps AProp P G cs fr0 ks' L h pd KK) (h := h) (pd := pd) hr (K' := fun v h' => opsA AProp P G cs l (putD fr o.dst v) h' K') next
          unfold stepA
          rw [wantedA_gOf (G := G), hb]
          cases b with
          | true =>
            simp only
            split
            · rename_i f args hop
              rw [hop] at hk; simp [ksOf] at hk
            · exact h1 rfl
          | false => exact h2 rfl
        · cases hc
      · cases hc

/-- The frame of the quick machine tells less. -/
def FK (gs : Nat → Bool) (k a : Fr) : Prop := k.d = a.d ∧ ∀ s v, k.t.get s = some v → gs s = true ∧ a.t.get s = some v

theorem back_get {fr : Tr Value} {L : List Value} {f : Nat → KA} : ∀ (ks : List Nat) (t : Tr Value) (s : Nat), (kBack fr L (ks.map fun s => (Pa.of s, f s)) t).get s = if s ∈ ks then kval fr L (f s) else t.get s
  | [], t, s => by simp; rfl
  | k :: ks, t, s => by
    have e : kBack fr L ((k :: ks).map fun s => (Pa.of s, f s)) t = kBack fr L (ks.map fun s => (Pa.of s, f s)) (setP (kval fr L (f k)) (Pa.of k) t) := rfl
    rw [e, back_get ks _ s]
    have hg : (setP (kval fr L (f k)) (Pa.of k) t).get s = if s = k then kval fr L (f k) else t.get s := by
      cases hv : kval fr L (f k) with
      | none => rw [delP_of, Tr.get_del]
      | some v => rw [setP_of, Tr.get_set]
    rw [hg]
    by_cases e1 : s ∈ ks
    · rw [if_pos e1, if_pos (by simp [e1])]
    · rw [if_neg e1]
      by_cases e2 : s = k
      · subst e2; simp
      · rw [if_neg e2, if_neg (by simp [e1, e2])]
theorem saOf_key {σ : List (Nat × SA)} {t : Nat} (h : t ∉ σ.map (·.1)) : saOf σ t = .slot t := by
  induction σ with
  | nil => rfl
  | cons p σ ih =>
    obtain ⟨s, a⟩ := p
    simp only [List.map_cons, List.mem_cons, not_or] at h
    simp only [saOf]
    have : Nat.beq s t = false := by
      rw [Bool.eq_false_iff]; intro hb; rw [nbeq] at hb; exact h.1 hb.symm
    rw [this]
    exact ih h.2

theorem reg_sim {cs : CS Prop} (hm : CsR id cs cs) {gs : Nat → Bool} {l : List RO} {c : KC} (hc : compReg P G gs l = some c) {lo : LO Prop} {k a : Fr} (hf : FK gs k a) {h : AH} {K : Ex → Fr → AH → Prop} {K' : Fr → AH → Prop} (hr : execK AProp P G cs lo c k h K)
    (hK : ∀ k a h, FK gs k a → K .normal k h → K' a h) : opsA AProp P G cs l a h K' := by
  unfold compReg at hc
  split at hc
  · rename_i ks n σ hcs
    cases hc
    have hr' : kSteps AProp P G cs k.t ks [] h [] (fun L h _ => K .normal { k with t := kBack k.t L (((σ.map (·.1)).filter gs).map fun s => (Pa.of s, (saOf σ s).at n)) k.t } h) := hr
    refine seq_sim hm l 0 [] hcs (d0 := a.d) ⟨rfl, con_opd _, fun t b u hb hu => ?_⟩ (fun t => rfl) rfl hr' fun L' h' fr' hs hd hk => ?_
    · cases hb
      have : getP (Pa.of t) k.t = some u := hu
      rw [getP_of] at this
      exact (hf.2 t u this).2
    · refine hK _ fr' _ ⟨by rw [hd]; exact hf.1, fun s v hv => ?_⟩ hk
      simp only [back_get (f := fun s => (saOf σ s).at n)] at hv
      by_cases e : s ∈ (σ.map (·.1)).filter gs
      · rw [if_pos e] at hv
        exact ⟨(List.mem_filter.1 e).2, hs.tmp s _ v rfl hv⟩
      · rw [if_neg e] at hv
        have hg := (hf.2 s v hv).1
        have hns : s ∉ σ.map (·.1) := fun hm => e (List.mem_filter.2 ⟨hm, hg⟩)
        refine ⟨hg, hs.tmp s _ v rfl ?_⟩
        rw [saOf_key hns]
        show getP (Pa.of s) k.t = some v
        rw [getP_of]; exact hv
  · cases hc
end Go.Am

/-
  A machine that is quick to reckon with, part 7: regions that draw their order.
-/
namespace Go.Am
open Go
variable {P : Program} {G : Nat}

def findS : List (Nat × SA) → Nat → Option SA
  | [], _ => none
  | (j, a) :: l, i => cond (Nat.beq j i) (some a) (findS l i)
def srcD (σ : List (Nat × SA)) (src : List (Nat × Option Nat)) (t : Nat) : Option SA := match lookS src t with
  | some (some j) => findS σ j
  | some none => some (.slot t)
  | none => none
def compLev (P : Program) (G : Nat) (d : DR) : List Nat → Nat → List (Nat × SA) → Option (List KS × Nat × List (Nat × SA))
  | [], n, σ => some ([], n, σ)
  | i :: l, n, σ => match d.ros[i]? with
    | some r => match mvOf r.o with
      | some x => match srcOf G (srcD σ r.src) x with
        | some a => cond (a.old n) ((compLev P G d l n ((i, a) :: σ)).map fun q => (chkOf n a q.1, q.2)) none
        | none => none
      | none => match guardOf (srcD σ r.src) n r.o.guard with
        | some g => match r.o.op with
          | .simple op => cond op.isA
            (match argsOf G (srcD σ r.src) n (op.slots.map .tmp) with
            | some as => (compLev P G d l (n + 1) ((i, .pos n) :: σ)).map fun q => (.alloc i op op.slots as g :: q.1, q.2)
            | none => none)
            (cond op.isN (match ksOf P G (srcD σ r.src) n g (.simple op) with
            | some k => (compLev P G d l (n + 1) ((i, .pos n) :: σ)).map fun q => (k :: q.1, q.2)
            | none => none) none)
          | _ => none
        | none => none
    | none => none
def compRe (P : Program) (G : Nat) (d : DR) (n : Nat) (σ : List (Nat × SA)) : List Nat → Option (List KS)
  | [] => some []
  | i :: l => match d.ros[i]? with
    | some r => match r.o.op with
      | .simple op => match kfOf P op, guardOf (srcD σ r.src) n r.o.guard, findS σ i with
        | some (f, xs), some g, some u => match argsOf G (srcD σ r.src) n xs, compRe P G d n σ l with
          | some as, some ks => some (.re f as g (u.at n) :: ks)
          | _, _ => none
        | _, _, _ => none
      | _ => none
    | none => none
def compStg (P : Program) (G : Nat) (d : DR) : List Stage → Nat → List (Nat × SA) → Option (List KS × Nat × List (Nat × SA))
  | [], n, σ => some ([], n, σ)
  | s :: ss, n, σ => match d.ros[s.e]? with
    | some r => match guardOf (srcD σ r.src) n r.o.guard with
      | some g => match ksOf P G (srcD σ r.src) n g r.o.op with
        | some k => match compLev P G d s.lev (n + 1) ((s.e, .pos n) :: σ) with
          | some (ks1, n1, σ1) => match compRe P G d n1 σ1 s.re with
            | some ks2 => (compStg P G d ss n1 σ1).map fun q => (s.ab.map .abs ++ (k :: (ks1 ++ (ks2 ++ q.1))), q.2)
            | none => none
          | none => none
        | none => none
      | none => none
    | none => none
def wbOf (gs : Nat → Bool) (σ : List (Nat × SA)) : Nat → List RD → Option (List (Nat × SA))
  | _, [] => some []
  | i, r :: l => match r.o.dst with
    | none => wbOf gs σ (i + 1) l
    | some s => cond (gs s) (match findS σ i, wbOf gs σ (i + 1) l with
      | some a, some w => some ((s, a) :: w)
      | _, _ => none) (wbOf gs σ (i + 1) l)
def compDrawK (P : Program) (G : Nat) (gs : Nat → Bool) (d : DR) : Option KC := match compLev P G d d.lev0 0 [] with
  | some (ks0, n0, σ0) => match compStg P G d d.stages n0 σ0 with
    | some (ks1, n, σ) => match wbOf gs σ 0 d.ros with
      | some w => cond (dstsB d.ros) (some (.reg (ks0 ++ (ks1 ++ d.fin.map .abs)) ((w.map (·.1)).map fun s => (Pa.of s, (saOf w s).at n)))) none
      | none => none
    | none => none
  | none => none

theorem steps_append {cs : CS Prop} {fr : Tr Value} : ∀ (a b : List KS) (L : List Value) (h : AH) (pd : List (Nat × Nat × AObj)) (K : KK Prop), kSteps AProp P G cs fr (a ++ b) L h pd K = kSteps AProp P G cs fr a L h pd (fun L h pd => kSteps AProp P G cs fr b L h pd K)
  | [], b, L, h, pd, K => rfl
  | s :: a, b, L, h, pd, K => by
    have e : (fun L h pd => kSteps AProp P G cs fr (a ++ b) L h pd K) = fun L h pd => kSteps AProp P G cs fr a L h pd (fun L h pd => kSteps AProp P G cs fr b L h pd K) := by
      funext L h pd; exact steps_append a b L h pd K
    show kStep AProp P G cs fr s L h pd (fun L h pd => kSteps AProp P G cs fr (a ++ b) L h pd K) = _
    rw [e]; rfl

structure DI (n : Nat) (σ : List (Nat × SA)) (fr0 : Tr Value) (L : List Value) (vs : Tr Value) (fr : Fr) : Prop where
  len : L.length = n
  old : ∀ j a, findS σ j = some a → a.old n = true
  val : ∀ j a v, findS σ j = some a → kval fr0 L (a.at n) = some v → vs.get j = some v
  fk : ∀ t v, fr0.get t = some v → fr.t.get t = some v
def PdR (k : List (Nat × Nat × AObj)) (pd : Pend) : Prop := ∀ i, takePd k i = pd.get i

theorem findS_cons {j : Nat} {a : SA} {σ : List (Nat × SA)} {i : Nat} : findS ((j, a) :: σ) i = if j = i then some a else findS σ i := by
  simp only [findS]
  cases hb : Nat.beq j i with
  | true => rw [nbeq] at hb; subst hb; simp
  | false =>
    have : j ≠ i := fun e => by subst e; rw [Nat.beq_refl] at hb; cases hb
    simp [this]
section
variable {n : Nat} {σ : List (Nat × SA)} {fr0 : Tr Value} {L : List Value} {vs : Tr Value} {fr : Fr} (di : DI n σ fr0 L vs fr)
include di
theorem DI.sig (src : List (Nat × Option Nat)) : SigOk G n (srcD σ src) fr0 L (opdS G fr vs src) := by
  refine ⟨di.len, fun x v hx => ?_, fun t a v ha hv => ?_⟩
  · cases x with
    | tmp t => cases hx
    | _ => exact hx
  · simp only [srcD] at ha
    simp only [opdS]
    split at ha
    · rename_i j hl
      try rw [hl]
      exact di.val j a v ha hv
    · rename_i hl
      cases ha
      try rw [hl]
      have : getP (Pa.of t) fr0 = some v := hv
      rw [getP_of] at this
      exact di.fk t v this
    · cases ha
theorem DI.push (i : Nat) (v : Value) : DI (n + 1) ((i, .pos n) :: σ) fr0 (v :: L) (vs.set i v) fr := by
  refine ⟨by simp [di.len], fun j a ha => ?_, fun j a u ha hu => ?_, di.fk⟩
  · rw [findS_cons] at ha
    by_cases e : i = j
    · rw [if_pos e] at ha; cases ha; simp [SA.old, nblt]
    · rw [if_neg e] at ha; exact old_mono (di.old j a ha) (Nat.le_succ _)
  · rw [findS_cons] at ha
    rw [Tr.get_set]
    by_cases e : i = j
    · rw [if_pos e] at ha; cases ha
      rw [kval_new] at hu
      rw [if_pos e.symm]; exact hu
    · rw [if_neg e] at ha
      rw [kval_push di.len (di.old j a ha)] at hu
      rw [if_neg (Ne.symm e)]
      exact di.val j a u ha hu
theorem DI.alias (i : Nat) {a : SA} (ho : a.old n = true) {v : Value} (hv : kval fr0 L (a.at n) = some v) : DI n ((i, a) :: σ) fr0 L (vs.set i v) fr := by
  refine ⟨di.len, fun j b hb => ?_, fun j b u hb hu => ?_, di.fk⟩
  · rw [findS_cons] at hb
    by_cases e : i = j
    · rw [if_pos e] at hb; cases hb; exact ho
    · rw [if_neg e] at hb; exact di.old j b hb
  · rw [findS_cons] at hb
    rw [Tr.get_set]
    by_cases e : i = j
    · rw [if_pos e] at hb; cases hb
      rw [hv] at hu
      rw [if_pos e.symm]; exact hu
    · rw [if_neg e] at hb
      rw [if_neg (Ne.symm e)]
      exact di.val j b u hb hu
end
theorem wantedS_gOf (fr : Fr) (vs : Tr Value) (r : RD) : wantedS G fr vs r = gOf (opdS G fr vs r.src) r.o.guard := by
  unfold wantedS gOf
  cases r.o.guard <;> rfl
theorem PdR.cons {k : List (Nat × Nat × AObj)} {pd : Pend} (h : PdR k pd) (i : Nat) (q : Nat × AObj) : PdR ((i, q) :: k) (pd.set i q) := by
  intro j
  rw [Tr.get_set]
  simp only [takePd]
  cases hb : Nat.beq i j with
  | true => rw [nbeq] at hb; subst hb; simp
  | false =>
    have : j ≠ i := fun e => by subst e; rw [Nat.beq_refl] at hb; cases hb
    simp [this, h j]
theorem take_drop (i : Nat) : ∀ (k : List (Nat × Nat × AObj)) (j : Nat), takePd (dropPd k i) j = if j = i then none else takePd k j
  | [], j => by simp [takePd, dropPd]
  | (m, q) :: k, j => by
    simp only [dropPd]
    cases hb : Nat.beq m i with
    | true =>
      rw [nbeq] at hb; subst hb
      simp only [cond_true, take_drop m k j, takePd]
      by_cases e : j = m
      · subst e; simp
      · have : Nat.beq m j = false := by rw [Bool.eq_false_iff]; intro hb; rw [nbeq] at hb; exact e hb.symm
        simp [e, this]
    | false =>
      have hne : m ≠ i := fun e => by subst e; rw [Nat.beq_refl] at hb; cases hb
      simp only [cond_false, takePd, take_drop i k j]
      cases hb2 : Nat.beq m j with
      | true => rw [nbeq] at hb2; subst hb2; simp [hne]
      | false => simp
theorem PdR.del {k : List (Nat × Nat × AObj)} {pd : Pend} (h : PdR k pd) (i : Nat) : PdR (dropPd k i) (pd.del i) := by
  intro j
  rw [take_drop, Tr.get_del, h j]

theorem abs_sim {cs : CS Prop} {fr0 : Tr Value} : ∀ (l : List Nat) {L : List Value} {h : AH} {k : List (Nat × Nat × AObj)} {pd : Pend} {KK : KK Prop}, PdR k pd → kSteps AProp P G cs fr0 (l.map .abs) L h k KK →
    ∃ k', PdR k' (absA l h pd).2 ∧ KK L (absA l h pd).1 k'
  | [], L, h, k, pd, KK, hp, hr => ⟨k, hp, hr⟩
  | i :: l, L, h, k, pd, KK, hp, hr => by
    have hr' : kAbs i L h k (fun L h k => kSteps AProp P G cs fr0 (l.map .abs) L h k KK) := hr
    unfold kAbs at hr'
    rw [hp i] at hr'
    simp only [absA]
    cases hpi : pd.get i with
    | some q =>
      rw [hpi] at hr'
      exact abs_sim l (hp.del i) hr'
    | none =>
      rw [hpi] at hr'
      exact abs_sim l hp hr'

theorem lev_sim {cs : CS Prop} (hm : CsR id cs cs) {d : DR} {fr0 : Tr Value} {fr : Fr} {KK : KK Prop} {K' : Tr Value → AH → Pend → Prop} : ∀ (l : List Nat) (n : Nat) (σ : List (Nat × SA)) {ks : List KS} {n' : Nat} {σ' : List (Nat × SA)},
    compLev P G d l n σ = some (ks, n', σ') → ∀ {L : List Value} {vs : Tr Value} {h : AH} {k : List (Nat × Nat × AObj)} {pd : Pend}, DI n σ fr0 L vs fr → PdR k pd → kSteps AProp P G cs fr0 ks L h k KK →
      (∀ L' vs' h' k' pd', DI n' σ' fr0 L' vs' fr → PdR k' pd' → KK L' h' k' → K' vs' h' pd') → levA AProp P G d fr l vs h pd K'
  | [], n, σ, ks, n', σ', hc, L, vs, h, k, pd, di, hp, hr, hK => by
    cases hc
    exact hK _ _ _ _ _ di hp hr
  | i :: l, n, σ, ks, n', σ', hc, L, vs, h, k, pd, di, hp, hr, hK => by
    simp only [compLev] at hc
    simp only [levA]
    split at hc
    · rename_i r hri
      try rw [hri]
      try simp only
      split at hc
      · rename_i x hx
        obtain ⟨hg, hop⟩ := mvOf_inv hx
        split at hc
        · rename_i a ha
          obtain ⟨hao, hc⟩ := condT hc rfl
          obtain ⟨⟨ks', n2, σ2⟩, hc', he⟩ := Option.map_eq_some_iff.1 hc
          cases he
          obtain ⟨v, hv, hr'⟩ := chkOf_ok (P := P) (G := G) (ks := ks') di.len hao hr
          have hρ := src_ok (G := G) (di.sig r.src) ha hv
          have hw : wantedS G fr vs r = some true := by unfold wantedS; rw [hg]
          rw [hw, hop]
          simp only [AOp.isA, cond_false, AOp.run, hρ, Option.map_some]
          exact lev_sim hm l n _ hc' (di.alias i hao hv) hp hr' hK
        · cases hc
      · split at hc
        · rename_i g hg
          split at hc
          · rename_i op hop
            try rw [hop]
            cases hA : op.isA with
            | true =>
              rw [hA] at hc
              simp only [cond_true] at hc
              split at hc
              · rename_i as has
                obtain ⟨⟨ks', n2, σ2⟩, hc', he⟩ := Option.map_eq_some_iff.1 hc
                cases he
                have hr' : Option.rec (motive := fun _ => Prop) False (fun b => Bool.rec (motive := fun _ => Prop) (kSteps AProp P G cs fr0 ks' (undef :: L) h k KK)
                    (Option.rec (motive := fun _ => Prop) False (fun us => Option.rec (motive := fun _ => Prop) False (fun q => Prod.rec (motive := fun _ => Prop) (fun obj kk => kSteps AProp P G cs fr0 ks' (kk.val h.next :: L) (h.push .dead) ((i, h.next, obj) :: k) KK) q) (allocOf (opdT G op.slots us) op)) (kvals fr0 L as)) b) (kwant fr0 L g) := hr
                cases hw : kwant fr0 L g with
                | none => rw [hw] at hr'; exact hr'.elim
                | some b =>
                  rw [hw] at hr'
                  have hwb := guard_ok (G := G) (di.sig r.src) hg hw
                  rw [wantedS_gOf, hwb]
                  cases b with
                  | false => exact lev_sim hm l (n + 1) _ hc' (di.push i undef) hp hr' hK
                  | true =>
                    simp only at hr' ⊢
                    cases hvs : kvals fr0 L as with
                    | none => rw [hvs] at hr'; exact hr'.elim
                    | some us =>
                      rw [hvs] at hr'
                      simp only at hr'
                      cases hal : allocOf (opdT G op.slots us) op with
                      | none => rw [hal] at hr'; exact hr'.elim
                      | some q =>
                        obtain ⟨obj, kk⟩ := q
                        rw [hal] at hr'
                        have h1 := args_ok (di.sig (G := G) r.src) has hvs
                        have h2 := allocOf_mono (opdT_le (di.sig (G := G) r.src).con h1) hal
                        rw [hA]
                        simp only [cond_true, h2]
                        exact lev_sim hm l (n + 1) _ hc' (di.push i _) (hp.cons i _) hr' hK
              · cases hc
            | false =>
              rw [hA] at hc
              simp only [cond_false] at hc
              obtain ⟨hN, hc⟩ := condT hc rfl
              split at hc
              · rename_i ks0 hk
                obtain ⟨⟨ks', n2, σ2⟩, hc', he⟩ := Option.map_eq_some_iff.1 hc
                cases he
                obtain ⟨b, hb, h1, h2⟩ := ks_ok (P := P) (G := G) hm (di.sig r.src) hg hk (K := fun L h k => kSteps AProp P G cs fr0 ks' L h k KK) (h := h) (pd := k) hr (K' := fun v h' => kSteps AProp P G cs fr0 ks' (v :: L) h' k KK) (fun v h hh => hh)
                rw [wantedS_gOf, hb]
                cases b with
                | false => exact lev_sim hm l (n + 1) _ hc' (di.push i undef) hp (h2 rfl) hK
                | true =>
                  have h3 := h1 rfl
                  simp only [xrunA] at h3
                  simp only [hA, cond_false]
                  split at h3
                  · rename_i v h' hrun
                    try rw [hrun]
                    have := run_N hN hrun
                    subst this
                    exact lev_sim hm l (n + 1) _ hc' (di.push i v) hp h3 hK
                  · exact h3.elim
              · cases hc
          · cases hc
        · cases hc
    · cases hc

theorem re_sim {cs : CS Prop} {d : DR} {fr0 : Tr Value} {fr : Fr} {n : Nat} {σ : List (Nat × SA)} {L : List Value} {vs : Tr Value} (di : DI n σ fr0 L vs fr) {h : AH} {k : List (Nat × Nat × AObj)} {KK : KK Prop} {k' : Prop} :
    ∀ (l : List Nat) {ks : List KS}, compRe P G d n σ l = some ks → kSteps AProp P G cs fr0 ks L h k KK → (KK L h k → k') → recA AProp P G d fr l vs h k'
  | [], ks, hc, hr, hK => by cases hc; exact hK hr
  | i :: l, ks, hc, hr, hK => by
    simp only [compRe] at hc
    simp only [recA]
    split at hc
    · rename_i r hri
      try rw [hri]
      try simp only
      split at hc
      · rename_i op hop
        split at hc
        · rename_i f xs g u hf hg hu
          split at hc
          · rename_i as ks' has hks
            cases hc
            have hr' : Option.rec (motive := fun _ => Prop) False (fun b => Bool.rec (motive := fun _ => Prop) (kSteps AProp P G cs fr0 ks' L h k KK)
                (Option.rec (motive := fun _ => Prop) False (fun us => Option.rec (motive := fun _ => Prop) False (fun q => Prod.rec (motive := fun _ => Prop) (fun v _ => Option.rec (motive := fun _ => Prop) False (fun u => v = u ∧ kSteps AProp P G cs fr0 ks' L h k KK) (kval fr0 L (u.at n))) q) (f.run P G h us)) (kvals fr0 L as)) b) (kwant fr0 L g) := hr
            cases hw : kwant fr0 L g with
            | none => rw [hw] at hr'; exact hr'.elim
            | some b =>
              rw [hw] at hr'
              have hwb := guard_ok (G := G) (di.sig r.src) hg hw
              rw [wantedS_gOf, hwb]
              cases b with
              | false => exact re_sim di l hks hr' hK
              | true =>
                simp only at hr' ⊢
                cases hvs : kvals fr0 L as with
                | none => rw [hvs] at hr'; exact hr'.elim
                | some us =>
                  rw [hvs] at hr'
                  simp only at hr'
                  cases hrun : f.run P G h us with
                  | none => rw [hrun] at hr'; exact hr'.elim
                  | some q =>
                    obtain ⟨v, h1⟩ := q
                    rw [hrun] at hr'
                    simp only at hr'
                    cases hu2 : kval fr0 L (u.at n) with
                    | none => rw [hu2] at hr'; exact hr'.elim
                    | some w =>
                      rw [hu2] at hr'
                      obtain ⟨e, hr2⟩ := hr'
                      have h3 := kfOf_ok (G := G) hf _ us h _ (di.sig r.src).con (args_ok (di.sig (G := G) r.src) has hvs) hrun
                      have h4 := di.val i u w hu hu2
                      simp only [hop, h3, h4]
                      exact ⟨e, re_sim di l hks hr2 hK⟩
          · cases hc
        · cases hc
      · cases hc
    · cases hc
end Go.Am

/-
  A machine that is quick to reckon with, part 8: regions that draw their order, whole.
-/
namespace Go.Am
open Go
variable {P : Program} {G : Nat}

theorem stg_sim {cs : CS Prop} (hm : CsR id cs cs) {d : DR} {fr0 : Tr Value} {fr : Fr} {KK : KK Prop} {K' : Tr Value → AH → Pend → Prop} : ∀ (l : List Stage) (n : Nat) (σ : List (Nat × SA)) {ks : List KS} {n' : Nat} {σ' : List (Nat × SA)},
    compStg P G d l n σ = some (ks, n', σ') → ∀ {L : List Value} {vs : Tr Value} {h : AH} {k : List (Nat × Nat × AObj)} {pd : Pend}, DI n σ fr0 L vs fr → PdR k pd → kSteps AProp P G cs fr0 ks L h k KK →
      (∀ L' vs' h' k' pd', DI n' σ' fr0 L' vs' fr → PdR k' pd' → KK L' h' k' → K' vs' h' pd') → stgA AProp P G cs d fr l vs h pd K'
  | [], n, σ, ks, n', σ', hc, L, vs, h, k, pd, di, hp, hr, hK => by
    cases hc
    exact hK _ _ _ _ _ di hp hr
  | s :: l, n, σ, ks, n', σ', hc, L, vs, h, k, pd, di, hp, hr, hK => by
    simp only [compStg] at hc
    simp only [stgA]
    split at hc
    · rename_i r hri
      try rw [hri]
      try simp only
      split at hc
      · rename_i g hg
        split at hc
        · rename_i k0 hk0
          split at hc
          · rename_i ks1 n1 σ1 hc1
            split at hc
            · rename_i ks2 hc2
              obtain ⟨⟨ks3, n3, σ3⟩, hc3, he⟩ := Option.map_eq_some_iff.1 hc
              cases he
              rw [steps_append] at hr
              obtain ⟨k1, hp1, hr1⟩ := abs_sim s.ab hp hr
              have next : ∀ v h', kSteps AProp P G cs fr0 (ks1 ++ (ks2 ++ ks3)) (v :: L) h' k1 KK →
                  levA AProp P G d fr s.lev (vs.set s.e v) h' (absA s.ab h pd).2 fun vs h pd => recA AProp P G d fr s.re vs h (stgA AProp P G cs d fr l vs h pd K') := by
                intro v h' hr2
                rw [steps_append] at hr2
                refine lev_sim hm s.lev (n + 1) _ hc1 (di.push s.e v) hp1 hr2 fun L2 vs2 h2 k2 pd2 di2 hp2 hr3 => ?_
                rw [steps_append] at hr3
                exact re_sim di2 s.re hc2 hr3 fun hr4 => stg_sim hm l n1 σ1 hc3 di2 hp2 hr4 hK
              obtain ⟨b, hb, h1, h2⟩ := ks_ok (P := P) (G := G) hm (di.sig r.src) hg hk0 (K := fun L h k => kSteps AProp P G cs fr0 (ks1 ++ (ks2 ++ ks3)) L h k KK) (h := (absA s.ab h pd).1) (pd := k1) hr1
                (K' := fun v h' => levA AProp P G d fr s.lev (vs.set s.e v) h' (absA s.ab h pd).2 fun vs h pd => recA AProp P G d fr s.re vs h (stgA AProp P G cs d fr l vs h pd K')) next
              rw [wantedS_gOf, hb]
              cases b with
              | true => exact h1 rfl
              | false => exact h2 rfl
            · cases hc
          · cases hc
        · cases hc
      · cases hc
    · cases hc

theorem fin_no {vs : Tr Value} : ∀ (l : List RD) (i : Nat) (t : Tr Value) (s : Nat), (∀ (j : Nat) (r : RD), l[j]? = some r → r.o.dst ≠ some s) → (finA i l vs t).get s = t.get s
  | [], i, t, s, h => rfl
  | x :: l, i, t, s, h => by
    have h' : ∀ (j : Nat) (r : RD), l[j]? = some r → r.o.dst ≠ some s := fun j r hj => h (j + 1) r (by simpa using hj)
    have hx := h 0 x rfl
    simp only [finA]
    cases hd : x.o.dst with
    | none => exact fin_no l (i + 1) t s h'
    | some s' =>
      have hne : s ≠ s' := fun e => by subst e; exact hx hd
      simp only
      split
      · rw [fin_no l (i + 1) _ s h', Tr.get_set, if_neg hne]
      · rw [fin_no l (i + 1) _ s h', Tr.get_del, if_neg hne]
theorem fin_fwd {vs : Tr Value} : ∀ (l : List RD) (i : Nat) (t : Tr Value) (s : Nat), (∀ (j k : Nat) (r q : RD) (s : Nat), l[j]? = some r → l[k]? = some q → r.o.dst = some s → q.o.dst = some s → j = k) →
    ∀ (j : Nat) (r : RD) (v : Value), l[j]? = some r → r.o.dst = some s → vs.get (i + j) = some v → (finA i l vs t).get s = some v
  | [], i, t, s, hu, j, r, v, hj, _, _ => by simp at hj
  | x :: l, i, t, s, hu, j, r, v, hj, hd, hv => by
    have hu' : ∀ (j k : Nat) (r q : RD) (s : Nat), l[j]? = some r → l[k]? = some q → r.o.dst = some s → q.o.dst = some s → j = k := fun j k r q s h1 h2 h3 h4 => by
      have := hu (j + 1) (k + 1) r q s (by simpa using h1) (by simpa using h2) h3 h4
      omega
    cases j with
    | zero =>
      simp at hj; subst hj
      have hno : ∀ (j : Nat) (r : RD), l[j]? = some r → r.o.dst ≠ some s := fun j r hj he => by
        have := hu (j + 1) 0 r x s (by simpa using hj) rfl he hd
        omega
      simp only [finA, hd]
      rw [Nat.add_zero] at hv
      rw [hv]
      simp only
      rw [fin_no l (i + 1) _ s hno, Tr.get_set, if_pos rfl]
    | succ j =>
      have hj' : l[j]? = some r := by simpa using hj
      have hv' : vs.get (i + 1 + j) = some v := by rw [← hv]; congr 1; omega
      simp only [finA]
      split
      · split
        · exact fin_fwd l (i + 1) _ s hu' j r v hj' hd hv'
        · exact fin_fwd l (i + 1) _ s hu' j r v hj' hd hv'
      · exact fin_fwd l (i + 1) _ s hu' j r v hj' hd hv'

theorem wb_mem {gs : Nat → Bool} {σ : List (Nat × SA)} : ∀ (l : List RD) (i : Nat) {w : List (Nat × SA)}, wbOf gs σ i l = some w → ∀ s a, (s, a) ∈ w → gs s = true ∧ ∃ (j : Nat) (r : RD), l[j]? = some r ∧ r.o.dst = some s ∧ findS σ (i + j) = some a
  | [], i, w, h, s, a, hm => by cases h; simp at hm
  | x :: l, i, w, h, s, a, hm => by
    have lift : ∀ {w'}, wbOf gs σ (i + 1) l = some w' → (s, a) ∈ w' → gs s = true ∧ ∃ (j : Nat) (r : RD), (x :: l)[j]? = some r ∧ r.o.dst = some s ∧ findS σ (i + j) = some a := fun h1 h2 => by
      obtain ⟨g1, j, r, h3, h4, h5⟩ := wb_mem l (i + 1) h1 s a h2
      exact ⟨g1, j + 1, r, by simpa using h3, h4, by rw [← h5]; congr 1; omega⟩
    simp only [wbOf] at h
    split at h
    · exact lift h hm
    · rename_i s' hd
      cases hg : gs s' with
      | false => rw [hg] at h; exact lift h hm
      | true =>
        rw [hg] at h
        simp only [cond_true] at h
        split at h
        · rename_i a' w' ha hw
          cases h
          rcases List.mem_cons.1 hm with e | hm
          · cases e
            exact ⟨hg, 0, x, rfl, hd, ha⟩
          · exact lift hw hm
        · cases h
theorem wb_all {gs : Nat → Bool} {σ : List (Nat × SA)} : ∀ (l : List RD) (i : Nat) {w : List (Nat × SA)}, wbOf gs σ i l = some w → ∀ (j : Nat) (r : RD) (s : Nat), l[j]? = some r → r.o.dst = some s → gs s = true → s ∈ w.map (·.1)
  | [], i, w, h, j, r, s, hj, _, _ => by simp at hj
  | x :: l, i, w, h, j, r, s, hj, hd, hgs => by
    simp only [wbOf] at h
    cases j with
    | zero =>
      simp at hj; subst hj
      rw [hd] at h
      simp only [hgs, cond_true] at h
      split at h
      · cases h; simp
      · cases h
    | succ j =>
      have hj' : l[j]? = some r := by simpa using hj
      split at h
      · exact wb_all l (i + 1) h j r s hj' hd hgs
      · rename_i s' hd'
        cases hg : gs s' with
        | false => rw [hg] at h; exact wb_all l (i + 1) h j r s hj' hd hgs
        | true =>
          rw [hg] at h
          simp only [cond_true] at h
          split at h
          · rename_i a' w' ha hw
            cases h
            have := wb_all l (i + 1) hw j r s hj' hd hgs
            simp only [List.map_cons, List.mem_cons]
            exact .inr this
          · cases h
theorem saOf_in {w : List (Nat × SA)} {s : Nat} (h : s ∈ w.map (·.1)) : (s, saOf w s) ∈ w := by
  induction w with
  | nil => simp at h
  | cons p w ih =>
    obtain ⟨t, a⟩ := p
    simp only [saOf]
    cases hb : Nat.beq t s with
    | true => rw [nbeq] at hb; subst hb; simp
    | false =>
      have hne : t ≠ s := fun e => by subst e; rw [Nat.beq_refl] at hb; cases hb
      simp only [List.map_cons, List.mem_cons] at h
      rcases h with h | h
      · exact absurd h.symm hne
      · exact List.mem_cons_of_mem _ (ih h)

theorem drawK_sim {cs : CS Prop} (hm : CsR id cs cs) {gs : Nat → Bool} {d : DR} {c : KC} (hc : compDrawK P G gs d = some c) {lo : LO Prop} {k a : Fr} (hf : FK gs k a) {h : AH} {K : Ex → Fr → AH → Prop} {K' : Fr → AH → Prop} (hr : execK AProp P G cs lo c k h K)
    (hK : ∀ k a h, FK gs k a → K .normal k h → K' a h) : drawA AProp P G cs d a h K' := by
  unfold compDrawK at hc
  split at hc
  · rename_i ks0 n0 σ0 hc0
    split at hc
    · rename_i ks1 n σ hc1
      split at hc
      · rename_i w hw
        obtain ⟨hu, hc⟩ := condT hc rfl
        cases hc
        have hr' : kSteps AProp P G cs k.t (ks0 ++ (ks1 ++ d.fin.map .abs)) [] h [] (fun L h _ => K .normal { k with t := kBack k.t L ((w.map (·.1)).map fun s => (Pa.of s, (saOf w s).at n)) k.t } h) := hr
        rw [steps_append] at hr'
        unfold drawA
        refine lev_sim hm d.lev0 0 [] hc0 ⟨rfl, fun j a hj => (by cases hj), fun j a v hj => (by cases hj), fun t v ht => (hf.2 t v ht).2⟩ (fun i => by simp [takePd]) hr' fun L1 vs1 h1 k1 pd1 di1 hp1 hr1 => ?_
        rw [steps_append] at hr1
        refine stg_sim hm d.stages n0 σ0 hc1 di1 hp1 hr1 fun L2 vs2 h2 k2 pd2 di2 hp2 hr2 => ?_
        obtain ⟨k3, hp3, hr3⟩ := abs_sim d.fin hp2 hr2
        refine hK _ { a with t := finA 0 d.ros vs2 a.t } _ ?_ hr3
        refine ⟨hf.1, fun s v hv => ?_⟩
        simp only [back_get (f := fun s => (saOf w s).at n)] at hv
        by_cases e : s ∈ w.map (·.1)
        · rw [if_pos e] at hv
          obtain ⟨hg, j, r, hj, hd, hfs⟩ := wb_mem d.ros 0 hw s _ (saOf_in e)
          rw [Nat.zero_add] at hfs
          have hval := di2.val j _ v hfs hv
          exact ⟨hg, fin_fwd d.ros 0 a.t s (fun j k r q s h1 h2 h3 h4 => dsts_inv hu h1 h2 h3 h4) j r v hj hd (by rw [Nat.zero_add]; exact hval)⟩
        · rw [if_neg e] at hv
          obtain ⟨hg, ha⟩ := hf.2 s v hv
          refine ⟨hg, ?_⟩
          show (finA 0 d.ros vs2 a.t).get s = some v
          rw [fin_no d.ros 0 a.t s fun j r hj hd => e (wb_all d.ros 0 hw j r s hj hd hg)]
          exact ha
      · cases hc
    · cases hc
  · cases hc
end Go.Am

/-
  A machine that is quick to reckon with, part 9: code and functions.
-/
namespace Go.Am
open Go
variable {P : Program} {G : Nat}

def slotS (t : Nat) : Option SA := some (.slot t)
def dstIn (gs : Nat → Bool) : Option Nat → Bool
  | some d => gs d
  | none => false
def compOps (P : Program) (G : Nat) (gs : Nat → Bool) (l : List RO) : Option KC := match l.reverse with
  | ⟨dst, .defer f xs, none⟩ :: l' => match compReg P G gs l'.reverse, argsOf G slotS 0 xs with
    | some c, some as => cond (dstIn gs dst) none (some (.seq c (.dfr f as)))
    | _, _ => none
  | _ => compReg P G gs l
def compK (P : Program) (G : Nat) (gs : Nat → Bool) : AC → Option KC
  | .skip => some .skip
  | .ops l => compOps P G gs l
  | .draw d => compDrawK P G gs d
  | .seq a b => match compK P G gs a, compK P G gs b with
    | some a, some b => some (.seq a b)
    | _, _ => none
  | .cond c a b => match srcOf G slotS c, compK P G gs a, compK P G gs b with
    | some c, some a, some b => some (.cond (c.at 0) a b)
    | _, _, _ => none
  | .block id b => (compK P G gs b).map (.block id)
  | .loop b => (compK P G gs b).map .loop
  | .exit id => some (.exit id)
  | .ret => some .ret

def BodyF (gs : Nat → Bool) (bK bA : BodyT Prop) : Prop := ∀ k a h (K K' : Ex → Fr → AH → Prop), FK gs k a → (∀ e k a h, FK gs k a → K e k h → K' e a h) → bK k h K → bA a h K'
def LoF (loK loA : LO Prop) : Prop := ∀ gs bK bA, BodyF gs bK bA → BodyF gs (loK bK) (loA bA)
theorem loop_F (n : Nat) : LoF (loopN AProp n) (loopN AProp n) := by
  intro gs bK bA hb
  induction n with
  | zero => intro k a h K K' _ _ hr; exact hr.elim
  | succ n ih =>
    intro k a h K K' hf hK hr
    refine hb _ _ _ _ _ hf (fun e k a h hf h1 => ?_) hr
    cases e with
    | normal => exact ih _ _ _ _ _ hf hK h1
    | exit id => exact hK _ _ _ _ hf h1
    | ret => exact hK _ _ _ _ hf h1

theorem FK.sig {gs : Nat → Bool} {k a : Fr} (hf : FK gs k a) : SigOk G 0 slotS k.t [] (opd G a) := by
  refine ⟨rfl, con_opd _, fun t b u hb hu => ?_⟩
  cases hb
  have : getP (Pa.of t) k.t = some u := hu
  rw [getP_of] at this
  exact (hf.2 t u this).2

theorem opsA_append {cs : CS Prop} : ∀ (a b : List RO) (fr : Fr) (h : AH) (K : Fr → AH → Prop), opsA AProp P G cs (a ++ b) fr h K = opsA AProp P G cs a fr h fun fr h => opsA AProp P G cs b fr h K
  | [], b, fr, h, K => rfl
  | o :: a, b, fr, h, K => by
    have e : (fun fr h => opsA AProp P G cs (a ++ b) fr h K) = fun fr h => opsA AProp P G cs a fr h fun fr h => opsA AProp P G cs b fr h K := by
      funext fr h; exact opsA_append a b fr h K
    show stepA AProp P G cs o fr h (fun fr h => opsA AProp P G cs (a ++ b) fr h K) = _
    rw [e]; rfl

theorem ops_sim {cs : CS Prop} (hm : CsR id cs cs) {gs : Nat → Bool} {l : List RO} {c : KC} (hc : compOps P G gs l = some c) {lo : LO Prop} {k a : Fr} (hf : FK gs k a) {h : AH} {K : Ex → Fr → AH → Prop} {K' : Fr → AH → Prop} (hr : execK AProp P G cs lo c k h K)
    (hK : ∀ k a h, FK gs k a → K .normal k h → K' a h) : opsA AProp P G cs l a h K' := by
  unfold compOps at hc
  split at hc
  · rename_i dst f xs l' hl
    split at hc
    · rename_i c1 as hc1 has
      cases hd : dstIn gs dst with
      | true => rw [hd] at hc; cases hc
      | false =>
        rw [hd] at hc
        cases hc
        have hl' : l = l'.reverse ++ [⟨dst, .defer f xs, none⟩] := by
          have := congrArg List.reverse hl
          rw [List.reverse_reverse] at this
          rw [this]; simp
        rw [hl', opsA_append]
        have hr' : execK AProp P G cs lo c1 k h (kSeq (kDfr AProp f as) K) := hr
        refine reg_sim hm hc1 hf hr' fun k a h hf h1 => ?_
        have fin : kDfr AProp f as k h K → opsA AProp P G cs [⟨dst, .defer f xs, none⟩] a h K' := by
          intro h1
          have h1' : Option.rec (motive := fun _ => Prop) False (fun vs => K .normal { k with d := (f, vs) :: k.d } h) (kvals k.t [] as) := h1
          cases hvs : kvals k.t [] as with
          | none => rw [hvs] at h1'; exact h1'.elim
          | some vs =>
            rw [hvs] at h1'
            have ho := args_ok (G := G) (FK.sig hf) has hvs
            simp only [opsA, stepA, wantedA, ho]
            refine hK _ _ _ ⟨?_, fun s v hv => ?_⟩ h1'
            · cases dst <;> simp [delD, hf.1]
            · obtain ⟨hg, ha⟩ := hf.2 s v hv
              refine ⟨hg, ?_⟩
              cases dst with
              | none => exact ha
              | some d0 =>
                have hne : s ≠ d0 := fun e => by subst e; simp [dstIn, hg] at hd
                simp only [delD, Tr.get_del, if_neg hne]; exact ha
        exact fin h1
    · cases hc
  · exact reg_sim hm hc hf hr hK

theorem exec_sim {cs : CS Prop} (hm : CsR id cs cs) {gs : Nat → Bool} {loK loA : LO Prop} (hl : LoF loK loA) : ∀ (c : AC) (kc : KC), compK P G gs c = some kc →
    BodyF gs (execK AProp P G cs loK kc) (execA AProp P G cs loA (fun d => drawA AProp P G cs d) c) := by
  intro c
  induction c with
  | skip => intro kc hc k a h K K' hf hK hr; cases hc; exact hK _ _ _ _ hf hr
  | ops l => intro kc hc k a h K K' hf hK hr; exact ops_sim hm hc hf hr fun k a h hf h1 => hK _ _ _ _ hf h1
  | draw d => intro kc hc k a h K K' hf hK hr; exact drawK_sim hm hc hf hr fun k a h hf h1 => hK _ _ _ _ hf h1
  | seq x y ihx ihy =>
    intro kc hc k a h K K' hf hK hr
    simp only [compK] at hc
    split at hc
    · rename_i kx ky hx hy
      cases hc
      refine ihx kx hx k a h (kSeq (execK AProp P G cs loK ky) K) _ hf (fun e k a h hf h1 => ?_) hr
      cases e with
      | normal => exact ihy ky hy _ _ _ _ _ hf hK h1
      | exit id => exact hK _ _ _ _ hf h1
      | ret => exact hK _ _ _ _ hf h1
    · cases hc
  | cond c x y ihx ihy =>
    intro kc hc k a h K K' hf hK hr
    simp only [compK] at hc
    split at hc
    · rename_i s kx ky hs hx hy
      cases hc
      have hr' : kCond AProp (s.at 0) (execK AProp P G cs loK kx) (execK AProp P G cs loK ky) k h K := hr
      unfold kCond at hr'
      split at hr'
      · rename_i t ht
        have := src_ok (G := G) (FK.sig hf) hs ht
        simp only [execA, this]
        cases t with
        | true => exact ihx kx hx _ _ _ _ _ hf hK hr'
        | false => exact ihy ky hy _ _ _ _ _ hf hK hr'
      · exact hr'.elim
    · cases hc
  | block id b ih =>
    intro kc hc k a h K K' hf hK hr
    obtain ⟨kb, hb, rfl⟩ := Option.map_eq_some_iff.1 hc
    refine ih kb hb k a h (kBlock id K) _ hf (fun e k a h hf h1 => ?_) hr
    cases e with
    | normal => exact hK _ _ _ _ hf h1
    | ret => exact hK _ _ _ _ hf h1
    | exit i =>
      simp only [kBlock] at h1
      simp only
      cases hb : Nat.beq i id with
      | true => rw [hb] at h1; exact hK _ _ _ _ hf h1
      | false => rw [hb] at h1; exact hK _ _ _ _ hf h1
  | loop b ih =>
    intro kc hc
    obtain ⟨kb, hb, rfl⟩ := Option.map_eq_some_iff.1 hc
    exact hl gs _ _ (ih kb hb)
  | exit id => intro kc hc k a h K K' hf hK hr; cases hc; exact hK _ _ _ _ hf hr
  | ret => intro kc hc k a h K K' hf hK hr; cases hc; exact hK _ _ _ _ hf hr

/-! ### Functions -/
inductive KRes where
  | tmp (p : Pa)
  | cell (p : Pa) (agg : Option Nat)
structure KFn where
  pars : List Pa
  body : KC
  res : List KRes
noncomputable def kFrame : List Pa → List Value → Tr Value → Tr Value
  | p :: ps, v :: vs, t => kFrame ps vs (setP (some v) p t)
  | _, _, t => t
noncomputable def resK (fr : Fr) (h : AH) : List KRes → Option (List Value)
  | [] => some []
  | .tmp p :: l => match getP p fr.t, resK fr h l with
    | some v, some r => some (v :: r)
    | _, _ => none
  | .cell p agg :: l => match getP p fr.t with
    | some a => match cellsAt h a, resK fr h l with
      | some (_, o, _, c), some r => match agg with
        | none => (c[o]?).map (· :: r)
        | some n => cond (Nat.ble (o + n) c.length) (some (.agg ((c.drop o).take n).toArray :: r)) none
      | _, _ => none
    | none => none
noncomputable def kEnd {R : Type} (A : Alg R) (csd : CS R) (res : List KRes) (K : Value → AH → R) : Ex → Fr → AH → R
  | .exit _, _, _ => A.bot
  | _, fr, h => defersA A csd fr.d h fun h => match resK fr h res with
    | some vs => K (oneOf vs) h
    | none => A.bot
noncomputable def callK {R : Type} (A : Alg R) (P : Program) (G : Nat) (cs csd : CS R) (lo : LO R) (f : KFn) (args : List Value) (h : AH) (K : Value → AH → R) : R :=
  execK A P G cs lo f.body ⟨kFrame f.pars args .leaf, []⟩ h (kEnd A csd f.res K)
def kres : ARes → KRes
  | .tmp t => .tmp (Pa.of t)
  | .cell t agg => .cell (Pa.of t) agg
def compKF (P : Program) (G : Nat) (gs : Nat → Bool) (f : AF) : Option KFn := cond ((List.range f.nparams).all gs) ((compK P G gs f.body).map fun b => ⟨(List.range f.nparams).map Pa.of, b, f.res.map kres⟩) none

theorem res_sim {gs : Nat → Bool} {k a : Fr} (hf : FK gs k a) {h : AH} : ∀ {l : List ARes} {vs : List Value}, resK k h (l.map kres) = some vs → resA a h l = some vs
  | [], vs, h1 => h1
  | .tmp t :: l, vs, h1 => by
    simp only [List.map_cons, kres, resK, getP_of] at h1
    split at h1
    · rename_i v r hv hr
      simp only [resA, (hf.2 t v hv).2, res_sim hf hr]
      exact h1
    · cases h1
  | .cell t agg :: l, vs, h1 => by
    simp only [List.map_cons, kres, resK, getP_of] at h1
    split at h1
    · rename_i v hv
      split at h1
      · rename_i b o ro c r hc hr
        simp only [resA, (hf.2 t v hv).2, hc, res_sim hf hr]
        exact h1
      · cases h1
    · cases h1
theorem frame_get : ∀ (n i : Nat) (vs : List Value) (t : Tr Value) (s : Nat) (v : Value), (kFrame ((List.range' i n).map Pa.of) vs t).get s = some v → (∃ k, k < n ∧ s = i + k ∧ vs[k]? = some v) ∨ t.get s = some v
  | 0, i, vs, t, s, v, h => .inr (by cases vs <;> exact h)
  | n + 1, i, [], t, s, v, h => .inr h
  | n + 1, i, x :: vs, t, s, v, h => by
    rw [List.range'_succ] at h
    have h' : (kFrame ((List.range' (i + 1) n).map Pa.of) vs (setP (some x) (Pa.of i) t)).get s = some v := h
    rw [setP_of] at h'
    rcases frame_get n (i + 1) vs _ s v h' with ⟨k, h1, h2, h3⟩ | h1
    · exact .inl ⟨k + 1, by omega, by omega, by simpa using h3⟩
    · rw [Tr.get_set] at h1
      by_cases e : s = i
      · rw [if_pos e] at h1; cases h1
        exact .inl ⟨0, by omega, by omega, rfl⟩
      · rw [if_neg e] at h1; exact .inr h1
theorem frameOf_fwd : ∀ (l : List Value) (i : Nat) (t : Tr Value) (k : Nat) (v : Value), l[k]? = some v → (frameOf i l t).get (i + k) = some v
  | [], i, t, k, v, h => by simp at h
  | x :: l, i, t, 0, v, h => by
    simp at h; subst h
    have keep : ∀ (l : List Value) (j : Nat) (t : Tr Value) (s : Nat), s < j → (frameOf j l t).get s = t.get s := by
      intro l
      induction l with
      | nil => intro j t s hs; rfl
      | cons y l ih => intro j t s hs; simp only [frameOf]; rw [ih (j + 1) _ s (by omega), Tr.get_set, if_neg (by omega)]
    simp only [frameOf]
    rw [keep l (i + 1) _ _ (by omega), Tr.get_set, if_pos (by omega)]
  | x :: l, i, t, k + 1, v, h => by
    have := frameOf_fwd l (i + 1) (t.set i x) k v (by simpa using h)
    simp only [frameOf]
    rw [← this]; congr 1; omega

theorem callK_sim {cs csd : CS Prop} (hm : CsR id cs cs) (hd : CsR id csd csd) {gs : Nat → Bool} {loK loA : LO Prop} (hl : LoF loK loA) {f : AF} {kf : KFn} (hc : compKF P G gs f = some kf) {args : List Value} {h : AH} {K K' : Value → AH → Prop}
    (hK : ∀ v h, K v h → K' v h) (hr : callK AProp P G cs csd loK kf args h K) : callA AProp P G cs csd loA f args h K' := by
  unfold compKF at hc
  obtain ⟨hg, hc⟩ := condT hc rfl
  obtain ⟨b, hb, rfl⟩ := Option.map_eq_some_iff.1 hc
  unfold callK at hr
  unfold callA
  refine exec_sim hm hl f.body b hb ⟨kFrame ((List.range f.nparams).map Pa.of) args .leaf, []⟩ ⟨frameOf 0 args .leaf, []⟩ h (kEnd AProp csd (f.res.map kres) K) _ ⟨rfl, fun s v hv => ?_⟩ (fun e k a h hf h1 => ?_) hr
  · rw [List.range_eq_range'] at hv
    rcases frame_get f.nparams 0 args .leaf s v hv with ⟨k, h1, h2, h3⟩ | h1
    · rw [Nat.zero_add] at h2; subst h2
      refine ⟨List.all_eq_true.1 hg s (by simpa using h1), ?_⟩
      have := frameOf_fwd args 0 .leaf s v h3
      rw [Nat.zero_add] at this; exact this
    · simp at h1
  · have fin : defersA AProp csd k.d h (fun h => match resK k h (f.res.map kres) with
        | some vs => K (oneOf vs) h
        | none => False) → defersA AProp csd a.d h fun h => match resA a h f.res with
        | some vs => K' (oneOf vs) h
        | none => False := by
      intro h2
      rw [hf.1] at h2
      refine defers_rel good_prop hd (fun h h3 => ?_) h2
      have h3 : (match resK k h (f.res.map kres) with
        | some vs => K (oneOf vs) h
        | none => False) := h3
      split at h3
      · rename_i vs hvs
        rw [res_sim hf hvs]
        exact hK _ _ h3
      · exact h3.elim
    cases e with
    | normal => exact fin h1
    | ret => exact fin h1
    | exit id => exact h1.elim
end Go.Am
