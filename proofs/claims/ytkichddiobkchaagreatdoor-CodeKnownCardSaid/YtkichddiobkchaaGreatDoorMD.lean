/-
  The abstract machine over the model's code and the machines over it: E1 to H2, joined.
-/
import Derived.Test.YtkichddiobkchaaGreatDoorMC
set_option linter.unusedSectionVars false
set_option linter.unusedVariables false
set_option linter.unusedSimpArgs false
/-
  A machine that is quick to reckon with, part 10: runs that are told by a Bool, and tables.
-/
namespace Go.Am
open Go
variable {P : Program} {G : Nat}

section
variable {R : Type} {A : Alg R} {T : R → Prop} (g : Good A T)
def KKR {R : Type} (T : R → Prop) (K : KK R) (K' : KK Prop) : Prop := ∀ L h pd, T (K L h pd) → K' L h pd
include g
theorem want_rel {w : Option Bool} {x y : R} {x' y' : Prop} (hx : T x → x') (hy : T y → y')
    (ht : T (Option.rec (motive := fun _ => R) A.bot (fun b => Bool.rec (motive := fun _ => R) x y b) w)) : Option.rec (motive := fun _ => Prop) False (fun b => Bool.rec (motive := fun _ => Prop) x' y' b) w := by
  cases w with
  | none => exact (g.bot ht).elim
  | some b => cases b with
    | false => exact hx ht
    | true => exact hy ht
theorem opt_rel {α : Type} {w : Option α} {f : α → R} {f' : α → Prop} (hf : ∀ a, T (f a) → f' a) (ht : T (Option.rec (motive := fun _ => R) A.bot f w)) : Option.rec (motive := fun _ => Prop) False f' w := by
  cases w with
  | none => exact (g.bot ht).elim
  | some a => exact hf a ht
variable {cs : CS R} {csP : CS Prop} (hc : CsR T cs csP)
include hc
theorem kstep_rel {fr : Tr Value} {s : KS} {L : List Value} {h : AH} {pd : List (Nat × Nat × AObj)} {K : KK R} {K' : KK Prop} (hK : KKR T K K') (ht : T (kStep A P G cs fr s L h pd K)) : kStep AProp P G csP fr s L h pd K' := by
  cases s with
  | op f args gd => exact want_rel g (fun h1 => hK _ _ _ h1) (fun h1 => opt_rel g (fun vs h2 => opt_rel g (fun r h3 => by obtain ⟨v, h'⟩ := r; exact hK _ _ _ h3) h2) h1) ht
  | alloc i f ts args gd => exact want_rel g (fun h1 => hK _ _ _ h1) (fun h1 => opt_rel g (fun vs h2 => opt_rel g (fun r h3 => by obtain ⟨v, h'⟩ := r; exact hK _ _ _ h3) h2) h1) ht
  | call f args gd => exact want_rel g (fun h1 => hK _ _ _ h1) (fun h1 => opt_rel g (fun vs h2 => hc _ _ _ _ _ (fun v h h3 => hK _ _ _ h3) h2) h1) ht
  | next it gd => exact want_rel g (fun h1 => hK _ _ _ h1) (fun h1 => next_rel g (fun v h h3 => hK _ _ _ h3) h1) ht
  | chk a => exact opt_rel g (fun _ h1 => hK _ _ _ h1) ht
  | abs i =>
    have ht' : T (kAbs i L h pd K) := ht
    show kAbs i L h pd K'
    unfold kAbs at ht' ⊢
    split at ht'
    · exact hK _ _ _ ht'
    · exact hK _ _ _ ht'
  | re f args gd u => exact want_rel g (fun h1 => hK _ _ _ h1) (fun h1 => opt_rel g (fun vs h2 => opt_rel g (fun r h3 => by
      obtain ⟨v, h'⟩ := r
      exact opt_rel g (fun u h4 => by obtain ⟨e, h5⟩ := g.eq _ _ _ h4; exact ⟨e, hK _ _ _ h5⟩) h3) h2) h1) ht
theorem ksteps_rel {fr : Tr Value} : ∀ {l : List KS} {L : List Value} {h : AH} {pd : List (Nat × Nat × AObj)} {K : KK R} {K' : KK Prop}, KKR T K K' → T (kSteps A P G cs fr l L h pd K) → kSteps AProp P G csP fr l L h pd K'
  | [], L, h, pd, K, K', hK, ht => hK _ _ _ ht
  | s :: l, L, h, pd, K, K', hK, ht => kstep_rel g hc (K := fun L h pd => kSteps A P G cs fr l L h pd K) (K' := fun L h pd => kSteps AProp P G csP fr l L h pd K') (fun L h pd h1 => ksteps_rel hK h1) ht
theorem execK_rel {lo : LO R} {loP : LO Prop} (hl : LoR T lo loP) : ∀ {c : KC}, BodyR T (execK A P G cs lo c) (execK AProp P G csP loP c) := by
  intro c
  induction c with
  | skip => intro fr h K K' hK ht; exact hK _ _ _ ht
  | dfr f args =>
    intro fr h K K' hK ht
    exact opt_rel g (f := fun vs => K .normal { fr with d := (f, vs) :: fr.d } h) (fun vs h1 => hK _ _ _ h1) ht
  | reg l wb =>
    intro fr h K K' hK ht
    exact ksteps_rel g hc (K := fun L h _ => K .normal { fr with t := kBack fr.t L wb fr.t } h) (fun L h pd h1 => hK _ _ _ h1) ht
  | seq a b iha ihb =>
    intro fr h K K' hK ht
    refine iha _ _ (kSeq (execK A P G cs lo b) K) (kSeq (execK AProp P G csP loP b) K') (fun e fr h h1 => ?_) ht
    cases e with
    | normal => exact ihb _ _ _ _ hK h1
    | exit id => exact hK _ _ _ h1
    | ret => exact hK _ _ _ h1
  | cond c a b iha ihb =>
    intro fr h K K' hK ht
    have ht' : T (kCond A c (execK A P G cs lo a) (execK A P G cs lo b) fr h K) := ht
    show kCond AProp c (execK AProp P G csP loP a) (execK AProp P G csP loP b) fr h K'
    unfold kCond at ht' ⊢
    split at ht'
    · rename_i t _
      cases t with
      | true => exact iha _ _ _ _ hK ht'
      | false => exact ihb _ _ _ _ hK ht'
    · exact (g.bot ht').elim
  | block id b ih =>
    intro fr h K K' hK ht
    refine ih _ _ (kBlock id K) (kBlock id K') (fun e fr h h1 => ?_) ht
    cases e with
    | normal => exact hK _ _ _ h1
    | ret => exact hK _ _ _ h1
    | exit i =>
      simp only [kBlock] at h1 ⊢
      cases hb : Nat.beq i id with
      | true => rw [hb] at h1; exact hK _ _ _ h1
      | false => rw [hb] at h1; exact hK _ _ _ h1
  | loop b ih => exact hl _ _ ih
  | exit id => intro fr h K K' hK ht; exact hK _ _ _ ht
  | ret => intro fr h K K' hK ht; exact hK _ _ _ ht
theorem callK_rel {csd : CS R} {csdP : CS Prop} (hd : CsR T csd csdP) {lo : LO R} {loP : LO Prop} (hl : LoR T lo loP) {kf : KFn} {vs : List Value} {h : AH} {K : Value → AH → R} {K' : Value → AH → Prop}
    (hK : ∀ v h, T (K v h) → K' v h) (ht : T (callK A P G cs csd lo kf vs h K)) : callK AProp P G csP csdP loP kf vs h K' := by
  unfold callK at ht ⊢
  refine execK_rel g hc hl _ _ _ _ (fun e fr h h1 => ?_) ht
  have fin : T (defersA A csd fr.d h fun h => match resK fr h kf.res with
      | some vs => K (oneOf vs) h
      | none => A.bot) → defersA AProp csdP fr.d h fun h => match resK fr h kf.res with
      | some vs => K' (oneOf vs) h
      | none => False := fun h2 => defers_rel g hd (fun h h3 => by
    split at h3
    · exact hK _ _ h3
    · exact (g.bot h3).elim) h2
  cases e with
  | normal => exact fin h1
  | ret => exact fin h1
  | exit id => exact (g.bot h1).elim
end

/-- No call is deferred by what is deferred. -/
def noD {R : Type} (A : Alg R) : CS R := fun _ _ _ _ => A.bot
abbrev KTab := Tr KFn
noncomputable def callKN {R : Type} (A : Alg R) (P : Program) (G : Nat) (tab : KTab) (lo : LO R) (sm : Tr (List Value → AH → (Value → AH → R) → R)) (n : Nat) : CS R :=
  Nat.rec (motive := fun _ => CS R) (fun _ _ _ _ => A.bot) (fun _ ih f args h K =>
    Option.casesOn (sm.get f) (Option.casesOn (tab.get f) A.bot fun kf => callK A P G ih
      (fun f args h K => Option.casesOn (tab.get f) A.bot fun kf => callK A P G ih (noD A) lo kf args h K) lo kf args h K) fun s => s args h K) n
end Go.Am

/-
  A machine that is quick to reckon with, part 11: tables, to a depth.
-/
namespace Go.Am
open Go
variable {P : Program} {G : Nat}

theorem call0K_sim {cs : CS Prop} (hm : CsR id cs cs) {gs : Nat → Bool} {loK loA : LO Prop} (hl : LoF loK loA) {f : AF} {kf : KFn} (hc : compKF P G gs f = some kf) {args : List Value} {h : AH} {K K' : Value → AH → Prop}
    (hK : ∀ v h, K v h → K' v h) (hr : callK AProp P G cs (noD AProp) loK kf args h K) : callA0 AProp P G cs loA f args h K' := by
  unfold compKF at hc
  obtain ⟨hg, hc⟩ := condT hc rfl
  obtain ⟨b, hb, rfl⟩ := Option.map_eq_some_iff.1 hc
  unfold callK at hr
  unfold callA0
  refine exec_sim hm hl f.body b hb ⟨kFrame ((List.range f.nparams).map Pa.of) args .leaf, []⟩ ⟨frameOf 0 args .leaf, []⟩ h (kEnd AProp (noD AProp) (f.res.map kres) K) _ ⟨rfl, fun s v hv => ?_⟩ (fun e k a h hf h1 => ?_) hr
  · rw [List.range_eq_range'] at hv
    rcases frame_get f.nparams 0 args .leaf s v hv with ⟨k, h1, h2, h3⟩ | h1
    · rw [Nat.zero_add] at h2; subst h2
      refine ⟨List.all_eq_true.1 hg s (by simpa using h1), ?_⟩
      have := frameOf_fwd args 0 .leaf s v h3
      rw [Nat.zero_add] at this; exact this
    · simp at h1
  · have fin : defersA AProp (noD AProp) k.d h (fun h => match resK k h (f.res.map kres) with
        | some vs => K (oneOf vs) h
        | none => False) → (match a.d with
        | [] => match resA a h f.res with
          | some vs => K' (oneOf vs) h
          | none => False
        | _ :: _ => False) := by
      intro h2
      rw [hf.1] at h2
      cases hd : a.d with
      | nil =>
        rw [hd] at h2
        have h3 : (match resK k h (f.res.map kres) with
          | some vs => K (oneOf vs) h
          | none => False) := h2
        simp only
        split at h3
        · rename_i vs hvs
          rw [res_sim hf hvs]
          exact hK _ _ h3
        · exact h3.elim
      | cons q l => rw [hd] at h2; exact h2.elim
    cases e with
    | normal => exact fin h1
    | ret => exact fin h1
    | exit id => exact h1.elim

/-- The quick table stands for the other one. -/
def KTabOk (P : Program) (G : Nat) (kt : KTab) (tab : Tab) : Prop := ∀ f kf, kt.get f = some kf → ∃ af gs, tab.get f = some af ∧ compKF P G gs af = some kf
theorem sm_refl (sm : Tr (List Value → AH → (Value → AH → Prop) → Prop)) (hm : ∀ f s, sm.get f = some s → ∀ vs h (K K' : Value → AH → Prop), (∀ v h, K v h → K' v h) → s vs h K → s vs h K') : SmR id sm sm :=
  fun f => ⟨id, fun s hs => ⟨s, hs, fun vs h K K' hK ht => hm f s hs vs h K K' hK ht⟩⟩

theorem callKN_sim {kt : KTab} {tab : Tab} (ht : KTabOk P G kt tab) {sm : Tr (List Value → AH → (Value → AH → Prop) → Prop)} (hsm : SmR id sm sm) (m : Nat) : ∀ n, CsR id (callKN AProp P G kt (loopN AProp m) sm n) (callN AProp P G tab (loopN AProp m) sm n)
  | 0 => fun f vs h K K' _ hr => hr.elim
  | n + 1 => by
    intro f vs h K K' hK hr
    have ih := callKN_sim ht hsm m n
    have mono : CsR id (callN AProp P G tab (loopN AProp m) sm n) (callN AProp P G tab (loopN AProp m) sm n) := callN_rel good_prop (loop_rel good_prop m) hsm n
    have hr' : Option.rec (motive := fun _ => Prop) (Option.rec (motive := fun _ => Prop) False (fun kf => callK AProp P G (callKN AProp P G kt (loopN AProp m) sm n)
      (fun f args h K => Option.rec (motive := fun _ => Prop) False (fun kf => callK AProp P G (callKN AProp P G kt (loopN AProp m) sm n) (noD AProp) (loopN AProp m) kf args h K) (kt.get f)) (loopN AProp m) kf vs h K) (kt.get f)) (fun s => s vs h K) (sm.get f) := hr
    simp only [callN]
    cases hsf : sm.get f with
    | some s =>
      rw [hsf] at hr'
      obtain ⟨sP, h1, h2⟩ := (hsm f).2 s hsf
      rw [hsf] at h1; cases h1
      exact h2 vs h K K' hK hr'
    | none =>
      rw [hsf] at hr'
      simp only at hr' ⊢
      cases hkf : kt.get f with
      | none => rw [hkf] at hr'; exact hr'.elim
      | some kf =>
        rw [hkf] at hr'
        obtain ⟨af, gs, haf, hcf⟩ := ht f kf hkf
        rw [haf]
        simp only at hr' ⊢
        have hdr : CsR id (fun f args h K => Option.rec (motive := fun _ => Prop) False (fun kf => callK AProp P G (callKN AProp P G kt (loopN AProp m) sm n) (noD AProp) (loopN AProp m) kf args h K) (kt.get f))
            (fun f args h K => match tab.get f with
              | some af => callA0 AProp P G (callN AProp P G tab (loopN AProp m) sm n) (loopN AProp m) af args h K
              | none => AProp.bot) := by
          intro f vs h K K' hK hr
          have hr2 : Option.rec (motive := fun _ => Prop) False (fun kf => callK AProp P G (callKN AProp P G kt (loopN AProp m) sm n) (noD AProp) (loopN AProp m) kf vs h K) (kt.get f) := hr
          cases hkf : kt.get f with
          | none => rw [hkf] at hr2; exact hr2.elim
          | some kf =>
            rw [hkf] at hr2
            obtain ⟨af, gs, haf, hcf⟩ := ht f kf hkf
            simp only [haf]
            exact call0K_sim mono (loop_F m) hcf hK (callK_rel good_prop ih (fun f vs h K K' _ h1 => h1.elim) (loop_rel good_prop m) (fun v h h1 => h1) hr2)
        have mdr : CsR id (fun f args h K => match tab.get f with
              | some af => callA0 AProp P G (callN AProp P G tab (loopN AProp m) sm n) (loopN AProp m) af args h K
              | none => AProp.bot) (fun f args h K => match tab.get f with
              | some af => callA0 AProp P G (callN AProp P G tab (loopN AProp m) sm n) (loopN AProp m) af args h K
              | none => AProp.bot) := by
          intro f vs h K K' hK hr
          simp only [id] at hr ⊢
          split at hr
          · exact call0_rel good_prop mono (loop_rel good_prop m) hK hr
          · exact hr.elim
        exact callK_sim mono mdr (loop_F m) hcf hK (callK_rel good_prop ih hdr (loop_rel good_prop m) (fun v h h1 => h1) hr')

theorem callKN_rel {R : Type} {A : Alg R} {T : R → Prop} (g : Good A T) {kt : KTab} {lo : LO R} {loP : LO Prop} (hl : LoR T lo loP) {sm : Tr (List Value → AH → (Value → AH → R) → R)}
    {smP : Tr (List Value → AH → (Value → AH → Prop) → Prop)} (hsm : SmR T sm smP) : ∀ n, CsR T (callKN A P G kt lo sm n) (callKN AProp P G kt loP smP n)
  | 0 => fun f vs h K K' hK ht => (g.bot ht).elim
  | n + 1 => by
    intro f vs h K K' hK ht
    have ih := callKN_rel (kt := kt) g hl hsm n
    have ht' : T (Option.rec (motive := fun _ => R) (Option.rec (motive := fun _ => R) A.bot (fun kf => callK A P G (callKN A P G kt lo sm n)
      (fun f args h K => Option.rec (motive := fun _ => R) A.bot (fun kf => callK A P G (callKN A P G kt lo sm n) (noD A) lo kf args h K) (kt.get f)) lo kf vs h K) (kt.get f)) (fun s => s vs h K) (sm.get f)) := ht
    show Option.rec (motive := fun _ => Prop) (Option.rec (motive := fun _ => Prop) False (fun kf => callK AProp P G (callKN AProp P G kt loP smP n)
      (fun f args h K => Option.rec (motive := fun _ => Prop) False (fun kf => callK AProp P G (callKN AProp P G kt loP smP n) (noD AProp) loP kf args h K) (kt.get f)) loP kf vs h K') (kt.get f)) (fun s => s vs h K') (smP.get f)
    cases hsf : sm.get f with
    | some s =>
      rw [hsf] at ht'
      obtain ⟨sP, h1, h2⟩ := (hsm f).2 s hsf
      rw [h1]
      exact h2 vs h K K' hK ht'
    | none =>
      rw [hsf] at ht'
      rw [(hsm f).1 hsf]
      refine opt_rel g (fun kf h1 => callK_rel g ih (fun f vs h K K' hK h2 => ?_) hl hK h1) ht'
      exact opt_rel g (f := fun kf => callK A P G (callKN A P G kt lo sm n) (noD A) lo kf vs h K) (fun kf h3 => callK_rel g ih (fun f vs h K K' _ h4 => (g.bot h4).elim) hl hK h3) h2
end Go.Am

/-
  A machine that is quick to reckon with, part 12: which slots are kept, and tables written out.
-/
namespace Go.Am
open Go
variable {P : Program} {G : Nat}

def gsL (l : List Nat) (s : Nat) : Bool := l.any (Nat.beq s)
def isDf : XOp → Bool
  | .defer _ _ => true
  | _ => false
def readsSeq : List RO → List Nat → List Nat
  | [], _ => []
  | o :: l, w => o.slots.filter (fun s => !gsL w s || isDf o.op) ++ readsSeq l (match o.dst with | some d => d :: w | none => w)
def readsAC : AC → List Nat
  | .ops l => readsSeq l []
  | .draw d => d.ros.flatMap fun r => r.src.filterMap fun (t, j) => match j with
    | none => some t
    | some _ => none
  | .seq a b => readsAC a ++ readsAC b
  | .cond c a b => tmpsOf [c] ++ readsAC a ++ readsAC b
  | .block _ b | .loop b => readsAC b
  | _ => []
def dedupN : List Nat → List Nat → List Nat
  | acc, [] => acc
  | acc, x :: l => dedupN (cond (gsL acc x) acc (x :: acc)) l
def gsOf (f : AF) : List Nat := dedupN [] (List.range f.nparams ++ f.res.map (fun | .tmp t => t | .cell t _ => t) ++ readsAC f.body)
def kfnOf (P : Program) (G : Nat) (f : AF) : Option KFn := compKF P G (gsL (gsOf f)) f

def ktabOf : List (Nat × KFn) → KTab
  | [] => .leaf
  | (f, kf) :: l => (ktabOf l).set f kf
theorem ktabOf_get : ∀ {l : List (Nat × KFn)} {f : Nat} {kf : KFn}, (ktabOf l).get f = some kf → (f, kf) ∈ l
  | [], f, kf, h => by simp [ktabOf] at h
  | (g, kg) :: l, f, kf, h => by
    simp only [ktabOf, Tr.get_set] at h
    split at h
    · rename_i e; subst e; cases h; simp
    · exact List.mem_cons_of_mem _ (ktabOf_get h)
end Go.Am

/-
  A machine that is quick to reckon with, part 13: a function, its calls told.
-/
namespace Go.Am
open Go
variable {P : Program} {G : Nat}

/-- A loop that ends after some number of rounds. -/
def loE : LO Prop := fun body fr h K => ∃ m, loopN AProp m body fr h K
theorem loE_F : LoF loE loE := fun gs bK bA hb k a h K K' hf hK hr => by
  obtain ⟨m, hm⟩ := hr
  exact ⟨m, loop_F m gs bK bA hb k a h K K' hf hK hm⟩
theorem loE_rel : LoR id loE loE := fun b bP hb fr h K K' hK hr => by
  obtain ⟨m, hm⟩ := hr
  exact ⟨m, loop_rel good_prop m b bP hb fr h K K' hK hm⟩

theorem kfn_sound (hm : P.follows .mixedOrders = true) {cs csd : CS Prop} (hcs : ∀ f, SoundF P G f (cs f)) (mono : CsR id cs cs) (hcd : ∀ f, SoundD P G f (csd f)) (monod : CsR id csd csd)
    {f : FuncId} {fn : Func} {af : AF} {kf : KFn} {gs : Nat → Bool} (hf : P.funcs[f]? = some fn) (hc : compF P fn = some af) (hk : compKF P G gs af = some kf) : SoundF P G f (callK AProp P G cs csd loE kf) :=
  fun args h Q hq => call_sound hm hcs hcd (fun _ _ _ _ h => h) hf hc args h Q (callK_sim mono monod loE_F hk (fun _ _ h => h) hq)
theorem noD_sound (f : FuncId) : SoundF P G f (noD AProp f) := fun _ _ _ h => h.elim
theorem noD_soundD (f : FuncId) : SoundD P G f (noD AProp f) := fun _ _ _ h => h.elim
theorem noD_mono : CsR id (noD AProp) (noD AProp) := fun _ _ _ _ _ _ h => h.elim
/-- A weaker telling of a function. -/
theorem SoundF.weaken {f : FuncId} {S S' : List Value → AH → (Value → AH → Prop) → Prop} (h : SoundF P G f S) (hs : ∀ args h Q, S' args h Q → S args h Q) : SoundF P G f S' := fun args hh Q hq => h args hh Q (hs _ _ _ hq)
end Go.Am

/-
  A machine that is quick to reckon with, part 14: its run, by rewriting.
-/
namespace Go.Am
open Go
variable {R : Type} {A : Alg R} {P : Program} {G : Nat} {cs csd : CS R} {lo : LO R} {fr : Fr} {t : Tr Value} {L : List Value} {h : AH} {pd : List (Nat × Nat × AObj)} {K : Ex → Fr → AH → R} {KK : KK R}

theorem ex_skip : execK A P G cs lo .skip fr h K = K .normal fr h := rfl
theorem ex_seq (a b : KC) : execK A P G cs lo (.seq a b) fr h K = execK A P G cs lo a fr h (kSeq (execK A P G cs lo b) K) := rfl
theorem ex_block (id : Nat) (b : KC) : execK A P G cs lo (.block id b) fr h K = execK A P G cs lo b fr h (kBlock id K) := rfl
theorem ex_loop (b : KC) : execK A P G cs lo (.loop b) fr h K = lo (execK A P G cs lo b) fr h K := rfl
theorem ex_exit (id : Nat) : execK A P G cs lo (.exit id) fr h K = K (.exit id) fr h := rfl
theorem ex_ret : execK A P G cs lo .ret fr h K = K .ret fr h := rfl
theorem ex_reg (l : List KS) (wb : List (Pa × KA)) : execK A P G cs lo (.reg l wb) fr h K = kSteps A P G cs fr.t l [] h [] fun L h _ => K .normal { fr with t := kBack fr.t L wb fr.t } h := rfl
theorem ex_cond {c : KA} {b : Bool} (hc : kval fr.t [] c = some (.bool b)) (x y : KC) : execK A P G cs lo (.cond c x y) fr h K = execK A P G cs lo (cond b x y) fr h K := by
  show kCond A c (execK A P G cs lo x) (execK A P G cs lo y) fr h K = _
  unfold kCond
  rw [hc]
  cases b <;> rfl
theorem st_nil : kSteps A P G cs t [] L h pd KK = KK L h pd := rfl
theorem st_chk {a : KA} {v : Value} (hv : kval t L a = some v) (l : List KS) : kSteps A P G cs t (.chk a :: l) L h pd KK = kSteps A P G cs t l L h pd KK := by
  show Option.rec (motive := fun _ => R) A.bot (fun _ => kSteps A P G cs t l L h pd KK) (kval t L a) = _
  rw [hv]
theorem st_op {f : KF} {args : List KA} {g : KG} {vs : List Value} {v : Value} {h' : AH} (hg : kwant t L g = some true) (hv : kvals t L args = some vs) (hr : f.run P G h vs = some (v, h')) (l : List KS) :
    kSteps A P G cs t (.op f args g :: l) L h pd KK = kSteps A P G cs t l (v :: L) h' pd KK := by
  show Option.rec (motive := fun _ => R) A.bot (fun b => Bool.rec (motive := fun _ => R) (kSteps A P G cs t l (undef :: L) h pd KK)
    (Option.rec (motive := fun _ => R) A.bot (fun vs => Option.rec (motive := fun _ => R) A.bot (fun r => Prod.rec (motive := fun _ => R) (fun v h => kSteps A P G cs t l (v :: L) h pd KK) r) (f.run P G h vs)) (kvals t L args)) b) (kwant t L g) = _
  rw [hg]; simp only; rw [hv]; simp only; rw [hr]
theorem st_no {f : KF} {args : List KA} {g : KG} (hg : kwant t L g = some false) (l : List KS) : kSteps A P G cs t (.op f args g :: l) L h pd KK = kSteps A P G cs t l (undef :: L) h pd KK := by
  show Option.rec (motive := fun _ => R) A.bot (fun b => Bool.rec (motive := fun _ => R) (kSteps A P G cs t l (undef :: L) h pd KK)
    (Option.rec (motive := fun _ => R) A.bot (fun vs => Option.rec (motive := fun _ => R) A.bot (fun r => Prod.rec (motive := fun _ => R) (fun v h => kSteps A P G cs t l (v :: L) h pd KK) r) (f.run P G h vs)) (kvals t L args)) b) (kwant t L g) = _
  rw [hg]
theorem st_call {f : FuncId} {args : List KA} {g : KG} {vs : List Value} (hg : kwant t L g = some true) (hv : kvals t L args = some vs) (l : List KS) :
    kSteps A P G cs t (.call f args g :: l) L h pd KK = cs f vs h fun v h => kSteps A P G cs t l (v :: L) h pd KK := by
  show Option.rec (motive := fun _ => R) A.bot (fun b => Bool.rec (motive := fun _ => R) (kSteps A P G cs t l (undef :: L) h pd KK)
    (Option.rec (motive := fun _ => R) A.bot (fun vs => cs f vs h fun v h => kSteps A P G cs t l (v :: L) h pd KK) (kvals t L args)) b) (kwant t L g) = _
  rw [hg]; simp only; rw [hv]
end Go.Am

/-
  Slots, named.
-/
namespace Go.Am
def q0 : Pa := .z
def q1 : Pa := (.l .z)
def q2 : Pa := (.r .z)
def q3 : Pa := (.l (.l .z))
def q4 : Pa := (.r (.l .z))
def q5 : Pa := (.l (.r .z))
def q6 : Pa := (.r (.r .z))
def q7 : Pa := (.l (.l (.l .z)))
def q8 : Pa := (.r (.l (.l .z)))
def q9 : Pa := (.l (.r (.l .z)))
def q10 : Pa := (.r (.r (.l .z)))
def q11 : Pa := (.l (.l (.r .z)))
def q12 : Pa := (.r (.l (.r .z)))
def q13 : Pa := (.l (.r (.r .z)))
def q14 : Pa := (.r (.r (.r .z)))
def q15 : Pa := (.l (.l (.l (.l .z))))
def q16 : Pa := (.r (.l (.l (.l .z))))
def q17 : Pa := (.l (.r (.l (.l .z))))
def q18 : Pa := (.r (.r (.l (.l .z))))
def q19 : Pa := (.l (.l (.r (.l .z))))
def q20 : Pa := (.r (.l (.r (.l .z))))
def q21 : Pa := (.l (.r (.r (.l .z))))
def q22 : Pa := (.r (.r (.r (.l .z))))
def q23 : Pa := (.l (.l (.l (.r .z))))
def q24 : Pa := (.r (.l (.l (.r .z))))
def q25 : Pa := (.l (.r (.l (.r .z))))
def q26 : Pa := (.r (.r (.l (.r .z))))
def q27 : Pa := (.l (.l (.r (.r .z))))
def q28 : Pa := (.r (.l (.r (.r .z))))
def q29 : Pa := (.l (.r (.r (.r .z))))
def q30 : Pa := (.r (.r (.r (.r .z))))
def q31 : Pa := (.l (.l (.l (.l (.l .z)))))
def q32 : Pa := (.r (.l (.l (.l (.l .z)))))
def q33 : Pa := (.l (.r (.l (.l (.l .z)))))
def q34 : Pa := (.r (.r (.l (.l (.l .z)))))
def q35 : Pa := (.l (.l (.r (.l (.l .z)))))
def q36 : Pa := (.r (.l (.r (.l (.l .z)))))
def q37 : Pa := (.l (.r (.r (.l (.l .z)))))
def q38 : Pa := (.r (.r (.r (.l (.l .z)))))
def q39 : Pa := (.l (.l (.l (.r (.l .z)))))
def q40 : Pa := (.r (.l (.l (.r (.l .z)))))
def q41 : Pa := (.l (.r (.l (.r (.l .z)))))
def q42 : Pa := (.r (.r (.l (.r (.l .z)))))
def q43 : Pa := (.l (.l (.r (.r (.l .z)))))
def q44 : Pa := (.r (.l (.r (.r (.l .z)))))
def q45 : Pa := (.l (.r (.r (.r (.l .z)))))
def q46 : Pa := (.r (.r (.r (.r (.l .z)))))
def q47 : Pa := (.l (.l (.l (.l (.r .z)))))
def q48 : Pa := (.r (.l (.l (.l (.r .z)))))
def q49 : Pa := (.l (.r (.l (.l (.r .z)))))
def q50 : Pa := (.r (.r (.l (.l (.r .z)))))
def q51 : Pa := (.l (.l (.r (.l (.r .z)))))
def q52 : Pa := (.r (.l (.r (.l (.r .z)))))
def q53 : Pa := (.l (.r (.r (.l (.r .z)))))
def q54 : Pa := (.r (.r (.r (.l (.r .z)))))
def q55 : Pa := (.l (.l (.l (.r (.r .z)))))
def q56 : Pa := (.r (.l (.l (.r (.r .z)))))
def q57 : Pa := (.l (.r (.l (.r (.r .z)))))
def q58 : Pa := (.r (.r (.l (.r (.r .z)))))
def q59 : Pa := (.l (.l (.r (.r (.r .z)))))
def q60 : Pa := (.r (.l (.r (.r (.r .z)))))
def q61 : Pa := (.l (.r (.r (.r (.r .z)))))
def q62 : Pa := (.r (.r (.r (.r (.r .z)))))
def q63 : Pa := (.l (.l (.l (.l (.l (.l .z))))))
def q64 : Pa := (.r (.l (.l (.l (.l (.l .z))))))
def q65 : Pa := (.l (.r (.l (.l (.l (.l .z))))))
def q66 : Pa := (.r (.r (.l (.l (.l (.l .z))))))
def q67 : Pa := (.l (.l (.r (.l (.l (.l .z))))))
def q68 : Pa := (.r (.l (.r (.l (.l (.l .z))))))
def q69 : Pa := (.l (.r (.r (.l (.l (.l .z))))))
def q70 : Pa := (.r (.r (.r (.l (.l (.l .z))))))
def q71 : Pa := (.l (.l (.l (.r (.l (.l .z))))))
def q72 : Pa := (.r (.l (.l (.r (.l (.l .z))))))
def q73 : Pa := (.l (.r (.l (.r (.l (.l .z))))))
def q74 : Pa := (.r (.r (.l (.r (.l (.l .z))))))
def q75 : Pa := (.l (.l (.r (.r (.l (.l .z))))))
def q76 : Pa := (.r (.l (.r (.r (.l (.l .z))))))
def q77 : Pa := (.l (.r (.r (.r (.l (.l .z))))))
def q78 : Pa := (.r (.r (.r (.r (.l (.l .z))))))
def q79 : Pa := (.l (.l (.l (.l (.r (.l .z))))))
def q80 : Pa := (.r (.l (.l (.l (.r (.l .z))))))
def q81 : Pa := (.l (.r (.l (.l (.r (.l .z))))))
def q82 : Pa := (.r (.r (.l (.l (.r (.l .z))))))
def q83 : Pa := (.l (.l (.r (.l (.r (.l .z))))))
def q84 : Pa := (.r (.l (.r (.l (.r (.l .z))))))
def q85 : Pa := (.l (.r (.r (.l (.r (.l .z))))))
def q86 : Pa := (.r (.r (.r (.l (.r (.l .z))))))
def q87 : Pa := (.l (.l (.l (.r (.r (.l .z))))))
def q88 : Pa := (.r (.l (.l (.r (.r (.l .z))))))
def q89 : Pa := (.l (.r (.l (.r (.r (.l .z))))))
def q90 : Pa := (.r (.r (.l (.r (.r (.l .z))))))
def q91 : Pa := (.l (.l (.r (.r (.r (.l .z))))))
def q92 : Pa := (.r (.l (.r (.r (.r (.l .z))))))
def q93 : Pa := (.l (.r (.r (.r (.r (.l .z))))))
def q94 : Pa := (.r (.r (.r (.r (.r (.l .z))))))
def q95 : Pa := (.l (.l (.l (.l (.l (.r .z))))))
def q96 : Pa := (.r (.l (.l (.l (.l (.r .z))))))
def q97 : Pa := (.l (.r (.l (.l (.l (.r .z))))))
def q98 : Pa := (.r (.r (.l (.l (.l (.r .z))))))
def q99 : Pa := (.l (.l (.r (.l (.l (.r .z))))))
def q100 : Pa := (.r (.l (.r (.l (.l (.r .z))))))
def q101 : Pa := (.l (.r (.r (.l (.l (.r .z))))))
def q102 : Pa := (.r (.r (.r (.l (.l (.r .z))))))
def q103 : Pa := (.l (.l (.l (.r (.l (.r .z))))))
def q104 : Pa := (.r (.l (.l (.r (.l (.r .z))))))
def q105 : Pa := (.l (.r (.l (.r (.l (.r .z))))))
def q106 : Pa := (.r (.r (.l (.r (.l (.r .z))))))
def q107 : Pa := (.l (.l (.r (.r (.l (.r .z))))))
def q108 : Pa := (.r (.l (.r (.r (.l (.r .z))))))
def q109 : Pa := (.l (.r (.r (.r (.l (.r .z))))))
def q110 : Pa := (.r (.r (.r (.r (.l (.r .z))))))
def q111 : Pa := (.l (.l (.l (.l (.r (.r .z))))))
def q112 : Pa := (.r (.l (.l (.l (.r (.r .z))))))
def q113 : Pa := (.l (.r (.l (.l (.r (.r .z))))))
def q114 : Pa := (.r (.r (.l (.l (.r (.r .z))))))
def q115 : Pa := (.l (.l (.r (.l (.r (.r .z))))))
def q116 : Pa := (.r (.l (.r (.l (.r (.r .z))))))
def q117 : Pa := (.l (.r (.r (.l (.r (.r .z))))))
def q118 : Pa := (.r (.r (.r (.l (.r (.r .z))))))
def q119 : Pa := (.l (.l (.l (.r (.r (.r .z))))))
def q120 : Pa := (.r (.l (.l (.r (.r (.r .z))))))
def q121 : Pa := (.l (.r (.l (.r (.r (.r .z))))))
def q122 : Pa := (.r (.r (.l (.r (.r (.r .z))))))
def q123 : Pa := (.l (.l (.r (.r (.r (.r .z))))))
def q124 : Pa := (.r (.l (.r (.r (.r (.r .z))))))
def q125 : Pa := (.l (.r (.r (.r (.r (.r .z))))))
def q126 : Pa := (.r (.r (.r (.r (.r (.r .z))))))
def q127 : Pa := (.l (.l (.l (.l (.l (.l (.l .z)))))))
def q128 : Pa := (.r (.l (.l (.l (.l (.l (.l .z)))))))
def q129 : Pa := (.l (.r (.l (.l (.l (.l (.l .z)))))))
def q130 : Pa := (.r (.r (.l (.l (.l (.l (.l .z)))))))
def q131 : Pa := (.l (.l (.r (.l (.l (.l (.l .z)))))))
def q132 : Pa := (.r (.l (.r (.l (.l (.l (.l .z)))))))
def q133 : Pa := (.l (.r (.r (.l (.l (.l (.l .z)))))))
def q134 : Pa := (.r (.r (.r (.l (.l (.l (.l .z)))))))
def q135 : Pa := (.l (.l (.l (.r (.l (.l (.l .z)))))))
def q136 : Pa := (.r (.l (.l (.r (.l (.l (.l .z)))))))
def q137 : Pa := (.l (.r (.l (.r (.l (.l (.l .z)))))))
def q138 : Pa := (.r (.r (.l (.r (.l (.l (.l .z)))))))
def q139 : Pa := (.l (.l (.r (.r (.l (.l (.l .z)))))))
def q140 : Pa := (.r (.l (.r (.r (.l (.l (.l .z)))))))
def q141 : Pa := (.l (.r (.r (.r (.l (.l (.l .z)))))))
def q142 : Pa := (.r (.r (.r (.r (.l (.l (.l .z)))))))
def q143 : Pa := (.l (.l (.l (.l (.r (.l (.l .z)))))))
def q144 : Pa := (.r (.l (.l (.l (.r (.l (.l .z)))))))
def q145 : Pa := (.l (.r (.l (.l (.r (.l (.l .z)))))))
def q146 : Pa := (.r (.r (.l (.l (.r (.l (.l .z)))))))
def q147 : Pa := (.l (.l (.r (.l (.r (.l (.l .z)))))))
def q148 : Pa := (.r (.l (.r (.l (.r (.l (.l .z)))))))
def q149 : Pa := (.l (.r (.r (.l (.r (.l (.l .z)))))))
def q150 : Pa := (.r (.r (.r (.l (.r (.l (.l .z)))))))
def q151 : Pa := (.l (.l (.l (.r (.r (.l (.l .z)))))))
def q152 : Pa := (.r (.l (.l (.r (.r (.l (.l .z)))))))
def q153 : Pa := (.l (.r (.l (.r (.r (.l (.l .z)))))))
def q154 : Pa := (.r (.r (.l (.r (.r (.l (.l .z)))))))
def q155 : Pa := (.l (.l (.r (.r (.r (.l (.l .z)))))))
def q156 : Pa := (.r (.l (.r (.r (.r (.l (.l .z)))))))
def q157 : Pa := (.l (.r (.r (.r (.r (.l (.l .z)))))))
def q158 : Pa := (.r (.r (.r (.r (.r (.l (.l .z)))))))
def q159 : Pa := (.l (.l (.l (.l (.l (.r (.l .z)))))))
def q160 : Pa := (.r (.l (.l (.l (.l (.r (.l .z)))))))
def q161 : Pa := (.l (.r (.l (.l (.l (.r (.l .z)))))))
def q162 : Pa := (.r (.r (.l (.l (.l (.r (.l .z)))))))
def q163 : Pa := (.l (.l (.r (.l (.l (.r (.l .z)))))))
def q164 : Pa := (.r (.l (.r (.l (.l (.r (.l .z)))))))
def q165 : Pa := (.l (.r (.r (.l (.l (.r (.l .z)))))))
def q166 : Pa := (.r (.r (.r (.l (.l (.r (.l .z)))))))
def q167 : Pa := (.l (.l (.l (.r (.l (.r (.l .z)))))))
def q168 : Pa := (.r (.l (.l (.r (.l (.r (.l .z)))))))
def q169 : Pa := (.l (.r (.l (.r (.l (.r (.l .z)))))))
def q170 : Pa := (.r (.r (.l (.r (.l (.r (.l .z)))))))
def q171 : Pa := (.l (.l (.r (.r (.l (.r (.l .z)))))))
def q172 : Pa := (.r (.l (.r (.r (.l (.r (.l .z)))))))
def q173 : Pa := (.l (.r (.r (.r (.l (.r (.l .z)))))))
def q174 : Pa := (.r (.r (.r (.r (.l (.r (.l .z)))))))
def q175 : Pa := (.l (.l (.l (.l (.r (.r (.l .z)))))))
def q176 : Pa := (.r (.l (.l (.l (.r (.r (.l .z)))))))
def q177 : Pa := (.l (.r (.l (.l (.r (.r (.l .z)))))))
def q178 : Pa := (.r (.r (.l (.l (.r (.r (.l .z)))))))
def q179 : Pa := (.l (.l (.r (.l (.r (.r (.l .z)))))))
def q180 : Pa := (.r (.l (.r (.l (.r (.r (.l .z)))))))
def q181 : Pa := (.l (.r (.r (.l (.r (.r (.l .z)))))))
def q182 : Pa := (.r (.r (.r (.l (.r (.r (.l .z)))))))
def q183 : Pa := (.l (.l (.l (.r (.r (.r (.l .z)))))))
def q184 : Pa := (.r (.l (.l (.r (.r (.r (.l .z)))))))
def q185 : Pa := (.l (.r (.l (.r (.r (.r (.l .z)))))))
def q186 : Pa := (.r (.r (.l (.r (.r (.r (.l .z)))))))
def q187 : Pa := (.l (.l (.r (.r (.r (.r (.l .z)))))))
def q188 : Pa := (.r (.l (.r (.r (.r (.r (.l .z)))))))
def q189 : Pa := (.l (.r (.r (.r (.r (.r (.l .z)))))))
def q190 : Pa := (.r (.r (.r (.r (.r (.r (.l .z)))))))
def q191 : Pa := (.l (.l (.l (.l (.l (.l (.r .z)))))))
def q192 : Pa := (.r (.l (.l (.l (.l (.l (.r .z)))))))
def q193 : Pa := (.l (.r (.l (.l (.l (.l (.r .z)))))))
def q194 : Pa := (.r (.r (.l (.l (.l (.l (.r .z)))))))
def q195 : Pa := (.l (.l (.r (.l (.l (.l (.r .z)))))))
def q196 : Pa := (.r (.l (.r (.l (.l (.l (.r .z)))))))
def q197 : Pa := (.l (.r (.r (.l (.l (.l (.r .z)))))))
def q198 : Pa := (.r (.r (.r (.l (.l (.l (.r .z)))))))
def q199 : Pa := (.l (.l (.l (.r (.l (.l (.r .z)))))))
def q200 : Pa := (.r (.l (.l (.r (.l (.l (.r .z)))))))
def q201 : Pa := (.l (.r (.l (.r (.l (.l (.r .z)))))))
def q202 : Pa := (.r (.r (.l (.r (.l (.l (.r .z)))))))
def q203 : Pa := (.l (.l (.r (.r (.l (.l (.r .z)))))))
def q204 : Pa := (.r (.l (.r (.r (.l (.l (.r .z)))))))
def q205 : Pa := (.l (.r (.r (.r (.l (.l (.r .z)))))))
def q206 : Pa := (.r (.r (.r (.r (.l (.l (.r .z)))))))
def q207 : Pa := (.l (.l (.l (.l (.r (.l (.r .z)))))))
def q208 : Pa := (.r (.l (.l (.l (.r (.l (.r .z)))))))
def q209 : Pa := (.l (.r (.l (.l (.r (.l (.r .z)))))))
def q210 : Pa := (.r (.r (.l (.l (.r (.l (.r .z)))))))
def q211 : Pa := (.l (.l (.r (.l (.r (.l (.r .z)))))))
def q212 : Pa := (.r (.l (.r (.l (.r (.l (.r .z)))))))
def q213 : Pa := (.l (.r (.r (.l (.r (.l (.r .z)))))))
def q214 : Pa := (.r (.r (.r (.l (.r (.l (.r .z)))))))
def q215 : Pa := (.l (.l (.l (.r (.r (.l (.r .z)))))))
def q216 : Pa := (.r (.l (.l (.r (.r (.l (.r .z)))))))
def q217 : Pa := (.l (.r (.l (.r (.r (.l (.r .z)))))))
def q218 : Pa := (.r (.r (.l (.r (.r (.l (.r .z)))))))
def q219 : Pa := (.l (.l (.r (.r (.r (.l (.r .z)))))))
def q220 : Pa := (.r (.l (.r (.r (.r (.l (.r .z)))))))
def q221 : Pa := (.l (.r (.r (.r (.r (.l (.r .z)))))))
def q222 : Pa := (.r (.r (.r (.r (.r (.l (.r .z)))))))
def q223 : Pa := (.l (.l (.l (.l (.l (.r (.r .z)))))))
def q224 : Pa := (.r (.l (.l (.l (.l (.r (.r .z)))))))
def q225 : Pa := (.l (.r (.l (.l (.l (.r (.r .z)))))))
def q226 : Pa := (.r (.r (.l (.l (.l (.r (.r .z)))))))
def q227 : Pa := (.l (.l (.r (.l (.l (.r (.r .z)))))))
def q228 : Pa := (.r (.l (.r (.l (.l (.r (.r .z)))))))
def q229 : Pa := (.l (.r (.r (.l (.l (.r (.r .z)))))))
def q230 : Pa := (.r (.r (.r (.l (.l (.r (.r .z)))))))
def q231 : Pa := (.l (.l (.l (.r (.l (.r (.r .z)))))))
def q232 : Pa := (.r (.l (.l (.r (.l (.r (.r .z)))))))
def q233 : Pa := (.l (.r (.l (.r (.l (.r (.r .z)))))))
def q234 : Pa := (.r (.r (.l (.r (.l (.r (.r .z)))))))
def q235 : Pa := (.l (.l (.r (.r (.l (.r (.r .z)))))))
def q236 : Pa := (.r (.l (.r (.r (.l (.r (.r .z)))))))
def q237 : Pa := (.l (.r (.r (.r (.l (.r (.r .z)))))))
def q238 : Pa := (.r (.r (.r (.r (.l (.r (.r .z)))))))
def q239 : Pa := (.l (.l (.l (.l (.r (.r (.r .z)))))))
def q240 : Pa := (.r (.l (.l (.l (.r (.r (.r .z)))))))
def q241 : Pa := (.l (.r (.l (.l (.r (.r (.r .z)))))))
def q242 : Pa := (.r (.r (.l (.l (.r (.r (.r .z)))))))
def q243 : Pa := (.l (.l (.r (.l (.r (.r (.r .z)))))))
def q244 : Pa := (.r (.l (.r (.l (.r (.r (.r .z)))))))
def q245 : Pa := (.l (.r (.r (.l (.r (.r (.r .z)))))))
def q246 : Pa := (.r (.r (.r (.l (.r (.r (.r .z)))))))
def q247 : Pa := (.l (.l (.l (.r (.r (.r (.r .z)))))))
def q248 : Pa := (.r (.l (.l (.r (.r (.r (.r .z)))))))
def q249 : Pa := (.l (.r (.l (.r (.r (.r (.r .z)))))))
def q250 : Pa := (.r (.r (.l (.r (.r (.r (.r .z)))))))
def q251 : Pa := (.l (.l (.r (.r (.r (.r (.r .z)))))))
def q252 : Pa := (.r (.l (.r (.r (.r (.r (.r .z)))))))
def q253 : Pa := (.l (.r (.r (.r (.r (.r (.r .z)))))))
def q254 : Pa := (.r (.r (.r (.r (.r (.r (.r .z)))))))
def q255 : Pa := (.l (.l (.l (.l (.l (.l (.l (.l .z))))))))
def q256 : Pa := (.r (.l (.l (.l (.l (.l (.l (.l .z))))))))
def q257 : Pa := (.l (.r (.l (.l (.l (.l (.l (.l .z))))))))
def q258 : Pa := (.r (.r (.l (.l (.l (.l (.l (.l .z))))))))
def q259 : Pa := (.l (.l (.r (.l (.l (.l (.l (.l .z))))))))
def q260 : Pa := (.r (.l (.r (.l (.l (.l (.l (.l .z))))))))
def q261 : Pa := (.l (.r (.r (.l (.l (.l (.l (.l .z))))))))
def q262 : Pa := (.r (.r (.r (.l (.l (.l (.l (.l .z))))))))
def q263 : Pa := (.l (.l (.l (.r (.l (.l (.l (.l .z))))))))
def q264 : Pa := (.r (.l (.l (.r (.l (.l (.l (.l .z))))))))
def q265 : Pa := (.l (.r (.l (.r (.l (.l (.l (.l .z))))))))
def q266 : Pa := (.r (.r (.l (.r (.l (.l (.l (.l .z))))))))
def q267 : Pa := (.l (.l (.r (.r (.l (.l (.l (.l .z))))))))
def q268 : Pa := (.r (.l (.r (.r (.l (.l (.l (.l .z))))))))
def q269 : Pa := (.l (.r (.r (.r (.l (.l (.l (.l .z))))))))
def q270 : Pa := (.r (.r (.r (.r (.l (.l (.l (.l .z))))))))
def q271 : Pa := (.l (.l (.l (.l (.r (.l (.l (.l .z))))))))
def q272 : Pa := (.r (.l (.l (.l (.r (.l (.l (.l .z))))))))
def q273 : Pa := (.l (.r (.l (.l (.r (.l (.l (.l .z))))))))
def q274 : Pa := (.r (.r (.l (.l (.r (.l (.l (.l .z))))))))
def q275 : Pa := (.l (.l (.r (.l (.r (.l (.l (.l .z))))))))
def q276 : Pa := (.r (.l (.r (.l (.r (.l (.l (.l .z))))))))
def q277 : Pa := (.l (.r (.r (.l (.r (.l (.l (.l .z))))))))
def q278 : Pa := (.r (.r (.r (.l (.r (.l (.l (.l .z))))))))
def q279 : Pa := (.l (.l (.l (.r (.r (.l (.l (.l .z))))))))
def q280 : Pa := (.r (.l (.l (.r (.r (.l (.l (.l .z))))))))
def q281 : Pa := (.l (.r (.l (.r (.r (.l (.l (.l .z))))))))
def q282 : Pa := (.r (.r (.l (.r (.r (.l (.l (.l .z))))))))
def q283 : Pa := (.l (.l (.r (.r (.r (.l (.l (.l .z))))))))
def q284 : Pa := (.r (.l (.r (.r (.r (.l (.l (.l .z))))))))
def q285 : Pa := (.l (.r (.r (.r (.r (.l (.l (.l .z))))))))
def q286 : Pa := (.r (.r (.r (.r (.r (.l (.l (.l .z))))))))
def q287 : Pa := (.l (.l (.l (.l (.l (.r (.l (.l .z))))))))
def q288 : Pa := (.r (.l (.l (.l (.l (.r (.l (.l .z))))))))
def q289 : Pa := (.l (.r (.l (.l (.l (.r (.l (.l .z))))))))
def q290 : Pa := (.r (.r (.l (.l (.l (.r (.l (.l .z))))))))
def q291 : Pa := (.l (.l (.r (.l (.l (.r (.l (.l .z))))))))
def q292 : Pa := (.r (.l (.r (.l (.l (.r (.l (.l .z))))))))
def q293 : Pa := (.l (.r (.r (.l (.l (.r (.l (.l .z))))))))
def q294 : Pa := (.r (.r (.r (.l (.l (.r (.l (.l .z))))))))
def q295 : Pa := (.l (.l (.l (.r (.l (.r (.l (.l .z))))))))
def q296 : Pa := (.r (.l (.l (.r (.l (.r (.l (.l .z))))))))
def q297 : Pa := (.l (.r (.l (.r (.l (.r (.l (.l .z))))))))
def q298 : Pa := (.r (.r (.l (.r (.l (.r (.l (.l .z))))))))
def q299 : Pa := (.l (.l (.r (.r (.l (.r (.l (.l .z))))))))
def q300 : Pa := (.r (.l (.r (.r (.l (.r (.l (.l .z))))))))
def q301 : Pa := (.l (.r (.r (.r (.l (.r (.l (.l .z))))))))
def q302 : Pa := (.r (.r (.r (.r (.l (.r (.l (.l .z))))))))
def q303 : Pa := (.l (.l (.l (.l (.r (.r (.l (.l .z))))))))
def q304 : Pa := (.r (.l (.l (.l (.r (.r (.l (.l .z))))))))
def q305 : Pa := (.l (.r (.l (.l (.r (.r (.l (.l .z))))))))
def q306 : Pa := (.r (.r (.l (.l (.r (.r (.l (.l .z))))))))
def q307 : Pa := (.l (.l (.r (.l (.r (.r (.l (.l .z))))))))
def q308 : Pa := (.r (.l (.r (.l (.r (.r (.l (.l .z))))))))
def q309 : Pa := (.l (.r (.r (.l (.r (.r (.l (.l .z))))))))
def q310 : Pa := (.r (.r (.r (.l (.r (.r (.l (.l .z))))))))
def q311 : Pa := (.l (.l (.l (.r (.r (.r (.l (.l .z))))))))
def q312 : Pa := (.r (.l (.l (.r (.r (.r (.l (.l .z))))))))
def q313 : Pa := (.l (.r (.l (.r (.r (.r (.l (.l .z))))))))
def q314 : Pa := (.r (.r (.l (.r (.r (.r (.l (.l .z))))))))
def q315 : Pa := (.l (.l (.r (.r (.r (.r (.l (.l .z))))))))
def q316 : Pa := (.r (.l (.r (.r (.r (.r (.l (.l .z))))))))
def q317 : Pa := (.l (.r (.r (.r (.r (.r (.l (.l .z))))))))
def q318 : Pa := (.r (.r (.r (.r (.r (.r (.l (.l .z))))))))
def q319 : Pa := (.l (.l (.l (.l (.l (.l (.r (.l .z))))))))
def q320 : Pa := (.r (.l (.l (.l (.l (.l (.r (.l .z))))))))
def q321 : Pa := (.l (.r (.l (.l (.l (.l (.r (.l .z))))))))
def q322 : Pa := (.r (.r (.l (.l (.l (.l (.r (.l .z))))))))
def q323 : Pa := (.l (.l (.r (.l (.l (.l (.r (.l .z))))))))
def q324 : Pa := (.r (.l (.r (.l (.l (.l (.r (.l .z))))))))
def q325 : Pa := (.l (.r (.r (.l (.l (.l (.r (.l .z))))))))
def q326 : Pa := (.r (.r (.r (.l (.l (.l (.r (.l .z))))))))
def q327 : Pa := (.l (.l (.l (.r (.l (.l (.r (.l .z))))))))
def q328 : Pa := (.r (.l (.l (.r (.l (.l (.r (.l .z))))))))
def q329 : Pa := (.l (.r (.l (.r (.l (.l (.r (.l .z))))))))
def q330 : Pa := (.r (.r (.l (.r (.l (.l (.r (.l .z))))))))
def q331 : Pa := (.l (.l (.r (.r (.l (.l (.r (.l .z))))))))
def q332 : Pa := (.r (.l (.r (.r (.l (.l (.r (.l .z))))))))
def q333 : Pa := (.l (.r (.r (.r (.l (.l (.r (.l .z))))))))
def q334 : Pa := (.r (.r (.r (.r (.l (.l (.r (.l .z))))))))
def q335 : Pa := (.l (.l (.l (.l (.r (.l (.r (.l .z))))))))
def q336 : Pa := (.r (.l (.l (.l (.r (.l (.r (.l .z))))))))
def q337 : Pa := (.l (.r (.l (.l (.r (.l (.r (.l .z))))))))
def q338 : Pa := (.r (.r (.l (.l (.r (.l (.r (.l .z))))))))
def q339 : Pa := (.l (.l (.r (.l (.r (.l (.r (.l .z))))))))
def q340 : Pa := (.r (.l (.r (.l (.r (.l (.r (.l .z))))))))
def q341 : Pa := (.l (.r (.r (.l (.r (.l (.r (.l .z))))))))
def q342 : Pa := (.r (.r (.r (.l (.r (.l (.r (.l .z))))))))
def q343 : Pa := (.l (.l (.l (.r (.r (.l (.r (.l .z))))))))
def q344 : Pa := (.r (.l (.l (.r (.r (.l (.r (.l .z))))))))
def q345 : Pa := (.l (.r (.l (.r (.r (.l (.r (.l .z))))))))
def q346 : Pa := (.r (.r (.l (.r (.r (.l (.r (.l .z))))))))
def q347 : Pa := (.l (.l (.r (.r (.r (.l (.r (.l .z))))))))
def q348 : Pa := (.r (.l (.r (.r (.r (.l (.r (.l .z))))))))
def q349 : Pa := (.l (.r (.r (.r (.r (.l (.r (.l .z))))))))
def q350 : Pa := (.r (.r (.r (.r (.r (.l (.r (.l .z))))))))
def q351 : Pa := (.l (.l (.l (.l (.l (.r (.r (.l .z))))))))
def q352 : Pa := (.r (.l (.l (.l (.l (.r (.r (.l .z))))))))
def q353 : Pa := (.l (.r (.l (.l (.l (.r (.r (.l .z))))))))
def q354 : Pa := (.r (.r (.l (.l (.l (.r (.r (.l .z))))))))
def q355 : Pa := (.l (.l (.r (.l (.l (.r (.r (.l .z))))))))
def q356 : Pa := (.r (.l (.r (.l (.l (.r (.r (.l .z))))))))
def q357 : Pa := (.l (.r (.r (.l (.l (.r (.r (.l .z))))))))
def q358 : Pa := (.r (.r (.r (.l (.l (.r (.r (.l .z))))))))
def q359 : Pa := (.l (.l (.l (.r (.l (.r (.r (.l .z))))))))
def q360 : Pa := (.r (.l (.l (.r (.l (.r (.r (.l .z))))))))
def q361 : Pa := (.l (.r (.l (.r (.l (.r (.r (.l .z))))))))
def q362 : Pa := (.r (.r (.l (.r (.l (.r (.r (.l .z))))))))
def q363 : Pa := (.l (.l (.r (.r (.l (.r (.r (.l .z))))))))
def q364 : Pa := (.r (.l (.r (.r (.l (.r (.r (.l .z))))))))
def q365 : Pa := (.l (.r (.r (.r (.l (.r (.r (.l .z))))))))
def q366 : Pa := (.r (.r (.r (.r (.l (.r (.r (.l .z))))))))
def q367 : Pa := (.l (.l (.l (.l (.r (.r (.r (.l .z))))))))
def q368 : Pa := (.r (.l (.l (.l (.r (.r (.r (.l .z))))))))
def q369 : Pa := (.l (.r (.l (.l (.r (.r (.r (.l .z))))))))
def q370 : Pa := (.r (.r (.l (.l (.r (.r (.r (.l .z))))))))
def q371 : Pa := (.l (.l (.r (.l (.r (.r (.r (.l .z))))))))
def q372 : Pa := (.r (.l (.r (.l (.r (.r (.r (.l .z))))))))
def q373 : Pa := (.l (.r (.r (.l (.r (.r (.r (.l .z))))))))
def q374 : Pa := (.r (.r (.r (.l (.r (.r (.r (.l .z))))))))
def q375 : Pa := (.l (.l (.l (.r (.r (.r (.r (.l .z))))))))
def q376 : Pa := (.r (.l (.l (.r (.r (.r (.r (.l .z))))))))
def q377 : Pa := (.l (.r (.l (.r (.r (.r (.r (.l .z))))))))
def q378 : Pa := (.r (.r (.l (.r (.r (.r (.r (.l .z))))))))
def q379 : Pa := (.l (.l (.r (.r (.r (.r (.r (.l .z))))))))
def q380 : Pa := (.r (.l (.r (.r (.r (.r (.r (.l .z))))))))
def q381 : Pa := (.l (.r (.r (.r (.r (.r (.r (.l .z))))))))
def q382 : Pa := (.r (.r (.r (.r (.r (.r (.r (.l .z))))))))
def q383 : Pa := (.l (.l (.l (.l (.l (.l (.l (.r .z))))))))
def q384 : Pa := (.r (.l (.l (.l (.l (.l (.l (.r .z))))))))
def q385 : Pa := (.l (.r (.l (.l (.l (.l (.l (.r .z))))))))
def q386 : Pa := (.r (.r (.l (.l (.l (.l (.l (.r .z))))))))
def q387 : Pa := (.l (.l (.r (.l (.l (.l (.l (.r .z))))))))
def q388 : Pa := (.r (.l (.r (.l (.l (.l (.l (.r .z))))))))
def q389 : Pa := (.l (.r (.r (.l (.l (.l (.l (.r .z))))))))
def q390 : Pa := (.r (.r (.r (.l (.l (.l (.l (.r .z))))))))
def q391 : Pa := (.l (.l (.l (.r (.l (.l (.l (.r .z))))))))
def q392 : Pa := (.r (.l (.l (.r (.l (.l (.l (.r .z))))))))
def q393 : Pa := (.l (.r (.l (.r (.l (.l (.l (.r .z))))))))
def q394 : Pa := (.r (.r (.l (.r (.l (.l (.l (.r .z))))))))
def q395 : Pa := (.l (.l (.r (.r (.l (.l (.l (.r .z))))))))
def q396 : Pa := (.r (.l (.r (.r (.l (.l (.l (.r .z))))))))
def q397 : Pa := (.l (.r (.r (.r (.l (.l (.l (.r .z))))))))
def q398 : Pa := (.r (.r (.r (.r (.l (.l (.l (.r .z))))))))
def q399 : Pa := (.l (.l (.l (.l (.r (.l (.l (.r .z))))))))
def q400 : Pa := (.r (.l (.l (.l (.r (.l (.l (.r .z))))))))
def q401 : Pa := (.l (.r (.l (.l (.r (.l (.l (.r .z))))))))
def q402 : Pa := (.r (.r (.l (.l (.r (.l (.l (.r .z))))))))
def q403 : Pa := (.l (.l (.r (.l (.r (.l (.l (.r .z))))))))
def q404 : Pa := (.r (.l (.r (.l (.r (.l (.l (.r .z))))))))
def q405 : Pa := (.l (.r (.r (.l (.r (.l (.l (.r .z))))))))
def q406 : Pa := (.r (.r (.r (.l (.r (.l (.l (.r .z))))))))
def q407 : Pa := (.l (.l (.l (.r (.r (.l (.l (.r .z))))))))
def q408 : Pa := (.r (.l (.l (.r (.r (.l (.l (.r .z))))))))
def q409 : Pa := (.l (.r (.l (.r (.r (.l (.l (.r .z))))))))
def q410 : Pa := (.r (.r (.l (.r (.r (.l (.l (.r .z))))))))
def q411 : Pa := (.l (.l (.r (.r (.r (.l (.l (.r .z))))))))
def q412 : Pa := (.r (.l (.r (.r (.r (.l (.l (.r .z))))))))
def q413 : Pa := (.l (.r (.r (.r (.r (.l (.l (.r .z))))))))
def q414 : Pa := (.r (.r (.r (.r (.r (.l (.l (.r .z))))))))
def q415 : Pa := (.l (.l (.l (.l (.l (.r (.l (.r .z))))))))
def q416 : Pa := (.r (.l (.l (.l (.l (.r (.l (.r .z))))))))
def q417 : Pa := (.l (.r (.l (.l (.l (.r (.l (.r .z))))))))
def q418 : Pa := (.r (.r (.l (.l (.l (.r (.l (.r .z))))))))
def q419 : Pa := (.l (.l (.r (.l (.l (.r (.l (.r .z))))))))
end Go.Am

/-
  A machine whose code names each value once, part 1: its operations, and how they stand to the quick machine's.
-/
namespace Go.Am
open Go
variable {P : Program} {G : Nat}

/-! ### Operations on values -/
noncomputable def kn (k : IntKind) : Nat := IntKind.rec (motive := fun _ => Nat) 0 1 2 3 4 5 6 7 k
theorem kn_inj {a b : IntKind} (h : Nat.beq (kn a) (kn b) = true) : a = b := by cases a <;> cases b <;> first | rfl | (exact absurd h (by decide))
def vNil : Value → Option Value
  | .pointer (some a) => some (.pointer (some a))
  | _ => none
def vFa (off : Nat) : Value → Option Value
  | .pointer (some ⟨b, o, none⟩) => some (.pointer (some ⟨b, o + off, none⟩))
  | _ => none
def vIxA (n sz : Nat) (v i : Value) : Option Value := match v, natOf (some i) with
  | .pointer (some ⟨b, o, none⟩), some k => cond (Nat.blt k n) (some (.pointer (some ⟨b, o + k * sz, none⟩))) none
  | _, _ => none
def vIxS (sz : Nat) (v i : Value) : Option Value := match v, natOf (some i) with
  | .slice (some ⟨b, o, none⟩) n z, some k => cond (Nat.blt k n && Nat.beq z sz) (some (.pointer (some ⟨b, o + k * sz, none⟩))) none
  | _, _ => none
def vFld (off : Nat) : Value → Option Value
  | .agg cs => cs.toList[off]?
  | _ => none
def vFldA (n off : Nat) : Value → Option Value
  | .agg cs => some (.agg ((cs.toList.drop off).take n).toArray)
  | _ => none
def vExt (i : Nat) : Value → Option Value
  | .tuple vs => vs.toList[i]?
  | _ => none
def vLenS : Value → Option Value
  | .slice _ n _ => some (.int .i64 n)
  | _ => none
def vPick (c a b : Value) : Option Value := match c with
  | .bool t => some (cond t a b)
  | _ => none
noncomputable def vIop (op : BinOp) (x y : Value) : Option Value := match x, y with
  | .int k a, .int k' b => cond (Nat.beq (kn k) (kn k')) (iopV op k a b) none
  | _, _ => none
def vSeq (x y : Value) : Option Value := match x, y with
  | .string a, .string b => some (.bool (sameB a.data.toList b.data.toList))
  | _, _ => none
def vSne (x y : Value) : Option Value := match x, y with
  | .string a, .string b => some (.bool (!sameB a.data.toList b.data.toList))
  | _, _ => none
def vSlen : Value → Option Value
  | .string a => some (.int .i64 a.data.toList.length)
  | _ => none
def vSidx (x i : Value) : Option Value := match x, natOf (some i) with
  | .string a, some k => (a.data.toList[k]?).map fun b => .int .u8 b.toNat
  | _, _ => none
def cutV (a : ByteArray) (l m : Nat) : Option Value := cond (Nat.ble l m && Nat.ble m a.data.toList.length) (some (.string ⟨((a.data.toList.drop l).take (m - l)).toArray⟩)) none
def vScut (x : Value) (lo hi : Option Value) : Option Value := match x with
  | .string a => match cutOf 0 lo, cutOf a.data.toList.length hi with
    | some l, some m => cutV a l m
    | _, _ => none
  | _ => none
def vNot : Value → Option Value
  | .bool b => some (.bool (!b))
  | _ => none
def vSadd (x y : Value) : Option Value := match x, y with
  | .string a, .string b => cond (Nat.ble (a.data.toList.length + b.data.toList.length) 9223372036854775807) (some (.string ⟨(a.data.toList ++ b.data.toList).toArray⟩)) none
  | _, _ => none
noncomputable def vQuo (x y : Value) : Option Value := match x, y with
  | .int k a, .int k' b => cond (Nat.beq (kn k) (kn k')) (cond (eqI b 0) none (some (.int k (k.wrap (a.tdiv b))))) none
  | _, _ => none
noncomputable def vRem (x y : Value) : Option Value := match x, y with
  | .int k a, .int k' b => cond (Nat.beq (kn k) (kn k')) (cond (eqI b 0) none (some (.int k (a.tmod b)))) none
  | _, _ => none
def vNeg : Value → Option Value
  | .int k a => some (.int k (k.wrap (0 - a)))
  | _ => none
/-- An integer taken as one of another kind. -/
def vCvt (k : IntKind) : Value → Option Value
  | .int _ n => some (.int k (k.wrap n))
  | _ => none
def vBox (t : TypeId) (x : Value) : Option Value := some (.iface t x)
def fillV (cs : List Value) : List (Nat × Nat) → List Value → Option (List Value)
  | [], _ => some cs
  | (off, size) :: rest, v :: vs => cond (Nat.beq v.cells.size size && Nat.ble (off + size) cs.length) (fillV (cs.take off ++ v.cells.toList ++ cs.drop (off + size)) rest vs) none
  | _ :: _, [] => none
def vBld (zs : List Value) (ps : List (Nat × Nat)) (vs : List Value) : Option Value := (fillV zs ps vs).map fun cs => .agg cs.toArray
def vSub (sz : Nat) (x : Value) (lo hi : Option Value) : Option Value := match x with
  | .slice a n z => match cutOf 0 lo, cutOf n hi with
    | some l, some m => cond (Nat.ble l m && Nat.ble m n) (match a with
      | none => some (.slice none 0 0)
      | some ⟨b, o, none⟩ => cond (Nat.beq z sz) (some (.slice (some ⟨b, o + l * sz, none⟩) (m - l) sz)) none
      | _ => none) none
    | _, _ => none
  | _ => none
/-- One more call that is deferred. -/
def vDfr (f : FuncId) : List Value → Option Value
  | p :: args => some (.tuple #[.func (.func f) #[] #[], .tuple args.toArray, p])
  | [] => none
def decD : Nat → Value → Option (List (FuncId × List Value))
  | _, .nilFunc => some []
  | n + 1, .tuple ⟨[.func (.func f) _ _, .tuple as, p]⟩ => (decD n p).map fun l => (f, as.toList) :: l
  | _, _ => none
/-- Any other that needs no memory. -/
def vAny (P : Program) (G : Nat) (op : AOp) (ts : List Nat) (vs : List Value) : Option Value := (op.run P (opdT G ts vs) ⟨0, .leaf⟩).map (·.1)

/-! ### Operations that read memory -/
def mLd (h : AH) (v : Value) : Option Value := match cellsAt h v with
  | some (_, o, _, c) => c[o]?
  | none => none
def mLdA (n : Nat) (h : AH) (v : Value) : Option Value := match cellsAt h v with
  | some (_, o, _, c) => cond (Nat.ble (o + n) c.length) (some (.agg ((c.drop o).take n).toArray)) none
  | none => none
/-- A field behind an address. -/
def mF (off : Nat) (h : AH) : Value → Option Value
  | .pointer (some ⟨b, o, none⟩) => match h.get b with
    | .cells _ c => c[o + off]?
    | _ => none
  | _ => none
def mFA (n off : Nat) (h : AH) : Value → Option Value
  | .pointer (some ⟨b, o, none⟩) => match h.get b with
    | .cells _ c => cond (Nat.ble (o + off + n) c.length) (some (.agg ((c.drop (o + off)).take n).toArray)) none
    | _ => none
  | _ => none
/-- An element of a slice, or a field of one. -/
def mI (sz off : Nat) (h : AH) (v i : Value) : Option Value := match v, natOf (some i) with
  | .slice (some ⟨b, o, none⟩) n z, some k => cond (Nat.blt k n && Nat.beq z sz) (match h.get b with
    | .cells _ c => c[o + k * sz + off]?
    | _ => none) none
  | _, _ => none
def mIA (n' sz off : Nat) (h : AH) (v i : Value) : Option Value := match v, natOf (some i) with
  | .slice (some ⟨b, o, none⟩) n z, some k => cond (Nat.blt k n && Nat.beq z sz) (match h.get b with
    | .cells _ c => cond (Nat.ble (o + k * sz + off + n') c.length) (some (.agg ((c.drop (o + k * sz + off)).take n').toArray)) none
    | _ => none) none
  | _, _ => none
def mAny (P : Program) (G : Nat) (op : AOp) (ts : List Nat) (h : AH) (vs : List Value) : Option Value := (op.run P (opdT G ts vs) h).map (·.1)

/-! ### Operations that write memory -/
def hSt (n : Nat) (h : AH) (v u : Value) : Option AH := match cellsAt h v with
  | some (b, o, ro, c) => cond (!ro && Nat.beq u.cells.size n && Nat.ble (o + n) c.length && u.cells.toList.all hasOne) (some (h.set b (.cells false (c.take o ++ u.cells.toList ++ c.drop (o + n))))) none
  | none => none
/-- A field behind an address, one cell. -/
def hF (off : Nat) (h : AH) (v u : Value) : Option AH := match v with
  | .pointer (some ⟨b, o, none⟩) => match h.get b with
    | .cells ro c => cond (!ro && Nat.blt (o + off) c.length && hasOne u) (some (h.set b (.cells false (c.set (o + off) u)))) none
    | _ => none
  | _ => none
/-- A value laid into a new block. -/
def hNew (h : AH) (zs : List Value) : Value × AH := (.pointer (some ⟨h.next, 0, none⟩), h.push (.cells false zs))
/-- A new block of n cells, and what is laid there at once. -/
def hIni (n : Nat) (h : AH) (u : Value) : Option (Value × AH) := cond (Nat.beq u.cells.size n && u.cells.toList.all hasOne) (some (.pointer (some ⟨h.next, 0, none⟩), h.push (.cells false u.cells.toList))) none
def hApp (sz bytes : Nat) (h : AH) (v u : Value) : Option (Value × AH) := match segOf h sz u with
  | some (0, _) => match v with
    | .slice _ _ _ => some (v, h)
    | _ => none
  | some (m, nw) => match v with
    | .slice none 0 0 => cond (Nat.ble (m * bytes) 140737488355328 && Nat.ble m 140737488355328)
        (some (.slice (some ⟨h.next, 0, none⟩) m sz, h.push (.cells false nw))) none
    | .slice (some ⟨b, o, none⟩) n z => match h.get b with
      | .cells false c =>
        cond (Nat.beq z sz && Nat.ble (o + n * sz) c.length && Nat.ble ((n + m) * bytes) 140737488355328 && Nat.ble (n + m) 140737488355328 && nw.all hasOne)
          (some (.slice (some ⟨h.next, 0, none⟩) (n + m) sz, (h.set b .dead).push (.cells false ((c.drop o).take (n * sz) ++ nw)))) none
      | _ => none
    | _ => none
  | none => none
def hBsl (sz len : Nat) (zs : List Value) (ps : List (Nat × Nat)) (h : AH) (vs : List Value) : Option (Value × AH) :=
  (fillV zs ps vs).map fun cs => (.slice (some ⟨h.next, 0, none⟩) len sz, h.push (.cells false cs))

/-! ### The same, as code -/
inductive PO where
  | mv | nil | fa (off : Nat) | ixA (n sz : Nat) | ixS (sz : Nat) | fld (off : Nat) | fldA (n off : Nat) | ext (i : Nat) | lenS | pick
  | iop (op : BinOp) | seq | sne | slen | sidx | scut (lo hi : Bool) | not | sadd | quo | rem | neg | cvt (k : IntKind) | box (t : TypeId) | bld (zs : List Value) (ps : List (Nat × Nat)) | dfr (f : FuncId) | sub (sz : Nat) (lo hi : Bool) | any (op : AOp) (ts : List Nat)
inductive MO where
  | ld | ldA (n : Nat) | f (off : Nat) | fA (n off : Nat) | i (sz off : Nat) | iA (n sz off : Nat) | any (op : AOp) (ts : List Nat)
inductive WO where
  | st (n : Nat) | f (off : Nat)
inductive HO where
  | ini (n : Nat) | new (zs : List Value) | box | app (sz bytes : Nat) | bsl (sz len : Nat) (zs : List Value) (ps : List (Nat × Nat)) | any (op : AOp) (ts : List Nat)
def e1 {α : Type} (f : Value → Option α) : List Value → Option α
  | [x] => f x
  | _ => none
def e2 {α : Type} (f : Value → Value → Option α) : List Value → Option α
  | [x, y] => f x y
  | _ => none
def e3 {α : Type} (f : Value → Value → Value → Option α) : List Value → Option α
  | [x, y, z] => f x y z
  | _ => none
def eCut {α : Type} (f : Value → Option Value → Option Value → Option α) (lo hi : Bool) (vs : List Value) : Option α := match lo, hi, vs with
  | false, false, [x] => f x none none
  | true, false, [x, a] => f x (some a) none
  | false, true, [x, b] => f x none (some b)
  | true, true, [x, a, b] => f x (some a) (some b)
  | _, _, _ => none
noncomputable def PO.run (P : Program) (G : Nat) (vs : List Value) : PO → Option Value
  | .mv => e1 some vs
  | .nil => e1 vNil vs
  | .fa off => e1 (vFa off) vs
  | .ixA n sz => e2 (vIxA n sz) vs
  | .ixS sz => e2 (vIxS sz) vs
  | .fld off => e1 (vFld off) vs
  | .fldA n off => e1 (vFldA n off) vs
  | .ext i => e1 (vExt i) vs
  | .lenS => e1 vLenS vs
  | .pick => e3 vPick vs
  | .iop op => e2 (vIop op) vs
  | .seq => e2 vSeq vs
  | .sne => e2 vSne vs
  | .slen => e1 vSlen vs
  | .sidx => e2 vSidx vs
  | .scut lo hi => eCut vScut lo hi vs
  | .not => e1 vNot vs
  | .sadd => e2 vSadd vs
  | .quo => e2 vQuo vs
  | .rem => e2 vRem vs
  | .neg => e1 vNeg vs
  | .cvt k => e1 (vCvt k) vs
  | .box t => e1 (vBox t) vs
  | .bld zs ps => vBld zs ps vs
  | .dfr f => vDfr f vs
  | .sub sz lo hi => eCut (vSub sz) lo hi vs
  | .any op ts => vAny P G op ts vs
noncomputable def MO.run (P : Program) (G : Nat) (h : AH) (vs : List Value) : MO → Option Value
  | .ld => e1 (mLd h) vs
  | .ldA n => e1 (mLdA n h) vs
  | .f off => e1 (mF off h) vs
  | .fA n off => e1 (mFA n off h) vs
  | .i sz off => e2 (mI sz off h) vs
  | .iA n sz off => e2 (mIA n sz off h) vs
  | .any op ts => mAny P G op ts h vs
noncomputable def WO.run (h : AH) (vs : List Value) : WO → Option AH
  | .st n => e2 (hSt n h) vs
  | .f off => e2 (hF off h) vs
noncomputable def HO.run (P : Program) (G : Nat) (h : AH) (vs : List Value) : HO → Option (Value × AH)
  | .ini n => e1 (hIni n h) vs
  | .new zs => some (hNew h zs)
  | .box => e1 (fun x => some (hNew h x.cells.toList)) vs
  | .app sz bytes => e2 (hApp sz bytes h) vs
  | .bsl sz len zs ps => hBsl sz len zs ps h vs
  | .any op ts => op.run P (opdT G ts vs) h

/-! ### The quick machine's operations in these words -/
inductive TL where
  | l (i : Nat)
  | c (x : Value)
inductive TO where
  | p (o : PO) (xs : List TL)
  | m (o : MO) (xs : List TL)
  | h (o : HO) (xs : List TL)
  | w (o : WO) (xs : List TL)
/-- What stands for an operand: ts, and what stands for them. -/
def tOpd (G : Nat) : List Nat → List TL → Operand → Option TL
  | t :: ts, a :: as, .tmp s => cond (Nat.beq t s) (some a) (tOpd G ts as (.tmp s))
  | _, _, .tmp _ => none
  | _, _, .const v => cond (ground v) (some (.c v)) none
  | _, _, .global g => cond (Nat.blt g G) (some (.c (.pointer (some ⟨g, 0, none⟩)))) none
  | _, _, .func f => some (.c (.func (.func f) #[] #[]))
def tOpds (G : Nat) (ts : List Nat) (as : List TL) : List Operand → Option (List TL)
  | [] => some []
  | x :: l => match tOpd G ts as x, tOpds G ts as l with
    | some a, some r => some (a :: r)
    | _, _ => none
def kindOf (P : Program) (t : TypeId) : Option IntKind := match P.underlying t with
  | some (.int k) => some k
  | _ => none
def offs (ps : List (Nat × Nat × Operand)) : List (Nat × Nat) := ps.map fun p => (p.1, p.2.1)
def anyOf (op : AOp) (ts : List Nat) (xs : List TL) : TO := cond op.pure (.p (.any op ts) xs) (cond op.isN (.m (.any op ts) xs) (.h (.any op ts) xs))
def orAny (op : AOp) (ts : List Nat) (xs : List TL) : Option TO → TO
  | some r => r
  | none => anyOf op ts xs
def scalT (P : Program) (G : Nat) (ts : List Nat) (xs : List TL) (o : Oper) : Option TO := match o.op with
  | .binOp .add t x y _ => cond (isStr P t) ((tOpds G ts xs [x, y]).map (.p .sadd)) none
  | .binOp .quo t x y _ => cond (isInt P t) ((tOpds G ts xs [x, y]).map (.p .quo)) none
  | .binOp .rem t x y _ => cond (isInt P t) ((tOpds G ts xs [x, y]).map (.p .rem)) none
  | .unOp .neg t x => cond (isInt P t) ((tOpds G ts xs [x]).map (.p .neg)) none
  | .convert s d x => match kindOf P s, kindOf P d with
    | some _, some k => (tOpds G ts xs [x]).map (.p (.cvt k))
    | _, _ => none
  | _ => none
def slowT (P : Program) (G : Nat) (ts : List Nat) (xs : List TL) : AOp → Option TO
  | .scal o => scalT P G ts xs o
  | .new zs => some (.h (.new zs) [])
  | .box x => (tOpds G ts xs [x]).map (.h .box)
  | .build zs ps => (tOpds G ts xs (ps.map (·.2.2))).map (.p (.bld zs (offs ps)))
  | .buildSlice sz len zs ps => (tOpds G ts xs (ps.map (·.2.2))).map (.h (.bsl sz len zs (offs ps)))
  | .append sz b s x => (tOpds G ts xs [s, x]).map (.h (.app sz b))
  | .sliceS sz x lo hi => (tOpds G ts xs ([x] ++ lo.toList ++ hi.toList)).map (.p (.sub sz lo.isSome hi.isSome))
  | .makeIface t x => (tOpds G ts xs [x]).map (.p (.box t))
  | _ => none
def toOf (P : Program) (G : Nat) (xs : List TL) : KF → TO
  | .mv => .p .mv xs
  | .load none => .m .ld xs
  | .load (some n) => .m (.ldA n) xs
  | .store n => .w (.st n) xs
  | .nilCheck => .p .nil xs
  | .fieldAddr off => .p (.fa off) xs
  | .indexArr n sz => .p (.ixA n sz) xs
  | .indexSl sz => .p (.ixS sz) xs
  | .field none off => .p (.fld off) xs
  | .field (some n) off => .p (.fldA n off) xs
  | .extract i => .p (.ext i) xs
  | .lenS => .p .lenS xs
  | .pick => .p .pick xs
  | .iop op => .p (.iop op) xs
  | .seq => .p .seq xs
  | .sne => .p .sne xs
  | .slen => .p .slen xs
  | .sidx => .p .sidx xs
  | .scut lo hi => .p (.scut lo hi) xs
  | .not => .p .not xs
  | .slow op ts => orAny op ts xs (slowT P G ts xs op)

/-! ### What they come to -/
noncomputable def nthD (L : List Value) (i : Nat) : Value := List.rec (motive := fun _ => Nat → Value) (fun _ => undef) (fun x _ ih i => Nat.casesOn i x ih) L i
/-- The value of a name: names count from the oldest one on. -/
noncomputable def TL.val (L : List Value) : TL → Value
  | .l i => nthD L (L.length - 1 - i)
  | .c x => x
noncomputable def TO.run (P : Program) (G : Nat) (L : List Value) (h : AH) : TO → Option (Value × AH)
  | .p o xs => (o.run P G (xs.map (TL.val L))).map fun v => (v, h)
  | .m o xs => (o.run P G h (xs.map (TL.val L))).map fun v => (v, h)
  | .h o xs => o.run P G h (xs.map (TL.val L))
  | .w o xs => (o.run h (xs.map (TL.val L))).map fun h => (undef, h)

theorem tOpd_ok {L : List Value} : ∀ {ts : List Nat} {as : List TL} {x : Operand} {a : TL}, tOpd G ts as x = some a → opdT G ts (as.map (TL.val L)) x = some (a.val L)
  | ts, as, .const v, a, h => by
    have h' : cond (ground v) (some (TL.c v)) none = some a := by cases ts <;> cases as <;> exact h
    obtain ⟨h1, h2⟩ := condT h' rfl
    cases h2
    simp [opdT, opd, h1, TL.val]
  | ts, as, .global g, a, h => by
    have h' : cond (Nat.blt g G) (some (TL.c (.pointer (some ⟨g, 0, none⟩)))) none = some a := by cases ts <;> cases as <;> exact h
    obtain ⟨h1, h2⟩ := condT h' rfl
    cases h2
    simp [opdT, opd, h1, TL.val]
  | ts, as, .func f, a, h => by
    have h' : some (TL.c (.func (.func f) #[] #[])) = some a := by cases ts <;> cases as <;> exact h
    cases h'
    rfl
  | [], as, .tmp s, a, h => by cases as <;> cases h
  | _ :: _, [], .tmp s, a, h => by cases h
  | t :: ts, b :: as, .tmp s, a, h => by
    simp only [tOpd] at h
    show lookT (t :: ts) (b.val L :: as.map (TL.val L)) s = _
    simp only [lookT]
    cases hb : Nat.beq t s with
    | true => rw [hb] at h; cases h; rfl
    | false => rw [hb] at h; exact tOpd_ok (x := .tmp s) h
theorem tOpds_ok {L : List Value} {ts : List Nat} {as : List TL} : ∀ {l : List Operand} {r : List TL}, tOpds G ts as l = some r → opds (opdT G ts (as.map (TL.val L))) l = some (r.map (TL.val L))
  | [], r, h => by cases h; rfl
  | x :: l, r, h => by
    simp only [tOpds] at h
    split at h
    · rename_i a r' ha hr
      cases h
      simp [opds, tOpd_ok ha, tOpds_ok hr]
    · cases h
theorem opds_one {ρ : Operand → Option Value} {x : Operand} {vs : List Value} (h : opds ρ [x] = some vs) : ∃ v, ρ x = some v ∧ vs = [v] := by
  simp only [opds] at h
  split at h
  · rename_i v r hv hr; cases hr; cases h; exact ⟨v, hv, rfl⟩
  · cases h
theorem opds_two {ρ : Operand → Option Value} {x y : Operand} {vs : List Value} (h : opds ρ [x, y] = some vs) : ∃ v u, ρ x = some v ∧ ρ y = some u ∧ vs = [v, u] := by
  simp only [opds] at h
  split at h
  · rename_i v r hv hr
    split at hr
    · rename_i u r' hu hr'; cases hr'; cases hr; cases h; exact ⟨v, u, hv, hu, rfl⟩
    · cases hr
  · cases h
theorem keq_self (k : IntKind) : (k == k) = true := by cases k <;> rfl
theorem fillV_ok {ρ : Operand → Option Value} : ∀ {ps : List (Nat × Nat × Operand)} {cs r : List Value} {vs : List Value}, opds ρ (ps.map (·.2.2)) = some vs → fillV cs (offs ps) vs = some r → fillL ρ cs ps = some r
  | [], cs, r, vs, _, h => by simpa [offs, fillV, fillL] using h
  | (off, size, x) :: ps, cs, r, vs, ho, h => by
    simp only [List.map_cons, opds] at ho
    split at ho
    · rename_i v vs' hv hvs
      cases ho
      simp only [offs, List.map_cons, fillV] at h
      simp only [fillL, hv]
      obtain ⟨h1, h2⟩ := condT h rfl
      rw [h1]
      exact fillV_ok hvs h2
    · cases ho
theorem e1_inv {α : Type} {f : Value → Option α} {vs : List Value} {a : α} (h : e1 f vs = some a) : ∃ x, vs = [x] ∧ f x = some a := by
  unfold e1 at h; split at h
  · exact ⟨_, rfl, h⟩
  · cases h
theorem e2_inv {α : Type} {f : Value → Value → Option α} {vs : List Value} {a : α} (h : e2 f vs = some a) : ∃ x y, vs = [x, y] ∧ f x y = some a := by
  unfold e2 at h; split at h
  · exact ⟨_, _, rfl, h⟩
  · cases h
theorem e3_inv {α : Type} {f : Value → Value → Value → Option α} {vs : List Value} {a : α} (h : e3 f vs = some a) : ∃ x y z, vs = [x, y, z] ∧ f x y z = some a := by
  unfold e3 at h; split at h
  · exact ⟨_, _, _, rfl, h⟩
  · cases h
end Go.Am

/-
  A machine whose code names each value once, part 2: its operations are the quick machine's.
-/
namespace Go.Am
open Go
variable {P : Program} {G : Nat}

def TOk (P : Program) (G : Nat) (t : TO) (f : KF) (xs : List TL) : Prop := ∀ L h v h', t.run P G L h = some (v, h') → f.run P G h (xs.map (TL.val L)) = some (v, h')
theorem map_inv {α : Type} {x : Option Value} {h : AH} {r : Value × AH} (e : x.map (fun v => (v, h)) = some r) : x = some r.1 ∧ r.2 = h := by
  cases x with
  | none => cases e
  | some v => cases e; exact ⟨rfl, rfl⟩

theorem cond_some {α : Type} {c : Bool} {a : Option α} {x : α} (h : cond c a none = some x) : c = true ∧ a = some x := by
  cases c with
  | true => exact ⟨rfl, h⟩
  | false => cases h
theorem cond_some' {α : Type} {c : Bool} {a : Option α} {x : α} (h : cond c none a = some x) : c = false ∧ a = some x := by
  cases c with
  | false => exact ⟨rfl, h⟩
  | true => cases h
theorem getD_arr {α : Type} (a : Array α) (i : Nat) : a.toList[i]? = a[i]? := by simp

theorem anyOf_ok {op : AOp} {ts : List Nat} {xs : List TL} : TOk P G (anyOf op ts xs) (.slow op ts) xs := by
  intro L h v h' hr
  show op.run P (opdT G ts (xs.map (TL.val L))) h = some (v, h')
  unfold anyOf at hr
  cases hp : op.pure with
  | true =>
    rw [hp] at hr
    have hr' : (((op.run P (opdT G ts (xs.map (TL.val L))) ⟨0, .leaf⟩).map (·.1)).map fun v => (v, h)) = some (v, h') := hr
    cases hq : op.run P (opdT G ts (xs.map (TL.val L))) ⟨0, .leaf⟩ with
    | none => rw [hq] at hr'; cases hr'
    | some r =>
      rw [hq] at hr'
      obtain ⟨u, h1⟩ := r
      cases hr'
      exact run_pure hp hq h
  | false =>
    rw [hp] at hr
    cases hn : op.isN with
    | true =>
      rw [hn] at hr
      have hr' : (((op.run P (opdT G ts (xs.map (TL.val L))) h).map (·.1)).map fun v => (v, h)) = some (v, h') := hr
      cases hq : op.run P (opdT G ts (xs.map (TL.val L))) h with
      | none => rw [hq] at hr'; cases hr'
      | some r =>
        rw [hq] at hr'
        obtain ⟨u, h1⟩ := r
        cases hr'
        rw [run_N hn hq]
    | false => rw [hn] at hr; exact hr

theorem scalT_ok {ts : List Nat} {xs : List TL} {o : Oper} {t : TO} (h : scalT P G ts xs o = some t) : TOk P G t (.slow (.scal o) ts) xs := by
  intro L hp v h' hr
  show (AOp.scal o).run P (opdT G ts (xs.map (TL.val L))) hp = some (v, h')
  unfold scalT at h
  split at h
  · rename_i t x y c ho
    obtain ⟨h1, h⟩ := condT h rfl
    obtain ⟨r, h2, rfl⟩ := Option.map_eq_some_iff.1 h
    obtain ⟨h3, h4⟩ := map_inv (α := Value) hr
    cases h4
    obtain ⟨a, b, h5, h6, h7⟩ := opds_two (tOpds_ok (L := L) h2)
    rw [h7] at h3
    have h8 : vSadd a b = some v := h3
    unfold vSadd at h8
    split at h8
    · rename_i a b
      obtain ⟨h10, h9⟩ := cond_some h8
      cases h9
      simp only [Nat.ble_eq] at h10
      refine scal_of ?_ ?_ rfl
      · rw [ho]
        simp [allGround, Op.operands, h5, h6, ground, groundF]
      · rw [bin_ex ho, h5, h6]
        have hs : ¬ (((a.size + b.size : Nat) : Int) > IntKind.i64.max) := by
          rw [size_len, size_len] at h10
          have : IntKind.i64.max = 9223372036854775807 := by decide
          rw [this]; omega
        have e : (⟨(a.data.toList ++ b.data.toList).toArray⟩ : ByteArray) = a ++ b := by
          apply ByteArray.ext
          simp
        rw [e]
        have hs2 : ¬ (9223372036854775807 < (a.size : Int) + b.size) := by
          rw [size_len, size_len] at h10
          omega
        simp [eqGuard, binOp, Op.stringOp, hs2]
    · cases h8
  · rename_i t x y c ho
    obtain ⟨h1, h⟩ := condT h rfl
    obtain ⟨r, h2, rfl⟩ := Option.map_eq_some_iff.1 h
    obtain ⟨h3, h4⟩ := map_inv (α := Value) hr
    cases h4
    obtain ⟨a, b, h5, h6, h7⟩ := opds_two (tOpds_ok (L := L) h2)
    rw [h7] at h3
    have h8 : vQuo a b = some v := h3
    unfold vQuo at h8
    split at h8
    · rename_i k a k' b
      obtain ⟨hk, h9⟩ := cond_some h8
      clear h8
      obtain rfl := kn_inj hk
      obtain ⟨hb, h10⟩ := cond_some' h9
      cases h10
      rw [eqI_eq] at hb
      have hb' : ¬ b = 0 := by simpa using hb
      refine scal_of ?_ ?_ rfl
      · rw [ho]
        simp [allGround, Op.operands, h5, h6, ground, groundF]
      · rw [bin_ex ho, h5, h6]
        simp [eqGuard, binOp, Op.intDiv, hb']
    · cases h8
  · rename_i t x y c ho
    obtain ⟨h1, h⟩ := condT h rfl
    obtain ⟨r, h2, rfl⟩ := Option.map_eq_some_iff.1 h
    obtain ⟨h3, h4⟩ := map_inv (α := Value) hr
    cases h4
    obtain ⟨a, b, h5, h6, h7⟩ := opds_two (tOpds_ok (L := L) h2)
    rw [h7] at h3
    have h8 : vRem a b = some v := h3
    unfold vRem at h8
    split at h8
    · rename_i k a k' b
      obtain ⟨hk, h9⟩ := cond_some h8
      clear h8
      obtain rfl := kn_inj hk
      obtain ⟨hb, h10⟩ := cond_some' h9
      cases h10
      rw [eqI_eq] at hb
      have hb' : ¬ b = 0 := by simpa using hb
      refine scal_of ?_ ?_ rfl
      · rw [ho]
        simp [allGround, Op.operands, h5, h6, ground, groundF]
      · rw [bin_ex ho, h5, h6]
        simp [eqGuard, binOp, Op.intDiv, hb']
    · cases h8
  · rename_i t x ho
    obtain ⟨h1, h⟩ := condT h rfl
    obtain ⟨r, h2, rfl⟩ := Option.map_eq_some_iff.1 h
    obtain ⟨h3, h4⟩ := map_inv (α := Value) hr
    cases h4
    obtain ⟨a, h5, h7⟩ := opds_one (tOpds_ok (L := L) h2)
    rw [h7] at h3
    have h8 : vNeg a = some v := h3
    unfold vNeg at h8
    split at h8
    · rename_i k a
      cases h8
      refine scal_of ?_ ?_ rfl
      · rw [ho]
        simp [allGround, Op.operands, h5, ground, groundF]
      · have hex : ∀ e : Operand → Value, execOp e o = (do pure (.value (← Op.unary .neg (e x)))) := fun e => by unfold execOp; rw [ho]
        rw [hex, h5]
        simp [Op.unary, Op.intArith]
    · cases h8
  · rename_i s d x ho
    split at h
    · rename_i k' k hk' hk
      obtain ⟨r, h2, rfl⟩ := Option.map_eq_some_iff.1 h
      obtain ⟨h3, h4⟩ := map_inv (α := Value) hr
      cases h4
      obtain ⟨a, h5, h7⟩ := opds_one (tOpds_ok (L := L) h2)
      rw [h7] at h3
      have h8 : vCvt k a = some v := h3
      unfold vCvt at h8
      split at h8
      · rename_i k0 n
        cases h8
        have hu1 : P.underlying s = some (.int k') := by
          unfold kindOf at hk'; split at hk'
          · cases hk'; assumption
          · cases hk'
        have hu2 : P.underlying d = some (.int k) := by
          unfold kindOf at hk; split at hk
          · cases hk; assumption
          · cases hk
        refine scal_of ?_ ?_ rfl
        · rw [ho]
          simp [allGround, Op.operands, h5, ground, groundF]
        · have hex : ∀ e : Operand → Value, execOp e o = (do pure (.value (← convert s d (e x)))) := fun e => by unfold execOp; rw [ho]
          rw [hex, h5]
          simp [convert, pure_under hu1, pure_under hu2, Conv.intToInt]
      · cases h8
    · cases h
  · cases h
theorem slowT_ok {ts : List Nat} {xs : List TL} {op : AOp} {t : TO} (h : slowT P G ts xs op = some t) : TOk P G t (.slow op ts) xs := by
  cases op with
  | scal o => exact scalT_ok h
  | new zs =>
    cases h
    intro L hp v h' hr
    exact hr
  | box x =>
    obtain ⟨r, h2, rfl⟩ := Option.map_eq_some_iff.1 h
    intro L hp v h' hr
    obtain ⟨a, h5, h7⟩ := opds_one (tOpds_ok (L := L) h2)
    have h3 : e1 (fun x => some (hNew hp x.cells.toList)) (r.map (TL.val L)) = some (v, h') := hr
    rw [h7] at h3
    show ((opdT G ts (xs.map (TL.val L))) x).map _ = _
    rw [h5]
    exact h3
  | build zs ps =>
    obtain ⟨r, h2, rfl⟩ := Option.map_eq_some_iff.1 h
    intro L hp v h' hr
    obtain ⟨h3, h4⟩ := map_inv (α := Value) hr
    cases h4
    obtain ⟨cs, h5, h6⟩ := Option.map_eq_some_iff.1 (show (fillV zs (offs ps) (r.map (TL.val L))).map (fun cs => Value.agg cs.toArray) = some v from h3)
    show (fillL _ zs ps).map _ = _
    rw [fillV_ok (tOpds_ok (L := L) h2) h5, ← h6]; rfl
  | buildSlice sz len zs ps =>
    obtain ⟨r, h2, rfl⟩ := Option.map_eq_some_iff.1 h
    intro L hp v h' hr
    obtain ⟨cs, h5, h6⟩ := Option.map_eq_some_iff.1 (show (fillV zs (offs ps) (r.map (TL.val L))).map (fun cs => (Value.slice (some ⟨hp.next, 0, none⟩) len sz, hp.push (.cells false cs))) = some (v, h') from hr)
    show (fillL _ zs ps).map _ = _
    rw [fillV_ok (tOpds_ok (L := L) h2) h5, ← h6]; rfl
  | append sz b s x =>
    obtain ⟨r, h2, rfl⟩ := Option.map_eq_some_iff.1 h
    intro L hp v h' hr
    obtain ⟨a, u, h5, h6, h7⟩ := opds_two (tOpds_ok (L := L) h2)
    have h3 : e2 (hApp sz b hp) (r.map (TL.val L)) = some (v, h') := hr
    rw [h7] at h3
    show (match opdT G ts (xs.map (TL.val L)) s, opdT G ts (xs.map (TL.val L)) x with
      | some v, some u => _
      | _, _ => _) = _
    rw [h5, h6]
    exact h3
  | sliceS sz x lo hi =>
    obtain ⟨r, h2, rfl⟩ := Option.map_eq_some_iff.1 h
    intro L hp v h' hr
    have ho := tOpds_ok (L := L) h2
    obtain ⟨h3, h4⟩ := map_inv (α := Value) hr
    cases h4
    have key : ∀ {a : Value} {l m : Option Value}, opdT G ts (xs.map (TL.val L)) x = some a → boundOf (opdT G ts (xs.map (TL.val L))) 0 lo = cutOf 0 l → (∀ n, boundOf (opdT G ts (xs.map (TL.val L))) n hi = cutOf n m) →
        vSub sz a l m = some v → (AOp.sliceS sz x lo hi).run P (opdT G ts (xs.map (TL.val L))) h' = some (v, h') := by
      intro a l m ha hl hm hv
      simp only [AOp.run, ha]
      unfold vSub at hv
      split at hv
      · rename_i a n z
        simp only
        rw [hl, hm n]
        split at hv
        · rename_i l' m' h1 h2
          simp only [h1, h2]
          obtain ⟨h3, h4⟩ := cond_some hv
          rw [h3]
          simp only [cond_true]
          split at h4
          · cases h4; rfl
          · rename_i b o
            obtain ⟨h5, h6⟩ := cond_some h4
            cases h6
            simp only [h5, cond_true]
          · cases h4
        · cases hv
      · cases hv
    cases lo with
    | none =>
      cases hi with
      | none =>
        obtain ⟨a, h5, h7⟩ := opds_one (show opds _ [x] = some (r.map (TL.val L)) from ho)
        rw [h7] at h3
        exact key (l := none) (m := none) h5 rfl (fun _ => rfl) h3
      | some b =>
        obtain ⟨a, u, h5, h6, h7⟩ := opds_two (show opds _ [x, b] = some (r.map (TL.val L)) from ho)
        rw [h7] at h3
        exact key (l := none) (m := some u) h5 rfl (fun _ => by simp only [boundOf, h6, cutOf]) h3
    | some c =>
      cases hi with
      | none =>
        obtain ⟨a, u, h5, h6, h7⟩ := opds_two (show opds _ [x, c] = some (r.map (TL.val L)) from ho)
        rw [h7] at h3
        exact key (l := some u) (m := none) h5 (by simp only [boundOf, h6, cutOf]) (fun _ => rfl) h3
      | some b =>
        have ho' : opds (opdT G ts (xs.map (TL.val L))) (x :: [c, b]) = some (r.map (TL.val L)) := ho
        rw [opds] at ho'
        split at ho'
        · rename_i a vs ha hvs
          obtain ⟨u, y, h5, h6, rfl⟩ := opds_two hvs
          have h7 := Option.some.inj ho'
          rw [← h7] at h3
          exact key (l := some u) (m := some y) ha (by simp only [boundOf, h5, cutOf]) (fun _ => by simp only [boundOf, h6, cutOf]) h3
        · cases ho'
  | makeIface t x =>
    obtain ⟨r, h2, rfl⟩ := Option.map_eq_some_iff.1 h
    intro L hp v h' hr
    obtain ⟨h3, h4⟩ := map_inv (α := Value) hr
    cases h4
    obtain ⟨a, h5, h7⟩ := opds_one (tOpds_ok (L := L) h2)
    rw [h7] at h3
    show ((opdT G ts (xs.map (TL.val L))) x).map _ = _
    rw [h5]
    have h8 : some (Value.iface t a) = some v := h3
    cases h8
    rfl
  | _ => cases h

theorem iop_eq {op : BinOp} {x y v : Value} (h : vIop op x y = some v) (hp : AH) : rIop op hp x y = some (v, hp) := by
  unfold vIop at h
  split at h
  · rename_i k a k' b
    obtain ⟨h1, h2⟩ := cond_some h
    obtain rfl := kn_inj h1
    simp only [rIop, keq_self, cond_true, h2, Option.map_some]
  · cases h

theorem toOf_ok {xs : List TL} (f : KF) : TOk P G (toOf P G xs f) f xs := by
  intro L hp v h' hr
  have P1 : ∀ {o : PO}, TO.run P G L hp (.p o xs) = some (v, h') → o.run P G (xs.map (TL.val L)) = some v ∧ h' = hp := fun hr => by
    obtain ⟨h3, h4⟩ := map_inv (α := Value) hr
    exact ⟨h3, h4⟩
  have M1 : ∀ {o : MO}, TO.run P G L hp (.m o xs) = some (v, h') → o.run P G hp (xs.map (TL.val L)) = some v ∧ h' = hp := fun hr => by
    obtain ⟨h3, h4⟩ := map_inv (α := Value) hr
    exact ⟨h3, h4⟩
  cases f with
  | mv =>
    obtain ⟨h1, rfl⟩ := P1 hr
    obtain ⟨x, h2, h3⟩ := e1_inv h1
    cases h3
    simp only [KF.run, h2, un1]
  | load agg =>
    cases agg with
    | none =>
      obtain ⟨h1, rfl⟩ := M1 hr
      obtain ⟨x, h2, h3⟩ := e1_inv h1
      simp only [KF.run, h2, un1, rLoad]
      unfold mLd at h3
      split at h3
      · rename_i b o ro c hc
        simp only [hc, h3, Option.map_some]
      · cases h3
    | some n =>
      obtain ⟨h1, rfl⟩ := M1 hr
      obtain ⟨x, h2, h3⟩ := e1_inv h1
      simp only [KF.run, h2, un1, rLoad]
      unfold mLdA at h3
      split at h3
      · rename_i b o ro c hc
        obtain ⟨h4, h5⟩ := cond_some h3
        cases h5
        simp only [hc, h4, cond_true]
      · cases h3
  | store n =>
    have h1 : (e2 (hSt n hp) (xs.map (TL.val L))).map (fun h => (undef, h)) = some (v, h') := hr
    obtain ⟨q, h2, h3⟩ := Option.map_eq_some_iff.1 h1
    cases h3
    obtain ⟨x, y, h4, h5⟩ := e2_inv h2
    simp only [KF.run, h4, un2, rStore]
    unfold hSt at h5
    split at h5
    · rename_i b o ro c hc
      obtain ⟨h6, h7⟩ := cond_some h5
      cases h7
      simp only [hc, h6, cond_true]
    · cases h5
  | nilCheck =>
    obtain ⟨h1, rfl⟩ := P1 hr
    obtain ⟨x, h2, h3⟩ := e1_inv h1
    simp only [KF.run, h2, un1]
    unfold vNil at h3
    split at h3
    · cases h3; rfl
    · cases h3
  | fieldAddr off =>
    obtain ⟨h1, rfl⟩ := P1 hr
    obtain ⟨x, h2, h3⟩ := e1_inv h1
    simp only [KF.run, h2, un1]
    unfold vFa at h3
    split at h3
    · cases h3; rfl
    · cases h3
  | indexArr n sz =>
    obtain ⟨h1, rfl⟩ := P1 hr
    obtain ⟨x, y, h2, h3⟩ := e2_inv h1
    simp only [KF.run, h2, un2]
    unfold vIxA at h3
    split at h3
    · rename_i b o k hk
      obtain ⟨h4, h5⟩ := cond_some h3
      cases h5
      simp only [rIndexArr, hk, h4, cond_true]
    · cases h3
  | indexSl sz =>
    obtain ⟨h1, rfl⟩ := P1 hr
    obtain ⟨x, y, h2, h3⟩ := e2_inv h1
    simp only [KF.run, h2, un2]
    unfold vIxS at h3
    split at h3
    · rename_i b o n z k hk
      obtain ⟨h4, h5⟩ := cond_some h3
      cases h5
      simp only [rIndexSl, hk, h4, cond_true]
    · cases h3
  | field agg off =>
    cases agg with
    | none =>
      obtain ⟨h1, rfl⟩ := P1 hr
      obtain ⟨x, h2, h3⟩ := e1_inv h1
      simp only [KF.run, h2, un1]
      unfold vFld at h3
      split at h3
      · rw [getD_arr] at h3
        simp only [rField, h3, Option.map_some]
      · cases h3
    | some n =>
      obtain ⟨h1, rfl⟩ := P1 hr
      obtain ⟨x, h2, h3⟩ := e1_inv h1
      simp only [KF.run, h2, un1]
      unfold vFldA at h3
      split at h3
      · cases h3; rfl
      · cases h3
  | extract i =>
    obtain ⟨h1, rfl⟩ := P1 hr
    obtain ⟨x, h2, h3⟩ := e1_inv h1
    simp only [KF.run, h2, un1]
    unfold vExt at h3
    split at h3
    · rw [getD_arr] at h3
      simp only [rExtract, h3, Option.map_some]
    · cases h3
  | lenS =>
    obtain ⟨h1, rfl⟩ := P1 hr
    obtain ⟨x, h2, h3⟩ := e1_inv h1
    simp only [KF.run, h2, un1]
    unfold vLenS at h3
    split at h3
    · cases h3; rfl
    · cases h3
  | pick =>
    obtain ⟨h1, rfl⟩ := P1 hr
    obtain ⟨x, y, z, h2, h3⟩ := e3_inv h1
    simp only [KF.run, h2, un3]
    unfold vPick at h3
    split at h3
    · cases h3; rfl
    · cases h3
  | iop op =>
    obtain ⟨h1, rfl⟩ := P1 hr
    obtain ⟨x, y, h2, h3⟩ := e2_inv h1
    simp only [KF.run, h2, un2]
    exact iop_eq h3 _
  | seq =>
    obtain ⟨h1, rfl⟩ := P1 hr
    obtain ⟨x, y, h2, h3⟩ := e2_inv h1
    simp only [KF.run, h2, un2]
    unfold vSeq at h3
    split at h3
    · cases h3; simp only [rSeq, Bool.false_xor]
    · cases h3
  | sne =>
    obtain ⟨h1, rfl⟩ := P1 hr
    obtain ⟨x, y, h2, h3⟩ := e2_inv h1
    simp only [KF.run, h2, un2]
    unfold vSne at h3
    split at h3
    · cases h3; simp only [rSeq, Bool.true_xor]
    · cases h3
  | slen =>
    obtain ⟨h1, rfl⟩ := P1 hr
    obtain ⟨x, h2, h3⟩ := e1_inv h1
    simp only [KF.run, h2, un1]
    unfold vSlen at h3
    split at h3
    · cases h3; rfl
    · cases h3
  | sidx =>
    obtain ⟨h1, rfl⟩ := P1 hr
    obtain ⟨x, y, h2, h3⟩ := e2_inv h1
    simp only [KF.run, h2, un2]
    unfold vSidx at h3
    split at h3
    · rename_i a k hk
      obtain ⟨b, h4, h5⟩ := Option.map_eq_some_iff.1 h3
      simp only [rSidx, hk, h4, ← h5, Option.map_some]
    · cases h3
  | scut lo hi =>
    obtain ⟨h1, rfl⟩ := P1 hr
    have key : ∀ {x : Value} {l m : Option Value}, vScut x l m = some v → rScut h' x l m = some (v, h') := by
      intro x l m h3
      unfold vScut at h3
      split at h3
      · split at h3
        · rename_i l' m' h4 h5
          obtain ⟨h6, h7⟩ := cond_some h3
          cases h7
          simp only [rScut, h4, h5, h6, cond_true]
        · cases h3
      · cases h3
    have h2 : eCut vScut lo hi (xs.map (TL.val L)) = some v := h1
    show rCut lo hi h' (xs.map (TL.val L)) = some (v, h')
    unfold eCut at h2
    unfold rCut
    split at h2 <;> first | (rename_i hq; rw [hq]; exact key h2) | (cases h2; done)
  | not =>
    obtain ⟨h1, rfl⟩ := P1 hr
    obtain ⟨x, h2, h3⟩ := e1_inv h1
    simp only [KF.run, h2, un1]
    unfold vNot at h3
    split at h3
    · cases h3; rfl
    · cases h3
  | slow op ts =>
    have hr' : (orAny op ts xs (slowT P G ts xs op)).run P G L hp = some (v, h') := hr
    cases hs : slowT P G ts xs op with
    | none => rw [hs] at hr'; exact anyOf_ok L hp v h' hr'
    | some t => rw [hs] at hr'; exact slowT_ok hs L hp v h' hr'
end Go.Am

/-
  A machine whose code names each value once, part 3: its code, and its run.
-/
namespace Go.Am
open Go
variable {P : Program} {G : Nat}

/-- A name (counted from the newest one on), or a constant. -/
inductive TA where
  | v (i : Nat)
  | c (x : Value)
inductive TG where
  | no
  | yes (a : TA) (w : Bool)
inductive SC where
  | p (o : PO) (xs : List TA) (g : TG) (k : SC)
  | m (o : MO) (xs : List TA) (g : TG) (k : SC)
  | h (o : HO) (xs : List TA) (g : TG) (k : SC)
  | w (o : WO) (xs : List TA) (g : TG) (k : SC)
  | al (i : Nat) (o : AOp) (ts : List Nat) (xs : List TA) (g : TG) (k : SC)
  | ab (i : Nat) (k : SC)
  | z (k : SC)
  | ca (f : FuncId) (xs : List TA) (g : TG) (k : SC)
  | nx (it : TA) (g : TG) (k : SC)
  | rp (o : PO) (xs : List TA) (g : TG) (u : TA) (k : SC)
  | rm (o : MO) (xs : List TA) (g : TG) (u : TA) (k : SC)
  | cd (c : TA) (a b : SC)
  | jn (n : Nat) (j k : SC)
  | jp (j : Nat) (xs : List TA)
  | lp (n : Nat) (xs : List TA) (b : SC)
  | rt (rs : List (TA × Option (Option Nat)))
  | rd (d : TA) (rs : List (TA × Option (Option Nat)))

noncomputable def TA.val (L : List Value) (a : TA) : Value := TA.rec (motive := fun _ => Value) (fun i => nthD L i) (fun x => x) a
noncomputable def tvals (L : List Value) (l : List TA) : List Value := List.rec (motive := fun _ => List Value) [] (fun a _ ih => a.val L :: ih) l

abbrev JT (R : Type) := List Value → AH → R
abbrev LS (R : Type) := (JT R → JT R) → JT R
abbrev Pd := List (Nat × Nat × AObj)

section
variable {R : Type} (A : Alg R)
noncomputable def pb (o : Option Value) (k : Value → R) : R := Option.rec (motive := fun _ => R) A.bot k o
noncomputable def hb (o : Option (Value × AH)) (k : Value → AH → R) : R := Option.rec (motive := fun _ => R) A.bot (fun r => Prod.rec (motive := fun _ => R) k r) o
noncomputable def wb (o : Option AH) (k : AH → R) : R := Option.rec (motive := fun _ => R) A.bot k o
noncomputable def gb (c : Value) (w : Bool) (x y : R) : R := Option.rec (motive := fun _ => R) A.bot (fun b => Bool.rec (motive := fun _ => R) x y b) (wantedV w (some c))
noncomputable def gp (c : Value) (w : Bool) (o : Option Value) (k : Value → R) : R := gb A c w (k undef) (pb A o k)
noncomputable def gh (c : Value) (w : Bool) (h : AH) (o : Option (Value × AH)) (k : Value → AH → R) : R := gb A c w (k undef h) (hb A o k)
noncomputable def gw (c : Value) (w : Bool) (h : AH) (o : Option AH) (k : AH → R) : R := gb A c w (k h) (wb A o k)
noncomputable def gc (c : Value) (w : Bool) (h : AH) (o : (Value → AH → R) → R) (k : Value → AH → R) : R := gb A c w (k undef h) (o k)
/-- An object that is laid into memory later. -/
noncomputable def alc (i : Nat) (o : Option (AObj × AKind)) (h : AH) (pd : Pd) (k : Value → AH → Pd → R) : R :=
  Option.rec (motive := fun _ => R) A.bot (fun r => Prod.rec (motive := fun _ => R) (fun obj kd => k (kd.val h.next) (h.push .dead) ((i, h.next, obj) :: pd)) r) o
noncomputable def galc (c : Value) (w : Bool) (i : Nat) (o : Option (AObj × AKind)) (h : AH) (pd : Pd) (k : Value → AH → Pd → R) : R := gb A c w (k undef h pd) (alc A i o h pd k)
def abl (i : Nat) (h : AH) (pd : Pd) (k : AH → Pd → R) : R := match takePd pd i with
  | some (id, obj) => k (h.set id obj) (dropPd pd i)
  | none => k h pd
noncomputable def rb (o : Option Value) (u : Value) (k : R) : R := Option.rec (motive := fun _ => R) A.bot (fun v => A.eq v u k) o
noncomputable def gr (c : Value) (w : Bool) (o : Option Value) (u : Value) (k : R) : R := gb A c w k (rb A o u k)
noncomputable def nb (h : AH) (it : Value) (k : Value → AH → R) : R := nextA A h k (some it)
noncomputable def gn (c : Value) (w : Bool) (h : AH) (it : Value) (k : Value → AH → R) : R := gb A c w (k undef h) (nb A h it k)
def ic (c : Value) (x y : R) : R := match c with
  | .bool t => (match t with
    | true => x
    | false => y)
  | _ => A.bot
def jn (j : JT R) (k : JT R → R) : R := k j
noncomputable def psN (n : Nat) : List Value → List Value → (List Value → R) → R :=
  Nat.rec (motive := fun _ => List Value → List Value → (List Value → R) → R) (fun _ L f => f L) (fun _ ih xs L f => List.rec (motive := fun _ => R) A.bot (fun x t _ => ih t (x :: L) f) xs) n
def loopSN : Nat → LS R
  | 0, _, _, _ => A.bot
  | n + 1, F, vs, h => F (loopSN n F) vs h
noncomputable def rsN (h : AH) (L : List Value) (rs : List (TA × Option (Option Nat))) : (List Value → R) → R :=
  List.rec (motive := fun _ => (List Value → R) → R) (fun k => k []) (fun r _ ih k => Option.rec (motive := fun _ => R) (ih fun vs => k (r.1.val L :: vs))
    (fun g => Option.rec (motive := fun _ => R) (pb A (mLd h (r.1.val L)) fun v => ih fun vs => k (v :: vs)) (fun n => pb A (mLdA n h (r.1.val L)) fun v => ih fun vs => k (v :: vs)) g) r.2) rs
noncomputable def df (csd : CS R) (d : Value) (h : AH) (k : AH → R) : R := Option.rec (motive := fun _ => R) A.bot (fun l => defersA A csd l h k) (decD 64 d)
noncomputable def nthJ (J : List (JT R)) (i : Nat) : JT R := List.rec (motive := fun _ => Nat → JT R) (fun _ _ _ => A.bot) (fun x _ ih i => Nat.rec (motive := fun _ => JT R) x (fun j _ => ih j) i) J i

variable (P : Program) (G : Nat) (cs csd : CS R) (lo : LS R) (K : Value → AH → R)
abbrev RS (R : Type) := List Value → List (JT R) → AH → Pd → R
noncomputable def rP (o : PO) (xs : List TA) (g : TG) (k : RS R) : RS R := fun L J h pd =>
  TG.rec (motive := fun _ => R) (pb A (o.run P G (tvals L xs)) fun v => k (v :: L) J h pd) (fun a w => gp A (a.val L) w (o.run P G (tvals L xs)) fun v => k (v :: L) J h pd) g
noncomputable def rM (o : MO) (xs : List TA) (g : TG) (k : RS R) : RS R := fun L J h pd =>
  TG.rec (motive := fun _ => R) (pb A (o.run P G h (tvals L xs)) fun v => k (v :: L) J h pd) (fun a w => gp A (a.val L) w (o.run P G h (tvals L xs)) fun v => k (v :: L) J h pd) g
noncomputable def rH (o : HO) (xs : List TA) (g : TG) (k : RS R) : RS R := fun L J h pd =>
  TG.rec (motive := fun _ => R) (hb A (o.run P G h (tvals L xs)) fun v h => k (v :: L) J h pd) (fun a w => gh A (a.val L) w h (o.run P G h (tvals L xs)) fun v h => k (v :: L) J h pd) g
noncomputable def rW (o : WO) (xs : List TA) (g : TG) (k : RS R) : RS R := fun L J h pd =>
  TG.rec (motive := fun _ => R) (wb A (o.run h (tvals L xs)) fun h => k L J h pd) (fun a w => gw A (a.val L) w h (o.run h (tvals L xs)) fun h => k L J h pd) g
noncomputable def rAl (i : Nat) (o : AOp) (ts : List Nat) (xs : List TA) (g : TG) (k : RS R) : RS R := fun L J h pd =>
  TG.rec (motive := fun _ => R) (alc A i (allocOf (opdT G ts (tvals L xs)) o) h pd fun v h pd => k (v :: L) J h pd) (fun a w => galc A (a.val L) w i (allocOf (opdT G ts (tvals L xs)) o) h pd fun v h pd => k (v :: L) J h pd) g
noncomputable def rCa (f : FuncId) (xs : List TA) (g : TG) (k : RS R) : RS R := fun L J h pd =>
  TG.rec (motive := fun _ => R) (cs f (tvals L xs) h fun v h => k (v :: L) J h pd) (fun a w => gc A (a.val L) w h (cs f (tvals L xs) h) fun v h => k (v :: L) J h pd) g
noncomputable def rNx (it : TA) (g : TG) (k : RS R) : RS R := fun L J h pd =>
  TG.rec (motive := fun _ => R) (nb A h (it.val L) fun v h => k (v :: L) J h pd) (fun a w => gn A (a.val L) w h (it.val L) fun v h => k (v :: L) J h pd) g
noncomputable def rRp (o : PO) (xs : List TA) (g : TG) (u : TA) (k : RS R) : RS R := fun L J h pd =>
  TG.rec (motive := fun _ => R) (rb A (o.run P G (tvals L xs)) (u.val L) (k L J h pd)) (fun a w => gr A (a.val L) w (o.run P G (tvals L xs)) (u.val L) (k L J h pd)) g
noncomputable def rRm (o : MO) (xs : List TA) (g : TG) (u : TA) (k : RS R) : RS R := fun L J h pd =>
  TG.rec (motive := fun _ => R) (rb A (o.run P G h (tvals L xs)) (u.val L) (k L J h pd)) (fun a w => gr A (a.val L) w (o.run P G h (tvals L xs)) (u.val L) (k L J h pd)) g
noncomputable def runS (s : SC) : RS R :=
  SC.rec (motive := fun _ => RS R) (fun o xs g _ k => rP A P G o xs g k) (fun o xs g _ k => rM A P G o xs g k) (fun o xs g _ k => rH A P G o xs g k) (fun o xs g _ k => rW A o xs g k)
    (fun i o ts xs g _ k => rAl A G i o ts xs g k) (fun i _ k L J h pd => abl i h pd fun h pd => k L J h pd) (fun _ k L J h _ => k L J h []) (fun f xs g _ k => rCa A cs f xs g k) (fun it g _ k => rNx A it g k)
    (fun o xs g u _ k => rRp A P G o xs g u k) (fun o xs g u _ k => rRm A P G o xs g u k)
    (fun c _ _ ka kb L J h pd => ic A (c.val L) (ka L J h pd) (kb L J h pd))
    (fun n _ _ kj kk L J h pd => jn (fun vs h => psN A n vs L fun L => kj L J h []) fun j => kk L (j :: J) h pd)
    (fun j xs L J h _ => nthJ A J j (tvals L xs) h)
    (fun n xs _ kb L J h _ => lo (fun r vs h => psN A n vs L fun L => kb L (r :: J) h []) (tvals L xs) h)
    (fun rs L _ h _ => rsN A h L rs fun vs => K (oneOf vs) h)
    (fun d rs L _ h _ => df A csd (d.val L) h fun h => rsN A h L rs fun vs => K (oneOf vs) h) s
end
noncomputable def runF {R : Type} (A : Alg R) (P : Program) (G : Nat) (cs csd : CS R) (lo : LS R) (np : Nat) (s : SC) (xs : List Value) (h : AH) (K : Value → AH → R) : R :=
  psN A np xs [] fun L => runS A P G cs csd lo K s L [] h []

/-! ### By a Bool, and weaker ends -/
section
variable {R : Type} {A : Alg R} {T : R → Prop} (g : Good A T)
def JtR (T : R → Prop) (j : JT R) (j' : JT Prop) : Prop := ∀ vs h, T (j vs h) → j' vs h
def LsR (T : R → Prop) (lo : LS R) (loP : LS Prop) : Prop := ∀ F F', (∀ r r', JtR T r r' → JtR T (F r) (F' r')) → JtR T (lo F) (loP F')
inductive JsR (T : R → Prop) : List (JT R) → List (JT Prop) → Prop
  | nil : JsR T [] []
  | cons {j : JT R} {j' : JT Prop} {l : List (JT R)} {l' : List (JT Prop)} (h : JtR T j j') (t : JsR T l l') : JsR T (j :: l) (j' :: l')
include g
theorem gb_rel {c : Value} {w : Bool} {x y : R} {x' y' : Prop} (hx : T x → x') (hy : T y → y') (ht : T (gb A c w x y)) : gb AProp c w x' y' := want_rel g hx hy ht
theorem pb_rel {o : Option Value} {k : Value → R} {k' : Value → Prop} (hk : ∀ v, T (k v) → k' v) (ht : T (pb A o k)) : pb AProp o k' := opt_rel g hk ht
theorem hb_rel {o : Option (Value × AH)} {k : Value → AH → R} {k' : Value → AH → Prop} (hk : ∀ v h, T (k v h) → k' v h) (ht : T (hb A o k)) : hb AProp o k' := opt_rel g (fun r h1 => by obtain ⟨v, h⟩ := r; exact hk _ _ h1) ht
theorem wb_rel {o : Option AH} {k : AH → R} {k' : AH → Prop} (hk : ∀ h, T (k h) → k' h) (ht : T (wb A o k)) : wb AProp o k' := by
  cases o with
  | none => exact (g.bot ht).elim
  | some a => exact hk a ht
theorem rb_rel {o : Option Value} {u : Value} {k : R} {k' : Prop} (hk : T k → k') (ht : T (rb A o u k)) : rb AProp o u k' := opt_rel g (f' := fun v => v = u ∧ k') (fun v h1 => by obtain ⟨e, h5⟩ := g.eq _ _ _ h1; exact ⟨e, hk h5⟩) ht
theorem alc_rel {i : Nat} {o : Option (AObj × AKind)} {h : AH} {pd : Pd} {k : Value → AH → Pd → R} {k' : Value → AH → Pd → Prop} (hk : ∀ v h pd, T (k v h pd) → k' v h pd) (ht : T (alc A i o h pd k)) : alc AProp i o h pd k' := by
  cases o with
  | none => exact (g.bot ht).elim
  | some r => obtain ⟨obj, kd⟩ := r; exact hk _ _ _ ht
theorem psN_rel : ∀ {n : Nat} {xs L : List Value} {f : List Value → R} {f' : List Value → Prop}, (∀ L, T (f L) → f' L) → T (psN A n xs L f) → psN AProp n xs L f'
  | 0, xs, L, f, f', hf, ht => hf _ ht
  | n + 1, [], L, f, f', hf, ht => (g.bot ht).elim
  | n + 1, x :: t, L, f, f', hf, ht => psN_rel (n := n) (xs := t) (L := x :: L) hf ht
theorem rsN_rel {h : AH} {L : List Value} : ∀ {rs : List (TA × Option (Option Nat))} {k : List Value → R} {k' : List Value → Prop}, (∀ vs, T (k vs) → k' vs) → T (rsN A h L rs k) → rsN AProp h L rs k'
  | [], k, k', hk, ht => hk _ ht
  | (a, none) :: rs, k, k', hk, ht => rsN_rel (rs := rs) (k := fun vs => k (a.val L :: vs)) (k' := fun vs => k' (a.val L :: vs)) (fun vs h1 => hk _ h1) ht
  | (a, some none) :: rs, k, k', hk, ht => pb_rel g (fun v h1 => rsN_rel (rs := rs) (k := fun vs => k (v :: vs)) (k' := fun vs => k' (v :: vs)) (fun vs h2 => hk _ h2) h1) ht
  | (a, some (some n)) :: rs, k, k', hk, ht => pb_rel g (fun v h1 => rsN_rel (rs := rs) (k := fun vs => k (v :: vs)) (k' := fun vs => k' (v :: vs)) (fun vs h2 => hk _ h2) h1) ht
theorem nthJ_rel : ∀ {J : List (JT R)} {J' : List (JT Prop)} {i : Nat}, JsR T J J' → JtR T (nthJ A J i) (nthJ AProp J' i)
  | _, _, i, .nil => fun vs h ht => (g.bot ht).elim
  | _, _, 0, .cons h t => h
  | _, _, i + 1, .cons h t => nthJ_rel (i := i) t
theorem loopSN_rel : ∀ n, LsR T (loopSN A n) (loopSN AProp n)
  | 0 => fun F F' hF vs h ht => (g.bot ht).elim
  | n + 1 => fun F F' hF vs h ht => hF _ _ (loopSN_rel n F F' hF) _ _ ht
variable {cs csd : CS R} {csP csdP : CS Prop} (hc : CsR T cs csP) (hd : CsR T csd csdP)
include hd
theorem df_rel {d : Value} {h : AH} {k : AH → R} {k' : AH → Prop} (hk : ∀ h, T (k h) → k' h) (ht : T (df A csd d h k)) : df AProp csdP d h k' := by
  have ht' : T (Option.rec (motive := fun _ => R) A.bot (fun l => defersA A csd l h k) (decD 64 d)) := ht
  show Option.rec (motive := fun _ => Prop) False (fun l => defersA AProp csdP l h k') (decD 64 d)
  cases hq : decD 64 d with
  | none => rw [hq] at ht'; exact (g.bot ht').elim
  | some l => rw [hq] at ht'; exact defers_rel g hd hk ht'
include hc
theorem runS_rel {lo : LS R} {loP : LS Prop} (hl : LsR T lo loP) {K : Value → AH → R} {K' : Value → AH → Prop} (hK : ∀ v h, T (K v h) → K' v h) : ∀ {s : SC} {L : List Value} {J : List (JT R)} {J' : List (JT Prop)} {h : AH} {pd : Pd},
    JsR T J J' → T (runS A P G cs csd lo K s L J h pd) → runS AProp P G csP csdP loP K' s L J' h pd := by
  intro s
  induction s with
  | p o xs gd k ih =>
    intro L J J' h pd hJ ht
    cases gd with
    | no => exact pb_rel g (fun v h1 => ih hJ h1) ht
    | yes a w => exact gb_rel g (fun h1 => ih hJ h1) (fun h1 => pb_rel g (fun v h2 => ih hJ h2) h1) ht
  | m o xs gd k ih =>
    intro L J J' h pd hJ ht
    cases gd with
    | no => exact pb_rel g (fun v h1 => ih hJ h1) ht
    | yes a w => exact gb_rel g (fun h1 => ih hJ h1) (fun h1 => pb_rel g (fun v h2 => ih hJ h2) h1) ht
  | h o xs gd k ih =>
    intro L J J' h pd hJ ht
    cases gd with
    | no => exact hb_rel g (k := fun v h => runS A P G cs csd lo K k (v :: L) J h pd) (fun v h h1 => ih hJ h1) ht
    | yes a w => exact gb_rel g (fun h1 => ih hJ h1) (fun h1 => hb_rel g (fun v h h2 => ih hJ h2) h1) ht
  | w o xs gd k ih =>
    intro L J J' h pd hJ ht
    cases gd with
    | no => exact wb_rel g (fun h h1 => ih hJ h1) ht
    | yes a w => exact gb_rel g (fun h1 => ih hJ h1) (fun h1 => wb_rel g (fun h h2 => ih hJ h2) h1) ht
  | al i o ts xs gd k ih =>
    intro L J J' h pd hJ ht
    cases gd with
    | no => exact alc_rel g (k := fun v h pd => runS A P G cs csd lo K k (v :: L) J h pd) (fun v h pd h1 => ih hJ h1) ht
    | yes a w => exact gb_rel g (fun h1 => ih hJ h1) (fun h1 => alc_rel g (fun v h pd h2 => ih hJ h2) h1) ht
  | ab i k ih =>
    intro L J J' h pd hJ ht
    have ht' : T (abl i h pd fun h pd => runS A P G cs csd lo K k L J h pd) := ht
    show abl i h pd fun h pd => runS AProp P G csP csdP loP K' k L J' h pd
    unfold abl at ht' ⊢
    split at ht'
    · exact ih hJ ht'
    · exact ih hJ ht'
  | z k ih => intro L J J' h pd hJ ht; exact ih hJ ht
  | ca f xs gd k ih =>
    intro L J J' h pd hJ ht
    cases gd with
    | no => exact hc _ _ _ _ _ (fun v h h1 => ih hJ h1) ht
    | yes a w => exact gb_rel g (fun h1 => ih hJ h1) (fun h1 => hc _ _ _ _ _ (fun v h h2 => ih hJ h2) h1) ht
  | nx it gd k ih =>
    intro L J J' h pd hJ ht
    cases gd with
    | no => exact next_rel g (K := fun v h => runS A P G cs csd lo K k (v :: L) J h pd) (fun v h h1 => ih hJ h1) ht
    | yes a w => exact gb_rel g (fun h1 => ih hJ h1) (fun h1 => next_rel g (fun v h h2 => ih hJ h2) h1) ht
  | rp o xs gd u k ih =>
    intro L J J' h pd hJ ht
    cases gd with
    | no => exact rb_rel g (fun h1 => ih hJ h1) ht
    | yes a w => exact gb_rel g (fun h1 => ih hJ h1) (fun h1 => rb_rel g (fun h2 => ih hJ h2) h1) ht
  | rm o xs gd u k ih =>
    intro L J J' h pd hJ ht
    cases gd with
    | no => exact rb_rel g (fun h1 => ih hJ h1) ht
    | yes a w => exact gb_rel g (fun h1 => ih hJ h1) (fun h1 => rb_rel g (fun h2 => ih hJ h2) h1) ht
  | cd c a b iha ihb =>
    intro L J J' h pd hJ ht
    have ht' : T (ic A (c.val L) (runS A P G cs csd lo K a L J h pd) (runS A P G cs csd lo K b L J h pd)) := ht
    show ic AProp (c.val L) (runS AProp P G csP csdP loP K' a L J' h pd) (runS AProp P G csP csdP loP K' b L J' h pd)
    unfold ic at ht' ⊢
    split at ht'
    · rename_i t _
      cases t with
      | true => exact iha hJ ht'
      | false => exact ihb hJ ht'
    · exact (g.bot ht').elim
  | jn n j k ihj ihk =>
    intro L J J' h pd hJ ht
    exact ihk (.cons (fun vs h h1 => psN_rel g (fun L h2 => ihj hJ h2) h1) hJ) ht
  | jp j xs =>
    intro L J J' h pd hJ ht
    exact nthJ_rel g hJ _ _ ht
  | lp n xs b ih =>
    intro L J J' h pd hJ ht
    exact hl _ _ (fun r r' hr vs h h1 => psN_rel g (fun L h2 => ih (.cons hr hJ) h2) h1) _ _ ht
  | rt rs =>
    intro L J J' h pd hJ ht
    exact rsN_rel g (fun vs h1 => hK _ _ h1) ht
  | rd d rs =>
    intro L J J' h pd hJ ht
    exact df_rel g hd (fun h h1 => rsN_rel g (fun vs h2 => hK _ _ h2) h1) ht
theorem runF_rel {lo : LS R} {loP : LS Prop} (hl : LsR T lo loP) {np : Nat} {s : SC} {xs : List Value} {h : AH} {K : Value → AH → R} {K' : Value → AH → Prop} (hK : ∀ v h, T (K v h) → K' v h)
    (ht : T (runF A P G cs csd lo np s xs h K)) : runF AProp P G csP csdP loP np s xs h K' := psN_rel g (fun L h1 => runS_rel g hc hd hl hK .nil h1) ht
end
end Go.Am

/-
  A machine whose code names each value once, part 4: the quick machine's code made into its own: regions.
-/
namespace Go.Am
open Go
variable {P : Program} {G : Nat}

/-! ### Tries by paths, to be compiled -/
def getQ {α : Type} : Pa → Tr α → Option α
  | .z, t => t.val
  | .l p, t => getQ p t.left
  | .r p, t => getQ p t.right
def setQ {α : Type} (a : Option α) : Pa → Tr α → Tr α
  | .z, t => .node a t.left t.right
  | .l p, t => .node t.val (setQ a p t.left) t.right
  | .r p, t => .node t.val t.left (setQ a p t.right)
theorem getQ_eq {α : Type} : ∀ (p : Pa) (t : Tr α), getQ p t = getP p t
  | .z, t => by cases t <;> rfl
  | .l p, t => by
    cases t with
    | leaf => 
      show getQ p .leaf = none
      rw [getQ_eq p .leaf]
      cases p <;> rfl
    | node v l r => exact getQ_eq p l
  | .r p, t => by
    cases t with
    | leaf => 
      show getQ p .leaf = none
      rw [getQ_eq p .leaf]
      cases p <;> rfl
    | node v l r => exact getQ_eq p r
theorem setQ_eq {α : Type} (a : Option α) : ∀ (p : Pa) (t : Tr α), setQ a p t = setP a p t
  | .z, t => by cases t <;> rfl
  | .l p, t => by
    cases t with
    | leaf => show Tr.node none (setQ a p .leaf) .leaf = _; rw [setQ_eq a p .leaf]; rfl
    | node v l r => show Tr.node v (setQ a p l) r = _; rw [setQ_eq a p l]; rfl
  | .r p, t => by
    cases t with
    | leaf => show Tr.node none .leaf (setQ a p .leaf) = _; rw [setQ_eq a p .leaf]; rfl
    | node v l r => show Tr.node v l (setQ a p r) = _; rw [setQ_eq a p r]; rfl
theorem getQ_leaf {α : Type} : ∀ (p : Pa), getQ p (.leaf : Tr α) = none
  | .z => rfl
  | .l p => getQ_leaf p
  | .r p => getQ_leaf p
theorem getQ_same {α : Type} (a : Option α) : ∀ (p : Pa) (t : Tr α), getQ p (setQ a p t) = a
  | .z, t => rfl
  | .l p, t => getQ_same a p t.left
  | .r p, t => getQ_same a p t.right
theorem getQ_ne {α : Type} (a : Option α) : ∀ (p q : Pa) (t : Tr α), q ≠ p → getQ q (setQ a p t) = getQ q t
  | .z, .z, t, h => absurd rfl h
  | .z, .l q, t, h => rfl
  | .z, .r q, t, h => rfl
  | .l p, .z, t, h => rfl
  | .l p, .l q, t, h => getQ_ne a p q t.left (fun e => h (by rw [e]))
  | .l p, .r q, t, h => rfl
  | .r p, .z, t, h => rfl
  | .r p, .l q, t, h => rfl
  | .r p, .r q, t, h => getQ_ne a p q t.right (fun e => h (by rw [e]))

/-! ### Names -/
def TL.ta (n : Nat) : TL → TA
  | .l i => .v (n - 1 - i)
  | .c x => .c x
def TL.ok (n : Nat) : TL → Bool
  | .l i => Nat.blt i n
  | .c _ => true
theorem TL.ta_val {L : List Value} {n : Nat} (hn : L.length = n) (a : TL) : (a.ta n).val L = a.val L := by
  subst hn; cases a <;> rfl
theorem tvals_ta {L : List Value} {n : Nat} (hn : L.length = n) : ∀ (xs : List TL), tvals L (xs.map (TL.ta n)) = xs.map (TL.val L)
  | [] => rfl
  | a :: xs => by
    show (a.ta n).val L :: tvals L (xs.map (TL.ta n)) = _
    rw [TL.ta_val hn, tvals_ta hn xs]; rfl
def ExL {α : Type} (L L' : List α) : Prop := ∃ p, L' = p ++ L
theorem ExL.refl {α : Type} (L : List α) : ExL L L := ⟨[], rfl⟩
theorem ExL.cons {α : Type} (x : α) (L : List α) : ExL L (x :: L) := ⟨[x], rfl⟩
theorem ExL.trans {α : Type} {L L' L'' : List α} : ExL L L' → ExL L' L'' → ExL L L''
  | ⟨p, hp⟩, ⟨q, hq⟩ => ⟨q ++ p, by rw [hq, hp]; simp⟩
theorem nthD_app : ∀ (p L : List Value) (i : Nat), nthD (p ++ L) (p.length + i) = nthD L i
  | [], L, i => by simp
  | x :: p, L, i => by
    have : (x :: p).length + i = (p.length + i) + 1 := by simp; omega
    rw [this]
    exact nthD_app p L i
theorem TL.val_ext {L L' : List Value} {a : TL} (h : a.ok L.length = true) (e : ExL L L') : a.val L' = a.val L := by
  obtain ⟨p, rfl⟩ := e
  cases a with
  | c x => rfl
  | l i =>
    simp only [TL.ok, Nat.blt_eq] at h
    show nthD (p ++ L) ((p ++ L).length - 1 - i) = nthD L (L.length - 1 - i)
    have : (p ++ L).length - 1 - i = p.length + (L.length - 1 - i) := by simp; omega
    rw [this, nthD_app]
theorem TL.ok_ext {L L' : List Value} {a : TL} (h : a.ok L.length = true) (e : ExL L L') : a.ok L'.length = true := by
  obtain ⟨p, rfl⟩ := e
  cases a with
  | c x => rfl
  | l i => simp only [TL.ok, Nat.blt_eq] at h ⊢; simp; omega
theorem TL.val_new (v : Value) (L : List Value) : (TL.l L.length).val (v :: L) = v := by
  show nthD (v :: L) ((v :: L).length - 1 - L.length) = v
  have : (v :: L).length - 1 - L.length = 0 := by simp
  rw [this]; rfl
theorem TL.ok_new (v : Value) (L : List Value) : (TL.l L.length).ok (v :: L).length = true := by simp [TL.ok]

/-! ### What a list of results, and a frame, stand for -/
def lmGet : List (Option TL) → Nat → Option TL
  | [], _ => none
  | a :: _, 0 => a
  | _ :: l, i + 1 => lmGet l i
def rka (σ : Tr TL) (lm : List (Option TL)) : KA → Option TL
  | .loc i => lmGet lm i
  | .slot p => getQ p σ
  | .val v => some (.c v)
def rkas (σ : Tr TL) (lm : List (Option TL)) : List KA → Option (List TL)
  | [] => some []
  | a :: l => match rka σ lm a, rkas σ lm l with
    | some x, some r => some (x :: r)
    | _, _ => none
abbrev RG := Option (TL × Bool)
def rkg (σ : Tr TL) (lm : List (Option TL)) : KG → Option RG
  | .no => some none
  | .yes a w => (rka σ lm a).map fun t => some (t, w)
def RG.ta (n : Nat) : RG → TG
  | none => .no
  | some (t, w) => .yes (t.ta n) w
def RG.same : RG → RG → Bool
  | none, none => true
  | some (.l i, w), some (.l j, w') => Nat.beq i j && (w == w')
  | _, _ => false

def LmR (env : List Value) (lm : List (Option TL)) (L : List Value) : Prop := ∀ i a, lmGet lm i = some a → a.ok env.length = true ∧ nthK L i = some (a.val env)
inductive DecR : Value → List (FuncId × List Value) → Prop
  | nil : DecR .nilFunc []
  | cons {f : FuncId} {as : List Value} {p : Value} {l : List (FuncId × List Value)} (h : DecR p l) : DecR (.tuple #[.func (.func f) #[] #[], .tuple as.toArray, p]) ((f, as) :: l)
theorem DecR.dec {v : Value} {l : List (FuncId × List Value)} (h : DecR v l) : ∀ {n : Nat} {l' : List (FuncId × List Value)}, decD n v = some l' → l' = l := by
  induction h with
  | nil => intro n l' h; cases n <;> (cases h; rfl)
  | cons hp ih =>
    intro n l' h
    cases n with
    | zero => cases h
    | succ n =>
      obtain ⟨r, h1, h2⟩ := Option.map_eq_some_iff.1 h
      rw [← h2, ih h1]
/-- What is known of a frame: its slots' names, and the name of what is deferred. -/
structure SG where
  t : Tr TL
  d : TL
structure FrS (σ : SG) (env : List Value) (fr : Fr) : Prop where
  slots : ∀ p a, getQ p σ.t = some a → a.ok env.length = true ∧ getP p fr.t = some (a.val env)
  ok : σ.d.ok env.length = true
  dfr : DecR (σ.d.val env) fr.d
theorem FrS.ext {σ : SG} {env env' : List Value} {fr : Fr} (h : FrS σ env fr) (e : ExL env env') : FrS σ env' fr where
  slots := fun p a hg => by
    obtain ⟨h1, h2⟩ := h.slots p a hg
    exact ⟨TL.ok_ext h1 e, by rw [TL.val_ext h1 e]; exact h2⟩
  ok := TL.ok_ext h.ok e
  dfr := by rw [TL.val_ext h.ok e]; exact h.dfr
theorem LmR.ext {env env' : List Value} {lm : List (Option TL)} {L : List Value} (h : LmR env lm L) (e : ExL env env') : LmR env' lm L := fun i a hg => by
  obtain ⟨h1, h2⟩ := h i a hg
  exact ⟨TL.ok_ext h1 e, by rw [TL.val_ext h1 e]; exact h2⟩
theorem LmR.none {env : List Value} {lm : List (Option TL)} {L : List Value} (h : LmR env lm L) (v : Value) : LmR env (none :: lm) (v :: L) := fun i a hg => by
  cases i with
  | zero => cases hg
  | succ i => exact h i a hg
theorem LmR.some {env : List Value} {lm : List (Option TL)} {L : List Value} (h : LmR env lm L) {a : TL} (ha : a.ok env.length = true) {v : Value} (hv : a.val env = v) : LmR env (some a :: lm) (v :: L) := fun i b hg => by
  cases i with
  | zero => cases hg; exact ⟨ha, by rw [hv]; rfl⟩
  | succ i => exact h i b hg
end Go.Am

/-
  A machine whose code names each value once, part 5: several of the quick machine's operations as one.
-/
namespace Go.Am
open Go
variable {P : Program} {G : Nat}

inductive FZ where
  | m (o : MO) (xs : List TL)
  | w (o : WO) (xs : List TL)
  | h (o : HO) (xs : List TL)
def asNil : KS → Option (KA × KG)
  | .op .nilCheck [a] g => some (a, g)
  | _ => none
def asFa : KS → Option (Nat × KA × KG)
  | .op (.fieldAddr o) [a] g => some (o, a, g)
  | _ => none
def asLd : KS → Option (Option Nat × KG)
  | .op (.load agg) [.loc 0] g => some (agg, g)
  | _ => none
def asSt : KS → Option (KA × KG)
  | .op (.store 1) [.loc 0, x] g => some (x, g)
  | _ => none
def asIx : KS → Option (Nat × KA × KA × KG)
  | .op (.indexSl sz) [a, b] g => some (sz, a, b, g)
  | _ => none
def asNew : KS → Option (Nat × KG)
  | .op (.slow (.new zs) _) [] g => some (zs.length, g)
  | _ => none
def asSto : KS → Option (Nat × KA × KG)
  | .op (.store n) [.loc 0, x] g => some (n, x, g)
  | _ => none
def asAl : KS → Option (Nat × AOp × List Nat × List KA)
  | .alloc i f ts xs .no => some (i, f, ts, xs)
  | _ => none
def asAb : KS → Option Nat
  | .abs i => some i
  | _ => none
def isL0 : KA → Bool
  | .loc 0 => true
  | _ => false
def fOf (off : Nat) : Option Nat → MO
  | none => .f off
  | some n => .fA n off
def iOf (sz off : Nat) : Option Nat → MO
  | none => .i sz off
  | some n => .iA n sz off
def ldOf : Option Nat → MO
  | none => .ld
  | some n => .ldA n
def sameG (σ : Tr TL) (lm : List (Option TL)) (g : RG) (k : KG) : Bool := match rkg σ lm k with
  | some g' => g.same g'
  | none => false
abbrev FzR := FZ × RG × Nat × List KS
def fuseEnd (σ : Tr TL) (lm : List (Option TL)) (g : RG) (j : Nat) (ld : Option Nat → FZ) (st : Option (TL → FZ)) : List KS → Option FzR
  | [] => none
  | s :: l => match asLd s with
    | some (agg, k) => cond (sameG σ lm g k) (some (ld agg, g, j, l)) none
    | none => match st, asSt s with
      | some st, some (y, k) => match rka σ lm y with
        | some y => cond (sameG σ lm g k) (some (st y, g, j, l)) none
        | none => none
      | _, _ => none
def fuseFa (σ : Tr TL) (lm : List (Option TL)) (g : RG) (j : Nat) (ld : Nat → Option Nat → FZ) (st : Option (Nat → TL → FZ)) (ld0 : Option Nat → FZ) : List KS → Option FzR
  | [] => none
  | s :: l => match asFa s with
    | some (off, b, k) => cond (isL0 b && sameG σ lm g k) (fuseEnd σ (none :: lm) g (j + 1) (ld off) (st.map fun f => f off) l) none
    | none => fuseEnd σ lm g j ld0 none (s :: l)
def fuse (P : Program) (G : Nat) (σ : Tr TL) (lm : List (Option TL)) (d : Bool) (s : KS) (l : List KS) : Option FzR :=
  match asNil s with
  | some (a, k) => match rka σ lm a, rkg σ lm k with
    | some x, some g => fuseFa σ (none :: lm) g 1 (fun off agg => .m (fOf off agg) [x]) (some fun off y => .w (.f off) [x, y]) (fun agg => .m (ldOf agg) [x]) l
    | _, _ => none
  | none => match asFa s with
    | some (off, a, k) => match rka σ lm a, rkg σ lm k with
      | some x, some g => fuseEnd σ (none :: lm) g 1 (fun agg => .m (fOf off agg) [x]) (some fun y => .w (.f off) [x, y]) l
      | _, _ => none
    | none => match asIx s with
      | some (sz, a, b, k) => match rka σ lm a, rka σ lm b, rkg σ lm k with
        | some x, some y, some g => fuseFa σ (none :: lm) g 1 (fun off agg => .m (iOf sz off agg) [x, y]) none (fun agg => .m (iOf sz 0 agg) [x, y]) l
        | _, _, _ => none
      | none => match asNew s with
        | some (n, k) => match rkg σ lm k, l with
          | some g, s2 :: l2 => match asSto s2 with
            | some (m, y, k2) => match rka σ (none :: lm) y with
              | some y => cond (Nat.beq n m && sameG σ (none :: lm) g k2) (some (.h (.ini n) [y], g, 1, l2)) none
              | none => none
            | none => none
          | _, _ => none
        | none => match asAl s, l with
          | some (i, f, ts, xs), s2 :: l2 => match asAb s2, rkas σ lm xs with
            | some i', some xs => cond (Nat.beq i i' && f.isA && !d) (match toOf P G xs (.slow f ts) with
              | .h o xs => some (.h o xs, none, 0, l2)
              | _ => none) none
            | _, _ => none
          | _, _ => none

theorem asNil_inv {s : KS} {a : KA} {g : KG} (h : asNil s = some (a, g)) : s = .op .nilCheck [a] g := by
  unfold asNil at h; split at h
  · cases h; rfl
  · cases h
theorem asFa_inv {s : KS} {o : Nat} {a : KA} {g : KG} (h : asFa s = some (o, a, g)) : s = .op (.fieldAddr o) [a] g := by
  unfold asFa at h; split at h
  · cases h; rfl
  · cases h
theorem asLd_inv {s : KS} {agg : Option Nat} {g : KG} (h : asLd s = some (agg, g)) : s = .op (.load agg) [.loc 0] g := by
  unfold asLd at h; split at h
  · cases h; rfl
  · cases h
theorem asSt_inv {s : KS} {x : KA} {g : KG} (h : asSt s = some (x, g)) : s = .op (.store 1) [.loc 0, x] g := by
  unfold asSt at h; split at h
  · cases h; rfl
  · cases h
theorem asIx_inv {s : KS} {sz : Nat} {a b : KA} {g : KG} (h : asIx s = some (sz, a, b, g)) : s = .op (.indexSl sz) [a, b] g := by
  unfold asIx at h; split at h
  · cases h; rfl
  · cases h
theorem asNew_inv {s : KS} {n : Nat} {g : KG} (h : asNew s = some (n, g)) : ∃ zs ts, s = .op (.slow (.new zs) ts) [] g ∧ zs.length = n := by
  unfold asNew at h; split at h
  · cases h; exact ⟨_, _, rfl, rfl⟩
  · cases h
theorem asSto_inv {s : KS} {n : Nat} {x : KA} {g : KG} (h : asSto s = some (n, x, g)) : s = .op (.store n) [.loc 0, x] g := by
  unfold asSto at h; split at h
  · cases h; rfl
  · cases h
theorem asAl_inv {s : KS} {i : Nat} {f : AOp} {ts : List Nat} {xs : List KA} (h : asAl s = some (i, f, ts, xs)) : s = .alloc i f ts xs .no := by
  unfold asAl at h; split at h
  · cases h; rfl
  · cases h
theorem asAb_inv {s : KS} {i : Nat} (h : asAb s = some i) : s = .abs i := by
  unfold asAb at h; split at h
  · cases h; rfl
  · cases h
theorem isL0_inv {a : KA} (h : isL0 a = true) : a = .loc 0 := by
  unfold isL0 at h; split at h
  · rfl
  · cases h

/-! ### What names stand for -/
def FrV (σ : Tr TL) (env : List Value) (t : Tr Value) : Prop := ∀ p a, getQ p σ = some a → a.ok env.length = true ∧ getP p t = some (a.val env)
section
variable {σ : Tr TL} {env : List Value} {t : Tr Value} {lm : List (Option TL)} {L : List Value} (hσ : FrV σ env t) (hl : LmR env lm L)
include hσ hl
theorem rka_ok {a : KA} {x : TL} (h : rka σ lm a = some x) : x.ok env.length = true ∧ kval t L a = some (x.val env) := by
  cases a with
  | loc i => exact hl i x h
  | slot p => exact hσ p x h
  | val v => cases h; exact ⟨rfl, rfl⟩
theorem rkas_ok : ∀ {l : List KA} {xs : List TL}, rkas σ lm l = some xs → kvals t L l = some (xs.map (TL.val env))
  | [], xs, h => by cases h; rfl
  | a :: l, xs, h => by
    simp only [rkas] at h
    split at h
    · rename_i x r hx hr
      cases h
      show Option.rec (motive := fun _ => Option (List Value)) none (fun v => Option.rec (motive := fun _ => Option (List Value)) none (fun vs => some (v :: vs)) (kvals t L l)) (kval t L a) = _
      rw [(rka_ok hσ hl hx).2, rkas_ok hr]; rfl
    · cases h
end
noncomputable def RG.sem (env : List Value) : RG → Option Bool
  | none => some true
  | some (x, w) => wantedV w (some (x.val env))
section
variable {σ : Tr TL} {env : List Value} {t : Tr Value} {lm : List (Option TL)} {L : List Value} (hσ : FrV σ env t) (hl : LmR env lm L)
include hσ hl
theorem rkg_ok {k : KG} {g : RG} (h : rkg σ lm k = some g) : kwant t L k = g.sem env := by
  cases k with
  | no => cases h; rfl
  | yes a w =>
    obtain ⟨x, hx, rfl⟩ := Option.map_eq_some_iff.1 h
    show wantedV w (kval t L a) = wantedV w (some (x.val env))
    rw [(rka_ok hσ hl hx).2]
theorem sameG_ok {g : RG} {k : KG} (h : sameG σ lm g k = true) : kwant t L k = g.sem env := by
  unfold sameG at h
  split at h
  · rename_i g' hg
    rw [rkg_ok hσ hl hg]
    unfold RG.same at h
    split at h
    · rfl
    · simp only [Bool.and_eq_true, Nat.beq_eq, beq_iff_eq] at h
      obtain ⟨h1, h2⟩ := h
      subst h1; subst h2; rfl
    · cases h
  · cases h
end

/-! ### The quick machine's steps, told singly -/
section
variable {cs : CS Prop} {t : Tr Value} {L : List Value} {h : AH} {pd : Pd} {KK : KK Prop} {l : List KS}
theorem ks_t {f : KF} {xs : List KA} {k : KG} {vs : List Value} {v : Value} {h' : AH} (hg : kwant t L k = some true) (hv : kvals t L xs = some vs) (hr : f.run P G h vs = some (v, h')) (hk : kSteps AProp P G cs t l (v :: L) h' pd KK) :
    kSteps AProp P G cs t (.op f xs k :: l) L h pd KK := by rw [st_op hg hv hr]; exact hk
theorem ks_f {f : KF} {xs : List KA} {k : KG} (hg : kwant t L k = some false) (hk : kSteps AProp P G cs t l (undef :: L) h pd KK) : kSteps AProp P G cs t (.op f xs k :: l) L h pd KK := by rw [st_no hg]; exact hk
end
theorem kvals_one {t : Tr Value} {L : List Value} {a : KA} {v : Value} (h : kval t L a = some v) : kvals t L [a] = some [v] := by
  show Option.rec (motive := fun _ => Option (List Value)) none (fun v => Option.rec (motive := fun _ => Option (List Value)) none (fun vs => some (v :: vs)) (some [])) (kval t L a) = _
  rw [h]
theorem kvals_two {t : Tr Value} {L : List Value} {a b : KA} {v u : Value} (h : kval t L a = some v) (k : kval t L b = some u) : kvals t L [a, b] = some [v, u] := by
  show Option.rec (motive := fun _ => Option (List Value)) none (fun v => Option.rec (motive := fun _ => Option (List Value)) none (fun vs => some (v :: vs)) (kvals t L [b])) (kval t L a) = _
  rw [h, kvals_one k]
end Go.Am

/-
  A machine whose code names each value once, part 6: several operations as one are what they were.
-/
namespace Go.Am
open Go
variable {P : Program} {G : Nat}

section
variable {cs : CS Prop} {t : Tr Value} {L : List Value} {h : AH} {pd : Pd} {KK : KK Prop} {l : List KS}
theorem chain2 {f1 f2 : KF} {xs1 xs2 : List KA} {k1 k2 : KG} {b : Option Bool} {v : Value} {h' : AH} (hk1 : kwant t L k1 = b) (hk2 : ∀ u, kwant t (u :: L) k2 = b)
    (hb : (b = some true ∧ ∃ vs1 u vs2, kvals t L xs1 = some vs1 ∧ f1.run P G h vs1 = some (u, h) ∧ kvals t (u :: L) xs2 = some vs2 ∧ f2.run P G h vs2 = some (v, h')) ∨ (b = some false ∧ v = undef ∧ h' = h)) :
    ∃ Ls, Ls.length = 1 ∧ (kSteps AProp P G cs t l (v :: (Ls ++ L)) h' pd KK → kSteps AProp P G cs t (.op f1 xs1 k1 :: .op f2 xs2 k2 :: l) L h pd KK) := by
  rcases hb with ⟨rfl, vs1, u, vs2, h1, h2, h3, h4⟩ | ⟨rfl, rfl, rfl⟩
  · exact ⟨[u], rfl, fun hk => ks_t hk1 h1 h2 (ks_t (hk2 _) h3 h4 hk)⟩
  · exact ⟨[undef], rfl, fun hk => ks_f hk1 (ks_f (hk2 _) hk)⟩
theorem chain3 {f1 f2 f3 : KF} {xs1 xs2 xs3 : List KA} {k1 k2 k3 : KG} {b : Option Bool} {v : Value} {h' : AH} (hk1 : kwant t L k1 = b) (hk2 : ∀ u, kwant t (u :: L) k2 = b) (hk3 : ∀ u w, kwant t (w :: u :: L) k3 = b)
    (hb : (b = some true ∧ ∃ vs1 u vs2 w vs3, kvals t L xs1 = some vs1 ∧ f1.run P G h vs1 = some (u, h) ∧ kvals t (u :: L) xs2 = some vs2 ∧ f2.run P G h vs2 = some (w, h) ∧ kvals t (w :: u :: L) xs3 = some vs3 ∧ f3.run P G h vs3 = some (v, h')) ∨ (b = some false ∧ v = undef ∧ h' = h)) :
    ∃ Ls, Ls.length = 2 ∧ (kSteps AProp P G cs t l (v :: (Ls ++ L)) h' pd KK → kSteps AProp P G cs t (.op f1 xs1 k1 :: .op f2 xs2 k2 :: .op f3 xs3 k3 :: l) L h pd KK) := by
  rcases hb with ⟨rfl, vs1, u, vs2, w, vs3, h1, h2, h3, h4, h5, h6⟩ | ⟨rfl, rfl, rfl⟩
  · exact ⟨[w, u], rfl, fun hk => ks_t hk1 h1 h2 (ks_t (hk2 _) h3 h4 (ks_t (hk3 _ _) h5 h6 hk))⟩
  · exact ⟨[undef, undef], rfl, fun hk => ks_f hk1 (ks_f (hk2 _) (ks_f (hk3 _ _) hk))⟩
end

theorem rLoad_ptr {agg : Option Nat} {h : AH} {x : Value} {r : Value × AH} (e : rLoad agg h x = some r) : ∃ a, x = .pointer (some a) := by
  unfold rLoad at e
  split at e
  · rename_i b o ro c hc
    exact ⟨_, (cellsAt_inv hc).1⟩
  · cases e
/-! ### Loads and stores behind an address -/
theorem cellsAt_ptr (h : AH) (b o : Nat) : cellsAt h (.pointer (some ⟨b, o, none⟩)) = match h.get b with | .cells ro c => some (b, o, ro, c) | _ => none := rfl
theorem fOf_inv {agg : Option Nat} {off : Nat} {h : AH} {x v : Value} (e : (fOf off agg).run P G h [x] = some v) : ∃ b o, x = .pointer (some ⟨b, o, none⟩) ∧ rLoad agg h (.pointer (some ⟨b, o + off, none⟩)) = some (v, h) := by
  cases agg with
  | none =>
    have e' : mF off h x = some v := e
    unfold mF at e'
    split at e'
    · rename_i b o
      refine ⟨b, o, rfl, ?_⟩
      split at e'
      · rename_i ro c hc
        simp only [rLoad, cellsAt_ptr, hc, e', Option.map_some]
      · cases e'
    · cases e'
  | some n =>
    have e' : mFA n off h x = some v := e
    unfold mFA at e'
    split at e'
    · rename_i b o
      refine ⟨b, o, rfl, ?_⟩
      split at e'
      · rename_i ro c hc
        obtain ⟨h1, h2⟩ := cond_some e'
        cases h2
        simp only [rLoad, cellsAt_ptr, hc, h1, cond_true]
      · cases e'
    · cases e'
theorem ldOf_inv {agg : Option Nat} {h : AH} {x v : Value} (e : (ldOf agg).run P G h [x] = some v) : rLoad agg h x = some (v, h) := by
  cases agg with
  | none =>
    have e' : mLd h x = some v := e
    unfold mLd at e'
    split at e'
    · rename_i b o ro c hc
      simp only [rLoad, hc, e', Option.map_some]
    · cases e'
  | some n =>
    have e' : mLdA n h x = some v := e
    unfold mLdA at e'
    split at e'
    · rename_i b o ro c hc
      obtain ⟨h1, h2⟩ := cond_some e'
      cases h2
      simp only [rLoad, hc, h1, cond_true]
    · cases e'
theorem iOf_inv {agg : Option Nat} {sz off : Nat} {h : AH} {x y v : Value} (e : (iOf sz off agg).run P G h [x, y] = some v) :
    ∃ b o, rIndexSl sz h x y = some (.pointer (some ⟨b, o, none⟩), h) ∧ rLoad agg h (.pointer (some ⟨b, o + off, none⟩)) = some (v, h) := by
  cases agg with
  | none =>
    have e' : mI sz off h x y = some v := e
    unfold mI at e'
    split at e'
    · rename_i b o n z k hk
      obtain ⟨h1, h2⟩ := cond_some e'
      refine ⟨b, o + k * sz, by simp only [rIndexSl, hk, h1, cond_true], ?_⟩
      split at h2
      · rename_i ro c hc
        simp only [rLoad, cellsAt_ptr, hc, h2, Option.map_some]
      · cases h2
    · cases e'
  | some n =>
    have e' : mIA n sz off h x y = some v := e
    unfold mIA at e'
    split at e'
    · rename_i b o n z k hk
      obtain ⟨h1, h2⟩ := cond_some e'
      refine ⟨b, o + k * sz, by simp only [rIndexSl, hk, h1, cond_true], ?_⟩
      split at h2
      · rename_i ro c hc
        obtain ⟨h3, h4⟩ := cond_some h2
        cases h4
        simp only [rLoad, cellsAt_ptr, hc, h3, cond_true]
      · cases h2
    · cases e'
theorem hasOne_cells {u : Value} (h : hasOne u = true) : u.cells = #[u] := by
  cases u <;> first | rfl | cases h
theorem set_take {α : Type} : ∀ (c : List α) (i : Nat) (u : α), i < c.length → c.set i u = c.take i ++ [u] ++ c.drop (i + 1)
  | [], i, u, h => by simp at h
  | x :: c, 0, u, h => rfl
  | x :: c, i + 1, u, h => by
    have := set_take c i u (by simpa using h)
    simp only [List.set_cons_succ, this, List.take_succ_cons, List.cons_append, List.drop_succ_cons]
theorem hF_inv {off : Nat} {h h' : AH} {x u : Value} (e : hF off h x u = some h') : ∃ b o, x = .pointer (some ⟨b, o, none⟩) ∧ rStore 1 h (.pointer (some ⟨b, o + off, none⟩)) u = some (undef, h') := by
  unfold hF at e
  split at e
  · rename_i b o
    refine ⟨b, o, rfl, ?_⟩
    split at e
    · rename_i ro c hc
      obtain ⟨h1, h2⟩ := cond_some e
      cases h2
      simp only [Bool.and_eq_true, Nat.blt_eq] at h1
      obtain ⟨⟨h3, h4⟩, h5⟩ := h1
      have hu := hasOne_cells h5
      have hb : (!ro && Nat.beq u.cells.size 1 && Nat.ble (o + off + 1) c.length && u.cells.toList.all hasOne) = true := by
        rw [hu]
        have h6 : Nat.ble (o + off + 1) c.length = true := by rw [Nat.ble_eq]; omega
        simp [h3, h5, h6]
      simp only [rStore, cellsAt_ptr, hc, hb, cond_true]
      rw [set_take c (o + off) u h4, hu]
    · cases e
  · cases e

/-! ### New objects, laid at once -/
theorem Tr.set_set {α : Type} (a b : Option α) : ∀ (f : Nat) (t : Tr α) (n : Nat), Tr.setF f (Tr.setF f t n a) n b = Tr.setF f t n b
  | 0, t, n => rfl
  | f + 1, t, n => by
    simp only [Tr.setF]
    cases h0 : Nat.beq n 0 with
    | true => simp only [h0, cond_true]; rfl
    | false =>
      simp only [h0, cond_false]
      cases h1 : Nat.beq (n % 2) 1 with
      | true =>
        simp only [cond_true]
        show Tr.node t.val (Tr.setF f (Tr.setF f t.left (n / 2) a) (n / 2) b) t.right = _
        rw [Tr.set_set a b f]
      | false =>
        simp only [cond_false]
        show Tr.node t.val t.left (Tr.setF f (Tr.setF f t.right (n / 2 - 1) a) (n / 2 - 1) b) = _
        rw [Tr.set_set a b f]
theorem AH.push_set (h : AH) (o o' : AObj) : (h.push o).set h.next o' = h.push o' := by
  unfold AH.push AH.set Tr.set
  simp only [Tr.set_set]
theorem alloc_run {op : AOp} (ha : op.isA = true) {ρ : Operand → Option Value} {h h' : AH} {v : Value} (hr : op.run P ρ h = some (v, h')) : ∃ obj k, allocOf ρ op = some (obj, k) ∧ v = k.val h.next ∧ h' = h.push obj := by
  cases op with
  | new zs => cases hr; exact ⟨_, _, rfl, rfl, rfl⟩
  | box x =>
    have hr' : (ρ x).map (fun v => (Value.pointer (some ⟨h.next, 0, none⟩), h.push (.cells false v.cells.toList))) = some (v, h') := hr
    obtain ⟨u, h1, h2⟩ := Option.map_eq_some_iff.1 hr'
    cases h2
    exact ⟨_, .ptr, by simp only [allocOf, h1, Option.map_some], rfl, rfl⟩
  | buildSlice sz len zs ps =>
    have hr' : (fillL ρ zs ps).map (fun cs => (Value.slice (some ⟨h.next, 0, none⟩) len sz, h.push (.cells false cs))) = some (v, h') := hr
    obtain ⟨u, h1, h2⟩ := Option.map_eq_some_iff.1 hr'
    cases h2
    exact ⟨_, .slice len sz, by simp only [allocOf, h1, Option.map_some], rfl, rfl⟩
  | _ => cases ha
theorem hIni_inv {n : Nat} {h h' : AH} {u v : Value} (e : hIni n h u = some (v, h')) {zs : List Value} (hz : zs.length = n) :
    v = .pointer (some ⟨h.next, 0, none⟩) ∧ rStore n (h.push (.cells false zs)) v u = some (undef, h') := by
  unfold hIni at e
  obtain ⟨h1, h2⟩ := cond_some e
  cases h2
  refine ⟨rfl, ?_⟩
  have hg : (h.push (.cells false zs)).get h.next = .cells false zs := by rw [AH.get_push, if_pos rfl]
  simp only [Bool.and_eq_true, Nat.beq_eq] at h1
  have hb : (!false && Nat.beq u.cells.size n && Nat.ble (0 + n) zs.length && u.cells.toList.all hasOne) = true := by
    rw [h1.2, h1.1, hz]; simp
  simp only [rStore, cellsAt_ptr, hg, hb, cond_true, AH.push_set]
  have : zs.drop (0 + n) = [] := by rw [← hz]; simp
  rw [this]
  simp

/-! ### What is fused is what it was -/
def FzS (P : Program) (G : Nat) (cs : CS Prop) (env : List Value) (t : Tr Value) (L : List Value) (l0 : List KS) (j : Nat) (fz : FZ) (g : RG) (jj : Nat) (l' : List KS) (dirty : Bool) : Prop :=
  ∀ h pd (KK : KK Prop), (dirty = false → pd = []) → match fz with
  | .m o xs => ∀ v, (g.sem env = some true ∧ o.run P G h (xs.map (TL.val env)) = some v) ∨ (g.sem env = some false ∧ v = undef) →
      ∃ Ls, Ls.length = jj ∧ (kSteps AProp P G cs t l' (v :: (Ls ++ L)) h pd KK → kSteps AProp P G cs t l0 L h pd KK)
  | .w o xs => ∀ h', (g.sem env = some true ∧ o.run h (xs.map (TL.val env)) = some h') ∨ (g.sem env = some false ∧ h' = h) →
      ∃ Ls, Ls.length = jj + 1 ∧ (kSteps AProp P G cs t l' (Ls ++ L) h' pd KK → kSteps AProp P G cs t l0 L h pd KK)
  | .h o xs => ∀ v h', (g.sem env = some true ∧ o.run P G h (xs.map (TL.val env)) = some (v, h')) ∨ (g.sem env = some false ∧ v = undef ∧ h' = h) →
      ∃ Ls, Ls.length = jj ∧ (kSteps AProp P G cs t l' (Ls ++ (v :: L)) h' pd KK → kSteps AProp P G cs t l0 L h pd KK)
section
variable {cs : CS Prop} {σ : Tr TL} {env : List Value} {t : Tr Value} {lm : List (Option TL)} {L : List Value} (hσ : FrV σ env t) (hl : LmR env lm L)
include hσ hl
/-- Two steps: an address, and what is done there. -/
theorem end1 {f1 : KF} {xs1 : List KA} {k1 : KG} {g : RG} {ld : Option Nat → FZ} {st : Option (TL → FZ)} {l l' : List KS} {fz : FZ} {g' : RG} {j : Nat} {dirty : Bool}
    (hk1 : kwant t L k1 = g.sem env) (he : fuseEnd σ (none :: lm) g 1 ld st l = some (fz, g', j, l'))
    (hld : ∀ agg, ∃ o xs, ld agg = .m o xs ∧ ∀ h v, o.run P G h (xs.map (TL.val env)) = some v → ∃ vs1 u, kvals t L xs1 = some vs1 ∧ f1.run P G h vs1 = some (u, h) ∧ rLoad agg h u = some (v, h))
    (hst : ∀ f, st = some f → ∀ y, ∃ o xs, f y = .w o xs ∧ ∀ h h', o.run h (xs.map (TL.val env)) = some h' → ∃ vs1 u, kvals t L xs1 = some vs1 ∧ f1.run P G h vs1 = some (u, h) ∧ rStore 1 h u (y.val env) = some (undef, h')) :
    FzS P G cs env t L (.op f1 xs1 k1 :: l) 0 fz g' j l' dirty := by
  cases l with
  | nil => cases he
  | cons s l =>
    simp only [fuseEnd] at he
    split at he
    · rename_i agg k hs
      obtain ⟨h1, h2⟩ := cond_some he
      cases h2
      obtain rfl := asLd_inv hs
      obtain ⟨o, xs, e, hrun⟩ := hld agg
      rw [e]
      intro h pd KK _ v hv
      refine chain2 hk1 (fun u => sameG_ok hσ (hl.none u) h1) ?_
      rcases hv with ⟨hb, hv⟩ | ⟨hb, rfl⟩
      · obtain ⟨vs1, u, h3, h4, h5⟩ := hrun h v hv
        exact .inl ⟨hb, vs1, u, [u], h3, h4, kvals_one rfl, h5⟩
      · exact .inr ⟨hb, rfl, rfl⟩
    · split at he
      · rename_i f y k hs
        split at he
        · rename_i y' hy
          obtain ⟨h1, h2⟩ := cond_some he
          cases h2
          obtain rfl := asSt_inv hs
          obtain ⟨o, xs, e, hrun⟩ := hst f rfl y'
          rw [e]
          intro h pd KK _ h' hv
          have hc := chain2 (cs := cs) (P := P) (G := G) (f1 := f1) (f2 := .store 1) (xs1 := xs1) (xs2 := [.loc 0, y]) (h := h) (h' := h') (pd := pd) (KK := KK) (l := l') (v := undef) hk1 (fun u => sameG_ok hσ (hl.none u) h1) (by
            rcases hv with ⟨hb, hv⟩ | ⟨hb, rfl⟩
            · obtain ⟨vs1, u, h3, h4, h5⟩ := hrun h h' hv
              exact .inl ⟨hb, vs1, u, [u, y'.val env], h3, h4, kvals_two rfl (rka_ok hσ (hl.none u) hy).2, h5⟩
            · exact .inr ⟨hb, rfl, rfl⟩)
          obtain ⟨Ls, h2, h3⟩ := hc
          exact ⟨undef :: Ls, by simp [h2], h3⟩
        · cases he
      · cases he
/-- Three steps: an address, a field's, and what is done there. -/
theorem end2 {f1 : KF} {xs1 : List KA} {k1 k2 : KG} {off : Nat} {g : RG} {ld : Option Nat → FZ} {st : Option (TL → FZ)} {l l' : List KS} {fz : FZ} {g' : RG} {j : Nat} {dirty : Bool}
    (hk1 : kwant t L k1 = g.sem env) (hk2 : ∀ u, kwant t (u :: L) k2 = g.sem env) (he : fuseEnd σ (none :: none :: lm) g 2 ld st l = some (fz, g', j, l'))
    (hld : ∀ agg, ∃ o xs, ld agg = .m o xs ∧ ∀ h v, o.run P G h (xs.map (TL.val env)) = some v → ∃ vs1 b o, kvals t L xs1 = some vs1 ∧ f1.run P G h vs1 = some (.pointer (some ⟨b, o, none⟩), h) ∧ rLoad agg h (.pointer (some ⟨b, o + off, none⟩)) = some (v, h))
    (hst : ∀ f, st = some f → ∀ y, ∃ o xs, f y = .w o xs ∧ ∀ h h', o.run h (xs.map (TL.val env)) = some h' → ∃ vs1 b o, kvals t L xs1 = some vs1 ∧ f1.run P G h vs1 = some (.pointer (some ⟨b, o, none⟩), h) ∧ rStore 1 h (.pointer (some ⟨b, o + off, none⟩)) (y.val env) = some (undef, h')) :
    FzS P G cs env t L (.op f1 xs1 k1 :: .op (.fieldAddr off) [.loc 0] k2 :: l) 0 fz g' j l' dirty := by
  cases l with
  | nil => cases he
  | cons s l =>
    simp only [fuseEnd] at he
    split at he
    · rename_i agg k hs
      obtain ⟨h1, h2⟩ := cond_some he
      cases h2
      obtain rfl := asLd_inv hs
      obtain ⟨o, xs, e, hrun⟩ := hld agg
      rw [e]
      intro h pd KK _ v hv
      refine chain3 hk1 hk2 (fun u w => sameG_ok hσ ((hl.none u).none w) h1) ?_
      rcases hv with ⟨hb, hv⟩ | ⟨hb, rfl⟩
      · obtain ⟨vs1, b, o, h3, h4, h5⟩ := hrun h v hv
        exact .inl ⟨hb, vs1, _, [_], .pointer (some ⟨b, o + off, none⟩), [_], h3, h4, kvals_one rfl, rfl, kvals_one rfl, h5⟩
      · exact .inr ⟨hb, rfl, rfl⟩
    · split at he
      · rename_i f y k hs
        split at he
        · rename_i y' hy
          obtain ⟨h1, h2⟩ := cond_some he
          cases h2
          obtain rfl := asSt_inv hs
          obtain ⟨o, xs, e, hrun⟩ := hst f rfl y'
          rw [e]
          intro h pd KK _ h' hv
          have hc := chain3 (cs := cs) (P := P) (G := G) (f1 := f1) (f2 := .fieldAddr off) (f3 := .store 1) (xs1 := xs1) (xs2 := [.loc 0]) (xs3 := [.loc 0, y]) (h := h) (h' := h') (pd := pd) (KK := KK) (l := l') (v := undef) hk1 hk2
            (fun u w => sameG_ok hσ ((hl.none u).none w) h1) (by
            rcases hv with ⟨hb, hv⟩ | ⟨hb, rfl⟩
            · obtain ⟨vs1, b, o, h3, h4, h5⟩ := hrun h h' hv
              exact .inl ⟨hb, vs1, _, [_], .pointer (some ⟨b, o + off, none⟩), [_, y'.val env], h3, h4, kvals_one rfl, rfl, kvals_two rfl (rka_ok hσ ((hl.none _).none _) hy).2, h5⟩
            · exact .inr ⟨hb, rfl, rfl⟩)
          obtain ⟨Ls, h2, h3⟩ := hc
          exact ⟨undef :: Ls, by simp [h2], h3⟩
        · cases he
      · cases he
theorem fuse_ok {d : Bool} {s : KS} {l l' : List KS} {fz : FZ} {g : RG} {j : Nat} (he : fuse P G σ lm d s l = some (fz, g, j, l')) : FzS P G cs env t L (s :: l) 0 fz g j l' d := by
  unfold fuse at he
  split at he
  · rename_i a k hs
    obtain rfl := asNil_inv hs
    split at he
    · rename_i x g0 hx hg
      have hxv := (rka_ok hσ hl hx).2
      have hk := rkg_ok hσ hl hg
      cases l with
      | nil => cases he
      | cons s2 l2 =>
        simp only [fuseFa] at he
        split at he
        · rename_i off b k2 hs2
          obtain rfl := asFa_inv hs2
          obtain ⟨h1, he2⟩ := cond_some he
          simp only [Bool.and_eq_true] at h1
          obtain rfl := isL0_inv h1.1
          refine end2 (P := P) (G := G) hσ hl (off := off) hk (fun u => sameG_ok hσ (hl.none u) h1.2) he2 (fun agg => ⟨_, _, rfl, fun h v hv => ?_⟩) (fun f hf y => ?_)
          · obtain ⟨b, o, h2, h3⟩ := fOf_inv hv
            exact ⟨[x.val env], b, o, kvals_one hxv, by rw [h2]; rfl, h3⟩
          · cases hf
            refine ⟨_, _, rfl, fun h h' hv => ?_⟩
            obtain ⟨b, o, h2, h3⟩ := hF_inv (show hF off h (x.val env) (y.val env) = some h' from hv)
            exact ⟨[x.val env], b, o, kvals_one hxv, by rw [h2]; rfl, h3⟩
        · refine end1 (P := P) (G := G) hσ hl hk he (fun agg => ⟨_, _, rfl, fun h v hv => ?_⟩) (fun f hf y => by cases hf)
          have h3 := ldOf_inv hv
          refine ⟨[x.val env], x.val env, kvals_one hxv, ?_, h3⟩
          obtain ⟨a, ha⟩ := rLoad_ptr h3
          rw [ha]; rfl
    · cases he
  · split at he
    · rename_i off a k hs
      obtain rfl := asFa_inv hs
      split at he
      · rename_i x g0 hx hg
        have hxv := (rka_ok hσ hl hx).2
        have hk := rkg_ok hσ hl hg
        refine end1 (P := P) (G := G) hσ hl hk he (fun agg => ⟨_, _, rfl, fun h v hv => ?_⟩) (fun f hf y => ?_)
        · obtain ⟨b, o, h2, h3⟩ := fOf_inv hv
          exact ⟨[x.val env], .pointer (some ⟨b, o + off, none⟩), kvals_one hxv, by rw [h2]; rfl, h3⟩
        · cases hf
          refine ⟨_, _, rfl, fun h h' hv => ?_⟩
          obtain ⟨b, o, h2, h3⟩ := hF_inv (show hF off h (x.val env) (y.val env) = some h' from hv)
          exact ⟨[x.val env], .pointer (some ⟨b, o + off, none⟩), kvals_one hxv, by rw [h2]; rfl, h3⟩
      · cases he
    · split at he
      · rename_i sz a b k hs
        obtain rfl := asIx_inv hs
        split at he
        · rename_i x y g0 hx hy hg
          have hxv := (rka_ok hσ hl hx).2
          have hyv := (rka_ok hσ hl hy).2
          have hk := rkg_ok hσ hl hg
          cases l with
          | nil => cases he
          | cons s2 l2 =>
            simp only [fuseFa] at he
            split at he
            · rename_i off b k2 hs2
              obtain rfl := asFa_inv hs2
              obtain ⟨h1, he2⟩ := cond_some he
              simp only [Bool.and_eq_true] at h1
              obtain rfl := isL0_inv h1.1
              refine end2 (P := P) (G := G) hσ hl (off := off) hk (fun u => sameG_ok hσ (hl.none u) h1.2) he2 (fun agg => ⟨_, _, rfl, fun h v hv => ?_⟩) (fun f hf y => by cases hf)
              obtain ⟨b, o, h2, h3⟩ := iOf_inv hv
              exact ⟨[x.val env, y.val env], b, o, kvals_two hxv hyv, h2, h3⟩
            · refine end1 (P := P) (G := G) hσ hl hk he (fun agg => ⟨_, _, rfl, fun h v hv => ?_⟩) (fun f hf y => by cases hf)
              obtain ⟨b, o, h2, h3⟩ := iOf_inv hv
              exact ⟨[x.val env, y.val env], _, kvals_two hxv hyv, h2, by simpa using h3⟩
        · cases he
      · split at he
        · rename_i n k hs
          obtain ⟨zs, ts, rfl, hz⟩ := asNew_inv hs
          split at he
          · rename_i g0 s2 l2 hg
            split at he
            · rename_i m y k2 hs2
              obtain rfl := asSto_inv hs2
              split at he
              · rename_i y' hy
                obtain ⟨h1, h2⟩ := cond_some he
                cases h2
                simp only [Bool.and_eq_true, Nat.beq_eq] at h1
                obtain ⟨rfl, hsame⟩ := h1
                have hk := rkg_ok hσ hl hg
                intro h pd KK _ v h' hv
                refine ⟨[undef], rfl, fun hn => ?_⟩
                rcases hv with ⟨hb, hv⟩ | ⟨hb, rfl, rfl⟩
                · obtain ⟨rfl, h3⟩ := hIni_inv (show hIni n h (y'.val env) = some (v, h') from hv) hz
                  exact ks_t (by rw [hk, hb]) rfl (h' := h.push (.cells false zs)) rfl (ks_t (by rw [sameG_ok hσ (hl.none _) hsame, hb]) (kvals_two rfl (rka_ok hσ (hl.none _) hy).2) h3 hn)
                · exact ks_f (by rw [hk, hb]) (ks_f (by rw [sameG_ok hσ (hl.none _) hsame, hb]) hn)
              · cases he
            · cases he
          · cases he
        · split at he
          · rename_i i f ts xs s2 l2 hs
            obtain rfl := asAl_inv hs
            split at he
            · rename_i i' xs' hs2 hxs
              obtain rfl := asAb_inv hs2
              obtain ⟨h1, he2⟩ := cond_some he
              clear he
              simp only [Bool.and_eq_true, Nat.beq_eq, Bool.not_eq_true'] at h1
              obtain ⟨⟨rfl, ha⟩, rfl⟩ := h1
              split at he2
              · rename_i o xs2 ho
                cases he2
                intro h pd KK hd v h' hv
                obtain rfl := hd rfl
                refine ⟨[], rfl, fun hn => ?_⟩
                rcases hv with ⟨_, hv⟩ | ⟨hb, _⟩
                · have h2 := toOf_ok (P := P) (G := G) (xs := xs') (.slow f ts) env h v h' (by rw [ho]; exact hv)
                  obtain ⟨obj, kd, h3, rfl, rfl⟩ := alloc_run ha (show f.run P (opdT G ts (xs'.map (TL.val env))) h = some (v, h') from h2)
                  have hn' : kSteps AProp P G cs t l' (kd.val h.next :: L) (h.push obj) [] KK := hn
                  show Option.rec (motive := fun _ => Prop) False (fun vs => Option.rec (motive := fun _ => Prop) False (fun r => Prod.rec (motive := fun _ => Prop) (fun obj kd => kSteps AProp P G cs t (.abs i :: l') (kd.val h.next :: L) (h.push .dead) [(i, h.next, obj)] KK) r) (allocOf (opdT G ts vs) f)) (kvals t L xs)
                  rw [rkas_ok hσ hl hxs]
                  simp only
                  rw [h3]
                  show kAbs i (kd.val h.next :: L) (h.push .dead) [(i, h.next, obj)] (fun L h pd => kSteps AProp P G cs t l' L h pd KK)
                  simp only [kAbs, takePd, dropPd, Nat.beq_refl, cond_true, AH.push_set]
                  exact hn'
                · cases hb
              · cases he2
            · cases he
          · cases he
end
end Go.Am

/-
  A machine whose code names each value once, part 7: regions, made into its code.
-/
namespace Go.Am
open Go
variable {P : Program} {G : Nat}

/-! ### What is known behind a run -/
theorem pbP {o : Option Value} {k : Value → Prop} (h : pb AProp o k) : ∃ v, o = some v ∧ k v := by
  cases o with
  | none => exact h.elim
  | some v => exact ⟨v, rfl, h⟩
theorem hbP {o : Option (Value × AH)} {k : Value → AH → Prop} (h : hb AProp o k) : ∃ v h', o = some (v, h') ∧ k v h' := by
  cases o with
  | none => exact h.elim
  | some r => obtain ⟨v, h'⟩ := r; exact ⟨v, h', rfl, h⟩
theorem wbP {o : Option AH} {k : AH → Prop} (h : wb AProp o k) : ∃ v, o = some v ∧ k v := by
  cases o with
  | none => exact h.elim
  | some v => exact ⟨v, rfl, h⟩
theorem gbP {c : Value} {w : Bool} {x y : Prop} (h : gb AProp c w x y) : (wantedV w (some c) = some false ∧ x) ∨ (wantedV w (some c) = some true ∧ y) := by
  have h' : Option.rec (motive := fun _ => Prop) False (fun b => Bool.rec (motive := fun _ => Prop) x y b) (wantedV w (some c)) := h
  cases hq : wantedV w (some c) with
  | none => rw [hq] at h'; exact h'.elim
  | some b => rw [hq] at h'; cases b with
    | false => exact .inl ⟨rfl, h'⟩
    | true => exact .inr ⟨rfl, h'⟩
theorem alcP {i : Nat} {o : Option (AObj × AKind)} {h : AH} {pd : Pd} {k : Value → AH → Pd → Prop} (e : alc AProp i o h pd k) : ∃ obj kd, o = some (obj, kd) ∧ k (kd.val h.next) (h.push .dead) ((i, h.next, obj) :: pd) := by
  cases o with
  | none => exact e.elim
  | some r => obtain ⟨obj, kd⟩ := r; exact ⟨obj, kd, rfl, e⟩
theorem rbP {o : Option Value} {u : Value} {k : Prop} (h : rb AProp o u k) : o = some u ∧ k := by
  cases o with
  | none => exact h.elim
  | some v => exact ⟨by rw [h.1], h.2⟩

section
variable {cs csd : CS Prop} {lo : LS Prop} {K : Value → AH → Prop} {env : List Value} {J : List (JT Prop)} {h : AH} {pd : Pd} {n : Nat} (hn : env.length = n)
include hn
theorem inv_p {o : PO} {xs : List TL} {g : RG} {k : SC} (e : runS AProp P G cs csd lo K (.p o (xs.map (TL.ta n)) (g.ta n) k) env J h pd) :
    ∃ v, ((g.sem env = some true ∧ o.run P G (xs.map (TL.val env)) = some v) ∨ (g.sem env = some false ∧ v = undef)) ∧ runS AProp P G cs csd lo K k (v :: env) J h pd := by
  cases g with
  | none =>
    obtain ⟨v, h1, h2⟩ := pbP (show pb AProp (o.run P G (tvals env (xs.map (TL.ta n)))) _ from e)
    rw [tvals_ta hn] at h1
    exact ⟨v, .inl ⟨rfl, h1⟩, h2⟩
  | some q =>
    obtain ⟨x, w⟩ := q
    have e' : gb AProp ((x.ta n).val env) w (runS AProp P G cs csd lo K k (undef :: env) J h pd) (pb AProp (o.run P G (tvals env (xs.map (TL.ta n)))) fun v => runS AProp P G cs csd lo K k (v :: env) J h pd) := e
    rw [TL.ta_val hn] at e'
    rcases gbP e' with ⟨h1, h2⟩ | ⟨h1, h2⟩
    · exact ⟨undef, .inr ⟨h1, rfl⟩, h2⟩
    · obtain ⟨v, h3, h4⟩ := pbP h2
      rw [tvals_ta hn] at h3
      exact ⟨v, .inl ⟨h1, h3⟩, h4⟩
theorem inv_m {o : MO} {xs : List TL} {g : RG} {k : SC} (e : runS AProp P G cs csd lo K (.m o (xs.map (TL.ta n)) (g.ta n) k) env J h pd) :
    ∃ v, ((g.sem env = some true ∧ o.run P G h (xs.map (TL.val env)) = some v) ∨ (g.sem env = some false ∧ v = undef)) ∧ runS AProp P G cs csd lo K k (v :: env) J h pd := by
  cases g with
  | none =>
    obtain ⟨v, h1, h2⟩ := pbP (show pb AProp (o.run P G h (tvals env (xs.map (TL.ta n)))) _ from e)
    rw [tvals_ta hn] at h1
    exact ⟨v, .inl ⟨rfl, h1⟩, h2⟩
  | some q =>
    obtain ⟨x, w⟩ := q
    have e' : gb AProp ((x.ta n).val env) w (runS AProp P G cs csd lo K k (undef :: env) J h pd) (pb AProp (o.run P G h (tvals env (xs.map (TL.ta n)))) fun v => runS AProp P G cs csd lo K k (v :: env) J h pd) := e
    rw [TL.ta_val hn] at e'
    rcases gbP e' with ⟨h1, h2⟩ | ⟨h1, h2⟩
    · exact ⟨undef, .inr ⟨h1, rfl⟩, h2⟩
    · obtain ⟨v, h3, h4⟩ := pbP h2
      rw [tvals_ta hn] at h3
      exact ⟨v, .inl ⟨h1, h3⟩, h4⟩
theorem inv_h {o : HO} {xs : List TL} {g : RG} {k : SC} (e : runS AProp P G cs csd lo K (.h o (xs.map (TL.ta n)) (g.ta n) k) env J h pd) :
    ∃ v h', ((g.sem env = some true ∧ o.run P G h (xs.map (TL.val env)) = some (v, h')) ∨ (g.sem env = some false ∧ v = undef ∧ h' = h)) ∧ runS AProp P G cs csd lo K k (v :: env) J h' pd := by
  cases g with
  | none =>
    obtain ⟨v, h', h1, h2⟩ := hbP (show hb AProp (o.run P G h (tvals env (xs.map (TL.ta n)))) (fun v h => runS AProp P G cs csd lo K k (v :: env) J h pd) from e)
    rw [tvals_ta hn] at h1
    exact ⟨v, h', .inl ⟨rfl, h1⟩, h2⟩
  | some q =>
    obtain ⟨x, w⟩ := q
    have e' : gb AProp ((x.ta n).val env) w (runS AProp P G cs csd lo K k (undef :: env) J h pd) (hb AProp (o.run P G h (tvals env (xs.map (TL.ta n)))) fun v h => runS AProp P G cs csd lo K k (v :: env) J h pd) := e
    rw [TL.ta_val hn] at e'
    rcases gbP e' with ⟨h1, h2⟩ | ⟨h1, h2⟩
    · exact ⟨undef, h, .inr ⟨h1, rfl, rfl⟩, h2⟩
    · obtain ⟨v, h', h3, h4⟩ := hbP h2
      rw [tvals_ta hn] at h3
      exact ⟨v, h', .inl ⟨h1, h3⟩, h4⟩
theorem inv_w {o : WO} {xs : List TL} {g : RG} {k : SC} (e : runS AProp P G cs csd lo K (.w o (xs.map (TL.ta n)) (g.ta n) k) env J h pd) :
    ∃ h', ((g.sem env = some true ∧ o.run h (xs.map (TL.val env)) = some h') ∨ (g.sem env = some false ∧ h' = h)) ∧ runS AProp P G cs csd lo K k env J h' pd := by
  cases g with
  | none =>
    obtain ⟨h', h1, h2⟩ := wbP (show wb AProp (o.run h (tvals env (xs.map (TL.ta n)))) _ from e)
    rw [tvals_ta hn] at h1
    exact ⟨h', .inl ⟨rfl, h1⟩, h2⟩
  | some q =>
    obtain ⟨x, w⟩ := q
    have e' : gb AProp ((x.ta n).val env) w (runS AProp P G cs csd lo K k env J h pd) (wb AProp (o.run h (tvals env (xs.map (TL.ta n)))) fun h => runS AProp P G cs csd lo K k env J h pd) := e
    rw [TL.ta_val hn] at e'
    rcases gbP e' with ⟨h1, h2⟩ | ⟨h1, h2⟩
    · exact ⟨h, .inr ⟨h1, rfl⟩, h2⟩
    · obtain ⟨h', h3, h4⟩ := wbP h2
      rw [tvals_ta hn] at h3
      exact ⟨h', .inl ⟨h1, h3⟩, h4⟩
theorem inv_al {i : Nat} {o : AOp} {ts : List Nat} {xs : List TL} {g : RG} {k : SC} (e : runS AProp P G cs csd lo K (.al i o ts (xs.map (TL.ta n)) (g.ta n) k) env J h pd) :
    (g.sem env = some true ∧ ∃ obj kd, allocOf (opdT G ts (xs.map (TL.val env))) o = some (obj, kd) ∧ runS AProp P G cs csd lo K k (kd.val h.next :: env) J (h.push .dead) ((i, h.next, obj) :: pd)) ∨
      (g.sem env = some false ∧ runS AProp P G cs csd lo K k (undef :: env) J h pd) := by
  cases g with
  | none =>
    obtain ⟨obj, kd, h1, h2⟩ := alcP (show alc AProp i (allocOf (opdT G ts (tvals env (xs.map (TL.ta n)))) o) h pd (fun v h pd => runS AProp P G cs csd lo K k (v :: env) J h pd) from e)
    rw [tvals_ta hn] at h1
    exact .inl ⟨rfl, obj, kd, h1, h2⟩
  | some q =>
    obtain ⟨x, w⟩ := q
    have e' : gb AProp ((x.ta n).val env) w (runS AProp P G cs csd lo K k (undef :: env) J h pd) (alc AProp i (allocOf (opdT G ts (tvals env (xs.map (TL.ta n)))) o) h pd fun v h pd => runS AProp P G cs csd lo K k (v :: env) J h pd) := e
    rw [TL.ta_val hn] at e'
    rcases gbP e' with ⟨h1, h2⟩ | ⟨h1, h2⟩
    · exact .inr ⟨h1, h2⟩
    · obtain ⟨obj, kd, h3, h4⟩ := alcP h2
      rw [tvals_ta hn] at h3
      exact .inl ⟨h1, obj, kd, h3, h4⟩
theorem inv_ca {f : FuncId} {xs : List TL} {g : RG} {k : SC} (e : runS AProp P G cs csd lo K (.ca f (xs.map (TL.ta n)) (g.ta n) k) env J h pd) :
    (g.sem env = some true ∧ cs f (xs.map (TL.val env)) h fun v h => runS AProp P G cs csd lo K k (v :: env) J h pd) ∨ (g.sem env = some false ∧ runS AProp P G cs csd lo K k (undef :: env) J h pd) := by
  cases g with
  | none =>
    have e' : cs f (tvals env (xs.map (TL.ta n))) h fun v h => runS AProp P G cs csd lo K k (v :: env) J h pd := e
    rw [tvals_ta hn] at e'
    exact .inl ⟨rfl, e'⟩
  | some q =>
    obtain ⟨x, w⟩ := q
    have e' : gb AProp ((x.ta n).val env) w (runS AProp P G cs csd lo K k (undef :: env) J h pd) (cs f (tvals env (xs.map (TL.ta n))) h fun v h => runS AProp P G cs csd lo K k (v :: env) J h pd) := e
    rw [TL.ta_val hn, tvals_ta hn] at e'
    rcases gbP e' with ⟨h1, h2⟩ | ⟨h1, h2⟩
    · exact .inr ⟨h1, h2⟩
    · exact .inl ⟨h1, h2⟩
theorem inv_nx {it : TL} {g : RG} {k : SC} (e : runS AProp P G cs csd lo K (.nx (it.ta n) (g.ta n) k) env J h pd) :
    (g.sem env = some true ∧ nextA AProp h (fun v h => runS AProp P G cs csd lo K k (v :: env) J h pd) (some (it.val env))) ∨ (g.sem env = some false ∧ runS AProp P G cs csd lo K k (undef :: env) J h pd) := by
  cases g with
  | none =>
    have e' : nextA AProp h (fun v h => runS AProp P G cs csd lo K k (v :: env) J h pd) (some ((it.ta n).val env)) := e
    rw [TL.ta_val hn] at e'
    exact .inl ⟨rfl, e'⟩
  | some q =>
    obtain ⟨x, w⟩ := q
    have e' : gb AProp ((x.ta n).val env) w (runS AProp P G cs csd lo K k (undef :: env) J h pd) (nextA AProp h (fun v h => runS AProp P G cs csd lo K k (v :: env) J h pd) (some ((it.ta n).val env))) := e
    rw [TL.ta_val hn, TL.ta_val hn] at e'
    rcases gbP e' with ⟨h1, h2⟩ | ⟨h1, h2⟩
    · exact .inr ⟨h1, h2⟩
    · exact .inl ⟨h1, h2⟩
theorem inv_rp {o : PO} {xs : List TL} {g : RG} {u : TL} {k : SC} (e : runS AProp P G cs csd lo K (.rp o (xs.map (TL.ta n)) (g.ta n) (u.ta n) k) env J h pd) :
    ((g.sem env = some true ∧ o.run P G (xs.map (TL.val env)) = some (u.val env)) ∨ g.sem env = some false) ∧ runS AProp P G cs csd lo K k env J h pd := by
  cases g with
  | none =>
    obtain ⟨h1, h2⟩ := rbP (show rb AProp (o.run P G (tvals env (xs.map (TL.ta n)))) ((u.ta n).val env) _ from e)
    rw [tvals_ta hn, TL.ta_val hn] at h1
    exact ⟨.inl ⟨rfl, h1⟩, h2⟩
  | some q =>
    obtain ⟨x, w⟩ := q
    have e' : gb AProp ((x.ta n).val env) w (runS AProp P G cs csd lo K k env J h pd) (rb AProp (o.run P G (tvals env (xs.map (TL.ta n)))) ((u.ta n).val env) (runS AProp P G cs csd lo K k env J h pd)) := e
    rw [TL.ta_val hn, tvals_ta hn, TL.ta_val hn] at e'
    rcases gbP e' with ⟨h1, h2⟩ | ⟨h1, h2⟩
    · exact ⟨.inr h1, h2⟩
    · obtain ⟨h3, h4⟩ := rbP h2
      exact ⟨.inl ⟨h1, h3⟩, h4⟩
theorem inv_rm {o : MO} {xs : List TL} {g : RG} {u : TL} {k : SC} (e : runS AProp P G cs csd lo K (.rm o (xs.map (TL.ta n)) (g.ta n) (u.ta n) k) env J h pd) :
    ((g.sem env = some true ∧ o.run P G h (xs.map (TL.val env)) = some (u.val env)) ∨ g.sem env = some false) ∧ runS AProp P G cs csd lo K k env J h pd := by
  cases g with
  | none =>
    obtain ⟨h1, h2⟩ := rbP (show rb AProp (o.run P G h (tvals env (xs.map (TL.ta n)))) ((u.ta n).val env) _ from e)
    rw [tvals_ta hn, TL.ta_val hn] at h1
    exact ⟨.inl ⟨rfl, h1⟩, h2⟩
  | some q =>
    obtain ⟨x, w⟩ := q
    have e' : gb AProp ((x.ta n).val env) w (runS AProp P G cs csd lo K k env J h pd) (rb AProp (o.run P G h (tvals env (xs.map (TL.ta n)))) ((u.ta n).val env) (runS AProp P G cs csd lo K k env J h pd)) := e
    rw [TL.ta_val hn, tvals_ta hn, TL.ta_val hn] at e'
    rcases gbP e' with ⟨h1, h2⟩ | ⟨h1, h2⟩
    · exact ⟨.inr h1, h2⟩
    · obtain ⟨h3, h4⟩ := rbP h2
      exact ⟨.inl ⟨h1, h3⟩, h4⟩
end

/-! ### Steps -/
def nones : Nat → List (Option TL) → List (Option TL)
  | 0, lm => lm
  | j + 1, lm => none :: nones j lm
theorem LmR.nones {env : List Value} {lm : List (Option TL)} {L : List Value} (h : LmR env lm L) : ∀ {j : Nat} {Ls : List Value}, Ls.length = j → LmR env (nones j lm) (Ls ++ L)
  | 0, [], _ => h
  | j + 1, v :: Ls, e => (LmR.nones h (j := j) (Ls := Ls) (by simpa using e)).none v
  | 0, _ :: _, e => by cases e
  | _ + 1, [], e => by cases e
def isMv : KF → Bool
  | .mv => true
  | _ => false
abbrev KSt := List (Option TL) → Nat → Bool → Option SC
def cOp (n : Nat) (lm : List (Option TL)) (d : Bool) (gd : RG) (k : KSt) : TO → Option SC
  | .p o ys => (k (some (.l n) :: lm) (n + 1) d).map (.p o (ys.map (TL.ta n)) (gd.ta n))
  | .m o ys => (k (some (.l n) :: lm) (n + 1) d).map (.m o (ys.map (TL.ta n)) (gd.ta n))
  | .h o ys => (k (some (.l n) :: lm) (n + 1) d).map (.h o (ys.map (TL.ta n)) (gd.ta n))
  | .w o ys => (k (none :: lm) n d).map (.w o (ys.map (TL.ta n)) (gd.ta n))
def cRe (n : Nat) (gd : RG) (u : TL) (sc : Option SC) : TO → Option SC
  | .p o ys => sc.map (.rp o (ys.map (TL.ta n)) (gd.ta n) (u.ta n))
  | .m o ys => sc.map (.rm o (ys.map (TL.ta n)) (gd.ta n) (u.ta n))
  | _ => none
def aliasOf (f : KF) (ts : List TL) (gd : RG) : Option TL := cond (isMv f) (match ts, gd with
  | [x], none => some x
  | _, _ => none) none
def cOne (P : Program) (G : Nat) (σ : Tr TL) (s : KS) (lm : List (Option TL)) (n : Nat) (d : Bool) (k : KSt) : Option SC := match s with
  | .op f xs g => match rkas σ lm xs, rkg σ lm g with
    | some ts, some gd => match aliasOf f ts gd with
      | some x => k (some x :: lm) n d
      | none => cOp n lm d gd k (toOf P G ts f)
    | _, _ => none
  | .alloc i f ts xs g => match rkas σ lm xs, rkg σ lm g with
    | some as, some gd => (k (some (.l n) :: lm) (n + 1) true).map (.al i f ts (as.map (TL.ta n)) (gd.ta n))
    | _, _ => none
  | .call f xs g => match rkas σ lm xs, rkg σ lm g with
    | some as, some gd => (k (some (.l n) :: lm) (n + 1) d).map (.ca f (as.map (TL.ta n)) (gd.ta n))
    | _, _ => none
  | .next it g => match rka σ lm it, rkg σ lm g with
    | some a, some gd => (k (some (.l n) :: lm) (n + 1) d).map (.nx (a.ta n) (gd.ta n))
    | _, _ => none
  | .chk a => match rka σ lm a with
    | some _ => k lm n d
    | none => none
  | .abs i => (k lm n d).map (.ab i)
  | .re f xs g u => match rkas σ lm xs, rkg σ lm g, rka σ lm u with
    | some ts, some gd, some u => cRe n gd u (k lm n d) (toOf P G ts f)
    | _, _, _ => none
def cFz (n : Nat) (lm : List (Option TL)) (d : Bool) (k : KSt) (g : RG) (j : Nat) : FZ → Option SC
  | .m o xs => (k (some (.l n) :: nones j lm) (n + 1) d).map (.m o (xs.map (TL.ta n)) (g.ta n))
  | .w o xs => (k (nones (j + 1) lm) n d).map (.w o (xs.map (TL.ta n)) (g.ta n))
  | .h o xs => (k (nones j (some (.l n) :: lm)) (n + 1) d).map (.h o (xs.map (TL.ta n)) (g.ta n))
def cSt (P : Program) (G : Nat) (fz : Bool) (σ : Tr TL) : Nat → List KS → List (Option TL) → Nat → Bool → KSt → Option SC
  | 0, _, _, _, _, _ => none
  | _ + 1, [], lm, n, d, k => k lm n d
  | f + 1, s :: l, lm, n, d, k => match cond fz (fuse P G σ lm d s l) none with
    | some (z, g, j, l') => cFz n lm d (fun lm n d => cSt P G fz σ f l' lm n d k) g j z
    | none => cOne P G σ s lm n d fun lm n d => cSt P G fz σ f l lm n d k

section
variable {cs csd : CS Prop} (hm : CsR id cs cs) {lo : LS Prop} {K : Value → AH → Prop} {J : List (JT Prop)} {σ : Tr TL} {t : Tr Value}
/-- What a compiled rest is good for. -/
def KOk (P : Program) (G : Nat) (cs csd : CS Prop) (lo : LS Prop) (K : Value → AH → Prop) (J : List (JT Prop)) (env : List Value) (k : KSt) (Q : KK Prop) : Prop :=
  ∀ lm' n' d' sc' env' h' pd' L', k lm' n' d' = some sc' → ExL env env' → env'.length = n' → LmR env' lm' L' → (d' = false → pd' = []) → runS AProp P G cs csd lo K sc' env' J h' pd' → Q L' h' pd'
theorem KOk.ext {env env' : List Value} {k : KSt} {Q : KK Prop} (h : KOk P G cs csd lo K J env k Q) (e : ExL env env') : KOk P G cs csd lo K J env' k Q :=
  fun lm' n' d' sc' env2 h' pd' L' h1 h2 => h lm' n' d' sc' env2 h' pd' L' h1 (e.trans h2)

theorem kop_ok {l : List KS} {L : List Value} {h h' : AH} {pd : Pd} {Q : KK Prop} {f : KF} {xs : List KA} {g : KG} {b : Option Bool} {v : Value} (hg : kwant t L g = b)
    (hb : (b = some true ∧ ∃ vs, kvals t L xs = some vs ∧ f.run P G h vs = some (v, h')) ∨ (b = some false ∧ v = undef ∧ h' = h)) (hk : kSteps AProp P G cs t l (v :: L) h' pd Q) : kSteps AProp P G cs t (.op f xs g :: l) L h pd Q := by
  rcases hb with ⟨rfl, vs, h1, h2⟩ | ⟨rfl, rfl, rfl⟩
  · exact ks_t hg h1 h2 hk
  · exact ks_f hg hk

include hm in
theorem one_ok {s : KS} {l : List KS} {lm : List (Option TL)} {n : Nat} {d : Bool} {k : KSt} {sc : SC} {env L : List Value} {h : AH} {pd : Pd} {Q : KK Prop} (hc : cOne P G σ s lm n d k = some sc) (hn : env.length = n)
    (hσ : FrV σ env t) (hl : LmR env lm L) (hd : d = false → pd = []) (hk : KOk P G cs csd lo K J env k (fun L h pd => kSteps AProp P G cs t l L h pd Q)) (hr : runS AProp P G cs csd lo K sc env J h pd) :
    kSteps AProp P G cs t (s :: l) L h pd Q := by
  have new : ∀ v, LmR (v :: env) (some (.l n) :: lm) (v :: L) := fun v => by
    subst hn
    exact (hl.ext (ExL.cons v env)).some (TL.ok_new v env) (TL.val_new v env)
  have ln : ∀ v, (v :: env).length = n + 1 := fun v => by simp [hn]
  cases s with
  | op f xs g =>
    simp only [cOne] at hc
    split at hc
    · rename_i ts gd hts hgd
      have hg := rkg_ok hσ hl hgd
      have hv := rkas_ok hσ hl hts
      have tr := toOf_ok (P := P) (G := G) (xs := ts) f
      split at hc
      · rename_i x hx
        have : f = .mv ∧ ts = [x] ∧ gd = none := by
          unfold aliasOf at hx
          obtain ⟨h1, h2⟩ := cond_some hx
          split at h2
          · cases h2
            refine ⟨?_, rfl, rfl⟩
            cases f <;> first | rfl | cases h1
          · cases h2
        obtain ⟨rfl, rfl, rfl⟩ := this
        refine ks_t hg hv (v := x.val env) (h' := h) rfl ?_
        have hok : x.ok env.length = true := by
          cases xs with
          | nil => cases hts
          | cons a xs =>
            simp only [rkas] at hts
            split at hts
            · rename_i y r hy hr2
              cases hts
              exact (rka_ok hσ hl hy).1
            · cases hts
        exact hk _ _ _ _ _ _ _ _ hc (ExL.refl _) hn (hl.some hok rfl) hd hr
      · cases ht : toOf P G ts f with
        | p o ys =>
          rw [ht] at hc tr
          obtain ⟨sc', h1, rfl⟩ := Option.map_eq_some_iff.1 hc
          obtain ⟨v, h2, h3⟩ := inv_p hn hr
          refine kop_ok hg ?_ (hk _ _ _ _ _ _ _ _ h1 (ExL.cons v env) (ln v) (new v) hd h3)
          rcases h2 with ⟨h4, h5⟩ | ⟨h4, rfl⟩
          · exact .inl ⟨h4, _, hv, tr env h v h (by simp only [TO.run, h5, Option.map_some])⟩
          · exact .inr ⟨h4, rfl, rfl⟩
        | m o ys =>
          rw [ht] at hc tr
          obtain ⟨sc', h1, rfl⟩ := Option.map_eq_some_iff.1 hc
          obtain ⟨v, h2, h3⟩ := inv_m hn hr
          refine kop_ok hg ?_ (hk _ _ _ _ _ _ _ _ h1 (ExL.cons v env) (ln v) (new v) hd h3)
          rcases h2 with ⟨h4, h5⟩ | ⟨h4, rfl⟩
          · exact .inl ⟨h4, _, hv, tr env h v h (by simp only [TO.run, h5, Option.map_some])⟩
          · exact .inr ⟨h4, rfl, rfl⟩
        | h o ys =>
          rw [ht] at hc tr
          obtain ⟨sc', h1, rfl⟩ := Option.map_eq_some_iff.1 hc
          obtain ⟨v, h', h2, h3⟩ := inv_h hn hr
          refine kop_ok hg ?_ (hk _ _ _ _ _ _ _ _ h1 (ExL.cons v env) (ln v) (new v) hd h3)
          rcases h2 with ⟨h4, h5⟩ | ⟨h4, rfl, rfl⟩
          · exact .inl ⟨h4, _, hv, tr env h v h' h5⟩
          · exact .inr ⟨h4, rfl, rfl⟩
        | w o ys =>
          rw [ht] at hc tr
          obtain ⟨sc', h1, rfl⟩ := Option.map_eq_some_iff.1 hc
          obtain ⟨h', h2, h3⟩ := inv_w hn hr
          refine kop_ok (v := undef) hg ?_ (hk _ _ _ _ _ _ _ _ h1 (ExL.refl env) hn (hl.none undef) hd h3)
          rcases h2 with ⟨h4, h5⟩ | ⟨h4, rfl⟩
          · exact .inl ⟨h4, _, hv, tr env h undef h' (by simp only [TO.run, h5, Option.map_some])⟩
          · exact .inr ⟨h4, rfl, rfl⟩
    · cases hc
  | alloc i f ts xs g =>
    simp only [cOne] at hc
    split at hc
    · rename_i as gd hts hgd
      have hg := rkg_ok hσ hl hgd
      have hv := rkas_ok hσ hl hts
      obtain ⟨sc', h1, rfl⟩ := Option.map_eq_some_iff.1 hc
      show Option.rec (motive := fun _ => Prop) False (fun b => Bool.rec (motive := fun _ => Prop) (kSteps AProp P G cs t l (undef :: L) h pd Q) (Option.rec (motive := fun _ => Prop) False (fun vs => Option.rec (motive := fun _ => Prop) False
        (fun r => Prod.rec (motive := fun _ => Prop) (fun obj k => kSteps AProp P G cs t l (k.val h.next :: L) (h.push .dead) ((i, h.next, obj) :: pd) Q) r) (allocOf (opdT G ts vs) f)) (kvals t L xs)) b) (kwant t L g)
      rw [hg]
      rcases inv_al hn hr with ⟨h2, obj, kd, h3, h4⟩ | ⟨h2, h4⟩
      · rw [h2]
        simp only
        rw [hv]
        simp only
        rw [h3]
        exact hk _ _ _ _ _ _ _ _ h1 (ExL.cons _ env) (ln _) (new _) (fun e => by cases e) h4
      · rw [h2]
        exact hk _ _ _ _ _ _ _ _ h1 (ExL.cons _ env) (ln _) (new _) (fun e => by cases e) h4
    · cases hc
  | call f xs g =>
    simp only [cOne] at hc
    split at hc
    · rename_i as gd hts hgd
      have hg := rkg_ok hσ hl hgd
      have hv := rkas_ok hσ hl hts
      obtain ⟨sc', h1, rfl⟩ := Option.map_eq_some_iff.1 hc
      show Option.rec (motive := fun _ => Prop) False (fun b => Bool.rec (motive := fun _ => Prop) (kSteps AProp P G cs t l (undef :: L) h pd Q) (Option.rec (motive := fun _ => Prop) False (fun vs => cs f vs h fun v h => kSteps AProp P G cs t l (v :: L) h pd Q) (kvals t L xs)) b) (kwant t L g)
      rw [hg]
      rcases inv_ca hn hr with ⟨h2, h4⟩ | ⟨h2, h4⟩
      · rw [h2]
        simp only
        rw [hv]
        exact hm _ _ _ _ _ (fun v h' h5 => hk _ _ _ _ _ _ _ _ h1 (ExL.cons _ env) (ln _) (new _) hd h5) h4
      · rw [h2]
        exact hk _ _ _ _ _ _ _ _ h1 (ExL.cons _ env) (ln _) (new _) hd h4
    · cases hc
  | next it g =>
    simp only [cOne] at hc
    split at hc
    · rename_i a gd hts hgd
      have hg := rkg_ok hσ hl hgd
      have hv := (rka_ok hσ hl hts).2
      obtain ⟨sc', h1, rfl⟩ := Option.map_eq_some_iff.1 hc
      show Option.rec (motive := fun _ => Prop) False (fun b => Bool.rec (motive := fun _ => Prop) (kSteps AProp P G cs t l (undef :: L) h pd Q) (nextA AProp h (fun v h => kSteps AProp P G cs t l (v :: L) h pd Q) (kval t L it)) b) (kwant t L g)
      rw [hg]
      rcases inv_nx hn hr with ⟨h2, h4⟩ | ⟨h2, h4⟩
      · rw [h2]
        simp only
        rw [hv]
        exact next_rel good_prop (fun v h' h5 => hk _ _ _ _ _ _ _ _ h1 (ExL.cons _ env) (ln _) (new _) hd h5) h4
      · rw [h2]
        exact hk _ _ _ _ _ _ _ _ h1 (ExL.cons _ env) (ln _) (new _) hd h4
    · cases hc
  | chk a =>
    simp only [cOne] at hc
    split at hc
    · rename_i x hx
      rw [st_chk (rka_ok hσ hl hx).2]
      exact hk _ _ _ _ _ _ _ _ hc (ExL.refl _) hn hl hd hr
    · cases hc
  | abs i =>
    obtain ⟨sc', h1, rfl⟩ := Option.map_eq_some_iff.1 hc
    have hr' : abl i h pd (fun h pd => runS AProp P G cs csd lo K sc' env J h pd) := hr
    show kAbs i L h pd (fun L h pd => kSteps AProp P G cs t l L h pd Q)
    unfold abl at hr'
    unfold kAbs
    cases hp : takePd pd i with
    | none =>
      rw [hp] at hr'
      exact hk _ _ _ _ _ _ _ _ h1 (ExL.refl _) hn hl hd hr'
    | some q =>
      rw [hp] at hr'
      exact hk _ _ _ _ _ _ _ _ h1 (ExL.refl _) hn hl (fun e => by rw [hd e] at hp; cases hp) hr'
  | re f xs g u =>
    simp only [cOne] at hc
    split at hc
    · rename_i ts gd u' hts hgd hu
      have hg := rkg_ok hσ hl hgd
      have hv := rkas_ok hσ hl hts
      have hu' := (rka_ok hσ hl hu).2
      have tr := toOf_ok (P := P) (G := G) (xs := ts) f
      have fin : ∀ {sc'}, k lm n d = some sc' → (gd.sem env = some true ∧ f.run P G h (ts.map (TL.val env)) = some (u'.val env, h)) ∨ gd.sem env = some false → runS AProp P G cs csd lo K sc' env J h pd → kSteps AProp P G cs t (.re f xs g u :: l) L h pd Q := by
        intro sc' h1 h2 h3
        have h4 := hk _ _ _ _ _ _ _ _ h1 (ExL.refl _) hn hl hd h3
        show Option.rec (motive := fun _ => Prop) False (fun b => Bool.rec (motive := fun _ => Prop) (kSteps AProp P G cs t l L h pd Q) (Option.rec (motive := fun _ => Prop) False (fun vs => Option.rec (motive := fun _ => Prop) False
          (fun r => Prod.rec (motive := fun _ => Prop) (fun v _ => Option.rec (motive := fun _ => Prop) False (fun u => v = u ∧ kSteps AProp P G cs t l L h pd Q) (kval t L u)) r) (f.run P G h vs)) (kvals t L xs)) b) (kwant t L g)
        rw [hg]
        rcases h2 with ⟨h5, h6⟩ | h5
        · rw [h5]
          simp only
          rw [hv]
          simp only
          rw [h6]
          simp only
          rw [hu']
          exact ⟨rfl, h4⟩
        · rw [h5]; exact h4
      cases ht : toOf P G ts f with
      | p o ys =>
        rw [ht] at hc tr
        obtain ⟨sc', h1, rfl⟩ := Option.map_eq_some_iff.1 hc
        obtain ⟨h2, h3⟩ := inv_rp hn hr
        refine fin h1 ?_ h3
        rcases h2 with ⟨h4, h5⟩ | h4
        · exact .inl ⟨h4, tr env h _ h (by simp only [TO.run, h5, Option.map_some])⟩
        · exact .inr h4
      | m o ys =>
        rw [ht] at hc tr
        obtain ⟨sc', h1, rfl⟩ := Option.map_eq_some_iff.1 hc
        obtain ⟨h2, h3⟩ := inv_rm hn hr
        refine fin h1 ?_ h3
        rcases h2 with ⟨h4, h5⟩ | h4
        · exact .inl ⟨h4, tr env h _ h (by simp only [TO.run, h5, Option.map_some])⟩
        · exact .inr h4
      | h o ys => rw [ht] at hc; cases hc
      | w o ys => rw [ht] at hc; cases hc
    · cases hc

include hm in
theorem cSt_ok {fz : Bool} : ∀ {f : Nat} {l : List KS} {lm : List (Option TL)} {n : Nat} {d : Bool} {k : KSt} {sc : SC} {env L : List Value} {h : AH} {pd : Pd} {Q : KK Prop}, cSt P G fz σ f l lm n d k = some sc → env.length = n →
    FrV σ env t → LmR env lm L → (d = false → pd = []) → KOk P G cs csd lo K J env k Q → runS AProp P G cs csd lo K sc env J h pd → kSteps AProp P G cs t l L h pd Q := by
  intro f
  induction f with
  | zero => intro l lm n d k sc env L h pd Q hc; cases hc
  | succ f ih =>
    intro l lm n d k sc env L h pd Q hc hn hσ hl hd hk hr
    have fx : ∀ {env'}, ExL env env' → FrV σ env' t := fun {env'} e p a hp => by
      obtain ⟨h1, h2⟩ := hσ p a hp
      exact ⟨TL.ok_ext h1 e, by rw [TL.val_ext h1 e]; exact h2⟩
    cases l with
    | nil => exact hk _ _ _ _ _ _ _ _ hc (ExL.refl _) hn hl hd hr
    | cons s l =>
      simp only [cSt] at hc
      split at hc
      · rename_i z g j l' hz
        have hz' : fuse P G σ lm d s l = some (z, g, j, l') := by
          cases fz with
          | true => exact hz
          | false => cases hz
        have hf := fuse_ok (P := P) (G := G) (cs := cs) hσ hl hz' h pd Q hd
        have new : ∀ v, LmR (v :: env) (some (.l n) :: lm) (v :: L) := fun v => by
          subst hn
          exact (hl.ext (ExL.cons v env)).some (TL.ok_new v env) (TL.val_new v env)
        have ln : ∀ v, (v :: env).length = n + 1 := fun v => by simp [hn]
        cases z with
        | m o xs =>
          obtain ⟨sc', h1, rfl⟩ := Option.map_eq_some_iff.1 hc
          obtain ⟨v, h2, h3⟩ := inv_m hn hr
          obtain ⟨Ls, h4, h5⟩ := hf v h2
          refine h5 (ih h1 (ln v) (fx (ExL.cons v env)) ?_ hd (hk.ext (ExL.cons v env)) h3)
          subst hn
          exact ((hl.nones h4).ext (ExL.cons v env)).some (TL.ok_new v env) (TL.val_new v env)
        | w o xs =>
          obtain ⟨sc', h1, rfl⟩ := Option.map_eq_some_iff.1 hc
          obtain ⟨h', h2, h3⟩ := inv_w hn hr
          obtain ⟨Ls, h4, h5⟩ := hf h' h2
          exact h5 (ih h1 hn hσ (hl.nones h4) hd hk h3)
        | h o xs =>
          obtain ⟨sc', h1, rfl⟩ := Option.map_eq_some_iff.1 hc
          obtain ⟨v, h', h2, h3⟩ := inv_h hn hr
          obtain ⟨Ls, h4, h5⟩ := hf v h' h2
          exact h5 (ih h1 (ln v) (fx (ExL.cons v env)) ((new v).nones h4) hd (hk.ext (ExL.cons v env)) h3)
      · refine one_ok hm hc hn hσ hl hd (fun lm' n' d' sc' env' h' pd' L' h1 h2 h3 h4 h5 h6 => ?_) hr
        exact ih h1 h3 (fx h2) h4 h5 (hk.ext h2) h6
end
end Go.Am

/-
  A machine whose code names each value once, part 8: code and functions, made into its code.
-/
namespace Go.Am
open Go
variable {P : Program} {G : Nat}

/-! ### Which slots are written; what stays -/
def wrWb : List (Pa × KA) → Tr Unit → Tr Unit
  | [], w => w
  | p :: l, w => wrWb l (setQ (some ()) p.1 w)
def wrK : KC → Tr Unit → Tr Unit
  | .reg _ wb, w => wrWb wb w
  | .seq a b, w => wrK b (wrK a w)
  | .cond _ a b, w => wrK b (wrK a w)
  | .block _ b, w => wrK b w
  | .loop b, w => wrK b w
  | _, w => w
def hasD : KC → Bool
  | .dfr _ _ => true
  | .seq a b => hasD a || hasD b
  | .cond _ a b => hasD a || hasD b
  | .block _ b => hasD b
  | .loop b => hasD b
  | _ => false
def usesX (id : Nat) : KC → Bool
  | .exit i => Nat.beq i id
  | .seq a b => usesX id a || usesX id b
  | .cond _ a b => usesX id a || usesX id b
  | .block i b => !Nat.beq i id && usesX id b
  | .loop b => usesX id b
  | _ => false
def falls : KC → Bool
  | .seq a b => falls a && falls b
  | .cond _ a b => falls a || falls b
  | .block id b => falls b || usesX id b
  | .loop _ => false
  | .exit _ => false
  | .ret => false
  | _ => true
def minusT : Tr TL → Tr Unit → Tr TL
  | .leaf, _ => .leaf
  | .node v l r, w => .node (match w.val with | some _ => none | none => v) (minusT l w.left) (minusT r w.right)
def tlEq : TL → TL → Bool
  | .l i, .l j => Nat.beq i j
  | .c x, .c y => eqvF 5 x y
  | _, _ => false
theorem tlEq_ok {a b : TL} (h : tlEq a b = true) : a = b := by
  cases a <;> cases b <;> simp only [tlEq] at h
  · rw [Nat.beq_eq] at h; rw [h]
  · cases h
  · cases h
  · rw [eqvF_eq 5 _ _ h]
def subT : Tr TL → Tr TL → Bool
  | .leaf, _ => true
  | .node v l r, s => (match v with
    | none => true
    | some a => match s.val with
      | some b => tlEq a b
      | none => false) && subT l s.left && subT r s.right
theorem subT_ok : ∀ {b s : Tr TL}, subT b s = true → ∀ {p : Pa} {a : TL}, getQ p b = some a → getQ p s = some a
  | .leaf, s, _, p, a, h => by rw [getQ_leaf] at h; cases h
  | .node v l r, s, hs, p, a, h => by
    simp only [subT, Bool.and_eq_true] at hs
    cases p with
    | z =>
      have hv : v = some a := h
      subst hv
      have h1 := hs.1.1
      simp only at h1
      show s.val = some a
      cases hs' : s.val with
      | none => rw [hs'] at h1; cases h1
      | some b => rw [hs'] at h1; rw [tlEq_ok h1]
    | l p => exact subT_ok (b := l) (s := s.left) hs.1.2 h
    | r p => exact subT_ok (b := r) (s := s.right) hs.2 h

/-! ### Joins -/
structure BI where
  id : Nat
  jl : Nat
  ps : List Pa
  dp : Bool
  base : Tr TL
  d : TL
def BI.np (b : BI) : Nat := b.ps.length + cond b.dp 1 0
def putPs : List Pa → Nat → Tr TL → Tr TL
  | [], _, t => t
  | p :: ps, n, t => putPs ps (n + 1) (setQ (some (.l n)) p t)
def BI.tgt (b : BI) (n : Nat) : SG := ⟨putPs b.ps n b.base, cond b.dp (.l (n + b.ps.length)) b.d⟩
def argsAt (t : Tr TL) : List Pa → Option (List TL)
  | [] => some []
  | p :: ps => match getQ p t, argsAt t ps with
    | some a, some r => some (a :: r)
    | _, _ => none
def cArgs (b : BI) (σ : SG) : Option (List TL) := match argsAt σ.t b.ps with
  | some as => cond (subT b.base σ.t && (b.dp || tlEq b.d σ.d)) (some (cond b.dp (as ++ [σ.d]) as)) none
  | none => none
def cJump (b : BI) (σ : SG) (n m : Nat) : Option SC := (cArgs b σ).map fun as => .jp (m - 1 - b.jl) (as.map (TL.ta n))
def mkBI (id m : Nat) (js : List Pa) (w : Tr Unit) (dp : Bool) (σ : SG) : BI :=
  { id := id, jl := m, ps := js.filter fun p => (getQ p w).isSome && (getQ p σ.t).isSome, dp := dp, base := minusT σ.t w, d := σ.d }
def findBI (id : Nat) : List BI → Option BI
  | [] => none
  | b :: l => cond (Nat.beq b.id id) (some b) (findBI id l)
def delBI (id : Nat) : List BI → List BI
  | [] => []
  | b :: l => cond (Nat.beq b.id id) (delBI id l) (b :: delBI id l)
def cWb (σ : Tr TL) (lm : List (Option TL)) : List (Pa × KA) → Tr TL → Tr TL
  | [], t => t
  | p :: l, t => cWb σ lm l (setQ (rka σ lm p.2) p.1 t)
def zOf (d : Bool) (s : SC) : SC := cond d (.z s) s
def isRe : KS → Bool
  | .re _ _ _ _ => true
  | _ => false
abbrev KCo := SG → Nat → Nat → Option SC
def cS (P : Program) (G : Nat) (fz : Bool) (js : List Pa) (rt : SG → Nat → Option SC) : KC → SG → Nat → Nat → List BI → KCo → Option SC
  | .skip, σ, n, m, _, k => k σ n m
  | .dfr f as, σ, n, m, _, k => match rkas σ.t [] as with
    | some ts => (k { σ with d := .l n } (n + 1) m).map (.p (.dfr f) ((σ.d :: ts).map (TL.ta n)) .no)
    | none => none
  | .reg l wb, σ, n, m, _, k => cSt P G (fz && !l.any isRe) σ.t (l.length + 1) l [] n false fun lm n d => (k { σ with t := cWb σ.t lm wb σ.t } n m).map (zOf d)
  | .seq a b, σ, n, m, ctx, k => cS P G fz js rt a σ n m ctx fun σ n m => cS P G fz js rt b σ n m ctx k
  | .cond c a b, σ, n, m, ctx, k => match rka σ.t [] c with
    | some x => cond (falls a && falls b)
        (match (mkBI 0 m js (wrK b (wrK a .leaf)) (hasD a || hasD b) σ) with
        | bi => match k (bi.tgt n) (n + bi.np) m, cS P G fz js rt a σ n (m + 1) ctx (cJump bi), cS P G fz js rt b σ n (m + 1) ctx (cJump bi) with
          | some j, some a, some b => some (.jn bi.np j (.cd (x.ta n) a b))
          | _, _, _ => none)
        (match cS P G fz js rt a σ n m ctx k, cS P G fz js rt b σ n m ctx k with
        | some a, some b => some (.cd (x.ta n) a b)
        | _, _ => none)
    | none => none
  | .block id b, σ, n, m, ctx, k => cond (usesX id b)
      (match (mkBI id m js (wrK b .leaf) (hasD b) σ) with
      | bi => match k (bi.tgt n) (n + bi.np) m, cS P G fz js rt b σ n (m + 1) (bi :: ctx) (cJump bi) with
        | some j, some b => some (.jn bi.np j b)
        | _, _ => none)
      (cS P G fz js rt b σ n m (delBI id ctx) k)
  | .loop b, σ, n, m, ctx, _ => match (mkBI 0 m js (wrK b .leaf) (hasD b) σ) with
    | bi => match cArgs bi σ, cS P G fz js rt b (bi.tgt n) (n + bi.np) (m + 1) ctx (cJump bi) with
      | some as, some b => some (.lp bi.np (as.map (TL.ta n)) b)
      | _, _ => none
  | .exit id, σ, n, m, ctx, _ => match findBI id ctx with
    | some bi => cJump bi σ n m
    | none => none
  | .ret, σ, n, _, _, _ => rt σ n

/-! ### What a join is good for -/
inductive PV (t : Tr Value) : List Pa → List Value → Prop
  | nil : PV t [] []
  | cons {p : Pa} {v : Value} {ps : List Pa} {vs : List Value} (h : getP p t = some v) (r : PV t ps vs) : PV t (p :: ps) (v :: vs)
theorem PV.len {t : Tr Value} {ps : List Pa} {vs : List Value} (h : PV t ps vs) : vs.length = ps.length := by
  induction h with
  | nil => rfl
  | cons _ _ ih => simp [ih]
theorem argsAt_pv {σ : Tr TL} {env : List Value} {t : Tr Value} (hσ : FrV σ env t) : ∀ {ps : List Pa} {as : List TL}, argsAt σ ps = some as → PV t ps (as.map (TL.val env)) ∧ ∀ a ∈ as, a.ok env.length = true
  | [], as, h => by cases h; exact ⟨.nil, by simp⟩
  | p :: ps, as, h => by
    simp only [argsAt] at h
    split at h
    · rename_i a r ha hr
      cases h
      obtain ⟨h1, h2⟩ := hσ p a ha
      obtain ⟨h3, h4⟩ := argsAt_pv hσ hr
      refine ⟨.cons h2 h3, fun b hb => ?_⟩
      rcases List.mem_cons.1 hb with rfl | hb
      · exact h1
      · exact h4 b hb
    · cases h
theorem putPs_ok {t : Tr Value} : ∀ {ps : List Pa} {vs env : List Value} {n : Nat} {σ : Tr TL}, PV t ps vs → env.length = n → FrV σ env t → FrV (putPs ps n σ) (vs.reverse ++ env) t
  | [], _, env, n, σ, .nil, hn, hσ => hσ
  | p :: ps, _, env, n, σ, .cons (v := v) (vs := vs) h r, hn, hσ => by
    have h1 : FrV (setQ (some (.l n)) p σ) (v :: env) t := by
      intro q a hq
      by_cases e : q = p
      · subst e
        rw [getQ_same] at hq; cases hq
        subst hn
        exact ⟨TL.ok_new v env, by rw [TL.val_new]; exact h⟩
      · rw [getQ_ne _ _ _ _ e] at hq
        obtain ⟨h1, h2⟩ := hσ q a hq
        exact ⟨TL.ok_ext h1 (ExL.cons v env), by rw [TL.val_ext h1 (ExL.cons v env)]; exact h2⟩
    have h2 := putPs_ok (n := n + 1) r (env := v :: env) (by simp [hn]) h1
    have e : (v :: vs).reverse ++ env = vs.reverse ++ (v :: env) := by simp
    rw [e]
    exact h2
theorem psN_full {f : List Value → Prop} : ∀ {vs env : List Value}, psN AProp vs.length vs env f → f (vs.reverse ++ env)
  | [], env, h => h
  | v :: vs, env, h => by
    have h' : psN AProp vs.length vs (v :: env) f := h
    have := psN_full h'
    simpa using this
theorem nthJ_app {J : List (JT Prop)} : ∀ (p : List (JT Prop)) (i : Nat), nthJ AProp (p ++ J) (p.length + i) = nthJ AProp J i
  | [], i => by simp
  | x :: p, i => by
    have : (x :: p).length + i = (p.length + i) + 1 := by simp; omega
    rw [this]
    exact nthJ_app p i
/-- What is handed to a join stands for a frame. -/
structure ArgR (b : BI) (env : List Value) (fr : Fr) (vs : List Value) : Prop where
  base : FrV b.base env fr.t
  args : ∃ ws dv, PV fr.t b.ps ws ∧ DecR dv fr.d ∧ vs = cond b.dp (ws ++ [dv]) ws ∧ (b.dp = false → dv = b.d.val env ∧ b.d.ok env.length = true)
theorem ArgR.len {b : BI} {env : List Value} {fr : Fr} {vs : List Value} (h : ArgR b env fr vs) : vs.length = b.np := by
  obtain ⟨ws, dv, h1, _, rfl, _⟩ := h.args
  unfold BI.np
  cases b.dp <;> simp [h1.len]
theorem ArgR.frame {b : BI} {env : List Value} {fr : Fr} {vs : List Value} (h : ArgR b env fr vs) {n : Nat} (hn : env.length = n) : FrS (b.tgt n) (vs.reverse ++ env) fr := by
  obtain ⟨ws, dv, h1, h2, h3, h4⟩ := h.args
  have hp := putPs_ok h1 hn h.base
  cases hd : b.dp with
  | false =>
    rw [hd, cond_false] at h3
    subst h3
    obtain ⟨h5, h6⟩ := h4 hd
    have e : ExL env (vs.reverse ++ env) := ⟨_, rfl⟩
    refine ⟨hp, ?_, ?_⟩
    · simp only [BI.tgt, hd, cond_false]; exact TL.ok_ext h6 e
    · simp only [BI.tgt, hd, cond_false]; rw [TL.val_ext h6 e, ← h5]; exact h2
  | true =>
    rw [hd, cond_true] at h3
    subst h3
    have e : (ws ++ [dv]).reverse ++ env = dv :: (ws.reverse ++ env) := by simp
    have hl : (ws.reverse ++ env).length = n + b.ps.length := by simp [h1.len, hn]; omega
    rw [e]
    refine ⟨fun p a ha => ?_, ?_, ?_⟩
    · obtain ⟨h5, h6⟩ := hp p a ha
      exact ⟨TL.ok_ext h5 (ExL.cons _ _), by rw [TL.val_ext h5 (ExL.cons _ _)]; exact h6⟩
    · simp only [BI.tgt, hd, cond_true]; rw [← hl]; exact TL.ok_new _ _
    · simp only [BI.tgt, hd, cond_true]; rw [← hl, TL.val_new]; exact h2
theorem cArgs_ok {b : BI} {σ : SG} {as : List TL} (h : cArgs b σ = some as) {env0 env : List Value} (e : ExL env0 env) (hb : ∀ p a, getQ p b.base = some a → a.ok env0.length = true) (hbd : b.dp = false → b.d.ok env0.length = true) {fr : Fr} (hf : FrS σ env fr) :
    ArgR b env0 fr (as.map (TL.val env)) := by
  unfold cArgs at h
  split at h
  · rename_i ws hws
    obtain ⟨h1, h2⟩ := cond_some h
    cases h2
    simp only [Bool.and_eq_true] at h1
    obtain ⟨h3, h4⟩ := argsAt_pv hf.slots hws
    refine ⟨fun p a ha => ?_, ws.map (TL.val env), σ.d.val env, h3, hf.dfr, ?_, fun hd => ?_⟩
    · have ho := hb p a ha
      obtain ⟨h5, h6⟩ := hf.slots p a (subT_ok h1.1 ha)
      exact ⟨ho, by rw [← TL.val_ext ho e]; exact h6⟩
    · cases b.dp <;> simp
    · have h5 := h1.2
      rw [hd] at h5
      simp only [Bool.false_or] at h5
      have h6 := tlEq_ok h5
      have ho := hbd hd
      rw [← h6]
      exact ⟨TL.val_ext ho e, ho⟩
  · cases h
/-- A join: where it stands, and what it is good for. -/
structure JmpOk (b : BI) (env : List Value) (J : List (JT Prop)) (Q : Fr → AH → Prop) : Prop where
  lt : b.jl < J.length
  ok : ∀ p a, getQ p b.base = some a → a.ok env.length = true
  okd : b.dp = false → b.d.ok env.length = true
  run : ∀ vs h fr, ArgR b env fr vs → nthJ AProp J (J.length - 1 - b.jl) vs h → Q fr h
theorem cJump_ok {b : BI} {σ : SG} {n m : Nat} {sc : SC} (hc : cJump b σ n m = some sc) {env0 env : List Value} {J0 J : List (JT Prop)} {Q : Fr → AH → Prop} (hj : JmpOk b env0 J0 Q) (e : ExL env0 env) (eJ : ExL J0 J) (hn : env.length = n) (hm : J.length = m)
    {fr : Fr} (hf : FrS σ env fr) {cs csd : CS Prop} {lo : LS Prop} {K : Value → AH → Prop} {h : AH} {pd : Pd} (hr : runS AProp P G cs csd lo K sc env J h pd) : Q fr h := by
  obtain ⟨as, h1, rfl⟩ := Option.map_eq_some_iff.1 hc
  have hr' : nthJ AProp J (m - 1 - b.jl) (tvals env (as.map (TL.ta n))) h := hr
  rw [tvals_ta hn] at hr'
  refine hj.run _ _ _ (cArgs_ok h1 e hj.ok hj.okd hf) ?_
  obtain ⟨p, rfl⟩ := eJ
  have hlt := hj.lt
  have : m - 1 - b.jl = p.length + (J0.length - 1 - b.jl) := by rw [← hm]; simp; omega
  rw [this, nthJ_app] at hr'
  exact hr'
/-- What a join stands for, under longer names. -/
theorem ArgR.back {b : BI} {env env' : List Value} {fr : Fr} {vs : List Value} (h : ArgR b env' fr vs) (e : ExL env env') (ok : ∀ p a, getQ p b.base = some a → a.ok env.length = true) (okd : b.dp = false → b.d.ok env.length = true) : ArgR b env fr vs := by
  obtain ⟨ws, dv, h1, h2, h3, h4⟩ := h.args
  refine ⟨fun p a ha => ?_, ws, dv, h1, h2, h3, fun hd => ?_⟩
  · have ho := ok p a ha
    obtain ⟨_, h6⟩ := h.base p a ha
    exact ⟨ho, by rw [← TL.val_ext ho e]; exact h6⟩
  · obtain ⟨h5, _⟩ := h4 hd
    exact ⟨by rw [h5, TL.val_ext (okd hd) e], okd hd⟩
theorem JmpOk.ext {b : BI} {env env' : List Value} {J J' : List (JT Prop)} {Q : Fr → AH → Prop} (h : JmpOk b env J Q) (e : ExL env env') (eJ : ExL J J') : JmpOk b env' J' Q where
  lt := by obtain ⟨p, rfl⟩ := eJ; have := h.lt; simp; omega
  ok := fun p a ha => TL.ok_ext (h.ok p a ha) e
  okd := fun hd => TL.ok_ext (h.okd hd) e
  run := fun vs hh fr ha hr => by
    refine h.run vs hh fr (ha.back e h.ok h.okd) ?_
    obtain ⟨p, rfl⟩ := eJ
    have hlt := h.lt
    have : (p ++ J).length - 1 - b.jl = p.length + (J.length - 1 - b.jl) := by simp; omega
    rw [this, nthJ_app] at hr
    exact hr
def CtxOk (ctx : List BI) (env : List Value) (J : List (JT Prop)) (Q : Nat → Fr → AH → Prop) : Prop := ∀ id b, findBI id ctx = some b → JmpOk b env J (Q id)
theorem CtxOk.ext {ctx : List BI} {env env' : List Value} {J J' : List (JT Prop)} {Q : Nat → Fr → AH → Prop} (h : CtxOk ctx env J Q) (e : ExL env env') (eJ : ExL J J') : CtxOk ctx env' J' Q := fun id b hb => (h id b hb).ext e eJ
theorem find_del {id i : Nat} : ∀ {l : List BI} {b : BI}, findBI i (delBI id l) = some b → i ≠ id ∧ findBI i l = some b
  | [], b, h => by cases h
  | c :: l, b, h => by
    simp only [delBI] at h
    cases hc : Nat.beq c.id id with
    | true =>
      rw [hc] at h
      obtain ⟨h1, h2⟩ := find_del (l := l) h
      refine ⟨h1, ?_⟩
      simp only [findBI]
      cases hi : Nat.beq c.id i with
      | false => exact h2
      | true =>
        rw [Nat.beq_eq] at hc hi
        exact absurd (hi.symm.trans hc) h1
    | false =>
      rw [hc] at h
      simp only [cond_false, findBI] at h ⊢
      cases hi : Nat.beq c.id i with
      | true =>
        rw [hi] at h
        refine ⟨fun e => ?_, h⟩
        subst e
        rw [hi] at hc; cases hc
      | false => rw [hi] at h; exact find_del (l := l) h
end Go.Am

/-
  A machine whose code names each value once, part 9: what was made is what it was.
-/
namespace Go.Am
open Go
variable {P : Program} {G : Nat}

/-- A loop that ends after some number of rounds. -/
def loopSE : LS Prop := fun F vs h => ∃ n, loopSN AProp n F vs h

theorem wb_ok {σ : Tr TL} {env : List Value} {t : Tr Value} {lm : List (Option TL)} {L : List Value} (hσ : FrV σ env t) (hl : LmR env lm L) : ∀ {wb : List (Pa × KA)} {τ : Tr TL} {t' : Tr Value}, FrV τ env t' → FrV (cWb σ lm wb τ) env (kBack t L wb t')
  | [], τ, t', h => h
  | p :: wb, τ, t', h => by
    have h1 : FrV (setQ (rka σ lm p.2) p.1 τ) env (setP (kval t L p.2) p.1 t') := by
      intro q a hq
      rw [← getQ_eq, ← setQ_eq]
      by_cases e : q = p.1
      · subst e
        rw [getQ_same] at hq
        obtain ⟨h2, h3⟩ := rka_ok hσ hl hq
        exact ⟨h2, by rw [getQ_same]; exact h3⟩
      · rw [getQ_ne _ _ _ _ e] at hq
        obtain ⟨h2, h3⟩ := h q a hq
        rw [← getQ_eq] at h3
        exact ⟨h2, by rw [getQ_ne _ _ _ _ e]; exact h3⟩
    exact wb_ok hσ hl (wb := wb) h1

theorem psN_full' {f : List Value → Prop} {vs env : List Value} {n : Nat} (e : vs.length = n) (h : psN AProp n vs env f) : f (vs.reverse ++ env) := by subst e; exact psN_full h
theorem minus_get : ∀ {t : Tr TL} {w : Tr Unit} {p : Pa} {a : TL}, getQ p (minusT t w) = some a → getQ p t = some a
  | .leaf, w, p, a, h => h
  | .node v l r, w, .z, a, h => by
    have h' : (match w.val with | some _ => none | none => v) = some a := h
    split at h'
    · cases h'
    · exact h'
  | .node v l r, w, .l p, a, h => minus_get (t := l) (w := w.left) (p := p) h
  | .node v l r, w, .r p, a, h => minus_get (t := r) (w := w.right) (p := p) h

def RtOk (P : Program) (G : Nat) (cs csd : CS Prop) (K : Value → AH → Prop) (rt : SG → Nat → Option SC) (Q : Fr → AH → Prop) : Prop :=
  ∀ σ n sc env (J : List (JT Prop)) h pd fr, rt σ n = some sc → env.length = n → FrS σ env fr → runS AProp P G cs csd loopSE K sc env J h pd → Q fr h
def KCoOk (P : Program) (G : Nat) (cs csd : CS Prop) (K : Value → AH → Prop) (env : List Value) (J : List (JT Prop)) (k : KCo) (Q : Fr → AH → Prop) : Prop :=
  ∀ σ' n' m' sc' env' J' h' fr', k σ' n' m' = some sc' → ExL env env' → env'.length = n' → ExL J J' → J'.length = m' → FrS σ' env' fr' → runS AProp P G cs csd loopSE K sc' env' J' h' [] → Q fr' h'

section
variable {cs csd : CS Prop} (hm : CsR id cs cs) {K : Value → AH → Prop} {fz : Bool} {js : List Pa} {rt : SG → Nat → Option SC}
include hm
theorem cS_ok : ∀ (c : KC) {σ : SG} {n m : Nat} {ctx : List BI} {k : KCo} {sc : SC} {env : List Value} {J : List (JT Prop)} {h : AH} {fr : Fr} {KE : Ex → Fr → AH → Prop},
    cS P G fz js rt c σ n m ctx k = some sc → env.length = n → J.length = m → FrS σ env fr → CtxOk ctx env J (fun id => KE (.exit id)) → KCoOk P G cs csd K env J k (KE .normal) → RtOk P G cs csd K rt (KE .ret) →
    runS AProp P G cs csd loopSE K sc env J h [] → execK AProp P G cs loE c fr h KE := by
  intro c
  induction c with
  | skip =>
    intro σ n m ctx k sc env J h fr KE hc hn hj hf hx hk hrt hr
    exact hk _ _ _ _ _ _ _ _ hc (ExL.refl _) hn (ExL.refl _) hj hf hr
  | dfr f as =>
    intro σ n m ctx k sc env J h fr KE hc hn hj hf hx hk hrt hr
    simp only [cS] at hc
    split at hc
    · rename_i ts hts
      obtain ⟨sc', h1, rfl⟩ := Option.map_eq_some_iff.1 hc
      obtain ⟨v, h2, h3⟩ := inv_p (g := none) hn hr
      have hv := rkas_ok (L := []) hf.slots (fun i a hi => by cases hi) hts
      show Option.rec (motive := fun _ => Prop) False (fun vs => KE .normal { fr with d := (f, vs) :: fr.d } h) (kvals fr.t [] as)
      rw [hv]
      rcases h2 with ⟨_, h2⟩ | ⟨h2, _⟩
      · have h4 : some (Value.tuple #[.func (.func f) #[] #[], .tuple (ts.map (TL.val env)).toArray, σ.d.val env]) = some v := h2
        cases h4
        refine hk _ _ _ _ _ _ _ _ h1 (ExL.cons _ env) (by simp [hn]) (ExL.refl _) hj ⟨fun p a ha => ?_, ?_, ?_⟩ h3
        · obtain ⟨h5, h6⟩ := hf.slots p a ha
          exact ⟨TL.ok_ext h5 (ExL.cons _ _), by rw [TL.val_ext h5 (ExL.cons _ _)]; exact h6⟩
        · subst hn; exact TL.ok_new _ _
        · subst hn
          rw [TL.val_new]
          exact .cons hf.dfr
      · cases h2
    · cases hc
  | reg l wb =>
    intro σ n m ctx k sc env J h fr KE hc hn hj hf hx hk hrt hr
    refine cSt_ok hm (t := fr.t) (Q := fun L h _ => KE .normal { fr with t := kBack fr.t L wb fr.t } h) hc hn hf.slots (fun i a hi => by cases hi) (fun _ => rfl) (fun lm' n' d' sc' env' h' pd' L' h1 h2 h3 h4 h5 h6 => ?_) hr
    obtain ⟨sc2, h7, rfl⟩ := Option.map_eq_some_iff.1 h1
    have hf' := hf.ext h2
    refine hk _ _ _ _ _ _ _ _ h7 h2 h3 (ExL.refl _) hj ⟨?_, hf'.ok, hf'.dfr⟩ ?_
    · exact wb_ok (FrS.slots hf') h4 (FrS.slots hf')
    · cases d' with
      | true => exact h6
      | false =>
        have h8 : runS AProp P G cs csd loopSE K sc2 env' J h' pd' := h6
        rw [h5 rfl] at h8
        exact h8
  | seq a b iha ihb =>
    intro σ n m ctx k sc env J h fr KE hc hn hj hf hx hk hrt hr
    refine iha (KE := kSeq (execK AProp P G cs loE b) KE) hc hn hj hf hx (fun σ' n' m' sc' env' J' h' fr' h1 h2 h3 h4 h5 h6 h7 => ?_) hrt hr
    exact ihb h1 h3 h5 h6 (hx.ext h2 h4) (fun σ2 n2 m2 sc2 env2 J2 h2' fr2 k1 k2 k3 k4 k5 k6 k7 => hk _ _ _ _ _ _ _ _ k1 (h2.trans k2) k3 (h4.trans k4) k5 k6 k7) hrt h7
  | cond c a b iha ihb =>
    intro σ n m ctx k sc env J h fr KE hc hn hj hf hx hk hrt hr
    simp only [cS] at hc
    split at hc
    · rename_i x hxc
      have hv := (rka_ok (L := []) hf.slots (fun i a hi => by cases hi) hxc).2
      have core : ∀ {sa sb : SC} {J' : List (JT Prop)}, (runS AProp P G cs csd loopSE K sa env J' h [] → execK AProp P G cs loE a fr h KE) → (runS AProp P G cs csd loopSE K sb env J' h [] → execK AProp P G cs loE b fr h KE) →
          runS AProp P G cs csd loopSE K (.cd (x.ta n) sa sb) env J' h [] → execK AProp P G cs loE (.cond c a b) fr h KE := by
        intro sa sb J' ha hb hr
        have hr' : ic AProp ((x.ta n).val env) (runS AProp P G cs csd loopSE K sa env J' h []) (runS AProp P G cs csd loopSE K sb env J' h []) := hr
        rw [TL.ta_val hn] at hr'
        show kCond AProp c (execK AProp P G cs loE a) (execK AProp P G cs loE b) fr h KE
        unfold kCond
        rw [hv]
        unfold ic at hr'
        split at hr'
        · rename_i t ht
          rw [ht]
          cases t with
          | true => exact ha hr'
          | false => exact hb hr'
        · exact hr'.elim
      cases hfl : falls a && falls b with
      | false =>
        rw [hfl] at hc
        simp only [cond_false] at hc
        split at hc
        · rename_i sa sb ha hb
          cases hc
          exact core (iha ha hn hj hf hx hk hrt) (ihb hb hn hj hf hx hk hrt) hr
        · cases hc
      | true =>
        rw [hfl] at hc
        simp only [cond_true] at hc
        split at hc
        · rename_i j sa sb hjn ha hb
          cases hc
          have hr' : runS AProp P G cs csd loopSE K (.cd (x.ta n) sa sb) env ((fun vs h => psN AProp (mkBI 0 m js (wrK b (wrK a .leaf)) (hasD a || hasD b) σ).np vs env fun L => runS AProp P G cs csd loopSE K j L J h []) :: J) h [] := hr
          have hjok : JmpOk (mkBI 0 m js (wrK b (wrK a .leaf)) (hasD a || hasD b) σ) env ((fun vs h => psN AProp (mkBI 0 m js (wrK b (wrK a .leaf)) (hasD a || hasD b) σ).np vs env fun L => runS AProp P G cs csd loopSE K j L J h []) :: J) (KE .normal) := by
            refine ⟨by simp [mkBI, hj], fun p a ha => (hf.slots p a (minus_get ha)).1, fun _ => hf.ok, fun vs h fr hA hrun => ?_⟩
            have h0 : (((fun vs h => psN AProp (mkBI 0 m js (wrK b (wrK a .leaf)) (hasD a || hasD b) σ).np vs env fun L => runS AProp P G cs csd loopSE K j L J h []) :: J : List (JT Prop)).length - 1 - (mkBI 0 m js (wrK b (wrK a .leaf)) (hasD a || hasD b) σ).jl) = 0 := by simp [mkBI, hj]
            rw [h0] at hrun
            have hrun' : psN AProp (mkBI 0 m js (wrK b (wrK a .leaf)) (hasD a || hasD b) σ).np vs env (fun L => runS AProp P G cs csd loopSE K j L J h []) := hrun
            exact hk _ _ _ _ _ _ _ _ hjn ⟨_, rfl⟩ (by simp [hA.len, hn]; omega) (ExL.refl _) hj (hA.frame hn) (psN_full' hA.len hrun')
          have eJ : ∀ (x : JT Prop), ExL J (x :: J) := fun x => ⟨[x], rfl⟩
          have hkj : KCoOk P G cs csd K env ((fun vs h => psN AProp (mkBI 0 m js (wrK b (wrK a .leaf)) (hasD a || hasD b) σ).np vs env fun L => runS AProp P G cs csd loopSE K j L J h []) :: J) (cJump (mkBI 0 m js (wrK b (wrK a .leaf)) (hasD a || hasD b) σ)) (KE .normal) :=
            fun σ' n' m' sc' env' J' h' fr' k1 k2 k3 k4 k5 k6 k7 => cJump_ok k1 hjok k2 k4 k3 k5 k6 k7
          exact core (iha ha hn (by simp [hj]) hf (hx.ext (ExL.refl _) (eJ _)) hkj hrt) (ihb hb hn (by simp [hj]) hf (hx.ext (ExL.refl _) (eJ _)) hkj hrt) hr'
        · cases hc
    · cases hc
  | block id b ih =>
    intro σ n m ctx k sc env J h fr KE hc hn hj hf hx hk hrt hr
    simp only [cS] at hc
    cases hu : usesX id b with
    | false =>
      rw [hu] at hc
      refine ih (KE := kBlock id KE) hc hn hj hf (fun i bi hb => ?_) hk hrt hr
      obtain ⟨h1, h2⟩ := find_del hb
      have hJ := hx i bi h2
      refine ⟨hJ.lt, hJ.ok, hJ.okd, fun vs h fr hA hrun => ?_⟩
      have hne : Nat.beq i id = false := by
        rw [Bool.eq_false_iff]
        intro e
        rw [Nat.beq_eq] at e
        exact h1 e
      show cond (Nat.beq i id) (KE .normal fr h) (KE (.exit i) fr h)
      rw [hne]
      exact hJ.run vs h fr hA hrun
    | true =>
      rw [hu] at hc
      simp only [cond_true] at hc
      split at hc
      · rename_i j sb hjn hb
        cases hc
        have hr' : runS AProp P G cs csd loopSE K sb env ((fun vs h => psN AProp (mkBI id m js (wrK b .leaf) (hasD b) σ).np vs env fun L => runS AProp P G cs csd loopSE K j L J h []) :: J) h [] := hr
        have hjok : JmpOk (mkBI id m js (wrK b .leaf) (hasD b) σ) env ((fun vs h => psN AProp (mkBI id m js (wrK b .leaf) (hasD b) σ).np vs env fun L => runS AProp P G cs csd loopSE K j L J h []) :: J) (KE .normal) := by
          refine ⟨by simp [mkBI, hj], fun p a ha => (hf.slots p a (minus_get ha)).1, fun _ => hf.ok, fun vs h fr hA hrun => ?_⟩
          have h0 : (((fun vs h => psN AProp (mkBI id m js (wrK b .leaf) (hasD b) σ).np vs env fun L => runS AProp P G cs csd loopSE K j L J h []) :: J : List (JT Prop)).length - 1 - (mkBI id m js (wrK b .leaf) (hasD b) σ).jl) = 0 := by simp [mkBI, hj]
          rw [h0] at hrun
          have hrun' : psN AProp (mkBI id m js (wrK b .leaf) (hasD b) σ).np vs env (fun L => runS AProp P G cs csd loopSE K j L J h []) := hrun
          exact hk _ _ _ _ _ _ _ _ hjn ⟨_, rfl⟩ (by simp [hA.len, hn]; omega) (ExL.refl _) hj (hA.frame hn) (psN_full' hA.len hrun')
        have hkj : KCoOk P G cs csd K env ((fun vs h => psN AProp (mkBI id m js (wrK b .leaf) (hasD b) σ).np vs env fun L => runS AProp P G cs csd loopSE K j L J h []) :: J) (cJump (mkBI id m js (wrK b .leaf) (hasD b) σ)) (KE .normal) :=
          fun σ' n' m' sc' env' J' h' fr' k1 k2 k3 k4 k5 k6 k7 => cJump_ok k1 hjok k2 k4 k3 k5 k6 k7
        refine ih (KE := kBlock id KE) hb hn (by simp [hj]) hf (fun i bi hbi => ?_) hkj hrt hr'
        simp only [findBI] at hbi
        cases hi : Nat.beq (mkBI id m js (wrK b .leaf) (hasD b) σ).id i with
        | true =>
          rw [hi] at hbi
          cases hbi
          have e : id = i := by rw [Nat.beq_eq] at hi; exact hi
          subst e
          refine ⟨hjok.lt, hjok.ok, hjok.okd, fun vs h fr hA hrun => ?_⟩
          show cond (Nat.beq id id) (KE .normal fr h) (KE (.exit id) fr h)
          rw [Nat.beq_refl]
          exact hjok.run vs h fr hA hrun
        | false =>
          rw [hi] at hbi
          have hJ := (hx i bi hbi).ext (ExL.refl env) (⟨[fun vs h => psN AProp (mkBI id m js (wrK b .leaf) (hasD b) σ).np vs env fun L => runS AProp P G cs csd loopSE K j L J h []], rfl⟩ : ExL J ((fun vs h => psN AProp (mkBI id m js (wrK b .leaf) (hasD b) σ).np vs env fun L => runS AProp P G cs csd loopSE K j L J h []) :: J))
          refine ⟨hJ.lt, hJ.ok, hJ.okd, fun vs h fr hA hrun => ?_⟩
          have hne : Nat.beq i id = false := by
            rw [Bool.eq_false_iff]
            intro e
            rw [Nat.beq_eq] at e
            rw [e, show (mkBI id m js (wrK b .leaf) (hasD b) σ).id = id from rfl, Nat.beq_refl] at hi
            cases hi
          show cond (Nat.beq i id) (KE .normal fr h) (KE (.exit i) fr h)
          rw [hne]
          exact hJ.run vs h fr hA hrun
      · cases hc
  | loop b ih =>
    intro σ n m ctx k sc env J h fr KE hc hn hj hf hx hk hrt hr
    simp only [cS] at hc
    split at hc
    · rename_i as sb has hb
      cases hc
      have hok : ∀ p a, getQ p (mkBI 0 m js (wrK b .leaf) (hasD b) σ).base = some a → a.ok env.length = true := fun p a ha => (hf.slots p a (minus_get ha)).1
      have hA0 := cArgs_ok has (ExL.refl env) hok (fun _ => hf.ok) hf
      have hr' : loopSE (fun r vs h => psN AProp (mkBI 0 m js (wrK b .leaf) (hasD b) σ).np vs env fun L => runS AProp P G cs csd loopSE K sb L (r :: J) h []) (tvals env (as.map (TL.ta n))) h := hr
      rw [tvals_ta hn] at hr'
      obtain ⟨N, hN⟩ := hr'
      show ∃ M, loopN AProp M (execK AProp P G cs loE b) fr h KE
      refine ⟨N, ?_⟩
      have key : ∀ (N : Nat) (vs : List Value) (h : AH) (fr : Fr), ArgR (mkBI 0 m js (wrK b .leaf) (hasD b) σ) env fr vs →
          loopSN AProp N (fun r vs h => psN AProp (mkBI 0 m js (wrK b .leaf) (hasD b) σ).np vs env fun L => runS AProp P G cs csd loopSE K sb L (r :: J) h []) vs h → loopN AProp N (execK AProp P G cs loE b) fr h KE := by
        intro N
        induction N with
        | zero => intro vs h fr _ hl; exact hl.elim
        | succ N ihN =>
          intro vs h fr hA hl
          have hl' : psN AProp (mkBI 0 m js (wrK b .leaf) (hasD b) σ).np vs env (fun L => runS AProp P G cs csd loopSE K sb L
            (loopSN AProp N (fun r vs h => psN AProp (mkBI 0 m js (wrK b .leaf) (hasD b) σ).np vs env fun L => runS AProp P G cs csd loopSE K sb L (r :: J) h []) :: J) h []) := hl
          have hrun := psN_full' hA.len hl'
          show execK AProp P G cs loE b fr h _
          have hjok : JmpOk (mkBI 0 m js (wrK b .leaf) (hasD b) σ) env (loopSN AProp N (fun r vs h => psN AProp (mkBI 0 m js (wrK b .leaf) (hasD b) σ).np vs env fun L => runS AProp P G cs csd loopSE K sb L (r :: J) h []) :: J)
              (fun fr h => loopN AProp N (execK AProp P G cs loE b) fr h KE) := by
            refine ⟨by simp [mkBI, hj], hok, fun _ => hf.ok, fun vs h fr hA hrun => ?_⟩
            have h0 : ((loopSN AProp N (fun r vs h => psN AProp (mkBI 0 m js (wrK b .leaf) (hasD b) σ).np vs env fun L => runS AProp P G cs csd loopSE K sb L (r :: J) h []) :: J : List (JT Prop)).length - 1 - (mkBI 0 m js (wrK b .leaf) (hasD b) σ).jl) = 0 := by simp [mkBI, hj]
            rw [h0] at hrun
            exact ihN vs h fr hA hrun
          exact ih hb (by simp [hA.len, hn]; omega) (by simp [hj]) (hA.frame hn) (hx.ext ⟨_, rfl⟩ ⟨[_], rfl⟩)
            (fun σ' n' m' sc' env' J' h' fr' k1 k2 k3 k4 k5 k6 k7 => cJump_ok k1 (hjok.ext (⟨_, rfl⟩ : ExL env (vs.reverse ++ env)) (ExL.refl _)) k2 k4 k3 k5 k6 k7) hrt hrun
      exact key N _ _ _ hA0 hN
    · cases hc
  | exit id =>
    intro σ n m ctx k sc env J h fr KE hc hn hj hf hx hk hrt hr
    simp only [cS] at hc
    split at hc
    · rename_i bi hb
      exact cJump_ok hc (hx id bi hb) (ExL.refl _) (ExL.refl _) hn hj hf hr
    · cases hc
  | ret =>
    intro σ n m ctx k sc env J h fr KE hc hn hj hf hx hk hrt hr
    exact hrt _ _ _ _ _ _ _ _ hc hn hf hr
end
end Go.Am

/-
  A machine whose code names each value once, part 10: functions.
-/
namespace Go.Am
open Go
variable {P : Program} {G : Nat}

def resT (t : Tr TL) (n : Nat) : List KRes → Option (List (TA × Option (Option Nat)))
  | [] => some []
  | .tmp p :: l => match getQ p t, resT t n l with
    | some a, some r => some ((a.ta n, none) :: r)
    | _, _ => none
  | .cell p agg :: l => match getQ p t, resT t n l with
    | some a, some r => some ((a.ta n, some agg) :: r)
    | _, _ => none
def isNilF : TL → Bool
  | .c .nilFunc => true
  | _ => false
def cRet (res : List KRes) (σ : SG) (n : Nat) : Option SC := (resT σ.t n res).map fun rs => cond (isNilF σ.d) (.rt rs) (.rd (σ.d.ta n) rs)
def parsT : List Pa → Nat → Tr TL → Tr TL
  | [], _, t => t
  | p :: ps, n, t => parsT ps (n + 1) (setQ (some (.l n)) p t)
/-- A function made into code that names each value once; fz: several operations as one; js: slots that joins may hand on. -/
def scOf (P : Program) (G : Nat) (fz : Bool) (js : List Pa) (kf : KFn) : Option SC :=
  cS P G fz js (cRet kf.res) kf.body ⟨parsT kf.pars 0 .leaf, .c .nilFunc⟩ kf.pars.length 0 [] (fun σ n _ => cRet kf.res σ n)

theorem isNilF_inv {a : TL} (h : isNilF a = true) : a = .c .nilFunc := by
  unfold isNilF at h; split at h
  · rfl
  · cases h
theorem dec_nil {d : List (FuncId × List Value)} (h : DecR .nilFunc d) : d = [] := by cases h; rfl

section
variable {cs csd : CS Prop} (hd : CsR id csd csd) {K : Value → AH → Prop}
theorem res_ok2 {σ : Tr TL} {env : List Value} {fr : Fr} (hσ : FrV σ env fr.t) {n : Nat} (hn : env.length = n) {h : AH} : ∀ {l : List KRes} {rs : List (TA × Option (Option Nat))} {k : List Value → Prop}, resT σ n l = some rs → rsN AProp h env rs k → ∃ vs, resK fr h l = some vs ∧ k vs
  | [], rs, k, hc, hr => by cases hc; exact ⟨[], rfl, hr⟩
  | .tmp p :: l, rs, k, hc, hr => by
    simp only [resT] at hc
    split at hc
    · rename_i a r ha hl
      cases hc
      have hr' : rsN AProp h env r (fun vs => k ((a.ta n).val env :: vs)) := hr
      obtain ⟨vs, h1, h2⟩ := res_ok2 hσ hn hl hr'
      rw [TL.ta_val hn] at h2
      exact ⟨a.val env :: vs, by simp only [resK, (hσ p a ha).2, h1], h2⟩
    · cases hc
  | .cell p agg :: l, rs, k, hc, hr => by
    simp only [resT] at hc
    split at hc
    · rename_i a r ha hl
      cases hc
      cases agg with
      | none =>
        have hr' : pb AProp (mLd h ((a.ta n).val env)) (fun v => rsN AProp h env r fun vs => k (v :: vs)) := hr
        rw [TL.ta_val hn] at hr'
        obtain ⟨v, h1, h2⟩ := pbP hr'
        obtain ⟨vs, h3, h4⟩ := res_ok2 hσ hn hl h2
        refine ⟨v :: vs, ?_, h4⟩
        unfold mLd at h1
        split at h1
        · rename_i b o ro c hcell
          simp only [resK, (hσ p a ha).2, hcell, h3, h1, Option.map_some]
        · cases h1
      | some m =>
        have hr' : pb AProp (mLdA m h ((a.ta n).val env)) (fun v => rsN AProp h env r fun vs => k (v :: vs)) := hr
        rw [TL.ta_val hn] at hr'
        obtain ⟨v, h1, h2⟩ := pbP hr'
        obtain ⟨vs, h3, h4⟩ := res_ok2 hσ hn hl h2
        refine ⟨v :: vs, ?_, h4⟩
        unfold mLdA at h1
        split at h1
        · rename_i b o ro c hcell
          obtain ⟨h5, h6⟩ := cond_some h1
          cases h6
          simp only [resK, (hσ p a ha).2, hcell, h3, h5, cond_true]
        · cases h1
    · cases hc
include hd
theorem ret_ok {res : List KRes} : RtOk P G cs csd K (cRet res) (kEnd AProp csd res K .ret) := by
  intro σ n sc env J h pd fr hc hn hf hr
  obtain ⟨rs, h1, rfl⟩ := Option.map_eq_some_iff.1 hc
  show defersA AProp csd fr.d h fun h => match resK fr h res with
    | some vs => K (oneOf vs) h
    | none => False
  have fin : ∀ {h}, rsN AProp h env rs (fun vs => K (oneOf vs) h) → (match resK fr h res with
    | some vs => K (oneOf vs) h
    | none => False) := fun {h} hr => by
    obtain ⟨vs, h2, h3⟩ := res_ok2 hf.slots hn h1 hr
    rw [h2]; exact h3
  cases hb : isNilF σ.d with
  | true =>
    rw [hb] at hr
    have h2 := hf.dfr
    rw [isNilF_inv hb] at h2
    rw [dec_nil h2]
    exact fin hr
  | false =>
    rw [hb] at hr
    have hr' : df AProp csd ((σ.d.ta n).val env) h (fun h => rsN AProp h env rs fun vs => K (oneOf vs) h) := hr
    rw [TL.ta_val hn] at hr'
    have hr2 : Option.rec (motive := fun _ => Prop) False (fun l => defersA AProp csd l h (fun h => rsN AProp h env rs fun vs => K (oneOf vs) h)) (decD 64 (σ.d.val env)) := hr'
    cases hq : decD 64 (σ.d.val env) with
    | none => rw [hq] at hr2; exact hr2.elim
    | some l =>
      rw [hq] at hr2
      obtain rfl := hf.dfr.dec hq
      exact defers_rel good_prop hd (fun h h3 => fin h3) hr2
end

theorem parsT_ok : ∀ {ps : List Pa} {vs env : List Value} {n : Nat} {σ : Tr TL} {t : Tr Value}, vs.length = ps.length → env.length = n → FrV σ env t → FrV (parsT ps n σ) (vs.reverse ++ env) (kFrame ps vs t)
  | [], [], env, n, σ, t, _, hn, hσ => hσ
  | p :: ps, v :: vs, env, n, σ, t, hl, hn, hσ => by
    have h1 : FrV (setQ (some (.l n)) p σ) (v :: env) (setP (some v) p t) := by
      intro q a hq
      rw [← setQ_eq, ← getQ_eq]
      by_cases e : q = p
      · subst e
        rw [getQ_same] at hq; cases hq
        subst hn
        exact ⟨TL.ok_new v env, by rw [TL.val_new, getQ_same]⟩
      · rw [getQ_ne _ _ _ _ e] at hq
        obtain ⟨h1, h2⟩ := hσ q a hq
        rw [← getQ_eq] at h2
        exact ⟨TL.ok_ext h1 (ExL.cons v env), by rw [TL.val_ext h1 (ExL.cons v env), getQ_ne _ _ _ _ e]; exact h2⟩
    have h2 := parsT_ok (ps := ps) (vs := vs) (env := v :: env) (n := n + 1) (by simpa using hl) (by simp [hn]) h1
    have e : (v :: vs).reverse ++ env = vs.reverse ++ (v :: env) := by simp
    rw [e]
    exact h2
  | [], _ :: _, _, _, _, _, h, _, _ => by cases h
  | _ :: _, [], _, _, _, _, h, _, _ => by cases h
theorem psN_take {f : List Value → Prop} : ∀ {n : Nat} {vs env : List Value}, psN AProp n vs env f → n ≤ vs.length ∧ f ((vs.take n).reverse ++ env)
  | 0, vs, env, h => ⟨Nat.zero_le _, h⟩
  | n + 1, [], env, h => h.elim
  | n + 1, v :: vs, env, h => by
    have h' : psN AProp n vs (v :: env) f := h
    obtain ⟨h1, h2⟩ := psN_take h'
    exact ⟨by simp; omega, by simpa using h2⟩
theorem kFrame_take : ∀ (ps : List Pa) (vs : List Value) (t : Tr Value), kFrame ps (vs.take ps.length) t = kFrame ps vs t
  | [], vs, t => by cases vs <;> rfl
  | p :: ps, [], t => rfl
  | p :: ps, v :: vs, t => kFrame_take ps vs _

/-- What a function of this code comes to, the quick machine's comes to. -/
theorem runF_ok {cs csd : CS Prop} (hm : CsR id cs cs) (hd : CsR id csd csd) {fz : Bool} {js : List Pa} {kf : KFn} {sc : SC} (hc : scOf P G fz js kf = some sc) {xs : List Value} {h : AH} {K : Value → AH → Prop}
    (hr : runF AProp P G cs csd loopSE kf.pars.length sc xs h K) : callK AProp P G cs csd loE kf xs h K := by
  obtain ⟨h1, h2⟩ := psN_take hr
  unfold callK
  rw [← kFrame_take]
  have hl : (xs.take kf.pars.length).length = kf.pars.length := by simp; omega
  have hf := parsT_ok (ps := kf.pars) (vs := xs.take kf.pars.length) (env := []) (n := 0) (σ := .leaf) (t := .leaf) hl rfl (fun p a ha => by rw [getQ_leaf] at ha; cases ha)
  refine cS_ok hm kf.body hc (env := (xs.take kf.pars.length).reverse ++ []) (by simp [hl]) rfl ⟨hf, rfl, .nil⟩ (fun id b hb => by cases hb) (fun σ' n' m' sc' env' J' h' fr' k1 _ k3 _ _ k6 k7 => ?_) (ret_ok hd) h2
  exact ret_ok hd _ _ _ _ _ _ _ _ k1 k3 k6 k7
end Go.Am

/-
  A machine whose code names each value once, part 11: tables of functions.
-/
namespace Go.Am
open Go
variable {P : Program} {G : Nat}

def hBox (h : AH) (x : Value) : Option (Value × AH) := some (hNew h x.cells.toList)
def hAny (P : Program) (G : Nat) (op : AOp) (ts : List Nat) (h : AH) (vs : List Value) : Option (Value × AH) := op.run P (opdT G ts vs) h
section
variable {R : Type} (A : Alg R)
noncomputable def p0 (_ : List Value) (f : R) : R := f
noncomputable def p1 (vs : List Value) (f : Value → R) : R := List.rec (motive := fun _ => R) A.bot (fun a _ _ => f a) vs
noncomputable def p2 (vs : List Value) (f : Value → Value → R) : R := List.rec (motive := fun _ => R) A.bot (fun a t _ => p1 A t (f a)) vs
noncomputable def p3 (vs : List Value) (f : Value → Value → Value → R) : R := List.rec (motive := fun _ => R) A.bot (fun a t _ => p2 A t (f a)) vs
noncomputable def p4 (vs : List Value) (f : Value → Value → Value → Value → R) : R := List.rec (motive := fun _ => R) A.bot (fun a t _ => p3 A t (f a)) vs
noncomputable def p5 (vs : List Value) (f : Value → Value → Value → Value → Value → R) : R := List.rec (motive := fun _ => R) A.bot (fun a t _ => p4 A t (f a)) vs
noncomputable def p6 (vs : List Value) (f : Value → Value → Value → Value → Value → Value → R) : R := List.rec (motive := fun _ => R) A.bot (fun a t _ => p5 A t (f a)) vs
noncomputable def p7 (vs : List Value) (f : Value → Value → Value → Value → Value → Value → Value → R) : R := List.rec (motive := fun _ => R) A.bot (fun a t _ => p6 A t (f a)) vs
noncomputable def p8 (vs : List Value) (f : Value → Value → Value → Value → Value → Value → Value → Value → R) : R := List.rec (motive := fun _ => R) A.bot (fun a t _ => p7 A t (f a)) vs
noncomputable def p9 (vs : List Value) (f : Value → Value → Value → Value → Value → Value → Value → Value → Value → R) : R := List.rec (motive := fun _ => R) A.bot (fun a t _ => p8 A t (f a)) vs
noncomputable def p10 (vs : List Value) (f : Value → Value → Value → Value → Value → Value → Value → Value → Value → Value → R) : R := List.rec (motive := fun _ => R) A.bot (fun a t _ => p9 A t (f a)) vs
noncomputable def p11 (vs : List Value) (f : Value → Value → Value → Value → Value → Value → Value → Value → Value → Value → Value → R) : R := List.rec (motive := fun _ => R) A.bot (fun a t _ => p10 A t (f a)) vs
noncomputable def p12 (vs : List Value) (f : Value → Value → Value → Value → Value → Value → Value → Value → Value → Value → Value → Value → R) : R := List.rec (motive := fun _ => R) A.bot (fun a t _ => p11 A t (f a)) vs
end

/-- What a function of the program comes to, told by plain text. -/
abbrev FnT := ∀ (R : Type), Alg R → CS R → CS R → LS R → List Value → AH → (Value → AH → R) → R
def compAll (P : Program) (G : Nat) (fz : Bool) (js : List Pa) (fn : Func) : Option (Nat × SC) :=
  (compF P fn).bind fun af => (kfnOf P G af).bind fun kf => (scOf P G fz js kf).map fun sc => (kf.pars.length, sc)
structure RowS (P : Program) (G : Nat) (f : FuncId) (d : FnT) : Prop where
  mk' ::
  row : ∃ fn af kf gs fz js sc, P.funcs[f]? = some fn ∧ compF P fn = some af ∧ hasBody P f = true ∧ compKF P G gs af = some kf ∧ scOf P G fz js kf = some sc ∧ ∀ R A cs csd lo, runF A P G cs csd lo kf.pars.length sc = d R A cs csd lo
theorem rowS {f : FuncId} {fn : Func} {d : FnT} (hf : P.funcs[f]? = some fn) (hn : (fn.name == "runtime.NumGoroutine") = false) (fz : Bool) (js : List Pa)
    (h : ∀ (R : Type) (A : Alg R) cs csd lo, (compAll P G fz js fn).map (fun r => runF A P G cs csd lo r.1 r.2) = some (d R A cs csd lo)) : RowS P G f d := by
  refine ⟨?_⟩
  have h0 := h Prop AProp (noD AProp) (noD AProp) (loopSN AProp 0)
  cases h1 : compF P fn with
  | none => unfold compAll at h0; rw [h1] at h0; cases h0
  | some af =>
    cases h2 : kfnOf P G af with
    | none => unfold compAll at h0; simp only [h1, Option.bind_some, h2] at h0; cases h0
    | some kf =>
      cases h3 : scOf P G fz js kf with
      | none => unfold compAll at h0; simp only [h1, Option.bind_some, h2, h3] at h0; cases h0
      | some sc =>
        have hb : hasBody P f = true := by
          unfold hasBody
          rw [hf]
          have hb : fn.body.isSome = true := by
            unfold compF at h1
            split at h1
            · rename_i c hb; rw [hb]; rfl
            · cases h1
          simp [hb, hn]
        refine ⟨fn, af, kf, _, fz, js, sc, hf, h1, hb, h2, h3, fun R A cs csd lo => ?_⟩
        have h4 := h R A cs csd lo
        unfold compAll at h4
        simp only [h1, Option.bind_some, h2, h3, Option.map_some] at h4
        exact Option.some.inj h4

abbrev FnR (R : Type) := CS R → CS R → LS R → List Value → AH → (Value → AH → R) → R
abbrev STab := ∀ (R : Type), Alg R → Tr (FnR R)
def lkp : List (Nat × FnT) → Nat → Option FnT
  | [], _ => none
  | p :: l, f => cond (Nat.beq p.1 f) (some p.2) (lkp l f)
def tabR : List (Nat × FnT) → STab
  | [], _, _ => .leaf
  | p :: l, R, A => (tabR l R A).set p.1 (p.2 R A)
theorem tabR_get {R : Type} {A : Alg R} : ∀ {l : List (Nat × FnT)} {f : Nat}, (tabR l R A).get f = (lkp l f).map fun d => d R A
  | [], f => rfl
  | p :: l, f => by
    simp only [tabR, Tr.get_set, lkp]
    by_cases e : f = p.1
    · subst e; simp
    · have : Nat.beq p.1 f = false := by
        rw [Bool.eq_false_iff]; intro h; rw [Nat.beq_eq] at h; exact e h.symm
      rw [if_neg e, this, cond_false]
      exact tabR_get
theorem lkp_mem : ∀ {l : List (Nat × FnT)} {f : Nat} {d : FnT}, lkp l f = some d → (f, d) ∈ l
  | [], f, d, h => by cases h
  | p :: l, f, d, h => by
    simp only [lkp] at h
    cases hb : Nat.beq p.1 f with
    | true => rw [hb] at h; cases h; rw [Nat.beq_eq] at hb; subst hb; simp
    | false => rw [hb] at h; exact List.mem_cons_of_mem _ (lkp_mem h)
def RowsOk (P : Program) (G : Nat) (l : List (Nat × FnT)) : Prop := ∀ p ∈ l, RowS P G p.1 p.2

section
variable {R : Type} (A : Alg R) (tab : Tr (FnR R)) (lo : LS R) (sm : Tr (List Value → AH → (Value → AH → R) → R))
/-- To a depth; what is deferred defers nothing. -/
noncomputable def callSN (n : Nat) : CS R :=
  Nat.rec (motive := fun _ => CS R) (fun _ _ _ _ => A.bot) (fun _ ih f xs h K => Option.rec (motive := fun _ => R)
    (Option.rec (motive := fun _ => R) A.bot (fun d => d ih (fun f xs h K => Option.rec (motive := fun _ => R) A.bot (fun d => d ih (noD A) lo xs h K) (tab.get f)) lo xs h K) (tab.get f)) (fun s => s xs h K) (sm.get f)) n
end
section
variable {R : Type} {A : Alg R} {T : R → Prop} (g : Good A T) {l : List (Nat × FnT)} (hl : RowsOk P G l)
include g hl
theorem fn_rel {f : Nat} {d : FnT} (hf : lkp l f = some d) {cs csd : CS R} {csP csdP : CS Prop} (hc : CsR T cs csP) (hd : CsR T csd csdP) {lo : LS R} {loP : LS Prop} (hlo : LsR T lo loP) {xs : List Value} {h : AH} {K : Value → AH → R} {K' : Value → AH → Prop}
    (hK : ∀ v h, T (K v h) → K' v h) (ht : T (d R A cs csd lo xs h K)) : d Prop AProp csP csdP loP xs h K' := by
  obtain ⟨fn, af, kf, gs, fz, js, sc, _, _, _, _, _, hr0⟩ := (hl _ (lkp_mem hf)).row
  have hr : ∀ (R : Type) (A : Alg R) cs csd lo, runF A P G cs csd lo kf.pars.length sc = d R A cs csd lo := hr0
  rw [← hr] at ht ⊢
  exact runF_rel g hc hd hlo hK ht
theorem callSN_rel {lo : LS R} {loP : LS Prop} (hlo : LsR T lo loP) {sm : Tr (List Value → AH → (Value → AH → R) → R)} {smP : Tr (List Value → AH → (Value → AH → Prop) → Prop)} (hsm : SmR T sm smP) :
    ∀ n, CsR T (callSN A (tabR l R A) lo sm n) (callSN AProp (tabR l Prop AProp) loP smP n)
  | 0 => fun f vs h K K' hK ht => (g.bot ht).elim
  | n + 1 => by
    intro f vs h K K' hK ht
    have ih := callSN_rel hlo hsm n
    have ht' : T (Option.rec (motive := fun _ => R) (Option.rec (motive := fun _ => R) A.bot (fun d => d (callSN A (tabR l R A) lo sm n)
      (fun f xs h K => Option.rec (motive := fun _ => R) A.bot (fun d => d (callSN A (tabR l R A) lo sm n) (noD A) lo xs h K) ((tabR l R A).get f)) lo vs h K) ((tabR l R A).get f)) (fun s => s vs h K) (sm.get f)) := ht
    show Option.rec (motive := fun _ => Prop) (Option.rec (motive := fun _ => Prop) False (fun d => d (callSN AProp (tabR l Prop AProp) loP smP n)
      (fun f xs h K => Option.rec (motive := fun _ => Prop) False (fun d => d (callSN AProp (tabR l Prop AProp) loP smP n) (noD AProp) loP xs h K) ((tabR l Prop AProp).get f)) loP vs h K') ((tabR l Prop AProp).get f)) (fun s => s vs h K') (smP.get f)
    cases hsf : sm.get f with
    | some s =>
      rw [hsf] at ht'
      obtain ⟨sP, h1, h2⟩ := (hsm f).2 s hsf
      rw [h1]
      exact h2 vs h K K' hK ht'
    | none =>
      rw [hsf] at ht'
      rw [(hsm f).1 hsf]
      simp only [tabR_get] at ht' ⊢
      cases hlf : lkp l f with
      | none => rw [hlf] at ht'; exact (g.bot ht').elim
      | some d =>
        rw [hlf] at ht'
        refine fn_rel g hl hlf ih (fun f2 xs h2 K2 K2' hK2 ht2 => ?_) hlo hK ht'
        cases hlf2 : lkp l f2 with
        | none => simp only [hlf2] at ht2; exact (g.bot ht2).elim
        | some d2 =>
          simp only [hlf2] at ht2 ⊢
          exact fn_rel g hl hlf2 ih (fun _ _ _ _ _ _ h4 => (g.bot h4).elim) hlo hK2 ht2
end
theorem lsE_rel : LsR id loopSE loopSE := fun F F' hF vs h ht => by
  obtain ⟨n, hn⟩ := ht
  exact ⟨n, loopSN_rel good_prop n F F' hF vs h hn⟩
theorem lsN_E (n : Nat) : LsR id (loopSN AProp n) loopSE := fun F F' hF vs h ht => ⟨n, loopSN_rel good_prop n F F' hF vs h ht⟩
/-- A function's text tells what holds of it. -/
theorem fn_sound (hm : P.follows .mixedOrders = true) {f : FuncId} {d : FnT} (hr : RowS P G f d) {cs csd : CS Prop} (hcs : ∀ f, SoundF P G f (cs f)) (mono : CsR id cs cs) (hcd : ∀ f, SoundD P G f (csd f)) (monod : CsR id csd csd) :
    SoundF P G f (d Prop AProp cs csd loopSE) := by
  obtain ⟨fn, af, kf, gs, fz, js, sc, h1, h2, h3, h4, h5, h6⟩ := hr.row
  rw [← h6]
  exact (kfn_sound hm hcs mono hcd monod h1 h2 h4).weaken fun args h Q hq => runF_ok mono monod h5 hq
theorem fn_soundD (hm : P.follows .mixedOrders = true) {f : FuncId} {d : FnT} (hr : RowS P G f d) {cs : CS Prop} (hcs : ∀ f, SoundF P G f (cs f)) (mono : CsR id cs cs) : SoundD P G f (d Prop AProp cs (noD AProp) loopSE) := by
  obtain ⟨fn, af, kf, gs, fz, js, sc, h1, h2, h3, h4, h5, h6⟩ := hr.row
  rw [← h6]
  intro args h Q hq
  have h7 := runF_ok mono noD_mono h5 hq
  exact call0_sound hm hcs (fun _ _ _ _ h => h) h1 h2 h3 args h Q (call0K_sim mono loE_F h4 (fun _ _ h => h) h7)
theorem callSN_sound (hm : P.follows .mixedOrders = true) {l : List (Nat × FnT)} (hl : RowsOk P G l) {sm : Tr (List Value → AH → (Value → AH → Prop) → Prop)} (hs : ∀ f s, sm.get f = some s → SoundF P G f s) (hsm : SmR id sm sm) :
    ∀ n f, SoundF P G f (callSN AProp (tabR l Prop AProp) loopSE sm n f)
  | 0, f => fun args h Q hq => hq.elim
  | n + 1, f => by
    intro args h Q hq
    have ih := callSN_sound hm hl hs hsm n
    have mono := callSN_rel good_prop hl lsE_rel hsm n
    have hq' : Option.rec (motive := fun _ => Prop) (Option.rec (motive := fun _ => Prop) False (fun d => d (callSN AProp (tabR l Prop AProp) loopSE sm n)
      (fun f xs h K => Option.rec (motive := fun _ => Prop) False (fun d => d (callSN AProp (tabR l Prop AProp) loopSE sm n) (noD AProp) loopSE xs h K) ((tabR l Prop AProp).get f)) loopSE args h Q) ((tabR l Prop AProp).get f)) (fun s => s args h Q) (sm.get f) := hq
    cases hsf : sm.get f with
    | some s => rw [hsf] at hq'; exact hs f s hsf args h Q hq'
    | none =>
      rw [hsf] at hq'
      simp only [tabR_get] at hq'
      cases hlf : lkp l f with
      | none => rw [hlf] at hq'; exact hq'.elim
      | some d =>
        rw [hlf] at hq'
        refine fn_sound hm (hl _ (lkp_mem hlf)) ih mono (fun g => ?_) (fun g xs h K K' hK ht => ?_) args h Q hq'
        · intro args h Q hq
          cases hlg : lkp l g with
          | none => rw [hlg] at hq; exact hq.elim
          | some d2 => rw [hlg] at hq; exact fn_soundD hm (hl _ (lkp_mem hlg)) ih mono args h Q hq
        · cases hlg : lkp l g with
          | none => simp only [hlg] at ht; exact ht.elim
          | some d2 =>
            simp only [hlg] at ht ⊢
            exact fn_rel good_prop hl hlg mono noD_mono lsE_rel hK ht
/-- What a run that is told by a Bool says of a function. -/
theorem callSN_bool (hm : P.follows .mixedOrders = true) {l : List (Nat × FnT)} (hl : RowsOk P G l) {sm : Tr (List Value → AH → (Value → AH → Bool) → Bool)} {smP : Tr (List Value → AH → (Value → AH → Prop) → Prop)} (hsm : SmR (· = true) sm smP)
    (hs : ∀ f s, smP.get f = some s → SoundF P G f s) (hsm' : SmR id smP smP) (m n f : Nat) {args : List Value} {h : AH} {K : Value → AH → Bool} {Q : Value → AH → Prop} (hK : ∀ v h, K v h = true → Q v h)
    (hr : callSN ABool (tabR l Bool ABool) (loopSN ABool m) sm n f args h K = true) : ∀ φ w args', HR φ h w → GlobR G φ → VRs φ args args'.toList → Calls P f args' w (Post φ h w Q) :=
  callSN_sound hm hl hs hsm' n f args h Q (callSN_rel good_prop hl (lsN_E m) hsm' n f args h Q Q (fun _ _ h => h) (callSN_rel good_bool hl (loopSN_rel good_bool m) hsm n f args h K Q hK hr))
end Go.Am
