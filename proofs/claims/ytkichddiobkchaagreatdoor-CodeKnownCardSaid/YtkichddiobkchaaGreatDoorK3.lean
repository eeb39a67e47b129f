/-
  CodeKnown answers true: chapter 20's examples, and its numbers: a closed sentence, under the row's own conditions: the listed package-level variables hold what the program's text lays.
-/
import Derived.Test.YtkichddiobkchaaGreatDoorK2
import Derived.Test.YtkichddiobkchaaGreatDoorTie
import Derived.Test.YtkichddiobkchaaGreatDoorCards
import Derived.ProofKit
import Derived.OpenShut
import Derived.LaidMore
import Derived.Lay
import Derived.SevenTiedAt
import Derived.Stop.Joined
import Derived.ChangeSame
set_option linter.unusedSectionVars false
set_option linter.unusedVariables false
set_option linter.unusedSimpArgs false
namespace Go.Proofs.YtkichddiobkchaaGreatDoor
open Go Go.ChangeShapes Go.WideShapes Go.ChangeAt Go.RowKit Go.Am
set_option maxRecDepth 100000

section
variable {H : Type} {enc : TypeId × Value → H} {P : Program}
/-- The row's last step where of the new world only this is known: what was there stands. -/
theorem post_below {f : Func} {s : ChangeSpec} {apart fresh handsOn again : Bool} {W W' : World} {args : Array Value} {v : Value} {ds gs : List (DataW H)} {before pa pv : List MemPlace}
    (hW : DataW.Whole enc P f.params.toList s.vars apart W args.toList ds gs before)
    (hres : ∀ (b : Nat) (sp : Nat → Bool) (hd : Bool), DataW.TrodAll enc P W' b sp hd f.resultTypes.toList (v.resultList f.resultTypes.size) (s.fn H (ds ++ gs)).results [])
    (hargs : ∀ sp : Nat → Bool, (∀ p ∈ before, sp p.block = true) → DataW.TrodAll enc P W' 0 sp true f.params.toList args.toList (s.fn H (ds ++ gs)).args pa)
    (hvars : ∀ sp : Nat → Bool, (∀ p ∈ before, sp p.block = true) → DataW.TrodVars enc P W' sp s.vars (s.fn H (ds ++ gs)).vars pv)
    (hps : before = pa ++ pv) (hb : Below W.heap.size W W')
    (hok : ∀ (j : Nat) (t : TypeId) (r : Value), f.resultTypes[j]? = some t → (v.resultList f.resultTypes.size)[j]? = some r → Value.okWide P W' .any 0 t r) :
    s.post enc P f apart fresh handsOn again W args v W' := by
  have hlt : ∀ p ∈ before, p.block < W.heap.size := fun p hp => hW.lt p hp
  have hold : ∀ p ∈ before, (fun b => decide (b < W.heap.size)) p.block = true := fun p hp => by simpa using hlt p hp
  refine ⟨ds, gs, before, [], pa, pv, hW, hres _ _ _, hargs _ hold, hvars _ hold, World.keptBut_mono (fun p hp => ⟨hp, ?_⟩) (hb.frame (· ∈ before)), fun _ => ?_⟩
  · rw [hps, List.mem_append] at hp
    exact Or.inr hp
  · obtain ⟨_, _, _, _, _, hz, hn⟩ := hW
    refine ⟨hok, _, _, ([] ++ pa) ++ pv, ⟨[] ++ pa, pv, trodAll_append (hargs _ (fun _ _ => rfl)) (hres _ _ _), hvars _ (fun _ _ => rfl), rfl, ?_, ?_⟩, ?_⟩
    · intro b off hp
      have hin : MemPlace.cell b off ∈ before := by rw [hps]; simpa using hp
      rw [hb.frozen (hlt _ hin)]
      exact hz b off hin
    · intro ha
      have := hn ha
      rw [hps] at this
      simpa using this
    · intro p hp _
      rw [hps]
      simpa using hp
end

theorem Tryz.own : ownKnob Tryz.prog.godebug = none := by kernel_rfl
theorem Tryz.mixed : Tryz.prog.follows .mixedOrders = true := by kernel_rfl

/-- The run, as a contract. -/
theorem codeKnown_calls {W : World} (hn : S.Nums W) : Calls Tryz.prog 4 #[] W fun e W' => e = .returned (.bool true) ∧ Below W.heap.size W W' := by
  obtain ⟨b, o, hl⟩ := S.lays01 hn
  have hrun := S.codeKnown_run
  rw [← S.tabS_eq] at hrun
  have hc := callSN_bool Tryz.mixed S.rowsS_ok (sm := .leaf) (smP := .leaf) (fun f => ⟨fun _ => rfl, fun s hs => by cases hs⟩) (fun f s hs => by cases hs) (fun f => ⟨fun _ => rfl, fun s hs => by cases hs⟩) 5000 100 4
    (Q := fun v _ => v = .bool true) (fun v h e => S.isT_eq e) hrun (S.phi01 W b o) W #[] hl.hr (S.globR01 W b o) .nil
  refine hc.mono fun e W' ⟨v, v', h', φ', he, hq, hv, _, hk⟩ => ?_
  subst hq
  cases hv
  exact ⟨he, hl.below hk⟩

theorem codeKnown_nums {W : World} (hL : laidMetH Tryz.prog Rows.codeKnownRow.laid W) : S.Nums W := by
  rw [MakeChecks.laidMetH_plain _ _ _ (by kernel_rfl)] at hL
  obtain ⟨ps, h, _⟩ := hL
  exact S.nums_of h (i1 := 3) (i2 := 4) (i3 := 6) (i4 := 11) rfl rfl rfl rfl

theorem codeKnown_lifted (os : Os) (started : os.Started) (H : Type) (enc : TypeId × Value → H) :
    ReturnsInHanded {} Tryz.checked os 4 .any (fun w args => (Rows.codeKnownSpec.pre enc Tryz.prog Tryz.f4 [] false w args ∧ laidMetH Tryz.prog Rows.codeKnownRow.laid w) ∧ sizedMet enc Tryz.prog Tryz.f4 (OpenSpec.ofChange Rows.codeKnownSpec) false w args)
      (Rows.codeKnownSpec.post enc Tryz.prog Tryz.f4 false true false false) := by
  refine returnsInHanded_of_change_and (C := Tryz.checked) (X := fun w _ => laidMetH Tryz.prog Rows.codeKnownRow.laid w) (fun _ _ _ hh h => h.of_heap hh) Tryz.own started (by kernel_rfl) Tryz.func4
    (ChangeSpec.witness_shaped (enc := enc) (C := Tryz.checked) (os := os) (X := fun w _ => laidMetH Tryz.prog Rows.codeKnownRow.laid w) false (World.laidAll Tryz.prog os Rows.codeKnownRow.laid) #[] 8 (World.laidAll_os _ _ _)
      (World.shaped_of_ZipB (by kernel_rfl) (by kernel_rfl)) (by kernel_rfl) (by kernel_rfl) (by kernel_rfl)
      (by rw [MakeChecks.laidMetH_plain _ _ _ (by kernel_rfl)]; exact laidMet_laidAll _ (by kernel_rfl) (by kernel_rfl))) ?_
  intro W base args ds gs before hval0 hW hc _ hL _
  have hW' := hW
  obtain ⟨p, q, hA0, hV, rfl, _, _⟩ := hW
  have hA : DataW.TrodAll enc Tryz.prog W 0 (fun _ => true) true Tryz.f4.params.toList args.toList ds p := hA0
  rw [Tryz.params4] at hA
  obtain ⟨hargs, rfl, rfl⟩ : args.toList = [] ∧ ds = [] ∧ p = [] := by
    cases hl : args.toList with
    | nil =>
      rw [hl] at hA
      cases ds with
      | nil => exact ⟨rfl, rfl, hA⟩
      | cons d ds => exact absurd hA (by intro h; cases h)
    | cons v l => rw [hl] at hA; exact absurd hA (by intro h; cases h)
  have hargs' : args = #[] := by
    apply Array.toList_inj.1; simpa using hargs
  subst hargs'
  obtain ⟨rfl, rfl⟩ := trodVars_none hV
  refine (codeKnown_calls (codeKnown_nums hL)).mono fun e W' ⟨he, hw⟩ => ?_
  subst he
  exact ⟨_, rfl, post_below (pa := []) (pv := []) hW' (fun _ _ _ => trodAll_mk1 (shut_bool Tryz.underlying4 _)) (fun sp _ => rfl) (fun _ _ => rfl) rfl hw (ok_one (by kernel_rfl) rfl (okWide_bool_mk Tryz.underlying4 _))⟩

theorem and_true {a b : Bool} (h : a = true) (k : b = true) : (a && b) = true := by rw [h, k]; rfl
set_option maxHeartbeats 40000000 in
theorem codeKnown_facts : joinedFacts Tryz.prog 4 Tryz.f4 Rows.codeKnownSpec Rows.codeKnownRow = true := by
  unfold joinedFacts
  repeat' (with_reducible apply and_true)
  all_goals (as_aux_lemma => kernel_rfl)
theorem codeKnown_named : Tryz.prog.funcNamed Rows.codeKnownRow.func = some 4 := by kernel_rfl
theorem codeKnown_inst : Tryz.f4.isInstance Tryz.prog Rows.codeKnownRow.origin Rows.codeKnownRow.targs := of_decide_eq_true (by as_aux_lemma => kernel_rfl)
theorem codeKnown_wrap : Tryz.f4.isWrapper Tryz.prog Rows.codeKnownRow.wrapper Rows.codeKnownRow.mainSum := by
  unfold Func.isWrapper; first | (rw [if_pos (by decide +kernel)]; kernel_rfl) | (rw [if_neg (by decide +kernel)]; exact ⟨rfl, rfl⟩)
theorem codeKnown_holds : Rows.CodeKnownSaid :=
  OpenClaim.holds_of_wide 4 Tryz.f4 rfl rfl rfl rfl rfl rfl rfl ⟨rfl, rfl, rfl, rfl, rfl⟩ rfl rfl rfl rfl rfl codeKnown_named Tryz.func4 codeKnown_facts codeKnown_inst codeKnown_wrap
    (fun os started H enc _ => codeKnown_lifted os started H enc)

end Go.Proofs.YtkichddiobkchaaGreatDoor
