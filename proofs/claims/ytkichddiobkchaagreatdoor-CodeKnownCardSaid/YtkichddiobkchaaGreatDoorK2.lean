/-
  CodeKnown, part 2: from what the row lists to the heap that the run starts in.
-/
import Derived.Test.YtkichddiobkchaaGreatDoorRows
import Derived.Test.YtkichddiobkchaaGreatDoorK1
set_option linter.unusedSectionVars false
set_option linter.unusedVariables false
set_option linter.unusedSimpArgs false
namespace Go.Am.S
open Go Go.Am Go.Proofs Go.RowKit
open Go.Proofs.YtkichddiobkchaaGreatDoor
set_option maxRecDepth 100000

theorem gInfo : Tryz.prog.globalNamed "internal/strconv.float64info" = some 14 := by kernel_rfl
theorem gOpt : Tryz.prog.globalNamed "internal/strconv.optimize" = some 12 := by kernel_rfl
theorem gPow : Tryz.prog.globalNamed "internal/strconv.float64pow10" = some 19 := by kernel_rfl
theorem gCheats : Tryz.prog.globalNamed "internal/strconv.leftcheats" = some 21 := by kernel_rfl
theorem tInfo : (Tryz.prog.globals[14]?).map (·.type) = some 311 := by kernel_rfl
theorem tOpt : (Tryz.prog.globals[12]?).map (·.type) = some 4 := by kernel_rfl
theorem tPow : (Tryz.prog.globals[19]?).map (·.type) = some 356 := by kernel_rfl
theorem c1 : Tryz.prog.cellsOf 243 = 1 := by kernel_rfl
theorem c3 : Tryz.prog.cellsOf 3 = 1 := by kernel_rfl
theorem c52 : Tryz.prog.cellsOf 52 = 1 := by kernel_rfl
theorem c311 : Tryz.prog.cellsOf 311 = 3 := by kernel_rfl

/-- What the program's variables hold that numbers are read and printed with. -/
structure Nums (W : World) : Prop where
  opt : ∃ cs e f, W.heap[12]? = some (.cells cs e f) ∧ cs.toList = [.bool true]
  info : ∃ cs e f, W.heap[14]? = some (.cells cs e f) ∧ cs.toList = [.int .u64 52, .int .u64 11, .int .i64 (-1023)]
  pow : ∃ cs e f b o pc et ft, W.heap[19]? = some (.cells cs e f) ∧ cs.toList = [.slice (some ⟨b, o, none⟩) 23 23] ∧ W.heap[b]? = some (.cells pc et ft) ∧ ∀ i n, pow23[i]? = some n → pc[o + i]? = some (.float .f64 n)
  big : 21 < W.heap.size
theorem nums_of {l : List (String × DataW Unit)} {ps : List MemPlace} {W : World} (h : DataW.LaidVars Tryz.prog W l ps) {i1 i2 i3 i4 : Nat} {d : DataW Unit} (h1 : l[i1]? = some ("internal/strconv.float64info", Rows.laid_internal_strconv_float64info))
    (h2 : l[i2]? = some ("internal/strconv.optimize", Rows.laid_internal_strconv_optimize)) (h3 : l[i3]? = some ("internal/strconv.float64pow10", Rows.laid_internal_strconv_float64pow10)) (h4 : l[i4]? = some ("internal/strconv.leftcheats", d)) : Nums W where
  opt := by
    obtain ⟨g, t, cs, fuel, p, hg, ht, hv, hd⟩ := laid_nth h h2
    obtain rfl := Option.some.inj (gOpt.symm.trans hg)
    obtain rfl := Option.some.inj (tOpt.symm.trans ht)
    obtain ⟨e, f, hh⟩ := var_heap hg hv
    obtain ⟨b, h5, h6⟩ := DataW.trod_bool Tryz.underlying4 hd
    refine ⟨cs, e, f, hh, ?_⟩
    have : b = true := by
      have h7 : (DataW.lit (.bool true) : DataW Unit) = .lit (.bool b) := (Prod.mk.inj h6).1
      simpa using h7.symm
    rw [h5, this]
  info := by
    obtain ⟨g, t, cs, fuel, p, hg, ht, hv, hd⟩ := laid_nth h h1
    obtain rfl := Option.some.inj (gInfo.symm.trans hg)
    obtain rfl := Option.some.inj (tInfo.symm.trans ht)
    obtain ⟨e, f, hh⟩ := var_heap hg hv
    refine ⟨cs, e, f, hh, ?_⟩
    obtain ⟨xs, n, _, h6, h7, h8, h9⟩ := DataW.trod_struct Tryz.underlying311 hd
    rw [c311] at h7
    have f0 : DataW.trod _ Tryz.prog W 0 _ false n 243 ((cs.toList.drop 0).take (Tryz.prog.cellsOf 243)) = xs[0]? := h9 0 _ rfl
    have f1 : DataW.trod _ Tryz.prog W 0 _ false n 243 ((cs.toList.drop 1).take (Tryz.prog.cellsOf 243)) = xs[1]? := h9 1 _ rfl
    have f2 : DataW.trod _ Tryz.prog W 0 _ false n 3 ((cs.toList.drop 2).take (Tryz.prog.cellsOf 3)) = xs[2]? := h9 2 _ rfl
    rw [c1] at f0 f1
    rw [c3] at f2
    have h6' : ([.lit (.int .u64 52), .lit (.int .u64 11), .lit (.int .i64 (-1023))] : List (DataW Unit)) = xs.map (·.1) := (DataW.agg.inj (Prod.mk.inj h6).1)
    match xs, h8, h6' with
    | [x0, x1, x2], _, h6' =>
      simp only [List.map_cons, List.map_nil, List.cons.injEq] at h6'
      obtain ⟨k0, a0, b0, _⟩ := DataW.trod_int Tryz.underlying243 (show DataW.trod _ Tryz.prog W 0 _ false n 243 _ = some x0 from f0)
      obtain ⟨k1, a1, b1, _⟩ := DataW.trod_int Tryz.underlying243 (show DataW.trod _ Tryz.prog W 0 _ false n 243 _ = some x1 from f1)
      obtain ⟨k2, a2, b2, _⟩ := DataW.trod_int Tryz.underlying3 (show DataW.trod _ Tryz.prog W 0 _ false n 3 _ = some x2 from f2)
      rw [b0, b1, b2] at h6'
      simp at h6'
      obtain ⟨rfl, rfl, rfl⟩ := h6'
      match hl : cs.toList, h7 with
      | [y0, y1, y2], _ =>
        rw [hl] at a0 a1 a2
        simp at a0 a1 a2
        rw [a0, a1, a2]
  pow := by
    obtain ⟨g, t, cs, fuel, p, hg, ht, hv, hd⟩ := laid_nth h h3
    obtain rfl := Option.some.inj (gPow.symm.trans hg)
    obtain rfl := Option.some.inj (tPow.symm.trans ht)
    obtain ⟨e, f, hh⟩ := var_heap hg hv
    obtain ⟨b, o, h5, pc, et, ft, h6, h7⟩ := laid_floats (bits := pow23) Tryz.underlying356 Tryz.underlying52 c52 (by simp [pow23]) hd
    exact ⟨cs, e, f, b, o, pc, et, ft, hh, h5, h6, h7⟩
  big := by
    obtain ⟨g, t, cs, fuel, p, hg, ht, hv, hd⟩ := laid_nth h h4
    obtain rfl := Option.some.inj (gCheats.symm.trans hg)
    obtain ⟨e, f, hh⟩ := var_heap hg hv
    exact (Array.getElem?_eq_some_iff.1 hh).1

def extOf (W : World) (b : Nat) : Nat := match W.heap[b]? with
  | some (.cells c _ _) => c.size
  | _ => 0
/-- Where the blocks lie: the program's variables, and one row of floats. -/
def phi01 (W : World) (b o : Nat) : Phi := fun n => if n < 22 then some ⟨n, 0, extOf W n⟩ else if n = 22 then some ⟨b, o, 23⟩ else none
theorem h01_get (n : Nat) : h01.get n = if n = 19 then .cells true [.slice (some ⟨22, 0, none⟩) 23 1] else if n = 22 then .cells true (pow23.map fun n => .float .f64 n) else if n = 14 then .cells true [.int .u64 52, .int .u64 11, .int .i64 (-1023)] else
    if n = 12 then .cells true [.bool true] else .dead := by
  unfold h01
  rw [AH.get_set _ _ _ _ (by show 19 < 23; omega), AH.get_push, AH.get_set _ _ _ _ (by show 14 < 22; omega), AH.get_set _ _ _ _ (by show 12 < 22; omega)]
  have : (AH.mk 22 .leaf).get n = .dead := by
    rw [AH.get_eq]; split <;> rfl
  rw [this]
  rfl
theorem globR01 (W : World) (b o : Nat) : GlobR 22 (phi01 W b o) := fun g hg => ⟨extOf W g, by unfold phi01; rw [if_pos hg]⟩
theorem lays01 {W : World} (hn : Nums W) : ∃ b o, Lays W (phi01 W b o) h01 := by
  obtain ⟨ocs, oe, oF, ho1, ho2⟩ := hn.opt
  obtain ⟨ics, ie, iF, hi1, hi2⟩ := hn.info
  obtain ⟨cs, e, f, b, o, pc, et, ft, h1, h2, h3, h4⟩ := hn.pow
  have hbig := hn.big
  have l23 : pow23.length = 23 := by kernel_rfl
  refine ⟨b, o, fun n hn => ?_, fun n p hp => ?_, fun n => ?_⟩
  · have : 23 ≤ n := hn
    unfold phi01; rw [if_neg (by omega), if_neg (by omega)]
  · unfold phi01 at hp
    split at hp
    · cases hp; show n < _; omega
    · split at hp
      · cases hp; exact (Array.getElem?_eq_some_iff.1 h3).1
      · cases hp
  · rw [h01_get]
    by_cases e19 : n = 19
    · subst e19
      rw [if_pos rfl]
      refine .inr ⟨_, ⟨19, 0, extOf W 19⟩, cs, e, f, rfl, rfl, h1, ?_, ?_, fun i v hv => ?_⟩
      · show 0 + extOf W 19 ≤ cs.size
        unfold extOf; rw [h1]; simp
      · show 1 ≤ extOf W 19
        unfold extOf; rw [h1]
        have := congrArg List.length h2
        simp at this; show 1 ≤ cs.size; omega
      · cases i with
        | succ i => cases hv
        | zero =>
          cases hv
          refine ⟨.slice (some ⟨b, o, none⟩) 23 23, ?_, ?_⟩
          · have : cs.toList[0]? = some (.slice (some ⟨b, o, none⟩) 23 23) := by rw [h2]; rfl
            simpa using this
          · have hp : phi01 W b o 22 = some ⟨b, o, 23⟩ := rfl
            have := SliceR.some (φ := phi01 W b o) (b := 22) (o := 0) (n := 23) (z := 1) (cap := 23) hp (Nat.le_refl _) (by show 0 + 23 * 1 ≤ 23; omega)
            exact .slice this
    · rw [if_neg e19]
      by_cases e22 : n = 22
      · subst e22
        rw [if_pos rfl]
        refine .inr ⟨_, ⟨b, o, 23⟩, pc, et, ft, rfl, rfl, h3, ?_, ?_, fun i v hv => ?_⟩
        · have hlast := h4 22 _ (show pow23[22]? = some 4936209963552724370 by kernel_rfl)
          have := (Array.getElem?_eq_some_iff.1 hlast).1
          show o + 23 ≤ pc.size
          omega
        · show (pow23.map _).length ≤ 23
          rw [List.length_map, l23]; omega
        · rw [List.getElem?_map, Option.map_eq_some_iff] at hv
          obtain ⟨m, hm, rfl⟩ := hv
          exact ⟨_, h4 i m hm, .float _ _⟩
      · rw [if_neg e22]
        by_cases e14 : n = 14
        · subst e14
          rw [if_pos rfl]
          have hsz : ics.size = 3 := by
            have := congrArg List.length hi2
            simpa using this
          refine .inr ⟨_, ⟨14, 0, extOf W 14⟩, ics, ie, iF, rfl, rfl, hi1, ?_, ?_, fun i v hv => ?_⟩
          · show 0 + extOf W 14 ≤ ics.size
            unfold extOf; rw [hi1]; simp
          · show 3 ≤ extOf W 14
            unfold extOf; rw [hi1]; show 3 ≤ ics.size; omega
          · refine ⟨v, ?_, ?_⟩
            · rw [← hi2] at hv
              simpa using hv
            · have : ground v = true := by
                match i, hv with
                | 0, hv => cases hv; rfl
                | 1, hv => cases hv; rfl
                | 2, hv => cases hv; rfl
              exact VR.ground_refl 5 _ this
        · rw [if_neg e14]
          by_cases e12 : n = 12
          · subst e12
            rw [if_pos rfl]
            have hsz : ocs.size = 1 := by
              have := congrArg List.length ho2
              simpa using this
            refine .inr ⟨_, ⟨12, 0, extOf W 12⟩, ocs, oe, oF, rfl, rfl, ho1, ?_, ?_, fun i v hv => ?_⟩
            · show 0 + extOf W 12 ≤ ocs.size
              unfold extOf; rw [ho1]; simp
            · show 1 ≤ extOf W 12
              unfold extOf; rw [ho1]; show 1 ≤ ocs.size; omega
            · refine ⟨v, ?_, ?_⟩
              · rw [← ho2] at hv
                simpa using hv
              · have : ground v = true := by
                  match i, hv with
                  | 0, hv => cases hv; rfl
                exact VR.ground_refl 5 _ this
          · rw [if_neg e12]; exact .inl rfl
end Go.Am.S
