/-
  Functions of the program, as plain text that names each value once.
-/
import Derived.Test.YtkichddiobkchaaGreatDoorProg
import Derived.Test.YtkichddiobkchaaGreatDoorMD
import Derived.KernelRfl
namespace Go.Am.S
open Go Go.Am Go.Proofs
set_option maxRecDepth 100000
set_option linter.unusedVariables false
/-- (*tailrace/names.checker).kinds -/
noncomputable def d120 : FnT := fun R A cs csd lo vs h K => p1 A vs fun x0 =>
 hb A (hAny Tryz.prog 22 .makeMap [] h []) fun x1 h =>
 pb A (mF 8 h x0) fun x2 =>
 hb A (hAny Tryz.prog 22 (.range (.tmp 11)) [11] h [x2]) fun x3 h =>
 jn (fun vs h => 
 pb A (mF 6 h x0) fun x4 =>
 pb A (vLenS x4) fun x5 =>
 jn (fun vs h => p1 A vs fun x6 =>
 K x1 h) fun j0 =>
 lo (fun r1 vs h => p1 A vs fun x6 =>
 pb A (vIop .lss x6 x5) fun x7 =>
 ic A x7 (pb A (mIA 8 8 0 h x4 x6) fun x8 =>
 hb A (hIni 8 h x8) fun x9 h =>
 pb A (mF 6 h x9) fun x10 =>
 gp A x10 false (mF 7 h x9) fun x11 =>
 pb A (vPick x10 (.bool true) x11) fun x12 =>
 gp A x12 false (some x1) fun x13 =>
 gp A x12 false (some x0) fun x14 =>
 gp A x12 false (mFA 2 1 h x9) fun x15 =>
 gc A x12 false h (cs 121 [x14, x15] h) fun x16 h =>
 gp A x12 false (mAny Tryz.prog 22 (.lookup 180 (.int .i64 0) (.tmp 51) (.tmp 55) false) [51, 55] h [x13, x16]) fun x17 =>
 gp A x12 false (vIop .gtr x17 (.int .i64 0)) fun x18 =>
 pb A (vPick x12 (.bool true) x18) fun x19 =>
 jn (fun vs h => 
 pb A (vIop .add x6 (.int .i64 1)) fun x20 =>
 r1 [x20] h) fun j2 =>
 ic A x19 (j2 [] h) (pb A (mF 3 h x9) fun x20 =>
 jn (fun vs h => 
 j2 [] h) fun j3 =>
 ic A x20 (pb A (mFA 2 1 h x9) fun x21 =>
 cs 121 [x0, x21] h fun x22 h =>
 hb A (hAny Tryz.prog 22 (.mapUpdate 180 (.tmp 62) (.tmp 66) (.const (.int .i64 2))) [62, 66] h [x1, x22]) fun x23 h =>
 j3 [] h) (pb A (mFA 2 1 h x9) fun x21 =>
 cs 121 [x0, x21] h fun x22 h =>
 hb A (hAny Tryz.prog 22 (.mapUpdate 180 (.tmp 38) (.tmp 42) (.const (.int .i64 1))) [38, 42] h [x1, x22]) fun x23 h =>
 j3 [] h))) (j0 [x6] h)) [(.int .i64 0)] h) fun j0 =>
 lo (fun r1 vs h => 
 nb A h x3 fun x4 h =>
 pb A (vExt 0 x4) fun x5 =>
 ic A x5 (pb A (mAny Tryz.prog 22 (.entry (.tmp 12)) [12] h [x3]) fun x6 =>
 pb A (vExt 0 x6) fun x7 =>
 hb A (hIni 2 h x7) fun x8 h =>
 pb A (mF 0 h x8) fun x9 =>
 pb A (vIop .eql x9 (.int .i64 0)) fun x10 =>
 gp A x10 true (mF 1 h x8) fun x11 =>
 gc A x10 true h (cs 118 [x11] h) fun x12 h =>
 pb A (vPick x10 x12 (.bool false)) fun x13 =>
 jn (fun vs h => 
 r1 [] h) fun j2 =>
 ic A x13 (pb A (mLdA 2 h x8) fun x14 =>
 cs 121 [x0, x14] h fun x15 h =>
 hb A (hAny Tryz.prog 22 (.mapUpdate 180 (.tmp 25) (.tmp 28) (.const (.int .i64 1))) [25, 28] h [x1, x15]) fun x16 h =>
 j2 [] h) (j2 [] h)) (j0 [] h)) [] h
theorem r120 : RowS Tryz.prog 22 120 d120 := rowS Tryz.func120 (by kernel_rfl) true [q34] (fun R A cs csd lo => by kernel_rfl)
/-- (*tailrace/names.checker).root -/
noncomputable def d121 : FnT := fun R A cs csd lo vs h K => p2 A vs fun x0 x1 =>
 hb A (hBox h x1) fun x2 h =>
 hb A (some (hNew h [(.int .i64 0), (.string ⟨#[]⟩)])) fun x3 h =>
 lo (fun r0 vs h => 
 pb A (mF 7 h x0) fun x4 =>
 pb A (mLdA 2 h x2) fun x5 =>
 pb A (mAny Tryz.prog 22 (.lookup 180 (.agg #[(.int .i64 0), (.string ⟨#[]⟩)]) (.tmp 11) (.tmp 12) true) [11, 12] h [x4, x5]) fun x6 =>
 pb A (vExt 0 x6) fun x7 =>
 pb A (vExt 1 x6) fun x8 =>
 hb A (some (hNew h [(.int .i64 0), (.string ⟨#[]⟩)])) fun x9 h =>
 wb A (hSt 2 h x9 x7) fun h =>
 pb A (vNot x8) fun x10 =>
 ic A x10 (pb A (mLdA 2 h x2) fun x11 =>
 wb A (hSt 2 h x3 x11) fun h =>
 pb A (mLdA 2 h x3) fun x12 =>
 K x12 h) (pb A (mLdA 2 h x9) fun x11 =>
 wb A (hSt 2 h x2 x11) fun h =>
 r0 [] h)) [] h
theorem r121 : RowS Tryz.prog 22 121 d121 := rowS Tryz.func121 (by kernel_rfl) true [] (fun R A cs csd lo => by kernel_rfl)
/-- sort.Strings -/
noncomputable def d122 : FnT := fun R A cs csd lo vs h K => p1 A vs fun x0 =>
 cs 176 [x0] h fun x1 h =>
 K (.tuple #[]) h
theorem r122 : RowS Tryz.prog 22 122 d122 := rowS Tryz.func122 (by kernel_rfl) true [] (fun R A cs csd lo => by kernel_rfl)
/-- tailrace/tailraceref16.among -/
noncomputable def d131 : FnT := fun R A cs csd lo vs h K => p2 A vs fun x0 x1 =>
 jn (fun vs h => p2 A vs fun x2 x3 =>
 K (.bool false) h) fun j0 =>
 lo (fun r1 vs h => p2 A vs fun x2 x3 =>
 pb A (vSlen x0) fun x4 =>
 pb A (vIop .leq x3 x4) fun x5 =>
 ic A x5 (pb A (vSlen x0) fun x6 =>
 pb A (vIop .eql x3 x6) fun x7 =>
 gp A x7 false (some x0) fun x8 =>
 gp A x7 false (some x3) fun x9 =>
 gp A x7 false (vSidx x8 x9) fun x10 =>
 gp A x7 false (vIop .eql x10 (.int .u8 32)) fun x11 =>
 pb A (vPick x7 (.bool true) x11) fun x12 =>
 jn (fun vs h => p1 A vs fun x13 =>
 pb A (vIop .add x3 (.int .i64 1)) fun x14 =>
 r1 [x13, x14] h) fun j2 =>
 ic A x12 (pb A (vScut x0 (some x2) (some x3)) fun x13 =>
 pb A (vSeq x13 x1) fun x14 =>
 ic A x14 (K (.bool true) h) (pb A (vIop .add x3 (.int .i64 1)) fun x15 =>
 j2 [x15] h)) (j2 [x2] h)) (j0 [x2, x3] h)) [(.int .i64 0), (.int .i64 0)] h
theorem r131 : RowS Tryz.prog 22 131 d131 := rowS Tryz.func131 (by kernel_rfl) true [q5, q6] (fun R A cs csd lo => by kernel_rfl)
/-- (*tailrace/code.writer).param -/
noncomputable def d134 : FnT := fun R A cs csd lo vs h K => p2 A vs fun x0 x1 =>
 pb A (mF 5 h x0) fun x2 =>
 pb A (vIop .gtr x2 (.int .i64 0)) fun x3 =>
 jn (fun vs h => 
 K (.int .i64 (-1)) h) fun j0 =>
 ic A x3 (pb A (vNil x0) fun x4 =>
 pb A (vFa 0 x4) fun x5 =>
 pb A (mF 1 h x5) fun x6 =>
 pb A (mF 5 h x0) fun x7 =>
 pb A (vIop .sub x7 (.int .i64 1)) fun x8 =>
 pb A (mI 8 1 h x6 x8) fun x9 =>
 pb A (vLenS x9) fun x10 =>
 jn (fun vs h => p1 A vs fun x11 =>
 j0 [] h) fun j1 =>
 lo (fun r2 vs h => p1 A vs fun x11 =>
 pb A (vIop .lss x11 x10) fun x12 =>
 ic A x12 (pb A (mI 1 0 h x9 x11) fun x13 =>
 pb A (vSeq x13 x1) fun x14 =>
 ic A x14 (K x11 h) (pb A (vIop .add x11 (.int .i64 1)) fun x15 =>
 r2 [x15] h)) (j1 [x11] h)) [(.int .i64 0)] h) (j0 [] h)
theorem r134 : RowS Tryz.prog 22 134 d134 := rowS Tryz.func134 (by kernel_rfl) true [q26] (fun R A cs csd lo => by kernel_rfl)
/-- tailrace/code.place -/
noncomputable def d135 : FnT := fun R A cs csd lo vs h K => p2 A vs fun x0 x1 =>
 pb A (vLenS x0) fun x2 =>
 jn (fun vs h => p1 A vs fun x3 =>
 pb A (vLenS x0) fun x4 =>
 K x4 h) fun j0 =>
 lo (fun r1 vs h => p1 A vs fun x3 =>
 pb A (vIop .lss x3 x2) fun x4 =>
 ic A x4 (pb A (mI 1 0 h x0 x3) fun x5 =>
 pb A (vSeq x5 x1) fun x6 =>
 ic A x6 (K x3 h) (pb A (vIop .add x3 (.int .i64 1)) fun x7 =>
 r1 [x7] h)) (j0 [x3] h)) [(.int .i64 0)] h
theorem r135 : RowS Tryz.prog 22 135 d135 := rowS Tryz.func135 (by kernel_rfl) true [q9] (fun R A cs csd lo => by kernel_rfl)
/-- tailrace/tailraceref16.skip -/
noncomputable def d140 : FnT := fun R A cs csd lo vs h K => p2 A vs fun x0 x1 =>
 jn (fun vs h => p1 A vs fun x2 =>
 K x2 h) fun j0 =>
 lo (fun r1 vs h => p1 A vs fun x2 =>
 pb A (vSlen x0) fun x3 =>
 pb A (vIop .lss x2 x3) fun x4 =>
 ic A x4 (pb A (vSidx x0 x2) fun x5 =>
 pb A (vIop .eql x5 (.int .u8 32)) fun x6 =>
 gp A x6 false (some x0) fun x7 =>
 gp A x6 false (some x2) fun x8 =>
 gp A x6 false (vSidx x7 x8) fun x9 =>
 gp A x6 false (vIop .eql x9 (.int .u8 9)) fun x10 =>
 pb A (vPick x6 (.bool true) x10) fun x11 =>
 gp A x11 false (some x0) fun x12 =>
 gp A x11 false (some x2) fun x13 =>
 gp A x11 false (vSidx x12 x13) fun x14 =>
 gp A x11 false (vIop .eql x14 (.int .u8 13)) fun x15 =>
 pb A (vPick x11 (.bool true) x15) fun x16 =>
 jn (fun vs h => p1 A vs fun x17 =>
 r1 [x17] h) fun j2 =>
 ic A x16 (pb A (vIop .add x2 (.int .i64 1)) fun x17 =>
 j2 [x17] h) (pb A (vSidx x0 x2) fun x17 =>
 pb A (vIop .eql x17 (.int .u8 92)) fun x18 =>
 gp A x18 true (some x2) fun x19 =>
 gp A x18 true (vIop .add x19 (.int .i64 1)) fun x20 =>
 gp A x18 true (some x0) fun x21 =>
 gp A x18 true (vSlen x21) fun x22 =>
 gp A x18 true (vIop .lss x20 x22) fun x23 =>
 pb A (vPick x18 x23 (.bool false)) fun x24 =>
 gp A x24 true (some x0) fun x25 =>
 gp A x24 true (some x2) fun x26 =>
 gp A x24 true (vIop .add x26 (.int .i64 1)) fun x27 =>
 gp A x24 true (vSidx x25 x27) fun x28 =>
 gp A x24 true (vIop .eql x28 (.int .u8 10)) fun x29 =>
 pb A (vPick x24 x29 (.bool false)) fun x30 =>
 jn (fun vs h => p1 A vs fun x31 =>
 j2 [x31] h) fun j3 =>
 ic A x30 (pb A (vIop .add x2 (.int .i64 2)) fun x31 =>
 j3 [x31] h) (pb A (vSidx x0 x2) fun x31 =>
 pb A (vIop .eql x31 (.int .u8 35)) fun x32 =>
 ic A x32 (jn (fun vs h => p1 A vs fun x33 =>
 j3 [x33] h) fun j4 =>
 lo (fun r5 vs h => p1 A vs fun x33 =>
 pb A (vSlen x0) fun x34 =>
 pb A (vIop .lss x33 x34) fun x35 =>
 gp A x35 true (some x0) fun x36 =>
 gp A x35 true (some x33) fun x37 =>
 gp A x35 true (vSidx x36 x37) fun x38 =>
 gp A x35 true (vIop .neq x38 (.int .u8 10)) fun x39 =>
 pb A (vPick x35 x39 (.bool false)) fun x40 =>
 ic A x40 (pb A (vIop .add x33 (.int .i64 1)) fun x41 =>
 r5 [x41] h) (j4 [x33] h)) [x2] h) (K x2 h)))) (j0 [x2] h)) [x1] h
theorem r140 : RowS Tryz.prog 22 140 d140 := rowS Tryz.func140 (by kernel_rfl) true [q1] (fun R A cs csd lo => by kernel_rfl)
/-- tailrace/tailraceref16.letter -/
noncomputable def d141 : FnT := fun R A cs csd lo vs h K => p1 A vs fun x0 =>
 pb A (vIop .geq x0 (.int .u8 65)) fun x1 =>
 gp A x1 true (some x0) fun x2 =>
 gp A x1 true (vIop .leq x2 (.int .u8 90)) fun x3 =>
 pb A (vPick x1 x3 (.bool false)) fun x4 =>
 gp A x4 false (some x0) fun x5 =>
 gp A x4 false (vIop .geq x5 (.int .u8 97)) fun x6 =>
 gp A x4 false (some x6) fun x7 =>
 gp A x7 true (some x0) fun x8 =>
 gp A x7 true (vIop .leq x8 (.int .u8 122)) fun x9 =>
 gp A x4 false (vPick x7 x9 (.bool false)) fun x10 =>
 pb A (vPick x4 (.bool true) x10) fun x11 =>
 gp A x11 false (some x0) fun x12 =>
 gp A x11 false (vIop .eql x12 (.int .u8 95)) fun x13 =>
 pb A (vPick x11 (.bool true) x13) fun x14 =>
 K x14 h
theorem r141 : RowS Tryz.prog 22 141 d141 := rowS Tryz.func141 (by kernel_rfl) true [] (fun R A cs csd lo => by kernel_rfl)
/-- tailrace/tailraceref16.digit -/
noncomputable def d142 : FnT := fun R A cs csd lo vs h K => p1 A vs fun x0 =>
 pb A (vIop .geq x0 (.int .u8 48)) fun x1 =>
 gp A x1 true (some x0) fun x2 =>
 gp A x1 true (vIop .leq x2 (.int .u8 57)) fun x3 =>
 pb A (vPick x1 x3 (.bool false)) fun x4 =>
 K x4 h
theorem r142 : RowS Tryz.prog 22 142 d142 := rowS Tryz.func142 (by kernel_rfl) true [] (fun R A cs csd lo => by kernel_rfl)
/-- tailrace/tailraceref16.IsWord -/
noncomputable def d143 : FnT := fun R A cs csd lo vs h K => p1 A vs fun x0 =>
 cs 131 [(.string ⟨#[66, 69, 71, 73, 78, 32, 69, 78, 68, 32, 69, 86, 69, 82, 89, 32, 71, 65, 80, 32, 102, 117, 110, 99, 116, 105, 111, 110, 32, 105, 102, 32, 101, 108, 115, 101, 32, 119, 104, 105, 108, 101, 32, 102, 111, 114, 32, 100, 111, 32, 98, 114, 101, 97, 107, 32, 99, 111, 110, 116, 105, 110, 117, 101, 32, 110, 101, 120, 116, 32, 101, 120, 105, 116, 32, 114, 101, 116, 117, 114, 110, 32, 100, 101, 108, 101, 116, 101, 32, 105, 110, 32, 103, 101, 116, 108, 105, 110, 101, 32, 112, 114, 105, 110, 116, 32, 112, 114, 105, 110, 116, 102]⟩), x0] h fun x1 h =>
 K x1 h
theorem r143 : RowS Tryz.prog 22 143 d143 := rowS Tryz.func143 (by kernel_rfl) true [] (fun R A cs csd lo => by kernel_rfl)
/-- tailrace/tailraceref16.IsBuilt -/
noncomputable def d144 : FnT := fun R A cs csd lo vs h K => p1 A vs fun x0 =>
 cs 131 [(.string ⟨#[108, 101, 110, 103, 116, 104, 32, 115, 117, 98, 115, 116, 114, 32, 105, 110, 100, 101, 120, 32, 115, 112, 108, 105, 116, 32, 115, 117, 98, 32, 103, 115, 117, 98, 32, 109, 97, 116, 99, 104, 32, 115, 112, 114, 105, 110, 116, 102, 32, 116, 111, 108, 111, 119, 101, 114, 32, 116, 111, 117, 112, 112, 101, 114, 32, 105, 110, 116, 32, 115, 113, 114, 116, 32, 101, 120, 112, 32, 108, 111, 103, 32, 115, 105, 110, 32, 99, 111, 115, 32, 97, 116, 97, 110, 50, 32, 114, 97, 110, 100, 32, 115, 114, 97, 110, 100, 32, 101, 120, 112, 105, 114, 101]⟩), x0] h fun x1 h =>
 K x1 h
theorem r144 : RowS Tryz.prog 22 144 d144 := rowS Tryz.func144 (by kernel_rfl) true [] (fun R A cs csd lo => by kernel_rfl)
/-- tailrace/tailraceref16.closes -/
noncomputable def d145 : FnT := fun R A cs csd lo vs h K => p2 A vs fun x0 x1 =>
 pb A (vIop .add x1 (.int .i64 1)) fun x2 =>
 jn (fun vs h => p1 A vs fun x3 =>
 K (.int .i64 (-1)) h) fun j0 =>
 lo (fun r1 vs h => p1 A vs fun x3 =>
 pb A (vSlen x0) fun x4 =>
 pb A (vIop .lss x3 x4) fun x5 =>
 gp A x5 true (some x0) fun x6 =>
 gp A x5 true (some x3) fun x7 =>
 gp A x5 true (vSidx x6 x7) fun x8 =>
 gp A x5 true (vIop .neq x8 (.int .u8 10)) fun x9 =>
 pb A (vPick x5 x9 (.bool false)) fun x10 =>
 ic A x10 (pb A (vSidx x0 x3) fun x11 =>
 pb A (vSidx x0 x1) fun x12 =>
 pb A (vIop .eql x11 x12) fun x13 =>
 ic A x13 (K x3 h) (pb A (vSidx x0 x3) fun x14 =>
 pb A (vIop .eql x14 (.int .u8 92)) fun x15 =>
 gp A x15 true (some x3) fun x16 =>
 gp A x15 true (vIop .add x16 (.int .i64 1)) fun x17 =>
 gp A x15 true (some x0) fun x18 =>
 gp A x15 true (vSlen x18) fun x19 =>
 gp A x15 true (vIop .lss x17 x19) fun x20 =>
 pb A (vPick x15 x20 (.bool false)) fun x21 =>
 gp A x21 true (some x0) fun x22 =>
 gp A x21 true (some x3) fun x23 =>
 gp A x21 true (vIop .add x23 (.int .i64 1)) fun x24 =>
 gp A x21 true (vSidx x22 x24) fun x25 =>
 gp A x21 true (vIop .neq x25 (.int .u8 10)) fun x26 =>
 pb A (vPick x21 x26 (.bool false)) fun x27 =>
 jn (fun vs h => p1 A vs fun x28 =>
 pb A (vIop .add x28 (.int .i64 1)) fun x29 =>
 r1 [x29] h) fun j2 =>
 ic A x27 (pb A (vIop .add x3 (.int .i64 1)) fun x28 =>
 j2 [x28] h) (j2 [x3] h))) (j0 [x3] h)) [x2] h
theorem r145 : RowS Tryz.prog 22 145 d145 := rowS Tryz.func145 (by kernel_rfl) true [q5] (fun R A cs csd lo => by kernel_rfl)
/-- tailrace/tailraceref16.unslashed -/
noncomputable def d146 : FnT := fun R A cs csd lo vs h K => p1 A vs fun x0 =>
 jn (fun vs h => p2 A vs fun x1 x2 =>
 K x1 h) fun j0 =>
 lo (fun r1 vs h => p2 A vs fun x1 x2 =>
 pb A (vSlen x0) fun x3 =>
 pb A (vIop .lss x2 x3) fun x4 =>
 ic A x4 (pb A (vSidx x0 x2) fun x5 =>
 pb A (vIop .eql x5 (.int .u8 92)) fun x6 =>
 gp A x6 true (some x2) fun x7 =>
 gp A x6 true (vIop .add x7 (.int .i64 1)) fun x8 =>
 gp A x6 true (some x0) fun x9 =>
 gp A x6 true (vSlen x9) fun x10 =>
 gp A x6 true (vIop .lss x8 x10) fun x11 =>
 pb A (vPick x6 x11 (.bool false)) fun x12 =>
 jn (fun vs h => p2 A vs fun x13 x14 =>
 pb A (vIop .add x14 (.int .i64 1)) fun x15 =>
 pb A (vScut x0 (some x14) (some x15)) fun x16 =>
 pb A (vSadd x13 x16) fun x17 =>
 pb A (vIop .add x14 (.int .i64 1)) fun x18 =>
 r1 [x17, x18] h) fun j2 =>
 ic A x12 (pb A (vIop .add x2 (.int .i64 1)) fun x13 =>
 pb A (vSidx x0 x13) fun x14 =>
 pb A (vIop .neq x14 (.int .u8 47)) fun x15 =>
 jn (fun vs h => p1 A vs fun x16 =>
 pb A (vIop .add x2 (.int .i64 1)) fun x17 =>
 j2 [x16, x17] h) fun j3 =>
 ic A x15 (pb A (vSadd x1 (.string ⟨#[92]⟩)) fun x16 =>
 j3 [x16] h) (j3 [x1] h)) (j2 [x1, x2] h)) (j0 [x1, x2] h)) [(.string ⟨#[]⟩), (.int .i64 0)] h
theorem r146 : RowS Tryz.prog 22 146 d146 := rowS Tryz.func146 (by kernel_rfl) true [q3, q4] (fun R A cs csd lo => by kernel_rfl)
/-- tailrace/tailraceref11.Numeral -/
noncomputable def d148 : FnT := fun R A cs csd lo vs h K => p2 A vs fun x0 x1 =>
 jn (fun vs h => p1 A vs fun x2 =>
 pb A (vIop .eql x2 x1) fun x3 =>
 gp A x3 true (some x2) fun x4 =>
 gp A x3 true (some x0) fun x5 =>
 gp A x3 true (vSlen x5) fun x6 =>
 gp A x3 true (vIop .lss x4 x6) fun x7 =>
 gp A x3 true (some x7) fun x8 =>
 gp A x8 true (some x0) fun x9 =>
 gp A x8 true (some x2) fun x10 =>
 gp A x8 true (vSidx x9 x10) fun x11 =>
 gp A x8 true (vIop .eql x11 (.int .u8 46)) fun x12 =>
 gp A x3 true (vPick x8 x12 (.bool false)) fun x13 =>
 gp A x3 true (some x13) fun x14 =>
 gp A x14 true (some x0) fun x15 =>
 gp A x14 true (some x2) fun x16 =>
 gp A x14 true (vIop .add x16 (.int .i64 1)) fun x17 =>
 gc A x14 true h (cs 180 [x15, x17] h) fun x18 h =>
 gp A x3 true (vPick x14 x18 (.bool false)) fun x19 =>
 gp A x3 true (vNot x19) fun x20 =>
 pb A (vPick x3 x20 (.bool false)) fun x21 =>
 ic A x21 (K x1 h) (pb A (vSlen x0) fun x22 =>
 pb A (vIop .lss x2 x22) fun x23 =>
 gp A x23 true (some x0) fun x24 =>
 gp A x23 true (some x2) fun x25 =>
 gp A x23 true (vSidx x24 x25) fun x26 =>
 gp A x23 true (vIop .eql x26 (.int .u8 46)) fun x27 =>
 pb A (vPick x23 x27 (.bool false)) fun x28 =>
 jn (fun vs h => p1 A vs fun x29 =>
 pb A (vSlen x0) fun x30 =>
 pb A (vIop .lss x29 x30) fun x31 =>
 gp A x31 true (some x0) fun x32 =>
 gp A x31 true (some x29) fun x33 =>
 gp A x31 true (vSidx x32 x33) fun x34 =>
 gp A x31 true (vIop .eql x34 (.int .u8 101)) fun x35 =>
 gp A x31 true (some x35) fun x36 =>
 gp A x36 false (some x0) fun x37 =>
 gp A x36 false (some x29) fun x38 =>
 gp A x36 false (vSidx x37 x38) fun x39 =>
 gp A x36 false (vIop .eql x39 (.int .u8 69)) fun x40 =>
 gp A x31 true (vPick x36 (.bool true) x40) fun x41 =>
 pb A (vPick x31 x41 (.bool false)) fun x42 =>
 jn (fun vs h => p1 A vs fun x43 =>
 K x29 h) fun j0 =>
 ic A x42 (pb A (vIop .add x29 (.int .i64 1)) fun x43 =>
 pb A (vSlen x0) fun x44 =>
 pb A (vIop .lss x43 x44) fun x45 =>
 gp A x45 true (some x0) fun x46 =>
 gp A x45 true (some x43) fun x47 =>
 gp A x45 true (vSidx x46 x47) fun x48 =>
 gp A x45 true (vIop .eql x48 (.int .u8 43)) fun x49 =>
 gp A x45 true (some x49) fun x50 =>
 gp A x50 false (some x0) fun x51 =>
 gp A x50 false (some x43) fun x52 =>
 gp A x50 false (vSidx x51 x52) fun x53 =>
 gp A x50 false (vIop .eql x53 (.int .u8 45)) fun x54 =>
 gp A x45 true (vPick x50 (.bool true) x54) fun x55 =>
 pb A (vPick x45 x55 (.bool false)) fun x56 =>
 jn (fun vs h => p1 A vs fun x57 =>
 cs 180 [x0, x57] h fun x58 h =>
 ic A x58 (jn (fun vs h => p1 A vs fun x59 =>
 K x59 h) fun j1 =>
 lo (fun r2 vs h => p1 A vs fun x59 =>
 cs 180 [x0, x59] h fun x60 h =>
 ic A x60 (pb A (vIop .add x59 (.int .i64 1)) fun x61 =>
 r2 [x61] h) (j1 [x59] h)) [x57] h) (j0 [x57] h)) fun j1 =>
 ic A x56 (pb A (vIop .add x43 (.int .i64 1)) fun x57 =>
 j1 [x57] h) (j1 [x43] h)) (j0 [x29] h)) fun j0 =>
 ic A x28 (pb A (vIop .add x2 (.int .i64 1)) fun x29 =>
 jn (fun vs h => p1 A vs fun x30 =>
 j0 [x30] h) fun j1 =>
 lo (fun r2 vs h => p1 A vs fun x30 =>
 cs 180 [x0, x30] h fun x31 h =>
 ic A x31 (pb A (vIop .add x30 (.int .i64 1)) fun x32 =>
 r2 [x32] h) (j1 [x30] h)) [x29] h) (j0 [x2] h))) fun j0 =>
 lo (fun r1 vs h => p1 A vs fun x2 =>
 cs 180 [x0, x2] h fun x3 h =>
 ic A x3 (pb A (vIop .add x2 (.int .i64 1)) fun x4 =>
 r1 [x4] h) (j0 [x2] h)) [x1] h
theorem r148 : RowS Tryz.prog 22 148 d148 := rowS Tryz.func148 (by kernel_rfl) true [q5, q6] (fun R A cs csd lo => by kernel_rfl)
/-- strconv.ParseFloat -/
noncomputable def d149 : FnT := fun R A cs csd lo vs h K => p2 A vs fun x0 x1 =>
 cs 181 [x0, x1] h fun x2 h =>
 pb A (vExt 0 x2) fun x3 =>
 pb A (vExt 1 x2) fun x4 =>
 pb A (vAny Tryz.prog 22 (.scal ⟨none, (.binOp .neq 207 (.tmp 14) (.const .nilIface) 207), 4, "", #[], none⟩) [14] [x4]) fun x5 =>
 ic A x5 (cs 182 [(.string ⟨#[80, 97, 114, 115, 101, 70, 108, 111, 97, 116]⟩), x0, (.int .i64 0), x1, x4] h fun x6 h =>
 K (.tuple #[x3, x6]) h) (K (.tuple #[x3, .nilIface]) h)
theorem r149 : RowS Tryz.prog 22 149 d149 := rowS Tryz.func149 (by kernel_rfl) true [] (fun R A cs csd lo => by kernel_rfl)
/-- tailrace/tailraceref16.sign -/
noncomputable def d150 : FnT := fun R A cs csd lo vs h K => p2 A vs fun x0 x1 =>
 pb A (vIop .add x1 (.int .i64 1)) fun x2 =>
 pb A (vSlen x0) fun x3 =>
 pb A (vIop .lss x2 x3) fun x4 =>
 gp A x4 true (some x0) fun x5 =>
 gp A x4 true (some x1) fun x6 =>
 gp A x4 true (some x1) fun x7 =>
 gp A x4 true (vIop .add x7 (.int .i64 2)) fun x8 =>
 gp A x4 true (vScut x5 (some x6) (some x8)) fun x9 =>
 gc A x4 true h (cs 131 [(.string ⟨#[38, 38, 32, 124, 124, 32, 43, 43, 32, 45, 45, 32, 43, 61, 32, 45, 61, 32, 42, 61, 32, 47, 61, 32, 37, 61, 32, 94, 61, 32, 61, 61, 32, 60, 61, 32, 62, 61, 32, 33, 61, 32, 33, 126, 32, 62, 62]⟩), x9] h) fun x10 h =>
 pb A (vPick x4 x10 (.bool false)) fun x11 =>
 ic A x11 (pb A (vIop .add x1 (.int .i64 2)) fun x12 =>
 pb A (vScut x0 (some x1) (some x12)) fun x13 =>
 K x13 h) (pb A (vSidx x0 x1) fun x12 =>
 pb A (vIop .neq x12 (.int .u8 32)) fun x13 =>
 gp A x13 true (some x0) fun x14 =>
 gp A x13 true (some x1) fun x15 =>
 gp A x13 true (some x1) fun x16 =>
 gp A x13 true (vIop .add x16 (.int .i64 1)) fun x17 =>
 gp A x13 true (vScut x14 (some x15) (some x17)) fun x18 =>
 gc A x13 true h (cs 131 [(.string ⟨#[123, 32, 125, 32, 40, 32, 41, 32, 91, 32, 93, 32, 59, 32, 44, 32, 43, 32, 45, 32, 42, 32, 47, 32, 37, 32, 94, 32, 33, 32, 62, 32, 60, 32, 124, 32, 63, 32, 58, 32, 126, 32, 36, 32, 61]⟩), x18] h) fun x19 h =>
 pb A (vPick x13 x19 (.bool false)) fun x20 =>
 ic A x20 (pb A (vIop .add x1 (.int .i64 1)) fun x21 =>
 pb A (vScut x0 (some x1) (some x21)) fun x22 =>
 K x22 h) (K (.string ⟨#[]⟩) h))
theorem r150 : RowS Tryz.prog 22 150 d150 := rowS Tryz.func150 (by kernel_rfl) true [] (fun R A cs csd lo => by kernel_rfl)
/-- tailrace/tailraceref16.Place -/
noncomputable def d151 : FnT := fun R A cs csd lo vs h K => p2 A vs fun x0 x1 =>
 pb A (vAny Tryz.prog 22 (.scal ⟨none, (.call ⟨.builtin .max, #[(.const (.int .i64 0)), (.tmp 8)], #[3, 3]⟩), 3, "", #[], none⟩) [8] [x1]) fun x2 =>
 pb A (vSlen x0) fun x3 =>
 pb A (vAny Tryz.prog 22 (.scal ⟨none, (.call ⟨.builtin .min, #[(.tmp 9), (.tmp 11)], #[3, 3]⟩), 3, "", #[], none⟩) [9, 11] [x2, x3]) fun x4 =>
 jn (fun vs h => p3 A vs fun x5 x6 x7 =>
 pb A (vAny Tryz.prog 22 (.scal ⟨none, (.convert 3 52 (.tmp 26)), 52, "", #[], none⟩) [26] [x5]) fun x8 =>
 pb A (vAny Tryz.prog 22 (.scal ⟨none, (.convert 3 52 (.tmp 28)), 52, "", #[], none⟩) [28] [x6]) fun x9 =>
 pb A (vAny Tryz.prog 22 (.scal ⟨none, (.call ⟨.builtin .complex, #[(.tmp 27), (.tmp 29)], #[52, 52]⟩), 34, "", #[], none⟩) [27, 29] [x8, x9]) fun x10 =>
 K x10 h) fun j0 =>
 lo (fun r1 vs h => p3 A vs fun x5 x6 x7 =>
 pb A (vIop .lss x7 x4) fun x8 =>
 ic A x8 (pb A (vIop .add x6 (.int .i64 1)) fun x9 =>
 pb A (vSidx x0 x7) fun x10 =>
 pb A (vIop .eql x10 (.int .u8 10)) fun x11 =>
 jn (fun vs h => p2 A vs fun x12 x13 =>
 pb A (vIop .add x7 (.int .i64 1)) fun x14 =>
 r1 [x12, x13, x14] h) fun j2 =>
 ic A x11 (pb A (vIop .add x5 (.int .i64 1)) fun x12 =>
 j2 [x12, (.int .i64 1)] h) (j2 [x5, x9] h)) (j0 [x5, x6, x7] h)) [(.int .i64 1), (.int .i64 1), (.int .i64 0)] h
theorem r151 : RowS Tryz.prog 22 151 d151 := rowS Tryz.func151 (by kernel_rfl) true [q5, q6, q7] (fun R A cs csd lo => by kernel_rfl)
/-- (*tailrace/tailraceref16.parser).here -/
noncomputable def d152 : FnT := fun R A cs csd lo vs h K => p2 A vs fun x0 x1 =>
 hb A (some (hNew h [(.int .i64 0), (.string ⟨#[]⟩), (.float .f64 0), (.int .i64 0), (.int .i64 0)])) fun x2 h =>
 pb A (mF 0 h x0) fun x3 =>
 pb A (mF 1 h x0) fun x4 =>
 alc A 13 (allocOf (opdT 22 [] []) (.new [(.int .i64 0), (.string ⟨#[]⟩), (.float .f64 0), (.int .i64 0), (.int .i64 0)])) h [] fun x5 h pd =>
 cs 91 [x3, x4, x1] h fun x6 h =>
 pb A (vExt 0 x6) fun x7 =>
 pb A (vExt 1 x6) fun x8 =>
 abl 13 h pd fun h pd =>
 wb A (hSt 5 h x5 x7) fun h =>
 pb A (mLdA 5 h x5) fun x9 =>
 pb A (mLdA 5 h x5) fun x10 =>
 cs 183 [x0, x10] h fun x11 h =>
 rb A (mLdA 5 h x5) x9 <|
 wb A (hSt 5 h x2 x9) fun h =>
 pb A (mLdA 5 h x2) fun x12 =>
 K (.tuple #[x12, x11]) h
theorem r152 : RowS Tryz.prog 22 152 d152 := rowS Tryz.func152 (by kernel_rfl) true [] (fun R A cs csd lo => by kernel_rfl)
/-- (*tailrace/tailraceref16.parser).take -/
noncomputable def d153 : FnT := fun R A cs csd lo vs h K => p2 A vs fun x0 x1 =>
 cs 93 [x0, x1] h fun x2 h =>
 pb A (vNot x2) fun x3 =>
 ic A x3 (K (.bool false) h) (pb A (mF 1 h x0) fun x4 =>
 cs 90 [x0, x4] h fun x5 h =>
 pb A (vExt 0 x5) fun x6 =>
 pb A (vExt 1 x5) fun x7 =>
 hb A (hIni 5 h x6) fun x8 h =>
 pb A (mF 4 h x8) fun x9 =>
 wb A (hF 1 h x0 x9) fun h =>
 pb A (vSeq x1 (.string ⟨#[40]⟩)) fun x10 =>
 jn (fun vs h => p1 A vs fun x11 =>
 jn (fun vs h => 
 K (.bool true) h) fun j0 =>
 ic A x11 (pb A (mF 2 h x0) fun x12 =>
 pb A (vIop .add x12 (.int .i64 1)) fun x13 =>
 wb A (hF 2 h x0 x13) fun h =>
 pb A (mF 2 h x0) fun x14 =>
 pb A (vIop .gtr x14 (.int .i64 40)) fun x15 =>
 jn (fun vs h => 
 j0 [] h) fun j1 =>
 ic A x15 (pb A (mF 3 h x8) fun x16 =>
 cs 92 [x0, (.int .i64 26), x16] h fun x17 h =>
 j1 [] h) (j1 [] h)) (pb A (vSeq x1 (.string ⟨#[41]⟩)) fun x12 =>
 jn (fun vs h => p1 A vs fun x13 =>
 jn (fun vs h => 
 j0 [] h) fun j1 =>
 ic A x13 (pb A (mF 2 h x0) fun x14 =>
 pb A (vIop .sub x14 (.int .i64 1)) fun x15 =>
 wb A (hF 2 h x0 x15) fun h =>
 j1 [] h) (j1 [] h)) fun j1 =>
 ic A x12 (j1 [x12] h) (pb A (vSeq x1 (.string ⟨#[93]⟩)) fun x13 =>
 jn (fun vs h => p1 A vs fun x14 =>
 j1 [x14] h) fun j2 =>
 ic A x13 (j2 [x13] h) (pb A (vSeq x1 (.string ⟨#[125]⟩)) fun x14 =>
 j2 [x14] h)))) fun j0 =>
 ic A x10 (j0 [x10] h) (pb A (vSeq x1 (.string ⟨#[91]⟩)) fun x11 =>
 jn (fun vs h => p1 A vs fun x12 =>
 j0 [x12] h) fun j1 =>
 ic A x11 (j1 [x11] h) (pb A (vSeq x1 (.string ⟨#[123]⟩)) fun x12 =>
 j1 [x12] h)))
theorem r153 : RowS Tryz.prog 22 153 d153 := rowS Tryz.func153 (by kernel_rfl) true [q26, q46] (fun R A cs csd lo => by kernel_rfl)
/-- (*tailrace/tailraceref16.parser).want -/
noncomputable def d154 : FnT := fun R A cs csd lo vs h K => p2 A vs fun x0 x1 =>
 cs 43 [x0] h fun x2 h =>
 gp A x2 true (some x0) fun x3 =>
 gp A x2 true (some x1) fun x4 =>
 gc A x2 true h (cs 153 [x3, x4] h) fun x5 h =>
 gp A x2 true (vNot x5) fun x6 =>
 pb A (vPick x2 x6 (.bool false)) fun x7 =>
 jn (fun vs h => 
 K (.tuple #[]) h) fun j0 =>
 ic A x7 (cs 45 [x0, (.bool false)] h fun x8 h =>
 hb A (hIni 5 h x8) fun x9 h =>
 cs 43 [x0] h fun x10 h =>
 jn (fun vs h => 
 j0 [] h) fun j1 =>
 ic A x10 (pb A (mLdA 5 h x9) fun x11 =>
 cs 96 [x0, x11] h fun x12 h =>
 j1 [] h) (j1 [] h)) (j0 [] h)
theorem r154 : RowS Tryz.prog 22 154 d154 := rowS Tryz.func154 (by kernel_rfl) true [] (fun R A cs csd lo => by kernel_rfl)
/-- (*tailrace/tailraceref16.parser).block -/
noncomputable def d156 : FnT := fun R A cs csd lo vs h K => p1 A vs fun x0 =>
 hb A (some (hNew h [(.int .i64 0), (.string ⟨#[]⟩), (.float .f64 0), (.slice none 0 0), (.complex .f64 0 0)])) fun x1 h =>
 cs 152 [x0, (.bool false)] h fun x2 h =>
 pb A (vExt 0 x2) fun x3 =>
 pb A (vExt 1 x2) fun x4 =>
 hb A (hIni 5 h x3) fun x5 h =>
 pb A (vBld [(.int .i64 0), (.string ⟨#[]⟩), (.float .f64 0), (.slice none 0 0), (.complex .f64 0 0)] [(0, 1), (4, 1)] [(.int .i64 30), x4]) fun x6 =>
 hb A (hIni 5 h x6) fun x7 h =>
 cs 154 [x0, (.string ⟨#[123]⟩)] h fun x8 h =>
 cs 44 [x0, (.string ⟨#[59]⟩)] h fun x9 h =>
 jn (fun vs h => 
 cs 154 [x0, (.string ⟨#[125]⟩)] h fun x10 h =>
 pb A (mLdA 5 h x7) fun x11 =>
 wb A (hSt 5 h x1 x11) fun h =>
 pb A (mLdA 5 h x1) fun x12 =>
 K x12 h) fun j0 =>
 lo (fun r1 vs h => 
 cs 43 [x0] h fun x10 h =>
 gp A x10 true (some x0) fun x11 =>
 gc A x10 true h (cs 93 [x11, (.string ⟨#[125]⟩)] h) fun x12 h =>
 gp A x10 true (vNot x12) fun x13 =>
 pb A (vPick x10 x13 (.bool false)) fun x14 =>
 ic A x14 (pb A (vFa 3 x7) fun x15 =>
 pb A (mLd h x15) fun x16 =>
 cs 184 [x0] h fun x17 h =>
 alc A 4 (allocOf (opdT 22 [27] [x17]) (.buildSlice 5 1 [(.int .i64 0), (.string ⟨#[]⟩), (.float .f64 0), (.slice none 0 0), (.complex .f64 0 0)] [(0, 5, (.tmp 27))])) h [] fun x18 h pd =>
 rb A (mLd h x15) x16 <|
 abl 4 h pd fun h pd =>
 hb A (hApp 5 72 h x16 x18) fun x19 h =>
 pb A (vFa 3 x7) fun x20 =>
 wb A (hSt 1 h x20 x19) fun h =>
 cs 44 [x0, (.string ⟨#[59]⟩)] h fun x21 h =>
 r1 [] h) (j0 [] h)) [] h
theorem r156 : RowS Tryz.prog 22 156 d156 := rowS Tryz.func156 (by kernel_rfl) true [] (fun R A cs csd lo => by kernel_rfl)
/-- (*tailrace/tailraceref16.parser).expr -/
noncomputable def d158 : FnT := fun R A cs csd lo vs h K => p1 A vs fun x0 =>
 hb A (some (hNew h [(.int .i64 0), (.string ⟨#[]⟩), (.float .f64 0), (.slice none 0 0), (.complex .f64 0 0)])) fun x1 h =>
 cs 187 [x0] h fun x2 h =>
 hb A (hIni 5 h x2) fun x3 h =>
 cs 43 [x0] h fun x4 h =>
 pb A (vNot x4) fun x5 =>
 gp A x5 false (mLdA 5 h x3) fun x6 =>
 gc A x5 false h (cs 188 [x6] h) fun x7 h =>
 gp A x5 false (vNot x7) fun x8 =>
 pb A (vPick x5 (.bool true) x8) fun x9 =>
 ic A x9 (pb A (mLdA 5 h x3) fun x10 =>
 wb A (hSt 5 h x1 x10) fun h =>
 pb A (mLdA 5 h x1) fun x11 =>
 K x11 h) (cs 189 [x0, (.string ⟨#[61, 32, 43, 61, 32, 45, 61, 32, 42, 61, 32, 47, 61, 32, 37, 61, 32, 94, 61]⟩)] h fun x10 h =>
 pb A (vExt 0 x10) fun x11 =>
 pb A (vExt 1 x10) fun x12 =>
 pb A (vExt 2 x10) fun x13 =>
 pb A (vNot x13) fun x14 =>
 ic A x14 (pb A (mLdA 5 h x3) fun x15 =>
 wb A (hSt 5 h x1 x15) fun h =>
 pb A (mLdA 5 h x1) fun x16 =>
 K x16 h) (pb A (mLdA 5 h x3) fun x15 =>
 cs 158 [x0] h fun x16 h =>
 alc A 5 (allocOf (opdT 22 [29, 31] [x15, x16]) (.buildSlice 5 2 [(.int .i64 0), (.string ⟨#[]⟩), (.float .f64 0), (.slice none 0 0), (.complex .f64 0 0), (.int .i64 0), (.string ⟨#[]⟩), (.float .f64 0), (.slice none 0 0), (.complex .f64 0 0)] [(0, 5, (.tmp 29)), (5, 5, (.tmp 31))])) h [] fun x17 h pd =>
 pb A (vBld [(.int .i64 0), (.string ⟨#[]⟩), (.float .f64 0), (.slice none 0 0), (.complex .f64 0 0)] [(0, 1), (1, 1), (4, 1), (3, 1)] [(.int .i64 7), x11, x12, x17]) fun x18 =>
 rb A (mLdA 5 h x3) x15 <|
 abl 5 h pd fun h pd =>
 wb A (hSt 5 h x1 x18) fun h =>
 pb A (mLdA 5 h x1) fun x19 =>
 K x19 h))
theorem r158 : RowS Tryz.prog 22 158 d158 := rowS Tryz.func158 (by kernel_rfl) true [] (fun R A cs csd lo => by kernel_rfl)
/-- (*tailrace/names.checker).named -/
noncomputable def d171 : FnT := fun R A cs csd lo vs h K => p2 A vs fun x0 x1 =>
 hb A (hBox h x1) fun x2 h =>
 pb A (mF 2 h x0) fun x3 =>
 pb A (mF 1 h x2) fun x4 =>
 pb A (mAny Tryz.prog 22 (.lookup 9 (.int .i64 0) (.tmp 7) (.tmp 9) false) [7, 9] h [x3, x4]) fun x5 =>
 pb A (vIop .gtr x5 (.int .i64 0)) fun x6 =>
 jn (fun vs h => 
 K (.tuple #[]) h) fun j0 =>
 ic A x6 (pb A (mF 4 h x2) fun x7 =>
 cs 117 [x0, x7, (.int .i64 28)] h fun x8 h =>
 j0 [] h) (j0 [] h)
theorem r171 : RowS Tryz.prog 22 171 d171 := rowS Tryz.func171 (by kernel_rfl) true [] (fun R A cs csd lo => by kernel_rfl)
/-- (*tailrace/names.checker).of -/
noncomputable def d172 : FnT := fun R A cs csd lo vs h K => p2 A vs fun x0 x1 =>
 hb A (some (hNew h [(.int .i64 0), (.string ⟨#[]⟩)])) fun x2 h =>
 pb A (mF 3 h x0) fun x3 =>
 pb A (vIop .gtr x3 (.int .i64 0)) fun x4 =>
 jn (fun vs h => 
 pb A (vBld [(.int .i64 0), (.string ⟨#[]⟩)] [(0, 1), (1, 1)] [(.int .i64 0), x1]) fun x5 =>
 hb A (hIni 2 h x5) fun x6 h =>
 pb A (mF 8 h x0) fun x7 =>
 pb A (mLdA 2 h x6) fun x8 =>
 pb A (vBld [] [] []) fun x9 =>
 hb A (hAny Tryz.prog 22 (.mapUpdate 180 (.tmp 46) (.tmp 47) (.tmp 48)) [46, 47, 48] h [x7, x8, x9]) fun x10 h =>
 pb A (mLdA 2 h x6) fun x11 =>
 wb A (hSt 2 h x2 x11) fun h =>
 pb A (mLdA 2 h x2) fun x12 =>
 K x12 h) fun j0 =>
 ic A x4 (pb A (vNil x0) fun x5 =>
 pb A (vFa 0 x5) fun x6 =>
 pb A (mF 1 h x6) fun x7 =>
 pb A (mF 3 h x0) fun x8 =>
 pb A (vIop .sub x8 (.int .i64 1)) fun x9 =>
 pb A (mI 8 1 h x7 x9) fun x10 =>
 pb A (vLenS x10) fun x11 =>
 jn (fun vs h => p1 A vs fun x12 =>
 j0 [] h) fun j1 =>
 lo (fun r2 vs h => p1 A vs fun x12 =>
 pb A (vIop .lss x12 x11) fun x13 =>
 ic A x13 (pb A (mI 1 0 h x10 x12) fun x14 =>
 pb A (vSeq x14 x1) fun x15 =>
 ic A x15 (pb A (mF 3 h x0) fun x16 =>
 pb A (vBld [(.int .i64 0), (.string ⟨#[]⟩)] [(0, 1), (1, 1)] [x16, x1]) fun x17 =>
 wb A (hSt 2 h x2 x17) fun h =>
 pb A (mLdA 2 h x2) fun x18 =>
 K x18 h) (pb A (vIop .add x12 (.int .i64 1)) fun x16 =>
 r2 [x16] h)) (j1 [x12] h)) [(.int .i64 0)] h) (j0 [] h)
theorem r172 : RowS Tryz.prog 22 172 d172 := rowS Tryz.func172 (by kernel_rfl) true [q27] (fun R A cs csd lo => by kernel_rfl)
/-- slices.Sort[[]string,string] -/
noncomputable def d176 : FnT := fun R A cs csd lo vs h K => p1 A vs fun x0 =>
 pb A (vLenS x0) fun x1 =>
 pb A (vCvt .u64 x1) fun x2 =>
 cs 203 [x2] h fun x3 h =>
 cs 202 [x0, (.int .i64 0), x1, x3] h fun x4 h =>
 K (.tuple #[]) h
theorem r176 : RowS Tryz.prog 22 176 d176 := rowS Tryz.func176 (by kernel_rfl) true [] (fun R A cs csd lo => by kernel_rfl)
/-- tailrace/tailraceref11.digit -/
noncomputable def d180 : FnT := fun R A cs csd lo vs h K => p2 A vs fun x0 x1 =>
 pb A (vSlen x0) fun x2 =>
 pb A (vIop .lss x1 x2) fun x3 =>
 gp A x3 true (some x0) fun x4 =>
 gp A x3 true (some x1) fun x5 =>
 gp A x3 true (vSidx x4 x5) fun x6 =>
 gp A x3 true (vIop .geq x6 (.int .u8 48)) fun x7 =>
 pb A (vPick x3 x7 (.bool false)) fun x8 =>
 gp A x8 true (some x0) fun x9 =>
 gp A x8 true (some x1) fun x10 =>
 gp A x8 true (vSidx x9 x10) fun x11 =>
 gp A x8 true (vIop .leq x11 (.int .u8 57)) fun x12 =>
 pb A (vPick x8 x12 (.bool false)) fun x13 =>
 K x13 h
theorem r180 : RowS Tryz.prog 22 180 d180 := rowS Tryz.func180 (by kernel_rfl) true [] (fun R A cs csd lo => by kernel_rfl)
/-- internal/strconv.ParseFloat -/
noncomputable def d181 : FnT := fun R A cs csd lo vs h K => p2 A vs fun x0 x1 =>
 cs 205 [x0, x1] h fun x2 h =>
 pb A (vExt 0 x2) fun x3 =>
 pb A (vExt 1 x2) fun x4 =>
 pb A (vExt 2 x2) fun x5 =>
 pb A (vSlen x0) fun x6 =>
 pb A (vIop .neq x4 x6) fun x7 =>
 ic A x7 (pb A (vBox 246 (.int .i64 2)) fun x8 =>
 K (.tuple #[(.float .f64 0), x8]) h) (K (.tuple #[x3, x5]) h)
theorem r181 : RowS Tryz.prog 22 181 d181 := rowS Tryz.func181 (by kernel_rfl) true [] (fun R A cs csd lo => by kernel_rfl)
/-- (*tailrace/tailraceref16.parser).place -/
noncomputable def d183 : FnT := fun R A cs csd lo vs h K => p2 A vs fun x0 x1 =>
 hb A (hBox h x1) fun x2 h =>
 pb A (mF 0 h x0) fun x3 =>
 pb A (mF 3 h x2) fun x4 =>
 cs 151 [x3, x4] h fun x5 h =>
 K x5 h
theorem r183 : RowS Tryz.prog 22 183 d183 := rowS Tryz.func183 (by kernel_rfl) true [] (fun R A cs csd lo => by kernel_rfl)
/-- (*tailrace/tailraceref16.parser).stmt -/
noncomputable def d184 : FnT := fun R A cs csd lo vs h K => p1 A vs fun x0 =>
 hb A (some (hNew h [(.int .i64 0), (.string ⟨#[]⟩), (.float .f64 0), (.slice none 0 0), (.complex .f64 0 0)])) fun x1 h =>
 cs 152 [x0, (.bool true)] h fun x2 h =>
 pb A (vExt 0 x2) fun x3 =>
 pb A (vExt 1 x2) fun x4 =>
 hb A (hIni 5 h x3) fun x5 h =>
 cs 93 [x0, (.string ⟨#[123]⟩)] h fun x6 h =>
 ic A x6 (cs 156 [x0] h fun x7 h =>
 wb A (hSt 5 h x1 x7) fun h =>
 pb A (mLdA 5 h x1) fun x8 =>
 K x8 h) (cs 153 [x0, (.string ⟨#[105, 102]⟩)] h fun x7 h =>
 ic A x7 (cs 210 [x0] h fun x8 h =>
 hb A (hBsl 5 1 [(.int .i64 0), (.string ⟨#[]⟩), (.float .f64 0), (.slice none 0 0), (.complex .f64 0 0)] [(0, 5)] h [x8]) fun x9 h =>
 pb A (vBld [(.int .i64 0), (.string ⟨#[]⟩), (.float .f64 0), (.slice none 0 0), (.complex .f64 0 0)] [(0, 1), (4, 1), (3, 1)] [(.int .i64 31), x4, x9]) fun x10 =>
 hb A (hIni 5 h x10) fun x11 h =>
 cs 44 [x0, (.string ⟨#[]⟩)] h fun x12 h =>
 pb A (vFa 3 x11) fun x13 =>
 pb A (mLd h x13) fun x14 =>
 cs 211 [x0] h fun x15 h =>
 alc A 4 (allocOf (opdT 22 [32] [x15]) (.buildSlice 5 1 [(.int .i64 0), (.string ⟨#[]⟩), (.float .f64 0), (.slice none 0 0), (.complex .f64 0 0)] [(0, 5, (.tmp 32))])) h [] fun x16 h pd =>
 rb A (mLd h x13) x14 <|
 abl 4 h pd fun h pd =>
 hb A (hApp 5 72 h x14 x16) fun x17 h =>
 pb A (vFa 3 x11) fun x18 =>
 wb A (hSt 1 h x18 x17) fun h =>
 cs 212 [x0] h fun x19 h =>
 jn (fun vs h => 
 pb A (mLdA 5 h x11) fun x20 =>
 wb A (hSt 5 h x1 x20) fun h =>
 pb A (mLdA 5 h x1) fun x21 =>
 K x21 h) fun j0 =>
 ic A x19 (cs 44 [x0, (.string ⟨#[]⟩)] h fun x20 h =>
 pb A (vFa 3 x11) fun x21 =>
 pb A (mLd h x21) fun x22 =>
 cs 211 [x0] h fun x23 h =>
 alc A 4 (allocOf (opdT 22 [43] [x23]) (.buildSlice 5 1 [(.int .i64 0), (.string ⟨#[]⟩), (.float .f64 0), (.slice none 0 0), (.complex .f64 0 0)] [(0, 5, (.tmp 43))])) h [] fun x24 h pd =>
 rb A (mLd h x21) x22 <|
 abl 4 h pd fun h pd =>
 hb A (hApp 5 72 h x22 x24) fun x25 h =>
 pb A (vFa 3 x11) fun x26 =>
 wb A (hSt 1 h x26 x25) fun h =>
 j0 [] h) (j0 [] h)) (cs 153 [x0, (.string ⟨#[119, 104, 105, 108, 101]⟩)] h fun x8 h =>
 ic A x8 (cs 210 [x0] h fun x9 h =>
 hb A (hBsl 5 1 [(.int .i64 0), (.string ⟨#[]⟩), (.float .f64 0), (.slice none 0 0), (.complex .f64 0 0)] [(0, 5)] h [x9]) fun x10 h =>
 pb A (vBld [(.int .i64 0), (.string ⟨#[]⟩), (.float .f64 0), (.slice none 0 0), (.complex .f64 0 0)] [(0, 1), (4, 1), (3, 1)] [(.int .i64 32), x4, x10]) fun x11 =>
 hb A (hIni 5 h x11) fun x12 h =>
 cs 44 [x0, (.string ⟨#[]⟩)] h fun x13 h =>
 pb A (vFa 3 x12) fun x14 =>
 pb A (mLd h x14) fun x15 =>
 cs 211 [x0] h fun x16 h =>
 alc A 4 (allocOf (opdT 22 [61] [x16]) (.buildSlice 5 1 [(.int .i64 0), (.string ⟨#[]⟩), (.float .f64 0), (.slice none 0 0), (.complex .f64 0 0)] [(0, 5, (.tmp 61))])) h [] fun x17 h pd =>
 rb A (mLd h x14) x15 <|
 abl 4 h pd fun h pd =>
 hb A (hApp 5 72 h x15 x17) fun x18 h =>
 pb A (vFa 3 x12) fun x19 =>
 wb A (hSt 1 h x19 x18) fun h =>
 pb A (mLdA 5 h x12) fun x20 =>
 wb A (hSt 5 h x1 x20) fun h =>
 pb A (mLdA 5 h x1) fun x21 =>
 K x21 h) (cs 153 [x0, (.string ⟨#[100, 111]⟩)] h fun x9 h =>
 ic A x9 (cs 44 [x0, (.string ⟨#[]⟩)] h fun x10 h =>
 cs 211 [x0] h fun x11 h =>
 hb A (hBsl 5 1 [(.int .i64 0), (.string ⟨#[]⟩), (.float .f64 0), (.slice none 0 0), (.complex .f64 0 0)] [(0, 5)] h [x11]) fun x12 h =>
 pb A (vBld [(.int .i64 0), (.string ⟨#[]⟩), (.float .f64 0), (.slice none 0 0), (.complex .f64 0 0)] [(0, 1), (4, 1), (3, 1)] [(.int .i64 33), x4, x12]) fun x13 =>
 hb A (hIni 5 h x13) fun x14 h =>
 cs 44 [x0, (.string ⟨#[59]⟩)] h fun x15 h =>
 cs 154 [x0, (.string ⟨#[119, 104, 105, 108, 101]⟩)] h fun x16 h =>
 pb A (vFa 3 x14) fun x17 =>
 pb A (mLd h x17) fun x18 =>
 cs 210 [x0] h fun x19 h =>
 alc A 4 (allocOf (opdT 22 [83] [x19]) (.buildSlice 5 1 [(.int .i64 0), (.string ⟨#[]⟩), (.float .f64 0), (.slice none 0 0), (.complex .f64 0 0)] [(0, 5, (.tmp 83))])) h [] fun x20 h pd =>
 rb A (mLd h x17) x18 <|
 abl 4 h pd fun h pd =>
 hb A (hApp 5 72 h x18 x20) fun x21 h =>
 pb A (vFa 3 x14) fun x22 =>
 wb A (hSt 1 h x22 x21) fun h =>
 cs 213 [x0] h fun x23 h =>
 pb A (mLdA 5 h x14) fun x24 =>
 wb A (hSt 5 h x1 x24) fun h =>
 pb A (mLdA 5 h x1) fun x25 =>
 K x25 h) (cs 153 [x0, (.string ⟨#[102, 111, 114]⟩)] h fun x10 h =>
 ic A x10 (cs 214 [x0, x4] h fun x11 h =>
 wb A (hSt 5 h x1 x11) fun h =>
 pb A (mLdA 5 h x1) fun x12 =>
 K x12 h) (cs 215 [x0] h fun x11 h =>
 hb A (hIni 5 h x11) fun x12 h =>
 cs 213 [x0] h fun x13 h =>
 pb A (mLdA 5 h x12) fun x14 =>
 wb A (hSt 5 h x1 x14) fun h =>
 pb A (mLdA 5 h x1) fun x15 =>
 K x15 h)))))
theorem r184 : RowS Tryz.prog 22 184 d184 := rowS Tryz.func184 (by kernel_rfl) true [] (fun R A cs csd lo => by kernel_rfl)
/-- (*tailrace/tailraceref16.parser).cond -/
noncomputable def d187 : FnT := fun R A cs csd lo vs h K => p1 A vs fun x0 =>
 hb A (some (hNew h [(.int .i64 0), (.string ⟨#[]⟩), (.float .f64 0), (.slice none 0 0), (.complex .f64 0 0)])) fun x1 h =>
 cs 220 [x0] h fun x2 h =>
 hb A (hIni 5 h x2) fun x3 h =>
 cs 189 [x0, (.string ⟨#[63]⟩)] h fun x4 h =>
 pb A (vExt 0 x4) fun x5 =>
 pb A (vExt 1 x4) fun x6 =>
 pb A (vExt 2 x4) fun x7 =>
 pb A (vNot x7) fun x8 =>
 ic A x8 (pb A (mLdA 5 h x3) fun x9 =>
 wb A (hSt 5 h x1 x9) fun h =>
 pb A (mLdA 5 h x1) fun x10 =>
 K x10 h) (cs 158 [x0] h fun x9 h =>
 hb A (hIni 5 h x9) fun x10 h =>
 cs 154 [x0, (.string ⟨#[58]⟩)] h fun x11 h =>
 pb A (mLdA 5 h x3) fun x12 =>
 pb A (mLdA 5 h x10) fun x13 =>
 cs 158 [x0] h fun x14 h =>
 alc A 5 (allocOf (opdT 22 [24, 25, 27] [x12, x13, x14]) (.buildSlice 5 3 [(.int .i64 0), (.string ⟨#[]⟩), (.float .f64 0), (.slice none 0 0), (.complex .f64 0 0), (.int .i64 0), (.string ⟨#[]⟩), (.float .f64 0), (.slice none 0 0), (.complex .f64 0 0), (.int .i64 0), (.string ⟨#[]⟩), (.float .f64 0), (.slice none 0 0), (.complex .f64 0 0)] [(0, 5, (.tmp 24)), (5, 5, (.tmp 25)), (10, 5, (.tmp 27))])) h [] fun x15 h pd =>
 pb A (vBld [(.int .i64 0), (.string ⟨#[]⟩), (.float .f64 0), (.slice none 0 0), (.complex .f64 0 0)] [(0, 1), (4, 1), (3, 1)] [(.int .i64 8), x6, x15]) fun x16 =>
 rb A (mLdA 5 h x3) x12 <|
 rb A (mLdA 5 h x10) x13 <|
 abl 5 h pd fun h pd =>
 wb A (hSt 5 h x1 x16) fun h =>
 pb A (mLdA 5 h x1) fun x17 =>
 K x17 h)
theorem r187 : RowS Tryz.prog 22 187 d187 := rowS Tryz.func187 (by kernel_rfl) true [] (fun R A cs csd lo => by kernel_rfl)
/-- tailrace/tailraceref16.lvalue -/
noncomputable def d188 : FnT := fun R A cs csd lo vs h K => p1 A vs fun x0 =>
 hb A (hBox h x0) fun x1 h =>
 pb A (mF 0 h x1) fun x2 =>
 pb A (vIop .eql x2 (.int .i64 4)) fun x3 =>
 gp A x3 false (mF 0 h x1) fun x4 =>
 gp A x3 false (vIop .eql x4 (.int .i64 5)) fun x5 =>
 pb A (vPick x3 (.bool true) x5) fun x6 =>
 gp A x6 false (mF 0 h x1) fun x7 =>
 gp A x6 false (vIop .eql x7 (.int .i64 6)) fun x8 =>
 pb A (vPick x6 (.bool true) x8) fun x9 =>
 K x9 h
theorem r188 : RowS Tryz.prog 22 188 d188 := rowS Tryz.func188 (by kernel_rfl) true [] (fun R A cs csd lo => by kernel_rfl)
/-- (*tailrace/tailraceref16.parser).one -/
noncomputable def d189 : FnT := fun R A cs csd lo vs h K => p2 A vs fun x0 x1 =>
 cs 43 [x0] h fun x2 h =>
 pb A (vNot x2) fun x3 =>
 ic A x3 (K (.tuple #[(.string ⟨#[]⟩), (.complex .f64 0 0), (.bool false)]) h) (pb A (mF 1 h x0) fun x4 =>
 cs 90 [x0, x4] h fun x5 h =>
 pb A (vExt 0 x5) fun x6 =>
 pb A (vExt 1 x5) fun x7 =>
 hb A (hIni 5 h x6) fun x8 h =>
 pb A (vNot x7) fun x9 =>
 gp A x9 false (mF 0 h x8) fun x10 =>
 gp A x9 false (vIop .neq x10 (.int .i64 9)) fun x11 =>
 pb A (vPick x9 (.bool true) x11) fun x12 =>
 gp A x12 false (some x1) fun x13 =>
 gp A x12 false (mF 1 h x8) fun x14 =>
 gc A x12 false h (cs 131 [x13, x14] h) fun x15 h =>
 gp A x12 false (vNot x15) fun x16 =>
 pb A (vPick x12 (.bool true) x16) fun x17 =>
 ic A x17 (K (.tuple #[(.string ⟨#[]⟩), (.complex .f64 0 0), (.bool false)]) h) (pb A (mF 4 h x8) fun x18 =>
 wb A (hF 1 h x0 x18) fun h =>
 pb A (vFa 1 x8) fun x19 =>
 pb A (mLd h x19) fun x20 =>
 pb A (mLdA 5 h x8) fun x21 =>
 cs 183 [x0, x21] h fun x22 h =>
 rb A (mLd h x19) x20 <|
 K (.tuple #[x20, x22, (.bool true)]) h))
theorem r189 : RowS Tryz.prog 22 189 d189 := rowS Tryz.func189 (by kernel_rfl) true [] (fun R A cs csd lo => by kernel_rfl)
/-- slices.pdqsortOrdered[string] -/
noncomputable def d202 : FnT := fun R A cs csd lo vs h K => p4 A vs fun x0 x1 x2 x3 =>
 lo (fun r0 vs h => p5 A vs fun x4 x5 x6 x7 x8 =>
 jn (fun vs h => p5 A vs fun x9 x10 x11 x12 x13 =>
 r0 [x9, x10, x11, x12, x13] h) fun j1 =>
 pb A (vIop .sub x5 x4) fun x9 =>
 pb A (vIop .leq x9 (.int .i64 12)) fun x10 =>
 ic A x10 (cs 229 [x0, x4, x5] h fun x11 h =>
 K (.tuple #[]) h) (pb A (vIop .eql x6 (.int .i64 0)) fun x11 =>
 ic A x11 (cs 230 [x0, x4, x5] h fun x12 h =>
 K (.tuple #[]) h) (pb A (vNot x7) fun x12 =>
 jn (fun vs h => p1 A vs fun x13 =>
 cs 232 [x0, x4, x5] h fun x14 h =>
 pb A (vExt 0 x14) fun x15 =>
 pb A (vExt 1 x14) fun x16 =>
 pb A (vIop .eql x16 (.int .i64 2)) fun x17 =>
 jn (fun vs h => p2 A vs fun x18 x19 =>
 gp A x7 true (some x8) fun x20 =>
 pb A (vPick x7 x20 (.bool false)) fun x21 =>
 gp A x21 true (some x19) fun x22 =>
 gp A x21 true (vIop .eql x22 (.int .i64 1)) fun x23 =>
 pb A (vPick x21 x23 (.bool false)) fun x24 =>
 jn (fun vs h => 
 pb A (vIop .gtr x4 (.int .i64 0)) fun x25 =>
 gp A x25 true (some x0) fun x26 =>
 gp A x25 true (some x4) fun x27 =>
 gp A x25 true (vIop .sub x27 (.int .i64 1)) fun x28 =>
 gp A x25 true (mI 1 0 h x26 x28) fun x29 =>
 gp A x25 true (some x0) fun x30 =>
 gp A x25 true (some x18) fun x31 =>
 gp A x25 true (mI 1 0 h x30 x31) fun x32 =>
 gc A x25 true h (cs 235 [x29, x32] h) fun x33 h =>
 gp A x25 true (vNot x33) fun x34 =>
 pb A (vPick x25 x34 (.bool false)) fun x35 =>
 ic A x35 (cs 236 [x0, x4, x5, x18] h fun x36 h =>
 j1 [x36, x5, x13, x7, x8] h) (cs 237 [x0, x4, x5, x18] h fun x36 h =>
 pb A (vExt 0 x36) fun x37 =>
 pb A (vExt 1 x36) fun x38 =>
 pb A (vIop .sub x37 x4) fun x39 =>
 pb A (vIop .sub x5 x37) fun x40 =>
 pb A (vQuo x9 (.int .i64 8)) fun x41 =>
 pb A (vIop .lss x39 x40) fun x42 =>
 jn (fun vs h => p3 A vs fun x43 x44 x45 =>
 j1 [x43, x44, x13, x45, x38] h) fun j2 =>
 ic A x42 (pb A (vIop .geq x39 x41) fun x43 =>
 cs 202 [x0, x4, x37, x13] h fun x44 h =>
 pb A (vIop .add x37 (.int .i64 1)) fun x45 =>
 j2 [x45, x5, x43] h) (pb A (vIop .geq x40 x41) fun x43 =>
 pb A (vIop .add x37 (.int .i64 1)) fun x44 =>
 cs 202 [x0, x44, x5, x13] h fun x45 h =>
 j2 [x4, x37, x43] h))) fun j2 =>
 ic A x24 (cs 234 [x0, x4, x5] h fun x25 h =>
 ic A x25 (K (.tuple #[]) h) (j2 [] h)) (j2 [] h)) fun j2 =>
 ic A x17 (cs 233 [x0, x4, x5] h fun x18 h =>
 pb A (vIop .sub x5 (.int .i64 1)) fun x19 =>
 pb A (vIop .sub x15 x4) fun x20 =>
 pb A (vIop .sub x19 x20) fun x21 =>
 j2 [x21, (.int .i64 1)] h) (j2 [x15, x16] h)) fun j2 =>
 ic A x12 (cs 231 [x0, x4, x5] h fun x13 h =>
 pb A (vIop .sub x6 (.int .i64 1)) fun x14 =>
 j2 [x14] h) (j2 [x6] h)))) [x1, x2, x3, (.bool true), (.bool true)] h
theorem r202 : RowS Tryz.prog 22 202 d202 := rowS Tryz.func202 (by kernel_rfl) true [q1, q2, q3, q8, q9, q11, q12] (fun R A cs csd lo => by kernel_rfl)
/-- math/bits.Len -/
noncomputable def d203 : FnT := fun R A cs csd lo vs h K => p1 A vs fun x0 =>
 ic A (.bool false) (pb A (vCvt .u32 x0) fun x1 =>
 cs 238 [x1] h fun x2 h =>
 K x2 h) (cs 223 [x0] h fun x1 h =>
 K x1 h)
theorem r203 : RowS Tryz.prog 22 203 d203 := rowS Tryz.func203 (by kernel_rfl) true [] (fun R A cs csd lo => by kernel_rfl)
/-- internal/strconv.parseFloatPrefix -/
noncomputable def d205 : FnT := fun R A cs csd lo vs h K => p2 A vs fun x0 x1 =>
 pb A (vIop .eql x1 (.int .i64 32)) fun x2 =>
 ic A x2 (cs 239 [x0] h fun x3 h =>
 pb A (vExt 0 x3) fun x4 =>
 pb A (vExt 1 x3) fun x5 =>
 pb A (vExt 2 x3) fun x6 =>
 pb A (vAny Tryz.prog 22 (.scal ⟨none, (.convert 259 52 (.tmp 18)), 52, "", #[], none⟩) [18] [x4]) fun x7 =>
 K (.tuple #[x7, x5, x6]) h) (cs 240 [x0] h fun x3 h =>
 pb A (vExt 0 x3) fun x4 =>
 pb A (vExt 1 x3) fun x5 =>
 pb A (vExt 2 x3) fun x6 =>
 K (.tuple #[x4, x5, x6]) h)
theorem r205 : RowS Tryz.prog 22 205 d205 := rowS Tryz.func205 (by kernel_rfl) true [] (fun R A cs csd lo => by kernel_rfl)
/-- (*tailrace/tailraceref16.parser).end -/
noncomputable def d213 : FnT := fun R A cs csd lo vs h K => p1 A vs fun x0 =>
 cs 45 [x0, (.bool false)] h fun x1 h =>
 hb A (hIni 5 h x1) fun x2 h =>
 cs 43 [x0] h fun x3 h =>
 pb A (vNot x3) fun x4 =>
 gp A x4 false (mF 0 h x2) fun x5 =>
 gp A x4 false (vIop .eql x5 (.int .i64 0)) fun x6 =>
 pb A (vPick x4 (.bool true) x6) fun x7 =>
 gp A x7 false (some x0) fun x8 =>
 gc A x7 false h (cs 93 [x8, (.string ⟨#[125]⟩)] h) fun x9 h =>
 pb A (vPick x7 (.bool true) x9) fun x10 =>
 ic A x10 (K (.tuple #[]) h) (pb A (mF 0 h x2) fun x11 =>
 pb A (vIop .neq x11 (.int .i64 1)) fun x12 =>
 gp A x12 true (mF 0 h x2) fun x13 =>
 gp A x12 true (vIop .eql x13 (.int .i64 9)) fun x14 =>
 gp A x12 true (some x14) fun x15 =>
 gp A x15 true (mF 1 h x2) fun x16 =>
 gp A x15 true (vSeq x16 (.string ⟨#[59]⟩)) fun x17 =>
 gp A x12 true (vPick x15 x17 (.bool false)) fun x18 =>
 gp A x12 true (vNot x18) fun x19 =>
 pb A (vPick x12 x19 (.bool false)) fun x20 =>
 ic A x20 (pb A (mLdA 5 h x2) fun x21 =>
 cs 96 [x0, x21] h fun x22 h =>
 K (.tuple #[]) h) (pb A (mF 4 h x2) fun x21 =>
 wb A (hF 1 h x0 x21) fun h =>
 K (.tuple #[]) h))
theorem r213 : RowS Tryz.prog 22 213 d213 := rowS Tryz.func213 (by kernel_rfl) true [] (fun R A cs csd lo => by kernel_rfl)
/-- (*tailrace/tailraceref16.parser).simple -/
noncomputable def d215 : FnT := fun R A cs csd lo vs h K => p1 A vs fun x0 =>
 hb A (some (hNew h [(.int .i64 0), (.string ⟨#[]⟩), (.float .f64 0), (.slice none 0 0), (.complex .f64 0 0)])) fun x1 h =>
 cs 152 [x0, (.bool true)] h fun x2 h =>
 pb A (vExt 0 x2) fun x3 =>
 pb A (vExt 1 x2) fun x4 =>
 hb A (hIni 5 h x3) fun x5 h =>
 cs 153 [x0, (.string ⟨#[98, 114, 101, 97, 107]⟩)] h fun x6 h =>
 ic A x6 (pb A (vBld [(.int .i64 0), (.string ⟨#[]⟩), (.float .f64 0), (.slice none 0 0), (.complex .f64 0 0)] [(0, 1), (4, 1)] [(.int .i64 36), x4]) fun x7 =>
 wb A (hSt 5 h x1 x7) fun h =>
 pb A (mLdA 5 h x1) fun x8 =>
 K x8 h) (cs 153 [x0, (.string ⟨#[99, 111, 110, 116, 105, 110, 117, 101]⟩)] h fun x7 h =>
 ic A x7 (pb A (vBld [(.int .i64 0), (.string ⟨#[]⟩), (.float .f64 0), (.slice none 0 0), (.complex .f64 0 0)] [(0, 1), (4, 1)] [(.int .i64 37), x4]) fun x8 =>
 wb A (hSt 5 h x1 x8) fun h =>
 pb A (mLdA 5 h x1) fun x9 =>
 K x9 h) (cs 153 [x0, (.string ⟨#[110, 101, 120, 116]⟩)] h fun x8 h =>
 ic A x8 (pb A (vBld [(.int .i64 0), (.string ⟨#[]⟩), (.float .f64 0), (.slice none 0 0), (.complex .f64 0 0)] [(0, 1), (4, 1)] [(.int .i64 38), x4]) fun x9 =>
 wb A (hSt 5 h x1 x9) fun h =>
 pb A (mLdA 5 h x1) fun x10 =>
 K x10 h) (cs 153 [x0, (.string ⟨#[101, 120, 105, 116]⟩)] h fun x9 h =>
 ic A x9 (cs 243 [x0, (.int .i64 39), x4] h fun x10 h =>
 wb A (hSt 5 h x1 x10) fun h =>
 pb A (mLdA 5 h x1) fun x11 =>
 K x11 h) (cs 153 [x0, (.string ⟨#[114, 101, 116, 117, 114, 110]⟩)] h fun x10 h =>
 ic A x10 (cs 243 [x0, (.int .i64 40), x4] h fun x11 h =>
 wb A (hSt 5 h x1 x11) fun h =>
 pb A (mLdA 5 h x1) fun x12 =>
 K x12 h) (cs 153 [x0, (.string ⟨#[100, 101, 108, 101, 116, 101]⟩)] h fun x11 h =>
 ic A x11 (cs 155 [x0] h fun x12 h =>
 hb A (hIni 5 h x12) fun x13 h =>
 pb A (mF 1 h x13) fun x14 =>
 pb A (vBld [(.int .i64 0), (.string ⟨#[]⟩), (.float .f64 0), (.slice none 0 0), (.complex .f64 0 0)] [(0, 1), (1, 1), (4, 1)] [(.int .i64 41), x14, x4]) fun x15 =>
 hb A (hIni 5 h x15) fun x16 h =>
 cs 153 [x0, (.string ⟨#[91]⟩)] h fun x17 h =>
 jn (fun vs h => 
 pb A (mLdA 5 h x16) fun x18 =>
 wb A (hSt 5 h x1 x18) fun h =>
 pb A (mLdA 5 h x1) fun x19 =>
 K x19 h) fun j0 =>
 ic A x17 (cs 244 [x0, (.string ⟨#[93]⟩)] h fun x18 h =>
 wb A (hF 3 h x16 x18) fun h =>
 j0 [] h) (j0 [] h)) (cs 153 [x0, (.string ⟨#[112, 114, 105, 110, 116]⟩)] h fun x12 h =>
 ic A x12 (pb A (vBld [(.int .i64 0), (.string ⟨#[]⟩), (.float .f64 0), (.slice none 0 0), (.complex .f64 0 0)] [(0, 1), (4, 1)] [(.int .i64 42), x4]) fun x13 =>
 hb A (hIni 5 h x13) fun x14 h =>
 cs 245 [x0] h fun x15 h =>
 jn (fun vs h => 
 cs 247 [x0] h fun x16 h =>
 pb A (mLdA 5 h x14) fun x17 =>
 wb A (hSt 5 h x1 x17) fun h =>
 pb A (mLdA 5 h x1) fun x18 =>
 K x18 h) fun j0 =>
 ic A x15 (cs 246 [x0] h fun x16 h =>
 wb A (hF 3 h x14 x16) fun h =>
 j0 [] h) (j0 [] h)) (cs 153 [x0, (.string ⟨#[112, 114, 105, 110, 116, 102]⟩)] h fun x13 h =>
 ic A x13 (cs 246 [x0] h fun x14 h =>
 pb A (vBld [(.int .i64 0), (.string ⟨#[]⟩), (.float .f64 0), (.slice none 0 0), (.complex .f64 0 0)] [(0, 1), (4, 1), (3, 1)] [(.int .i64 43), x4, x14]) fun x15 =>
 hb A (hIni 5 h x15) fun x16 h =>
 cs 247 [x0] h fun x17 h =>
 pb A (mLdA 5 h x16) fun x18 =>
 wb A (hSt 5 h x1 x18) fun h =>
 pb A (mLdA 5 h x1) fun x19 =>
 K x19 h) (cs 158 [x0] h fun x14 h =>
 hb A (hIni 5 h x14) fun x15 h =>
 pb A (mLdA 5 h x15) fun x16 =>
 hb A (hBsl 5 1 [(.int .i64 0), (.string ⟨#[]⟩), (.float .f64 0), (.slice none 0 0), (.complex .f64 0 0)] [(0, 5)] h [x16]) fun x17 h =>
 pb A (mF 4 h x15) fun x18 =>
 pb A (vBld [(.int .i64 0), (.string ⟨#[]⟩), (.float .f64 0), (.slice none 0 0), (.complex .f64 0 0)] [(0, 1), (3, 1), (4, 1)] [(.int .i64 44), x17, x18]) fun x19 =>
 wb A (hSt 5 h x1 x19) fun h =>
 pb A (mLdA 5 h x1) fun x20 =>
 K x20 h))))))))
theorem r215 : RowS Tryz.prog 22 215 d215 := rowS Tryz.func215 (by kernel_rfl) true [] (fun R A cs csd lo => by kernel_rfl)
/-- (*tailrace/tailraceref16.parser).or -/
noncomputable def d220 : FnT := fun R A cs csd lo vs h K => p1 A vs fun x0 =>
 hb A (some (hNew h [(.int .i64 0), (.string ⟨#[]⟩), (.float .f64 0), (.slice none 0 0), (.complex .f64 0 0)])) fun x1 h =>
 cs 248 [x0] h fun x2 h =>
 hb A (hIni 5 h x2) fun x3 h =>
 lo (fun r0 vs h => 
 cs 189 [x0, (.string ⟨#[124, 124]⟩)] h fun x4 h =>
 pb A (vExt 0 x4) fun x5 =>
 pb A (vExt 1 x4) fun x6 =>
 pb A (vExt 2 x4) fun x7 =>
 pb A (vNot x7) fun x8 =>
 ic A x8 (pb A (mLdA 5 h x3) fun x9 =>
 wb A (hSt 5 h x1 x9) fun h =>
 pb A (mLdA 5 h x1) fun x10 =>
 K x10 h) (cs 44 [x0, (.string ⟨#[]⟩)] h fun x9 h =>
 pb A (mLdA 5 h x3) fun x10 =>
 cs 248 [x0] h fun x11 h =>
 alc A 4 (allocOf (opdT 22 [21, 23] [x10, x11]) (.buildSlice 5 2 [(.int .i64 0), (.string ⟨#[]⟩), (.float .f64 0), (.slice none 0 0), (.complex .f64 0 0), (.int .i64 0), (.string ⟨#[]⟩), (.float .f64 0), (.slice none 0 0), (.complex .f64 0 0)] [(0, 5, (.tmp 21)), (5, 5, (.tmp 23))])) h [] fun x12 h pd =>
 pb A (vBld [(.int .i64 0), (.string ⟨#[]⟩), (.float .f64 0), (.slice none 0 0), (.complex .f64 0 0)] [(0, 1), (4, 1), (3, 1)] [(.int .i64 9), x6, x12]) fun x13 =>
 rb A (mLdA 5 h x3) x10 <|
 abl 4 h pd fun h pd =>
 wb A (hSt 5 h x3 x13) fun h =>
 r0 [] h)) [] h
theorem r220 : RowS Tryz.prog 22 220 d220 := rowS Tryz.func220 (by kernel_rfl) true [] (fun R A cs csd lo => by kernel_rfl)
/-- math/bits.Len64 -/
noncomputable def d223 : FnT := fun R A cs csd lo vs h K => p1 A vs fun x0 =>
 pb A (vIop .geq x0 (.int .u64 4294967296)) fun x1 =>
 jn (fun vs h => p2 A vs fun x2 x3 =>
 pb A (vIop .geq x2 (.int .u64 65536)) fun x4 =>
 jn (fun vs h => p2 A vs fun x5 x6 =>
 pb A (vIop .geq x5 (.int .u64 256)) fun x7 =>
 jn (fun vs h => p2 A vs fun x8 x9 =>
 pb A (vCvt .u8 x8) fun x10 =>
 pb A (vSidx (.string ⟨#[0, 1, 2, 2, 3, 3, 3, 3, 4, 4, 4, 4, 4, 4, 4, 4, 5, 5, 5, 5, 5, 5, 5, 5, 5, 5, 5, 5, 5, 5, 5, 5, 6, 6, 6, 6, 6, 6, 6, 6, 6, 6, 6, 6, 6, 6, 6, 6, 6, 6, 6, 6, 6, 6, 6, 6, 6, 6, 6, 6, 6, 6, 6, 6, 7, 7, 7, 7, 7, 7, 7, 7, 7, 7, 7, 7, 7, 7, 7, 7, 7, 7, 7, 7, 7, 7, 7, 7, 7, 7, 7, 7, 7, 7, 7, 7, 7, 7, 7, 7, 7, 7, 7, 7, 7, 7, 7, 7, 7, 7, 7, 7, 7, 7, 7, 7, 7, 7, 7, 7, 7, 7, 7, 7, 7, 7, 7, 7, 8, 8, 8, 8, 8, 8, 8, 8, 8, 8, 8, 8, 8, 8, 8, 8, 8, 8, 8, 8, 8, 8, 8, 8, 8, 8, 8, 8, 8, 8, 8, 8, 8, 8, 8, 8, 8, 8, 8, 8, 8, 8, 8, 8, 8, 8, 8, 8, 8, 8, 8, 8, 8, 8, 8, 8, 8, 8, 8, 8, 8, 8, 8, 8, 8, 8, 8, 8, 8, 8, 8, 8, 8, 8, 8, 8, 8, 8, 8, 8, 8, 8, 8, 8, 8, 8, 8, 8, 8, 8, 8, 8, 8, 8, 8, 8, 8, 8, 8, 8, 8, 8, 8, 8, 8, 8, 8, 8, 8, 8, 8, 8, 8, 8, 8, 8, 8, 8, 8, 8, 8, 8, 8, 8, 8, 8, 8, 8]⟩) x10) fun x11 =>
 pb A (vCvt .i64 x11) fun x12 =>
 pb A (vIop .add x9 x12) fun x13 =>
 K x13 h) fun j0 =>
 ic A x7 (pb A (vAny Tryz.prog 22 (.scal ⟨none, (.binOp .shr 235 (.tmp 15) (.const (.int .u64 8)) 243), 235, "", #[], none⟩) [15] [x5]) fun x8 =>
 pb A (vIop .add x6 (.int .i64 8)) fun x9 =>
 j0 [x8, x9] h) (j0 [x5, x6] h)) fun j0 =>
 ic A x4 (pb A (vAny Tryz.prog 22 (.scal ⟨none, (.binOp .shr 235 (.tmp 9) (.const (.int .u64 16)) 243), 235, "", #[], none⟩) [9] [x2]) fun x5 =>
 pb A (vIop .add x3 (.int .i64 16)) fun x6 =>
 j0 [x5, x6] h) (j0 [x2, x3] h)) fun j0 =>
 ic A x1 (pb A (vAny Tryz.prog 22 (.scal ⟨none, (.binOp .shr 235 (.tmp 5) (.const (.int .u64 32)) 243), 235, "", #[], none⟩) [5] [x0]) fun x2 =>
 j0 [x2, (.int .i64 32)] h) (j0 [x0, (.int .i64 0)] h)
theorem r223 : RowS Tryz.prog 22 223 d223 := rowS Tryz.func223 (by kernel_rfl) true [q0, q2] (fun R A cs csd lo => by kernel_rfl)
/-- slices.insertionSortOrdered[string] -/
noncomputable def d229 : FnT := fun R A cs csd lo vs h K => p3 A vs fun x0 x1 x2 =>
 pb A (vIop .add x1 (.int .i64 1)) fun x3 =>
 jn (fun vs h => p1 A vs fun x4 =>
 K (.tuple #[]) h) fun j0 =>
 lo (fun r1 vs h => p1 A vs fun x4 =>
 pb A (vIop .lss x4 x2) fun x5 =>
 ic A x5 (jn (fun vs h => p1 A vs fun x6 =>
 pb A (vIop .add x4 (.int .i64 1)) fun x7 =>
 r1 [x7] h) fun j2 =>
 lo (fun r3 vs h => p1 A vs fun x6 =>
 pb A (vIop .gtr x6 x1) fun x7 =>
 gp A x7 true (some x0) fun x8 =>
 gp A x7 true (some x6) fun x9 =>
 gp A x7 true (mI 1 0 h x8 x9) fun x10 =>
 gp A x7 true (some x0) fun x11 =>
 gp A x7 true (some x6) fun x12 =>
 gp A x7 true (vIop .sub x12 (.int .i64 1)) fun x13 =>
 gp A x7 true (mI 1 0 h x11 x13) fun x14 =>
 gc A x7 true h (cs 235 [x10, x14] h) fun x15 h =>
 pb A (vPick x7 x15 (.bool false)) fun x16 =>
 ic A x16 (pb A (vIop .sub x6 (.int .i64 1)) fun x17 =>
 pb A (vIop .sub x6 (.int .i64 1)) fun x18 =>
 pb A (mI 1 0 h x0 x18) fun x19 =>
 pb A (mI 1 0 h x0 x6) fun x20 =>
 pb A (vIxS 1 x0 x6) fun x21 =>
 wb A (hSt 1 h x21 x19) fun h =>
 pb A (vIxS 1 x0 x17) fun x22 =>
 wb A (hSt 1 h x22 x20) fun h =>
 pb A (vIop .sub x6 (.int .i64 1)) fun x23 =>
 r3 [x23] h) (j2 [x6] h)) [x4] h) (j0 [x4] h)) [x3] h
theorem r229 : RowS Tryz.prog 22 229 d229 := rowS Tryz.func229 (by kernel_rfl) true [q6, q7] (fun R A cs csd lo => by kernel_rfl)
/-- internal/strconv.atof64 -/
noncomputable def d240 : FnT := fun R A cs csd lo vs h K => p1 A vs fun x0 =>
 cs 271 [x0] h fun x1 h =>
 pb A (vExt 0 x1) fun x2 =>
 pb A (vExt 1 x1) fun x3 =>
 pb A (vExt 2 x1) fun x4 =>
 ic A x4 (K (.tuple #[x2, x3, .nilIface]) h) (cs 272 [x0] h fun x5 h =>
 pb A (vExt 0 x5) fun x6 =>
 pb A (vExt 1 x5) fun x7 =>
 pb A (vExt 2 x5) fun x8 =>
 pb A (vExt 3 x5) fun x9 =>
 pb A (vExt 4 x5) fun x10 =>
 pb A (vExt 5 x5) fun x11 =>
 pb A (vExt 6 x5) fun x12 =>
 pb A (vNot x12) fun x13 =>
 ic A x13 (pb A (vBox 246 (.int .i64 2)) fun x14 =>
 K (.tuple #[(.float .f64 0), x11, x14]) h) (ic A x10 (pb A (vScut x0 none (some x11)) fun x14 =>
 cs 273 [x14, (.pointer (some ⟨14, 0, none⟩)), x6, x7, x8, x9] h fun x15 h =>
 pb A (vExt 0 x15) fun x16 =>
 pb A (vExt 1 x15) fun x17 =>
 K (.tuple #[x16, x11, x17]) h) (pb A (mLd h (.pointer (some ⟨12, 0, none⟩))) fun x14 =>
 jn (fun vs h => p2 A vs fun x15 x16 =>
 hb A (some (hNew h [(.int .u8 0), (.int .u8 0), (.int .u8 0), (.int .u8 0), (.int .u8 0), (.int .u8 0), (.int .u8 0), (.int .u8 0), (.int .u8 0), (.int .u8 0), (.int .u8 0), (.int .u8 0), (.int .u8 0), (.int .u8 0), (.int .u8 0), (.int .u8 0), (.int .u8 0), (.int .u8 0), (.int .u8 0), (.int .u8 0), (.int .u8 0), (.int .u8 0), (.int .u8 0), (.int .u8 0), (.int .u8 0), (.int .u8 0), (.int .u8 0), (.int .u8 0), (.int .u8 0), (.int .u8 0), (.int .u8 0), (.int .u8 0), (.int .u8 0), (.int .u8 0), (.int .u8 0), (.int .u8 0), (.int .u8 0), (.int .u8 0), (.int .u8 0), (.int .u8 0), (.int .u8 0), (.int .u8 0), (.int .u8 0), (.int .u8 0), (.int .u8 0), (.int .u8 0), (.int .u8 0), (.int .u8 0), (.int .u8 0), (.int .u8 0), (.int .u8 0), (.int .u8 0), (.int .u8 0), (.int .u8 0), (.int .u8 0), (.int .u8 0), (.int .u8 0), (.int .u8 0), (.int .u8 0), (.int .u8 0), (.int .u8 0), (.int .u8 0), (.int .u8 0), (.int .u8 0), (.int .u8 0), (.int .u8 0), (.int .u8 0), (.int .u8 0), (.int .u8 0), (.int .u8 0), (.int .u8 0), (.int .u8 0), (.int .u8 0), (.int .u8 0), (.int .u8 0), (.int .u8 0), (.int .u8 0), (.int .u8 0), (.int .u8 0), (.int .u8 0), (.int .u8 0), (.int .u8 0), (.int .u8 0), (.int .u8 0), (.int .u8 0), (.int .u8 0), (.int .u8 0), (.int .u8 0), (.int .u8 0), (.int .u8 0), (.int .u8 0), (.int .u8 0), (.int .u8 0), (.int .u8 0), (.int .u8 0), (.int .u8 0), (.int .u8 0), (.int .u8 0), (.int .u8 0), (.int .u8 0), (.int .u8 0), (.int .u8 0), (.int .u8 0), (.int .u8 0), (.int .u8 0), (.int .u8 0), (.int .u8 0), (.int .u8 0), (.int .u8 0), (.int .u8 0), (.int .u8 0), (.int .u8 0), (.int .u8 0), (.int .u8 0), (.int .u8 0), (.int .u8 0), (.int .u8 0), (.int .u8 0), (.int .u8 0), (.int .u8 0), (.int .u8 0), (.int .u8 0), (.int .u8 0), (.int .u8 0), (.int .u8 0), (.int .u8 0), (.int .u8 0), (.int .u8 0), (.int .u8 0), (.int .u8 0), (.int .u8 0), (.int .u8 0), (.int .u8 0), (.int .u8 0), (.int .u8 0), (.int .u8 0), (.int .u8 0), (.int .u8 0), (.int .u8 0), (.int .u8 0), (.int .u8 0), (.int .u8 0), (.int .u8 0), (.int .u8 0), (.int .u8 0), (.int .u8 0), (.int .u8 0), (.int .u8 0), (.int .u8 0), (.int .u8 0), (.int .u8 0), (.int .u8 0), (.int .u8 0), (.int .u8 0), (.int .u8 0), (.int .u8 0), (.int .u8 0), (.int .u8 0), (.int .u8 0), (.int .u8 0), (.int .u8 0), (.int .u8 0), (.int .u8 0), (.int .u8 0), (.int .u8 0), (.int .u8 0), (.int .u8 0), (.int .u8 0), (.int .u8 0), (.int .u8 0), (.int .u8 0), (.int .u8 0), (.int .u8 0), (.int .u8 0), (.int .u8 0), (.int .u8 0), (.int .u8 0), (.int .u8 0), (.int .u8 0), (.int .u8 0), (.int .u8 0), (.int .u8 0), (.int .u8 0), (.int .u8 0), (.int .u8 0), (.int .u8 0), (.int .u8 0), (.int .u8 0), (.int .u8 0), (.int .u8 0), (.int .u8 0), (.int .u8 0), (.int .u8 0), (.int .u8 0), (.int .u8 0), (.int .u8 0), (.int .u8 0), (.int .u8 0), (.int .u8 0), (.int .u8 0), (.int .u8 0), (.int .u8 0), (.int .u8 0), (.int .u8 0), (.int .u8 0), (.int .u8 0), (.int .u8 0), (.int .u8 0), (.int .u8 0), (.int .u8 0), (.int .u8 0), (.int .u8 0), (.int .u8 0), (.int .u8 0), (.int .u8 0), (.int .u8 0), (.int .u8 0), (.int .u8 0), (.int .u8 0), (.int .u8 0), (.int .u8 0), (.int .u8 0), (.int .u8 0), (.int .u8 0), (.int .u8 0), (.int .u8 0), (.int .u8 0), (.int .u8 0), (.int .u8 0), (.int .u8 0), (.int .u8 0), (.int .u8 0), (.int .u8 0), (.int .u8 0), (.int .u8 0), (.int .u8 0), (.int .u8 0), (.int .u8 0), (.int .u8 0), (.int .u8 0), (.int .u8 0), (.int .u8 0), (.int .u8 0), (.int .u8 0), (.int .u8 0), (.int .u8 0), (.int .u8 0), (.int .u8 0), (.int .u8 0), (.int .u8 0), (.int .u8 0), (.int .u8 0), (.int .u8 0), (.int .u8 0), (.int .u8 0), (.int .u8 0), (.int .u8 0), (.int .u8 0), (.int .u8 0), (.int .u8 0), (.int .u8 0), (.int .u8 0), (.int .u8 0), (.int .u8 0), (.int .u8 0), (.int .u8 0), (.int .u8 0), (.int .u8 0), (.int .u8 0), (.int .u8 0), (.int .u8 0), (.int .u8 0), (.int .u8 0), (.int .u8 0), (.int .u8 0), (.int .u8 0), (.int .u8 0), (.int .u8 0), (.int .u8 0), (.int .u8 0), (.int .u8 0), (.int .u8 0), (.int .u8 0), (.int .u8 0), (.int .u8 0), (.int .u8 0), (.int .u8 0), (.int .u8 0), (.int .u8 0), (.int .u8 0), (.int .u8 0), (.int .u8 0), (.int .u8 0), (.int .u8 0), (.int .u8 0), (.int .u8 0), (.int .u8 0), (.int .u8 0), (.int .u8 0), (.int .u8 0), (.int .u8 0), (.int .u8 0), (.int .u8 0), (.int .u8 0), (.int .u8 0), (.int .u8 0), (.int .u8 0), (.int .u8 0), (.int .u8 0), (.int .u8 0), (.int .u8 0), (.int .u8 0), (.int .u8 0), (.int .u8 0), (.int .u8 0), (.int .u8 0), (.int .u8 0), (.int .u8 0), (.int .u8 0), (.int .u8 0), (.int .u8 0), (.int .u8 0), (.int .u8 0), (.int .u8 0), (.int .u8 0), (.int .u8 0), (.int .u8 0), (.int .u8 0), (.int .u8 0), (.int .u8 0), (.int .u8 0), (.int .u8 0), (.int .u8 0), (.int .u8 0), (.int .u8 0), (.int .u8 0), (.int .u8 0), (.int .u8 0), (.int .u8 0), (.int .u8 0), (.int .u8 0), (.int .u8 0), (.int .u8 0), (.int .u8 0), (.int .u8 0), (.int .u8 0), (.int .u8 0), (.int .u8 0), (.int .u8 0), (.int .u8 0), (.int .u8 0), (.int .u8 0), (.int .u8 0), (.int .u8 0), (.int .u8 0), (.int .u8 0), (.int .u8 0), (.int .u8 0), (.int .u8 0), (.int .u8 0), (.int .u8 0), (.int .u8 0), (.int .u8 0), (.int .u8 0), (.int .u8 0), (.int .u8 0), (.int .u8 0), (.int .u8 0), (.int .u8 0), (.int .u8 0), (.int .u8 0), (.int .u8 0), (.int .u8 0), (.int .u8 0), (.int .u8 0), (.int .u8 0), (.int .u8 0), (.int .u8 0), (.int .u8 0), (.int .u8 0), (.int .u8 0), (.int .u8 0), (.int .u8 0), (.int .u8 0), (.int .u8 0), (.int .u8 0), (.int .u8 0), (.int .u8 0), (.int .u8 0), (.int .u8 0), (.int .u8 0), (.int .u8 0), (.int .u8 0), (.int .u8 0), (.int .u8 0), (.int .u8 0), (.int .u8 0), (.int .u8 0), (.int .u8 0), (.int .u8 0), (.int .u8 0), (.int .u8 0), (.int .u8 0), (.int .u8 0), (.int .u8 0), (.int .u8 0), (.int .u8 0), (.int .u8 0), (.int .u8 0), (.int .u8 0), (.int .u8 0), (.int .u8 0), (.int .u8 0), (.int .u8 0), (.int .u8 0), (.int .u8 0), (.int .u8 0), (.int .u8 0), (.int .u8 0), (.int .u8 0), (.int .u8 0), (.int .u8 0), (.int .u8 0), (.int .u8 0), (.int .u8 0), (.int .u8 0), (.int .u8 0), (.int .u8 0), (.int .u8 0), (.int .u8 0), (.int .u8 0), (.int .u8 0), (.int .u8 0), (.int .u8 0), (.int .u8 0), (.int .u8 0), (.int .u8 0), (.int .u8 0), (.int .u8 0), (.int .u8 0), (.int .u8 0), (.int .u8 0), (.int .u8 0), (.int .u8 0), (.int .u8 0), (.int .u8 0), (.int .u8 0), (.int .u8 0), (.int .u8 0), (.int .u8 0), (.int .u8 0), (.int .u8 0), (.int .u8 0), (.int .u8 0), (.int .u8 0), (.int .u8 0), (.int .u8 0), (.int .u8 0), (.int .u8 0), (.int .u8 0), (.int .u8 0), (.int .u8 0), (.int .u8 0), (.int .u8 0), (.int .u8 0), (.int .u8 0), (.int .u8 0), (.int .u8 0), (.int .u8 0), (.int .u8 0), (.int .u8 0), (.int .u8 0), (.int .u8 0), (.int .u8 0), (.int .u8 0), (.int .u8 0), (.int .u8 0), (.int .u8 0), (.int .u8 0), (.int .u8 0), (.int .u8 0), (.int .u8 0), (.int .u8 0), (.int .u8 0), (.int .u8 0), (.int .u8 0), (.int .u8 0), (.int .u8 0), (.int .u8 0), (.int .u8 0), (.int .u8 0), (.int .u8 0), (.int .u8 0), (.int .u8 0), (.int .u8 0), (.int .u8 0), (.int .u8 0), (.int .u8 0), (.int .u8 0), (.int .u8 0), (.int .u8 0), (.int .u8 0), (.int .u8 0), (.int .u8 0), (.int .u8 0), (.int .u8 0), (.int .u8 0), (.int .u8 0), (.int .u8 0), (.int .u8 0), (.int .u8 0), (.int .u8 0), (.int .u8 0), (.int .u8 0), (.int .u8 0), (.int .u8 0), (.int .u8 0), (.int .u8 0), (.int .u8 0), (.int .u8 0), (.int .u8 0), (.int .u8 0), (.int .u8 0), (.int .u8 0), (.int .u8 0), (.int .u8 0), (.int .u8 0), (.int .u8 0), (.int .u8 0), (.int .u8 0), (.int .u8 0), (.int .u8 0), (.int .u8 0), (.int .u8 0), (.int .u8 0), (.int .u8 0), (.int .u8 0), (.int .u8 0), (.int .u8 0), (.int .u8 0), (.int .u8 0), (.int .u8 0), (.int .u8 0), (.int .u8 0), (.int .u8 0), (.int .u8 0), (.int .u8 0), (.int .u8 0), (.int .u8 0), (.int .u8 0), (.int .u8 0), (.int .u8 0), (.int .u8 0), (.int .u8 0), (.int .u8 0), (.int .u8 0), (.int .u8 0), (.int .u8 0), (.int .u8 0), (.int .u8 0), (.int .u8 0), (.int .u8 0), (.int .u8 0), (.int .u8 0), (.int .u8 0), (.int .u8 0), (.int .u8 0), (.int .u8 0), (.int .u8 0), (.int .u8 0), (.int .u8 0), (.int .u8 0), (.int .u8 0), (.int .u8 0), (.int .u8 0), (.int .u8 0), (.int .u8 0), (.int .u8 0), (.int .u8 0), (.int .u8 0), (.int .u8 0), (.int .u8 0), (.int .u8 0), (.int .u8 0), (.int .u8 0), (.int .u8 0), (.int .u8 0), (.int .u8 0), (.int .u8 0), (.int .u8 0), (.int .u8 0), (.int .u8 0), (.int .u8 0), (.int .u8 0), (.int .u8 0), (.int .u8 0), (.int .u8 0), (.int .u8 0), (.int .u8 0), (.int .u8 0), (.int .u8 0), (.int .u8 0), (.int .u8 0), (.int .u8 0), (.int .u8 0), (.int .u8 0), (.int .u8 0), (.int .u8 0), (.int .u8 0), (.int .u8 0), (.int .u8 0), (.int .u8 0), (.int .u8 0), (.int .u8 0), (.int .u8 0), (.int .u8 0), (.int .u8 0), (.int .u8 0), (.int .u8 0), (.int .u8 0), (.int .u8 0), (.int .u8 0), (.int .u8 0), (.int .u8 0), (.int .u8 0), (.int .u8 0), (.int .u8 0), (.int .u8 0), (.int .u8 0), (.int .u8 0), (.int .u8 0), (.int .u8 0), (.int .u8 0), (.int .u8 0), (.int .u8 0), (.int .u8 0), (.int .u8 0), (.int .u8 0), (.int .u8 0), (.int .u8 0), (.int .u8 0), (.int .u8 0), (.int .u8 0), (.int .u8 0), (.int .u8 0), (.int .u8 0), (.int .u8 0), (.int .u8 0), (.int .u8 0), (.int .u8 0), (.int .u8 0), (.int .u8 0), (.int .u8 0), (.int .u8 0), (.int .u8 0), (.int .u8 0), (.int .u8 0), (.int .u8 0), (.int .u8 0), (.int .u8 0), (.int .u8 0), (.int .u8 0), (.int .u8 0), (.int .u8 0), (.int .u8 0), (.int .u8 0), (.int .u8 0), (.int .u8 0), (.int .u8 0), (.int .u8 0), (.int .u8 0), (.int .u8 0), (.int .u8 0), (.int .u8 0), (.int .u8 0), (.int .u8 0), (.int .u8 0), (.int .u8 0), (.int .u8 0), (.int .u8 0), (.int .u8 0), (.int .u8 0), (.int .u8 0), (.int .u8 0), (.int .u8 0), (.int .u8 0), (.int .u8 0), (.int .u8 0), (.int .u8 0), (.int .u8 0), (.int .u8 0), (.int .u8 0), (.int .u8 0), (.int .u8 0), (.int .u8 0), (.int .u8 0), (.int .u8 0), (.int .u8 0), (.int .u8 0), (.int .u8 0), (.int .u8 0), (.int .u8 0), (.int .u8 0), (.int .u8 0), (.int .u8 0), (.int .u8 0), (.int .u8 0), (.int .u8 0), (.int .u8 0), (.int .u8 0), (.int .u8 0), (.int .u8 0), (.int .u8 0), (.int .u8 0), (.int .u8 0), (.int .u8 0), (.int .u8 0), (.int .u8 0), (.int .u8 0), (.int .u8 0), (.int .u8 0), (.int .u8 0), (.int .u8 0), (.int .u8 0), (.int .u8 0), (.int .u8 0), (.int .u8 0), (.int .u8 0), (.int .u8 0), (.int .u8 0), (.int .u8 0), (.int .u8 0), (.int .u8 0), (.int .u8 0), (.int .u8 0), (.int .u8 0), (.int .u8 0), (.int .u8 0), (.int .u8 0), (.int .u8 0), (.int .u8 0), (.int .u8 0), (.int .u8 0), (.int .u8 0), (.int .u8 0), (.int .u8 0), (.int .u8 0), (.int .u8 0), (.int .u8 0), (.int .u8 0), (.int .u8 0), (.int .u8 0), (.int .u8 0), (.int .u8 0), (.int .u8 0), (.int .u8 0), (.int .u8 0), (.int .u8 0), (.int .u8 0), (.int .u8 0), (.int .u8 0), (.int .u8 0), (.int .u8 0), (.int .u8 0), (.int .u8 0), (.int .u8 0), (.int .u8 0), (.int .u8 0), (.int .u8 0), (.int .u8 0), (.int .u8 0), (.int .u8 0), (.int .u8 0), (.int .u8 0), (.int .u8 0), (.int .u8 0), (.int .u8 0), (.int .u8 0), (.int .u8 0), (.int .u8 0), (.int .u8 0), (.int .u8 0), (.int .u8 0), (.int .u8 0), (.int .u8 0), (.int .u8 0), (.int .u8 0), (.int .u8 0), (.int .u8 0), (.int .u8 0), (.int .u8 0), (.int .u8 0), (.int .u8 0), (.int .u8 0), (.int .u8 0), (.int .u8 0), (.int .u8 0), (.int .u8 0), (.int .u8 0), (.int .u8 0), (.int .i64 0), (.int .i64 0), (.bool false), (.bool false)])) fun x17 h =>
 pb A (vScut x0 none (some x15)) fun x18 =>
 cs 278 [x17, x18] h fun x19 h =>
 pb A (vNot x19) fun x20 =>
 ic A x20 (pb A (vBox 246 (.int .i64 2)) fun x21 =>
 K (.tuple #[(.float .f64 0), x15, x21]) h) (cs 279 [x17, (.pointer (some ⟨14, 0, none⟩))] h fun x21 h =>
 pb A (vExt 0 x21) fun x22 =>
 pb A (vExt 1 x21) fun x23 =>
 pb A (vAny Tryz.prog 22 (.scal ⟨none, (.call ⟨.value (.func 281), #[(.tmp 136)], #[235]⟩), 52, "", #[], none⟩) [136] [x22]) fun x24 =>
 jn (fun vs h => p1 A vs fun x25 =>
 K (.tuple #[x24, x15, x25]) h) fun j0 =>
 ic A x23 (pb A (vBox 246 (.int .i64 1)) fun x25 =>
 j0 [x25] h) (j0 [x16] h))) fun j0 =>
 ic A x14 (cs 280 [x8] h fun x15 h =>
 pb A (vAny Tryz.prog 22 (.scal ⟨none, (.binOp .shl 235 (.tmp 66) (.const (.int .u64 63)) 243), 235, "", #[], none⟩) [66] [x15]) fun x16 =>
 pb A (vIop .eql x6 (.int .u64 0)) fun x17 =>
 ic A x17 (pb A (vAny Tryz.prog 22 (.scal ⟨none, (.binOp .or 235 (.tmp 70) (.const (.int .u64 0)) 235), 235, "", #[], none⟩) [70] [x16]) fun x18 =>
 pb A (vAny Tryz.prog 22 (.scal ⟨none, (.call ⟨.value (.func 281), #[(.tmp 71)], #[235]⟩), 52, "", #[], none⟩) [71] [x18]) fun x19 =>
 K (.tuple #[x19, x11, .nilIface]) h) (pb A (vIop .gtr x7 (.int .i64 310)) fun x18 =>
 ic A x18 (pb A (vAny Tryz.prog 22 (.scal ⟨none, (.binOp .or 235 (.tmp 76) (.const (.int .u64 9218868437227405312)) 235), 235, "", #[], none⟩) [76] [x16]) fun x19 =>
 pb A (vAny Tryz.prog 22 (.scal ⟨none, (.call ⟨.value (.func 281), #[(.tmp 77)], #[235]⟩), 52, "", #[], none⟩) [77] [x19]) fun x20 =>
 pb A (vBox 246 (.int .i64 1)) fun x21 =>
 K (.tuple #[x20, x11, x21]) h) (pb A (vIop .lss x7 (.int .i64 (-345))) fun x19 =>
 ic A x19 (pb A (vAny Tryz.prog 22 (.scal ⟨none, (.binOp .or 235 (.tmp 83) (.const (.int .u64 0)) 235), 235, "", #[], none⟩) [83] [x16]) fun x20 =>
 pb A (vAny Tryz.prog 22 (.scal ⟨none, (.call ⟨.value (.func 281), #[(.tmp 84)], #[235]⟩), 52, "", #[], none⟩) [84] [x20]) fun x21 =>
 K (.tuple #[x21, x11, .nilIface]) h) (pb A (vNot x9) fun x20 =>
 jn (fun vs h => p2 A vs fun x21 x22 =>
 cs 283 [x6, x7, x16] h fun x23 h =>
 pb A (vExt 0 x23) fun x24 =>
 pb A (vExt 1 x23) fun x25 =>
 pb A (vNot x9) fun x26 =>
 ic A x26 (K (.tuple #[x24, x21, x25]) h) (pb A (vIop .add x6 (.int .u64 1)) fun x27 =>
 cs 283 [x27, x7, x16] h fun x28 h =>
 pb A (vExt 0 x28) fun x29 =>
 pb A (vExt 1 x28) fun x30 =>
 pb A (vAny Tryz.prog 22 (.scal ⟨none, (.binOp .eql 52 (.tmp 119) (.tmp 120) 52), 4, "", #[], none⟩) [119, 120] [x24, x29]) fun x31 =>
 ic A x31 (K (.tuple #[x24, x21, x25]) h) (j0 [x21, x22] h))) fun j1 =>
 ic A x20 (cs 282 [x6, x7, x8] h fun x21 h =>
 pb A (vExt 0 x21) fun x22 =>
 pb A (vExt 1 x21) fun x23 =>
 ic A x23 (K (.tuple #[x22, x11, .nilIface]) h) (j1 [x11, .nilIface] h)) (j1 [x11, .nilIface] h))))) (j0 [x11, .nilIface] h))))
theorem r240 : RowS Tryz.prog 22 240 d240 := rowS Tryz.func240 (by kernel_rfl) true [q3, q4] (fun R A cs csd lo => by kernel_rfl)
/-- (*tailrace/tailraceref16.parser).begins -/
noncomputable def d245 : FnT := fun R A cs csd lo vs h K => p1 A vs fun x0 =>
 cs 45 [x0, (.bool true)] h fun x1 h =>
 hb A (hIni 5 h x1) fun x2 h =>
 pb A (mF 0 h x2) fun x3 =>
 pb A (vIop .eql x3 (.int .i64 2)) fun x4 =>
 jn (fun vs h => p1 A vs fun x5 =>
 ic A x5 (cs 43 [x0] h fun x6 h =>
 K x6 h) (pb A (vIop .eql x3 (.int .i64 9)) fun x6 =>
 ic A x6 (cs 43 [x0] h fun x7 h =>
 gp A x7 true (mF 1 h x2) fun x8 =>
 gc A x7 true h (cs 131 [(.string ⟨#[36, 32, 40, 32, 43, 43, 32, 45, 45, 32, 43, 32, 45, 32, 33]⟩), x8] h) fun x9 h =>
 pb A (vPick x7 x9 (.bool false)) fun x10 =>
 K x10 h) (K (.bool false) h))) fun j0 =>
 ic A x4 (j0 [x4] h) (pb A (vIop .eql x3 (.int .i64 3)) fun x5 =>
 jn (fun vs h => p1 A vs fun x6 =>
 j0 [x6] h) fun j1 =>
 ic A x5 (j1 [x5] h) (pb A (vIop .eql x3 (.int .i64 4)) fun x6 =>
 jn (fun vs h => p1 A vs fun x7 =>
 j1 [x7] h) fun j2 =>
 ic A x6 (j2 [x6] h) (pb A (vIop .eql x3 (.int .i64 5)) fun x7 =>
 jn (fun vs h => p1 A vs fun x8 =>
 j2 [x8] h) fun j3 =>
 ic A x7 (j3 [x7] h) (pb A (vIop .eql x3 (.int .i64 6)) fun x8 =>
 jn (fun vs h => p1 A vs fun x9 =>
 j3 [x9] h) fun j4 =>
 ic A x8 (j4 [x8] h) (pb A (vIop .eql x3 (.int .i64 7)) fun x9 =>
 j4 [x9] h)))))
theorem r245 : RowS Tryz.prog 22 245 d245 := rowS Tryz.func245 (by kernel_rfl) true [q8] (fun R A cs csd lo => by kernel_rfl)
end Go.Am.S
