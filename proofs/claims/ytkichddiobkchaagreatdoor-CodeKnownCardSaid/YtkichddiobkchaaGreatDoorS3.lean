/-
  Functions of the program, as plain text that names each value once.
-/
import Derived.Test.YtkichddiobkchaaGreatDoorProg
import Derived.Test.YtkichddiobkchaaGreatDoorMD
import Derived.KernelRfl
namespace Go.Am.S
open Go Go.Am Go.Proofs
set_option maxRecDepth 100000
set_option linter.unusedVariables false
/-- (*tailrace/tailraceref16.parser).behind -/
noncomputable def d247 : FnT := fun R A cs csd lo vs h K => p1 A vs fun x0 =>
 cs 93 [x0, (.string ⟨#[62]⟩)] h fun x1 h =>
 jn (fun vs h => 
 K (.tuple #[]) h) fun j0 =>
 ic A x1 (pb A (mF 1 h x0) fun x2 =>
 cs 90 [x0, x2] h fun x3 h =>
 pb A (vExt 0 x3) fun x4 =>
 pb A (vExt 1 x3) fun x5 =>
 hb A (hIni 5 h x4) fun x6 h =>
 pb A (mF 3 h x6) fun x7 =>
 cs 92 [x0, (.int .i64 27), x7] h fun x8 h =>
 j0 [] h) (j0 [] h)
theorem r247 : RowS Tryz.prog 22 247 d247 := rowS Tryz.func247 (by kernel_rfl) true [] (fun R A cs csd lo => by kernel_rfl)
/-- (*tailrace/tailraceref16.parser).and -/
noncomputable def d248 : FnT := fun R A cs csd lo vs h K => p1 A vs fun x0 =>
 hb A (some (hNew h [(.int .i64 0), (.string ⟨#[]⟩), (.float .f64 0), (.slice none 0 0), (.complex .f64 0 0)])) fun x1 h =>
 cs 286 [x0] h fun x2 h =>
 hb A (hIni 5 h x2) fun x3 h =>
 lo (fun r0 vs h => 
 cs 189 [x0, (.string ⟨#[38, 38]⟩)] h fun x4 h =>
 pb A (vExt 0 x4) fun x5 =>
 pb A (vExt 1 x4) fun x6 =>
 pb A (vExt 2 x4) fun x7 =>
 pb A (vNot x7) fun x8 =>
 ic A x8 (pb A (mLdA 5 h x3) fun x9 =>
 wb A (hSt 5 h x1 x9) fun h =>
 pb A (mLdA 5 h x1) fun x10 =>
 K x10 h) (cs 44 [x0, (.string ⟨#[]⟩)] h fun x9 h =>
 pb A (mLdA 5 h x3) fun x10 =>
 cs 286 [x0] h fun x11 h =>
 alc A 4 (allocOf (opdT 22 [21, 23] [x10, x11]) (.buildSlice 5 2 [(.int .i64 0), (.string ⟨#[]⟩), (.float .f64 0), (.slice none 0 0), (.complex .f64 0 0), (.int .i64 0), (.string ⟨#[]⟩), (.float .f64 0), (.slice none 0 0), (.complex .f64 0 0)] [(0, 5, (.tmp 21)), (5, 5, (.tmp 23))])) h [] fun x12 h pd =>
 pb A (vBld [(.int .i64 0), (.string ⟨#[]⟩), (.float .f64 0), (.slice none 0 0), (.complex .f64 0 0)] [(0, 1), (4, 1), (3, 1)] [(.int .i64 10), x6, x12]) fun x13 =>
 rb A (mLdA 5 h x3) x10 <|
 abl 4 h pd fun h pd =>
 wb A (hSt 5 h x3 x13) fun h =>
 r0 [] h)) [] h
theorem r248 : RowS Tryz.prog 22 248 d248 := rowS Tryz.func248 (by kernel_rfl) true [] (fun R A cs csd lo => by kernel_rfl)
/-- tailrace/tailraceref8.Parse -/
noncomputable def d249 : FnT := fun R A cs csd lo vs h K => p1 A vs fun x0 =>
 hb A (some (hNew h [(.int .i64 0), (.int .u64 0), (.int .u64 0), (.int .u64 0), (.int .u64 0), (.slice none 0 0)])) fun x1 h =>
 pb A (vSeq x0 (.string ⟨#[]⟩)) fun x2 =>
 ic A x2 (pb A (vBld [(.int .i64 0), (.int .u64 0), (.int .u64 0), (.int .u64 0), (.int .u64 0), (.slice none 0 0)] [] []) fun x3 =>
 wb A (hSt 6 h x1 x3) fun h =>
 pb A (mLdA 6 h x1) fun x4 =>
 K (.tuple #[x4, (.int .i64 0), (.int .i64 0)]) h) (pb A (vBld [(.string ⟨#[]⟩), (.int .i64 0), (.int .i64 0), (.int .i64 0), (.int .i64 0), (.int .i64 0)] [(0, 1)] [x0]) fun x3 =>
 hb A (hBox h x3) fun x4 h =>
 cs 287 [x4] h fun x5 h =>
 hb A (hIni 6 h x5) fun x6 h =>
 pb A (mF 3 h x4) fun x7 =>
 pb A (vIop .eql x7 (.int .i64 0)) fun x8 =>
 gp A x8 true (some x4) fun x9 =>
 gp A x8 true (mF 1 h x9) fun x10 =>
 gp A x8 true (some x0) fun x11 =>
 gp A x8 true (vSlen x11) fun x12 =>
 gp A x8 true (vIop .lss x10 x12) fun x13 =>
 pb A (vPick x8 x13 (.bool false)) fun x14 =>
 jn (fun vs h => 
 pb A (mF 3 h x4) fun x15 =>
 pb A (vIop .neq x15 (.int .i64 0)) fun x16 =>
 ic A x16 (pb A (vBld [(.int .i64 0), (.int .u64 0), (.int .u64 0), (.int .u64 0), (.int .u64 0), (.slice none 0 0)] [] []) fun x17 =>
 pb A (vNil x4) fun x18 =>
 pb A (vFa 4 x18) fun x19 =>
 pb A (mLd h x19) fun x20 =>
 pb A (vNil x4) fun x21 =>
 pb A (vFa 3 x21) fun x22 =>
 pb A (mLd h x22) fun x23 =>
 wb A (hSt 6 h x1 x17) fun h =>
 rb A (mLd h x19) x20 <|
 rb A (mLd h x22) x23 <|
 pb A (mLdA 6 h x1) fun x24 =>
 K (.tuple #[x24, x20, x23]) h) (pb A (mLdA 6 h x6) fun x17 =>
 cs 289 [x17] h fun x18 h =>
 pb A (vNot x18) fun x19 =>
 ic A x19 (pb A (vBld [(.int .i64 0), (.int .u64 0), (.int .u64 0), (.int .u64 0), (.int .u64 0), (.slice none 0 0)] [] []) fun x20 =>
 wb A (hSt 6 h x1 x20) fun h =>
 pb A (mLdA 6 h x1) fun x21 =>
 K (.tuple #[x21, (.int .i64 0), (.int .i64 24)]) h) (pb A (mLdA 6 h x6) fun x20 =>
 wb A (hSt 6 h x1 x20) fun h =>
 pb A (mLdA 6 h x1) fun x21 =>
 K (.tuple #[x21, (.int .i64 0), (.int .i64 0)]) h))) fun j0 =>
 ic A x14 (pb A (mF 1 h x4) fun x15 =>
 cs 288 [x4, (.int .i64 24), x15] h fun x16 h =>
 j0 [] h) (j0 [] h))
theorem r249 : RowS Tryz.prog 22 249 d249 := rowS Tryz.func249 (by kernel_rfl) true [] (fun R A cs csd lo => by kernel_rfl)
/-- internal/strconv.special -/
noncomputable def d271 : FnT := fun R A cs csd lo vs h K => p1 A vs fun x0 =>
 pb A (vSlen x0) fun x1 =>
 pb A (vIop .eql x1 (.int .i64 0)) fun x2 =>
 ic A x2 (K (.tuple #[(.float .f64 0), (.int .i64 0), (.bool false)]) h) (pb A (vSidx x0 (.int .i64 0)) fun x3 =>
 jn (fun vs h => p3 A vs fun x4 x5 x6 =>
 K (.tuple #[(.float .f64 0), (.int .i64 0), (.bool false)]) h) fun j0 =>
 jn (fun vs h => p3 A vs fun x4 x5 x6 =>
 cs 310 [x4, (.string ⟨#[110, 97, 110]⟩)] h fun x7 h =>
 pb A (vIop .eql x7 (.int .i64 3)) fun x8 =>
 ic A x8 (cs 312 [] h fun x9 h =>
 K (.tuple #[x9, (.int .i64 3), (.bool true)]) h) (j0 [x4, x5, x6] h)) fun j1 =>
 jn (fun vs h => p3 A vs fun x4 x5 x6 =>
 cs 310 [x4, (.string ⟨#[105, 110, 102, 105, 110, 105, 116, 121]⟩)] h fun x7 h =>
 pb A (vIop .lss (.int .i64 3) x7) fun x8 =>
 gp A x8 true (some x7) fun x9 =>
 gp A x8 true (vIop .lss x9 (.int .i64 8)) fun x10 =>
 pb A (vPick x8 x10 (.bool false)) fun x11 =>
 jn (fun vs h => p1 A vs fun x12 =>
 pb A (vIop .eql x12 (.int .i64 3)) fun x13 =>
 gp A x13 false (some x12) fun x14 =>
 gp A x13 false (vIop .eql x14 (.int .i64 8)) fun x15 =>
 pb A (vPick x13 (.bool true) x15) fun x16 =>
 ic A x16 (cs 311 [x5] h fun x17 h =>
 pb A (vIop .add x6 x12) fun x18 =>
 K (.tuple #[x17, x18, (.bool true)]) h) (j0 [x4, x5, x6] h)) fun j2 =>
 ic A x11 (j2 [(.int .i64 3)] h) (j2 [x7] h)) fun j2 =>
 jn (fun vs h => 
 pb A (vSidx x0 (.int .i64 0)) fun x4 =>
 pb A (vIop .eql x4 (.int .u8 45)) fun x5 =>
 jn (fun vs h => p1 A vs fun x6 =>
 pb A (vScut x0 (some (.int .i64 1)) none) fun x7 =>
 j2 [x7, x6, (.int .i64 1)] h) fun j3 =>
 ic A x5 (j3 [(.int .i64 (-1))] h) (j3 [(.int .i64 1)] h)) fun j3 =>
 pb A (vIop .eql x3 (.int .u8 43)) fun x4 =>
 jn (fun vs h => p1 A vs fun x5 =>
 ic A x5 (j3 [] h) (pb A (vIop .eql x3 (.int .u8 105)) fun x6 =>
 jn (fun vs h => p1 A vs fun x7 =>
 ic A x7 (j2 [x0, (.int .i64 1), (.int .i64 0)] h) (pb A (vIop .eql x3 (.int .u8 110)) fun x8 =>
 jn (fun vs h => p1 A vs fun x9 =>
 ic A x9 (j1 [x0, (.int .i64 1), (.int .i64 0)] h) (j0 [x0, (.int .i64 1), (.int .i64 0)] h)) fun j4 =>
 ic A x8 (j4 [x8] h) (pb A (vIop .eql x3 (.int .u8 78)) fun x9 =>
 j4 [x9] h))) fun j4 =>
 ic A x6 (j4 [x6] h) (pb A (vIop .eql x3 (.int .u8 73)) fun x7 =>
 j4 [x7] h))) fun j4 =>
 ic A x4 (j4 [x4] h) (pb A (vIop .eql x3 (.int .u8 45)) fun x5 =>
 j4 [x5] h))
theorem r271 : RowS Tryz.prog 22 271 d271 := rowS Tryz.func271 (by kernel_rfl) true [q0, q5, q6, q7, q13, q16, q19] (fun R A cs csd lo => by kernel_rfl)
/-- internal/strconv.readFloat -/
noncomputable def d272 : FnT := fun R A cs csd lo vs h K => p1 A vs fun x0 =>
 pb A (vSlen x0) fun x1 =>
 pb A (vIop .geq (.int .i64 0) x1) fun x2 =>
 ic A x2 (K (.tuple #[(.int .u64 0), (.int .i64 0), (.bool false), (.bool false), (.bool false), (.int .i64 0), (.bool false)]) h) (pb A (vSidx x0 (.int .i64 0)) fun x3 =>
 pb A (vIop .eql x3 (.int .u8 43)) fun x4 =>
 jn (fun vs h => p2 A vs fun x5 x6 =>
 pb A (vIop .add x6 (.int .i64 2)) fun x7 =>
 pb A (vSlen x0) fun x8 =>
 pb A (vIop .lss x7 x8) fun x9 =>
 gp A x9 true (some x0) fun x10 =>
 gp A x9 true (some x6) fun x11 =>
 gp A x9 true (vSidx x10 x11) fun x12 =>
 gp A x9 true (vIop .eql x12 (.int .u8 48)) fun x13 =>
 pb A (vPick x9 x13 (.bool false)) fun x14 =>
 gp A x14 true (some x0) fun x15 =>
 gp A x14 true (some x6) fun x16 =>
 gp A x14 true (vIop .add x16 (.int .i64 1)) fun x17 =>
 gp A x14 true (vSidx x15 x17) fun x18 =>
 gc A x14 true h (cs 292 [x18] h) fun x19 h =>
 gp A x14 true (vIop .eql x19 (.int .u8 120)) fun x20 =>
 pb A (vPick x14 x20 (.bool false)) fun x21 =>
 jn (fun vs h => p5 A vs fun x22 x23 x24 x25 x26 =>
 jn (fun vs h => p9 A vs fun x27 x28 x29 x30 x31 x32 x33 x34 x35 =>
 pb A (vNot x32) fun x36 =>
 ic A x36 (K (.tuple #[x27, (.int .i64 0), x5, x28, x22, x29, (.bool false)]) h) (pb A (vNot x31) fun x37 =>
 jn (fun vs h => p1 A vs fun x38 =>
 pb A (vIop .eql x24 (.int .u64 16)) fun x39 =>
 jn (fun vs h => p2 A vs fun x40 x41 =>
 pb A (vSlen x0) fun x42 =>
 pb A (vIop .lss x29 x42) fun x43 =>
 gp A x43 true (some x0) fun x44 =>
 gp A x43 true (some x29) fun x45 =>
 gp A x43 true (vSidx x44 x45) fun x46 =>
 gc A x43 true h (cs 292 [x46] h) fun x47 h =>
 gp A x43 true (some x26) fun x48 =>
 gp A x43 true (vIop .eql x47 x48) fun x49 =>
 pb A (vPick x43 x49 (.bool false)) fun x50 =>
 jn (fun vs h => p3 A vs fun x51 x52 x53 =>
 pb A (vIop .neq x27 (.int .u64 0)) fun x54 =>
 jn (fun vs h => p1 A vs fun x55 =>
 gp A x52 true (some x0) fun x56 =>
 gp A x52 true (some x51) fun x57 =>
 gp A x52 true (vScut x56 none (some x57)) fun x58 =>
 gc A x52 true h (cs 313 [x58] h) fun x59 h =>
 gp A x52 true (vNot x59) fun x60 =>
 pb A (vPick x52 x60 (.bool false)) fun x61 =>
 ic A x61 (K (.tuple #[x27, x55, x5, x28, x22, x51, (.bool false)]) h) (K (.tuple #[x27, x55, x5, x28, x22, x51, (.bool true)]) h)) fun j0 =>
 ic A x54 (pb A (vIop .sub x53 x40) fun x55 =>
 j0 [x55] h) (j0 [(.int .i64 0)] h)) fun j0 =>
 ic A x50 (pb A (vIop .add x29 (.int .i64 1)) fun x51 =>
 pb A (vSlen x0) fun x52 =>
 pb A (vIop .geq x51 x52) fun x53 =>
 ic A x53 (K (.tuple #[x27, (.int .i64 0), x5, x28, x22, x51, (.bool false)]) h) (pb A (vSidx x0 x51) fun x54 =>
 pb A (vIop .eql x54 (.int .u8 43)) fun x55 =>
 jn (fun vs h => p2 A vs fun x56 x57 =>
 pb A (vSlen x0) fun x58 =>
 pb A (vIop .geq x56 x58) fun x59 =>
 gp A x59 false (some x0) fun x60 =>
 gp A x59 false (some x56) fun x61 =>
 gp A x59 false (vSidx x60 x61) fun x62 =>
 gp A x59 false (vIop .lss x62 (.int .u8 48)) fun x63 =>
 pb A (vPick x59 (.bool true) x63) fun x64 =>
 gp A x64 false (some x0) fun x65 =>
 gp A x64 false (some x56) fun x66 =>
 gp A x64 false (vSidx x65 x66) fun x67 =>
 gp A x64 false (vIop .gtr x67 (.int .u8 57)) fun x68 =>
 pb A (vPick x64 (.bool true) x68) fun x69 =>
 ic A x69 (K (.tuple #[x27, (.int .i64 0), x5, x28, x22, x56, (.bool false)]) h) (jn (fun vs h => p3 A vs fun x70 x71 x72 =>
 pb A (vIop .mul x72 x57) fun x73 =>
 pb A (vIop .add x41 x73) fun x74 =>
 j0 [x70, x71, x74] h) fun j1 =>
 lo (fun r2 vs h => p3 A vs fun x70 x71 x72 =>
 pb A (vSlen x0) fun x73 =>
 pb A (vIop .lss x70 x73) fun x74 =>
 gp A x74 true (some x0) fun x75 =>
 gp A x74 true (some x70) fun x76 =>
 gp A x74 true (vSidx x75 x76) fun x77 =>
 gp A x74 true (vIop .leq (.int .u8 48) x77) fun x78 =>
 gp A x74 true (some x78) fun x79 =>
 gp A x79 true (some x0) fun x80 =>
 gp A x79 true (some x70) fun x81 =>
 gp A x79 true (vSidx x80 x81) fun x82 =>
 gp A x79 true (vIop .leq x82 (.int .u8 57)) fun x83 =>
 gp A x74 true (vPick x79 x83 (.bool false)) fun x84 =>
 gp A x74 true (some x84) fun x85 =>
 gp A x85 false (some x0) fun x86 =>
 gp A x85 false (some x70) fun x87 =>
 gp A x85 false (vSidx x86 x87) fun x88 =>
 gp A x85 false (vIop .eql x88 (.int .u8 95)) fun x89 =>
 gp A x74 true (vPick x85 (.bool true) x89) fun x90 =>
 pb A (vPick x74 x90 (.bool false)) fun x91 =>
 ic A x91 (jn (fun vs h => p2 A vs fun x92 x93 =>
 pb A (vIop .add x70 (.int .i64 1)) fun x94 =>
 r2 [x94, x92, x93] h) fun j3 =>
 pb A (vSidx x0 x70) fun x92 =>
 pb A (vIop .eql x92 (.int .u8 95)) fun x93 =>
 ic A x93 (j3 [(.bool true), x72] h) (pb A (vIop .lss x72 (.int .i64 10000)) fun x94 =>
 jn (fun vs h => p1 A vs fun x95 =>
 j3 [x71, x95] h) fun j4 =>
 ic A x94 (pb A (vIop .mul x72 (.int .i64 10)) fun x95 =>
 pb A (vSidx x0 x70) fun x96 =>
 pb A (vCvt .i64 x96) fun x97 =>
 pb A (vIop .add x95 x97) fun x98 =>
 pb A (vIop .sub x98 (.int .i64 48)) fun x99 =>
 j4 [x99] h) (j4 [x72] h))) (j1 [x70, x71, x72] h)) [x56, x30, (.int .i64 0)] h)) fun j1 =>
 ic A x55 (pb A (vIop .add x51 (.int .i64 1)) fun x56 =>
 j1 [x56, (.int .i64 1)] h) (pb A (vIop .eql x54 (.int .u8 45)) fun x56 =>
 jn (fun vs h => p2 A vs fun x57 x58 =>
 j1 [x57, x58] h) fun j2 =>
 ic A x56 (pb A (vIop .add x51 (.int .i64 1)) fun x57 =>
 j2 [x57, (.int .i64 (-1))] h) (j2 [x51, (.int .i64 1)] h)))) (pb A (vIop .eql x24 (.int .u64 16)) fun x51 =>
 ic A x51 (K (.tuple #[x27, (.int .i64 0), x5, x28, x22, x29, (.bool false)]) h) (j0 [x29, x30, x41] h))) fun j0 =>
 ic A x39 (pb A (vIop .mul x38 (.int .i64 4)) fun x40 =>
 pb A (vIop .mul x34 (.int .i64 4)) fun x41 =>
 j0 [x41, x40] h) (j0 [x34, x38] h)) fun j0 =>
 ic A x37 (j0 [x33] h) (j0 [x35] h))) fun j0 =>
 lo (fun r1 vs h => p9 A vs fun x27 x28 x29 x30 x31 x32 x33 x34 x35 =>
 pb A (vSlen x0) fun x36 =>
 pb A (vIop .lss x29 x36) fun x37 =>
 ic A x37 (jn (fun vs h => p8 A vs fun x38 x39 x40 x41 x42 x43 x44 x45 =>
 pb A (vIop .add x29 (.int .i64 1)) fun x46 =>
 r1 [x38, x39, x46, x40, x41, x42, x43, x44, x45] h) fun j2 =>
 pb A (vSidx x0 x29) fun x38 =>
 pb A (vIop .eql x38 (.int .u8 95)) fun x39 =>
 pb A (vAny Tryz.prog 22 (.scal ⟨none, (.binOp .eql 4 (.const (.bool true)) (.tmp 68) 4), 4, "", #[], none⟩) [68] [x39]) fun x40 =>
 ic A x40 (j2 [x27, x28, (.bool true), x31, x32, x33, x34, x35] h) (pb A (vIop .eql x38 (.int .u8 46)) fun x41 =>
 pb A (vAny Tryz.prog 22 (.scal ⟨none, (.binOp .eql 4 (.const (.bool true)) (.tmp 72) 4), 4, "", #[], none⟩) [72] [x41]) fun x42 =>
 ic A x42 (ic A x31 (j0 [x27, x28, x29, x30, x31, x32, x33, x34, x35] h) (j2 [x27, x28, x30, (.bool true), x32, x33, x34, x33] h)) (pb A (vIop .leq (.int .u8 48) x38) fun x43 =>
 gp A x43 true (some x38) fun x44 =>
 gp A x43 true (vIop .leq x44 (.int .u8 57)) fun x45 =>
 pb A (vPick x43 x45 (.bool false)) fun x46 =>
 pb A (vAny Tryz.prog 22 (.scal ⟨none, (.binOp .eql 4 (.const (.bool true)) (.tmp 82) 4), 4, "", #[], none⟩) [82] [x46]) fun x47 =>
 ic A x47 (pb A (vIop .eql x38 (.int .u8 48)) fun x48 =>
 gp A x48 true (some x33) fun x49 =>
 gp A x48 true (vIop .eql x49 (.int .i64 0)) fun x50 =>
 pb A (vPick x48 x50 (.bool false)) fun x51 =>
 ic A x51 (pb A (vIop .sub x35 (.int .i64 1)) fun x52 =>
 j2 [x27, x28, x30, x31, (.bool true), x33, x34, x52] h) (pb A (vIop .add x33 (.int .i64 1)) fun x52 =>
 pb A (vIop .lss x34 x25) fun x53 =>
 jn (fun vs h => p3 A vs fun x54 x55 x56 =>
 j2 [x54, x55, x30, x31, (.bool true), x52, x56, x35] h) fun j3 =>
 ic A x53 (pb A (vIop .mul x27 x24) fun x54 =>
 pb A (vIop .sub x38 (.int .u8 48)) fun x55 =>
 pb A (vCvt .u64 x55) fun x56 =>
 pb A (vIop .add x54 x56) fun x57 =>
 pb A (vIop .add x34 (.int .i64 1)) fun x58 =>
 j3 [x57, x28, x58] h) (pb A (vIop .neq x38 (.int .u8 48)) fun x54 =>
 jn (fun vs h => p1 A vs fun x55 =>
 j3 [x27, x55, x34] h) fun j4 =>
 ic A x54 (j4 [(.bool true)] h) (j4 [x28] h)))) (pb A (vIop .eql x24 (.int .u64 16)) fun x48 =>
 gp A x48 true (some x38) fun x49 =>
 gc A x48 true h (cs 292 [x49] h) fun x50 h =>
 gp A x48 true (vIop .leq (.int .u8 97) x50) fun x51 =>
 pb A (vPick x48 x51 (.bool false)) fun x52 =>
 gp A x52 true (some x38) fun x53 =>
 gc A x52 true h (cs 292 [x53] h) fun x54 h =>
 gp A x52 true (vIop .leq x54 (.int .u8 102)) fun x55 =>
 pb A (vPick x52 x55 (.bool false)) fun x56 =>
 pb A (vAny Tryz.prog 22 (.scal ⟨none, (.binOp .eql 4 (.const (.bool true)) (.tmp 121) 4), 4, "", #[], none⟩) [121] [x56]) fun x57 =>
 ic A x57 (pb A (vIop .add x33 (.int .i64 1)) fun x58 =>
 pb A (vIop .lss x34 x25) fun x59 =>
 jn (fun vs h => p3 A vs fun x60 x61 x62 =>
 j2 [x60, x61, x30, x31, (.bool true), x58, x62, x35] h) fun j3 =>
 ic A x59 (pb A (vIop .mul x27 (.int .u64 16)) fun x60 =>
 cs 292 [x38] h fun x61 h =>
 pb A (vIop .sub x61 (.int .u8 97)) fun x62 =>
 pb A (vIop .add x62 (.int .u8 10)) fun x63 =>
 pb A (vCvt .u64 x63) fun x64 =>
 pb A (vIop .add x60 x64) fun x65 =>
 pb A (vIop .add x34 (.int .i64 1)) fun x66 =>
 j3 [x65, x28, x66] h) (j3 [x27, (.bool true), x34] h)) (j0 [x27, x28, x29, x30, x31, x32, x33, x34, x35] h))))) (j0 [x27, x28, x29, x30, x31, x32, x33, x34, x35] h)) [(.int .u64 0), (.bool false), x23, (.bool false), (.bool false), (.bool false), (.int .i64 0), (.int .i64 0), (.int .i64 0)] h) fun j0 =>
 ic A x21 (pb A (vIop .add x6 (.int .i64 2)) fun x22 =>
 j0 [(.bool true), x22, (.int .u64 16), (.int .i64 16), (.int .u8 112)] h) (j0 [(.bool false), x6, (.int .u64 10), (.int .i64 19), (.int .u8 101)] h)) fun j0 =>
 ic A x4 (pb A (vIop .add (.int .i64 0) (.int .i64 1)) fun x5 =>
 j0 [(.bool false), x5] h) (pb A (vIop .eql x3 (.int .u8 45)) fun x5 =>
 jn (fun vs h => p2 A vs fun x6 x7 =>
 j0 [x6, x7] h) fun j1 =>
 ic A x5 (pb A (vIop .add (.int .i64 0) (.int .i64 1)) fun x6 =>
 j1 [(.bool true), x6] h) (j1 [(.bool false), (.int .i64 0)] h)))
theorem r272 : RowS Tryz.prog 22 272 d272 := rowS Tryz.func272 (by kernel_rfl) true [q2, q3, q4, q5, q6, q7, q9, q10, q11, q12, q13, q14, q15, q16, q17, q19, q20] (fun R A cs csd lo => by kernel_rfl)
/-- internal/strconv.bool2[uint64] -/
noncomputable def d280 : FnT := fun R A cs csd lo vs h K => p1 A vs fun x0 =>
 ic A x0 (K (.int .u64 1) h) (K (.int .u64 0) h)
theorem r280 : RowS Tryz.prog 22 280 d280 := rowS Tryz.func280 (by kernel_rfl) true [] (fun R A cs csd lo => by kernel_rfl)
/-- internal/strconv.atof64exact -/
noncomputable def d282 : FnT := fun R A cs csd lo vs h K => p3 A vs fun x0 x1 x2 =>
 pb A (mF 0 h (.pointer (some ⟨14, 0, none⟩))) fun x3 =>
 pb A (vAny Tryz.prog 22 (.scal ⟨none, (.binOp .shr 235 (.tmp 8) (.tmp 10) 243), 235, "", #[], none⟩) [8, 10] [x0, x3]) fun x4 =>
 pb A (vIop .neq x4 (.int .u64 0)) fun x5 =>
 ic A x5 (K (.tuple #[(.float .f64 0), (.bool false)]) h) (pb A (vAny Tryz.prog 22 (.scal ⟨none, (.convert 235 52 (.tmp 13)), 52, "", #[], none⟩) [13] [x0]) fun x6 =>
 jn (fun vs h => p1 A vs fun x7 =>
 pb A (vIop .eql x1 (.int .i64 0)) fun x8 =>
 ic A x8 (K (.tuple #[x7, (.bool true)]) h) (pb A (vIop .gtr x1 (.int .i64 0)) fun x9 =>
 gp A x9 true (some x1) fun x10 =>
 gp A x9 true (vIop .leq x10 (.int .i64 37)) fun x11 =>
 pb A (vPick x9 x11 (.bool false)) fun x12 =>
 ic A x12 (pb A (vIop .gtr x1 (.int .i64 22)) fun x13 =>
 jn (fun vs h => p2 A vs fun x14 x15 =>
 pb A (vAny Tryz.prog 22 (.scal ⟨none, (.binOp .gtr 52 (.tmp 38) (.const (.float .f64 4831355200913801216)) 52), 4, "", #[], none⟩) [38] [x15]) fun x16 =>
 gp A x16 false (some x15) fun x17 =>
 gp A x16 false (vAny Tryz.prog 22 (.scal ⟨none, (.binOp .lss 52 (.tmp 41) (.const (.float .f64 14054727237768577024)) 52), 4, "", #[], none⟩) [41] [x17]) fun x18 =>
 pb A (vPick x16 (.bool true) x18) fun x19 =>
 ic A x19 (K (.tuple #[x15, (.bool false)]) h) (pb A (mLd h (.pointer (some ⟨19, 0, none⟩))) fun x20 =>
 pb A (mI 1 0 h x20 x14) fun x21 =>
 pb A (vAny Tryz.prog 22 (.scal ⟨none, (.binOp .mul 52 (.tmp 44) (.tmp 48) 52), 52, "", #[], none⟩) [44, 48] [x15, x21]) fun x22 =>
 K (.tuple #[x22, (.bool true)]) h)) fun j0 =>
 ic A x13 (pb A (mLd h (.pointer (some ⟨19, 0, none⟩))) fun x14 =>
 pb A (vIop .sub x1 (.int .i64 22)) fun x15 =>
 pb A (mI 1 0 h x14 x15) fun x16 =>
 pb A (vAny Tryz.prog 22 (.scal ⟨none, (.binOp .mul 52 (.tmp 31) (.tmp 36) 52), 52, "", #[], none⟩) [31, 36] [x7, x16]) fun x17 =>
 j0 [(.int .i64 22), x17] h) (j0 [x1, x7] h)) (pb A (vIop .lss x1 (.int .i64 0)) fun x13 =>
 gp A x13 true (some x1) fun x14 =>
 gp A x13 true (vIop .geq x14 (.int .i64 (-22))) fun x15 =>
 pb A (vPick x13 x15 (.bool false)) fun x16 =>
 ic A x16 (pb A (mLd h (.pointer (some ⟨19, 0, none⟩))) fun x17 =>
 pb A (vNeg x1) fun x18 =>
 pb A (mI 1 0 h x17 x18) fun x19 =>
 pb A (vAny Tryz.prog 22 (.scal ⟨none, (.binOp .quo 52 (.tmp 57) (.tmp 62) 52), 52, "", #[], none⟩) [57, 62] [x7, x19]) fun x20 =>
 K (.tuple #[x20, (.bool true)]) h) (K (.tuple #[x7, (.bool false)]) h)))) fun j0 =>
 ic A x2 (pb A (vAny Tryz.prog 22 (.scal ⟨none, (.unOp .neg 52 (.tmp 16)), 52, "", #[], none⟩) [16] [x6]) fun x7 =>
 j0 [x7] h) (j0 [x6] h))
theorem r282 : RowS Tryz.prog 22 282 d282 := rowS Tryz.func282 (by kernel_rfl) true [q1, q6, q7] (fun R A cs csd lo => by kernel_rfl)
/-- (*tailrace/tailraceref16.parser).in -/
noncomputable def d286 : FnT := fun R A cs csd lo vs h K => p1 A vs fun x0 =>
 hb A (some (hNew h [(.int .i64 0), (.string ⟨#[]⟩), (.float .f64 0), (.slice none 0 0), (.complex .f64 0 0)])) fun x1 h =>
 cs 317 [x0] h fun x2 h =>
 hb A (hIni 5 h x2) fun x3 h =>
 jn (fun vs h => 
 pb A (mLdA 5 h x3) fun x4 =>
 wb A (hSt 5 h x1 x4) fun h =>
 pb A (mLdA 5 h x1) fun x5 =>
 K x5 h) fun j0 =>
 lo (fun r1 vs h => 
 cs 93 [x0, (.string ⟨#[105, 110]⟩)] h fun x4 h =>
 ic A x4 (cs 152 [x0, (.bool false)] h fun x5 h =>
 pb A (vExt 0 x5) fun x6 =>
 pb A (vExt 1 x5) fun x7 =>
 hb A (hIni 5 h x6) fun x8 h =>
 cs 153 [x0, (.string ⟨#[105, 110]⟩)] h fun x9 h =>
 cs 155 [x0] h fun x10 h =>
 hb A (hIni 5 h x10) fun x11 h =>
 pb A (mF 1 h x11) fun x12 =>
 pb A (mLdA 5 h x3) fun x13 =>
 hb A (hBsl 5 1 [(.int .i64 0), (.string ⟨#[]⟩), (.float .f64 0), (.slice none 0 0), (.complex .f64 0 0)] [(0, 5)] h [x13]) fun x14 h =>
 pb A (vBld [(.int .i64 0), (.string ⟨#[]⟩), (.float .f64 0), (.slice none 0 0), (.complex .f64 0 0)] [(0, 1), (1, 1), (4, 1), (3, 1)] [(.int .i64 11), x12, x7, x14]) fun x15 =>
 wb A (hSt 5 h x3 x15) fun h =>
 r1 [] h) (j0 [] h)) [] h
theorem r286 : RowS Tryz.prog 22 286 d286 := rowS Tryz.func286 (by kernel_rfl) true [] (fun R A cs csd lo => by kernel_rfl)
/-- (*tailrace/tailraceref8.reader).alt -/
noncomputable def d287 : FnT := fun R A cs csd lo vs h K => p1 A vs fun x0 =>
 hb A (some (hNew h [(.int .i64 0), (.int .u64 0), (.int .u64 0), (.int .u64 0), (.int .u64 0), (.slice none 0 0)])) fun x1 h =>
 cs 318 [x0] h fun x2 h =>
 hb A (hBsl 6 1 [(.int .i64 0), (.int .u64 0), (.int .u64 0), (.int .u64 0), (.int .u64 0), (.slice none 0 0)] [(0, 6)] h [x2]) fun x3 h =>
 jn (fun vs h => p1 A vs fun x4 =>
 cs 320 [(.int .i64 3), x4] h fun x5 h =>
 wb A (hSt 6 h x1 x5) fun h =>
 pb A (mLdA 6 h x1) fun x6 =>
 K x6 h) fun j0 =>
 lo (fun r1 vs h => p1 A vs fun x4 =>
 pb A (mF 3 h x0) fun x5 =>
 pb A (vIop .eql x5 (.int .i64 0)) fun x6 =>
 gp A x6 true (some x0) fun x7 =>
 gc A x6 true h (cs 319 [x7, (.int .u8 124)] h) fun x8 h =>
 pb A (vPick x6 x8 (.bool false)) fun x9 =>
 ic A x9 (pb A (mF 1 h x0) fun x10 =>
 pb A (vIop .add x10 (.int .i64 1)) fun x11 =>
 wb A (hF 1 h x0 x11) fun h =>
 cs 318 [x0] h fun x12 h =>
 hb A (hBsl 6 1 [(.int .i64 0), (.int .u64 0), (.int .u64 0), (.int .u64 0), (.int .u64 0), (.slice none 0 0)] [(0, 6)] h [x12]) fun x13 h =>
 hb A (hApp 6 64 h x4 x13) fun x14 h =>
 r1 [x14] h) (j0 [x4] h)) [x3] h
theorem r287 : RowS Tryz.prog 22 287 d287 := rowS Tryz.func287 (by kernel_rfl) true [q3] (fun R A cs csd lo => by kernel_rfl)
/-- tailrace/tailraceref8.Right -/
noncomputable def d289 : FnT := fun R A cs csd lo vs h K => p1 A vs fun x0 =>
 hb A (hBox h x0) fun x1 h =>
 pb A (mLdA 6 h x1) fun x2 =>
 cs 321 [x2] h fun x3 h =>
 gp A x3 true (mLdA 6 h x1) fun x4 =>
 gc A x3 true h (cs 322 [x4, (.int .i64 40)] h) fun x5 h =>
 pb A (vPick x3 x5 (.bool false)) fun x6 =>
 gp A x6 true (mLdA 6 h x1) fun x7 =>
 gc A x6 true h (cs 323 [x7] h) fun x8 h =>
 gp A x6 true (vIop .leq x8 (.int .i64 400)) fun x9 =>
 pb A (vPick x6 x9 (.bool false)) fun x10 =>
 K x10 h
theorem r289 : RowS Tryz.prog 22 289 d289 := rowS Tryz.func289 (by kernel_rfl) true [] (fun R A cs csd lo => by kernel_rfl)
/-- (*tailrace/tailraceref16.parser).match -/
noncomputable def d317 : FnT := fun R A cs csd lo vs h K => p1 A vs fun x0 =>
 hb A (some (hNew h [(.int .i64 0), (.string ⟨#[]⟩), (.float .f64 0), (.slice none 0 0), (.complex .f64 0 0)])) fun x1 h =>
 cs 327 [x0] h fun x2 h =>
 hb A (hIni 5 h x2) fun x3 h =>
 lo (fun r0 vs h => 
 cs 189 [x0, (.string ⟨#[126, 32, 33, 126]⟩)] h fun x4 h =>
 pb A (vExt 0 x4) fun x5 =>
 pb A (vExt 1 x4) fun x6 =>
 pb A (vExt 2 x4) fun x7 =>
 pb A (vNot x7) fun x8 =>
 ic A x8 (pb A (mLdA 5 h x3) fun x9 =>
 wb A (hSt 5 h x1 x9) fun h =>
 pb A (mLdA 5 h x1) fun x10 =>
 K x10 h) (pb A (mLdA 5 h x3) fun x9 =>
 cs 327 [x0] h fun x10 h =>
 alc A 5 (allocOf (opdT 22 [20, 22] [x9, x10]) (.buildSlice 5 2 [(.int .i64 0), (.string ⟨#[]⟩), (.float .f64 0), (.slice none 0 0), (.complex .f64 0 0), (.int .i64 0), (.string ⟨#[]⟩), (.float .f64 0), (.slice none 0 0), (.complex .f64 0 0)] [(0, 5, (.tmp 20)), (5, 5, (.tmp 22))])) h [] fun x11 h pd =>
 pb A (vBld [(.int .i64 0), (.string ⟨#[]⟩), (.float .f64 0), (.slice none 0 0), (.complex .f64 0 0)] [(0, 1), (1, 1), (4, 1), (3, 1)] [(.int .i64 12), x5, x6, x11]) fun x12 =>
 rb A (mLdA 5 h x3) x9 <|
 abl 5 h pd fun h pd =>
 wb A (hSt 5 h x3 x12) fun h =>
 r0 [] h)) [] h
theorem r317 : RowS Tryz.prog 22 317 d317 := rowS Tryz.func317 (by kernel_rfl) true [] (fun R A cs csd lo => by kernel_rfl)
/-- (*tailrace/tailraceref8.reader).cat -/
noncomputable def d318 : FnT := fun R A cs csd lo vs h K => p1 A vs fun x0 =>
 hb A (some (hNew h [(.int .i64 0), (.int .u64 0), (.int .u64 0), (.int .u64 0), (.int .u64 0), (.slice none 0 0)])) fun x1 h =>
 cs 328 [x0] h fun x2 h =>
 hb A (hBsl 6 1 [(.int .i64 0), (.int .u64 0), (.int .u64 0), (.int .u64 0), (.int .u64 0), (.slice none 0 0)] [(0, 6)] h [x2]) fun x3 h =>
 jn (fun vs h => p1 A vs fun x4 =>
 cs 320 [(.int .i64 2), x4] h fun x5 h =>
 wb A (hSt 6 h x1 x5) fun h =>
 pb A (mLdA 6 h x1) fun x6 =>
 K x6 h) fun j0 =>
 lo (fun r1 vs h => p1 A vs fun x4 =>
 pb A (mF 3 h x0) fun x5 =>
 pb A (vIop .eql x5 (.int .i64 0)) fun x6 =>
 gp A x6 true (some x0) fun x7 =>
 gp A x6 true (mF 1 h x7) fun x8 =>
 gp A x6 true (some x0) fun x9 =>
 gp A x6 true (mF 0 h x9) fun x10 =>
 gp A x6 true (vSlen x10) fun x11 =>
 gp A x6 true (vIop .lss x8 x11) fun x12 =>
 pb A (vPick x6 x12 (.bool false)) fun x13 =>
 gp A x13 true (some x0) fun x14 =>
 gc A x13 true h (cs 319 [x14, (.int .u8 124)] h) fun x15 h =>
 gp A x13 true (vNot x15) fun x16 =>
 pb A (vPick x13 x16 (.bool false)) fun x17 =>
 gp A x17 true (some x0) fun x18 =>
 gc A x17 true h (cs 319 [x18, (.int .u8 41)] h) fun x19 h =>
 gp A x17 true (vNot x19) fun x20 =>
 pb A (vPick x17 x20 (.bool false)) fun x21 =>
 ic A x21 (cs 328 [x0] h fun x22 h =>
 hb A (hBsl 6 1 [(.int .i64 0), (.int .u64 0), (.int .u64 0), (.int .u64 0), (.int .u64 0), (.slice none 0 0)] [(0, 6)] h [x22]) fun x23 h =>
 hb A (hApp 6 64 h x4 x23) fun x24 h =>
 r1 [x24] h) (j0 [x4] h)) [x3] h
theorem r318 : RowS Tryz.prog 22 318 d318 := rowS Tryz.func318 (by kernel_rfl) true [q3] (fun R A cs csd lo => by kernel_rfl)
/-- (*tailrace/tailraceref8.reader).is -/
noncomputable def d319 : FnT := fun R A cs csd lo vs h K => p2 A vs fun x0 x1 =>
 pb A (mF 1 h x0) fun x2 =>
 pb A (mF 0 h x0) fun x3 =>
 pb A (vSlen x3) fun x4 =>
 pb A (vIop .lss x2 x4) fun x5 =>
 gp A x5 true (some x0) fun x6 =>
 gp A x5 true (mF 0 h x6) fun x7 =>
 gp A x5 true (some x0) fun x8 =>
 gp A x5 true (mF 1 h x8) fun x9 =>
 gp A x5 true (vSidx x7 x9) fun x10 =>
 gp A x5 true (some x1) fun x11 =>
 gp A x5 true (vIop .eql x10 x11) fun x12 =>
 pb A (vPick x5 x12 (.bool false)) fun x13 =>
 K x13 h
theorem r319 : RowS Tryz.prog 22 319 d319 := rowS Tryz.func319 (by kernel_rfl) true [] (fun R A cs csd lo => by kernel_rfl)
/-- tailrace/tailraceref8.row -/
noncomputable def d320 : FnT := fun R A cs csd lo vs h K => p2 A vs fun x0 x1 =>
 hb A (some (hNew h [(.int .i64 0), (.int .u64 0), (.int .u64 0), (.int .u64 0), (.int .u64 0), (.slice none 0 0)])) fun x2 h =>
 pb A (vLenS x1) fun x3 =>
 pb A (vIop .eql x3 (.int .i64 0)) fun x4 =>
 ic A x4 (pb A (vBld [(.int .i64 0), (.int .u64 0), (.int .u64 0), (.int .u64 0), (.int .u64 0), (.slice none 0 0)] [] []) fun x5 =>
 wb A (hSt 6 h x2 x5) fun h =>
 pb A (mLdA 6 h x2) fun x6 =>
 K x6 h) (pb A (vLenS x1) fun x5 =>
 pb A (vIop .sub x5 (.int .i64 1)) fun x6 =>
 pb A (mIA 6 6 0 h x1 x6) fun x7 =>
 hb A (hIni 6 h x7) fun x8 h =>
 pb A (vLenS x1) fun x9 =>
 pb A (vIop .sub x9 (.int .i64 2)) fun x10 =>
 jn (fun vs h => p1 A vs fun x11 =>
 pb A (mLdA 6 h x8) fun x12 =>
 wb A (hSt 6 h x2 x12) fun h =>
 pb A (mLdA 6 h x2) fun x13 =>
 K x13 h) fun j0 =>
 lo (fun r1 vs h => p1 A vs fun x11 =>
 pb A (vIop .geq x11 (.int .i64 0)) fun x12 =>
 ic A x12 (pb A (mIA 6 6 0 h x1 x11) fun x13 =>
 pb A (mLdA 6 h x8) fun x14 =>
 cs 329 [x0, x13, x14] h fun x15 h =>
 wb A (hSt 6 h x8 x15) fun h =>
 pb A (vIop .sub x11 (.int .i64 1)) fun x16 =>
 r1 [x16] h) (j0 [x11] h)) [x10] h)
theorem r320 : RowS Tryz.prog 22 320 d320 := rowS Tryz.func320 (by kernel_rfl) true [q6] (fun R A cs csd lo => by kernel_rfl)
/-- tailrace/tailraceref8.shaped -/
noncomputable def d321 : FnT := fun R A cs csd lo vs h K => p1 A vs fun x0 =>
 hb A (hBox h x0) fun x1 h =>
 pb A (vFa 5 x1) fun x2 =>
 pb A (mLd h x2) fun x3 =>
 pb A (vLenS x3) fun x4 =>
 pb A (vFa 0 x1) fun x5 =>
 pb A (mLd h x5) fun x6 =>
 cs 330 [x6] h fun x7 h =>
 pb A (vIop .neq x4 x7) fun x8 =>
 gp A x8 false (vFa 0 x1) fun x9 =>
 gp A x8 false (mLd h x9) fun x10 =>
 gp A x8 false (vIop .neq x10 (.int .i64 1)) fun x11 =>
 gp A x8 false (some x11) fun x12 =>
 gp A x12 true (vFa 1 x1) fun x13 =>
 gp A x12 true (mLdA 4 h x13) fun x14 =>
 gp A x12 true (vBld [(.int .u64 0), (.int .u64 0), (.int .u64 0), (.int .u64 0)] [] []) fun x15 =>
 gp A x12 true (vAny Tryz.prog 22 (.scal ⟨none, (.binOp .neq 279 (.tmp 17) (.tmp 18) 279), 4, "", #[], none⟩) [17, 18] [x14, x15]) fun x16 =>
 gp A x8 false (vPick x12 x16 (.bool false)) fun x17 =>
 pb A (vPick x8 (.bool true) x17) fun x18 =>
 rb A (mLd h x2) x3 <|
 ic A x18 (K (.bool false) h) (jn (fun vs h => p1 A vs fun x19 =>
 K (.bool true) h) fun j0 =>
 lo (fun r1 vs h => p1 A vs fun x19 =>
 pb A (mF 5 h x1) fun x20 =>
 pb A (vLenS x20) fun x21 =>
 pb A (vIop .lss x19 x21) fun x22 =>
 ic A x22 (pb A (mF 5 h x1) fun x23 =>
 pb A (mIA 6 6 0 h x23 x19) fun x24 =>
 cs 321 [x24] h fun x25 h =>
 pb A (vNot x25) fun x26 =>
 ic A x26 (K (.bool false) h) (pb A (vIop .add x19 (.int .i64 1)) fun x27 =>
 r1 [x27] h)) (j0 [x19] h)) [(.int .i64 0)] h)
theorem r321 : RowS Tryz.prog 22 321 d321 := rowS Tryz.func321 (by kernel_rfl) true [q3] (fun R A cs csd lo => by kernel_rfl)
/-- tailrace/tailraceref8.deep -/
noncomputable def d322 : FnT := fun R A cs csd lo vs h K => p2 A vs fun x0 x1 =>
 hb A (hBox h x0) fun x2 h =>
 pb A (vIop .eql x1 (.int .i64 0)) fun x3 =>
 ic A x3 (K (.bool false) h) (jn (fun vs h => p1 A vs fun x4 =>
 K (.bool true) h) fun j0 =>
 lo (fun r1 vs h => p1 A vs fun x4 =>
 pb A (mF 5 h x2) fun x5 =>
 pb A (vLenS x5) fun x6 =>
 pb A (vIop .lss x4 x6) fun x7 =>
 ic A x7 (pb A (vIop .sub x1 (.int .i64 1)) fun x8 =>
 pb A (vIop .eql x4 (.int .i64 1)) fun x9 =>
 gp A x9 true (mF 0 h x2) fun x10 =>
 gp A x9 true (vIop .eql x10 (.int .i64 2)) fun x11 =>
 gp A x9 true (some x11) fun x12 =>
 gp A x12 false (mF 0 h x2) fun x13 =>
 gp A x12 false (vIop .eql x13 (.int .i64 3)) fun x14 =>
 gp A x9 true (vPick x12 (.bool true) x14) fun x15 =>
 pb A (vPick x9 x15 (.bool false)) fun x16 =>
 jn (fun vs h => p1 A vs fun x17 =>
 pb A (mF 5 h x2) fun x18 =>
 pb A (mIA 6 6 0 h x18 x4) fun x19 =>
 cs 322 [x19, x17] h fun x20 h =>
 pb A (vNot x20) fun x21 =>
 ic A x21 (K (.bool false) h) (pb A (vIop .add x4 (.int .i64 1)) fun x22 =>
 r1 [x22] h)) fun j2 =>
 ic A x16 (j2 [x1] h) (j2 [x8] h)) (j0 [x4] h)) [(.int .i64 0)] h)
theorem r322 : RowS Tryz.prog 22 322 d322 := rowS Tryz.func322 (by kernel_rfl) true [q5, q6] (fun R A cs csd lo => by kernel_rfl)
/-- tailrace/tailraceref8.sets -/
noncomputable def d323 : FnT := fun R A cs csd lo vs h K => p1 A vs fun x0 =>
 hb A (hBox h x0) fun x1 h =>
 pb A (mF 5 h x1) fun x2 =>
 pb A (vLenS x2) fun x3 =>
 pb A (vIop .eql x3 (.int .i64 0)) fun x4 =>
 ic A x4 (K (.int .i64 1) h) (jn (fun vs h => p2 A vs fun x5 x6 =>
 K x5 h) fun j0 =>
 lo (fun r1 vs h => p2 A vs fun x5 x6 =>
 pb A (mF 5 h x1) fun x7 =>
 pb A (vLenS x7) fun x8 =>
 pb A (vIop .lss x6 x8) fun x9 =>
 ic A x9 (pb A (mF 5 h x1) fun x10 =>
 pb A (mIA 6 6 0 h x10 x6) fun x11 =>
 cs 323 [x11] h fun x12 h =>
 pb A (vIop .add x5 x12) fun x13 =>
 pb A (vIop .add x6 (.int .i64 1)) fun x14 =>
 r1 [x13, x14] h) (j0 [x5, x6] h)) [(.int .i64 0), (.int .i64 0)] h)
theorem r323 : RowS Tryz.prog 22 323 d323 := rowS Tryz.func323 (by kernel_rfl) true [q3, q4] (fun R A cs csd lo => by kernel_rfl)
/-- (*tailrace/tailraceref16.parser).compare -/
noncomputable def d327 : FnT := fun R A cs csd lo vs h K => p1 A vs fun x0 =>
 hb A (some (hNew h [(.int .i64 0), (.string ⟨#[]⟩), (.float .f64 0), (.slice none 0 0), (.complex .f64 0 0)])) fun x1 h =>
 cs 331 [x0] h fun x2 h =>
 hb A (hIni 5 h x2) fun x3 h =>
 pb A (mF 3 h x0) fun x4 =>
 jn (fun vs h => p1 A vs fun x5 =>
 cs 189 [x0, x5] h fun x6 h =>
 pb A (vExt 0 x6) fun x7 =>
 pb A (vExt 1 x6) fun x8 =>
 pb A (vExt 2 x6) fun x9 =>
 pb A (vNot x9) fun x10 =>
 ic A x10 (pb A (mLdA 5 h x3) fun x11 =>
 wb A (hSt 5 h x1 x11) fun h =>
 pb A (mLdA 5 h x1) fun x12 =>
 K x12 h) (pb A (mLdA 5 h x3) fun x11 =>
 cs 331 [x0] h fun x12 h =>
 alc A 5 (allocOf (opdT 22 [26, 28] [x11, x12]) (.buildSlice 5 2 [(.int .i64 0), (.string ⟨#[]⟩), (.float .f64 0), (.slice none 0 0), (.complex .f64 0 0), (.int .i64 0), (.string ⟨#[]⟩), (.float .f64 0), (.slice none 0 0), (.complex .f64 0 0)] [(0, 5, (.tmp 26)), (5, 5, (.tmp 28))])) h [] fun x13 h pd =>
 pb A (vBld [(.int .i64 0), (.string ⟨#[]⟩), (.float .f64 0), (.slice none 0 0), (.complex .f64 0 0)] [(0, 1), (1, 1), (4, 1), (3, 1)] [(.int .i64 13), x7, x8, x13]) fun x14 =>
 rb A (mLdA 5 h x3) x11 <|
 abl 5 h pd fun h pd =>
 wb A (hSt 5 h x1 x14) fun h =>
 pb A (mLdA 5 h x1) fun x15 =>
 K x15 h)) fun j0 =>
 ic A x4 (j0 [(.string ⟨#[60, 32, 60, 61, 32, 61, 61, 32, 33, 61, 32, 62, 61]⟩)] h) (j0 [(.string ⟨#[60, 32, 60, 61, 32, 61, 61, 32, 33, 61, 32, 62, 61, 32, 62]⟩)] h)
theorem r327 : RowS Tryz.prog 22 327 d327 := rowS Tryz.func327 (by kernel_rfl) true [q4] (fun R A cs csd lo => by kernel_rfl)
/-- (*tailrace/tailraceref8.reader).piece -/
noncomputable def d328 : FnT := fun R A cs csd lo vs h K => p1 A vs fun x0 =>
 hb A (some (hNew h [(.int .i64 0), (.int .u64 0), (.int .u64 0), (.int .u64 0), (.int .u64 0), (.slice none 0 0)])) fun x1 h =>
 cs 332 [x0] h fun x2 h =>
 hb A (hIni 6 h x2) fun x3 h =>
 jn (fun vs h => 
 pb A (mLdA 6 h x3) fun x4 =>
 wb A (hSt 6 h x1 x4) fun h =>
 pb A (mLdA 6 h x1) fun x5 =>
 K x5 h) fun j0 =>
 lo (fun r1 vs h => 
 pb A (mF 3 h x0) fun x4 =>
 pb A (vIop .eql x4 (.int .i64 0)) fun x5 =>
 gp A x5 true (some x0) fun x6 =>
 gp A x5 true (mF 1 h x6) fun x7 =>
 gp A x5 true (some x0) fun x8 =>
 gp A x5 true (mF 0 h x8) fun x9 =>
 gp A x5 true (vSlen x9) fun x10 =>
 gp A x5 true (vIop .lss x7 x10) fun x11 =>
 pb A (vPick x5 x11 (.bool false)) fun x12 =>
 ic A x12 (pb A (mF 0 h x0) fun x13 =>
 pb A (mF 1 h x0) fun x14 =>
 pb A (vSidx x13 x14) fun x15 =>
 pb A (vIop .eql x15 (.int .u8 42)) fun x16 =>
 jn (fun vs h => 
 pb A (mF 1 h x0) fun x17 =>
 pb A (vIop .add x17 (.int .i64 1)) fun x18 =>
 wb A (hF 1 h x0 x18) fun h =>
 r1 [] h) fun j2 =>
 ic A x16 (pb A (mLdA 6 h x3) fun x17 =>
 hb A (hBsl 6 1 [(.int .i64 0), (.int .u64 0), (.int .u64 0), (.int .u64 0), (.int .u64 0), (.slice none 0 0)] [(0, 6)] h [x17]) fun x18 h =>
 pb A (vBld [(.int .i64 0), (.int .u64 0), (.int .u64 0), (.int .u64 0), (.int .u64 0), (.slice none 0 0)] [(0, 1), (5, 1)] [(.int .i64 4), x18]) fun x19 =>
 wb A (hSt 6 h x3 x19) fun h =>
 j2 [] h) (pb A (vIop .eql x15 (.int .u8 43)) fun x17 =>
 jn (fun vs h => 
 j2 [] h) fun j3 =>
 ic A x17 (pb A (mLdA 6 h x3) fun x18 =>
 hb A (hBsl 6 1 [(.int .i64 0), (.int .u64 0), (.int .u64 0), (.int .u64 0), (.int .u64 0), (.slice none 0 0)] [(0, 6)] h [x18]) fun x19 h =>
 pb A (vBld [(.int .i64 0), (.int .u64 0), (.int .u64 0), (.int .u64 0), (.int .u64 0), (.slice none 0 0)] [(0, 1), (5, 1)] [(.int .i64 5), x19]) fun x20 =>
 wb A (hSt 6 h x3 x20) fun h =>
 j3 [] h) (pb A (vIop .eql x15 (.int .u8 63)) fun x18 =>
 jn (fun vs h => 
 j3 [] h) fun j4 =>
 ic A x18 (pb A (mLdA 6 h x3) fun x19 =>
 hb A (hBsl 6 1 [(.int .i64 0), (.int .u64 0), (.int .u64 0), (.int .u64 0), (.int .u64 0), (.slice none 0 0)] [(0, 6)] h [x19]) fun x20 h =>
 pb A (vBld [(.int .i64 0), (.int .u64 0), (.int .u64 0), (.int .u64 0), (.int .u64 0), (.slice none 0 0)] [(0, 1), (5, 1)] [(.int .i64 6), x20]) fun x21 =>
 wb A (hSt 6 h x3 x21) fun h =>
 j4 [] h) (pb A (vIop .eql x15 (.int .u8 123)) fun x19 =>
 ic A x19 (pb A (mLdA 6 h x3) fun x20 =>
 cs 333 [x0, x20] h fun x21 h =>
 wb A (hSt 6 h x3 x21) fun h =>
 pb A (mF 1 h x0) fun x22 =>
 pb A (vIop .sub x22 (.int .i64 1)) fun x23 =>
 wb A (hF 1 h x0 x23) fun h =>
 j4 [] h) (pb A (mLdA 6 h x3) fun x20 =>
 wb A (hSt 6 h x1 x20) fun h =>
 pb A (mLdA 6 h x1) fun x21 =>
 K x21 h))))) (j0 [] h)) [] h
theorem r328 : RowS Tryz.prog 22 328 d328 := rowS Tryz.func328 (by kernel_rfl) true [] (fun R A cs csd lo => by kernel_rfl)
/-- tailrace/tailraceref8.kids -/
noncomputable def d330 : FnT := fun R A cs csd lo vs h K => p1 A vs fun x0 =>
 pb A (vIop .eql x0 (.int .i64 0)) fun x1 =>
 jn (fun vs h => p1 A vs fun x2 =>
 ic A x2 (K (.int .i64 0) h) (pb A (vIop .eql x0 (.int .i64 4)) fun x3 =>
 jn (fun vs h => p1 A vs fun x4 =>
 ic A x4 (K (.int .i64 1) h) (pb A (vIop .eql x0 (.int .i64 2)) fun x5 =>
 jn (fun vs h => p1 A vs fun x6 =>
 ic A x6 (K (.int .i64 2) h) (K (.int .i64 (-1)) h)) fun j0 =>
 ic A x5 (j0 [x5] h) (pb A (vIop .eql x0 (.int .i64 3)) fun x6 =>
 j0 [x6] h))) fun j0 =>
 ic A x3 (j0 [x3] h) (pb A (vIop .eql x0 (.int .i64 5)) fun x4 =>
 jn (fun vs h => p1 A vs fun x5 =>
 j0 [x5] h) fun j1 =>
 ic A x4 (j1 [x4] h) (pb A (vIop .eql x0 (.int .i64 6)) fun x5 =>
 j1 [x5] h)))) fun j0 =>
 ic A x1 (j0 [x1] h) (pb A (vIop .eql x0 (.int .i64 1)) fun x2 =>
 jn (fun vs h => p1 A vs fun x3 =>
 j0 [x3] h) fun j1 =>
 ic A x2 (j1 [x2] h) (pb A (vIop .eql x0 (.int .i64 7)) fun x3 =>
 jn (fun vs h => p1 A vs fun x4 =>
 j1 [x4] h) fun j2 =>
 ic A x3 (j2 [x3] h) (pb A (vIop .eql x0 (.int .i64 8)) fun x4 =>
 j2 [x4] h)))
theorem r330 : RowS Tryz.prog 22 330 d330 := rowS Tryz.func330 (by kernel_rfl) true [q4, q9, q13] (fun R A cs csd lo => by kernel_rfl)
/-- (*tailrace/tailraceref16.parser).concat -/
noncomputable def d331 : FnT := fun R A cs csd lo vs h K => p1 A vs fun x0 =>
 hb A (some (hNew h [(.int .i64 0), (.string ⟨#[]⟩), (.float .f64 0), (.slice none 0 0), (.complex .f64 0 0)])) fun x1 h =>
 cs 334 [x0] h fun x2 h =>
 hb A (hIni 5 h x2) fun x3 h =>
 jn (fun vs h => 
 pb A (mLdA 5 h x3) fun x4 =>
 wb A (hSt 5 h x1 x4) fun h =>
 pb A (mLdA 5 h x1) fun x5 =>
 K x5 h) fun j0 =>
 lo (fun r1 vs h => 
 cs 335 [x0] h fun x4 h =>
 ic A x4 (pb A (vFa 4 x3) fun x5 =>
 pb A (mLd h x5) fun x6 =>
 pb A (mLdA 5 h x3) fun x7 =>
 cs 334 [x0] h fun x8 h =>
 alc A 5 (allocOf (opdT 22 [10, 12] [x7, x8]) (.buildSlice 5 2 [(.int .i64 0), (.string ⟨#[]⟩), (.float .f64 0), (.slice none 0 0), (.complex .f64 0 0), (.int .i64 0), (.string ⟨#[]⟩), (.float .f64 0), (.slice none 0 0), (.complex .f64 0 0)] [(0, 5, (.tmp 10)), (5, 5, (.tmp 12))])) h [] fun x9 h pd =>
 pb A (vBld [(.int .i64 0), (.string ⟨#[]⟩), (.float .f64 0), (.slice none 0 0), (.complex .f64 0 0)] [(0, 1), (4, 1), (3, 1)] [(.int .i64 14), x6, x9]) fun x10 =>
 rb A (mLd h x5) x6 <|
 rb A (mLdA 5 h x3) x7 <|
 abl 5 h pd fun h pd =>
 wb A (hSt 5 h x3 x10) fun h =>
 r1 [] h) (j0 [] h)) [] h
theorem r331 : RowS Tryz.prog 22 331 d331 := rowS Tryz.func331 (by kernel_rfl) true [] (fun R A cs csd lo => by kernel_rfl)
/-- (*tailrace/tailraceref8.reader).atom -/
noncomputable def d332 : FnT := fun R A cs csd lo vs h K => p1 A vs fun x0 =>
 hb A (some (hNew h [(.int .i64 0), (.int .u64 0), (.int .u64 0), (.int .u64 0), (.int .u64 0), (.slice none 0 0)])) fun x1 h =>
 pb A (mF 1 h x0) fun x2 =>
 pb A (mF 0 h x0) fun x3 =>
 pb A (vSlen x3) fun x4 =>
 pb A (vIop .geq x2 x4) fun x5 =>
 ic A x5 (pb A (mF 1 h x0) fun x6 =>
 cs 288 [x0, (.int .i64 24), x6] h fun x7 h =>
 wb A (hSt 6 h x1 x7) fun h =>
 pb A (mLdA 6 h x1) fun x8 =>
 K x8 h) (pb A (mF 1 h x0) fun x6 =>
 pb A (mF 0 h x0) fun x7 =>
 pb A (vSidx x7 x6) fun x8 =>
 pb A (mF 1 h x0) fun x9 =>
 pb A (vIop .add x9 (.int .i64 1)) fun x10 =>
 wb A (hF 1 h x0 x10) fun h =>
 pb A (vIop .eql x8 (.int .u8 40)) fun x11 =>
 ic A x11 (pb A (mF 2 h x0) fun x12 =>
 pb A (vIop .add x12 (.int .i64 1)) fun x13 =>
 wb A (hF 2 h x0 x13) fun h =>
 pb A (mF 2 h x0) fun x14 =>
 pb A (vIop .gtr x14 (.int .i64 10)) fun x15 =>
 ic A x15 (cs 288 [x0, (.int .i64 26), x6] h fun x16 h =>
 wb A (hSt 6 h x1 x16) fun h =>
 pb A (mLdA 6 h x1) fun x17 =>
 K x17 h) (cs 287 [x0] h fun x16 h =>
 hb A (hIni 6 h x16) fun x17 h =>
 pb A (mF 3 h x0) fun x18 =>
 pb A (vIop .eql x18 (.int .i64 0)) fun x19 =>
 gp A x19 true (some x0) fun x20 =>
 gc A x19 true h (cs 319 [x20, (.int .u8 41)] h) fun x21 h =>
 gp A x19 true (vNot x21) fun x22 =>
 pb A (vPick x19 x22 (.bool false)) fun x23 =>
 ic A x23 (pb A (mF 1 h x0) fun x24 =>
 cs 288 [x0, (.int .i64 24), x24] h fun x25 h =>
 wb A (hSt 6 h x1 x25) fun h =>
 pb A (mLdA 6 h x1) fun x26 =>
 K x26 h) (pb A (mF 2 h x0) fun x24 =>
 pb A (vIop .sub x24 (.int .i64 1)) fun x25 =>
 wb A (hF 2 h x0 x25) fun h =>
 pb A (mF 1 h x0) fun x26 =>
 pb A (vIop .add x26 (.int .i64 1)) fun x27 =>
 wb A (hF 1 h x0 x27) fun h =>
 pb A (mLdA 6 h x17) fun x28 =>
 wb A (hSt 6 h x1 x28) fun h =>
 pb A (mLdA 6 h x1) fun x29 =>
 K x29 h))) (pb A (vIop .eql x8 (.int .u8 46)) fun x12 =>
 ic A x12 (pb A (vBld [(.bool false), (.bool false), (.bool false), (.bool false), (.bool false), (.bool false), (.bool false), (.bool false), (.bool false), (.bool false), (.bool false), (.bool false), (.bool false), (.bool false), (.bool false), (.bool false), (.bool false), (.bool false), (.bool false), (.bool false), (.bool false), (.bool false), (.bool false), (.bool false), (.bool false), (.bool false), (.bool false), (.bool false), (.bool false), (.bool false), (.bool false), (.bool false), (.bool false), (.bool false), (.bool false), (.bool false), (.bool false), (.bool false), (.bool false), (.bool false), (.bool false), (.bool false), (.bool false), (.bool false), (.bool false), (.bool false), (.bool false), (.bool false), (.bool false), (.bool false), (.bool false), (.bool false), (.bool false), (.bool false), (.bool false), (.bool false), (.bool false), (.bool false), (.bool false), (.bool false), (.bool false), (.bool false), (.bool false), (.bool false), (.bool false), (.bool false), (.bool false), (.bool false), (.bool false), (.bool false), (.bool false), (.bool false), (.bool false), (.bool false), (.bool false), (.bool false), (.bool false), (.bool false), (.bool false), (.bool false), (.bool false), (.bool false), (.bool false), (.bool false), (.bool false), (.bool false), (.bool false), (.bool false), (.bool false), (.bool false), (.bool false), (.bool false), (.bool false), (.bool false), (.bool false), (.bool false), (.bool false), (.bool false), (.bool false), (.bool false), (.bool false), (.bool false), (.bool false), (.bool false), (.bool false), (.bool false), (.bool false), (.bool false), (.bool false), (.bool false), (.bool false), (.bool false), (.bool false), (.bool false), (.bool false), (.bool false), (.bool false), (.bool false), (.bool false), (.bool false), (.bool false), (.bool false), (.bool false), (.bool false), (.bool false), (.bool false), (.bool false), (.bool false), (.bool false), (.bool false), (.bool false), (.bool false), (.bool false), (.bool false), (.bool false), (.bool false), (.bool false), (.bool false), (.bool false), (.bool false), (.bool false), (.bool false), (.bool false), (.bool false), (.bool false), (.bool false), (.bool false), (.bool false), (.bool false), (.bool false), (.bool false), (.bool false), (.bool false), (.bool false), (.bool false), (.bool false), (.bool false), (.bool false), (.bool false), (.bool false), (.bool false), (.bool false), (.bool false), (.bool false), (.bool false), (.bool false), (.bool false), (.bool false), (.bool false), (.bool false), (.bool false), (.bool false), (.bool false), (.bool false), (.bool false), (.bool false), (.bool false), (.bool false), (.bool false), (.bool false), (.bool false), (.bool false), (.bool false), (.bool false), (.bool false), (.bool false), (.bool false), (.bool false), (.bool false), (.bool false), (.bool false), (.bool false), (.bool false), (.bool false), (.bool false), (.bool false), (.bool false), (.bool false), (.bool false), (.bool false), (.bool false), (.bool false), (.bool false), (.bool false), (.bool false), (.bool false), (.bool false), (.bool false), (.bool false), (.bool false), (.bool false), (.bool false), (.bool false), (.bool false), (.bool false), (.bool false), (.bool false), (.bool false), (.bool false), (.bool false), (.bool false), (.bool false), (.bool false), (.bool false), (.bool false), (.bool false), (.bool false), (.bool false), (.bool false), (.bool false), (.bool false), (.bool false), (.bool false), (.bool false), (.bool false), (.bool false), (.bool false), (.bool false), (.bool false), (.bool false), (.bool false), (.bool false), (.bool false), (.bool false), (.bool false), (.bool false), (.bool false), (.bool false), (.bool false), (.bool false), (.bool false), (.bool false), (.bool false), (.bool false), (.bool false), (.bool false)] [] []) fun x13 =>
 cs 336 [x13] h fun x14 h =>
 cs 337 [x14] h fun x15 h =>
 pb A (vBld [(.int .i64 0), (.int .u64 0), (.int .u64 0), (.int .u64 0), (.int .u64 0), (.slice none 0 0)] [(0, 1), (1, 4)] [(.int .i64 1), x15]) fun x16 =>
 wb A (hSt 6 h x1 x16) fun h =>
 pb A (mLdA 6 h x1) fun x17 =>
 K x17 h) (pb A (vIop .eql x8 (.int .u8 91)) fun x13 =>
 ic A x13 (pb A (mF 0 h x0) fun x14 =>
 pb A (mF 1 h x0) fun x15 =>
 alc A 13 (allocOf (opdT 22 [] []) (.new [(.bool false), (.bool false), (.bool false), (.bool false), (.bool false), (.bool false), (.bool false), (.bool false), (.bool false), (.bool false), (.bool false), (.bool false), (.bool false), (.bool false), (.bool false), (.bool false), (.bool false), (.bool false), (.bool false), (.bool false), (.bool false), (.bool false), (.bool false), (.bool false), (.bool false), (.bool false), (.bool false), (.bool false), (.bool false), (.bool false), (.bool false), (.bool false), (.bool false), (.bool false), (.bool false), (.bool false), (.bool false), (.bool false), (.bool false), (.bool false), (.bool false), (.bool false), (.bool false), (.bool false), (.bool false), (.bool false), (.bool false), (.bool false), (.bool false), (.bool false), (.bool false), (.bool false), (.bool false), (.bool false), (.bool false), (.bool false), (.bool false), (.bool false), (.bool false), (.bool false), (.bool false), (.bool false), (.bool false), (.bool false), (.bool false), (.bool false), (.bool false), (.bool false), (.bool false), (.bool false), (.bool false), (.bool false), (.bool false), (.bool false), (.bool false), (.bool false), (.bool false), (.bool false), (.bool false), (.bool false), (.bool false), (.bool false), (.bool false), (.bool false), (.bool false), (.bool false), (.bool false), (.bool false), (.bool false), (.bool false), (.bool false), (.bool false), (.bool false), (.bool false), (.bool false), (.bool false), (.bool false), (.bool false), (.bool false), (.bool false), (.bool false), (.bool false), (.bool false), (.bool false), (.bool false), (.bool false), (.bool false), (.bool false), (.bool false), (.bool false), (.bool false), (.bool false), (.bool false), (.bool false), (.bool false), (.bool false), (.bool false), (.bool false), (.bool false), (.bool false), (.bool false), (.bool false), (.bool false), (.bool false), (.bool false), (.bool false), (.bool false), (.bool false), (.bool false), (.bool false), (.bool false), (.bool false), (.bool false), (.bool false), (.bool false), (.bool false), (.bool false), (.bool false), (.bool false), (.bool false), (.bool false), (.bool false), (.bool false), (.bool false), (.bool false), (.bool false), (.bool false), (.bool false), (.bool false), (.bool false), (.bool false), (.bool false), (.bool false), (.bool false), (.bool false), (.bool false), (.bool false), (.bool false), (.bool false), (.bool false), (.bool false), (.bool false), (.bool false), (.bool false), (.bool false), (.bool false), (.bool false), (.bool false), (.bool false), (.bool false), (.bool false), (.bool false), (.bool false), (.bool false), (.bool false), (.bool false), (.bool false), (.bool false), (.bool false), (.bool false), (.bool false), (.bool false), (.bool false), (.bool false), (.bool false), (.bool false), (.bool false), (.bool false), (.bool false), (.bool false), (.bool false), (.bool false), (.bool false), (.bool false), (.bool false), (.bool false), (.bool false), (.bool false), (.bool false), (.bool false), (.bool false), (.bool false), (.bool false), (.bool false), (.bool false), (.bool false), (.bool false), (.bool false), (.bool false), (.bool false), (.bool false), (.bool false), (.bool false), (.bool false), (.bool false), (.bool false), (.bool false), (.bool false), (.bool false), (.bool false), (.bool false), (.bool false), (.bool false), (.bool false), (.bool false), (.bool false), (.bool false), (.bool false), (.bool false), (.bool false), (.bool false), (.bool false), (.bool false), (.bool false), (.bool false), (.bool false), (.bool false), (.bool false), (.bool false), (.bool false), (.bool false), (.bool false), (.bool false), (.bool false), (.bool false), (.bool false), (.bool false), (.bool false), (.bool false), (.bool false), (.bool false), (.bool false), (.bool false), (.bool false), (.bool false), (.bool false)])) h [] fun x16 h pd =>
 cs 338 [x14, x15] h fun x17 h =>
 pb A (vExt 0 x17) fun x18 =>
 pb A (vExt 1 x17) fun x19 =>
 pb A (vExt 2 x17) fun x20 =>
 abl 13 h pd fun h pd =>
 wb A (hSt 256 h x16 x18) fun h =>
 pb A (vNot x20) fun x21 =>
 ic A x21 (cs 288 [x0, (.int .i64 24), x6] h fun x22 h =>
 wb A (hSt 6 h x1 x22) fun h =>
 pb A (mLdA 6 h x1) fun x23 =>
 K x23 h) (wb A (hF 1 h x0 x19) fun h =>
 pb A (mLdA 256 h x16) fun x22 =>
 cs 336 [x22] h fun x23 h =>
 pb A (vBld [(.int .i64 0), (.int .u64 0), (.int .u64 0), (.int .u64 0), (.int .u64 0), (.slice none 0 0)] [(0, 1), (1, 4)] [(.int .i64 1), x23]) fun x24 =>
 wb A (hSt 6 h x1 x24) fun h =>
 pb A (mLdA 6 h x1) fun x25 =>
 K x25 h)) (pb A (vIop .eql x8 (.int .u8 94)) fun x14 =>
 ic A x14 (pb A (vBld [(.int .i64 0), (.int .u64 0), (.int .u64 0), (.int .u64 0), (.int .u64 0), (.slice none 0 0)] [(0, 1)] [(.int .i64 7)]) fun x15 =>
 wb A (hSt 6 h x1 x15) fun h =>
 pb A (mLdA 6 h x1) fun x16 =>
 K x16 h) (pb A (vIop .eql x8 (.int .u8 36)) fun x15 =>
 ic A x15 (pb A (vBld [(.int .i64 0), (.int .u64 0), (.int .u64 0), (.int .u64 0), (.int .u64 0), (.slice none 0 0)] [(0, 1)] [(.int .i64 8)]) fun x16 =>
 wb A (hSt 6 h x1 x16) fun h =>
 pb A (mLdA 6 h x1) fun x17 =>
 K x17 h) (pb A (vIop .eql x8 (.int .u8 92)) fun x16 =>
 ic A x16 (cs 339 [x0, x6] h fun x17 h =>
 wb A (hSt 6 h x1 x17) fun h =>
 pb A (mLdA 6 h x1) fun x18 =>
 K x18 h) (pb A (vIop .eql x8 (.int .u8 42)) fun x17 =>
 jn (fun vs h => p1 A vs fun x18 =>
 ic A x18 (cs 288 [x0, (.int .i64 24), x6] h fun x19 h =>
 wb A (hSt 6 h x1 x19) fun h =>
 pb A (mLdA 6 h x1) fun x20 =>
 K x20 h) (cs 340 [x8] h fun x19 h =>
 wb A (hSt 6 h x1 x19) fun h =>
 pb A (mLdA 6 h x1) fun x20 =>
 K x20 h)) fun j0 =>
 ic A x17 (j0 [x17] h) (pb A (vIop .eql x8 (.int .u8 43)) fun x18 =>
 jn (fun vs h => p1 A vs fun x19 =>
 j0 [x19] h) fun j1 =>
 ic A x18 (j1 [x18] h) (pb A (vIop .eql x8 (.int .u8 63)) fun x19 =>
 jn (fun vs h => p1 A vs fun x20 =>
 j1 [x20] h) fun j2 =>
 ic A x19 (j2 [x19] h) (pb A (vIop .eql x8 (.int .u8 123)) fun x20 =>
 jn (fun vs h => p1 A vs fun x21 =>
 j2 [x21] h) fun j3 =>
 ic A x20 (j3 [x20] h) (pb A (vIop .eql x8 (.int .u8 124)) fun x21 =>
 jn (fun vs h => p1 A vs fun x22 =>
 j3 [x22] h) fun j4 =>
 ic A x21 (j4 [x21] h) (pb A (vIop .eql x8 (.int .u8 41)) fun x22 =>
 j4 [x22] h))))))))))))
theorem r332 : RowS Tryz.prog 22 332 d332 := rowS Tryz.func332 (by kernel_rfl) true [q137] (fun R A cs csd lo => by kernel_rfl)
/-- (*tailrace/tailraceref16.parser).sum -/
noncomputable def d334 : FnT := fun R A cs csd lo vs h K => p1 A vs fun x0 =>
 hb A (some (hNew h [(.int .i64 0), (.string ⟨#[]⟩), (.float .f64 0), (.slice none 0 0), (.complex .f64 0 0)])) fun x1 h =>
 cs 342 [x0] h fun x2 h =>
 hb A (hIni 5 h x2) fun x3 h =>
 lo (fun r0 vs h => 
 cs 189 [x0, (.string ⟨#[43, 32, 45]⟩)] h fun x4 h =>
 pb A (vExt 0 x4) fun x5 =>
 pb A (vExt 1 x4) fun x6 =>
 pb A (vExt 2 x4) fun x7 =>
 pb A (vNot x7) fun x8 =>
 ic A x8 (pb A (mLdA 5 h x3) fun x9 =>
 wb A (hSt 5 h x1 x9) fun h =>
 pb A (mLdA 5 h x1) fun x10 =>
 K x10 h) (pb A (mLdA 5 h x3) fun x9 =>
 cs 342 [x0] h fun x10 h =>
 alc A 5 (allocOf (opdT 22 [20, 22] [x9, x10]) (.buildSlice 5 2 [(.int .i64 0), (.string ⟨#[]⟩), (.float .f64 0), (.slice none 0 0), (.complex .f64 0 0), (.int .i64 0), (.string ⟨#[]⟩), (.float .f64 0), (.slice none 0 0), (.complex .f64 0 0)] [(0, 5, (.tmp 20)), (5, 5, (.tmp 22))])) h [] fun x11 h pd =>
 pb A (vBld [(.int .i64 0), (.string ⟨#[]⟩), (.float .f64 0), (.slice none 0 0), (.complex .f64 0 0)] [(0, 1), (1, 1), (4, 1), (3, 1)] [(.int .i64 15), x5, x6, x11]) fun x12 =>
 rb A (mLdA 5 h x3) x9 <|
 abl 5 h pd fun h pd =>
 wb A (hSt 5 h x3 x12) fun h =>
 r0 [] h)) [] h
theorem r334 : RowS Tryz.prog 22 334 d334 := rowS Tryz.func334 (by kernel_rfl) true [] (fun R A cs csd lo => by kernel_rfl)
/-- (*tailrace/tailraceref16.parser).goes -/
noncomputable def d335 : FnT := fun R A cs csd lo vs h K => p1 A vs fun x0 =>
 cs 43 [x0] h fun x1 h =>
 pb A (vNot x1) fun x2 =>
 ic A x2 (K (.bool false) h) (pb A (mF 1 h x0) fun x3 =>
 cs 90 [x0, x3] h fun x4 h =>
 pb A (vExt 0 x4) fun x5 =>
 pb A (vExt 1 x4) fun x6 =>
 hb A (hIni 5 h x5) fun x7 h =>
 pb A (vNot x6) fun x8 =>
 ic A x8 (cs 45 [x0, (.bool false)] h fun x9 h =>
 K (.bool false) h) (pb A (mF 0 h x7) fun x9 =>
 pb A (vIop .eql x9 (.int .i64 2)) fun x10 =>
 jn (fun vs h => p1 A vs fun x11 =>
 ic A x11 (K (.bool true) h) (pb A (vIop .eql x9 (.int .i64 9)) fun x12 =>
 ic A x12 (pb A (mF 1 h x7) fun x13 =>
 cs 131 [(.string ⟨#[36, 32, 40, 32, 43, 43, 32, 45, 45]⟩), x13] h fun x14 h =>
 K x14 h) (K (.bool false) h))) fun j0 =>
 ic A x10 (j0 [x10] h) (pb A (vIop .eql x9 (.int .i64 3)) fun x11 =>
 jn (fun vs h => p1 A vs fun x12 =>
 j0 [x12] h) fun j1 =>
 ic A x11 (j1 [x11] h) (pb A (vIop .eql x9 (.int .i64 5)) fun x12 =>
 jn (fun vs h => p1 A vs fun x13 =>
 j1 [x13] h) fun j2 =>
 ic A x12 (j2 [x12] h) (pb A (vIop .eql x9 (.int .i64 6)) fun x13 =>
 jn (fun vs h => p1 A vs fun x14 =>
 j2 [x14] h) fun j3 =>
 ic A x13 (j3 [x13] h) (pb A (vIop .eql x9 (.int .i64 7)) fun x14 =>
 j3 [x14] h))))))
theorem r335 : RowS Tryz.prog 22 335 d335 := rowS Tryz.func335 (by kernel_rfl) true [q23] (fun R A cs csd lo => by kernel_rfl)
/-- tailrace/tailraceref8.Packed -/
noncomputable def d336 : FnT := fun R A cs csd lo vs h K => p1 A vs fun x0 =>
 hb A (hBox h x0) fun x1 h =>
 hb A (some (hNew h [(.int .u64 0), (.int .u64 0), (.int .u64 0), (.int .u64 0)])) fun x2 h =>
 hb A (some (hNew h [(.int .u64 0), (.int .u64 0), (.int .u64 0), (.int .u64 0)])) fun x3 h =>
 jn (fun vs h => p1 A vs fun x4 =>
 pb A (mLdA 4 h x3) fun x5 =>
 wb A (hSt 4 h x2 x5) fun h =>
 pb A (mLdA 4 h x2) fun x6 =>
 K x6 h) fun j0 =>
 lo (fun r1 vs h => p1 A vs fun x4 =>
 pb A (vIop .lss x4 (.int .i64 256)) fun x5 =>
 ic A x5 (pb A (vIxA 256 1 x1 x4) fun x6 =>
 pb A (mLd h x6) fun x7 =>
 jn (fun vs h => 
 pb A (vIop .add x4 (.int .i64 1)) fun x8 =>
 r1 [x8] h) fun j2 =>
 ic A x7 (pb A (vQuo x4 (.int .i64 64)) fun x8 =>
 pb A (vQuo x4 (.int .i64 64)) fun x9 =>
 pb A (vIxA 4 1 x3 x9) fun x10 =>
 pb A (mLd h x10) fun x11 =>
 pb A (vRem x4 (.int .i64 64)) fun x12 =>
 pb A (vCvt .u64 x12) fun x13 =>
 pb A (vAny Tryz.prog 22 (.scal ⟨none, (.binOp .shl 235 (.const (.int .u64 1)) (.tmp 20) 243), 235, "", #[], none⟩) [20] [x13]) fun x14 =>
 pb A (vAny Tryz.prog 22 (.scal ⟨none, (.binOp .or 235 (.tmp 17) (.tmp 21) 235), 235, "", #[], none⟩) [17, 21] [x11, x14]) fun x15 =>
 pb A (vIxA 4 1 x3 x8) fun x16 =>
 wb A (hSt 1 h x16 x15) fun h =>
 j2 [] h) (j2 [] h)) (j0 [x4] h)) [(.int .i64 0)] h
theorem r336 : RowS Tryz.prog 22 336 d336 := rowS Tryz.func336 (by kernel_rfl) true [q4] (fun R A cs csd lo => by kernel_rfl)
/-- tailrace/tailraceref8.One -/
noncomputable def d340 : FnT := fun R A cs csd lo vs h K => p1 A vs fun x0 =>
 hb A (some (hNew h [(.int .i64 0), (.int .u64 0), (.int .u64 0), (.int .u64 0), (.int .u64 0), (.slice none 0 0)])) fun x1 h =>
 hb A (some (hNew h [(.bool false), (.bool false), (.bool false), (.bool false), (.bool false), (.bool false), (.bool false), (.bool false), (.bool false), (.bool false), (.bool false), (.bool false), (.bool false), (.bool false), (.bool false), (.bool false), (.bool false), (.bool false), (.bool false), (.bool false), (.bool false), (.bool false), (.bool false), (.bool false), (.bool false), (.bool false), (.bool false), (.bool false), (.bool false), (.bool false), (.bool false), (.bool false), (.bool false), (.bool false), (.bool false), (.bool false), (.bool false), (.bool false), (.bool false), (.bool false), (.bool false), (.bool false), (.bool false), (.bool false), (.bool false), (.bool false), (.bool false), (.bool false), (.bool false), (.bool false), (.bool false), (.bool false), (.bool false), (.bool false), (.bool false), (.bool false), (.bool false), (.bool false), (.bool false), (.bool false), (.bool false), (.bool false), (.bool false), (.bool false), (.bool false), (.bool false), (.bool false), (.bool false), (.bool false), (.bool false), (.bool false), (.bool false), (.bool false), (.bool false), (.bool false), (.bool false), (.bool false), (.bool false), (.bool false), (.bool false), (.bool false), (.bool false), (.bool false), (.bool false), (.bool false), (.bool false), (.bool false), (.bool false), (.bool false), (.bool false), (.bool false), (.bool false), (.bool false), (.bool false), (.bool false), (.bool false), (.bool false), (.bool false), (.bool false), (.bool false), (.bool false), (.bool false), (.bool false), (.bool false), (.bool false), (.bool false), (.bool false), (.bool false), (.bool false), (.bool false), (.bool false), (.bool false), (.bool false), (.bool false), (.bool false), (.bool false), (.bool false), (.bool false), (.bool false), (.bool false), (.bool false), (.bool false), (.bool false), (.bool false), (.bool false), (.bool false), (.bool false), (.bool false), (.bool false), (.bool false), (.bool false), (.bool false), (.bool false), (.bool false), (.bool false), (.bool false), (.bool false), (.bool false), (.bool false), (.bool false), (.bool false), (.bool false), (.bool false), (.bool false), (.bool false), (.bool false), (.bool false), (.bool false), (.bool false), (.bool false), (.bool false), (.bool false), (.bool false), (.bool false), (.bool false), (.bool false), (.bool false), (.bool false), (.bool false), (.bool false), (.bool false), (.bool false), (.bool false), (.bool false), (.bool false), (.bool false), (.bool false), (.bool false), (.bool false), (.bool false), (.bool false), (.bool false), (.bool false), (.bool false), (.bool false), (.bool false), (.bool false), (.bool false), (.bool false), (.bool false), (.bool false), (.bool false), (.bool false), (.bool false), (.bool false), (.bool false), (.bool false), (.bool false), (.bool false), (.bool false), (.bool false), (.bool false), (.bool false), (.bool false), (.bool false), (.bool false), (.bool false), (.bool false), (.bool false), (.bool false), (.bool false), (.bool false), (.bool false), (.bool false), (.bool false), (.bool false), (.bool false), (.bool false), (.bool false), (.bool false), (.bool false), (.bool false), (.bool false), (.bool false), (.bool false), (.bool false), (.bool false), (.bool false), (.bool false), (.bool false), (.bool false), (.bool false), (.bool false), (.bool false), (.bool false), (.bool false), (.bool false), (.bool false), (.bool false), (.bool false), (.bool false), (.bool false), (.bool false), (.bool false), (.bool false), (.bool false), (.bool false), (.bool false), (.bool false), (.bool false), (.bool false), (.bool false), (.bool false), (.bool false), (.bool false), (.bool false), (.bool false), (.bool false), (.bool false), (.bool false), (.bool false), (.bool false), (.bool false), (.bool false), (.bool false), (.bool false)])) fun x2 h =>
 pb A (vIxA 256 1 x2 x0) fun x3 =>
 wb A (hSt 1 h x3 (.bool true)) fun h =>
 pb A (mLdA 256 h x2) fun x4 =>
 cs 336 [x4] h fun x5 h =>
 pb A (vBld [(.int .i64 0), (.int .u64 0), (.int .u64 0), (.int .u64 0), (.int .u64 0), (.slice none 0 0)] [(0, 1), (1, 4)] [(.int .i64 1), x5]) fun x6 =>
 wb A (hSt 6 h x1 x6) fun h =>
 pb A (mLdA 6 h x1) fun x7 =>
 K x7 h
theorem r340 : RowS Tryz.prog 22 340 d340 := rowS Tryz.func340 (by kernel_rfl) true [] (fun R A cs csd lo => by kernel_rfl)
/-- (*tailrace/tailraceref16.parser).product -/
noncomputable def d342 : FnT := fun R A cs csd lo vs h K => p1 A vs fun x0 =>
 hb A (some (hNew h [(.int .i64 0), (.string ⟨#[]⟩), (.float .f64 0), (.slice none 0 0), (.complex .f64 0 0)])) fun x1 h =>
 cs 347 [x0] h fun x2 h =>
 hb A (hIni 5 h x2) fun x3 h =>
 lo (fun r0 vs h => 
 cs 189 [x0, (.string ⟨#[42, 32, 47, 32, 37]⟩)] h fun x4 h =>
 pb A (vExt 0 x4) fun x5 =>
 pb A (vExt 1 x4) fun x6 =>
 pb A (vExt 2 x4) fun x7 =>
 pb A (vNot x7) fun x8 =>
 ic A x8 (pb A (mLdA 5 h x3) fun x9 =>
 wb A (hSt 5 h x1 x9) fun h =>
 pb A (mLdA 5 h x1) fun x10 =>
 K x10 h) (pb A (mLdA 5 h x3) fun x9 =>
 cs 347 [x0] h fun x10 h =>
 alc A 5 (allocOf (opdT 22 [20, 22] [x9, x10]) (.buildSlice 5 2 [(.int .i64 0), (.string ⟨#[]⟩), (.float .f64 0), (.slice none 0 0), (.complex .f64 0 0), (.int .i64 0), (.string ⟨#[]⟩), (.float .f64 0), (.slice none 0 0), (.complex .f64 0 0)] [(0, 5, (.tmp 20)), (5, 5, (.tmp 22))])) h [] fun x11 h pd =>
 pb A (vBld [(.int .i64 0), (.string ⟨#[]⟩), (.float .f64 0), (.slice none 0 0), (.complex .f64 0 0)] [(0, 1), (1, 1), (4, 1), (3, 1)] [(.int .i64 15), x5, x6, x11]) fun x12 =>
 rb A (mLdA 5 h x3) x9 <|
 abl 5 h pd fun h pd =>
 wb A (hSt 5 h x3 x12) fun h =>
 r0 [] h)) [] h
theorem r342 : RowS Tryz.prog 22 342 d342 := rowS Tryz.func342 (by kernel_rfl) true [] (fun R A cs csd lo => by kernel_rfl)
/-- (*tailrace/tailraceref16.parser).unary -/
noncomputable def d347 : FnT := fun R A cs csd lo vs h K => p1 A vs fun x0 =>
 hb A (some (hNew h [(.int .i64 0), (.string ⟨#[]⟩), (.float .f64 0), (.slice none 0 0), (.complex .f64 0 0)])) fun x1 h =>
 cs 189 [x0, (.string ⟨#[33, 32, 45, 32, 43]⟩)] h fun x2 h =>
 pb A (vExt 0 x2) fun x3 =>
 pb A (vExt 1 x2) fun x4 =>
 pb A (vExt 2 x2) fun x5 =>
 ic A x5 (cs 347 [x0] h fun x6 h =>
 hb A (hBsl 5 1 [(.int .i64 0), (.string ⟨#[]⟩), (.float .f64 0), (.slice none 0 0), (.complex .f64 0 0)] [(0, 5)] h [x6]) fun x7 h =>
 pb A (vBld [(.int .i64 0), (.string ⟨#[]⟩), (.float .f64 0), (.slice none 0 0), (.complex .f64 0 0)] [(0, 1), (1, 1), (4, 1), (3, 1)] [(.int .i64 16), x3, x4, x7]) fun x8 =>
 wb A (hSt 5 h x1 x8) fun h =>
 pb A (mLdA 5 h x1) fun x9 =>
 K x9 h) (cs 349 [x0] h fun x6 h =>
 wb A (hSt 5 h x1 x6) fun h =>
 pb A (mLdA 5 h x1) fun x7 =>
 K x7 h)
theorem r347 : RowS Tryz.prog 22 347 d347 := rowS Tryz.func347 (by kernel_rfl) true [] (fun R A cs csd lo => by kernel_rfl)
/-- (*tailrace/tailraceref16.parser).power -/
noncomputable def d349 : FnT := fun R A cs csd lo vs h K => p1 A vs fun x0 =>
 hb A (some (hNew h [(.int .i64 0), (.string ⟨#[]⟩), (.float .f64 0), (.slice none 0 0), (.complex .f64 0 0)])) fun x1 h =>
 cs 351 [x0] h fun x2 h =>
 hb A (hIni 5 h x2) fun x3 h =>
 cs 189 [x0, (.string ⟨#[94]⟩)] h fun x4 h =>
 pb A (vExt 0 x4) fun x5 =>
 pb A (vExt 1 x4) fun x6 =>
 pb A (vExt 2 x4) fun x7 =>
 pb A (vNot x7) fun x8 =>
 ic A x8 (pb A (mLdA 5 h x3) fun x9 =>
 wb A (hSt 5 h x1 x9) fun h =>
 pb A (mLdA 5 h x1) fun x10 =>
 K x10 h) (pb A (mLdA 5 h x3) fun x9 =>
 cs 347 [x0] h fun x10 h =>
 alc A 5 (allocOf (opdT 22 [20, 22] [x9, x10]) (.buildSlice 5 2 [(.int .i64 0), (.string ⟨#[]⟩), (.float .f64 0), (.slice none 0 0), (.complex .f64 0 0), (.int .i64 0), (.string ⟨#[]⟩), (.float .f64 0), (.slice none 0 0), (.complex .f64 0 0)] [(0, 5, (.tmp 20)), (5, 5, (.tmp 22))])) h [] fun x11 h pd =>
 pb A (vBld [(.int .i64 0), (.string ⟨#[]⟩), (.float .f64 0), (.slice none 0 0), (.complex .f64 0 0)] [(0, 1), (1, 1), (4, 1), (3, 1)] [(.int .i64 15), x5, x6, x11]) fun x12 =>
 rb A (mLdA 5 h x3) x9 <|
 abl 5 h pd fun h pd =>
 wb A (hSt 5 h x1 x12) fun h =>
 pb A (mLdA 5 h x1) fun x13 =>
 K x13 h)
theorem r349 : RowS Tryz.prog 22 349 d349 := rowS Tryz.func349 (by kernel_rfl) true [] (fun R A cs csd lo => by kernel_rfl)
/-- (*tailrace/tailraceref16.parser).post -/
noncomputable def d351 : FnT := fun R A cs csd lo vs h K => p1 A vs fun x0 =>
 hb A (some (hNew h [(.int .i64 0), (.string ⟨#[]⟩), (.float .f64 0), (.slice none 0 0), (.complex .f64 0 0)])) fun x1 h =>
 cs 353 [x0] h fun x2 h =>
 hb A (hIni 5 h x2) fun x3 h =>
 cs 43 [x0] h fun x4 h =>
 pb A (vNot x4) fun x5 =>
 gp A x5 false (mLdA 5 h x3) fun x6 =>
 gc A x5 false h (cs 188 [x6] h) fun x7 h =>
 gp A x5 false (vNot x7) fun x8 =>
 pb A (vPick x5 (.bool true) x8) fun x9 =>
 ic A x9 (pb A (mLdA 5 h x3) fun x10 =>
 wb A (hSt 5 h x1 x10) fun h =>
 pb A (mLdA 5 h x1) fun x11 =>
 K x11 h) (cs 189 [x0, (.string ⟨#[43, 43, 32, 45, 45]⟩)] h fun x10 h =>
 pb A (vExt 0 x10) fun x11 =>
 pb A (vExt 1 x10) fun x12 =>
 pb A (vExt 2 x10) fun x13 =>
 pb A (vNot x13) fun x14 =>
 ic A x14 (pb A (mLdA 5 h x3) fun x15 =>
 wb A (hSt 5 h x1 x15) fun h =>
 pb A (mLdA 5 h x1) fun x16 =>
 K x16 h) (pb A (mLdA 5 h x3) fun x15 =>
 hb A (hBsl 5 1 [(.int .i64 0), (.string ⟨#[]⟩), (.float .f64 0), (.slice none 0 0), (.complex .f64 0 0)] [(0, 5)] h [x15]) fun x16 h =>
 pb A (vBld [(.int .i64 0), (.string ⟨#[]⟩), (.float .f64 0), (.slice none 0 0), (.complex .f64 0 0)] [(0, 1), (1, 1), (4, 1), (3, 1)] [(.int .i64 18), x11, x12, x16]) fun x17 =>
 wb A (hSt 5 h x1 x17) fun h =>
 pb A (mLdA 5 h x1) fun x18 =>
 K x18 h))
theorem r351 : RowS Tryz.prog 22 351 d351 := rowS Tryz.func351 (by kernel_rfl) true [] (fun R A cs csd lo => by kernel_rfl)
/-- (*tailrace/tailraceref16.parser).primary -/
noncomputable def d353 : FnT := fun R A cs csd lo vs h K => p1 A vs fun x0 =>
 hb A (some (hNew h [(.int .i64 0), (.string ⟨#[]⟩), (.float .f64 0), (.slice none 0 0), (.complex .f64 0 0)])) fun x1 h =>
 cs 43 [x0] h fun x2 h =>
 pb A (vNot x2) fun x3 =>
 ic A x3 (pb A (vBld [(.int .i64 0), (.string ⟨#[]⟩), (.float .f64 0), (.slice none 0 0), (.complex .f64 0 0)] [] []) fun x4 =>
 wb A (hSt 5 h x1 x4) fun h =>
 pb A (mLdA 5 h x1) fun x5 =>
 K x5 h) (cs 189 [x0, (.string ⟨#[43, 43, 32, 45, 45]⟩)] h fun x4 h =>
 pb A (vExt 0 x4) fun x5 =>
 pb A (vExt 1 x4) fun x6 =>
 pb A (vExt 2 x4) fun x7 =>
 ic A x7 (cs 354 [x0] h fun x8 h =>
 hb A (hBsl 5 1 [(.int .i64 0), (.string ⟨#[]⟩), (.float .f64 0), (.slice none 0 0), (.complex .f64 0 0)] [(0, 5)] h [x8]) fun x9 h =>
 pb A (vBld [(.int .i64 0), (.string ⟨#[]⟩), (.float .f64 0), (.slice none 0 0), (.complex .f64 0 0)] [(0, 1), (1, 1), (4, 1), (3, 1)] [(.int .i64 17), x5, x6, x9]) fun x10 =>
 wb A (hSt 5 h x1 x10) fun h =>
 pb A (mLdA 5 h x1) fun x11 =>
 K x11 h) (cs 93 [x0, (.string ⟨#[40]⟩)] h fun x8 h =>
 ic A x8 (pb A (mF 3 h x0) fun x9 =>
 wb A (hF 3 h x0 (.bool false)) fun h =>
 cs 153 [x0, (.string ⟨#[40]⟩)] h fun x10 h =>
 cs 158 [x0] h fun x11 h =>
 hb A (hBsl 5 1 [(.int .i64 0), (.string ⟨#[]⟩), (.float .f64 0), (.slice none 0 0), (.complex .f64 0 0)] [(0, 5)] h [x11]) fun x12 h =>
 jn (fun vs h => p1 A vs fun x13 =>
 cs 154 [x0, (.string ⟨#[41]⟩)] h fun x14 h =>
 wb A (hF 3 h x0 x9) fun h =>
 cs 43 [x0] h fun x15 h =>
 pb A (vNot x15) fun x16 =>
 gp A x16 false (some x13) fun x17 =>
 gp A x16 false (vLenS x17) fun x18 =>
 gp A x16 false (vIop .eql x18 (.int .i64 1)) fun x19 =>
 pb A (vPick x16 (.bool true) x19) fun x20 =>
 ic A x20 (pb A (mIA 5 5 0 h x13 (.int .i64 0)) fun x21 =>
 wb A (hSt 5 h x1 x21) fun h =>
 pb A (mLdA 5 h x1) fun x22 =>
 K x22 h) (cs 152 [x0, (.bool false)] h fun x21 h =>
 pb A (vExt 0 x21) fun x22 =>
 pb A (vExt 1 x21) fun x23 =>
 hb A (hIni 5 h x22) fun x24 h =>
 cs 154 [x0, (.string ⟨#[105, 110]⟩)] h fun x25 h =>
 cs 155 [x0] h fun x26 h =>
 hb A (hIni 5 h x26) fun x27 h =>
 pb A (mF 1 h x27) fun x28 =>
 pb A (vBld [(.int .i64 0), (.string ⟨#[]⟩), (.float .f64 0), (.slice none 0 0), (.complex .f64 0 0)] [(0, 1), (1, 1), (4, 1), (3, 1)] [(.int .i64 11), x28, x23, x13]) fun x29 =>
 wb A (hSt 5 h x1 x29) fun h =>
 pb A (mLdA 5 h x1) fun x30 =>
 K x30 h)) fun j0 =>
 lo (fun r1 vs h => p1 A vs fun x13 =>
 cs 43 [x0] h fun x14 h =>
 gp A x14 true (some x0) fun x15 =>
 gc A x14 true h (cs 153 [x15, (.string ⟨#[44]⟩)] h) fun x16 h =>
 pb A (vPick x14 x16 (.bool false)) fun x17 =>
 ic A x17 (cs 44 [x0, (.string ⟨#[]⟩)] h fun x18 h =>
 cs 158 [x0] h fun x19 h =>
 hb A (hBsl 5 1 [(.int .i64 0), (.string ⟨#[]⟩), (.float .f64 0), (.slice none 0 0), (.complex .f64 0 0)] [(0, 5)] h [x19]) fun x20 h =>
 hb A (hApp 5 72 h x13 x20) fun x21 h =>
 r1 [x21] h) (j0 [x13] h)) [x12] h) (cs 355 [x0] h fun x9 h =>
 wb A (hSt 5 h x1 x9) fun h =>
 pb A (mLdA 5 h x1) fun x10 =>
 K x10 h)))
theorem r353 : RowS Tryz.prog 22 353 d353 := rowS Tryz.func353 (by kernel_rfl) true [q7] (fun R A cs csd lo => by kernel_rfl)
/-- (*tailrace/tailraceref16.parser).operand -/
noncomputable def d355 : FnT := fun R A cs csd lo vs h K => p1 A vs fun x0 =>
 hb A (some (hNew h [(.int .i64 0), (.string ⟨#[]⟩), (.float .f64 0), (.slice none 0 0), (.complex .f64 0 0)])) fun x1 h =>
 cs 45 [x0, (.bool true)] h fun x2 h =>
 hb A (hIni 5 h x2) fun x3 h =>
 cs 43 [x0] h fun x4 h =>
 pb A (vNot x4) fun x5 =>
 ic A x5 (pb A (vBld [(.int .i64 0), (.string ⟨#[]⟩), (.float .f64 0), (.slice none 0 0), (.complex .f64 0 0)] [] []) fun x6 =>
 wb A (hSt 5 h x1 x6) fun h =>
 pb A (mLdA 5 h x1) fun x7 =>
 K x7 h) (pb A (mLdA 5 h x3) fun x6 =>
 cs 183 [x0, x6] h fun x7 h =>
 pb A (mF 0 h x3) fun x8 =>
 pb A (vIop .eql x8 (.int .i64 2)) fun x9 =>
 ic A x9 (pb A (mF 4 h x3) fun x10 =>
 wb A (hF 1 h x0 x10) fun h =>
 pb A (mF 2 h x3) fun x11 =>
 pb A (vBld [(.int .i64 0), (.string ⟨#[]⟩), (.float .f64 0), (.slice none 0 0), (.complex .f64 0 0)] [(0, 1), (2, 1), (4, 1)] [(.int .i64 1), x11, x7]) fun x12 =>
 wb A (hSt 5 h x1 x12) fun h =>
 pb A (mLdA 5 h x1) fun x13 =>
 K x13 h) (pb A (vIop .eql x8 (.int .i64 3)) fun x10 =>
 ic A x10 (pb A (mF 4 h x3) fun x11 =>
 wb A (hF 1 h x0 x11) fun h =>
 pb A (mF 1 h x3) fun x12 =>
 pb A (vSlen x12) fun x13 =>
 pb A (vIop .gtr x13 (.int .i64 256)) fun x14 =>
 jn (fun vs h => 
 pb A (mF 1 h x3) fun x15 =>
 pb A (vBld [(.int .i64 0), (.string ⟨#[]⟩), (.float .f64 0), (.slice none 0 0), (.complex .f64 0 0)] [(0, 1), (1, 1), (4, 1)] [(.int .i64 2), x15, x7]) fun x16 =>
 wb A (hSt 5 h x1 x16) fun h =>
 pb A (mLdA 5 h x1) fun x17 =>
 K x17 h) fun j0 =>
 ic A x14 (pb A (mF 3 h x3) fun x15 =>
 cs 92 [x0, (.int .i64 12), x15] h fun x16 h =>
 j0 [] h) (j0 [] h)) (pb A (vIop .eql x8 (.int .i64 4)) fun x11 =>
 ic A x11 (pb A (mF 4 h x3) fun x12 =>
 wb A (hF 1 h x0 x12) fun h =>
 pb A (mF 1 h x3) fun x13 =>
 cs 249 [x13] h fun x14 h =>
 pb A (vExt 0 x14) fun x15 =>
 pb A (vExt 1 x14) fun x16 =>
 pb A (vExt 2 x14) fun x17 =>
 hb A (hIni 6 h x15) fun x18 h =>
 pb A (vIop .neq x17 (.int .i64 0)) fun x19 =>
 jn (fun vs h => 
 pb A (mF 1 h x3) fun x20 =>
 pb A (vBld [(.int .i64 0), (.string ⟨#[]⟩), (.float .f64 0), (.slice none 0 0), (.complex .f64 0 0)] [(0, 1), (1, 1), (4, 1)] [(.int .i64 3), x20, x7]) fun x21 =>
 wb A (hSt 5 h x1 x21) fun h =>
 pb A (mLdA 5 h x1) fun x22 =>
 K x22 h) fun j0 =>
 ic A x19 (pb A (mF 3 h x3) fun x20 =>
 cs 92 [x0, (.int .i64 24), x20] h fun x21 h =>
 j0 [] h) (j0 [] h)) (pb A (vIop .eql x8 (.int .i64 5)) fun x12 =>
 ic A x12 (pb A (mF 4 h x3) fun x13 =>
 wb A (hF 1 h x0 x13) fun h =>
 cs 153 [x0, (.string ⟨#[91]⟩)] h fun x14 h =>
 ic A x14 (pb A (vFa 1 x3) fun x15 =>
 pb A (mLd h x15) fun x16 =>
 cs 244 [x0, (.string ⟨#[93]⟩)] h fun x17 h =>
 pb A (vBld [(.int .i64 0), (.string ⟨#[]⟩), (.float .f64 0), (.slice none 0 0), (.complex .f64 0 0)] [(0, 1), (1, 1), (4, 1), (3, 1)] [(.int .i64 5), x16, x7, x17]) fun x18 =>
 rb A (mLd h x15) x16 <|
 wb A (hSt 5 h x1 x18) fun h =>
 pb A (mLdA 5 h x1) fun x19 =>
 K x19 h) (pb A (mF 1 h x3) fun x15 =>
 pb A (vBld [(.int .i64 0), (.string ⟨#[]⟩), (.float .f64 0), (.slice none 0 0), (.complex .f64 0 0)] [(0, 1), (1, 1), (4, 1)] [(.int .i64 4), x15, x7]) fun x16 =>
 wb A (hSt 5 h x1 x16) fun h =>
 pb A (mLdA 5 h x1) fun x17 =>
 K x17 h)) (pb A (vIop .eql x8 (.int .i64 6)) fun x13 =>
 jn (fun vs h => p1 A vs fun x14 =>
 ic A x14 (pb A (mLdA 5 h x3) fun x15 =>
 cs 356 [x0, x15, x7] h fun x16 h =>
 wb A (hSt 5 h x1 x16) fun h =>
 pb A (mLdA 5 h x1) fun x17 =>
 K x17 h) (pb A (mF 0 h x3) fun x15 =>
 pb A (vIop .eql x15 (.int .i64 9)) fun x16 =>
 gp A x16 true (mF 1 h x3) fun x17 =>
 gp A x16 true (vSeq x17 (.string ⟨#[36]⟩)) fun x18 =>
 pb A (vPick x16 x18 (.bool false)) fun x19 =>
 ic A x19 (pb A (mF 4 h x3) fun x20 =>
 wb A (hF 1 h x0 x20) fun h =>
 cs 357 [x0] h fun x21 h =>
 hb A (hBsl 5 1 [(.int .i64 0), (.string ⟨#[]⟩), (.float .f64 0), (.slice none 0 0), (.complex .f64 0 0)] [(0, 5)] h [x21]) fun x22 h =>
 pb A (vBld [(.int .i64 0), (.string ⟨#[]⟩), (.float .f64 0), (.slice none 0 0), (.complex .f64 0 0)] [(0, 1), (4, 1), (3, 1)] [(.int .i64 6), x7, x22]) fun x23 =>
 wb A (hSt 5 h x1 x23) fun h =>
 pb A (mLdA 5 h x1) fun x24 =>
 K x24 h) (pb A (mLdA 5 h x3) fun x20 =>
 cs 96 [x0, x20] h fun x21 h =>
 pb A (vBld [(.int .i64 0), (.string ⟨#[]⟩), (.float .f64 0), (.slice none 0 0), (.complex .f64 0 0)] [] []) fun x22 =>
 wb A (hSt 5 h x1 x22) fun h =>
 pb A (mLdA 5 h x1) fun x23 =>
 K x23 h))) fun j0 =>
 ic A x13 (j0 [x13] h) (pb A (vIop .eql x8 (.int .i64 7)) fun x14 =>
 j0 [x14] h))))))
theorem r355 : RowS Tryz.prog 22 355 d355 := rowS Tryz.func355 (by kernel_rfl) true [q92] (fun R A cs csd lo => by kernel_rfl)
/-- (*tailrace/tailraceref16.parser).dollar -/
noncomputable def d357 : FnT := fun R A cs csd lo vs h K => p1 A vs fun x0 =>
 hb A (some (hNew h [(.int .i64 0), (.string ⟨#[]⟩), (.float .f64 0), (.slice none 0 0), (.complex .f64 0 0)])) fun x1 h =>
 cs 189 [x0, (.string ⟨#[43, 43, 32, 45, 45]⟩)] h fun x2 h =>
 pb A (vExt 0 x2) fun x3 =>
 pb A (vExt 1 x2) fun x4 =>
 pb A (vExt 2 x2) fun x5 =>
 ic A x5 (cs 354 [x0] h fun x6 h =>
 hb A (hBsl 5 1 [(.int .i64 0), (.string ⟨#[]⟩), (.float .f64 0), (.slice none 0 0), (.complex .f64 0 0)] [(0, 5)] h [x6]) fun x7 h =>
 pb A (vBld [(.int .i64 0), (.string ⟨#[]⟩), (.float .f64 0), (.slice none 0 0), (.complex .f64 0 0)] [(0, 1), (1, 1), (4, 1), (3, 1)] [(.int .i64 17), x3, x4, x7]) fun x8 =>
 wb A (hSt 5 h x1 x8) fun h =>
 pb A (mLdA 5 h x1) fun x9 =>
 K x9 h) (cs 93 [x0, (.string ⟨#[40]⟩)] h fun x6 h =>
 pb A (vNot x6) fun x7 =>
 ic A x7 (cs 355 [x0] h fun x8 h =>
 wb A (hSt 5 h x1 x8) fun h =>
 pb A (mLdA 5 h x1) fun x9 =>
 K x9 h) (pb A (mF 3 h x0) fun x8 =>
 wb A (hF 3 h x0 (.bool false)) fun h =>
 cs 210 [x0] h fun x9 h =>
 hb A (hIni 5 h x9) fun x10 h =>
 wb A (hF 3 h x0 x8) fun h =>
 pb A (mLdA 5 h x10) fun x11 =>
 wb A (hSt 5 h x1 x11) fun h =>
 pb A (mLdA 5 h x1) fun x12 =>
 K x12 h))
theorem r357 : RowS Tryz.prog 22 357 d357 := rowS Tryz.func357 (by kernel_rfl) true [] (fun R A cs csd lo => by kernel_rfl)
end Go.Am.S
