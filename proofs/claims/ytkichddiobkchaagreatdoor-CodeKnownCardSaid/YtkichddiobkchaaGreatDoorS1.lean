/-
  Functions of the program, as plain text that names each value once.
-/
import Derived.Test.YtkichddiobkchaaGreatDoorProg
import Derived.Test.YtkichddiobkchaaGreatDoorMD
import Derived.KernelRfl
namespace Go.Am.S
open Go Go.Am Go.Proofs
set_option maxRecDepth 100000
set_option linter.unusedVariables false
/-- tailrace/tailracelaw20.CodeKnown -/
noncomputable def d4 : FnT := fun R A cs csd lo vs h K => 
 cs 16 [(.string ⟨#[66, 69, 71, 73, 78, 32, 123, 32, 110, 101, 120, 116, 32, 125]⟩)] h fun x0 h =>
 cs 15 [x0] h fun x1 h =>
 pb A (vExt 0 x1) fun x2 =>
 pb A (vExt 1 x1) fun x3 =>
 pb A (vExt 2 x1) fun x4 =>
 hb A (hIni 4 h x2) fun x5 h =>
 cs 17 [] h fun x6 h =>
 cs 18 [] h fun x7 h =>
 gp A x7 true (some x4) fun x8 =>
 gp A x7 true (vIop .eql x8 (.int .i64 32)) fun x9 =>
 pb A (vPick x7 x9 (.bool false)) fun x10 =>
 gp A x10 true (some x3) fun x11 =>
 gp A x10 true (vAny Tryz.prog 22 (.scal ⟨none, (.binOp .eql 34 (.tmp 18) (.const (.complex .f64 4607182418800017408 4621256167635550208)) 34), 4, "", #[], none⟩) [18] [x11]) fun x12 =>
 pb A (vPick x10 x12 (.bool false)) fun x13 =>
 gp A x13 true (some x6) fun x14 =>
 gp A x13 true (vLenS x14) fun x15 =>
 gp A x13 true (vIop .eql x15 (.int .i64 13)) fun x16 =>
 pb A (vPick x13 x16 (.bool false)) fun x17 =>
 gp A x17 true (some x6) fun x18 =>
 gp A x17 true (mI 1 0 h x18 (.int .i64 0)) fun x19 =>
 gp A x17 true (vSeq x19 (.string ⟨#[78, 82]⟩)) fun x20 =>
 pb A (vPick x17 x20 (.bool false)) fun x21 =>
 gp A x21 true (some x6) fun x22 =>
 gp A x21 true (mI 1 0 h x22 (.int .i64 12)) fun x23 =>
 gp A x21 true (vSeq x23 (.string ⟨#[71, 65, 80, 83]⟩)) fun x24 =>
 pb A (vPick x21 x24 (.bool false)) fun x25 =>
 pb A (vPick x25 (.bool true) (.bool false)) fun x26 =>
 pb A (vPick x26 (.bool true) (.bool false)) fun x27 =>
 K x27 h
theorem r4 : RowS Tryz.prog 22 4 d4 := rowS Tryz.func4 (by kernel_rfl) true [] (fun R A cs csd lo => by kernel_rfl)
/-- tailrace/code.Compile -/
noncomputable def d15 : FnT := fun R A cs csd lo vs h K => p1 A vs fun x0 =>
 hb A (hBox h x0) fun x1 h =>
 hb A (some (hNew h [(.slice none 0 0), (.slice none 0 0), (.int .i64 0), (.int .i64 0)])) fun x2 h =>
 pb A (mLdA 2 h x1) fun x3 =>
 cs 31 [x3] h fun x4 h =>
 pb A (vExt 0 x4) fun x5 =>
 pb A (vExt 1 x4) fun x6 =>
 pb A (vExt 2 x4) fun x7 =>
 hb A (hIni 3 h x5) fun x8 h =>
 pb A (vIop .neq x7 (.int .i64 0)) fun x9 =>
 ic A x9 (pb A (vBld [(.slice none 0 0), (.slice none 0 0), (.int .i64 0), (.int .i64 0)] [] []) fun x10 =>
 wb A (hSt 4 h x2 x10) fun h =>
 pb A (mLdA 4 h x2) fun x11 =>
 K (.tuple #[x11, x6, x7]) h) (pb A (mF 0 h x8) fun x10 =>
 pb A (vLenS x10) fun x11 =>
 pb A (mF 1 h x8) fun x12 =>
 pb A (vLenS x12) fun x13 =>
 pb A (vBld [(.slice none 0 0), (.slice none 0 0), (.int .i64 0), (.int .i64 0)] [(2, 1), (3, 1)] [x11, x13]) fun x14 =>
 hb A (hIni 4 h x14) fun x15 h =>
 pb A (mF 0 h x1) fun x16 =>
 pb A (vLenS x16) fun x17 =>
 jn (fun vs h => p1 A vs fun x18 =>
 pb A (mF 1 h x1) fun x19 =>
 pb A (vLenS x19) fun x20 =>
 jn (fun vs h => p1 A vs fun x21 =>
 pb A (mLdA 4 h x15) fun x22 =>
 wb A (hSt 4 h x2 x22) fun h =>
 pb A (mLdA 4 h x2) fun x23 =>
 K (.tuple #[x23, (.complex .f64 0 0), (.int .i64 0)]) h) fun j0 =>
 lo (fun r1 vs h => p1 A vs fun x21 =>
 pb A (vIop .lss x21 x20) fun x22 =>
 ic A x22 (pb A (mIA 8 8 0 h x19 x21) fun x23 =>
 hb A (some (hNew h [(.string ⟨#[]⟩), (.slice none 0 0), (.int .i64 0), (.string ⟨#[]⟩), (.float .f64 0), (.slice none 0 0), (.complex .f64 0 0), (.complex .f64 0 0)])) fun x24 h =>
 wb A (hSt 8 h x24 x23) fun h =>
 pb A (mLdA 2 h x1) fun x25 =>
 pb A (mLdA 3 h x8) fun x26 =>
 pb A (vIop .add x21 (.int .i64 1)) fun x27 =>
 pb A (vBld [(.slice none 0 0), (.slice none 0 0), (.slice none 0 0), (.slice none 0 0), (.slice none 0 0), (.int .i64 0), (.slice none 0 0), (.slice none 0 0)] [(0, 2), (2, 3), (5, 1)] [x25, x26, x27]) fun x28 =>
 hb A (hBox h x28) fun x29 h =>
 pb A (mFA 5 2 h x24) fun x30 =>
 cs 41 [x29, x30] h fun x31 h =>
 pb A (vBld [(.int .i64 0), (.int .i64 0), (.int .i64 0), (.string ⟨#[]⟩), (.float .f64 0)] [(0, 1)] [(.int .i64 3)]) fun x32 =>
 cs 42 [x29, x32] h fun x33 h =>
 pb A (vBld [(.int .i64 0), (.int .i64 0), (.int .i64 0), (.string ⟨#[]⟩), (.float .f64 0)] [(0, 1)] [(.int .i64 36)]) fun x34 =>
 cs 42 [x29, x34] h fun x35 h =>
 pb A (vFa 1 x15) fun x36 =>
 pb A (mLd h x36) fun x37 =>
 pb A (vNil x29) fun x38 =>
 pb A (vFa 6 x38) fun x39 =>
 pb A (mLd h x39) fun x40 =>
 alc A 6 (allocOf (opdT 22 [] []) (.buildSlice 1 0 [] [])) h [] fun x41 h pd =>
 pb A (vFa 2 x8) fun x42 =>
 pb A (mLd h x42) fun x43 =>
 pb A (vIxS 1 x43 x21) fun x44 =>
 pb A (mLd h x44) fun x45 =>
 abl 6 h pd fun h pd =>
 hb A (hApp 1 1 h x41 x45) fun x46 h =>
 pb A (vBld [(.int .i64 0), (.int .i64 0), (.slice none 0 0), (.slice none 0 0), (.slice none 0 0)] [(3, 1), (4, 1)] [x40, x46]) fun x47 =>
 alc A 14 (allocOf (opdT 22 [130] [x47]) (.buildSlice 5 1 [(.int .i64 0), (.int .i64 0), (.slice none 0 0), (.slice none 0 0), (.slice none 0 0)] [(0, 5, (.tmp 130))])) h pd fun x48 h pd =>
 rb A (mLd h x36) x37 <|
 rb A (mLd h x39) x40 <|
 abl 14 h pd fun h pd =>
 hb A (hApp 5 88 h x37 x48) fun x49 h =>
 pb A (vFa 1 x15) fun x50 =>
 wb A (hSt 1 h x50 x49) fun h =>
 pb A (vIop .add x21 (.int .i64 1)) fun x51 =>
 r1 [x51] h) (j0 [x21] h)) [(.int .i64 0)] h) fun j0 =>
 lo (fun r1 vs h => p1 A vs fun x18 =>
 pb A (vIop .lss x18 x17) fun x19 =>
 ic A x19 (pb A (mIA 9 9 0 h x16 x18) fun x20 =>
 hb A (hIni 9 h x20) fun x21 h =>
 pb A (mF 0 h x21) fun x22 =>
 pb A (mF 1 h x21) fun x23 =>
 pb A (vBld [(.int .i64 0), (.int .i64 0), (.slice none 0 0), (.slice none 0 0), (.slice none 0 0)] [(0, 1), (1, 1)] [x22, x23]) fun x24 =>
 hb A (hIni 5 h x24) fun x25 h =>
 pb A (mF 2 h x21) fun x26 =>
 pb A (vLenS x26) fun x27 =>
 jn (fun vs h => p1 A vs fun x28 =>
 pb A (mLdA 2 h x1) fun x29 =>
 pb A (mLdA 3 h x8) fun x30 =>
 pb A (vBld [(.slice none 0 0), (.slice none 0 0), (.slice none 0 0), (.slice none 0 0), (.slice none 0 0), (.int .i64 0), (.slice none 0 0), (.slice none 0 0)] [(0, 2), (2, 3)] [x29, x30]) fun x31 =>
 hb A (hBox h x31) fun x32 h =>
 pb A (mFA 5 3 h x21) fun x33 =>
 cs 41 [x32, x33] h fun x34 h =>
 pb A (mF 6 h x32) fun x35 =>
 wb A (hF 3 h x25 x35) fun h =>
 pb A (mF 0 h x15) fun x36 =>
 pb A (mLdA 5 h x25) fun x37 =>
 hb A (hBsl 5 1 [(.int .i64 0), (.int .i64 0), (.slice none 0 0), (.slice none 0 0), (.slice none 0 0)] [(0, 5)] h [x37]) fun x38 h =>
 hb A (hApp 5 88 h x36 x38) fun x39 h =>
 wb A (hF 0 h x15 x39) fun h =>
 pb A (vIop .add x18 (.int .i64 1)) fun x40 =>
 r1 [x40] h) fun j2 =>
 lo (fun r3 vs h => p1 A vs fun x28 =>
 pb A (vIop .lss x28 x27) fun x29 =>
 ic A x29 (pb A (mIA 5 5 0 h x26 x28) fun x30 =>
 hb A (hIni 5 h x30) fun x31 h =>
 pb A (mLdA 2 h x1) fun x32 =>
 pb A (mLdA 3 h x8) fun x33 =>
 pb A (vBld [(.slice none 0 0), (.slice none 0 0), (.slice none 0 0), (.slice none 0 0), (.slice none 0 0), (.int .i64 0), (.slice none 0 0), (.slice none 0 0)] [(0, 2), (2, 3)] [x32, x33]) fun x34 =>
 hb A (hBox h x34) fun x35 h =>
 pb A (mLdA 5 h x31) fun x36 =>
 cs 40 [x35, x36] h fun x37 h =>
 pb A (mF 2 h x25) fun x38 =>
 pb A (mF 6 h x35) fun x39 =>
 hb A (hBsl 1 1 [(.slice none 0 0)] [(0, 1)] h [x39]) fun x40 h =>
 hb A (hApp 1 24 h x38 x40) fun x41 h =>
 wb A (hF 2 h x25 x41) fun h =>
 pb A (vIop .add x28 (.int .i64 1)) fun x42 =>
 r3 [x42] h) (j2 [x28] h)) [(.int .i64 0)] h) (j0 [x18] h)) [(.int .i64 0)] h)
theorem r15 : RowS Tryz.prog 22 15 d15 := rowS Tryz.func15 (by kernel_rfl) true [q40, q52, q96] (fun R A cs csd lo => by kernel_rfl)
/-- tailrace/tailracelaw20.parsed -/
noncomputable def d16 : FnT := fun R A cs csd lo vs h K => p1 A vs fun x0 =>
 hb A (some (hNew h [(.slice none 0 0), (.slice none 0 0)])) fun x1 h =>
 cs 21 [x0] h fun x2 h =>
 pb A (vExt 0 x2) fun x3 =>
 pb A (vExt 1 x2) fun x4 =>
 pb A (vExt 2 x2) fun x5 =>
 hb A (hIni 2 h x3) fun x6 h =>
 pb A (mLdA 2 h x6) fun x7 =>
 wb A (hSt 2 h x1 x7) fun h =>
 pb A (mLdA 2 h x1) fun x8 =>
 K x8 h
theorem r16 : RowS Tryz.prog 22 16 d16 := rowS Tryz.func16 (by kernel_rfl) true [] (fun R A cs csd lo => by kernel_rfl)
/-- tailrace/code.Specials -/
noncomputable def d17 : FnT := fun R A cs csd lo vs h K => 
 hb A (hBsl 1 13 [(.string ⟨#[]⟩), (.string ⟨#[]⟩), (.string ⟨#[]⟩), (.string ⟨#[]⟩), (.string ⟨#[]⟩), (.string ⟨#[]⟩), (.string ⟨#[]⟩), (.string ⟨#[]⟩), (.string ⟨#[]⟩), (.string ⟨#[]⟩), (.string ⟨#[]⟩), (.string ⟨#[]⟩), (.string ⟨#[]⟩)] [(0, 1), (1, 1), (2, 1), (3, 1), (4, 1), (5, 1), (6, 1), (7, 1), (8, 1), (9, 1), (10, 1), (11, 1), (12, 1)] h [(.string ⟨#[78, 82]⟩), (.string ⟨#[78, 70]⟩), (.string ⟨#[70, 83]⟩), (.string ⟨#[79, 70, 83]⟩), (.string ⟨#[79, 82, 83]⟩), (.string ⟨#[82, 83]⟩), (.string ⟨#[83, 85, 66, 83, 69, 80]⟩), (.string ⟨#[67, 79, 78, 86, 70, 77, 84]⟩), (.string ⟨#[79, 70, 77, 84]⟩), (.string ⟨#[82, 83, 84, 65, 82, 84]⟩), (.string ⟨#[82, 76, 69, 78, 71, 84, 72]⟩), (.string ⟨#[78, 79, 87]⟩), (.string ⟨#[71, 65, 80, 83]⟩)]) fun x0 h =>
 K x0 h
theorem r17 : RowS Tryz.prog 22 17 d17 := rowS Tryz.func17 (by kernel_rfl) true [] (fun R A cs csd lo => by kernel_rfl)
/-- tailrace/tailracelaw20.known -/
noncomputable def d18 : FnT := fun R A cs csd lo vs h K => 
 cs 16 [(.string ⟨#[123, 32, 110, 32, 43, 61, 32, 36, 49, 32, 125]⟩)] h fun x0 h =>
 cs 15 [x0] h fun x1 h =>
 pb A (vExt 0 x1) fun x2 =>
 pb A (vExt 1 x1) fun x3 =>
 pb A (vExt 2 x1) fun x4 =>
 hb A (hIni 4 h x2) fun x5 h =>
 cs 16 [(.string ⟨#[47, 97, 47, 32, 123, 32, 112, 114, 105, 110, 116, 32, 125]⟩)] h fun x6 h =>
 cs 15 [x6] h fun x7 h =>
 pb A (vExt 0 x7) fun x8 =>
 pb A (vExt 1 x7) fun x9 =>
 pb A (vExt 2 x7) fun x10 =>
 hb A (hIni 4 h x8) fun x11 h =>
 pb A (vIop .neq x4 (.int .i64 0)) fun x12 =>
 gp A x12 false (some x10) fun x13 =>
 gp A x12 false (vIop .neq x13 (.int .i64 0)) fun x14 =>
 pb A (vPick x12 (.bool true) x14) fun x15 =>
 gp A x15 false (mF 0 h x5) fun x16 =>
 gp A x15 false (vLenS x16) fun x17 =>
 gp A x15 false (vIop .neq x17 (.int .i64 1)) fun x18 =>
 pb A (vPick x15 (.bool true) x18) fun x19 =>
 gp A x19 false (mF 0 h x11) fun x20 =>
 gp A x19 false (vLenS x20) fun x21 =>
 gp A x19 false (vIop .neq x21 (.int .i64 1)) fun x22 =>
 pb A (vPick x19 (.bool true) x22) fun x23 =>
 gp A x23 false (mF 0 h x5) fun x24 =>
 gp A x23 false (mI 5 3 h x24 (.int .i64 0)) fun x25 =>
 gp A x23 false (vLenS x25) fun x26 =>
 gp A x23 false (vIop .neq x26 (.int .i64 4)) fun x27 =>
 pb A (vPick x23 (.bool true) x27) fun x28 =>
 gp A x28 false (mF 0 h x11) fun x29 =>
 gp A x28 false (mI 5 2 h x29 (.int .i64 0)) fun x30 =>
 gp A x28 false (vLenS x30) fun x31 =>
 gp A x28 false (vIop .neq x31 (.int .i64 1)) fun x32 =>
 pb A (vPick x28 (.bool true) x32) fun x33 =>
 ic A x33 (K (.bool false) h) (pb A (mF 0 h x5) fun x34 =>
 pb A (mI 5 3 h x34 (.int .i64 0)) fun x35 =>
 pb A (mI 5 0 h x35 (.int .i64 0)) fun x36 =>
 pb A (vIop .eql x36 (.int .i64 1)) fun x37 =>
 gp A x37 true (some x35) fun x38 =>
 gp A x37 true (mI 5 4 h x38 (.int .i64 0)) fun x39 =>
 gp A x37 true (vAny Tryz.prog 22 (.scal ⟨none, (.binOp .eql 52 (.tmp 70) (.const (.float .f64 4607182418800017408)) 52), 4, "", #[], none⟩) [70] [x39]) fun x40 =>
 pb A (vPick x37 x40 (.bool false)) fun x41 =>
 gp A x41 true (some x35) fun x42 =>
 gp A x41 true (mI 5 0 h x42 (.int .i64 1)) fun x43 =>
 gp A x41 true (vIop .eql x43 (.int .i64 12)) fun x44 =>
 pb A (vPick x41 x44 (.bool false)) fun x45 =>
 gp A x45 true (some x35) fun x46 =>
 gp A x45 true (mI 5 0 h x46 (.int .i64 2)) fun x47 =>
 gp A x45 true (vIop .eql x47 (.int .i64 6)) fun x48 =>
 pb A (vPick x45 x48 (.bool false)) fun x49 =>
 gp A x49 true (some x35) fun x50 =>
 gp A x49 true (mI 5 3 h x50 (.int .i64 2)) fun x51 =>
 gp A x49 true (vSeq x51 (.string ⟨#[43]⟩)) fun x52 =>
 pb A (vPick x49 x52 (.bool false)) fun x53 =>
 gp A x53 true (some x35) fun x54 =>
 gp A x53 true (mI 5 0 h x54 (.int .i64 3)) fun x55 =>
 gp A x53 true (vIop .eql x55 (.int .i64 29)) fun x56 =>
 pb A (vPick x53 x56 (.bool false)) fun x57 =>
 gp A x57 true (mF 0 h x11) fun x58 =>
 gp A x57 true (mI 5 2 h x58 (.int .i64 0)) fun x59 =>
 gp A x57 true (mI 1 0 h x59 (.int .i64 0)) fun x60 =>
 gp A x57 true (vLenS x60) fun x61 =>
 gp A x57 true (vIop .eql x61 (.int .i64 4)) fun x62 =>
 pb A (vPick x57 x62 (.bool false)) fun x63 =>
 gp A x63 true (mF 0 h x11) fun x64 =>
 gp A x63 true (mI 5 3 h x64 (.int .i64 0)) fun x65 =>
 gp A x63 true (vLenS x65) fun x66 =>
 gp A x63 true (vIop .eql x66 (.int .i64 3)) fun x67 =>
 pb A (vPick x63 x67 (.bool false)) fun x68 =>
 gp A x68 true (mF 2 h x5) fun x69 =>
 gp A x68 true (vIop .eql x69 (.int .i64 1)) fun x70 =>
 pb A (vPick x68 x70 (.bool false)) fun x71 =>
 gp A x71 true (mF 3 h x5) fun x72 =>
 gp A x71 true (vIop .eql x72 (.int .i64 0)) fun x73 =>
 pb A (vPick x71 x73 (.bool false)) fun x74 =>
 K x74 h)
theorem r18 : RowS Tryz.prog 22 18 d18 := rowS Tryz.func18 (by kernel_rfl) true [] (fun R A cs csd lo => by kernel_rfl)
/-- tailrace/tailraceref16.Parse -/
noncomputable def d21 : FnT := fun R A cs csd lo vs h K => p1 A vs fun x0 =>
 hb A (some (hNew h [(.slice none 0 0), (.slice none 0 0)])) fun x1 h =>
 pb A (vSlen x0) fun x2 =>
 pb A (vIop .gtr x2 (.int .i64 4096)) fun x3 =>
 ic A x3 (pb A (vBld [(.slice none 0 0), (.slice none 0 0)] [] []) fun x4 =>
 wb A (hSt 2 h x1 x4) fun h =>
 pb A (mLdA 2 h x1) fun x5 =>
 K (.tuple #[x5, (.complex .f64 0 0), (.int .i64 12)]) h) (pb A (vBld [(.string ⟨#[]⟩), (.int .i64 0), (.int .i64 0), (.bool false), (.int .i64 0), (.complex .f64 0 0)] [(0, 1)] [x0]) fun x4 =>
 hb A (hBox h x4) fun x5 h =>
 hb A (some (hNew h [(.slice none 0 0), (.slice none 0 0)])) fun x6 h =>
 jn (fun vs h => 
 cs 43 [x5] h fun x7 h =>
 pb A (vNot x7) fun x8 =>
 ic A x8 (pb A (vBld [(.slice none 0 0), (.slice none 0 0)] [] []) fun x9 =>
 pb A (vNil x5) fun x10 =>
 pb A (vFa 5 x10) fun x11 =>
 pb A (mLd h x11) fun x12 =>
 pb A (vNil x5) fun x13 =>
 pb A (vFa 4 x13) fun x14 =>
 pb A (mLd h x14) fun x15 =>
 wb A (hSt 2 h x1 x9) fun h =>
 rb A (mLd h x11) x12 <|
 rb A (mLd h x14) x15 <|
 pb A (mLdA 2 h x1) fun x16 =>
 K (.tuple #[x16, x12, x15]) h) (pb A (mLdA 2 h x6) fun x9 =>
 wb A (hSt 2 h x1 x9) fun h =>
 pb A (mLdA 2 h x1) fun x10 =>
 K (.tuple #[x10, (.complex .f64 0 0), (.int .i64 0)]) h)) fun j0 =>
 lo (fun r1 vs h => 
 cs 43 [x5] h fun x7 h =>
 ic A x7 (cs 44 [x5, (.string ⟨#[59]⟩)] h fun x8 h =>
 cs 45 [x5, (.bool true)] h fun x9 h =>
 hb A (hIni 5 h x9) fun x10 h =>
 cs 43 [x5] h fun x11 h =>
 pb A (vNot x11) fun x12 =>
 gp A x12 false (mF 0 h x10) fun x13 =>
 gp A x12 false (vIop .eql x13 (.int .i64 0)) fun x14 =>
 pb A (vPick x12 (.bool true) x14) fun x15 =>
 ic A x15 (j0 [] h) (cs 46 [x5, x6] h fun x16 h =>
 r1 [] h)) (j0 [] h)) [] h)
theorem r21 : RowS Tryz.prog 22 21 d21 := rowS Tryz.func21 (by kernel_rfl) true [] (fun R A cs csd lo => by kernel_rfl)
/-- tailrace/names.Check -/
noncomputable def d31 : FnT := fun R A cs csd lo vs h K => p1 A vs fun x0 =>
 hb A (hBox h x0) fun x1 h =>
 hb A (some (hNew h [(.slice none 0 0), (.slice none 0 0), (.slice none 0 0)])) fun x2 h =>
 pb A (mLdA 2 h x1) fun x3 =>
 hb A (hAny Tryz.prog 22 .makeMap [] h []) fun x4 h =>
 hb A (hAny Tryz.prog 22 .makeMap [] h []) fun x5 h =>
 hb A (hAny Tryz.prog 22 .makeMap [] h []) fun x6 h =>
 pb A (vBld [(.slice none 0 0), (.slice none 0 0), (.map none), (.int .i64 0), (.int .i64 0), (.int .i64 0), (.slice none 0 0), (.map none), (.map none), (.complex .f64 0 0), (.int .i64 0)] [(0, 2), (2, 1), (7, 1), (8, 1)] [x3, x4, x5, x6]) fun x7 =>
 hb A (hBox h x7) fun x8 h =>
 cs 57 [x8] h fun x9 h =>
 pb A (mF 10 h x8) fun x10 =>
 pb A (vIop .eql x10 (.int .i64 0)) fun x11 =>
 jn (fun vs h => 
 pb A (mF 10 h x8) fun x12 =>
 pb A (vIop .eql x12 (.int .i64 0)) fun x13 =>
 jn (fun vs h => 
 pb A (mF 10 h x8) fun x14 =>
 pb A (vIop .neq x14 (.int .i64 0)) fun x15 =>
 ic A x15 (pb A (vBld [(.slice none 0 0), (.slice none 0 0), (.slice none 0 0)] [] []) fun x16 =>
 pb A (vNil x8) fun x17 =>
 pb A (vFa 9 x17) fun x18 =>
 pb A (mLd h x18) fun x19 =>
 pb A (vNil x8) fun x20 =>
 pb A (vFa 10 x20) fun x21 =>
 pb A (mLd h x21) fun x22 =>
 wb A (hSt 3 h x2 x16) fun h =>
 rb A (mLd h x18) x19 <|
 rb A (mLd h x21) x22 <|
 pb A (mLdA 3 h x2) fun x23 =>
 K (.tuple #[x23, x19, x22]) h) (cs 60 [x8] h fun x16 h =>
 wb A (hSt 3 h x2 x16) fun h =>
 pb A (mLdA 3 h x2) fun x17 =>
 K (.tuple #[x17, (.complex .f64 0 0), (.int .i64 0)]) h)) fun j0 =>
 ic A x13 (cs 59 [x8] h fun x14 h =>
 j0 [] h) (j0 [] h)) fun j0 =>
 ic A x11 (cs 58 [x8] h fun x12 h =>
 j0 [] h) (j0 [] h)
theorem r31 : RowS Tryz.prog 22 31 d31 := rowS Tryz.func31 (by kernel_rfl) true [] (fun R A cs csd lo => by kernel_rfl)
/-- (*tailrace/code.writer).expr -/
noncomputable def d40 : FnT := fun R A cs csd lo vs h K => p2 A vs fun x0 x1 =>
 hb A (hBox h x1) fun x2 h =>
 pb A (mF 0 h x2) fun x3 =>
 pb A (vIop .eql x3 (.int .i64 1)) fun x4 =>
 jn (fun vs h => 
 K (.tuple #[]) h) fun j0 =>
 ic A x4 (pb A (mF 2 h x2) fun x5 =>
 pb A (vBld [(.int .i64 0), (.int .i64 0), (.int .i64 0), (.string ⟨#[]⟩), (.float .f64 0)] [(0, 1), (4, 1)] [(.int .i64 1), x5]) fun x6 =>
 cs 42 [x0, x6] h fun x7 h =>
 j0 [] h) (pb A (vIop .eql x3 (.int .i64 2)) fun x5 =>
 jn (fun vs h => 
 j0 [] h) fun j1 =>
 ic A x5 (pb A (mF 1 h x2) fun x6 =>
 pb A (vBld [(.int .i64 0), (.int .i64 0), (.int .i64 0), (.string ⟨#[]⟩), (.float .f64 0)] [(0, 1), (3, 1)] [(.int .i64 2), x6]) fun x7 =>
 cs 42 [x0, x7] h fun x8 h =>
 j1 [] h) (pb A (vIop .eql x3 (.int .i64 3)) fun x6 =>
 jn (fun vs h => 
 j1 [] h) fun j2 =>
 ic A x6 (cs 75 [x0] h fun x7 h =>
 pb A (mF 1 h x2) fun x8 =>
 pb A (vBld [(.int .i64 0), (.int .i64 0), (.int .i64 0), (.string ⟨#[]⟩), (.float .f64 0)] [(0, 1), (3, 1)] [(.int .i64 2), x8]) fun x9 =>
 cs 42 [x0, x9] h fun x10 h =>
 pb A (vBld [(.int .i64 0), (.int .i64 0), (.int .i64 0), (.string ⟨#[]⟩), (.float .f64 0)] [(0, 1), (3, 1)] [(.int .i64 23), (.string ⟨#[126]⟩)]) fun x11 =>
 cs 42 [x0, x11] h fun x12 h =>
 j2 [] h) (pb A (vIop .eql x3 (.int .i64 4)) fun x7 =>
 jn (fun vs h => 
 j2 [] h) fun j3 =>
 ic A x7 (pb A (mF 1 h x2) fun x8 =>
 cs 76 [x0, x8] h fun x9 h =>
 pb A (vExt 0 x9) fun x10 =>
 pb A (vExt 1 x9) fun x11 =>
 pb A (vBld [(.int .i64 0), (.int .i64 0), (.int .i64 0), (.string ⟨#[]⟩), (.float .f64 0)] [(0, 1), (1, 1), (2, 1)] [(.int .i64 4), x10, x11]) fun x12 =>
 cs 42 [x0, x12] h fun x13 h =>
 j3 [] h) (pb A (vIop .eql x3 (.int .i64 5)) fun x8 =>
 jn (fun vs h => p1 A vs fun x9 =>
 jn (fun vs h => 
 j3 [] h) fun j4 =>
 ic A x9 (pb A (mF 0 h x2) fun x10 =>
 pb A (vIop .eql x10 (.int .i64 11)) fun x11 =>
 jn (fun vs h => p1 A vs fun x12 =>
 pb A (mF 3 h x2) fun x13 =>
 cs 77 [x0, x13] h fun x14 h =>
 pb A (mF 1 h x2) fun x15 =>
 cs 78 [x0, x15] h fun x16 h =>
 pb A (vExt 0 x16) fun x17 =>
 pb A (vExt 1 x16) fun x18 =>
 pb A (vBld [(.int .i64 0), (.int .i64 0), (.int .i64 0), (.string ⟨#[]⟩), (.float .f64 0)] [(0, 1), (1, 1), (2, 1)] [x12, x17, x18]) fun x19 =>
 cs 42 [x0, x19] h fun x20 h =>
 j4 [] h) fun j5 =>
 ic A x11 (j5 [(.int .i64 17)] h) (j5 [(.int .i64 8)] h)) (pb A (vIop .eql x3 (.int .i64 6)) fun x10 =>
 jn (fun vs h => 
 j4 [] h) fun j5 =>
 ic A x10 (pb A (mLdA 5 h x2) fun x11 =>
 cs 79 [x11, (.int .i64 0)] h fun x12 h =>
 cs 40 [x0, x12] h fun x13 h =>
 pb A (vBld [(.int .i64 0), (.int .i64 0), (.int .i64 0), (.string ⟨#[]⟩), (.float .f64 0)] [(0, 1)] [(.int .i64 12)]) fun x14 =>
 cs 42 [x0, x14] h fun x15 h =>
 j5 [] h) (pb A (vIop .eql x3 (.int .i64 7)) fun x11 =>
 jn (fun vs h => 
 j5 [] h) fun j6 =>
 ic A x11 (pb A (mLdA 5 h x2) fun x12 =>
 cs 79 [x12, (.int .i64 1)] h fun x13 h =>
 hb A (hIni 5 h x13) fun x14 h =>
 pb A (mF 1 h x2) fun x15 =>
 pb A (vSeq x15 (.string ⟨#[61]⟩)) fun x16 =>
 jn (fun vs h => 
 j6 [] h) fun j7 =>
 ic A x16 (pb A (mLdA 5 h x2) fun x17 =>
 pb A (mLdA 5 h x14) fun x18 =>
 alc A 4 (allocOf (opdT 22 [96] [x18]) (.buildSlice 5 1 [(.int .i64 0), (.string ⟨#[]⟩), (.float .f64 0), (.slice none 0 0), (.complex .f64 0 0)] [(0, 5, (.tmp 96))])) h [] fun x19 h pd =>
 cs 79 [x17, (.int .i64 0)] h fun x20 h =>
 rb A (mLdA 5 h x14) x18 <|
 abl 4 h pd fun h pd =>
 cs 80 [x0, x20, (.string ⟨#[]⟩), (.int .i64 5), (.int .i64 9), (.int .i64 13), x19] h fun x21 h =>
 j7 [] h) (pb A (mLdA 5 h x2) fun x17 =>
 pb A (vFa 1 x2) fun x18 =>
 pb A (mLd h x18) fun x19 =>
 pb A (vFa 1 x2) fun x20 =>
 pb A (mLd h x20) fun x21 =>
 pb A (vSlen x21) fun x22 =>
 pb A (vIop .sub x22 (.int .i64 1)) fun x23 =>
 pb A (vAny Tryz.prog 22 (.scal ⟨none, (.call ⟨.builtin .max, #[(.const (.int .i64 0)), (.tmp 107)], #[3, 3]⟩), 3, "", #[], none⟩) [107] [x23]) fun x24 =>
 pb A (vScut x19 none (some x24)) fun x25 =>
 pb A (mLdA 5 h x14) fun x26 =>
 alc A 12 (allocOf (opdT 22 [110] [x26]) (.buildSlice 5 1 [(.int .i64 0), (.string ⟨#[]⟩), (.float .f64 0), (.slice none 0 0), (.complex .f64 0 0)] [(0, 5, (.tmp 110))])) h [] fun x27 h pd =>
 cs 79 [x17, (.int .i64 0)] h fun x28 h =>
 rb A (mLd h x18) x19 <|
 rb A (mLd h x20) x21 <|
 rb A (mLdA 5 h x14) x26 <|
 abl 12 h pd fun h pd =>
 cs 80 [x0, x28, x25, (.int .i64 6), (.int .i64 10), (.int .i64 14), x27] h fun x29 h =>
 j7 [] h)) (pb A (vIop .eql x3 (.int .i64 17)) fun x12 =>
 jn (fun vs h => 
 j6 [] h) fun j7 =>
 ic A x12 (pb A (mLdA 5 h x2) fun x13 =>
 pb A (vFa 1 x2) fun x14 =>
 pb A (mLd h x14) fun x15 =>
 pb A (vSadd x15 (.string ⟨#[120]⟩)) fun x16 =>
 cs 79 [x13, (.int .i64 0)] h fun x17 h =>
 rb A (mLd h x14) x15 <|
 cs 80 [x0, x17, x16, (.int .i64 7), (.int .i64 11), (.int .i64 15), (.slice none 0 0)] h fun x18 h =>
 j7 [] h) (pb A (vIop .eql x3 (.int .i64 18)) fun x13 =>
 jn (fun vs h => 
 j7 [] h) fun j8 =>
 ic A x13 (pb A (mLdA 5 h x2) fun x14 =>
 pb A (vFa 1 x2) fun x15 =>
 pb A (mLd h x15) fun x16 =>
 pb A (vSadd (.string ⟨#[120]⟩) x16) fun x17 =>
 cs 79 [x14, (.int .i64 0)] h fun x18 h =>
 rb A (mLd h x15) x16 <|
 cs 80 [x0, x18, x17, (.int .i64 7), (.int .i64 11), (.int .i64 15), (.slice none 0 0)] h fun x19 h =>
 j8 [] h) (pb A (vIop .eql x3 (.int .i64 8)) fun x14 =>
 jn (fun vs h => 
 j8 [] h) fun j9 =>
 ic A x14 (pb A (mLdA 5 h x2) fun x15 =>
 cs 79 [x15, (.int .i64 0)] h fun x16 h =>
 cs 40 [x0, x16] h fun x17 h =>
 pb A (vBld [(.int .i64 0), (.int .i64 0), (.int .i64 0), (.string ⟨#[]⟩), (.float .f64 0)] [(0, 1)] [(.int .i64 26)]) fun x18 =>
 cs 42 [x0, x18] h fun x19 h =>
 pb A (mLdA 5 h x2) fun x20 =>
 cs 79 [x20, (.int .i64 1)] h fun x21 h =>
 cs 40 [x0, x21] h fun x22 h =>
 pb A (vBld [(.int .i64 0), (.int .i64 0), (.int .i64 0), (.string ⟨#[]⟩), (.float .f64 0)] [(0, 1)] [(.int .i64 25)]) fun x23 =>
 cs 42 [x0, x23] h fun x24 h =>
 cs 82 [x0] h fun x25 h =>
 hb A (hBsl 1 1 [(.int .i64 0)] [(0, 1)] h [x19]) fun x26 h =>
 cs 81 [x0, x25, x26] h fun x27 h =>
 pb A (mLdA 5 h x2) fun x28 =>
 cs 79 [x28, (.int .i64 2)] h fun x29 h =>
 cs 40 [x0, x29] h fun x30 h =>
 cs 82 [x0] h fun x31 h =>
 hb A (hBsl 1 1 [(.int .i64 0)] [(0, 1)] h [x24]) fun x32 h =>
 cs 81 [x0, x31, x32] h fun x33 h =>
 j9 [] h) (pb A (vIop .eql x3 (.int .i64 9)) fun x15 =>
 jn (fun vs h => 
 j9 [] h) fun j10 =>
 ic A x15 (pb A (mLdA 5 h x2) fun x16 =>
 cs 83 [x0, x16, (.int .i64 27), (.float .f64 0), (.float .f64 4607182418800017408)] h fun x17 h =>
 j10 [] h) (pb A (vIop .eql x3 (.int .i64 10)) fun x16 =>
 jn (fun vs h => 
 j10 [] h) fun j11 =>
 ic A x16 (pb A (mLdA 5 h x2) fun x17 =>
 cs 83 [x0, x17, (.int .i64 26), (.float .f64 4607182418800017408), (.float .f64 0)] h fun x18 h =>
 j11 [] h) (pb A (vIop .eql x3 (.int .i64 12)) fun x17 =>
 jn (fun vs h => 
 j11 [] h) fun j12 =>
 ic A x17 (pb A (mLdA 5 h x2) fun x18 =>
 cs 79 [x18, (.int .i64 0)] h fun x19 h =>
 cs 40 [x0, x19] h fun x20 h =>
 pb A (mLdA 5 h x2) fun x21 =>
 cs 79 [x21, (.int .i64 1)] h fun x22 h =>
 cs 84 [x0, x22] h fun x23 h =>
 pb A (mF 1 h x2) fun x24 =>
 pb A (vBld [(.int .i64 0), (.int .i64 0), (.int .i64 0), (.string ⟨#[]⟩), (.float .f64 0)] [(0, 1), (3, 1)] [(.int .i64 23), x24]) fun x25 =>
 cs 42 [x0, x25] h fun x26 h =>
 j12 [] h) (pb A (vIop .eql x3 (.int .i64 13)) fun x18 =>
 jn (fun vs h => 
 j12 [] h) fun j13 =>
 ic A x18 (pb A (mF 3 h x2) fun x19 =>
 cs 85 [x0, x19] h fun x20 h =>
 pb A (mF 1 h x2) fun x21 =>
 pb A (vBld [(.int .i64 0), (.int .i64 0), (.int .i64 0), (.string ⟨#[]⟩), (.float .f64 0)] [(0, 1), (3, 1)] [(.int .i64 22), x21]) fun x22 =>
 cs 42 [x0, x22] h fun x23 h =>
 j13 [] h) (pb A (vIop .eql x3 (.int .i64 14)) fun x19 =>
 jn (fun vs h => 
 j13 [] h) fun j14 =>
 ic A x19 (pb A (mF 3 h x2) fun x20 =>
 cs 85 [x0, x20] h fun x21 h =>
 pb A (vBld [(.int .i64 0), (.int .i64 0), (.int .i64 0), (.string ⟨#[]⟩), (.float .f64 0)] [(0, 1)] [(.int .i64 21)]) fun x22 =>
 cs 42 [x0, x22] h fun x23 h =>
 j14 [] h) (pb A (vIop .eql x3 (.int .i64 15)) fun x20 =>
 jn (fun vs h => 
 j14 [] h) fun j15 =>
 ic A x20 (pb A (mF 3 h x2) fun x21 =>
 cs 85 [x0, x21] h fun x22 h =>
 pb A (mF 1 h x2) fun x23 =>
 pb A (vBld [(.int .i64 0), (.int .i64 0), (.int .i64 0), (.string ⟨#[]⟩), (.float .f64 0)] [(0, 1), (3, 1)] [(.int .i64 20), x23]) fun x24 =>
 cs 42 [x0, x24] h fun x25 h =>
 j15 [] h) (pb A (vIop .eql x3 (.int .i64 16)) fun x21 =>
 jn (fun vs h => 
 j15 [] h) fun j16 =>
 ic A x21 (pb A (mF 3 h x2) fun x22 =>
 cs 85 [x0, x22] h fun x23 h =>
 pb A (mF 1 h x2) fun x24 =>
 pb A (vBld [(.int .i64 0), (.int .i64 0), (.int .i64 0), (.string ⟨#[]⟩), (.float .f64 0)] [(0, 1), (3, 1)] [(.int .i64 24), x24]) fun x25 =>
 cs 42 [x0, x25] h fun x26 h =>
 j16 [] h) (pb A (vIop .eql x3 (.int .i64 19)) fun x22 =>
 jn (fun vs h => 
 j16 [] h) fun j17 =>
 ic A x22 (pb A (mLdA 5 h x2) fun x23 =>
 cs 86 [x0, x23] h fun x24 h =>
 j17 [] h) (pb A (vIop .eql x3 (.int .i64 20)) fun x23 =>
 jn (fun vs h => 
 j17 [] h) fun j18 =>
 ic A x23 (pb A (mLdA 5 h x2) fun x24 =>
 cs 87 [x0, x24] h fun x25 h =>
 j18 [] h) (j18 [] h)))))))))))))))) fun j4 =>
 ic A x8 (j4 [x8] h) (pb A (vIop .eql x3 (.int .i64 11)) fun x9 =>
 j4 [x9] h)))))
theorem r40 : RowS Tryz.prog 22 40 d40 := rowS Tryz.func40 (by kernel_rfl) true [q6, q54] (fun R A cs csd lo => by kernel_rfl)
/-- (*tailrace/code.writer).stmt -/
noncomputable def d41 : FnT := fun R A cs csd lo vs h K => p2 A vs fun x0 x1 =>
 hb A (hBox h x1) fun x2 h =>
 pb A (mF 0 h x2) fun x3 =>
 pb A (vIop .eql x3 (.int .i64 30)) fun x4 =>
 jn (fun vs h => 
 K (.tuple #[]) h) fun j0 =>
 ic A x4 (pb A (mF 3 h x2) fun x5 =>
 pb A (vLenS x5) fun x6 =>
 jn (fun vs h => p1 A vs fun x7 =>
 j0 [] h) fun j1 =>
 lo (fun r2 vs h => p1 A vs fun x7 =>
 pb A (vIop .lss x7 x6) fun x8 =>
 ic A x8 (pb A (mIA 5 5 0 h x5 x7) fun x9 =>
 hb A (hIni 5 h x9) fun x10 h =>
 pb A (mLdA 5 h x10) fun x11 =>
 cs 41 [x0, x11] h fun x12 h =>
 pb A (vIop .add x7 (.int .i64 1)) fun x13 =>
 r2 [x13] h) (j1 [x7] h)) [(.int .i64 0)] h) (pb A (vIop .eql x3 (.int .i64 31)) fun x5 =>
 jn (fun vs h => 
 j0 [] h) fun j1 =>
 ic A x5 (pb A (mLdA 5 h x2) fun x6 =>
 cs 79 [x6, (.int .i64 0)] h fun x7 h =>
 cs 40 [x0, x7] h fun x8 h =>
 pb A (vBld [(.int .i64 0), (.int .i64 0), (.int .i64 0), (.string ⟨#[]⟩), (.float .f64 0)] [(0, 1)] [(.int .i64 26)]) fun x9 =>
 cs 42 [x0, x9] h fun x10 h =>
 pb A (mLdA 5 h x2) fun x11 =>
 cs 79 [x11, (.int .i64 1)] h fun x12 h =>
 cs 41 [x0, x12] h fun x13 h =>
 pb A (mF 3 h x2) fun x14 =>
 pb A (vLenS x14) fun x15 =>
 pb A (vIop .gtr x15 (.int .i64 2)) fun x16 =>
 jn (fun vs h => p1 A vs fun x17 =>
 cs 82 [x0] h fun x18 h =>
 hb A (hBsl 1 1 [(.int .i64 0)] [(0, 1)] h [x17]) fun x19 h =>
 cs 81 [x0, x18, x19] h fun x20 h =>
 j1 [] h) fun j2 =>
 ic A x16 (pb A (vBld [(.int .i64 0), (.int .i64 0), (.int .i64 0), (.string ⟨#[]⟩), (.float .f64 0)] [(0, 1)] [(.int .i64 25)]) fun x17 =>
 cs 42 [x0, x17] h fun x18 h =>
 cs 82 [x0] h fun x19 h =>
 hb A (hBsl 1 1 [(.int .i64 0)] [(0, 1)] h [x10]) fun x20 h =>
 cs 81 [x0, x19, x20] h fun x21 h =>
 pb A (mF 3 h x2) fun x22 =>
 pb A (mIA 5 5 0 h x22 (.int .i64 2)) fun x23 =>
 cs 41 [x0, x23] h fun x24 h =>
 j2 [x18] h) (j2 [x10] h)) (pb A (vIop .eql x3 (.int .i64 32)) fun x6 =>
 jn (fun vs h => p1 A vs fun x7 =>
 jn (fun vs h => 
 j1 [] h) fun j2 =>
 ic A x7 (pb A (mLdA 5 h x2) fun x8 =>
 cs 88 [x0, x8] h fun x9 h =>
 j2 [] h) (pb A (vIop .eql x3 (.int .i64 35)) fun x8 =>
 jn (fun vs h => 
 j2 [] h) fun j3 =>
 ic A x8 (pb A (mLdA 5 h x2) fun x9 =>
 cs 89 [x0, x9] h fun x10 h =>
 j3 [] h) (pb A (vIop .eql x3 (.int .i64 36)) fun x9 =>
 jn (fun vs h => p1 A vs fun x10 =>
 jn (fun vs h => 
 j3 [] h) fun j4 =>
 ic A x10 (pb A (vBld [(.int .i64 0), (.int .i64 0), (.int .i64 0), (.string ⟨#[]⟩), (.float .f64 0)] [(0, 1)] [(.int .i64 25)]) fun x11 =>
 cs 42 [x0, x11] h fun x12 h =>
 pb A (mF 7 h x0) fun x13 =>
 pb A (vLenS x13) fun x14 =>
 pb A (vIop .eql x14 (.int .i64 0)) fun x15 =>
 ic A x15 (K (.tuple #[]) h) (pb A (mF 7 h x0) fun x16 =>
 pb A (mF 7 h x0) fun x17 =>
 pb A (vLenS x17) fun x18 =>
 pb A (vIop .sub x18 (.int .i64 1)) fun x19 =>
 pb A (mI 1 0 h x16 x19) fun x20 =>
 pb A (mF 0 h x2) fun x21 =>
 pb A (vIop .eql x21 (.int .i64 36)) fun x22 =>
 jn (fun vs h => 
 j4 [] h) fun j5 =>
 ic A x22 (pb A (mF 0 h x20) fun x23 =>
 hb A (hBsl 1 1 [(.int .i64 0)] [(0, 1)] h [x12]) fun x24 h =>
 hb A (hApp 1 8 h x23 x24) fun x25 h =>
 wb A (hF 0 h x20 x25) fun h =>
 j5 [] h) (pb A (mF 1 h x20) fun x23 =>
 hb A (hBsl 1 1 [(.int .i64 0)] [(0, 1)] h [x12]) fun x24 h =>
 hb A (hApp 1 8 h x23 x24) fun x25 h =>
 wb A (hF 1 h x20 x25) fun h =>
 j5 [] h))) (pb A (vIop .eql x3 (.int .i64 38)) fun x11 =>
 jn (fun vs h => 
 j4 [] h) fun j5 =>
 ic A x11 (pb A (vBld [(.int .i64 0), (.int .i64 0), (.int .i64 0), (.string ⟨#[]⟩), (.float .f64 0)] [(0, 1)] [(.int .i64 43)]) fun x12 =>
 cs 42 [x0, x12] h fun x13 h =>
 j5 [] h) (pb A (vIop .eql x3 (.int .i64 39)) fun x12 =>
 jn (fun vs h => 
 j5 [] h) fun j6 =>
 ic A x12 (pb A (mF 3 h x2) fun x13 =>
 cs 85 [x0, x13] h fun x14 h =>
 pb A (mF 3 h x2) fun x15 =>
 pb A (vLenS x15) fun x16 =>
 pb A (vBld [(.int .i64 0), (.int .i64 0), (.int .i64 0), (.string ⟨#[]⟩), (.float .f64 0)] [(0, 1), (1, 1)] [(.int .i64 44), x16]) fun x17 =>
 cs 42 [x0, x17] h fun x18 h =>
 j6 [] h) (pb A (vIop .eql x3 (.int .i64 40)) fun x13 =>
 jn (fun vs h => 
 j6 [] h) fun j7 =>
 ic A x13 (pb A (mF 3 h x2) fun x14 =>
 cs 85 [x0, x14] h fun x15 h =>
 pb A (mF 3 h x2) fun x16 =>
 pb A (vLenS x16) fun x17 =>
 pb A (vIop .eql x17 (.int .i64 0)) fun x18 =>
 jn (fun vs h => 
 pb A (vBld [(.int .i64 0), (.int .i64 0), (.int .i64 0), (.string ⟨#[]⟩), (.float .f64 0)] [(0, 1)] [(.int .i64 36)]) fun x19 =>
 cs 42 [x0, x19] h fun x20 h =>
 j7 [] h) fun j8 =>
 ic A x18 (pb A (vBld [(.int .i64 0), (.int .i64 0), (.int .i64 0), (.string ⟨#[]⟩), (.float .f64 0)] [(0, 1)] [(.int .i64 3)]) fun x19 =>
 cs 42 [x0, x19] h fun x20 h =>
 j8 [] h) (j8 [] h)) (pb A (vIop .eql x3 (.int .i64 41)) fun x14 =>
 jn (fun vs h => 
 j7 [] h) fun j8 =>
 ic A x14 (pb A (mF 1 h x2) fun x15 =>
 cs 78 [x0, x15] h fun x16 h =>
 pb A (vExt 0 x16) fun x17 =>
 pb A (vExt 1 x16) fun x18 =>
 pb A (mF 3 h x2) fun x19 =>
 pb A (vLenS x19) fun x20 =>
 pb A (vIop .eql x20 (.int .i64 0)) fun x21 =>
 ic A x21 (pb A (vBld [(.int .i64 0), (.int .i64 0), (.int .i64 0), (.string ⟨#[]⟩), (.float .f64 0)] [(0, 1), (1, 1), (2, 1)] [(.int .i64 19), x17, x18]) fun x22 =>
 cs 42 [x0, x22] h fun x23 h =>
 K (.tuple #[]) h) (pb A (mF 3 h x2) fun x22 =>
 cs 77 [x0, x22] h fun x23 h =>
 pb A (vBld [(.int .i64 0), (.int .i64 0), (.int .i64 0), (.string ⟨#[]⟩), (.float .f64 0)] [(0, 1), (1, 1), (2, 1)] [(.int .i64 18), x17, x18]) fun x24 =>
 cs 42 [x0, x24] h fun x25 h =>
 j8 [] h)) (pb A (vIop .eql x3 (.int .i64 42)) fun x15 =>
 jn (fun vs h => 
 j8 [] h) fun j9 =>
 ic A x15 (pb A (mF 3 h x2) fun x16 =>
 pb A (vLenS x16) fun x17 =>
 pb A (mF 3 h x2) fun x18 =>
 cs 85 [x0, x18] h fun x19 h =>
 pb A (vIop .eql x17 (.int .i64 0)) fun x20 =>
 jn (fun vs h => p1 A vs fun x21 =>
 pb A (vBld [(.int .i64 0), (.int .i64 0), (.int .i64 0), (.string ⟨#[]⟩), (.float .f64 0)] [(0, 1), (1, 1)] [(.int .i64 41), x21]) fun x22 =>
 cs 42 [x0, x22] h fun x23 h =>
 j9 [] h) fun j10 =>
 ic A x20 (cs 75 [x0] h fun x21 h =>
 j10 [(.int .i64 1)] h) (j10 [x17] h)) (pb A (vIop .eql x3 (.int .i64 43)) fun x16 =>
 jn (fun vs h => 
 j9 [] h) fun j10 =>
 ic A x16 (pb A (mF 3 h x2) fun x17 =>
 cs 85 [x0, x17] h fun x18 h =>
 pb A (mF 3 h x2) fun x19 =>
 pb A (vLenS x19) fun x20 =>
 pb A (vBld [(.int .i64 0), (.int .i64 0), (.int .i64 0), (.string ⟨#[]⟩), (.float .f64 0)] [(0, 1), (1, 1)] [(.int .i64 42), x20]) fun x21 =>
 cs 42 [x0, x21] h fun x22 h =>
 j10 [] h) (pb A (vIop .eql x3 (.int .i64 44)) fun x17 =>
 jn (fun vs h => 
 j10 [] h) fun j11 =>
 ic A x17 (pb A (mF 3 h x2) fun x18 =>
 cs 85 [x0, x18] h fun x19 h =>
 pb A (vBld [(.int .i64 0), (.int .i64 0), (.int .i64 0), (.string ⟨#[]⟩), (.float .f64 0)] [(0, 1)] [(.int .i64 29)]) fun x20 =>
 cs 42 [x0, x20] h fun x21 h =>
 j11 [] h) (j11 [] h))))))))) fun j4 =>
 ic A x9 (j4 [x9] h) (pb A (vIop .eql x3 (.int .i64 37)) fun x10 =>
 j4 [x10] h)))) fun j2 =>
 ic A x6 (j2 [x6] h) (pb A (vIop .eql x3 (.int .i64 33)) fun x7 =>
 jn (fun vs h => p1 A vs fun x8 =>
 j2 [x8] h) fun j3 =>
 ic A x7 (j3 [x7] h) (pb A (vIop .eql x3 (.int .i64 34)) fun x8 =>
 j3 [x8] h))))
theorem r41 : RowS Tryz.prog 22 41 d41 := rowS Tryz.func41 (by kernel_rfl) true [q6, q12, q20, q67, q79] (fun R A cs csd lo => by kernel_rfl)
/-- (*tailrace/code.writer).put -/
noncomputable def d42 : FnT := fun R A cs csd lo vs h K => p2 A vs fun x0 x1 =>
 hb A (hBox h x1) fun x2 h =>
 pb A (mF 6 h x0) fun x3 =>
 pb A (mLdA 5 h x2) fun x4 =>
 hb A (hBsl 5 1 [(.int .i64 0), (.int .i64 0), (.int .i64 0), (.string ⟨#[]⟩), (.float .f64 0)] [(0, 5)] h [x4]) fun x5 h =>
 hb A (hApp 5 48 h x3 x5) fun x6 h =>
 wb A (hF 6 h x0 x6) fun h =>
 pb A (mF 6 h x0) fun x7 =>
 pb A (vLenS x7) fun x8 =>
 pb A (vIop .sub x8 (.int .i64 1)) fun x9 =>
 K x9 h
theorem r42 : RowS Tryz.prog 22 42 d42 := rowS Tryz.func42 (by kernel_rfl) true [] (fun R A cs csd lo => by kernel_rfl)
/-- (*tailrace/tailraceref16.parser).ok -/
noncomputable def d43 : FnT := fun R A cs csd lo vs h K => p1 A vs fun x0 =>
 pb A (mF 4 h x0) fun x1 =>
 pb A (vIop .eql x1 (.int .i64 0)) fun x2 =>
 K x2 h
theorem r43 : RowS Tryz.prog 22 43 d43 := rowS Tryz.func43 (by kernel_rfl) true [] (fun R A cs csd lo => by kernel_rfl)
/-- (*tailrace/tailraceref16.parser).lines -/
noncomputable def d44 : FnT := fun R A cs csd lo vs h K => p2 A vs fun x0 x1 =>
 jn (fun vs h => 
 K (.tuple #[]) h) fun j0 =>
 lo (fun r1 vs h => 
 cs 43 [x0] h fun x2 h =>
 ic A x2 (pb A (mF 1 h x0) fun x3 =>
 cs 90 [x0, x3] h fun x4 h =>
 pb A (vExt 0 x4) fun x5 =>
 pb A (vExt 1 x4) fun x6 =>
 hb A (hIni 5 h x5) fun x7 h =>
 pb A (vNot x6) fun x8 =>
 gp A x8 false (mF 0 h x7) fun x9 =>
 gp A x8 false (vIop .neq x9 (.int .i64 1)) fun x10 =>
 gp A x8 false (some x10) fun x11 =>
 gp A x11 true (some x1) fun x12 =>
 gp A x11 true (vSne x12 (.string ⟨#[]⟩)) fun x13 =>
 gp A x11 true (some x13) fun x14 =>
 gp A x14 true (mF 0 h x7) fun x15 =>
 gp A x14 true (vIop .eql x15 (.int .i64 9)) fun x16 =>
 gp A x11 true (vPick x14 x16 (.bool false)) fun x17 =>
 gp A x11 true (some x17) fun x18 =>
 gp A x18 true (mF 1 h x7) fun x19 =>
 gp A x18 true (some x1) fun x20 =>
 gp A x18 true (vSeq x19 x20) fun x21 =>
 gp A x11 true (vPick x18 x21 (.bool false)) fun x22 =>
 gp A x11 true (vNot x22) fun x23 =>
 gp A x8 false (vPick x11 x23 (.bool false)) fun x24 =>
 pb A (vPick x8 (.bool true) x24) fun x25 =>
 ic A x25 (K (.tuple #[]) h) (pb A (mF 4 h x7) fun x26 =>
 wb A (hF 1 h x0 x26) fun h =>
 r1 [] h)) (j0 [] h)) [] h
theorem r44 : RowS Tryz.prog 22 44 d44 := rowS Tryz.func44 (by kernel_rfl) true [] (fun R A cs csd lo => by kernel_rfl)
/-- (*tailrace/tailraceref16.parser).see -/
noncomputable def d45 : FnT := fun R A cs csd lo vs h K => p2 A vs fun x0 x1 =>
 hb A (some (hNew h [(.int .i64 0), (.string ⟨#[]⟩), (.float .f64 0), (.int .i64 0), (.int .i64 0)])) fun x2 h =>
 pb A (mF 0 h x0) fun x3 =>
 pb A (mF 1 h x0) fun x4 =>
 alc A 13 (allocOf (opdT 22 [] []) (.new [(.int .i64 0), (.string ⟨#[]⟩), (.float .f64 0), (.int .i64 0), (.int .i64 0)])) h [] fun x5 h pd =>
 cs 91 [x3, x4, x1] h fun x6 h =>
 pb A (vExt 0 x6) fun x7 =>
 pb A (vExt 1 x6) fun x8 =>
 abl 13 h pd fun h pd =>
 wb A (hSt 5 h x5 x7) fun h =>
 pb A (vIop .neq x8 (.int .i64 0)) fun x9 =>
 jn (fun vs h => 
 pb A (mLdA 5 h x5) fun x10 =>
 wb A (hSt 5 h x2 x10) fun h =>
 pb A (mLdA 5 h x2) fun x11 =>
 K x11 h) fun j0 =>
 ic A x9 (pb A (mF 3 h x5) fun x10 =>
 cs 92 [x0, x8, x10] h fun x11 h =>
 j0 [] h) (j0 [] h)
theorem r45 : RowS Tryz.prog 22 45 d45 := rowS Tryz.func45 (by kernel_rfl) true [] (fun R A cs csd lo => by kernel_rfl)
/-- (*tailrace/tailraceref16.parser).item -/
noncomputable def d46 : FnT := fun R A cs csd lo vs h K => p2 A vs fun x0 x1 =>
 cs 93 [x0, (.string ⟨#[102, 117, 110, 99, 116, 105, 111, 110]⟩)] h fun x2 h =>
 ic A x2 (cs 94 [x0] h fun x3 h =>
 hb A (hIni 8 h x3) fun x4 h =>
 pb A (mF 1 h x1) fun x5 =>
 pb A (mLdA 8 h x4) fun x6 =>
 hb A (hBsl 8 1 [(.string ⟨#[]⟩), (.slice none 0 0), (.int .i64 0), (.string ⟨#[]⟩), (.float .f64 0), (.slice none 0 0), (.complex .f64 0 0), (.complex .f64 0 0)] [(0, 8)] h [x6]) fun x7 h =>
 hb A (hApp 8 128 h x5 x7) fun x8 h =>
 wb A (hF 1 h x1 x8) fun h =>
 K (.tuple #[]) h) (cs 95 [x0] h fun x3 h =>
 pb A (vExt 0 x3) fun x4 =>
 pb A (vExt 1 x3) fun x5 =>
 hb A (hIni 9 h x4) fun x6 h =>
 pb A (mF 0 h x1) fun x7 =>
 pb A (mLdA 9 h x6) fun x8 =>
 hb A (hBsl 9 1 [(.int .i64 0), (.int .i64 0), (.slice none 0 0), (.int .i64 0), (.string ⟨#[]⟩), (.float .f64 0), (.slice none 0 0), (.complex .f64 0 0), (.complex .f64 0 0)] [(0, 9)] h [x8]) fun x9 h =>
 hb A (hApp 9 128 h x7 x9) fun x10 h =>
 wb A (hF 0 h x1 x10) fun h =>
 cs 43 [x0] h fun x11 h =>
 pb A (vNot x11) fun x12 =>
 gp A x12 false (some x5) fun x13 =>
 pb A (vPick x12 (.bool true) x13) fun x14 =>
 ic A x14 (K (.tuple #[]) h) (cs 45 [x0, (.bool false)] h fun x15 h =>
 hb A (hIni 5 h x15) fun x16 h =>
 cs 43 [x0] h fun x17 h =>
 gp A x17 true (mF 0 h x16) fun x18 =>
 gp A x17 true (vIop .neq x18 (.int .i64 1)) fun x19 =>
 pb A (vPick x17 x19 (.bool false)) fun x20 =>
 gp A x20 true (mF 0 h x16) fun x21 =>
 gp A x20 true (vIop .neq x21 (.int .i64 0)) fun x22 =>
 pb A (vPick x20 x22 (.bool false)) fun x23 =>
 gp A x23 true (mF 0 h x16) fun x24 =>
 gp A x23 true (vIop .eql x24 (.int .i64 9)) fun x25 =>
 gp A x23 true (some x25) fun x26 =>
 gp A x26 true (mF 1 h x16) fun x27 =>
 gp A x26 true (vSeq x27 (.string ⟨#[59]⟩)) fun x28 =>
 gp A x23 true (vPick x26 x28 (.bool false)) fun x29 =>
 gp A x23 true (vNot x29) fun x30 =>
 pb A (vPick x23 x30 (.bool false)) fun x31 =>
 jn (fun vs h => 
 K (.tuple #[]) h) fun j0 =>
 ic A x31 (pb A (mLdA 5 h x16) fun x32 =>
 cs 96 [x0, x32] h fun x33 h =>
 j0 [] h) (j0 [] h)))
theorem r46 : RowS Tryz.prog 22 46 d46 := rowS Tryz.func46 (by kernel_rfl) true [] (fun R A cs csd lo => by kernel_rfl)
/-- (*tailrace/names.checker).heads -/
noncomputable def d57 : FnT := fun R A cs csd lo vs h K => p1 A vs fun x0 =>
 pb A (vNil x0) fun x1 =>
 pb A (vFa 0 x1) fun x2 =>
 pb A (mF 1 h x2) fun x3 =>
 pb A (vLenS x3) fun x4 =>
 jn (fun vs h => p1 A vs fun x5 =>
 pb A (vNil x0) fun x6 =>
 pb A (vFa 0 x6) fun x7 =>
 pb A (mF 1 h x7) fun x8 =>
 pb A (vLenS x8) fun x9 =>
 jn (fun vs h => p1 A vs fun x10 =>
 K (.tuple #[]) h) fun j0 =>
 lo (fun r1 vs h => p1 A vs fun x10 =>
 pb A (vIop .lss x10 x9) fun x11 =>
 ic A x11 (pb A (mIA 8 8 0 h x8 x10) fun x12 =>
 hb A (some (hNew h [(.string ⟨#[]⟩), (.slice none 0 0), (.int .i64 0), (.string ⟨#[]⟩), (.float .f64 0), (.slice none 0 0), (.complex .f64 0 0), (.complex .f64 0 0)])) fun x13 h =>
 wb A (hSt 8 h x13 x12) fun h =>
 pb A (mF 2 h x0) fun x14 =>
 pb A (mF 0 h x13) fun x15 =>
 pb A (mAny Tryz.prog 22 (.lookup 9 (.int .i64 0) (.tmp 59) (.tmp 61) false) [59, 61] h [x14, x15]) fun x16 =>
 pb A (vIop .add x10 (.int .i64 1)) fun x17 =>
 pb A (vIop .neq x16 x17) fun x18 =>
 jn (fun vs h => 
 pb A (mF 1 h x13) fun x19 =>
 pb A (vLenS x19) fun x20 =>
 jn (fun vs h => p1 A vs fun x21 =>
 pb A (vIop .add x10 (.int .i64 1)) fun x22 =>
 r1 [x22] h) fun j2 =>
 lo (fun r3 vs h => p1 A vs fun x21 =>
 pb A (vIop .lss x21 x20) fun x22 =>
 ic A x22 (pb A (mI 1 0 h x19 x21) fun x23 =>
 pb A (mF 1 h x13) fun x24 =>
 pb A (vSub 1 x24 none (some x21)) fun x25 =>
 pb A (vLenS x25) fun x26 =>
 jn (fun vs h => p1 A vs fun x27 =>
 cs 118 [x23] h fun x28 h =>
 gp A x28 false (some x0) fun x29 =>
 gp A x28 false (mF 2 h x29) fun x30 =>
 gp A x28 false (some x23) fun x31 =>
 gp A x28 false (mAny Tryz.prog 22 (.lookup 9 (.int .i64 0) (.tmp 109) (.tmp 110) false) [109, 110] h [x30, x31]) fun x32 =>
 gp A x28 false (vIop .gtr x32 (.int .i64 0)) fun x33 =>
 pb A (vPick x28 (.bool true) x33) fun x34 =>
 jn (fun vs h => 
 pb A (mF 8 h x0) fun x35 =>
 pb A (vIop .add x10 (.int .i64 1)) fun x36 =>
 pb A (vBld [(.int .i64 0), (.string ⟨#[]⟩)] [(0, 1), (1, 1)] [x36, x23]) fun x37 =>
 pb A (vBld [] [] []) fun x38 =>
 hb A (hAny Tryz.prog 22 (.mapUpdate 180 (.tmp 121) (.tmp 125) (.tmp 126)) [121, 125, 126] h [x35, x37, x38]) fun x39 h =>
 pb A (vIop .add x21 (.int .i64 1)) fun x40 =>
 r3 [x40] h) fun j4 =>
 ic A x34 (pb A (mF 7 h x13) fun x35 =>
 cs 117 [x0, x35, (.int .i64 28)] h fun x36 h =>
 j4 [] h) (j4 [] h)) fun j4 =>
 lo (fun r5 vs h => p1 A vs fun x27 =>
 pb A (vIop .lss x27 x26) fun x28 =>
 ic A x28 (pb A (mI 1 0 h x25 x27) fun x29 =>
 pb A (vSeq x29 x23) fun x30 =>
 jn (fun vs h => 
 pb A (vIop .add x27 (.int .i64 1)) fun x31 =>
 r5 [x31] h) fun j6 =>
 ic A x30 (pb A (mF 7 h x13) fun x31 =>
 cs 117 [x0, x31, (.int .i64 29)] h fun x32 h =>
 j6 [] h) (j6 [] h)) (j4 [x27] h)) [(.int .i64 0)] h) (j2 [x21] h)) [(.int .i64 0)] h) fun j2 =>
 ic A x18 (pb A (mF 7 h x13) fun x19 =>
 cs 117 [x0, x19, (.int .i64 29)] h fun x20 h =>
 j2 [] h) (pb A (mF 0 h x13) fun x19 =>
 cs 118 [x19] h fun x20 h =>
 jn (fun vs h => 
 j2 [] h) fun j3 =>
 ic A x20 (pb A (mF 7 h x13) fun x21 =>
 cs 117 [x0, x21, (.int .i64 28)] h fun x22 h =>
 j3 [] h) (j3 [] h))) (j0 [x10] h)) [(.int .i64 0)] h) fun j0 =>
 lo (fun r1 vs h => p1 A vs fun x5 =>
 pb A (vIop .lss x5 x4) fun x6 =>
 ic A x6 (pb A (mIA 8 8 0 h x3 x5) fun x7 =>
 hb A (some (hNew h [(.string ⟨#[]⟩), (.slice none 0 0), (.int .i64 0), (.string ⟨#[]⟩), (.float .f64 0), (.slice none 0 0), (.complex .f64 0 0), (.complex .f64 0 0)])) fun x8 h =>
 wb A (hSt 8 h x8 x7) fun h =>
 pb A (mF 2 h x0) fun x9 =>
 pb A (mF 0 h x8) fun x10 =>
 pb A (mAny Tryz.prog 22 (.lookup 9 (.int .i64 0) (.tmp 27) (.tmp 29) true) [27, 29] h [x9, x10]) fun x11 =>
 pb A (vExt 0 x11) fun x12 =>
 pb A (vExt 1 x11) fun x13 =>
 pb A (vNot x13) fun x14 =>
 jn (fun vs h => 
 pb A (vIop .add x5 (.int .i64 1)) fun x15 =>
 r1 [x15] h) fun j2 =>
 ic A x14 (pb A (mF 2 h x0) fun x15 =>
 pb A (mF 0 h x8) fun x16 =>
 pb A (vIop .add x5 (.int .i64 1)) fun x17 =>
 hb A (hAny Tryz.prog 22 (.mapUpdate 9 (.tmp 38) (.tmp 40) (.tmp 42)) [38, 40, 42] h [x15, x16, x17]) fun x18 h =>
 j2 [] h) (j2 [] h)) (j0 [x5] h)) [(.int .i64 0)] h
theorem r57 : RowS Tryz.prog 22 57 d57 := rowS Tryz.func57 (by kernel_rfl) true [q18, q50, q81, q91] (fun R A cs csd lo => by kernel_rfl)
/-- (*tailrace/names.checker).all -/
noncomputable def d58 : FnT := fun R A cs csd lo vs h K => p1 A vs fun x0 =>
 pb A (vNil x0) fun x1 =>
 pb A (vFa 0 x1) fun x2 =>
 pb A (mF 0 h x2) fun x3 =>
 pb A (vLenS x3) fun x4 =>
 jn (fun vs h => p1 A vs fun x5 =>
 pb A (vNil x0) fun x6 =>
 pb A (vFa 0 x6) fun x7 =>
 pb A (mF 1 h x7) fun x8 =>
 pb A (vLenS x8) fun x9 =>
 jn (fun vs h => p1 A vs fun x10 =>
 K (.tuple #[]) h) fun j0 =>
 lo (fun r1 vs h => p1 A vs fun x10 =>
 pb A (vIop .lss x10 x9) fun x11 =>
 ic A x11 (pb A (mIA 8 8 0 h x8 x10) fun x12 =>
 hb A (some (hNew h [(.string ⟨#[]⟩), (.slice none 0 0), (.int .i64 0), (.string ⟨#[]⟩), (.float .f64 0), (.slice none 0 0), (.complex .f64 0 0), (.complex .f64 0 0)])) fun x13 h =>
 wb A (hSt 8 h x13 x12) fun h =>
 pb A (vIop .add x10 (.int .i64 1)) fun x14 =>
 wb A (hF 3 h x0 x14) fun h =>
 wb A (hF 5 h x0 (.int .i64 0)) fun h =>
 pb A (mFA 5 2 h x13) fun x15 =>
 cs 119 [x0, x15] h fun x16 h =>
 pb A (vIop .add x10 (.int .i64 1)) fun x17 =>
 r1 [x17] h) (j0 [x10] h)) [(.int .i64 0)] h) fun j0 =>
 lo (fun r1 vs h => p1 A vs fun x5 =>
 pb A (vIop .lss x5 x4) fun x6 =>
 ic A x6 (pb A (mIA 9 9 0 h x3 x5) fun x7 =>
 hb A (hIni 9 h x7) fun x8 h =>
 pb A (mF 0 h x8) fun x9 =>
 wb A (hF 4 h x0 x9) fun h =>
 wb A (hF 5 h x0 (.int .i64 0)) fun h =>
 pb A (mF 2 h x8) fun x10 =>
 pb A (vLenS x10) fun x11 =>
 jn (fun vs h => p1 A vs fun x12 =>
 pb A (mFA 5 3 h x8) fun x13 =>
 cs 119 [x0, x13] h fun x14 h =>
 pb A (vIop .add x5 (.int .i64 1)) fun x15 =>
 r1 [x15] h) fun j2 =>
 lo (fun r3 vs h => p1 A vs fun x12 =>
 pb A (vIop .lss x12 x11) fun x13 =>
 ic A x13 (pb A (mIA 5 5 0 h x10 x12) fun x14 =>
 hb A (hIni 5 h x14) fun x15 h =>
 pb A (mLdA 5 h x15) fun x16 =>
 cs 119 [x0, x16] h fun x17 h =>
 pb A (vIop .add x12 (.int .i64 1)) fun x18 =>
 r3 [x18] h) (j2 [x12] h)) [(.int .i64 0)] h) (j0 [x5] h)) [(.int .i64 0)] h
theorem r58 : RowS Tryz.prog 22 58 d58 := rowS Tryz.func58 (by kernel_rfl) true [q14, q29, q48] (fun R A cs csd lo => by kernel_rfl)
/-- (*tailrace/names.checker).arrays -/
noncomputable def d59 : FnT := fun R A cs csd lo vs h K => p1 A vs fun x0 =>
 cs 120 [x0] h fun x1 h =>
 pb A (mF 6 h x0) fun x2 =>
 pb A (vLenS x2) fun x3 =>
 jn (fun vs h => p1 A vs fun x4 =>
 K (.tuple #[]) h) fun j0 =>
 lo (fun r1 vs h => p1 A vs fun x4 =>
 pb A (vIop .lss x4 x3) fun x5 =>
 ic A x5 (pb A (mIA 8 8 0 h x2 x4) fun x6 =>
 hb A (hIni 8 h x6) fun x7 h =>
 pb A (mF 7 h x7) fun x8 =>
 jn (fun vs h => p1 A vs fun x9 =>
 jn (fun vs h => 
 pb A (vIop .add x4 (.int .i64 1)) fun x10 =>
 r1 [x10] h) fun j2 =>
 ic A x9 (pb A (mF 0 h x7) fun x10 =>
 cs 117 [x0, x10, (.int .i64 30)] h fun x11 h =>
 j2 [] h) (j2 [] h)) fun j2 =>
 ic A x8 (j2 [x8] h) (pb A (mF 6 h x7) fun x9 =>
 gp A x9 true (some x1) fun x10 =>
 gp A x9 true (some x0) fun x11 =>
 gp A x9 true (mFA 2 4 h x7) fun x12 =>
 gc A x9 true h (cs 121 [x11, x12] h) fun x13 h =>
 gp A x9 true (mAny Tryz.prog 22 (.lookup 180 (.int .i64 0) (.tmp 22) (.tmp 26) false) [22, 26] h [x10, x13]) fun x14 =>
 gp A x9 true (vIop .eql x14 (.int .i64 2)) fun x15 =>
 pb A (vPick x9 x15 (.bool false)) fun x16 =>
 jn (fun vs h => p1 A vs fun x17 =>
 j2 [x17] h) fun j3 =>
 ic A x16 (j3 [x16] h) (pb A (vFa 7 x7) fun x17 =>
 pb A (mLd h x17) fun x18 =>
 pb A (vNot x18) fun x19 =>
 gp A x19 true (vFa 6 x7) fun x20 =>
 gp A x19 true (mLd h x20) fun x21 =>
 gp A x19 true (vNot x21) fun x22 =>
 pb A (vPick x19 x22 (.bool false)) fun x23 =>
 gp A x23 true (some x1) fun x24 =>
 gp A x23 true (some x0) fun x25 =>
 gp A x23 true (vFa 1 x7) fun x26 =>
 gp A x23 true (mLdA 2 h x26) fun x27 =>
 gp A x23 true (vFa 3 x7) fun x28 =>
 gp A x23 true (mLd h x28) fun x29 =>
 gc A x23 true h (cs 121 [x25, x27] h) fun x30 h =>
 gp A x23 true (mAny Tryz.prog 22 (.lookup 180 (.int .i64 0) (.tmp 39) (.tmp 43) false) [39, 43] h [x24, x30]) fun x31 =>
 gp A x23 true (vIop .eql x31 (.int .i64 2)) fun x32 =>
 gp A x23 true (vAny Tryz.prog 22 (.scal ⟨none, (.binOp .neq 4 (.tmp 45) (.tmp 47) 4), 4, "", #[], none⟩) [45, 47] [x32, x29]) fun x33 =>
 pb A (vPick x23 x33 (.bool false)) fun x34 =>
 gr A x23 true (mLd h x28) x29 <|
 j3 [x34] h))) (j0 [x4] h)) [(.int .i64 0)] h
theorem r59 : RowS Tryz.prog 22 59 d59 := rowS Tryz.func59 (by kernel_rfl) true [q12, q16] (fun R A cs csd lo => by kernel_rfl)
/-- (*tailrace/names.checker).info -/
noncomputable def d60 : FnT := fun R A cs csd lo vs h K => p1 A vs fun x0 =>
 hb A (some (hNew h [(.slice none 0 0), (.slice none 0 0), (.slice none 0 0)])) fun x1 h =>
 cs 120 [x0] h fun x2 h =>
 hb A (some (hNew h [(.slice none 0 0), (.slice none 0 0), (.slice none 0 0)])) fun x3 h =>
 pb A (mF 8 h x0) fun x4 =>
 hb A (hAny Tryz.prog 22 (.range (.tmp 16)) [16] h [x4]) fun x5 h =>
 jn (fun vs h => 
 pb A (mF 0 h x3) fun x6 =>
 cs 122 [x6] h fun x7 h =>
 pb A (mF 1 h x3) fun x8 =>
 cs 122 [x8] h fun x9 h =>
 pb A (vNil x0) fun x10 =>
 pb A (vFa 0 x10) fun x11 =>
 pb A (mF 1 h x11) fun x12 =>
 pb A (vLenS x12) fun x13 =>
 jn (fun vs h => p1 A vs fun x14 =>
 pb A (mLdA 3 h x3) fun x15 =>
 wb A (hSt 3 h x1 x15) fun h =>
 pb A (mLdA 3 h x1) fun x16 =>
 K x16 h) fun j0 =>
 lo (fun r1 vs h => p1 A vs fun x14 =>
 pb A (vIop .lss x14 x13) fun x15 =>
 ic A x15 (pb A (mIA 8 8 0 h x12 x14) fun x16 =>
 hb A (some (hNew h [(.string ⟨#[]⟩), (.slice none 0 0), (.int .i64 0), (.string ⟨#[]⟩), (.float .f64 0), (.slice none 0 0), (.complex .f64 0 0), (.complex .f64 0 0)])) fun x17 h =>
 wb A (hSt 8 h x17 x16) fun h =>
 pb A (mF 1 h x17) fun x18 =>
 pb A (vLenS x18) fun x19 =>
 jn (fun vs h => p2 A vs fun x20 x21 =>
 pb A (mF 2 h x3) fun x22 =>
 hb A (hBsl 1 1 [(.slice none 0 0)] [(0, 1)] h [x20]) fun x23 h =>
 hb A (hApp 1 24 h x22 x23) fun x24 h =>
 wb A (hF 2 h x3 x24) fun h =>
 pb A (vIop .add x14 (.int .i64 1)) fun x25 =>
 r1 [x25] h) fun j2 =>
 lo (fun r3 vs h => p2 A vs fun x20 x21 =>
 pb A (vIop .lss x21 x19) fun x22 =>
 ic A x22 (pb A (mI 1 0 h x18 x21) fun x23 =>
 pb A (vIop .add x14 (.int .i64 1)) fun x24 =>
 pb A (vBld [(.int .i64 0), (.string ⟨#[]⟩)] [(0, 1), (1, 1)] [x24, x23]) fun x25 =>
 cs 121 [x0, x25] h fun x26 h =>
 pb A (mAny Tryz.prog 22 (.lookup 180 (.int .i64 0) (.tmp 77) (.tmp 83) false) [77, 83] h [x2, x26]) fun x27 =>
 pb A (vIop .eql x27 (.int .i64 2)) fun x28 =>
 hb A (hBsl 1 1 [(.bool false)] [(0, 1)] h [x28]) fun x29 h =>
 hb A (hApp 1 1 h x20 x29) fun x30 h =>
 pb A (vIop .add x21 (.int .i64 1)) fun x31 =>
 r3 [x30, x31] h) (j2 [x20, x21] h)) [(.slice none 0 0), (.int .i64 0)] h) (j0 [x14] h)) [(.int .i64 0)] h) fun j0 =>
 lo (fun r1 vs h => 
 nb A h x5 fun x6 h =>
 pb A (vExt 0 x6) fun x7 =>
 ic A x7 (pb A (mAny Tryz.prog 22 (.entry (.tmp 17)) [17] h [x5]) fun x8 =>
 pb A (vExt 0 x8) fun x9 =>
 hb A (hIni 2 h x9) fun x10 h =>
 pb A (mF 0 h x10) fun x11 =>
 pb A (vIop .gtr x11 (.int .i64 0)) fun x12 =>
 gp A x12 false (mF 1 h x10) fun x13 =>
 gc A x12 false h (cs 118 [x13] h) fun x14 h =>
 pb A (vPick x12 (.bool true) x14) fun x15 =>
 jn (fun vs h => 
 r1 [] h) fun j2 =>
 ic A x15 (j2 [] h) (pb A (mLdA 2 h x10) fun x16 =>
 cs 121 [x0, x16] h fun x17 h =>
 pb A (mAny Tryz.prog 22 (.lookup 180 (.int .i64 0) (.tmp 39) (.tmp 42) false) [39, 42] h [x2, x17]) fun x18 =>
 pb A (vIop .eql x18 (.int .i64 2)) fun x19 =>
 jn (fun vs h => 
 j2 [] h) fun j3 =>
 ic A x19 (pb A (mF 1 h x3) fun x20 =>
 pb A (mF 1 h x10) fun x21 =>
 hb A (hBsl 1 1 [(.string ⟨#[]⟩)] [(0, 1)] h [x21]) fun x22 h =>
 hb A (hApp 1 16 h x20 x22) fun x23 h =>
 wb A (hF 1 h x3 x23) fun h =>
 j3 [] h) (pb A (mF 0 h x3) fun x20 =>
 pb A (mF 1 h x10) fun x21 =>
 hb A (hBsl 1 1 [(.string ⟨#[]⟩)] [(0, 1)] h [x21]) fun x22 h =>
 hb A (hApp 1 16 h x20 x22) fun x23 h =>
 wb A (hF 0 h x3 x23) fun h =>
 j3 [] h))) (j0 [] h)) [] h
theorem r60 : RowS Tryz.prog 22 60 d60 := rowS Tryz.func60 (by kernel_rfl) true [q8, q64, q72] (fun R A cs csd lo => by kernel_rfl)
/-- (*tailrace/code.writer).record -/
noncomputable def d75 : FnT := fun R A cs csd lo vs h K => p1 A vs fun x0 =>
 pb A (vBld [(.int .i64 0), (.int .i64 0), (.int .i64 0), (.string ⟨#[]⟩), (.float .f64 0)] [(0, 1)] [(.int .i64 1)]) fun x1 =>
 cs 42 [x0, x1] h fun x2 h =>
 pb A (vBld [(.int .i64 0), (.int .i64 0), (.int .i64 0), (.string ⟨#[]⟩), (.float .f64 0)] [(0, 1)] [(.int .i64 12)]) fun x3 =>
 cs 42 [x0, x3] h fun x4 h =>
 K (.tuple #[]) h
theorem r75 : RowS Tryz.prog 22 75 d75 := rowS Tryz.func75 (by kernel_rfl) true [] (fun R A cs csd lo => by kernel_rfl)
/-- (*tailrace/code.writer).scalar -/
noncomputable def d76 : FnT := fun R A cs csd lo vs h K => p2 A vs fun x0 x1 =>
 cs 134 [x0, x1] h fun x2 h =>
 pb A (vIop .geq x2 (.int .i64 0)) fun x3 =>
 ic A x3 (K (.tuple #[x2, (.int .i64 1)]) h) (cs 17 [] h fun x4 h =>
 pb A (vLenS x4) fun x5 =>
 jn (fun vs h => p1 A vs fun x6 =>
 pb A (vNil x0) fun x7 =>
 pb A (vFa 2 x7) fun x8 =>
 pb A (mF 0 h x8) fun x9 =>
 cs 135 [x9, x1] h fun x10 h =>
 K (.tuple #[x10, (.int .i64 0)]) h) fun j0 =>
 lo (fun r1 vs h => p1 A vs fun x6 =>
 pb A (vIop .lss x6 x5) fun x7 =>
 ic A x7 (pb A (mI 1 0 h x4 x6) fun x8 =>
 pb A (vSeq x8 x1) fun x9 =>
 ic A x9 (K (.tuple #[x6, (.int .i64 2)]) h) (pb A (vIop .add x6 (.int .i64 1)) fun x10 =>
 r1 [x10] h)) (j0 [x6] h)) [(.int .i64 0)] h)
theorem r76 : RowS Tryz.prog 22 76 d76 := rowS Tryz.func76 (by kernel_rfl) true [q17] (fun R A cs csd lo => by kernel_rfl)
/-- tailrace/code.kid -/
noncomputable def d79 : FnT := fun R A cs csd lo vs h K => p2 A vs fun x0 x1 =>
 hb A (hBox h x0) fun x2 h =>
 hb A (some (hNew h [(.int .i64 0), (.string ⟨#[]⟩), (.float .f64 0), (.slice none 0 0), (.complex .f64 0 0)])) fun x3 h =>
 pb A (mF 3 h x2) fun x4 =>
 pb A (vLenS x4) fun x5 =>
 pb A (vIop .geq x1 x5) fun x6 =>
 ic A x6 (pb A (vBld [(.int .i64 0), (.string ⟨#[]⟩), (.float .f64 0), (.slice none 0 0), (.complex .f64 0 0)] [] []) fun x7 =>
 wb A (hSt 5 h x3 x7) fun h =>
 pb A (mLdA 5 h x3) fun x8 =>
 K x8 h) (pb A (mF 3 h x2) fun x7 =>
 pb A (mIA 5 5 0 h x7 x1) fun x8 =>
 wb A (hSt 5 h x3 x8) fun h =>
 pb A (mLdA 5 h x3) fun x9 =>
 K x9 h)
theorem r79 : RowS Tryz.prog 22 79 d79 := rowS Tryz.func79 (by kernel_rfl) true [] (fun R A cs csd lo => by kernel_rfl)
/-- (*tailrace/code.writer).store -/
noncomputable def d80 : FnT := fun R A cs csd lo vs h K => p7 A vs fun x0 x1 x2 x3 x4 x5 x6 =>
 hb A (hBox h x1) fun x7 h =>
 pb A (mF 0 h x7) fun x8 =>
 pb A (vIop .eql x8 (.int .i64 4)) fun x9 =>
 jn (fun vs h => 
 K (.tuple #[]) h) fun j0 =>
 ic A x9 (cs 85 [x0, x6] h fun x10 h =>
 pb A (mF 1 h x7) fun x11 =>
 cs 76 [x0, x11] h fun x12 h =>
 pb A (vExt 0 x12) fun x13 =>
 pb A (vExt 1 x12) fun x14 =>
 pb A (vBld [(.int .i64 0), (.int .i64 0), (.int .i64 0), (.string ⟨#[]⟩), (.float .f64 0)] [(0, 1), (1, 1), (2, 1), (3, 1)] [x3, x13, x14, x2]) fun x15 =>
 cs 42 [x0, x15] h fun x16 h =>
 j0 [] h) (pb A (vIop .eql x8 (.int .i64 5)) fun x10 =>
 jn (fun vs h => 
 j0 [] h) fun j1 =>
 ic A x10 (pb A (mF 3 h x7) fun x11 =>
 cs 77 [x0, x11] h fun x12 h =>
 cs 85 [x0, x6] h fun x13 h =>
 pb A (mF 1 h x7) fun x14 =>
 cs 78 [x0, x14] h fun x15 h =>
 pb A (vExt 0 x15) fun x16 =>
 pb A (vExt 1 x15) fun x17 =>
 pb A (vBld [(.int .i64 0), (.int .i64 0), (.int .i64 0), (.string ⟨#[]⟩), (.float .f64 0)] [(0, 1), (1, 1), (2, 1), (3, 1)] [x4, x16, x17, x2]) fun x18 =>
 cs 42 [x0, x18] h fun x19 h =>
 j1 [] h) (pb A (mLdA 5 h x7) fun x11 =>
 cs 79 [x11, (.int .i64 0)] h fun x12 h =>
 cs 40 [x0, x12] h fun x13 h =>
 cs 85 [x0, x6] h fun x14 h =>
 pb A (vBld [(.int .i64 0), (.int .i64 0), (.int .i64 0), (.string ⟨#[]⟩), (.float .f64 0)] [(0, 1), (3, 1)] [x5, x2]) fun x15 =>
 cs 42 [x0, x15] h fun x16 h =>
 j1 [] h))
theorem r80 : RowS Tryz.prog 22 80 d80 := rowS Tryz.func80 (by kernel_rfl) true [] (fun R A cs csd lo => by kernel_rfl)
/-- (*tailrace/code.writer).exprs -/
noncomputable def d85 : FnT := fun R A cs csd lo vs h K => p2 A vs fun x0 x1 =>
 pb A (vLenS x1) fun x2 =>
 jn (fun vs h => p1 A vs fun x3 =>
 K (.tuple #[]) h) fun j0 =>
 lo (fun r1 vs h => p1 A vs fun x3 =>
 pb A (vIop .lss x3 x2) fun x4 =>
 ic A x4 (pb A (mIA 5 5 0 h x1 x3) fun x5 =>
 hb A (hIni 5 h x5) fun x6 h =>
 pb A (mLdA 5 h x6) fun x7 =>
 cs 40 [x0, x7] h fun x8 h =>
 pb A (vIop .add x3 (.int .i64 1)) fun x9 =>
 r1 [x9] h) (j0 [x3] h)) [(.int .i64 0)] h
theorem r85 : RowS Tryz.prog 22 85 d85 := rowS Tryz.func85 (by kernel_rfl) true [q8] (fun R A cs csd lo => by kernel_rfl)
/-- (*tailrace/tailraceref16.parser).peek -/
noncomputable def d90 : FnT := fun R A cs csd lo vs h K => p2 A vs fun x0 x1 =>
 hb A (some (hNew h [(.int .i64 0), (.string ⟨#[]⟩), (.float .f64 0), (.int .i64 0), (.int .i64 0)])) fun x2 h =>
 pb A (mF 0 h x0) fun x3 =>
 cs 91 [x3, x1, (.bool false)] h fun x4 h =>
 pb A (vExt 0 x4) fun x5 =>
 pb A (vExt 1 x4) fun x6 =>
 hb A (hIni 5 h x5) fun x7 h =>
 pb A (mLdA 5 h x7) fun x8 =>
 pb A (vIop .eql x6 (.int .i64 0)) fun x9 =>
 wb A (hSt 5 h x2 x8) fun h =>
 pb A (mLdA 5 h x2) fun x10 =>
 K (.tuple #[x10, x9]) h
theorem r90 : RowS Tryz.prog 22 90 d90 := rowS Tryz.func90 (by kernel_rfl) true [] (fun R A cs csd lo => by kernel_rfl)
/-- tailrace/tailraceref16.Next -/
noncomputable def d91 : FnT := fun R A cs csd lo vs h K => p3 A vs fun x0 x1 x2 =>
 hb A (some (hNew h [(.int .i64 0), (.string ⟨#[]⟩), (.float .f64 0), (.int .i64 0), (.int .i64 0)])) fun x3 h =>
 pb A (vAny Tryz.prog 22 (.scal ⟨none, (.call ⟨.builtin .max, #[(.const (.int .i64 0)), (.tmp 19)], #[3, 3]⟩), 3, "", #[], none⟩) [19] [x1]) fun x4 =>
 pb A (vSlen x0) fun x5 =>
 pb A (vAny Tryz.prog 22 (.scal ⟨none, (.call ⟨.builtin .min, #[(.tmp 20), (.tmp 22)], #[3, 3]⟩), 3, "", #[], none⟩) [20, 22] [x4, x5]) fun x6 =>
 cs 140 [x0, x6] h fun x7 h =>
 pb A (vBld [(.int .i64 0), (.string ⟨#[]⟩), (.float .f64 0), (.int .i64 0), (.int .i64 0)] [(3, 1), (4, 1)] [x7, x7]) fun x8 =>
 hb A (hIni 5 h x8) fun x9 h =>
 pb A (vBld [(.int .i64 0), (.string ⟨#[]⟩), (.float .f64 0), (.int .i64 0), (.int .i64 0)] [(3, 1)] [x7]) fun x10 =>
 hb A (hIni 5 h x10) fun x11 h =>
 pb A (vSlen x0) fun x12 =>
 pb A (vIop .geq x7 x12) fun x13 =>
 ic A x13 (pb A (mLdA 5 h x9) fun x14 =>
 wb A (hSt 5 h x3 x14) fun h =>
 pb A (mLdA 5 h x3) fun x15 =>
 K (.tuple #[x15, (.int .i64 0)]) h) (pb A (vSidx x0 x7) fun x14 =>
 pb A (vIop .eql x14 (.int .u8 10)) fun x15 =>
 ic A x15 (wb A (hF 0 h x9 (.int .i64 1)) fun h =>
 pb A (vIop .add x7 (.int .i64 1)) fun x16 =>
 wb A (hF 4 h x9 x16) fun h =>
 pb A (mLdA 5 h x9) fun x17 =>
 wb A (hSt 5 h x3 x17) fun h =>
 pb A (mLdA 5 h x3) fun x18 =>
 K (.tuple #[x18, (.int .i64 0)]) h) (cs 141 [x14] h fun x16 h =>
 ic A x16 (jn (fun vs h => 
 pb A (mF 4 h x9) fun x17 =>
 pb A (vScut x0 (some x7) (some x17)) fun x18 =>
 wb A (hF 1 h x9 x18) fun h =>
 wb A (hF 0 h x9 (.int .i64 5)) fun h =>
 pb A (mF 1 h x9) fun x19 =>
 cs 143 [x19] h fun x20 h =>
 jn (fun vs h => 
 pb A (mLdA 5 h x9) fun x21 =>
 wb A (hSt 5 h x3 x21) fun h =>
 pb A (mLdA 5 h x3) fun x22 =>
 K (.tuple #[x22, (.int .i64 0)]) h) fun j0 =>
 ic A x20 (wb A (hF 0 h x9 (.int .i64 8)) fun h =>
 j0 [] h) (pb A (mF 1 h x9) fun x21 =>
 cs 144 [x21] h fun x22 h =>
 jn (fun vs h => 
 j0 [] h) fun j1 =>
 ic A x22 (wb A (hF 0 h x9 (.int .i64 7)) fun h =>
 j1 [] h) (pb A (mF 4 h x9) fun x23 =>
 pb A (vSlen x0) fun x24 =>
 pb A (vIop .lss x23 x24) fun x25 =>
 gp A x25 true (some x0) fun x26 =>
 gp A x25 true (mF 4 h x9) fun x27 =>
 gp A x25 true (vSidx x26 x27) fun x28 =>
 gp A x25 true (vIop .eql x28 (.int .u8 40)) fun x29 =>
 pb A (vPick x25 x29 (.bool false)) fun x30 =>
 jn (fun vs h => 
 j1 [] h) fun j2 =>
 ic A x30 (wb A (hF 0 h x9 (.int .i64 6)) fun h =>
 j2 [] h) (j2 [] h)))) fun j0 =>
 lo (fun r1 vs h => 
 pb A (mF 4 h x9) fun x17 =>
 pb A (vSlen x0) fun x18 =>
 pb A (vIop .lss x17 x18) fun x19 =>
 gp A x19 true (some x0) fun x20 =>
 gp A x19 true (mF 4 h x9) fun x21 =>
 gp A x19 true (vSidx x20 x21) fun x22 =>
 gc A x19 true h (cs 141 [x22] h) fun x23 h =>
 gp A x19 true (some x23) fun x24 =>
 gp A x24 false (some x0) fun x25 =>
 gp A x24 false (mF 4 h x9) fun x26 =>
 gp A x24 false (vSidx x25 x26) fun x27 =>
 gc A x24 false h (cs 142 [x27] h) fun x28 h =>
 gp A x19 true (vPick x24 (.bool true) x28) fun x29 =>
 pb A (vPick x19 x29 (.bool false)) fun x30 =>
 ic A x30 (pb A (mF 4 h x9) fun x31 =>
 pb A (vIop .add x31 (.int .i64 1)) fun x32 =>
 wb A (hF 4 h x9 x32) fun h =>
 r1 [] h) (j0 [] h)) [] h) (pb A (vIop .eql x14 (.int .u8 34)) fun x17 =>
 jn (fun vs h => p1 A vs fun x18 =>
 ic A x18 (cs 145 [x0, x7] h fun x19 h =>
 pb A (vIop .lss x19 (.int .i64 0)) fun x20 =>
 ic A x20 (pb A (mLdA 5 h x11) fun x21 =>
 wb A (hSt 5 h x3 x21) fun h =>
 pb A (mLdA 5 h x3) fun x22 =>
 K (.tuple #[x22, (.int .i64 21)]) h) (pb A (vIop .add x19 (.int .i64 1)) fun x21 =>
 wb A (hF 4 h x9 x21) fun h =>
 pb A (vIop .eql x14 (.int .u8 47)) fun x22 =>
 ic A x22 (wb A (hF 0 h x9 (.int .i64 4)) fun h =>
 pb A (vIop .add x7 (.int .i64 1)) fun x23 =>
 pb A (vScut x0 (some x23) (some x19)) fun x24 =>
 cs 146 [x24] h fun x25 h =>
 wb A (hF 1 h x9 x25) fun h =>
 pb A (mLdA 5 h x9) fun x26 =>
 wb A (hSt 5 h x3 x26) fun h =>
 pb A (mLdA 5 h x3) fun x27 =>
 K (.tuple #[x27, (.int .i64 0)]) h) (pb A (vIop .add x7 (.int .i64 1)) fun x23 =>
 pb A (vScut x0 (some x23) (some x19)) fun x24 =>
 cs 147 [x24] h fun x25 h =>
 pb A (vExt 0 x25) fun x26 =>
 pb A (vExt 1 x25) fun x27 =>
 pb A (vNot x27) fun x28 =>
 ic A x28 (pb A (mLdA 5 h x11) fun x29 =>
 wb A (hSt 5 h x3 x29) fun h =>
 pb A (mLdA 5 h x3) fun x30 =>
 K (.tuple #[x30, (.int .i64 22)]) h) (wb A (hF 0 h x9 (.int .i64 3)) fun h =>
 wb A (hF 1 h x9 x26) fun h =>
 pb A (mLdA 5 h x9) fun x29 =>
 wb A (hSt 5 h x3 x29) fun h =>
 pb A (mLdA 5 h x3) fun x30 =>
 K (.tuple #[x30, (.int .i64 0)]) h)))) (cs 148 [x0, x7] h fun x19 h =>
 pb A (vIop .gtr x19 x7) fun x20 =>
 ic A x20 (pb A (vScut x0 (some x7) (some x19)) fun x21 =>
 cs 149 [x21, (.int .i64 64)] h fun x22 h =>
 pb A (vExt 0 x22) fun x23 =>
 pb A (vExt 1 x22) fun x24 =>
 pb A (vAny Tryz.prog 22 (.scal ⟨none, (.binOp .gtr 52 (.tmp 162) (.const (.float .f64 9218868437227405311)) 52), 4, "", #[], none⟩) [162] [x23]) fun x25 =>
 ic A x25 (pb A (mLdA 5 h x11) fun x26 =>
 wb A (hSt 5 h x3 x26) fun h =>
 pb A (mLdA 5 h x3) fun x27 =>
 K (.tuple #[x27, (.int .i64 23)]) h) (pb A (vScut x0 (some x7) (some x19)) fun x26 =>
 pb A (vBld [(.int .i64 0), (.string ⟨#[]⟩), (.float .f64 0), (.int .i64 0), (.int .i64 0)] [(0, 1), (1, 1), (2, 1), (3, 1), (4, 1)] [(.int .i64 2), x26, x23, x7, x19]) fun x27 =>
 wb A (hSt 5 h x3 x27) fun h =>
 pb A (mLdA 5 h x3) fun x28 =>
 K (.tuple #[x28, (.int .i64 0)]) h)) (cs 150 [x0, x7] h fun x21 h =>
 pb A (vSne x21 (.string ⟨#[]⟩)) fun x22 =>
 ic A x22 (pb A (vSlen x21) fun x23 =>
 pb A (vIop .add x7 x23) fun x24 =>
 pb A (vBld [(.int .i64 0), (.string ⟨#[]⟩), (.float .f64 0), (.int .i64 0), (.int .i64 0)] [(0, 1), (1, 1), (3, 1), (4, 1)] [(.int .i64 9), x21, x7, x24]) fun x25 =>
 wb A (hSt 5 h x3 x25) fun h =>
 pb A (mLdA 5 h x3) fun x26 =>
 K (.tuple #[x26, (.int .i64 0)]) h) (pb A (mLdA 5 h x11) fun x23 =>
 wb A (hSt 5 h x3 x23) fun h =>
 pb A (mLdA 5 h x3) fun x24 =>
 K (.tuple #[x24, (.int .i64 20)]) h)))) fun j0 =>
 ic A x17 (j0 [x17] h) (pb A (vIop .eql x14 (.int .u8 47)) fun x18 =>
 gp A x18 true (some x2) fun x19 =>
 pb A (vPick x18 x19 (.bool false)) fun x20 =>
 j0 [x20] h))))
theorem r91 : RowS Tryz.prog 22 91 d91 := rowS Tryz.func91 (by kernel_rfl) true [q104] (fun R A cs csd lo => by kernel_rfl)
/-- (*tailrace/tailraceref16.parser).is -/
noncomputable def d93 : FnT := fun R A cs csd lo vs h K => p2 A vs fun x0 x1 =>
 cs 43 [x0] h fun x2 h =>
 pb A (vNot x2) fun x3 =>
 ic A x3 (K (.bool false) h) (pb A (mF 1 h x0) fun x4 =>
 cs 90 [x0, x4] h fun x5 h =>
 pb A (vExt 0 x5) fun x6 =>
 pb A (vExt 1 x5) fun x7 =>
 hb A (hIni 5 h x6) fun x8 h =>
 gp A x7 true (mF 0 h x8) fun x9 =>
 gp A x7 true (vIop .eql x9 (.int .i64 9)) fun x10 =>
 gp A x7 true (some x10) fun x11 =>
 gp A x11 false (mF 0 h x8) fun x12 =>
 gp A x11 false (vIop .eql x12 (.int .i64 8)) fun x13 =>
 gp A x7 true (vPick x11 (.bool true) x13) fun x14 =>
 pb A (vPick x7 x14 (.bool false)) fun x15 =>
 gp A x15 true (mF 1 h x8) fun x16 =>
 gp A x15 true (some x1) fun x17 =>
 gp A x15 true (vSeq x16 x17) fun x18 =>
 pb A (vPick x15 x18 (.bool false)) fun x19 =>
 K x19 h)
theorem r93 : RowS Tryz.prog 22 93 d93 := rowS Tryz.func93 (by kernel_rfl) true [] (fun R A cs csd lo => by kernel_rfl)
/-- (*tailrace/tailraceref16.parser).rule -/
noncomputable def d95 : FnT := fun R A cs csd lo vs h K => p1 A vs fun x0 =>
 hb A (some (hNew h [(.int .i64 0), (.int .i64 0), (.slice none 0 0), (.int .i64 0), (.string ⟨#[]⟩), (.float .f64 0), (.slice none 0 0), (.complex .f64 0 0), (.complex .f64 0 0)])) fun x1 h =>
 cs 152 [x0, (.bool true)] h fun x2 h =>
 pb A (vExt 0 x2) fun x3 =>
 pb A (vExt 1 x2) fun x4 =>
 hb A (hIni 5 h x3) fun x5 h =>
 pb A (vBld [(.int .i64 0), (.int .i64 0), (.slice none 0 0), (.int .i64 0), (.string ⟨#[]⟩), (.float .f64 0), (.slice none 0 0), (.complex .f64 0 0), (.complex .f64 0 0)] [(8, 1)] [x4]) fun x6 =>
 hb A (hIni 9 h x6) fun x7 h =>
 pb A (vBld [(.string ⟨#[]⟩), (.string ⟨#[]⟩), (.string ⟨#[]⟩)] [(0, 1), (1, 1), (2, 1)] [(.string ⟨#[66, 69, 71, 73, 78]⟩), (.string ⟨#[69, 78, 68]⟩), (.string ⟨#[71, 65, 80]⟩)]) fun x8 =>
 hb A (hIni 3 h x8) fun x9 h =>
 pb A (vBld [(.int .i64 0), (.int .i64 0), (.int .i64 0)] [(0, 1), (1, 1), (2, 1)] [(.int .i64 1), (.int .i64 2), (.int .i64 4)]) fun x10 =>
 hb A (hIni 3 h x10) fun x11 h =>
 jn (fun vs h => p1 A vs fun x12 =>
 cs 153 [x0, (.string ⟨#[69, 86, 69, 82, 89]⟩)] h fun x13 h =>
 ic A x13 (cs 45 [x0, (.bool false)] h fun x14 h =>
 hb A (hIni 5 h x14) fun x15 h =>
 cs 43 [x0] h fun x16 h =>
 gp A x16 true (mF 0 h x15) fun x17 =>
 gp A x16 true (vIop .neq x17 (.int .i64 2)) fun x18 =>
 pb A (vPick x16 x18 (.bool false)) fun x19 =>
 jn (fun vs h => 
 cs 43 [x0] h fun x20 h =>
 gp A x20 true (vFa 2 x15) fun x21 =>
 gp A x20 true (mLd h x21) fun x22 =>
 gp A x20 true (vFa 2 x15) fun x23 =>
 gp A x20 true (mLd h x23) fun x24 =>
 gc A x20 true h (cs 157 [x24] h) fun x25 h =>
 gp A x20 true (vAny Tryz.prog 22 (.scal ⟨none, (.binOp .neq 52 (.tmp 55) (.tmp 58) 52), 4, "", #[], none⟩) [55, 58] [x22, x25]) fun x26 =>
 gp A x20 true (some x26) fun x27 =>
 gp A x27 false (vFa 2 x15) fun x28 =>
 gp A x27 false (mLd h x28) fun x29 =>
 gp A x27 false (vAny Tryz.prog 22 (.scal ⟨none, (.binOp .lss 52 (.tmp 62) (.const (.float .f64 4607182418800017408)) 52), 4, "", #[], none⟩) [62] [x29]) fun x30 =>
 gp A x20 true (vPick x27 (.bool true) x30) fun x31 =>
 gp A x20 true (some x31) fun x32 =>
 gp A x32 false (vFa 2 x15) fun x33 =>
 gp A x32 false (mLd h x33) fun x34 =>
 gp A x32 false (vAny Tryz.prog 22 (.scal ⟨none, (.binOp .gtr 52 (.tmp 67) (.const (.float .f64 4697254411347427328)) 52), 4, "", #[], none⟩) [67] [x34]) fun x35 =>
 gp A x20 true (vPick x32 (.bool true) x35) fun x36 =>
 pb A (vPick x20 x36 (.bool false)) fun x37 =>
 gr A x20 true (mLd h x21) x22 <|
 jn (fun vs h => 
 cs 43 [x0] h fun x38 h =>
 jn (fun vs h => 
 wb A (hF 0 h x7 (.int .i64 3)) fun h =>
 cs 156 [x0] h fun x39 h =>
 pb A (vFa 3 x7) fun x40 =>
 wb A (hSt 5 h x40 x39) fun h =>
 pb A (mLdA 9 h x7) fun x41 =>
 wb A (hSt 9 h x1 x41) fun h =>
 pb A (mLdA 9 h x1) fun x42 =>
 K (.tuple #[x42, (.bool true)]) h) fun j0 =>
 ic A x38 (pb A (mF 4 h x15) fun x39 =>
 wb A (hF 1 h x0 x39) fun h =>
 pb A (mF 2 h x15) fun x40 =>
 pb A (vAny Tryz.prog 22 (.scal ⟨none, (.convert 52 3 (.tmp 83)), 3, "", #[], none⟩) [83] [x40]) fun x41 =>
 wb A (hF 1 h x7 x41) fun h =>
 j0 [] h) (j0 [] h)) fun j0 =>
 ic A x37 (pb A (mF 3 h x15) fun x38 =>
 cs 92 [x0, (.int .i64 23), x38] h fun x39 h =>
 j0 [] h) (j0 [] h)) fun j0 =>
 ic A x19 (pb A (mLdA 5 h x15) fun x20 =>
 cs 96 [x0, x20] h fun x21 h =>
 j0 [] h) (j0 [] h)) (wb A (hF 0 h x7 (.int .i64 5)) fun h =>
 cs 93 [x0, (.string ⟨#[123]⟩)] h fun x14 h =>
 pb A (vNot x14) fun x15 =>
 jn (fun vs h => 
 cs 156 [x0] h fun x16 h =>
 pb A (vFa 3 x7) fun x17 =>
 wb A (hSt 5 h x17 x16) fun h =>
 pb A (mLdA 9 h x7) fun x18 =>
 wb A (hSt 9 h x1 x18) fun h =>
 pb A (mLdA 9 h x1) fun x19 =>
 K (.tuple #[x19, (.bool true)]) h) fun j0 =>
 ic A x15 (wb A (hF 0 h x7 (.int .i64 6)) fun h =>
 cs 158 [x0] h fun x16 h =>
 hb A (hBsl 5 1 [(.int .i64 0), (.string ⟨#[]⟩), (.float .f64 0), (.slice none 0 0), (.complex .f64 0 0)] [(0, 5)] h [x16]) fun x17 h =>
 wb A (hF 2 h x7 x17) fun h =>
 cs 153 [x0, (.string ⟨#[44]⟩)] h fun x18 h =>
 jn (fun vs h => 
 cs 93 [x0, (.string ⟨#[123]⟩)] h fun x19 h =>
 pb A (vNot x19) fun x20 =>
 ic A x20 (pb A (vBld [(.int .i64 0), (.string ⟨#[]⟩), (.float .f64 0), (.slice none 0 0), (.complex .f64 0 0)] [(0, 1), (4, 1)] [(.int .i64 42), x4]) fun x21 =>
 hb A (hBsl 5 1 [(.int .i64 0), (.string ⟨#[]⟩), (.float .f64 0), (.slice none 0 0), (.complex .f64 0 0)] [(0, 5)] h [x21]) fun x22 h =>
 pb A (vBld [(.int .i64 0), (.string ⟨#[]⟩), (.float .f64 0), (.slice none 0 0), (.complex .f64 0 0)] [(0, 1), (3, 1), (4, 1)] [(.int .i64 30), x22, x4]) fun x23 =>
 pb A (vFa 3 x7) fun x24 =>
 wb A (hSt 5 h x24 x23) fun h =>
 pb A (mLdA 9 h x7) fun x25 =>
 wb A (hSt 9 h x1 x25) fun h =>
 pb A (mLdA 9 h x1) fun x26 =>
 K (.tuple #[x26, (.bool false)]) h) (j0 [] h)) fun j1 =>
 ic A x18 (cs 44 [x0, (.string ⟨#[]⟩)] h fun x19 h =>
 wb A (hF 0 h x7 (.int .i64 7)) fun h =>
 pb A (vFa 2 x7) fun x20 =>
 pb A (mLd h x20) fun x21 =>
 cs 158 [x0] h fun x22 h =>
 alc A 4 (allocOf (opdT 22 [108] [x22]) (.buildSlice 5 1 [(.int .i64 0), (.string ⟨#[]⟩), (.float .f64 0), (.slice none 0 0), (.complex .f64 0 0)] [(0, 5, (.tmp 108))])) h [] fun x23 h pd =>
 rb A (mLd h x20) x21 <|
 abl 4 h pd fun h pd =>
 hb A (hApp 5 72 h x21 x23) fun x24 h =>
 pb A (vFa 2 x7) fun x25 =>
 wb A (hSt 1 h x25 x24) fun h =>
 j1 [] h) (j1 [] h)) (j0 [] h))) fun j0 =>
 lo (fun r1 vs h => p1 A vs fun x12 =>
 pb A (vIop .lss x12 (.int .i64 3)) fun x13 =>
 ic A x13 (pb A (vIxA 3 1 x9 x12) fun x14 =>
 pb A (mLd h x14) fun x15 =>
 cs 153 [x0, x15] h fun x16 h =>
 ic A x16 (pb A (vIxA 3 1 x11 x12) fun x17 =>
 pb A (mLd h x17) fun x18 =>
 wb A (hF 0 h x7 x18) fun h =>
 cs 156 [x0] h fun x19 h =>
 pb A (vFa 3 x7) fun x20 =>
 wb A (hSt 5 h x20 x19) fun h =>
 pb A (mLdA 9 h x7) fun x21 =>
 wb A (hSt 9 h x1 x21) fun h =>
 pb A (mLdA 9 h x1) fun x22 =>
 K (.tuple #[x22, (.bool true)]) h) (pb A (vIop .add x12 (.int .i64 1)) fun x17 =>
 r1 [x17] h)) (j0 [x12] h)) [(.int .i64 0)] h
theorem r95 : RowS Tryz.prog 22 95 d95 := rowS Tryz.func95 (by kernel_rfl) true [q9] (fun R A cs csd lo => by kernel_rfl)
/-- (*tailrace/names.checker).fault -/
noncomputable def d117 : FnT := fun R A cs csd lo vs h K => p3 A vs fun x0 x1 x2 =>
 pb A (mF 10 h x0) fun x3 =>
 pb A (vIop .eql x3 (.int .i64 0)) fun x4 =>
 jn (fun vs h => 
 K (.tuple #[]) h) fun j0 =>
 ic A x4 (wb A (hF 9 h x0 x1) fun h =>
 wb A (hF 10 h x0 x2) fun h =>
 j0 [] h) (j0 [] h)
theorem r117 : RowS Tryz.prog 22 117 d117 := rowS Tryz.func117 (by kernel_rfl) true [] (fun R A cs csd lo => by kernel_rfl)
/-- tailrace/names.IsSpecial -/
noncomputable def d118 : FnT := fun R A cs csd lo vs h K => p1 A vs fun x0 =>
 pb A (vSeq x0 (.string ⟨#[78, 82]⟩)) fun x1 =>
 jn (fun vs h => p1 A vs fun x2 =>
 ic A x2 (K (.bool true) h) (K (.bool false) h)) fun j0 =>
 ic A x1 (j0 [x1] h) (pb A (vSeq x0 (.string ⟨#[78, 70]⟩)) fun x2 =>
 jn (fun vs h => p1 A vs fun x3 =>
 j0 [x3] h) fun j1 =>
 ic A x2 (j1 [x2] h) (pb A (vSeq x0 (.string ⟨#[70, 83]⟩)) fun x3 =>
 jn (fun vs h => p1 A vs fun x4 =>
 j1 [x4] h) fun j2 =>
 ic A x3 (j2 [x3] h) (pb A (vSeq x0 (.string ⟨#[79, 70, 83]⟩)) fun x4 =>
 jn (fun vs h => p1 A vs fun x5 =>
 j2 [x5] h) fun j3 =>
 ic A x4 (j3 [x4] h) (pb A (vSeq x0 (.string ⟨#[79, 82, 83]⟩)) fun x5 =>
 jn (fun vs h => p1 A vs fun x6 =>
 j3 [x6] h) fun j4 =>
 ic A x5 (j4 [x5] h) (pb A (vSeq x0 (.string ⟨#[82, 83]⟩)) fun x6 =>
 jn (fun vs h => p1 A vs fun x7 =>
 j4 [x7] h) fun j5 =>
 ic A x6 (j5 [x6] h) (pb A (vSeq x0 (.string ⟨#[83, 85, 66, 83, 69, 80]⟩)) fun x7 =>
 jn (fun vs h => p1 A vs fun x8 =>
 j5 [x8] h) fun j6 =>
 ic A x7 (j6 [x7] h) (pb A (vSeq x0 (.string ⟨#[67, 79, 78, 86, 70, 77, 84]⟩)) fun x8 =>
 jn (fun vs h => p1 A vs fun x9 =>
 j6 [x9] h) fun j7 =>
 ic A x8 (j7 [x8] h) (pb A (vSeq x0 (.string ⟨#[79, 70, 77, 84]⟩)) fun x9 =>
 jn (fun vs h => p1 A vs fun x10 =>
 j7 [x10] h) fun j8 =>
 ic A x9 (j8 [x9] h) (pb A (vSeq x0 (.string ⟨#[82, 83, 84, 65, 82, 84]⟩)) fun x10 =>
 jn (fun vs h => p1 A vs fun x11 =>
 j8 [x11] h) fun j9 =>
 ic A x10 (j9 [x10] h) (pb A (vSeq x0 (.string ⟨#[82, 76, 69, 78, 71, 84, 72]⟩)) fun x11 =>
 jn (fun vs h => p1 A vs fun x12 =>
 j9 [x12] h) fun j10 =>
 ic A x11 (j10 [x11] h) (pb A (vSeq x0 (.string ⟨#[78, 79, 87]⟩)) fun x12 =>
 jn (fun vs h => p1 A vs fun x13 =>
 j10 [x13] h) fun j11 =>
 ic A x12 (j11 [x12] h) (pb A (vSeq x0 (.string ⟨#[71, 65, 80, 83]⟩)) fun x13 =>
 j11 [x13] h))))))))))))
theorem r118 : RowS Tryz.prog 22 118 d118 := rowS Tryz.func118 (by kernel_rfl) true [q4] (fun R A cs csd lo => by kernel_rfl)
/-- (*tailrace/names.checker).node -/
noncomputable def d119 : FnT := fun R A cs csd lo vs h K => p2 A vs fun x0 x1 =>
 hb A (hBox h x1) fun x2 h =>
 pb A (mF 0 h x2) fun x3 =>
 pb A (vIop .eql x3 (.int .i64 4)) fun x4 =>
 jn (fun vs h => p1 A vs fun x5 =>
 pb A (mF 0 h x2) fun x6 =>
 pb A (vIop .eql x6 (.int .i64 35)) fun x7 =>
 jn (fun vs h => p1 A vs fun x8 =>
 pb A (mF 3 h x2) fun x9 =>
 pb A (vLenS x9) fun x10 =>
 jn (fun vs h => p1 A vs fun x11 =>
 df A csd x8 h fun h =>
 K (.tuple #[]) h) fun j0 =>
 lo (fun r1 vs h => p1 A vs fun x11 =>
 pb A (vIop .lss x11 x10) fun x12 =>
 ic A x12 (pb A (mIA 5 5 0 h x9 x11) fun x13 =>
 hb A (some (hNew h [(.int .i64 0), (.string ⟨#[]⟩), (.float .f64 0), (.slice none 0 0), (.complex .f64 0 0)])) fun x14 h =>
 wb A (hSt 5 h x14 x13) fun h =>
 pb A (mF 0 h x2) fun x15 =>
 pb A (vIop .eql x15 (.int .i64 34)) fun x16 =>
 gp A x16 true (some x11) fun x17 =>
 gp A x16 true (vRem x17 (.int .i64 2)) fun x18 =>
 gp A x16 true (vIop .eql x18 (.int .i64 0)) fun x19 =>
 pb A (vPick x16 x19 (.bool false)) fun x20 =>
 gp A x20 true (mF 0 h x14) fun x21 =>
 gp A x20 true (vIop .eql x21 (.int .i64 36)) fun x22 =>
 gp A x20 true (some x22) fun x23 =>
 gp A x23 false (mF 0 h x14) fun x24 =>
 gp A x23 false (vIop .eql x24 (.int .i64 37)) fun x25 =>
 gp A x20 true (vPick x23 (.bool true) x25) fun x26 =>
 pb A (vPick x20 x26 (.bool false)) fun x27 =>
 jn (fun vs h => 
 pb A (mLdA 5 h x14) fun x28 =>
 cs 119 [x0, x28] h fun x29 h =>
 pb A (vIop .add x11 (.int .i64 1)) fun x30 =>
 r1 [x30] h) fun j2 =>
 ic A x27 (pb A (mF 4 h x14) fun x28 =>
 cs 117 [x0, x28, (.int .i64 32)] h fun x29 h =>
 j2 [] h) (j2 [] h)) (j0 [x11] h)) [(.int .i64 0)] h) fun j0 =>
 ic A x7 (pb A (mF 5 h x0) fun x8 =>
 pb A (vIop .add x8 (.int .i64 1)) fun x9 =>
 wb A (hF 5 h x0 x9) fun h =>
 pb A (vDfr 175 [x5, x0]) fun x10 =>
 j0 [x10] h) (j0 [x5] h)) fun j0 =>
 ic A x4 (pb A (mLdA 5 h x2) fun x5 =>
 cs 171 [x0, x5] h fun x6 h =>
 pb A (vNil x0) fun x7 =>
 pb A (vFa 6 x7) fun x8 =>
 pb A (mLd h x8) fun x9 =>
 pb A (vFa 4 x2) fun x10 =>
 pb A (mLd h x10) fun x11 =>
 pb A (vFa 1 x2) fun x12 =>
 pb A (mLd h x12) fun x13 =>
 cs 172 [x0, x13] h fun x14 h =>
 pb A (vBld [(.complex .f64 0 0), (.int .i64 0), (.string ⟨#[]⟩), (.bool false), (.int .i64 0), (.string ⟨#[]⟩), (.bool false), (.bool false)] [(0, 1), (1, 2)] [x11, x14]) fun x15 =>
 alc A 12 (allocOf (opdT 22 [24] [x15]) (.buildSlice 8 1 [(.complex .f64 0 0), (.int .i64 0), (.string ⟨#[]⟩), (.bool false), (.int .i64 0), (.string ⟨#[]⟩), (.bool false), (.bool false)] [(0, 8, (.tmp 24))])) h [] fun x16 h pd =>
 rb A (mLd h x8) x9 <|
 rb A (mLd h x10) x11 <|
 abl 12 h pd fun h pd =>
 hb A (hApp 8 80 h x9 x16) fun x17 h =>
 pb A (vNil x0) fun x18 =>
 pb A (vFa 6 x18) fun x19 =>
 wb A (hSt 1 h x19 x17) fun h =>
 j0 [.nilFunc] h) (pb A (vIop .eql x3 (.int .i64 5)) fun x5 =>
 jn (fun vs h => p1 A vs fun x6 =>
 jn (fun vs h => p1 A vs fun x7 =>
 j0 [x7] h) fun j1 =>
 ic A x6 (pb A (mLdA 5 h x2) fun x7 =>
 cs 171 [x0, x7] h fun x8 h =>
 pb A (vNil x0) fun x9 =>
 pb A (vFa 6 x9) fun x10 =>
 pb A (mLd h x10) fun x11 =>
 pb A (vFa 4 x2) fun x12 =>
 pb A (mLd h x12) fun x13 =>
 pb A (vFa 1 x2) fun x14 =>
 pb A (mLd h x14) fun x15 =>
 cs 172 [x0, x15] h fun x16 h =>
 pb A (vBld [(.complex .f64 0 0), (.int .i64 0), (.string ⟨#[]⟩), (.bool false), (.int .i64 0), (.string ⟨#[]⟩), (.bool false), (.bool false)] [(0, 1), (1, 2), (3, 1)] [x13, x16, (.bool true)]) fun x17 =>
 alc A 12 (allocOf (opdT 22 [48] [x17]) (.buildSlice 8 1 [(.complex .f64 0 0), (.int .i64 0), (.string ⟨#[]⟩), (.bool false), (.int .i64 0), (.string ⟨#[]⟩), (.bool false), (.bool false)] [(0, 8, (.tmp 48))])) h [] fun x18 h pd =>
 rb A (mLd h x10) x11 <|
 rb A (mLd h x12) x13 <|
 abl 12 h pd fun h pd =>
 hb A (hApp 8 80 h x11 x18) fun x19 h =>
 pb A (vNil x0) fun x20 =>
 pb A (vFa 6 x20) fun x21 =>
 wb A (hSt 1 h x21 x19) fun h =>
 j1 [.nilFunc] h) (pb A (vIop .eql x3 (.int .i64 19)) fun x7 =>
 ic A x7 (pb A (mLdA 5 h x2) fun x8 =>
 cs 173 [x0, x8] h fun x9 h =>
 K (.tuple #[]) h) (pb A (vIop .eql x3 (.int .i64 20)) fun x8 =>
 ic A x8 (pb A (mLdA 5 h x2) fun x9 =>
 cs 174 [x0, x9] h fun x10 h =>
 K (.tuple #[]) h) (pb A (vIop .eql x3 (.int .i64 38)) fun x9 =>
 jn (fun vs h => p1 A vs fun x10 =>
 j1 [x10] h) fun j2 =>
 ic A x9 (pb A (mF 3 h x0) fun x10 =>
 pb A (vIop .gtr x10 (.int .i64 0)) fun x11 =>
 gp A x11 false (some x0) fun x12 =>
 gp A x11 false (mF 4 h x12) fun x13 =>
 gp A x11 false (vIop .neq x13 (.int .i64 5)) fun x14 =>
 gp A x11 false (some x14) fun x15 =>
 gp A x15 true (some x0) fun x16 =>
 gp A x15 true (mF 4 h x16) fun x17 =>
 gp A x15 true (vIop .neq x17 (.int .i64 6)) fun x18 =>
 gp A x11 false (vPick x15 x18 (.bool false)) fun x19 =>
 gp A x11 false (some x19) fun x20 =>
 gp A x20 true (some x0) fun x21 =>
 gp A x20 true (mF 4 h x21) fun x22 =>
 gp A x20 true (vIop .neq x22 (.int .i64 7)) fun x23 =>
 gp A x11 false (vPick x20 x23 (.bool false)) fun x24 =>
 pb A (vPick x11 (.bool true) x24) fun x25 =>
 jn (fun vs h => 
 j2 [.nilFunc] h) fun j3 =>
 ic A x25 (pb A (mF 4 h x2) fun x26 =>
 cs 117 [x0, x26, (.int .i64 32)] h fun x27 h =>
 j3 [] h) (j3 [] h)) (pb A (vIop .eql x3 (.int .i64 40)) fun x10 =>
 jn (fun vs h => p1 A vs fun x11 =>
 j2 [x11] h) fun j3 =>
 ic A x10 (pb A (mF 3 h x0) fun x11 =>
 pb A (vIop .eql x11 (.int .i64 0)) fun x12 =>
 jn (fun vs h => 
 j3 [.nilFunc] h) fun j4 =>
 ic A x12 (pb A (mF 4 h x2) fun x13 =>
 cs 117 [x0, x13, (.int .i64 32)] h fun x14 h =>
 j4 [] h) (j4 [] h)) (pb A (vIop .eql x3 (.int .i64 36)) fun x11 =>
 jn (fun vs h => p1 A vs fun x12 =>
 jn (fun vs h => p1 A vs fun x13 =>
 j3 [x13] h) fun j4 =>
 ic A x12 (pb A (mF 5 h x0) fun x13 =>
 pb A (vIop .eql x13 (.int .i64 0)) fun x14 =>
 jn (fun vs h => 
 j4 [.nilFunc] h) fun j5 =>
 ic A x14 (pb A (mF 4 h x2) fun x15 =>
 cs 117 [x0, x15, (.int .i64 32)] h fun x16 h =>
 j5 [] h) (j5 [] h)) (pb A (vIop .eql x3 (.int .i64 32)) fun x13 =>
 jn (fun vs h => p1 A vs fun x14 =>
 jn (fun vs h => p1 A vs fun x15 =>
 j4 [x15] h) fun j5 =>
 ic A x14 (pb A (mF 5 h x0) fun x15 =>
 pb A (vIop .add x15 (.int .i64 1)) fun x16 =>
 wb A (hF 5 h x0 x16) fun h =>
 pb A (vDfr 175 [.nilFunc, x0]) fun x17 =>
 j5 [x17] h) (j5 [.nilFunc] h)) fun j5 =>
 ic A x13 (j5 [x13] h) (pb A (vIop .eql x3 (.int .i64 33)) fun x14 =>
 jn (fun vs h => p1 A vs fun x15 =>
 j5 [x15] h) fun j6 =>
 ic A x14 (j6 [x14] h) (pb A (vIop .eql x3 (.int .i64 34)) fun x15 =>
 j6 [x15] h)))) fun j4 =>
 ic A x11 (j4 [x11] h) (pb A (vIop .eql x3 (.int .i64 37)) fun x12 =>
 j4 [x12] h))))))) fun j1 =>
 ic A x5 (j1 [x5] h) (pb A (vIop .eql x3 (.int .i64 11)) fun x6 =>
 jn (fun vs h => p1 A vs fun x7 =>
 j1 [x7] h) fun j2 =>
 ic A x6 (j2 [x6] h) (pb A (vIop .eql x3 (.int .i64 41)) fun x7 =>
 jn (fun vs h => p1 A vs fun x8 =>
 j2 [x8] h) fun j3 =>
 ic A x7 (j3 [x7] h) (pb A (vIop .eql x3 (.int .i64 35)) fun x8 =>
 j3 [x8] h))))
theorem r119 : RowS Tryz.prog 22 119 d119 := rowS Tryz.func119 (by kernel_rfl) true [q29, q106, q118, q144] (fun R A cs csd lo => by kernel_rfl)
end Go.Am.S
