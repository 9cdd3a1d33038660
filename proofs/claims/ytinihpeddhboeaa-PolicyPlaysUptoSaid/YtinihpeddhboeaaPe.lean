/-
  PROVED: 'banyanlaw16.PolicyPlays' over heaps is true. Condition: its arguments read as slices of at most 1048576 elements.
-/
import Derived.Test.YtinihpeddhboeaaPd
import Derived.Test.YtinihpeddhboeaaChecked
set_option linter.unusedVariables false
set_option linter.unusedSimpArgs false

namespace PolN
open Go Go.X Go.Proofs
set_option linter.unusedVariables false
set_option maxRecDepth 100000
theorem pl_b1 (C : ZCall) (lf : Nat) (K : ZK) (h : Heap) (p a : SL) (gv j : Int) (d : Nat → ZV) (k X : ZT → Heap → Prop) (E : List (Nat × (ZT → Heap → Prop))) : zAt Try.prog C lf 6 [1, 1, 1, 0, 1, 0, 0] (zt (ntOf Try.prog 6) (ov
 [(0, .sl p), (1, .sl a), (5, .bool true), (6, .int .i64 gv), (7, .int .i64 j)] d)) k ⟨(0, X) :: E, zFin Try.prog 6 K⟩ h = (@cnd Prop (decide (j < Int.ofNat (SL.n p))) (@cnd Prop (cnd true (decide (gv ≤ 2147483647)) false) (ZW
 IntKind.i64 (gv + 1) fun r_1 => ZAnd (SL.nil p = false) (ZIdx j (SL.len p) fun m_1 => ZAnd (false = false) (ZAnd (false = false) (ZLdL h (SL.i p) (Nat.add (SL.o p + m_1 * 2) 1) fun s_1 => ZW IntKind.i64 (r_1 + Int.ofNat (SL.n
 s_1)) fun r_2 => ZW IntKind.i64 (j + 1) fun r_3 => k [ZV.sl p, ZV.sl a, d 2, d 3, d 4, ZV.bool true, ZV.int IntKind.i64 r_2, ZV.int IntKind.i64 r_3, d 8, d 9, d 10, d 11, d 12, d 13, d 14, d 15, d 16, d 17, d 18, d 19, d 20, d 21,
 d 22, d 23, d 24, d 25, d 26, d 27, d 28, d 29, d 30, ZV.int IntKind.i64 j, ZV.sl p, ZV.int IntKind.i64 (Int.ofNat (SL.n p)), ZV.bool (decide (j < Int.ofNat (SL.n p))), ZV.bool true, ZV.int IntKind.i64 gv, ZV.bool (decide (gv ≤
 2147483647)), ZV.bool true, ZV.int IntKind.i64 j, ZV.int IntKind.i64 r_3, ZV.int IntKind.i64 gv, ZV.int IntKind.i64 r_1, ZV.sl p, ZV.int IntKind.i64 j, ZV.pv false (SL.i p) (SL.o p + m_1 * 2), ZV.pv false (SL.i p) (Nat.add (SL.o p
 + m_1 * 2) 1), ZV.sl s_1, ZV.int IntKind.i64 (Int.ofNat (SL.n s_1)), ZV.int IntKind.i64 r_2, d 50, d 51, d 52, d 53, d 54, d 55, d 56, d 57, d 58, d 59, d 60, d 61, d 62, d 63, d 64, d 65, d 66, d 67, d 68, d 69, d 70, d 71, d 72,
 d 73, d 74, d 75, d 76, d 77, d 78, d 79, d 80, d 81, d 82, d 83, d 84, d 85, d 86, d 87, d 88, d 89, d 90, d 91, d 92, d 93, d 94, d 95, d 96, d 97, d 98, d 99, d 100, d 101, d 102, d 103, d 104, d 105, d 106, d 107, d 108, d
 109, d 110, d 111, d 112, d 113, d 114, d 115, d 116, d 117, d 118, d 119, d 120, d 121, d 122, d 123, d 124, d 125, d 126, d 127, d 128, d 129, d 130, d 131, d 132, d 133, d 134, d 135, d 136, d 137, d 138, d 139, d 140, d 141, d
 142, d 143, d 144, d 145, d 146, d 147, d 148, d 149, d 150, d 151, d 152, d 153, d 154, d 155, d 156, d 157, d 158, d 159, d 160, d 161, d 162, d 163, d 164, d 165, d 166, d 167, d 168, d 169, d 170, d 171, d 172, d 173, d 174, d
 175, d 176, d 177, d 178, d 179, d 180, d 181, d 182, d 183, d 184, d 185, d 186, d 187, d 188, d 189, d 190, d 191, d 192, d 193, d 194, d 195, d 196, d 197, d 198, d 199, d 200, d 201, d 202, d 203, d 204, d 205, d 206, d 207, d
 208, d 209, d 210, d 211, d 212, d 213, d 214, d 215, d 216, d 217, d 218, d 219, d 220, d 221, d 222, d 223, d 224, d 225, d 226, d 227, d 228, d 229, d 230, d 231, d 232, d 233, d 234, d 235, d 236, d 237, d 238, d 239, d 240, d
 241, d 242, d 243, d 244, d 245, d 246, d 247, d 248, d 249, d 250, d 251, d 252, d 253, d 254, d 255, d 256, d 257, d 258, d 259, d 260, d 261, d 262, d 263, d 264, d 265, d 266, d 267, d 268, d 269, d 270, d 271, d 272, d 273, d
 274, d 275, d 276, d 277, d 278, d 279, d 280, d 281, d 282, d 283, d 284, d 285, d 286, d 287, d 288, d 289, d 290, d 291] h)))) (X [ZV.sl p, ZV.sl a, d 2, d 3, d 4, ZV.bool true, ZV.int IntKind.i64 gv, ZV.int IntKind.i64 j, d 8,
 d 9, d 10, d 11, d 12, d 13, d 14, d 15, d 16, d 17, d 18, d 19, d 20, d 21, d 22, d 23, d 24, d 25, d 26, d 27, d 28, d 29, d 30, ZV.int IntKind.i64 j, ZV.sl p, ZV.int IntKind.i64 (Int.ofNat (SL.n p)), ZV.bool (decide (j <
 Int.ofNat (SL.n p))), ZV.bool true, ZV.int IntKind.i64 gv, ZV.bool (decide (gv ≤ 2147483647)), ZV.bool false, d 39, d 40, d 41, d 42, d 43, d 44, d 45, d 46, d 47, d 48, d 49, d 50, d 51, d 52, d 53, d 54, d 55, d 56, d 57, d 58,
 d 59, d 60, d 61, d 62, d 63, d 64, d 65, d 66, d 67, d 68, d 69, d 70, d 71, d 72, d 73, d 74, d 75, d 76, d 77, d 78, d 79, d 80, d 81, d 82, d 83, d 84, d 85, d 86, d 87, d 88, d 89, d 90, d 91, d 92, d 93, d 94, d 95, d 96, d
 97, d 98, d 99, d 100, d 101, d 102, d 103, d 104, d 105, d 106, d 107, d 108, d 109, d 110, d 111, d 112, d 113, d 114, d 115, d 116, d 117, d 118, d 119, d 120, d 121, d 122, d 123, d 124, d 125, d 126, d 127, d 128, d 129, d
 130, d 131, d 132, d 133, d 134, d 135, d 136, d 137, d 138, d 139, d 140, d 141, d 142, d 143, d 144, d 145, d 146, d 147, d 148, d 149, d 150, d 151, d 152, d 153, d 154, d 155, d 156, d 157, d 158, d 159, d 160, d 161, d 162, d
 163, d 164, d 165, d 166, d 167, d 168, d 169, d 170, d 171, d 172, d 173, d 174, d 175, d 176, d 177, d 178, d 179, d 180, d 181, d 182, d 183, d 184, d 185, d 186, d 187, d 188, d 189, d 190, d 191, d 192, d 193, d 194, d 195, d
 196, d 197, d 198, d 199, d 200, d 201, d 202, d 203, d 204, d 205, d 206, d 207, d 208, d 209, d 210, d 211, d 212, d 213, d 214, d 215, d 216, d 217, d 218, d 219, d 220, d 221, d 222, d 223, d 224, d 225, d 226, d 227, d 228, d
 229, d 230, d 231, d 232, d 233, d 234, d 235, d 236, d 237, d 238, d 239, d 240, d 241, d 242, d 243, d 244, d 245, d 246, d 247, d 248, d 249, d 250, d 251, d 252, d 253, d 254, d 255, d 256, d 257, d 258, d 259, d 260, d 261, d
 262, d 263, d 264, d 265, d 266, d 267, d 268, d 269, d 270, d 271, d 272, d 273, d 274, d 275, d 276, d 277, d 278, d 279, d 280, d 281, d 282, d 283, d 284, d 285, d 286, d 287, d 288, d 289, d 290, d 291] h)) (X [ZV.sl p, ZV.sl
 a, d 2, d 3, d 4, ZV.bool true, ZV.int IntKind.i64 gv, ZV.int IntKind.i64 j, d 8, d 9, d 10, d 11, d 12, d 13, d 14, d 15, d 16, d 17, d 18, d 19, d 20, d 21, d 22, d 23, d 24, d 25, d 26, d 27, d 28, d 29, d 30, ZV.int
 IntKind.i64 j, ZV.sl p, ZV.int IntKind.i64 (Int.ofNat (SL.n p)), ZV.bool (decide (j < Int.ofNat (SL.n p))), ZV.bool false, ZV.tup [], ZV.tup [], ZV.bool false, d 39, d 40, d 41, d 42, d 43, d 44, d 45, d 46, d 47, d 48, d 49, d
 50, d 51, d 52, d 53, d 54, d 55, d 56, d 57, d 58, d 59, d 60, d 61, d 62, d 63, d 64, d 65, d 66, d 67, d 68, d 69, d 70, d 71, d 72, d 73, d 74, d 75, d 76, d 77, d 78, d 79, d 80, d 81, d 82, d 83, d 84, d 85, d 86, d 87, d
 88, d 89, d 90, d 91, d 92, d 93, d 94, d 95, d 96, d 97, d 98, d 99, d 100, d 101, d 102, d 103, d 104, d 105, d 106, d 107, d 108, d 109, d 110, d 111, d 112, d 113, d 114, d 115, d 116, d 117, d 118, d 119, d 120, d 121, d 122,
 d 123, d 124, d 125, d 126, d 127, d 128, d 129, d 130, d 131, d 132, d 133, d 134, d 135, d 136, d 137, d 138, d 139, d 140, d 141, d 142, d 143, d 144, d 145, d 146, d 147, d 148, d 149, d 150, d 151, d 152, d 153, d 154, d 155,
 d 156, d 157, d 158, d 159, d 160, d 161, d 162, d 163, d 164, d 165, d 166, d 167, d 168, d 169, d 170, d 171, d 172, d 173, d 174, d 175, d 176, d 177, d 178, d 179, d 180, d 181, d 182, d 183, d 184, d 185, d 186, d 187, d 188,
 d 189, d 190, d 191, d 192, d 193, d 194, d 195, d 196, d 197, d 198, d 199, d 200, d 201, d 202, d 203, d 204, d 205, d 206, d 207, d 208, d 209, d 210, d 211, d 212, d 213, d 214, d 215, d 216, d 217, d 218, d 219, d 220, d 221,
 d 222, d 223, d 224, d 225, d 226, d 227, d 228, d 229, d 230, d 231, d 232, d 233, d 234, d 235, d 236, d 237, d 238, d 239, d 240, d 241, d 242, d 243, d 244, d 245, d 246, d 247, d 248, d 249, d 250, d 251, d 252, d 253, d 254,
 d 255, d 256, d 257, d 258, d 259, d 260, d 261, d 262, d 263, d 264, d 265, d 266, d 267, d 268, d 269, d 270, d 271, d 272, d 273, d 274, d 275, d 276, d 277, d 278, d 279, d 280, d 281, d 282, d 283, d 284, d 285, d 286, d 287,
 d 288, d 289, d 290, d 291] h)) := by kernel_rfl
theorem pl_a1 (C : ZCall) (lf : Nat) (K : ZK) (h : Heap) (p a : SL) (gv : Int) (d : Nat → ZV) : zAt Try.prog C lf 6 [1, 1, 1, 1] (zt (ntOf Try.prog 6) (ov [(0, .sl p), (1, .sl a), (5, .bool true), (6, .int .i64 gv)] d)) (zFin
 Try.prog 6 K) ⟨[], zFin Try.prog 6 K⟩ h = (ZLoop lf (zAt Try.prog C lf 6 [1, 1, 1, 1, 0, 1, 0, 0]) [ZV.sl p, ZV.sl a, d 2, d 3, d 4, ZV.bool true, ZV.int IntKind.i64 gv, d 7, ZV.int IntKind.i64 0, d 9, d 10, d 11, d 12, d 13, d
 14, d 15, d 16, d 17, d 18, d 19, d 20, d 21, d 22, d 23, d 24, d 25, d 26, d 27, d 28, d 29, d 30, d 31, d 32, d 33, d 34, d 35, d 36, d 37, d 38, d 39, d 40, d 41, d 42, d 43, d 44, d 45, d 46, d 47, d 48, d 49, d 50, d 51, d
 52, d 53, d 54, d 55, d 56, d 57, d 58, d 59, d 60, d 61, d 62, d 63, d 64, d 65, d 66, d 67, d 68, d 69, d 70, d 71, d 72, d 73, d 74, d 75, d 76, d 77, d 78, d 79, d 80, d 81, d 82, d 83, d 84, d 85, d 86, d 87, d 88, d 89, d
 90, d 91, d 92, d 93, d 94, d 95, d 96, d 97, d 98, d 99, d 100, d 101, d 102, d 103, d 104, d 105, d 106, d 107, d 108, d 109, d 110, d 111, d 112, d 113, d 114, d 115, d 116, d 117, d 118, d 119, d 120, d 121, d 122, d 123, d
 124, d 125, d 126, d 127, d 128, d 129, d 130, d 131, d 132, d 133, d 134, d 135, d 136, d 137, d 138, d 139, d 140, d 141, d 142, d 143, d 144, d 145, d 146, d 147, d 148, d 149, d 150, d 151, d 152, d 153, d 154, d 155, d 156, d
 157, d 158, d 159, d 160, d 161, d 162, d 163, d 164, d 165, d 166, d 167, d 168, d 169, d 170, d 171, d 172, d 173, d 174, d 175, d 176, d 177, d 178, d 179, d 180, d 181, d 182, d 183, d 184, d 185, d 186, d 187, d 188, d 189, d
 190, d 191, d 192, d 193, d 194, d 195, d 196, d 197, d 198, d 199, d 200, d 201, d 202, d 203, d 204, d 205, d 206, d 207, d 208, d 209, d 210, d 211, d 212, d 213, d 214, d 215, d 216, d 217, d 218, d 219, d 220, d 221, d 222, d
 223, d 224, d 225, d 226, d 227, d 228, d 229, d 230, d 231, d 232, d 233, d 234, d 235, d 236, d 237, d 238, d 239, d 240, d 241, d 242, d 243, d 244, d 245, d 246, d 247, d 248, d 249, d 250, d 251, d 252, d 253, d 254, d 255, d
 256, d 257, d 258, d 259, d 260, d 261, d 262, d 263, d 264, d 265, d 266, d 267, d 268, d 269, d 270, d 271, d 272, d 273, d 274, d 275, d 276, d 277, d 278, d 279, d 280, d 281, d 282, d 283, d 284, d 285, d 286, d 287, d 288, d
 289, d 290, d 291] (KZ.mk ((2, fun z' h' => zAt Try.prog C lf 6 [1, 1, 1, 1, 1] z' (zFin Try.prog 6 K) (KZ.mk [] (zFin Try.prog 6 K)) h') :: KZ.env (KZ.mk [] (zFin Try.prog 6 K))) (KZ.ret (KZ.mk [] (zFin Try.prog 6 K)))) h) := by
 kernel_rfl
theorem pl_b2 (C : ZCall) (lf : Nat) (K : ZK) (h : Heap) (p a : SL) (gv j : Int) (d : Nat → ZV) (k X : ZT → Heap → Prop) (E : List (Nat × (ZT → Heap → Prop))) : zAt Try.prog C lf 6 [1, 1, 1, 1, 0, 1, 0, 0] (zt (ntOf Try.prog 6)
 (ov [(0, .sl p), (1, .sl a), (5, .bool true), (6, .int .i64 gv), (8, .int .i64 j)] d)) k ⟨(2, X) :: E, zFin Try.prog 6 K⟩ h = (@cnd Prop (decide (j < Int.ofNat (SL.n a))) (@cnd Prop (cnd true (decide (gv ≤ 2147483647)) false) (ZW
 IntKind.i64 (gv + 1) fun r_1 => ZAnd (SL.nil a = false) (ZIdx j (SL.len a) fun m_1 => ZAnd (false = false) (ZAnd (false = false) (ZLdL h (SL.i a) (Nat.add (SL.o a + m_1 * 2) 1) fun s_1 => ZW IntKind.i64 (r_1 + Int.ofNat (SL.n
 s_1)) fun r_2 => ZW IntKind.i64 (j + 1) fun r_3 => k [ZV.sl p, ZV.sl a, d 2, d 3, d 4, ZV.bool true, ZV.int IntKind.i64 r_2, d 7, ZV.int IntKind.i64 r_3, d 9, d 10, d 11, d 12, d 13, d 14, d 15, d 16, d 17, d 18, d 19, d 20, d 21,
 d 22, d 23, d 24, d 25, d 26, d 27, d 28, d 29, d 30, d 31, d 32, d 33, d 34, d 35, d 36, d 37, d 38, d 39, d 40, d 41, d 42, d 43, d 44, d 45, d 46, d 47, d 48, d 49, ZV.int IntKind.i64 j, ZV.sl a, ZV.int IntKind.i64 (Int.ofNat
 (SL.n a)), ZV.bool (decide (j < Int.ofNat (SL.n a))), ZV.bool true, ZV.int IntKind.i64 gv, ZV.bool (decide (gv ≤ 2147483647)), ZV.bool true, ZV.int IntKind.i64 j, ZV.int IntKind.i64 r_3, ZV.int IntKind.i64 gv, ZV.int IntKind.i64
 r_1, ZV.sl a, ZV.int IntKind.i64 j, ZV.pv false (SL.i a) (SL.o a + m_1 * 2), ZV.pv false (SL.i a) (Nat.add (SL.o a + m_1 * 2) 1), ZV.sl s_1, ZV.int IntKind.i64 (Int.ofNat (SL.n s_1)), ZV.int IntKind.i64 r_2, d 69, d 70, d 71, d
 72, d 73, d 74, d 75, d 76, d 77, d 78, d 79, d 80, d 81, d 82, d 83, d 84, d 85, d 86, d 87, d 88, d 89, d 90, d 91, d 92, d 93, d 94, d 95, d 96, d 97, d 98, d 99, d 100, d 101, d 102, d 103, d 104, d 105, d 106, d 107, d 108, d
 109, d 110, d 111, d 112, d 113, d 114, d 115, d 116, d 117, d 118, d 119, d 120, d 121, d 122, d 123, d 124, d 125, d 126, d 127, d 128, d 129, d 130, d 131, d 132, d 133, d 134, d 135, d 136, d 137, d 138, d 139, d 140, d 141, d
 142, d 143, d 144, d 145, d 146, d 147, d 148, d 149, d 150, d 151, d 152, d 153, d 154, d 155, d 156, d 157, d 158, d 159, d 160, d 161, d 162, d 163, d 164, d 165, d 166, d 167, d 168, d 169, d 170, d 171, d 172, d 173, d 174, d
 175, d 176, d 177, d 178, d 179, d 180, d 181, d 182, d 183, d 184, d 185, d 186, d 187, d 188, d 189, d 190, d 191, d 192, d 193, d 194, d 195, d 196, d 197, d 198, d 199, d 200, d 201, d 202, d 203, d 204, d 205, d 206, d 207, d
 208, d 209, d 210, d 211, d 212, d 213, d 214, d 215, d 216, d 217, d 218, d 219, d 220, d 221, d 222, d 223, d 224, d 225, d 226, d 227, d 228, d 229, d 230, d 231, d 232, d 233, d 234, d 235, d 236, d 237, d 238, d 239, d 240, d
 241, d 242, d 243, d 244, d 245, d 246, d 247, d 248, d 249, d 250, d 251, d 252, d 253, d 254, d 255, d 256, d 257, d 258, d 259, d 260, d 261, d 262, d 263, d 264, d 265, d 266, d 267, d 268, d 269, d 270, d 271, d 272, d 273, d
 274, d 275, d 276, d 277, d 278, d 279, d 280, d 281, d 282, d 283, d 284, d 285, d 286, d 287, d 288, d 289, d 290, d 291] h)))) (X [ZV.sl p, ZV.sl a, d 2, d 3, d 4, ZV.bool true, ZV.int IntKind.i64 gv, d 7, ZV.int IntKind.i64 j,
 d 9, d 10, d 11, d 12, d 13, d 14, d 15, d 16, d 17, d 18, d 19, d 20, d 21, d 22, d 23, d 24, d 25, d 26, d 27, d 28, d 29, d 30, d 31, d 32, d 33, d 34, d 35, d 36, d 37, d 38, d 39, d 40, d 41, d 42, d 43, d 44, d 45, d 46, d
 47, d 48, d 49, ZV.int IntKind.i64 j, ZV.sl a, ZV.int IntKind.i64 (Int.ofNat (SL.n a)), ZV.bool (decide (j < Int.ofNat (SL.n a))), ZV.bool true, ZV.int IntKind.i64 gv, ZV.bool (decide (gv ≤ 2147483647)), ZV.bool false, d 58, d 59,
 d 60, d 61, d 62, d 63, d 64, d 65, d 66, d 67, d 68, d 69, d 70, d 71, d 72, d 73, d 74, d 75, d 76, d 77, d 78, d 79, d 80, d 81, d 82, d 83, d 84, d 85, d 86, d 87, d 88, d 89, d 90, d 91, d 92, d 93, d 94, d 95, d 96, d 97, d
 98, d 99, d 100, d 101, d 102, d 103, d 104, d 105, d 106, d 107, d 108, d 109, d 110, d 111, d 112, d 113, d 114, d 115, d 116, d 117, d 118, d 119, d 120, d 121, d 122, d 123, d 124, d 125, d 126, d 127, d 128, d 129, d 130, d
 131, d 132, d 133, d 134, d 135, d 136, d 137, d 138, d 139, d 140, d 141, d 142, d 143, d 144, d 145, d 146, d 147, d 148, d 149, d 150, d 151, d 152, d 153, d 154, d 155, d 156, d 157, d 158, d 159, d 160, d 161, d 162, d 163, d
 164, d 165, d 166, d 167, d 168, d 169, d 170, d 171, d 172, d 173, d 174, d 175, d 176, d 177, d 178, d 179, d 180, d 181, d 182, d 183, d 184, d 185, d 186, d 187, d 188, d 189, d 190, d 191, d 192, d 193, d 194, d 195, d 196, d
 197, d 198, d 199, d 200, d 201, d 202, d 203, d 204, d 205, d 206, d 207, d 208, d 209, d 210, d 211, d 212, d 213, d 214, d 215, d 216, d 217, d 218, d 219, d 220, d 221, d 222, d 223, d 224, d 225, d 226, d 227, d 228, d 229, d
 230, d 231, d 232, d 233, d 234, d 235, d 236, d 237, d 238, d 239, d 240, d 241, d 242, d 243, d 244, d 245, d 246, d 247, d 248, d 249, d 250, d 251, d 252, d 253, d 254, d 255, d 256, d 257, d 258, d 259, d 260, d 261, d 262, d
 263, d 264, d 265, d 266, d 267, d 268, d 269, d 270, d 271, d 272, d 273, d 274, d 275, d 276, d 277, d 278, d 279, d 280, d 281, d 282, d 283, d 284, d 285, d 286, d 287, d 288, d 289, d 290, d 291] h)) (X [ZV.sl p, ZV.sl a, d
 2, d 3, d 4, ZV.bool true, ZV.int IntKind.i64 gv, d 7, ZV.int IntKind.i64 j, d 9, d 10, d 11, d 12, d 13, d 14, d 15, d 16, d 17, d 18, d 19, d 20, d 21, d 22, d 23, d 24, d 25, d 26, d 27, d 28, d 29, d 30, d 31, d 32, d 33, d
 34, d 35, d 36, d 37, d 38, d 39, d 40, d 41, d 42, d 43, d 44, d 45, d 46, d 47, d 48, d 49, ZV.int IntKind.i64 j, ZV.sl a, ZV.int IntKind.i64 (Int.ofNat (SL.n a)), ZV.bool (decide (j < Int.ofNat (SL.n a))), ZV.bool false, ZV.tup
 [], ZV.tup [], ZV.bool false, d 58, d 59, d 60, d 61, d 62, d 63, d 64, d 65, d 66, d 67, d 68, d 69, d 70, d 71, d 72, d 73, d 74, d 75, d 76, d 77, d 78, d 79, d 80, d 81, d 82, d 83, d 84, d 85, d 86, d 87, d 88, d 89, d 90, d
 91, d 92, d 93, d 94, d 95, d 96, d 97, d 98, d 99, d 100, d 101, d 102, d 103, d 104, d 105, d 106, d 107, d 108, d 109, d 110, d 111, d 112, d 113, d 114, d 115, d 116, d 117, d 118, d 119, d 120, d 121, d 122, d 123, d 124, d
 125, d 126, d 127, d 128, d 129, d 130, d 131, d 132, d 133, d 134, d 135, d 136, d 137, d 138, d 139, d 140, d 141, d 142, d 143, d 144, d 145, d 146, d 147, d 148, d 149, d 150, d 151, d 152, d 153, d 154, d 155, d 156, d 157, d
 158, d 159, d 160, d 161, d 162, d 163, d 164, d 165, d 166, d 167, d 168, d 169, d 170, d 171, d 172, d 173, d 174, d 175, d 176, d 177, d 178, d 179, d 180, d 181, d 182, d 183, d 184, d 185, d 186, d 187, d 188, d 189, d 190, d
 191, d 192, d 193, d 194, d 195, d 196, d 197, d 198, d 199, d 200, d 201, d 202, d 203, d 204, d 205, d 206, d 207, d 208, d 209, d 210, d 211, d 212, d 213, d 214, d 215, d 216, d 217, d 218, d 219, d 220, d 221, d 222, d 223, d
 224, d 225, d 226, d 227, d 228, d 229, d 230, d 231, d 232, d 233, d 234, d 235, d 236, d 237, d 238, d 239, d 240, d 241, d 242, d 243, d 244, d 245, d 246, d 247, d 248, d 249, d 250, d 251, d 252, d 253, d 254, d 255, d 256, d
 257, d 258, d 259, d 260, d 261, d 262, d 263, d 264, d 265, d 266, d 267, d 268, d 269, d 270, d 271, d 272, d 273, d 274, d 275, d 276, d 277, d 278, d 279, d 280, d 281, d 282, d 283, d 284, d 285, d 286, d 287, d 288, d 289, d
 290, d 291] h)) := by kernel_rfl
theorem pl_a2 (C : ZCall) (lf : Nat) (K : ZK) (h : Heap) (p a : SL) (gv : Int) (d : Nat → ZV) : zAt Try.prog C lf 6 [1, 1, 1, 1, 1] (zt (ntOf Try.prog 6) (ov [(0, .sl p), (1, .sl a), (5, .bool true), (6, .int .i64 gv)] d)) (zFin
 Try.prog 6 K) ⟨[], zFin Try.prog 6 K⟩ h = (@cnd Prop (decide (2147483647 < gv)) (K (ZV.bool true) h) (ZLoop lf (zAt Try.prog C lf 6 [1, 1, 1, 1, 1, 1, 1, 1, 0, 1, 0, 0]) [ZV.sl p, ZV.sl a, d 2, d 3, d 4, ZV.bool true, ZV.int
 IntKind.i64 gv, d 7, d 8, ZV.sl (SL.mk true 0 0 0 0 false), ZV.sl (SL.mk true 0 0 0 0 false), ZV.int IntKind.i64 0, d 12, d 13, d 14, d 15, d 16, d 17, d 18, d 19, d 20, d 21, d 22, d 23, d 24, d 25, d 26, d 27, d 28, d 29, d 30,
 d 31, d 32, d 33, d 34, d 35, d 36, d 37, d 38, d 39, d 40, d 41, d 42, d 43, d 44, d 45, d 46, d 47, d 48, d 49, d 50, d 51, d 52, d 53, d 54, d 55, d 56, d 57, d 58, d 59, d 60, d 61, d 62, d 63, d 64, d 65, d 66, d 67, d 68,
 ZV.int IntKind.i64 gv, ZV.bool false, d 71, d 72, d 73, d 74, d 75, d 76, d 77, d 78, d 79, d 80, d 81, d 82, d 83, d 84, d 85, d 86, d 87, d 88, d 89, d 90, d 91, d 92, d 93, d 94, d 95, d 96, d 97, d 98, d 99, d 100, d 101, d
 102, d 103, d 104, d 105, d 106, d 107, d 108, d 109, d 110, d 111, d 112, d 113, d 114, d 115, d 116, d 117, d 118, d 119, d 120, d 121, d 122, d 123, d 124, d 125, d 126, d 127, d 128, d 129, d 130, d 131, d 132, d 133, d 134, d
 135, d 136, d 137, d 138, d 139, d 140, d 141, d 142, d 143, d 144, d 145, d 146, d 147, d 148, d 149, d 150, d 151, d 152, d 153, d 154, d 155, d 156, d 157, d 158, d 159, d 160, d 161, d 162, d 163, d 164, d 165, d 166, d 167, d
 168, d 169, d 170, d 171, d 172, d 173, d 174, d 175, d 176, d 177, d 178, d 179, d 180, d 181, d 182, d 183, d 184, d 185, d 186, d 187, d 188, d 189, d 190, d 191, d 192, d 193, d 194, d 195, d 196, d 197, d 198, d 199, d 200, d
 201, d 202, d 203, d 204, d 205, d 206, d 207, d 208, d 209, d 210, d 211, d 212, d 213, d 214, d 215, d 216, d 217, d 218, d 219, d 220, d 221, d 222, d 223, d 224, d 225, d 226, d 227, d 228, d 229, d 230, d 231, d 232, d 233, d
 234, d 235, d 236, d 237, d 238, d 239, d 240, d 241, d 242, d 243, d 244, d 245, d 246, d 247, d 248, d 249, d 250, d 251, d 252, d 253, d 254, d 255, d 256, d 257, d 258, d 259, d 260, d 261, d 262, d 263, d 264, d 265, d 266, d
 267, d 268, d 269, d 270, d 271, d 272, d 273, d 274, d 275, d 276, d 277, d 278, d 279, d 280, d 281, d 282, d 283, d 284, d 285, d 286, d 287, d 288, d 289, d 290, d 291] (KZ.mk ((4, fun z' h' => zAt Try.prog C lf 6 [1, 1, 1, 1,
 1, 1, 1, 1, 1] z' (zFin Try.prog 6 K) (KZ.mk [] (zFin Try.prog 6 K)) h') :: KZ.env (KZ.mk [] (zFin Try.prog 6 K))) (KZ.ret (KZ.mk [] (zFin Try.prog 6 K)))) h)) := by kernel_rfl
theorem pl_b3 (C : ZCall) (lf : Nat) (K : ZK) (h : Heap) (p a l r : SL) (j : Int) (d : Nat → ZV) (k X : ZT → Heap → Prop) (E : List (Nat × (ZT → Heap → Prop))) : zAt Try.prog C lf 6 [1, 1, 1, 1, 1, 1, 1, 1, 0, 1, 0, 0] (zt (ntOf
 Try.prog 6) (ov [(0, .sl p), (1, .sl a), (5, .bool true), (9, .sl l), (10, .sl r), (11, .int .i64 j)] d)) k ⟨(4, X) :: E, zFin Try.prog 6 K⟩ h = (@cnd Prop (decide (j < Int.ofNat (SL.n p))) (ZAnd (SL.nil p = false) (ZIdx j (SL.len
 p) fun m_1 => ZAnd (false = false) (ZLdI h (SL.i p) (SL.o p + m_1 * 2) IntKind.i64 fun n_1 => ZLdL h (SL.i p) (SL.o p + m_1 * 2 + 1) fun s_1 => ZAnd (false = false) (ZPut (Heap.newO h (AObj.cells [AV.int IntKind.i64 0, AV.nils] 0
 false false)) (Heap.next h) 0 2 (ZAnd (false = false) (ZAnd (false = false) (ZLdL (hput (Heap.newO h (AObj.cells [AV.int IntKind.i64 0, AV.nils] 0 false false)) (Heap.next h) 0 [AV.int IntKind.i64 n_1, SL.av s_1]) (Heap.next h) 1
 fun s_2 => C 11 [ZV.sl s_2] (fun v_1 h'_1 => ZRL (ZV.av v_1) fun s_3 => ZAnd (false = false) (ZAnd (false = false) (ZLdI h'_1 (Heap.next h) 0 IntKind.i64 fun n_2 => ZAnd (false = false) (ZAnd (false = false) (ZLdL h'_1 (Heap.next
 h) 1 fun s_4 => ZNat (Int.ofNat (SL.n s_4)) fun h_1 => ZAnd ((SL.nil s_3 = true → 0 = 0 ∧ h_1 = 0) ∧ (SL.nil s_3 = false → Nat.le 0 h_1 ∧ Nat.le h_1 (SL.cap s_3) ∧ (0 = SL.cap s_3 → SL.ext s_3 = false))) (C 10 [ZV.agg [ZV.int
 IntKind.i64 n_2, ZV.sl (SL.cut s_3 1 0 h_1 (SL.cap s_3) (SL.ext s_3))]] (fun v_2 h'_2 => ZRI (ZV.av v_2) IntKind.i64 fun n_3 => ZAnd (false = false) (ZAnd (false = false) (ZLdI h'_2 (Heap.next h) 0 IntKind.i64 fun n_4 => ZAnd
 (false = false) (ZAnd (false = false) (ZLdL h'_2 (Heap.next h) 1 fun s_5 => ZNat (Int.ofNat (SL.n s_5)) fun h_2 => ZAnd ((SL.nil s_3 = true → 0 = 0 ∧ h_2 = 0) ∧ (SL.nil s_3 = false → Nat.le 0 h_2 ∧ Nat.le h_2 (SL.cap s_3) ∧ (0 =
 SL.cap s_3 → SL.ext s_3 = false))) (C 8 [ZV.agg [ZV.int IntKind.i64 n_4, ZV.sl (SL.cut s_3 1 0 h_2 (SL.cap s_3) (SL.ext s_3))]] (fun v_3 h'_3 => ZRT (ZV.av v_3) 2 fun f_1 => ZRP (f_1 0) fun n_5 j_1 p_1 => ZRI (f_1 1) IntKind.i64
 fun n_6 => ZAnd (false = false) (ZLdI h'_3 (Heap.next h) 0 IntKind.i64 fun n_7 => ZLdL h'_3 (Heap.next h) 1 fun s_6 => C 12 [ZV.agg [ZV.int IntKind.i64 n_7, ZV.sl s_6]] (fun v_4 h'_4 => ZRT (ZV.av v_4) 2 fun f_2 => ZRP (f_2 0) fun
 n_8 j_2 p_2 => ZRI (f_2 1) IntKind.i64 fun n_9 => ZAnd (false = false) (ZAnd (false = false) (ZLdL h'_4 (Heap.next h) 1 fun s_7 => C 13 [ZV.sl s_3, ZV.sl s_7] (fun v_5 h'_5 => ZRB (ZV.av v_5) fun b_1 => @cnd Prop (!b_1) (K
 (ZV.bool false) h'_5) (@cnd Prop (cnd false true !decide (n_3 = n_9)) (K (ZV.bool false) h'_5) (@cnd Prop (cnd false true !decide (n_6 = n_9)) (K (ZV.bool false) h'_5) (@cnd Prop (cnd false true !decide (n_5 = n_8)) (K (ZV.bool
 false) h'_5) (ZLoop lf (zAt Try.prog C lf 6 [1, 1, 1, 1, 1, 1, 1, 1, 0, 1, 0, 0, 1, 0, 0, 1, 1, 1, 1, 1, 1, 1, 0, 1, 0, 0]) [ZV.sl p, ZV.sl a, d 2, d 3, d 4, ZV.bool true, d 6, d 7, d 8, ZV.sl l, ZV.sl r, ZV.int IntKind.i64 j,
 ZV.pv false (Heap.next h) 0, ZV.sl s_3, ZV.int IntKind.i64 n_3, ZV.pv n_5 j_1 p_1, ZV.int IntKind.i64 n_6, ZV.pv n_8 j_2 p_2, ZV.int IntKind.i64 n_9, ZV.bool b_1, ZV.int IntKind.i64 0, d 21, d 22, d 23, d 24, d 25, d 26, d 27, d
 28, d 29, d 30, d 31, d 32, d 33, d 34, d 35, d 36, d 37, d 38, d 39, d 40, d 41, d 42, d 43, d 44, d 45, d 46, d 47, d 48, d 49, d 50, d 51, d 52, d 53, d 54, d 55, d 56, d 57, d 58, d 59, d 60, d 61, d 62, d 63, d 64, d 65, d
 66, d 67, d 68, d 69, d 70, d 71, ZV.int IntKind.i64 j, ZV.sl p, ZV.int IntKind.i64 (Int.ofNat (SL.n p)), ZV.bool true, d 76, d 77, ZV.sl p, ZV.int IntKind.i64 j, ZV.pv false (SL.i p) (SL.o p + m_1 * 2), ZV.agg [ZV.int IntKind.i64
 n_1, ZV.sl s_1], ZV.pv false (Heap.next h) 1, ZV.sl s_2, ZV.sl s_3, ZV.pv false (Heap.next h) 0, ZV.int IntKind.i64 n_2, ZV.sl s_3, ZV.pv false (Heap.next h) 1, ZV.sl s_4, ZV.int IntKind.i64 (Int.ofNat (SL.n s_4)), ZV.sl (SL.cut
 s_3 1 0 h_1 (SL.cap s_3) (SL.ext s_3)), ZV.agg [ZV.int IntKind.i64 n_2, ZV.sl (SL.cut s_3 1 0 h_1 (SL.cap s_3) (SL.ext s_3))], ZV.int IntKind.i64 n_3, ZV.tup [ZV.pv n_5 j_1 p_1, ZV.int IntKind.i64 n_6], ZV.pv false (Heap.next h)
 0, ZV.int IntKind.i64 n_4, ZV.sl s_3, ZV.pv false (Heap.next h) 1, ZV.sl s_5, ZV.int IntKind.i64 (Int.ofNat (SL.n s_5)), ZV.sl (SL.cut s_3 1 0 h_2 (SL.cap s_3) (SL.ext s_3)), ZV.agg [ZV.int IntKind.i64 n_4, ZV.sl (SL.cut s_3 1 0
 h_2 (SL.cap s_3) (SL.ext s_3))], ZV.tup [ZV.pv n_5 j_1 p_1, ZV.int IntKind.i64 n_6], ZV.pv n_5 j_1 p_1, ZV.int IntKind.i64 n_6, ZV.tup [ZV.pv n_8 j_2 p_2, ZV.int IntKind.i64 n_9], ZV.agg [ZV.int IntKind.i64 n_7, ZV.sl s_6], ZV.tup
 [ZV.pv n_8 j_2 p_2, ZV.int IntKind.i64 n_9], ZV.pv n_8 j_2 p_2, ZV.int IntKind.i64 n_9, ZV.sl s_3, ZV.pv false (Heap.next h) 1, ZV.sl s_7, ZV.bool b_1, ZV.bool b_1, ZV.bool !b_1, ZV.bool false, ZV.int IntKind.i64 n_3, ZV.int
 IntKind.i64 n_9, ZV.bool !decide (n_3 = n_9), ZV.bool (cnd false true !decide (n_3 = n_9)), ZV.bool false, ZV.int IntKind.i64 n_6, ZV.int IntKind.i64 n_9, ZV.bool !decide (n_6 = n_9), ZV.bool (cnd false true !decide (n_6 = n_9)),
 ZV.bool false, ZV.pv n_5 j_1 p_1, ZV.bool n_5, ZV.pv n_8 j_2 p_2, ZV.bool n_8, ZV.bool !decide (n_5 = n_8), ZV.bool false, d 134, d 135, d 136, d 137, d 138, d 139, d 140, d 141, d 142, d 143, d 144, d 145, d 146, d 147, d 148, d
 149, d 150, d 151, d 152, d 153, d 154, d 155, d 156, d 157, d 158, d 159, d 160, d 161, d 162, d 163, d 164, d 165, d 166, d 167, d 168, d 169, d 170, d 171, d 172, d 173, d 174, d 175, d 176, d 177, d 178, d 179, d 180, d 181, d
 182, d 183, d 184, d 185, d 186, d 187, d 188, d 189, d 190, d 191, d 192, d 193, d 194, d 195, d 196, d 197, d 198, d 199, d 200, d 201, d 202, d 203, d 204, d 205, d 206, d 207, d 208, d 209, d 210, d 211, d 212, d 213, d 214, d
 215, d 216, d 217, d 218, d 219, d 220, d 221, d 222, d 223, d 224, d 225, d 226, d 227, d 228, d 229, d 230, d 231, d 232, d 233, d 234, d 235, d 236, d 237, d 238, d 239, d 240, d 241, d 242, d 243, d 244, d 245, d 246, d 247, d
 248, d 249, d 250, d 251, d 252, d 253, d 254, d 255, d 256, d 257, d 258, d 259, d 260, d 261, d 262, d 263, d 264, d 265, d 266, d 267, d 268, d 269, d 270, d 271, d 272, d 273, d 274, d 275, d 276, d 277, d 278, d 279, d 280, d
 281, d 282, d 283, d 284, d 285, d 286, d 287, d 288, d 289, d 290, d 291] (KZ.mk ((6, fun z' h' => zAt Try.prog C lf 6 [1, 1, 1, 1, 1, 1, 1, 1, 0, 1, 0, 0, 1, 0, 0, 1, 1, 1, 1, 1, 1, 1, 1] z' (fun z' h' => zAt Try.prog C lf 6 [1,
 1, 1, 1, 1, 1, 1, 1, 0, 1, 0, 0, 1, 1] z' k (KZ.mk ((4, X) :: E) (zFin Try.prog 6 K)) h') (KZ.mk ((5, fun z' h' => zAt Try.prog C lf 6 [1, 1, 1, 1, 1, 1, 1, 1, 0, 1, 0, 0, 1, 1] z' k (KZ.mk ((4, X) :: E) (zFin Try.prog 6 K)) h')
 :: KZ.env (KZ.mk ((4, X) :: E) (zFin Try.prog 6 K))) (KZ.ret (KZ.mk ((4, X) :: E) (zFin Try.prog 6 K)))) h') :: KZ.env (KZ.mk ((5, fun z' h' => zAt Try.prog C lf 6 [1, 1, 1, 1, 1, 1, 1, 1, 0, 1, 0, 0, 1, 1] z' k (KZ.mk ((4, X) ::
 E) (zFin Try.prog 6 K)) h') :: KZ.env (KZ.mk ((4, X) :: E) (zFin Try.prog 6 K))) (KZ.ret (KZ.mk ((4, X) :: E) (zFin Try.prog 6 K))))) (KZ.ret (KZ.mk ((5, fun z' h' => zAt Try.prog C lf 6 [1, 1, 1, 1, 1, 1, 1, 1, 0, 1, 0, 0, 1, 1]
 z' k (KZ.mk ((4, X) :: E) (zFin Try.prog 6 K)) h') :: KZ.env (KZ.mk ((4, X) :: E) (zFin Try.prog 6 K))) (KZ.ret (KZ.mk ((4, X) :: E) (zFin Try.prog 6 K)))))) h'_5))))) h'_4))) h'_3)) h'_2)))))) h'_1)))))) (hput (Heap.newO h
 (AObj.cells [AV.int IntKind.i64 0, AV.nils] 0 false false)) (Heap.next h) 0 [AV.int IntKind.i64 n_1, SL.av s_1])))))))) (X [ZV.sl p, ZV.sl a, d 2, d 3, d 4, ZV.bool true, d 6, d 7, d 8, ZV.sl l, ZV.sl r, ZV.int IntKind.i64 j, d
 12, d 13, d 14, d 15, d 16, d 17, d 18, d 19, d 20, d 21, d 22, d 23, d 24, d 25, d 26, d 27, d 28, d 29, d 30, d 31, d 32, d 33, d 34, d 35, d 36, d 37, d 38, d 39, d 40, d 41, d 42, d 43, d 44, d 45, d 46, d 47, d 48, d 49, d
 50, d 51, d 52, d 53, d 54, d 55, d 56, d 57, d 58, d 59, d 60, d 61, d 62, d 63, d 64, d 65, d 66, d 67, d 68, d 69, d 70, d 71, ZV.int IntKind.i64 j, ZV.sl p, ZV.int IntKind.i64 (Int.ofNat (SL.n p)), ZV.bool false, d 76, d 77, d
 78, d 79, d 80, d 81, d 82, d 83, d 84, d 85, d 86, d 87, d 88, d 89, d 90, d 91, d 92, d 93, d 94, d 95, d 96, d 97, d 98, d 99, d 100, d 101, d 102, d 103, d 104, d 105, d 106, d 107, d 108, d 109, d 110, d 111, d 112, d 113, d
 114, d 115, d 116, d 117, d 118, d 119, d 120, d 121, d 122, d 123, d 124, d 125, d 126, d 127, d 128, d 129, d 130, d 131, d 132, d 133, d 134, d 135, d 136, d 137, d 138, d 139, d 140, d 141, d 142, d 143, d 144, d 145, d 146, d
 147, d 148, d 149, d 150, d 151, d 152, d 153, d 154, d 155, d 156, d 157, d 158, d 159, d 160, d 161, d 162, d 163, d 164, d 165, d 166, d 167, d 168, d 169, d 170, d 171, d 172, d 173, d 174, d 175, d 176, d 177, d 178, d 179, d
 180, d 181, d 182, d 183, d 184, d 185, d 186, d 187, d 188, d 189, d 190, d 191, d 192, d 193, d 194, d 195, d 196, d 197, d 198, d 199, d 200, d 201, d 202, d 203, d 204, d 205, d 206, d 207, d 208, d 209, d 210, d 211, d 212, d
 213, d 214, d 215, d 216, d 217, d 218, d 219, d 220, d 221, d 222, d 223, d 224, d 225, d 226, d 227, d 228, d 229, d 230, d 231, d 232, d 233, d 234, d 235, d 236, d 237, d 238, d 239, d 240, d 241, d 242, d 243, d 244, d 245, d
 246, d 247, d 248, d 249, d 250, d 251, d 252, d 253, d 254, d 255, d 256, d 257, d 258, d 259, d 260, d 261, d 262, d 263, d 264, d 265, d 266, d 267, d 268, d 269, d 270, d 271, d 272, d 273, d 274, d 275, d 276, d 277, d 278, d
 279, d 280, d 281, d 282, d 283, d 284, d 285, d 286, d 287, d 288, d 289, d 290, d 291] h)) := by kernel_rfl
theorem pl_a3 (C : ZCall) (lf : Nat) (K : ZK) (h : Heap) (a l r : SL) (d : Nat → ZV) : zAt Try.prog C lf 6 [1, 1, 1, 1, 1, 1, 1, 1, 1] (zt (ntOf Try.prog 6) (ov [(1, .sl a), (5, .bool true), (9, .sl l), (10, .sl r)] d)) (zFin
 Try.prog 6 K) ⟨[], zFin Try.prog 6 K⟩ h = (ZLoop lf (zAt Try.prog C lf 6 [1, 1, 1, 1, 1, 1, 1, 1, 1, 0, 1, 0, 0]) [d 0, ZV.sl a, d 2, d 3, d 4, ZV.bool true, d 6, d 7, d 8, ZV.sl l, ZV.sl r, d 11, d 12, d 13, d 14, d 15, d 16, d
 17, d 18, d 19, d 20, ZV.int IntKind.i64 0, d 22, d 23, d 24, d 25, d 26, d 27, d 28, d 29, d 30, d 31, d 32, d 33, d 34, d 35, d 36, d 37, d 38, d 39, d 40, d 41, d 42, d 43, d 44, d 45, d 46, d 47, d 48, d 49, d 50, d 51, d 52,
 d 53, d 54, d 55, d 56, d 57, d 58, d 59, d 60, d 61, d 62, d 63, d 64, d 65, d 66, d 67, d 68, d 69, d 70, d 71, d 72, d 73, d 74, d 75, d 76, d 77, d 78, d 79, d 80, d 81, d 82, d 83, d 84, d 85, d 86, d 87, d 88, d 89, d 90, d
 91, d 92, d 93, d 94, d 95, d 96, d 97, d 98, d 99, d 100, d 101, d 102, d 103, d 104, d 105, d 106, d 107, d 108, d 109, d 110, d 111, d 112, d 113, d 114, d 115, d 116, d 117, d 118, d 119, d 120, d 121, d 122, d 123, d 124, d
 125, d 126, d 127, d 128, d 129, d 130, d 131, d 132, d 133, d 134, d 135, d 136, d 137, d 138, d 139, d 140, d 141, d 142, d 143, d 144, d 145, d 146, d 147, d 148, d 149, d 150, d 151, d 152, d 153, d 154, d 155, d 156, d 157, d
 158, d 159, d 160, d 161, d 162, d 163, d 164, d 165, d 166, d 167, d 168, d 169, d 170, d 171, d 172, d 173, d 174, d 175, d 176, d 177, d 178, d 179, d 180, d 181, d 182, d 183, d 184, d 185, d 186, d 187, d 188, d 189, d 190, d
 191, d 192, d 193, d 194, d 195, d 196, d 197, d 198, d 199, d 200, d 201, d 202, d 203, d 204, d 205, d 206, d 207, d 208, d 209, d 210, d 211, d 212, d 213, d 214, d 215, d 216, d 217, d 218, d 219, d 220, d 221, d 222, d 223, d
 224, d 225, d 226, d 227, d 228, d 229, d 230, d 231, d 232, d 233, d 234, d 235, d 236, d 237, d 238, d 239, d 240, d 241, d 242, d 243, d 244, d 245, d 246, d 247, d 248, d 249, d 250, d 251, d 252, d 253, d 254, d 255, d 256, d
 257, d 258, d 259, d 260, d 261, d 262, d 263, d 264, d 265, d 266, d 267, d 268, d 269, d 270, d 271, d 272, d 273, d 274, d 275, d 276, d 277, d 278, d 279, d 280, d 281, d 282, d 283, d 284, d 285, d 286, d 287, d 288, d 289, d
 290, d 291] (KZ.mk ((8, fun z' h' => zAt Try.prog C lf 6 [1, 1, 1, 1, 1, 1, 1, 1, 1, 1] z' (zFin Try.prog 6 K) (KZ.mk [] (zFin Try.prog 6 K)) h') :: KZ.env (KZ.mk [] (zFin Try.prog 6 K))) (KZ.ret (KZ.mk [] (zFin Try.prog 6 K))))
 h) := by kernel_rfl
theorem pl_b4 (C : ZCall) (lf : Nat) (K : ZK) (h : Heap) (p a l r x : SL) (c e : Nat) (cn en' : Bool) (i j : Int) (d : Nat → ZV) (k X : ZT → Heap → Prop) (E : List (Nat × (ZT → Heap → Prop))) : zAt Try.prog C lf 6 [1, 1, 1, 1, 1,
 1, 1, 1, 0, 1, 0, 0, 1, 0, 0, 1, 1, 1, 1, 1, 1, 1, 0, 1, 0, 0] (zt (ntOf Try.prog 6) (ov [(0, .sl p), (1, .sl a), (5, .bool true), (9, .sl l), (10, .sl r), (11, .int .i64 i), (13, .sl x), (15, .pv cn c 0), (17, .pv en' e 0), (20,
 .int .i64 j)] d)) k ⟨(6, X) :: E, zFin Try.prog 6 K⟩ h = (@cnd Prop (decide (j < Int.ofNat (SL.n x))) (ZAnd (SL.nil x = false) (ZIdx j (SL.len x) fun m_1 => ZAnd (false = false) (ZLdI h (SL.i x) (SL.o x + m_1 * 1) IntKind.i64 fun
 n_1 => ZW IntKind.i64 (Int.ofNat (Nat.xor (toU IntKind.i64 n_1) 1)) fun r_1 => ZAnd (SL.nil x = false) (ZIdx j (SL.len x) fun m_2 => ZAnd (false = false) (ZPut h (SL.i x) (SL.o x + m_2 * 1) 1 (ZW IntKind.i64 (j + 1) fun r_2 => k
 [ZV.sl p, ZV.sl a, d 2, d 3, d 4, ZV.bool true, d 6, d 7, d 8, ZV.sl l, ZV.sl r, ZV.int IntKind.i64 i, d 12, ZV.sl x, d 14, ZV.pv cn c 0, d 16, ZV.pv en' e 0, d 18, d 19, ZV.int IntKind.i64 r_2, d 21, d 22, d 23, d 24, d 25, d 26,
 d 27, d 28, d 29, d 30, d 31, d 32, d 33, d 34, d 35, d 36, d 37, d 38, d 39, d 40, d 41, d 42, d 43, d 44, d 45, d 46, d 47, d 48, d 49, d 50, d 51, d 52, d 53, d 54, d 55, d 56, d 57, d 58, d 59, d 60, d 61, d 62, d 63, d 64, d
 65, d 66, d 67, d 68, d 69, d 70, d 71, d 72, d 73, d 74, d 75, d 76, d 77, d 78, d 79, d 80, d 81, d 82, d 83, d 84, d 85, d 86, d 87, d 88, d 89, d 90, d 91, d 92, d 93, d 94, d 95, d 96, d 97, d 98, d 99, d 100, d 101, d 102, d
 103, d 104, d 105, d 106, d 107, d 108, d 109, d 110, d 111, d 112, d 113, d 114, d 115, d 116, d 117, d 118, d 119, d 120, d 121, d 122, d 123, d 124, d 125, d 126, d 127, d 128, d 129, d 130, d 131, d 132, d 133, ZV.int
 IntKind.i64 j, ZV.sl x, ZV.int IntKind.i64 (Int.ofNat (SL.n x)), ZV.bool true, ZV.int IntKind.i64 j, ZV.int IntKind.i64 r_2, ZV.sl x, ZV.int IntKind.i64 j, ZV.sl x, ZV.int IntKind.i64 j, ZV.pv false (SL.i x) (SL.o x + m_1 * 1),
 ZV.int IntKind.i64 n_1, ZV.int IntKind.i64 r_1, ZV.pv false (SL.i x) (SL.o x + m_2 * 1), d 148, d 149, d 150, d 151, d 152, d 153, d 154, d 155, d 156, d 157, d 158, d 159, d 160, d 161, d 162, d 163, d 164, d 165, d 166, d 167, d
 168, d 169, d 170, d 171, d 172, d 173, d 174, d 175, d 176, d 177, d 178, d 179, d 180, d 181, d 182, d 183, d 184, d 185, d 186, d 187, d 188, d 189, d 190, d 191, d 192, d 193, d 194, d 195, d 196, d 197, d 198, d 199, d 200, d
 201, d 202, d 203, d 204, d 205, d 206, d 207, d 208, d 209, d 210, d 211, d 212, d 213, d 214, d 215, d 216, d 217, d 218, d 219, d 220, d 221, d 222, d 223, d 224, d 225, d 226, d 227, d 228, d 229, d 230, d 231, d 232, d 233, d
 234, d 235, d 236, d 237, d 238, d 239, d 240, d 241, d 242, d 243, d 244, d 245, d 246, d 247, d 248, d 249, d 250, d 251, d 252, d 253, d 254, d 255, d 256, d 257, d 258, d 259, d 260, d 261, d 262, d 263, d 264, d 265, d 266, d
 267, d 268, d 269, d 270, d 271, d 272, d 273, d 274, d 275, d 276, d 277, d 278, d 279, d 280, d 281, d 282, d 283, d 284, d 285, d 286, d 287, d 288, d 289, d 290, d 291] (hput h (SL.i x) (SL.o x + m_2 * 1) [AV.int IntKind.i64
 r_1]))))))) (X [ZV.sl p, ZV.sl a, d 2, d 3, d 4, ZV.bool true, d 6, d 7, d 8, ZV.sl l, ZV.sl r, ZV.int IntKind.i64 i, d 12, ZV.sl x, d 14, ZV.pv cn c 0, d 16, ZV.pv en' e 0, d 18, d 19, ZV.int IntKind.i64 j, d 21, d 22, d 23, d
 24, d 25, d 26, d 27, d 28, d 29, d 30, d 31, d 32, d 33, d 34, d 35, d 36, d 37, d 38, d 39, d 40, d 41, d 42, d 43, d 44, d 45, d 46, d 47, d 48, d 49, d 50, d 51, d 52, d 53, d 54, d 55, d 56, d 57, d 58, d 59, d 60, d 61, d
 62, d 63, d 64, d 65, d 66, d 67, d 68, d 69, d 70, d 71, d 72, d 73, d 74, d 75, d 76, d 77, d 78, d 79, d 80, d 81, d 82, d 83, d 84, d 85, d 86, d 87, d 88, d 89, d 90, d 91, d 92, d 93, d 94, d 95, d 96, d 97, d 98, d 99, d
 100, d 101, d 102, d 103, d 104, d 105, d 106, d 107, d 108, d 109, d 110, d 111, d 112, d 113, d 114, d 115, d 116, d 117, d 118, d 119, d 120, d 121, d 122, d 123, d 124, d 125, d 126, d 127, d 128, d 129, d 130, d 131, d 132, d
 133, ZV.int IntKind.i64 j, ZV.sl x, ZV.int IntKind.i64 (Int.ofNat (SL.n x)), ZV.bool false, d 138, d 139, d 140, d 141, d 142, d 143, d 144, d 145, d 146, d 147, d 148, d 149, d 150, d 151, d 152, d 153, d 154, d 155, d 156, d
 157, d 158, d 159, d 160, d 161, d 162, d 163, d 164, d 165, d 166, d 167, d 168, d 169, d 170, d 171, d 172, d 173, d 174, d 175, d 176, d 177, d 178, d 179, d 180, d 181, d 182, d 183, d 184, d 185, d 186, d 187, d 188, d 189, d
 190, d 191, d 192, d 193, d 194, d 195, d 196, d 197, d 198, d 199, d 200, d 201, d 202, d 203, d 204, d 205, d 206, d 207, d 208, d 209, d 210, d 211, d 212, d 213, d 214, d 215, d 216, d 217, d 218, d 219, d 220, d 221, d 222, d
 223, d 224, d 225, d 226, d 227, d 228, d 229, d 230, d 231, d 232, d 233, d 234, d 235, d 236, d 237, d 238, d 239, d 240, d 241, d 242, d 243, d 244, d 245, d 246, d 247, d 248, d 249, d 250, d 251, d 252, d 253, d 254, d 255, d
 256, d 257, d 258, d 259, d 260, d 261, d 262, d 263, d 264, d 265, d 266, d 267, d 268, d 269, d 270, d 271, d 272, d 273, d 274, d 275, d 276, d 277, d 278, d 279, d 280, d 281, d 282, d 283, d 284, d 285, d 286, d 287, d 288, d
 289, d 290, d 291] h)) := by kernel_rfl
theorem pl_a4 (C : ZCall) (lf : Nat) (K : ZK) (h : Heap) (p a l r : SL) (c e : Nat) (cn en' : Bool) (i : Int) (d : Nat → ZV) (k X : ZT → Heap → Prop) (E : List (Nat × (ZT → Heap → Prop))) : zAt Try.prog C lf 6 [1, 1, 1, 1, 1, 1,
 1, 1, 0, 1, 0, 0, 1, 0, 0, 1, 1, 1, 1, 1, 1, 1, 1] (zt (ntOf Try.prog 6) (ov [(0, .sl p), (1, .sl a), (5, .bool true), (9, .sl l), (10, .sl r), (11, .int .i64 i), (15, .pv cn c 0), (17, .pv en' e 0)] d)) k ⟨(5, X) :: E, zFin
 Try.prog 6 K⟩ h = (@cnd Prop (!cn) (ZSrc (Heap.newO h (AObj.cells [match cn with | true => AV.nilp | false => AV.ptr c 0] 1 false false)) (SL.mk false (Heap.next h) 0 1 1 false) 1 fun ds_1 => ZApp Try.prog (Heap.newO h (AObj.cells
 [match cn with | true => AV.nilp | false => AV.ptr c 0] 1 false false)) l 25 1 1 ds_1 (ZSrc (Heap.newO (happ (Heap.newO h (AObj.cells [match cn with | true => AV.nilp | false => AV.ptr c 0] 1 false false)) l 1 1 ds_1) (AObj.cells
 [match en' with | true => AV.nilp | false => AV.ptr e 0] 1 false false)) (SL.mk false (Heap.next (happ (Heap.newO h (AObj.cells [match cn with | true => AV.nilp | false => AV.ptr c 0] 1 false false)) l 1 1 ds_1)) 0 1 1 false) 1
 fun ds_2 => ZApp Try.prog (Heap.newO (happ (Heap.newO h (AObj.cells [match cn with | true => AV.nilp | false => AV.ptr c 0] 1 false false)) l 1 1 ds_1) (AObj.cells [match en' with | true => AV.nilp | false => AV.ptr e 0] 1 false
 false)) r 43 1 1 ds_2 (k [ZV.sl p, ZV.sl a, d 2, d 3, d 4, ZV.bool true, d 6, d 7, d 8, ZV.sl (SL.app l (Heap.next (Heap.newO h (AObj.cells [match cn with | true => AV.nilp | false => AV.ptr c 0] 1 false false))) 1), ZV.sl (SL.app
 r (Heap.next (Heap.newO (happ (Heap.newO h (AObj.cells [match cn with | true => AV.nilp | false => AV.ptr c 0] 1 false false)) l 1 1 ds_1) (AObj.cells [match en' with | true => AV.nilp | false => AV.ptr e 0] 1 false false))) 1),
 ZV.int IntKind.i64 i, d 12, d 13, d 14, ZV.pv cn c 0, d 16, ZV.pv en' e 0, d 18, d 19, d 20, d 21, d 22, d 23, d 24, d 25, d 26, d 27, d 28, d 29, d 30, d 31, d 32, d 33, d 34, d 35, d 36, d 37, d 38, d 39, d 40, d 41, d 42, d 43,
 d 44, d 45, d 46, d 47, d 48, d 49, d 50, d 51, d 52, d 53, d 54, d 55, d 56, d 57, d 58, d 59, d 60, d 61, d 62, d 63, d 64, d 65, d 66, d 67, d 68, d 69, d 70, d 71, d 72, d 73, d 74, d 75, d 76, d 77, d 78, d 79, d 80, d 81, d
 82, d 83, d 84, d 85, d 86, d 87, d 88, d 89, d 90, d 91, d 92, d 93, d 94, d 95, d 96, d 97, d 98, d 99, d 100, d 101, d 102, d 103, d 104, d 105, d 106, d 107, d 108, d 109, d 110, d 111, d 112, d 113, d 114, d 115, d 116, d
 117, d 118, d 119, d 120, d 121, d 122, d 123, d 124, d 125, d 126, d 127, d 128, d 129, d 130, d 131, d 132, d 133, d 134, d 135, d 136, d 137, d 138, d 139, d 140, d 141, d 142, d 143, d 144, d 145, d 146, d 147, ZV.pv cn c 0,
 ZV.bool true, ZV.sl l, ZV.pv cn c 0, ZV.sl (SL.mk false (Heap.next h) 0 1 1 false), ZV.sl (SL.app l (Heap.next (Heap.newO h (AObj.cells [match cn with | true => AV.nilp | false => AV.ptr c 0] 1 false false))) 1), ZV.sl r, ZV.pv
 en' e 0, ZV.sl (SL.mk false (Heap.next (happ (Heap.newO h (AObj.cells [match cn with | true => AV.nilp | false => AV.ptr c 0] 1 false false)) l 1 1 ds_1)) 0 1 1 false), ZV.sl (SL.app r (Heap.next (Heap.newO (happ (Heap.newO h
 (AObj.cells [match cn with | true => AV.nilp | false => AV.ptr c 0] 1 false false)) l 1 1 ds_1) (AObj.cells [match en' with | true => AV.nilp | false => AV.ptr e 0] 1 false false))) 1), d 158, d 159, d 160, d 161, d 162, d 163, d
 164, d 165, d 166, d 167, d 168, d 169, d 170, d 171, d 172, d 173, d 174, d 175, d 176, d 177, d 178, d 179, d 180, d 181, d 182, d 183, d 184, d 185, d 186, d 187, d 188, d 189, d 190, d 191, d 192, d 193, d 194, d 195, d 196, d
 197, d 198, d 199, d 200, d 201, d 202, d 203, d 204, d 205, d 206, d 207, d 208, d 209, d 210, d 211, d 212, d 213, d 214, d 215, d 216, d 217, d 218, d 219, d 220, d 221, d 222, d 223, d 224, d 225, d 226, d 227, d 228, d 229, d
 230, d 231, d 232, d 233, d 234, d 235, d 236, d 237, d 238, d 239, d 240, d 241, d 242, d 243, d 244, d 245, d 246, d 247, d 248, d 249, d 250, d 251, d 252, d 253, d 254, d 255, d 256, d 257, d 258, d 259, d 260, d 261, d 262, d
 263, d 264, d 265, d 266, d 267, d 268, d 269, d 270, d 271, d 272, d 273, d 274, d 275, d 276, d 277, d 278, d 279, d 280, d 281, d 282, d 283, d 284, d 285, d 286, d 287, d 288, d 289, d 290, d 291] (happ (Heap.newO (happ
 (Heap.newO h (AObj.cells [match cn with | true => AV.nilp | false => AV.ptr c 0] 1 false false)) l 1 1 ds_1) (AObj.cells [match en' with | true => AV.nilp | false => AV.ptr e 0] 1 false false)) r 1 1 ds_2)))) (k [ZV.sl p, ZV.sl a,
 d 2, d 3, d 4, ZV.bool true, d 6, d 7, d 8, ZV.sl l, ZV.sl r, ZV.int IntKind.i64 i, d 12, d 13, d 14, ZV.pv cn c 0, d 16, ZV.pv en' e 0, d 18, d 19, d 20, d 21, d 22, d 23, d 24, d 25, d 26, d 27, d 28, d 29, d 30, d 31, d 32, d
 33, d 34, d 35, d 36, d 37, d 38, d 39, d 40, d 41, d 42, d 43, d 44, d 45, d 46, d 47, d 48, d 49, d 50, d 51, d 52, d 53, d 54, d 55, d 56, d 57, d 58, d 59, d 60, d 61, d 62, d 63, d 64, d 65, d 66, d 67, d 68, d 69, d 70, d
 71, d 72, d 73, d 74, d 75, d 76, d 77, d 78, d 79, d 80, d 81, d 82, d 83, d 84, d 85, d 86, d 87, d 88, d 89, d 90, d 91, d 92, d 93, d 94, d 95, d 96, d 97, d 98, d 99, d 100, d 101, d 102, d 103, d 104, d 105, d 106, d 107, d
 108, d 109, d 110, d 111, d 112, d 113, d 114, d 115, d 116, d 117, d 118, d 119, d 120, d 121, d 122, d 123, d 124, d 125, d 126, d 127, d 128, d 129, d 130, d 131, d 132, d 133, d 134, d 135, d 136, d 137, d 138, d 139, d 140, d
 141, d 142, d 143, d 144, d 145, d 146, d 147, ZV.pv cn c 0, ZV.bool false, d 150, d 151, d 152, d 153, d 154, d 155, d 156, d 157, d 158, d 159, d 160, d 161, d 162, d 163, d 164, d 165, d 166, d 167, d 168, d 169, d 170, d 171,
 d 172, d 173, d 174, d 175, d 176, d 177, d 178, d 179, d 180, d 181, d 182, d 183, d 184, d 185, d 186, d 187, d 188, d 189, d 190, d 191, d 192, d 193, d 194, d 195, d 196, d 197, d 198, d 199, d 200, d 201, d 202, d 203, d 204,
 d 205, d 206, d 207, d 208, d 209, d 210, d 211, d 212, d 213, d 214, d 215, d 216, d 217, d 218, d 219, d 220, d 221, d 222, d 223, d 224, d 225, d 226, d 227, d 228, d 229, d 230, d 231, d 232, d 233, d 234, d 235, d 236, d 237,
 d 238, d 239, d 240, d 241, d 242, d 243, d 244, d 245, d 246, d 247, d 248, d 249, d 250, d 251, d 252, d 253, d 254, d 255, d 256, d 257, d 258, d 259, d 260, d 261, d 262, d 263, d 264, d 265, d 266, d 267, d 268, d 269, d 270,
 d 271, d 272, d 273, d 274, d 275, d 276, d 277, d 278, d 279, d 280, d 281, d 282, d 283, d 284, d 285, d 286, d 287, d 288, d 289, d 290, d 291] h)) := by kernel_rfl
theorem pl_c4 (C : ZCall) (lf : Nat) (K : ZK) (h : Heap) (p a l r : SL) (i : Int) (d : Nat → ZV) (k : ZT → Heap → Prop) (E : List (Nat × (ZT → Heap → Prop))) : zAt Try.prog C lf 6 [1, 1, 1, 1, 1, 1, 1, 1, 0, 1, 0, 0, 1, 1] (zt
 (ntOf Try.prog 6) (ov [(0, .sl p), (1, .sl a), (5, .bool true), (9, .sl l), (10, .sl r), (11, .int .i64 i)] d)) k ⟨E, zFin Try.prog 6 K⟩ h = (ZW IntKind.i64 (i + 1) fun r_1 => k [ZV.sl p, ZV.sl a, d 2, d 3, d 4, ZV.bool true, d 6,
 d 7, d 8, ZV.sl l, ZV.sl r, ZV.int IntKind.i64 r_1, d 12, d 13, d 14, d 15, d 16, d 17, d 18, d 19, d 20, d 21, d 22, d 23, d 24, d 25, d 26, d 27, d 28, d 29, d 30, d 31, d 32, d 33, d 34, d 35, d 36, d 37, d 38, d 39, d 40, d
 41, d 42, d 43, d 44, d 45, d 46, d 47, d 48, d 49, d 50, d 51, d 52, d 53, d 54, d 55, d 56, d 57, d 58, d 59, d 60, d 61, d 62, d 63, d 64, d 65, d 66, d 67, d 68, d 69, d 70, d 71, d 72, d 73, d 74, d 75, ZV.int IntKind.i64 i,
 ZV.int IntKind.i64 r_1, d 78, d 79, d 80, d 81, d 82, d 83, d 84, d 85, d 86, d 87, d 88, d 89, d 90, d 91, d 92, d 93, d 94, d 95, d 96, d 97, d 98, d 99, d 100, d 101, d 102, d 103, d 104, d 105, d 106, d 107, d 108, d 109, d
 110, d 111, d 112, d 113, d 114, d 115, d 116, d 117, d 118, d 119, d 120, d 121, d 122, d 123, d 124, d 125, d 126, d 127, d 128, d 129, d 130, d 131, d 132, d 133, d 134, d 135, d 136, d 137, d 138, d 139, d 140, d 141, d 142, d
 143, d 144, d 145, d 146, d 147, d 148, d 149, d 150, d 151, d 152, d 153, d 154, d 155, d 156, d 157, d 158, d 159, d 160, d 161, d 162, d 163, d 164, d 165, d 166, d 167, d 168, d 169, d 170, d 171, d 172, d 173, d 174, d 175, d
 176, d 177, d 178, d 179, d 180, d 181, d 182, d 183, d 184, d 185, d 186, d 187, d 188, d 189, d 190, d 191, d 192, d 193, d 194, d 195, d 196, d 197, d 198, d 199, d 200, d 201, d 202, d 203, d 204, d 205, d 206, d 207, d 208, d
 209, d 210, d 211, d 212, d 213, d 214, d 215, d 216, d 217, d 218, d 219, d 220, d 221, d 222, d 223, d 224, d 225, d 226, d 227, d 228, d 229, d 230, d 231, d 232, d 233, d 234, d 235, d 236, d 237, d 238, d 239, d 240, d 241, d
 242, d 243, d 244, d 245, d 246, d 247, d 248, d 249, d 250, d 251, d 252, d 253, d 254, d 255, d 256, d 257, d 258, d 259, d 260, d 261, d 262, d 263, d 264, d 265, d 266, d 267, d 268, d 269, d 270, d 271, d 272, d 273, d 274, d
 275, d 276, d 277, d 278, d 279, d 280, d 281, d 282, d 283, d 284, d 285, d 286, d 287, d 288, d 289, d 290, d 291] h) := by kernel_rfl
theorem pl_b5 (C : ZCall) (lf : Nat) (K : ZK) (h : Heap) (a l r : SL) (j : Int) (d : Nat → ZV) (k X : ZT → Heap → Prop) (E : List (Nat × (ZT → Heap → Prop))) : zAt Try.prog C lf 6 [1, 1, 1, 1, 1, 1, 1, 1, 1, 0, 1, 0, 0] (zt (ntOf
 Try.prog 6) (ov [(1, .sl a), (5, .bool true), (9, .sl l), (10, .sl r), (21, .int .i64 j)] d)) k ⟨(8, X) :: E, zFin Try.prog 6 K⟩ h = (@cnd Prop (decide (j < Int.ofNat (SL.n a))) (@cnd Prop (cnd true (decide (0 < Int.ofNat (SL.n
 l))) false) (ZAnd (SL.nil a = false) (ZIdx j (SL.len a) fun m_1 => ZAnd (false = false) (ZAnd (false = false) (ZLdI h (SL.i a) (Nat.add (SL.o a + m_1 * 2) 0) IntKind.i64 fun n_1 => C 14 [ZV.int IntKind.i64 n_1, ZV.int IntKind.i64
 (Int.ofNat (SL.n l))] (fun v_1 h'_1 => ZRI (ZV.av v_1) IntKind.i64 fun n_2 => ZAnd (SL.nil a = false) (ZIdx j (SL.len a) fun m_2 => ZAnd (false = false) (ZAnd (false = false) (ZLdL h'_1 (SL.i a) (Nat.add (SL.o a + m_2 * 2) 1) fun
 s_1 => C 11 [ZV.sl s_1] (fun v_2 h'_2 => ZRL (ZV.av v_2) fun s_2 => ZAnd (SL.nil l = false) (ZIdx n_2 (SL.len l) fun m_3 => ZAnd (false = false) (ZLdP h'_2 (SL.i l) (SL.o l + m_3 * 1) fun n_3 j_1 p_1 => ZAnd (SL.nil a = false)
 (ZIdx j (SL.len a) fun m_4 => ZAnd (false = false) (ZAnd (false = false) (ZLdL h'_2 (SL.i a) (Nat.add (SL.o a + m_4 * 2) 1) fun s_3 => ZNat (Int.ofNat (SL.n s_3)) fun h_1 => ZAnd ((SL.nil s_2 = true → 0 = 0 ∧ h_1 = 0) ∧ (SL.nil
 s_2 = false → Nat.le 0 h_1 ∧ Nat.le h_1 (SL.cap s_2) ∧ (0 = SL.cap s_2 → SL.ext s_2 = false))) (C 9 [ZV.pv n_3 j_1 p_1, ZV.sl (SL.cut s_2 1 0 h_1 (SL.cap s_2) (SL.ext s_2))] (fun v_3 h'_3 => ZRT (ZV.av v_3) 2 fun f_1 => ZRI (f_1
 0) IntKind.i64 fun n_4 => ZRI (f_1 1) IntKind.i64 fun n_5 => ZAnd (SL.nil r = false) (ZIdx n_2 (SL.len r) fun m_5 => ZAnd (false = false) (ZLdP h'_3 (SL.i r) (SL.o r + m_5 * 1) fun n_6 j_2 p_2 => ZAnd (SL.nil a = false) (ZIdx j
 (SL.len a) fun m_6 => ZAnd (false = false) (ZAnd (false = false) (ZLdL h'_3 (SL.i a) (Nat.add (SL.o a + m_6 * 2) 1) fun s_4 => C 15 [ZV.pv n_6 j_2 p_2, ZV.sl s_4] (fun v_4 h'_4 => ZRT (ZV.av v_4) 2 fun f_2 => ZRI (f_2 0)
 IntKind.i64 fun n_7 => ZRI (f_2 1) IntKind.i64 fun n_8 => ZAnd (SL.nil a = false) (ZIdx j (SL.len a) fun m_7 => ZAnd (false = false) (ZAnd (false = false) (ZLdL h'_4 (SL.i a) (Nat.add (SL.o a + m_7 * 2) 1) fun s_5 => C 13 [ZV.sl
 s_2, ZV.sl s_5] (fun v_5 h'_5 => ZRB (ZV.av v_5) fun b_1 => @cnd Prop (!b_1) (K (ZV.bool false) h'_5) (@cnd Prop (cnd false true !decide (n_4 = n_7)) (K (ZV.bool false) h'_5) (@cnd Prop (cnd false true !decide (n_5 = n_8)) (K
 (ZV.bool false) h'_5) (ZAnd (SL.nil l = false) (ZIdx n_2 (SL.len l) fun m_8 => ZAnd (false = false) (ZLdP h'_5 (SL.i l) (SL.o l + m_8 * 1) fun n_9 j_3 p_3 => ZAnd (SL.nil r = false) (ZIdx n_2 (SL.len r) fun m_9 => ZAnd (false =
 false) (ZLdP h'_5 (SL.i r) (SL.o r + m_9 * 1) fun n_10 j_4 p_4 => ZAnd (n_10 = false) (ZAnd (false = false) (ZAnd (false = false) (ZLdI h'_5 j_4 (Nat.add p_4 3) IntKind.i64 fun n_11 => C 16 [ZV.pv n_9 j_3 p_3] (fun v_6 h'_6 => ZRI
 (ZV.av v_6) IntKind.i64 fun n_12 => ZAnd (ZAnd (false = false) (ZLdI h'_6 j_4 (Nat.add p_4 3) IntKind.i64 fun n_13 => AV.int IntKind.i64 n_13 = AV.int IntKind.i64 n_11)) (ZAnd (ZAnd (false = false) (ZLdP h'_6 (SL.i r) (SL.o r +
 m_9 * 1) fun n_13 j_5 p_5 => ZV.av (ZV.pv n_13 j_5 p_5) = ZV.av (ZV.pv n_10 j_4 p_4))) (@cnd Prop (cnd false true !decide (n_12 = n_11)) (K (ZV.bool false) h'_6) (ZAnd (SL.nil l = false) (ZIdx n_2 (SL.len l) fun m_10 => ZAnd
 (false = false) (ZLdP h'_6 (SL.i l) (SL.o l + m_10 * 1) fun n_13 j_5 p_5 => ZAnd (SL.nil r = false) (ZIdx n_2 (SL.len r) fun m_11 => ZAnd (false = false) (ZLdP h'_6 (SL.i r) (SL.o r + m_11 * 1) fun n_14 j_6 p_6 => C 17 [ZV.pv n_13
 j_5 p_5] (fun v_7 h'_7 => ZRB (ZV.av v_7) fun b_2 => ZAnd (ZAnd (false = false) (ZLdP h'_7 (SL.i r) (SL.o r + m_11 * 1) fun n_15 j_7 p_7 => ZV.av (ZV.pv n_15 j_7 p_7) = ZV.av (ZV.pv n_14 j_6 p_6))) (C 18 [ZV.pv n_14 j_6 p_6] (fun
 v_8 h'_8 => ZRB (ZV.av v_8) fun b_3 => @cnd Prop (cnd false true !decide (b_2 = b_3)) (K (ZV.bool false) h'_8) (ZW IntKind.i64 (j + 1) fun r_1 => k [d 0, ZV.sl a, d 2, d 3, d 4, ZV.bool true, d 6, d 7, d 8, ZV.sl l, ZV.sl r, d 11,
 d 12, d 13, d 14, d 15, d 16, d 17, d 18, d 19, d 20, ZV.int IntKind.i64 r_1, ZV.int IntKind.i64 n_2, ZV.sl s_2, ZV.int IntKind.i64 n_4, ZV.int IntKind.i64 n_5, ZV.int IntKind.i64 n_7, ZV.int IntKind.i64 n_8, ZV.bool b_1, d 29, d
 30, d 31, d 32, d 33, d 34, d 35, d 36, d 37, d 38, d 39, d 40, d 41, d 42, d 43, d 44, d 45, d 46, d 47, d 48, d 49, d 50, d 51, d 52, d 53, d 54, d 55, d 56, d 57, d 58, d 59, d 60, d 61, d 62, d 63, d 64, d 65, d 66, d 67, d
 68, d 69, d 70, d 71, d 72, d 73, d 74, d 75, d 76, d 77, d 78, d 79, d 80, d 81, d 82, d 83, d 84, d 85, d 86, d 87, d 88, d 89, d 90, d 91, d 92, d 93, d 94, d 95, d 96, d 97, d 98, d 99, d 100, d 101, d 102, d 103, d 104, d
 105, d 106, d 107, d 108, d 109, d 110, d 111, d 112, d 113, d 114, d 115, d 116, d 117, d 118, d 119, d 120, d 121, d 122, d 123, d 124, d 125, d 126, d 127, d 128, d 129, d 130, d 131, d 132, d 133, d 134, d 135, d 136, d 137, d
 138, d 139, d 140, d 141, d 142, d 143, d 144, d 145, d 146, d 147, d 148, d 149, d 150, d 151, d 152, d 153, d 154, d 155, d 156, d 157, ZV.int IntKind.i64 j, ZV.sl a, ZV.int IntKind.i64 (Int.ofNat (SL.n a)), ZV.bool (decide (j <
 Int.ofNat (SL.n a))), ZV.bool true, ZV.sl l, ZV.int IntKind.i64 (Int.ofNat (SL.n l)), ZV.bool (decide (0 < Int.ofNat (SL.n l))), ZV.bool true, ZV.int IntKind.i64 j, ZV.int IntKind.i64 r_1, ZV.sl a, ZV.int IntKind.i64 j, ZV.pv
 false (SL.i a) (SL.o a + m_1 * 2), ZV.pv false (SL.i a) (Nat.add (SL.o a + m_1 * 2) 0), ZV.int IntKind.i64 n_1, ZV.sl l, ZV.int IntKind.i64 (Int.ofNat (SL.n l)), ZV.int IntKind.i64 n_2, ZV.sl a, ZV.int IntKind.i64 j, ZV.pv false
 (SL.i a) (SL.o a + m_2 * 2), ZV.pv false (SL.i a) (Nat.add (SL.o a + m_2 * 2) 1), ZV.sl s_1, ZV.sl s_2, ZV.tup [ZV.int IntKind.i64 n_4, ZV.int IntKind.i64 n_5], ZV.sl l, ZV.int IntKind.i64 n_2, ZV.pv false (SL.i l) (SL.o l + m_3 *
 1), ZV.pv n_3 j_1 p_1, ZV.sl s_2, ZV.sl a, ZV.int IntKind.i64 j, ZV.pv false (SL.i a) (SL.o a + m_4 * 2), ZV.pv false (SL.i a) (Nat.add (SL.o a + m_4 * 2) 1), ZV.sl s_3, ZV.int IntKind.i64 (Int.ofNat (SL.n s_3)), ZV.sl (SL.cut s_2
 1 0 h_1 (SL.cap s_2) (SL.ext s_2)), ZV.tup [ZV.int IntKind.i64 n_4, ZV.int IntKind.i64 n_5], ZV.int IntKind.i64 n_4, ZV.int IntKind.i64 n_5, ZV.tup [ZV.int IntKind.i64 n_7, ZV.int IntKind.i64 n_8], ZV.sl r, ZV.int IntKind.i64 n_2,
 ZV.pv false (SL.i r) (SL.o r + m_5 * 1), ZV.pv n_6 j_2 p_2, ZV.sl a, ZV.int IntKind.i64 j, ZV.pv false (SL.i a) (SL.o a + m_6 * 2), ZV.pv false (SL.i a) (Nat.add (SL.o a + m_6 * 2) 1), ZV.sl s_4, ZV.tup [ZV.int IntKind.i64 n_7,
 ZV.int IntKind.i64 n_8], ZV.int IntKind.i64 n_7, ZV.int IntKind.i64 n_8, ZV.sl s_2, ZV.sl a, ZV.int IntKind.i64 j, ZV.pv false (SL.i a) (SL.o a + m_7 * 2), ZV.pv false (SL.i a) (Nat.add (SL.o a + m_7 * 2) 1), ZV.sl s_5, ZV.bool
 b_1, ZV.bool b_1, ZV.bool !b_1, ZV.bool false, ZV.int IntKind.i64 n_4, ZV.int IntKind.i64 n_7, ZV.bool !decide (n_4 = n_7), ZV.bool (cnd false true !decide (n_4 = n_7)), ZV.bool false, ZV.int IntKind.i64 n_5, ZV.int IntKind.i64
 n_8, ZV.bool !decide (n_5 = n_8), ZV.bool (cnd false true !decide (n_5 = n_8)), ZV.bool false, ZV.sl l, ZV.int IntKind.i64 n_2, ZV.pv false (SL.i l) (SL.o l + m_8 * 1), ZV.pv n_9 j_3 p_3, ZV.int IntKind.i64 n_12, ZV.sl r, ZV.int
 IntKind.i64 n_2, ZV.pv false (SL.i r) (SL.o r + m_9 * 1), ZV.pv n_10 j_4 p_4, ZV.pv false j_4 p_4, ZV.pv false j_4 (Nat.add p_4 3), ZV.int IntKind.i64 n_11, ZV.bool !decide (n_12 = n_11), ZV.bool (cnd false true !decide (n_12 =
 n_11)), ZV.bool false, ZV.sl l, ZV.int IntKind.i64 n_2, ZV.pv false (SL.i l) (SL.o l + m_10 * 1), ZV.pv n_13 j_5 p_5, ZV.bool b_2, ZV.sl r, ZV.int IntKind.i64 n_2, ZV.pv false (SL.i r) (SL.o r + m_11 * 1), ZV.pv n_14 j_6 p_6,
 ZV.bool b_3, ZV.bool !decide (b_2 = b_3), ZV.bool false, d 259, d 260, d 261, d 262, d 263, d 264, d 265, d 266, d 267, d 268, d 269, d 270, d 271, d 272, d 273, d 274, d 275, d 276, d 277, d 278, d 279, d 280, d 281, d 282, d
 283, d 284, d 285, d 286, d 287, d 288, d 289, d 290, d 291] h'_8)) h'_7)) h'_6)))))))) h'_5))))))))))) h'_4)))) h'_3)))))) h'_2))))))) h'_1)))) h)))) (X [d 0, ZV.sl a, d 2, d 3, d 4, ZV.bool true, d 6, d 7, d 8, ZV.sl l, ZV.sl r,
 d 11, d 12, d 13, d 14, d 15, d 16, d 17, d 18, d 19, d 20, ZV.int IntKind.i64 j, d 22, d 23, d 24, d 25, d 26, d 27, d 28, d 29, d 30, d 31, d 32, d 33, d 34, d 35, d 36, d 37, d 38, d 39, d 40, d 41, d 42, d 43, d 44, d 45, d
 46, d 47, d 48, d 49, d 50, d 51, d 52, d 53, d 54, d 55, d 56, d 57, d 58, d 59, d 60, d 61, d 62, d 63, d 64, d 65, d 66, d 67, d 68, d 69, d 70, d 71, d 72, d 73, d 74, d 75, d 76, d 77, d 78, d 79, d 80, d 81, d 82, d 83, d
 84, d 85, d 86, d 87, d 88, d 89, d 90, d 91, d 92, d 93, d 94, d 95, d 96, d 97, d 98, d 99, d 100, d 101, d 102, d 103, d 104, d 105, d 106, d 107, d 108, d 109, d 110, d 111, d 112, d 113, d 114, d 115, d 116, d 117, d 118, d
 119, d 120, d 121, d 122, d 123, d 124, d 125, d 126, d 127, d 128, d 129, d 130, d 131, d 132, d 133, d 134, d 135, d 136, d 137, d 138, d 139, d 140, d 141, d 142, d 143, d 144, d 145, d 146, d 147, d 148, d 149, d 150, d 151, d
 152, d 153, d 154, d 155, d 156, d 157, ZV.int IntKind.i64 j, ZV.sl a, ZV.int IntKind.i64 (Int.ofNat (SL.n a)), ZV.bool (decide (j < Int.ofNat (SL.n a))), ZV.bool true, ZV.sl l, ZV.int IntKind.i64 (Int.ofNat (SL.n l)), ZV.bool
 (decide (0 < Int.ofNat (SL.n l))), ZV.bool false, d 167, d 168, d 169, d 170, d 171, d 172, d 173, d 174, d 175, d 176, d 177, d 178, d 179, d 180, d 181, d 182, d 183, d 184, d 185, d 186, d 187, d 188, d 189, d 190, d 191, d
 192, d 193, d 194, d 195, d 196, d 197, d 198, d 199, d 200, d 201, d 202, d 203, d 204, d 205, d 206, d 207, d 208, d 209, d 210, d 211, d 212, d 213, d 214, d 215, d 216, d 217, d 218, d 219, d 220, d 221, d 222, d 223, d 224, d
 225, d 226, d 227, d 228, d 229, d 230, d 231, d 232, d 233, d 234, d 235, d 236, d 237, d 238, d 239, d 240, d 241, d 242, d 243, d 244, d 245, d 246, d 247, d 248, d 249, d 250, d 251, d 252, d 253, d 254, d 255, d 256, d 257, d
 258, d 259, d 260, d 261, d 262, d 263, d 264, d 265, d 266, d 267, d 268, d 269, d 270, d 271, d 272, d 273, d 274, d 275, d 276, d 277, d 278, d 279, d 280, d 281, d 282, d 283, d 284, d 285, d 286, d 287, d 288, d 289, d 290, d
 291] h)) (X [d 0, ZV.sl a, d 2, d 3, d 4, ZV.bool true, d 6, d 7, d 8, ZV.sl l, ZV.sl r, d 11, d 12, d 13, d 14, d 15, d 16, d 17, d 18, d 19, d 20, ZV.int IntKind.i64 j, d 22, d 23, d 24, d 25, d 26, d 27, d 28, d 29, d 30, d 31,
 d 32, d 33, d 34, d 35, d 36, d 37, d 38, d 39, d 40, d 41, d 42, d 43, d 44, d 45, d 46, d 47, d 48, d 49, d 50, d 51, d 52, d 53, d 54, d 55, d 56, d 57, d 58, d 59, d 60, d 61, d 62, d 63, d 64, d 65, d 66, d 67, d 68, d 69, d
 70, d 71, d 72, d 73, d 74, d 75, d 76, d 77, d 78, d 79, d 80, d 81, d 82, d 83, d 84, d 85, d 86, d 87, d 88, d 89, d 90, d 91, d 92, d 93, d 94, d 95, d 96, d 97, d 98, d 99, d 100, d 101, d 102, d 103, d 104, d 105, d 106, d
 107, d 108, d 109, d 110, d 111, d 112, d 113, d 114, d 115, d 116, d 117, d 118, d 119, d 120, d 121, d 122, d 123, d 124, d 125, d 126, d 127, d 128, d 129, d 130, d 131, d 132, d 133, d 134, d 135, d 136, d 137, d 138, d 139, d
 140, d 141, d 142, d 143, d 144, d 145, d 146, d 147, d 148, d 149, d 150, d 151, d 152, d 153, d 154, d 155, d 156, d 157, ZV.int IntKind.i64 j, ZV.sl a, ZV.int IntKind.i64 (Int.ofNat (SL.n a)), ZV.bool (decide (j < Int.ofNat
 (SL.n a))), ZV.bool false, ZV.tup [], ZV.tup [], ZV.tup [], ZV.bool false, d 167, d 168, d 169, d 170, d 171, d 172, d 173, d 174, d 175, d 176, d 177, d 178, d 179, d 180, d 181, d 182, d 183, d 184, d 185, d 186, d 187, d 188, d
 189, d 190, d 191, d 192, d 193, d 194, d 195, d 196, d 197, d 198, d 199, d 200, d 201, d 202, d 203, d 204, d 205, d 206, d 207, d 208, d 209, d 210, d 211, d 212, d 213, d 214, d 215, d 216, d 217, d 218, d 219, d 220, d 221, d
 222, d 223, d 224, d 225, d 226, d 227, d 228, d 229, d 230, d 231, d 232, d 233, d 234, d 235, d 236, d 237, d 238, d 239, d 240, d 241, d 242, d 243, d 244, d 245, d 246, d 247, d 248, d 249, d 250, d 251, d 252, d 253, d 254, d
 255, d 256, d 257, d 258, d 259, d 260, d 261, d 262, d 263, d 264, d 265, d 266, d 267, d 268, d 269, d 270, d 271, d 272, d 273, d 274, d 275, d 276, d 277, d 278, d 279, d 280, d 281, d 282, d 283, d 284, d 285, d 286, d 287, d
 288, d 289, d 290, d 291] h)) := by kernel_rfl
theorem pl_a5 (C : ZCall) (lf : Nat) (K : ZK) (h : Heap) (l r : SL) (d : Nat → ZV) : zAt Try.prog C lf 6 [1, 1, 1, 1, 1, 1, 1, 1, 1, 1] (zt (ntOf Try.prog 6) (ov [(5, .bool true), (9, .sl l), (10, .sl r)] d)) (zFin Try.prog 6 K)
 ⟨[], zFin Try.prog 6 K⟩ h = (ZLoop lf (zAt Try.prog C lf 6 [1, 1, 1, 1, 1, 1, 1, 1, 1, 1, 0, 1, 0, 0]) [d 0, d 1, d 2, d 3, d 4, ZV.bool true, d 6, d 7, d 8, ZV.sl l, ZV.sl r, d 11, d 12, d 13, d 14, d 15, d 16, d 17, d 18, d 19,
 d 20, d 21, d 22, d 23, d 24, d 25, d 26, d 27, d 28, ZV.int IntKind.i64 0, d 30, d 31, d 32, d 33, d 34, d 35, d 36, d 37, d 38, d 39, d 40, d 41, d 42, d 43, d 44, d 45, d 46, d 47, d 48, d 49, d 50, d 51, d 52, d 53, d 54, d
 55, d 56, d 57, d 58, d 59, d 60, d 61, d 62, d 63, d 64, d 65, d 66, d 67, d 68, d 69, d 70, d 71, d 72, d 73, d 74, d 75, d 76, d 77, d 78, d 79, d 80, d 81, d 82, d 83, d 84, d 85, d 86, d 87, d 88, d 89, d 90, d 91, d 92, d
 93, d 94, d 95, d 96, d 97, d 98, d 99, d 100, d 101, d 102, d 103, d 104, d 105, d 106, d 107, d 108, d 109, d 110, d 111, d 112, d 113, d 114, d 115, d 116, d 117, d 118, d 119, d 120, d 121, d 122, d 123, d 124, d 125, d 126, d
 127, d 128, d 129, d 130, d 131, d 132, d 133, d 134, d 135, d 136, d 137, d 138, d 139, d 140, d 141, d 142, d 143, d 144, d 145, d 146, d 147, d 148, d 149, d 150, d 151, d 152, d 153, d 154, d 155, d 156, d 157, d 158, d 159, d
 160, d 161, d 162, d 163, d 164, d 165, d 166, d 167, d 168, d 169, d 170, d 171, d 172, d 173, d 174, d 175, d 176, d 177, d 178, d 179, d 180, d 181, d 182, d 183, d 184, d 185, d 186, d 187, d 188, d 189, d 190, d 191, d 192, d
 193, d 194, d 195, d 196, d 197, d 198, d 199, d 200, d 201, d 202, d 203, d 204, d 205, d 206, d 207, d 208, d 209, d 210, d 211, d 212, d 213, d 214, d 215, d 216, d 217, d 218, d 219, d 220, d 221, d 222, d 223, d 224, d 225, d
 226, d 227, d 228, d 229, d 230, d 231, d 232, d 233, d 234, d 235, d 236, d 237, d 238, d 239, d 240, d 241, d 242, d 243, d 244, d 245, d 246, d 247, d 248, d 249, d 250, d 251, d 252, d 253, d 254, d 255, d 256, d 257, d 258, d
 259, d 260, d 261, d 262, d 263, d 264, d 265, d 266, d 267, d 268, d 269, d 270, d 271, d 272, d 273, d 274, d 275, d 276, d 277, d 278, d 279, d 280, d 281, d 282, d 283, d 284, d 285, d 286, d 287, d 288, d 289, d 290, d 291]
 (KZ.mk ((10, fun z' h' => zAt Try.prog C lf 6 [1, 1, 1, 1, 1, 1, 1, 1, 1, 1, 1] z' (zFin Try.prog 6 K) (KZ.mk [] (zFin Try.prog 6 K)) h') :: KZ.env (KZ.mk [] (zFin Try.prog 6 K))) (KZ.ret (KZ.mk [] (zFin Try.prog 6 K)))) h) := by
 kernel_rfl
theorem pl_b6 (C : ZCall) (lf : Nat) (K : ZK) (h : Heap) (l r : SL) (j : Int) (d : Nat → ZV) (k X : ZT → Heap → Prop) (E : List (Nat × (ZT → Heap → Prop))) : zAt Try.prog C lf 6 [1, 1, 1, 1, 1, 1, 1, 1, 1, 1, 0, 1, 0, 0] (zt (ntOf
 Try.prog 6) (ov [(5, .bool true), (9, .sl l), (10, .sl r), (29, .int .i64 j)] d)) k ⟨(10, X) :: E, zFin Try.prog 6 K⟩ h = (@cnd Prop (decide (j < Int.ofNat (SL.n l))) (ZAnd (SL.nil l = false) (ZIdx j (SL.len l) fun m_1 => ZAnd
 (false = false) (ZLdP h (SL.i l) (SL.o l + m_1 * 1) fun n_1 j_1 p_1 => ZAnd (SL.nil r = false) (ZIdx j (SL.len r) fun m_2 => ZAnd (false = false) (ZLdP h (SL.i r) (SL.o r + m_2 * 1) fun n_2 j_2 p_2 => ZAnd (n_2 = false) (ZAnd
 (false = false) (ZAnd (false = false) (ZLdI h j_2 (Nat.add p_2 3) IntKind.i64 fun n_3 => C 16 [ZV.pv n_1 j_1 p_1] (fun v_1 h'_1 => ZRI (ZV.av v_1) IntKind.i64 fun n_4 => ZAnd (ZAnd (false = false) (ZLdI h'_1 j_2 (Nat.add p_2 3)
 IntKind.i64 fun n_5 => AV.int IntKind.i64 n_5 = AV.int IntKind.i64 n_3)) (ZAnd (ZAnd (false = false) (ZLdP h'_1 (SL.i r) (SL.o r + m_2 * 1) fun n_5 j_3 p_3 => ZV.av (ZV.pv n_5 j_3 p_3) = ZV.av (ZV.pv n_2 j_2 p_2))) (@cnd Prop
 (!decide (n_4 = n_3)) (K (ZV.bool false) h'_1) (ZAnd (SL.nil l = false) (ZIdx j (SL.len l) fun m_3 => ZAnd (false = false) (ZLdP h'_1 (SL.i l) (SL.o l + m_3 * 1) fun n_5 j_3 p_3 => ZAnd (SL.nil r = false) (ZIdx j (SL.len r) fun
 m_4 => ZAnd (false = false) (ZLdP h'_1 (SL.i r) (SL.o r + m_4 * 1) fun n_6 j_4 p_4 => C 17 [ZV.pv n_5 j_3 p_3] (fun v_2 h'_2 => ZRB (ZV.av v_2) fun b_1 => ZAnd (ZAnd (false = false) (ZLdP h'_2 (SL.i r) (SL.o r + m_4 * 1) fun n_7
 j_5 p_5 => ZV.av (ZV.pv n_7 j_5 p_5) = ZV.av (ZV.pv n_6 j_4 p_4))) (C 18 [ZV.pv n_6 j_4 p_4] (fun v_3 h'_3 => ZRB (ZV.av v_3) fun b_2 => @cnd Prop (cnd false true !decide (b_1 = b_2)) (K (ZV.bool false) h'_3) (ZW IntKind.i64 (j +
 1) fun r_1 => k [d 0, d 1, d 2, d 3, d 4, ZV.bool true, d 6, d 7, d 8, ZV.sl l, ZV.sl r, d 11, d 12, d 13, d 14, d 15, d 16, d 17, d 18, d 19, d 20, d 21, d 22, d 23, d 24, d 25, d 26, d 27, d 28, ZV.int IntKind.i64 r_1, d 30, d
 31, d 32, d 33, d 34, d 35, d 36, d 37, d 38, d 39, d 40, d 41, d 42, d 43, d 44, d 45, d 46, d 47, d 48, d 49, d 50, d 51, d 52, d 53, d 54, d 55, d 56, d 57, d 58, d 59, d 60, d 61, d 62, d 63, d 64, d 65, d 66, d 67, d 68, d
 69, d 70, d 71, d 72, d 73, d 74, d 75, d 76, d 77, d 78, d 79, d 80, d 81, d 82, d 83, d 84, d 85, d 86, d 87, d 88, d 89, d 90, d 91, d 92, d 93, d 94, d 95, d 96, d 97, d 98, d 99, d 100, d 101, d 102, d 103, d 104, d 105, d
 106, d 107, d 108, d 109, d 110, d 111, d 112, d 113, d 114, d 115, d 116, d 117, d 118, d 119, d 120, d 121, d 122, d 123, d 124, d 125, d 126, d 127, d 128, d 129, d 130, d 131, d 132, d 133, d 134, d 135, d 136, d 137, d 138, d
 139, d 140, d 141, d 142, d 143, d 144, d 145, d 146, d 147, d 148, d 149, d 150, d 151, d 152, d 153, d 154, d 155, d 156, d 157, d 158, d 159, d 160, d 161, d 162, d 163, d 164, d 165, d 166, d 167, d 168, d 169, d 170, d 171, d
 172, d 173, d 174, d 175, d 176, d 177, d 178, d 179, d 180, d 181, d 182, d 183, d 184, d 185, d 186, d 187, d 188, d 189, d 190, d 191, d 192, d 193, d 194, d 195, d 196, d 197, d 198, d 199, d 200, d 201, d 202, d 203, d 204, d
 205, d 206, d 207, d 208, d 209, d 210, d 211, d 212, d 213, d 214, d 215, d 216, d 217, d 218, d 219, d 220, d 221, d 222, d 223, d 224, d 225, d 226, d 227, d 228, d 229, d 230, d 231, d 232, d 233, d 234, d 235, d 236, d 237, d
 238, d 239, d 240, d 241, d 242, d 243, d 244, d 245, d 246, d 247, d 248, d 249, d 250, d 251, d 252, d 253, d 254, d 255, d 256, d 257, d 258, ZV.int IntKind.i64 j, ZV.sl l, ZV.int IntKind.i64 (Int.ofNat (SL.n l)), ZV.bool true,
 ZV.int IntKind.i64 j, ZV.int IntKind.i64 r_1, ZV.sl l, ZV.int IntKind.i64 j, ZV.pv false (SL.i l) (SL.o l + m_1 * 1), ZV.pv n_1 j_1 p_1, ZV.int IntKind.i64 n_4, ZV.sl r, ZV.int IntKind.i64 j, ZV.pv false (SL.i r) (SL.o r + m_2 *
 1), ZV.pv n_2 j_2 p_2, ZV.pv false j_2 p_2, ZV.pv false j_2 (Nat.add p_2 3), ZV.int IntKind.i64 n_3, ZV.bool !decide (n_4 = n_3), ZV.bool false, ZV.sl l, ZV.int IntKind.i64 j, ZV.pv false (SL.i l) (SL.o l + m_3 * 1), ZV.pv n_5 j_3
 p_3, ZV.bool b_1, ZV.sl r, ZV.int IntKind.i64 j, ZV.pv false (SL.i r) (SL.o r + m_4 * 1), ZV.pv n_6 j_4 p_4, ZV.bool b_2, ZV.bool !decide (b_1 = b_2), ZV.bool false, d 291] h'_3)) h'_2)) h'_1)))))))) h)))))))) (X [d 0, d 1, d 2, d
 3, d 4, ZV.bool true, d 6, d 7, d 8, ZV.sl l, ZV.sl r, d 11, d 12, d 13, d 14, d 15, d 16, d 17, d 18, d 19, d 20, d 21, d 22, d 23, d 24, d 25, d 26, d 27, d 28, ZV.int IntKind.i64 j, d 30, d 31, d 32, d 33, d 34, d 35, d 36, d
 37, d 38, d 39, d 40, d 41, d 42, d 43, d 44, d 45, d 46, d 47, d 48, d 49, d 50, d 51, d 52, d 53, d 54, d 55, d 56, d 57, d 58, d 59, d 60, d 61, d 62, d 63, d 64, d 65, d 66, d 67, d 68, d 69, d 70, d 71, d 72, d 73, d 74, d
 75, d 76, d 77, d 78, d 79, d 80, d 81, d 82, d 83, d 84, d 85, d 86, d 87, d 88, d 89, d 90, d 91, d 92, d 93, d 94, d 95, d 96, d 97, d 98, d 99, d 100, d 101, d 102, d 103, d 104, d 105, d 106, d 107, d 108, d 109, d 110, d
 111, d 112, d 113, d 114, d 115, d 116, d 117, d 118, d 119, d 120, d 121, d 122, d 123, d 124, d 125, d 126, d 127, d 128, d 129, d 130, d 131, d 132, d 133, d 134, d 135, d 136, d 137, d 138, d 139, d 140, d 141, d 142, d 143, d
 144, d 145, d 146, d 147, d 148, d 149, d 150, d 151, d 152, d 153, d 154, d 155, d 156, d 157, d 158, d 159, d 160, d 161, d 162, d 163, d 164, d 165, d 166, d 167, d 168, d 169, d 170, d 171, d 172, d 173, d 174, d 175, d 176, d
 177, d 178, d 179, d 180, d 181, d 182, d 183, d 184, d 185, d 186, d 187, d 188, d 189, d 190, d 191, d 192, d 193, d 194, d 195, d 196, d 197, d 198, d 199, d 200, d 201, d 202, d 203, d 204, d 205, d 206, d 207, d 208, d 209, d
 210, d 211, d 212, d 213, d 214, d 215, d 216, d 217, d 218, d 219, d 220, d 221, d 222, d 223, d 224, d 225, d 226, d 227, d 228, d 229, d 230, d 231, d 232, d 233, d 234, d 235, d 236, d 237, d 238, d 239, d 240, d 241, d 242, d
 243, d 244, d 245, d 246, d 247, d 248, d 249, d 250, d 251, d 252, d 253, d 254, d 255, d 256, d 257, d 258, ZV.int IntKind.i64 j, ZV.sl l, ZV.int IntKind.i64 (Int.ofNat (SL.n l)), ZV.bool false, d 263, d 264, d 265, d 266, d
 267, d 268, d 269, d 270, d 271, d 272, d 273, d 274, d 275, d 276, d 277, d 278, d 279, d 280, d 281, d 282, d 283, d 284, d 285, d 286, d 287, d 288, d 289, d 290, d 291] h)) := by kernel_rfl
theorem pl_a6 (C : ZCall) (lf : Nat) (K : ZK) (h : Heap) (d : Nat → ZV) : zAt Try.prog C lf 6 [1, 1, 1, 1, 1, 1, 1, 1, 1, 1, 1] (zt (ntOf Try.prog 6) (ov [(5, .bool true)] d)) (zFin Try.prog 6 K) ⟨[], zFin Try.prog 6 K⟩ h = (K
 (ZV.bool true) h) := by kernel_rfl
end PolN

namespace PolN
open Go Go.X Go.Proofs
set_option maxRecDepth 100000
/-! ## choosers side by side -/
structure Pair where
  c : Nat
  d : Nat
  kd : Int
  ps : List Int
  s1 : SL
  s2 : SL
  last : Int
  cnt : Nat
  lo : Nat
  hi : Nat
/-- a pair as it stands -/
structure PairOk (h0 h : Heap) (B : Nat) (g : Pair) : Prop where
  kind : 1 ≤ g.kd ∧ g.kd ≤ 4
  range : ∀ p, p ∈ g.ps → -9223372036854775808 ≤ p ∧ p ≤ 9223372036854775807
  one : Held h0 h g.c g.kd g.s1 g.ps g.last g.cnt
  two : Held h0 h g.d g.kd g.s2 g.ps g.last g.cnt
  ne : g.c ≠ g.d
  x1 : g.s1.nil = false → g.s1.i ≠ g.d ∧ g.lo ≤ g.s1.i ∧ g.s1.i < g.hi
  x2 : g.s2.nil = false → g.s2.i ≠ g.c ∧ g.lo ≤ g.s2.i ∧ g.s2.i < g.hi
  inC : g.lo ≤ g.c ∧ g.c < g.hi
  inD : g.lo ≤ g.d ∧ g.d < g.hi
  top : g.hi ≤ h.next
  cnt : g.cnt ≤ B
/-- names of pairs go up -/
def Apart : List Pair → Prop
  | [] => True
  | g :: r => (∀ x, x ∈ r → g.hi ≤ x.lo) ∧ Apart r
theorem Apart.append {x : Pair} : ∀ {l : List Pair}, Apart l → (∀ g, g ∈ l → g.hi ≤ x.lo) → Apart (l ++ [x])
  | [], _, _ => ⟨fun y hy => (by cases hy), trivial⟩
  | g :: r, ha, hx => ⟨fun y hy => by
      rcases List.mem_append.1 hy with hy | hy
      · exact ha.1 y hy
      · have : y = x := by simpa using hy
        subst this; exact hx g (by simp), Apart.append ha.2 fun y hy => hx y (by simp [hy])⟩
theorem Apart.dis : ∀ {l : List Pair}, Apart l → ∀ {i j : Nat} {g x : Pair}, l[i]? = some g → l[j]? = some x → i ≠ j → g.hi ≤ x.lo ∨ x.hi ≤ g.lo
  | [], _, i, j, g, x, hi, _, _ => by cases hi
  | y :: r, ha, 0, 0, g, x, _, _, hn => absurd rfl hn
  | y :: r, ha, 0, j + 1, g, x, hi, hj, _ => by
    cases hi
    exact .inl (ha.1 x (List.mem_of_getElem? hj))
  | y :: r, ha, i + 1, 0, g, x, hi, hj, _ => by
    cases hj
    exact .inr (ha.1 g (List.mem_of_getElem? hi))
  | y :: r, ha, i + 1, j + 1, g, x, hi, hj, hn => Apart.dis ha.2 (i := i) (j := j) hi hj (by omega)
/-- a name that a pair does not hold changes -/
theorem PairOk.other {h0 h h' : Heap} {B n : Nat} {g : Pair} (x : PairOk h0 h B g) (f : Fram (fun i => i = n) h h') (hn : n < g.lo ∨ g.hi ≤ n) (h0n : h0.next ≤ n) : PairOk h0 h' B g :=
  ⟨x.kind, x.range, x.one.other f (by have := x.inC; omega) (fun e => by have := (x.x1 e).2; omega) h0n, x.two.other f (by have := x.inD; omega) (fun e => by have := (x.x2 e).2; omega) h0n, x.ne, x.x1, x.x2, x.inC, x.inD, Nat.le_trans x.top f.next, x.cnt⟩
/-- names that a pair does not hold change -/
theorem PairOk.off {S : Nat → Prop} {h0 h h' : Heap} {B : Nat} {g : Pair} (x : PairOk h0 h B g) (f : Fram S h h') (hS : ∀ i, S i → (i < g.lo ∨ g.hi ≤ i) ∧ h0.next ≤ i) : PairOk h0 h' B g := by
  have nc : ¬ S g.c := fun e => by have := (hS _ e).1; have := x.inC; omega
  have nd : ¬ S g.d := fun e => by have := (hS _ e).1; have := x.inD; omega
  have n1 : g.s1.nil = false → ¬ S g.s1.i := fun e1 e => by have := (hS _ e).1; have := (x.x1 e1).2; omega
  have n2 : g.s2.nil = false → ¬ S g.s2.i := fun e1 e => by have := (hS _ e).1; have := (x.x2 e1).2; omega
  have held : ∀ {c s}, Held h0 h c g.kd s g.ps g.last g.cnt → ¬ S c → (s.nil = false → ¬ S s.i) → Held h0 h' c g.kd s g.ps g.last g.cnt := fun y hc hs =>
    ⟨y.fr.behind (f.mono fun i _ e => (hS i e).2), y.new, ⟨Nat.lt_of_lt_of_le y.ch.lt f.next, (f.same _ y.ch.lt hc).trans y.ch.get⟩, y.ints.fr f hs, y.ne⟩
  exact ⟨x.kind, x.range, held x.one nc n1, held x.two nd n2, x.ne, x.x1, x.x2, x.inC, x.inD, Nat.le_trans x.top f.next, x.cnt⟩
theorem PairOk.stay {h0 h h' : Heap} {B : Nat} {g : Pair} (x : PairOk h0 h B g) (f : Fram no h h') : PairOk h0 h' B g :=
  ⟨x.kind, x.range, x.one.stay f, x.two.stay f, x.ne, x.x1, x.x2, x.inC, x.inD, Nat.le_trans x.top f.next, x.cnt⟩
theorem _root_.Go.X.Grown.fr {S : Nat → Prop} {h0 h h' : Heap} {s : SL} {sz n : Nat} {cs : List AV} (g : Grown h0 h s sz n cs) (f : Fram S h h') (hs : s.nil = false → ¬ S s.i) : Grown h0 h' s sz n cs := by
  obtain ⟨a1, a2⟩ := g
  refine ⟨a1, a2.imp id fun ⟨b1, b2, b3, b4, b5, b6, b7, b8⟩ => ⟨b1, b2, b3, b4, b5, b6, Nat.lt_of_lt_of_le b7 f.next, (f.same _ b7 (hs b1)).trans b8⟩⟩
theorem _root_.Go.X.Grown.cell {h0 h : Heap} {s : SL} {n : Nat} {cs : List AV} (g : Grown h0 h s 1 n cs) {j : Nat} {v : AV} (hj : cs[j]? = some v) : s.nil = false ∧ j < s.len ∧ cellAt h s.i (s.o + j * 1) = some v := by
  obtain ⟨a1, a2⟩ := g
  have hlt : j < cs.length := (List.getElem?_eq_some_iff.1 hj).1
  rcases a2 with ⟨b1, b2⟩ | ⟨b1, b2, b3, b4, b5, b6, b7, b8⟩
  · omega
  · refine ⟨b1, by omega, ?_⟩
    rw [cellAt_of b8, b2, Nat.zero_add, Nat.mul_one]; exact hj
theorem _root_.Go.X.Grown.n_eq {h0 h : Heap} {s : SL} {sz n : Nat} {cs : List AV} (g : Grown h0 h s sz n cs) : s.n = n := by
  obtain ⟨a1, a2⟩ := g
  rcases a2 with ⟨b1, b2⟩ | ⟨b1, b2, b3, _⟩
  · rw [b2, b1]; rfl
  · unfold SL.n; rw [b1]; exact b3
/-- a chooser's name is no grown slice's -/
theorem Chooser.ne_grown {h0 h : Heap} {c : Nat} {k last cnt : Int} {s l : SL} {sz n : Nat} {cs : List AV} (x : Chooser h c k s last cnt) (g : Grown h0 h l sz n cs) (hl : l.nil = false) : l.i ≠ c := by
  intro e
  obtain ⟨_, a2⟩ := g
  rcases a2 with ⟨_, b2⟩ | ⟨_, _, _, _, _, _, _, b8⟩
  · rw [b2] at hl; cases hl
  · rw [e, x.get] at b8; cases b8
/-- all that the law holds: choosers of the package, choosers of the document -/
structure Game (h0 h : Heap) (B : Nat) (l r : SL) (gs : List Pair) : Prop where
  fr : Fram no h0 h
  gl : Grown h0 h l 1 gs.length (gs.map fun g => AV.ptr g.c 0)
  gr : Grown h0 h r 1 gs.length (gs.map fun g => AV.ptr g.d 0)
  ok : ∀ g, g ∈ gs → PairOk h0 h B g
  ap : Apart gs
  ne : l.nil = false → r.nil = false → l.i ≠ r.i
  out : ∀ g, g ∈ gs → (l.nil = false → l.i < g.lo ∨ g.hi ≤ l.i) ∧ (r.nil = false → r.i < g.lo ∨ g.hi ≤ r.i)
theorem Game.stay {h0 h h' : Heap} {B : Nat} {l r : SL} {gs : List Pair} (x : Game h0 h B l r gs) (f : Fram no h h') : Game h0 h' B l r gs :=
  ⟨x.fr.trans f, x.gl.fr f fun _ => id, x.gr.fr f fun _ => id, fun g hg => (x.ok g hg).stay f, x.ap, x.ne, x.out⟩
def Pair.go (g : Pair) (y : Int) : Pair := { g with last := y, cnt := g.cnt + 1 }
theorem Apart.set {y : Int} : ∀ {l : List Pair}, Apart l → ∀ {k : Nat} {g : Pair}, l[k]? = some g → Apart (l.set k (g.go y))
  | [], _, k, g, h => by cases h
  | x :: r, ha, 0, g, h => by cases h; exact ⟨ha.1, ha.2⟩
  | x :: r, ha, k + 1, g, h => by
    refine ⟨fun z hz => ?_, Apart.set ha.2 h⟩
    rcases List.mem_or_eq_of_mem_set hz with hz | rfl
    · exact ha.1 z hz
    · exact ha.1 g (List.mem_of_getElem? h)
theorem Game.move {h0 h h1 h2 : Heap} {B B' : Nat} {l r : SL} {gs : List Pair} (x : Game h0 h B l r gs) {k : Nat} {g : Pair} (hg : gs[k]? = some g) {y : Int}
    (f1 : Fram (fun i => i = g.c) h h1) (c1 : Chooser h1 g.c g.kd g.s1 y (g.cnt + 1)) (f2 : Fram (fun i => i = g.d) h1 h2) (c2 : Chooser h2 g.d g.kd g.s2 y (g.cnt + 1)) (hB : g.cnt + 1 ≤ B') (hBB : B ≤ B') :
    Game h0 h2 B' l r (gs.set k (g.go y)) := by
  have og := x.ok g (List.mem_of_getElem? hg)
  have one1 := og.one.go f1 c1
  have two1 := og.two.other f1 (Ne.symm og.ne) (fun e => (og.x2 e).1) og.one.new
  have one2 := one1.other f2 og.ne (fun e => (og.x1 e).1) og.two.new
  have two2 := two1.go f2 c2
  have mc : (gs.set k (g.go y)).map (fun g => AV.ptr g.c 0) = gs.map fun g => AV.ptr g.c 0 := by
    apply List.ext_getElem?
    intro i
    rw [List.getElem?_map, List.getElem?_map, List.getElem?_set]
    by_cases e : k = i
    · subst e
      rw [if_pos rfl, hg]
      rw [if_pos (List.getElem?_eq_some_iff.1 hg).1]; rfl
    · rw [if_neg e]
  have md : (gs.set k (g.go y)).map (fun g => AV.ptr g.d 0) = gs.map fun g => AV.ptr g.d 0 := by
    apply List.ext_getElem?
    intro i
    rw [List.getElem?_map, List.getElem?_map, List.getElem?_set]
    by_cases e : k = i
    · subst e
      rw [if_pos rfl, hg]
      rw [if_pos (List.getElem?_eq_some_iff.1 hg).1]; rfl
    · rw [if_neg e]
  have gl1 := x.gl.fr f1 fun e => og.one.ch.ne_grown x.gl e
  have gr1 := x.gr.fr f1 fun e => og.one.ch.ne_grown x.gr e
  refine ⟨one2.fr, ?_, ?_, fun z hz => ?_, x.ap.set hg, x.ne, fun z hz => ?_⟩
  · rw [mc, List.length_set]; exact gl1.fr f2 fun e => two1.ch.ne_grown gl1 e
  · rw [md, List.length_set]; exact gr1.fr f2 fun e => two1.ch.ne_grown gr1 e
  · obtain ⟨j, hj⟩ := List.mem_iff_getElem?.1 hz
    rw [List.getElem?_set] at hj
    by_cases e : k = j
    · subst e
      rw [if_pos rfl] at hj
      split at hj
      · cases hj
        exact ⟨og.kind, og.range, one2, two2, og.ne, og.x1, og.x2, og.inC, og.inD, Nat.le_trans og.top (Nat.le_trans f1.next f2.next), hB⟩
      · cases hj
    · rw [if_neg e] at hj
      have oz := x.ok z (List.mem_of_getElem? hj)
      have dis := x.ap.dis hg hj e
      have z1 := oz.other f1 (by have := og.inC; omega) og.one.new
      have z2 := z1.other f2 (by have := og.inD; omega) og.two.new
      exact ⟨z2.kind, z2.range, z2.one, z2.two, z2.ne, z2.x1, z2.x2, z2.inC, z2.inD, z2.top, Nat.le_trans z2.cnt hBB⟩
  · rcases List.mem_or_eq_of_mem_set hz with hz | rfl
    · exact x.out z hz
    · exact x.out g (List.mem_of_getElem? hg)
theorem room25 {m : Nat} (hm : m ≤ 134217728) : roomB Try.prog 25 m = true := by
  have e : bytesO Try.prog 25 = some 8 := by kernel_rfl
  unfold roomB
  rw [e]
  have e1 : Nat.ble (Nat.mul m 8) most = true := Nat.ble_eq_true_of_le (by show m * 8 ≤ 1073741824; omega)
  have e2 : Nat.ble m most = true := Nat.ble_eq_true_of_le (by show m ≤ 1073741824; omega)
  show cnd (Nat.ble (Nat.mul m 8) most) (Nat.ble m most) false = true
  rw [e1, e2]; rfl
theorem room43 {m : Nat} (hm : m ≤ 134217728) : roomB Try.prog 43 m = true := by
  have e : bytesO Try.prog 43 = some 8 := by kernel_rfl
  unfold roomB
  rw [e]
  have e1 : Nat.ble (Nat.mul m 8) most = true := Nat.ble_eq_true_of_le (by show m * 8 ≤ 1073741824; omega)
  have e2 : Nat.ble m most = true := Nat.ble_eq_true_of_le (by show m ≤ 1073741824; omega)
  show cnd (Nat.ble (Nat.mul m 8) most) (Nat.ble m most) false = true
  rw [e1, e2]; rfl
/-- one cell of its own, as a source -/
theorem own_src {h : Heap} {v : AV} {K : List AV → Prop} (k : K [v]) : ZSrc (h.newO (.cells [v] 1 false false)) ⟨false, h.next, 0, 1, 1, false⟩ 1 K :=
  ⟨[v], fun e => (by cases e), fun _ => ⟨[v], cellsAt_of (newO_get_self _ _), rfl, Nat.le_refl _⟩, k⟩
theorem _root_.Go.X.Grown.new {h0 h : Heap} {s : SL} {sz n : Nat} {cs : List AV} (g : Grown h0 h s sz n cs) (e : s.nil = false) : h0.next ≤ s.i ∧ s.i < h.next := by
  obtain ⟨_, a2⟩ := g
  rcases a2 with ⟨_, b2⟩ | ⟨_, _, _, _, _, b6, b7, _⟩
  · rw [b2] at e; cases e
  · exact ⟨b6, b7⟩
theorem Game.add {h0 h : Heap} {B : Nat} {l r : SL} {gs : List Pair} {g : Pair} (x : Game h0 h B l r gs) (og : PairOk h0 h B g) (hlo : ∀ y, y ∈ gs → y.hi ≤ g.lo) (hl : l.nil = false → l.i < g.lo) (hr : r.nil = false → r.i < g.lo) (hn : gs.length + 1 ≤ 134217728) (A : List AV → List AV → Prop) (k : ∀ h' l' r', h' = happ ((happ (h.newO (.cells [.ptr g.c 0] 1 false false)) l 1 1 [.ptr g.c 0]).newO (.cells [.ptr g.d 0] 1 false false)) r 1 1 [.ptr g.d 0] → l' = l.app (h.newO (.cells [.ptr g.c 0] 1 false false)).next 1 →
      r' = r.app ((happ (h.newO (.cells [.ptr g.c 0] 1 false false)) l 1 1 [.ptr g.c 0]).newO (.cells [.ptr g.d 0] 1 false false)).next 1 → h.next ≤ h'.next → Game h0 h' B l' r' (gs ++ [g]) → A [.ptr g.c 0] [.ptr g.d 0]) :
    ZSrc (h.newO (.cells [.ptr g.c 0] 1 false false)) ⟨false, h.next, 0, 1, 1, false⟩ 1 fun ds1 => ZApp Try.prog (h.newO (.cells [.ptr g.c 0] 1 false false)) l 25 1 1 ds1
      (ZSrc ((happ (h.newO (.cells [.ptr g.c 0] 1 false false)) l 1 1 ds1).newO (.cells [.ptr g.d 0] 1 false false)) ⟨false, (happ (h.newO (.cells [.ptr g.c 0] 1 false false)) l 1 1 ds1).next, 0, 1, 1, false⟩ 1 fun ds2 =>
        ZApp Try.prog ((happ (h.newO (.cells [.ptr g.c 0] 1 false false)) l 1 1 ds1).newO (.cells [.ptr g.d 0] 1 false false)) r 43 1 1 ds2
          (A ds1 ds2)) := by
  refine own_src ?_
  have f1 : Fram no h (h.newO (.cells [.ptr g.c 0] 1 false false)) := Fram.newO _ _ _
  have x1 := x.stay f1
  have og1 := og.stay f1
  refine x1.gl.append1 x1.fr.next (by decide) rfl rfl (room25 hn) fun gl2 f2 hi2 => own_src ?_
  have f3 := f2.trans (Fram.newO (fun i => l.nil = false ∧ i = l.i) (happ (h.newO (.cells [.ptr g.c 0] 1 false false)) l 1 1 [.ptr g.c 0]) (.cells [.ptr g.d 0] 1 false false))
  have gr3 := x1.gr.fr f3 fun e ⟨e1, e2⟩ => x1.ne e1 e e2.symm
  have gl3 := gl2.fr (Fram.newO no _ (.cells [.ptr g.d 0] 1 false false)) fun _ => id
  refine gr3.append1 (Nat.le_trans x1.fr.next f3.next) (by decide) rfl rfl (room43 hn) fun gr4 f4 hi4 => k _ _ _ rfl rfl rfl (Nat.le_trans (Nat.le_trans f1.next f3.next) f4.next) ?_
  clear k
  have hnx : (h.newO (.cells [.ptr g.c 0] 1 false false)).next = h.next + 1 := rfl
  have rnew : r.nil = false → h0.next ≤ r.i ∧ r.i < h.next := fun e => x.gr.new e
  have lnew : l.nil = false → h0.next ≤ l.i ∧ l.i < h.next := fun e => x.gl.new e
  have h3n := f3.next
  have lnew2 := fun e => (gl2.new e).2
  have h2n : (happ (h.newO (.cells [.ptr g.c 0] 1 false false)) l 1 1 [.ptr g.c 0]).next ≤ ((happ (h.newO (.cells [.ptr g.c 0] 1 false false)) l 1 1 [.ptr g.c 0]).newO (.cells [.ptr g.d 0] 1 false false)).next := Nat.le_succ _
  -- a pair stays
  have stay : ∀ y, PairOk h0 h B y → (l.nil = false → l.i < y.lo ∨ y.hi ≤ l.i) → (r.nil = false → r.i < y.lo ∨ y.hi ≤ r.i) → PairOk h0 (happ ((happ (h.newO (.cells [.ptr g.c 0] 1 false false)) l 1 1 [.ptr g.c 0]).newO (.cells [.ptr g.d 0] 1 false false)) r 1 1 [.ptr g.d 0]) B y := fun y oy ol or =>
    (((oy.stay f1).off f3 fun i ⟨e1, e2⟩ => ⟨by have := ol e1; omega, by have := lnew e1; omega⟩).off f4 fun i ⟨e1, e2⟩ => ⟨by have := or e1; omega, by have := rnew e1; omega⟩)
  refine ⟨((x.fr.trans f1).behind (f3.mono fun i _ ⟨e1, e2⟩ => by show h0.next ≤ i; have := lnew e1; omega)).behind (f4.mono fun i _ ⟨e1, e2⟩ => by show h0.next ≤ i; have := rnew e1; omega), ?_, ?_, fun y hy => ?_, x.ap.append hlo, fun e1 e2 => by have := lnew2 e1; omega, fun y hy => ⟨fun _ => .inr ?_, fun _ => .inr ?_⟩⟩
  · rw [List.map_append, List.length_append]
    refine gl3.fr f4 fun _ ⟨e1, e2⟩ => ?_
    have := rnew e1; omega
  · rw [List.map_append, List.length_append]
    exact gr4
  · rcases List.mem_append.1 hy with hy | hy
    · exact stay y (x.ok y hy) (x.out y hy).1 (x.out y hy).2
    · have : y = g := by simpa using hy
      subst this
      exact stay y og (fun e => .inl (hl e)) (fun e => .inl (hr e))
  · have : y.hi ≤ h.next := by
      rcases List.mem_append.1 hy with hy | hy
      · exact (x.ok y hy).top
      · have : y = g := by simpa using hy
        subst this; exact og.top
    omega
  · have : y.hi ≤ h.next := by
      rcases List.mem_append.1 hy with hy | hy
      · exact (x.ok y hy).top
      · have : y = g := by simpa using hy
        subst this; exact og.top
    omega
end PolN

namespace PolN
open Go Go.X Go.Proofs
set_option maxRecDepth 100000
set_option linter.unusedVariables false
section
variable {S : ZSums} {lf n : Nat} {h : Heap} {K : ZK}
theorem pick_ok (hS : ∀ f, f ≠ 7 → S f = none) {a : Int} {b : Nat} (ha : -9223372036854775808 ≤ a ∧ a ≤ 9223372036854775807) (hb : 0 < b) (k : ∀ j : Nat, j < b → K (.int .i64 (j : Int)) h) :
    zCall Try.prog S lf (n + 1) 14 [.int .i64 a, .int .i64 (Int.ofNat b)] K h := by
  refine zCall_at (hS _ (by decide)) (by kernel_rfl) ?_
  rw [pick_nf]
  simp only [cnd_dec, zW_iff, zAnd_iff]
  have en : ∀ x : Nat, (Int.ofNat x : Int) = x := fun _ => rfl
  have fin : ∀ q : Int, 0 ≤ q → (Int.ofNat b = 0 → False) ∧ K (.int .i64 (q.tmod (Int.ofNat b))) h := fun q hq => ⟨fun e => by have := en b; omega, by
    rw [tmod_nat hq]; exact k _ (Nat.mod_lt _ hb)⟩
  refine ⟨fun e => ?_, fun e => fin _ (by omega)⟩
  rw [i64_fit (e := a + 1) (by omega) (by omega), i64_fit (by omega) (by omega)]
  exact fin _ (by omega)
theorem lentL_take (l : List Int) : ((lentL l).map (AV.int .i64)).take l.length = l.map (AV.int .i64) := by
  apply List.ext_getElem?
  intro i
  rw [List.getElem?_take]
  by_cases hi : i < l.length
  · rw [if_pos hi, List.getElem?_map, lentL_at (by omega), List.getElem?_map]
    unfold mk; rw [if_pos hi, List.getD_eq_getElem?_getD, List.getElem?_eq_getElem hi]; rfl
  · rw [if_neg hi, List.getElem?_eq_none (by rw [List.length_map]; omega)]
theorem cut_ints {xi : Nat} {l : List Int} (hlt : xi < h.next) (g : h.get xi = some (.cells ((lentL l).map (AV.int .i64)) 1 false false)) :
    Ints h (SL.cut ⟨false, xi, 0, l.length + 3, l.length + 3, false⟩ 1 0 l.length (l.length + 3) false) l :=
  ⟨rfl, fun _ => hlt, fun _ => ⟨_, cellsAt_of g, by show List.take l.length (List.drop 0 _) = _; rw [List.drop_zero]; exact lentL_take l, by show l.length ≤ (List.drop 0 _).length; rw [List.drop_zero, List.length_map, lentL_len]; omega⟩⟩
theorem lent_ints {xi : Nat} {l : List Int} (hlt : xi < h.next) (g : h.get xi = some (.cells ((lentL l).map (AV.int .i64)) 1 false false)) : Ints h ⟨false, xi, 0, l.length + 3, l.length + 3, false⟩ (lentL l) :=
  Ints.own (by rw [lentL_len]) hlt g
/-- the copy is written over -/
theorem xor_ok {C : ZCall} {p a l r : SL} {c e xi m : Nat} {cn en' : Bool} {i : Int} {ts : List Int} {z : ZT} {X : ZT → Heap → Prop} {E : List (Nat × (ZT → Heap → Prop))}
    (hz : ZAt 292 [(0, .sl p), (1, .sl a), (5, .bool true), (9, .sl l), (10, .sl r), (11, .int .i64 i), (13, .sl ⟨false, xi, 0, m, m, false⟩), (15, .pv cn c 0), (17, .pv en' e 0), (20, .int .i64 0)] z)
    (hlt : xi < h.next) (g : h.get xi = some (.cells (ts.map (AV.int .i64)) 1 false false)) (hm : ts.length = m) (hmx : m ≤ 134217728) (hlf : m < lf)
    (hX : ∀ z h', ZAt 292 [(0, .sl p), (1, .sl a), (5, .bool true), (9, .sl l), (10, .sl r), (11, .int .i64 i), (15, .pv cn c 0), (17, .pv en' e 0)] z → Fram (fun i => i = xi) h h' → X z h') :
    ZLoop lf (zAt Try.prog C lf 6 [1, 1, 1, 1, 1, 1, 1, 1, 0, 1, 0, 0, 1, 0, 0, 1, 1, 1, 1, 1, 1, 1, 0, 1, 0, 0]) z ⟨(6, X) :: E, zFin Try.prog 6 K⟩ h := by
  have en : ∀ x : Nat, (Int.ofNat x : Int) = x := fun _ => rfl
  refine ZLoop.inv (fun q z h' => ∃ (j : Nat) (ts : List Int), ZAt 292 [(0, .sl p), (1, .sl a), (5, .bool true), (9, .sl l), (10, .sl r), (11, .int .i64 i), (13, .sl ⟨false, xi, 0, m, m, false⟩), (15, .pv cn c 0), (17, .pv en' e 0), (20, .int .i64 (j : Int))] z ∧ Fram (fun i => i = xi) h h' ∧ xi < h'.next ∧ h'.get xi = some (.cells (ts.map (AV.int .i64)) 1 false false) ∧ ts.length = m ∧ j + q = m) (n := m) hlf
    ⟨0, ts, hz, Fram.refl _ _, hlt, g, hm, by omega⟩ ?_
  clear hz g hm
  rintro q z h' kk hq ⟨j, ts, hz, f, hlt, g, hts, hj⟩ ih
  refine zAt_of _ hz fun d => (pl_b4 _ lf K _ _ _ _ _ _ _ _ _ _ _ _ _ _ _ _).mpr ?_
  rw [cnd_dec]
  refine ⟨fun e => ?_, fun e => ?_⟩
  · have hjm : j < m := by have := en m; have e : (j : Int) < Int.ofNat m := e; omega
    obtain ⟨y, hy⟩ : ∃ y, ts[j]? = some y := ⟨_, List.getElem?_eq_getElem (by omega)⟩
    simp only [zAnd_iff, eq_self, true_and, zIdx_nat, Nat.mul_one, Nat.zero_add, zLdI_iff, zW_iff]
    refine ⟨hjm, y, by rw [cellAt_of g]; simp [hy], hjm, zPut_of ⟨hlt, _, _, _, _, g, by rw [List.length_map, hts]; exact hjm⟩ ?_⟩
    rw [i64_fit (e := (j : Int) + 1) (by omega) (by omega)]
    have g2 := hput_get (o := j) (vs := [AV.int .i64 (IntKind.i64.wrap (Int.ofNat (Nat.xor (toU .i64 y) 1)))]) g
    refine ih (q - 1) _ _ (by omega) ⟨j + 1, ts.set j (IntKind.i64.wrap (Int.ofNat (Nat.xor (toU .i64 y) 1))), ⟨rfl, rfl, rfl, rfl, rfl, rfl, rfl, rfl, rfl, rfl, rfl, trivial⟩, f.trans (Fram.hput _ _ _ fun _ => rfl), by rw [hput_next]; exact hlt, ?_, by rw [List.length_set]; exact hts, by omega⟩
    rw [g2]
    congr 1
    rw [List.set_eq_take_append_cons_drop, if_pos (by omega)]
    simp
  · exact hX _ _ ⟨rfl, rfl, rfl, rfl, rfl, rfl, rfl, rfl, rfl, trivial⟩ f
end
end PolN

namespace PolN
open Go Go.X Go.Proofs
set_option maxRecDepth 100000
set_option linter.unusedVariables false
section
variable {lf n : Nat} {K : ZK}
/-- what policies and asks may be -/
def Small (l : List (Int × List Int)) : Prop := l.length ≤ 1048576 ∧ ∀ x, x ∈ l → (-9223372036854775808 ≤ x.1 ∧ x.1 ≤ 9223372036854775807) ∧ x.2.length ≤ 1048576 ∧ ∀ y, y ∈ x.2 → -9223372036854775808 ≤ y ∧ y ≤ 9223372036854775807
theorem make_ok {p a l r : SL} {pl : List (Int × List Int)} {gs : List Pair} {h0 h : Heap} {j : Nat} {d : Nat → ZV} {kk X : ZT → Heap → Prop} {E : List (Nat × (ZT → Heap → Prop))}
    (hp : Asks h0 p pl) (hj : j < pl.length) (hb : Small pl) (x : Game h0 h 0 l r gs) (hgs : gs.length ≤ j) (hlf : 1048590 ≤ lf)
    (k : ∀ z h' l' r' gs', ZAt 292 [(0, .sl p), (1, .sl a), (5, .bool true), (9, .sl l'), (10, .sl r'), (11, .int .i64 ((j + 1 : Nat) : Int))] z → Game h0 h' 0 l' r' gs' → gs'.length ≤ j + 1 → kk z h') :
    zAt Try.prog (zCall Try.prog S7 lf (n + 5)) lf 6 [1, 1, 1, 1, 1, 1, 1, 1, 0, 1, 0, 0] (zt (ntOf Try.prog 6) (ov [(0, .sl p), (1, .sl a), (5, .bool true), (9, .sl l), (10, .sl r), (11, .int .i64 (j : Int))] d)) kk ⟨(4, X) :: E, zFin Try.prog 6 K⟩ h := by
  have en : ∀ x : Nat, (Int.ofNat x : Int) = x := fun _ => rfl
  obtain ⟨y, hy⟩ : ∃ y, pl[j]? = some y := ⟨_, List.getElem?_eq_getElem hj⟩
  obtain ⟨kd, ps⟩ := y
  have hpn := hp.nil_of hj
  have hpl' := hp.len' hpn
  have hps := hb.2 _ (List.mem_of_getElem? hy)
  have hps1 : ps.length ≤ 1048576 := hps.2.1
  have hpr : ∀ y, y ∈ ps → -9223372036854775808 ≤ y ∧ y ≤ 9223372036854775807 := hps.2.2
  have hbl := hb.1
  obtain ⟨c0, s, c1, is⟩ := (hp.fr x.fr).at' hpn j _ hy
  refine (pl_b3 _ lf K _ _ _ _ _ _ _ _ _ _).mpr ?_
  rw [cnd_dec]
  refine ⟨fun _ => ?_, fun e => absurd hj (by have := hp.len; have := en p.n; omega)⟩
  refine ⟨hpn, zIdx_nat.2 ⟨by omega, rfl, ⟨kd, c0, zLdL_of (s := s) c1 ⟨rfl, zPut_of ⟨Nat.lt_succ_self _, _, _, _, _, newO_get_self _ _, Nat.le_refl 2⟩ ⟨rfl, rfl, ?_⟩⟩⟩⟩⟩
  have gb := hput_get (o := 0) (vs := [AV.int .i64 kd, s.av]) (newO_get_self h (.cells [.int .i64 0, .nils] 0 false false))
  have fb : Fram no h (hput (h.newO (.cells [.int .i64 0, .nils] 0 false false)) h.next 0 [AV.int .i64 kd, s.av]) := (Fram.newO no h (.cells [.int .i64 0, .nils] 0 false false)).behind (Fram.hput _ _ _ fun _ => Nat.le_refl _)
  have nb : (hput (h.newO (.cells [.int .i64 0, .nils] 0 false false)) h.next 0 [AV.int .i64 kd, s.av]).next = h.next + 1 := hput_next _ _ _ _
  generalize hput (h.newO (.cells [.int .i64 0, .nils] 0 false false)) h.next 0 [AV.int .i64 kd, s.av] = hb at gb fb nb ⊢
  have cb : ∀ h', Fram no hb h' → ∀ o, cellAt h' h.next o = [AV.int .i64 kd, s.av][o]? := fun h' f o => cellAt_of ((f.same _ (by omega) id).trans gb)
  have isb := is.fr fb fun _ => id
  refine zLdL_of (s := s) (cb hb (Fram.refl _ _) 1) (lent_ok hS7 isb (by omega) (by omega) fun h2 xi f2 hx1 hx2 gx => ?_)
  rw [av_sl]
  refine zRL_of ⟨rfl, rfl, ⟨kd, cb h2 f2 0, ⟨rfl, rfl, zLdL_of (s := s) (cb h2 f2 1) (zNat_nat.2 ?_)⟩⟩⟩
  rw [is.len]
  refine ⟨⟨fun e => (by cases e), fun _ => ⟨Nat.zero_le _, Nat.le_add_right _ 3, fun e => by have e : 0 = ps.length + 3 := e; omega⟩⟩, check_ok hS7 fun h3 f3 => ?_⟩
  have ec : (SL.cut ⟨false, xi, 0, ps.length + 3, ps.length + 3, false⟩ 1 0 ps.length (ps.length + 3) false).n = ps.length := rfl
  have ic := cut_ints hx2 gx
  rw [ec, av_int]
  refine zRI_av.2 ⟨rfl, rfl, ⟨kd, cb h3 (f2.trans f3) 0, ⟨rfl, rfl, zLdL_of (s := s) (cb h3 (f2.trans f3) 1) (zNat_nat.2 ?_)⟩⟩⟩
  rw [is.len]
  have f23 := f2.trans f3
  have hx3 : xi < h3.next := Nat.lt_of_lt_of_le hx2 f3.next
  have gx3 : h3.get xi = _ := (f3.same _ hx2 id).trans gx
  refine ⟨⟨fun e => (by cases e), fun _ => ⟨Nat.zero_le _, Nat.le_add_right _ 3, fun e => by have e : 0 = ps.length + 3 := e; omega⟩⟩, new_ok hS7 (ic.fr f3 fun _ => id) (fun e h4 f4 => zRT_pi ?_) fun e h4 c s1 f4 hc1 ch1 is1 ne1 => zRT_pi ?_⟩
  · have f24 := f23.trans f4
    refine ⟨rfl, ⟨kd, cb h4 f24 0, zLdL_of (s := s) (cb h4 f24 1) (rnew_ok hS7 (isb.fr f24 fun _ => id) (fun _ h5 f5 => zRT_pi ?_) fun e2 => by rw [e] at e2; cases e2)⟩⟩
    have f25 := f24.trans f5
    have f35 := f4.trans f5
    have hx5 : xi < h5.next := Nat.lt_of_lt_of_le hx3 f35.next
    have gx5 : h5.get xi = _ := (f35.same _ hx3 id).trans gx3
    refine ⟨rfl, rfl, zLdL_of (s := s) (cb h5 f25 1) (stay_ok hS7 (isb.fr f25 fun _ => id) (lent_ints hx5 gx5) (by omega) (by omega) ?_)⟩
    rw [av_bool, e]
    refine zRB_av.2 ?_
    simp only [eq_self, decide_true, Bool.not_true, cnd_f, cnd_fP]
    refine xor_ok (i := (j : Int)) (ts := lentL ps) (m := ps.length + 3) (xi := xi) (c := 0) (e := 0) (cn := true) (en' := true) ⟨rfl, rfl, rfl, rfl, rfl, rfl, rfl, rfl, rfl, rfl, rfl, trivial⟩ hx5 gx5 (lentL_len _) (by omega) (by omega) fun z h6 hz f6 => ?_
    refine zAt_of _ hz fun d => (pl_a4 _ lf K _ _ _ _ _ _ _ _ _ _ _ _ _ _).mpr ?_
    refine zAt_of (n := 292) [(0, .sl p), (1, .sl a), (5, .bool true), (9, .sl l), (10, .sl r), (11, .int .i64 (j : Int))] ⟨rfl, rfl, rfl, rfl, rfl, rfl, rfl, trivial⟩ fun d' => (pl_c4 _ lf K _ _ _ _ _ _ _ _ _).mpr (zW_iff.2 ?_)
    rw [i64_fit (by omega) (by omega)]
    refine k _ _ l r gs ⟨rfl, rfl, rfl, rfl, rfl, rfl, rfl, trivial⟩ (x.stay (((fb.trans f25)).behind (f6.mono fun i _ e => by show h.next ≤ i; have e : i = xi := e; omega))) (by omega)
  · have f24 := f23.trans f4
    refine ⟨rfl, ⟨kd, cb h4 f24 0, zLdL_of (s := s) (cb h4 f24 1) (rnew_ok hS7 (isb.fr f24 fun _ => id) (fun e2 => by rw [e] at e2; cases e2) fun _ h5 c2 s2 f5 hc2 ch2 is2 ne2 => zRT_pi ?_)⟩⟩
    have f25 := f24.trans f5
    have f35 := f4.trans f5
    have hx5 : xi < h5.next := Nat.lt_of_lt_of_le hx3 f35.next
    have gx5 : h5.get xi = _ := (f35.same _ hx3 id).trans gx3
    refine ⟨rfl, rfl, zLdL_of (s := s) (cb h5 f25 1) (stay_ok hS7 (isb.fr f25 fun _ => id) (lent_ints hx5 gx5) (by omega) (by omega) ?_)⟩
    rw [av_bool, e]
    refine zRB_av.2 ?_
    simp only [eq_self, decide_true, Bool.not_true, cnd_f, cnd_fP]
    refine xor_ok (i := (j : Int)) (ts := lentL ps) (m := ps.length + 3) (xi := xi) (c := c) (e := c2) (cn := false) (en' := false) ⟨rfl, rfl, rfl, rfl, rfl, rfl, rfl, rfl, rfl, rfl, rfl, trivial⟩ hx5 gx5 (lentL_len _) (by omega) (by omega) fun z h6 hz f6 => ?_
    refine zAt_of _ hz fun d => (pl_a4 _ lf K _ _ _ _ _ _ _ _ _ _ _ _ _ _).mpr ?_
    -- the pair
    have kd14 : 1 ≤ kd ∧ kd ≤ 4 := by
      unfold checkE at e; split at e
      · cases e
      · omega
    have F4 : Fram no h h4 := fb.trans f24
    have F5 : Fram no h h5 := fb.trans f25
    have hn1 := ch1.lt
    have hn2 := ch2.lt
    have x0n := x.fr.next
    have f3n := F4.next
    have f5n := f5.next
    have f4n := f4.next
    have f6n := f6.next
    have H4 : Held h0 h4 c kd s1 ps (-1) 0 := ⟨x.fr.trans F4, by have := (fb.trans f23).next; omega, ch1, is1, fun e => (ne1 e).2⟩
    have H5 := H4.stay f5
    have G5 : Held h0 h5 c2 kd s2 ps (-1) 0 := ⟨x.fr.trans F5, by omega, ch2, is2, fun e => (ne2 e).2⟩
    have H6 : Held h0 h6 c kd s1 ps (-1) 0 := H5.other f6 (by omega) (fun e => by have := (ne1 e).1; omega) (by omega)
    have G6 : Held h0 h6 c2 kd s2 ps (-1) 0 := G5.other f6 (by omega) (fun e => by have := (ne2 e).1; omega) (by omega)
    have F6 : Fram no h h6 := F5.behind (f6.mono fun i _ e => by show h.next ≤ i; have e : i = xi := e; omega)
    have i1 : s1.nil = false → s1.i < h4.next := is1.lt
    have i2 : s2.nil = false → s2.i < h5.next := is2.lt
    have og : PairOk h0 h6 0 ⟨c, c2, kd, ps, s1, s2, -1, 0, h.next, h6.next⟩ :=
      ⟨kd14, hpr, H6, G6, by show c ≠ c2; omega, fun e => ⟨by have := i1 e; show s1.i ≠ c2; omega, by show h.next ≤ s1.i; have := (ne1 e).1; omega, by show s1.i < h6.next; have := i1 e; omega⟩,
        fun e => ⟨by have := (ne2 e).1; show s2.i ≠ c; omega, by show h.next ≤ s2.i; have := (ne2 e).1; omega, by show s2.i < h6.next; have := i2 e; omega⟩, ⟨by show h.next ≤ c; omega, by show c < h6.next; omega⟩, ⟨by show h.next ≤ c2; omega, by show c2 < h6.next; omega⟩, Nat.le_refl _, Nat.le_refl _⟩
    have x6 := x.stay F6
    refine x6.add og (fun y hy => (x.ok y hy).top) (fun e => (x.gl.new e).2) (fun e => (x.gr.new e).2) (by omega) _ fun h7 l' r' e7 el er hn7 x7 => ?_
    subst e7; subst el; subst er
    refine zAt_of (n := 292) [(0, .sl p), (1, .sl a), (5, .bool true), (9, .sl _), (10, .sl _), (11, .int .i64 (j : Int))] ⟨rfl, rfl, rfl, rfl, rfl, rfl, rfl, trivial⟩ fun d' => (pl_c4 _ lf K _ _ _ _ _ _ _ _ _).mpr (zW_iff.2 ?_)
    rw [i64_fit (by omega) (by omega)]
    exact k _ _ _ _ _ ⟨rfl, rfl, rfl, rfl, rfl, rfl, rfl, trivial⟩ x7 (by rw [List.length_append]; show gs.length + 1 ≤ j + 1; omega)
end
end PolN

namespace PolN
open Go Go.X Go.Proofs
set_option maxRecDepth 100000
set_option linter.unusedVariables false
section
variable {lf n : Nat} {K : ZK}
theorem Asks.row {h0 : Heap} {a : SL} {al : List (Int × List Int)} (ha : Asks h0 a al) {j : Nat} {on : Int} {ws : List Int} (hy : al[j]? = some (on, ws)) (e : a.nil = false) :
    ∃ w : SL, ∀ h', Fram no h0 h' → cellAt h' a.i (a.o + j * 2) = some (.int .i64 on) ∧ cellAt h' a.i (a.o + j * 2 + 1) = some w.av ∧ Ints h' w ws := by
  obtain ⟨c0, w, c1, iw⟩ := ha.at' e j _ hy
  exact ⟨w, fun h' f => ⟨(cellAt_eq (f.same _ (ha.lt e) id)).trans c0, (cellAt_eq (f.same _ (ha.lt e) id)).trans c1, iw.fr f fun _ => id⟩⟩
theorem dec_self {α : Type} (a : α) [Decidable (a = a)] : decide (a = a) = true := decide_eq_true rfl
theorem Game.more {h0 h : Heap} {B : Nat} {l r : SL} {gs : List Pair} (x : Game h0 h B l r gs) : Game h0 h (B + 1) l r gs :=
  ⟨x.fr, x.gl, x.gr, fun g hg => by
    have y := x.ok g hg
    exact ⟨y.kind, y.range, y.one, y.two, y.ne, y.x1, y.x2, y.inC, y.inD, y.top, Nat.le_succ_of_le y.cnt⟩, x.ap, x.ne, x.out⟩
theorem ask_ok {a l r : SL} {al : List (Int × List Int)} {gs : List Pair} {h0 h : Heap} {j : Nat} {d : Nat → ZV} {kk X : ZT → Heap → Prop} {E : List (Nat × (ZT → Heap → Prop))}
    (ha : Asks h0 a al) (hj : j < al.length) (hb : Small al) (x : Game h0 h j l r gs) (hgs : 0 < gs.length) (hlf : 1048590 ≤ lf)
    (kont : ∀ z h' gs', ZAt 292 [(1, .sl a), (5, .bool true), (9, .sl l), (10, .sl r), (21, .int .i64 ((j + 1 : Nat) : Int))] z → Game h0 h' (j + 1) l r gs' → gs'.length = gs.length → kk z h') :
    zAt Try.prog (zCall Try.prog S7 lf (n + 5)) lf 6 [1, 1, 1, 1, 1, 1, 1, 1, 1, 0, 1, 0, 0] (zt (ntOf Try.prog 6) (ov [(1, .sl a), (5, .bool true), (9, .sl l), (10, .sl r), (21, .int .i64 (j : Int))] d)) kk ⟨(8, X) :: E, zFin Try.prog 6 K⟩ h := by
  have en : ∀ x : Nat, (Int.ofNat x : Int) = x := fun _ => rfl
  obtain ⟨y, hy⟩ : ∃ y, al[j]? = some y := ⟨_, List.getElem?_eq_getElem hj⟩
  obtain ⟨on, ws⟩ := y
  have an := ha.nil_of hj
  have al' := ha.len' an
  have hws := hb.2 _ (List.mem_of_getElem? hy)
  have hon : -9223372036854775808 ≤ on ∧ on ≤ 9223372036854775807 := hws.1
  have hwl : ws.length ≤ 1048576 := hws.2.1
  have hbl := hb.1
  have haj : j < a.len := by omega
  obtain ⟨w, row⟩ := ha.row hy an
  have ln := x.gl.n_eq
  refine (pl_b5 _ lf K _ _ _ _ _ _ _ _ _).mpr ?_
  rw [cnd_dec]
  refine ⟨fun _ => ?_, fun e => absurd hj (by have := ha.len; have := en a.n; omega)⟩
  rw [decide_eq_true (show (0 : Int) < Int.ofNat l.n by have := en l.n; omega)]
  show ZAnd _ _
  refine ⟨an, zIdx_nat.2 ⟨haj, rfl, rfl, ⟨on, (row h x.fr).1, pick_ok hS7 hon (show 0 < l.n by omega) fun k hk => ?_⟩⟩⟩
  rw [av_int]
  rw [ln] at hk
  obtain ⟨g, hg⟩ : ∃ g, gs[k]? = some g := ⟨_, List.getElem?_eq_getElem hk⟩
  refine zRI_av.2 ⟨an, zIdx_nat.2 ⟨haj, rfl, rfl, zLdL_of (s := w) (row h x.fr).2.1 (lent_ok hS7 (row h x.fr).2.2 (by omega) (by omega) fun h2 xi f2 hx1 hx2 gx => ?_)⟩⟩
  have x2 := x.stay f2
  have og := x2.ok g (List.mem_of_getElem? hg)
  have og0 := x.ok g (List.mem_of_getElem? hg)
  have cC := og0.inC
  have cD := og0.inD
  have cT := og0.top
  have ncn := og.cnt
  have mc : (gs.map fun g => AV.ptr g.c 0)[k]? = some (AV.ptr g.c 0) := by rw [List.getElem?_map, hg]; rfl
  have md : (gs.map fun g => AV.ptr g.d 0)[k]? = some (AV.ptr g.d 0) := by rw [List.getElem?_map, hg]; rfl
  obtain ⟨lnil, hkl, lc2⟩ := x2.gl.cell mc
  obtain ⟨rnil, hkr, rc2⟩ := x2.gr.cell md
  have r2 := row h2 x2.fr
  have ic := cut_ints hx2 gx
  rw [av_sl]
  refine zRL_of ⟨lnil, zIdx_nat.2 ⟨hkl, rfl, zLdP_of (nil := false) (j := g.c) (p := 0) lc2 ⟨an, zIdx_nat.2 ⟨haj, rfl, rfl, zLdL_of (s := w) r2.2.1 (zNat_nat.2 ?_)⟩⟩⟩⟩
  rw [r2.2.2.len]
  refine ⟨⟨fun e => (by cases e), fun _ => ⟨Nat.zero_le _, Nat.le_add_right _ 3, fun e => by have e : 0 = ws.length + 3 := e; omega⟩⟩, choose_ok hS7 og.kind og.one.ch og.one.ints og.range (by omega) (by omega) ic (by omega) (by omega) (fun em h3 f3 => zRT_ii ?_) fun a0 t hat h3 f3 ch3 => zRT_ii ?_⟩
  · have x3 := x2.stay f3
    have og3 := x3.ok g (List.mem_of_getElem? hg)
    obtain ⟨_, _, rc3⟩ := x3.gr.cell md
    have r3 := row h3 x3.fr
    refine ⟨rnil, zIdx_nat.2 ⟨hkr, rfl, zLdP_of (nil := false) (j := g.d) (p := 0) rc3 ⟨an, zIdx_nat.2 ⟨haj, rfl, rfl, zLdL_of (s := w) r3.2.1 (rchoose_ok hS7 og3.two.ch og3.two.ints og3.range (by omega) (by omega) r3.2.2 (by omega) (by omega) (fun _ h4 f4 => zRT_ii ?_) fun a1 t1 hat1 => by rw [em] at hat1; cases hat1)⟩⟩⟩⟩
    have x4 := x3.stay f4
    have og4 := x4.ok g (List.mem_of_getElem? hg)
    obtain ⟨_, _, lc4⟩ := x4.gl.cell mc
    obtain ⟨_, _, rc4⟩ := x4.gr.cell md
    have ch4 := og4.one.ch
    have dh4 := og4.two.ch
    have f24 := f3.trans f4
    have r4 := row h4 x4.fr
    have cn4 : cellAt h4 g.d (Nat.add 0 3) = some (.int .i64 (g.cnt : Int)) := by rw [cellAt_of dh4.get]; rfl
    refine ⟨an, zIdx_nat.2 ⟨haj, rfl, rfl, zLdL_of (s := w) r4.2.1 (stay_ok hS7 r4.2.2 (lent_ints (Nat.lt_of_lt_of_le hx2 f24.next) ((f24.same _ hx2 id).trans gx)) (by omega) (by omega) ?_)⟩⟩
    rw [av_bool]
    refine zRB_av.2 ?_
    simp only [dec_self, Bool.not_true, cnd_f, cnd_fP]
    refine ⟨lnil, zIdx_nat.2 ⟨hkl, by trivial, zLdP_of (nil := false) (j := g.c) (p := 0) lc4 ⟨rnil, zIdx_nat.2 ⟨hkr, by trivial, zLdP_of (nil := false) (j := g.d) (p := 0) rc4 ⟨rfl, by trivial, by trivial, ⟨_, cn4, count_ok hS7 ch4 ?_⟩⟩⟩⟩⟩⟩
    rw [av_int]
    refine zRI_av.2 ⟨⟨by trivial, ⟨_, cn4, rfl⟩⟩, ⟨⟨by trivial, zLdP_of (nil := false) (j := g.d) (p := 0) rc4 rfl⟩, ?_⟩⟩
    simp only [dec_self, Bool.not_true, cnd_f, cnd_fP]
    refine ⟨lnil, zIdx_nat.2 ⟨hkl, by trivial, zLdP_of (nil := false) (j := g.c) (p := 0) lc4 ⟨rnil, zIdx_nat.2 ⟨hkr, by trivial, zLdP_of (nil := false) (j := g.d) (p := 0) rc4 (settles_ok hS7 ch4 ?_)⟩⟩⟩⟩
    rw [av_bool]
    refine zRB_av.2 ⟨⟨by trivial, zLdP_of (nil := false) (j := g.d) (p := 0) rc4 rfl⟩, rsettles_ok hS7 dh4 ?_⟩
    rw [av_bool]
    refine zRB_av.2 ?_
    simp only [dec_self, Bool.not_true, cnd_f, cnd_fP]
    refine zW_iff.2 ?_
    rw [i64_fit (by omega) (by omega)]
    exact kont _ _ gs ⟨rfl, rfl, rfl, rfl, rfl, rfl, trivial⟩ x4.more rfl
  · have og3 := og.one.go f3 ch3
    have two3 := og.two.other f3 (Ne.symm og.ne) (fun e => (og.x2 e).1) og.one.new
    have gr3 := x2.gr.fr f3 fun e => og.one.ch.ne_grown x2.gr e
    obtain ⟨_, _, rc3⟩ := gr3.cell md
    have r3 := row h3 og3.fr
    refine ⟨rnil, zIdx_nat.2 ⟨hkr, rfl, zLdP_of (nil := false) (j := g.d) (p := 0) rc3 ⟨an, zIdx_nat.2 ⟨haj, rfl, rfl, zLdL_of (s := w) r3.2.1 (rchoose_ok hS7 two3.ch two3.ints og.range (by omega) (by omega) r3.2.2 (by omega) (by omega) (fun em => by rw [em] at hat; cases hat) fun a1 t1 hat1 h4 f4 dh4 => zRT_ii ?_)⟩⟩⟩⟩
    obtain ⟨rfl, rfl⟩ := List.cons.inj (hat.symm.trans hat1)
    have x4 : Game h0 h4 (j + 1) l r _ := x2.move hg f3 ch3 f4 dh4 (by omega) (by omega)
    have hg4 : (gs.set k (g.go (chosen g.kd g.ps ws g.last g.cnt a0 t : Int)))[k]? = some (g.go (chosen g.kd g.ps ws g.last g.cnt a0 t : Int)) := by rw [List.getElem?_set, if_pos rfl, if_pos hk]
    have og4 := x4.ok _ (List.mem_of_getElem? hg4)
    have mc4 : ((gs.set k (g.go (chosen g.kd g.ps ws g.last g.cnt a0 t : Int))).map fun g => AV.ptr g.c 0)[k]? = some (AV.ptr g.c 0) := by rw [List.getElem?_map, hg4]; rfl
    have md4 : ((gs.set k (g.go (chosen g.kd g.ps ws g.last g.cnt a0 t : Int))).map fun g => AV.ptr g.d 0)[k]? = some (AV.ptr g.d 0) := by rw [List.getElem?_map, hg4]; rfl
    obtain ⟨_, _, lc4⟩ := x4.gl.cell mc4
    obtain ⟨_, _, rc4⟩ := x4.gr.cell md4
    have ch4 : Chooser h4 g.c g.kd g.s1 _ ((g.cnt + 1 : Nat) : Int) := og4.one.ch
    have dh4 : Chooser h4 g.d g.kd g.s2 _ ((g.cnt + 1 : Nat) : Int) := og4.two.ch
    have r4 := row h4 x4.fr
    have cn4 : cellAt h4 g.d (Nat.add 0 3) = some (.int .i64 ((g.cnt + 1 : Nat) : Int)) := by rw [cellAt_of dh4.get]; rfl
    have hx3 : xi < h3.next := Nat.lt_of_lt_of_le hx2 f3.next
    refine ⟨an, zIdx_nat.2 ⟨haj, rfl, rfl, zLdL_of (s := w) r4.2.1 (stay_ok hS7 r4.2.2 (lent_ints (Nat.lt_of_lt_of_le hx3 f4.next) ((f4.same _ hx3 (by omega)).trans ((f3.same _ hx2 (by omega)).trans gx))) (by omega) (by omega) ?_)⟩⟩
    rw [av_bool]
    refine zRB_av.2 ?_
    simp only [dec_self, Bool.not_true, cnd_f, cnd_fP]
    refine ⟨lnil, zIdx_nat.2 ⟨hkl, by trivial, zLdP_of (nil := false) (j := g.c) (p := 0) lc4 ⟨rnil, zIdx_nat.2 ⟨hkr, by trivial, zLdP_of (nil := false) (j := g.d) (p := 0) rc4 ⟨rfl, by trivial, by trivial, ⟨_, cn4, count_ok hS7 ch4 ?_⟩⟩⟩⟩⟩⟩
    rw [av_int]
    refine zRI_av.2 ⟨⟨by trivial, ⟨_, cn4, rfl⟩⟩, ⟨⟨by trivial, zLdP_of (nil := false) (j := g.d) (p := 0) rc4 rfl⟩, ?_⟩⟩
    simp only [dec_self, Bool.not_true, cnd_f, cnd_fP]
    refine ⟨lnil, zIdx_nat.2 ⟨hkl, by trivial, zLdP_of (nil := false) (j := g.c) (p := 0) lc4 ⟨rnil, zIdx_nat.2 ⟨hkr, by trivial, zLdP_of (nil := false) (j := g.d) (p := 0) rc4 (settles_ok hS7 ch4 ?_)⟩⟩⟩⟩
    rw [av_bool]
    refine zRB_av.2 ⟨⟨by trivial, zLdP_of (nil := false) (j := g.d) (p := 0) rc4 rfl⟩, rsettles_ok hS7 dh4 ?_⟩
    rw [av_bool]
    refine zRB_av.2 ?_
    simp only [dec_self, Bool.not_true, cnd_f, cnd_fP]
    refine zW_iff.2 ?_
    rw [i64_fit (by omega) (by omega)]
    exact kont _ _ _ ⟨rfl, rfl, rfl, rfl, rfl, rfl, trivial⟩ x4 (List.length_set ..)
theorem last_ok {l r : SL} {gs : List Pair} {h0 h : Heap} {B j : Nat} {d : Nat → ZV} {kk X : ZT → Heap → Prop} {E : List (Nat × (ZT → Heap → Prop))}
    (hj : j < gs.length) (hgl : gs.length ≤ 1048576) (x : Game h0 h B l r gs)
    (kont : ∀ z, ZAt 292 [(5, .bool true), (9, .sl l), (10, .sl r), (29, .int .i64 ((j + 1 : Nat) : Int))] z → kk z h) :
    zAt Try.prog (zCall Try.prog S7 lf (n + 5)) lf 6 [1, 1, 1, 1, 1, 1, 1, 1, 1, 1, 0, 1, 0, 0] (zt (ntOf Try.prog 6) (ov [(5, .bool true), (9, .sl l), (10, .sl r), (29, .int .i64 (j : Int))] d)) kk ⟨(10, X) :: E, zFin Try.prog 6 K⟩ h := by
  have en : ∀ x : Nat, (Int.ofNat x : Int) = x := fun _ => rfl
  have ln := x.gl.n_eq
  refine (pl_b6 _ lf K _ _ _ _ _ _ _ _).mpr ?_
  rw [cnd_dec]
  refine ⟨fun _ => ?_, fun e => absurd hj (by have := en l.n; omega)⟩
  · obtain ⟨g, hg⟩ : ∃ g, gs[j]? = some g := ⟨_, List.getElem?_eq_getElem hj⟩
    have mc : (gs.map fun g => AV.ptr g.c 0)[j]? = some (AV.ptr g.c 0) := by rw [List.getElem?_map, hg]; rfl
    have md : (gs.map fun g => AV.ptr g.d 0)[j]? = some (AV.ptr g.d 0) := by rw [List.getElem?_map, hg]; rfl
    have og4 := x.ok g (List.mem_of_getElem? hg)
    obtain ⟨lnil, hkl, lc4⟩ := x.gl.cell mc
    obtain ⟨rnil, hkr, rc4⟩ := x.gr.cell md
    have ch4 := og4.one.ch
    have dh4 := og4.two.ch
    have cn4 : cellAt h g.d (Nat.add 0 3) = some (.int .i64 (g.cnt : Int)) := by rw [cellAt_of dh4.get]; rfl
    refine ⟨lnil, zIdx_nat.2 ⟨hkl, by trivial, zLdP_of (nil := false) (j := g.c) (p := 0) lc4 ⟨rnil, zIdx_nat.2 ⟨hkr, by trivial, zLdP_of (nil := false) (j := g.d) (p := 0) rc4 ⟨rfl, by trivial, by trivial, ⟨_, cn4, count_ok hS7 ch4 ?_⟩⟩⟩⟩⟩⟩
    rw [av_int]
    refine zRI_av.2 ⟨⟨by trivial, ⟨_, cn4, rfl⟩⟩, ⟨⟨by trivial, zLdP_of (nil := false) (j := g.d) (p := 0) rc4 rfl⟩, ?_⟩⟩
    simp only [dec_self, Bool.not_true, cnd_f, cnd_fP]
    refine ⟨lnil, zIdx_nat.2 ⟨hkl, by trivial, zLdP_of (nil := false) (j := g.c) (p := 0) lc4 ⟨rnil, zIdx_nat.2 ⟨hkr, by trivial, zLdP_of (nil := false) (j := g.d) (p := 0) rc4 (settles_ok hS7 ch4 ?_)⟩⟩⟩⟩
    rw [av_bool]
    refine zRB_av.2 ⟨⟨by trivial, zLdP_of (nil := false) (j := g.d) (p := 0) rc4 rfl⟩, rsettles_ok hS7 dh4 ?_⟩
    rw [av_bool]
    refine zRB_av.2 ?_
    simp only [dec_self, Bool.not_true, cnd_f, cnd_fP]
    refine zW_iff.2 ?_
    rw [i64_fit (by omega) (by omega)]
    exact kont _ ⟨rfl, rfl, rfl, rfl, rfl, trivial⟩
end
end PolN

namespace PolN
open Go Go.X Go.Proofs
set_option maxRecDepth 100000
set_option linter.unusedVariables false
section
variable {lf n : Nat}
theorem part6 {l r : SL} {gs : List Pair} {h0 h : Heap} {B : Nat} {z : ZT} (hz : ZAt 292 [(5, .bool true), (9, .sl l), (10, .sl r)] z) (x : Game h0 h B l r gs) (hgl : gs.length ≤ 1048576) (hlf : 1048590 ≤ lf) :
    zAt Try.prog (zCall Try.prog S7 lf (n + 5)) lf 6 [1, 1, 1, 1, 1, 1, 1, 1, 1, 1] z (zFin Try.prog 6 (fun v _ => v.av = .bool true)) ⟨[], zFin Try.prog 6 (fun v _ => v.av = .bool true)⟩ h := by
  have en : ∀ x : Nat, (Int.ofNat x : Int) = x := fun _ => rfl
  have ln := x.gl.n_eq
  refine zAt_of _ hz fun d => (pl_a5 _ lf (fun v _ => v.av = .bool true) _ _ _ _).mpr ?_
  refine ZLoop.inv (fun q z h' => ∃ j : Nat, ZAt 292 [(5, .bool true), (9, .sl l), (10, .sl r), (29, .int .i64 (j : Int))] z ∧ h' = h ∧ j + q = gs.length) (n := gs.length) (by omega) ⟨0, ⟨rfl, rfl, rfl, rfl, rfl, trivial⟩, rfl, by omega⟩ ?_
  rintro q z h' kk hq ⟨j, hz, rfl, hj⟩ ih
  refine zAt_of _ hz fun d => ?_
  by_cases hjl : j < gs.length
  · exact last_ok (K := fun v _ => v.av = .bool true) hjl hgl x fun z hz => ih (q - 1) _ _ (by omega) ⟨j + 1, hz, rfl, by omega⟩
  · refine (pl_b6 _ lf (fun v _ => v.av = .bool true) _ _ _ _ _ _ _ _).mpr ?_
    rw [cnd_dec]
    refine ⟨fun e => absurd e (by have := en l.n; omega), fun e => ?_⟩
    exact zAt_of (n := 292) [(5, .bool true)] ⟨rfl, rfl, trivial⟩ fun d' => (pl_a6 _ lf (fun v _ => v.av = .bool true) _ _).mpr rfl
theorem part5 {a l r : SL} {al : List (Int × List Int)} {gs : List Pair} {h0 h : Heap} {z : ZT} (hz : ZAt 292 [(1, .sl a), (5, .bool true), (9, .sl l), (10, .sl r)] z) (ha : Asks h0 a al) (hb : Small al) (x : Game h0 h 0 l r gs) (hgl : gs.length ≤ 1048576) (hlf : 1048590 ≤ lf) :
    zAt Try.prog (zCall Try.prog S7 lf (n + 5)) lf 6 [1, 1, 1, 1, 1, 1, 1, 1, 1] z (zFin Try.prog 6 (fun v _ => v.av = .bool true)) ⟨[], zFin Try.prog 6 (fun v _ => v.av = .bool true)⟩ h := by
  have en : ∀ x : Nat, (Int.ofNat x : Int) = x := fun _ => rfl
  have hb1 := hb.1
  refine zAt_of _ hz fun d => (pl_a3 _ lf (fun v _ => v.av = .bool true) _ _ _ _ _).mpr ?_
  refine ZLoop.inv (fun q z h' => ∃ (j : Nat) (gs : List Pair), ZAt 292 [(1, .sl a), (5, .bool true), (9, .sl l), (10, .sl r), (21, .int .i64 (j : Int))] z ∧ Game h0 h' j l r gs ∧ gs.length ≤ 1048576 ∧ j + q = al.length) (n := al.length) (by omega) ⟨0, gs, ⟨rfl, rfl, rfl, rfl, rfl, rfl, trivial⟩, x, hgl, by omega⟩ ?_
  clear hz x hgl gs
  rintro q z h' kk hq ⟨j, gs, hz, x, hgl, hj⟩ ih
  have ln := x.gl.n_eq
  refine zAt_of _ hz fun d => ?_
  by_cases hjl : j < al.length
  · by_cases hg : 0 < gs.length
    · exact ask_ok (K := fun v _ => v.av = .bool true) ha hjl hb x hg hlf fun z h' gs' hz x' hl => ih (q - 1) _ _ (by omega) ⟨j + 1, gs', hz, x', by omega, by omega⟩
    · refine (pl_b5 _ lf (fun v _ => v.av = .bool true) _ _ _ _ _ _ _ _ _).mpr ?_
      rw [cnd_dec]
      refine ⟨fun e => ?_, fun e => part6 ⟨rfl, rfl, rfl, rfl, trivial⟩ x hgl hlf⟩
      rw [decide_eq_false (show ¬ (0 : Int) < Int.ofNat l.n by have := en l.n; omega)]
      exact part6 ⟨rfl, rfl, rfl, rfl, trivial⟩ x hgl hlf
  · refine (pl_b5 _ lf (fun v _ => v.av = .bool true) _ _ _ _ _ _ _ _ _).mpr ?_
    rw [cnd_dec]
    refine ⟨fun e => absurd e (by have := ha.len; have := en a.n; omega), fun e => part6 ⟨rfl, rfl, rfl, rfl, trivial⟩ x hgl hlf⟩
theorem part3 {p a : SL} {gv : Int} {pl al : List (Int × List Int)} {h : Heap} {z : ZT} (hz : ZAt 292 [(0, .sl p), (1, .sl a), (5, .bool true), (6, .int .i64 gv)] z) (hp : Asks h p pl) (ha : Asks h a al) (hb : Small pl) (hb2 : Small al) (hlf : 1048590 ≤ lf) :
    zAt Try.prog (zCall Try.prog S7 lf (n + 5)) lf 6 [1, 1, 1, 1, 1] z (zFin Try.prog 6 (fun v _ => v.av = .bool true)) ⟨[], zFin Try.prog 6 (fun v _ => v.av = .bool true)⟩ h := by
  have en : ∀ x : Nat, (Int.ofNat x : Int) = x := fun _ => rfl
  have hb1 := hb.1
  refine zAt_of _ hz fun d => (pl_a2 _ lf (fun v _ => v.av = .bool true) _ _ _ _ _).mpr ?_
  rw [cnd_dec]
  refine ⟨fun _ => rfl, fun _ => ?_⟩
  refine ZLoop.inv (fun q z h' => ∃ (j : Nat) (l r : SL) (gs : List Pair), ZAt 292 [(0, .sl p), (1, .sl a), (5, .bool true), (9, .sl l), (10, .sl r), (11, .int .i64 (j : Int))] z ∧ Game h h' 0 l r gs ∧ gs.length ≤ j ∧ j + q = pl.length) (n := pl.length) (by omega)
    ⟨0, nilSL, nilSL, [], ⟨rfl, rfl, rfl, rfl, rfl, rfl, rfl, trivial⟩, ⟨Fram.refl _ _, Grown.start _ _ _, Grown.start _ _ _, fun g hg => (by cases hg), trivial, fun e => (by cases e), fun g hg => (by cases hg)⟩, Nat.le_refl _, by omega⟩ ?_
  clear hz
  rintro q z h' kk hq ⟨j, l, r, gs, hz, x, hgl, hj⟩ ih
  refine zAt_of _ hz fun d => ?_
  by_cases hjl : j < pl.length
  · exact make_ok (K := fun v _ => v.av = .bool true) hp hjl hb x hgl hlf fun z h' l' r' gs' hz x' hl => ih (q - 1) _ _ (by omega) ⟨j + 1, l', r', gs', hz, x', hl, by omega⟩
  · refine (pl_b3 _ lf (fun v _ => v.av = .bool true) _ _ _ _ _ _ _ _ _ _).mpr ?_
    rw [cnd_dec]
    refine ⟨fun e => absurd e (by have := hp.len; have := en p.n; omega), fun e => part5 ⟨rfl, rfl, rfl, rfl, rfl, trivial⟩ ha hb2 x (by omega) hlf⟩
theorem part2 {p a : SL} {gv : Int} {pl al : List (Int × List Int)} {h : Heap} {z : ZT} (hz : ZAt 292 [(0, .sl p), (1, .sl a), (5, .bool true), (6, .int .i64 gv)] z) (g0 : 0 ≤ gv) (g1 : gv ≤ 2148532225) (hp : Asks h p pl) (ha : Asks h a al) (hb : Small pl) (hb2 : Small al) (hlf : 1048590 ≤ lf) :
    zAt Try.prog (zCall Try.prog S7 lf (n + 5)) lf 6 [1, 1, 1, 1] z (zFin Try.prog 6 (fun v _ => v.av = .bool true)) ⟨[], zFin Try.prog 6 (fun v _ => v.av = .bool true)⟩ h := by
  have en : ∀ x : Nat, (Int.ofNat x : Int) = x := fun _ => rfl
  have hb1 := hb2.1
  refine zAt_of _ hz fun d => (pl_a1 _ lf (fun v _ => v.av = .bool true) _ _ _ _ _).mpr ?_
  clear hz
  refine ZLoop.inv (fun q z h' => ∃ (j : Nat) (gv : Int), ZAt 292 [(0, .sl p), (1, .sl a), (5, .bool true), (6, .int .i64 gv), (8, .int .i64 (j : Int))] z ∧ h' = h ∧ 0 ≤ gv ∧ gv ≤ 2148532225 ∧ j + q = al.length) (n := al.length) (by omega) ⟨0, gv, ⟨rfl, rfl, rfl, rfl, rfl, rfl, trivial⟩, rfl, by omega, by omega, by omega⟩ ?_
  rintro q z h' kk hq ⟨j, gv, hz, rfl, g0, g1, hj⟩ ih
  refine zAt_of _ hz fun d => (pl_b2 _ lf (fun v _ => v.av = .bool true) _ _ _ _ _ _ _ _ _).mpr ?_
  rw [cnd_dec]
  refine ⟨fun e => ?_, fun e => part3 ⟨rfl, rfl, rfl, rfl, rfl, trivial⟩ hp ha hb hb2 hlf⟩
  have hjl : j < al.length := by have := ha.len; have := en a.n; omega
  by_cases hgv : gv ≤ 2147483647
  · obtain ⟨y, hy⟩ : ∃ y, al[j]? = some y := ⟨_, List.getElem?_eq_getElem hjl⟩
    obtain ⟨kd, ps⟩ := y
    have pn := ha.nil_of hjl
    have pl' := ha.len' pn
    have hps : ps.length ≤ 1048576 := (hb2.2 _ (List.mem_of_getElem? hy)).2.1
    obtain ⟨w, row⟩ := ha.row hy pn
    have r0 := row _ (Fram.refl _ _)
    have rl := r0.2.2.len
    have rn := en w.n
    rw [decide_eq_true hgv]
    show ZW _ _ _
    refine zW_iff.2 ?_
    rw [i64_fit (e := gv + 1) (by omega) (by omega)]
    refine ⟨pn, zIdx_nat.2 ⟨by omega, rfl, rfl, zLdL_of (s := w) r0.2.1 (zW_iff.2 ?_)⟩⟩
    rw [i64_fit (e := gv + 1 + Int.ofNat w.n) (by omega) (by omega)]
    refine zW_iff.2 ?_
    rw [i64_fit (e := (j : Int) + 1) (by omega) (by omega)]
    exact ih (q - 1) _ _ (by omega) ⟨j + 1, gv + 1 + Int.ofNat w.n, ⟨rfl, rfl, rfl, rfl, rfl, rfl, trivial⟩, rfl, by omega, by omega, by omega⟩
  · rw [decide_eq_false hgv]
    exact part3 ⟨rfl, rfl, rfl, rfl, rfl, trivial⟩ hp ha hb hb2 hlf

theorem plays_ok {h : Heap} {p a : SL} {pl al : List (Int × List Int)} (hp : Asks h p pl) (ha : Asks h a al) (hb : Small pl) (hb2 : Small al) (hlf : 1048590 ≤ lf) :
    zCall Try.prog S7 lf (n + 6) 6 [.sl p, .sl a] (fun v _ => v.av = .bool true) h := by
  refine zCall_at (hS7 _ (by decide)) (by kernel_rfl) ?_
  rw [plays_nf]
  have en : ∀ x : Nat, (Int.ofNat x : Int) = x := fun _ => rfl
  have hb1 := hb.1
  refine shown_ok ?_
  rw [av_bool]
  refine zRB_av.2 ?_
  refine ZLoop.inv (fun q z h' => ∃ (j : Nat) (gv : Int), ZAt 292 [(0, .sl p), (1, .sl a), (5, .bool true), (6, .int .i64 gv), (7, .int .i64 (j : Int))] z ∧ h' = h ∧ 0 ≤ gv ∧ gv ≤ 2148532225 ∧ j + q = pl.length) (n := pl.length) (by omega) ⟨0, 0, ⟨rfl, rfl, rfl, rfl, rfl, rfl, trivial⟩, rfl, by omega, by omega, by omega⟩ ?_
  rintro q z h' kk hq ⟨j, gv, hz, rfl, g0, g1, hj⟩ ih
  refine zAt_of _ hz fun d => (pl_b1 _ lf (fun v _ => v.av = .bool true) _ _ _ _ _ _ _ _ _).mpr ?_
  rw [cnd_dec]
  refine ⟨fun e => ?_, fun e => part2 ⟨rfl, rfl, rfl, rfl, rfl, trivial⟩ g0 g1 hp ha hb hb2 hlf⟩
  have hjl : j < pl.length := by have := hp.len; have := en p.n; omega
  by_cases hgv : gv ≤ 2147483647
  · obtain ⟨y, hy⟩ : ∃ y, pl[j]? = some y := ⟨_, List.getElem?_eq_getElem hjl⟩
    obtain ⟨kd, ps⟩ := y
    have pn := hp.nil_of hjl
    have pl' := hp.len' pn
    have hps : ps.length ≤ 1048576 := (hb.2 _ (List.mem_of_getElem? hy)).2.1
    obtain ⟨w, row⟩ := hp.row hy pn
    have r0 := row _ (Fram.refl _ _)
    have rl := r0.2.2.len
    have rn := en w.n
    rw [decide_eq_true hgv]
    show ZW _ _ _
    refine zW_iff.2 ?_
    rw [i64_fit (e := gv + 1) (by omega) (by omega)]
    refine ⟨pn, zIdx_nat.2 ⟨by omega, rfl, rfl, zLdL_of (s := w) r0.2.1 (zW_iff.2 ?_)⟩⟩
    rw [i64_fit (e := gv + 1 + Int.ofNat w.n) (by omega) (by omega)]
    refine zW_iff.2 ?_
    rw [i64_fit (e := (j : Int) + 1) (by omega) (by omega)]
    exact ih (q - 1) _ _ (by omega) ⟨j + 1, gv + 1 + Int.ofNat w.n, ⟨rfl, rfl, rfl, rfl, rfl, rfl, trivial⟩, rfl, by omega, by omega, by omega⟩
  · rw [decide_eq_false hgv]
    exact part2 ⟨rfl, rfl, rfl, rfl, rfl, trivial⟩ g0 g1 hp ha hb hb2 hlf
end
end PolN
