/- Rows of rows, metas, slots, nodes: copied, compared, measured. -/
import Derived.Test.YtkejckoefjonjaaMd
set_option linter.unusedSimpArgs false
set_option linter.unusedVariables false
set_option linter.unnecessarySimpa false
set_option linter.unusedSectionVars false
namespace Go.Proofs.Ytkejckoefjonjaa
set_option maxRecDepth 100000
section
variable (pr : Prims) (cv : Cv Rz) (J : Nat → St → Option Rz)
def h_laws_toIntSS_0 (g0 : Bool) (n1 : Nat) (c2 : List D) (i3 : Int) (n4 : Nat) (c5 : List D) : St := (St.mk [(0, (.sl (some g0) 1 n1 c2)), (3, (.ref 10003 [] 0 none)), (4, (.int .i64 i3))] [(10003, [(.sl none 1 n4 c5)])] [] 0)
theorem k_laws_toIntSS : Told cfg Try.prog 48 Try.f48 := ⟨by kernel_rfl, Try.func48, by kernel_rfl⟩
theorem e_laws_toIntSS (g0 : Bool) (n0 : Nat) (c0 : List D) : RunJ pr cv J 48 Try.f48 [(.sl (some g0) 1 n0 c0)] =
    (br (pr.mkok (pr.ofN n0) (pr.ofN n0) 24) (J 0 (h_laws_toIntSS_0 g0 n0 c0 0 (pr.toN (pr.ofN n0)) (reps (pr.toN (pr.ofN n0)) [(.nil 1)]))) none) := by kernel_rfl
theorem eh_laws_toIntSS_0 (g0 : Bool) (n1 : Nat) (c2 : List D) (i3 : Int) (n4 : Nat) (c5 : List D) : HeadJ pr cv J 48 Try.f48 [.undef] 0 (h_laws_toIntSS_0 g0 n1 c2 i3 n4 c5) =
    (br (pr.lt i3 (pr.ofN n1)) (br (pr.inR i3 n1) (br (br (pr.isL 1 c2 (pr.idx 0 i3 1)) true false) (cv 29 [(.sl (some (pr.getG c2 (pr.idx 0 i3 1))) 1 (pr.getN c2 (pr.idx 0 i3 1)) (pr.getC c2 (pr.idx 0 i3 1)))] (.sl (fun vn0 => (fun vc1 => (.done (br (br (br (pr.nl vc1) true false) true false) (br (pr.inR i3 n4) (br (br (pr.ne c5) (br (pr.isOS 1 c5 (pr.idx 0 i3 1)) true false) false) (cv 999999 [(.sl none 0 0 (List.set c5 (pr.idx 0 i3 1) (.sl none 1 vn0 vc1)))] (.sl (fun vn2 => (fun vc3 => (.done (J 0 (h_laws_toIntSS_0 g0 n1 c2 (pr.ar .add .i64 i3 1) n4 vc3))))))) none) none) none)))))) none) none) (some ((.sl none 1 n4 c5), [.undef]))) := by kernel_rfl
def h_laws_eqIntSS_0 (g0 : Bool) (n1 : Nat) (c2 : List D) (g3 : Bool) (n4 : Nat) (c5 : List D) (i6 : Int) : St := (St.mk [(0, (.sl (some g0) 1 n1 c2)), (1, (.sl (some g3) 1 n4 c5)), (5, (.int .i64 i6))] [] [] 0)
theorem k_laws_eqIntSS : Told cfg Try.prog 52 Try.f52 := ⟨by kernel_rfl, Try.func52, by kernel_rfl⟩
theorem e_laws_eqIntSS (g0 : Bool) (n0 : Nat) (c0 : List D) (g1 : Bool) (n1 : Nat) (c1 : List D) : RunJ pr cv J 52 Try.f52 [(.sl (some g0) 1 n0 c0), (.sl (some g1) 1 n1 c1)] =
    (br (br (pr.eq (pr.ofN n0) (pr.ofN n1)) false true) (some ((.bool false), [.undef, .undef])) (J 0 (h_laws_eqIntSS_0 g0 n0 c0 g1 n1 c1 0))) := by kernel_rfl
theorem eh_laws_eqIntSS_0 (g0 : Bool) (n1 : Nat) (c2 : List D) (g3 : Bool) (n4 : Nat) (c5 : List D) (i6 : Int) : HeadJ pr cv J 52 Try.f52 [.undef, .undef] 0 (h_laws_eqIntSS_0 g0 n1 c2 g3 n4 c5 i6) =
    (br (pr.lt i6 (pr.ofN n1)) (br (pr.inR i6 n1) (br (br (pr.isL 1 c2 (pr.idx 0 i6 1)) true false) (br (pr.inR i6 n4) (br (br (pr.isL 1 c5 (pr.idx 0 i6 1)) true false) (cv 23 [(.sl (some (pr.getG c2 (pr.idx 0 i6 1))) 1 (pr.getN c2 (pr.idx 0 i6 1)) (pr.getC c2 (pr.idx 0 i6 1))), (.sl (some (pr.getG c5 (pr.idx 0 i6 1))) 1 (pr.getN c5 (pr.idx 0 i6 1)) (pr.getC c5 (pr.idx 0 i6 1)))] (.bool (fun vb0 => (.done (br (br vb0 false true) (some ((.bool false), [.undef, .undef])) (J 0 (h_laws_eqIntSS_0 g0 n1 c2 g3 n4 c5 (pr.ar .add .i64 i6 1)))))))) none) none) none) none) (some ((.bool true), [.undef, .undef]))) := by kernel_rfl
def h_laws_szIntSS_0 (g0 : Bool) (n1 : Nat) (c2 : List D) (i3 : Int) (i4 : Int) : St := (St.mk [(0, (.sl (some g0) 1 n1 c2)), (1, (.int .i64 i3)), (5, (.int .i64 i4))] [] [] 0)
theorem k_laws_szIntSS : Told cfg Try.prog 44 Try.f44 := ⟨by kernel_rfl, Try.func44, by kernel_rfl⟩
theorem e_laws_szIntSS (g0 : Bool) (n0 : Nat) (c0 : List D) (a1 : Int) : RunJ pr cv J 44 Try.f44 [(.sl (some g0) 1 n0 c0), (.int .i64 a1)] =
    (br (pr.lt (pr.ar .sub .i64 a1 (pr.ofN n0)) 0) (some ((.int .i64 (-1)), [.undef, .undef])) (J 0 (h_laws_szIntSS_0 g0 n0 c0 (pr.ar .sub .i64 a1 (pr.ofN n0)) 0))) := by kernel_rfl
theorem eh_laws_szIntSS_0 (g0 : Bool) (n1 : Nat) (c2 : List D) (i3 : Int) (i4 : Int) : HeadJ pr cv J 44 Try.f44 [.undef, .undef] 0 (h_laws_szIntSS_0 g0 n1 c2 i3 i4) =
    (br (pr.lt i4 (pr.ofN n1)) (br (pr.inR i4 n1) (br (br (pr.isL 1 c2 (pr.idx 0 i4 1)) true false) (cv 35 [(.sl (some (pr.getG c2 (pr.idx 0 i4 1))) 1 (pr.getN c2 (pr.idx 0 i4 1)) (pr.getC c2 (pr.idx 0 i4 1))), (.int .i64 i3)] (.int (fun vx0 => (.done (br (pr.lt vx0 0) (some ((.int .i64 (-1)), [.undef, .undef])) (J 0 (h_laws_szIntSS_0 g0 n1 c2 vx0 (pr.ar .add .i64 i4 1)))))))) none) none) (some ((.int .i64 i3), [.undef, .undef]))) := by kernel_rfl
theorem k_laws_toMeta : Told cfg Try.prog 45 Try.f45 := ⟨by kernel_rfl, Try.func45, by kernel_rfl⟩
theorem e_laws_toMeta (g0 : Bool) (n0 : Nat) (c0 : List D) (g1 : Bool) (n1 : Nat) (c1 : List D) (a2 : Bool) (a3 : Bool) (a4 : Bool) (a5 : Int) : RunJ pr cv J 45 Try.f45 [(.agg [(.sl (some g0) 1 n0 c0), (.sl (some g1) 1 n1 c1), (.bool a2), (.bool a3), (.bool a4), (.int .i64 a5)])] =
    (cv 29 [(.sl (some g0) 1 n0 c0)] (.sl (fun vn0 => (fun vc1 => (.done (br (br (br (pr.nl vc1) true false) true false) (cv 48 [(.sl (some g1) 1 n1 c1)] (.sl (fun vn2 => (fun vc3 => (.done (br (br (br (pr.nl vc3) true false) true false) (some ((.agg [(.sl none 1 vn0 vc1), (.sl none 1 vn2 vc3), (.bool a2), (.bool a3), (.bool a4), (.int .i64 a5)]), [.undef])) none)))))) none)))))) := by kernel_rfl
theorem k_laws_eqMeta : Told cfg Try.prog 49 Try.f49 := ⟨by kernel_rfl, Try.func49, by kernel_rfl⟩
theorem e_laws_eqMeta (g0 : Bool) (n0 : Nat) (c0 : List D) (g1 : Bool) (n1 : Nat) (c1 : List D) (a2 : Bool) (a3 : Bool) (a4 : Bool) (a5 : Int) (g6 : Bool) (n6 : Nat) (c6 : List D) (g7 : Bool) (n7 : Nat) (c7 : List D) (a8 : Bool) (a9 : Bool) (a10 : Bool) (a11 : Int) : RunJ pr cv J 49 Try.f49 [(.agg [(.sl (some g0) 1 n0 c0), (.sl (some g1) 1 n1 c1), (.bool a2), (.bool a3), (.bool a4), (.int .i64 a5)]), (.agg [(.sl (some g6) 1 n6 c6), (.sl (some g7) 1 n7 c7), (.bool a8), (.bool a9), (.bool a10), (.int .i64 a11)])] =
    let y1 : Option (D × List D) := (some ((.bool false), [.undef, .undef]))
    (cv 23 [(.sl (some g0) 1 n0 c0), (.sl (some g6) 1 n6 c6)] (.bool (fun vb0 => (.done (br (br vb0 false true) y1 (cv 52 [(.sl (some g1) 1 n1 c1), (.sl (some g7) 1 n7 c7)] (.bool (fun vb1 => (.done (br (br vb1 false true) y1 (br (br (pr.beq a2 a8) false true) y1 (br (br (pr.beq a3 a9) false true) y1 (br (br (pr.beq a4 a10) false true) y1 (br (br (pr.eq a5 a11) false true) y1 (some ((.bool true), [.undef, .undef])))))))))))))))) := by kernel_rfl
theorem k_laws_szMeta : Told cfg Try.prog 41 Try.f41 := ⟨by kernel_rfl, Try.func41, by kernel_rfl⟩
theorem e_laws_szMeta (g0 : Bool) (n0 : Nat) (c0 : List D) (g1 : Bool) (n1 : Nat) (c1 : List D) (a2 : Bool) (a3 : Bool) (a4 : Bool) (a5 : Int) (a6 : Int) : RunJ pr cv J 41 Try.f41 [(.agg [(.sl (some g0) 1 n0 c0), (.sl (some g1) 1 n1 c1), (.bool a2), (.bool a3), (.bool a4), (.int .i64 a5)]), (.int .i64 a6)] =
    let y1 : Option (D × List D) := (some ((.int .i64 (-1)), [.undef, .undef]))
    (cv 35 [(.sl (some g0) 1 n0 c0), (.int .i64 a6)] (.int (fun vx0 => (.done (br (pr.lt vx0 0) y1 (cv 44 [(.sl (some g1) 1 n1 c1), (.int .i64 vx0)] (.int (fun vx1 => (.done (br (pr.lt vx1 0) y1 (some ((.int .i64 vx1), [.undef, .undef])))))))))))) := by kernel_rfl
theorem k_laws_toSlots : Told cfg Try.prog 46 Try.f46 := ⟨by kernel_rfl, Try.func46, by kernel_rfl⟩
theorem e_laws_toSlots (g0 : Bool) (n0 : Nat) (c0 : List D) (g1 : Bool) (n1 : Nat) (c1 : List D) : RunJ pr cv J 46 Try.f46 [(.agg [(.sl (some g0) 1 n0 c0), (.sl (some g1) 1 n1 c1)])] =
    (cv 76 [(.sl (some g0) 1 n0 c0)] (.sl (fun vn0 => (fun vc1 => (.done (br (br (br (pr.nl vc1) true false) true false) (cv 76 [(.sl (some g1) 1 n1 c1)] (.sl (fun vn2 => (fun vc3 => (.done (br (br (br (pr.nl vc3) true false) true false) (some ((.agg [(.sl none 1 vn0 vc1), (.sl none 1 vn2 vc3)]), [.undef])) none)))))) none)))))) := by kernel_rfl
theorem k_laws_eqSlots : Told cfg Try.prog 50 Try.f50 := ⟨by kernel_rfl, Try.func50, by kernel_rfl⟩
theorem e_laws_eqSlots (g0 : Bool) (n0 : Nat) (c0 : List D) (g1 : Bool) (n1 : Nat) (c1 : List D) (g2 : Bool) (n2 : Nat) (c2 : List D) (g3 : Bool) (n3 : Nat) (c3 : List D) : RunJ pr cv J 50 Try.f50 [(.agg [(.sl (some g0) 1 n0 c0), (.sl (some g1) 1 n1 c1)]), (.agg [(.sl (some g2) 1 n2 c2), (.sl (some g3) 1 n3 c3)])] =
    let y1 : Option (D × List D) := (some ((.bool false), [.undef, .undef]))
    (cv 77 [(.sl (some g0) 1 n0 c0), (.sl (some g2) 1 n2 c2)] (.bool (fun vb0 => (.done (br (br vb0 false true) y1 (cv 77 [(.sl (some g1) 1 n1 c1), (.sl (some g3) 1 n3 c3)] (.bool (fun vb1 => (.done (br (br vb1 false true) y1 (some ((.bool true), [.undef, .undef])))))))))))) := by kernel_rfl
theorem k_laws_szSlots : Told cfg Try.prog 42 Try.f42 := ⟨by kernel_rfl, Try.func42, by kernel_rfl⟩
theorem e_laws_szSlots (g0 : Bool) (n0 : Nat) (c0 : List D) (g1 : Bool) (n1 : Nat) (c1 : List D) (a2 : Int) : RunJ pr cv J 42 Try.f42 [(.agg [(.sl (some g0) 1 n0 c0), (.sl (some g1) 1 n1 c1)]), (.int .i64 a2)] =
    let y1 : Option (D × List D) := (some ((.int .i64 (-1)), [.undef, .undef]))
    (cv 75 [(.sl (some g0) 1 n0 c0), (.int .i64 a2)] (.int (fun vx0 => (.done (br (pr.lt vx0 0) y1 (cv 75 [(.sl (some g1) 1 n1 c1), (.int .i64 vx0)] (.int (fun vx1 => (.done (br (pr.lt vx1 0) y1 (some ((.int .i64 vx1), [.undef, .undef])))))))))))) := by kernel_rfl
theorem k_laws_toNode : Told cfg Try.prog 16 Try.f16 := ⟨by kernel_rfl, Try.func16, by kernel_rfl⟩
theorem e_laws_toNode (a0 : Int) (a1 : Bool) (a2 : Bool) (g3 : Bool) (n3 : Nat) (c3 : List D) (g4 : Bool) (n4 : Nat) (c4 : List D) (g5 : Bool) (n5 : Nat) (c5 : List D) (a6 : Bool) (a7 : Bool) (a8 : Bool) (a9 : Int) (g10 : Bool) (n10 : Nat) (c10 : List D) (g11 : Bool) (n11 : Nat) (c11 : List D) (g12 : Bool) (n12 : Nat) (c12 : List D) (g13 : Bool) (n13 : Nat) (c13 : List D) (g14 : Bool) (n14 : Nat) (c14 : List D) (g15 : Bool) (n15 : Nat) (c15 : List D) : RunJ pr cv J 16 Try.f16 [(.agg [(.int .i64 a0), (.bool a1), (.bool a2), (.sl (some g3) 1 n3 c3), (.sl (some g4) 1 n4 c4), (.sl (some g5) 1 n5 c5), (.bool a6), (.bool a7), (.bool a8), (.int .i64 a9), (.sl (some g10) 1 n10 c10), (.sl (some g11) 1 n11 c11), (.sl (some g12) 1 n12 c12), (.sl (some g13) 1 n13 c13), (.sl (some g14) 1 n14 c14), (.sl (some g15) 1 n15 c15)])] =
    (cv 29 [(.sl (some g3) 1 n3 c3)] (.sl (fun vn0 => (fun vc1 => (.done (br (br (br (pr.nl vc1) true false) true false) (cv 45 [(.agg [(.sl (some g4) 1 n4 c4), (.sl (some g5) 1 n5 c5), (.bool a6), (.bool a7), (.bool a8), (.int .i64 a9)])] (.sl (fun vn2 => (fun vc3 => (.sl (fun vn4 => (fun vc5 => (.bool (fun vb6 => (.bool (fun vb7 => (.bool (fun vb8 => (.int (fun vx9 => (.done (br (br (br (pr.nl vc3) (br (pr.nl vc5) true false) false) true false) (cv 46 [(.agg [(.sl (some g10) 1 n10 c10), (.sl (some g11) 1 n11 c11)])] (.sl (fun vn10 => (fun vc11 => (.sl (fun vn12 => (fun vc13 => (.done (br (br (br (pr.nl vc11) (br (pr.nl vc13) true false) false) true false) (cv 47 [(.sl (some g12) 1 n12 c12)] (.sl (fun vn14 => (fun vc15 => (.done (br (br (br (pr.nl vc15) true false) true false) (cv 48 [(.sl (some g13) 1 n13 c13)] (.sl (fun vn16 => (fun vc17 => (.done (br (br (br (pr.nl vc17) true false) true false) (cv 47 [(.sl (some g14) 1 n14 c14)] (.sl (fun vn18 => (fun vc19 => (.done (br (br (br (pr.nl vc19) true false) true false) (cv 29 [(.sl (some g15) 1 n15 c15)] (.sl (fun vn20 => (fun vc21 => (.done (br (br (br (pr.nl vc21) true false) true false) (some ((.agg [(.int .i64 a0), (.bool a1), (.bool a2), (.sl none 1 vn0 vc1), (.sl none 1 vn2 vc3), (.sl none 1 vn4 vc5), (.bool vb6), (.bool vb7), (.bool vb8), (.int .i64 vx9), (.sl none 1 vn10 vc11), (.sl none 1 vn12 vc13), (.sl none 1 vn14 vc15), (.sl none 1 vn16 vc17), (.sl none 1 vn18 vc19), (.sl none 1 vn20 vc21)]), [.undef])) none)))))) none)))))) none)))))) none)))))) none))))))))) none))))))))))))))))) none)))))) := by kernel_rfl
theorem k_laws_eqNode : Told cfg Try.prog 18 Try.f18 := ⟨by kernel_rfl, Try.func18, by kernel_rfl⟩
theorem e_laws_eqNode (a0 : Int) (a1 : Bool) (a2 : Bool) (g3 : Bool) (n3 : Nat) (c3 : List D) (g4 : Bool) (n4 : Nat) (c4 : List D) (g5 : Bool) (n5 : Nat) (c5 : List D) (a6 : Bool) (a7 : Bool) (a8 : Bool) (a9 : Int) (g10 : Bool) (n10 : Nat) (c10 : List D) (g11 : Bool) (n11 : Nat) (c11 : List D) (g12 : Bool) (n12 : Nat) (c12 : List D) (g13 : Bool) (n13 : Nat) (c13 : List D) (g14 : Bool) (n14 : Nat) (c14 : List D) (g15 : Bool) (n15 : Nat) (c15 : List D) (a16 : Int) (a17 : Bool) (a18 : Bool) (g19 : Bool) (n19 : Nat) (c19 : List D) (g20 : Bool) (n20 : Nat) (c20 : List D) (g21 : Bool) (n21 : Nat) (c21 : List D) (a22 : Bool) (a23 : Bool) (a24 : Bool) (a25 : Int) (g26 : Bool) (n26 : Nat) (c26 : List D) (g27 : Bool) (n27 : Nat) (c27 : List D) (g28 : Bool) (n28 : Nat) (c28 : List D) (g29 : Bool) (n29 : Nat) (c29 : List D) (g30 : Bool) (n30 : Nat) (c30 : List D) (g31 : Bool) (n31 : Nat) (c31 : List D) : RunJ pr cv J 18 Try.f18 [(.agg [(.int .i64 a0), (.bool a1), (.bool a2), (.sl (some g3) 1 n3 c3), (.sl (some g4) 1 n4 c4), (.sl (some g5) 1 n5 c5), (.bool a6), (.bool a7), (.bool a8), (.int .i64 a9), (.sl (some g10) 1 n10 c10), (.sl (some g11) 1 n11 c11), (.sl (some g12) 1 n12 c12), (.sl (some g13) 1 n13 c13), (.sl (some g14) 1 n14 c14), (.sl (some g15) 1 n15 c15)]), (.agg [(.int .i64 a16), (.bool a17), (.bool a18), (.sl (some g19) 1 n19 c19), (.sl (some g20) 1 n20 c20), (.sl (some g21) 1 n21 c21), (.bool a22), (.bool a23), (.bool a24), (.int .i64 a25), (.sl (some g26) 1 n26 c26), (.sl (some g27) 1 n27 c27), (.sl (some g28) 1 n28 c28), (.sl (some g29) 1 n29 c29), (.sl (some g30) 1 n30 c30), (.sl (some g31) 1 n31 c31)])] =
    let y1 : Option (D × List D) := (some ((.bool false), [.undef, .undef]))
    (br (br (pr.eq a0 a16) false true) y1 (br (br (pr.beq a1 a17) false true) y1 (br (br (pr.beq a2 a18) false true) y1 (cv 23 [(.sl (some g3) 1 n3 c3), (.sl (some g19) 1 n19 c19)] (.bool (fun vb0 => (.done (br (br vb0 false true) y1 (cv 49 [(.agg [(.sl (some g4) 1 n4 c4), (.sl (some g5) 1 n5 c5), (.bool a6), (.bool a7), (.bool a8), (.int .i64 a9)]), (.agg [(.sl (some g20) 1 n20 c20), (.sl (some g21) 1 n21 c21), (.bool a22), (.bool a23), (.bool a24), (.int .i64 a25)])] (.bool (fun vb1 => (.done (br (br vb1 false true) y1 (cv 50 [(.agg [(.sl (some g10) 1 n10 c10), (.sl (some g11) 1 n11 c11)]), (.agg [(.sl (some g26) 1 n26 c26), (.sl (some g27) 1 n27 c27)])] (.bool (fun vb2 => (.done (br (br vb2 false true) y1 (cv 51 [(.sl (some g12) 1 n12 c12), (.sl (some g28) 1 n28 c28)] (.bool (fun vb3 => (.done (br (br vb3 false true) y1 (cv 52 [(.sl (some g13) 1 n13 c13), (.sl (some g29) 1 n29 c29)] (.bool (fun vb4 => (.done (br (br vb4 false true) y1 (cv 51 [(.sl (some g14) 1 n14 c14), (.sl (some g30) 1 n30 c30)] (.bool (fun vb5 => (.done (br (br vb5 false true) y1 (cv 23 [(.sl (some g15) 1 n15 c15), (.sl (some g31) 1 n31 c31)] (.bool (fun vb6 => (.done (br (br vb6 false true) y1 (some ((.bool true), [.undef, .undef])))))))))))))))))))))))))))))))))))))))) := by kernel_rfl
theorem k_laws_szNode : Told cfg Try.prog 14 Try.f14 := ⟨by kernel_rfl, Try.func14, by kernel_rfl⟩
theorem e_laws_szNode (a0 : Int) (a1 : Bool) (a2 : Bool) (g3 : Bool) (n3 : Nat) (c3 : List D) (g4 : Bool) (n4 : Nat) (c4 : List D) (g5 : Bool) (n5 : Nat) (c5 : List D) (a6 : Bool) (a7 : Bool) (a8 : Bool) (a9 : Int) (g10 : Bool) (n10 : Nat) (c10 : List D) (g11 : Bool) (n11 : Nat) (c11 : List D) (g12 : Bool) (n12 : Nat) (c12 : List D) (g13 : Bool) (n13 : Nat) (c13 : List D) (g14 : Bool) (n14 : Nat) (c14 : List D) (g15 : Bool) (n15 : Nat) (c15 : List D) (a16 : Int) : RunJ pr cv J 14 Try.f14 [(.agg [(.int .i64 a0), (.bool a1), (.bool a2), (.sl (some g3) 1 n3 c3), (.sl (some g4) 1 n4 c4), (.sl (some g5) 1 n5 c5), (.bool a6), (.bool a7), (.bool a8), (.int .i64 a9), (.sl (some g10) 1 n10 c10), (.sl (some g11) 1 n11 c11), (.sl (some g12) 1 n12 c12), (.sl (some g13) 1 n13 c13), (.sl (some g14) 1 n14 c14), (.sl (some g15) 1 n15 c15)]), (.int .i64 a16)] =
    let y1 : Option (D × List D) := (some ((.int .i64 (-1)), [.undef, .undef]))
    (cv 35 [(.sl (some g3) 1 n3 c3), (.int .i64 a16)] (.int (fun vx0 => (.done (br (pr.lt vx0 0) y1 (cv 41 [(.agg [(.sl (some g4) 1 n4 c4), (.sl (some g5) 1 n5 c5), (.bool a6), (.bool a7), (.bool a8), (.int .i64 a9)]), (.int .i64 vx0)] (.int (fun vx1 => (.done (br (pr.lt vx1 0) y1 (cv 42 [(.agg [(.sl (some g10) 1 n10 c10), (.sl (some g11) 1 n11 c11)]), (.int .i64 vx1)] (.int (fun vx2 => (.done (br (pr.lt vx2 0) y1 (cv 43 [(.sl (some g12) 1 n12 c12), (.int .i64 vx2)] (.int (fun vx3 => (.done (br (pr.lt vx3 0) y1 (cv 44 [(.sl (some g13) 1 n13 c13), (.int .i64 vx3)] (.int (fun vx4 => (.done (br (pr.lt vx4 0) y1 (cv 43 [(.sl (some g14) 1 n14 c14), (.int .i64 vx4)] (.int (fun vx5 => (.done (br (pr.lt vx5 0) y1 (cv 35 [(.sl (some g15) 1 n15 c15), (.int .i64 vx5)] (.int (fun vx6 => (.done (br (pr.lt vx6 0) y1 (some ((.int .i64 vx6), [.undef, .undef]))))))))))))))))))))))))))))))))))))) := by kernel_rfl
end

/-! ### as data -/
structure MMeta where
  gens : List Int
  bits : List (List Int)
  fine : Bool
  old : Bool
  held : Bool
  last : Int
structure MSlots where
  a : List UInt8
  b : List UInt8
structure MNode where
  id : Int
  up : Bool
  prime : Bool
  image : List Int
  mt : MMeta
  slots : MSlots
  conn : List Bool
  sync : List (List Int)
  copies : List Bool
  wait : List Int
abbrev sI (g : Option Bool) (xs : List Int) : D := .sl g 1 xs.length (ints xs)
abbrev s8 (g : Option Bool) (xs : List UInt8) : D := .sl g 1 xs.length (bytes xs)
abbrev sB (g : Option Bool) (xs : List Bool) : D := .sl g 1 xs.length (bools xs)
def rows (g : Option Bool) (xss : List (List Int)) : List D := xss.map fun xs => .sl g 1 xs.length (ints xs)
abbrev sR (g : Option Bool) (xss : List (List Int)) : D := .sl g 1 xss.length (rows g xss)
abbrev eMeta (g : Option Bool) (m : MMeta) : List D := [sI g m.gens, sR g m.bits, .bool m.fine, .bool m.old, .bool m.held, .int .i64 m.last]
abbrev eSlots (g : Option Bool) (s : MSlots) : List D := [s8 g s.a, s8 g s.b]
abbrev eNode (g : Option Bool) (n : MNode) : List D := [.int .i64 n.id, .bool n.up, .bool n.prime, sI g n.image, sI g n.mt.gens, sR g n.mt.bits, .bool n.mt.fine, .bool n.mt.old, .bool n.mt.held, .int .i64 n.mt.last, s8 g n.slots.a, s8 g n.slots.b, sB g n.conn, sR g n.sync, sB g n.copies, sI g n.wait]
theorem rows_length (g : Option Bool) (xss : List (List Int)) : (rows g xss).length = xss.length := by simp [rows]
def OkR (xss : List (List Int)) : Prop := xss.length ≤ 1048576 ∧ ∀ xs ∈ xss, xs.length ≤ 1048576
structure OkMeta (m : MMeta) : Prop where
  gens : m.gens.length ≤ 1048576
  bits : OkR m.bits
structure OkSlots (s : MSlots) : Prop where
  a : s.a.length ≤ 1048576
  b : s.b.length ≤ 1048576
structure OkNode (n : MNode) : Prop where
  image : n.image.length ≤ 1048576
  mt : OkMeta n.mt
  slots : OkSlots n.slots
  conn : n.conn.length ≤ 1048576
  sync : OkR n.sync
  copies : n.copies.length ≤ 1048576
  wait : n.wait.length ≤ 1048576

/-! ### calls, as rules -/
section
variable {x y : Rz} {R : Type} {u v : R}
theorem br_isL {g : Bool} {xss : List (List Int)} {i : Nat} (h : i < xss.length) : br (std.isL 1 (rows (some g) xss) i) u v = u := by simp [std, rows, br, List.getElem?_eq_getElem h]
theorem s_getG {g : Bool} {xss : List (List Int)} {i : Nat} (h : i < xss.length) : std.getG (rows (some g) xss) i = g := by simp [std, rows, List.getElem?_eq_getElem h, cG]
theorem s_getN {g : Option Bool} {xss : List (List Int)} {i : Nat} (h : i < xss.length) : std.getN (rows g xss) i = xss[i].length := by simp [std, rows, List.getElem?_eq_getElem h, cN]
theorem s_getC {g : Option Bool} {xss : List (List Int)} {i : Nat} (h : i < xss.length) : std.getC (rows g xss) i = ints xss[i] := by simp [std, rows, List.getElem?_eq_getElem h, cC]
theorem br_isOS {xss : List (List Int)} {i : Nat} (h : i < xss.length) : br (std.isOS 1 (rows none xss) i) u v = u := by simp [std, rows, br, List.getElem?_eq_getElem h]
theorem br_isO {xss : List (List Int)} {i : Nat} (h : i < xss.length) : br (std.isO (rows none xss) i) u v = u := by simp [std, rows, br, List.getElem?_eq_getElem h]
theorem br_neR {g : Option Bool} {xss : List (List Int)} (h : 0 < xss.length) : br (std.ne (rows g xss)) u v = u := by
  cases xss with
  | nil => simp at h
  | cons _ _ => rfl
theorem rows_set {xss : List (List Int)} {i : Nat} {ys : List Int} : List.set (rows none xss) i (.sl none 1 ys.length (ints ys)) = rows none (xss.set i ys) := by simp [rows, List.map_set]
theorem reps_R (n : Nat) : reps n [.nil 1] = rows none (List.replicate n []) := by
  unfold reps
  induction n with
  | zero => rfl
  | succ n ih => simpa [List.replicate_succ, rows, rowZ, ints] using ih
theorem s_nlR {g : Option Bool} (hg : g ≠ some true) (xss : List (List Int)) : std.nl (rows g xss) = true := noLentL_flat (by
  intro d hd
  obtain ⟨xs, _, rfl⟩ := List.mem_map.1 hd
  have h1 : noLentL (ints xs) = true := s_nlI xs
  cases g with
  | none => simpa [noLent] using h1
  | some g => cases g with
    | false => simpa [noLent] using h1
    | true => exact absurd rfl hg)
theorem s_nlRn (xss : List (List Int)) : std.nl (rows none xss) = true := s_nlR (by simp) xss
end
section
variable (t : Tel Rz)
theorem v_toIntS (g : Bool) (xs : List Int) (hb : xs.length ≤ 17592186044416) : cvP 29 [.sl (some g) 1 xs.length (ints xs)] t = feed t [.sl none 1 xs.length (ints xs)] := cvP_eq (c_toIntS g xs hb (by omega)) (by kernel_rfl) t
theorem v_toByteS (g : Bool) (xs : List UInt8) (hb : xs.length ≤ 140737488355328) : cvP 76 [.sl (some g) 1 xs.length (bytes xs)] t = feed t [.sl none 1 xs.length (bytes xs)] := cvP_eq (c_toByteS g xs hb (by omega)) (by kernel_rfl) t
theorem v_toBoolS (g : Bool) (xs : List Bool) (hb : xs.length ≤ 140737488355328) : cvP 47 [.sl (some g) 1 xs.length (bools xs)] t = feed t [.sl none 1 xs.length (bools xs)] := cvP_eq (c_toBoolS g xs hb (by omega)) (by kernel_rfl) t
theorem v_eqIntS (g h : Bool) (xs ys : List Int) (hb : xs.length < 9223372036854775807) : cvP 23 [.sl (some g) 1 xs.length (ints xs), .sl (some h) 1 ys.length (ints ys)] t = feed t [.bool (decide (xs = ys))] := cvP_eq (c_eqIntS g h xs ys hb) (by kernel_rfl) t
theorem v_eqByteS (g h : Bool) (xs ys : List UInt8) (hb : xs.length < 9223372036854775807) : cvP 77 [.sl (some g) 1 xs.length (bytes xs), .sl (some h) 1 ys.length (bytes ys)] t = feed t [.bool (decide (xs = ys))] := cvP_eq (c_eqByteS g h xs ys hb) (by kernel_rfl) t
theorem v_eqBoolS (g h : Bool) (xs ys : List Bool) (hb : xs.length < 9223372036854775807) : cvP 51 [.sl (some g) 1 xs.length (bools xs), .sl (some h) 1 ys.length (bools ys)] t = feed t [.bool (decide (xs = ys))] := cvP_eq (c_eqBoolS g h xs ys hb) (by kernel_rfl) t
theorem v_szIntS (g : Bool) (n : Nat) (c : List D) (left : Int) (h0 : 0 ≤ left) (h1 : left ≤ 1048576) (hn : n ≤ 140737488355328) : cvP 35 [.sl (some g) 1 n c, .int .i64 left] t = feed t [.int .i64 (szF n left)] := cvP_eq (c_szIntS g n c left h0 h1 hn) (by kernel_rfl) t
theorem v_szByteS (g : Bool) (n : Nat) (c : List D) (left : Int) (h0 : 0 ≤ left) (h1 : left ≤ 1048576) (hn : n ≤ 140737488355328) : cvP 75 [.sl (some g) 1 n c, .int .i64 left] t = feed t [.int .i64 (szF n left)] := cvP_eq (c_szByteS g n c left h0 h1 hn) (by kernel_rfl) t
theorem v_szBoolS (g : Bool) (n : Nat) (c : List D) (left : Int) (h0 : 0 ≤ left) (h1 : left ≤ 1048576) (hn : n ≤ 140737488355328) : cvP 43 [.sl (some g) 1 n c, .int .i64 left] t = feed t [.int .i64 (szF n left)] := cvP_eq (c_szBoolS g n c left h0 h1 hn) (by kernel_rfl) t
end
theorem feed_int {R : Type} (f : Int → Tel R) (k : IntKind) (n : Int) (l : List D) : feed (.int f) (.int k n :: l) = feed (f n) l := rfl
theorem feed_bool {R : Type} (f : Bool → Tel R) (b : Bool) (l : List D) : feed (.bool f) (.bool b :: l) = feed (f b) l := rfl
theorem feed_str {R : Type} (f : ByteArray → Tel R) (s : ByteArray) (l : List D) : feed (.str f) (.str s :: l) = feed (f s) l := rfl
theorem feed_sl {R : Type} (f : Nat → List D → Tel R) (s n : Nat) (cs l : List D) : feed (.sl f) (.sl none s n cs :: l) = feed (f n cs) l := rfl
theorem feed_done {R : Type} (x : Option R) (l : List D) : feed (.done x) l = x := rfl

/-! ### rows of rows -/
theorem c_toIntSS (g : Bool) (xss : List (List Int)) (hb : OkR xss) : Cm 48 [sR (some g) xss] (sR none xss, [.undef]) := by
  have hl := hb.1
  refine Cm.go k_laws_toIntSS [.undef] 0 (h_laws_toIntSS_0 g xss.length (rows (some g) xss) (0 : Nat) xss.length (rows none (List.replicate xss.length []))) ?_ fun J hJ => ?_
  · refine WP.loop (H := fun i => h_laws_toIntSS_0 g xss.length (rows (some g) xss) (i : Nat) xss.length (rows none (xss.take i ++ List.replicate (xss.length - i) []))) (n := xss.length) (fun _ => True) (fun i hi _ ih => WP.go _ (ih trivial) fun J hJ => ?_) (fun _ => WP.fin fun J => ?_) 0 (Nat.zero_le _) trivial
    · rw [eh_laws_toIntSS_0]
      have hx : xss[i].length ≤ 1048576 := hb.2 _ (List.getElem_mem hi)
      simp (disch := first | omega | (simp; done) | (simp; omega)) only [br_t, br_f, br_tf, s_ofN, br_lt, br_inR, idx1, br_isL, s_getG, s_getN, s_getC, v_toIntS, feed_sl, feed_done, s_nlI, br_isOS, br_neR, rows_set, s_inc, cvP_nm]
      rw [rep_step hi _ xss rfl hi]
      exact hJ
    · rw [eh_laws_toIntSS_0]
      simp (disch := omega) only [br_t, br_f, s_ofN, br_nlt, List.take_length, Nat.sub_self, List.replicate_zero, List.append_nil]
  · rw [e_laws_toIntSS]
    simp (disch := omega) only [br_t, br_f, s_ofN, br_mkok, s_toN, reps_R]
    exact hJ
theorem c_eqIntSS (g h : Bool) (xs ys : List (List Int)) (hb : OkR xs) : Cm 52 [sR (some g) xs, sR (some h) ys] (.bool (decide (xs = ys)), [.undef, .undef]) := by
  have hlen := hb.1
  by_cases hl : xs.length = ys.length
  · refine Cm.go k_laws_eqIntSS [.undef, .undef] 0 (h_laws_eqIntSS_0 g xs.length (rows (some g) xs) h ys.length (rows (some h) ys) (0 : Nat)) ?_ fun J hJ => ?_
    · refine WP.loop (H := fun i => h_laws_eqIntSS_0 g xs.length (rows (some g) xs) h ys.length (rows (some h) ys) (i : Nat)) (n := xs.length) (fun i => xs.take i = ys.take i) (fun i hi hv ih => ?_) (fun hv => WP.fin fun J => ?_) 0 (Nat.zero_le _) (by simp)
      · have hi' : i < ys.length := by omega
        have hx : xs[i].length ≤ 1048576 := hb.2 _ (List.getElem_mem hi)
        by_cases he : xs[i] = ys[i]
        · refine WP.go _ (ih (by rw [← List.take_append_getElem hi, ← List.take_append_getElem hi', hv, he])) fun J hJ => ?_
          rw [eh_laws_eqIntSS_0]
          simp (disch := omega) only [br_t, br_f, br_tf, br_ft, br_nb, s_ofN, br_lt, br_inR, idx1, br_isL, s_getG, s_getN, s_getC, v_eqIntS, feed_bool, feed_done, decide_eq_true he, s_inc]
          exact hJ
        · refine WP.fin fun J => ?_
          rw [eh_laws_eqIntSS_0]
          have hne : xs ≠ ys := fun e => he (by subst e; rfl)
          simp (disch := omega) only [br_t, br_f, br_tf, br_ft, br_nb, s_ofN, br_lt, br_inR, idx1, br_isL, s_getG, s_getN, s_getC, v_eqIntS, feed_bool, feed_done, decide_eq_false he, decide_eq_false hne]
      · rw [eh_laws_eqIntSS_0]
        rw [List.take_length, hl, List.take_length] at hv
        simp (disch := omega) only [br_t, br_f, s_ofN, br_nlt, decide_eq_true hv]
    · rw [e_laws_eqIntSS]
      simp (disch := omega) only [br_t, br_f, s_ofN, br_ft, br_nb, br_eq]
      exact hJ
  · refine Cm.fin k_laws_eqIntSS fun J => ?_
    have hne : xs ≠ ys := fun e => hl (by rw [e])
    rw [e_laws_eqIntSS]
    simp (disch := omega) only [br_t, br_f, s_ofN, br_ft, br_nb, br_neq, decide_eq_false hne]

/-! ### sizes -/
def szB (v : Int) (k : Int → Int) : Int := if v < 0 then -1 else k v
def szL {α : Type} (f : α → Int → Int) : List α → Int → Int
  | [], l => l
  | x :: xs, l => szB (f x l) (szL f xs)
theorem szF_le {n : Nat} {l : Int} (h : 0 ≤ l) : szF n l ≤ l ∧ -1 ≤ szF n l ∧ (0 ≤ szF n l → (n : Int) ≤ l) := by unfold szF; split <;> omega
theorem szB_neg {v : Int} (k : Int → Int) (h : v < 0) : szB v k = -1 := if_pos h
theorem szB_pos {v : Int} (k : Int → Int) (h : 0 ≤ v) : szB v k = k v := if_neg (by omega)
theorem szL_le {α : Type} {f : α → Int → Int} {Q : α → Prop} (hf : ∀ x l, 0 ≤ l → f x l ≤ l ∧ -1 ≤ f x l ∧ (0 ≤ f x l → l ≤ 1048576 → Q x)) : ∀ (xs : List α) (l : Int), 0 ≤ l → l ≤ 1048576 → szL f xs l ≤ l ∧ -1 ≤ szL f xs l ∧ (0 ≤ szL f xs l → ∀ x ∈ xs, Q x)
  | [], l, h, _ => ⟨Int.le_refl _, by show -1 ≤ l; omega, fun _ => by simp⟩
  | x :: xs, l, h, hm => by
    obtain ⟨h1, h2, h3⟩ := hf x l h
    simp only [szL]
    by_cases hv : f x l < 0
    · rw [szB_neg _ hv]
      exact ⟨by omega, by omega, by omega⟩
    · rw [szB_pos _ (by omega)]
      obtain ⟨g1, g2, g3⟩ := szL_le hf xs (f x l) (by omega) (by omega)
      refine ⟨by omega, g2, fun hp y hy => ?_⟩
      rcases List.mem_cons.1 hy with rfl | hy
      · exact h3 (by omega) hm
      · exact g3 hp y hy
def szR (xss : List (List Int)) (l : Int) : Int := szB (szF xss.length l) (szL (fun xs l => szF xs.length l) xss)
theorem szR_le {xss : List (List Int)} {l : Int} (h : 0 ≤ l) (hm : l ≤ 1048576) : szR xss l ≤ l ∧ -1 ≤ szR xss l ∧ (0 ≤ szR xss l → OkR xss) := by
  obtain ⟨h1, h2, h3⟩ := szF_le (n := xss.length) h
  unfold szR
  by_cases hv : szF xss.length l < 0
  · rw [szB_neg _ hv]
    exact ⟨by omega, by omega, by omega⟩
  · rw [szB_pos _ (by omega)]
    obtain ⟨g1, g2, g3⟩ := szL_le (f := fun (xs : List Int) l => szF xs.length l) (Q := fun xs => xs.length ≤ 1048576) (fun xs l hl => by
      obtain ⟨a1, a2, a3⟩ := szF_le (n := xs.length) hl
      exact ⟨a1, a2, fun hh hm => by have := a3 hh; omega⟩) xss (szF xss.length l) (by omega) (by omega)
    exact ⟨by omega, g2, fun hp => ⟨by have := h3 (by omega); omega, g3 hp⟩⟩
theorem c_szIntSS (g : Bool) (xss : List (List Int)) (left : Int) (h0 : 0 ≤ left) (h1 : left ≤ 1048576) (hn : xss.length ≤ 140737488355328) (hx : ∀ xs ∈ xss, xs.length ≤ 140737488355328) : Cm 44 [sR (some g) xss, .int .i64 left] (.int .i64 (szR xss left), [.undef, .undef]) := by
  have hlen := szF_le (n := xss.length) h0
  have loop : ∀ k i (l : Int), i + k = xss.length → 0 ≤ l → l ≤ 1048576 → WP 44 Try.f44 [.undef, .undef] 0 (h_laws_szIntSS_0 g xss.length (rows (some g) xss) l (i : Nat)) (.int .i64 (szL (fun xs l => szF xs.length l) (xss.drop i) l), [.undef, .undef]) := by
    intro k
    induction k with
    | zero =>
      intro i l hi hl hm
      refine WP.fin fun J => ?_
      rw [eh_laws_szIntSS_0, List.drop_of_length_le (by omega)]
      simp (disch := omega) only [s_ofN, br_nlt, szL]
    | succ k ih =>
      intro i l hi hl hm
      have hi' : i < xss.length := by omega
      have hxi := hx _ (List.getElem_mem hi')
      obtain ⟨a1, a2, a3⟩ := szF_le (n := xss[i].length) hl
      have e : szL (fun xs l => szF xs.length l) (xss.drop i) l = szB (szF xss[i].length l) (szL (fun xs l => szF xs.length l) (xss.drop (i + 1))) := by
        rw [← List.getElem_cons_drop hi']
        rfl
      rw [e]
      by_cases hv : szF xss[i].length l < 0
      · refine WP.fin fun J => ?_
        rw [eh_laws_szIntSS_0, szB_neg _ hv]
        simp (disch := omega) only [br_t, br_f, br_tf, s_ofN, br_lt, br_inR, idx1, br_isL, s_getG, s_getN, s_getC, v_szIntS, feed_int, feed_done]
      · rw [szB_pos _ (by omega)]
        refine WP.go _ (ih (i + 1) (szF xss[i].length l) (by omega) (by omega) (by omega)) fun J hJ => ?_
        rw [eh_laws_szIntSS_0]
        have hv' : 0 ≤ szF xss[i].length l := by omega
        simp (disch := omega) only [br_t, br_f, br_tf, s_ofN, br_lt, br_inR, idx1, br_isL, s_getG, s_getN, s_getC, v_szIntS, feed_int, feed_done, br_nlt, s_inc]
        exact hJ
  by_cases h : left < xss.length
  · refine Cm.fin k_laws_szIntSS fun J => ?_
    rw [e_laws_szIntSS, szR, szB_neg _ (by unfold szF; rw [if_pos h]; omega)]
    simp (disch := omega) only [s_ofN, s_sub, br_lt]
  · have e : szF xss.length left = left - xss.length := if_neg h
    rw [szR, szB_pos _ (by omega), e]
    refine Cm.go k_laws_szIntSS [.undef, .undef] 0 _ (loop xss.length 0 (left - xss.length) (by omega) (by omega) (by omega)) fun J hJ => ?_
    rw [e_laws_szIntSS]
    simp (disch := omega) only [s_ofN, s_sub, br_nlt]
    exact hJ
section
variable (t : Tel Rz)
theorem v_toIntSS (g : Bool) (xss : List (List Int)) (hb : OkR xss) : cvP 48 [.sl (some g) 1 xss.length (rows (some g) xss)] t = feed t [.sl none 1 xss.length (rows none xss)] := cvP_eq (c_toIntSS g xss hb) (by kernel_rfl) t
theorem v_eqIntSS (g h : Bool) (xs ys : List (List Int)) (hb : OkR xs) : cvP 52 [.sl (some g) 1 xs.length (rows (some g) xs), .sl (some h) 1 ys.length (rows (some h) ys)] t = feed t [.bool (decide (xs = ys))] := cvP_eq (c_eqIntSS g h xs ys hb) (by kernel_rfl) t
theorem v_szIntSS (g : Bool) (xss : List (List Int)) (left : Int) (h0 : 0 ≤ left) (h1 : left ≤ 1048576) (hn : xss.length ≤ 140737488355328) (hx : ∀ xs ∈ xss, xs.length ≤ 140737488355328) : cvP 44 [.sl (some g) 1 xss.length (rows (some g) xss), .int .i64 left] t = feed t [.int .i64 (szR xss left)] := cvP_eq (c_szIntSS g xss left h0 h1 hn hx) (by kernel_rfl) t
end

/-! ### structs -/
theorem c_toMeta (g : Bool) (m : MMeta) (h : OkMeta m) : Cm 45 [.agg (eMeta (some g) m)] (.agg (eMeta none m), [.undef]) := by
  have h1 := h.gens
  refine Cm.fin k_laws_toMeta fun J => ?_
  rw [e_laws_toMeta]
  simp (disch := first | omega | exact h.bits) only [v_toIntS, v_toIntSS, feed_sl, feed_done, s_nlI, s_nlRn, br_t]
theorem c_toSlots (g : Bool) (s : MSlots) (h : OkSlots s) : Cm 46 [.agg (eSlots (some g) s)] (.agg (eSlots none s), [.undef]) := by
  have h1 := h.a
  have h2 := h.b
  refine Cm.fin k_laws_toSlots fun J => ?_
  rw [e_laws_toSlots]
  simp (disch := omega) only [v_toByteS, feed_sl, feed_done, s_nl8, br_t]
theorem c_eqMeta (g h : Bool) (m : MMeta) (ok : OkMeta m) : Cm 49 [.agg (eMeta (some g) m), .agg (eMeta (some h) m)] (.bool true, [.undef, .undef]) := by
  have h1 := ok.gens
  refine Cm.fin k_laws_eqMeta fun J => ?_
  rw [e_laws_eqMeta]
  simp (disch := first | omega | exact ok.bits) only [v_eqIntS, v_eqIntSS, feed_bool, feed_done, decide_true, br_t, br_f, s_beq, beq_self_eq_true, br_eq]
theorem c_eqSlots (g h : Bool) (s : MSlots) (ok : OkSlots s) : Cm 50 [.agg (eSlots (some g) s), .agg (eSlots (some h) s)] (.bool true, [.undef, .undef]) := by
  have h1 := ok.a
  have h2 := ok.b
  refine Cm.fin k_laws_eqSlots fun J => ?_
  rw [e_laws_eqSlots]
  simp (disch := omega) only [v_eqByteS, feed_bool, feed_done, decide_true, br_t, br_f]
/-- What is read of a meta's lengths. -/
structure LnMeta (m : MMeta) : Prop where
  gens : m.gens.length ≤ 140737488355328
  bits : m.bits.length ≤ 140737488355328
  bit : ∀ xs ∈ m.bits, xs.length ≤ 140737488355328
structure LnNode (n : MNode) : Prop where
  image : n.image.length ≤ 140737488355328
  mt : LnMeta n.mt
  a : n.slots.a.length ≤ 140737488355328
  b : n.slots.b.length ≤ 140737488355328
  conn : n.conn.length ≤ 140737488355328
  sync : n.sync.length ≤ 140737488355328
  syn : ∀ xs ∈ n.sync, xs.length ≤ 140737488355328
  copies : n.copies.length ≤ 140737488355328
  wait : n.wait.length ≤ 140737488355328
def szMetaF (m : MMeta) (l : Int) : Int := szB (szF m.gens.length l) fun l => szB (szR m.bits l) fun l => l
def szSlotsF (s : MSlots) (l : Int) : Int := szB (szF s.a.length l) fun l => szB (szF s.b.length l) fun l => l
def szNodeF (n : MNode) (l : Int) : Int := szB (szF n.image.length l) fun l => szB (szMetaF n.mt l) fun l => szB (szSlotsF n.slots l) fun l => szB (szF n.conn.length l) fun l => szB (szR n.sync l) fun l => szB (szF n.copies.length l) fun l => szB (szF n.wait.length l) fun l => l
theorem szB_pair {v l : Int} {k : Int → Int} {Q Q' : Prop} (hl : 0 ≤ l) (hv : v ≤ l ∧ -1 ≤ v ∧ (0 ≤ v → Q)) (hk : 0 ≤ v → k v ≤ v ∧ -1 ≤ k v ∧ (0 ≤ k v → Q')) : szB v k ≤ l ∧ -1 ≤ szB v k ∧ (0 ≤ szB v k → Q ∧ Q') := by
  unfold szB
  split
  · omega
  · obtain ⟨a, b, c⟩ := hk (by omega)
    exact ⟨by omega, b, fun h => ⟨hv.2.2 (by omega), c h⟩⟩
theorem sz_end {l : Int} (h : 0 ≤ l) : l ≤ l ∧ -1 ≤ l ∧ (0 ≤ l → True) := ⟨by omega, by omega, fun _ => trivial⟩
theorem szF_ok {n : Nat} {l : Int} (h : 0 ≤ l) (hm : l ≤ 1048576) : szF n l ≤ l ∧ -1 ≤ szF n l ∧ (0 ≤ szF n l → n ≤ 1048576) := by
  obtain ⟨a, b, c⟩ := szF_le (n := n) h
  exact ⟨a, b, fun hh => by have := c hh; omega⟩
theorem szMetaF_ok {m : MMeta} {l : Int} (h : 0 ≤ l) (hm : l ≤ 1048576) : szMetaF m l ≤ l ∧ -1 ≤ szMetaF m l ∧ (0 ≤ szMetaF m l → OkMeta m) := by
  have a1 := szF_ok (n := m.gens.length) h hm
  have := szB_pair (k := fun l => szB (szR m.bits l) fun l => l) h a1 fun h2 => szB_pair h2 (szR_le (xss := m.bits) h2 (by omega)) fun h3 => sz_end h3
  exact ⟨this.1, this.2.1, fun hh => by obtain ⟨b1, b2, _⟩ := this.2.2 hh; exact ⟨b1, b2⟩⟩
theorem szSlotsF_ok {s : MSlots} {l : Int} (h : 0 ≤ l) (hm : l ≤ 1048576) : szSlotsF s l ≤ l ∧ -1 ≤ szSlotsF s l ∧ (0 ≤ szSlotsF s l → OkSlots s) := by
  have a1 := szF_ok (n := s.a.length) h hm
  have := szB_pair (k := fun l => szB (szF s.b.length l) fun l => l) h a1 fun h2 => szB_pair h2 (szF_ok (n := s.b.length) h2 (by omega)) fun h3 => sz_end h3
  exact ⟨this.1, this.2.1, fun hh => by obtain ⟨b1, b2, _⟩ := this.2.2 hh; exact ⟨b1, b2⟩⟩
theorem szNodeF_ok {n : MNode} {l : Int} (h : 0 ≤ l) (hm : l ≤ 1048576) : szNodeF n l ≤ l ∧ -1 ≤ szNodeF n l ∧ (0 ≤ szNodeF n l → OkNode n) := by
  have a1 := szF_ok (n := n.image.length) h hm
  have a2 : ∀ {l : Int}, 0 ≤ l → l ≤ 1048576 → _ := fun {l} h hm => szMetaF_ok (m := n.mt) (l := l) h hm
  have a3 : ∀ {l : Int}, 0 ≤ l → l ≤ 1048576 → _ := fun {l} h hm => szSlotsF_ok (s := n.slots) (l := l) h hm
  have a4 : ∀ {l : Int}, 0 ≤ l → l ≤ 1048576 → _ := fun {l} h hm => szF_ok (n := n.conn.length) (l := l) h hm
  have a5 : ∀ {l : Int}, 0 ≤ l → l ≤ 1048576 → _ := fun {l} h hm => szR_le (xss := n.sync) (l := l) h hm
  have a6 : ∀ {l : Int}, 0 ≤ l → l ≤ 1048576 → _ := fun {l} h hm => szF_ok (n := n.copies.length) (l := l) h hm
  have a7 : ∀ {l : Int}, 0 ≤ l → l ≤ 1048576 → _ := fun {l} h hm => szF_ok (n := n.wait.length) (l := l) h hm
  have key : szNodeF n l ≤ l ∧ -1 ≤ szNodeF n l ∧ (0 ≤ szNodeF n l → n.image.length ≤ 1048576 ∧ OkMeta n.mt ∧ OkSlots n.slots ∧ n.conn.length ≤ 1048576 ∧ OkR n.sync ∧ n.copies.length ≤ 1048576 ∧ n.wait.length ≤ 1048576 ∧ True) := by
    unfold szNodeF
    refine szB_pair h a1 fun h1 => ?_
    have k1 := a2 h1 (by omega)
    refine szB_pair h1 k1 fun h2 => ?_
    have k2 := a3 h2 (by omega)
    refine szB_pair h2 k2 fun h3 => ?_
    have k3 := a4 h3 (by omega)
    refine szB_pair h3 k3 fun h4 => ?_
    have k4 := a5 h4 (by omega)
    refine szB_pair h4 k4 fun h5 => ?_
    have k5 := a6 h5 (by omega)
    refine szB_pair h5 k5 fun h6 => ?_
    exact szB_pair h6 (a7 h6 (by omega)) fun h7 => sz_end h7
  refine ⟨key.1, key.2.1, fun hh => ?_⟩
  obtain ⟨b1, b2, b3, b4, b5, b6, b7, _⟩ := key.2.2 hh
  exact ⟨b1, b2, b3, b4, b5, b6, b7⟩
theorem br_szB {f : Int → Option Rz} {g : Int → Int} {outs : List D} {v : Int} (h : 0 ≤ v → f v = some (.int .i64 (g v), outs)) : br (std.lt v 0) (some (.int .i64 (-1), outs)) (f v) = some (.int .i64 (szB v g), outs) := by
  by_cases hv : v < 0
  · rw [br_lt hv, szB_neg _ hv]
  · rw [br_nlt (by omega), szB_pos _ (by omega), h (by omega)]
theorem c_szMeta (g : Bool) (m : MMeta) (left : Int) (h0 : 0 ≤ left) (h1 : left ≤ 1048576) (ln : LnMeta m) : Cm 41 [.agg (eMeta (some g) m), .int .i64 left] (.int .i64 (szMetaF m left), [.undef, .undef]) := by
  refine Cm.fin k_laws_szMeta fun J => ?_
  rw [e_laws_szMeta]
  have l1 := ln.gens
  have a1 := szF_le (n := m.gens.length) h0
  simp (disch := omega) only [v_szIntS, feed_int, feed_done]
  refine br_szB (f := fun v => cvP 44 _ _) fun p1 => ?_
  simp (disch := first | omega | exact ln.bits | exact ln.bit) only [v_szIntSS, feed_int, feed_done]
  exact br_szB (f := fun v => some (.int .i64 v, [.undef, .undef])) fun _ => rfl
theorem c_szSlots (g : Bool) (s : MSlots) (left : Int) (h0 : 0 ≤ left) (h1 : left ≤ 1048576) (l1 : s.a.length ≤ 140737488355328) (l2 : s.b.length ≤ 140737488355328) : Cm 42 [.agg (eSlots (some g) s), .int .i64 left] (.int .i64 (szSlotsF s left), [.undef, .undef]) := by
  refine Cm.fin k_laws_szSlots fun J => ?_
  rw [e_laws_szSlots]
  have a1 := szF_le (n := s.a.length) h0
  simp (disch := omega) only [v_szByteS, feed_int, feed_done]
  refine br_szB (f := fun v => cvP 75 _ _) fun p1 => ?_
  simp (disch := omega) only [v_szByteS, feed_int, feed_done]
  exact br_szB (f := fun v => some (.int .i64 v, [.undef, .undef])) fun _ => rfl
section
variable (t : Tel Rz)
theorem v_toMeta (g : Bool) (m : MMeta) (h : OkMeta m) : cvP 45 [.agg (eMeta (some g) m)] t = feed t (eMeta none m) := cvP_eq (c_toMeta g m h) (by kernel_rfl) t
theorem v_toSlots (g : Bool) (s : MSlots) (h : OkSlots s) : cvP 46 [.agg (eSlots (some g) s)] t = feed t (eSlots none s) := cvP_eq (c_toSlots g s h) (by kernel_rfl) t
theorem v_eqMeta (g h : Bool) (m : MMeta) (ok : OkMeta m) : cvP 49 [.agg (eMeta (some g) m), .agg (eMeta (some h) m)] t = feed t [.bool true] := cvP_eq (c_eqMeta g h m ok) (by kernel_rfl) t
theorem v_eqSlots (g h : Bool) (s : MSlots) (ok : OkSlots s) : cvP 50 [.agg (eSlots (some g) s), .agg (eSlots (some h) s)] t = feed t [.bool true] := cvP_eq (c_eqSlots g h s ok) (by kernel_rfl) t
theorem v_szMeta (g : Bool) (m : MMeta) (left : Int) (h0 : 0 ≤ left) (h1 : left ≤ 1048576) (ln : LnMeta m) : cvP 41 [.agg (eMeta (some g) m), .int .i64 left] t = feed t [.int .i64 (szMetaF m left)] := cvP_eq (c_szMeta g m left h0 h1 ln) (by kernel_rfl) t
theorem v_szSlots (g : Bool) (s : MSlots) (left : Int) (h0 : 0 ≤ left) (h1 : left ≤ 1048576) (l1 : s.a.length ≤ 140737488355328) (l2 : s.b.length ≤ 140737488355328) : cvP 42 [.agg (eSlots (some g) s), .int .i64 left] t = feed t [.int .i64 (szSlotsF s left)] := cvP_eq (c_szSlots g s left h0 h1 l1 l2) (by kernel_rfl) t
end
theorem c_toNode (g : Bool) (n : MNode) (h : OkNode n) : Cm 16 [.agg (eNode (some g) n)] (.agg (eNode none n), [.undef]) := by
  have h1 := h.image
  have h2 := h.conn
  have h3 := h.copies
  have h4 := h.wait
  refine Cm.fin k_laws_toNode fun J => ?_
  rw [e_laws_toNode]
  simp (disch := first | omega | exact h.mt | exact h.slots | exact h.sync) only [v_toIntS, v_toIntSS, v_toBoolS, v_toMeta, v_toSlots, feed_sl, feed_bool, feed_int, feed_done, s_nlI, s_nlRn, s_nl8, s_nlB, br_t]
theorem c_eqNode (g h : Bool) (n : MNode) (ok : OkNode n) : Cm 18 [.agg (eNode (some g) n), .agg (eNode (some h) n)] (.bool true, [.undef, .undef]) := by
  have h1 := ok.image
  have h2 := ok.conn
  have h3 := ok.copies
  have h4 := ok.wait
  refine Cm.fin k_laws_eqNode fun J => ?_
  rw [e_laws_eqNode]
  simp (disch := first | omega | exact ok.mt | exact ok.slots | exact ok.sync) only [v_eqIntS, v_eqIntSS, v_eqBoolS, v_eqMeta, v_eqSlots, feed_bool, feed_done, decide_true, br_t, br_f, s_beq, beq_self_eq_true, br_eq]
theorem c_szNode (g : Bool) (n : MNode) (left : Int) (h0 : 0 ≤ left) (h1 : left ≤ 1048576) (ln : LnNode n) : Cm 14 [.agg (eNode (some g) n), .int .i64 left] (.int .i64 (szNodeF n left), [.undef, .undef]) := by
  refine Cm.fin k_laws_szNode fun J => ?_
  rw [e_laws_szNode]
  have l1 := ln.image
  have l2 := ln.conn
  have l3 := ln.copies
  have l4 := ln.wait
  have a1 := szF_le (n := n.image.length) h0
  simp (disch := omega) only [v_szIntS, feed_int, feed_done]
  refine br_szB (f := fun v => cvP 41 _ _) fun p1 => ?_
  have a2 := szMetaF_ok (m := n.mt) p1 (by omega)
  simp (disch := first | omega | exact ln.mt) only [v_szMeta, feed_int, feed_done]
  refine br_szB (f := fun v => cvP 42 _ _) fun p2 => ?_
  have a3 := szSlotsF_ok (s := n.slots) p2 (by omega)
  simp (disch := first | omega | exact ln.a | exact ln.b) only [v_szSlots, feed_int, feed_done]
  refine br_szB (f := fun v => cvP 43 _ _) fun p3 => ?_
  have a4 := szF_le (n := n.conn.length) p3
  simp (disch := omega) only [v_szBoolS, feed_int, feed_done]
  refine br_szB (f := fun v => cvP 44 _ _) fun p4 => ?_
  have a5 := szR_le (xss := n.sync) p4 (by omega)
  simp (disch := first | omega | exact ln.sync | exact ln.syn) only [v_szIntSS, feed_int, feed_done]
  refine br_szB (f := fun v => cvP 43 _ _) fun p5 => ?_
  have a6 := szF_le (n := n.copies.length) p5
  simp (disch := omega) only [v_szBoolS, feed_int, feed_done]
  refine br_szB (f := fun v => cvP 35 _ _) fun p6 => ?_
  simp (disch := omega) only [v_szIntS, feed_int, feed_done]
  exact br_szB (f := fun v => some (.int .i64 v, [.undef, .undef])) fun _ => rfl
end Go.Proofs.Ytkejckoefjonjaa

namespace Go.Proofs.Ytkejckoefjonjaa
set_option maxRecDepth 100000
section
variable (pr : Prims) (cv : Cv Rz) (J : Nat → St → Option Rz)
theorem k_impl_Digits : Told cfg Try.prog 40 Try.f40 := ⟨by kernel_rfl, Try.func40, by kernel_rfl⟩
theorem e_impl_Digits (a0 : Int) : RunJ pr cv J 40 Try.f40 [(.int .i64 a0)] =
    let y1 : ByteArray := (bs [45])
    let y2 : ByteArray := (pr.enc (pr.wrap .i32 (pr.ar .add .i64 48 (pr.ar .rem .i64 a0 10))))
    let y3 : Option Rz := (br (pr.lt a0 0) (br (br (pr.eq 10 0) false true) (cv 40 [(.int .i64 (pr.ar .quo .i64 a0 10))] (.str (fun vs1 => (.done (br (br (pr.eq 10 0) false true) (cv 40 [(.int .i64 (pr.ar .sub .i64 0 (pr.ar .rem .i64 a0 10)))] (.str (fun vs2 => (.done (br (pr.sfit vs1 vs2) (some ((.str (pr.sapp vs1 vs2)), [.undef])) none))))) none))))) none) (br (pr.lt a0 10) (some ((.str (pr.enc (pr.wrap .i32 (pr.ar .add .i64 48 a0)))), [.undef])) (br (br (pr.eq 10 0) false true) (cv 40 [(.int .i64 (pr.ar .quo .i64 a0 10))] (.str (fun vs3 => (.done (br (br (pr.eq 10 0) false true) (br (pr.sfit vs3 y2) (some ((.str (pr.sapp vs3 y2)), [.undef])) none) none))))) none)))
    (br (pr.lt a0 0) (br (pr.lt (-10) a0) (cv 40 [(.int .i64 (pr.ar .sub .i64 0 a0))] (.str (fun vs0 => (.done (br (pr.sfit y1 vs0) (some ((.str (pr.sapp y1 vs0)), [.undef])) none))))) y3) y3) := by kernel_rfl
def h_spec_Digits_0 (i0 : Int) (b1 : Bool) (s2 : ByteArray) : St := (St.mk [(0, (.int .i64 i0)), (3, (.bool b1)), (4, (.str s2))] [] [] 0)
theorem k_spec_Digits : Told cfg Try.prog 37 Try.f37 := ⟨by kernel_rfl, Try.func37, by kernel_rfl⟩
theorem e_spec_Digits (a0 : Int) : RunJ pr cv J 37 Try.f37 [(.int .i64 a0)] =
    (br (pr.eq a0 0) (some ((.str (bs [48])), [.undef])) (J 0 (h_spec_Digits_0 a0 (pr.lt a0 0) (bs [])))) := by kernel_rfl
theorem eh_spec_Digits_0 (i0 : Int) (b1 : Bool) (s2 : ByteArray) : HeadJ pr cv J 37 Try.f37 [.undef] 0 (h_spec_Digits_0 i0 b1 s2) =
    let y1 : List D := [(.int .u8 (pr.wrap .u8 (pr.ar .add .i64 48 (pr.ar .sub .i64 0 (pr.ar .rem .i64 i0 10)))))]
    let y2 : ByteArray := (pr.bss y1)
    let y3 : List D := [(.int .u8 (pr.wrap .u8 (pr.ar .add .i64 48 (pr.ar .rem .i64 i0 10))))]
    let y4 : ByteArray := (pr.bss y3)
    let y5 : ByteArray := (bs [45])
    (br (br (pr.eq i0 0) false true) (br (br (pr.eq 10 0) false true) (br (pr.lt (pr.ar .rem .i64 i0 10) 0) (br (pr.bsok y1) (br (pr.sfit y2 s2) (br (br (pr.eq 10 0) false true) (J 0 (h_spec_Digits_0 (pr.ar .quo .i64 i0 10) b1 (pr.sapp y2 s2))) none) none) none) (br (pr.bsok y3) (br (pr.sfit y4 s2) (br (br (pr.eq 10 0) false true) (J 0 (h_spec_Digits_0 (pr.ar .quo .i64 i0 10) b1 (pr.sapp y4 s2))) none) none) none)) none) (br b1 (br (pr.sfit y5 s2) (some ((.str (pr.sapp y5 s2)), [.undef])) none) (some ((.str s2), [.undef])))) := by kernel_rfl
theorem k_impl_spaced : Told cfg Try.prog 39 Try.f39 := ⟨by kernel_rfl, Try.func39, by kernel_rfl⟩
theorem e_impl_spaced (g0 : Bool) (n0 : Nat) (c0 : List D) : RunJ pr cv J 39 Try.f39 [(.sl (some g0) 1 n0 c0)] =
    (cv 74 [(.sl (some g0) 1 n0 c0), (.str (bs [32]))] (.str (fun vs0 => (.done (some ((.str vs0), [.undef])))))) := by kernel_rfl
theorem k_spec_l1In : Told cfg Try.prog 36 Try.f36 := ⟨by kernel_rfl, Try.func36, by kernel_rfl⟩
theorem e_spec_l1In (a0 : Int) (a1 : Int) (a2 : Int) : RunJ pr cv J 36 Try.f36 [(.int .i64 a0), (.int .i64 a1), (.int .i64 a2)] =
    (br (pr.le a1 a0) (some ((.bool (pr.le a0 a2)), [.undef, .undef, .undef])) (some ((.bool false), [.undef, .undef, .undef]))) := by kernel_rfl
theorem k_impl_from : Told cfg Try.prog 38 Try.f38 := ⟨by kernel_rfl, Try.func38, by kernel_rfl⟩
theorem e_impl_from (a0 : Int) (a1 : Int) (a2 : Int) : RunJ pr cv J 38 Try.f38 [(.int .i64 a0), (.int .i64 a1), (.int .i64 a2)] =
    (br (pr.le a1 a0) (some ((.bool (pr.le a0 a2)), [.undef, .undef, .undef])) (some ((.bool false), [.undef, .undef, .undef]))) := by kernel_rfl
end

theorem bs_app (a b : List UInt8) : bs a ++ bs b = bs (a ++ b) := by
  apply ByteArray.ext
  simp [bs, ByteArray.data_append]
theorem bs_size (a : List UInt8) : (bs a).size = a.length := by simp [bs, ByteArray.size]
theorem s_app (a b : List UInt8) : std.sapp (bs a) (bs b) = bs (a ++ b) := bs_app a b
theorem br_sfit {R : Type} {x y : R} {a b : List UInt8} (h : a.length + b.length ≤ 9223372036854775807) : br (std.sfit (bs a) (bs b)) x y = x := by
  have : std.sfit (bs a) (bs b) = true := by
    simp only [std, bs_size]
    exact decide_eq_true h
  rw [this]; rfl
theorem s_seq (a b : List UInt8) : std.seq (bs a) (bs b) = decide (a = b) := by
  have : ∀ l : List UInt8, (bs l).toList = l := fun l => by
    rw [ByteArray.toList_eq]
    simp [bs]
  simp only [std, this]
  by_cases h : a = b <;> simp [h]
def natDig (n : Nat) : List UInt8 := if n < 10 then [UInt8.ofNat (48 + n)] else natDig (n / 10) ++ [UInt8.ofNat (48 + n % 10)]
theorem natDig_lt {n : Nat} (h : n < 10) : natDig n = [UInt8.ofNat (48 + n)] := by rw [natDig, if_pos h]
theorem natDig_ge {n : Nat} (h : ¬ n < 10) : natDig n = natDig (n / 10) ++ [UInt8.ofNat (48 + n % 10)] := by rw [natDig, if_neg h]
theorem natDig_len : ∀ (k n : Nat), n < 10 ^ (k + 1) → (natDig n).length ≤ k + 1
  | 0, n, h => by rw [natDig_lt (by simpa using h)]; simp
  | k + 1, n, h => by
    by_cases hn : n < 10
    · rw [natDig_lt hn]; simp
    · rw [natDig_ge hn, List.length_append]
      have h1 : n / 10 < 10 ^ (k + 1) := by
        rw [Nat.div_lt_iff_lt_mul (by omega)]
        rw [Nat.pow_succ] at h
        exact h
      have := natDig_len k (n / 10) h1
      simp only [List.length_singleton]
      omega
/-- A number's digits, a minus ahead. -/
def digL (a : Int) : List UInt8 := if a < 0 then 45 :: natDig a.natAbs else natDig a.natAbs
theorem digL_len {a : Int} (h : in64 a = true) : (digL a).length ≤ 21 := by
  rw [in64_iff] at h
  have h1 : (natDig a.natAbs).length ≤ 20 := natDig_len 19 _ (by
    have : (10 : Nat) ^ (19 + 1) = 100000000000000000000 := by decide
    omega)
  unfold digL
  split
  · simp; omega
  · omega
theorem s_rem (a b : Int) : std.ar .rem .i64 a b = a.tmod b := rfl
theorem s_quo {a : Int} (h : in64 a = true) : std.ar .quo .i64 a 10 = a.tdiv 10 := by
  rw [in64_iff] at h
  show IntKind.i64.wrap _ = _
  have h2 : (a.tdiv 10).natAbs ≤ a.natAbs := by rw [Int.natAbs_tdiv]; exact Nat.div_le_self _ _
  have h3 : a.natAbs / 10 = (a.tdiv 10).natAbs := by rw [Int.natAbs_tdiv]; rfl
  exact wrap64 (by omega) (by omega)
theorem enc_small {n : Nat} (h : n < 128) : Utf8.encode (n : Int) = bs [UInt8.ofNat n] := by
  have hv : Utf8.valid (n : Int) = true := by simp [Utf8.valid]; omega
  unfold Utf8.encode
  rw [if_pos hv]
  simp only [Int.toNat_natCast]
  rw [if_pos (by omega)]
  rfl
theorem wrap32 {n : Int} (h : 0 ≤ n) (h' : n < 2147483648) : IntKind.i32.wrap n = n := by
  simp only [IntKind.wrap, IntKind.bits, IntKind.signed]
  simp
  omega
/-- One digit. -/
theorem s_dig {d : Nat} (h : d < 10) : std.enc (std.wrap .i32 (std.ar .add .i64 48 (d : Int))) = bs [UInt8.ofNat (48 + d)] := by
  show Utf8.encode (IntKind.i32.wrap (IntKind.i64.wrap _)) = _
  rw [wrap64 (by omega) (by omega), wrap32 (by omega) (by omega)]
  have : (48 : Int) + (d : Int) = ((48 + d : Nat) : Int) := by omega
  rw [this, enc_small (by omega)]
def meas (a : Int) : Nat := 2 * a.natAbs + (if a < 0 then 1 else 0)
theorem c_impl_Digits_lt : ∀ (k : Nat) (a : Int), meas a < k → in64 a = true → Cm 40 [.int .i64 a] (.str (bs (digL a)), [.undef])
  | 0, a, h, _ => absurd h (by omega)
  | k + 1, a, h, ha => by
    have ha' := in64_iff.1 ha
    have ih : ∀ b : Int, in64 b = true → meas b < meas a → ∀ t, cvP 40 [.int .i64 b] t = feed t [.str (bs (digL b))] := fun b hb hm t => cvP_eq (c_impl_Digits_lt k b (by omega) hb) (by kernel_rfl) t
    have hsub : ∀ x : Int, -9223372036854775808 ≤ -x → -x < 9223372036854775808 → std.ar .sub .i64 0 x = -x := fun x h1 h2 => by
      rw [s_sub (by omega) (by omega)]
      omega
    refine Cm.fin k_impl_Digits fun J => ?_
    rw [e_impl_Digits]
    simp only [s_quo ha, s_rem]
    have h100 : ((10 : Int)) ≠ 0 := by decide
    by_cases hneg : a < 0
    · obtain ⟨m, rfl⟩ : ∃ m : Nat, a = -(m : Int) := ⟨a.natAbs, by omega⟩
      have hq : (-(m : Int)).tdiv 10 = -((m / 10 : Nat) : Int) := by rw [Int.neg_tdiv]; rfl
      have hr : (-(m : Int)).tmod 10 = -((m % 10 : Nat) : Int) := by rw [Int.neg_tmod]; rfl
      have hd : digL (-(m : Int)) = 45 :: natDig m := by
        unfold digL
        rw [if_pos hneg, Int.natAbs_neg, Int.natAbs_natCast]
      have hma : meas (-(m : Int)) = 2 * m + 1 := by unfold meas; rw [if_pos hneg]; omega
      rw [hq, hr]
      by_cases h10 : (-10 : Int) < -(m : Int)
      · have h2 : digL (m : Int) = natDig m := by
          unfold digL
          rw [if_neg (by omega), Int.natAbs_natCast]
        have hmm : meas (m : Int) = 2 * m := by unfold meas; rw [if_neg (by omega)]; omega
        have h1 : - -(m : Int) = (m : Int) := by omega
        have hm64 : in64 (m : Int) = true := in64_iff.2 (by omega)
        have := ih (m : Int) hm64 (by omega)
        simp (disch := first | omega | (simp; done) | (simp; omega)) only [br_lt, hsub, h1, this, feed_str, feed_done, h2, br_sfit, s_app, hd, br_t, List.singleton_append, natDig_lt]
      · have hm : ¬ m < 10 := by omega
        have e1 : digL (-((m / 10 : Nat) : Int)) = 45 :: natDig (m / 10) := by
          unfold digL
          rw [if_pos (by omega), Int.natAbs_neg, Int.natAbs_natCast]
        have e2 : digL ((m % 10 : Nat) : Int) = [UInt8.ofNat (48 + m % 10)] := by
          unfold digL
          rw [if_neg (by omega), Int.natAbs_natCast, natDig_lt (by omega)]
        have m1 : meas (-((m / 10 : Nat) : Int)) = 2 * (m / 10) + 1 := by unfold meas; rw [if_pos (by omega)]; omega
        have m2 : meas ((m % 10 : Nat) : Int) = 2 * (m % 10) := by unfold meas; rw [if_neg (by omega)]; omega
        have i1 := ih (-((m / 10 : Nat) : Int)) (in64_iff.2 (by omega)) (by omega)
        have i2 := ih ((m % 10 : Nat) : Int) (in64_iff.2 (by omega)) (by omega)
        have hnn : - -((m % 10 : Nat) : Int) = ((m % 10 : Nat) : Int) := by omega
        have l1 := digL_len (a := -((m / 10 : Nat) : Int)) (in64_iff.2 (by omega))
        rw [e1] at l1
        simp (disch := first | omega | (simp at l1 ⊢; omega)) only [br_lt, br_nlt, br_ft, br_nb, br_neq, hsub, hnn, i1, i2, feed_str, feed_done, e1, e2, br_sfit, s_app, hd, br_t, br_f, natDig_ge hm]
        rfl
    · obtain ⟨m, rfl⟩ : ∃ m : Nat, a = (m : Int) := ⟨a.natAbs, by omega⟩
      have hq : (m : Int).tdiv 10 = ((m / 10 : Nat) : Int) := rfl
      have hr : (m : Int).tmod 10 = ((m % 10 : Nat) : Int) := rfl
      have hd : digL (m : Int) = natDig m := by
        unfold digL
        rw [if_neg hneg, Int.natAbs_natCast]
      rw [hq, hr]
      by_cases h10 : (m : Int) < 10
      · simp (disch := omega) only [br_lt, br_nlt, s_dig, hd, natDig_lt]
      · have e1 : digL ((m / 10 : Nat) : Int) = natDig (m / 10) := by
          unfold digL
          rw [if_neg (by omega), Int.natAbs_natCast]
        have m0 : meas (m : Int) = 2 * m := by unfold meas; rw [if_neg (by omega)]; omega
        have m1 : meas ((m / 10 : Nat) : Int) = 2 * (m / 10) := by unfold meas; rw [if_neg (by omega)]; omega
        have i1 := ih ((m / 10 : Nat) : Int) (in64_iff.2 (by omega)) (by omega)
        have l1 := digL_len (a := ((m / 10 : Nat) : Int)) (in64_iff.2 (by omega))
        rw [e1] at l1
        simp (disch := first | omega | (simp; omega)) only [br_nlt, br_ft, br_nb, br_neq, i1, feed_str, feed_done, e1, s_dig, br_sfit, s_app, hd, br_t, br_f]
        rw [natDig_ge (n := m) (by omega)]
theorem c_impl_Digits (a : Int) (ha : in64 a = true) : Cm 40 [.int .i64 a] (.str (bs (digL a)), [.undef]) := c_impl_Digits_lt _ a (Nat.lt_succ_self _) ha

/-- Digits, none of nothing. -/
def dz (a : Int) : List UInt8 := if a = 0 then [] else natDig a.natAbs
theorem wrap8s {n : Int} (h : 0 ≤ n) (h' : n < 256) : IntKind.u8.wrap n = n := by
  simp only [IntKind.wrap, IntKind.bits, IntKind.signed]
  simp
  omega
theorem s_byte {d : Nat} (h : d < 10) : std.wrap .u8 (std.ar .add .i64 48 (d : Int)) = ((48 + d : Nat) : Int) := by
  show IntKind.u8.wrap (IntKind.i64.wrap _) = _
  rw [wrap64 (by omega) (by omega), wrap8s (by omega) (by omega)]
  omega
theorem s_bsok (n : Nat) : std.bsok [.int .u8 (n : Int)] = true := by simp [std, mapO, byteOf]
theorem s_bss (n : Nat) : std.bss [.int .u8 (n : Int)] = bs [UInt8.ofNat n] := by simp [std, mapO, byteOf, bs]
theorem dz_step {a : Int} (h : a ≠ 0) : dz a = dz (a.tdiv 10) ++ [UInt8.ofNat (48 + a.natAbs % 10)] := by
  have hq : (a.tdiv 10).natAbs = a.natAbs / 10 := by rw [Int.natAbs_tdiv]; rfl
  unfold dz
  rw [if_neg h, hq]
  by_cases h10 : a.natAbs < 10
  · rw [if_pos (by omega), natDig_lt h10, Nat.mod_eq_of_lt h10]
    rfl
  · rw [if_neg (by omega), natDig_ge h10]
theorem dz_len {a : Int} (ha : in64 a = true) : (dz a).length ≤ 20 := by
  have h64 := in64_iff.1 ha
  unfold dz
  split
  · simp
  · exact natDig_len 19 _ (by
      have : (10 : Nat) ^ (19 + 1) = 100000000000000000000 := by decide
      omega)
theorem w_spec_Digits : ∀ (n : Nat) (a : Int) (b : Bool) (l : List UInt8), a.natAbs < n → in64 a = true → (dz a).length + l.length ≤ 1000 →
    WP 37 Try.f37 [.undef] 0 (h_spec_Digits_0 a b (bs l)) (.str (bs ((if b then [45] else []) ++ (dz a ++ l))), [.undef])
  | 0, a, b, l, h, _, _ => absurd h (by omega)
  | n + 1, a, b, l, h, ha, hl => by
    have h100 : ((10 : Int)) ≠ 0 := by decide
    by_cases h0 : a = 0
    · subst h0
      refine WP.fin fun J => ?_
      rw [eh_spec_Digits_0]
      cases b with
      | true => simp (disch := first | omega | (simp; omega)) only [br_ft, br_nb, br_eq, br_t, br_f, br_sfit, s_app]; rfl
      | false => simp (disch := omega) only [br_ft, br_nb, br_eq, br_t, br_f]; rfl
    · have hd := dz_step h0
      have hlen : (dz (a.tdiv 10)).length + 1 = (dz a).length := by rw [hd]; simp
      have hq : (a.tdiv 10).natAbs = a.natAbs / 10 := by rw [Int.natAbs_tdiv]; rfl
      have h64 := in64_iff.1 ha
      have hr : (a.tmod 10).natAbs = a.natAbs % 10 := by rw [Int.natAbs_tmod]; rfl
      have e : dz (a.tdiv 10) ++ UInt8.ofNat (48 + a.natAbs % 10) :: l = dz a ++ l := by rw [hd, List.append_assoc]; rfl
      have ih := w_spec_Digits n (a.tdiv 10) b (UInt8.ofNat (48 + a.natAbs % 10) :: l) (by omega) (in64_iff.2 (by omega)) (by simp only [List.length_cons]; omega)
      rw [e] at ih
      refine WP.go _ ih fun J hJ => ?_
      rw [eh_spec_Digits_0]
      simp (disch := omega) only [br_ft, br_nb, br_neq, br_t, br_f, s_quo ha, s_rem]
      by_cases hneg : a.tmod 10 < 0
      · have e2 : std.ar .sub .i64 0 (a.tmod 10) = ((a.natAbs % 10 : Nat) : Int) := by rw [s_sub (by omega) (by omega)]; omega
        simp (disch := first | omega | (simp; omega)) only [br_lt, e2, s_byte, s_bsok, s_bss, br_t, br_sfit, s_app]
        exact hJ
      · have e2 : a.tmod 10 = ((a.natAbs % 10 : Nat) : Int) := by omega
        rw [e2]
        simp (disch := first | omega | (simp; omega)) only [br_nlt, s_byte, s_bsok, s_bss, br_t, br_sfit, s_app]
        exact hJ
theorem c_spec_Digits (a : Int) (ha : in64 a = true) : Cm 37 [.int .i64 a] (.str (bs (digL a)), [.undef]) := by
  by_cases h0 : a = 0
  · subst h0
    refine Cm.fin k_spec_Digits fun J => ?_
    have : digL 0 = [48] := by rw [digL, if_neg (by omega)]; exact natDig_lt (by decide)
    rw [e_spec_Digits, this]
    rfl
  · have hz := dz_len ha
    have hw := w_spec_Digits _ a (decide (a < 0)) [] (Nat.lt_succ_self _) ha (by simp; omega)
    have e : (if decide (a < 0) = true then [45] else []) ++ (dz a ++ []) = digL a := by
      unfold digL dz
      rw [if_neg h0]
      by_cases hneg : a < 0 <;> simp [hneg]
    rw [e] at hw
    refine Cm.go k_spec_Digits [.undef] 0 _ hw fun J hJ => ?_
    rw [e_spec_Digits]
    simp (disch := omega) only [br_neq]
    exact hJ

/-! ### words with a blank between -/
theorem strs_length (ws : List (List UInt8)) : (strs ws).length = ws.length := by simp [strs]
theorem mapO_strs : ∀ ws : List (List UInt8), mapO strOf (strs ws) = some (ws.map bs)
  | [] => rfl
  | w :: ws => by
    have ih := mapO_strs ws
    simp only [strs] at ih
    simp only [strs, List.map_cons, mapO, strOf, ih]
def jn (ws : List (List UInt8)) : List UInt8 := Lib.join ws [32]
theorem jn_snoc : ∀ (ws : List (List UInt8)) (w : List UInt8), ws ≠ [] → jn (ws ++ [w]) = jn ws ++ 32 :: w
  | [], w, h => absurd rfl h
  | v :: ws, w, _ => by
    simp only [jn, List.cons_append, Lib.join_cons]
    have : ∀ l : List (List UInt8), Lib.joinTail [32] (l ++ [w]) = Lib.joinTail [32] l ++ 32 :: w := by
      intro l
      induction l with
      | nil => simp [Lib.joinTail]
      | cons x l ih => simp [Lib.joinTail, ih]
    rw [this, List.append_assoc]
theorem jn_one (w : List UInt8) : jn [w] = w := by simp [jn, Lib.join_cons, Lib.joinTail]
theorem c_Join (g : Bool) (ws : List (List UInt8)) (hl : (jn ws).length ≤ 140737488355328) (hn : ws.length ≤ 140737488355328) : Cm 74 [.sl (some g) 1 ws.length (strs ws), .str (bs [32])] (.str (bs (jn ws)), [.undef, .undef]) := by
  refine runs_ext (e := joinE) (by kernel_rfl) ?_
  have s : (bs [32]).data.toList = [32] := rfl
  have m : (ws.map bs).map (·.data.toList) = ws := by
    rw [List.map_map]
    conv => rhs; rw [← List.map_id ws]
    apply List.map_congr_left
    intro x _
    simp [bs]
  simp only [joinE, if_true, mapO_strs, s, m, List.length_map]
  have e : Lib.join ws [32] = jn ws := rfl
  rw [e, if_pos ⟨hl, hn⟩]
  rfl
theorem c_spaced (g : Bool) (ws : List (List UInt8)) (hl : (jn ws).length ≤ 140737488355328) (hn : ws.length ≤ 140737488355328) : Cm 39 [.sl (some g) 1 ws.length (strs ws)] (.str (bs (jn ws)), [.undef]) := by
  refine Cm.fin k_impl_spaced fun J => ?_
  rw [e_impl_spaced]
  have := cvP_eq (c_Join g ws hl hn) (by kernel_rfl)
  simp only [this]
  rfl
theorem c_impl_from (a b c : Int) : Cm 38 [.int .i64 a, .int .i64 b, .int .i64 c] (.bool (decide (b ≤ a ∧ a ≤ c)), [.undef, .undef, .undef]) := by
  refine Cm.fin k_impl_from fun J => ?_
  rw [e_impl_from]
  by_cases h : b ≤ a
  · rw [br_le h, s_le]
    simp only [h, true_and]
  · simp (disch := omega) only [br_nle, h, false_and, decide_false]
theorem c_l1In (a b c : Int) : Cm 36 [.int .i64 a, .int .i64 b, .int .i64 c] (.bool (decide (b ≤ a ∧ a ≤ c)), [.undef, .undef, .undef]) := by
  refine Cm.fin k_spec_l1In fun J => ?_
  rw [e_spec_l1In]
  by_cases h : b ≤ a
  · rw [br_le h, s_le]
    simp only [h, true_and]
  · simp (disch := omega) only [br_nle, h, false_and, decide_false]
section
variable (t : Tel Rz)
theorem v_impl_Digits (a : Int) (ha : in64 a = true) : cvP 40 [.int .i64 a] t = feed t [.str (bs (digL a))] := cvP_eq (c_impl_Digits a ha) (by kernel_rfl) t
theorem v_spec_Digits (a : Int) (ha : in64 a = true) : cvP 37 [.int .i64 a] t = feed t [.str (bs (digL a))] := cvP_eq (c_spec_Digits a ha) (by kernel_rfl) t
theorem v_spaced (g : Bool) (ws : List (List UInt8)) (n : Nat) (hn : n = ws.length) (hl : (jn ws).length ≤ 140737488355328) (hn2 : ws.length ≤ 140737488355328) : cvP 39 [.sl (some g) 1 n (strs ws)] t = feed t [.str (bs (jn ws))] := by subst hn; exact cvP_eq (c_spaced g ws hl hn2) (by kernel_rfl) t
theorem v_impl_from (a b c : Int) : cvP 38 [.int .i64 a, .int .i64 b, .int .i64 c] t = feed t [.bool (decide (b ≤ a ∧ a ≤ c))] := cvP_eq (c_impl_from a b c) (by kernel_rfl) t
theorem v_l1In (a b c : Int) : cvP 36 [.int .i64 a, .int .i64 b, .int .i64 c] t = feed t [.bool (decide (b ≤ a ∧ a ≤ c))] := cvP_eq (c_l1In a b c) (by kernel_rfl) t
end
end Go.Proofs.Ytkejckoefjonjaa

namespace Go.Proofs.Ytkejckoefjonjaa
set_option maxRecDepth 100000
section
variable (pr : Prims) (cv : Cv Rz) (J : Nat → St → Option Rz)
def h_impl_NodeText_1 (g0 : Bool) (n1 : Nat) (c2 : List D) (i3 : Int) (i4 : Int) (n5 : Nat) (c6 : List D) : St := (St.mk [(3, (.ref 10003 [] 0 none)), (51, (.sl (some g0) 1 n1 c2)), (52, (.int .i64 i3)), (53, (.int .i64 i4))] [(10003, [(.sl none 1 n5 c6)])] [] 0)
theorem k_impl_NodeText : Told cfg Try.prog 17 Try.f17 := ⟨by kernel_rfl, Try.func17, by kernel_rfl⟩
theorem e_impl_NodeText (a0 : Int) (a1 : Bool) (a2 : Bool) (g3 : Bool) (n3 : Nat) (c3 : List D) (g4 : Bool) (n4 : Nat) (c4 : List D) (g5 : Bool) (n5 : Nat) (c5 : List D) (a6 : Bool) (a7 : Bool) (a8 : Bool) (a9 : Int) (g10 : Bool) (n10 : Nat) (c10 : List D) (g11 : Bool) (n11 : Nat) (c11 : List D) (g12 : Bool) (n12 : Nat) (c12 : List D) (g13 : Bool) (n13 : Nat) (c13 : List D) (g14 : Bool) (n14 : Nat) (c14 : List D) (g15 : Bool) (n15 : Nat) (c15 : List D) : RunJ pr cv J 17 Try.f17 [(.agg [(.int .i64 a0), (.bool a1), (.bool a2), (.sl (some g3) 1 n3 c3), (.sl (some g4) 1 n4 c4), (.sl (some g5) 1 n5 c5), (.bool a6), (.bool a7), (.bool a8), (.int .i64 a9), (.sl (some g10) 1 n10 c10), (.sl (some g11) 1 n11 c11), (.sl (some g12) 1 n12 c12), (.sl (some g13) 1 n13 c13), (.sl (some g14) 1 n14 c14), (.sl (some g15) 1 n15 c15)])] =
    let y1 : D := (.str (bs [112, 114, 105, 109, 101]))
    let y2 : D := (.str (bs [102, 105, 110, 101]))
    let y3 : Bool := (br (pr.flat [y2]) (pr.fits 3 16) false)
    let y4 : D := (.str (bs [111, 108, 100]))
    let y5 : Bool := (pr.flat [y4])
    let y6 : Bool := (br y5 (pr.fits 4 16) false)
    let y7 : D := (.str (bs [104, 101, 108, 100]))
    let y8 : Bool := (pr.flat [y7])
    let y9 : Bool := (br y8 (pr.fits 5 16) false)
    let y10 : Bool := (br y8 (pr.fits 4 16) false)
    let y11 : Bool := (br y5 (pr.fits 3 16) false)
    let y12 : Bool := (br y8 (pr.fits 3 16) false)
    let y13 : D := (.str (bs [117, 112]))
    let y14 : D := (.str (bs [100, 111, 119, 110]))
    (cv 40 [(.int .i64 a0)] (.str (fun vs0 => (.done (br a2 (br (br (pr.flat [y1]) (pr.fits 2 16) false) (br a6 (br y3 (br a7 (br y6 (br a8 (br y9 (cv 40 [(.int .i64 a9)] (.str (fun vs1 => (.done (br (br (pr.flat [(.str vs1), (.str (bs [97, 116]))]) (pr.fits 7 16) false) (J 1 (h_impl_NodeText_1 g3 n3 c3 (pr.ofN n3) 0 7 [(.str vs0), y1, y2, y4, y7, (.str vs1), (.str (bs [97, 116]))])) none))))) none) (cv 40 [(.int .i64 a9)] (.str (fun vs2 => (.done (br (br (pr.flat [(.str vs2), (.str (bs [97, 116]))]) (pr.fits 6 16) false) (J 1 (h_impl_NodeText_1 g3 n3 c3 (pr.ofN n3) 0 6 [(.str vs0), y1, y2, y4, (.str vs2), (.str (bs [97, 116]))])) none)))))) none) (br a8 (br y10 (cv 40 [(.int .i64 a9)] (.str (fun vs3 => (.done (br (br (pr.flat [(.str vs3), (.str (bs [97, 116]))]) (pr.fits 6 16) false) (J 1 (h_impl_NodeText_1 g3 n3 c3 (pr.ofN n3) 0 6 [(.str vs0), y1, y2, y7, (.str vs3), (.str (bs [97, 116]))])) none))))) none) (cv 40 [(.int .i64 a9)] (.str (fun vs4 => (.done (br (br (pr.flat [(.str vs4), (.str (bs [97, 116]))]) (pr.fits 5 16) false) (J 1 (h_impl_NodeText_1 g3 n3 c3 (pr.ofN n3) 0 5 [(.str vs0), y1, y2, (.str vs4), (.str (bs [97, 116]))])) none))))))) none) (br a7 (br y11 (br a8 (br y10 (cv 40 [(.int .i64 a9)] (.str (fun vs5 => (.done (br (br (pr.flat [(.str vs5), (.str (bs [97, 116]))]) (pr.fits 6 16) false) (J 1 (h_impl_NodeText_1 g3 n3 c3 (pr.ofN n3) 0 6 [(.str vs0), y1, y4, y7, (.str vs5), (.str (bs [97, 116]))])) none))))) none) (cv 40 [(.int .i64 a9)] (.str (fun vs6 => (.done (br (br (pr.flat [(.str vs6), (.str (bs [97, 116]))]) (pr.fits 5 16) false) (J 1 (h_impl_NodeText_1 g3 n3 c3 (pr.ofN n3) 0 5 [(.str vs0), y1, y4, (.str vs6), (.str (bs [97, 116]))])) none)))))) none) (br a8 (br y12 (cv 40 [(.int .i64 a9)] (.str (fun vs7 => (.done (br (br (pr.flat [(.str vs7), (.str (bs [97, 116]))]) (pr.fits 5 16) false) (J 1 (h_impl_NodeText_1 g3 n3 c3 (pr.ofN n3) 0 5 [(.str vs0), y1, y7, (.str vs7), (.str (bs [97, 116]))])) none))))) none) (cv 40 [(.int .i64 a9)] (.str (fun vs8 => (.done (br (br (pr.flat [(.str vs8), (.str (bs [97, 116]))]) (pr.fits 4 16) false) (J 1 (h_impl_NodeText_1 g3 n3 c3 (pr.ofN n3) 0 4 [(.str vs0), y1, (.str vs8), (.str (bs [97, 116]))])) none)))))))) none) (br a1 (br (br (pr.flat [y13]) (pr.fits 2 16) false) (br a6 (br y3 (br a7 (br y6 (br a8 (br y9 (cv 40 [(.int .i64 a9)] (.str (fun vs9 => (.done (br (br (pr.flat [(.str vs9), (.str (bs [97, 116]))]) (pr.fits 7 16) false) (J 1 (h_impl_NodeText_1 g3 n3 c3 (pr.ofN n3) 0 7 [(.str vs0), y13, y2, y4, y7, (.str vs9), (.str (bs [97, 116]))])) none))))) none) (cv 40 [(.int .i64 a9)] (.str (fun vs10 => (.done (br (br (pr.flat [(.str vs10), (.str (bs [97, 116]))]) (pr.fits 6 16) false) (J 1 (h_impl_NodeText_1 g3 n3 c3 (pr.ofN n3) 0 6 [(.str vs0), y13, y2, y4, (.str vs10), (.str (bs [97, 116]))])) none)))))) none) (br a8 (br y10 (cv 40 [(.int .i64 a9)] (.str (fun vs11 => (.done (br (br (pr.flat [(.str vs11), (.str (bs [97, 116]))]) (pr.fits 6 16) false) (J 1 (h_impl_NodeText_1 g3 n3 c3 (pr.ofN n3) 0 6 [(.str vs0), y13, y2, y7, (.str vs11), (.str (bs [97, 116]))])) none))))) none) (cv 40 [(.int .i64 a9)] (.str (fun vs12 => (.done (br (br (pr.flat [(.str vs12), (.str (bs [97, 116]))]) (pr.fits 5 16) false) (J 1 (h_impl_NodeText_1 g3 n3 c3 (pr.ofN n3) 0 5 [(.str vs0), y13, y2, (.str vs12), (.str (bs [97, 116]))])) none))))))) none) (br a7 (br y11 (br a8 (br y10 (cv 40 [(.int .i64 a9)] (.str (fun vs13 => (.done (br (br (pr.flat [(.str vs13), (.str (bs [97, 116]))]) (pr.fits 6 16) false) (J 1 (h_impl_NodeText_1 g3 n3 c3 (pr.ofN n3) 0 6 [(.str vs0), y13, y4, y7, (.str vs13), (.str (bs [97, 116]))])) none))))) none) (cv 40 [(.int .i64 a9)] (.str (fun vs14 => (.done (br (br (pr.flat [(.str vs14), (.str (bs [97, 116]))]) (pr.fits 5 16) false) (J 1 (h_impl_NodeText_1 g3 n3 c3 (pr.ofN n3) 0 5 [(.str vs0), y13, y4, (.str vs14), (.str (bs [97, 116]))])) none)))))) none) (br a8 (br y12 (cv 40 [(.int .i64 a9)] (.str (fun vs15 => (.done (br (br (pr.flat [(.str vs15), (.str (bs [97, 116]))]) (pr.fits 5 16) false) (J 1 (h_impl_NodeText_1 g3 n3 c3 (pr.ofN n3) 0 5 [(.str vs0), y13, y7, (.str vs15), (.str (bs [97, 116]))])) none))))) none) (cv 40 [(.int .i64 a9)] (.str (fun vs16 => (.done (br (br (pr.flat [(.str vs16), (.str (bs [97, 116]))]) (pr.fits 4 16) false) (J 1 (h_impl_NodeText_1 g3 n3 c3 (pr.ofN n3) 0 4 [(.str vs0), y13, (.str vs16), (.str (bs [97, 116]))])) none)))))))) none) (br (br (pr.flat [y14]) (pr.fits 2 16) false) (br a6 (br y3 (br a7 (br y6 (br a8 (br y9 (cv 40 [(.int .i64 a9)] (.str (fun vs17 => (.done (br (br (pr.flat [(.str vs17), (.str (bs [97, 116]))]) (pr.fits 7 16) false) (J 1 (h_impl_NodeText_1 g3 n3 c3 (pr.ofN n3) 0 7 [(.str vs0), y14, y2, y4, y7, (.str vs17), (.str (bs [97, 116]))])) none))))) none) (cv 40 [(.int .i64 a9)] (.str (fun vs18 => (.done (br (br (pr.flat [(.str vs18), (.str (bs [97, 116]))]) (pr.fits 6 16) false) (J 1 (h_impl_NodeText_1 g3 n3 c3 (pr.ofN n3) 0 6 [(.str vs0), y14, y2, y4, (.str vs18), (.str (bs [97, 116]))])) none)))))) none) (br a8 (br y10 (cv 40 [(.int .i64 a9)] (.str (fun vs19 => (.done (br (br (pr.flat [(.str vs19), (.str (bs [97, 116]))]) (pr.fits 6 16) false) (J 1 (h_impl_NodeText_1 g3 n3 c3 (pr.ofN n3) 0 6 [(.str vs0), y14, y2, y7, (.str vs19), (.str (bs [97, 116]))])) none))))) none) (cv 40 [(.int .i64 a9)] (.str (fun vs20 => (.done (br (br (pr.flat [(.str vs20), (.str (bs [97, 116]))]) (pr.fits 5 16) false) (J 1 (h_impl_NodeText_1 g3 n3 c3 (pr.ofN n3) 0 5 [(.str vs0), y14, y2, (.str vs20), (.str (bs [97, 116]))])) none))))))) none) (br a7 (br y11 (br a8 (br y10 (cv 40 [(.int .i64 a9)] (.str (fun vs21 => (.done (br (br (pr.flat [(.str vs21), (.str (bs [97, 116]))]) (pr.fits 6 16) false) (J 1 (h_impl_NodeText_1 g3 n3 c3 (pr.ofN n3) 0 6 [(.str vs0), y14, y4, y7, (.str vs21), (.str (bs [97, 116]))])) none))))) none) (cv 40 [(.int .i64 a9)] (.str (fun vs22 => (.done (br (br (pr.flat [(.str vs22), (.str (bs [97, 116]))]) (pr.fits 5 16) false) (J 1 (h_impl_NodeText_1 g3 n3 c3 (pr.ofN n3) 0 5 [(.str vs0), y14, y4, (.str vs22), (.str (bs [97, 116]))])) none)))))) none) (br a8 (br y12 (cv 40 [(.int .i64 a9)] (.str (fun vs23 => (.done (br (br (pr.flat [(.str vs23), (.str (bs [97, 116]))]) (pr.fits 5 16) false) (J 1 (h_impl_NodeText_1 g3 n3 c3 (pr.ofN n3) 0 5 [(.str vs0), y14, y7, (.str vs23), (.str (bs [97, 116]))])) none))))) none) (cv 40 [(.int .i64 a9)] (.str (fun vs24 => (.done (br (br (pr.flat [(.str vs24), (.str (bs [97, 116]))]) (pr.fits 4 16) false) (J 1 (h_impl_NodeText_1 g3 n3 c3 (pr.ofN n3) 0 4 [(.str vs0), y14, (.str vs24), (.str (bs [97, 116]))])) none)))))))) none))))))) := by kernel_rfl
theorem eh_impl_NodeText_1 (g0 : Bool) (n1 : Nat) (c2 : List D) (i3 : Int) (i4 : Int) (n5 : Nat) (c6 : List D) : HeadJ pr cv J 17 Try.f17 [.undef] 1 (h_impl_NodeText_1 g0 n1 c2 i3 i4 n5 c6) =
    (br (pr.lt i4 i3) (br (pr.inR i4 n1) (br (br (pr.isI .i64 c2 (pr.idx 0 i4 1)) true false) (cv 40 [(.int .i64 (pr.getI c2 (pr.idx 0 i4 1)))] (.str (fun vs0 => (.done (br (br (pr.flat [(.str vs0)]) (pr.fits (Nat.succ n5) 16) false) (J 1 (h_impl_NodeText_1 g0 n1 c2 i3 (pr.ar .add .i64 i4 1) (Nat.succ n5) (List.append c6 [(.str vs0)]))) none))))) none) none) (cv 39 [(.sl (some true) 1 n5 (exTL true c6))] (.str (fun vs1 => (.done (some ((.str vs1), [.undef]))))))) := by kernel_rfl
def h_spec_NodeText_1 (s0 : ByteArray) (i1 : Int) (i2 : Int) (b3 : Bool) (b4 : Bool) (g5 : Bool) (n6 : Nat) (c7 : List D) (g8 : Bool) (n9 : Nat) (c10 : List D) (g11 : Bool) (n12 : Nat) (c13 : List D) (b14 : Bool) (b15 : Bool) (b16 : Bool) (i17 : Int) (g18 : Bool) (n19 : Nat) (c20 : List D) (g21 : Bool) (n22 : Nat) (c23 : List D) (g24 : Bool) (n25 : Nat) (c26 : List D) (g27 : Bool) (n28 : Nat) (c29 : List D) (g30 : Bool) (n31 : Nat) (c32 : List D) (g33 : Bool) (n34 : Nat) (c35 : List D) : St := (St.mk [(1, (.ptr 1 [] 0)), (3, (.str s0)), (4, (.int .i64 i1))] [(1, [(.int .i64 i2), (.bool b3), (.bool b4), (.sl (some g5) 1 n6 c7), (.sl (some g8) 1 n9 c10), (.sl (some g11) 1 n12 c13), (.bool b14), (.bool b15), (.bool b16), (.int .i64 i17), (.sl (some g18) 1 n19 c20), (.sl (some g21) 1 n22 c23), (.sl (some g24) 1 n25 c26), (.sl (some g27) 1 n28 c29), (.sl (some g30) 1 n31 c32), (.sl (some g33) 1 n34 c35)])] [] 0)
theorem k_spec_NodeText : Told cfg Try.prog 15 Try.f15 := ⟨by kernel_rfl, Try.func15, by kernel_rfl⟩
theorem e_spec_NodeText (a0 : Int) (a1 : Bool) (a2 : Bool) (g3 : Bool) (n3 : Nat) (c3 : List D) (g4 : Bool) (n4 : Nat) (c4 : List D) (g5 : Bool) (n5 : Nat) (c5 : List D) (a6 : Bool) (a7 : Bool) (a8 : Bool) (a9 : Int) (g10 : Bool) (n10 : Nat) (c10 : List D) (g11 : Bool) (n11 : Nat) (c11 : List D) (g12 : Bool) (n12 : Nat) (c12 : List D) (g13 : Bool) (n13 : Nat) (c13 : List D) (g14 : Bool) (n14 : Nat) (c14 : List D) (g15 : Bool) (n15 : Nat) (c15 : List D) : RunJ pr cv J 15 Try.f15 [(.agg [(.int .i64 a0), (.bool a1), (.bool a2), (.sl (some g3) 1 n3 c3), (.sl (some g4) 1 n4 c4), (.sl (some g5) 1 n5 c5), (.bool a6), (.bool a7), (.bool a8), (.int .i64 a9), (.sl (some g10) 1 n10 c10), (.sl (some g11) 1 n11 c11), (.sl (some g12) 1 n12 c12), (.sl (some g13) 1 n13 c13), (.sl (some g14) 1 n14 c14), (.sl (some g15) 1 n15 c15)])] =
    let y1 : ByteArray := (bs [32, 112, 114, 105, 109, 101])
    let y2 : ByteArray := (bs [32, 102, 105, 110, 101])
    let y3 : ByteArray := (bs [32, 111, 108, 100])
    let y4 : ByteArray := (bs [32, 104, 101, 108, 100])
    let y5 : ByteArray := (bs [32])
    let y6 : ByteArray := (bs [32, 97, 116])
    let y7 : ByteArray := (bs [32, 117, 112])
    let y8 : ByteArray := (bs [32, 100, 111, 119, 110])
    (cv 37 [(.int .i64 a0)] (.str (fun vs0 => (.done (br a2 (br (pr.sfit vs0 y1) (br a6 (br (pr.sfit (pr.sapp vs0 y1) y2) (br a7 (br (pr.sfit (pr.sapp (pr.sapp vs0 y1) y2) y3) (br a8 (br (pr.sfit (pr.sapp (pr.sapp (pr.sapp vs0 y1) y2) y3) y4) (br (pr.sfit (pr.sapp (pr.sapp (pr.sapp (pr.sapp vs0 y1) y2) y3) y4) y5) (cv 37 [(.int .i64 a9)] (.str (fun vs1 => (.done (br (pr.sfit (pr.sapp (pr.sapp (pr.sapp (pr.sapp (pr.sapp vs0 y1) y2) y3) y4) y5) vs1) (br (pr.sfit (pr.sapp (pr.sapp (pr.sapp (pr.sapp (pr.sapp (pr.sapp vs0 y1) y2) y3) y4) y5) vs1) y6) (J 1 (h_spec_NodeText_1 (pr.sapp (pr.sapp (pr.sapp (pr.sapp (pr.sapp (pr.sapp (pr.sapp vs0 y1) y2) y3) y4) y5) vs1) y6) 0 a0 a1 a2 g3 n3 c3 g4 n4 c4 g5 n5 c5 a6 a7 a8 a9 g10 n10 c10 g11 n11 c11 g12 n12 c12 g13 n13 c13 g14 n14 c14 g15 n15 c15)) none) none))))) none) none) (br (pr.sfit (pr.sapp (pr.sapp (pr.sapp vs0 y1) y2) y3) y5) (cv 37 [(.int .i64 a9)] (.str (fun vs2 => (.done (br (pr.sfit (pr.sapp (pr.sapp (pr.sapp (pr.sapp vs0 y1) y2) y3) y5) vs2) (br (pr.sfit (pr.sapp (pr.sapp (pr.sapp (pr.sapp (pr.sapp vs0 y1) y2) y3) y5) vs2) y6) (J 1 (h_spec_NodeText_1 (pr.sapp (pr.sapp (pr.sapp (pr.sapp (pr.sapp (pr.sapp vs0 y1) y2) y3) y5) vs2) y6) 0 a0 a1 a2 g3 n3 c3 g4 n4 c4 g5 n5 c5 a6 a7 a8 a9 g10 n10 c10 g11 n11 c11 g12 n12 c12 g13 n13 c13 g14 n14 c14 g15 n15 c15)) none) none))))) none)) none) (br a8 (br (pr.sfit (pr.sapp (pr.sapp vs0 y1) y2) y4) (br (pr.sfit (pr.sapp (pr.sapp (pr.sapp vs0 y1) y2) y4) y5) (cv 37 [(.int .i64 a9)] (.str (fun vs3 => (.done (br (pr.sfit (pr.sapp (pr.sapp (pr.sapp (pr.sapp vs0 y1) y2) y4) y5) vs3) (br (pr.sfit (pr.sapp (pr.sapp (pr.sapp (pr.sapp (pr.sapp vs0 y1) y2) y4) y5) vs3) y6) (J 1 (h_spec_NodeText_1 (pr.sapp (pr.sapp (pr.sapp (pr.sapp (pr.sapp (pr.sapp vs0 y1) y2) y4) y5) vs3) y6) 0 a0 a1 a2 g3 n3 c3 g4 n4 c4 g5 n5 c5 a6 a7 a8 a9 g10 n10 c10 g11 n11 c11 g12 n12 c12 g13 n13 c13 g14 n14 c14 g15 n15 c15)) none) none))))) none) none) (br (pr.sfit (pr.sapp (pr.sapp vs0 y1) y2) y5) (cv 37 [(.int .i64 a9)] (.str (fun vs4 => (.done (br (pr.sfit (pr.sapp (pr.sapp (pr.sapp vs0 y1) y2) y5) vs4) (br (pr.sfit (pr.sapp (pr.sapp (pr.sapp (pr.sapp vs0 y1) y2) y5) vs4) y6) (J 1 (h_spec_NodeText_1 (pr.sapp (pr.sapp (pr.sapp (pr.sapp (pr.sapp vs0 y1) y2) y5) vs4) y6) 0 a0 a1 a2 g3 n3 c3 g4 n4 c4 g5 n5 c5 a6 a7 a8 a9 g10 n10 c10 g11 n11 c11 g12 n12 c12 g13 n13 c13 g14 n14 c14 g15 n15 c15)) none) none))))) none))) none) (br a7 (br (pr.sfit (pr.sapp vs0 y1) y3) (br a8 (br (pr.sfit (pr.sapp (pr.sapp vs0 y1) y3) y4) (br (pr.sfit (pr.sapp (pr.sapp (pr.sapp vs0 y1) y3) y4) y5) (cv 37 [(.int .i64 a9)] (.str (fun vs5 => (.done (br (pr.sfit (pr.sapp (pr.sapp (pr.sapp (pr.sapp vs0 y1) y3) y4) y5) vs5) (br (pr.sfit (pr.sapp (pr.sapp (pr.sapp (pr.sapp (pr.sapp vs0 y1) y3) y4) y5) vs5) y6) (J 1 (h_spec_NodeText_1 (pr.sapp (pr.sapp (pr.sapp (pr.sapp (pr.sapp (pr.sapp vs0 y1) y3) y4) y5) vs5) y6) 0 a0 a1 a2 g3 n3 c3 g4 n4 c4 g5 n5 c5 a6 a7 a8 a9 g10 n10 c10 g11 n11 c11 g12 n12 c12 g13 n13 c13 g14 n14 c14 g15 n15 c15)) none) none))))) none) none) (br (pr.sfit (pr.sapp (pr.sapp vs0 y1) y3) y5) (cv 37 [(.int .i64 a9)] (.str (fun vs6 => (.done (br (pr.sfit (pr.sapp (pr.sapp (pr.sapp vs0 y1) y3) y5) vs6) (br (pr.sfit (pr.sapp (pr.sapp (pr.sapp (pr.sapp vs0 y1) y3) y5) vs6) y6) (J 1 (h_spec_NodeText_1 (pr.sapp (pr.sapp (pr.sapp (pr.sapp (pr.sapp vs0 y1) y3) y5) vs6) y6) 0 a0 a1 a2 g3 n3 c3 g4 n4 c4 g5 n5 c5 a6 a7 a8 a9 g10 n10 c10 g11 n11 c11 g12 n12 c12 g13 n13 c13 g14 n14 c14 g15 n15 c15)) none) none))))) none)) none) (br a8 (br (pr.sfit (pr.sapp vs0 y1) y4) (br (pr.sfit (pr.sapp (pr.sapp vs0 y1) y4) y5) (cv 37 [(.int .i64 a9)] (.str (fun vs7 => (.done (br (pr.sfit (pr.sapp (pr.sapp (pr.sapp vs0 y1) y4) y5) vs7) (br (pr.sfit (pr.sapp (pr.sapp (pr.sapp (pr.sapp vs0 y1) y4) y5) vs7) y6) (J 1 (h_spec_NodeText_1 (pr.sapp (pr.sapp (pr.sapp (pr.sapp (pr.sapp vs0 y1) y4) y5) vs7) y6) 0 a0 a1 a2 g3 n3 c3 g4 n4 c4 g5 n5 c5 a6 a7 a8 a9 g10 n10 c10 g11 n11 c11 g12 n12 c12 g13 n13 c13 g14 n14 c14 g15 n15 c15)) none) none))))) none) none) (br (pr.sfit (pr.sapp vs0 y1) y5) (cv 37 [(.int .i64 a9)] (.str (fun vs8 => (.done (br (pr.sfit (pr.sapp (pr.sapp vs0 y1) y5) vs8) (br (pr.sfit (pr.sapp (pr.sapp (pr.sapp vs0 y1) y5) vs8) y6) (J 1 (h_spec_NodeText_1 (pr.sapp (pr.sapp (pr.sapp (pr.sapp vs0 y1) y5) vs8) y6) 0 a0 a1 a2 g3 n3 c3 g4 n4 c4 g5 n5 c5 a6 a7 a8 a9 g10 n10 c10 g11 n11 c11 g12 n12 c12 g13 n13 c13 g14 n14 c14 g15 n15 c15)) none) none))))) none)))) none) (br a1 (br (pr.sfit vs0 y7) (br a6 (br (pr.sfit (pr.sapp vs0 y7) y2) (br a7 (br (pr.sfit (pr.sapp (pr.sapp vs0 y7) y2) y3) (br a8 (br (pr.sfit (pr.sapp (pr.sapp (pr.sapp vs0 y7) y2) y3) y4) (br (pr.sfit (pr.sapp (pr.sapp (pr.sapp (pr.sapp vs0 y7) y2) y3) y4) y5) (cv 37 [(.int .i64 a9)] (.str (fun vs9 => (.done (br (pr.sfit (pr.sapp (pr.sapp (pr.sapp (pr.sapp (pr.sapp vs0 y7) y2) y3) y4) y5) vs9) (br (pr.sfit (pr.sapp (pr.sapp (pr.sapp (pr.sapp (pr.sapp (pr.sapp vs0 y7) y2) y3) y4) y5) vs9) y6) (J 1 (h_spec_NodeText_1 (pr.sapp (pr.sapp (pr.sapp (pr.sapp (pr.sapp (pr.sapp (pr.sapp vs0 y7) y2) y3) y4) y5) vs9) y6) 0 a0 a1 a2 g3 n3 c3 g4 n4 c4 g5 n5 c5 a6 a7 a8 a9 g10 n10 c10 g11 n11 c11 g12 n12 c12 g13 n13 c13 g14 n14 c14 g15 n15 c15)) none) none))))) none) none) (br (pr.sfit (pr.sapp (pr.sapp (pr.sapp vs0 y7) y2) y3) y5) (cv 37 [(.int .i64 a9)] (.str (fun vs10 => (.done (br (pr.sfit (pr.sapp (pr.sapp (pr.sapp (pr.sapp vs0 y7) y2) y3) y5) vs10) (br (pr.sfit (pr.sapp (pr.sapp (pr.sapp (pr.sapp (pr.sapp vs0 y7) y2) y3) y5) vs10) y6) (J 1 (h_spec_NodeText_1 (pr.sapp (pr.sapp (pr.sapp (pr.sapp (pr.sapp (pr.sapp vs0 y7) y2) y3) y5) vs10) y6) 0 a0 a1 a2 g3 n3 c3 g4 n4 c4 g5 n5 c5 a6 a7 a8 a9 g10 n10 c10 g11 n11 c11 g12 n12 c12 g13 n13 c13 g14 n14 c14 g15 n15 c15)) none) none))))) none)) none) (br a8 (br (pr.sfit (pr.sapp (pr.sapp vs0 y7) y2) y4) (br (pr.sfit (pr.sapp (pr.sapp (pr.sapp vs0 y7) y2) y4) y5) (cv 37 [(.int .i64 a9)] (.str (fun vs11 => (.done (br (pr.sfit (pr.sapp (pr.sapp (pr.sapp (pr.sapp vs0 y7) y2) y4) y5) vs11) (br (pr.sfit (pr.sapp (pr.sapp (pr.sapp (pr.sapp (pr.sapp vs0 y7) y2) y4) y5) vs11) y6) (J 1 (h_spec_NodeText_1 (pr.sapp (pr.sapp (pr.sapp (pr.sapp (pr.sapp (pr.sapp vs0 y7) y2) y4) y5) vs11) y6) 0 a0 a1 a2 g3 n3 c3 g4 n4 c4 g5 n5 c5 a6 a7 a8 a9 g10 n10 c10 g11 n11 c11 g12 n12 c12 g13 n13 c13 g14 n14 c14 g15 n15 c15)) none) none))))) none) none) (br (pr.sfit (pr.sapp (pr.sapp vs0 y7) y2) y5) (cv 37 [(.int .i64 a9)] (.str (fun vs12 => (.done (br (pr.sfit (pr.sapp (pr.sapp (pr.sapp vs0 y7) y2) y5) vs12) (br (pr.sfit (pr.sapp (pr.sapp (pr.sapp (pr.sapp vs0 y7) y2) y5) vs12) y6) (J 1 (h_spec_NodeText_1 (pr.sapp (pr.sapp (pr.sapp (pr.sapp (pr.sapp vs0 y7) y2) y5) vs12) y6) 0 a0 a1 a2 g3 n3 c3 g4 n4 c4 g5 n5 c5 a6 a7 a8 a9 g10 n10 c10 g11 n11 c11 g12 n12 c12 g13 n13 c13 g14 n14 c14 g15 n15 c15)) none) none))))) none))) none) (br a7 (br (pr.sfit (pr.sapp vs0 y7) y3) (br a8 (br (pr.sfit (pr.sapp (pr.sapp vs0 y7) y3) y4) (br (pr.sfit (pr.sapp (pr.sapp (pr.sapp vs0 y7) y3) y4) y5) (cv 37 [(.int .i64 a9)] (.str (fun vs13 => (.done (br (pr.sfit (pr.sapp (pr.sapp (pr.sapp (pr.sapp vs0 y7) y3) y4) y5) vs13) (br (pr.sfit (pr.sapp (pr.sapp (pr.sapp (pr.sapp (pr.sapp vs0 y7) y3) y4) y5) vs13) y6) (J 1 (h_spec_NodeText_1 (pr.sapp (pr.sapp (pr.sapp (pr.sapp (pr.sapp (pr.sapp vs0 y7) y3) y4) y5) vs13) y6) 0 a0 a1 a2 g3 n3 c3 g4 n4 c4 g5 n5 c5 a6 a7 a8 a9 g10 n10 c10 g11 n11 c11 g12 n12 c12 g13 n13 c13 g14 n14 c14 g15 n15 c15)) none) none))))) none) none) (br (pr.sfit (pr.sapp (pr.sapp vs0 y7) y3) y5) (cv 37 [(.int .i64 a9)] (.str (fun vs14 => (.done (br (pr.sfit (pr.sapp (pr.sapp (pr.sapp vs0 y7) y3) y5) vs14) (br (pr.sfit (pr.sapp (pr.sapp (pr.sapp (pr.sapp vs0 y7) y3) y5) vs14) y6) (J 1 (h_spec_NodeText_1 (pr.sapp (pr.sapp (pr.sapp (pr.sapp (pr.sapp vs0 y7) y3) y5) vs14) y6) 0 a0 a1 a2 g3 n3 c3 g4 n4 c4 g5 n5 c5 a6 a7 a8 a9 g10 n10 c10 g11 n11 c11 g12 n12 c12 g13 n13 c13 g14 n14 c14 g15 n15 c15)) none) none))))) none)) none) (br a8 (br (pr.sfit (pr.sapp vs0 y7) y4) (br (pr.sfit (pr.sapp (pr.sapp vs0 y7) y4) y5) (cv 37 [(.int .i64 a9)] (.str (fun vs15 => (.done (br (pr.sfit (pr.sapp (pr.sapp (pr.sapp vs0 y7) y4) y5) vs15) (br (pr.sfit (pr.sapp (pr.sapp (pr.sapp (pr.sapp vs0 y7) y4) y5) vs15) y6) (J 1 (h_spec_NodeText_1 (pr.sapp (pr.sapp (pr.sapp (pr.sapp (pr.sapp vs0 y7) y4) y5) vs15) y6) 0 a0 a1 a2 g3 n3 c3 g4 n4 c4 g5 n5 c5 a6 a7 a8 a9 g10 n10 c10 g11 n11 c11 g12 n12 c12 g13 n13 c13 g14 n14 c14 g15 n15 c15)) none) none))))) none) none) (br (pr.sfit (pr.sapp vs0 y7) y5) (cv 37 [(.int .i64 a9)] (.str (fun vs16 => (.done (br (pr.sfit (pr.sapp (pr.sapp vs0 y7) y5) vs16) (br (pr.sfit (pr.sapp (pr.sapp (pr.sapp vs0 y7) y5) vs16) y6) (J 1 (h_spec_NodeText_1 (pr.sapp (pr.sapp (pr.sapp (pr.sapp vs0 y7) y5) vs16) y6) 0 a0 a1 a2 g3 n3 c3 g4 n4 c4 g5 n5 c5 a6 a7 a8 a9 g10 n10 c10 g11 n11 c11 g12 n12 c12 g13 n13 c13 g14 n14 c14 g15 n15 c15)) none) none))))) none)))) none) (br (pr.sfit vs0 y8) (br a6 (br (pr.sfit (pr.sapp vs0 y8) y2) (br a7 (br (pr.sfit (pr.sapp (pr.sapp vs0 y8) y2) y3) (br a8 (br (pr.sfit (pr.sapp (pr.sapp (pr.sapp vs0 y8) y2) y3) y4) (br (pr.sfit (pr.sapp (pr.sapp (pr.sapp (pr.sapp vs0 y8) y2) y3) y4) y5) (cv 37 [(.int .i64 a9)] (.str (fun vs17 => (.done (br (pr.sfit (pr.sapp (pr.sapp (pr.sapp (pr.sapp (pr.sapp vs0 y8) y2) y3) y4) y5) vs17) (br (pr.sfit (pr.sapp (pr.sapp (pr.sapp (pr.sapp (pr.sapp (pr.sapp vs0 y8) y2) y3) y4) y5) vs17) y6) (J 1 (h_spec_NodeText_1 (pr.sapp (pr.sapp (pr.sapp (pr.sapp (pr.sapp (pr.sapp (pr.sapp vs0 y8) y2) y3) y4) y5) vs17) y6) 0 a0 a1 a2 g3 n3 c3 g4 n4 c4 g5 n5 c5 a6 a7 a8 a9 g10 n10 c10 g11 n11 c11 g12 n12 c12 g13 n13 c13 g14 n14 c14 g15 n15 c15)) none) none))))) none) none) (br (pr.sfit (pr.sapp (pr.sapp (pr.sapp vs0 y8) y2) y3) y5) (cv 37 [(.int .i64 a9)] (.str (fun vs18 => (.done (br (pr.sfit (pr.sapp (pr.sapp (pr.sapp (pr.sapp vs0 y8) y2) y3) y5) vs18) (br (pr.sfit (pr.sapp (pr.sapp (pr.sapp (pr.sapp (pr.sapp vs0 y8) y2) y3) y5) vs18) y6) (J 1 (h_spec_NodeText_1 (pr.sapp (pr.sapp (pr.sapp (pr.sapp (pr.sapp (pr.sapp vs0 y8) y2) y3) y5) vs18) y6) 0 a0 a1 a2 g3 n3 c3 g4 n4 c4 g5 n5 c5 a6 a7 a8 a9 g10 n10 c10 g11 n11 c11 g12 n12 c12 g13 n13 c13 g14 n14 c14 g15 n15 c15)) none) none))))) none)) none) (br a8 (br (pr.sfit (pr.sapp (pr.sapp vs0 y8) y2) y4) (br (pr.sfit (pr.sapp (pr.sapp (pr.sapp vs0 y8) y2) y4) y5) (cv 37 [(.int .i64 a9)] (.str (fun vs19 => (.done (br (pr.sfit (pr.sapp (pr.sapp (pr.sapp (pr.sapp vs0 y8) y2) y4) y5) vs19) (br (pr.sfit (pr.sapp (pr.sapp (pr.sapp (pr.sapp (pr.sapp vs0 y8) y2) y4) y5) vs19) y6) (J 1 (h_spec_NodeText_1 (pr.sapp (pr.sapp (pr.sapp (pr.sapp (pr.sapp (pr.sapp vs0 y8) y2) y4) y5) vs19) y6) 0 a0 a1 a2 g3 n3 c3 g4 n4 c4 g5 n5 c5 a6 a7 a8 a9 g10 n10 c10 g11 n11 c11 g12 n12 c12 g13 n13 c13 g14 n14 c14 g15 n15 c15)) none) none))))) none) none) (br (pr.sfit (pr.sapp (pr.sapp vs0 y8) y2) y5) (cv 37 [(.int .i64 a9)] (.str (fun vs20 => (.done (br (pr.sfit (pr.sapp (pr.sapp (pr.sapp vs0 y8) y2) y5) vs20) (br (pr.sfit (pr.sapp (pr.sapp (pr.sapp (pr.sapp vs0 y8) y2) y5) vs20) y6) (J 1 (h_spec_NodeText_1 (pr.sapp (pr.sapp (pr.sapp (pr.sapp (pr.sapp vs0 y8) y2) y5) vs20) y6) 0 a0 a1 a2 g3 n3 c3 g4 n4 c4 g5 n5 c5 a6 a7 a8 a9 g10 n10 c10 g11 n11 c11 g12 n12 c12 g13 n13 c13 g14 n14 c14 g15 n15 c15)) none) none))))) none))) none) (br a7 (br (pr.sfit (pr.sapp vs0 y8) y3) (br a8 (br (pr.sfit (pr.sapp (pr.sapp vs0 y8) y3) y4) (br (pr.sfit (pr.sapp (pr.sapp (pr.sapp vs0 y8) y3) y4) y5) (cv 37 [(.int .i64 a9)] (.str (fun vs21 => (.done (br (pr.sfit (pr.sapp (pr.sapp (pr.sapp (pr.sapp vs0 y8) y3) y4) y5) vs21) (br (pr.sfit (pr.sapp (pr.sapp (pr.sapp (pr.sapp (pr.sapp vs0 y8) y3) y4) y5) vs21) y6) (J 1 (h_spec_NodeText_1 (pr.sapp (pr.sapp (pr.sapp (pr.sapp (pr.sapp (pr.sapp vs0 y8) y3) y4) y5) vs21) y6) 0 a0 a1 a2 g3 n3 c3 g4 n4 c4 g5 n5 c5 a6 a7 a8 a9 g10 n10 c10 g11 n11 c11 g12 n12 c12 g13 n13 c13 g14 n14 c14 g15 n15 c15)) none) none))))) none) none) (br (pr.sfit (pr.sapp (pr.sapp vs0 y8) y3) y5) (cv 37 [(.int .i64 a9)] (.str (fun vs22 => (.done (br (pr.sfit (pr.sapp (pr.sapp (pr.sapp vs0 y8) y3) y5) vs22) (br (pr.sfit (pr.sapp (pr.sapp (pr.sapp (pr.sapp vs0 y8) y3) y5) vs22) y6) (J 1 (h_spec_NodeText_1 (pr.sapp (pr.sapp (pr.sapp (pr.sapp (pr.sapp vs0 y8) y3) y5) vs22) y6) 0 a0 a1 a2 g3 n3 c3 g4 n4 c4 g5 n5 c5 a6 a7 a8 a9 g10 n10 c10 g11 n11 c11 g12 n12 c12 g13 n13 c13 g14 n14 c14 g15 n15 c15)) none) none))))) none)) none) (br a8 (br (pr.sfit (pr.sapp vs0 y8) y4) (br (pr.sfit (pr.sapp (pr.sapp vs0 y8) y4) y5) (cv 37 [(.int .i64 a9)] (.str (fun vs23 => (.done (br (pr.sfit (pr.sapp (pr.sapp (pr.sapp vs0 y8) y4) y5) vs23) (br (pr.sfit (pr.sapp (pr.sapp (pr.sapp (pr.sapp vs0 y8) y4) y5) vs23) y6) (J 1 (h_spec_NodeText_1 (pr.sapp (pr.sapp (pr.sapp (pr.sapp (pr.sapp vs0 y8) y4) y5) vs23) y6) 0 a0 a1 a2 g3 n3 c3 g4 n4 c4 g5 n5 c5 a6 a7 a8 a9 g10 n10 c10 g11 n11 c11 g12 n12 c12 g13 n13 c13 g14 n14 c14 g15 n15 c15)) none) none))))) none) none) (br (pr.sfit (pr.sapp vs0 y8) y5) (cv 37 [(.int .i64 a9)] (.str (fun vs24 => (.done (br (pr.sfit (pr.sapp (pr.sapp vs0 y8) y5) vs24) (br (pr.sfit (pr.sapp (pr.sapp (pr.sapp vs0 y8) y5) vs24) y6) (J 1 (h_spec_NodeText_1 (pr.sapp (pr.sapp (pr.sapp (pr.sapp vs0 y8) y5) vs24) y6) 0 a0 a1 a2 g3 n3 c3 g4 n4 c4 g5 n5 c5 a6 a7 a8 a9 g10 n10 c10 g11 n11 c11 g12 n12 c12 g13 n13 c13 g14 n14 c14 g15 n15 c15)) none) none))))) none)))) none))))))) := by kernel_rfl
theorem eh_spec_NodeText_1 (s0 : ByteArray) (i1 : Int) (i2 : Int) (b3 : Bool) (b4 : Bool) (g5 : Bool) (n6 : Nat) (c7 : List D) (g8 : Bool) (n9 : Nat) (c10 : List D) (g11 : Bool) (n12 : Nat) (c13 : List D) (b14 : Bool) (b15 : Bool) (b16 : Bool) (i17 : Int) (g18 : Bool) (n19 : Nat) (c20 : List D) (g21 : Bool) (n22 : Nat) (c23 : List D) (g24 : Bool) (n25 : Nat) (c26 : List D) (g27 : Bool) (n28 : Nat) (c29 : List D) (g30 : Bool) (n31 : Nat) (c32 : List D) (g33 : Bool) (n34 : Nat) (c35 : List D) : HeadJ pr cv J 15 Try.f15 [.undef] 1 (h_spec_NodeText_1 s0 i1 i2 b3 b4 g5 n6 c7 g8 n9 c10 g11 n12 c13 b14 b15 b16 i17 g18 n19 c20 g21 n22 c23 g24 n25 c26 g27 n28 c29 g30 n31 c32 g33 n34 c35) =
    let y1 : ByteArray := (bs [32])
    let y2 : ByteArray := (pr.sapp s0 y1)
    (br (pr.lt i1 (pr.ofN n6)) (br (pr.sfit s0 y1) (br (pr.inR i1 n6) (br (br (pr.isI .i64 c7 (pr.idx 0 i1 1)) true false) (cv 37 [(.int .i64 (pr.getI c7 (pr.idx 0 i1 1)))] (.str (fun vs0 => (.done (br (pr.sfit y2 vs0) (J 1 (h_spec_NodeText_1 (pr.sapp y2 vs0) (pr.ar .add .i64 i1 1) i2 b3 b4 g5 n6 c7 g8 n9 c10 g11 n12 c13 b14 b15 b16 i17 g18 n19 c20 g21 n22 c23 g24 n25 c26 g27 n28 c29 g30 n31 c32 g33 n34 c35)) none))))) none) none) none) (some ((.str s0), [.undef]))) := by kernel_rfl
end

def In64 (xs : List Int) : Prop := ∀ x ∈ xs, in64 x = true
def nodeW (n : MNode) : List (List UInt8) :=
  digL n.id :: (if n.prime then [112, 114, 105, 109, 101] else if n.up then [117, 112] else [100, 111, 119, 110]) ::
    ((if n.mt.fine then [[102, 105, 110, 101]] else []) ++ ((if n.mt.old then [[111, 108, 100]] else []) ++ ((if n.mt.held then [[104, 101, 108, 100]] else []) ++ [digL n.mt.last, [97, 116]])))
theorem nodeW_len (n : MNode) : 2 ≤ (nodeW n).length ∧ (nodeW n).length ≤ 7 := by
  unfold nodeW
  cases n.mt.fine <;> cases n.mt.old <;> cases n.mt.held <;> simp
theorem nodeW_small {n : MNode} (h1 : in64 n.id = true) (h2 : in64 n.mt.last = true) : ∀ w ∈ nodeW n, w.length ≤ 21 := by
  have k1 := digL_len h1
  have k2 := digL_len h2
  unfold nodeW
  cases n.mt.fine <;> cases n.mt.old <;> cases n.mt.held <;> cases n.prime <;> cases n.up <;> simp <;> omega
theorem jn_len (B : Nat) : ∀ ws : List (List UInt8), (∀ w ∈ ws, w.length ≤ B) → (jn ws).length ≤ ws.length * (B + 1)
  | [], _ => by simp [jn, Lib.join]
  | w :: ws, h => by
    have h1 := h w (by simp)
    have : ∀ l : List (List UInt8), (∀ x ∈ l, x.length ≤ B) → (Lib.joinTail [32] l).length ≤ l.length * (B + 1) := by
      intro l
      induction l with
      | nil => intro _; simp [Lib.joinTail]
      | cons x l ih =>
        intro hl
        have h2 := ih (fun y hy => hl y (by simp [hy]))
        have h3 := hl x (by simp)
        have e : Lib.joinTail [32] (x :: l) = 32 :: (x ++ Lib.joinTail [32] l) := by simp [Lib.joinTail]
        rw [e, List.length_cons, List.length_append, List.length_cons, Nat.succ_mul]
        omega
    have h2 := this ws (fun y hy => h y (by simp [hy]))
    have e : jn (w :: ws) = w ++ Lib.joinTail [32] ws := by simp only [jn, Lib.join_cons]
    rw [e, List.length_append, List.length_cons, Nat.succ_mul]
    omega
def nodeT (n : MNode) : List (List UInt8) := nodeW n ++ n.image.map digL
theorem nodeT_small {n : MNode} (h1 : in64 n.id = true) (h2 : in64 n.mt.last = true) (h3 : In64 n.image) : ∀ w ∈ nodeT n, w.length ≤ 21 := by
  intro w hw
  rcases List.mem_append.1 hw with hw | hw
  · exact nodeW_small h1 h2 w hw
  · obtain ⟨x, hx, rfl⟩ := List.mem_map.1 hw
    exact digL_len (h3 x hx)
theorem exTL_strs (b : Bool) : ∀ ws : List (List UInt8), exTL b (strs ws) = strs ws
  | [] => rfl
  | w :: ws => by
    have ih := exTL_strs b ws
    simp only [strs] at ih
    simp only [strs, List.map_cons, exTL, exT, ih]
theorem br_flatS {R : Type} {x y : R} {ws : List (List UInt8)} : br (std.flat (strs ws)) x y = x := by
  have : std.flat (strs ws) = true := by simp [std, strs, flatC]
  rw [this]; rfl
theorem flatS1 {R : Type} {x y : R} (w : List UInt8) : br (std.flat [.str (bs w)]) x y = x := br_flatS (ws := [w])
theorem flatS2 {R : Type} {x y : R} (v w : List UInt8) : br (std.flat [.str (bs v), .str (bs w)]) x y = x := br_flatS (ws := [v, w])
theorem take_map_succ {α β : Type} (f : α → β) {xs : List α} {i : Nat} (h : i < xs.length) : (xs.take (i + 1)).map f = (xs.take i).map f ++ [f xs[i]] := by
  rw [← List.take_append_getElem h, List.map_append]
  rfl
theorem strs_app (a b : List (List UInt8)) : strs a ++ strs b = strs (a ++ b) := by simp [strs]
theorem c_impl_NodeText (g : Bool) (n : MNode) (ok : OkNode n) (h1 : in64 n.id = true) (h2 : in64 n.mt.last = true) (h3 : In64 n.image) : Cm 17 [.agg (eNode (some g) n)] (.str (bs (jn (nodeT n))), [.undef]) := by
  have hw := nodeW_len n
  have hi := ok.image
  have hsm := nodeT_small h1 h2 h3
  have hjl := jn_len 21 (nodeT n) hsm
  have htl : (nodeT n).length = (nodeW n).length + n.image.length := by simp [nodeT]
  refine Cm.go k_impl_NodeText [.undef] 1 (h_impl_NodeText_1 g n.image.length (ints n.image) n.image.length (0 : Nat) (nodeW n).length (strs (nodeW n))) ?_ fun J hJ => ?_
  · have e0 : h_impl_NodeText_1 g n.image.length (ints n.image) n.image.length (0 : Nat) (nodeW n).length (strs (nodeW n)) = (fun i : Nat => h_impl_NodeText_1 g n.image.length (ints n.image) n.image.length (i : Nat) ((nodeW n).length + i) (strs (nodeW n ++ (n.image.take i).map digL))) 0 := by simp
    rw [e0]
    refine WP.loop (H := fun i : Nat => h_impl_NodeText_1 g n.image.length (ints n.image) n.image.length (i : Nat) ((nodeW n).length + i) (strs (nodeW n ++ (n.image.take i).map digL))) (n := n.image.length) (fun _ => True) (fun i hi _ ih => WP.go _ (ih trivial) fun J hJ => ?_) (fun _ => WP.fin fun J => ?_) 0 (Nat.zero_le _) trivial
    · rw [eh_impl_NodeText_1]
      have hx := h3 _ (List.getElem_mem hi)
      simp (disch := first | omega | assumption) only [br_lt, br_inR, idx1, br_tf, br_isI, s_getI, v_impl_Digits, feed_str, feed_done, flatS1, br_fits, s_inc, Nat.succ_eq_add_one, br_and]
      rw [take_map_succ digL hi, ← List.append_assoc, ← strs_app] at hJ
      exact hJ
    · rw [eh_impl_NodeText_1]
      rw [List.take_length]
      have e : nodeW n ++ n.image.map digL = nodeT n := rfl
      simp (disch := first | omega | (rw [htl]; done) | (rw [htl] at hjl; omega)) only [br_nlt, exTL_strs, e, v_spaced, feed_str, feed_done]
  · rw [e_impl_NodeText]
    obtain ⟨id, up, prime, image, ⟨gens, bits, fine, old, held, last⟩, slots, conn, sync, copies, wait⟩ := n
    simp only at h1 h2 hJ
    cases prime <;> cases up <;> cases fine <;> cases old <;> cases held <;>
      (simp (disch := first | omega | assumption) only [v_impl_Digits, feed_str, feed_done, br_t, br_f, flatS1, flatS2, br_fits, br_and]; exact hJ)
theorem c_spec_NodeText (g : Bool) (n : MNode) (ok : OkNode n) (h1 : in64 n.id = true) (h2 : in64 n.mt.last = true) (h3 : In64 n.image) : Cm 15 [.agg (eNode (some g) n)] (.str (bs (jn (nodeT n))), [.undef]) := by
  have hw := nodeW_len n
  have hi := ok.image
  have hH : ∀ i, (jn (nodeW n ++ (n.image.take i).map digL)).length ≤ 23068826 := by
    intro i
    have := jn_len 21 (nodeW n ++ (n.image.take i).map digL) (fun w hw => nodeT_small h1 h2 h3 w (by
      rcases List.mem_append.1 hw with hw | hw
      · exact List.mem_append.2 (.inl hw)
      · obtain ⟨x, hx, rfl⟩ := List.mem_map.1 hw
        exact List.mem_append.2 (.inr (List.mem_map.2 ⟨x, List.mem_of_mem_take hx, rfl⟩))))
    have hl : (nodeW n ++ (n.image.take i).map digL).length ≤ 7 + 1048576 := by simp; omega
    omega
  refine Cm.go k_spec_NodeText [.undef] 1 (h_spec_NodeText_1 (bs (jn (nodeW n))) (0 : Nat) n.id n.up n.prime g n.image.length (ints n.image) g n.mt.gens.length (ints n.mt.gens) g n.mt.bits.length (rows (some g) n.mt.bits) n.mt.fine n.mt.old n.mt.held n.mt.last g n.slots.a.length (bytes n.slots.a) g n.slots.b.length (bytes n.slots.b) g n.conn.length (bools n.conn) g n.sync.length (rows (some g) n.sync) g n.copies.length (bools n.copies) g n.wait.length (ints n.wait)) ?_ fun J hJ => ?_
  · have e0 : bs (jn (nodeW n)) = bs (jn (nodeW n ++ (n.image.take 0).map digL)) := by simp
    rw [e0]
    refine WP.loop (H := fun i : Nat => h_spec_NodeText_1 (bs (jn (nodeW n ++ (n.image.take i).map digL))) (i : Nat) n.id n.up n.prime g n.image.length (ints n.image) g n.mt.gens.length (ints n.mt.gens) g n.mt.bits.length (rows (some g) n.mt.bits) n.mt.fine n.mt.old n.mt.held n.mt.last g n.slots.a.length (bytes n.slots.a) g n.slots.b.length (bytes n.slots.b) g n.conn.length (bools n.conn) g n.sync.length (rows (some g) n.sync) g n.copies.length (bools n.copies) g n.wait.length (ints n.wait)) (n := n.image.length) (fun _ => True) (fun i hi _ ih => WP.go _ (ih trivial) fun J hJ => ?_) (fun _ => WP.fin fun J => ?_) 0 (Nat.zero_le _) trivial
    · rw [eh_spec_NodeText_1]
      have hx := h3 _ (List.getElem_mem hi)
      have hd := digL_len hx
      have hi1 := hH i
      simp (disch := first | omega | assumption | (simp only [List.length_append, List.length_cons, List.length_nil]; omega)) only [br_t, s_ofN, br_lt, br_inR, idx1, br_tf, br_isI, s_getI, v_spec_Digits, feed_str, feed_done, br_sfit, s_app, s_inc]
      have hne : nodeW n ++ (n.image.take i).map digL ≠ [] := by
        intro e
        have := (List.append_eq_nil_iff.1 e).1
        rw [this] at hw
        simp at hw
      rw [take_map_succ digL hi, ← List.append_assoc, jn_snoc _ _ hne] at hJ
      rw [List.append_assoc]
      exact hJ
    · rw [eh_spec_NodeText_1]
      rw [List.take_length]
      simp (disch := omega) only [s_ofN, br_nlt]
      rfl
  · rw [e_spec_NodeText]
    obtain ⟨id, up, prime, image, ⟨gens, bits, fine, old, held, last⟩, slots, conn, sync, copies, wait⟩ := n
    simp only at h1 h2 hJ
    have d1 := digL_len h1
    have d2 := digL_len h2
    cases prime <;> cases up <;> cases fine <;> cases old <;> cases held <;>
      (simp (disch := first | omega | assumption | (simp; omega)) only [v_spec_Digits, feed_str, feed_done, br_t, br_f, br_sfit, s_app]
       simp only [nodeW, if_true, if_false, Bool.false_eq_true, jn, Lib.join_cons, Lib.joinTail, List.nil_append, List.cons_append, List.map_cons, List.map_nil, List.flatten_cons, List.flatten_nil, List.append_nil, List.append_assoc] at hJ ⊢
       exact hJ)
section
variable (t : Tel Rz)
theorem v_toNode (g : Bool) (n : MNode) (h : OkNode n) : cvP 16 [.agg (eNode (some g) n)] t = feed t (eNode none n) := cvP_eq (c_toNode g n h) (by kernel_rfl) t
theorem v_eqNode (g h : Bool) (n : MNode) (ok : OkNode n) : cvP 18 [.agg (eNode (some g) n), .agg (eNode (some h) n)] t = feed t [.bool true] := cvP_eq (c_eqNode g h n ok) (by kernel_rfl) t
theorem v_szNode (g : Bool) (n : MNode) (left : Int) (h0 : 0 ≤ left) (h1 : left ≤ 1048576) (ln : LnNode n) : cvP 14 [.agg (eNode (some g) n), .int .i64 left] t = feed t [.int .i64 (szNodeF n left)] := cvP_eq (c_szNode g n left h0 h1 ln) (by kernel_rfl) t
theorem v_impl_NodeText (g : Bool) (n : MNode) (ok : OkNode n) (h1 : in64 n.id = true) (h2 : in64 n.mt.last = true) (h3 : In64 n.image) : cvP 17 [.agg (eNode (some g) n)] t = feed t [.str (bs (jn (nodeT n)))] := cvP_eq (c_impl_NodeText g n ok h1 h2 h3) (by kernel_rfl) t
theorem v_spec_NodeText (g : Bool) (n : MNode) (ok : OkNode n) (h1 : in64 n.id = true) (h2 : in64 n.mt.last = true) (h3 : In64 n.image) : cvP 15 [.agg (eNode (some g) n)] t = feed t [.str (bs (jn (nodeT n)))] := cvP_eq (c_spec_NodeText g n ok h1 h2 h3) (by kernel_rfl) t
end
end Go.Proofs.Ytkejckoefjonjaa

namespace Go.Proofs.Ytkejckoefjonjaa
set_option maxRecDepth 100000

theorem wf_in64 {n : Int} (h : (Lit.int .i64 n).wf = true) : in64 n = true := by
  simp [Lit.wf, IntKind.min, IntKind.max, IntKind.bits, IntKind.signed] at h
  rw [in64_iff]
  omega
abbrev shI : Sh := .sl 8 (.int .i64)
abbrev sh8 : Sh := .sl 1 (.int .u8)
abbrev shB : Sh := .sl 1 .bool
abbrev shR : Sh := .sl 24 (.sl 8 (.int .i64))
abbrev shMeta : Sh := .ag [shI, shR, .bool, .bool, .bool, .int .i64]
abbrev shSlots : Sh := .ag [sh8, sh8]
abbrev shNode : Sh := .ag [.int .i64, .bool, .bool, shI, shMeta, shSlots, shB, shR, shB, shI]
theorem wt_I {ds : List D} (h : WT shI ds) : ∃ xs, ds = [sI (some false) xs] ∧ xs.length ≤ 17592186044416 ∧ In64 xs := by
  obtain ⟨es, rfl, he, hx⟩ := h
  have key : ∀ es : List (List D), (∀ x ∈ es, WT (.int .i64) x) → ∃ xs, es.flatten = ints xs ∧ xs.length = es.length ∧ In64 xs := by
    intro es
    induction es with
    | nil => intro _; exact ⟨[], rfl, rfl, by simp [In64]⟩
    | cons e es ih =>
      intro h
      obtain ⟨n, rfl, hn⟩ := h e (by simp)
      obtain ⟨xs, h1, h2, h3⟩ := ih (fun x hx => h x (by simp [hx]))
      refine ⟨n :: xs, by rw [List.flatten_cons, h1]; rfl, by simp [h2], fun x hx => ?_⟩
      rcases List.mem_cons.1 hx with rfl | hx
      · exact wf_in64 hn
      · exact h3 x hx
  obtain ⟨xs, h1, h2, h3⟩ := key es hx
  refine ⟨xs, by rw [h1, ← h2]; rfl, ?_, h3⟩
  have : reachBytes = 140737488351232 := rfl
  omega
theorem wt_8 {ds : List D} (h : WT sh8 ds) : ∃ xs, ds = [s8 (some false) xs] ∧ xs.length ≤ 140737488351232 := by
  obtain ⟨es, rfl, he, hx⟩ := h
  have key : ∀ es : List (List D), (∀ x ∈ es, WT (.int .u8) x) → ∃ xs, es.flatten = bytes xs ∧ xs.length = es.length := by
    intro es
    induction es with
    | nil => intro _; exact ⟨[], rfl, rfl⟩
    | cons e es ih =>
      intro h
      obtain ⟨n, rfl, hn⟩ := h e (by simp)
      obtain ⟨xs, h1, h2⟩ := ih (fun x hx => h x (by simp [hx]))
      simp [Lit.wf, IntKind.min, IntKind.max, IntKind.bits, IntKind.signed] at hn
      refine ⟨UInt8.ofNat n.toNat :: xs, ?_, by simp [h2]⟩
      rw [List.flatten_cons, h1]
      have : ((UInt8.ofNat n.toNat).toNat : Int) = n := by simp only [UInt8.toNat_ofNat']; omega
      simp only [bytes, List.map_cons, byteD, this]
      rfl
  obtain ⟨xs, h1, h2⟩ := key es hx
  refine ⟨xs, by rw [h1, ← h2]; rfl, ?_⟩
  have : reachBytes = 140737488351232 := rfl
  omega
theorem wt_B {ds : List D} (h : WT shB ds) : ∃ xs, ds = [sB (some false) xs] ∧ xs.length ≤ 140737488351232 := by
  obtain ⟨es, rfl, he, hx⟩ := h
  have key : ∀ es : List (List D), (∀ x ∈ es, WT .bool x) → ∃ xs, es.flatten = bools xs ∧ xs.length = es.length := by
    intro es
    induction es with
    | nil => intro _; exact ⟨[], rfl, rfl⟩
    | cons e es ih =>
      intro h
      obtain ⟨n, rfl⟩ := h e (by simp)
      obtain ⟨xs, h1, h2⟩ := ih (fun x hx => h x (by simp [hx]))
      exact ⟨n :: xs, by rw [List.flatten_cons, h1]; rfl, by simp [h2]⟩
  obtain ⟨xs, h1, h2⟩ := key es hx
  refine ⟨xs, by rw [h1, ← h2]; rfl, ?_⟩
  have : reachBytes = 140737488351232 := rfl
  omega
theorem wt_R {ds : List D} (h : WT shR ds) : ∃ xs, ds = [sR (some false) xs] ∧ xs.length ≤ 140737488355328 ∧ (∀ x ∈ xs, x.length ≤ 140737488355328) ∧ ∀ x ∈ xs, In64 x := by
  obtain ⟨es, rfl, he, hx⟩ := h
  have key : ∀ es : List (List D), (∀ x ∈ es, WT shI x) → ∃ xs, es.flatten = rows (some false) xs ∧ xs.length = es.length ∧ (∀ x ∈ xs, x.length ≤ 140737488355328) ∧ ∀ x ∈ xs, In64 x := by
    intro es
    induction es with
    | nil => intro _; exact ⟨[], rfl, rfl, by simp, by simp⟩
    | cons e es ih =>
      intro h
      obtain ⟨n, rfl, hn, h4⟩ := wt_I (h e (by simp))
      obtain ⟨xs, h1, h2, h3, h5⟩ := ih (fun x hx => h x (by simp [hx]))
      refine ⟨n :: xs, by rw [List.flatten_cons, h1]; rfl, by simp [h2], fun x hx => ?_, fun x hx => ?_⟩
      · rcases List.mem_cons.1 hx with rfl | hx
        · omega
        · exact h3 x hx
      · rcases List.mem_cons.1 hx with rfl | hx
        · exact h4
        · exact h5 x hx
  obtain ⟨xs, h1, h2, h3, h4⟩ := key es hx
  refine ⟨xs, by rw [h1, ← h2]; rfl, ?_, h3, h4⟩
  have : reachBytes = 140737488351232 := rfl
  omega
structure InNode (n : MNode) : Prop where
  id : in64 n.id = true
  last : in64 n.mt.last = true
  image : In64 n.image
  gens : In64 n.mt.gens
  bits : ∀ x ∈ n.mt.bits, In64 x
  sync : ∀ x ∈ n.sync, In64 x
  wait : In64 n.wait
theorem wt_node {ds : List D} (h : WT shNode ds) : ∃ n : MNode, ds = eNode (some false) n ∧ LnNode n ∧ InNode n := by
  obtain ⟨_, _, rfl, ⟨id, rfl, hid⟩, _, _, rfl, ⟨up, rfl⟩, _, _, rfl, ⟨prime, rfl⟩, _, _, rfl, himg, _, _, rfl, hmt, _, _, rfl, hsl, _, _, rfl, hconn, _, _, rfl, hsync, _, _, rfl, hcop, _, _, rfl, hwait, rfl⟩ := h
  obtain ⟨image, rfl, l1, i1⟩ := wt_I himg
  obtain ⟨_, _, rfl, hg, _, _, rfl, hb, _, _, rfl, ⟨fine, rfl⟩, _, _, rfl, ⟨old, rfl⟩, _, _, rfl, ⟨held, rfl⟩, _, _, rfl, ⟨last, rfl, hlast⟩, rfl⟩ := hmt
  obtain ⟨gens, rfl, l2, i2⟩ := wt_I hg
  obtain ⟨bits, rfl, l3, l3', i3⟩ := wt_R hb
  obtain ⟨_, _, rfl, ha, _, _, rfl, hb', rfl⟩ := hsl
  obtain ⟨a, rfl, l4⟩ := wt_8 ha
  obtain ⟨b, rfl, l5⟩ := wt_8 hb'
  obtain ⟨conn, rfl, l6⟩ := wt_B hconn
  obtain ⟨sync, rfl, l7, l7', i7⟩ := wt_R hsync
  obtain ⟨copies, rfl, l8⟩ := wt_B hcop
  obtain ⟨wait, rfl, l9, i9⟩ := wt_I hwait
  refine ⟨⟨id, up, prime, image, ⟨gens, bits, fine, old, held, last⟩, ⟨a, b⟩, conn, sync, copies, wait⟩, rfl, ⟨?_, ⟨?_, l3, l3'⟩, ?_, ?_, ?_, l7, l7', ?_, ?_⟩, ⟨wf_in64 hid, wf_in64 hlast, i1, i2, i3, i7, i9⟩⟩ <;> simp only <;> omega
theorem exTL_ints (b : Bool) : ∀ xs : List Int, exTL b (ints xs) = ints xs
  | [] => rfl
  | x :: xs => by
    have ih := exTL_ints b xs
    simp only [ints] at ih
    simp only [ints, List.map_cons, exTL, exT, ih]
theorem exTL_bytes (b : Bool) : ∀ xs : List UInt8, exTL b (bytes xs) = bytes xs
  | [] => rfl
  | x :: xs => by
    have ih := exTL_bytes b xs
    simp only [bytes] at ih
    simp only [bytes, List.map_cons, exTL, byteD, exT, ih]
theorem exTL_bools (b : Bool) : ∀ xs : List Bool, exTL b (bools xs) = bools xs
  | [] => rfl
  | x :: xs => by
    have ih := exTL_bools b xs
    simp only [bools] at ih
    simp only [bools, List.map_cons, exTL, exT, ih]
theorem exTL_rows (b : Bool) : ∀ xs : List (List Int), exTL b (rows none xs) = rows (some b) xs
  | [] => rfl
  | x :: xs => by
    have ih := exTL_rows b xs
    simp only [rows] at ih
    simp only [rows, List.map_cons, exTL, exT, ih, exTL_ints]
theorem s_seq_self (s : ByteArray) : std.seq s s = true := by simp [std]
end Go.Proofs.Ytkejckoefjonjaa

namespace Go.Proofs.Ytkejckoefjonjaa
set_option maxRecDepth 100000
section
variable (pr : Prims) (cv : Cv Rz) (J : Nat → St → Option Rz)
def h_laws_szNodeS_0 (g0 : Bool) (n1 : Nat) (c2 : List D) (i3 : Int) (i4 : Int) : St := (St.mk [(0, (.sl (some g0) 16 n1 c2)), (1, (.int .i64 i3)), (5, (.int .i64 i4))] [] [] 0)
theorem k_laws_szNodeS : Told cfg Try.prog 53 Try.f53 := ⟨by kernel_rfl, Try.func53, by kernel_rfl⟩
theorem e_laws_szNodeS (g0 : Bool) (n0 : Nat) (c0 : List D) (a1 : Int) : RunJ pr cv J 53 Try.f53 [(.sl (some g0) 16 n0 c0), (.int .i64 a1)] =
    (br (pr.lt (pr.ar .sub .i64 a1 (pr.ofN n0)) 0) (some ((.int .i64 (-1)), [.undef, .undef])) (J 0 (h_laws_szNodeS_0 g0 n0 c0 (pr.ar .sub .i64 a1 (pr.ofN n0)) 0))) := by kernel_rfl
theorem eh_laws_szNodeS_0 (g0 : Bool) (n1 : Nat) (c2 : List D) (i3 : Int) (i4 : Int) : HeadJ pr cv J 53 Try.f53 [.undef, .undef] 0 (h_laws_szNodeS_0 g0 n1 c2 i3 i4) =
    (br (pr.lt i4 (pr.ofN n1)) (br (pr.inR i4 n1) (br (br (pr.isI .i64 c2 (pr.idx 0 i4 16)) (br (pr.isB c2 ((pr.idx 0 i4 16) + 1)) (br (pr.isB c2 ((pr.idx 0 i4 16) + 2)) (br (pr.isL 1 c2 ((pr.idx 0 i4 16) + 3)) (br (pr.isL 1 c2 ((pr.idx 0 i4 16) + 4)) (br (pr.isL 1 c2 ((pr.idx 0 i4 16) + 5)) (br (pr.isB c2 ((pr.idx 0 i4 16) + 6)) (br (pr.isB c2 ((pr.idx 0 i4 16) + 7)) (br (pr.isB c2 ((pr.idx 0 i4 16) + 8)) (br (pr.isI .i64 c2 ((pr.idx 0 i4 16) + 9)) (br (pr.isL 1 c2 ((pr.idx 0 i4 16) + 10)) (br (pr.isL 1 c2 ((pr.idx 0 i4 16) + 11)) (br (pr.isL 1 c2 ((pr.idx 0 i4 16) + 12)) (br (pr.isL 1 c2 ((pr.idx 0 i4 16) + 13)) (br (pr.isL 1 c2 ((pr.idx 0 i4 16) + 14)) (br (pr.isL 1 c2 ((pr.idx 0 i4 16) + 15)) true false) false) false) false) false) false) false) false) false) false) false) false) false) false) false) false) (cv 14 [(.agg [(.int .i64 (pr.getI c2 (pr.idx 0 i4 16))), (.bool (pr.getB c2 ((pr.idx 0 i4 16) + 1))), (.bool (pr.getB c2 ((pr.idx 0 i4 16) + 2))), (.sl (some (pr.getG c2 ((pr.idx 0 i4 16) + 3))) 1 (pr.getN c2 ((pr.idx 0 i4 16) + 3)) (pr.getC c2 ((pr.idx 0 i4 16) + 3))), (.sl (some (pr.getG c2 ((pr.idx 0 i4 16) + 4))) 1 (pr.getN c2 ((pr.idx 0 i4 16) + 4)) (pr.getC c2 ((pr.idx 0 i4 16) + 4))), (.sl (some (pr.getG c2 ((pr.idx 0 i4 16) + 5))) 1 (pr.getN c2 ((pr.idx 0 i4 16) + 5)) (pr.getC c2 ((pr.idx 0 i4 16) + 5))), (.bool (pr.getB c2 ((pr.idx 0 i4 16) + 6))), (.bool (pr.getB c2 ((pr.idx 0 i4 16) + 7))), (.bool (pr.getB c2 ((pr.idx 0 i4 16) + 8))), (.int .i64 (pr.getI c2 ((pr.idx 0 i4 16) + 9))), (.sl (some (pr.getG c2 ((pr.idx 0 i4 16) + 10))) 1 (pr.getN c2 ((pr.idx 0 i4 16) + 10)) (pr.getC c2 ((pr.idx 0 i4 16) + 10))), (.sl (some (pr.getG c2 ((pr.idx 0 i4 16) + 11))) 1 (pr.getN c2 ((pr.idx 0 i4 16) + 11)) (pr.getC c2 ((pr.idx 0 i4 16) + 11))), (.sl (some (pr.getG c2 ((pr.idx 0 i4 16) + 12))) 1 (pr.getN c2 ((pr.idx 0 i4 16) + 12)) (pr.getC c2 ((pr.idx 0 i4 16) + 12))), (.sl (some (pr.getG c2 ((pr.idx 0 i4 16) + 13))) 1 (pr.getN c2 ((pr.idx 0 i4 16) + 13)) (pr.getC c2 ((pr.idx 0 i4 16) + 13))), (.sl (some (pr.getG c2 ((pr.idx 0 i4 16) + 14))) 1 (pr.getN c2 ((pr.idx 0 i4 16) + 14)) (pr.getC c2 ((pr.idx 0 i4 16) + 14))), (.sl (some (pr.getG c2 ((pr.idx 0 i4 16) + 15))) 1 (pr.getN c2 ((pr.idx 0 i4 16) + 15)) (pr.getC c2 ((pr.idx 0 i4 16) + 15)))]), (.int .i64 i3)] (.int (fun vx0 => (.done (br (pr.lt vx0 0) (some ((.int .i64 (-1)), [.undef, .undef])) (J 0 (h_laws_szNodeS_0 g0 n1 c2 vx0 (pr.ar .add .i64 i4 1)))))))) none) none) (some ((.int .i64 i3), [.undef, .undef]))) := by kernel_rfl
def h_laws_toNodeS_0 (g0 : Bool) (n1 : Nat) (c2 : List D) (i3 : Int) (n4 : Nat) (c5 : List D) : St := (St.mk [(0, (.sl (some g0) 16 n1 c2)), (3, (.ref 10003 [] 0 none)), (4, (.int .i64 i3))] [(10003, [(.sl none 16 n4 c5)])] [] 0)
theorem k_laws_toNodeS : Told cfg Try.prog 56 Try.f56 := ⟨by kernel_rfl, Try.func56, by kernel_rfl⟩
theorem e_laws_toNodeS (g0 : Bool) (n0 : Nat) (c0 : List D) : RunJ pr cv J 56 Try.f56 [(.sl (some g0) 16 n0 c0)] =
    (br (pr.mkok (pr.ofN n0) (pr.ofN n0) 248) (J 0 (h_laws_toNodeS_0 g0 n0 c0 0 (pr.toN (pr.ofN n0)) (reps (pr.toN (pr.ofN n0)) [(.int .i64 0), (.bool false), (.bool false), (.nil 1), (.nil 1), (.nil 1), (.bool false), (.bool false), (.bool false), (.int .i64 0), (.nil 1), (.nil 1), (.nil 1), (.nil 1), (.nil 1), (.nil 1)]))) none) := by kernel_rfl
theorem eh_laws_toNodeS_0 (g0 : Bool) (n1 : Nat) (c2 : List D) (i3 : Int) (n4 : Nat) (c5 : List D) : HeadJ pr cv J 56 Try.f56 [.undef] 0 (h_laws_toNodeS_0 g0 n1 c2 i3 n4 c5) =
    (br (pr.lt i3 (pr.ofN n1)) (br (pr.inR i3 n1) (br (br (pr.isI .i64 c2 (pr.idx 0 i3 16)) (br (pr.isB c2 ((pr.idx 0 i3 16) + 1)) (br (pr.isB c2 ((pr.idx 0 i3 16) + 2)) (br (pr.isL 1 c2 ((pr.idx 0 i3 16) + 3)) (br (pr.isL 1 c2 ((pr.idx 0 i3 16) + 4)) (br (pr.isL 1 c2 ((pr.idx 0 i3 16) + 5)) (br (pr.isB c2 ((pr.idx 0 i3 16) + 6)) (br (pr.isB c2 ((pr.idx 0 i3 16) + 7)) (br (pr.isB c2 ((pr.idx 0 i3 16) + 8)) (br (pr.isI .i64 c2 ((pr.idx 0 i3 16) + 9)) (br (pr.isL 1 c2 ((pr.idx 0 i3 16) + 10)) (br (pr.isL 1 c2 ((pr.idx 0 i3 16) + 11)) (br (pr.isL 1 c2 ((pr.idx 0 i3 16) + 12)) (br (pr.isL 1 c2 ((pr.idx 0 i3 16) + 13)) (br (pr.isL 1 c2 ((pr.idx 0 i3 16) + 14)) (br (pr.isL 1 c2 ((pr.idx 0 i3 16) + 15)) true false) false) false) false) false) false) false) false) false) false) false) false) false) false) false) false) (cv 16 [(.agg [(.int .i64 (pr.getI c2 (pr.idx 0 i3 16))), (.bool (pr.getB c2 ((pr.idx 0 i3 16) + 1))), (.bool (pr.getB c2 ((pr.idx 0 i3 16) + 2))), (.sl (some (pr.getG c2 ((pr.idx 0 i3 16) + 3))) 1 (pr.getN c2 ((pr.idx 0 i3 16) + 3)) (pr.getC c2 ((pr.idx 0 i3 16) + 3))), (.sl (some (pr.getG c2 ((pr.idx 0 i3 16) + 4))) 1 (pr.getN c2 ((pr.idx 0 i3 16) + 4)) (pr.getC c2 ((pr.idx 0 i3 16) + 4))), (.sl (some (pr.getG c2 ((pr.idx 0 i3 16) + 5))) 1 (pr.getN c2 ((pr.idx 0 i3 16) + 5)) (pr.getC c2 ((pr.idx 0 i3 16) + 5))), (.bool (pr.getB c2 ((pr.idx 0 i3 16) + 6))), (.bool (pr.getB c2 ((pr.idx 0 i3 16) + 7))), (.bool (pr.getB c2 ((pr.idx 0 i3 16) + 8))), (.int .i64 (pr.getI c2 ((pr.idx 0 i3 16) + 9))), (.sl (some (pr.getG c2 ((pr.idx 0 i3 16) + 10))) 1 (pr.getN c2 ((pr.idx 0 i3 16) + 10)) (pr.getC c2 ((pr.idx 0 i3 16) + 10))), (.sl (some (pr.getG c2 ((pr.idx 0 i3 16) + 11))) 1 (pr.getN c2 ((pr.idx 0 i3 16) + 11)) (pr.getC c2 ((pr.idx 0 i3 16) + 11))), (.sl (some (pr.getG c2 ((pr.idx 0 i3 16) + 12))) 1 (pr.getN c2 ((pr.idx 0 i3 16) + 12)) (pr.getC c2 ((pr.idx 0 i3 16) + 12))), (.sl (some (pr.getG c2 ((pr.idx 0 i3 16) + 13))) 1 (pr.getN c2 ((pr.idx 0 i3 16) + 13)) (pr.getC c2 ((pr.idx 0 i3 16) + 13))), (.sl (some (pr.getG c2 ((pr.idx 0 i3 16) + 14))) 1 (pr.getN c2 ((pr.idx 0 i3 16) + 14)) (pr.getC c2 ((pr.idx 0 i3 16) + 14))), (.sl (some (pr.getG c2 ((pr.idx 0 i3 16) + 15))) 1 (pr.getN c2 ((pr.idx 0 i3 16) + 15)) (pr.getC c2 ((pr.idx 0 i3 16) + 15)))])] (.int (fun vx0 => (.bool (fun vb1 => (.bool (fun vb2 => (.sl (fun vn3 => (fun vc4 => (.sl (fun vn5 => (fun vc6 => (.sl (fun vn7 => (fun vc8 => (.bool (fun vb9 => (.bool (fun vb10 => (.bool (fun vb11 => (.int (fun vx12 => (.sl (fun vn13 => (fun vc14 => (.sl (fun vn15 => (fun vc16 => (.sl (fun vn17 => (fun vc18 => (.sl (fun vn19 => (fun vc20 => (.sl (fun vn21 => (fun vc22 => (.sl (fun vn23 => (fun vc24 => (.done (br (br (br (pr.nl vc4) (br (pr.nl vc6) (br (pr.nl vc8) (br (pr.nl vc14) (br (pr.nl vc16) (br (pr.nl vc18) (br (pr.nl vc20) (br (pr.nl vc22) (br (pr.nl vc24) true false) false) false) false) false) false) false) false) false) true false) (br (pr.inR i3 n4) (br (br (pr.ne c5) (br (pr.slot c5 (pr.idx 0 i3 16)) (br (pr.slot (List.set c5 (pr.idx 0 i3 16) (.int .i64 vx0)) ((pr.idx 0 i3 16) + 1)) (br (pr.slot (List.set (List.set c5 (pr.idx 0 i3 16) (.int .i64 vx0)) ((pr.idx 0 i3 16) + 1) (.bool vb1)) ((pr.idx 0 i3 16) + 2)) (br (pr.isOS 1 (List.set (List.set (List.set c5 (pr.idx 0 i3 16) (.int .i64 vx0)) ((pr.idx 0 i3 16) + 1) (.bool vb1)) ((pr.idx 0 i3 16) + 2) (.bool vb2)) ((pr.idx 0 i3 16) + 3)) (br (pr.isOS 1 (List.set (List.set (List.set (List.set c5 (pr.idx 0 i3 16) (.int .i64 vx0)) ((pr.idx 0 i3 16) + 1) (.bool vb1)) ((pr.idx 0 i3 16) + 2) (.bool vb2)) ((pr.idx 0 i3 16) + 3) (.sl none 1 vn3 vc4)) ((pr.idx 0 i3 16) + 4)) (br (pr.isOS 1 (List.set (List.set (List.set (List.set (List.set c5 (pr.idx 0 i3 16) (.int .i64 vx0)) ((pr.idx 0 i3 16) + 1) (.bool vb1)) ((pr.idx 0 i3 16) + 2) (.bool vb2)) ((pr.idx 0 i3 16) + 3) (.sl none 1 vn3 vc4)) ((pr.idx 0 i3 16) + 4) (.sl none 1 vn5 vc6)) ((pr.idx 0 i3 16) + 5)) (br (pr.slot (List.set (List.set (List.set (List.set (List.set (List.set c5 (pr.idx 0 i3 16) (.int .i64 vx0)) ((pr.idx 0 i3 16) + 1) (.bool vb1)) ((pr.idx 0 i3 16) + 2) (.bool vb2)) ((pr.idx 0 i3 16) + 3) (.sl none 1 vn3 vc4)) ((pr.idx 0 i3 16) + 4) (.sl none 1 vn5 vc6)) ((pr.idx 0 i3 16) + 5) (.sl none 1 vn7 vc8)) ((pr.idx 0 i3 16) + 6)) (br (pr.slot (List.set (List.set (List.set (List.set (List.set (List.set (List.set c5 (pr.idx 0 i3 16) (.int .i64 vx0)) ((pr.idx 0 i3 16) + 1) (.bool vb1)) ((pr.idx 0 i3 16) + 2) (.bool vb2)) ((pr.idx 0 i3 16) + 3) (.sl none 1 vn3 vc4)) ((pr.idx 0 i3 16) + 4) (.sl none 1 vn5 vc6)) ((pr.idx 0 i3 16) + 5) (.sl none 1 vn7 vc8)) ((pr.idx 0 i3 16) + 6) (.bool vb9)) ((pr.idx 0 i3 16) + 7)) (br (pr.slot (List.set (List.set (List.set (List.set (List.set (List.set (List.set (List.set c5 (pr.idx 0 i3 16) (.int .i64 vx0)) ((pr.idx 0 i3 16) + 1) (.bool vb1)) ((pr.idx 0 i3 16) + 2) (.bool vb2)) ((pr.idx 0 i3 16) + 3) (.sl none 1 vn3 vc4)) ((pr.idx 0 i3 16) + 4) (.sl none 1 vn5 vc6)) ((pr.idx 0 i3 16) + 5) (.sl none 1 vn7 vc8)) ((pr.idx 0 i3 16) + 6) (.bool vb9)) ((pr.idx 0 i3 16) + 7) (.bool vb10)) ((pr.idx 0 i3 16) + 8)) (br (pr.slot (List.set (List.set (List.set (List.set (List.set (List.set (List.set (List.set (List.set c5 (pr.idx 0 i3 16) (.int .i64 vx0)) ((pr.idx 0 i3 16) + 1) (.bool vb1)) ((pr.idx 0 i3 16) + 2) (.bool vb2)) ((pr.idx 0 i3 16) + 3) (.sl none 1 vn3 vc4)) ((pr.idx 0 i3 16) + 4) (.sl none 1 vn5 vc6)) ((pr.idx 0 i3 16) + 5) (.sl none 1 vn7 vc8)) ((pr.idx 0 i3 16) + 6) (.bool vb9)) ((pr.idx 0 i3 16) + 7) (.bool vb10)) ((pr.idx 0 i3 16) + 8) (.bool vb11)) ((pr.idx 0 i3 16) + 9)) (br (pr.isOS 1 (List.set (List.set (List.set (List.set (List.set (List.set (List.set (List.set (List.set (List.set c5 (pr.idx 0 i3 16) (.int .i64 vx0)) ((pr.idx 0 i3 16) + 1) (.bool vb1)) ((pr.idx 0 i3 16) + 2) (.bool vb2)) ((pr.idx 0 i3 16) + 3) (.sl none 1 vn3 vc4)) ((pr.idx 0 i3 16) + 4) (.sl none 1 vn5 vc6)) ((pr.idx 0 i3 16) + 5) (.sl none 1 vn7 vc8)) ((pr.idx 0 i3 16) + 6) (.bool vb9)) ((pr.idx 0 i3 16) + 7) (.bool vb10)) ((pr.idx 0 i3 16) + 8) (.bool vb11)) ((pr.idx 0 i3 16) + 9) (.int .i64 vx12)) ((pr.idx 0 i3 16) + 10)) (br (pr.isOS 1 (List.set (List.set (List.set (List.set (List.set (List.set (List.set (List.set (List.set (List.set (List.set c5 (pr.idx 0 i3 16) (.int .i64 vx0)) ((pr.idx 0 i3 16) + 1) (.bool vb1)) ((pr.idx 0 i3 16) + 2) (.bool vb2)) ((pr.idx 0 i3 16) + 3) (.sl none 1 vn3 vc4)) ((pr.idx 0 i3 16) + 4) (.sl none 1 vn5 vc6)) ((pr.idx 0 i3 16) + 5) (.sl none 1 vn7 vc8)) ((pr.idx 0 i3 16) + 6) (.bool vb9)) ((pr.idx 0 i3 16) + 7) (.bool vb10)) ((pr.idx 0 i3 16) + 8) (.bool vb11)) ((pr.idx 0 i3 16) + 9) (.int .i64 vx12)) ((pr.idx 0 i3 16) + 10) (.sl none 1 vn13 vc14)) ((pr.idx 0 i3 16) + 11)) (br (pr.isOS 1 (List.set (List.set (List.set (List.set (List.set (List.set (List.set (List.set (List.set (List.set (List.set (List.set c5 (pr.idx 0 i3 16) (.int .i64 vx0)) ((pr.idx 0 i3 16) + 1) (.bool vb1)) ((pr.idx 0 i3 16) + 2) (.bool vb2)) ((pr.idx 0 i3 16) + 3) (.sl none 1 vn3 vc4)) ((pr.idx 0 i3 16) + 4) (.sl none 1 vn5 vc6)) ((pr.idx 0 i3 16) + 5) (.sl none 1 vn7 vc8)) ((pr.idx 0 i3 16) + 6) (.bool vb9)) ((pr.idx 0 i3 16) + 7) (.bool vb10)) ((pr.idx 0 i3 16) + 8) (.bool vb11)) ((pr.idx 0 i3 16) + 9) (.int .i64 vx12)) ((pr.idx 0 i3 16) + 10) (.sl none 1 vn13 vc14)) ((pr.idx 0 i3 16) + 11) (.sl none 1 vn15 vc16)) ((pr.idx 0 i3 16) + 12)) (br (pr.isOS 1 (List.set (List.set (List.set (List.set (List.set (List.set (List.set (List.set (List.set (List.set (List.set (List.set (List.set c5 (pr.idx 0 i3 16) (.int .i64 vx0)) ((pr.idx 0 i3 16) + 1) (.bool vb1)) ((pr.idx 0 i3 16) + 2) (.bool vb2)) ((pr.idx 0 i3 16) + 3) (.sl none 1 vn3 vc4)) ((pr.idx 0 i3 16) + 4) (.sl none 1 vn5 vc6)) ((pr.idx 0 i3 16) + 5) (.sl none 1 vn7 vc8)) ((pr.idx 0 i3 16) + 6) (.bool vb9)) ((pr.idx 0 i3 16) + 7) (.bool vb10)) ((pr.idx 0 i3 16) + 8) (.bool vb11)) ((pr.idx 0 i3 16) + 9) (.int .i64 vx12)) ((pr.idx 0 i3 16) + 10) (.sl none 1 vn13 vc14)) ((pr.idx 0 i3 16) + 11) (.sl none 1 vn15 vc16)) ((pr.idx 0 i3 16) + 12) (.sl none 1 vn17 vc18)) ((pr.idx 0 i3 16) + 13)) (br (pr.isOS 1 (List.set (List.set (List.set (List.set (List.set (List.set (List.set (List.set (List.set (List.set (List.set (List.set (List.set (List.set c5 (pr.idx 0 i3 16) (.int .i64 vx0)) ((pr.idx 0 i3 16) + 1) (.bool vb1)) ((pr.idx 0 i3 16) + 2) (.bool vb2)) ((pr.idx 0 i3 16) + 3) (.sl none 1 vn3 vc4)) ((pr.idx 0 i3 16) + 4) (.sl none 1 vn5 vc6)) ((pr.idx 0 i3 16) + 5) (.sl none 1 vn7 vc8)) ((pr.idx 0 i3 16) + 6) (.bool vb9)) ((pr.idx 0 i3 16) + 7) (.bool vb10)) ((pr.idx 0 i3 16) + 8) (.bool vb11)) ((pr.idx 0 i3 16) + 9) (.int .i64 vx12)) ((pr.idx 0 i3 16) + 10) (.sl none 1 vn13 vc14)) ((pr.idx 0 i3 16) + 11) (.sl none 1 vn15 vc16)) ((pr.idx 0 i3 16) + 12) (.sl none 1 vn17 vc18)) ((pr.idx 0 i3 16) + 13) (.sl none 1 vn19 vc20)) ((pr.idx 0 i3 16) + 14)) (br (pr.isOS 1 (List.set (List.set (List.set (List.set (List.set (List.set (List.set (List.set (List.set (List.set (List.set (List.set (List.set (List.set (List.set c5 (pr.idx 0 i3 16) (.int .i64 vx0)) ((pr.idx 0 i3 16) + 1) (.bool vb1)) ((pr.idx 0 i3 16) + 2) (.bool vb2)) ((pr.idx 0 i3 16) + 3) (.sl none 1 vn3 vc4)) ((pr.idx 0 i3 16) + 4) (.sl none 1 vn5 vc6)) ((pr.idx 0 i3 16) + 5) (.sl none 1 vn7 vc8)) ((pr.idx 0 i3 16) + 6) (.bool vb9)) ((pr.idx 0 i3 16) + 7) (.bool vb10)) ((pr.idx 0 i3 16) + 8) (.bool vb11)) ((pr.idx 0 i3 16) + 9) (.int .i64 vx12)) ((pr.idx 0 i3 16) + 10) (.sl none 1 vn13 vc14)) ((pr.idx 0 i3 16) + 11) (.sl none 1 vn15 vc16)) ((pr.idx 0 i3 16) + 12) (.sl none 1 vn17 vc18)) ((pr.idx 0 i3 16) + 13) (.sl none 1 vn19 vc20)) ((pr.idx 0 i3 16) + 14) (.sl none 1 vn21 vc22)) ((pr.idx 0 i3 16) + 15)) true false) false) false) false) false) false) false) false) false) false) false) false) false) false) false) false) false) (cv 999999 [(.sl none 0 0 (List.set (List.set (List.set (List.set (List.set (List.set (List.set (List.set (List.set (List.set (List.set (List.set (List.set (List.set (List.set (List.set c5 (pr.idx 0 i3 16) (.int .i64 vx0)) ((pr.idx 0 i3 16) + 1) (.bool vb1)) ((pr.idx 0 i3 16) + 2) (.bool vb2)) ((pr.idx 0 i3 16) + 3) (.sl none 1 vn3 vc4)) ((pr.idx 0 i3 16) + 4) (.sl none 1 vn5 vc6)) ((pr.idx 0 i3 16) + 5) (.sl none 1 vn7 vc8)) ((pr.idx 0 i3 16) + 6) (.bool vb9)) ((pr.idx 0 i3 16) + 7) (.bool vb10)) ((pr.idx 0 i3 16) + 8) (.bool vb11)) ((pr.idx 0 i3 16) + 9) (.int .i64 vx12)) ((pr.idx 0 i3 16) + 10) (.sl none 1 vn13 vc14)) ((pr.idx 0 i3 16) + 11) (.sl none 1 vn15 vc16)) ((pr.idx 0 i3 16) + 12) (.sl none 1 vn17 vc18)) ((pr.idx 0 i3 16) + 13) (.sl none 1 vn19 vc20)) ((pr.idx 0 i3 16) + 14) (.sl none 1 vn21 vc22)) ((pr.idx 0 i3 16) + 15) (.sl none 1 vn23 vc24)))] (.sl (fun vn25 => (fun vc26 => (.done (J 0 (h_laws_toNodeS_0 g0 n1 c2 (pr.ar .add .i64 i3 1) n4 vc26))))))) none) none) none)))))))))))))))))))))))))))))))))))))))))))) none) none) (some ((.sl none 16 n4 c5), [.undef]))) := by kernel_rfl
def h_laws_eqNodeS_0 (g0 : Bool) (n1 : Nat) (c2 : List D) (g3 : Bool) (n4 : Nat) (c5 : List D) (i6 : Int) : St := (St.mk [(0, (.sl (some g0) 16 n1 c2)), (1, (.sl (some g3) 16 n4 c5)), (5, (.int .i64 i6))] [] [] 0)
theorem k_laws_eqNodeS : Told cfg Try.prog 60 Try.f60 := ⟨by kernel_rfl, Try.func60, by kernel_rfl⟩
theorem e_laws_eqNodeS (g0 : Bool) (n0 : Nat) (c0 : List D) (g1 : Bool) (n1 : Nat) (c1 : List D) : RunJ pr cv J 60 Try.f60 [(.sl (some g0) 16 n0 c0), (.sl (some g1) 16 n1 c1)] =
    (br (br (pr.eq (pr.ofN n0) (pr.ofN n1)) false true) (some ((.bool false), [.undef, .undef])) (J 0 (h_laws_eqNodeS_0 g0 n0 c0 g1 n1 c1 0))) := by kernel_rfl
theorem eh_laws_eqNodeS_0 (g0 : Bool) (n1 : Nat) (c2 : List D) (g3 : Bool) (n4 : Nat) (c5 : List D) (i6 : Int) : HeadJ pr cv J 60 Try.f60 [.undef, .undef] 0 (h_laws_eqNodeS_0 g0 n1 c2 g3 n4 c5 i6) =
    (br (pr.lt i6 (pr.ofN n1)) (br (pr.inR i6 n1) (br (br (pr.isI .i64 c2 (pr.idx 0 i6 16)) (br (pr.isB c2 ((pr.idx 0 i6 16) + 1)) (br (pr.isB c2 ((pr.idx 0 i6 16) + 2)) (br (pr.isL 1 c2 ((pr.idx 0 i6 16) + 3)) (br (pr.isL 1 c2 ((pr.idx 0 i6 16) + 4)) (br (pr.isL 1 c2 ((pr.idx 0 i6 16) + 5)) (br (pr.isB c2 ((pr.idx 0 i6 16) + 6)) (br (pr.isB c2 ((pr.idx 0 i6 16) + 7)) (br (pr.isB c2 ((pr.idx 0 i6 16) + 8)) (br (pr.isI .i64 c2 ((pr.idx 0 i6 16) + 9)) (br (pr.isL 1 c2 ((pr.idx 0 i6 16) + 10)) (br (pr.isL 1 c2 ((pr.idx 0 i6 16) + 11)) (br (pr.isL 1 c2 ((pr.idx 0 i6 16) + 12)) (br (pr.isL 1 c2 ((pr.idx 0 i6 16) + 13)) (br (pr.isL 1 c2 ((pr.idx 0 i6 16) + 14)) (br (pr.isL 1 c2 ((pr.idx 0 i6 16) + 15)) true false) false) false) false) false) false) false) false) false) false) false) false) false) false) false) false) (br (pr.inR i6 n4) (br (br (pr.isI .i64 c5 (pr.idx 0 i6 16)) (br (pr.isB c5 ((pr.idx 0 i6 16) + 1)) (br (pr.isB c5 ((pr.idx 0 i6 16) + 2)) (br (pr.isL 1 c5 ((pr.idx 0 i6 16) + 3)) (br (pr.isL 1 c5 ((pr.idx 0 i6 16) + 4)) (br (pr.isL 1 c5 ((pr.idx 0 i6 16) + 5)) (br (pr.isB c5 ((pr.idx 0 i6 16) + 6)) (br (pr.isB c5 ((pr.idx 0 i6 16) + 7)) (br (pr.isB c5 ((pr.idx 0 i6 16) + 8)) (br (pr.isI .i64 c5 ((pr.idx 0 i6 16) + 9)) (br (pr.isL 1 c5 ((pr.idx 0 i6 16) + 10)) (br (pr.isL 1 c5 ((pr.idx 0 i6 16) + 11)) (br (pr.isL 1 c5 ((pr.idx 0 i6 16) + 12)) (br (pr.isL 1 c5 ((pr.idx 0 i6 16) + 13)) (br (pr.isL 1 c5 ((pr.idx 0 i6 16) + 14)) (br (pr.isL 1 c5 ((pr.idx 0 i6 16) + 15)) true false) false) false) false) false) false) false) false) false) false) false) false) false) false) false) false) (cv 18 [(.agg [(.int .i64 (pr.getI c2 (pr.idx 0 i6 16))), (.bool (pr.getB c2 ((pr.idx 0 i6 16) + 1))), (.bool (pr.getB c2 ((pr.idx 0 i6 16) + 2))), (.sl (some (pr.getG c2 ((pr.idx 0 i6 16) + 3))) 1 (pr.getN c2 ((pr.idx 0 i6 16) + 3)) (pr.getC c2 ((pr.idx 0 i6 16) + 3))), (.sl (some (pr.getG c2 ((pr.idx 0 i6 16) + 4))) 1 (pr.getN c2 ((pr.idx 0 i6 16) + 4)) (pr.getC c2 ((pr.idx 0 i6 16) + 4))), (.sl (some (pr.getG c2 ((pr.idx 0 i6 16) + 5))) 1 (pr.getN c2 ((pr.idx 0 i6 16) + 5)) (pr.getC c2 ((pr.idx 0 i6 16) + 5))), (.bool (pr.getB c2 ((pr.idx 0 i6 16) + 6))), (.bool (pr.getB c2 ((pr.idx 0 i6 16) + 7))), (.bool (pr.getB c2 ((pr.idx 0 i6 16) + 8))), (.int .i64 (pr.getI c2 ((pr.idx 0 i6 16) + 9))), (.sl (some (pr.getG c2 ((pr.idx 0 i6 16) + 10))) 1 (pr.getN c2 ((pr.idx 0 i6 16) + 10)) (pr.getC c2 ((pr.idx 0 i6 16) + 10))), (.sl (some (pr.getG c2 ((pr.idx 0 i6 16) + 11))) 1 (pr.getN c2 ((pr.idx 0 i6 16) + 11)) (pr.getC c2 ((pr.idx 0 i6 16) + 11))), (.sl (some (pr.getG c2 ((pr.idx 0 i6 16) + 12))) 1 (pr.getN c2 ((pr.idx 0 i6 16) + 12)) (pr.getC c2 ((pr.idx 0 i6 16) + 12))), (.sl (some (pr.getG c2 ((pr.idx 0 i6 16) + 13))) 1 (pr.getN c2 ((pr.idx 0 i6 16) + 13)) (pr.getC c2 ((pr.idx 0 i6 16) + 13))), (.sl (some (pr.getG c2 ((pr.idx 0 i6 16) + 14))) 1 (pr.getN c2 ((pr.idx 0 i6 16) + 14)) (pr.getC c2 ((pr.idx 0 i6 16) + 14))), (.sl (some (pr.getG c2 ((pr.idx 0 i6 16) + 15))) 1 (pr.getN c2 ((pr.idx 0 i6 16) + 15)) (pr.getC c2 ((pr.idx 0 i6 16) + 15)))]), (.agg [(.int .i64 (pr.getI c5 (pr.idx 0 i6 16))), (.bool (pr.getB c5 ((pr.idx 0 i6 16) + 1))), (.bool (pr.getB c5 ((pr.idx 0 i6 16) + 2))), (.sl (some (pr.getG c5 ((pr.idx 0 i6 16) + 3))) 1 (pr.getN c5 ((pr.idx 0 i6 16) + 3)) (pr.getC c5 ((pr.idx 0 i6 16) + 3))), (.sl (some (pr.getG c5 ((pr.idx 0 i6 16) + 4))) 1 (pr.getN c5 ((pr.idx 0 i6 16) + 4)) (pr.getC c5 ((pr.idx 0 i6 16) + 4))), (.sl (some (pr.getG c5 ((pr.idx 0 i6 16) + 5))) 1 (pr.getN c5 ((pr.idx 0 i6 16) + 5)) (pr.getC c5 ((pr.idx 0 i6 16) + 5))), (.bool (pr.getB c5 ((pr.idx 0 i6 16) + 6))), (.bool (pr.getB c5 ((pr.idx 0 i6 16) + 7))), (.bool (pr.getB c5 ((pr.idx 0 i6 16) + 8))), (.int .i64 (pr.getI c5 ((pr.idx 0 i6 16) + 9))), (.sl (some (pr.getG c5 ((pr.idx 0 i6 16) + 10))) 1 (pr.getN c5 ((pr.idx 0 i6 16) + 10)) (pr.getC c5 ((pr.idx 0 i6 16) + 10))), (.sl (some (pr.getG c5 ((pr.idx 0 i6 16) + 11))) 1 (pr.getN c5 ((pr.idx 0 i6 16) + 11)) (pr.getC c5 ((pr.idx 0 i6 16) + 11))), (.sl (some (pr.getG c5 ((pr.idx 0 i6 16) + 12))) 1 (pr.getN c5 ((pr.idx 0 i6 16) + 12)) (pr.getC c5 ((pr.idx 0 i6 16) + 12))), (.sl (some (pr.getG c5 ((pr.idx 0 i6 16) + 13))) 1 (pr.getN c5 ((pr.idx 0 i6 16) + 13)) (pr.getC c5 ((pr.idx 0 i6 16) + 13))), (.sl (some (pr.getG c5 ((pr.idx 0 i6 16) + 14))) 1 (pr.getN c5 ((pr.idx 0 i6 16) + 14)) (pr.getC c5 ((pr.idx 0 i6 16) + 14))), (.sl (some (pr.getG c5 ((pr.idx 0 i6 16) + 15))) 1 (pr.getN c5 ((pr.idx 0 i6 16) + 15)) (pr.getC c5 ((pr.idx 0 i6 16) + 15)))])] (.bool (fun vb0 => (.done (br (br vb0 false true) (some ((.bool false), [.undef, .undef])) (J 0 (h_laws_eqNodeS_0 g0 n1 c2 g3 n4 c5 (pr.ar .add .i64 i6 1)))))))) none) none) none) none) (some ((.bool true), [.undef, .undef]))) := by kernel_rfl
theorem k_laws_szWire : Told cfg Try.prog 78 Try.f78 := ⟨by kernel_rfl, Try.func78, by kernel_rfl⟩
theorem e_laws_szWire (a0 : Int) (a1 : Int) (g2 : Bool) (n2 : Nat) (c2 : List D) (a3 : Int) : RunJ pr cv J 78 Try.f78 [(.agg [(.int .i64 a0), (.int .i64 a1), (.sl (some g2) 1 n2 c2)]), (.int .i64 a3)] =
    (cv 75 [(.sl (some g2) 1 n2 c2), (.int .i64 a3)] (.int (fun vx0 => (.done (br (pr.lt vx0 0) (some ((.int .i64 (-1)), [.undef, .undef])) (some ((.int .i64 vx0), [.undef, .undef]))))))) := by kernel_rfl
theorem k_laws_toWire : Told cfg Try.prog 79 Try.f79 := ⟨by kernel_rfl, Try.func79, by kernel_rfl⟩
theorem e_laws_toWire (a0 : Int) (a1 : Int) (g2 : Bool) (n2 : Nat) (c2 : List D) : RunJ pr cv J 79 Try.f79 [(.agg [(.int .i64 a0), (.int .i64 a1), (.sl (some g2) 1 n2 c2)])] =
    (cv 76 [(.sl (some g2) 1 n2 c2)] (.sl (fun vn0 => (fun vc1 => (.done (br (br (br (pr.nl vc1) true false) true false) (some ((.agg [(.int .i64 a0), (.int .i64 a1), (.sl none 1 vn0 vc1)]), [.undef])) none)))))) := by kernel_rfl
theorem k_laws_eqWire : Told cfg Try.prog 81 Try.f81 := ⟨by kernel_rfl, Try.func81, by kernel_rfl⟩
theorem e_laws_eqWire (a0 : Int) (a1 : Int) (g2 : Bool) (n2 : Nat) (c2 : List D) (a3 : Int) (a4 : Int) (g5 : Bool) (n5 : Nat) (c5 : List D) : RunJ pr cv J 81 Try.f81 [(.agg [(.int .i64 a0), (.int .i64 a1), (.sl (some g2) 1 n2 c2)]), (.agg [(.int .i64 a3), (.int .i64 a4), (.sl (some g5) 1 n5 c5)])] =
    let y1 : Option (D × List D) := (some ((.bool false), [.undef, .undef]))
    (br (br (pr.eq a0 a3) false true) y1 (br (br (pr.eq a1 a4) false true) y1 (cv 77 [(.sl (some g2) 1 n2 c2), (.sl (some g5) 1 n5 c5)] (.bool (fun vb0 => (.done (br (br vb0 false true) y1 (some ((.bool true), [.undef, .undef]))))))))) := by kernel_rfl
def h_laws_szWireS_0 (g0 : Bool) (n1 : Nat) (c2 : List D) (i3 : Int) (i4 : Int) : St := (St.mk [(0, (.sl (some g0) 3 n1 c2)), (1, (.int .i64 i3)), (5, (.int .i64 i4))] [] [] 0)
theorem k_laws_szWireS : Told cfg Try.prog 54 Try.f54 := ⟨by kernel_rfl, Try.func54, by kernel_rfl⟩
theorem e_laws_szWireS (g0 : Bool) (n0 : Nat) (c0 : List D) (a1 : Int) : RunJ pr cv J 54 Try.f54 [(.sl (some g0) 3 n0 c0), (.int .i64 a1)] =
    (br (pr.lt (pr.ar .sub .i64 a1 (pr.ofN n0)) 0) (some ((.int .i64 (-1)), [.undef, .undef])) (J 0 (h_laws_szWireS_0 g0 n0 c0 (pr.ar .sub .i64 a1 (pr.ofN n0)) 0))) := by kernel_rfl
theorem eh_laws_szWireS_0 (g0 : Bool) (n1 : Nat) (c2 : List D) (i3 : Int) (i4 : Int) : HeadJ pr cv J 54 Try.f54 [.undef, .undef] 0 (h_laws_szWireS_0 g0 n1 c2 i3 i4) =
    (br (pr.lt i4 (pr.ofN n1)) (br (pr.inR i4 n1) (br (br (pr.isI .i64 c2 (pr.idx 0 i4 3)) (br (pr.isI .i64 c2 ((pr.idx 0 i4 3) + 1)) (br (pr.isL 1 c2 ((pr.idx 0 i4 3) + 2)) true false) false) false) (cv 78 [(.agg [(.int .i64 (pr.getI c2 (pr.idx 0 i4 3))), (.int .i64 (pr.getI c2 ((pr.idx 0 i4 3) + 1))), (.sl (some (pr.getG c2 ((pr.idx 0 i4 3) + 2))) 1 (pr.getN c2 ((pr.idx 0 i4 3) + 2)) (pr.getC c2 ((pr.idx 0 i4 3) + 2)))]), (.int .i64 i3)] (.int (fun vx0 => (.done (br (pr.lt vx0 0) (some ((.int .i64 (-1)), [.undef, .undef])) (J 0 (h_laws_szWireS_0 g0 n1 c2 vx0 (pr.ar .add .i64 i4 1)))))))) none) none) (some ((.int .i64 i3), [.undef, .undef]))) := by kernel_rfl
def h_laws_toWireS_0 (g0 : Bool) (n1 : Nat) (c2 : List D) (i3 : Int) (n4 : Nat) (c5 : List D) : St := (St.mk [(0, (.sl (some g0) 3 n1 c2)), (3, (.ref 10003 [] 0 none)), (4, (.int .i64 i3))] [(10003, [(.sl none 3 n4 c5)])] [] 0)
theorem k_laws_toWireS : Told cfg Try.prog 57 Try.f57 := ⟨by kernel_rfl, Try.func57, by kernel_rfl⟩
theorem e_laws_toWireS (g0 : Bool) (n0 : Nat) (c0 : List D) : RunJ pr cv J 57 Try.f57 [(.sl (some g0) 3 n0 c0)] =
    (br (pr.mkok (pr.ofN n0) (pr.ofN n0) 40) (J 0 (h_laws_toWireS_0 g0 n0 c0 0 (pr.toN (pr.ofN n0)) (reps (pr.toN (pr.ofN n0)) [(.int .i64 0), (.int .i64 0), (.nil 1)]))) none) := by kernel_rfl
theorem eh_laws_toWireS_0 (g0 : Bool) (n1 : Nat) (c2 : List D) (i3 : Int) (n4 : Nat) (c5 : List D) : HeadJ pr cv J 57 Try.f57 [.undef] 0 (h_laws_toWireS_0 g0 n1 c2 i3 n4 c5) =
    (br (pr.lt i3 (pr.ofN n1)) (br (pr.inR i3 n1) (br (br (pr.isI .i64 c2 (pr.idx 0 i3 3)) (br (pr.isI .i64 c2 ((pr.idx 0 i3 3) + 1)) (br (pr.isL 1 c2 ((pr.idx 0 i3 3) + 2)) true false) false) false) (cv 79 [(.agg [(.int .i64 (pr.getI c2 (pr.idx 0 i3 3))), (.int .i64 (pr.getI c2 ((pr.idx 0 i3 3) + 1))), (.sl (some (pr.getG c2 ((pr.idx 0 i3 3) + 2))) 1 (pr.getN c2 ((pr.idx 0 i3 3) + 2)) (pr.getC c2 ((pr.idx 0 i3 3) + 2)))])] (.int (fun vx0 => (.int (fun vx1 => (.sl (fun vn2 => (fun vc3 => (.done (br (br (br (pr.nl vc3) true false) true false) (br (pr.inR i3 n4) (br (br (pr.ne c5) (br (pr.slot c5 (pr.idx 0 i3 3)) (br (pr.slot (List.set c5 (pr.idx 0 i3 3) (.int .i64 vx0)) ((pr.idx 0 i3 3) + 1)) (br (pr.isOS 1 (List.set (List.set c5 (pr.idx 0 i3 3) (.int .i64 vx0)) ((pr.idx 0 i3 3) + 1) (.int .i64 vx1)) ((pr.idx 0 i3 3) + 2)) true false) false) false) false) (cv 999999 [(.sl none 0 0 (List.set (List.set (List.set c5 (pr.idx 0 i3 3) (.int .i64 vx0)) ((pr.idx 0 i3 3) + 1) (.int .i64 vx1)) ((pr.idx 0 i3 3) + 2) (.sl none 1 vn2 vc3)))] (.sl (fun vn4 => (fun vc5 => (.done (J 0 (h_laws_toWireS_0 g0 n1 c2 (pr.ar .add .i64 i3 1) n4 vc5))))))) none) none) none)))))))))) none) none) (some ((.sl none 3 n4 c5), [.undef]))) := by kernel_rfl
def h_laws_eqWireS_0 (g0 : Bool) (n1 : Nat) (c2 : List D) (g3 : Bool) (n4 : Nat) (c5 : List D) (i6 : Int) : St := (St.mk [(0, (.sl (some g0) 3 n1 c2)), (1, (.sl (some g3) 3 n4 c5)), (5, (.int .i64 i6))] [] [] 0)
theorem k_laws_eqWireS : Told cfg Try.prog 61 Try.f61 := ⟨by kernel_rfl, Try.func61, by kernel_rfl⟩
theorem e_laws_eqWireS (g0 : Bool) (n0 : Nat) (c0 : List D) (g1 : Bool) (n1 : Nat) (c1 : List D) : RunJ pr cv J 61 Try.f61 [(.sl (some g0) 3 n0 c0), (.sl (some g1) 3 n1 c1)] =
    (br (br (pr.eq (pr.ofN n0) (pr.ofN n1)) false true) (some ((.bool false), [.undef, .undef])) (J 0 (h_laws_eqWireS_0 g0 n0 c0 g1 n1 c1 0))) := by kernel_rfl
theorem eh_laws_eqWireS_0 (g0 : Bool) (n1 : Nat) (c2 : List D) (g3 : Bool) (n4 : Nat) (c5 : List D) (i6 : Int) : HeadJ pr cv J 61 Try.f61 [.undef, .undef] 0 (h_laws_eqWireS_0 g0 n1 c2 g3 n4 c5 i6) =
    (br (pr.lt i6 (pr.ofN n1)) (br (pr.inR i6 n1) (br (br (pr.isI .i64 c2 (pr.idx 0 i6 3)) (br (pr.isI .i64 c2 ((pr.idx 0 i6 3) + 1)) (br (pr.isL 1 c2 ((pr.idx 0 i6 3) + 2)) true false) false) false) (br (pr.inR i6 n4) (br (br (pr.isI .i64 c5 (pr.idx 0 i6 3)) (br (pr.isI .i64 c5 ((pr.idx 0 i6 3) + 1)) (br (pr.isL 1 c5 ((pr.idx 0 i6 3) + 2)) true false) false) false) (cv 81 [(.agg [(.int .i64 (pr.getI c2 (pr.idx 0 i6 3))), (.int .i64 (pr.getI c2 ((pr.idx 0 i6 3) + 1))), (.sl (some (pr.getG c2 ((pr.idx 0 i6 3) + 2))) 1 (pr.getN c2 ((pr.idx 0 i6 3) + 2)) (pr.getC c2 ((pr.idx 0 i6 3) + 2)))]), (.agg [(.int .i64 (pr.getI c5 (pr.idx 0 i6 3))), (.int .i64 (pr.getI c5 ((pr.idx 0 i6 3) + 1))), (.sl (some (pr.getG c5 ((pr.idx 0 i6 3) + 2))) 1 (pr.getN c5 ((pr.idx 0 i6 3) + 2)) (pr.getC c5 ((pr.idx 0 i6 3) + 2)))])] (.bool (fun vb0 => (.done (br (br vb0 false true) (some ((.bool false), [.undef, .undef])) (J 0 (h_laws_eqWireS_0 g0 n1 c2 g3 n4 c5 (pr.ar .add .i64 i6 1)))))))) none) none) none) none) (some ((.bool true), [.undef, .undef]))) := by kernel_rfl
theorem k_laws_toRec : Told cfg Try.prog 80 Try.f80 := ⟨by kernel_rfl, Try.func80, by kernel_rfl⟩
theorem e_laws_toRec (a0 : Int) (a1 : Int) : RunJ pr cv J 80 Try.f80 [(.agg [(.int .i64 a0), (.int .i64 a1)])] =
    (some ((.agg [(.int .i64 a0), (.int .i64 a1)]), [.undef])) := by kernel_rfl
theorem k_laws_eqRec : Told cfg Try.prog 82 Try.f82 := ⟨by kernel_rfl, Try.func82, by kernel_rfl⟩
theorem e_laws_eqRec (a0 : Int) (a1 : Int) (a2 : Int) (a3 : Int) : RunJ pr cv J 82 Try.f82 [(.agg [(.int .i64 a0), (.int .i64 a1)]), (.agg [(.int .i64 a2), (.int .i64 a3)])] =
    let y1 : Option (D × List D) := (some ((.bool false), [.undef, .undef]))
    (br (br (pr.eq a0 a2) false true) y1 (br (br (pr.eq a1 a3) false true) y1 (some ((.bool true), [.undef, .undef])))) := by kernel_rfl
theorem k_laws_szRecS : Told cfg Try.prog 55 Try.f55 := ⟨by kernel_rfl, Try.func55, by kernel_rfl⟩
theorem e_laws_szRecS (g0 : Bool) (n0 : Nat) (c0 : List D) (a1 : Int) : RunJ pr cv J 55 Try.f55 [(.sl (some g0) 2 n0 c0), (.int .i64 a1)] =
    (br (pr.lt (pr.ar .sub .i64 a1 (pr.ofN n0)) 0) (some ((.int .i64 (-1)), [.undef, .undef])) (some ((.int .i64 (pr.ar .sub .i64 a1 (pr.ofN n0))), [.undef, .undef]))) := by kernel_rfl
def h_laws_toRecS_0 (g0 : Bool) (n1 : Nat) (c2 : List D) (i3 : Int) (n4 : Nat) (c5 : List D) : St := (St.mk [(0, (.sl (some g0) 2 n1 c2)), (3, (.ref 10003 [] 0 none)), (4, (.int .i64 i3))] [(10003, [(.sl none 2 n4 c5)])] [] 0)
theorem k_laws_toRecS : Told cfg Try.prog 58 Try.f58 := ⟨by kernel_rfl, Try.func58, by kernel_rfl⟩
theorem e_laws_toRecS (g0 : Bool) (n0 : Nat) (c0 : List D) : RunJ pr cv J 58 Try.f58 [(.sl (some g0) 2 n0 c0)] =
    (br (pr.mkok (pr.ofN n0) (pr.ofN n0) 16) (J 0 (h_laws_toRecS_0 g0 n0 c0 0 (pr.toN (pr.ofN n0)) (reps (pr.toN (pr.ofN n0)) [(.int .i64 0), (.int .i64 0)]))) none) := by kernel_rfl
theorem eh_laws_toRecS_0 (g0 : Bool) (n1 : Nat) (c2 : List D) (i3 : Int) (n4 : Nat) (c5 : List D) : HeadJ pr cv J 58 Try.f58 [.undef] 0 (h_laws_toRecS_0 g0 n1 c2 i3 n4 c5) =
    (br (pr.lt i3 (pr.ofN n1)) (br (pr.inR i3 n1) (br (br (pr.isI .i64 c2 (pr.idx 0 i3 2)) (br (pr.isI .i64 c2 ((pr.idx 0 i3 2) + 1)) true false) false) (cv 80 [(.agg [(.int .i64 (pr.getI c2 (pr.idx 0 i3 2))), (.int .i64 (pr.getI c2 ((pr.idx 0 i3 2) + 1)))])] (.int (fun vx0 => (.int (fun vx1 => (.done (br (pr.inR i3 n4) (br (br (pr.ne c5) (br (pr.slot c5 (pr.idx 0 i3 2)) (br (pr.slot (List.set c5 (pr.idx 0 i3 2) (.int .i64 vx0)) ((pr.idx 0 i3 2) + 1)) true false) false) false) (cv 999999 [(.sl none 0 0 (List.set (List.set c5 (pr.idx 0 i3 2) (.int .i64 vx0)) ((pr.idx 0 i3 2) + 1) (.int .i64 vx1)))] (.sl (fun vn2 => (fun vc3 => (.done (J 0 (h_laws_toRecS_0 g0 n1 c2 (pr.ar .add .i64 i3 1) n4 vc3))))))) none) none))))))) none) none) (some ((.sl none 2 n4 c5), [.undef]))) := by kernel_rfl
def h_laws_eqRecS_0 (g0 : Bool) (n1 : Nat) (c2 : List D) (g3 : Bool) (n4 : Nat) (c5 : List D) (i6 : Int) : St := (St.mk [(0, (.sl (some g0) 2 n1 c2)), (1, (.sl (some g3) 2 n4 c5)), (5, (.int .i64 i6))] [] [] 0)
theorem k_laws_eqRecS : Told cfg Try.prog 62 Try.f62 := ⟨by kernel_rfl, Try.func62, by kernel_rfl⟩
theorem e_laws_eqRecS (g0 : Bool) (n0 : Nat) (c0 : List D) (g1 : Bool) (n1 : Nat) (c1 : List D) : RunJ pr cv J 62 Try.f62 [(.sl (some g0) 2 n0 c0), (.sl (some g1) 2 n1 c1)] =
    (br (br (pr.eq (pr.ofN n0) (pr.ofN n1)) false true) (some ((.bool false), [.undef, .undef])) (J 0 (h_laws_eqRecS_0 g0 n0 c0 g1 n1 c1 0))) := by kernel_rfl
theorem eh_laws_eqRecS_0 (g0 : Bool) (n1 : Nat) (c2 : List D) (g3 : Bool) (n4 : Nat) (c5 : List D) (i6 : Int) : HeadJ pr cv J 62 Try.f62 [.undef, .undef] 0 (h_laws_eqRecS_0 g0 n1 c2 g3 n4 c5 i6) =
    (br (pr.lt i6 (pr.ofN n1)) (br (pr.inR i6 n1) (br (br (pr.isI .i64 c2 (pr.idx 0 i6 2)) (br (pr.isI .i64 c2 ((pr.idx 0 i6 2) + 1)) true false) false) (br (pr.inR i6 n4) (br (br (pr.isI .i64 c5 (pr.idx 0 i6 2)) (br (pr.isI .i64 c5 ((pr.idx 0 i6 2) + 1)) true false) false) (cv 82 [(.agg [(.int .i64 (pr.getI c2 (pr.idx 0 i6 2))), (.int .i64 (pr.getI c2 ((pr.idx 0 i6 2) + 1)))]), (.agg [(.int .i64 (pr.getI c5 (pr.idx 0 i6 2))), (.int .i64 (pr.getI c5 ((pr.idx 0 i6 2) + 1)))])] (.bool (fun vb0 => (.done (br (br vb0 false true) (some ((.bool false), [.undef, .undef])) (J 0 (h_laws_eqRecS_0 g0 n1 c2 g3 n4 c5 (pr.ar .add .i64 i6 1)))))))) none) none) none) none) (some ((.bool true), [.undef, .undef]))) := by kernel_rfl
theorem k_laws_szWorld : Told cfg Try.prog 19 Try.f19 := ⟨by kernel_rfl, Try.func19, by kernel_rfl⟩
theorem e_laws_szWorld (g0 : Bool) (n0 : Nat) (c0 : List D) (g1 : Bool) (n1 : Nat) (c1 : List D) (g2 : Bool) (n2 : Nat) (c2 : List D) (g3 : Bool) (n3 : Nat) (c3 : List D) (a4 : Int) (a5 : Int) : RunJ pr cv J 19 Try.f19 [(.agg [(.sl (some g0) 16 n0 c0), (.sl (some g1) 3 n1 c1), (.sl (some g2) 2 n2 c2), (.sl (some g3) 1 n3 c3), (.int .i64 a4)]), (.int .i64 a5)] =
    let y1 : Option (D × List D) := (some ((.int .i64 (-1)), [.undef, .undef]))
    (cv 53 [(.sl (some g0) 16 n0 c0), (.int .i64 a5)] (.int (fun vx0 => (.done (br (pr.lt vx0 0) y1 (cv 54 [(.sl (some g1) 3 n1 c1), (.int .i64 vx0)] (.int (fun vx1 => (.done (br (pr.lt vx1 0) y1 (cv 55 [(.sl (some g2) 2 n2 c2), (.int .i64 vx1)] (.int (fun vx2 => (.done (br (pr.lt vx2 0) y1 (cv 35 [(.sl (some g3) 1 n3 c3), (.int .i64 vx2)] (.int (fun vx3 => (.done (br (pr.lt vx3 0) y1 (some ((.int .i64 vx3), [.undef, .undef])))))))))))))))))))))) := by kernel_rfl
theorem k_laws_toWorld : Told cfg Try.prog 21 Try.f21 := ⟨by kernel_rfl, Try.func21, by kernel_rfl⟩
theorem e_laws_toWorld (g0 : Bool) (n0 : Nat) (c0 : List D) (g1 : Bool) (n1 : Nat) (c1 : List D) (g2 : Bool) (n2 : Nat) (c2 : List D) (g3 : Bool) (n3 : Nat) (c3 : List D) (a4 : Int) : RunJ pr cv J 21 Try.f21 [(.agg [(.sl (some g0) 16 n0 c0), (.sl (some g1) 3 n1 c1), (.sl (some g2) 2 n2 c2), (.sl (some g3) 1 n3 c3), (.int .i64 a4)])] =
    (cv 56 [(.sl (some g0) 16 n0 c0)] (.sl (fun vn0 => (fun vc1 => (.done (br (br (br (pr.nl vc1) true false) true false) (cv 57 [(.sl (some g1) 3 n1 c1)] (.sl (fun vn2 => (fun vc3 => (.done (br (br (br (pr.nl vc3) true false) true false) (cv 58 [(.sl (some g2) 2 n2 c2)] (.sl (fun vn4 => (fun vc5 => (.done (br (br (br (pr.nl vc5) true false) true false) (cv 29 [(.sl (some g3) 1 n3 c3)] (.sl (fun vn6 => (fun vc7 => (.done (br (br (br (pr.nl vc7) true false) true false) (some ((.agg [(.sl none 16 vn0 vc1), (.sl none 3 vn2 vc3), (.sl none 2 vn4 vc5), (.sl none 1 vn6 vc7), (.int .i64 a4)]), [.undef])) none)))))) none)))))) none)))))) none)))))) := by kernel_rfl
theorem k_laws_eqWorld : Told cfg Try.prog 24 Try.f24 := ⟨by kernel_rfl, Try.func24, by kernel_rfl⟩
theorem e_laws_eqWorld (g0 : Bool) (n0 : Nat) (c0 : List D) (g1 : Bool) (n1 : Nat) (c1 : List D) (g2 : Bool) (n2 : Nat) (c2 : List D) (g3 : Bool) (n3 : Nat) (c3 : List D) (a4 : Int) (g5 : Bool) (n5 : Nat) (c5 : List D) (g6 : Bool) (n6 : Nat) (c6 : List D) (g7 : Bool) (n7 : Nat) (c7 : List D) (g8 : Bool) (n8 : Nat) (c8 : List D) (a9 : Int) : RunJ pr cv J 24 Try.f24 [(.agg [(.sl (some g0) 16 n0 c0), (.sl (some g1) 3 n1 c1), (.sl (some g2) 2 n2 c2), (.sl (some g3) 1 n3 c3), (.int .i64 a4)]), (.agg [(.sl (some g5) 16 n5 c5), (.sl (some g6) 3 n6 c6), (.sl (some g7) 2 n7 c7), (.sl (some g8) 1 n8 c8), (.int .i64 a9)])] =
    let y1 : Option (D × List D) := (some ((.bool false), [.undef, .undef]))
    (cv 60 [(.sl (some g0) 16 n0 c0), (.sl (some g5) 16 n5 c5)] (.bool (fun vb0 => (.done (br (br vb0 false true) y1 (cv 61 [(.sl (some g1) 3 n1 c1), (.sl (some g6) 3 n6 c6)] (.bool (fun vb1 => (.done (br (br vb1 false true) y1 (cv 62 [(.sl (some g2) 2 n2 c2), (.sl (some g7) 2 n7 c7)] (.bool (fun vb2 => (.done (br (br vb2 false true) y1 (cv 23 [(.sl (some g3) 1 n3 c3), (.sl (some g8) 1 n8 c8)] (.bool (fun vb3 => (.done (br (br vb3 false true) y1 (br (br (pr.eq a4 a9) false true) y1 (some ((.bool true), [.undef, .undef]))))))))))))))))))))))) := by kernel_rfl
end

structure MWire where
  src : Int
  dst : Int
  bytes : List UInt8
structure MRec where
  cell : Int
  up : Int
structure MWorld where
  nodes : List MNode
  net : List MWire
  log : List MRec
  safe : List Int
  gen : Int
abbrev eWire (g : Option Bool) (x : MWire) : List D := [.int .i64 x.src, .int .i64 x.dst, s8 g x.bytes]
abbrev eRec (_ : Option Bool) (r : MRec) : List D := [.int .i64 r.cell, .int .i64 r.up]
abbrev sN (g : Option Bool) (xs : List MNode) : D := .sl g 16 xs.length (celz (eNode g) xs)
abbrev sW (g : Option Bool) (xs : List MWire) : D := .sl g 3 xs.length (celz (eWire g) xs)
abbrev sK (g : Option Bool) (xs : List MRec) : D := .sl g 2 xs.length (celz (eRec g) xs)
abbrev eWorld (g : Option Bool) (w : MWorld) : List D := [sN g w.nodes, sW g w.net, sK g w.log, sI g w.safe, .int .i64 w.gen]
theorem idxw (i w : Nat) : std.idx 0 (i : Int) w = i * w := by rw [s_idx, Nat.zero_add]
section
variable {α : Type} {e : α → List D} {w : Nat} (hw : ∀ x, (e x).length = w) {xs : List α} {i k : Nat} (hi : i < xs.length) (hk : k < w)
include hw hi hk
theorem zz_isI (kk : IntKind) : std.isI kk (celz e xs) (i * w + k) = std.isI kk (e xs[i]) k := by simp only [std, celz_get hw xs hi hk]
theorem zz_getI : std.getI (celz e xs) (i * w + k) = std.getI (e xs[i]) k := by simp only [std, celz_get hw xs hi hk]
theorem zz_isB : std.isB (celz e xs) (i * w + k) = std.isB (e xs[i]) k := by simp only [std, celz_get hw xs hi hk]
theorem zz_getB : std.getB (celz e xs) (i * w + k) = std.getB (e xs[i]) k := by simp only [std, celz_get hw xs hi hk]
theorem zz_isL (s : Nat) : std.isL s (celz e xs) (i * w + k) = std.isL s (e xs[i]) k := by simp only [std, celz_get hw xs hi hk]
theorem zz_getG : std.getG (celz e xs) (i * w + k) = std.getG (e xs[i]) k := by simp only [std, celz_get hw xs hi hk]
theorem zz_getN : std.getN (celz e xs) (i * w + k) = std.getN (e xs[i]) k := by simp only [std, celz_get hw xs hi hk]
theorem zz_getC : std.getC (celz e xs) (i * w + k) = std.getC (e xs[i]) k := by simp only [std, celz_get hw xs hi hk]
end
theorem zN0_c {g : Bool} {xs : List MNode} {i : Nat} (h : i < xs.length) : std.isI .i64 (celz (eNode (some g)) xs) (i * 16) = true := (zz_isI (e := eNode (some g)) (w := 16) (fun _ => rfl) (k := 0) h (by omega) _).trans rfl
theorem zN0_v {g : Bool} {xs : List MNode} {i : Nat} (h : i < xs.length) : std.getI (celz (eNode (some g)) xs) (i * 16) = xs[i].id := (zz_getI (e := eNode (some g)) (w := 16) (fun _ => rfl) (k := 0) h (by omega)).trans rfl
theorem zN1_c {g : Bool} {xs : List MNode} {i : Nat} (h : i < xs.length) : std.isB (celz (eNode (some g)) xs) (i * 16 + 1) = true := (zz_isB (e := eNode (some g)) (w := 16) (fun _ => rfl) (k := 1) h (by omega)).trans rfl
theorem zN1_v {g : Bool} {xs : List MNode} {i : Nat} (h : i < xs.length) : std.getB (celz (eNode (some g)) xs) (i * 16 + 1) = xs[i].up := (zz_getB (e := eNode (some g)) (w := 16) (fun _ => rfl) (k := 1) h (by omega)).trans rfl
theorem zN2_c {g : Bool} {xs : List MNode} {i : Nat} (h : i < xs.length) : std.isB (celz (eNode (some g)) xs) (i * 16 + 2) = true := (zz_isB (e := eNode (some g)) (w := 16) (fun _ => rfl) (k := 2) h (by omega)).trans rfl
theorem zN2_v {g : Bool} {xs : List MNode} {i : Nat} (h : i < xs.length) : std.getB (celz (eNode (some g)) xs) (i * 16 + 2) = xs[i].prime := (zz_getB (e := eNode (some g)) (w := 16) (fun _ => rfl) (k := 2) h (by omega)).trans rfl
theorem zN3_c {g : Bool} {xs : List MNode} {i : Nat} (h : i < xs.length) : std.isL 1 (celz (eNode (some g)) xs) (i * 16 + 3) = true := (zz_isL (e := eNode (some g)) (w := 16) (fun _ => rfl) (k := 3) h (by omega) _).trans rfl
theorem zN3_g {g : Bool} {xs : List MNode} {i : Nat} (h : i < xs.length) : std.getG (celz (eNode (some g)) xs) (i * 16 + 3) = g := (zz_getG (e := eNode (some g)) (w := 16) (fun _ => rfl) (k := 3) h (by omega)).trans rfl
theorem zN3_n {g : Bool} {xs : List MNode} {i : Nat} (h : i < xs.length) : std.getN (celz (eNode (some g)) xs) (i * 16 + 3) = xs[i].image.length := (zz_getN (e := eNode (some g)) (w := 16) (fun _ => rfl) (k := 3) h (by omega)).trans rfl
theorem zN3_l {g : Bool} {xs : List MNode} {i : Nat} (h : i < xs.length) : std.getC (celz (eNode (some g)) xs) (i * 16 + 3) = ints xs[i].image := (zz_getC (e := eNode (some g)) (w := 16) (fun _ => rfl) (k := 3) h (by omega)).trans rfl
theorem zN4_c {g : Bool} {xs : List MNode} {i : Nat} (h : i < xs.length) : std.isL 1 (celz (eNode (some g)) xs) (i * 16 + 4) = true := (zz_isL (e := eNode (some g)) (w := 16) (fun _ => rfl) (k := 4) h (by omega) _).trans rfl
theorem zN4_g {g : Bool} {xs : List MNode} {i : Nat} (h : i < xs.length) : std.getG (celz (eNode (some g)) xs) (i * 16 + 4) = g := (zz_getG (e := eNode (some g)) (w := 16) (fun _ => rfl) (k := 4) h (by omega)).trans rfl
theorem zN4_n {g : Bool} {xs : List MNode} {i : Nat} (h : i < xs.length) : std.getN (celz (eNode (some g)) xs) (i * 16 + 4) = xs[i].mt.gens.length := (zz_getN (e := eNode (some g)) (w := 16) (fun _ => rfl) (k := 4) h (by omega)).trans rfl
theorem zN4_l {g : Bool} {xs : List MNode} {i : Nat} (h : i < xs.length) : std.getC (celz (eNode (some g)) xs) (i * 16 + 4) = ints xs[i].mt.gens := (zz_getC (e := eNode (some g)) (w := 16) (fun _ => rfl) (k := 4) h (by omega)).trans rfl
theorem zN5_c {g : Bool} {xs : List MNode} {i : Nat} (h : i < xs.length) : std.isL 1 (celz (eNode (some g)) xs) (i * 16 + 5) = true := (zz_isL (e := eNode (some g)) (w := 16) (fun _ => rfl) (k := 5) h (by omega) _).trans rfl
theorem zN5_g {g : Bool} {xs : List MNode} {i : Nat} (h : i < xs.length) : std.getG (celz (eNode (some g)) xs) (i * 16 + 5) = g := (zz_getG (e := eNode (some g)) (w := 16) (fun _ => rfl) (k := 5) h (by omega)).trans rfl
theorem zN5_n {g : Bool} {xs : List MNode} {i : Nat} (h : i < xs.length) : std.getN (celz (eNode (some g)) xs) (i * 16 + 5) = xs[i].mt.bits.length := (zz_getN (e := eNode (some g)) (w := 16) (fun _ => rfl) (k := 5) h (by omega)).trans rfl
theorem zN5_l {g : Bool} {xs : List MNode} {i : Nat} (h : i < xs.length) : std.getC (celz (eNode (some g)) xs) (i * 16 + 5) = rows (some g) xs[i].mt.bits := (zz_getC (e := eNode (some g)) (w := 16) (fun _ => rfl) (k := 5) h (by omega)).trans rfl
theorem zN6_c {g : Bool} {xs : List MNode} {i : Nat} (h : i < xs.length) : std.isB (celz (eNode (some g)) xs) (i * 16 + 6) = true := (zz_isB (e := eNode (some g)) (w := 16) (fun _ => rfl) (k := 6) h (by omega)).trans rfl
theorem zN6_v {g : Bool} {xs : List MNode} {i : Nat} (h : i < xs.length) : std.getB (celz (eNode (some g)) xs) (i * 16 + 6) = xs[i].mt.fine := (zz_getB (e := eNode (some g)) (w := 16) (fun _ => rfl) (k := 6) h (by omega)).trans rfl
theorem zN7_c {g : Bool} {xs : List MNode} {i : Nat} (h : i < xs.length) : std.isB (celz (eNode (some g)) xs) (i * 16 + 7) = true := (zz_isB (e := eNode (some g)) (w := 16) (fun _ => rfl) (k := 7) h (by omega)).trans rfl
theorem zN7_v {g : Bool} {xs : List MNode} {i : Nat} (h : i < xs.length) : std.getB (celz (eNode (some g)) xs) (i * 16 + 7) = xs[i].mt.old := (zz_getB (e := eNode (some g)) (w := 16) (fun _ => rfl) (k := 7) h (by omega)).trans rfl
theorem zN8_c {g : Bool} {xs : List MNode} {i : Nat} (h : i < xs.length) : std.isB (celz (eNode (some g)) xs) (i * 16 + 8) = true := (zz_isB (e := eNode (some g)) (w := 16) (fun _ => rfl) (k := 8) h (by omega)).trans rfl
theorem zN8_v {g : Bool} {xs : List MNode} {i : Nat} (h : i < xs.length) : std.getB (celz (eNode (some g)) xs) (i * 16 + 8) = xs[i].mt.held := (zz_getB (e := eNode (some g)) (w := 16) (fun _ => rfl) (k := 8) h (by omega)).trans rfl
theorem zN9_c {g : Bool} {xs : List MNode} {i : Nat} (h : i < xs.length) : std.isI .i64 (celz (eNode (some g)) xs) (i * 16 + 9) = true := (zz_isI (e := eNode (some g)) (w := 16) (fun _ => rfl) (k := 9) h (by omega) _).trans rfl
theorem zN9_v {g : Bool} {xs : List MNode} {i : Nat} (h : i < xs.length) : std.getI (celz (eNode (some g)) xs) (i * 16 + 9) = xs[i].mt.last := (zz_getI (e := eNode (some g)) (w := 16) (fun _ => rfl) (k := 9) h (by omega)).trans rfl
theorem zN10_c {g : Bool} {xs : List MNode} {i : Nat} (h : i < xs.length) : std.isL 1 (celz (eNode (some g)) xs) (i * 16 + 10) = true := (zz_isL (e := eNode (some g)) (w := 16) (fun _ => rfl) (k := 10) h (by omega) _).trans rfl
theorem zN10_g {g : Bool} {xs : List MNode} {i : Nat} (h : i < xs.length) : std.getG (celz (eNode (some g)) xs) (i * 16 + 10) = g := (zz_getG (e := eNode (some g)) (w := 16) (fun _ => rfl) (k := 10) h (by omega)).trans rfl
theorem zN10_n {g : Bool} {xs : List MNode} {i : Nat} (h : i < xs.length) : std.getN (celz (eNode (some g)) xs) (i * 16 + 10) = xs[i].slots.a.length := (zz_getN (e := eNode (some g)) (w := 16) (fun _ => rfl) (k := 10) h (by omega)).trans rfl
theorem zN10_l {g : Bool} {xs : List MNode} {i : Nat} (h : i < xs.length) : std.getC (celz (eNode (some g)) xs) (i * 16 + 10) = bytes xs[i].slots.a := (zz_getC (e := eNode (some g)) (w := 16) (fun _ => rfl) (k := 10) h (by omega)).trans rfl
theorem zN11_c {g : Bool} {xs : List MNode} {i : Nat} (h : i < xs.length) : std.isL 1 (celz (eNode (some g)) xs) (i * 16 + 11) = true := (zz_isL (e := eNode (some g)) (w := 16) (fun _ => rfl) (k := 11) h (by omega) _).trans rfl
theorem zN11_g {g : Bool} {xs : List MNode} {i : Nat} (h : i < xs.length) : std.getG (celz (eNode (some g)) xs) (i * 16 + 11) = g := (zz_getG (e := eNode (some g)) (w := 16) (fun _ => rfl) (k := 11) h (by omega)).trans rfl
theorem zN11_n {g : Bool} {xs : List MNode} {i : Nat} (h : i < xs.length) : std.getN (celz (eNode (some g)) xs) (i * 16 + 11) = xs[i].slots.b.length := (zz_getN (e := eNode (some g)) (w := 16) (fun _ => rfl) (k := 11) h (by omega)).trans rfl
theorem zN11_l {g : Bool} {xs : List MNode} {i : Nat} (h : i < xs.length) : std.getC (celz (eNode (some g)) xs) (i * 16 + 11) = bytes xs[i].slots.b := (zz_getC (e := eNode (some g)) (w := 16) (fun _ => rfl) (k := 11) h (by omega)).trans rfl
theorem zN12_c {g : Bool} {xs : List MNode} {i : Nat} (h : i < xs.length) : std.isL 1 (celz (eNode (some g)) xs) (i * 16 + 12) = true := (zz_isL (e := eNode (some g)) (w := 16) (fun _ => rfl) (k := 12) h (by omega) _).trans rfl
theorem zN12_g {g : Bool} {xs : List MNode} {i : Nat} (h : i < xs.length) : std.getG (celz (eNode (some g)) xs) (i * 16 + 12) = g := (zz_getG (e := eNode (some g)) (w := 16) (fun _ => rfl) (k := 12) h (by omega)).trans rfl
theorem zN12_n {g : Bool} {xs : List MNode} {i : Nat} (h : i < xs.length) : std.getN (celz (eNode (some g)) xs) (i * 16 + 12) = xs[i].conn.length := (zz_getN (e := eNode (some g)) (w := 16) (fun _ => rfl) (k := 12) h (by omega)).trans rfl
theorem zN12_l {g : Bool} {xs : List MNode} {i : Nat} (h : i < xs.length) : std.getC (celz (eNode (some g)) xs) (i * 16 + 12) = bools xs[i].conn := (zz_getC (e := eNode (some g)) (w := 16) (fun _ => rfl) (k := 12) h (by omega)).trans rfl
theorem zN13_c {g : Bool} {xs : List MNode} {i : Nat} (h : i < xs.length) : std.isL 1 (celz (eNode (some g)) xs) (i * 16 + 13) = true := (zz_isL (e := eNode (some g)) (w := 16) (fun _ => rfl) (k := 13) h (by omega) _).trans rfl
theorem zN13_g {g : Bool} {xs : List MNode} {i : Nat} (h : i < xs.length) : std.getG (celz (eNode (some g)) xs) (i * 16 + 13) = g := (zz_getG (e := eNode (some g)) (w := 16) (fun _ => rfl) (k := 13) h (by omega)).trans rfl
theorem zN13_n {g : Bool} {xs : List MNode} {i : Nat} (h : i < xs.length) : std.getN (celz (eNode (some g)) xs) (i * 16 + 13) = xs[i].sync.length := (zz_getN (e := eNode (some g)) (w := 16) (fun _ => rfl) (k := 13) h (by omega)).trans rfl
theorem zN13_l {g : Bool} {xs : List MNode} {i : Nat} (h : i < xs.length) : std.getC (celz (eNode (some g)) xs) (i * 16 + 13) = rows (some g) xs[i].sync := (zz_getC (e := eNode (some g)) (w := 16) (fun _ => rfl) (k := 13) h (by omega)).trans rfl
theorem zN14_c {g : Bool} {xs : List MNode} {i : Nat} (h : i < xs.length) : std.isL 1 (celz (eNode (some g)) xs) (i * 16 + 14) = true := (zz_isL (e := eNode (some g)) (w := 16) (fun _ => rfl) (k := 14) h (by omega) _).trans rfl
theorem zN14_g {g : Bool} {xs : List MNode} {i : Nat} (h : i < xs.length) : std.getG (celz (eNode (some g)) xs) (i * 16 + 14) = g := (zz_getG (e := eNode (some g)) (w := 16) (fun _ => rfl) (k := 14) h (by omega)).trans rfl
theorem zN14_n {g : Bool} {xs : List MNode} {i : Nat} (h : i < xs.length) : std.getN (celz (eNode (some g)) xs) (i * 16 + 14) = xs[i].copies.length := (zz_getN (e := eNode (some g)) (w := 16) (fun _ => rfl) (k := 14) h (by omega)).trans rfl
theorem zN14_l {g : Bool} {xs : List MNode} {i : Nat} (h : i < xs.length) : std.getC (celz (eNode (some g)) xs) (i * 16 + 14) = bools xs[i].copies := (zz_getC (e := eNode (some g)) (w := 16) (fun _ => rfl) (k := 14) h (by omega)).trans rfl
theorem zN15_c {g : Bool} {xs : List MNode} {i : Nat} (h : i < xs.length) : std.isL 1 (celz (eNode (some g)) xs) (i * 16 + 15) = true := (zz_isL (e := eNode (some g)) (w := 16) (fun _ => rfl) (k := 15) h (by omega) _).trans rfl
theorem zN15_g {g : Bool} {xs : List MNode} {i : Nat} (h : i < xs.length) : std.getG (celz (eNode (some g)) xs) (i * 16 + 15) = g := (zz_getG (e := eNode (some g)) (w := 16) (fun _ => rfl) (k := 15) h (by omega)).trans rfl
theorem zN15_n {g : Bool} {xs : List MNode} {i : Nat} (h : i < xs.length) : std.getN (celz (eNode (some g)) xs) (i * 16 + 15) = xs[i].wait.length := (zz_getN (e := eNode (some g)) (w := 16) (fun _ => rfl) (k := 15) h (by omega)).trans rfl
theorem zN15_l {g : Bool} {xs : List MNode} {i : Nat} (h : i < xs.length) : std.getC (celz (eNode (some g)) xs) (i * 16 + 15) = ints xs[i].wait := (zz_getC (e := eNode (some g)) (w := 16) (fun _ => rfl) (k := 15) h (by omega)).trans rfl
theorem zW0_c {g : Bool} {xs : List MWire} {i : Nat} (h : i < xs.length) : std.isI .i64 (celz (eWire (some g)) xs) (i * 3) = true := (zz_isI (e := eWire (some g)) (w := 3) (fun _ => rfl) (k := 0) h (by omega) _).trans rfl
theorem zW0_v {g : Bool} {xs : List MWire} {i : Nat} (h : i < xs.length) : std.getI (celz (eWire (some g)) xs) (i * 3) = xs[i].src := (zz_getI (e := eWire (some g)) (w := 3) (fun _ => rfl) (k := 0) h (by omega)).trans rfl
theorem zW1_c {g : Bool} {xs : List MWire} {i : Nat} (h : i < xs.length) : std.isI .i64 (celz (eWire (some g)) xs) (i * 3 + 1) = true := (zz_isI (e := eWire (some g)) (w := 3) (fun _ => rfl) (k := 1) h (by omega) _).trans rfl
theorem zW1_v {g : Bool} {xs : List MWire} {i : Nat} (h : i < xs.length) : std.getI (celz (eWire (some g)) xs) (i * 3 + 1) = xs[i].dst := (zz_getI (e := eWire (some g)) (w := 3) (fun _ => rfl) (k := 1) h (by omega)).trans rfl
theorem zW2_c {g : Bool} {xs : List MWire} {i : Nat} (h : i < xs.length) : std.isL 1 (celz (eWire (some g)) xs) (i * 3 + 2) = true := (zz_isL (e := eWire (some g)) (w := 3) (fun _ => rfl) (k := 2) h (by omega) _).trans rfl
theorem zW2_g {g : Bool} {xs : List MWire} {i : Nat} (h : i < xs.length) : std.getG (celz (eWire (some g)) xs) (i * 3 + 2) = g := (zz_getG (e := eWire (some g)) (w := 3) (fun _ => rfl) (k := 2) h (by omega)).trans rfl
theorem zW2_n {g : Bool} {xs : List MWire} {i : Nat} (h : i < xs.length) : std.getN (celz (eWire (some g)) xs) (i * 3 + 2) = xs[i].bytes.length := (zz_getN (e := eWire (some g)) (w := 3) (fun _ => rfl) (k := 2) h (by omega)).trans rfl
theorem zW2_l {g : Bool} {xs : List MWire} {i : Nat} (h : i < xs.length) : std.getC (celz (eWire (some g)) xs) (i * 3 + 2) = bytes xs[i].bytes := (zz_getC (e := eWire (some g)) (w := 3) (fun _ => rfl) (k := 2) h (by omega)).trans rfl
theorem zK0_c {g : Bool} {xs : List MRec} {i : Nat} (h : i < xs.length) : std.isI .i64 (celz (eRec (some g)) xs) (i * 2) = true := (zz_isI (e := eRec (some g)) (w := 2) (fun _ => rfl) (k := 0) h (by omega) _).trans rfl
theorem zK0_v {g : Bool} {xs : List MRec} {i : Nat} (h : i < xs.length) : std.getI (celz (eRec (some g)) xs) (i * 2) = xs[i].cell := (zz_getI (e := eRec (some g)) (w := 2) (fun _ => rfl) (k := 0) h (by omega)).trans rfl
theorem zK1_c {g : Bool} {xs : List MRec} {i : Nat} (h : i < xs.length) : std.isI .i64 (celz (eRec (some g)) xs) (i * 2 + 1) = true := (zz_isI (e := eRec (some g)) (w := 2) (fun _ => rfl) (k := 1) h (by omega) _).trans rfl
theorem zK1_v {g : Bool} {xs : List MRec} {i : Nat} (h : i < xs.length) : std.getI (celz (eRec (some g)) xs) (i * 2 + 1) = xs[i].up := (zz_getI (e := eRec (some g)) (w := 2) (fun _ => rfl) (k := 1) h (by omega)).trans rfl
/-! ### own rows, taken apart where they are written -/
section
variable {A L B : List D} {m k : Nat} {d : D}
theorem zs_set (hA : A.length = m) (hk : k < L.length) : List.set (A ++ (L ++ B)) (m + k) d = A ++ (L.set k d ++ B) := by
  subst hA
  rw [List.set_append_right _ _ (by omega), List.set_append_left _ _ (by omega)]
  simp
theorem zs_set0 (hA : A.length = m) (hk : 0 < L.length) : List.set (A ++ (L ++ B)) m d = A ++ (L.set 0 d ++ B) := zs_set (k := 0) hA hk
theorem zs_get (hA : A.length = m) (hk : k < L.length) : (A ++ (L ++ B))[m + k]? = L[k]? := by
  subst hA
  rw [List.getElem?_append_right (by omega), List.getElem?_append_left (by omega)]
  simp
theorem zs_slot (hA : A.length = m) (hk : k < L.length) : std.slot (A ++ (L ++ B)) (m + k) = std.slot L k := by simp only [std, zs_get hA hk]
theorem zs_slot0 (hA : A.length = m) (hk : 0 < L.length) : std.slot (A ++ (L ++ B)) m = std.slot L 0 := zs_slot (k := 0) hA hk
theorem zs_isOS (s : Nat) (hA : A.length = m) (hk : k < L.length) : std.isOS s (A ++ (L ++ B)) (m + k) = std.isOS s L k := by simp only [std, zs_get hA hk]
theorem zs_isO (hA : A.length = m) (hk : k < L.length) : std.isO (A ++ (L ++ B)) (m + k) = std.isO L k := by simp only [std, zs_get hA hk]
theorem zs_getN (hA : A.length = m) (hk : k < L.length) : std.getN (A ++ (L ++ B)) (m + k) = std.getN L k := by simp only [std, zs_get hA hk]
theorem zs_getC (hA : A.length = m) (hk : k < L.length) : std.getC (A ++ (L ++ B)) (m + k) = std.getC L k := by simp only [std, zs_get hA hk]
theorem zs_ne (hk : 0 < L.length) : std.ne (A ++ (L ++ B)) = true := by
  simp only [std]
  cases A with
  | nil => cases L with
    | nil => simp at hk
    | cons _ _ => rfl
  | cons _ _ => rfl
theorem l_slotS (l : List D) (n : Nat) : std.slot (d :: l) (n + 1) = std.slot l n := rfl
theorem l_slotI (l : List D) (kk : IntKind) (x : Int) : std.slot (.int kk x :: l) 0 = true := rfl
theorem l_slotB (l : List D) (x : Bool) : std.slot (.bool x :: l) 0 = true := rfl
theorem l_isOSS (s : Nat) (l : List D) (n : Nat) : std.isOS s (d :: l) (n + 1) = std.isOS s l n := rfl
theorem l_isOS0 (l c : List D) (n : Nat) : std.isOS 1 (.sl none 1 n c :: l) 0 = true := rfl
theorem l_isOS' (l : List D) (n : Nat) : std.isO (d :: l) (n + 1) = std.isO l n := rfl
theorem l_isO0 (l c : List D) (n : Nat) : std.isO (.sl none 1 n c :: l) 0 = true := rfl
theorem l_getNS (l : List D) (n : Nat) : std.getN (d :: l) (n + 1) = std.getN l n := rfl
theorem l_getN0 (l c : List D) (n : Nat) : std.getN (.sl none 1 n c :: l) 0 = n := rfl
theorem l_getCS (l : List D) (n : Nat) : std.getC (d :: l) (n + 1) = std.getC l n := rfl
theorem l_getC0 (l c : List D) (n : Nat) : std.getC (.sl none 1 n c :: l) 0 = c := rfl
end
theorem celz_length {α : Type} {e : α → List D} {w : Nat} (hw : ∀ x, (e x).length = w) (xs : List α) : (celz e xs).length = xs.length * w := by
  induction xs with
  | nil => simp [celz]
  | cons x xs ih =>
    have h : celz e (x :: xs) = e x ++ celz e xs := by simp [celz]
    rw [h, List.length_append, hw, ih, List.length_cons, Nat.succ_mul]
    omega
theorem celz_app {α : Type} (e : α → List D) (xs ys : List α) : celz e (xs ++ ys) = celz e xs ++ celz e ys := by simp [celz]
theorem celz_split {α : Type} (e : α → List D) {xs : List α} {i : Nat} (h : i < xs.length) : celz e xs = celz e (xs.take i) ++ (e xs[i] ++ celz e (xs.drop (i + 1))) := by
  have e1 : xs.take i ++ xs[i] :: xs.drop (i + 1) = xs := by rw [List.getElem_cons_drop h, List.take_append_drop]
  have h2 : celz e (xs[i] :: xs.drop (i + 1)) = e xs[i] ++ celz e (xs.drop (i + 1)) := by simp only [celz, List.flatMap_cons]
  rw [← h2, ← celz_app, e1]
theorem celz_set {α : Type} (e : α → List D) {xs : List α} {i : Nat} (h : i < xs.length) (x : α) : celz e (xs.set i x) = celz e (xs.take i) ++ (e x ++ celz e (xs.drop (i + 1))) := by
  have e1 : xs.set i x = xs.take i ++ x :: xs.drop (i + 1) := List.set_eq_take_append_cons_drop.trans (if_pos h)
  have h2 : celz e (x :: xs.drop (i + 1)) = e x ++ celz e (xs.drop (i + 1)) := by simp [celz]
  rw [e1, celz_app, h2]
theorem reps_celz {α : Type} (e : α → List D) (z : List D) (x : α) (h : z.map rowZ = e x) (n : Nat) : reps n z = celz e (List.replicate n x) := by
  unfold reps celz
  rw [h]
  simp [List.flatMap]
def zeroNode : MNode := ⟨0, false, false, [], ⟨[], [], false, false, false, 0⟩, ⟨[], []⟩, [], [], [], []⟩
theorem br_tt {R : Type} {b : Bool} {u v : R} (h : b = true) : br b u v = u := by rw [h]; rfl
theorem s_nlL : ∀ l : List D, std.nl l = noLentL l := fun _ => rfl
theorem noLentL_app (a b : List D) : noLentL (a ++ b) = (noLentL a && noLentL b) := by
  induction a with
  | nil => simp [noLentL]
  | cons x a ih => simp [noLentL, ih, Bool.and_assoc]
theorem s_nl_celz {α : Type} {e : α → List D} (h : ∀ x, std.nl (e x) = true) (xs : List α) : std.nl (celz e xs) = true := by
  induction xs with
  | nil => rfl
  | cons x xs ih =>
    have h1 : celz e (x :: xs) = e x ++ celz e xs := by simp [celz]
    rw [h1, s_nlL, noLentL_app, ← s_nlL, ← s_nlL, h, ih]
    rfl
theorem s_nlN (xs : List MNode) : std.nl (celz (eNode none) xs) = true := s_nl_celz (fun x => by
  have h1 := s_nlI; have h2 := s_nlRn; have h3 := s_nl8; have h4 := s_nlB
  simp only [s_nlL] at h1 h2 h3 h4 ⊢
  simp only [noLentL, noLent, h1, h2, h3, h4, Bool.and_self]) xs
theorem s_nlW (xs : List MWire) : std.nl (celz (eWire none) xs) = true := s_nl_celz (fun x => by
  have h3 := s_nl8
  simp only [s_nlL] at h3 ⊢
  simp only [noLentL, noLent, h3, Bool.and_self]) xs
theorem s_nlK (g : Option Bool) (xs : List MRec) : std.nl (celz (eRec g) xs) = true := s_nl_celz (fun _ => rfl) xs
def OkWire (x : MWire) : Prop := x.bytes.length ≤ 1048576
structure OkWorld (w : MWorld) : Prop where
  nodes : w.nodes.length ≤ 1048576
  node : ∀ n ∈ w.nodes, OkNode n
  net : w.net.length ≤ 1048576
  wire : ∀ x ∈ w.net, OkWire x
  log : w.log.length ≤ 1048576
  safe : w.safe.length ≤ 1048576

theorem c_toWire (g : Bool) (x : MWire) (h : OkWire x) : Cm 79 [.agg (eWire (some g) x)] (.agg (eWire none x), [.undef]) := by
  unfold OkWire at h
  refine Cm.fin k_laws_toWire fun J => ?_
  rw [e_laws_toWire]
  simp (disch := omega) only [v_toByteS, feed_sl, feed_done, s_nl8, br_t]
theorem c_toRec (g : Option Bool) (x : MRec) : Cm 80 [.agg (eRec g x)] (.agg (eRec none x), [.undef]) := by
  refine Cm.fin k_laws_toRec fun J => ?_
  rw [e_laws_toRec]
theorem c_eqWire (g h : Bool) (x : MWire) (ok : OkWire x) : Cm 81 [.agg (eWire (some g) x), .agg (eWire (some h) x)] (.bool true, [.undef, .undef]) := by
  unfold OkWire at ok
  refine Cm.fin k_laws_eqWire fun J => ?_
  rw [e_laws_eqWire]
  simp (disch := omega) only [v_eqByteS, feed_bool, feed_done, decide_true, br_t, br_f, br_eq]
theorem c_eqRec (g h : Option Bool) (x : MRec) : Cm 82 [.agg (eRec g x), .agg (eRec h x)] (.bool true, [.undef, .undef]) := by
  refine Cm.fin k_laws_eqRec fun J => ?_
  rw [e_laws_eqRec]
  simp (disch := omega) only [br_t, br_f, br_eq]
def LnWire (x : MWire) : Prop := x.bytes.length ≤ 140737488355328
def szWireF (x : MWire) (l : Int) : Int := szB (szF x.bytes.length l) fun l => l
theorem szWireF_le {x : MWire} {l : Int} (h : 0 ≤ l) (hm : l ≤ 1048576) : szWireF x l ≤ l ∧ -1 ≤ szWireF x l ∧ (0 ≤ szWireF x l → OkWire x) := by
  have := szB_pair (k := fun l => l) h (szF_ok (n := x.bytes.length) h hm) fun h3 => sz_end h3
  exact ⟨this.1, this.2.1, fun hh => (this.2.2 hh).1⟩
theorem szNodeF_le {x : MNode} {l : Int} (h : 0 ≤ l) (hm : l ≤ 1048576) : szNodeF x l ≤ l ∧ -1 ≤ szNodeF x l ∧ (0 ≤ szNodeF x l → OkNode x) := szNodeF_ok h hm
theorem c_szWire (g : Bool) (x : MWire) (left : Int) (h0 : 0 ≤ left) (h1 : left ≤ 1048576) (ln : LnWire x) : Cm 78 [.agg (eWire (some g) x), .int .i64 left] (.int .i64 (szWireF x left), [.undef, .undef]) := by
  unfold LnWire at ln
  refine Cm.fin k_laws_szWire fun J => ?_
  rw [e_laws_szWire]
  simp (disch := omega) only [v_szByteS, feed_int, feed_done]
  exact br_szB (f := fun v => some (.int .i64 v, [.undef, .undef])) fun _ => rfl
theorem c_szRecS (g : Bool) (n : Nat) (c : List D) (left : Int) (h0 : 0 ≤ left) (h1 : left ≤ 1048576) (hn : n ≤ 140737488355328) : Cm 55 [.sl (some g) 2 n c, .int .i64 left] (.int .i64 (szF n left), [.undef, .undef]) := by
  refine Cm.fin k_laws_szRecS fun J => ?_
  rw [e_laws_szRecS]
  unfold szF
  by_cases h : left < n
  · rw [if_pos h]
    simp (disch := omega) only [s_ofN, s_sub, br_lt]
  · rw [if_neg h]
    simp (disch := omega) only [s_ofN, s_sub, br_nlt]
section
variable (t : Tel Rz)
theorem v_toWire (g : Bool) (x : MWire) (h : OkWire x) : cvP 79 [.agg (eWire (some g) x)] t = feed t (eWire none x) := cvP_eq (c_toWire g x h) (by kernel_rfl) t
theorem v_eqWire (g h : Bool) (x : MWire) (ok : OkWire x) : cvP 81 [.agg (eWire (some g) x), .agg (eWire (some h) x)] t = feed t [.bool true] := cvP_eq (c_eqWire g h x ok) (by kernel_rfl) t
theorem v_toRec (a b : Int) : cvP 80 [.agg [.int .i64 a, .int .i64 b]] t = feed t [.int .i64 a, .int .i64 b] := cvP_eq (c_toRec none ⟨a, b⟩) (by kernel_rfl) t
theorem v_eqRec (a b : Int) : cvP 82 [.agg [.int .i64 a, .int .i64 b], .agg [.int .i64 a, .int .i64 b]] t = feed t [.bool true] := cvP_eq (c_eqRec none none ⟨a, b⟩) (by kernel_rfl) t
theorem v_szWire (g : Bool) (x : MWire) (left : Int) (h0 : 0 ≤ left) (h1 : left ≤ 1048576) (ln : LnWire x) : cvP 78 [.agg (eWire (some g) x), .int .i64 left] t = feed t [.int .i64 (szWireF x left)] := cvP_eq (c_szWire g x left h0 h1 ln) (by kernel_rfl) t
end

theorem c_toNodeS (g : Bool) (xs : List MNode) (hb : xs.length ≤ 1048576) (ok : ∀ x ∈ xs, OkNode x) : Cm 56 [.sl (some g) 16 xs.length (celz (eNode (some g)) xs)] (.sl none 16 xs.length (celz (eNode none) xs), [.undef]) := by
  refine Cm.go k_laws_toNodeS [.undef] 0 (h_laws_toNodeS_0 g xs.length (celz (eNode (some g)) xs) (0 : Nat) xs.length (celz (eNode none) (List.replicate xs.length zeroNode))) ?_ fun J hJ => ?_
  · refine WP.loop (H := fun i => h_laws_toNodeS_0 g xs.length (celz (eNode (some g)) xs) (i : Nat) xs.length (celz (eNode none) (xs.take i ++ List.replicate (xs.length - i) zeroNode))) (n := xs.length) (fun _ => True) (fun i hi _ ih => WP.go _ (ih trivial) fun J hJ => ?_) (fun _ => WP.fin fun J => ?_) 0 (Nat.zero_le _) trivial
    · rw [eh_laws_toNodeS_0]
      have hx := ok _ (List.getElem_mem hi)
      have hy : i < (xs.take i ++ List.replicate (xs.length - i) zeroNode).length := by simp; omega
      rw [← rep_step hi _ xs rfl hi, celz_set _ hy] at hJ
      rw [celz_split _ hy]
      have hA : (celz (eNode none) ((xs.take i ++ List.replicate (xs.length - i) zeroNode).take i)).length = i * 16 := by
        rw [celz_length (w := 16) (fun _ => rfl), List.length_take]
        congr 1
        simp; omega
      simp (disch := first | omega | assumption | exact hA | (simp; done)) only [br_t, br_f, br_tf, s_ofN, br_lt, br_inR, idxw, zN0_c, zN0_v, zN1_c, zN1_v, zN2_c, zN2_v, zN3_c, zN3_g, zN3_n, zN3_l, zN4_c, zN4_g, zN4_n, zN4_l, zN5_c, zN5_g, zN5_n, zN5_l, zN6_c, zN6_v, zN7_c, zN7_v, zN8_c, zN8_v, zN9_c, zN9_v, zN10_c, zN10_g, zN10_n, zN10_l, zN11_c, zN11_g, zN11_n, zN11_l, zN12_c, zN12_g, zN12_n, zN12_l, zN13_c, zN13_g, zN13_n, zN13_l, zN14_c, zN14_g, zN14_n, zN14_l, zN15_c, zN15_g, zN15_n, zN15_l, v_toNode, feed_sl, feed_int, feed_bool, feed_done, s_nlI, s_nlRn, s_nl8, s_nlB, zs_ne, zs_slot, zs_slot0, zs_isOS, zs_set, zs_set0, List.set_cons_zero, List.set_cons_succ, l_slotS, l_slotI, l_slotB, l_isOSS, l_isOS0, cvP_nm, s_inc]
      exact hJ
    · rw [eh_laws_toNodeS_0]
      simp (disch := omega) only [br_t, br_f, s_ofN, br_nlt, List.take_length, Nat.sub_self, List.replicate_zero, List.append_nil]
  · rw [e_laws_toNodeS]
    have hz := fun n => reps_celz (eNode none) [.int .i64 0, .bool false, .bool false, .nil 1, .nil 1, .nil 1, .bool false, .bool false, .bool false, .int .i64 0, .nil 1, .nil 1, .nil 1, .nil 1, .nil 1, .nil 1] zeroNode rfl n
    simp (disch := omega) only [br_t, br_f, s_ofN, br_mkok, s_toN, hz]
    exact hJ
theorem c_eqNodeS (g h : Bool) (xs : List MNode) (hb : xs.length ≤ 1048576) (ok : ∀ x ∈ xs, OkNode x) : Cm 60 [.sl (some g) 16 xs.length (celz (eNode (some g)) xs), .sl (some h) 16 xs.length (celz (eNode (some h)) xs)] (.bool true, [.undef, .undef]) := by
  refine Cm.go k_laws_eqNodeS [.undef, .undef] 0 (h_laws_eqNodeS_0 g xs.length (celz (eNode (some g)) xs) h xs.length (celz (eNode (some h)) xs) (0 : Nat)) ?_ fun J hJ => ?_
  · refine WP.loop (H := fun i => h_laws_eqNodeS_0 g xs.length (celz (eNode (some g)) xs) h xs.length (celz (eNode (some h)) xs) (i : Nat)) (n := xs.length) (fun _ => True) (fun i hi _ ih => WP.go _ (ih trivial) fun J hJ => ?_) (fun _ => WP.fin fun J => ?_) 0 (Nat.zero_le _) trivial
    · rw [eh_laws_eqNodeS_0]
      have hx := ok _ (List.getElem_mem hi)
      simp (disch := first | omega | assumption) only [br_t, br_f, br_tf, br_ft, s_ofN, br_lt, br_inR, idxw, zN0_c, zN0_v, zN1_c, zN1_v, zN2_c, zN2_v, zN3_c, zN3_g, zN3_n, zN3_l, zN4_c, zN4_g, zN4_n, zN4_l, zN5_c, zN5_g, zN5_n, zN5_l, zN6_c, zN6_v, zN7_c, zN7_v, zN8_c, zN8_v, zN9_c, zN9_v, zN10_c, zN10_g, zN10_n, zN10_l, zN11_c, zN11_g, zN11_n, zN11_l, zN12_c, zN12_g, zN12_n, zN12_l, zN13_c, zN13_g, zN13_n, zN13_l, zN14_c, zN14_g, zN14_n, zN14_l, zN15_c, zN15_g, zN15_n, zN15_l, v_eqNode, feed_bool, feed_done, s_inc]
      exact hJ
    · rw [eh_laws_eqNodeS_0]
      simp (disch := omega) only [br_t, br_f, s_ofN, br_nlt]
  · rw [e_laws_eqNodeS]
    simp (disch := omega) only [br_t, br_f, s_ofN, br_ft, br_nb, br_eq]
    exact hJ

theorem c_toWireS (g : Bool) (xs : List MWire) (hb : xs.length ≤ 1048576) (ok : ∀ x ∈ xs, OkWire x) : Cm 57 [.sl (some g) 3 xs.length (celz (eWire (some g)) xs)] (.sl none 3 xs.length (celz (eWire none) xs), [.undef]) := by
  refine Cm.go k_laws_toWireS [.undef] 0 (h_laws_toWireS_0 g xs.length (celz (eWire (some g)) xs) (0 : Nat) xs.length (celz (eWire none) (List.replicate xs.length (⟨0, 0, []⟩ : MWire)))) ?_ fun J hJ => ?_
  · refine WP.loop (H := fun i => h_laws_toWireS_0 g xs.length (celz (eWire (some g)) xs) (i : Nat) xs.length (celz (eWire none) (xs.take i ++ List.replicate (xs.length - i) (⟨0, 0, []⟩ : MWire)))) (n := xs.length) (fun _ => True) (fun i hi _ ih => WP.go _ (ih trivial) fun J hJ => ?_) (fun _ => WP.fin fun J => ?_) 0 (Nat.zero_le _) trivial
    · rw [eh_laws_toWireS_0]
      have hx := ok _ (List.getElem_mem hi)
      have hy : i < (xs.take i ++ List.replicate (xs.length - i) (⟨0, 0, []⟩ : MWire)).length := by simp; omega
      rw [← rep_step hi _ xs rfl hi, celz_set _ hy] at hJ
      rw [celz_split _ hy]
      have hA : (celz (eWire none) ((xs.take i ++ List.replicate (xs.length - i) (⟨0, 0, []⟩ : MWire)).take i)).length = i * 3 := by
        rw [celz_length (w := 3) (fun _ => rfl), List.length_take]
        congr 1
        simp; omega
      simp (disch := first | omega | assumption | exact hA | (simp; done)) only [br_t, br_f, br_tf, s_ofN, br_lt, br_inR, idxw, zW0_c, zW0_v, zW1_c, zW1_v, zW2_c, zW2_g, zW2_n, zW2_l, v_toWire, feed_sl, feed_int, feed_bool, feed_done, s_nlI, s_nlRn, s_nl8, s_nlB, zs_ne, zs_slot, zs_slot0, zs_isOS, zs_set, zs_set0, List.set_cons_zero, List.set_cons_succ, l_slotS, l_slotI, l_slotB, l_isOSS, l_isOS0, cvP_nm, s_inc]
      exact hJ
    · rw [eh_laws_toWireS_0]
      simp (disch := omega) only [br_t, br_f, s_ofN, br_nlt, List.take_length, Nat.sub_self, List.replicate_zero, List.append_nil]
  · rw [e_laws_toWireS]
    have hz := fun n => reps_celz (eWire none) [.int .i64 0, .int .i64 0, .nil 1] (⟨0, 0, []⟩ : MWire) rfl n
    simp (disch := omega) only [br_t, br_f, s_ofN, br_mkok, s_toN, hz]
    exact hJ
theorem c_eqWireS (g h : Bool) (xs : List MWire) (hb : xs.length ≤ 1048576) (ok : ∀ x ∈ xs, OkWire x) : Cm 61 [.sl (some g) 3 xs.length (celz (eWire (some g)) xs), .sl (some h) 3 xs.length (celz (eWire (some h)) xs)] (.bool true, [.undef, .undef]) := by
  refine Cm.go k_laws_eqWireS [.undef, .undef] 0 (h_laws_eqWireS_0 g xs.length (celz (eWire (some g)) xs) h xs.length (celz (eWire (some h)) xs) (0 : Nat)) ?_ fun J hJ => ?_
  · refine WP.loop (H := fun i => h_laws_eqWireS_0 g xs.length (celz (eWire (some g)) xs) h xs.length (celz (eWire (some h)) xs) (i : Nat)) (n := xs.length) (fun _ => True) (fun i hi _ ih => WP.go _ (ih trivial) fun J hJ => ?_) (fun _ => WP.fin fun J => ?_) 0 (Nat.zero_le _) trivial
    · rw [eh_laws_eqWireS_0]
      have hx := ok _ (List.getElem_mem hi)
      simp (disch := first | omega | assumption) only [br_t, br_f, br_tf, br_ft, s_ofN, br_lt, br_inR, idxw, zW0_c, zW0_v, zW1_c, zW1_v, zW2_c, zW2_g, zW2_n, zW2_l, v_eqWire, feed_bool, feed_done, s_inc]
      exact hJ
    · rw [eh_laws_eqWireS_0]
      simp (disch := omega) only [br_t, br_f, s_ofN, br_nlt]
  · rw [e_laws_eqWireS]
    simp (disch := omega) only [br_t, br_f, s_ofN, br_ft, br_nb, br_eq]
    exact hJ

theorem c_toRecS (g : Bool) (xs : List MRec) (hb : xs.length ≤ 1048576) : Cm 58 [.sl (some g) 2 xs.length (celz (eRec (some g)) xs)] (.sl none 2 xs.length (celz (eRec none) xs), [.undef]) := by
  refine Cm.go k_laws_toRecS [.undef] 0 (h_laws_toRecS_0 g xs.length (celz (eRec (some g)) xs) (0 : Nat) xs.length (celz (eRec none) (List.replicate xs.length (⟨0, 0⟩ : MRec)))) ?_ fun J hJ => ?_
  · refine WP.loop (H := fun i => h_laws_toRecS_0 g xs.length (celz (eRec (some g)) xs) (i : Nat) xs.length (celz (eRec none) (xs.take i ++ List.replicate (xs.length - i) (⟨0, 0⟩ : MRec)))) (n := xs.length) (fun _ => True) (fun i hi _ ih => WP.go _ (ih trivial) fun J hJ => ?_) (fun _ => WP.fin fun J => ?_) 0 (Nat.zero_le _) trivial
    · rw [eh_laws_toRecS_0]
      have hx := hi
      have hy : i < (xs.take i ++ List.replicate (xs.length - i) (⟨0, 0⟩ : MRec)).length := by simp; omega
      rw [← rep_step hi _ xs rfl hi, celz_set _ hy] at hJ
      rw [celz_split _ hy]
      have hA : (celz (eRec none) ((xs.take i ++ List.replicate (xs.length - i) (⟨0, 0⟩ : MRec)).take i)).length = i * 2 := by
        rw [celz_length (w := 2) (fun _ => rfl), List.length_take]
        congr 1
        simp; omega
      simp (disch := first | omega | assumption | exact hA | (simp; done)) only [br_t, br_f, br_tf, s_ofN, br_lt, br_inR, idxw, zK0_c, zK0_v, zK1_c, zK1_v, v_toRec, feed_sl, feed_int, feed_bool, feed_done, s_nlI, s_nlRn, s_nl8, s_nlB, zs_ne, zs_slot, zs_slot0, zs_isOS, zs_set, zs_set0, List.set_cons_zero, List.set_cons_succ, l_slotS, l_slotI, l_slotB, l_isOSS, l_isOS0, cvP_nm, s_inc]
      exact hJ
    · rw [eh_laws_toRecS_0]
      simp (disch := omega) only [br_t, br_f, s_ofN, br_nlt, List.take_length, Nat.sub_self, List.replicate_zero, List.append_nil]
  · rw [e_laws_toRecS]
    have hz := fun n => reps_celz (eRec none) [.int .i64 0, .int .i64 0] (⟨0, 0⟩ : MRec) rfl n
    simp (disch := omega) only [br_t, br_f, s_ofN, br_mkok, s_toN, hz]
    exact hJ
theorem c_eqRecS (g h : Bool) (xs : List MRec) (hb : xs.length ≤ 1048576) : Cm 62 [.sl (some g) 2 xs.length (celz (eRec (some g)) xs), .sl (some h) 2 xs.length (celz (eRec (some h)) xs)] (.bool true, [.undef, .undef]) := by
  refine Cm.go k_laws_eqRecS [.undef, .undef] 0 (h_laws_eqRecS_0 g xs.length (celz (eRec (some g)) xs) h xs.length (celz (eRec (some h)) xs) (0 : Nat)) ?_ fun J hJ => ?_
  · refine WP.loop (H := fun i => h_laws_eqRecS_0 g xs.length (celz (eRec (some g)) xs) h xs.length (celz (eRec (some h)) xs) (i : Nat)) (n := xs.length) (fun _ => True) (fun i hi _ ih => WP.go _ (ih trivial) fun J hJ => ?_) (fun _ => WP.fin fun J => ?_) 0 (Nat.zero_le _) trivial
    · rw [eh_laws_eqRecS_0]
      have hx := hi
      simp (disch := first | omega | assumption) only [br_t, br_f, br_tf, br_ft, s_ofN, br_lt, br_inR, idxw, zK0_c, zK0_v, zK1_c, zK1_v, v_eqRec, feed_bool, feed_done, s_inc]
      exact hJ
    · rw [eh_laws_eqRecS_0]
      simp (disch := omega) only [br_t, br_f, s_ofN, br_nlt]
  · rw [e_laws_eqRecS]
    simp (disch := omega) only [br_t, br_f, s_ofN, br_ft, br_nb, br_eq]
    exact hJ

def szNodeSF (xs : List MNode) (l : Int) : Int := szB (szF xs.length l) (szL szNodeF xs)
theorem c_szNodeS (g : Bool) (xs : List MNode) (left : Int) (h0 : 0 ≤ left) (h1 : left ≤ 1048576) (hn : xs.length ≤ 140737488355328) (hx : ∀ x ∈ xs, LnNode x) : Cm 53 [.sl (some g) 16 xs.length (celz (eNode (some g)) xs), .int .i64 left] (.int .i64 (szNodeSF xs left), [.undef, .undef]) := by
  have hlen := szF_le (n := xs.length) h0
  have loop : ∀ k i (l : Int), i + k = xs.length → 0 ≤ l → l ≤ 1048576 → WP 53 Try.f53 [.undef, .undef] 0 (h_laws_szNodeS_0 g xs.length (celz (eNode (some g)) xs) l (i : Nat)) (.int .i64 (szL szNodeF (xs.drop i) l), [.undef, .undef]) := by
    intro k
    induction k with
    | zero =>
      intro i l hi hl hm
      refine WP.fin fun J => ?_
      rw [eh_laws_szNodeS_0, List.drop_of_length_le (by omega)]
      simp (disch := omega) only [s_ofN, br_nlt, szL]
    | succ k ih =>
      intro i l hi hl hm
      have hi' : i < xs.length := by omega
      have hxi := hx _ (List.getElem_mem hi')
      obtain ⟨a1, a2, a3⟩ := szNodeF_le (x := xs[i]) hl hm
      have e : szL szNodeF (xs.drop i) l = szB (szNodeF xs[i] l) (szL szNodeF (xs.drop (i + 1))) := by
        rw [← List.getElem_cons_drop hi']
        rfl
      rw [e]
      by_cases hv : szNodeF xs[i] l < 0
      · refine WP.fin fun J => ?_
        rw [eh_laws_szNodeS_0, szB_neg _ hv]
        simp (disch := first | omega | assumption) only [br_t, br_f, br_tf, s_ofN, br_lt, br_inR, idxw, zN0_c, zN0_v, zN1_c, zN1_v, zN2_c, zN2_v, zN3_c, zN3_g, zN3_n, zN3_l, zN4_c, zN4_g, zN4_n, zN4_l, zN5_c, zN5_g, zN5_n, zN5_l, zN6_c, zN6_v, zN7_c, zN7_v, zN8_c, zN8_v, zN9_c, zN9_v, zN10_c, zN10_g, zN10_n, zN10_l, zN11_c, zN11_g, zN11_n, zN11_l, zN12_c, zN12_g, zN12_n, zN12_l, zN13_c, zN13_g, zN13_n, zN13_l, zN14_c, zN14_g, zN14_n, zN14_l, zN15_c, zN15_g, zN15_n, zN15_l, v_szNode, feed_int, feed_done]
      · rw [szB_pos _ (by omega)]
        refine WP.go _ (ih (i + 1) (szNodeF xs[i] l) (by omega) (by omega) (by omega)) fun J hJ => ?_
        rw [eh_laws_szNodeS_0]
        have hv' : 0 ≤ szNodeF xs[i] l := by omega
        simp (disch := first | omega | assumption) only [br_t, br_f, br_tf, s_ofN, br_lt, br_inR, idxw, zN0_c, zN0_v, zN1_c, zN1_v, zN2_c, zN2_v, zN3_c, zN3_g, zN3_n, zN3_l, zN4_c, zN4_g, zN4_n, zN4_l, zN5_c, zN5_g, zN5_n, zN5_l, zN6_c, zN6_v, zN7_c, zN7_v, zN8_c, zN8_v, zN9_c, zN9_v, zN10_c, zN10_g, zN10_n, zN10_l, zN11_c, zN11_g, zN11_n, zN11_l, zN12_c, zN12_g, zN12_n, zN12_l, zN13_c, zN13_g, zN13_n, zN13_l, zN14_c, zN14_g, zN14_n, zN14_l, zN15_c, zN15_g, zN15_n, zN15_l, v_szNode, feed_int, feed_done, br_nlt, s_inc]
        exact hJ
  by_cases h : left < xs.length
  · refine Cm.fin k_laws_szNodeS fun J => ?_
    rw [e_laws_szNodeS, szNodeSF, szB_neg _ (by unfold szF; rw [if_pos h]; omega)]
    simp (disch := omega) only [s_ofN, s_sub, br_lt]
  · have e : szF xs.length left = left - xs.length := if_neg h
    rw [szNodeSF, szB_pos _ (by omega), e]
    refine Cm.go k_laws_szNodeS [.undef, .undef] 0 _ (loop xs.length 0 (left - xs.length) (by omega) (by omega) (by omega)) fun J hJ => ?_
    rw [e_laws_szNodeS]
    simp (disch := omega) only [s_ofN, s_sub, br_nlt]
    exact hJ

def szWireSF (xs : List MWire) (l : Int) : Int := szB (szF xs.length l) (szL szWireF xs)
theorem c_szWireS (g : Bool) (xs : List MWire) (left : Int) (h0 : 0 ≤ left) (h1 : left ≤ 1048576) (hn : xs.length ≤ 140737488355328) (hx : ∀ x ∈ xs, LnWire x) : Cm 54 [.sl (some g) 3 xs.length (celz (eWire (some g)) xs), .int .i64 left] (.int .i64 (szWireSF xs left), [.undef, .undef]) := by
  have hlen := szF_le (n := xs.length) h0
  have loop : ∀ k i (l : Int), i + k = xs.length → 0 ≤ l → l ≤ 1048576 → WP 54 Try.f54 [.undef, .undef] 0 (h_laws_szWireS_0 g xs.length (celz (eWire (some g)) xs) l (i : Nat)) (.int .i64 (szL szWireF (xs.drop i) l), [.undef, .undef]) := by
    intro k
    induction k with
    | zero =>
      intro i l hi hl hm
      refine WP.fin fun J => ?_
      rw [eh_laws_szWireS_0, List.drop_of_length_le (by omega)]
      simp (disch := omega) only [s_ofN, br_nlt, szL]
    | succ k ih =>
      intro i l hi hl hm
      have hi' : i < xs.length := by omega
      have hxi := hx _ (List.getElem_mem hi')
      obtain ⟨a1, a2, a3⟩ := szWireF_le (x := xs[i]) hl hm
      have e : szL szWireF (xs.drop i) l = szB (szWireF xs[i] l) (szL szWireF (xs.drop (i + 1))) := by
        rw [← List.getElem_cons_drop hi']
        rfl
      rw [e]
      by_cases hv : szWireF xs[i] l < 0
      · refine WP.fin fun J => ?_
        rw [eh_laws_szWireS_0, szB_neg _ hv]
        simp (disch := first | omega | assumption) only [br_t, br_f, br_tf, s_ofN, br_lt, br_inR, idxw, zW0_c, zW0_v, zW1_c, zW1_v, zW2_c, zW2_g, zW2_n, zW2_l, v_szWire, feed_int, feed_done]
      · rw [szB_pos _ (by omega)]
        refine WP.go _ (ih (i + 1) (szWireF xs[i] l) (by omega) (by omega) (by omega)) fun J hJ => ?_
        rw [eh_laws_szWireS_0]
        have hv' : 0 ≤ szWireF xs[i] l := by omega
        simp (disch := first | omega | assumption) only [br_t, br_f, br_tf, s_ofN, br_lt, br_inR, idxw, zW0_c, zW0_v, zW1_c, zW1_v, zW2_c, zW2_g, zW2_n, zW2_l, v_szWire, feed_int, feed_done, br_nlt, s_inc]
        exact hJ
  by_cases h : left < xs.length
  · refine Cm.fin k_laws_szWireS fun J => ?_
    rw [e_laws_szWireS, szWireSF, szB_neg _ (by unfold szF; rw [if_pos h]; omega)]
    simp (disch := omega) only [s_ofN, s_sub, br_lt]
  · have e : szF xs.length left = left - xs.length := if_neg h
    rw [szWireSF, szB_pos _ (by omega), e]
    refine Cm.go k_laws_szWireS [.undef, .undef] 0 _ (loop xs.length 0 (left - xs.length) (by omega) (by omega) (by omega)) fun J hJ => ?_
    rw [e_laws_szWireS]
    simp (disch := omega) only [s_ofN, s_sub, br_nlt]
    exact hJ
end Go.Proofs.Ytkejckoefjonjaa
