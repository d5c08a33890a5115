/- FnExactMayWrite: the program's MayWrite returns what the reference's returns, for all arguments (a node). No condition. -/
import Derived.Attr
import Derived.Test.YtkejckoefjonjaaRows
import Derived.WalkKit
import Derived.ProofKit
import Derived.OpenShut
import Derived.ShutString
import Derived.ChangeOld
import Derived.ChangeSame
import Derived.Below
import Derived.Carry
import Derived.SizedLaws
import Derived.Test.YtkejckoefjonjaaMd
set_option linter.all false
set_option linter.unusedSimpArgs false
set_option linter.unusedVariables false
set_option linter.unnecessarySimpa false
set_option linter.unusedSectionVars false
namespace Go.Proofs.Ytkejckoefjonjaa
set_option maxRecDepth 100000
section
variable (pr : Prims) (cv : Cv Rz) (J : Nat → St → Option Rz)
def h_impl_putNums_0 (g0 : Bool) (n1 : Nat) (c2 : List D) (i3 : Int) (i4 : Int) (n5 : Nat) (c6 : List D) : St := (St.mk [(3, (.ref 10003 [] 0 none)), (7, (.sl (some g0) 1 n1 c2)), (8, (.int .i64 i3)), (9, (.int .i64 i4))] [(10003, [(.sl none 1 n5 c6)])] [] 0)
theorem k_impl_putNums : Told cfg Try.prog 145 Try.f145 := ⟨by kernel_rfl, Try.func145, by kernel_rfl⟩
theorem e_impl_putNums (g0 : Bool) (n0 : Nat) (c0 : List D) : RunJ pr cv J 145 Try.f145 [(.sl (some g0) 1 n0 c0)] =
    (J 0 (h_impl_putNums_0 g0 n0 c0 (pr.ofN n0) 0 0 [])) := by kernel_rfl
theorem eh_impl_putNums_0 (g0 : Bool) (n1 : Nat) (c2 : List D) (i3 : Int) (i4 : Int) (n5 : Nat) (c6 : List D) : HeadJ pr cv J 145 Try.f145 [.undef] 0 (h_impl_putNums_0 g0 n1 c2 i3 i4 n5 c6) =
    (br (pr.lt i4 i3) (br (pr.inR i4 n1) (br (br (pr.isI .i64 c2 (pr.idx 0 i4 1)) true false) (cv 147 [(.int .i64 (pr.getI c2 (pr.idx 0 i4 1)))] (.sl (fun vn0 => (fun vc1 => (.done (br (br (br (pr.nl vc1) true false) true false) (br (br (pr.flat vc1) (pr.fits (n5 + vn0) 1) false) (J 0 (h_impl_putNums_0 g0 n1 c2 i3 (pr.ar .add .i64 i4 1) (n5 + vn0) (List.append c6 vc1))) none) none)))))) none) none) (some ((.sl none 1 n5 c6), [.undef]))) := by kernel_rfl
theorem k_impl_putList : Told cfg Try.prog 144 Try.f144 := ⟨by kernel_rfl, Try.func144, by kernel_rfl⟩
theorem e_impl_putList (g0 : Bool) (n0 : Nat) (c0 : List D) : RunJ pr cv J 144 Try.f144 [(.sl (some g0) 1 n0 c0)] =
    (cv 145 [(.sl (some true) 1 1 [(.int .i64 (pr.ofN n0))])] (.sl (fun vn0 => (fun vc1 => (.done (br (br (br (pr.nl vc1) true false) true false) (cv 145 [(.sl (some g0) 1 n0 c0)] (.sl (fun vn2 => (fun vc3 => (.done (br (br (br (pr.nl vc3) true false) true false) (br (br (pr.flat vc3) (pr.fits (vn0 + vn2) 1) false) (some ((.sl none 1 (vn0 + vn2) (List.append vc1 vc3)), [.undef])) none) none)))))) none)))))) := by kernel_rfl
def h_spec_MetaBytes_0 (i0 : Int) (g1 : Bool) (n2 : Nat) (c3 : List D) (g4 : Bool) (n5 : Nat) (c6 : List D) (b7 : Bool) (b8 : Bool) (b9 : Bool) (i10 : Int) (n11 : Nat) (c12 : List D) : St := (St.mk [(1, (.ptr 1 [] 0)), (3, (.ref 10003 [] 0 none)), (4, (.int .i64 i0))] [(1, [(.sl (some g1) 1 n2 c3), (.sl (some g4) 1 n5 c6), (.bool b7), (.bool b8), (.bool b9), (.int .i64 i10)]), (10003, [(.sl none 1 n11 c12)])] [] 0)
def h_spec_MetaBytes_2 (i0 : Int) (g1 : Bool) (n2 : Nat) (c3 : List D) (g4 : Bool) (n5 : Nat) (c6 : List D) (b7 : Bool) (b8 : Bool) (b9 : Bool) (i10 : Int) (n11 : Nat) (c12 : List D) : St := (St.mk [(1, (.ptr 1 [] 0)), (3, (.ref 10003 [] 0 none)), (5, (.int .i64 i0))] [(1, [(.sl (some g1) 1 n2 c3), (.sl (some g4) 1 n5 c6), (.bool b7), (.bool b8), (.bool b9), (.int .i64 i10)]), (10003, [(.sl none 1 n11 c12)])] [] 0)
def h_spec_MetaBytes_4 (i0 : Int) (i1 : Int) (g2 : Bool) (n3 : Nat) (c4 : List D) (g5 : Bool) (n6 : Nat) (c7 : List D) (b8 : Bool) (b9 : Bool) (b10 : Bool) (i11 : Int) (n12 : Nat) (c13 : List D) : St := (St.mk [(1, (.ptr 1 [] 0)), (3, (.ref 10003 [] 0 none)), (5, (.int .i64 i0)), (6, (.int .i64 i1))] [(1, [(.sl (some g2) 1 n3 c4), (.sl (some g5) 1 n6 c7), (.bool b8), (.bool b9), (.bool b10), (.int .i64 i11)]), (10003, [(.sl none 1 n12 c13)])] [] 0)
theorem k_spec_MetaBytes : Told cfg Try.prog 130 Try.f130 := ⟨by kernel_rfl, Try.func130, by kernel_rfl⟩
theorem e_spec_MetaBytes (g0 : Bool) (n0 : Nat) (c0 : List D) (g1 : Bool) (n1 : Nat) (c1 : List D) (a2 : Bool) (a3 : Bool) (a4 : Bool) (a5 : Int) : RunJ pr cv J 130 Try.f130 [(.agg [(.sl (some g0) 1 n0 c0), (.sl (some g1) 1 n1 c1), (.bool a2), (.bool a3), (.bool a4), (.int .i64 a5)])] =
    let y1 : List D := [(.sl (some g0) 1 n0 c0), (.sl (some g1) 1 n1 c1), (.bool a2), (.bool a3), (.bool a4), (.int .i64 a5)]
    (cv 88 [(.agg y1)] (.bool (fun vb0 => (.done (br (br vb0 false true) (some ((.sl none 1 0 []), [.undef])) (cv 137 [(.int .i64 (pr.ofN n0))] (.sl (fun vn1 => (fun vc2 => (.done (br (br (br (pr.nl vc2) true false) true false) (J 0 (h_spec_MetaBytes_0 0 g0 n0 c0 g1 n1 c1 a2 a3 a4 a5 vn1 vc2)) none))))))))))) := by kernel_rfl
theorem eh_spec_MetaBytes_0 (i0 : Int) (g1 : Bool) (n2 : Nat) (c3 : List D) (g4 : Bool) (n5 : Nat) (c6 : List D) (b7 : Bool) (b8 : Bool) (b9 : Bool) (i10 : Int) (n11 : Nat) (c12 : List D) : HeadJ pr cv J 130 Try.f130 [.undef] 0 (h_spec_MetaBytes_0 i0 g1 n2 c3 g4 n5 c6 b7 b8 b9 i10 n11 c12) =
    (br (pr.lt i0 (pr.ofN n2)) (br (pr.inR i0 n2) (br (br (pr.isI .i64 c3 (pr.idx 0 i0 1)) true false) (cv 137 [(.int .i64 (pr.getI c3 (pr.idx 0 i0 1)))] (.sl (fun vn0 => (fun vc1 => (.done (br (br (br (pr.nl vc1) true false) true false) (br (br (pr.flat vc1) (pr.fits (n11 + vn0) 1) false) (J 0 (h_spec_MetaBytes_0 (pr.ar .add .i64 i0 1) g1 n2 c3 g4 n5 c6 b7 b8 b9 i10 (n11 + vn0) (List.append c12 vc1))) none) none)))))) none) none) (J 2 (h_spec_MetaBytes_2 0 g1 n2 c3 g4 n5 c6 b7 b8 b9 i10 n11 c12))) := by kernel_rfl
theorem eh_spec_MetaBytes_2 (i0 : Int) (g1 : Bool) (n2 : Nat) (c3 : List D) (g4 : Bool) (n5 : Nat) (c6 : List D) (b7 : Bool) (b8 : Bool) (b9 : Bool) (i10 : Int) (n11 : Nat) (c12 : List D) : HeadJ pr cv J 130 Try.f130 [.undef] 2 (h_spec_MetaBytes_2 i0 g1 n2 c3 g4 n5 c6 b7 b8 b9 i10 n11 c12) =
    (br (pr.lt i0 3) (br (pr.inR i0 n5) (br (br (pr.isL 1 c6 (pr.idx 0 i0 1)) true false) (cv 137 [(.int .i64 (pr.ofN (pr.getN c6 (pr.idx 0 i0 1))))] (.sl (fun vn0 => (fun vc1 => (.done (br (br (br (pr.nl vc1) true false) true false) (br (br (pr.flat vc1) (pr.fits (n11 + vn0) 1) false) (J 4 (h_spec_MetaBytes_4 i0 0 g1 n2 c3 g4 n5 c6 b7 b8 b9 i10 (n11 + vn0) (List.append c12 vc1))) none) none)))))) none) none) (cv 138 [(.bool b7)] (.int (fun vx2 => (.done (cv 138 [(.bool b8)] (.int (fun vx3 => (.done (cv 138 [(.bool b9)] (.int (fun vx4 => (.done (cv 137 [(.int .i64 (pr.ar .add .i64 (pr.ar .add .i64 vx2 (pr.ar .mul .i64 2 vx3)) (pr.ar .mul .i64 4 vx4)))] (.sl (fun vn5 => (fun vc6 => (.done (br (br (br (pr.nl vc6) true false) true false) (br (br (pr.flat vc6) (pr.fits (n11 + vn5) 1) false) (cv 137 [(.int .i64 i10)] (.sl (fun vn7 => (fun vc8 => (.done (br (br (br (pr.nl vc8) true false) true false) (br (br (pr.flat vc8) (pr.fits ((n11 + vn5) + vn7) 1) false) (some ((.sl none 1 ((n11 + vn5) + vn7) (List.append (List.append c12 vc6) vc8)), [.undef])) none) none)))))) none) none))))))))))))))))))) := by kernel_rfl
theorem eh_spec_MetaBytes_4 (i0 : Int) (i1 : Int) (g2 : Bool) (n3 : Nat) (c4 : List D) (g5 : Bool) (n6 : Nat) (c7 : List D) (b8 : Bool) (b9 : Bool) (b10 : Bool) (i11 : Int) (n12 : Nat) (c13 : List D) : HeadJ pr cv J 130 Try.f130 [.undef] 4 (h_spec_MetaBytes_4 i0 i1 g2 n3 c4 g5 n6 c7 b8 b9 b10 i11 n12 c13) =
    (br (pr.inR i0 n6) (br (br (pr.isL 1 c7 (pr.idx 0 i0 1)) true false) (br (pr.lt i1 (pr.ofN (pr.getN c7 (pr.idx 0 i0 1)))) (br (pr.inR i0 n6) (br (br (pr.isL 1 c7 (pr.idx 0 i0 1)) true false) (br (pr.inR i1 (pr.getN c7 (pr.idx 0 i0 1))) (br (br (pr.isI .i64 (pr.getC c7 (pr.idx 0 i0 1)) (pr.idx 0 i1 1)) true false) (cv 137 [(.int .i64 (pr.getI (pr.getC c7 (pr.idx 0 i0 1)) (pr.idx 0 i1 1)))] (.sl (fun vn0 => (fun vc1 => (.done (br (br (br (pr.nl vc1) true false) true false) (br (br (pr.flat vc1) (pr.fits (n12 + vn0) 1) false) (J 4 (h_spec_MetaBytes_4 i0 (pr.ar .add .i64 i1 1) g2 n3 c4 g5 n6 c7 b8 b9 b10 i11 (n12 + vn0) (List.append c13 vc1))) none) none)))))) none) none) none) none) (J 2 (h_spec_MetaBytes_2 (pr.ar .add .i64 i0 1) g2 n3 c4 g5 n6 c7 b8 b9 b10 i11 n12 c13))) none) none) := by kernel_rfl
def h_impl_MetaBytes_0 (g0 : Bool) (n1 : Nat) (c2 : List D) (i3 : Int) (i4 : Int) (g5 : Bool) (n6 : Nat) (c7 : List D) (b8 : Bool) (b9 : Bool) (b10 : Bool) (i11 : Int) (n12 : Nat) (c13 : List D) : St := (St.mk [(1, (.ptr 1 [] 0)), (3, (.ref 10003 [] 0 none)), (13, (.sl (some g0) 1 n1 c2)), (14, (.int .i64 i3)), (15, (.int .i64 i4))] [(1, [(.sl (some g5) 1 n6 c7), (.sl (some g0) 1 n1 c2), (.bool b8), (.bool b9), (.bool b10), (.int .i64 i11)]), (10003, [(.sl none 1 n12 c13)])] [] 0)
theorem k_impl_MetaBytes : Told cfg Try.prog 141 Try.f141 := ⟨by kernel_rfl, Try.func141, by kernel_rfl⟩
theorem e_impl_MetaBytes (g0 : Bool) (n0 : Nat) (c0 : List D) (g1 : Bool) (n1 : Nat) (c1 : List D) (a2 : Bool) (a3 : Bool) (a4 : Bool) (a5 : Int) : RunJ pr cv J 141 Try.f141 [(.agg [(.sl (some g0) 1 n0 c0), (.sl (some g1) 1 n1 c1), (.bool a2), (.bool a3), (.bool a4), (.int .i64 a5)])] =
    let y1 : List D := [(.sl (some g0) 1 n0 c0), (.sl (some g1) 1 n1 c1), (.bool a2), (.bool a3), (.bool a4), (.int .i64 a5)]
    (cv 94 [(.agg y1)] (.bool (fun vb0 => (.done (br (br vb0 false true) (some ((.sl none 1 0 []), [.undef])) (cv 144 [(.sl (some g0) 1 n0 c0)] (.sl (fun vn1 => (fun vc2 => (.done (br (br (br (pr.nl vc2) true false) true false) (J 0 (h_impl_MetaBytes_0 g1 n1 c1 (pr.ofN n1) 0 g0 n0 c0 a2 a3 a4 a5 vn1 vc2)) none))))))))))) := by kernel_rfl
theorem eh_impl_MetaBytes_0 (g0 : Bool) (n1 : Nat) (c2 : List D) (i3 : Int) (i4 : Int) (g5 : Bool) (n6 : Nat) (c7 : List D) (b8 : Bool) (b9 : Bool) (b10 : Bool) (i11 : Int) (n12 : Nat) (c13 : List D) : HeadJ pr cv J 141 Try.f141 [.undef] 0 (h_impl_MetaBytes_0 g0 n1 c2 i3 i4 g5 n6 c7 b8 b9 b10 i11 n12 c13) =
    (br (pr.lt i4 i3) (br (pr.inR i4 n1) (br (br (pr.isL 1 c2 (pr.idx 0 i4 1)) true false) (cv 144 [(.sl (some (pr.getG c2 (pr.idx 0 i4 1))) 1 (pr.getN c2 (pr.idx 0 i4 1)) (pr.getC c2 (pr.idx 0 i4 1)))] (.sl (fun vn0 => (fun vc1 => (.done (br (br (br (pr.nl vc1) true false) true false) (br (br (pr.flat vc1) (pr.fits (n12 + vn0) 1) false) (J 0 (h_impl_MetaBytes_0 g0 n1 c2 i3 (pr.ar .add .i64 i4 1) g5 n6 c7 b8 b9 b10 i11 (n12 + vn0) (List.append c13 vc1))) none) none)))))) none) none) (cv 146 [(.bool b8), (.int .i64 1)] (.int (fun vx2 => (.done (cv 146 [(.bool b9), (.int .i64 2)] (.int (fun vx3 => (.done (cv 146 [(.bool b10), (.int .i64 4)] (.int (fun vx4 => (.done (cv 145 [(.sl (some true) 1 2 [(.int .i64 (pr.ar .add .i64 (pr.ar .add .i64 vx2 vx3) vx4)), (.int .i64 i11)])] (.sl (fun vn5 => (fun vc6 => (.done (br (br (br (pr.nl vc6) true false) true false) (br (br (pr.flat vc6) (pr.fits (n12 + vn5) 1) false) (some ((.sl none 1 (n12 + vn5) (List.append c13 vc6)), [.undef])) none) none))))))))))))))))))) := by kernel_rfl
end
def putAll (xs : List Int) : List UInt8 := xs.flatMap putF
theorem putAll_length : ∀ xs : List Int, (putAll xs).length ≤ 5 * xs.length
  | [] => by simp [putAll]
  | x :: xs => by
    have h1 := putAll_length xs
    have h2 := putF_length x
    simp only [putAll, List.flatMap_cons, List.length_append, List.length_cons] at h1 ⊢
    omega
theorem putAll_take {xs : List Int} {i : Nat} (h : i < xs.length) : putAll (xs.take (i + 1)) = putAll (xs.take i) ++ putF xs[i] := by
  unfold putAll
  rw [← List.take_append_getElem h, List.flatMap_append, List.flatMap_cons, List.flatMap_nil, List.append_nil]
def putListF (xs : List Int) : List UInt8 := putF (xs.length : Int) ++ putAll xs
theorem putListF_length (xs : List Int) : (putListF xs).length ≤ 5 + 5 * xs.length := by
  have h1 := putAll_length xs
  have h2 := putF_length (xs.length : Int)
  simp only [putListF, List.length_append]
  omega
def bitsB (xss : List (List Int)) : List UInt8 := xss.flatMap putListF
theorem bitsB_length : ∀ xss : List (List Int), (∀ xs ∈ xss, xs.length ≤ 1048576) → (bitsB xss).length ≤ 5242885 * xss.length
  | [], _ => by simp [bitsB]
  | xs :: xss, h => by
    have h1 := bitsB_length xss fun x hx => h x (List.mem_cons_of_mem _ hx)
    have h2 := putListF_length xs
    have h3 := h xs List.mem_cons_self
    simp only [bitsB, List.flatMap_cons, List.length_append, List.length_cons] at h1 ⊢
    omega
theorem bitsB_take {xss : List (List Int)} {i : Nat} (h : i < xss.length) : bitsB (xss.take (i + 1)) = bitsB (xss.take i) ++ putListF xss[i] := by
  unfold bitsB
  rw [← List.take_append_getElem h, List.flatMap_append, List.flatMap_cons, List.flatMap_nil, List.append_nil]
def bitF (b : Bool) (k : Int) : Int := if b then k else 0
def flagsF (m : MMeta) : Int := bitF m.fine 1 + bitF m.old 2 + bitF m.held 4
def metaBytesF (m : MMeta) : List UInt8 := if metaOkF m then (putListF m.gens ++ bitsB m.bits) ++ (putF (flagsF m) ++ putF m.last) else []
theorem c_l1Bit (b : Bool) : Cm 138 [.bool b] (.int .i64 (bitF b 1), [.undef]) := by
  refine Cm.fin k_spec_l1Bit fun J => ?_
  rw [e_spec_l1Bit]
  cases b <;> rfl
theorem c_flag (b : Bool) (k : Int) : Cm 146 [.bool b, .int .i64 k] (.int .i64 (bitF b k), [.undef, .undef]) := by
  refine Cm.fin k_impl_flag fun J => ?_
  rw [e_impl_flag]
  cases b <;> rfl
theorem c_putNums (g : Bool) (xs : List Int) (hb : xs.length ≤ 1048576) : Cm 145 [.sl (some g) 1 xs.length (ints xs)] (.sl none 1 (putAll xs).length (bytes (putAll xs)), [.undef]) := by
  refine Cm.go k_impl_putNums [.undef] 0 (h_impl_putNums_0 g xs.length (ints xs) xs.length (0 : Nat) 0 []) ?_ fun J hJ => ?_
  · refine WP.loop (H := fun i : Nat => h_impl_putNums_0 g xs.length (ints xs) xs.length (i : Nat) (putAll (xs.take i)).length (bytes (putAll (xs.take i)))) (n := xs.length) (fun _ => True) (fun i hi _ ih => WP.go _ (ih trivial) fun J hJ => ?_) (fun _ => WP.fin fun J => ?_) 0 (Nat.zero_le _) trivial
    · have l1 := putAll_length (xs.take i)
      have l2 := putF_length xs[i]
      have l3 : (xs.take i).length ≤ xs.length := by simp; omega
      rw [eh_impl_putNums_0]
      simp (disch := first | omega | assumption) only [br_lt, br_inR, idx1, br_isI, s_getI, v_impl_PutNum, feed_sl, feed_done, s_nl8, br_t, br_tf, br_flat8, br_fits, bytes_app, s_inc]
      rw [putAll_take hi, List.length_append] at hJ
      exact hJ
    · rw [eh_impl_putNums_0]
      simp (disch := omega) only [br_nlt, List.take_length]
  · rw [e_impl_putNums]
    exact hJ
section
variable (t : Tel Rz)
theorem v_l1Bit (b : Bool) : cvP 138 [.bool b] t = feed t [.int .i64 (bitF b 1)] := cvP_eq (c_l1Bit b) (by kernel_rfl) t
theorem v_flag (b : Bool) (k : Int) : cvP 146 [.bool b, .int .i64 k] t = feed t [.int .i64 (bitF b k)] := cvP_eq (c_flag b k) (by kernel_rfl) t
theorem v_putNums (g : Bool) (xs : List Int) (n : Nat) (hn : n = xs.length) (hb : xs.length ≤ 1048576) : cvP 145 [.sl (some g) 1 n (ints xs)] t = feed t [.sl none 1 (putAll xs).length (bytes (putAll xs))] := by subst hn; exact cvP_eq (c_putNums g xs hb) (by kernel_rfl) t
theorem v_putNums1 (g : Bool) (a : Int) : cvP 145 [.sl (some g) 1 1 [.int .i64 a]] t = feed t [.sl none 1 (putF a).length (bytes (putF a))] := by
  have e : putAll [a] = putF a := by simp [putAll]
  rw [← e]
  exact v_putNums t g [a] 1 rfl (by simp)
theorem v_putNums2 (g : Bool) (a b : Int) : cvP 145 [.sl (some g) 1 2 [.int .i64 a, .int .i64 b]] t = feed t [.sl none 1 (putF a ++ putF b).length (bytes (putF a ++ putF b))] := by
  have e : putAll [a, b] = putF a ++ putF b := by simp [putAll]
  rw [← e]
  exact v_putNums t g [a, b] 2 rfl (by simp)
end
theorem c_putList (g : Bool) (xs : List Int) (hb : xs.length ≤ 1048576) : Cm 144 [.sl (some g) 1 xs.length (ints xs)] (.sl none 1 (putListF xs).length (bytes (putListF xs)), [.undef]) := by
  refine Cm.fin k_impl_putList fun J => ?_
  rw [e_impl_putList]
  have l1 := putAll_length xs
  have l2 := putF_length (xs.length : Int)
  simp (disch := first | omega | assumption | rfl) only [s_ofN, v_putNums1, v_putNums, feed_sl, feed_done, s_nl8, br_t, br_tf, br_flat8, br_fits, bytes_app]
  unfold putListF
  rw [List.length_append]
theorem v_putList (g : Bool) (xs : List Int) (n : Nat) (hn : n = xs.length) (hb : xs.length ≤ 1048576) (t : Tel Rz) : cvP 144 [.sl (some g) 1 n (ints xs)] t = feed t [.sl none 1 (putListF xs).length (bytes (putListF xs))] := by subst hn; exact cvP_eq (c_putList g xs hb) (by kernel_rfl) t
theorem metaOk_bits {m : MMeta} (h : metaOkF m = true) : m.bits.length = 3 := by
  simp only [metaOkF, Bool.and_eq_true, beq_iff_eq] at h
  omega
abbrev rzB (l : List UInt8) : Rz := (.sl none 1 l.length (bytes l), [.undef])
theorem c_impl_MetaBytes (g : Bool) (m : MMeta) (hm : OkMeta m) : Cm 141 [.agg (eMeta (some g) m)] (rzB (metaBytesF m)) := by
  unfold metaBytesF
  have b0 := hm.gens
  cases hok : metaOkF m with
  | false =>
    refine Cm.fin k_impl_MetaBytes fun J => ?_
    rw [e_impl_MetaBytes]
    simp (disch := assumption) only [v_impl_MetaOk, feed_bool, feed_done, hok, br_ft, br_nb, br_f]
    rfl
  | true =>
    rw [if_pos rfl]
    have hl := metaOk_bits hok
    have l0 := putListF_length m.gens
    have l3 := putF_length (flagsF m)
    have l4 := putF_length m.last
    refine Cm.go k_impl_MetaBytes [.undef] 0 (h_impl_MetaBytes_0 g m.bits.length (rows (some g) m.bits) m.bits.length (0 : Nat) g m.gens.length (ints m.gens) m.fine m.old m.held m.last (putListF m.gens).length (bytes (putListF m.gens))) ?_ fun J hJ => ?_
    · have := WP.loop (f := 141) (fn := Try.f141) (sk := [.undef]) (j := 0) (r := rzB ((putListF m.gens ++ bitsB m.bits) ++ (putF (flagsF m) ++ putF m.last))) (H := fun i : Nat => h_impl_MetaBytes_0 g m.bits.length (rows (some g) m.bits) m.bits.length (i : Nat) g m.gens.length (ints m.gens) m.fine m.old m.held m.last (putListF m.gens ++ bitsB (m.bits.take i)).length (bytes (putListF m.gens ++ bitsB (m.bits.take i)))) (n := m.bits.length) (fun _ => True) (fun i hi _ ih => WP.go _ (ih trivial) fun J hJ => ?_) (fun _ => WP.fin fun J => ?_) 0 (Nat.zero_le _) trivial
      · simpa [bitsB] using this
      · have l1 := bitsB_length (m.bits.take i) fun x hx => hm.bits.2 x (List.mem_of_mem_take hx)
        have l5 : (m.bits.take i).length ≤ 3 := by simp; omega
        have l2 := putListF_length m.bits[i]
        have b2 := hm.bits.2 _ (List.getElem_mem hi)
        have l6 : (putListF m.gens ++ bitsB (m.bits.take i)).length ≤ 30000000 := by rw [List.length_append]; omega
        rw [eh_impl_MetaBytes_0]
        simp (disch := first | omega | assumption) only [br_lt, br_inR, idx1, br_isL, s_getG, s_getN, s_getC, v_putList, feed_sl, feed_done, s_nl8, br_t, br_tf, br_flat8, br_fits, bytes_app, s_inc]
        rw [bitsB_take hi, ← List.append_assoc, List.length_append (bs := putListF m.bits[i])] at hJ
        exact hJ
      · have l1 := bitsB_length m.bits hm.bits.2
        have l6 : (putListF m.gens ++ bitsB m.bits).length ≤ 30000000 := by rw [List.length_append]; omega
        have l7 : (putF (flagsF m) ++ putF m.last).length ≤ 10 := by rw [List.length_append]; omega
        have hf : std.ar .add .i64 (std.ar .add .i64 (bitF m.fine 1) (bitF m.old 2)) (bitF m.held 4) = flagsF m := by
          unfold flagsF
          cases m.fine <;> cases m.old <;> cases m.held <;> rfl
        rw [eh_impl_MetaBytes_0]
        simp (disch := first | omega | assumption) only [br_nlt, List.take_length, v_flag, feed_int, feed_done, hf, v_putNums2, feed_sl, s_nl8, br_t, br_tf, br_flat8, br_fits, bytes_app]
        simp only [rzB, List.length_append]
    · rw [e_impl_MetaBytes]
      simp (disch := first | omega | assumption | rfl) only [v_impl_MetaOk, feed_bool, feed_done, hok, br_ft, br_nb, br_t, v_putList, feed_sl, s_nl8, br_tf, s_ofN]
      exact hJ
theorem c_spec_MetaBytes (g : Bool) (m : MMeta) (hm : OkMeta m) : Cm 130 [.agg (eMeta (some g) m)] (rzB (metaBytesF m)) := by
  unfold metaBytesF
  have b0 := hm.gens
  cases hok : metaOkF m with
  | false =>
    refine Cm.fin k_spec_MetaBytes fun J => ?_
    rw [e_spec_MetaBytes]
    simp (disch := assumption) only [v_spec_MetaOk, feed_bool, feed_done, hok, br_ft, br_nb, br_f]
    rfl
  | true =>
    rw [if_pos rfl]
    have hl := metaOk_bits hok
    have l0 := putListF_length m.gens
    have l3 := putF_length (flagsF m)
    have l4 := putF_length m.last
    have w2 : ∀ k i, i + k = 3 → WP 130 Try.f130 [.undef] 2 (h_spec_MetaBytes_2 (i : Nat) g m.gens.length (ints m.gens) g m.bits.length (rows (some g) m.bits) m.fine m.old m.held m.last (putListF m.gens ++ bitsB (m.bits.take i)).length (bytes (putListF m.gens ++ bitsB (m.bits.take i)))) (rzB ((putListF m.gens ++ bitsB m.bits) ++ (putF (flagsF m) ++ putF m.last))) := by
      intro k
      induction k with
      | zero =>
        intro i hi
        obtain rfl : i = 3 := by omega
        have l1 := bitsB_length m.bits hm.bits.2
        have l6 : (putListF m.gens ++ bitsB m.bits).length ≤ 30000000 := by rw [List.length_append]; omega
        have ht : m.bits.take 3 = m.bits := by rw [← hl, List.take_length]
        have hf : std.ar .add .i64 (std.ar .add .i64 (bitF m.fine 1) (std.ar .mul .i64 2 (bitF m.old 1))) (std.ar .mul .i64 4 (bitF m.held 1)) = flagsF m := by
          unfold flagsF
          cases m.fine <;> cases m.old <;> cases m.held <;> rfl
        refine WP.fin fun J => ?_
        rw [eh_spec_MetaBytes_2, ht]
        simp (disch := first | omega | assumption) only [br_nlt, v_l1Bit, feed_int, feed_done, hf, v_spec_PutNum, feed_sl, s_nl8, br_t, br_tf, br_flat8, br_fits, bytes_app]
        simp only [rzB, List.length_append, List.append_assoc, Nat.add_assoc]
      | succ k ih =>
        intro i hi
        have hib : i < m.bits.length := by omega
        have ih := ih (i + 1) (by omega)
        have l1 := bitsB_length (m.bits.take i) fun x hx => hm.bits.2 x (List.mem_of_mem_take hx)
        have l5 : (m.bits.take i).length ≤ 3 := by simp; omega
        have b2 := hm.bits.2 _ (List.getElem_mem hib)
        have l6 : (putListF m.gens ++ bitsB (m.bits.take i)).length ≤ 30000000 := by rw [List.length_append]; omega
        have l8 := putF_length (m.bits[i].length : Int)
        have w4 := WP.loop (f := 130) (fn := Try.f130) (sk := [.undef]) (j := 4) (r := rzB ((putListF m.gens ++ bitsB m.bits) ++ (putF (flagsF m) ++ putF m.last))) (H := fun j : Nat => h_spec_MetaBytes_4 (i : Nat) (j : Nat) g m.gens.length (ints m.gens) g m.bits.length (rows (some g) m.bits) m.fine m.old m.held m.last ((putListF m.gens ++ bitsB (m.bits.take i)) ++ putF (m.bits[i].length : Int) ++ putAll (m.bits[i].take j)).length (bytes ((putListF m.gens ++ bitsB (m.bits.take i)) ++ putF (m.bits[i].length : Int) ++ putAll (m.bits[i].take j)))) (n := m.bits[i].length) (fun _ => True) (fun j hj _ ih4 => WP.go _ (ih4 trivial) fun J hJ => ?_) (fun _ => WP.go _ ih fun J hJ => ?_) 0 (Nat.zero_le _) trivial
        · refine WP.go _ w4 fun J hJ => ?_
          rw [eh_spec_MetaBytes_2]
          simp (disch := first | omega | assumption) only [br_lt, br_inR, idx1, br_isL, s_getG, s_getN, s_getC, s_ofN, v_spec_PutNum, feed_sl, feed_done, s_nl8, br_t, br_tf, br_flat8, br_fits, bytes_app]
          simp only [List.take_zero, putAll, List.flatMap_nil, List.append_nil] at hJ
          rw [List.length_append (bs := putF (m.bits[i].length : Int))] at hJ
          exact hJ
        · have l9 := putAll_length (m.bits[i].take j)
          have l10 : (m.bits[i].take j).length ≤ m.bits[i].length := by simp; omega
          have l11 := putF_length m.bits[i][j]
          have l12 : ((putListF m.gens ++ bitsB (m.bits.take i)) ++ putF (m.bits[i].length : Int) ++ putAll (m.bits[i].take j)).length ≤ 60000000 := by rw [List.length_append, List.length_append]; omega
          rw [eh_spec_MetaBytes_4]
          simp (disch := first | omega | assumption) only [br_lt, br_inR, idx1, br_isL, br_isI, s_getI, s_getG, s_getN, s_getC, s_ofN, v_spec_PutNum, feed_sl, feed_done, s_nl8, br_t, br_tf, br_flat8, br_fits, bytes_app, s_inc]
          rw [putAll_take hj, ← List.append_assoc, List.length_append (bs := putF m.bits[i][j])] at hJ
          exact hJ
        · rw [eh_spec_MetaBytes_4]
          simp (disch := first | omega | assumption) only [br_nlt, br_inR, idx1, br_isL, s_getN, s_ofN, br_t, br_tf, s_inc, List.take_length]
          have e : bitsB (m.bits.take (i + 1)) = bitsB (m.bits.take i) ++ (putF (m.bits[i].length : Int) ++ putAll m.bits[i]) := bitsB_take hib
          rw [e, ← List.append_assoc, ← List.append_assoc] at hJ
          exact hJ
    have w0 := WP.loop (f := 130) (fn := Try.f130) (sk := [.undef]) (j := 0) (r := rzB ((putListF m.gens ++ bitsB m.bits) ++ (putF (flagsF m) ++ putF m.last))) (H := fun i : Nat => h_spec_MetaBytes_0 (i : Nat) g m.gens.length (ints m.gens) g m.bits.length (rows (some g) m.bits) m.fine m.old m.held m.last (putF (m.gens.length : Int) ++ putAll (m.gens.take i)).length (bytes (putF (m.gens.length : Int) ++ putAll (m.gens.take i)))) (n := m.gens.length) (fun _ => True) (fun i hi _ ih => WP.go _ (ih trivial) fun J hJ => ?_) (fun _ => WP.go _ (w2 3 0 rfl) fun J hJ => ?_) 0 (Nat.zero_le _) trivial
    · refine Cm.go k_spec_MetaBytes [.undef] 0 _ w0 fun J hJ => ?_
      rw [e_spec_MetaBytes]
      simp (disch := first | omega | assumption | rfl) only [v_spec_MetaOk, feed_bool, feed_done, hok, br_ft, br_nb, br_t, v_spec_PutNum, feed_sl, s_nl8, br_tf, s_ofN]
      simp only [List.take_zero, putAll, List.flatMap_nil, List.append_nil] at hJ
      exact hJ
    · have l9 := putAll_length (m.gens.take i)
      have l10 : (m.gens.take i).length ≤ m.gens.length := by simp; omega
      have l11 := putF_length m.gens[i]
      have l8 := putF_length (m.gens.length : Int)
      have l12 : (putF (m.gens.length : Int) ++ putAll (m.gens.take i)).length ≤ 30000000 := by rw [List.length_append]; omega
      rw [eh_spec_MetaBytes_0]
      simp (disch := first | omega | assumption) only [br_lt, br_inR, idx1, br_isI, s_getI, s_ofN, v_spec_PutNum, feed_sl, feed_done, s_nl8, br_t, br_tf, br_flat8, br_fits, bytes_app, s_inc]
      rw [putAll_take hi, ← List.append_assoc, List.length_append (bs := putF m.gens[i])] at hJ
      exact hJ
    · rw [eh_spec_MetaBytes_0]
      simp (disch := omega) only [s_ofN, br_nlt, List.take_length]
      have e : putListF m.gens ++ bitsB (m.bits.take 0) = putF (m.gens.length : Int) ++ putAll m.gens := by simp [bitsB, putListF]
      rw [e] at hJ
      exact hJ
section
variable (t : Tel Rz)
theorem v_spec_MetaBytes (g : Bool) (m : MMeta) (hm : OkMeta m) : cvP 130 [.agg (eMeta (some g) m)] t = feed t [.sl none 1 (metaBytesF m).length (bytes (metaBytesF m))] := cvP_eq (c_spec_MetaBytes g m hm) (by kernel_rfl) t
theorem v_impl_MetaBytes (g : Bool) (m : MMeta) (hm : OkMeta m) : cvP 141 [.agg (eMeta (some g) m)] t = feed t [.sl none 1 (metaBytesF m).length (bytes (metaBytesF m))] := cvP_eq (c_impl_MetaBytes g m hm) (by kernel_rfl) t
end
end Go.Proofs.Ytkejckoefjonjaa
namespace Go.Proofs.Ytkejckoefjonjaa
set_option maxRecDepth 100000
section
variable (pr : Prims) (cv : Cv Rz) (J : Nat → St → Option Rz)
def h_spec_MetaOf_0 (n0 : Nat) (c1 : List D) (i2 : Int) (b3 : Bool) (b4 : Bool) (b5 : Bool) (i6 : Int) (n7 : Nat) (c8 : List D) (i9 : Int) (b10 : Bool) (n11 : Nat) (c12 : List D) (b13 : Bool) (b14 : Bool) (b15 : Bool) (i16 : Int) : St := (St.mk [(0, (.sl (some true) 1 n0 c1)), (2, (.ptr 2 [] 0)), (4, (.ptr 11 [] 0)), (5, (.ptr 5 [] 0)), (6, (.int .i64 i2))] [(2, [(.nil 1), (.nil 1), (.bool b3), (.bool b4), (.bool b5), (.int .i64 i6)]), (11, [(.sl (some true) 1 n7 c8), (.int .i64 i9), (.bool b10)]), (5, [(.sl none 1 n11 c12), (.nil 1), (.bool b13), (.bool b14), (.bool b15), (.int .i64 i16)])] [] 0)
def h_spec_MetaOf_0_1 (n0 : Nat) (c1 : List D) (i2 : Int) (b3 : Bool) (b4 : Bool) (b5 : Bool) (i6 : Int) (n7 : Nat) (c8 : List D) (i9 : Int) (b10 : Bool) (n11 : Nat) (c12 : List D) (n13 : Nat) (c14 : List D) (b15 : Bool) (b16 : Bool) (b17 : Bool) (i18 : Int) : St := (St.mk [(0, (.sl (some true) 1 n0 c1)), (2, (.ptr 2 [] 0)), (4, (.ptr 11 [] 0)), (5, (.ptr 5 [] 0)), (6, (.int .i64 i2))] [(2, [(.nil 1), (.nil 1), (.bool b3), (.bool b4), (.bool b5), (.int .i64 i6)]), (11, [(.sl (some true) 1 n7 c8), (.int .i64 i9), (.bool b10)]), (5, [(.sl none 1 n11 c12), (.sl none 1 n13 c14), (.bool b15), (.bool b16), (.bool b17), (.int .i64 i18)])] [] 0)
theorem k_spec_MetaOf : Told cfg Try.prog 119 Try.f119 := ⟨by kernel_rfl, Try.func119, by kernel_rfl⟩
theorem e_spec_MetaOf (n0 : Nat) (c0 : List D) : RunJ pr cv J 119 Try.f119 [(.sl (some true) 1 n0 c0)] =
    (cv 128 [(.pbox [(.sl (some false) 1 n0 (tagL false c0)), (.int .i64 0), (.bool true)])] (.sl (fun vn0 => (fun vc1 => (.slx (fun vb2 => (fun vn3 => (fun vc4 => (.int (fun vx5 => (.bool (fun vb6 => (.done (br (br (br (pr.nl vc1) true false) (br (br (pr.nl vc4) true false) true false) false) (J 0 (h_spec_MetaOf_0 n0 c0 0 false false false 0 vn3 (tagL true vc4) vx5 vb6 vn0 (tagL true vc1) false false false 0)) none)))))))))))))) := by kernel_rfl
theorem eh_spec_MetaOf_0 (n0 : Nat) (c1 : List D) (i2 : Int) (b3 : Bool) (b4 : Bool) (b5 : Bool) (i6 : Int) (n7 : Nat) (c8 : List D) (i9 : Int) (b10 : Bool) (n11 : Nat) (c12 : List D) (b13 : Bool) (b14 : Bool) (b15 : Bool) (i16 : Int) : HeadJ pr cv J 119 Try.f119 [.undef] 0 (h_spec_MetaOf_0 n0 c1 i2 b3 b4 b5 i6 n7 c8 i9 b10 n11 c12 b13 b14 b15 i16) =
    let y1 : List D := [(.pbox [(.sl (some false) 1 n7 (tagL false c8)), (.int .i64 i9), (.bool b10)])]
    let y2 : Option (D × List D) := (some ((.tup [(.agg [(.sl none 1 0 []), (.sl none 1 0 []), (.bool false), (.bool false), (.bool false), (.int .i64 0)]), (.bool false)]), [.undef]))
    (br (pr.lt i2 3) (cv 128 y1 (.sl (fun vn0 => (fun vc1 => (.slx (fun vb2 => (fun vn3 => (fun vc4 => (.int (fun vx5 => (.bool (fun vb6 => (.done (br (br (br (pr.nl vc1) true false) (br (br (pr.nl vc4) true false) true false) false) (br (pr.fits 1 24) (J 0 (h_spec_MetaOf_0_1 n0 c1 (pr.ar .add .i64 i2 1) b3 b4 b5 i6 vn3 (tagL true vc4) vx5 vb6 n11 c12 1 [(.sl none 1 vn0 (tagL true vc1))] b13 b14 b15 i16)) none) none)))))))))))))) (cv 129 y1 (.int (fun vx7 => (.slx (fun vb8 => (fun vn9 => (fun vc10 => (.int (fun vx11 => (.bool (fun vb12 => (.done (br (br (br (pr.nl vc10) true false) true false) (cv 129 [(.pbox [(.sl (some false) 1 vn9 (tagL false (tagL true vc10))), (.int .i64 vx11), (.bool vb12)])] (.int (fun vx13 => (.slx (fun vb14 => (fun vn15 => (fun vc16 => (.int (fun vx17 => (.bool (fun vb18 => (.done (br (br (br (pr.nl vc16) true false) true false) (br (br vb18 false true) y2 (br (pr.bsok c1) (cv 130 [(.agg [(.sl (some true) 1 n11 (exTL true c12)), (.nil 1), (.bool (br (pr.eq (pr.ar .and .i64 vx7 1) 0) false true)), (.bool (br (pr.eq (pr.ar .and .i64 vx7 2) 0) false true)), (.bool (br (pr.eq (pr.ar .and .i64 vx7 4) 0) false true)), (.int .i64 vx13)])] (.sl (fun vn19 => (fun vc20 => (.done (br (br (br (pr.nl vc20) true false) true false) (br (pr.bsok vc20) (br (br (pr.seq (pr.bss vc20) (pr.bss c1)) false true) y2 (br (pr.eq (pr.ofN n0) 0) y2 (some ((.tup [(.agg [(.sl none 1 n11 c12), (.sl none 1 0 []), (.bool (br (pr.eq (pr.ar .and .i64 vx7 1) 0) false true)), (.bool (br (pr.eq (pr.ar .and .i64 vx7 2) 0) false true)), (.bool (br (pr.eq (pr.ar .and .i64 vx7 4) 0) false true)), (.int .i64 vx13)]), (.bool true)]), [.undef])))) none) none)))))) none)) none))))))))))))) none)))))))))))))) := by kernel_rfl
theorem eh_spec_MetaOf_0_1 (n0 : Nat) (c1 : List D) (i2 : Int) (b3 : Bool) (b4 : Bool) (b5 : Bool) (i6 : Int) (n7 : Nat) (c8 : List D) (i9 : Int) (b10 : Bool) (n11 : Nat) (c12 : List D) (n13 : Nat) (c14 : List D) (b15 : Bool) (b16 : Bool) (b17 : Bool) (i18 : Int) : HeadJ pr cv J 119 Try.f119 [.undef] 0 (h_spec_MetaOf_0_1 n0 c1 i2 b3 b4 b5 i6 n7 c8 i9 b10 n11 c12 n13 c14 b15 b16 b17 i18) =
    let y1 : List D := [(.pbox [(.sl (some false) 1 n7 (tagL false c8)), (.int .i64 i9), (.bool b10)])]
    let y2 : Option (D × List D) := (some ((.tup [(.agg [(.sl none 1 0 []), (.sl none 1 0 []), (.bool false), (.bool false), (.bool false), (.int .i64 0)]), (.bool false)]), [.undef]))
    (br (pr.lt i2 3) (cv 128 y1 (.sl (fun vn0 => (fun vc1 => (.slx (fun vb2 => (fun vn3 => (fun vc4 => (.int (fun vx5 => (.bool (fun vb6 => (.done (br (br (br (pr.nl vc1) true false) (br (br (pr.nl vc4) true false) true false) false) (br (pr.fits (n13 + 1) 24) (J 0 (h_spec_MetaOf_0_1 n0 c1 (pr.ar .add .i64 i2 1) b3 b4 b5 i6 vn3 (tagL true vc4) vx5 vb6 n11 c12 (n13 + 1) (List.append c14 [(.sl none 1 vn0 (tagL true vc1))]) b15 b16 b17 i18)) none) none)))))))))))))) (cv 129 y1 (.int (fun vx7 => (.slx (fun vb8 => (fun vn9 => (fun vc10 => (.int (fun vx11 => (.bool (fun vb12 => (.done (br (br (br (pr.nl vc10) true false) true false) (cv 129 [(.pbox [(.sl (some false) 1 vn9 (tagL false (tagL true vc10))), (.int .i64 vx11), (.bool vb12)])] (.int (fun vx13 => (.slx (fun vb14 => (fun vn15 => (fun vc16 => (.int (fun vx17 => (.bool (fun vb18 => (.done (br (br (br (pr.nl vc16) true false) true false) (br (br vb18 false true) y2 (br (pr.bsok c1) (cv 130 [(.agg [(.sl (some true) 1 n11 (exTL true c12)), (.sl (some true) 1 n13 (exTL true c14)), (.bool (br (pr.eq (pr.ar .and .i64 vx7 1) 0) false true)), (.bool (br (pr.eq (pr.ar .and .i64 vx7 2) 0) false true)), (.bool (br (pr.eq (pr.ar .and .i64 vx7 4) 0) false true)), (.int .i64 vx13)])] (.sl (fun vn19 => (fun vc20 => (.done (br (br (br (pr.nl vc20) true false) true false) (br (pr.bsok vc20) (br (br (pr.seq (pr.bss vc20) (pr.bss c1)) false true) y2 (br (pr.eq (pr.ofN n0) 0) y2 (some ((.tup [(.agg [(.sl none 1 n11 c12), (.sl none 1 n13 c14), (.bool (br (pr.eq (pr.ar .and .i64 vx7 1) 0) false true)), (.bool (br (pr.eq (pr.ar .and .i64 vx7 2) 0) false true)), (.bool (br (pr.eq (pr.ar .and .i64 vx7 4) 0) false true)), (.int .i64 vx13)]), (.bool true)]), [.undef])))) none) none)))))) none)) none))))))))))))) none)))))))))))))) := by kernel_rfl
def h_impl_MetaOf_0 (n0 : Nat) (c1 : List D) (i2 : Int) (b3 : Bool) (b4 : Bool) (b5 : Bool) (i6 : Int) (n7 : Nat) (c8 : List D) (i9 : Int) (b10 : Bool) (n11 : Nat) (c12 : List D) (b13 : Bool) (b14 : Bool) (b15 : Bool) (i16 : Int) : St := (St.mk [(0, (.sl (some true) 1 n0 c1)), (2, (.ptr 2 [] 0)), (4, (.ptr 11 [] 0)), (5, (.ptr 5 [] 0)), (16, (.int .i64 i2))] [(2, [(.nil 1), (.nil 1), (.bool b3), (.bool b4), (.bool b5), (.int .i64 i6)]), (11, [(.sl (some true) 1 n7 c8), (.int .i64 i9), (.bool b10)]), (5, [(.sl none 1 n11 c12), (.nil 1), (.bool b13), (.bool b14), (.bool b15), (.int .i64 i16)])] [] 0)
def h_impl_MetaOf_0_1 (n0 : Nat) (c1 : List D) (i2 : Int) (b3 : Bool) (b4 : Bool) (b5 : Bool) (i6 : Int) (n7 : Nat) (c8 : List D) (i9 : Int) (b10 : Bool) (n11 : Nat) (c12 : List D) (n13 : Nat) (c14 : List D) (b15 : Bool) (b16 : Bool) (b17 : Bool) (i18 : Int) : St := (St.mk [(0, (.sl (some true) 1 n0 c1)), (2, (.ptr 2 [] 0)), (4, (.ptr 11 [] 0)), (5, (.ptr 5 [] 0)), (16, (.int .i64 i2))] [(2, [(.nil 1), (.nil 1), (.bool b3), (.bool b4), (.bool b5), (.int .i64 i6)]), (11, [(.sl (some true) 1 n7 c8), (.int .i64 i9), (.bool b10)]), (5, [(.sl none 1 n11 c12), (.sl none 1 n13 c14), (.bool b15), (.bool b16), (.bool b17), (.int .i64 i18)])] [] 0)
theorem k_impl_MetaOf : Told cfg Try.prog 133 Try.f133 := ⟨by kernel_rfl, Try.func133, by kernel_rfl⟩
theorem e_impl_MetaOf (n0 : Nat) (c0 : List D) : RunJ pr cv J 133 Try.f133 [(.sl (some true) 1 n0 c0)] =
    (cv 139 [(.pbox [(.sl (some false) 1 n0 (tagL false c0)), (.int .i64 0), (.bool true)])] (.sl (fun vn0 => (fun vc1 => (.slx (fun vb2 => (fun vn3 => (fun vc4 => (.int (fun vx5 => (.bool (fun vb6 => (.done (br (br (br (pr.nl vc1) true false) (br (br (pr.nl vc4) true false) true false) false) (J 0 (h_impl_MetaOf_0 n0 c0 0 false false false 0 vn3 (tagL true vc4) vx5 vb6 vn0 (tagL true vc1) false false false 0)) none)))))))))))))) := by kernel_rfl
theorem eh_impl_MetaOf_0 (n0 : Nat) (c1 : List D) (i2 : Int) (b3 : Bool) (b4 : Bool) (b5 : Bool) (i6 : Int) (n7 : Nat) (c8 : List D) (i9 : Int) (b10 : Bool) (n11 : Nat) (c12 : List D) (b13 : Bool) (b14 : Bool) (b15 : Bool) (i16 : Int) : HeadJ pr cv J 133 Try.f133 [.undef] 0 (h_impl_MetaOf_0 n0 c1 i2 b3 b4 b5 i6 n7 c8 i9 b10 n11 c12 b13 b14 b15 i16) =
    let y1 : List D := [(.pbox [(.sl (some false) 1 n7 (tagL false c8)), (.int .i64 i9), (.bool b10)])]
    let y2 : Option (D × List D) := (some ((.tup [(.agg [(.sl none 1 0 []), (.sl none 1 0 []), (.bool false), (.bool false), (.bool false), (.int .i64 0)]), (.bool false)]), [.undef]))
    (br (pr.lt i2 3) (cv 139 y1 (.sl (fun vn0 => (fun vc1 => (.slx (fun vb2 => (fun vn3 => (fun vc4 => (.int (fun vx5 => (.bool (fun vb6 => (.done (br (br (br (pr.nl vc1) true false) (br (br (pr.nl vc4) true false) true false) false) (br (pr.fits 1 24) (J 0 (h_impl_MetaOf_0_1 n0 c1 (pr.ar .add .i64 i2 1) b3 b4 b5 i6 vn3 (tagL true vc4) vx5 vb6 n11 c12 1 [(.sl none 1 vn0 (tagL true vc1))] b13 b14 b15 i16)) none) none)))))))))))))) (cv 140 y1 (.int (fun vx7 => (.slx (fun vb8 => (fun vn9 => (fun vc10 => (.int (fun vx11 => (.bool (fun vb12 => (.done (br (br (br (pr.nl vc10) true false) true false) (cv 140 [(.pbox [(.sl (some false) 1 vn9 (tagL false (tagL true vc10))), (.int .i64 vx11), (.bool vb12)])] (.int (fun vx13 => (.slx (fun vb14 => (fun vn15 => (fun vc16 => (.int (fun vx17 => (.bool (fun vb18 => (.done (br (br (br (pr.nl vc16) true false) true false) (cv 141 [(.agg [(.sl (some true) 1 n11 (exTL true c12)), (.nil 1), (.bool (br (pr.eq (pr.ar .and .i64 vx7 1) 0) false true)), (.bool (br (pr.eq (pr.ar .and .i64 vx7 2) 0) false true)), (.bool (br (pr.eq (pr.ar .and .i64 vx7 4) 0) false true)), (.int .i64 vx13)])] (.sl (fun vn19 => (fun vc20 => (.done (br (br (br (pr.nl vc20) true false) true false) (br (br vb18 false true) y2 (br (pr.eq (pr.ofN vn19) 0) y2 (cv 134 [(.sl (some true) 1 vn19 (exTL true vc20)), (.sl (some true) 1 n0 c1)] (.bool (fun vb21 => (.done (br (br vb21 false true) y2 (some ((.tup [(.agg [(.sl none 1 n11 c12), (.sl none 1 0 []), (.bool (br (pr.eq (pr.ar .and .i64 vx7 1) 0) false true)), (.bool (br (pr.eq (pr.ar .and .i64 vx7 2) 0) false true)), (.bool (br (pr.eq (pr.ar .and .i64 vx7 4) 0) false true)), (.int .i64 vx13)]), (.bool true)]), [.undef]))))))))) none)))))) none))))))))))))) none)))))))))))))) := by kernel_rfl
theorem eh_impl_MetaOf_0_1 (n0 : Nat) (c1 : List D) (i2 : Int) (b3 : Bool) (b4 : Bool) (b5 : Bool) (i6 : Int) (n7 : Nat) (c8 : List D) (i9 : Int) (b10 : Bool) (n11 : Nat) (c12 : List D) (n13 : Nat) (c14 : List D) (b15 : Bool) (b16 : Bool) (b17 : Bool) (i18 : Int) : HeadJ pr cv J 133 Try.f133 [.undef] 0 (h_impl_MetaOf_0_1 n0 c1 i2 b3 b4 b5 i6 n7 c8 i9 b10 n11 c12 n13 c14 b15 b16 b17 i18) =
    let y1 : List D := [(.pbox [(.sl (some false) 1 n7 (tagL false c8)), (.int .i64 i9), (.bool b10)])]
    let y2 : Option (D × List D) := (some ((.tup [(.agg [(.sl none 1 0 []), (.sl none 1 0 []), (.bool false), (.bool false), (.bool false), (.int .i64 0)]), (.bool false)]), [.undef]))
    (br (pr.lt i2 3) (cv 139 y1 (.sl (fun vn0 => (fun vc1 => (.slx (fun vb2 => (fun vn3 => (fun vc4 => (.int (fun vx5 => (.bool (fun vb6 => (.done (br (br (br (pr.nl vc1) true false) (br (br (pr.nl vc4) true false) true false) false) (br (pr.fits (n13 + 1) 24) (J 0 (h_impl_MetaOf_0_1 n0 c1 (pr.ar .add .i64 i2 1) b3 b4 b5 i6 vn3 (tagL true vc4) vx5 vb6 n11 c12 (n13 + 1) (List.append c14 [(.sl none 1 vn0 (tagL true vc1))]) b15 b16 b17 i18)) none) none)))))))))))))) (cv 140 y1 (.int (fun vx7 => (.slx (fun vb8 => (fun vn9 => (fun vc10 => (.int (fun vx11 => (.bool (fun vb12 => (.done (br (br (br (pr.nl vc10) true false) true false) (cv 140 [(.pbox [(.sl (some false) 1 vn9 (tagL false (tagL true vc10))), (.int .i64 vx11), (.bool vb12)])] (.int (fun vx13 => (.slx (fun vb14 => (fun vn15 => (fun vc16 => (.int (fun vx17 => (.bool (fun vb18 => (.done (br (br (br (pr.nl vc16) true false) true false) (cv 141 [(.agg [(.sl (some true) 1 n11 (exTL true c12)), (.sl (some true) 1 n13 (exTL true c14)), (.bool (br (pr.eq (pr.ar .and .i64 vx7 1) 0) false true)), (.bool (br (pr.eq (pr.ar .and .i64 vx7 2) 0) false true)), (.bool (br (pr.eq (pr.ar .and .i64 vx7 4) 0) false true)), (.int .i64 vx13)])] (.sl (fun vn19 => (fun vc20 => (.done (br (br (br (pr.nl vc20) true false) true false) (br (br vb18 false true) y2 (br (pr.eq (pr.ofN vn19) 0) y2 (cv 134 [(.sl (some true) 1 vn19 (exTL true vc20)), (.sl (some true) 1 n0 c1)] (.bool (fun vb21 => (.done (br (br vb21 false true) y2 (some ((.tup [(.agg [(.sl none 1 n11 c12), (.sl none 1 n13 c14), (.bool (br (pr.eq (pr.ar .and .i64 vx7 1) 0) false true)), (.bool (br (pr.eq (pr.ar .and .i64 vx7 2) 0) false true)), (.bool (br (pr.eq (pr.ar .and .i64 vx7 4) 0) false true)), (.int .i64 vx13)]), (.bool true)]), [.undef]))))))))) none)))))) none))))))))))))) none)))))))))))))) := by kernel_rfl
end
theorem byteOf_byteD (x : UInt8) : byteOf (byteD x) = some x := by
  have := x.toNat_lt
  simp [byteD, byteOf]
theorem mapO_bytes : ∀ xs : List UInt8, mapO byteOf (bytes xs) = some xs
  | [] => rfl
  | x :: xs => by
    have h := mapO_bytes xs
    simp only [bytes] at h
    simp only [bytes, List.map_cons, mapO, byteOf_byteD, h]
theorem br_bsok8 {R : Type} {x y : R} (xs : List UInt8) : br (std.bsok (bytes xs)) x y = x := by
  have : std.bsok (bytes xs) = true := by
    show (mapO byteOf (bytes xs)).isSome = true
    rw [mapO_bytes]
    rfl
  rw [this, br_t]
theorem s_bss8 (xs : List UInt8) : std.bss (bytes xs) = bs xs := by
  show (⟨((mapO byteOf (bytes xs)).getD []).toArray⟩ : ByteArray) = bs xs
  rw [mapO_bytes]
  rfl
theorem s_seq8 (xs ys : List UInt8) : std.seq (bs xs) (bs ys) = decide (xs = ys) := by
  show ((bs xs).toList == (bs ys).toList) = _
  rw [ByteArray.toList_eq, ByteArray.toList_eq]
  show (xs == ys) = _
  by_cases h : xs = ys <;> simp [h]
theorem c_bytesEqual (g h : Bool) (xs ys : List UInt8) : Cm 134 [.sl (some g) 1 xs.length (bytes xs), .sl (some h) 1 ys.length (bytes ys)] (.bool (decide (xs = ys)), [.undef, .undef]) := by
  refine Cm.fin k_bytes_Equal fun J => ?_
  rw [e_bytes_Equal]
  simp only [br_bsok8, s_bss8, s_seq8]
theorem v_bytesEqual (g h : Bool) (xs ys : List UInt8) (t : Tel Rz) : cvP 134 [.sl (some g) 1 xs.length (bytes xs), .sl (some h) 1 ys.length (bytes ys)] t = feed t [.bool (decide (xs = ys))] := cvP_eq (c_bytesEqual g h xs ys) (by kernel_rfl) t
theorem tagL_ints (b : Bool) : ∀ xs : List Int, tagL b (ints xs) = ints xs
  | [] => rfl
  | x :: xs => by
    have h := tagL_ints b xs
    simp only [ints] at h
    simp only [ints, List.map_cons, tagL, tagT, h]
theorem tagL_bytes (b : Bool) : ∀ xs : List UInt8, tagL b (bytes xs) = bytes xs
  | [] => rfl
  | x :: xs => by
    have h := tagL_bytes b xs
    simp only [bytes] at h
    simp only [bytes, List.map_cons, tagL, tagT, byteD, h]
theorem getL_fail (b : List UInt8) (p : Nat) : ∀ k i acc, (getL b p k i acc).2.2 = false → getL b p k i acc = noNum
  | 0, _, _, _ => rfl
  | k + 1, i, acc, h => by
    rw [getL] at h ⊢
    split at h
    · rename_i h1
      rw [dif_pos h1]
      split at h
      · rename_i h2
        rw [if_pos h2]
        exact getL_fail b p k _ _ h
      · rename_i h2
        rw [if_neg h2]
        split at h
        · rename_i h3
          rw [if_pos h3]
        · simp at h
    · rename_i h1
      rw [dif_neg h1]
theorem getF_fail (b : List UInt8) (a : Int) (h : (getF b a).2.2 = false) : getF b a = noNum := by
  unfold getF at h ⊢
  split at h
  · rename_i h1
    rw [if_pos h1]
  · rename_i h1
    rw [if_neg h1]
    exact getL_fail b _ _ _ _ h
def CuR (c c' : Int × Bool) : Prop := c.2 = c'.2 ∧ (c.2 = true → c.1 = c'.1)
theorem num_rel (b : List UInt8) {c c' : Int × Bool} (h : CuR c c') : (numS b c).1 = (numI b c').1 ∧ CuR (numS b c).2 (numI b c').2 := by
  obtain ⟨p, q⟩ := c
  obtain ⟨p', q'⟩ := c'
  obtain ⟨h1, h2⟩ := h
  simp only at h1 h2
  subst h1
  cases q with
  | false => exact ⟨by simp [numS, numI], by simp [numS, numI, CuR]⟩
  | true =>
    have := h2 rfl
    subst this
    cases hg : (getF b p).2.2 with
    | true => exact ⟨by simp [numS, numI, hg], by simp [numS, numI, CuR, hg]⟩
    | false =>
      have := getF_fail b p hg
      exact ⟨by simp [numS, numI, this, noNum], by simp [numS, numI, CuR, this, noNum]⟩
theorem go_rel (b : List UInt8) : ∀ (k : Nat) {c c' : Int × Bool} (out : List Int), CuR c c' → (goL numS b k c out).1 = (goL numI b k c' out).1 ∧ CuR (goL numS b k c out).2 (goL numI b k c' out).2
  | 0, _, _, _, h => ⟨rfl, h⟩
  | k + 1, c, c', out, h => by
    simp only [goL]
    rw [← h.1]
    cases hc : c.2 with
    | false => exact ⟨rfl, h⟩
    | true =>
      have hn := num_rel b h
      simp only [if_true]
      rw [hn.1]
      exact go_rel b k _ hn.2
theorem list_rel (b : List UInt8) {c c' : Int × Bool} (h : CuR c c') : (listF numS b c).1 = (listF numI b c').1 ∧ CuR (listF numS b c).2 (listF numI b c').2 := by
  have hn := num_rel b h
  unfold listF
  rw [hn.1]
  exact go_rel b _ _ hn.2
def Fwd (num : List UInt8 → Int × Bool → Int × (Int × Bool)) : Prop := ∀ b p q, (num b (p, q)).2.2 = true → 0 ≤ p ∧ p < (num b (p, q)).2.1 ∧ (num b (p, q)).2.1 ≤ b.length
theorem fwd_S : Fwd numS := by
  intro b p q h
  unfold numS at h ⊢
  split at h
  · rename_i h1
    rw [if_pos h1]
    simp only [Bool.and_eq_true] at h1
    exact getF_next b p h1.1
  · simp at h
theorem fwd_I : Fwd numI := by
  intro b p q h
  unfold numI at h ⊢
  cases q with
  | true => exact getF_next b p h
  | false => simp at h
theorem go_length {num : List UInt8 → Int × Bool → Int × (Int × Bool)} (hf : Fwd num) (b : List UInt8) : ∀ (k : Nat) (p : Int) (q : Bool) (out : List Int), (goL num b k (p, q) out).1.length ≤ out.length + (if q then ((b.length : Int) - p).toNat + 1 else 0)
  | 0, _, _, _ => by simp [goL]
  | k + 1, p, q, out => by
    cases q with
    | false => simp [goL]
    | true =>
      simp only [goL, if_true]
      have ih := go_length hf b k (num b (p, true)).2.1 (num b (p, true)).2.2 (out ++ [(num b (p, true)).1])
      cases hq : (num b (p, true)).2.2 with
      | false =>
        rw [hq] at ih
        simp only [List.length_append, List.length_singleton] at ih
        have e : (num b (p, true)).2 = ((num b (p, true)).2.1, false) := Prod.ext rfl hq
        rw [e]
        simp only [Bool.false_eq_true, if_false] at ih
        omega
      | true =>
        have h := hf b p true hq
        rw [hq] at ih
        simp only [List.length_append, List.length_singleton, if_true] at ih
        have e : (num b (p, true)).2 = ((num b (p, true)).2.1, true) := Prod.ext rfl hq
        rw [e]
        omega
theorem list_length {num : List UInt8 → Int × Bool → Int × (Int × Bool)} (hf : Fwd num) (b : List UInt8) (c : Int × Bool) : (listF num b c).1.length ≤ b.length + 1 := by
  have h := go_length hf b (num b c).1.toNat (num b c).2.1 (num b c).2.2 []
  unfold listF
  obtain ⟨p, q⟩ := c
  cases hq : (num b (p, q)).2.2 with
  | false =>
    rw [hq] at h
    have e : (num b (p, q)).2 = ((num b (p, q)).2.1, false) := Prod.ext rfl hq
    rw [e]
    simp only [Bool.false_eq_true, if_false, List.length_nil] at h
    omega
  | true =>
    have h1 := hf b p q hq
    rw [hq] at h
    have e : (num b (p, q)).2 = ((num b (p, q)).2.1, true) := Prod.ext rfl hq
    rw [e]
    simp only [if_true, List.length_nil] at h
    omega
def flagAt (x k : Int) : Bool := !(std.eq (std.ar .and .i64 x k) 0)
def parseF (num : List UInt8 → Int × Bool → Int × (Int × Bool)) (b : List UInt8) : MMeta × Bool :=
  let r0 := listF num b (0, true)
  let r1 := listF num b r0.2
  let r2 := listF num b r1.2
  let r3 := listF num b r2.2
  let x := num b r3.2
  let y := num b x.2
  (⟨r0.1, [r1.1, r2.1, r3.1], flagAt x.1 1, flagAt x.1 2, flagAt x.1 4, y.1⟩, y.2.2)
def zeroMeta : MMeta := ⟨[], [], false, false, false, 0⟩
def metaOfF (b : List UInt8) : MMeta × Bool := if (parseF numS b).2 && (decide (metaBytesF (parseF numS b).1 = b) && !b.isEmpty) then ((parseF numS b).1, true) else (zeroMeta, false)
theorem parse_eq (b : List UInt8) : parseF numS b = parseF numI b := by
  have h0 := list_rel b (c := (0, true)) (c' := (0, true)) ⟨rfl, fun _ => rfl⟩
  have h1 := list_rel b h0.2
  have h2 := list_rel b h1.2
  have h3 := list_rel b h2.2
  have h4 := num_rel b h3.2
  have h5 := num_rel b h4.2
  simp only [parseF]
  rw [h0.1, h1.1, h2.1, h3.1, h4.1, h5.1, h5.2.1]
theorem parse_ok {num : List UInt8 → Int × Bool → Int × (Int × Bool)} (hf : Fwd num) (b : List UInt8) (hb : b.length ≤ 1000000) : OkMeta (parseF num b).1 := by
  refine ⟨?_, ?_, ?_⟩
  · have := list_length hf b (0, true)
    simp only [parseF]
    omega
  · simp [parseF]
  · intro xs hx
    simp only [parseF, List.mem_cons, List.not_mem_nil, or_false] at hx
    rcases hx with rfl | rfl | rfl
    all_goals exact Nat.le_trans (list_length hf b _) (by omega)
theorem flag_def (x k : Int) : (!(std.eq (std.ar .and .i64 x k) 0)) = flagAt x k := rfl
abbrev rzMeta (r : MMeta × Bool) : Rz := (.tup [.agg (eMeta none r.1), .bool r.2], [.undef])
theorem c_spec_MetaOf (b : List UInt8) (hb : b.length ≤ 1000000) : Cm 119 [.sl (some true) 1 b.length (bytes b)] (rzMeta (metaOfF b)) := by
  have w3 : ∀ (c : Int × Bool) (gens x1 x2 x3 : List Int), parseF numS b = (⟨gens, [x1, x2, x3], flagAt (numS b c).1 1, flagAt (numS b c).1 2, flagAt (numS b c).1 4, (numS b (numS b c).2).1⟩, (numS b (numS b c).2).2.2) → WP 119 Try.f119 [.undef] 0 (h_spec_MetaOf_0_1 b.length (bytes b) 3 false false false 0 b.length (bytes b) c.1 c.2 gens.length (ints gens) 3 (rows none [x1, x2, x3]) false false false 0) (rzMeta (metaOfF b)) := by
    intro c gens x1 x2 x3 hp
    have hok := parse_ok fwd_S b hb
    refine WP.fin fun J => ?_
    rw [eh_spec_MetaOf_0_1]
    unfold metaOfF
    rw [hp] at hok ⊢
    have hv := v_spec_MetaBytes (g := true) (m := ⟨gens, [x1, x2, x3], flagAt (numS b c).1 1, flagAt (numS b c).1 2, flagAt (numS b c).1 4, (numS b (numS b c).2).1⟩) (hm := hok)
    have hv' : ∀ t : Tel Rz, cvP 130 [.agg [.sl (some true) 1 gens.length (ints gens), .sl (some true) 1 3 (rows (some true) [x1, x2, x3]), .bool (flagAt (numS b c).1 1), .bool (flagAt (numS b c).1 2), .bool (flagAt (numS b c).1 4), .int .i64 (numS b (numS b c).2).1]] t = _ := hv
    simp (disch := first | omega | assumption) only [br_nlt, tagL_bytes, v_spec_num, feed_int, feed_slx, feed_bool, feed_done, s_nl8, br_t, br_tf, br_ft, flag_def, exTL_ints, exTL_rows, br_bsok8, hv', feed_sl, s_bss8, s_seq8]
    generalize (numS b (numS b c).2).2.2 = q1
    generalize metaBytesF _ = l
    cases q1 with
    | false => rfl
    | true =>
      by_cases h1 : l = b
      · subst h1
        cases l with
        | nil => simp [br, std, zeroMeta, rows, ints]
        | cons a l =>
          simp only [br_nb, br_t, decide_true]
          rw [br_neq (by simp only [s_ofN, List.length_cons]; omega)]
          simp [zeroMeta]
      · simp [br, h1, zeroMeta, rows, ints]
  have w2 := WP.go (f := 119) (fn := Try.f119) (sk := [.undef]) (j := 0) (h := h_spec_MetaOf_0_1 b.length (bytes b) 2 false false false 0 b.length (bytes b) (listF numS b (listF numS b (listF numS b (0, true)).2).2).2.1 (listF numS b (listF numS b (listF numS b (0, true)).2).2).2.2 (listF numS b (0, true)).1.length (ints (listF numS b (0, true)).1) 2 (rows none [(listF numS b (listF numS b (0, true)).2).1, (listF numS b (listF numS b (listF numS b (0, true)).2).2).1]) false false false 0) _ (w3 (listF numS b (listF numS b (listF numS b (listF numS b (0, true)).2).2).2).2 (listF numS b (0, true)).1 (listF numS b (listF numS b (0, true)).2).1 (listF numS b (listF numS b (listF numS b (0, true)).2).2).1 (listF numS b (listF numS b (listF numS b (listF numS b (0, true)).2).2).2).1 rfl) fun J hJ => by
    rw [eh_spec_MetaOf_0_1]
    simp (disch := first | omega | assumption) only [br_lt, tagL_bytes, tagL_ints, v_spec_list, feed_sl, feed_int, feed_slx, feed_bool, feed_done, s_nl8, s_nlI, br_t, br_tf, br_fits]
    exact hJ
  have w1 := WP.go (f := 119) (fn := Try.f119) (sk := [.undef]) (j := 0) (h := h_spec_MetaOf_0_1 b.length (bytes b) 1 false false false 0 b.length (bytes b) (listF numS b (listF numS b (0, true)).2).2.1 (listF numS b (listF numS b (0, true)).2).2.2 (listF numS b (0, true)).1.length (ints (listF numS b (0, true)).1) 1 (rows none [(listF numS b (listF numS b (0, true)).2).1]) false false false 0) _ w2 fun J hJ => by
    rw [eh_spec_MetaOf_0_1]
    simp (disch := first | omega | assumption) only [br_lt, tagL_bytes, tagL_ints, v_spec_list, feed_sl, feed_int, feed_slx, feed_bool, feed_done, s_nl8, s_nlI, br_t, br_tf, br_fits]
    exact hJ
  have w0 := WP.go (f := 119) (fn := Try.f119) (sk := [.undef]) (j := 0) (h := h_spec_MetaOf_0 b.length (bytes b) 0 false false false 0 b.length (bytes b) (listF numS b (0, true)).2.1 (listF numS b (0, true)).2.2 (listF numS b (0, true)).1.length (ints (listF numS b (0, true)).1) false false false 0) _ w1 fun J hJ => by
    rw [eh_spec_MetaOf_0]
    simp (disch := first | omega | assumption) only [br_lt, tagL_bytes, tagL_ints, v_spec_list, feed_sl, feed_int, feed_slx, feed_bool, feed_done, s_nl8, s_nlI, br_t, br_tf, br_fits]
    exact hJ
  refine Cm.go k_spec_MetaOf [.undef] 0 _ w0 fun J hJ => ?_
  rw [e_spec_MetaOf]
  simp (disch := first | omega | assumption) only [tagL_bytes, tagL_ints, v_spec_list, feed_sl, feed_int, feed_slx, feed_bool, feed_done, s_nl8, s_nlI, br_t, br_tf]
  exact hJ
theorem c_impl_MetaOf (b : List UInt8) (hb : b.length ≤ 1000000) : Cm 133 [.sl (some true) 1 b.length (bytes b)] (rzMeta (metaOfF b)) := by
  have w3 : ∀ (c : Int × Bool) (gens x1 x2 x3 : List Int), parseF numI b = (⟨gens, [x1, x2, x3], flagAt (numI b c).1 1, flagAt (numI b c).1 2, flagAt (numI b c).1 4, (numI b (numI b c).2).1⟩, (numI b (numI b c).2).2.2) → WP 133 Try.f133 [.undef] 0 (h_impl_MetaOf_0_1 b.length (bytes b) 3 false false false 0 b.length (bytes b) c.1 c.2 gens.length (ints gens) 3 (rows none [x1, x2, x3]) false false false 0) (rzMeta (metaOfF b)) := by
    intro c gens x1 x2 x3 hp
    have hok := parse_ok fwd_I b hb
    refine WP.fin fun J => ?_
    rw [eh_impl_MetaOf_0_1]
    unfold metaOfF
    rw [parse_eq, hp]
    rw [hp] at hok
    have hv := v_impl_MetaBytes (g := true) (m := ⟨gens, [x1, x2, x3], flagAt (numI b c).1 1, flagAt (numI b c).1 2, flagAt (numI b c).1 4, (numI b (numI b c).2).1⟩) (hm := hok)
    have hv' : ∀ t : Tel Rz, cvP 141 [.agg [.sl (some true) 1 gens.length (ints gens), .sl (some true) 1 3 (rows (some true) [x1, x2, x3]), .bool (flagAt (numI b c).1 1), .bool (flagAt (numI b c).1 2), .bool (flagAt (numI b c).1 4), .int .i64 (numI b (numI b c).2).1]] t = _ := hv
    simp (disch := first | omega | assumption) only [br_nlt, tagL_bytes, v_impl_num, feed_int, feed_slx, feed_bool, feed_done, s_nl8, br_t, br_tf, br_ft, flag_def, exTL_ints, exTL_rows, exTL_bytes, hv', feed_sl, v_bytesEqual]
    generalize (numI b (numI b c).2).2.2 = q1
    generalize metaBytesF _ = l
    cases q1 with
    | false => rfl
    | true =>
      by_cases h1 : l = b
      · subst h1
        cases l with
        | nil => simp [br, std, zeroMeta, rows, ints]
        | cons a l =>
          simp only [br_nb, br_t, decide_true]
          rw [br_neq (by simp only [s_ofN, List.length_cons]; omega)]
          simp [zeroMeta]
      · cases std.eq (std.ofN l.length) 0 <;> simp [br, h1, zeroMeta, rows, ints]
  have w2 := WP.go (f := 133) (fn := Try.f133) (sk := [.undef]) (j := 0) (h := h_impl_MetaOf_0_1 b.length (bytes b) 2 false false false 0 b.length (bytes b) (listF numI b (listF numI b (listF numI b (0, true)).2).2).2.1 (listF numI b (listF numI b (listF numI b (0, true)).2).2).2.2 (listF numI b (0, true)).1.length (ints (listF numI b (0, true)).1) 2 (rows none [(listF numI b (listF numI b (0, true)).2).1, (listF numI b (listF numI b (listF numI b (0, true)).2).2).1]) false false false 0) _ (w3 (listF numI b (listF numI b (listF numI b (listF numI b (0, true)).2).2).2).2 (listF numI b (0, true)).1 (listF numI b (listF numI b (0, true)).2).1 (listF numI b (listF numI b (listF numI b (0, true)).2).2).1 (listF numI b (listF numI b (listF numI b (listF numI b (0, true)).2).2).2).1 rfl) fun J hJ => by
    rw [eh_impl_MetaOf_0_1]
    simp (disch := first | omega | assumption) only [br_lt, tagL_bytes, tagL_ints, v_impl_list, feed_sl, feed_int, feed_slx, feed_bool, feed_done, s_nl8, s_nlI, br_t, br_tf, br_fits]
    exact hJ
  have w1 := WP.go (f := 133) (fn := Try.f133) (sk := [.undef]) (j := 0) (h := h_impl_MetaOf_0_1 b.length (bytes b) 1 false false false 0 b.length (bytes b) (listF numI b (listF numI b (0, true)).2).2.1 (listF numI b (listF numI b (0, true)).2).2.2 (listF numI b (0, true)).1.length (ints (listF numI b (0, true)).1) 1 (rows none [(listF numI b (listF numI b (0, true)).2).1]) false false false 0) _ w2 fun J hJ => by
    rw [eh_impl_MetaOf_0_1]
    simp (disch := first | omega | assumption) only [br_lt, tagL_bytes, tagL_ints, v_impl_list, feed_sl, feed_int, feed_slx, feed_bool, feed_done, s_nl8, s_nlI, br_t, br_tf, br_fits]
    exact hJ
  have w0 := WP.go (f := 133) (fn := Try.f133) (sk := [.undef]) (j := 0) (h := h_impl_MetaOf_0 b.length (bytes b) 0 false false false 0 b.length (bytes b) (listF numI b (0, true)).2.1 (listF numI b (0, true)).2.2 (listF numI b (0, true)).1.length (ints (listF numI b (0, true)).1) false false false 0) _ w1 fun J hJ => by
    rw [eh_impl_MetaOf_0]
    simp (disch := first | omega | assumption) only [br_lt, tagL_bytes, tagL_ints, v_impl_list, feed_sl, feed_int, feed_slx, feed_bool, feed_done, s_nl8, s_nlI, br_t, br_tf, br_fits]
    exact hJ
  refine Cm.go k_impl_MetaOf [.undef] 0 _ w0 fun J hJ => ?_
  rw [e_impl_MetaOf]
  simp (disch := first | omega | assumption) only [tagL_bytes, tagL_ints, v_impl_list, feed_sl, feed_int, feed_slx, feed_bool, feed_done, s_nl8, s_nlI, br_t, br_tf]
  exact hJ
theorem metaOf_ok (b : List UInt8) (hb : b.length ≤ 1000000) : OkMeta (metaOfF b).1 := by
  unfold metaOfF
  split
  · exact parse_ok fwd_S b hb
  · exact ⟨by simp [zeroMeta], by simp [zeroMeta], by simp [zeroMeta]⟩
end Go.Proofs.Ytkejckoefjonjaa
namespace Go.Proofs.Ytkejckoefjonjaa
set_option maxRecDepth 100000
theorem WP.step {f : FuncId} {fn : Func} {sk : List D} {j : Nat} {h : St} {r : Rz} (ht : ∀ J : Nat → St → Option Rz, (∀ j' h', WP f fn sk j' h' r → J j' h' = some r) → HeadJ std cvP J f fn sk j h = some r) : WP f fn sk j h r := W.step cfg_ok ht
theorem Cm.step {f : FuncId} {fn : Func} {r : Rz} (ok : Told cfg Try.prog f fn) (sk : List D) {args : List D} (ht : ∀ J : Nat → St → Option Rz, (∀ j' h', WP f fn sk j' h' r → J j' h' = some r) → RunJ std cvP J f fn args = some r) (hsk : args.map skD = sk := by rfl) : Cm f args r := by subst hsk; exact Comes.step cfg_ok ok ht
section
variable {R : Type} {x y : R}
def tick (n : Nat) : Nat := n + 1
@[go_sem] theorem tick_0 : tick 0 = 1 := by unfold tick; omega
@[congr] theorem br_congr {c c' : Bool} {z : Nat} (h : c = c') (_ : tick 0 = z) : br c x y = br c' x y := by rw [h]
@[congr] theorem cv_congr {g : FuncId} {ds ds' : List D} {t : Tel Rz} {z : Nat} (h : ds = ds') (_ : tick 0 = z) : cvP g ds t = cvP g ds' t := by rw [h]
@[congr] theorem feed_congr {t : Tel R} {l l' : List D} {z : Nat} (h : l = l') (_ : tick 0 = z) : feed t l = feed t l' := by rw [h]
attribute [go_sem ↓] br_t br_f
@[go_sem ↓] theorem g_brbr (a b c : Bool) (x y : R) : br (br a b c) x y = br a (br b x y) (br c x y) := by cases a <;> rfl
@[go_sem ↓] theorem g_brn (b : Bool) (x y : R) : br (!b) x y = br b y x := by cases b <;> rfl
@[go_sem] theorem g_dt {p : Prop} [Decidable p] (h : p) : br (decide p) x y = x := by rw [decide_eq_true h]; rfl
@[go_sem] theorem g_df {p : Prop} [Decidable p] (h : ¬p) : br (decide p) x y = y := by rw [decide_eq_false h]; rfl
theorem g_cases {b : Bool} {r : R} (h1 : b = true → x = r) (h2 : b = false → y = r) : br b x y = r := by cases b with | true => exact h1 rfl | false => exact h2 rfl
theorem g_ite {p : Prop} [Decidable p] {r : R} (h1 : p → x = r) (h2 : ¬p → y = r) : br (decide p) x y = r := by
  by_cases h : p
  · rw [g_dt h]; exact h1 h
  · rw [g_df h]; exact h2 h
theorem g_c {b : Bool} {r : R} (h1 : b = true → x = r) (h2 : ¬b = true → y = r) : br b x y = r := by cases b with | true => exact h1 rfl | false => exact h2 (by simp)
end
theorem WP.up {f : FuncId} {fn : Func} {sk : List D} {j : Nat} {r : Rz} {H : Nat → St} (n : Nat) (inv : Nat → Prop) (hs : ∀ i, i ≤ n → inv i → ∀ J : Nat → St → Option Rz, (∀ j' h', WP f fn sk j' h' r → J j' h' = some r) → (i < n → inv (i + 1) → J j (H (i + 1)) = some r) → HeadJ std cvP J f fn sk j (H i) = some r) : ∀ i, i ≤ n → inv i → WP f fn sk j (H i) r := by
  have key : ∀ k i, i + k = n → inv i → WP f fn sk j (H i) r := by
    intro k
    induction k with
    | zero => intro i hi hv; exact WP.step fun J hJ => hs i (by omega) hv J hJ (fun h => absurd h (by omega))
    | succ k ih => intro i hi hv; exact WP.step fun J hJ => hs i (by omega) hv J hJ (fun _ h => hJ _ _ (ih (i + 1) (by omega) h))
  exact fun i hi hv => key (n - i) i (by omega) hv
section
variable {R : Type}
@[go_sem ↓] theorem g_done (x : Option R) (l : List D) : feed (.done x) l = x := rfl
@[go_sem ↓] theorem g_int (f : Int → Tel R) (k : IntKind) (n : Int) (l : List D) : feed (.int f) (.int k n :: l) = feed (f n) l := rfl
@[go_sem ↓] theorem g_bool (f : Bool → Tel R) (b : Bool) (l : List D) : feed (.bool f) (.bool b :: l) = feed (f b) l := rfl
@[go_sem ↓] theorem g_str (f : ByteArray → Tel R) (s : ByteArray) (l : List D) : feed (.str f) (.str s :: l) = feed (f s) l := rfl
@[go_sem ↓] theorem g_sl (f : Nat → List D → Tel R) (s n : Nat) (cs l : List D) : feed (.sl f) (.sl none s n cs :: l) = feed (f n cs) l := rfl
@[go_sem ↓] theorem g_slx (f : Bool → Nat → List D → Tel R) (g : Bool) (s n : Nat) (cs l : List D) : feed (.slx f) (.sl (some g) s n cs :: l) = feed (f g n cs) l := rfl
end
@[go_sem ↓] theorem g_ty (k : TyK) (f : k.T → Tel Rz) (x : k.T) (l : List D) : feed (.ty k f) (enc k x :: l) = feed (f x) l := feed_ty k f x l
attribute [go_sem] enc
@[go_sem ↓] theorem g_nm (ys : List D) (t : Tel Rz) : cvP 999999 [.sl none 0 0 ys] t = feed t [.sl none 0 0 ys] := cvP_nm ys t
@[go_sem] theorem MMeta.eta (m : MMeta) : (⟨m.gens, m.bits, m.fine, m.old, m.held, m.last⟩ : MMeta) = m := rfl
@[go_sem] theorem MSlots.eta (s : MSlots) : (⟨s.a, s.b⟩ : MSlots) = s := rfl
@[go_sem] theorem MNode.eta (n : MNode) : (⟨n.id, n.up, n.prime, n.image, n.mt, n.slots, n.conn, n.sync, n.copies, n.wait⟩ : MNode) = n := rfl
@[go_sem] theorem MMsg.eta (n : MMsg) : (⟨n.kind, n.cell, n.val, n.who, n.gens⟩ : MMsg) = n := rfl
@[go_sem] theorem MDeed.eta (n : MDeed) : (⟨n.kind, n.a, n.b⟩ : MDeed) = n := rfl
@[go_sem] theorem MWorld.eta (n : MWorld) : (⟨n.nodes, n.net, n.log, n.safe, n.gen⟩ : MWorld) = n := rfl
@[go_sem] theorem g_t2 : Int.toNat 2 = 2 := rfl
@[go_sem] theorem g_t3 : Int.toNat 3 = 3 := rfl
@[go_sem] theorem g_t4 : Int.toNat 4 = 4 := rfl
@[go_sem] theorem g_t5 : Int.toNat 5 = 5 := rfl
@[go_sem] theorem g_t6 : Int.toNat 6 = 6 := rfl
@[go_sem] theorem g_t7 : Int.toNat 7 = 7 := rfl
@[go_sem] theorem g_t8 : Int.toNat 8 = 8 := rfl
@[go_sem] theorem g_t9 : Int.toNat 9 = 9 := rfl
@[go_sem] theorem g_t10 : Int.toNat 10 = 10 := rfl
@[go_sem] theorem g_t11 : Int.toNat 11 = 11 := rfl
@[go_sem] theorem g_t12 : Int.toNat 12 = 12 := rfl
@[go_sem] theorem g_t13 : Int.toNat 13 = 13 := rfl
@[go_sem] theorem g_t14 : Int.toNat 14 = 14 := rfl
@[go_sem] theorem g_t15 : Int.toNat 15 = 15 := rfl
@[go_sem] theorem g_t16 : Int.toNat 16 = 16 := rfl
@[go_sem] theorem g_t17 : Int.toNat 17 = 17 := rfl
attribute [go_sem] decide_true decide_false s_lt s_le s_ofN Nat.zero_add Int.toNat_natCast Int.toNat_zero Int.toNat_one if_true
@[go_sem] theorem g_eq (a b : Int) : std.eq a b = decide (a = b) := by
  show (a == b) = _
  rfl
@[go_sem] theorem g_beq (a b : Bool) : std.beq a b = decide (a = b) := by cases a <;> cases b <;> rfl
@[go_sem] theorem g_inR (i : Int) (n : Nat) : std.inR i n = decide (0 ≤ i ∧ i < (n : Int)) := by simp [std]
@[go_sem] theorem g_rng (l h : Int) (n : Nat) : std.rng l h n = decide (0 ≤ l ∧ l ≤ h ∧ h ≤ (n : Int)) := by simp [std, Bool.and_assoc]
@[go_sem] theorem g_fits (n b : Nat) : std.fits n b = decide (n * b ≤ 140737488355328) := rfl
@[go_sem] theorem g_mkok (l c : Int) (b : Nat) : std.mkok l c b = decide (0 ≤ l ∧ l ≤ c ∧ c * (b : Int) ≤ 140737488355328) := by simp [std, Bool.and_assoc]
@[go_sem] theorem g_neq (a b : Nat) : std.neq a b = decide (a = b) := rfl
@[go_sem] theorem g_toN (i : Int) : std.toN i = i.toNat := rfl
@[go_sem] theorem g_nsub (a b : Int) : std.nsub a b = a.toNat - b.toNat := rfl
@[go_sem] theorem g_idx1 (a : Nat) (i : Int) : std.idx a i 1 = a + i.toNat := by show (a + i.toNat) * 1 = _; omega
@[go_sem] theorem g_mul1 (n : Nat) : Nat.mul n 1 = n := Nat.mul_one n
@[go_sem] theorem g_0mul (n : Nat) : Nat.mul 0 n = 0 := Nat.zero_mul n
@[go_sem] theorem g_and (a b : Bool) : br a b false = (a && b) := by cases a <;> rfl
@[go_sem] theorem g_or (a b : Bool) : br a true b = (a || b) := by cases a <;> rfl
@[go_sem] theorem g_isI (xs : List Int) (i : Nat) : std.isI .i64 (ints xs) i = decide (i < xs.length) := by
  by_cases h : i < xs.length
  · simp [std, ints, h, ksame]
  · simp [std, ints, List.getElem?_eq_none (Nat.not_lt.1 h), h]
@[go_sem] theorem g_getI (xs : List Int) (i : Nat) : std.getI (ints xs) i = xs.getD i 0 := by
  by_cases h : i < xs.length
  · simp [std, ints, h, cInt]
  · simp [std, ints, List.getElem?_eq_none (Nat.not_lt.1 h), cInt]
@[go_sem] theorem g_isI8 (xs : List UInt8) (i : Nat) : std.isI .u8 (bytes xs) i = decide (i < xs.length) := by
  by_cases h : i < xs.length
  · simp [std, bytes, byteD, h, ksame]
  · simp [std, bytes, List.getElem?_eq_none (Nat.not_lt.1 h), h]
@[go_sem] theorem g_getI8 (xs : List UInt8) (i : Nat) : std.getI (bytes xs) i = ((xs.getD i 0).toNat : Int) := by
  by_cases h : i < xs.length
  · simp [std, bytes, byteD, h, cInt]
  · simp [std, bytes, List.getElem?_eq_none (Nat.not_lt.1 h), cInt]
@[go_sem] theorem g_isB (xs : List Bool) (i : Nat) : std.isB (bools xs) i = decide (i < xs.length) := by
  by_cases h : i < xs.length
  · simp [std, bools, h]
  · simp [std, bools, List.getElem?_eq_none (Nat.not_lt.1 h), h]
@[go_sem] theorem g_getB (xs : List Bool) (i : Nat) : std.getB (bools xs) i = xs.getD i false := by
  by_cases h : i < xs.length
  · simp [std, bools, h, cBool]
  · simp [std, bools, List.getElem?_eq_none (Nat.not_lt.1 h), cBool]
@[go_sem] theorem g_isL (g : Bool) (xs : List (List Int)) (i : Nat) : std.isL 1 (rows (some g) xs) i = decide (i < xs.length) := by
  by_cases h : i < xs.length
  · simp [std, rows, h]
  · simp [std, rows, List.getElem?_eq_none (Nat.not_lt.1 h), h]
@[go_sem] theorem g_getG {g : Bool} {xs : List (List Int)} {i : Nat} (h : i < xs.length) : std.getG (rows (some g) xs) i = g := s_getG h
@[go_sem] theorem g_isOS (xs : List (List Int)) (i : Nat) : std.isOS 1 (rows none xs) i = decide (i < xs.length) := by
  by_cases h : i < xs.length
  · simp [std, rows, h]
  · simp [std, rows, List.getElem?_eq_none (Nat.not_lt.1 h), h]
@[go_sem] theorem g_isO (xs : List (List Int)) (i : Nat) : std.isO (rows none xs) i = decide (i < xs.length) := by
  by_cases h : i < xs.length
  · simp [std, rows, h]
  · simp [std, rows, List.getElem?_eq_none (Nat.not_lt.1 h), h]
@[go_sem] theorem g_getN (g : Option Bool) (xs : List (List Int)) (i : Nat) : std.getN (rows g xs) i = (xs.getD i []).length := by
  by_cases h : i < xs.length
  · simp [std, rows, h, cN]
  · simp [std, rows, List.getElem?_eq_none (Nat.not_lt.1 h), cN]
@[go_sem] theorem g_getC (g : Option Bool) (xs : List (List Int)) (i : Nat) : std.getC (rows g xs) i = ints (xs.getD i []) := by
  by_cases h : i < xs.length
  · simp [std, rows, h, cC]
  · simp [std, rows, List.getElem?_eq_none (Nat.not_lt.1 h), cC, ints]
@[go_sem] theorem g_slotI (xs : List Int) (i : Nat) : std.slot (ints xs) i = decide (i < xs.length) := by
  by_cases h : i < xs.length
  · simp [std, ints, h, isSl]
  · simp [std, ints, List.getElem?_eq_none (Nat.not_lt.1 h), h]
@[go_sem] theorem g_slot8 (xs : List UInt8) (i : Nat) : std.slot (bytes xs) i = decide (i < xs.length) := by
  by_cases h : i < xs.length
  · simp [std, bytes, byteD, h, isSl]
  · simp [std, bytes, List.getElem?_eq_none (Nat.not_lt.1 h), h]
@[go_sem] theorem g_slotB (xs : List Bool) (i : Nat) : std.slot (bools xs) i = decide (i < xs.length) := by
  by_cases h : i < xs.length
  · simp [std, bools, h, isSl]
  · simp [std, bools, List.getElem?_eq_none (Nat.not_lt.1 h), h]
@[go_sem] theorem g_nlR (xs : List (List Int)) : std.nl (rows none xs) = true := s_nlR (by simp) xs
attribute [go_sem] s_nlI s_nl8 s_nlB ints_set bytes_set bools_set ints_take bytes_app exTL_bytes exTL_bools exTL_ints exTL_rows tagL_ints tagL_bytes s_byteN s_bss8
@[go_sem] theorem g_setR (xs : List (List Int)) (i n : Nat) (l : List Int) (h : n = l.length) : List.set (rows none xs) i (.sl none 1 n (ints l)) = rows none (xs.set i l) := by subst h; exact rows_set
@[go_sem] theorem g_flatI (xs : List Int) : std.flat (ints xs) = true := List.all_eq_true.2 (by intro d hd; obtain ⟨a, _, rfl⟩ := List.mem_map.1 hd; rfl)
@[go_sem] theorem g_flat8 (xs : List UInt8) : std.flat (bytes xs) = true := List.all_eq_true.2 (by intro d hd; obtain ⟨a, _, rfl⟩ := List.mem_map.1 hd; rfl)
@[go_sem] theorem g_flatB (xs : List Bool) : std.flat (bools xs) = true := List.all_eq_true.2 (by intro d hd; obtain ⟨a, _, rfl⟩ := List.mem_map.1 hd; rfl)
@[go_sem] theorem g_bsok (xs : List UInt8) : std.bsok (bytes xs) = true := by
  have := br_bsok8 (x := true) (y := false) xs
  rwa [br_tf] at this
@[go_sem] theorem g_seq (xs ys : List UInt8) : std.seq (bs xs) (bs ys) = decide (xs = ys) := s_seq8 xs ys
@[go_sem] theorem g_ints_drop (xs : List Int) (i : Nat) : List.drop i (ints xs) = ints (xs.drop i) := by simp [ints, List.map_drop]
@[go_sem] theorem g_ints_app (xs ys : List Int) : List.append (ints xs) (ints ys) = ints (xs ++ ys) := by simp [ints]
@[go_sem] theorem g_ints1 (xs : List Int) (x : Int) : List.append (ints xs) [D.int .i64 x] = ints (xs ++ [x]) := by simp [ints]
@[go_sem] theorem g_bytes1 (xs : List UInt8) (x : UInt8) : List.append (bytes xs) [byteD x] = bytes (xs ++ [x]) := by simp [bytes]
@[go_sem] theorem g_bytes10 (xs : List UInt8) : List.append (bytes xs) [D.int .u8 0] = bytes (xs ++ [0]) := by simp [bytes, byteD]
@[go_sem] theorem g_ints01 (x : Int) : List.append [] [D.int .i64 x] = ints [x] := rfl
@[go_sem] theorem g_bytes01 (x : UInt8) : List.append [] [byteD x] = bytes [x] := rfl
@[go_sem] theorem g_flat1 (x : UInt8) : std.flat [byteD x] = true := rfl
@[go_sem] theorem g_flat2 (k : IntKind) (x : Int) : std.flat [D.int k x] = true := rfl
@[go_sem] theorem g_nl0 : std.nl [] = true := rfl
@[go_sem] theorem g_reps8 (n : Nat) : reps n [.int .u8 0] = bytes (List.replicate n 0) := reps_8 n
@[go_sem] theorem g_repsI (n : Nat) : reps n [.int .i64 0] = ints (List.replicate n 0) := reps_I n
@[go_sem] theorem g_repsB (n : Nat) : reps n [.bool false] = bools (List.replicate n false) := reps_B n
@[go_sem] theorem g_repsR (n : Nat) : reps n [.nil 1] = rows none (List.replicate n []) := reps_R n
@[go_sem] theorem g_bdrop (xs : List UInt8) (i : Nat) : List.drop i (bytes xs) = bytes (xs.drop i) := by simp [bytes, List.map_drop]
@[go_sem] theorem g_btake (xs : List UInt8) (i : Nat) : List.take i (bytes xs) = bytes (xs.take i) := by simp [bytes, List.map_take]
@[go_sem] theorem e_I (x : List Int) : exT true (sI none x) = sI (some true) x := by simp [exT, exTL_ints]
@[go_sem] theorem e_B (x : List UInt8) : exT true (s8 none x) = s8 (some true) x := by simp [exT, exTL_bytes]
@[go_sem] theorem e_L (x : List Bool) : exT true (sB none x) = sB (some true) x := by simp [exT, exTL_bools]
@[go_sem] theorem e_R (x : List (List Int)) : exT true (sR none x) = sR (some true) x := by simp [exT, exTL_rows]
@[go_sem] theorem e_Meta (x : MMeta) : exTL true (eMeta none x) = eMeta (some true) x := by simp [exT, exTL, exTL_ints, exTL_rows]
@[go_sem] theorem e_Slots (x : MSlots) : exTL true (eSlots none x) = eSlots (some true) x := by simp [exT, exTL, exTL_bytes]
@[go_sem] theorem e_Node (x : MNode) : exTL true (eNode none x) = eNode (some true) x := by simp [exT, exTL, exTL_ints, exTL_rows, exTL_bytes, exTL_bools]
@[go_sem] theorem g_sub {a b : Int} (h : -9223372036854775808 ≤ a - b) (h' : a - b < 9223372036854775808) : std.ar .sub .i64 a b = a - b := s_sub h h'
@[go_sem] theorem g_add {a b : Int} (h : -9223372036854775808 ≤ a + b) (h' : a + b < 9223372036854775808) : std.ar .add .i64 a b = a + b := s_add h h'
@[go_sem] theorem g_wrapB (x : UInt8) : std.wrap .i64 (x.toNat : Int) = x.toNat := wrap64 (by omega) (by have := x.toNat_lt; omega)end Go.Proofs.Ytkejckoefjonjaa
namespace Go.Proofs.Ytkejckoefjonjaa
set_option maxRecDepth 100000
set_option profiler true
set_option profiler.threshold 1000
section
variable (pr : Prims) (cv : Cv Rz) (J : Nat → St → Option Rz)
theorem k_impl_slotBytes : Told cfg Try.prog 135 Try.f135 := ⟨by kernel_rfl, Try.func135, by kernel_rfl⟩
theorem e_impl_slotBytes (x0 : MMeta) (x1 : Int) : RunJ pr cv J 135 Try.f135 [(.agg (eMeta (some true) x0)), (.int .i64 x1)] =
    (cv 141 [(.agg (eMeta (some true) x0))] (.sl (fun vn0 => (fun vc1 => (.done (br (br (br (pr.nl vc1) true false) true false) (cv 142 [(.int .i64 x1)] (.ty TyK.B (fun (vm2 : List UInt8) => (.done (br (br (pr.flat [(.int .u8 (pr.wrap .u8 (pr.ofN vn0)))]) (pr.fits (vm2.length + 1) 1) false) (br (br (pr.flat vc1) (pr.fits ((vm2.length + 1) + vn0) 1) false) (br (br (pr.le 0 (pr.ar .sub .i64 156 (pr.ofN ((vm2.length + 1) + vn0)))) (pr.fits (((vm2.length + 1) + vn0) + (pr.toN (pr.ar .sub .i64 156 (pr.ofN ((vm2.length + 1) + vn0))))) 1) false) (cv 142 [(.int .i64 x1)] (.ty TyK.B (fun (vm3 : List UInt8) => (.done (br (br (pr.flat (bytes vm3)) (pr.fits ((((vm2.length + 1) + vn0) + (pr.toN (pr.ar .sub .i64 156 (pr.ofN ((vm2.length + 1) + vn0))))) + vm3.length) 1) false) (some ((.sl none 1 ((((vm2.length + 1) + vn0) + (pr.toN (pr.ar .sub .i64 156 (pr.ofN ((vm2.length + 1) + vn0))))) + vm3.length) (List.append (List.append (List.append (List.append (bytes vm2) [(.int .u8 (pr.wrap .u8 (pr.ofN vn0)))]) vc1) (reps (pr.toN (pr.ar .sub .i64 156 (pr.ofN ((vm2.length + 1) + vn0)))) [(.int .u8 0)])) (bytes vm3))), [.undef, .undef])) none))))) none) none) none))))) none)))))) := by kernel_rfl
def h_spec_l6Slot_0 (x1 : Int) (n0 : Nat) (c1 : List D) : St := (St.mk [(1, (.int .i64 x1)), (6, (.ref 10006 [] 0 none))] [(10006, [(.sl none 1 n0 c1)])] [] 0)
theorem k_spec_l6Slot : Told cfg Try.prog 120 Try.f120 := ⟨by kernel_rfl, Try.func120, by kernel_rfl⟩
theorem e_spec_l6Slot (x0 : MMeta) (x1 : Int) : RunJ pr cv J 120 Try.f120 [(.agg (eMeta (some true) x0)), (.int .i64 x1)] =
    (cv 130 [(.agg (eMeta (some true) x0))] (.sl (fun vn0 => (fun vc1 => (.done (br (br (br (pr.nl vc1) true false) true false) (cv 131 [(.int .i64 x1)] (.ty TyK.B (fun (vm2 : List UInt8) => (.done (br (br (pr.flat [(.int .u8 (pr.wrap .u8 (pr.ofN vn0)))]) (pr.fits (vm2.length + 1) 1) false) (br (br (pr.flat vc1) (pr.fits ((vm2.length + 1) + vn0) 1) false) (J 0 (h_spec_l6Slot_0 x1 ((vm2.length + 1) + vn0) (List.append (List.append (bytes vm2) [(.int .u8 (pr.wrap .u8 (pr.ofN vn0)))]) vc1))) none) none))))) none)))))) := by kernel_rfl
theorem eh_spec_l6Slot_0 (x1 : Int) (n0 : Nat) (c1 : List D) : HeadJ pr cv J 120 Try.f120 [.undef, .undef] 0 (h_spec_l6Slot_0 x1 n0 c1) =
    (br (pr.lt (pr.ofN n0) 156) (br (br (pr.flat [(.int .u8 0)]) (pr.fits (n0 + 1) 1) false) (J 0 (h_spec_l6Slot_0 x1 (n0 + 1) (List.append c1 [(.int .u8 0)]))) none) (cv 131 [(.int .i64 x1)] (.ty TyK.B (fun (vm0 : List UInt8) => (.done (br (br (pr.flat (bytes vm0)) (pr.fits (n0 + vm0.length) 1) false) (some ((.sl none 1 (n0 + vm0.length) (List.append c1 (bytes vm0))), [.undef, .undef])) none)))))) := by kernel_rfl
theorem k_impl_SlotOf : Told cfg Try.prog 125 Try.f125 := ⟨by kernel_rfl, Try.func125, by kernel_rfl⟩
theorem e_impl_SlotOf (x0 : List UInt8) : RunJ pr cv J 125 Try.f125 [(s8 (some true) x0)] =
    let y1 : Option (D × List D) := (some ((.tup [(.agg [(.sl none 1 0 []), (.sl none 1 0 []), (.bool false), (.bool false), (.bool false), (.int .i64 0)]), (.int .i64 0), (.bool false)]), [.undef]))
    let y2 : D := (.int .i64 (pr.ar .or .i64 (pr.ar .or .i64 (pr.ar .or .i64 (pr.wrap .i64 (pr.getI (bytes x0) (pr.idx 0 0 1))) (pr.ar .shl .i64 (pr.wrap .i64 (pr.getI (bytes x0) (pr.idx 0 1 1))) 8)) (pr.ar .shl .i64 (pr.wrap .i64 (pr.getI (bytes x0) (pr.idx 0 2 1))) 16)) (pr.ar .shl .i64 (pr.wrap .i64 (pr.getI (bytes x0) (pr.idx 0 3 1))) 24)))
    let y3 : Int := (pr.ar .add .i64 5 (pr.wrap .i64 (pr.getI (bytes x0) (pr.idx 0 4 1))))
    let y4 : Nat := (pr.nsub y3 5)
    (br (br (pr.eq (pr.ofN x0.length) 160) false true) y1 (br (pr.inR 0 x0.length) (br (br (pr.isI .u8 (bytes x0) (pr.idx 0 0 1)) true false) (br (pr.inR 1 x0.length) (br (br (pr.isI .u8 (bytes x0) (pr.idx 0 1 1)) true false) (br (br (pr.lt 8 0) false true) (br (pr.inR 2 x0.length) (br (br (pr.isI .u8 (bytes x0) (pr.idx 0 2 1)) true false) (br (br (pr.lt 16 0) false true) (br (pr.inR 3 x0.length) (br (br (pr.isI .u8 (bytes x0) (pr.idx 0 3 1)) true false) (br (br (pr.lt 24 0) false true) (br (pr.inR 4 x0.length) (br (br (pr.isI .u8 (bytes x0) (pr.idx 0 4 1)) true false) (cv 38 [y2, (.int .i64 1), (.int .i64 1000000)] (.bool (fun vb0 => (.done (br (br vb0 false true) y1 (br (pr.lt 151 (pr.wrap .i64 (pr.getI (bytes x0) (pr.idx 0 4 1)))) y1 (br (pr.rng 5 y3 x0.length) (cv 133 [(.sl (some true) 1 y4 (List.take (Nat.mul y4 1) (List.drop (Nat.mul (pr.toN 5) 1) (bytes x0))))] (.ty TyK.mt (fun (vm1 : MMeta) => (.bool (fun vb2 => (.done (br (br vb2 false true) y1 (cv 135 [(.agg (exTL true (eMeta none vm1))), y2] (.ty TyK.B (fun (vm3 : List UInt8) => (.done (cv 134 [(exT true (s8 none vm3)), (s8 (some true) x0)] (.bool (fun vb4 => (.done (br (br vb4 false true) y1 (some ((.tup [(.agg (eMeta none vm1)), y2, (.bool true)]), [.undef])))))))))))))))))) none))))))) none) none) none) none) none) none) none) none) none) none) none) none) none)) := by kernel_rfl
theorem k_spec_SlotOf : Told cfg Try.prog 105 Try.f105 := ⟨by kernel_rfl, Try.func105, by kernel_rfl⟩
theorem e_spec_SlotOf (x0 : List UInt8) : RunJ pr cv J 105 Try.f105 [(s8 (some true) x0)] =
    let y1 : Option (D × List D) := (some ((.tup [(.agg [(.sl none 1 0 []), (.sl none 1 0 []), (.bool false), (.bool false), (.bool false), (.int .i64 0)]), (.int .i64 0), (.bool false)]), [.undef]))
    let y2 : D := (.int .i64 (pr.ar .add .i64 (pr.ar .add .i64 (pr.ar .add .i64 (pr.wrap .i64 (pr.getI (bytes x0) (pr.idx 0 0 1))) (pr.ar .shl .i64 (pr.wrap .i64 (pr.getI (bytes x0) (pr.idx 0 1 1))) 8)) (pr.ar .shl .i64 (pr.wrap .i64 (pr.getI (bytes x0) (pr.idx 0 2 1))) 16)) (pr.ar .shl .i64 (pr.wrap .i64 (pr.getI (bytes x0) (pr.idx 0 3 1))) 24)))
    let y3 : Int := (pr.ar .add .i64 5 (pr.wrap .i64 (pr.getI (bytes x0) (pr.idx 0 4 1))))
    let y4 : Nat := (pr.nsub y3 5)
    (br (br (pr.eq (pr.ofN x0.length) 160) false true) y1 (br (pr.inR 0 x0.length) (br (br (pr.isI .u8 (bytes x0) (pr.idx 0 0 1)) true false) (br (pr.inR 1 x0.length) (br (br (pr.isI .u8 (bytes x0) (pr.idx 0 1 1)) true false) (br (br (pr.lt 8 0) false true) (br (pr.inR 2 x0.length) (br (br (pr.isI .u8 (bytes x0) (pr.idx 0 2 1)) true false) (br (br (pr.lt 16 0) false true) (br (pr.inR 3 x0.length) (br (br (pr.isI .u8 (bytes x0) (pr.idx 0 3 1)) true false) (br (br (pr.lt 24 0) false true) (br (pr.inR 4 x0.length) (br (br (pr.isI .u8 (bytes x0) (pr.idx 0 4 1)) true false) (cv 36 [y2, (.int .i64 1), (.int .i64 1000000)] (.bool (fun vb0 => (.done (br (br vb0 false true) y1 (br (pr.lt 151 (pr.wrap .i64 (pr.getI (bytes x0) (pr.idx 0 4 1)))) y1 (br (pr.rng 5 y3 x0.length) (cv 119 [(.sl (some true) 1 y4 (List.take (Nat.mul y4 1) (List.drop (Nat.mul (pr.toN 5) 1) (bytes x0))))] (.ty TyK.mt (fun (vm1 : MMeta) => (.bool (fun vb2 => (.done (br (br vb2 false true) y1 (br (pr.bsok (bytes x0)) (cv 120 [(.agg (exTL true (eMeta none vm1))), y2] (.ty TyK.B (fun (vm3 : List UInt8) => (.done (br (pr.bsok (bytes vm3)) (br (br (pr.seq (pr.bss (bytes vm3)) (pr.bss (bytes x0))) false true) y1 (some ((.tup [(.agg (eMeta none vm1)), y2, (.bool true)]), [.undef]))) none))))) none)))))))) none))))))) none) none) none) none) none) none) none) none) none) none) none) none) none)) := by kernel_rfl
theorem k_impl_latest : Told cfg Try.prog 113 Try.f113 := ⟨by kernel_rfl, Try.func113, by kernel_rfl⟩
theorem e_impl_latest (x0 : MSlots) : RunJ pr cv J 113 Try.f113 [(.agg (eSlots (some true) x0))] =
    (cv 125 [(s8 (some true) x0.a)] (.ty TyK.mt (fun (vm0 : MMeta) => (.int (fun vx1 => (.bool (fun vb2 => (.done (cv 125 [(s8 (some true) x0.b)] (.ty TyK.mt (fun (vm3 : MMeta) => (.int (fun vx4 => (.bool (fun vb5 => (.done (br vb5 (br (br vb2 false true) (some ((.tup [(.agg (eMeta none vm3)), (.int .i64 vx4), (.bool false)]), [.undef])) (br (pr.lt vx1 vx4) (some ((.tup [(.agg (eMeta none vm3)), (.int .i64 vx4), (.bool false)]), [.undef])) (some ((.tup [(.agg (eMeta none vm0)), (.int .i64 vx1), (.bool vb2)]), [.undef])))) (some ((.tup [(.agg (eMeta none vm0)), (.int .i64 vx1), (.bool vb2)]), [.undef]))))))))))))))))))) := by kernel_rfl
theorem k_spec_l6Which : Told cfg Try.prog 104 Try.f104 := ⟨by kernel_rfl, Try.func104, by kernel_rfl⟩
theorem e_spec_l6Which (x0 : MSlots) : RunJ pr cv J 104 Try.f104 [(.agg (eSlots (some true) x0))] =
    let y1 : Option (D × List D) := (some ((.int .i64 0), [.undef]))
    let y2 : Option (D × List D) := (some ((.int .i64 1), [.undef]))
    let y3 : Option (D × List D) := (some ((.int .i64 (-1)), [.undef]))
    (cv 105 [(s8 (some true) x0.a)] (.ty TyK.mt (fun (vm0 : MMeta) => (.int (fun vx1 => (.bool (fun vb2 => (.done (cv 105 [(s8 (some true) x0.b)] (.ty TyK.mt (fun (vm3 : MMeta) => (.int (fun vx4 => (.bool (fun vb5 => (.done (br vb2 (br (br vb5 false true) y1 (br (pr.le vx4 vx1) y1 (br vb5 y2 y3))) (br vb5 y2 y3)))))))))))))))))) := by kernel_rfl
theorem k_impl_SlotGet : Told cfg Try.prog 96 Try.f96 := ⟨by kernel_rfl, Try.func96, by kernel_rfl⟩
theorem e_impl_SlotGet (x0 : MSlots) : RunJ pr cv J 96 Try.f96 [(.agg (eSlots (some true) x0))] =
    (cv 113 [(.agg (eSlots (some true) x0))] (.ty TyK.mt (fun (vm0 : MMeta) => (.int (fun vx1 => (.bool (fun vb2 => (.done (some ((.tup [(.agg (eMeta none vm0)), (.int .i64 vx1), (.bool (pr.lt 0 vx1))]), [.undef])))))))))) := by kernel_rfl
theorem k_spec_SlotGet : Told cfg Try.prog 90 Try.f90 := ⟨by kernel_rfl, Try.func90, by kernel_rfl⟩
theorem e_spec_SlotGet (x0 : MSlots) : RunJ pr cv J 90 Try.f90 [(.agg (eSlots (some true) x0))] =
    let y1 : Tel Rz := (.ty TyK.mt (fun (vm1 : MMeta) => (.int (fun vx2 => (.bool (fun vb3 => (.done (some ((.tup [(.agg (eMeta none vm1)), (.int .i64 vx2), (.bool vb3)]), [.undef])))))))))
    (cv 104 [(.agg (eSlots (some true) x0))] (.int (fun vx0 => (.done (br (pr.eq vx0 1) (cv 105 [(s8 (some true) x0.b)] y1) (cv 105 [(s8 (some true) x0.a)] y1)))))) := by kernel_rfl
end
@[go_sem] theorem fourL_length (a : Nat) : (fourL a).length = 4 := rfl
attribute [go_sem] v_bytesEqual v_l1In v_impl_from
@[go_sem] theorem x_impl_MetaOf (b0 : Nat) (b : List UInt8) (e0 : b0 = b.length) (q0 : b.length ≤ 1000000) (t : Tel Rz) : cvP 133 [.sl (some true) 1 b0 (bytes b)] t = feed t [enc .mt ((metaOfF b).1), .bool ((metaOfF b).2)] := by
  subst e0
  exact cvP_ty (r := .tup [enc .mt ((metaOfF b).1), .bool ((metaOfF b).2)]) (s := .tup [.ty .mt, .bool]) (ss := [.undef]) (c_impl_MetaOf b q0) (by kernel_rfl) (by simp only [okS_enc, okS_int, okS_bool, okS_str, okS_tup, okSL_cons, okSL_nil, Bool.and_self]) (by simp only [okSL_cons, okS_undef, okS_enc, okSL_nil, Bool.and_self]) (by first | rfl | simp only [okR_enc, okR_tupC, okR_tup0, okE_enc, okE_int, okE_bool, okE_str, Bool.and_self]) (by first | rfl | simp only [List.all_cons, List.all_nil, okR_enc, Bool.and_self]) t
@[go_sem] theorem x_spec_MetaOf (b0 : Nat) (b : List UInt8) (e0 : b0 = b.length) (q0 : b.length ≤ 1000000) (t : Tel Rz) : cvP 119 [.sl (some true) 1 b0 (bytes b)] t = feed t [enc .mt ((metaOfF b).1), .bool ((metaOfF b).2)] := by
  subst e0
  exact cvP_ty (r := .tup [enc .mt ((metaOfF b).1), .bool ((metaOfF b).2)]) (s := .tup [.ty .mt, .bool]) (ss := [.undef]) (c_spec_MetaOf b q0) (by kernel_rfl) (by simp only [okS_enc, okS_int, okS_bool, okS_str, okS_tup, okSL_cons, okSL_nil, Bool.and_self]) (by simp only [okSL_cons, okS_undef, okS_enc, okSL_nil, Bool.and_self]) (by first | rfl | simp only [okR_enc, okR_tupC, okR_tup0, okE_enc, okE_int, okE_bool, okE_str, Bool.and_self]) (by first | rfl | simp only [List.all_cons, List.all_nil, okR_enc, Bool.and_self]) t
@[go_sem] theorem x_impl_four (a : Nat) (q0 : a < 4611686018427387904) (t : Tel Rz) : cvP 142 [.int .i64 (a : Int)] t = feed t [enc .B (fourL a)] := by
  exact cvP_ty (r := enc .B (fourL a)) (s := .ty .B) (ss := [.undef]) (c_four a q0) (by kernel_rfl) (by simp only [okS_enc, okS_int, okS_bool, okS_str, okS_tup, okSL_cons, okSL_nil, Bool.and_self]) (by simp only [okSL_cons, okS_undef, okS_enc, okSL_nil, Bool.and_self]) (by first | rfl | simp only [okR_enc, okR_tupC, okR_tup0, okE_enc, okE_int, okE_bool, okE_str, Bool.and_self]) (by first | rfl | simp only [List.all_cons, List.all_nil, okR_enc, Bool.and_self]) t
@[go_sem] theorem x_spec_l4Sum (a : Nat) (q0 : a < 4611686018427387904) (t : Tel Rz) : cvP 131 [.int .i64 (a : Int)] t = feed t [enc .B (fourL a)] := by
  exact cvP_ty (r := enc .B (fourL a)) (s := .ty .B) (ss := [.undef]) (c_l4Sum a q0) (by kernel_rfl) (by simp only [okS_enc, okS_int, okS_bool, okS_str, okS_tup, okSL_cons, okSL_nil, Bool.and_self]) (by simp only [okSL_cons, okS_undef, okS_enc, okSL_nil, Bool.and_self]) (by first | rfl | simp only [okR_enc, okR_tupC, okR_tup0, okE_enc, okE_int, okE_bool, okE_str, Bool.and_self]) (by first | rfl | simp only [List.all_cons, List.all_nil, okR_enc, Bool.and_self]) t
def slotF (m : MMeta) (n : Nat) : List UInt8 := fourL n ++ [UInt8.ofNat (metaBytesF m).length] ++ metaBytesF m ++ List.replicate (151 - (metaBytesF m).length) 0 ++ fourL n
@[go_sem] theorem x_spec_MetaBytes (n k : Nat) (a : List Int) (b : List (List Int)) (f o h : Bool) (l : Int) (e1 : n = a.length) (e2 : k = b.length) (q : OkMeta ⟨a, b, f, o, h, l⟩) (t : Tel Rz) : cvP 130 [.agg [.sl (some true) 1 n (ints a), .sl (some true) 1 k (rows (some true) b), .bool f, .bool o, .bool h, .int .i64 l]] t = feed t [s8 none (metaBytesF ⟨a, b, f, o, h, l⟩)] := by
  subst e1
  subst e2
  exact v_spec_MetaBytes (g := true) (m := ⟨a, b, f, o, h, l⟩) (hm := q) t
@[go_sem] theorem x_impl_MetaBytes (n k : Nat) (a : List Int) (b : List (List Int)) (f o h : Bool) (l : Int) (e1 : n = a.length) (e2 : k = b.length) (q : OkMeta ⟨a, b, f, o, h, l⟩) (t : Tel Rz) : cvP 141 [.agg [.sl (some true) 1 n (ints a), .sl (some true) 1 k (rows (some true) b), .bool f, .bool o, .bool h, .int .i64 l]] t = feed t [s8 none (metaBytesF ⟨a, b, f, o, h, l⟩)] := by
  subst e1
  subst e2
  exact v_impl_MetaBytes (g := true) (m := ⟨a, b, f, o, h, l⟩) (hm := q) t
theorem c_impl_slotBytes (m : MMeta) (n : Nat) (q0 : OkMeta m) (q1 : (metaBytesF m).length ≤ 151) (q2 : n < 4611686018427387904) : Cm 135 [.agg (eMeta (some true) m), .int .i64 (n : Int)] (s8 none (slotF m n), [.undef, .undef]) := by
  refine Cm.step k_impl_slotBytes _ fun J _ => ?_
  rw [e_impl_slotBytes]
  unfold slotF
  simp (disch := first | assumption | omega) only [go_sem, s_ofN]
  have e : (156 - ((4 + 1 + (metaBytesF m).length : Nat) : Int)).toNat = 151 - (metaBytesF m).length := by omega
  rw [e]
  simp only [s8, List.length_append, fourL_length, List.length_replicate, List.length_singleton]
@[go_sem] theorem x_impl_slotBytes (m_g0 : Nat) (m_g : List Int) (m_b0 : Nat) (m_b : List (List Int)) (m_f : Bool) (m_o : Bool) (m_h : Bool) (m_l : Int) (n : Nat) (e0 : m_g0 = m_g.length) (e1 : m_b0 = m_b.length) (q0 : OkMeta (⟨m_g, m_b, m_f, m_o, m_h, m_l⟩ : MMeta)) (q1 : (metaBytesF (⟨m_g, m_b, m_f, m_o, m_h, m_l⟩ : MMeta)).length ≤ 151) (q2 : n < 4611686018427387904) (t : Tel Rz) : cvP 135 [.agg [.sl (some true) 1 m_g0 (ints m_g), .sl (some true) 1 m_b0 (rows (some true) m_b), .bool m_f, .bool m_o, .bool m_h, .int .i64 m_l], .int .i64 (n : Int)] t = feed t [enc .B (slotF (⟨m_g, m_b, m_f, m_o, m_h, m_l⟩ : MMeta) n)] := by
  subst e0
  subst e1
  exact cvP_ty (r := enc .B (slotF (⟨m_g, m_b, m_f, m_o, m_h, m_l⟩ : MMeta) n)) (s := .ty .B) (ss := [.undef, .undef]) (c_impl_slotBytes (⟨m_g, m_b, m_f, m_o, m_h, m_l⟩ : MMeta) n q0 q1 q2) (by kernel_rfl) (by simp only [okS_enc, okS_int, okS_bool, okS_str, okS_tup, okSL_cons, okSL_nil, Bool.and_self]) (by simp only [okSL_cons, okS_undef, okS_enc, okSL_nil, Bool.and_self]) (by first | rfl | simp only [okR_enc, okR_tupC, okR_tup0, okE_enc, okE_int, okE_bool, okE_str, Bool.and_self]) (by first | rfl | simp only [List.all_cons, List.all_nil, okR_enc, Bool.and_self]) t
theorem c_spec_l6Slot (m : MMeta) (n : Nat) (q0 : OkMeta m) (q1 : (metaBytesF m).length ≤ 151) (q2 : n < 4611686018427387904) : Cm 120 [.agg (eMeta (some true) m), .int .i64 (n : Int)] (s8 none (slotF m n), [.undef, .undef]) := by
  have key : ∀ k (o : List UInt8), o.length + k = 156 → WP 120 Try.f120 [.undef, .undef] 0 (h_spec_l6Slot_0 (n : Int) o.length (bytes o)) (s8 none (o ++ List.replicate k 0 ++ fourL n), [.undef, .undef]) := by
    intro k
    induction k with
    | zero =>
      intro o ho
      refine WP.step fun J _ => ?_
      rw [eh_spec_l6Slot_0]
      simp (disch := first | assumption | omega) only [go_sem]
      simp only [s8, List.replicate_zero, List.append_nil, List.length_append, fourL_length]
    | succ k ih =>
      intro o ho
      refine WP.step fun J hJ => ?_
      rw [eh_spec_l6Slot_0]
      simp (disch := first | assumption | omega) only [go_sem]
      have h := ih (o ++ [0]) (by simp only [List.length_append, List.length_singleton]; omega)
      rw [List.length_append, List.length_singleton, List.append_assoc o, List.singleton_append, ← List.replicate_succ] at h
      exact hJ _ _ h
  refine Cm.step k_spec_l6Slot [.undef, .undef] fun J hJ => ?_
  rw [e_spec_l6Slot]
  simp (disch := first | assumption | omega) only [go_sem]
  have h := key (151 - (metaBytesF m).length) (fourL n ++ [UInt8.ofNat (metaBytesF m).length] ++ metaBytesF m) (by simp only [List.length_append, fourL_length, List.length_singleton]; omega)
  rw [List.length_append, List.length_append, fourL_length, List.length_singleton] at h
  exact hJ _ _ h
@[go_sem] theorem x_spec_l6Slot (m_g0 : Nat) (m_g : List Int) (m_b0 : Nat) (m_b : List (List Int)) (m_f : Bool) (m_o : Bool) (m_h : Bool) (m_l : Int) (n : Nat) (e0 : m_g0 = m_g.length) (e1 : m_b0 = m_b.length) (q0 : OkMeta (⟨m_g, m_b, m_f, m_o, m_h, m_l⟩ : MMeta)) (q1 : (metaBytesF (⟨m_g, m_b, m_f, m_o, m_h, m_l⟩ : MMeta)).length ≤ 151) (q2 : n < 4611686018427387904) (t : Tel Rz) : cvP 120 [.agg [.sl (some true) 1 m_g0 (ints m_g), .sl (some true) 1 m_b0 (rows (some true) m_b), .bool m_f, .bool m_o, .bool m_h, .int .i64 m_l], .int .i64 (n : Int)] t = feed t [enc .B (slotF (⟨m_g, m_b, m_f, m_o, m_h, m_l⟩ : MMeta) n)] := by
  subst e0
  subst e1
  exact cvP_ty (r := enc .B (slotF (⟨m_g, m_b, m_f, m_o, m_h, m_l⟩ : MMeta) n)) (s := .ty .B) (ss := [.undef, .undef]) (c_spec_l6Slot (⟨m_g, m_b, m_f, m_o, m_h, m_l⟩ : MMeta) n q0 q1 q2) (by kernel_rfl) (by simp only [okS_enc, okS_int, okS_bool, okS_str, okS_tup, okSL_cons, okSL_nil, Bool.and_self]) (by simp only [okSL_cons, okS_undef, okS_enc, okSL_nil, Bool.and_self]) (by first | rfl | simp only [okR_enc, okR_tupC, okR_tup0, okE_enc, okE_int, okE_bool, okE_str, Bool.and_self]) (by first | rfl | simp only [List.all_cons, List.all_nil, okR_enc, Bool.and_self]) t
def wordF (b : List UInt8) : Nat := (b.getD 0 0).toNat + (b.getD 1 0).toNat * 256 + (b.getD 2 0).toNat * 65536 + (b.getD 3 0).toNat * 16777216
def partF (b : List UInt8) : List UInt8 := (b.drop 5).take (b.getD 4 0).toNat
def slotOkF (b : List UInt8) : Bool := decide ((b.length : Int) = 160) && (decide (1 ≤ (wordF b : Int) ∧ (wordF b : Int) ≤ 1000000) && (!decide (151 < ((b.getD 4 0).toNat : Int)) && ((metaOfF (partF b)).2 && decide (slotF (metaOfF (partF b)).1 (wordF b) = b))))
def slotOfF (b : List UInt8) : MMeta × Int × Bool := if slotOkF b then ((metaOfF (partF b)).1, (wordF b : Int), true) else (zeroMeta, 0, false)
theorem metaOf_len {b : List UInt8} (h : (metaOfF b).2 = true) : metaBytesF (metaOfF b).1 = b := by
  unfold metaOfF at h ⊢
  split at h
  · rename_i h1
    rw [if_pos h1]
    simp only [Bool.and_eq_true, decide_eq_true_eq] at h1
    exact h1.2.1
  · simp at h
theorem slotOf_bad {b : List UInt8} (h : slotOkF b = false) : slotOfF b = (zeroMeta, 0, false) := by unfold slotOfF; rw [h]; rfl
theorem slotOf_good {b : List UInt8} (h : slotOkF b = true) : slotOfF b = ((metaOfF (partF b)).1, (wordF b : Int), true) := by unfold slotOfF; rw [h]; rfl
theorem part_len {b : List UInt8} (h : b.length = 160) (h4 : (b.getD 4 0).toNat ≤ 151) : (partF b).length = (b.getD 4 0).toNat := by simp only [partF, List.length_take, List.length_drop]; omega
theorem word_le (b : List UInt8) : wordF b < 4294967296 := by
  have := (b.getD 0 0).toNat_lt; have := (b.getD 1 0).toNat_lt; have := (b.getD 2 0).toNat_lt; have := (b.getD 3 0).toNat_lt
  unfold wordF; omega
theorem word_add (b : List UInt8) : std.ar .add .i64 (std.ar .add .i64 (std.ar .add .i64 ((b.getD 0 0).toNat : Int) (std.ar .shl .i64 ((b.getD 1 0).toNat : Int) 8)) (std.ar .shl .i64 ((b.getD 2 0).toNat : Int) 16)) (std.ar .shl .i64 ((b.getD 3 0).toNat : Int) 24) = ((wordF b : Nat) : Int) := by
  have h0 := (b.getD 0 0).toNat_lt; have h1 := (b.getD 1 0).toNat_lt; have h2 := (b.getD 2 0).toNat_lt; have h3 := (b.getD 3 0).toNat_lt
  have s1 : std.ar .shl .i64 ((b.getD 1 0).toNat : Int) 8 = _ := s_shlN (k := 8) (by omega) (by omega)
  have s2 : std.ar .shl .i64 ((b.getD 2 0).toNat : Int) 16 = _ := s_shlN (k := 16) (by omega) (by omega)
  have s3 : std.ar .shl .i64 ((b.getD 3 0).toNat : Int) 24 = _ := s_shlN (k := 24) (by omega) (by omega)
  rw [s1, s2, s3, s_addN (by omega), s_addN (by omega), s_addN (by omega)]
  rfl
theorem word_or (b : List UInt8) : std.ar .or .i64 (std.ar .or .i64 (std.ar .or .i64 ((b.getD 0 0).toNat : Int) (std.ar .shl .i64 ((b.getD 1 0).toNat : Int) 8)) (std.ar .shl .i64 ((b.getD 2 0).toNat : Int) 16)) (std.ar .shl .i64 ((b.getD 3 0).toNat : Int) 24) = ((wordF b : Nat) : Int) := by
  have h0 := (b.getD 0 0).toNat_lt; have h1 := (b.getD 1 0).toNat_lt; have h2 := (b.getD 2 0).toNat_lt; have h3 := (b.getD 3 0).toNat_lt
  have s1 : std.ar .shl .i64 ((b.getD 1 0).toNat : Int) 8 = _ := s_shlN (k := 8) (by omega) (by omega)
  have s2 : std.ar .shl .i64 ((b.getD 2 0).toNat : Int) 16 = _ := s_shlN (k := 16) (by omega) (by omega)
  have s3 : std.ar .shl .i64 ((b.getD 3 0).toNat : Int) 24 = _ := s_shlN (k := 24) (by omega) (by omega)
  rw [s1, s2, s3, s_orN (by omega) (by omega), or_add (k := 8) h0, s_orN (by omega) (by omega), or_add (k := 16) (by omega), s_orN (by omega) (by omega), or_add (k := 24) (by omega)]
  rfl
theorem sl_1 {b : List UInt8} (h : ¬((b.length : Int) = 160)) : slotOkF b = false := by simp only [slotOkF, h, decide_false, Bool.false_and]
theorem sl_2 {b : List UInt8} (h : ¬(1 ≤ (wordF b : Int) ∧ (wordF b : Int) ≤ 1000000)) : slotOkF b = false := by simp only [slotOkF, h, decide_false, Bool.false_and, Bool.and_false]
theorem sl_3 {b : List UInt8} (h : 151 < ((b.getD 4 0).toNat : Int)) : slotOkF b = false := by simp only [slotOkF, h, decide_true, Bool.not_true, Bool.false_and, Bool.and_false]
theorem sl_4 {b : List UInt8} (h : (metaOfF (partF b)).2 = false) : slotOkF b = false := by simp only [slotOkF, h, Bool.false_and, Bool.and_false]
theorem sl_5 {b : List UInt8} (h : ¬(slotF (metaOfF (partF b)).1 (wordF b) = b)) : slotOkF b = false := by simp only [slotOkF, h, decide_false, Bool.and_false]
theorem sl_6 {b : List UInt8} (h1 : (b.length : Int) = 160) (h2 : 1 ≤ (wordF b : Int) ∧ (wordF b : Int) ≤ 1000000) (h3 : ¬(151 < ((b.getD 4 0).toNat : Int))) (h4 : (metaOfF (partF b)).2 = true) (h5 : slotF (metaOfF (partF b)).1 (wordF b) = b) : slotOkF b = true := by simp only [slotOkF, h1, h2, h3, h4, h5, and_self, decide_true, decide_false, Bool.not_false, Bool.and_self]
theorem c_spec_SlotOf (b : List UInt8) (q0 : b.length ≤ 1048576) : Cm 105 [s8 (some true) b] (.tup [.agg (eMeta none ((slotOfF b).1)), .int .i64 ((slotOfF b).2.1), .bool ((slotOfF b).2.2)], [.undef]) := by
  refine Cm.step k_spec_SlotOf _ fun J _ => ?_
  rw [e_spec_SlotOf]
  simp (disch := first | assumption | omega) only [go_sem]
  refine g_ite (fun hl => ?_) (fun hl => by rw [slotOf_bad (sl_1 hl)]; rfl)
  have h4 := (b.getD 4 0).toNat_lt
  have hw := word_le b
  simp (disch := first | assumption | omega) only [go_sem, word_add]
  refine g_ite (fun hn => ?_) (fun hn => by rw [slotOf_bad (sl_2 hn)]; rfl)
  simp (disch := first | assumption | omega) only [go_sem]
  refine g_ite (fun hs => by rw [slotOf_bad (sl_3 hs)]; rfl) (fun hs => ?_)
  have hp := part_len (b := b) (by omega) (by omega)
  have ep : List.take (b.getD 4 0).toNat (List.drop 5 b) = partF b := rfl
  have hok := metaOf_ok (partF b) (by omega)
  have e5 : (5 + ((b.getD 4 0).toNat : Int)).toNat - 5 = (b.getD 4 0).toNat := by omega
  simp (disch := first | assumption | omega) only [go_sem, e5, ep, word_add]
  refine g_cases (fun hq => ?_) (fun hq => by rw [slotOf_bad (sl_4 hq)]; rfl)
  have hm := metaOf_len hq
  simp (disch := first | assumption | (rw [hm]; omega) | omega) only [go_sem, word_add]
  refine g_ite (fun he => ?_) (fun he => by rw [slotOf_bad (sl_5 he)]; rfl)
  simp (disch := first | assumption | omega) only [go_sem, word_add, slotOf_good (sl_6 hl hn hs hq he)]
@[go_sem] theorem x_spec_SlotOf (b0 : Nat) (b : List UInt8) (e0 : b0 = b.length) (q0 : b.length ≤ 1048576) (t : Tel Rz) : cvP 105 [.sl (some true) 1 b0 (bytes b)] t = feed t [enc .mt ((slotOfF b).1), .int .i64 ((slotOfF b).2.1), .bool ((slotOfF b).2.2)] := by
  subst e0
  exact cvP_ty (r := .tup [enc .mt ((slotOfF b).1), .int .i64 ((slotOfF b).2.1), .bool ((slotOfF b).2.2)]) (s := .tup [.ty .mt, .int .i64, .bool]) (ss := [.undef]) (c_spec_SlotOf b q0) (by kernel_rfl) (by simp only [okS_enc, okS_int, okS_bool, okS_str, okS_tup, okSL_cons, okSL_nil, Bool.and_self]) (by simp only [okSL_cons, okS_undef, okS_enc, okSL_nil, Bool.and_self]) (by first | rfl | simp only [okR_enc, okR_tupC, okR_tup0, okE_enc, okE_int, okE_bool, okE_str, Bool.and_self]) (by first | rfl | simp only [List.all_cons, List.all_nil, okR_enc, Bool.and_self]) t
theorem c_impl_SlotOf (b : List UInt8) (q0 : b.length ≤ 1048576) : Cm 125 [s8 (some true) b] (.tup [.agg (eMeta none ((slotOfF b).1)), .int .i64 ((slotOfF b).2.1), .bool ((slotOfF b).2.2)], [.undef]) := by
  refine Cm.step k_impl_SlotOf _ fun J _ => ?_
  rw [e_impl_SlotOf]
  simp (disch := first | assumption | omega) only [go_sem]
  refine g_ite (fun hl => ?_) (fun hl => by rw [slotOf_bad (sl_1 hl)]; rfl)
  have h4 := (b.getD 4 0).toNat_lt
  have hw := word_le b
  simp (disch := first | assumption | omega) only [go_sem, word_or]
  refine g_ite (fun hn => ?_) (fun hn => by rw [slotOf_bad (sl_2 hn)]; rfl)
  simp (disch := first | assumption | omega) only [go_sem]
  refine g_ite (fun hs => by rw [slotOf_bad (sl_3 hs)]; rfl) (fun hs => ?_)
  have hp := part_len (b := b) (by omega) (by omega)
  have ep : List.take (b.getD 4 0).toNat (List.drop 5 b) = partF b := rfl
  have hok := metaOf_ok (partF b) (by omega)
  have e5 : (5 + ((b.getD 4 0).toNat : Int)).toNat - 5 = (b.getD 4 0).toNat := by omega
  simp (disch := first | assumption | omega) only [go_sem, e5, ep, word_or]
  refine g_cases (fun hq => ?_) (fun hq => by rw [slotOf_bad (sl_4 hq)]; rfl)
  have hm := metaOf_len hq
  simp (disch := first | assumption | (rw [hm]; omega) | omega) only [go_sem, word_or]
  refine g_ite (fun he => ?_) (fun he => by rw [slotOf_bad (sl_5 he)]; rfl)
  simp (disch := first | assumption | omega) only [go_sem, word_or, slotOf_good (sl_6 hl hn hs hq he)]
@[go_sem] theorem x_impl_SlotOf (b0 : Nat) (b : List UInt8) (e0 : b0 = b.length) (q0 : b.length ≤ 1048576) (t : Tel Rz) : cvP 125 [.sl (some true) 1 b0 (bytes b)] t = feed t [enc .mt ((slotOfF b).1), .int .i64 ((slotOfF b).2.1), .bool ((slotOfF b).2.2)] := by
  subst e0
  exact cvP_ty (r := .tup [enc .mt ((slotOfF b).1), .int .i64 ((slotOfF b).2.1), .bool ((slotOfF b).2.2)]) (s := .tup [.ty .mt, .int .i64, .bool]) (ss := [.undef]) (c_impl_SlotOf b q0) (by kernel_rfl) (by simp only [okS_enc, okS_int, okS_bool, okS_str, okS_tup, okSL_cons, okSL_nil, Bool.and_self]) (by simp only [okSL_cons, okS_undef, okS_enc, okSL_nil, Bool.and_self]) (by first | rfl | simp only [okR_enc, okR_tupC, okR_tup0, okE_enc, okE_int, okE_bool, okE_str, Bool.and_self]) (by first | rfl | simp only [List.all_cons, List.all_nil, okR_enc, Bool.and_self]) t
theorem slotOf_ok (b : List UInt8) : OkMeta (slotOfF b).1 := by
  unfold slotOfF
  split
  · exact metaOf_ok (partF b) (by have := (b.getD 4 0).toNat_lt; simp only [partF, List.length_take, List.length_drop]; omega)
  · exact ⟨by simp [zeroMeta], by simp [zeroMeta], by simp [zeroMeta]⟩
theorem slotOf_num (b : List UInt8) : if (slotOfF b).2.2 then 1 ≤ (slotOfF b).2.1 ∧ (slotOfF b).2.1 ≤ 1000000 else slotOfF b = (zeroMeta, 0, false) := by
  cases h : slotOkF b with
  | false => rw [slotOf_bad h]; rfl
  | true =>
    rw [slotOf_good h]
    simp only [slotOkF, Bool.and_eq_true, decide_eq_true_eq] at h
    exact h.2.1
def bWins (s : MSlots) : Bool := (slotOfF s.b).2.2 && (!(slotOfF s.a).2.2 || decide ((slotOfF s.a).2.1 < (slotOfF s.b).2.1))
def slotGetF (s : MSlots) : MMeta × Int × Bool := if bWins s then slotOfF s.b else slotOfF s.a
def isAF (s : MSlots) : Bool := !bWins s && (slotOfF s.a).2.2
theorem c_impl_latest (s : MSlots) (q0 : OkSlots s) : Cm 113 [.agg (eSlots (some true) s)] (.tup [.agg (eMeta none ((((slotGetF s).1, (slotGetF s).2.1, isAF s)).1)), .int .i64 ((((slotGetF s).1, (slotGetF s).2.1, isAF s)).2.1), .bool ((((slotGetF s).1, (slotGetF s).2.1, isAF s)).2.2)], [.undef]) := by
  have qa := q0.a
  have qb := q0.b
  have h1 := slotOf_num s.a
  refine Cm.step k_impl_latest _ fun J _ => ?_
  rw [e_impl_latest]
  simp (disch := first | assumption | omega) only [go_sem]
  unfold slotGetF isAF bWins
  generalize slotOfF s.a = a at *
  generalize slotOfF s.b = b at *
  obtain ⟨a1, a2, a3⟩ := a
  obtain ⟨b1, b2, b3⟩ := b
  cases a3 <;> cases b3 <;> by_cases h : a2 < b2 <;> simp [br, h, enc, s_lt]
@[go_sem] theorem x_impl_latest (s_a0 : Nat) (s_a : List UInt8) (s_b0 : Nat) (s_b : List UInt8) (e0 : s_a0 = s_a.length) (e1 : s_b0 = s_b.length) (q0 : OkSlots (⟨s_a, s_b⟩ : MSlots)) (t : Tel Rz) : cvP 113 [.agg [.sl (some true) 1 s_a0 (bytes s_a), .sl (some true) 1 s_b0 (bytes s_b)]] t = feed t [enc .mt ((((slotGetF (⟨s_a, s_b⟩ : MSlots)).1, (slotGetF (⟨s_a, s_b⟩ : MSlots)).2.1, isAF (⟨s_a, s_b⟩ : MSlots))).1), .int .i64 ((((slotGetF (⟨s_a, s_b⟩ : MSlots)).1, (slotGetF (⟨s_a, s_b⟩ : MSlots)).2.1, isAF (⟨s_a, s_b⟩ : MSlots))).2.1), .bool ((((slotGetF (⟨s_a, s_b⟩ : MSlots)).1, (slotGetF (⟨s_a, s_b⟩ : MSlots)).2.1, isAF (⟨s_a, s_b⟩ : MSlots))).2.2)] := by
  subst e0
  subst e1
  exact cvP_ty (r := .tup [enc .mt ((((slotGetF (⟨s_a, s_b⟩ : MSlots)).1, (slotGetF (⟨s_a, s_b⟩ : MSlots)).2.1, isAF (⟨s_a, s_b⟩ : MSlots))).1), .int .i64 ((((slotGetF (⟨s_a, s_b⟩ : MSlots)).1, (slotGetF (⟨s_a, s_b⟩ : MSlots)).2.1, isAF (⟨s_a, s_b⟩ : MSlots))).2.1), .bool ((((slotGetF (⟨s_a, s_b⟩ : MSlots)).1, (slotGetF (⟨s_a, s_b⟩ : MSlots)).2.1, isAF (⟨s_a, s_b⟩ : MSlots))).2.2)]) (s := .tup [.ty .mt, .int .i64, .bool]) (ss := [.undef]) (c_impl_latest (⟨s_a, s_b⟩ : MSlots) q0) (by kernel_rfl) (by simp only [okS_enc, okS_int, okS_bool, okS_str, okS_tup, okSL_cons, okSL_nil, Bool.and_self]) (by simp only [okSL_cons, okS_undef, okS_enc, okSL_nil, Bool.and_self]) (by first | rfl | simp only [okR_enc, okR_tupC, okR_tup0, okE_enc, okE_int, okE_bool, okE_str, Bool.and_self]) (by first | rfl | simp only [List.all_cons, List.all_nil, okR_enc, Bool.and_self]) t
def whichF (s : MSlots) : Int := if (slotOfF s.a).2.2 && (!(slotOfF s.b).2.2 || decide ((slotOfF s.b).2.1 ≤ (slotOfF s.a).2.1)) then 0 else if (slotOfF s.b).2.2 then 1 else -1
theorem c_spec_l6Which (s : MSlots) (q0 : OkSlots s) : Cm 104 [.agg (eSlots (some true) s)] (.int .i64 (whichF s), [.undef]) := by
  have qa := q0.a
  have qb := q0.b
  refine Cm.step k_spec_l6Which _ fun J _ => ?_
  rw [e_spec_l6Which]
  simp (disch := first | assumption | omega) only [go_sem]
  unfold whichF
  generalize slotOfF s.a = a
  generalize slotOfF s.b = b
  obtain ⟨a1, a2, a3⟩ := a
  obtain ⟨b1, b2, b3⟩ := b
  cases a3 <;> cases b3 <;> by_cases h : b2 ≤ a2 <;> simp [br, h, s_le]
@[go_sem] theorem x_spec_l6Which (s_a0 : Nat) (s_a : List UInt8) (s_b0 : Nat) (s_b : List UInt8) (e0 : s_a0 = s_a.length) (e1 : s_b0 = s_b.length) (q0 : OkSlots (⟨s_a, s_b⟩ : MSlots)) (t : Tel Rz) : cvP 104 [.agg [.sl (some true) 1 s_a0 (bytes s_a), .sl (some true) 1 s_b0 (bytes s_b)]] t = feed t [.int .i64 (whichF (⟨s_a, s_b⟩ : MSlots))] := by
  subst e0
  subst e1
  exact cvP_ty (r := .int .i64 (whichF (⟨s_a, s_b⟩ : MSlots))) (s := .int .i64) (ss := [.undef]) (c_spec_l6Which (⟨s_a, s_b⟩ : MSlots) q0) (by kernel_rfl) (by simp only [okS_enc, okS_int, okS_bool, okS_str, okS_tup, okSL_cons, okSL_nil, Bool.and_self]) (by simp only [okSL_cons, okS_undef, okS_enc, okSL_nil, Bool.and_self]) (by first | rfl | simp only [okR_enc, okR_tupC, okR_tup0, okE_enc, okE_int, okE_bool, okE_str, Bool.and_self]) (by first | rfl | simp only [List.all_cons, List.all_nil, okR_enc, Bool.and_self]) t
theorem which_wins (s : MSlots) : decide (whichF s = 1) = bWins s := by
  unfold whichF bWins
  generalize slotOfF s.a = a
  generalize slotOfF s.b = b
  obtain ⟨a1, a2, a3⟩ := a
  obtain ⟨b1, b2, b3⟩ := b
  cases a3 <;> cases b3 <;> by_cases h : b2 ≤ a2 <;> simp [h] <;> omega
theorem slotGet_num (s : MSlots) : decide (0 < (slotGetF s).2.1) = (slotGetF s).2.2 := by
  unfold slotGetF
  have key : ∀ b, decide (0 < (slotOfF b).2.1) = (slotOfF b).2.2 := fun b => by
    have h := slotOf_num b
    split at h
    · rename_i h1
      rw [h1, decide_eq_true (by omega)]
    · rw [h]; rfl
  split <;> exact key _
theorem slotGet_ok (s : MSlots) : OkMeta (slotGetF s).1 := by
  unfold slotGetF
  split
  · exact slotOf_ok _
  · exact slotOf_ok _
theorem c_impl_SlotGet (s : MSlots) (q0 : OkSlots s) : Cm 96 [.agg (eSlots (some true) s)] (.tup [.agg (eMeta none ((slotGetF s).1)), .int .i64 ((slotGetF s).2.1), .bool ((slotGetF s).2.2)], [.undef]) := by
  refine Cm.step k_impl_SlotGet _ fun J _ => ?_
  rw [e_impl_SlotGet]
  simp (disch := first | assumption | omega) only [go_sem, slotGet_num]
@[go_sem] theorem x_impl_SlotGet (s_a0 : Nat) (s_a : List UInt8) (s_b0 : Nat) (s_b : List UInt8) (e0 : s_a0 = s_a.length) (e1 : s_b0 = s_b.length) (q0 : OkSlots (⟨s_a, s_b⟩ : MSlots)) (t : Tel Rz) : cvP 96 [.agg [.sl (some true) 1 s_a0 (bytes s_a), .sl (some true) 1 s_b0 (bytes s_b)]] t = feed t [enc .mt ((slotGetF (⟨s_a, s_b⟩ : MSlots)).1), .int .i64 ((slotGetF (⟨s_a, s_b⟩ : MSlots)).2.1), .bool ((slotGetF (⟨s_a, s_b⟩ : MSlots)).2.2)] := by
  subst e0
  subst e1
  exact cvP_ty (r := .tup [enc .mt ((slotGetF (⟨s_a, s_b⟩ : MSlots)).1), .int .i64 ((slotGetF (⟨s_a, s_b⟩ : MSlots)).2.1), .bool ((slotGetF (⟨s_a, s_b⟩ : MSlots)).2.2)]) (s := .tup [.ty .mt, .int .i64, .bool]) (ss := [.undef]) (c_impl_SlotGet (⟨s_a, s_b⟩ : MSlots) q0) (by kernel_rfl) (by simp only [okS_enc, okS_int, okS_bool, okS_str, okS_tup, okSL_cons, okSL_nil, Bool.and_self]) (by simp only [okSL_cons, okS_undef, okS_enc, okSL_nil, Bool.and_self]) (by first | rfl | simp only [okR_enc, okR_tupC, okR_tup0, okE_enc, okE_int, okE_bool, okE_str, Bool.and_self]) (by first | rfl | simp only [List.all_cons, List.all_nil, okR_enc, Bool.and_self]) t
theorem c_spec_SlotGet (s : MSlots) (q0 : OkSlots s) : Cm 90 [.agg (eSlots (some true) s)] (.tup [.agg (eMeta none ((slotGetF s).1)), .int .i64 ((slotGetF s).2.1), .bool ((slotGetF s).2.2)], [.undef]) := by
  have qa := q0.a
  have qb := q0.b
  refine Cm.step k_spec_SlotGet _ fun J _ => ?_
  rw [e_spec_SlotGet]
  simp (disch := first | assumption | omega) only [go_sem, which_wins]
  unfold slotGetF
  refine g_c (fun h => ?_) (fun h => ?_)
  · simp (disch := first | assumption | omega) only [go_sem, h]
  · simp (disch := first | assumption | omega) only [go_sem, if_neg h]
@[go_sem] theorem x_spec_SlotGet (s_a0 : Nat) (s_a : List UInt8) (s_b0 : Nat) (s_b : List UInt8) (e0 : s_a0 = s_a.length) (e1 : s_b0 = s_b.length) (q0 : OkSlots (⟨s_a, s_b⟩ : MSlots)) (t : Tel Rz) : cvP 90 [.agg [.sl (some true) 1 s_a0 (bytes s_a), .sl (some true) 1 s_b0 (bytes s_b)]] t = feed t [enc .mt ((slotGetF (⟨s_a, s_b⟩ : MSlots)).1), .int .i64 ((slotGetF (⟨s_a, s_b⟩ : MSlots)).2.1), .bool ((slotGetF (⟨s_a, s_b⟩ : MSlots)).2.2)] := by
  subst e0
  subst e1
  exact cvP_ty (r := .tup [enc .mt ((slotGetF (⟨s_a, s_b⟩ : MSlots)).1), .int .i64 ((slotGetF (⟨s_a, s_b⟩ : MSlots)).2.1), .bool ((slotGetF (⟨s_a, s_b⟩ : MSlots)).2.2)]) (s := .tup [.ty .mt, .int .i64, .bool]) (ss := [.undef]) (c_spec_SlotGet (⟨s_a, s_b⟩ : MSlots) q0) (by kernel_rfl) (by simp only [okS_enc, okS_int, okS_bool, okS_str, okS_tup, okSL_cons, okSL_nil, Bool.and_self]) (by simp only [okSL_cons, okS_undef, okS_enc, okSL_nil, Bool.and_self]) (by first | rfl | simp only [okR_enc, okR_tupC, okR_tup0, okE_enc, okE_int, okE_bool, okE_str, Bool.and_self]) (by first | rfl | simp only [List.all_cons, List.all_nil, okR_enc, Bool.and_self]) t
end Go.Proofs.Ytkejckoefjonjaa
namespace Go.Proofs.Ytkejckoefjonjaa
set_option maxRecDepth 100000
section
variable (pr : Prims) (cv : Cv Rz) (J : Nat → St → Option Rz)
def h_impl_NodeOk_0 (x0 : MNode) (i0 : Int) : St := (St.mk [(1, (.ptr 1 [] 0)), (85, (.int .i64 i0))] [(1, (eNode (some true) x0))] [] 0)
def h_impl_NodeOk_2 (x0 : MNode) (i0 : Int) (i1 : Int) : St := (St.mk [(1, (.ptr 1 [] 0)), (139, (sI (some true) x0.wait)), (140, (.int .i64 i0)), (141, (.int .i64 i1))] [(1, (eNode (some true) x0))] [] 0)
theorem k_impl_NodeOk : Told cfg Try.prog 72 Try.f72 := ⟨by kernel_rfl, Try.func72, by kernel_rfl⟩
theorem e_impl_NodeOk (x0 : MNode) : RunJ pr cv J 72 Try.f72 [(.agg (eNode (some true) x0))] =
    let y1 : Option (D × List D) := (some ((.bool false), [.undef]))
    let y2 : Option Rz := (cv 96 [(.agg (eSlots (some true) x0.slots))] (.ty TyK.mt (fun (vm4 : MMeta) => (.int (fun vx5 => (.bool (fun vb6 => (.done (br (br vb6 false true) y1 (cv 97 [(.agg (exTL true (eMeta none vm4))), (.agg (eMeta (some true) x0.mt))] (.bool (fun vb7 => (.done (br (br vb7 false true) y1 (J 0 (h_impl_NodeOk_0 x0 0))))))))))))))))
    let y3 : Option (D × List D) := (br (br x0.up false true) (br (pr.lt 0 (pr.ofN x0.wait.length)) y1 y2) y2)
    (cv 92 [(.int .i64 x0.id)] (.bool (fun vb0 => (.done (br (br vb0 false true) y1 (cv 93 [(sI (some true) x0.image)] (.bool (fun vb1 => (.done (br (br vb1 false true) y1 (cv 94 [(.agg (eMeta (some true) x0.mt))] (.bool (fun vb2 => (.done (br (br vb2 false true) y1 (br (br (pr.eq (pr.ofN x0.conn.length) 3) false true) y1 (cv 95 [(sR (some true) x0.sync)] (.bool (fun vb3 => (.done (br (br vb3 false true) y1 (br (br (pr.eq (pr.ofN x0.copies.length) 3) false true) y1 (br x0.prime (br (br x0.up false true) y1 (br (pr.eq x0.id 2) y1 y3)) y3))))))))))))))))))))))) := by kernel_rfl
theorem eh_impl_NodeOk_0 (x0 : MNode) (i0 : Int) : HeadJ pr cv J 72 Try.f72 [.undef] 0 (h_impl_NodeOk_0 x0 i0) =
    let y1 : Option (D × List D) := (some ((.bool false), [.undef]))
    let y2 : Option Rz := (J 0 (h_impl_NodeOk_0 x0 (pr.ar .add .i64 i0 1)))
    let y3 : Option (D × List D) := (br (pr.inR i0 x0.sync.length) (br (br (pr.isL 1 (rows (some true) x0.sync) (pr.idx 0 i0 1)) true false) (br (pr.lt 0 (pr.ofN (pr.getN (rows (some true) x0.sync) (pr.idx 0 i0 1)))) (br (pr.inR i0 x0.copies.length) (br (br (pr.isB (bools x0.copies) (pr.idx 0 i0 1)) true false) (br (br (pr.getB (bools x0.copies) (pr.idx 0 i0 1)) false true) y1 y2) none) none) y2) none) none)
    let y4 : Option (D × List D) := (br (pr.inR i0 x0.copies.length) (br (br (pr.isB (bools x0.copies) (pr.idx 0 i0 1)) true false) (br (pr.getB (bools x0.copies) (pr.idx 0 i0 1)) (br (pr.inR i0 x0.conn.length) (br (br (pr.isB (bools x0.conn) (pr.idx 0 i0 1)) true false) (br (br (pr.getB (bools x0.conn) (pr.idx 0 i0 1)) false true) y1 y3) none) none) y3) none) none)
    (br (pr.lt i0 3) (br x0.up (br (pr.inR i0 x0.conn.length) (br (br (pr.isB (bools x0.conn) (pr.idx 0 i0 1)) true false) (br (pr.getB (bools x0.conn) (pr.idx 0 i0 1)) (br (br (br (pr.eq i0 x0.id) false true) false true) y1 y4) y4) none) none) (br (pr.inR i0 x0.conn.length) (br (br (pr.isB (bools x0.conn) (pr.idx 0 i0 1)) true false) (br (pr.getB (bools x0.conn) (pr.idx 0 i0 1)) y1 y4) none) none)) (J 2 (h_impl_NodeOk_2 x0 (pr.ofN x0.wait.length) 0))) := by kernel_rfl
theorem eh_impl_NodeOk_2 (x0 : MNode) (i0 : Int) (i1 : Int) : HeadJ pr cv J 72 Try.f72 [.undef] 2 (h_impl_NodeOk_2 x0 i0 i1) =
    let y1 : Option (D × List D) := (some ((.bool false), [.undef]))
    let y2 : Option Rz := (J 2 (h_impl_NodeOk_2 x0 i0 (pr.ar .add .i64 i1 1)))
    (br (pr.lt i1 i0) (br (pr.inR i1 x0.wait.length) (br (br (pr.isI .i64 (ints x0.wait) (pr.idx 0 i1 1)) true false) (cv 98 [(.int .i64 (pr.getI (ints x0.wait) (pr.idx 0 i1 1)))] (.bool (fun vb0 => (.done (br (br vb0 false true) y1 (br (pr.lt 0 i1) (br (pr.inR (pr.ar .sub .i64 i1 1) x0.wait.length) (br (br (pr.isI .i64 (ints x0.wait) (pr.idx 0 (pr.ar .sub .i64 i1 1) 1)) true false) (br (pr.le (pr.getI (ints x0.wait) (pr.idx 0 i1 1)) (pr.getI (ints x0.wait) (pr.idx 0 (pr.ar .sub .i64 i1 1) 1))) y1 y2) none) none) y2)))))) none) none) (some ((.bool true), [.undef]))) := by kernel_rfl
def h_spec_NodeOk_0 (x0 : MNode) (i0 : Int) : St := (St.mk [(1, (.ptr 1 [] 0)), (3, (.int .i64 i0))] [(1, (eNode (some true) x0))] [] 0)
theorem k_spec_NodeOk : Told cfg Try.prog 70 Try.f70 := ⟨by kernel_rfl, Try.func70, by kernel_rfl⟩
theorem e_spec_NodeOk (x0 : MNode) : RunJ pr cv J 70 Try.f70 [(.agg (eNode (some true) x0))] =
    let y1 : Option (D × List D) := (some ((.bool false), [.undef]))
    let y2 : Option Rz := (J 0 (h_spec_NodeOk_0 x0 0))
    let y3 : Option (D × List D) := (br (br x0.up false true) (br (pr.lt 0 (pr.ofN x0.wait.length)) y1 y2) y2)
    (cv 36 [(.int .i64 x0.id), (.int .i64 0), (.int .i64 2)] (.bool (fun vb0 => (.done (br (br vb0 false true) y1 (cv 87 [(sI (some true) x0.image)] (.bool (fun vb1 => (.done (br (br vb1 false true) y1 (cv 88 [(.agg (eMeta (some true) x0.mt))] (.bool (fun vb2 => (.done (br (br vb2 false true) y1 (cv 89 [(.agg (eNode (some true) x0))] (.bool (fun vb3 => (.done (br (br vb3 false true) y1 (br x0.prime (br (br x0.up false true) y1 (br (pr.eq x0.id 2) y1 y3)) y3))))))))))))))))))))) := by kernel_rfl
theorem eh_spec_NodeOk_0 (x0 : MNode) (i0 : Int) : HeadJ pr cv J 70 Try.f70 [.undef] 0 (h_spec_NodeOk_0 x0 i0) =
    let y1 : Bool := (br (pr.isI .i64 (ints x0.wait) (pr.idx 0 i0 1)) true false)
    let y2 : Option (D × List D) := (some ((.bool false), [.undef]))
    let y3 : Option Rz := (J 0 (h_spec_NodeOk_0 x0 (pr.ar .add .i64 i0 1)))
    (br (pr.lt i0 (pr.ofN x0.wait.length)) (br (pr.inR i0 x0.wait.length) (br y1 (cv 36 [(.int .i64 (pr.getI (ints x0.wait) (pr.idx 0 i0 1))), (.int .i64 1), (.int .i64 200)] (.bool (fun vb0 => (.done (br (br vb0 false true) y2 (br (pr.lt 0 i0) (br (pr.inR (pr.ar .sub .i64 i0 1) x0.wait.length) (br (br (pr.isI .i64 (ints x0.wait) (pr.idx 0 (pr.ar .sub .i64 i0 1) 1)) true false) (br (pr.inR i0 x0.wait.length) (br y1 (br (pr.le (pr.getI (ints x0.wait) (pr.idx 0 i0 1)) (pr.getI (ints x0.wait) (pr.idx 0 (pr.ar .sub .i64 i0 1) 1))) y2 y3) none) none) none) none) y3)))))) none) none) (cv 90 [(.agg (eSlots (some true) x0.slots))] (.ty TyK.mt (fun (vm1 : MMeta) => (.int (fun vx2 => (.bool (fun vb3 => (.done (br vb3 (cv 91 [(.agg (exTL true (eMeta none vm1))), (.agg (eMeta (some true) x0.mt))] (.bool (fun vb4 => (.done (some ((.bool vb4), [.undef])))))) y2)))))))))) := by kernel_rfl
def h_spec_l8Links_0 (x0 : MNode) (i0 : Int) : St := (St.mk [(1, (.ptr 1 [] 0)), (3, (.int .i64 i0))] [(1, (eNode (some true) x0))] [] 0)
theorem k_spec_l8Links : Told cfg Try.prog 89 Try.f89 := ⟨by kernel_rfl, Try.func89, by kernel_rfl⟩
theorem e_spec_l8Links (x0 : MNode) : RunJ pr cv J 89 Try.f89 [(.agg (eNode (some true) x0))] =
    let y1 : Option (D × List D) := (some ((.bool false), [.undef]))
    (br (br (pr.eq (pr.ofN x0.conn.length) 3) false true) y1 (br (br (pr.eq (pr.ofN x0.sync.length) 3) false true) y1 (br (br (pr.eq (pr.ofN x0.copies.length) 3) false true) y1 (J 0 (h_spec_l8Links_0 x0 0))))) := by kernel_rfl
theorem eh_spec_l8Links_0 (x0 : MNode) (i0 : Int) : HeadJ pr cv J 89 Try.f89 [.undef] 0 (h_spec_l8Links_0 x0 i0) =
    let y1 : Bool := (br (pr.isL 1 (rows (some true) x0.sync) (pr.idx 0 i0 1)) true false)
    let y2 : Option (D × List D) := (some ((.bool false), [.undef]))
    let y3 : Option Rz := (J 0 (h_spec_l8Links_0 x0 (pr.ar .add .i64 i0 1)))
    let y4 : Option (D × List D) := (br (pr.inR i0 x0.conn.length) (br (br (pr.isB (bools x0.conn) (pr.idx 0 i0 1)) true false) (br (pr.getB (bools x0.conn) (pr.idx 0 i0 1)) (br (br x0.up false true) y2 (br (pr.eq i0 x0.id) y2 y3)) y3) none) none)
    let y5 : Option (D × List D) := (br (pr.inR i0 x0.copies.length) (br (br (pr.isB (bools x0.copies) (pr.idx 0 i0 1)) true false) (br (pr.getB (bools x0.copies) (pr.idx 0 i0 1)) (br (pr.inR i0 x0.conn.length) (br (br (pr.isB (bools x0.conn) (pr.idx 0 i0 1)) true false) (br (br (pr.getB (bools x0.conn) (pr.idx 0 i0 1)) false true) y2 y4) none) none) y4) none) none)
    (br (pr.lt i0 3) (br (pr.inR i0 x0.sync.length) (br y1 (cv 102 [(.sl (some (pr.getG (rows (some true) x0.sync) (pr.idx 0 i0 1))) 1 (pr.getN (rows (some true) x0.sync) (pr.idx 0 i0 1)) (pr.getC (rows (some true) x0.sync) (pr.idx 0 i0 1)))] (.bool (fun vb0 => (.done (br (br vb0 false true) y2 (br (pr.inR i0 x0.sync.length) (br y1 (br (pr.lt 0 (pr.ofN (pr.getN (rows (some true) x0.sync) (pr.idx 0 i0 1)))) (br (pr.inR i0 x0.copies.length) (br (br (pr.isB (bools x0.copies) (pr.idx 0 i0 1)) true false) (br (br (pr.getB (bools x0.copies) (pr.idx 0 i0 1)) false true) y2 y5) none) none) y5) none) none)))))) none) none) (some ((.bool true), [.undef]))) := by kernel_rfl
end
@[go_sem] theorem x_impl_MetaOk (m_g0 : Nat) (m_g : List Int) (m_b0 : Nat) (m_b : List (List Int)) (m_f : Bool) (m_o : Bool) (m_h : Bool) (m_l : Int) (e0 : m_g0 = m_g.length) (e1 : m_b0 = m_b.length) (q0 : OkMeta (⟨m_g, m_b, m_f, m_o, m_h, m_l⟩ : MMeta)) (t : Tel Rz) : cvP 94 [.agg [.sl (some true) 1 m_g0 (ints m_g), .sl (some true) 1 m_b0 (rows (some true) m_b), .bool m_f, .bool m_o, .bool m_h, .int .i64 m_l]] t = feed t [.bool (metaOkF (⟨m_g, m_b, m_f, m_o, m_h, m_l⟩ : MMeta))] := by
  subst e0
  subst e1
  exact cvP_ty (r := .bool (metaOkF (⟨m_g, m_b, m_f, m_o, m_h, m_l⟩ : MMeta))) (s := .bool) (ss := [.undef]) (c_impl_MetaOk true (⟨m_g, m_b, m_f, m_o, m_h, m_l⟩ : MMeta) q0) (by kernel_rfl) (by simp only [okS_enc, okS_int, okS_bool, okS_str, okS_tup, okSL_cons, okSL_nil, Bool.and_self]) (by simp only [okSL_cons, okS_undef, okS_enc, okSL_nil, Bool.and_self]) (by first | rfl | simp only [okR_enc, okR_tupC, okR_tup0, okE_enc, okE_int, okE_bool, okE_str, Bool.and_self]) (by first | rfl | simp only [List.all_cons, List.all_nil, okR_enc, Bool.and_self]) t
@[go_sem] theorem x_spec_MetaOk (m_g0 : Nat) (m_g : List Int) (m_b0 : Nat) (m_b : List (List Int)) (m_f : Bool) (m_o : Bool) (m_h : Bool) (m_l : Int) (e0 : m_g0 = m_g.length) (e1 : m_b0 = m_b.length) (q0 : OkMeta (⟨m_g, m_b, m_f, m_o, m_h, m_l⟩ : MMeta)) (t : Tel Rz) : cvP 88 [.agg [.sl (some true) 1 m_g0 (ints m_g), .sl (some true) 1 m_b0 (rows (some true) m_b), .bool m_f, .bool m_o, .bool m_h, .int .i64 m_l]] t = feed t [.bool (metaOkF (⟨m_g, m_b, m_f, m_o, m_h, m_l⟩ : MMeta))] := by
  subst e0
  subst e1
  exact cvP_ty (r := .bool (metaOkF (⟨m_g, m_b, m_f, m_o, m_h, m_l⟩ : MMeta))) (s := .bool) (ss := [.undef]) (c_spec_MetaOk true (⟨m_g, m_b, m_f, m_o, m_h, m_l⟩ : MMeta) q0) (by kernel_rfl) (by simp only [okS_enc, okS_int, okS_bool, okS_str, okS_tup, okSL_cons, okSL_nil, Bool.and_self]) (by simp only [okSL_cons, okS_undef, okS_enc, okSL_nil, Bool.and_self]) (by first | rfl | simp only [okR_enc, okR_tupC, okR_tup0, okE_enc, okE_int, okE_bool, okE_str, Bool.and_self]) (by first | rfl | simp only [List.all_cons, List.all_nil, okR_enc, Bool.and_self]) t
@[go_sem] theorem x_impl_SameMeta (m_g0 : Nat) (m_g : List Int) (m_b0 : Nat) (m_b : List (List Int)) (m_f : Bool) (m_o : Bool) (m_h : Bool) (m_l : Int) (k_g0 : Nat) (k_g : List Int) (k_b0 : Nat) (k_b : List (List Int)) (k_f : Bool) (k_o : Bool) (k_h : Bool) (k_l : Int) (e0 : m_g0 = m_g.length) (e1 : m_b0 = m_b.length) (e2 : k_g0 = k_g.length) (e3 : k_b0 = k_b.length) (q0 : OkMeta (⟨m_g, m_b, m_f, m_o, m_h, m_l⟩ : MMeta)) (q1 : OkMeta (⟨k_g, k_b, k_f, k_o, k_h, k_l⟩ : MMeta)) (t : Tel Rz) : cvP 97 [.agg [.sl (some true) 1 m_g0 (ints m_g), .sl (some true) 1 m_b0 (rows (some true) m_b), .bool m_f, .bool m_o, .bool m_h, .int .i64 m_l], .agg [.sl (some true) 1 k_g0 (ints k_g), .sl (some true) 1 k_b0 (rows (some true) k_b), .bool k_f, .bool k_o, .bool k_h, .int .i64 k_l]] t = feed t [.bool (sameF (⟨m_g, m_b, m_f, m_o, m_h, m_l⟩ : MMeta) (⟨k_g, k_b, k_f, k_o, k_h, k_l⟩ : MMeta))] := by
  subst e0
  subst e1
  subst e2
  subst e3
  exact cvP_ty (r := .bool (sameF (⟨m_g, m_b, m_f, m_o, m_h, m_l⟩ : MMeta) (⟨k_g, k_b, k_f, k_o, k_h, k_l⟩ : MMeta))) (s := .bool) (ss := [.undef, .undef]) (c_impl_SameMeta true true (⟨m_g, m_b, m_f, m_o, m_h, m_l⟩ : MMeta) (⟨k_g, k_b, k_f, k_o, k_h, k_l⟩ : MMeta) q0 q1) (by kernel_rfl) (by simp only [okS_enc, okS_int, okS_bool, okS_str, okS_tup, okSL_cons, okSL_nil, Bool.and_self]) (by simp only [okSL_cons, okS_undef, okS_enc, okSL_nil, Bool.and_self]) (by first | rfl | simp only [okR_enc, okR_tupC, okR_tup0, okE_enc, okE_int, okE_bool, okE_str, Bool.and_self]) (by first | rfl | simp only [List.all_cons, List.all_nil, okR_enc, Bool.and_self]) t
@[go_sem] theorem x_spec_SameMeta (m_g0 : Nat) (m_g : List Int) (m_b0 : Nat) (m_b : List (List Int)) (m_f : Bool) (m_o : Bool) (m_h : Bool) (m_l : Int) (k_g0 : Nat) (k_g : List Int) (k_b0 : Nat) (k_b : List (List Int)) (k_f : Bool) (k_o : Bool) (k_h : Bool) (k_l : Int) (e0 : m_g0 = m_g.length) (e1 : m_b0 = m_b.length) (e2 : k_g0 = k_g.length) (e3 : k_b0 = k_b.length) (q0 : OkMeta (⟨m_g, m_b, m_f, m_o, m_h, m_l⟩ : MMeta)) (q1 : OkMeta (⟨k_g, k_b, k_f, k_o, k_h, k_l⟩ : MMeta)) (t : Tel Rz) : cvP 91 [.agg [.sl (some true) 1 m_g0 (ints m_g), .sl (some true) 1 m_b0 (rows (some true) m_b), .bool m_f, .bool m_o, .bool m_h, .int .i64 m_l], .agg [.sl (some true) 1 k_g0 (ints k_g), .sl (some true) 1 k_b0 (rows (some true) k_b), .bool k_f, .bool k_o, .bool k_h, .int .i64 k_l]] t = feed t [.bool (sameF (⟨m_g, m_b, m_f, m_o, m_h, m_l⟩ : MMeta) (⟨k_g, k_b, k_f, k_o, k_h, k_l⟩ : MMeta))] := by
  subst e0
  subst e1
  subst e2
  subst e3
  exact cvP_ty (r := .bool (sameF (⟨m_g, m_b, m_f, m_o, m_h, m_l⟩ : MMeta) (⟨k_g, k_b, k_f, k_o, k_h, k_l⟩ : MMeta))) (s := .bool) (ss := [.undef, .undef]) (c_spec_SameMeta true true (⟨m_g, m_b, m_f, m_o, m_h, m_l⟩ : MMeta) (⟨k_g, k_b, k_f, k_o, k_h, k_l⟩ : MMeta) q0 q1) (by kernel_rfl) (by simp only [okS_enc, okS_int, okS_bool, okS_str, okS_tup, okSL_cons, okSL_nil, Bool.and_self]) (by simp only [okSL_cons, okS_undef, okS_enc, okSL_nil, Bool.and_self]) (by first | rfl | simp only [okR_enc, okR_tupC, okR_tup0, okE_enc, okE_int, okE_bool, okE_str, Bool.and_self]) (by first | rfl | simp only [List.all_cons, List.all_nil, okR_enc, Bool.and_self]) t
@[go_sem] theorem x_impl_ImageOk (m0 : Nat) (m : List Int) (e0 : m0 = m.length) (q0 : m.length < 4611686018427387904) (t : Tel Rz) : cvP 93 [.sl (some true) 1 m0 (ints m)] t = feed t [.bool (imageOkF m)] := by
  subst e0
  exact cvP_ty (r := .bool (imageOkF m)) (s := .bool) (ss := [.undef]) (c_impl_ImageOk true m q0) (by kernel_rfl) (by simp only [okS_enc, okS_int, okS_bool, okS_str, okS_tup, okSL_cons, okSL_nil, Bool.and_self]) (by simp only [okSL_cons, okS_undef, okS_enc, okSL_nil, Bool.and_self]) (by first | rfl | simp only [okR_enc, okR_tupC, okR_tup0, okE_enc, okE_int, okE_bool, okE_str, Bool.and_self]) (by first | rfl | simp only [List.all_cons, List.all_nil, okR_enc, Bool.and_self]) t
@[go_sem] theorem x_spec_ImageOk (m0 : Nat) (m : List Int) (e0 : m0 = m.length) (q0 : m.length < 4611686018427387904) (t : Tel Rz) : cvP 87 [.sl (some true) 1 m0 (ints m)] t = feed t [.bool (imageOkF m)] := by
  subst e0
  exact cvP_ty (r := .bool (imageOkF m)) (s := .bool) (ss := [.undef]) (c_spec_ImageOk true m q0) (by kernel_rfl) (by simp only [okS_enc, okS_int, okS_bool, okS_str, okS_tup, okSL_cons, okSL_nil, Bool.and_self]) (by simp only [okSL_cons, okS_undef, okS_enc, okSL_nil, Bool.and_self]) (by first | rfl | simp only [okR_enc, okR_tupC, okR_tup0, okE_enc, okE_int, okE_bool, okE_str, Bool.and_self]) (by first | rfl | simp only [List.all_cons, List.all_nil, okR_enc, Bool.and_self]) t
@[go_sem] theorem x_impl_MarksOk (m0 : Nat) (m : List Int) (e0 : m0 = m.length) (q0 : m.length < 4611686018427387904) (t : Tel Rz) : cvP 112 [.sl (some true) 1 m0 (ints m)] t = feed t [.bool (marksOkF m)] := by
  subst e0
  exact cvP_ty (r := .bool (marksOkF m)) (s := .bool) (ss := [.undef]) (c_impl_MarksOk true m q0) (by kernel_rfl) (by simp only [okS_enc, okS_int, okS_bool, okS_str, okS_tup, okSL_cons, okSL_nil, Bool.and_self]) (by simp only [okSL_cons, okS_undef, okS_enc, okSL_nil, Bool.and_self]) (by first | rfl | simp only [okR_enc, okR_tupC, okR_tup0, okE_enc, okE_int, okE_bool, okE_str, Bool.and_self]) (by first | rfl | simp only [List.all_cons, List.all_nil, okR_enc, Bool.and_self]) t
@[go_sem] theorem x_spec_MarksOk (m0 : Nat) (m : List Int) (e0 : m0 = m.length) (q0 : m.length < 4611686018427387904) (t : Tel Rz) : cvP 102 [.sl (some true) 1 m0 (ints m)] t = feed t [.bool (marksOkF m)] := by
  subst e0
  exact cvP_ty (r := .bool (marksOkF m)) (s := .bool) (ss := [.undef]) (c_spec_MarksOk true m q0) (by kernel_rfl) (by simp only [okS_enc, okS_int, okS_bool, okS_str, okS_tup, okSL_cons, okSL_nil, Bool.and_self]) (by simp only [okSL_cons, okS_undef, okS_enc, okSL_nil, Bool.and_self]) (by first | rfl | simp only [okR_enc, okR_tupC, okR_tup0, okE_enc, okE_int, okE_bool, okE_str, Bool.and_self]) (by first | rfl | simp only [List.all_cons, List.all_nil, okR_enc, Bool.and_self]) t
@[go_sem] theorem x_impl_GensOk (m0 : Nat) (m : List Int) (e0 : m0 = m.length) (q0 : m.length < 4611686018427387904) (t : Tel Rz) : cvP 109 [.sl (some true) 1 m0 (ints m)] t = feed t [.bool (gensOkF m)] := by
  subst e0
  exact cvP_ty (r := .bool (gensOkF m)) (s := .bool) (ss := [.undef]) (c_impl_GensOk true m q0) (by kernel_rfl) (by simp only [okS_enc, okS_int, okS_bool, okS_str, okS_tup, okSL_cons, okSL_nil, Bool.and_self]) (by simp only [okSL_cons, okS_undef, okS_enc, okSL_nil, Bool.and_self]) (by first | rfl | simp only [okR_enc, okR_tupC, okR_tup0, okE_enc, okE_int, okE_bool, okE_str, Bool.and_self]) (by first | rfl | simp only [List.all_cons, List.all_nil, okR_enc, Bool.and_self]) t
@[go_sem] theorem x_spec_GensOk (m0 : Nat) (m : List Int) (e0 : m0 = m.length) (q0 : m.length < 4611686018427387904) (t : Tel Rz) : cvP 103 [.sl (some true) 1 m0 (ints m)] t = feed t [.bool (gensOkF m)] := by
  subst e0
  exact cvP_ty (r := .bool (gensOkF m)) (s := .bool) (ss := [.undef]) (c_spec_GensOk true m q0) (by kernel_rfl) (by simp only [okS_enc, okS_int, okS_bool, okS_str, okS_tup, okSL_cons, okSL_nil, Bool.and_self]) (by simp only [okSL_cons, okS_undef, okS_enc, okSL_nil, Bool.and_self]) (by first | rfl | simp only [okR_enc, okR_tupC, okR_tup0, okE_enc, okE_int, okE_bool, okE_str, Bool.and_self]) (by first | rfl | simp only [List.all_cons, List.all_nil, okR_enc, Bool.and_self]) t
@[go_sem] theorem x_impl_marksAll (m0 : Nat) (m : List (List Int)) (e0 : m0 = m.length) (q0 : OkR m) (t : Tel Rz) : cvP 95 [.sl (some true) 1 m0 (rows (some true) m)] t = feed t [.bool ((((m.length : Int) == 3) && marksAllF m))] := by
  subst e0
  exact cvP_ty (r := .bool ((((m.length : Int) == 3) && marksAllF m))) (s := .bool) (ss := [.undef]) (c_marksAll true m q0) (by kernel_rfl) (by simp only [okS_enc, okS_int, okS_bool, okS_str, okS_tup, okSL_cons, okSL_nil, Bool.and_self]) (by simp only [okSL_cons, okS_undef, okS_enc, okSL_nil, Bool.and_self]) (by first | rfl | simp only [okR_enc, okR_tupC, okR_tup0, okE_enc, okE_int, okE_bool, okE_str, Bool.and_self]) (by first | rfl | simp only [List.all_cons, List.all_nil, okR_enc, Bool.and_self]) t
@[go_sem] theorem x_impl_isNode (a : Int) (t : Tel Rz) : cvP 92 [.int .i64 a] t = feed t [.bool (decide (0 ≤ a ∧ a ≤ 2))] := by
  exact cvP_ty (r := .bool (decide (0 ≤ a ∧ a ≤ 2))) (s := .bool) (ss := [.undef]) (c_isNode a) (by kernel_rfl) (by simp only [okS_enc, okS_int, okS_bool, okS_str, okS_tup, okSL_cons, okSL_nil, Bool.and_self]) (by simp only [okSL_cons, okS_undef, okS_enc, okSL_nil, Bool.and_self]) (by first | rfl | simp only [okR_enc, okR_tupC, okR_tup0, okE_enc, okE_int, okE_bool, okE_str, Bool.and_self]) (by first | rfl | simp only [List.all_cons, List.all_nil, okR_enc, Bool.and_self]) t
@[go_sem] theorem x_impl_isCell (a : Int) (t : Tel Rz) : cvP 124 [.int .i64 a] t = feed t [.bool (decide (0 ≤ a ∧ a ≤ 7))] := by
  exact cvP_ty (r := .bool (decide (0 ≤ a ∧ a ≤ 7))) (s := .bool) (ss := [.undef]) (c_isCell a) (by kernel_rfl) (by simp only [okS_enc, okS_int, okS_bool, okS_str, okS_tup, okSL_cons, okSL_nil, Bool.and_self]) (by simp only [okSL_cons, okS_undef, okS_enc, okSL_nil, Bool.and_self]) (by first | rfl | simp only [okR_enc, okR_tupC, okR_tup0, okE_enc, okE_int, okE_bool, okE_str, Bool.and_self]) (by first | rfl | simp only [List.all_cons, List.all_nil, okR_enc, Bool.and_self]) t
@[go_sem] theorem x_impl_isWrite (a : Int) (t : Tel Rz) : cvP 98 [.int .i64 a] t = feed t [.bool (decide (1 ≤ a ∧ a ≤ 200))] := by
  exact cvP_ty (r := .bool (decide (1 ≤ a ∧ a ≤ 200))) (s := .bool) (ss := [.undef]) (c_isWrite a) (by kernel_rfl) (by simp only [okS_enc, okS_int, okS_bool, okS_str, okS_tup, okSL_cons, okSL_nil, Bool.and_self]) (by simp only [okSL_cons, okS_undef, okS_enc, okSL_nil, Bool.and_self]) (by first | rfl | simp only [okR_enc, okR_tupC, okR_tup0, okE_enc, okE_int, okE_bool, okE_str, Bool.and_self]) (by first | rfl | simp only [List.all_cons, List.all_nil, okR_enc, Bool.and_self]) t
@[go_sem] theorem x_impl_Mate (a : Int) (t : Tel Rz) : cvP 73 [.int .i64 a] t = feed t [.int .i64 (mateF a)] := by
  exact cvP_ty (r := .int .i64 (mateF a)) (s := .int .i64) (ss := [.undef]) (c_impl_Mate a) (by kernel_rfl) (by simp only [okS_enc, okS_int, okS_bool, okS_str, okS_tup, okSL_cons, okSL_nil, Bool.and_self]) (by simp only [okSL_cons, okS_undef, okS_enc, okSL_nil, Bool.and_self]) (by first | rfl | simp only [okR_enc, okR_tupC, okR_tup0, okE_enc, okE_int, okE_bool, okE_str, Bool.and_self]) (by first | rfl | simp only [List.all_cons, List.all_nil, okR_enc, Bool.and_self]) t
@[go_sem] theorem x_spec_Mate (a : Int) (t : Tel Rz) : cvP 71 [.int .i64 a] t = feed t [.int .i64 (mateF a)] := by
  exact cvP_ty (r := .int .i64 (mateF a)) (s := .int .i64) (ss := [.undef]) (c_spec_Mate a) (by kernel_rfl) (by simp only [okS_enc, okS_int, okS_bool, okS_str, okS_tup, okSL_cons, okSL_nil, Bool.and_self]) (by simp only [okSL_cons, okS_undef, okS_enc, okSL_nil, Bool.and_self]) (by first | rfl | simp only [okR_enc, okR_tupC, okR_tup0, okE_enc, okE_int, okE_bool, okE_str, Bool.and_self]) (by first | rfl | simp only [List.all_cons, List.all_nil, okR_enc, Bool.and_self]) t
@[go_sem] theorem x_spec_l2Has (m0 : Nat) (m : List Int) (a : Int) (e0 : m0 = m.length) (q0 : m.length < 4611686018427387904) (t : Tel Rz) : cvP 118 [.sl (some true) 1 m0 (ints m), .int .i64 a] t = feed t [.bool (decide (a ∈ m))] := by
  subst e0
  exact cvP_ty (r := .bool (decide (a ∈ m))) (s := .bool) (ss := [.undef, .undef]) (c_l2Has true m a q0) (by kernel_rfl) (by simp only [okS_enc, okS_int, okS_bool, okS_str, okS_tup, okSL_cons, okSL_nil, Bool.and_self]) (by simp only [okSL_cons, okS_undef, okS_enc, okSL_nil, Bool.and_self]) (by first | rfl | simp only [okR_enc, okR_tupC, okR_tup0, okE_enc, okE_int, okE_bool, okE_str, Bool.and_self]) (by first | rfl | simp only [List.all_cons, List.all_nil, okR_enc, Bool.and_self]) t
@[go_sem] theorem x_slices_Containsint_int (m0 : Nat) (m : List Int) (a : Int) (e0 : m0 = m.length) (q0 : m.length < 4611686018427387904) (t : Tel Rz) : cvP 122 [.sl (some true) 1 m0 (ints m), .int .i64 a] t = feed t [.bool (decide (a ∈ m))] := by
  subst e0
  exact cvP_ty (r := .bool (decide (a ∈ m))) (s := .bool) (ss := [.undef, .undef]) (c_Contains true m a q0) (by kernel_rfl) (by simp only [okS_enc, okS_int, okS_bool, okS_str, okS_tup, okSL_cons, okSL_nil, Bool.and_self]) (by simp only [okSL_cons, okS_undef, okS_enc, okSL_nil, Bool.and_self]) (by first | rfl | simp only [okR_enc, okR_tupC, okR_tup0, okE_enc, okE_int, okE_bool, okE_str, Bool.and_self]) (by first | rfl | simp only [List.all_cons, List.all_nil, okR_enc, Bool.and_self]) t
@[go_sem] theorem x_spec_l5Same (m0 : Nat) (m : List Int) (k0 : Nat) (k : List Int) (e0 : m0 = m.length) (e1 : k0 = k.length) (q0 : m.length < 4611686018427387904) (q1 : k.length < 4611686018427387904) (t : Tel Rz) : cvP 106 [.sl (some true) 1 m0 (ints m), .sl (some true) 1 k0 (ints k)] t = feed t [.bool (decide (m = k))] := by
  subst e0
  subst e1
  exact cvP_ty (r := .bool (decide (m = k))) (s := .bool) (ss := [.undef, .undef]) (c_l5Same true true m k q0 q1) (by kernel_rfl) (by simp only [okS_enc, okS_int, okS_bool, okS_str, okS_tup, okSL_cons, okSL_nil, Bool.and_self]) (by simp only [okSL_cons, okS_undef, okS_enc, okSL_nil, Bool.and_self]) (by first | rfl | simp only [okR_enc, okR_tupC, okR_tup0, okE_enc, okE_int, okE_bool, okE_str, Bool.and_self]) (by first | rfl | simp only [List.all_cons, List.all_nil, okR_enc, Bool.and_self]) t
@[go_sem] theorem x_slices_Equalint_int (m0 : Nat) (m : List Int) (k0 : Nat) (k : List Int) (e0 : m0 = m.length) (e1 : k0 = k.length) (q0 : m.length < 4611686018427387904) (q1 : k.length < 4611686018427387904) (t : Tel Rz) : cvP 114 [.sl (some true) 1 m0 (ints m), .sl (some true) 1 k0 (ints k)] t = feed t [.bool (decide (m = k))] := by
  subst e0
  subst e1
  exact cvP_ty (r := .bool (decide (m = k))) (s := .bool) (ss := [.undef, .undef]) (c_Equal true true m k q0 q1) (by kernel_rfl) (by simp only [okS_enc, okS_int, okS_bool, okS_str, okS_tup, okSL_cons, okSL_nil, Bool.and_self]) (by simp only [okSL_cons, okS_undef, okS_enc, okSL_nil, Bool.and_self]) (by first | rfl | simp only [okR_enc, okR_tupC, okR_tup0, okE_enc, okE_int, okE_bool, okE_str, Bool.and_self]) (by first | rfl | simp only [List.all_cons, List.all_nil, okR_enc, Bool.and_self]) t
def linkP (n : MNode) (k : Nat) : Prop := (n.conn.getD k false = true → n.up = true ∧ ¬(k : Int) = n.id) ∧ (n.copies.getD k false = true → n.conn.getD k false = true) ∧ (0 < ((n.sync.getD k []).length : Int) → n.copies.getD k false = true)
def waitP (w : List Int) (i : Nat) : Prop := (1 ≤ w.getD i 0 ∧ w.getD i 0 ≤ 200) ∧ (0 < (i : Int) → ¬w.getD i 0 ≤ w.getD (i - 1) 0)
structure NodeOk (n : MNode) : Prop where
  id : 0 ≤ n.id ∧ n.id ≤ 2
  image : imageOkF n.image = true
  mt : metaOkF n.mt = true
  conn : (n.conn.length : Int) = 3
  sync : (n.sync.length : Int) = 3
  marks : ∀ k, k < n.sync.length → marksOkF (n.sync.getD k []) = true
  copies : (n.copies.length : Int) = 3
  prime : n.prime = true → n.up = true ∧ ¬n.id = 2
  down : ¬n.up = true → ¬0 < (n.wait.length : Int)
  slot : (slotGetF n.slots).2.2 = true
  same : sameF (slotGetF n.slots).1 n.mt = true
  link : ∀ k, k < 3 → linkP n k
  wait : ∀ i, i < n.wait.length → waitP n.wait i
open Classical in
noncomputable def nodeOkF (n : MNode) : Bool := decide (NodeOk n)
open Classical in
theorem nodeOk_yes {n : MNode} (h : NodeOk n) : nodeOkF n = true := by unfold nodeOkF; exact decide_eq_true h
open Classical in
theorem nodeOk_of {n : MNode} (h : nodeOkF n = true) : NodeOk n := by unfold nodeOkF at h; exact of_decide_eq_true h
open Classical in
theorem nodeOk_no {n : MNode} (h : ¬NodeOk n) : (some ((.bool false, [.undef]) : Rz)) = some (.bool (nodeOkF n), [.undef]) := by unfold nodeOkF; rw [decide_eq_false h]
theorem nodeOk_si {n : MNode} (h : NodeOk n) : (some ((.bool true, [.undef]) : Rz)) = some (.bool (nodeOkF n), [.undef]) := by rw [nodeOk_yes h]
theorem marksAll_get {xss : List (List Int)} (h : marksAllF xss = true) : ∀ k, k < xss.length → marksOkF (xss.getD k []) = true := fun k hk => by
  unfold marksAllF at h
  exact List.all_eq_true.1 h k (List.mem_range.2 hk)
theorem marksAll_of {xss : List (List Int)} (h : ∀ k, k < xss.length → marksOkF (xss.getD k []) = true) : marksAllF xss = true := by
  unfold marksAllF
  exact List.all_eq_true.2 fun k hk => h k (List.mem_range.1 hk)
theorem okR_get {xss : List (List Int)} (h : OkR xss) (k : Nat) : (xss.getD k []).length ≤ 1048576 := by
  by_cases hk : k < xss.length
  · rw [getD_get' hk]
    exact h.2 _ (List.getElem_mem hk)
  · rw [List.getD_eq_getElem?_getD, List.getElem?_eq_none (Nat.not_lt.1 hk)]
    simp
theorem g_pu {R : Type} {p u b2 b3 : Bool} {T F r : R} (hT : (p = true → u = true ∧ b2 = false) → (u = false → b3 = false) → T = r) (hF : ((p = true → u = true ∧ b2 = false) → (u = false → b3 = false) → False) → F = r) : br p (br (br u false true) F (br b2 F (br (br u false true) (br b3 F T) T))) (br (br u false true) (br b3 F T) T) = r := by
  cases p <;> cases u <;> cases b2 <;> cases b3 <;> simp only [br] <;> first | exact hT (by simp) (by simp) | exact hF (by simp)
theorem c_impl_NodeOk (n : MNode) (q0 : OkNode n) : Cm 72 [.agg (eNode (some true) n)] (.bool (nodeOkF n), [.undef]) := by
  have ok := q0
  have s1 := ok.image
  have s2 := ok.conn
  have s3 := ok.copies
  have s4 := ok.wait
  have s5 := ok.sync.1
  have s6 := ok.mt
  have s7 := ok.sync
  have s8 := q0.slots
  have s9 := slotGet_ok n.slots
  refine Cm.step k_impl_NodeOk [.undef] fun J hJ => ?_
  rw [e_impl_NodeOk]
  simp (disch := first | assumption | omega) only [go_sem]
  refine g_ite (fun h1 => ?_) (fun h => nodeOk_no fun o => h o.id)
  simp (disch := first | assumption | omega) only [go_sem]
  refine g_c (fun h2 => ?_) (fun h => nodeOk_no fun o => h o.image)
  simp (disch := first | assumption | omega) only [go_sem]
  refine g_c (fun h3 => ?_) (fun h => nodeOk_no fun o => h o.mt)
  simp (disch := first | assumption | omega) only [go_sem]
  refine g_ite (fun h4 => ?_) (fun h => nodeOk_no fun o => h o.conn)
  simp (disch := first | assumption | omega) only [go_sem]
  refine g_c (fun h5 => ?_) (fun h => nodeOk_no fun o => h (by simp only [o.sync, marksAll_of o.marks, Bool.and_true]; rfl))
  simp only [Bool.and_eq_true, beq_iff_eq] at h5
  simp (disch := first | assumption | omega) only [go_sem]
  refine g_ite (fun h6 => ?_) (fun h => nodeOk_no fun o => h o.copies)
  refine g_pu (fun h7 h8 => ?_) (fun h => nodeOk_no fun o => h (fun hp => ⟨(o.prime hp).1, decide_eq_false (o.prime hp).2⟩) fun hu => decide_eq_false (o.down (by rw [hu]; simp)))
  have h7 : n.prime = true → n.up = true ∧ ¬n.id = 2 := fun hp => ⟨(h7 hp).1, of_decide_eq_false (h7 hp).2⟩
  have h8 : ¬n.up = true → ¬0 < (n.wait.length : Int) := fun hu => of_decide_eq_false (h8 (by simpa using hu))
  simp (disch := first | assumption | omega) only [go_sem]
  refine g_c (fun h9 => ?_) (fun h => nodeOk_no fun o => h o.slot)
  simp (disch := first | assumption | omega) only [go_sem]
  refine g_c (fun h10 => ?_) (fun h => nodeOk_no fun o => h o.same)
  have loop2 : (∀ k, k < 3 → linkP n k) → WP 72 Try.f72 [.undef] 2 (h_impl_NodeOk_2 n n.wait.length 0) (.bool (nodeOkF n), [.undef]) := by
    intro h11
    refine WP.up (H := fun i => h_impl_NodeOk_2 n n.wait.length i) n.wait.length (fun i => ∀ k, k < i → waitP n.wait k) (fun i hi inv J _ next => ?_) 0 (Nat.zero_le _) (fun k hk => absurd hk (by omega))
    rw [eh_impl_NodeOk_2]
    simp (disch := first | assumption | omega) only [go_sem]
    refine g_ite (fun hlt => ?_) (fun hge => nodeOk_si ⟨h1, h2, h3, h4, h5.1, marksAll_get h5.2, h6, h7, h8, h9, h10, h11, fun k hk => inv k (by omega)⟩)
    simp (disch := first | assumption | omega) only [go_sem]
    refine g_ite (fun ha => ?_) (fun h => nodeOk_no fun o => h (o.wait i (by omega)).1)
    have go : (0 < (i : Int) → ¬n.wait.getD i 0 ≤ n.wait.getD (i - 1) 0) → J 2 (h_impl_NodeOk_2 n n.wait.length ((i : Int) + 1)) = some (.bool (nodeOkF n), [.undef]) := fun hb => next (by omega) fun k hk => by
      by_cases e : k = i
      · subst e; exact ⟨ha, hb⟩
      · exact inv k (by omega)
    refine g_ite (fun hpos => ?_) (fun hz => ?_)
    · simp (disch := first | assumption | omega) only [go_sem]
      have e1 : ((i : Int) - 1).toNat = i - 1 := by omega
      simp (disch := first | assumption | omega) only [go_sem, e1]
      exact g_ite (fun h => nodeOk_no fun o => (o.wait i (by omega)).2 hpos h) (fun h => go fun _ => h)
    · simp (disch := first | assumption | omega) only [go_sem]
      exact go fun h => absurd h hz
  refine hJ _ _ ?_
  refine WP.up (H := fun i => h_impl_NodeOk_0 n i) 3 (fun i => ∀ k, k < i → linkP n k) (fun i hi inv J hJ next => ?_) 0 (Nat.zero_le _) (fun k hk => absurd hk (by omega))
  rw [eh_impl_NodeOk_0]
  dsimp only
  simp (disch := first | assumption | omega) only [go_sem]
  refine g_ite (fun hlt => ?_) (fun hge => hJ _ _ (loop2 fun k hk => inv k (by omega)))
  have hi3 : i < 3 := by omega
  have go : linkP n i → J 0 (h_impl_NodeOk_0 n ((i : Int) + 1)) = some (.bool (nodeOkF n), [.undef]) := fun hb => next (by omega) fun k hk => by
      by_cases e : k = i
      · subst e; exact hb
      · exact inv k (by omega)
  have no : ¬linkP n i → (some ((.bool false, [.undef]) : Rz)) = some (.bool (nodeOkF n), [.undef]) := fun h => nodeOk_no fun o => h (o.link i hi3)
  have eJ : std.ar .add .i64 (i : Int) 1 = (i : Int) + 1 := g_add (by omega) (by omega)
  rw [eJ]
  generalize J 0 (h_impl_NodeOk_0 n ((i : Int) + 1)) = z at go ⊢
  unfold linkP at go no
  cases hc : n.conn.getD i false <;> cases hk : n.copies.getD i false <;> cases hu : n.up <;> by_cases hs : 0 < ((n.sync.getD i []).length : Int) <;> by_cases hid : (i : Int) = n.id <;> simp only [hc, hk, hu, hs, hid, not_true_eq_false, not_false_eq_true, false_and, and_false, and_true, true_and, forall_const, Bool.false_eq_true, false_implies, imp_self, true_implies, and_self] at go no <;> simp (disch := first | assumption | omega) only [go_sem, hc, hk, hu] <;> first | exact no | exact go
@[go_sem] theorem x_impl_NodeOk (n_i : Int) (n_u : Bool) (n_p : Bool) (n_im0 : Nat) (n_im : List Int) (n_m_g0 : Nat) (n_m_g : List Int) (n_m_b0 : Nat) (n_m_b : List (List Int)) (n_m_f : Bool) (n_m_o : Bool) (n_m_h : Bool) (n_m_l : Int) (n_s_a0 : Nat) (n_s_a : List UInt8) (n_s_b0 : Nat) (n_s_b : List UInt8) (n_c0 : Nat) (n_c : List Bool) (n_y0 : Nat) (n_y : List (List Int)) (n_k0 : Nat) (n_k : List Bool) (n_w0 : Nat) (n_w : List Int) (e0 : n_im0 = n_im.length) (e1 : n_m_g0 = n_m_g.length) (e2 : n_m_b0 = n_m_b.length) (e3 : n_s_a0 = n_s_a.length) (e4 : n_s_b0 = n_s_b.length) (e5 : n_c0 = n_c.length) (e6 : n_y0 = n_y.length) (e7 : n_k0 = n_k.length) (e8 : n_w0 = n_w.length) (q0 : OkNode (⟨n_i, n_u, n_p, n_im, (⟨n_m_g, n_m_b, n_m_f, n_m_o, n_m_h, n_m_l⟩ : MMeta), (⟨n_s_a, n_s_b⟩ : MSlots), n_c, n_y, n_k, n_w⟩ : MNode)) (t : Tel Rz) : cvP 72 [.agg [.int .i64 n_i, .bool n_u, .bool n_p, .sl (some true) 1 n_im0 (ints n_im), .sl (some true) 1 n_m_g0 (ints n_m_g), .sl (some true) 1 n_m_b0 (rows (some true) n_m_b), .bool n_m_f, .bool n_m_o, .bool n_m_h, .int .i64 n_m_l, .sl (some true) 1 n_s_a0 (bytes n_s_a), .sl (some true) 1 n_s_b0 (bytes n_s_b), .sl (some true) 1 n_c0 (bools n_c), .sl (some true) 1 n_y0 (rows (some true) n_y), .sl (some true) 1 n_k0 (bools n_k), .sl (some true) 1 n_w0 (ints n_w)]] t = feed t [.bool (nodeOkF (⟨n_i, n_u, n_p, n_im, (⟨n_m_g, n_m_b, n_m_f, n_m_o, n_m_h, n_m_l⟩ : MMeta), (⟨n_s_a, n_s_b⟩ : MSlots), n_c, n_y, n_k, n_w⟩ : MNode))] := by
  subst e0
  subst e1
  subst e2
  subst e3
  subst e4
  subst e5
  subst e6
  subst e7
  subst e8
  exact cvP_ty (r := .bool (nodeOkF (⟨n_i, n_u, n_p, n_im, (⟨n_m_g, n_m_b, n_m_f, n_m_o, n_m_h, n_m_l⟩ : MMeta), (⟨n_s_a, n_s_b⟩ : MSlots), n_c, n_y, n_k, n_w⟩ : MNode))) (s := .bool) (ss := [.undef]) (c_impl_NodeOk (⟨n_i, n_u, n_p, n_im, (⟨n_m_g, n_m_b, n_m_f, n_m_o, n_m_h, n_m_l⟩ : MMeta), (⟨n_s_a, n_s_b⟩ : MSlots), n_c, n_y, n_k, n_w⟩ : MNode) q0) (by kernel_rfl) (by simp only [okS_enc, okS_int, okS_bool, okS_str, okS_tup, okSL_cons, okSL_nil, Bool.and_self]) (by simp only [okSL_cons, okS_undef, okS_enc, okSL_nil, Bool.and_self]) (by first | rfl | simp only [okR_enc, okR_tupC, okR_tup0, okE_enc, okE_int, okE_bool, okE_str, Bool.and_self]) (by first | rfl | simp only [List.all_cons, List.all_nil, okR_enc, Bool.and_self]) t
end Go.Proofs.Ytkejckoefjonjaa
namespace Go.Proofs.Ytkejckoefjonjaa
set_option maxRecDepth 100000
section
variable (pr : Prims) (cv : Cv Rz) (J : Nat → St → Option Rz)
theorem k_impl_MayWrite : Told cfg Try.prog 34 Try.f34 := ⟨by kernel_rfl, Try.func34, by kernel_rfl⟩
theorem e_impl_MayWrite (x0 : MNode) : RunJ pr cv J 34 Try.f34 [(.agg (eNode (some true) x0))] =
    let y1 : Option (D × List D) := (some ((.bool false), [.undef]))
    (cv 72 [(.agg (eNode (some true) x0))] (.bool (fun vb0 => (.done (br vb0 (br x0.prime (cv 73 [(.int .i64 x0.id)] (.int (fun vx1 => (.done (br (pr.inR vx1 x0.conn.length) (br (br (pr.isB (bools x0.conn) (pr.idx 0 vx1 1)) true false) (br (pr.getB (bools x0.conn) (pr.idx 0 vx1 1)) (some ((.bool true), [.undef])) (some ((.bool x0.mt.held), [.undef]))) none) none))))) y1) y1))))) := by kernel_rfl
theorem k_spec_MayWrite : Told cfg Try.prog 33 Try.f33 := ⟨by kernel_rfl, Try.func33, by kernel_rfl⟩
theorem e_spec_MayWrite (x0 : MNode) : RunJ pr cv J 33 Try.f33 [(.agg (eNode (some true) x0))] =
    let y1 : Option (D × List D) := (some ((.bool false), [.undef]))
    (cv 70 [(.agg (eNode (some true) x0))] (.bool (fun vb0 => (.done (br vb0 (br x0.prime (cv 71 [(.int .i64 x0.id)] (.int (fun vx1 => (.done (br (pr.inR vx1 x0.conn.length) (br (br (pr.isB (bools x0.conn) (pr.idx 0 vx1 1)) true false) (br (pr.getB (bools x0.conn) (pr.idx 0 vx1 1)) (some ((.bool true), [.undef])) (some ((.bool x0.mt.held), [.undef]))) none) none))))) y1) y1))))) := by kernel_rfl
end
structure LinksOk (n : MNode) : Prop where
  conn : (n.conn.length : Int) = 3
  sync : (n.sync.length : Int) = 3
  copies : (n.copies.length : Int) = 3
  link : ∀ k, k < 3 → marksOkF (n.sync.getD k []) = true ∧ linkP n k
open Classical in
noncomputable def linksF (n : MNode) : Bool := decide (LinksOk n)
open Classical in
theorem links_of {n : MNode} (h : linksF n = true) : LinksOk n := by unfold linksF at h; exact of_decide_eq_true h
open Classical in
theorem links_yes {n : MNode} (h : LinksOk n) : linksF n = true := by unfold linksF; exact decide_eq_true h
open Classical in
theorem links_no {n : MNode} (h : ¬LinksOk n) : (some ((.bool false, [.undef]) : Rz)) = some (.bool (linksF n), [.undef]) := by unfold linksF; rw [decide_eq_false h]
theorem c_spec_l8Links (n : MNode) (q0 : OkNode n) : Cm 89 [.agg (eNode (some true) n)] (.bool (linksF n), [.undef]) := by
  have ok := q0
  have s5 := ok.sync.1
  have s7 := ok.sync
  refine Cm.step k_spec_l8Links [.undef] fun J hJ => ?_
  rw [e_spec_l8Links]
  simp (disch := first | assumption | omega) only [go_sem]
  refine g_ite (fun h1 => ?_) (fun h => links_no fun o => h o.conn)
  simp (disch := first | assumption | omega) only [go_sem]
  refine g_ite (fun h2 => ?_) (fun h => links_no fun o => h o.sync)
  simp (disch := first | assumption | omega) only [go_sem]
  refine g_ite (fun h3 => ?_) (fun h => links_no fun o => h o.copies)
  refine hJ _ _ ?_
  refine WP.up (H := fun i => h_spec_l8Links_0 n i) 3 (fun i => ∀ k, k < i → marksOkF (n.sync.getD k []) = true ∧ linkP n k) (fun i hi inv J hJ next => ?_) 0 (Nat.zero_le _) (fun k hk => absurd hk (by omega))
  rw [eh_spec_l8Links_0]
  dsimp only
  simp (disch := first | assumption | omega) only [go_sem]
  refine g_ite (fun hlt => ?_) (fun hge => by rw [links_yes ⟨h1, h2, h3, fun k hk => inv k (by omega)⟩])
  have hi3 : i < 3 := by omega
  have s8 := okR_get s7 i
  simp (disch := first | assumption | omega) only [go_sem]
  refine g_c (fun hm => ?_) (fun h => links_no fun o => h (o.link i hi3).1)
  have go : linkP n i → J 0 (h_spec_l8Links_0 n ((i : Int) + 1)) = some (.bool (linksF n), [.undef]) := fun hb => next (by omega) fun k hk => by
      by_cases e : k = i
      · subst e; exact ⟨hm, hb⟩
      · exact inv k (by omega)
  have no : ¬linkP n i → (some ((.bool false, [.undef]) : Rz)) = some (.bool (linksF n), [.undef]) := fun h => links_no fun o => h (o.link i hi3).2
  have eJ : std.ar .add .i64 (i : Int) 1 = (i : Int) + 1 := g_add (by omega) (by omega)
  rw [eJ]
  generalize J 0 (h_spec_l8Links_0 n ((i : Int) + 1)) = z at go ⊢
  unfold linkP at go no
  cases hc : n.conn.getD i false <;> cases hk : n.copies.getD i false <;> cases hu : n.up <;> by_cases hs : 0 < ((n.sync.getD i []).length : Int) <;> by_cases hid : (i : Int) = n.id <;> simp only [hc, hk, hu, hs, hid, not_true_eq_false, not_false_eq_true, false_and, and_false, and_true, true_and, forall_const, Bool.false_eq_true, false_implies, imp_self, true_implies, and_self] at go no <;> simp (disch := first | assumption | omega) only [go_sem, hc, hk, hu] <;> first | exact no | exact go
@[go_sem] theorem x_spec_l8Links (n_i : Int) (n_u : Bool) (n_p : Bool) (n_im0 : Nat) (n_im : List Int) (n_m_g0 : Nat) (n_m_g : List Int) (n_m_b0 : Nat) (n_m_b : List (List Int)) (n_m_f : Bool) (n_m_o : Bool) (n_m_h : Bool) (n_m_l : Int) (n_s_a0 : Nat) (n_s_a : List UInt8) (n_s_b0 : Nat) (n_s_b : List UInt8) (n_c0 : Nat) (n_c : List Bool) (n_y0 : Nat) (n_y : List (List Int)) (n_k0 : Nat) (n_k : List Bool) (n_w0 : Nat) (n_w : List Int) (e0 : n_im0 = n_im.length) (e1 : n_m_g0 = n_m_g.length) (e2 : n_m_b0 = n_m_b.length) (e3 : n_s_a0 = n_s_a.length) (e4 : n_s_b0 = n_s_b.length) (e5 : n_c0 = n_c.length) (e6 : n_y0 = n_y.length) (e7 : n_k0 = n_k.length) (e8 : n_w0 = n_w.length) (q0 : OkNode (⟨n_i, n_u, n_p, n_im, (⟨n_m_g, n_m_b, n_m_f, n_m_o, n_m_h, n_m_l⟩ : MMeta), (⟨n_s_a, n_s_b⟩ : MSlots), n_c, n_y, n_k, n_w⟩ : MNode)) (t : Tel Rz) : cvP 89 [.agg [.int .i64 n_i, .bool n_u, .bool n_p, .sl (some true) 1 n_im0 (ints n_im), .sl (some true) 1 n_m_g0 (ints n_m_g), .sl (some true) 1 n_m_b0 (rows (some true) n_m_b), .bool n_m_f, .bool n_m_o, .bool n_m_h, .int .i64 n_m_l, .sl (some true) 1 n_s_a0 (bytes n_s_a), .sl (some true) 1 n_s_b0 (bytes n_s_b), .sl (some true) 1 n_c0 (bools n_c), .sl (some true) 1 n_y0 (rows (some true) n_y), .sl (some true) 1 n_k0 (bools n_k), .sl (some true) 1 n_w0 (ints n_w)]] t = feed t [.bool (linksF (⟨n_i, n_u, n_p, n_im, (⟨n_m_g, n_m_b, n_m_f, n_m_o, n_m_h, n_m_l⟩ : MMeta), (⟨n_s_a, n_s_b⟩ : MSlots), n_c, n_y, n_k, n_w⟩ : MNode))] := by
  subst e0
  subst e1
  subst e2
  subst e3
  subst e4
  subst e5
  subst e6
  subst e7
  subst e8
  exact cvP_ty (r := .bool (linksF (⟨n_i, n_u, n_p, n_im, (⟨n_m_g, n_m_b, n_m_f, n_m_o, n_m_h, n_m_l⟩ : MMeta), (⟨n_s_a, n_s_b⟩ : MSlots), n_c, n_y, n_k, n_w⟩ : MNode))) (s := .bool) (ss := [.undef]) (c_spec_l8Links (⟨n_i, n_u, n_p, n_im, (⟨n_m_g, n_m_b, n_m_f, n_m_o, n_m_h, n_m_l⟩ : MMeta), (⟨n_s_a, n_s_b⟩ : MSlots), n_c, n_y, n_k, n_w⟩ : MNode) q0) (by kernel_rfl) (by simp only [okS_enc, okS_int, okS_bool, okS_str, okS_tup, okSL_cons, okSL_nil, Bool.and_self]) (by simp only [okSL_cons, okS_undef, okS_enc, okSL_nil, Bool.and_self]) (by first | rfl | simp only [okR_enc, okR_tupC, okR_tup0, okE_enc, okE_int, okE_bool, okE_str, Bool.and_self]) (by first | rfl | simp only [List.all_cons, List.all_nil, okR_enc, Bool.and_self]) t
theorem c_spec_NodeOk (n : MNode) (q0 : OkNode n) : Cm 70 [.agg (eNode (some true) n)] (.bool (nodeOkF n), [.undef]) := by
  have ok := q0
  have s1 := ok.image
  have s2 := ok.conn
  have s3 := ok.copies
  have s4 := ok.wait
  have s5 := ok.sync.1
  have s6 := ok.mt
  have s7 := ok.sync
  have s8 := q0.slots
  have s9 := slotGet_ok n.slots
  refine Cm.step k_spec_NodeOk [.undef] fun J hJ => ?_
  rw [e_spec_NodeOk]
  simp (disch := first | assumption | omega) only [go_sem]
  refine g_ite (fun h1 => ?_) (fun h => nodeOk_no fun o => h o.id)
  simp (disch := first | assumption | omega) only [go_sem]
  refine g_c (fun h2 => ?_) (fun h => nodeOk_no fun o => h o.image)
  simp (disch := first | assumption | omega) only [go_sem]
  refine g_c (fun h3 => ?_) (fun h => nodeOk_no fun o => h o.mt)
  simp (disch := first | assumption | omega) only [go_sem]
  refine g_c (fun h4 => ?_) (fun h => nodeOk_no fun o => h (links_yes ⟨o.conn, o.sync, o.copies, fun k hk => ⟨o.marks k (by have := o.sync; omega), o.link k hk⟩⟩))
  have h4 := links_of h4
  have h5 := h4.sync
  refine g_pu (fun h7 h8 => ?_) (fun h => nodeOk_no fun o => h (fun hp => ⟨(o.prime hp).1, decide_eq_false (o.prime hp).2⟩) fun hu => decide_eq_false (o.down (by rw [hu]; simp)))
  have h7 : n.prime = true → n.up = true ∧ ¬n.id = 2 := fun hp => ⟨(h7 hp).1, of_decide_eq_false (h7 hp).2⟩
  have h8 : ¬n.up = true → ¬0 < (n.wait.length : Int) := fun hu => of_decide_eq_false (h8 (by simpa using hu))
  refine hJ _ _ ?_
  refine WP.up (H := fun i => h_spec_NodeOk_0 n i) n.wait.length (fun i => ∀ k, k < i → waitP n.wait k) (fun i hi inv J _ next => ?_) 0 (Nat.zero_le _) (fun k hk => absurd hk (by omega))
  rw [eh_spec_NodeOk_0]
  simp (disch := first | assumption | omega) only [go_sem]
  refine g_ite (fun hlt => ?_) (fun hge => ?_)
  · simp (disch := first | assumption | omega) only [go_sem]
    refine g_ite (fun ha => ?_) (fun h => nodeOk_no fun o => h (o.wait i (by omega)).1)
    simp (disch := first | assumption | omega) only [go_sem]
    have go : (0 < (i : Int) → ¬n.wait.getD i 0 ≤ n.wait.getD (i - 1) 0) → J 0 (h_spec_NodeOk_0 n ((i : Int) + 1)) = some (.bool (nodeOkF n), [.undef]) := fun hb => next (by omega) fun k hk => by
      by_cases e : k = i
      · subst e; exact ⟨ha, hb⟩
      · exact inv k (by omega)
    refine g_ite (fun hpos => ?_) (fun hz => ?_)
    · have e1 : ((i : Int) - 1).toNat = i - 1 := by omega
      simp (disch := first | assumption | omega) only [go_sem, e1]
      exact g_ite (fun h => nodeOk_no fun o => (o.wait i (by omega)).2 hpos h) (fun h => go fun _ => h)
    · exact go fun h => absurd h hz
  · have yes : (slotGetF n.slots).2.2 = true → sameF (slotGetF n.slots).1 n.mt = true → NodeOk n := fun a b => ⟨h1, h2, h3, h4.conn, h4.sync, fun k hk => (h4.link k (by omega)).1, h4.copies, h7, h8, a, b, fun k hk => (h4.link k hk).2, fun k hk => inv k (by omega)⟩
    simp (disch := first | assumption | omega) only [go_sem]
    refine g_c (fun h9 => ?_) (fun h => nodeOk_no fun o => h o.slot)
    simp (disch := first | assumption | omega) only [go_sem]
    cases h10 : sameF (slotGetF n.slots).1 n.mt with
    | true => exact nodeOk_si (yes h9 h10)
    | false => exact nodeOk_no fun o => by have := o.same; rw [h10] at this; simp at this
@[go_sem] theorem x_spec_NodeOk (n_i : Int) (n_u : Bool) (n_p : Bool) (n_im0 : Nat) (n_im : List Int) (n_m_g0 : Nat) (n_m_g : List Int) (n_m_b0 : Nat) (n_m_b : List (List Int)) (n_m_f : Bool) (n_m_o : Bool) (n_m_h : Bool) (n_m_l : Int) (n_s_a0 : Nat) (n_s_a : List UInt8) (n_s_b0 : Nat) (n_s_b : List UInt8) (n_c0 : Nat) (n_c : List Bool) (n_y0 : Nat) (n_y : List (List Int)) (n_k0 : Nat) (n_k : List Bool) (n_w0 : Nat) (n_w : List Int) (e0 : n_im0 = n_im.length) (e1 : n_m_g0 = n_m_g.length) (e2 : n_m_b0 = n_m_b.length) (e3 : n_s_a0 = n_s_a.length) (e4 : n_s_b0 = n_s_b.length) (e5 : n_c0 = n_c.length) (e6 : n_y0 = n_y.length) (e7 : n_k0 = n_k.length) (e8 : n_w0 = n_w.length) (q0 : OkNode (⟨n_i, n_u, n_p, n_im, (⟨n_m_g, n_m_b, n_m_f, n_m_o, n_m_h, n_m_l⟩ : MMeta), (⟨n_s_a, n_s_b⟩ : MSlots), n_c, n_y, n_k, n_w⟩ : MNode)) (t : Tel Rz) : cvP 70 [.agg [.int .i64 n_i, .bool n_u, .bool n_p, .sl (some true) 1 n_im0 (ints n_im), .sl (some true) 1 n_m_g0 (ints n_m_g), .sl (some true) 1 n_m_b0 (rows (some true) n_m_b), .bool n_m_f, .bool n_m_o, .bool n_m_h, .int .i64 n_m_l, .sl (some true) 1 n_s_a0 (bytes n_s_a), .sl (some true) 1 n_s_b0 (bytes n_s_b), .sl (some true) 1 n_c0 (bools n_c), .sl (some true) 1 n_y0 (rows (some true) n_y), .sl (some true) 1 n_k0 (bools n_k), .sl (some true) 1 n_w0 (ints n_w)]] t = feed t [.bool (nodeOkF (⟨n_i, n_u, n_p, n_im, (⟨n_m_g, n_m_b, n_m_f, n_m_o, n_m_h, n_m_l⟩ : MMeta), (⟨n_s_a, n_s_b⟩ : MSlots), n_c, n_y, n_k, n_w⟩ : MNode))] := by
  subst e0
  subst e1
  subst e2
  subst e3
  subst e4
  subst e5
  subst e6
  subst e7
  subst e8
  exact cvP_ty (r := .bool (nodeOkF (⟨n_i, n_u, n_p, n_im, (⟨n_m_g, n_m_b, n_m_f, n_m_o, n_m_h, n_m_l⟩ : MMeta), (⟨n_s_a, n_s_b⟩ : MSlots), n_c, n_y, n_k, n_w⟩ : MNode))) (s := .bool) (ss := [.undef]) (c_spec_NodeOk (⟨n_i, n_u, n_p, n_im, (⟨n_m_g, n_m_b, n_m_f, n_m_o, n_m_h, n_m_l⟩ : MMeta), (⟨n_s_a, n_s_b⟩ : MSlots), n_c, n_y, n_k, n_w⟩ : MNode) q0) (by kernel_rfl) (by simp only [okS_enc, okS_int, okS_bool, okS_str, okS_tup, okSL_cons, okSL_nil, Bool.and_self]) (by simp only [okSL_cons, okS_undef, okS_enc, okSL_nil, Bool.and_self]) (by first | rfl | simp only [okR_enc, okR_tupC, okR_tup0, okE_enc, okE_int, okE_bool, okE_str, Bool.and_self]) (by first | rfl | simp only [List.all_cons, List.all_nil, okR_enc, Bool.and_self]) t
theorem mate_of {n : MNode} (h : NodeOk n) (hp : n.prime = true) : 0 ≤ mateF n.id ∧ mateF n.id ≤ 1 := by
  have h1 := h.id
  have h2 := (h.prime hp).2
  unfold mateF
  split <;> omega
noncomputable def mayWriteF (n : MNode) : Bool := nodeOkF n && (n.prime && (n.conn.getD (mateF n.id).toNat false || n.mt.held))
theorem c_impl_MayWrite (n : MNode) (q0 : OkNode n) : Cm 34 [.agg (eNode (some true) n)] (.bool (mayWriteF n), [.undef]) := by
  refine Cm.step k_impl_MayWrite _ fun J hJ => ?_
  rw [e_impl_MayWrite]
  unfold mayWriteF
  simp (disch := first | assumption | omega) only [go_sem]
  refine g_c (fun h1 => ?_) (fun h => by rw [eq_false_of_ne_true h]; rfl)
  rw [h1]
  simp (disch := first | assumption | omega) only [go_sem]
  refine g_c (fun h2 => ?_) (fun h => by rw [eq_false_of_ne_true h]; rfl)
  have ok := nodeOk_of h1
  have m := mate_of ok h2
  have c := ok.conn
  rw [h2]
  simp (disch := first | assumption | omega) only [go_sem]
  refine g_c (fun h3 => ?_) (fun h3 => ?_)
  · rw [h3]; rfl
  · rw [eq_false_of_ne_true h3]; rfl
@[go_sem] theorem x_impl_MayWrite (n_i : Int) (n_u : Bool) (n_p : Bool) (n_im0 : Nat) (n_im : List Int) (n_m_g0 : Nat) (n_m_g : List Int) (n_m_b0 : Nat) (n_m_b : List (List Int)) (n_m_f : Bool) (n_m_o : Bool) (n_m_h : Bool) (n_m_l : Int) (n_s_a0 : Nat) (n_s_a : List UInt8) (n_s_b0 : Nat) (n_s_b : List UInt8) (n_c0 : Nat) (n_c : List Bool) (n_y0 : Nat) (n_y : List (List Int)) (n_k0 : Nat) (n_k : List Bool) (n_w0 : Nat) (n_w : List Int) (e0 : n_im0 = n_im.length) (e1 : n_m_g0 = n_m_g.length) (e2 : n_m_b0 = n_m_b.length) (e3 : n_s_a0 = n_s_a.length) (e4 : n_s_b0 = n_s_b.length) (e5 : n_c0 = n_c.length) (e6 : n_y0 = n_y.length) (e7 : n_k0 = n_k.length) (e8 : n_w0 = n_w.length) (q0 : OkNode (⟨n_i, n_u, n_p, n_im, (⟨n_m_g, n_m_b, n_m_f, n_m_o, n_m_h, n_m_l⟩ : MMeta), (⟨n_s_a, n_s_b⟩ : MSlots), n_c, n_y, n_k, n_w⟩ : MNode)) (t : Tel Rz) : cvP 34 [.agg [.int .i64 n_i, .bool n_u, .bool n_p, .sl (some true) 1 n_im0 (ints n_im), .sl (some true) 1 n_m_g0 (ints n_m_g), .sl (some true) 1 n_m_b0 (rows (some true) n_m_b), .bool n_m_f, .bool n_m_o, .bool n_m_h, .int .i64 n_m_l, .sl (some true) 1 n_s_a0 (bytes n_s_a), .sl (some true) 1 n_s_b0 (bytes n_s_b), .sl (some true) 1 n_c0 (bools n_c), .sl (some true) 1 n_y0 (rows (some true) n_y), .sl (some true) 1 n_k0 (bools n_k), .sl (some true) 1 n_w0 (ints n_w)]] t = feed t [.bool (mayWriteF (⟨n_i, n_u, n_p, n_im, (⟨n_m_g, n_m_b, n_m_f, n_m_o, n_m_h, n_m_l⟩ : MMeta), (⟨n_s_a, n_s_b⟩ : MSlots), n_c, n_y, n_k, n_w⟩ : MNode))] := by
  subst e0
  subst e1
  subst e2
  subst e3
  subst e4
  subst e5
  subst e6
  subst e7
  subst e8
  exact cvP_ty (r := .bool (mayWriteF (⟨n_i, n_u, n_p, n_im, (⟨n_m_g, n_m_b, n_m_f, n_m_o, n_m_h, n_m_l⟩ : MMeta), (⟨n_s_a, n_s_b⟩ : MSlots), n_c, n_y, n_k, n_w⟩ : MNode))) (s := .bool) (ss := [.undef]) (c_impl_MayWrite (⟨n_i, n_u, n_p, n_im, (⟨n_m_g, n_m_b, n_m_f, n_m_o, n_m_h, n_m_l⟩ : MMeta), (⟨n_s_a, n_s_b⟩ : MSlots), n_c, n_y, n_k, n_w⟩ : MNode) q0) (by kernel_rfl) (by simp only [okS_enc, okS_int, okS_bool, okS_str, okS_tup, okSL_cons, okSL_nil, Bool.and_self]) (by simp only [okSL_cons, okS_undef, okS_enc, okSL_nil, Bool.and_self]) (by first | rfl | simp only [okR_enc, okR_tupC, okR_tup0, okE_enc, okE_int, okE_bool, okE_str, Bool.and_self]) (by first | rfl | simp only [List.all_cons, List.all_nil, okR_enc, Bool.and_self]) t
theorem c_spec_MayWrite (n : MNode) (q0 : OkNode n) : Cm 33 [.agg (eNode (some true) n)] (.bool (mayWriteF n), [.undef]) := by
  refine Cm.step k_spec_MayWrite _ fun J hJ => ?_
  rw [e_spec_MayWrite]
  unfold mayWriteF
  simp (disch := first | assumption | omega) only [go_sem]
  refine g_c (fun h1 => ?_) (fun h => by rw [eq_false_of_ne_true h]; rfl)
  rw [h1]
  simp (disch := first | assumption | omega) only [go_sem]
  refine g_c (fun h2 => ?_) (fun h => by rw [eq_false_of_ne_true h]; rfl)
  have ok := nodeOk_of h1
  have m := mate_of ok h2
  have c := ok.conn
  rw [h2]
  simp (disch := first | assumption | omega) only [go_sem]
  refine g_c (fun h3 => ?_) (fun h3 => ?_)
  · rw [h3]; rfl
  · rw [eq_false_of_ne_true h3]; rfl
@[go_sem] theorem x_spec_MayWrite (n_i : Int) (n_u : Bool) (n_p : Bool) (n_im0 : Nat) (n_im : List Int) (n_m_g0 : Nat) (n_m_g : List Int) (n_m_b0 : Nat) (n_m_b : List (List Int)) (n_m_f : Bool) (n_m_o : Bool) (n_m_h : Bool) (n_m_l : Int) (n_s_a0 : Nat) (n_s_a : List UInt8) (n_s_b0 : Nat) (n_s_b : List UInt8) (n_c0 : Nat) (n_c : List Bool) (n_y0 : Nat) (n_y : List (List Int)) (n_k0 : Nat) (n_k : List Bool) (n_w0 : Nat) (n_w : List Int) (e0 : n_im0 = n_im.length) (e1 : n_m_g0 = n_m_g.length) (e2 : n_m_b0 = n_m_b.length) (e3 : n_s_a0 = n_s_a.length) (e4 : n_s_b0 = n_s_b.length) (e5 : n_c0 = n_c.length) (e6 : n_y0 = n_y.length) (e7 : n_k0 = n_k.length) (e8 : n_w0 = n_w.length) (q0 : OkNode (⟨n_i, n_u, n_p, n_im, (⟨n_m_g, n_m_b, n_m_f, n_m_o, n_m_h, n_m_l⟩ : MMeta), (⟨n_s_a, n_s_b⟩ : MSlots), n_c, n_y, n_k, n_w⟩ : MNode)) (t : Tel Rz) : cvP 33 [.agg [.int .i64 n_i, .bool n_u, .bool n_p, .sl (some true) 1 n_im0 (ints n_im), .sl (some true) 1 n_m_g0 (ints n_m_g), .sl (some true) 1 n_m_b0 (rows (some true) n_m_b), .bool n_m_f, .bool n_m_o, .bool n_m_h, .int .i64 n_m_l, .sl (some true) 1 n_s_a0 (bytes n_s_a), .sl (some true) 1 n_s_b0 (bytes n_s_b), .sl (some true) 1 n_c0 (bools n_c), .sl (some true) 1 n_y0 (rows (some true) n_y), .sl (some true) 1 n_k0 (bools n_k), .sl (some true) 1 n_w0 (ints n_w)]] t = feed t [.bool (mayWriteF (⟨n_i, n_u, n_p, n_im, (⟨n_m_g, n_m_b, n_m_f, n_m_o, n_m_h, n_m_l⟩ : MMeta), (⟨n_s_a, n_s_b⟩ : MSlots), n_c, n_y, n_k, n_w⟩ : MNode))] := by
  subst e0
  subst e1
  subst e2
  subst e3
  subst e4
  subst e5
  subst e6
  subst e7
  subst e8
  exact cvP_ty (r := .bool (mayWriteF (⟨n_i, n_u, n_p, n_im, (⟨n_m_g, n_m_b, n_m_f, n_m_o, n_m_h, n_m_l⟩ : MMeta), (⟨n_s_a, n_s_b⟩ : MSlots), n_c, n_y, n_k, n_w⟩ : MNode))) (s := .bool) (ss := [.undef]) (c_spec_MayWrite (⟨n_i, n_u, n_p, n_im, (⟨n_m_g, n_m_b, n_m_f, n_m_o, n_m_h, n_m_l⟩ : MMeta), (⟨n_s_a, n_s_b⟩ : MSlots), n_c, n_y, n_k, n_w⟩ : MNode) q0) (by kernel_rfl) (by simp only [okS_enc, okS_int, okS_bool, okS_str, okS_tup, okSL_cons, okSL_nil, Bool.and_self]) (by simp only [okSL_cons, okS_undef, okS_enc, okSL_nil, Bool.and_self]) (by first | rfl | simp only [okR_enc, okR_tupC, okR_tup0, okE_enc, okE_int, okE_bool, okE_str, Bool.and_self]) (by first | rfl | simp only [List.all_cons, List.all_nil, okR_enc, Bool.and_self]) t
end Go.Proofs.Ytkejckoefjonjaa
namespace Go.Proofs.Ytkejckoefjonjaa
set_option maxRecDepth 100000
section
variable (pr : Prims) (cv : Cv Rz) (J : Nat → St → Option Rz)
theorem k_laws_FnExactMayWrite : Told cfg Try.prog 8 Try.f8 := ⟨by kernel_rfl, Try.func8, by kernel_rfl⟩
theorem e_laws_FnExactMayWrite (g0 : Bool) (x0 : MNode) : RunJ pr cv J 8 Try.f8 [(.agg (eNode (some g0) x0))] =
    let y1 : Option (D × List D) := (some ((.bool true), [.undef]))
    let y2 : Option (D × List D) := (some ((.bool false), [.undef]))
    (cv 14 [(.agg (eNode (some g0) x0)), (.int .i64 1048576)] (.int (fun vx0 => (.done (br (pr.lt vx0 0) y1 (cv 16 [(.agg (eNode (some g0) x0))] (.ty TyK.node (fun (vm1 : MNode) => (.done (cv 33 [(.agg (exTL true (eNode none vm1)))] (.bool (fun vb2 => (.done (cv 16 [(.agg (eNode (some g0) x0))] (.ty TyK.node (fun (vm3 : MNode) => (.done (cv 34 [(.agg (exTL true (eNode none vm3)))] (.bool (fun vb4 => (.done (br (br (pr.beq vb4 vb2) false true) y2 (cv 16 [(.agg (eNode (some g0) x0))] (.ty TyK.node (fun (vm5 : MNode) => (.done (cv 18 [(.agg (exTL true (eNode none vm3))), (.agg (exTL true (eNode none vm5)))] (.bool (fun vb6 => (.done (br (br vb6 false true) y2 y1))))))))))))))))))))))))))))))) := by kernel_rfl
end
theorem c_FnExactMayWrite (n : MNode) (ln : LnNode n) (hi : InNode n) : Cm 8 [.agg (eNode (some false) n)] (.bool true, [.undef]) := by
  have _ := hi
  refine Cm.step k_laws_FnExactMayWrite _ fun J _ => ?_
  rw [e_laws_FnExactMayWrite]
  have a1 := szNodeF_ok (n := n) (l := 1048576) (by omega) (by omega)
  simp (disch := first | assumption | omega) only [go_sem, v_szNode]
  refine g_ite (fun _ => rfl) (fun hv => ?_)
  have ok : OkNode n := a1.2.2 (by omega)
  simp (disch := first | assumption | omega) only [go_sem, v_toNode, v_eqNode]
end Go.Proofs.Ytkejckoefjonjaa
namespace Go.Proofs.Ytkejckoefjonjaa.fnExactMayWrite
open Go.ChangeShapes Go.WideShapes Go.ChangeAt Go.RowKit
set_option maxRecDepth 100000
theorem own : ownKnob Try.prog.godebug = none := by kernel_rfl
theorem laidOut : laidOutB Try.prog = true := by kernel_rfl
theorem lifted (os : Os) (started : os.Started) (H : Type) (enc : TypeId × Value → H) :
    ReturnsInHanded {} Try.checked os 8 .any (Rows.fnExactMayWriteSpec.pre6 enc Try.prog Try.f8 Rows.fnExactMayWriteRow.domain false) (Rows.fnExactMayWriteSpec.post enc Try.prog Try.f8 false true false false) := by
  refine returnsInHanded_of_change_sized (C := Try.checked) own started (by kernel_rfl) Try.func8
    (ChangeSpec.witness6 (enc := enc) (C := Try.checked) false ⟨#[], #[.agg #[.int .i64 0, .bool false, .bool false, .slice none 0 0, .slice none 0 0, .slice none 0 0, .bool false, .bool false, .bool false, .int .i64 0, .slice none 0 0, .slice none 0 0, .slice none 0 0, .slice none 0 0, .slice none 0 0, .slice none 0 0]], []⟩ 8 (by kernel_rfl) (by kernel_rfl) (by kernel_rfl) (by kernel_rfl)) ?_
  intro W base args ds gs before hval0 hW hcnd hsz0 _
  have hsz : (DataW.weightsEach Try.prog (Try.f8.params.toList ++ Rows.fnExactMayWriteSpec.plain.varTypes Try.prog) (ds ++ gs)).all (· ≤ reachBytes) = true := hsz0
  have hval : ∀ (j : Nat) t v, Try.f8.params[j]? = some t → args[j]? = some v → Value.okWide Try.prog W .any base t v := hval0
  have hW' := hW
  obtain ⟨p, q, hA0, hV, rfl, hfz, hnd⟩ := hW
  have hA : DataW.TrodAll enc Try.prog W 0 (fun _ => true) true Try.f8.params.toList args.toList ds p := hA0
  rw [Try.params8] at hA hval hsz
  obtain ⟨v0, vs0, d0, ds0, p0, q0, hargs0, rfl, rfl, h0, r0⟩ := trodAll_cons hA
  obtain ⟨rfl, rfl, rfl⟩ := trodAll_nil r0
  obtain rfl : args = #[v0] := by cases args; simp_all
  obtain ⟨rfl, rfl⟩ := trodVars_none hV
  have k0 := h0
  have lt0 : ∀ x ∈ p0, x.block < W.heap.size := by obtain ⟨m, hm⟩ := k0; exact DataW.trod_lt m _ _ _ hm
  obtain ⟨us0, rfl, _⟩ := okWide_struct Try.underlying39 (hval 0 39 v0 rfl rfl)
  obtain ⟨fuel0, hf0⟩ := h0
  have hz0 : ∀ z ∈ d0.weights Try.prog 39, z ≤ reachBytes := fun z hz => by
    have := List.all_eq_true.1 hsz z (DataW.weights_mem_each (j := 0) (t := 39) (d := d0) rfl rfl z hz)
    simpa using this
  obtain ⟨cells0, hwt0, hext0⟩ := read_ok (X := Lk W [] (fun _ => True)) lk_all shNode hf0 (by kernel_rfl) hz0
  obtain ⟨n0, rfl, ln0, in0⟩ := wt_node hwt0
  clear hA0 hval0 hsz0 hsz
  refine (law_calls good (f := 8) (vs := #[.agg us0]) (by kernel_rfl) (c_FnExactMayWrite n0 ln0 in0) (by simp [okR, outCells, flatD, plainC, noLent]) (.cons (tva_agg hext0) .nil)).mono fun e W' ⟨he, bel⟩ => ?_
  subst he
  exact ⟨_, rfl, _, _, _, [], _, [], hW', trodAll_mk1 (shut_bool Try.underlying4 _), trodAll_mk1 (Below.trod laidOut (by kernel_rfl) (of_decide_eq_true (by kernel_rfl)) k0 bel lt0), rfl, bel.frame _, fun h => by cases h⟩
theorem over : Rows.fnExactMayWriteRow.holds Try.pinned (OpenSpec.ofChange Rows.fnExactMayWriteSpec) :=
  OpenClaim.holds_of_wide 8 Try.f8 rfl rfl rfl rfl rfl rfl rfl ⟨rfl, rfl, rfl, rfl, rfl⟩ rfl rfl rfl rfl rfl (by kernel_rfl) Try.func8 (by kernel_rfl)
    (of_decide_eq_true (by kernel_rfl)) (by unfold Func.isWrapper; first | (rw [if_pos (by decide +kernel)]; kernel_rfl) | (rw [if_neg (by decide +kernel)]; exact ⟨rfl, rfl⟩))
    (fun os started H enc _ => lifted os started H enc)
theorem proved : Rows.FnExactMayWriteSaid := over
#print axioms proved
end Go.Proofs.Ytkejckoefjonjaa.fnExactMayWrite
namespace Go.Proofs.Ytkejckoefjonjaa
theorem fnExactMayWrite_holds : Rows.FnExactMayWriteSaid := fnExactMayWrite.proved
end Go.Proofs.Ytkejckoefjonjaa
