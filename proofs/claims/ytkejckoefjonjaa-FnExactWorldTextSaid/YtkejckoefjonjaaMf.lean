/- FnExactWorldText: the program's WorldText returns what the reference's returns, for all arguments (a world). No condition. -/
import Derived.Test.YtkejckoefjonjaaRows
import Derived.WalkKit
import Derived.ProofKit
import Derived.OpenShut
import Derived.ShutString
import Derived.ChangeOld
import Derived.ChangeSame
import Derived.Below
import Derived.Carry
import Derived.SizedLaws
import Derived.Test.YtkejckoefjonjaaMe
set_option linter.unusedSimpArgs false
set_option linter.unusedVariables false
set_option linter.unnecessarySimpa false
set_option linter.unusedSectionVars false
namespace Go.Proofs.Ytkejckoefjonjaa
set_option maxRecDepth 100000

section
variable (t : Tel Rz)
theorem v_toNodeS (g : Bool) (xs : List MNode) (hb : xs.length ≤ 1048576) (ok : ∀ x ∈ xs, OkNode x) : cvP 56 [sN (some g) xs] t = feed t [sN none xs] := cvP_eq (c_toNodeS g xs hb ok) (by kernel_rfl) t
theorem v_eqNodeS (g h : Bool) (xs : List MNode) (hb : xs.length ≤ 1048576) (ok : ∀ x ∈ xs, OkNode x) : cvP 60 [sN (some g) xs, sN (some h) xs] t = feed t [.bool true] := cvP_eq (c_eqNodeS g h xs hb ok) (by kernel_rfl) t
theorem v_szNodeS (g : Bool) (xs : List MNode) (left : Int) (h0 : 0 ≤ left) (h1 : left ≤ 1048576) (hn : xs.length ≤ 140737488355328) (hx : ∀ x ∈ xs, LnNode x) : cvP 53 [sN (some g) xs, .int .i64 left] t = feed t [.int .i64 (szNodeSF xs left)] := cvP_eq (c_szNodeS g xs left h0 h1 hn hx) (by kernel_rfl) t
theorem v_toWireS (g : Bool) (xs : List MWire) (hb : xs.length ≤ 1048576) (ok : ∀ x ∈ xs, OkWire x) : cvP 57 [sW (some g) xs] t = feed t [sW none xs] := cvP_eq (c_toWireS g xs hb ok) (by kernel_rfl) t
theorem v_eqWireS (g h : Bool) (xs : List MWire) (hb : xs.length ≤ 1048576) (ok : ∀ x ∈ xs, OkWire x) : cvP 61 [sW (some g) xs, sW (some h) xs] t = feed t [.bool true] := cvP_eq (c_eqWireS g h xs hb ok) (by kernel_rfl) t
theorem v_szWireS (g : Bool) (xs : List MWire) (left : Int) (h0 : 0 ≤ left) (h1 : left ≤ 1048576) (hn : xs.length ≤ 140737488355328) (hx : ∀ x ∈ xs, LnWire x) : cvP 54 [sW (some g) xs, .int .i64 left] t = feed t [.int .i64 (szWireSF xs left)] := cvP_eq (c_szWireS g xs left h0 h1 hn hx) (by kernel_rfl) t
theorem v_toRecS (g : Bool) (xs : List MRec) (hb : xs.length ≤ 1048576) : cvP 58 [sK (some g) xs] t = feed t [sK none xs] := cvP_eq (c_toRecS g xs hb) (by kernel_rfl) t
theorem v_eqRecS (g h : Bool) (xs : List MRec) (hb : xs.length ≤ 1048576) : cvP 62 [sK (some g) xs, sK (some h) xs] t = feed t [.bool true] := cvP_eq (c_eqRecS g h xs hb) (by kernel_rfl) t
theorem v_szRecS (g : Bool) (n : Nat) (c : List D) (left : Int) (h0 : 0 ≤ left) (h1 : left ≤ 1048576) (hn : n ≤ 140737488355328) : cvP 55 [.sl (some g) 2 n c, .int .i64 left] t = feed t [.int .i64 (szF n left)] := cvP_eq (c_szRecS g n c left h0 h1 hn) (by kernel_rfl) t
end
theorem c_toWorld (g : Bool) (w : MWorld) (h : OkWorld w) : Cm 21 [.agg (eWorld (some g) w)] (.agg (eWorld none w), [.undef]) := by
  have h1 := h.nodes; have h2 := h.net; have h3 := h.log; have h4 := h.safe
  refine Cm.fin k_laws_toWorld fun J => ?_
  rw [e_laws_toWorld]
  simp (disch := first | omega | exact h.node | exact h.wire) only [v_toNodeS, v_toWireS, v_toRecS, v_toIntS, feed_sl, feed_done, s_nlI, s_nlN, s_nlW, s_nlK, br_t]
theorem c_eqWorld (g h : Bool) (w : MWorld) (ok : OkWorld w) : Cm 24 [.agg (eWorld (some g) w), .agg (eWorld (some h) w)] (.bool true, [.undef, .undef]) := by
  have h1 := ok.nodes; have h2 := ok.net; have h3 := ok.log; have h4 := ok.safe
  refine Cm.fin k_laws_eqWorld fun J => ?_
  rw [e_laws_eqWorld]
  simp (disch := first | omega | exact ok.node | exact ok.wire) only [v_eqNodeS, v_eqWireS, v_eqRecS, v_eqIntS, feed_bool, feed_done, decide_true, br_t, br_f, br_eq]
structure LnWorld (w : MWorld) : Prop where
  nodes : w.nodes.length ≤ 140737488355328
  node : ∀ n ∈ w.nodes, LnNode n
  net : w.net.length ≤ 140737488355328
  wire : ∀ x ∈ w.net, LnWire x
  log : w.log.length ≤ 140737488355328
  safe : w.safe.length ≤ 140737488355328
def szWorldF (w : MWorld) (l : Int) : Int := szB (szNodeSF w.nodes l) fun l => szB (szWireSF w.net l) fun l => szB (szF w.log.length l) fun l => szB (szF w.safe.length l) fun l => l
theorem szB_any {v l : Int} {k : Int → Int} (hv : v ≤ l ∧ -1 ≤ v) (hl : 0 ≤ l) (hk : 0 ≤ v → k v ≤ v ∧ -1 ≤ k v) : szB v k ≤ l ∧ -1 ≤ szB v k := by
  unfold szB
  split
  · omega
  · have := hk (by omega); omega
theorem szF_any {n : Nat} {l : Int} (h : 0 ≤ l) : szF n l ≤ l ∧ -1 ≤ szF n l := ⟨(szF_le h).1, (szF_le h).2.1⟩
theorem szL_any {α : Type} {f : α → Int → Int} (hf : ∀ x l, 0 ≤ l → f x l ≤ l ∧ -1 ≤ f x l) : ∀ (xs : List α) (l : Int), 0 ≤ l → szL f xs l ≤ l ∧ -1 ≤ szL f xs l
  | [], l, h => ⟨Int.le_refl _, by show -1 ≤ l; omega⟩
  | x :: xs, l, h => szB_any (hf x l h) h fun h1 => szL_any hf xs _ h1
theorem szR_any {xss : List (List Int)} {l : Int} (h : 0 ≤ l) : szR xss l ≤ l ∧ -1 ≤ szR xss l := szB_any (szF_any h) h fun h1 => szL_any (fun _ _ hl => szF_any hl) _ _ h1
theorem szNodeF_any {n : MNode} {l : Int} (h : 0 ≤ l) : szNodeF n l ≤ l ∧ -1 ≤ szNodeF n l := by
  refine szB_any (szF_any h) h fun h => szB_any ?_ h fun h => szB_any ?_ h fun h => szB_any (szF_any h) h fun h => szB_any (szR_any h) h fun h => szB_any (szF_any h) h fun h => szB_any (szF_any h) h fun h => ?_
  · exact szB_any (szF_any h) h fun h => szB_any (szR_any h) h fun h => by omega
  · exact szB_any (szF_any h) h fun h => szB_any (szF_any h) h fun h => by omega
  · omega
theorem szNodeSF_le {xs : List MNode} {l : Int} (h : 0 ≤ l) (hm : l ≤ 1048576) : szNodeSF xs l ≤ l ∧ -1 ≤ szNodeSF xs l ∧ (0 ≤ szNodeSF xs l → xs.length ≤ 1048576 ∧ ∀ x ∈ xs, OkNode x) := by
  refine szB_pair h (szF_ok h hm) fun h1 => ?_
  have h2 := szF_le (n := xs.length) h
  exact szL_le (f := szNodeF) (Q := OkNode) (fun x l hl => by
    by_cases hm : l ≤ 1048576
    · obtain ⟨a, b, c⟩ := szNodeF_le (x := x) hl hm
      exact ⟨a, b, fun hh _ => c hh⟩
    · refine ⟨?_, ?_, fun _ hm' => absurd hm' hm⟩
      · exact (szNodeF_any hl).1
      · exact (szNodeF_any hl).2) xs _ h1 (by omega)
theorem szWireSF_le {xs : List MWire} {l : Int} (h : 0 ≤ l) (hm : l ≤ 1048576) : szWireSF xs l ≤ l ∧ -1 ≤ szWireSF xs l ∧ (0 ≤ szWireSF xs l → xs.length ≤ 1048576 ∧ ∀ x ∈ xs, OkWire x) := by
  refine szB_pair h (szF_ok h hm) fun h1 => ?_
  have h2 := szF_le (n := xs.length) h
  exact szL_le (f := szWireF) (Q := OkWire) (fun x l hl => by
    by_cases hm : l ≤ 1048576
    · obtain ⟨a, b, c⟩ := szWireF_le (x := x) hl hm
      exact ⟨a, b, fun hh _ => c hh⟩
    · have h3 : szWireF x l ≤ l ∧ -1 ≤ szWireF x l := szB_any (k := fun l => l) (szF_any hl) hl fun h => by show (_ : Int) ≤ _ ∧ _; omega
      exact ⟨h3.1, h3.2, fun _ hm' => absurd hm' hm⟩) xs _ h1 (by omega)
theorem szWorldF_ok {w : MWorld} {l : Int} (h : 0 ≤ l) (hm : l ≤ 1048576) : szWorldF w l ≤ l ∧ -1 ≤ szWorldF w l ∧ (0 ≤ szWorldF w l → OkWorld w) := by
  have key : szWorldF w l ≤ l ∧ -1 ≤ szWorldF w l ∧ (0 ≤ szWorldF w l → (w.nodes.length ≤ 1048576 ∧ ∀ x ∈ w.nodes, OkNode x) ∧ (w.net.length ≤ 1048576 ∧ ∀ x ∈ w.net, OkWire x) ∧ w.log.length ≤ 1048576 ∧ w.safe.length ≤ 1048576 ∧ True) := by
    unfold szWorldF
    have a1 := szNodeSF_le (xs := w.nodes) h hm
    refine szB_pair h a1 fun h1 => ?_
    have a2 := szWireSF_le (xs := w.net) h1 (by omega)
    refine szB_pair h1 a2 fun h2 => ?_
    have a3 := szF_ok (n := w.log.length) h2 (by omega)
    refine szB_pair h2 a3 fun h3 => ?_
    exact szB_pair h3 (szF_ok h3 (by omega)) fun h4 => sz_end h4
  refine ⟨key.1, key.2.1, fun hh => ?_⟩
  obtain ⟨⟨b1, b2⟩, ⟨b3, b4⟩, b5, b6, _⟩ := key.2.2 hh
  exact ⟨b1, b2, b3, b4, b5, b6⟩
theorem c_szWorld (g : Bool) (w : MWorld) (left : Int) (h0 : 0 ≤ left) (h1 : left ≤ 1048576) (ln : LnWorld w) : Cm 19 [.agg (eWorld (some g) w), .int .i64 left] (.int .i64 (szWorldF w left), [.undef, .undef]) := by
  refine Cm.fin k_laws_szWorld fun J => ?_
  rw [e_laws_szWorld]
  have l1 := ln.nodes; have l2 := ln.net; have l3 := ln.log; have l4 := ln.safe
  have a1 := szNodeSF_le (xs := w.nodes) h0 h1
  simp (disch := first | omega | exact ln.node) only [v_szNodeS, feed_int, feed_done]
  refine br_szB (f := fun v => cvP 54 _ _) fun p1 => ?_
  have a2 := szWireSF_le (xs := w.net) p1 (by omega)
  simp (disch := first | omega | exact ln.wire) only [v_szWireS, feed_int, feed_done]
  refine br_szB (f := fun v => cvP 55 _ _) fun p2 => ?_
  have a3 := szF_le (n := w.log.length) p2
  simp (disch := omega) only [v_szRecS, feed_int, feed_done]
  refine br_szB (f := fun v => cvP 35 _ _) fun p3 => ?_
  simp (disch := omega) only [v_szIntS, feed_int, feed_done]
  exact br_szB (f := fun v => some (.int .i64 v, [.undef, .undef])) fun _ => rfl
section
variable (t : Tel Rz)
theorem v_toWorld (g : Bool) (w : MWorld) (h : OkWorld w) : cvP 21 [.agg (eWorld (some g) w)] t = feed t (eWorld none w) := cvP_eq (c_toWorld g w h) (by kernel_rfl) t
theorem v_eqWorld (g h : Bool) (w : MWorld) (ok : OkWorld w) : cvP 24 [.agg (eWorld (some g) w), .agg (eWorld (some h) w)] t = feed t [.bool true] := cvP_eq (c_eqWorld g h w ok) (by kernel_rfl) t
theorem v_szWorld (g : Bool) (w : MWorld) (left : Int) (h0 : 0 ≤ left) (h1 : left ≤ 1048576) (ln : LnWorld w) : cvP 19 [.agg (eWorld (some g) w), .int .i64 left] t = feed t [.int .i64 (szWorldF w left)] := cvP_eq (c_szWorld g w left h0 h1 ln) (by kernel_rfl) t
end

/-! ### what comes in -/
abbrev shWire : Sh := .ag [.int .i64, .int .i64, sh8]
abbrev shRec : Sh := .ag [.int .i64, .int .i64]
abbrev shWorld : Sh := .ag [.sl 248 shNode, .sl 40 shWire, .sl 16 shRec, shI, .int .i64]
structure InWorld (w : MWorld) : Prop where
  node : ∀ n ∈ w.nodes, InNode n
  src : ∀ x ∈ w.net, in64 x.src = true ∧ in64 x.dst = true
  logs : ∀ x ∈ w.log, in64 x.cell = true ∧ in64 x.up = true
  safe : In64 w.safe
  gen : in64 w.gen = true
theorem wt_rows {α : Type} {sh : Sh} {e : α → List D} {Q : α → Prop} (he : ∀ ds, WT sh ds → ∃ x, ds = e x ∧ Q x) : ∀ es : List (List D), (∀ x ∈ es, WT sh x) → ∃ xs, es.flatten = celz e xs ∧ xs.length = es.length ∧ ∀ x ∈ xs, Q x
  | [], _ => ⟨[], rfl, rfl, by simp⟩
  | d :: es, h => by
    obtain ⟨x, rfl, hx⟩ := he d (h d (by simp))
    obtain ⟨xs, h1, h2, h3⟩ := wt_rows he es (fun y hy => h y (by simp [hy]))
    refine ⟨x :: xs, by rw [List.flatten_cons, h1]; simp [celz], by simp [h2], fun y hy => ?_⟩
    rcases List.mem_cons.1 hy with rfl | hy
    · exact hx
    · exact h3 y hy
theorem wt_wire {ds : List D} (h : WT shWire ds) : ∃ x : MWire, ds = eWire (some false) x ∧ LnWire x ∧ in64 x.src = true ∧ in64 x.dst = true := by
  obtain ⟨_, _, rfl, ⟨a, rfl, ha⟩, _, _, rfl, ⟨b, rfl, hb⟩, _, _, rfl, hs, rfl⟩ := h
  obtain ⟨xs, rfl, hl⟩ := wt_8 hs
  exact ⟨⟨a, b, xs⟩, rfl, by unfold LnWire; simp only; omega, wf_in64 ha, wf_in64 hb⟩
theorem wt_rec {ds : List D} (h : WT shRec ds) : ∃ x : MRec, ds = eRec (some false) x ∧ in64 x.cell = true ∧ in64 x.up = true := by
  obtain ⟨_, _, rfl, ⟨a, rfl, ha⟩, _, _, rfl, ⟨b, rfl, hb⟩, rfl⟩ := h
  exact ⟨⟨a, b⟩, rfl, wf_in64 ha, wf_in64 hb⟩
theorem wt_world {ds : List D} (h : WT shWorld ds) : ∃ w : MWorld, ds = eWorld (some false) w ∧ LnWorld w ∧ InWorld w := by
  obtain ⟨_, _, rfl, ⟨es1, rfl, he1, hx1⟩, _, _, rfl, ⟨es2, rfl, he2, hx2⟩, _, _, rfl, ⟨es3, rfl, he3, hx3⟩, _, _, rfl, hs, _, _, rfl, ⟨gen, rfl, hg⟩, rfl⟩ := h
  obtain ⟨ns, a1, a2, a3⟩ := wt_rows (fun ds hd => wt_node hd) es1 hx1
  obtain ⟨ws, b1, b2, b3⟩ := wt_rows (fun ds hd => wt_wire hd) es2 hx2
  obtain ⟨rs, c1, c2, c3⟩ := wt_rows (fun ds hd => wt_rec hd) es3 hx3
  obtain ⟨safe, rfl, d1, d2⟩ := wt_I hs
  have : reachBytes = 140737488351232 := rfl
  refine ⟨⟨ns, ws, rs, safe, gen⟩, ?_, ⟨?_, fun n hn => (a3 n hn).1, ?_, fun n hn => (b3 n hn).1, ?_, ?_⟩, ⟨fun n hn => (a3 n hn).2, fun n hn => (b3 n hn).2, c3, d2, wf_in64 hg⟩⟩
  · rw [a1, b1, c1, ← a2, ← b2, ← c2]
    rfl
  all_goals simp only; omega
theorem exT_node (n : MNode) (b : Bool) : exTL b (eNode none n) = eNode (some b) n := by
  simp only [exTL, exT, exTL_ints, exTL_rows, exTL_bytes, exTL_bools]
theorem exTL_app (b : Bool) : ∀ x y : List D, exTL b (x ++ y) = exTL b x ++ exTL b y
  | [], _ => rfl
  | d :: x, y => by rw [List.cons_append, exTL, exTL, exTL_app b x y]; rfl
theorem exTL_celz {α : Type} {e e' : α → List D} {b : Bool} (h : ∀ x, exTL b (e x) = e' x) : ∀ xs : List α, exTL b (celz e xs) = celz e' xs
  | [] => rfl
  | x :: xs => by
    have h1 : ∀ f : α → List D, celz f (x :: xs) = f x ++ celz f xs := fun f => by simp [celz]
    rw [h1, h1, exTL_app, h, exTL_celz h xs]
theorem exTL_N (b : Bool) (xs : List MNode) : exTL b (celz (eNode none) xs) = celz (eNode (some b)) xs := exTL_celz (fun n => exT_node n b) xs
theorem exTL_W (b : Bool) (xs : List MWire) : exTL b (celz (eWire none) xs) = celz (eWire (some b)) xs := exTL_celz (fun n => by simp only [exTL, exT, exTL_bytes]) xs
theorem exTL_K (b : Bool) (xs : List MRec) : exTL b (celz (eRec none) xs) = celz (eRec (some b)) xs := exTL_celz (fun n => by simp only [exTL, exT]) xs
end Go.Proofs.Ytkejckoefjonjaa

namespace Go.Proofs.Ytkejckoefjonjaa
set_option maxRecDepth 100000
section
variable (pr : Prims) (cv : Cv Rz) (J : Nat → St → Option Rz)
def h_impl_WorldText_0 (s0 : ByteArray) (g1 : Bool) (n2 : Nat) (c3 : List D) (i4 : Int) (i5 : Int) (g6 : Bool) (n7 : Nat) (c8 : List D) (g9 : Bool) (n10 : Nat) (c11 : List D) (g12 : Bool) (n13 : Nat) (c14 : List D) (i15 : Int) : St := (St.mk [(1, (.ptr 1 [] 0)), (3, (.str s0)), (7, (.sl (some g1) 16 n2 c3)), (8, (.int .i64 i4)), (9, (.int .i64 i5))] [(1, [(.sl (some g1) 16 n2 c3), (.sl (some g6) 3 n7 c8), (.sl (some g9) 2 n10 c11), (.sl (some g12) 1 n13 c14), (.int .i64 i15)])] [] 0)
theorem k_impl_WorldText : Told cfg Try.prog 32 Try.f32 := ⟨by kernel_rfl, Try.func32, by kernel_rfl⟩
theorem e_impl_WorldText (g0 : Bool) (n0 : Nat) (c0 : List D) (g1 : Bool) (n1 : Nat) (c1 : List D) (g2 : Bool) (n2 : Nat) (c2 : List D) (g3 : Bool) (n3 : Nat) (c3 : List D) (a4 : Int) : RunJ pr cv J 32 Try.f32 [(.agg [(.sl (some g0) 16 n0 c0), (.sl (some g1) 3 n1 c1), (.sl (some g2) 2 n2 c2), (.sl (some g3) 1 n3 c3), (.int .i64 a4)])] =
    (J 0 (h_impl_WorldText_0 (bs []) g0 n0 c0 (pr.ofN n0) 0 g1 n1 c1 g2 n2 c2 g3 n3 c3 a4)) := by kernel_rfl
theorem eh_impl_WorldText_0 (s0 : ByteArray) (g1 : Bool) (n2 : Nat) (c3 : List D) (i4 : Int) (i5 : Int) (g6 : Bool) (n7 : Nat) (c8 : List D) (g9 : Bool) (n10 : Nat) (c11 : List D) (g12 : Bool) (n13 : Nat) (c14 : List D) (i15 : Int) : HeadJ pr cv J 32 Try.f32 [.undef] 0 (h_impl_WorldText_0 s0 g1 n2 c3 i4 i5 g6 n7 c8 g9 n10 c11 g12 n13 c14 i15) =
    let y1 : ByteArray := (bs [10])
    (br (pr.lt i5 i4) (br (pr.inR i5 n2) (br (br (pr.isI .i64 c3 (pr.idx 0 i5 16)) (br (pr.isB c3 ((pr.idx 0 i5 16) + 1)) (br (pr.isB c3 ((pr.idx 0 i5 16) + 2)) (br (pr.isL 1 c3 ((pr.idx 0 i5 16) + 3)) (br (pr.isL 1 c3 ((pr.idx 0 i5 16) + 4)) (br (pr.isL 1 c3 ((pr.idx 0 i5 16) + 5)) (br (pr.isB c3 ((pr.idx 0 i5 16) + 6)) (br (pr.isB c3 ((pr.idx 0 i5 16) + 7)) (br (pr.isB c3 ((pr.idx 0 i5 16) + 8)) (br (pr.isI .i64 c3 ((pr.idx 0 i5 16) + 9)) (br (pr.isL 1 c3 ((pr.idx 0 i5 16) + 10)) (br (pr.isL 1 c3 ((pr.idx 0 i5 16) + 11)) (br (pr.isL 1 c3 ((pr.idx 0 i5 16) + 12)) (br (pr.isL 1 c3 ((pr.idx 0 i5 16) + 13)) (br (pr.isL 1 c3 ((pr.idx 0 i5 16) + 14)) (br (pr.isL 1 c3 ((pr.idx 0 i5 16) + 15)) true false) false) false) false) false) false) false) false) false) false) false) false) false) false) false) false) (cv 17 [(.agg [(.int .i64 (pr.getI c3 (pr.idx 0 i5 16))), (.bool (pr.getB c3 ((pr.idx 0 i5 16) + 1))), (.bool (pr.getB c3 ((pr.idx 0 i5 16) + 2))), (.sl (some (pr.getG c3 ((pr.idx 0 i5 16) + 3))) 1 (pr.getN c3 ((pr.idx 0 i5 16) + 3)) (pr.getC c3 ((pr.idx 0 i5 16) + 3))), (.sl (some (pr.getG c3 ((pr.idx 0 i5 16) + 4))) 1 (pr.getN c3 ((pr.idx 0 i5 16) + 4)) (pr.getC c3 ((pr.idx 0 i5 16) + 4))), (.sl (some (pr.getG c3 ((pr.idx 0 i5 16) + 5))) 1 (pr.getN c3 ((pr.idx 0 i5 16) + 5)) (pr.getC c3 ((pr.idx 0 i5 16) + 5))), (.bool (pr.getB c3 ((pr.idx 0 i5 16) + 6))), (.bool (pr.getB c3 ((pr.idx 0 i5 16) + 7))), (.bool (pr.getB c3 ((pr.idx 0 i5 16) + 8))), (.int .i64 (pr.getI c3 ((pr.idx 0 i5 16) + 9))), (.sl (some (pr.getG c3 ((pr.idx 0 i5 16) + 10))) 1 (pr.getN c3 ((pr.idx 0 i5 16) + 10)) (pr.getC c3 ((pr.idx 0 i5 16) + 10))), (.sl (some (pr.getG c3 ((pr.idx 0 i5 16) + 11))) 1 (pr.getN c3 ((pr.idx 0 i5 16) + 11)) (pr.getC c3 ((pr.idx 0 i5 16) + 11))), (.sl (some (pr.getG c3 ((pr.idx 0 i5 16) + 12))) 1 (pr.getN c3 ((pr.idx 0 i5 16) + 12)) (pr.getC c3 ((pr.idx 0 i5 16) + 12))), (.sl (some (pr.getG c3 ((pr.idx 0 i5 16) + 13))) 1 (pr.getN c3 ((pr.idx 0 i5 16) + 13)) (pr.getC c3 ((pr.idx 0 i5 16) + 13))), (.sl (some (pr.getG c3 ((pr.idx 0 i5 16) + 14))) 1 (pr.getN c3 ((pr.idx 0 i5 16) + 14)) (pr.getC c3 ((pr.idx 0 i5 16) + 14))), (.sl (some (pr.getG c3 ((pr.idx 0 i5 16) + 15))) 1 (pr.getN c3 ((pr.idx 0 i5 16) + 15)) (pr.getC c3 ((pr.idx 0 i5 16) + 15)))])] (.str (fun vs0 => (.done (br (pr.sfit vs0 y1) (br (pr.sfit s0 (pr.sapp vs0 y1)) (J 0 (h_impl_WorldText_0 (pr.sapp s0 (pr.sapp vs0 y1)) g1 n2 c3 i4 (pr.ar .add .i64 i5 1) g6 n7 c8 g9 n10 c11 g12 n13 c14 i15)) none) none))))) none) none) (cv 40 [(.int .i64 (pr.ofN n7))] (.str (fun vs1 => (.done (cv 40 [(.int .i64 (pr.ofN n10))] (.str (fun vs2 => (.done (cv 40 [(.int .i64 (pr.ofN n13))] (.str (fun vs3 => (.done (cv 39 [(.sl (some true) 1 6 [(.str (bs [110, 101, 116])), (.str vs1), (.str (bs [108, 111, 103])), (.str vs2), (.str (bs [115, 97, 102, 101])), (.str vs3)])] (.str (fun vs4 => (.done (br (pr.sfit s0 vs4) (br (pr.sfit (pr.sapp s0 vs4) y1) (some ((.str (pr.sapp (pr.sapp s0 vs4) y1)), [.undef])) none) none)))))))))))))))))) := by kernel_rfl
def h_spec_WorldText_0 (s0 : ByteArray) (i1 : Int) (g2 : Bool) (n3 : Nat) (c4 : List D) (g5 : Bool) (n6 : Nat) (c7 : List D) (g8 : Bool) (n9 : Nat) (c10 : List D) (g11 : Bool) (n12 : Nat) (c13 : List D) (i14 : Int) : St := (St.mk [(1, (.ptr 1 [] 0)), (3, (.str s0)), (4, (.int .i64 i1))] [(1, [(.sl (some g2) 16 n3 c4), (.sl (some g5) 3 n6 c7), (.sl (some g8) 2 n9 c10), (.sl (some g11) 1 n12 c13), (.int .i64 i14)])] [] 0)
theorem k_spec_WorldText : Told cfg Try.prog 31 Try.f31 := ⟨by kernel_rfl, Try.func31, by kernel_rfl⟩
theorem e_spec_WorldText (g0 : Bool) (n0 : Nat) (c0 : List D) (g1 : Bool) (n1 : Nat) (c1 : List D) (g2 : Bool) (n2 : Nat) (c2 : List D) (g3 : Bool) (n3 : Nat) (c3 : List D) (a4 : Int) : RunJ pr cv J 31 Try.f31 [(.agg [(.sl (some g0) 16 n0 c0), (.sl (some g1) 3 n1 c1), (.sl (some g2) 2 n2 c2), (.sl (some g3) 1 n3 c3), (.int .i64 a4)])] =
    (J 0 (h_spec_WorldText_0 (bs []) 0 g0 n0 c0 g1 n1 c1 g2 n2 c2 g3 n3 c3 a4)) := by kernel_rfl
theorem eh_spec_WorldText_0 (s0 : ByteArray) (i1 : Int) (g2 : Bool) (n3 : Nat) (c4 : List D) (g5 : Bool) (n6 : Nat) (c7 : List D) (g8 : Bool) (n9 : Nat) (c10 : List D) (g11 : Bool) (n12 : Nat) (c13 : List D) (i14 : Int) : HeadJ pr cv J 31 Try.f31 [.undef] 0 (h_spec_WorldText_0 s0 i1 g2 n3 c4 g5 n6 c7 g8 n9 c10 g11 n12 c13 i14) =
    let y1 : ByteArray := (bs [10])
    let y2 : ByteArray := (bs [110, 101, 116, 32])
    let y3 : ByteArray := (pr.sapp s0 y2)
    let y4 : ByteArray := (bs [32, 108, 111, 103, 32])
    let y5 : ByteArray := (bs [32, 115, 97, 102, 101, 32])
    (br (pr.lt i1 (pr.ofN n3)) (br (pr.inR i1 n3) (br (br (pr.isI .i64 c4 (pr.idx 0 i1 16)) (br (pr.isB c4 ((pr.idx 0 i1 16) + 1)) (br (pr.isB c4 ((pr.idx 0 i1 16) + 2)) (br (pr.isL 1 c4 ((pr.idx 0 i1 16) + 3)) (br (pr.isL 1 c4 ((pr.idx 0 i1 16) + 4)) (br (pr.isL 1 c4 ((pr.idx 0 i1 16) + 5)) (br (pr.isB c4 ((pr.idx 0 i1 16) + 6)) (br (pr.isB c4 ((pr.idx 0 i1 16) + 7)) (br (pr.isB c4 ((pr.idx 0 i1 16) + 8)) (br (pr.isI .i64 c4 ((pr.idx 0 i1 16) + 9)) (br (pr.isL 1 c4 ((pr.idx 0 i1 16) + 10)) (br (pr.isL 1 c4 ((pr.idx 0 i1 16) + 11)) (br (pr.isL 1 c4 ((pr.idx 0 i1 16) + 12)) (br (pr.isL 1 c4 ((pr.idx 0 i1 16) + 13)) (br (pr.isL 1 c4 ((pr.idx 0 i1 16) + 14)) (br (pr.isL 1 c4 ((pr.idx 0 i1 16) + 15)) true false) false) false) false) false) false) false) false) false) false) false) false) false) false) false) false) (cv 15 [(.agg [(.int .i64 (pr.getI c4 (pr.idx 0 i1 16))), (.bool (pr.getB c4 ((pr.idx 0 i1 16) + 1))), (.bool (pr.getB c4 ((pr.idx 0 i1 16) + 2))), (.sl (some (pr.getG c4 ((pr.idx 0 i1 16) + 3))) 1 (pr.getN c4 ((pr.idx 0 i1 16) + 3)) (pr.getC c4 ((pr.idx 0 i1 16) + 3))), (.sl (some (pr.getG c4 ((pr.idx 0 i1 16) + 4))) 1 (pr.getN c4 ((pr.idx 0 i1 16) + 4)) (pr.getC c4 ((pr.idx 0 i1 16) + 4))), (.sl (some (pr.getG c4 ((pr.idx 0 i1 16) + 5))) 1 (pr.getN c4 ((pr.idx 0 i1 16) + 5)) (pr.getC c4 ((pr.idx 0 i1 16) + 5))), (.bool (pr.getB c4 ((pr.idx 0 i1 16) + 6))), (.bool (pr.getB c4 ((pr.idx 0 i1 16) + 7))), (.bool (pr.getB c4 ((pr.idx 0 i1 16) + 8))), (.int .i64 (pr.getI c4 ((pr.idx 0 i1 16) + 9))), (.sl (some (pr.getG c4 ((pr.idx 0 i1 16) + 10))) 1 (pr.getN c4 ((pr.idx 0 i1 16) + 10)) (pr.getC c4 ((pr.idx 0 i1 16) + 10))), (.sl (some (pr.getG c4 ((pr.idx 0 i1 16) + 11))) 1 (pr.getN c4 ((pr.idx 0 i1 16) + 11)) (pr.getC c4 ((pr.idx 0 i1 16) + 11))), (.sl (some (pr.getG c4 ((pr.idx 0 i1 16) + 12))) 1 (pr.getN c4 ((pr.idx 0 i1 16) + 12)) (pr.getC c4 ((pr.idx 0 i1 16) + 12))), (.sl (some (pr.getG c4 ((pr.idx 0 i1 16) + 13))) 1 (pr.getN c4 ((pr.idx 0 i1 16) + 13)) (pr.getC c4 ((pr.idx 0 i1 16) + 13))), (.sl (some (pr.getG c4 ((pr.idx 0 i1 16) + 14))) 1 (pr.getN c4 ((pr.idx 0 i1 16) + 14)) (pr.getC c4 ((pr.idx 0 i1 16) + 14))), (.sl (some (pr.getG c4 ((pr.idx 0 i1 16) + 15))) 1 (pr.getN c4 ((pr.idx 0 i1 16) + 15)) (pr.getC c4 ((pr.idx 0 i1 16) + 15)))])] (.str (fun vs0 => (.done (br (pr.sfit s0 vs0) (br (pr.sfit (pr.sapp s0 vs0) y1) (J 0 (h_spec_WorldText_0 (pr.sapp (pr.sapp s0 vs0) y1) (pr.ar .add .i64 i1 1) g2 n3 c4 g5 n6 c7 g8 n9 c10 g11 n12 c13 i14)) none) none))))) none) none) (br (pr.sfit s0 y2) (cv 37 [(.int .i64 (pr.ofN n6))] (.str (fun vs1 => (.done (br (pr.sfit y3 vs1) (br (pr.sfit (pr.sapp y3 vs1) y4) (cv 37 [(.int .i64 (pr.ofN n9))] (.str (fun vs2 => (.done (br (pr.sfit (pr.sapp (pr.sapp y3 vs1) y4) vs2) (br (pr.sfit (pr.sapp (pr.sapp (pr.sapp y3 vs1) y4) vs2) y5) (cv 37 [(.int .i64 (pr.ofN n12))] (.str (fun vs3 => (.done (br (pr.sfit (pr.sapp (pr.sapp (pr.sapp (pr.sapp y3 vs1) y4) vs2) y5) vs3) (br (pr.sfit (pr.sapp (pr.sapp (pr.sapp (pr.sapp (pr.sapp y3 vs1) y4) vs2) y5) vs3) y1) (some ((.str (pr.sapp (pr.sapp (pr.sapp (pr.sapp (pr.sapp (pr.sapp y3 vs1) y4) vs2) y5) vs3) y1)), [.undef])) none) none))))) none) none))))) none) none))))) none)) := by kernel_rfl
end
def linesT (ns : List MNode) : List UInt8 := ns.flatMap fun n => jn (nodeT n) ++ [10]
def endW (w : MWorld) : List (List UInt8) := [[110, 101, 116], digL (w.net.length : Int), [108, 111, 103], digL (w.log.length : Int), [115, 97, 102, 101], digL (w.safe.length : Int)]
def worldT (w : MWorld) : List UInt8 := linesT w.nodes ++ (jn (endW w) ++ [10])
theorem nodeT_len {n : MNode} (ok : OkNode n) (hi : InNode n) : (jn (nodeT n)).length ≤ 23068826 := by
  have h1 := jn_len 21 (nodeT n) (nodeT_small hi.id hi.last hi.image)
  have h2 := (nodeW_len n).2
  have h3 := ok.image
  have h4 : (nodeT n).length ≤ 7 + 1048576 := by simp [nodeT]; omega
  omega
theorem linesT_len : ∀ ns : List MNode, (∀ n ∈ ns, OkNode n) → (∀ n ∈ ns, InNode n) → (linesT ns).length ≤ ns.length * 23068827
  | [], _, _ => by simp [linesT]
  | n :: ns, h, h' => by
    have h1 := linesT_len ns (fun x hx => h x (by simp [hx])) (fun x hx => h' x (by simp [hx]))
    have h2 := nodeT_len (h n (by simp)) (h' n (by simp))
    have e : linesT (n :: ns) = (jn (nodeT n) ++ [10]) ++ linesT ns := by simp [linesT]
    rw [e]
    simp only [List.length_append, List.length_cons, List.length_nil, Nat.add_mul]
    omega
theorem linesT_take {ns : List MNode} {i : Nat} (h : i < ns.length) : linesT (ns.take (i + 1)) = linesT (ns.take i) ++ (jn (nodeT ns[i]) ++ [10]) := by
  rw [← List.take_append_getElem h]
  simp only [linesT, List.flatMap_append, List.flatMap_cons, List.flatMap_nil, List.append_nil]
theorem len64 {n : Nat} (h : n ≤ 1048576) : in64 (n : Int) = true := in64_iff.2 (by omega)
theorem endW_jn (w : MWorld) : jn (endW w) = [110, 101, 116, 32] ++ (digL (w.net.length : Int) ++ ([32, 108, 111, 103, 32] ++ (digL (w.log.length : Int) ++ ([32, 115, 97, 102, 101, 32] ++ digL (w.safe.length : Int))))) := by
  simp [jn, endW, Lib.join_cons, Lib.joinTail]
section
variable (t : Tel Rz)
theorem v_impl_NodeText2 (g : Bool) (n : MNode) (ok : OkNode n) (hi : InNode n) : cvP 17 [.agg (eNode (some g) n)] t = feed t [.str (bs (jn (nodeT n)))] := cvP_eq (c_impl_NodeText g n ok hi.id hi.last hi.image) (by kernel_rfl) t
theorem v_spec_NodeText2 (g : Bool) (n : MNode) (ok : OkNode n) (hi : InNode n) : cvP 15 [.agg (eNode (some g) n)] t = feed t [.str (bs (jn (nodeT n)))] := cvP_eq (c_spec_NodeText g n ok hi.id hi.last hi.image) (by kernel_rfl) t
end
theorem c_impl_WorldText (g : Bool) (w : MWorld) (ok : OkWorld w) (hi : InWorld w) : Cm 32 [.agg (eWorld (some g) w)] (.str (bs (worldT w)), [.undef]) := by
  have h1 := ok.nodes; have h2 := ok.net; have h3 := ok.log; have h4 := ok.safe
  have d1 := digL_len (len64 h2); have d2 := digL_len (len64 h3); have d3 := digL_len (len64 h4)
  have hL : ∀ i, (linesT (w.nodes.take i)).length ≤ 24189432299520 := fun i => by
    have := linesT_len (w.nodes.take i) (fun n hn => ok.node n (List.mem_of_mem_take hn)) (fun n hn => hi.node n (List.mem_of_mem_take hn))
    have hl : (w.nodes.take i).length ≤ 1048576 := by simp; omega
    omega
  have hW := jn_len 21 (endW w) (by
    intro x hx
    simp only [endW, List.mem_cons, List.not_mem_nil, or_false] at hx
    rcases hx with rfl | rfl | rfl | rfl | rfl | rfl <;> first | assumption | (simp; done))
  have hWl : (endW w).length = 6 := rfl
  refine Cm.go k_impl_WorldText [.undef] 0 (h_impl_WorldText_0 (bs []) g w.nodes.length (celz (eNode (some g)) w.nodes) w.nodes.length (0 : Nat) g w.net.length (celz (eWire (some g)) w.net) g w.log.length (celz (eRec (some g)) w.log) g w.safe.length (ints w.safe) w.gen) ?_ fun J hJ => ?_
  · have e0 : bs [] = bs (linesT (w.nodes.take 0)) := by simp [linesT]
    rw [e0]
    refine WP.loop (H := fun i : Nat => h_impl_WorldText_0 (bs (linesT (w.nodes.take i))) g w.nodes.length (celz (eNode (some g)) w.nodes) w.nodes.length (i : Nat) g w.net.length (celz (eWire (some g)) w.net) g w.log.length (celz (eRec (some g)) w.log) g w.safe.length (ints w.safe) w.gen) (n := w.nodes.length) (fun _ => True) (fun i hlt _ ih => WP.go _ (ih trivial) fun J hJ => ?_) (fun _ => WP.fin fun J => ?_) 0 (Nat.zero_le _) trivial
    · rw [eh_impl_WorldText_0]
      have k1 := ok.node _ (List.getElem_mem hlt)
      have k2 := hi.node _ (List.getElem_mem hlt)
      have k3 := nodeT_len k1 k2
      have k4 := hL i
      rw [linesT_take hlt] at hJ
      simp (disch := first | omega | assumption | (simp only [List.length_append, List.length_cons, List.length_nil]; omega)) only [br_t, br_f, br_tf, s_ofN, br_lt, br_inR, idxw, zN0_c, zN0_v, zN1_c, zN1_v, zN2_c, zN2_v, zN3_c, zN3_g, zN3_n, zN3_l, zN4_c, zN4_g, zN4_n, zN4_l, zN5_c, zN5_g, zN5_n, zN5_l, zN6_c, zN6_v, zN7_c, zN7_v, zN8_c, zN8_v, zN9_c, zN9_v, zN10_c, zN10_g, zN10_n, zN10_l, zN11_c, zN11_g, zN11_n, zN11_l, zN12_c, zN12_g, zN12_n, zN12_l, zN13_c, zN13_g, zN13_n, zN13_l, zN14_c, zN14_g, zN14_n, zN14_l, zN15_c, zN15_g, zN15_n, zN15_l, v_impl_NodeText2, feed_str, feed_done, br_sfit, s_app, s_inc]
      exact hJ
    · rw [eh_impl_WorldText_0, List.take_length]
      have k4 := hL w.nodes.length
      rw [List.take_length] at k4
      have es : [D.str (bs [110, 101, 116]), .str (bs (digL (w.net.length : Int))), .str (bs [108, 111, 103]), .str (bs (digL (w.log.length : Int))), .str (bs [115, 97, 102, 101]), .str (bs (digL (w.safe.length : Int)))] = strs (endW w) := rfl
      simp (disch := first | omega | exact len64 h2 | exact len64 h3 | exact len64 h4 | exact hWl.symm | (simp only [List.length_append, List.length_cons, List.length_nil]; omega)) only [br_t, br_f, s_ofN, br_nlt, v_impl_Digits, feed_str, feed_done, es, v_spaced, br_sfit, s_app, List.append_assoc]
      rfl
  · rw [e_impl_WorldText]
    exact hJ
theorem c_spec_WorldText (g : Bool) (w : MWorld) (ok : OkWorld w) (hi : InWorld w) : Cm 31 [.agg (eWorld (some g) w)] (.str (bs (worldT w)), [.undef]) := by
  have h1 := ok.nodes; have h2 := ok.net; have h3 := ok.log; have h4 := ok.safe
  have d1 := digL_len (len64 h2); have d2 := digL_len (len64 h3); have d3 := digL_len (len64 h4)
  have hL : ∀ i, (linesT (w.nodes.take i)).length ≤ 24189432299520 := fun i => by
    have := linesT_len (w.nodes.take i) (fun n hn => ok.node n (List.mem_of_mem_take hn)) (fun n hn => hi.node n (List.mem_of_mem_take hn))
    have hl : (w.nodes.take i).length ≤ 1048576 := by simp; omega
    omega
  refine Cm.go k_spec_WorldText [.undef] 0 (h_spec_WorldText_0 (bs []) (0 : Nat) g w.nodes.length (celz (eNode (some g)) w.nodes) g w.net.length (celz (eWire (some g)) w.net) g w.log.length (celz (eRec (some g)) w.log) g w.safe.length (ints w.safe) w.gen) ?_ fun J hJ => ?_
  · have e0 : bs [] = bs (linesT (w.nodes.take 0)) := by simp [linesT]
    rw [e0]
    refine WP.loop (H := fun i : Nat => h_spec_WorldText_0 (bs (linesT (w.nodes.take i))) (i : Nat) g w.nodes.length (celz (eNode (some g)) w.nodes) g w.net.length (celz (eWire (some g)) w.net) g w.log.length (celz (eRec (some g)) w.log) g w.safe.length (ints w.safe) w.gen) (n := w.nodes.length) (fun _ => True) (fun i hlt _ ih => WP.go _ (ih trivial) fun J hJ => ?_) (fun _ => WP.fin fun J => ?_) 0 (Nat.zero_le _) trivial
    · rw [eh_spec_WorldText_0]
      have k1 := ok.node _ (List.getElem_mem hlt)
      have k2 := hi.node _ (List.getElem_mem hlt)
      have k3 := nodeT_len k1 k2
      have k4 := hL i
      rw [linesT_take hlt] at hJ
      simp (disch := first | omega | assumption | (simp only [List.length_append, List.length_cons, List.length_nil]; omega)) only [br_t, br_f, br_tf, s_ofN, br_lt, br_inR, idxw, zN0_c, zN0_v, zN1_c, zN1_v, zN2_c, zN2_v, zN3_c, zN3_g, zN3_n, zN3_l, zN4_c, zN4_g, zN4_n, zN4_l, zN5_c, zN5_g, zN5_n, zN5_l, zN6_c, zN6_v, zN7_c, zN7_v, zN8_c, zN8_v, zN9_c, zN9_v, zN10_c, zN10_g, zN10_n, zN10_l, zN11_c, zN11_g, zN11_n, zN11_l, zN12_c, zN12_g, zN12_n, zN12_l, zN13_c, zN13_g, zN13_n, zN13_l, zN14_c, zN14_g, zN14_n, zN14_l, zN15_c, zN15_g, zN15_n, zN15_l, v_spec_NodeText2, feed_str, feed_done, br_sfit, s_app, s_inc, List.append_assoc]
      exact hJ
    · rw [eh_spec_WorldText_0, List.take_length]
      have k4 := hL w.nodes.length
      rw [List.take_length] at k4
      simp (disch := first | omega | exact len64 h2 | exact len64 h3 | exact len64 h4 | (simp only [List.length_append, List.length_cons, List.length_nil]; omega)) only [br_t, br_f, s_ofN, br_nlt, v_spec_Digits, feed_str, feed_done, br_sfit, s_app, List.append_assoc]
      rw [worldT, endW_jn]
      simp only [List.append_assoc]
  · rw [e_spec_WorldText]
    exact hJ
section
variable (t : Tel Rz)
theorem v_impl_WorldText (g : Bool) (w : MWorld) (ok : OkWorld w) (hi : InWorld w) : cvP 32 [.agg (eWorld (some g) w)] t = feed t [.str (bs (worldT w))] := cvP_eq (c_impl_WorldText g w ok hi) (by kernel_rfl) t
theorem v_spec_WorldText (g : Bool) (w : MWorld) (ok : OkWorld w) (hi : InWorld w) : cvP 31 [.agg (eWorld (some g) w)] t = feed t [.str (bs (worldT w))] := cvP_eq (c_spec_WorldText g w ok hi) (by kernel_rfl) t
end
end Go.Proofs.Ytkejckoefjonjaa

namespace Go.Proofs.Ytkejckoefjonjaa
set_option maxRecDepth 100000
section
variable (pr : Prims) (cv : Cv Rz) (J : Nat → St → Option Rz)
theorem k_laws_FnExactWorldText : Told cfg Try.prog 7 Try.f7 := ⟨by kernel_rfl, Try.func7, by kernel_rfl⟩
theorem e_laws_FnExactWorldText (g0 : Bool) (n0 : Nat) (c0 : List D) (g1 : Bool) (n1 : Nat) (c1 : List D) (g2 : Bool) (n2 : Nat) (c2 : List D) (g3 : Bool) (n3 : Nat) (c3 : List D) (a4 : Int) : RunJ pr cv J 7 Try.f7 [(.agg [(.sl (some g0) 16 n0 c0), (.sl (some g1) 3 n1 c1), (.sl (some g2) 2 n2 c2), (.sl (some g3) 1 n3 c3), (.int .i64 a4)])] =
    let y1 : D := (.agg [(.sl (some g0) 16 n0 c0), (.sl (some g1) 3 n1 c1), (.sl (some g2) 2 n2 c2), (.sl (some g3) 1 n3 c3), (.int .i64 a4)])
    let y2 : Option (D × List D) := (some ((.bool true), [.undef]))
    let y3 : List D := [y1]
    let y4 : Option (D × List D) := (some ((.bool false), [.undef]))
    (cv 19 [y1, (.int .i64 1048576)] (.int (fun vx0 => (.done (br (pr.lt vx0 0) y2 (cv 21 y3 (.sl (fun vn1 => (fun vc2 => (.sl (fun vn3 => (fun vc4 => (.sl (fun vn5 => (fun vc6 => (.sl (fun vn7 => (fun vc8 => (.int (fun vx9 => (.done (br (br (br (pr.nl vc2) (br (pr.nl vc4) (br (pr.nl vc6) (br (pr.nl vc8) true false) false) false) false) true false) (cv 31 [(.agg [(.sl (some true) 16 vn1 (exTL true vc2)), (.sl (some true) 3 vn3 (exTL true vc4)), (.sl (some true) 2 vn5 (exTL true vc6)), (.sl (some true) 1 vn7 (exTL true vc8)), (.int .i64 vx9)])] (.str (fun vs10 => (.done (cv 21 y3 (.sl (fun vn11 => (fun vc12 => (.sl (fun vn13 => (fun vc14 => (.sl (fun vn15 => (fun vc16 => (.sl (fun vn17 => (fun vc18 => (.int (fun vx19 => (.done (br (br (br (pr.nl vc12) (br (pr.nl vc14) (br (pr.nl vc16) (br (pr.nl vc18) true false) false) false) false) true false) (cv 32 [(.agg [(.sl (some true) 16 vn11 (exTL true vc12)), (.sl (some true) 3 vn13 (exTL true vc14)), (.sl (some true) 2 vn15 (exTL true vc16)), (.sl (some true) 1 vn17 (exTL true vc18)), (.int .i64 vx19)])] (.str (fun vs20 => (.done (br (br (pr.seq vs20 vs10) false true) y4 (cv 21 y3 (.sl (fun vn21 => (fun vc22 => (.sl (fun vn23 => (fun vc24 => (.sl (fun vn25 => (fun vc26 => (.sl (fun vn27 => (fun vc28 => (.int (fun vx29 => (.done (br (br (br (pr.nl vc22) (br (pr.nl vc24) (br (pr.nl vc26) (br (pr.nl vc28) true false) false) false) false) true false) (cv 24 [(.agg [(.sl (some true) 16 vn11 (exTL true vc12)), (.sl (some true) 3 vn13 (exTL true vc14)), (.sl (some true) 2 vn15 (exTL true vc16)), (.sl (some true) 1 vn17 (exTL true vc18)), (.int .i64 vx19)]), (.agg [(.sl (some true) 16 vn21 (exTL true vc22)), (.sl (some true) 3 vn23 (exTL true vc24)), (.sl (some true) 2 vn25 (exTL true vc26)), (.sl (some true) 1 vn27 (exTL true vc28)), (.int .i64 vx29)])] (.bool (fun vb30 => (.done (br (br vb30 false true) y4 y2))))) none)))))))))))))))))))))) none))))))))))))))))))))) none)))))))))))))))))))))) := by kernel_rfl
end
theorem c_FnExactWorldText (w : MWorld) (ln : LnWorld w) (hi : InWorld w) : Cm 7 [.agg (eWorld (some false) w)] (.bool true, [.undef]) := by
  refine Cm.fin k_laws_FnExactWorldText fun J => ?_
  rw [e_laws_FnExactWorldText]
  have a1 := szWorldF_ok (w := w) (l := 1048576) (by omega) (by omega)
  simp (disch := first | omega | assumption) only [v_szWorld, feed_int, feed_done]
  by_cases hv : szWorldF w 1048576 < 0
  · rw [br_lt hv]
  · have ok : OkWorld w := a1.2.2 (by omega)
    rw [br_nlt (by omega)]
    simp (disch := first | exact ok | exact hi) only [v_toWorld, feed_int, feed_bool, feed_sl, feed_str, feed_done, br_t, br_f, s_nlI, s_nlN, s_nlW, s_nlK, exTL_ints, exTL_N, exTL_W, exTL_K, v_spec_WorldText, v_impl_WorldText, s_seq_self, v_eqWorld]
end Go.Proofs.Ytkejckoefjonjaa

namespace Go.Proofs.Ytkejckoefjonjaa.fnExactWorldText
open Go.ChangeShapes Go.WideShapes Go.ChangeAt Go.RowKit
set_option maxRecDepth 100000

theorem own : ownKnob Try.prog.godebug = none := by kernel_rfl
theorem laidOut : laidOutB Try.prog = true := by kernel_rfl
theorem lifted (os : Os) (started : os.Started) (H : Type) (enc : TypeId × Value → H) :
    ReturnsInHanded {} Try.checked os 7 .any (Rows.fnExactWorldTextSpec.pre6 enc Try.prog Try.f7 Rows.fnExactWorldTextRow.domain false) (Rows.fnExactWorldTextSpec.post enc Try.prog Try.f7 false true false false) := by
  refine returnsInHanded_of_change_sized (C := Try.checked) own started (by kernel_rfl) Try.func7
    (ChangeSpec.witness6 (enc := enc) (C := Try.checked) false ⟨#[], #[.agg #[.slice none 0 0, .slice none 0 0, .slice none 0 0, .slice none 0 0, .int .i64 0]], []⟩ 8 (by kernel_rfl) (by kernel_rfl) (by kernel_rfl) (by kernel_rfl)) ?_
  intro W base args ds gs before hval0 hW hcnd hsz0 _
  have hsz : (DataW.weightsEach Try.prog (Try.f7.params.toList ++ Rows.fnExactWorldTextSpec.plain.varTypes Try.prog) (ds ++ gs)).all (· ≤ reachBytes) = true := hsz0
  have hval : ∀ (j : Nat) t v, Try.f7.params[j]? = some t → args[j]? = some v → Value.okWide Try.prog W .any base t v := hval0
  have hW' := hW
  obtain ⟨p, q, hA0, hV, rfl, hfz, hnd⟩ := hW
  have hA : DataW.TrodAll enc Try.prog W 0 (fun _ => true) true Try.f7.params.toList args.toList ds p := hA0
  rw [Try.params7] at hA hval hsz
  obtain ⟨v0, vs0, d0, ds0, p0, q0, hargs0, rfl, rfl, h0, r0⟩ := trodAll_cons hA
  obtain ⟨rfl, rfl, rfl⟩ := trodAll_nil r0
  obtain rfl : args = #[v0] := by cases args; simp_all
  obtain ⟨rfl, rfl⟩ := trodVars_none hV
  have k0 := h0
  have lt0 : ∀ x ∈ p0, x.block < W.heap.size := by obtain ⟨m, hm⟩ := k0; exact DataW.trod_lt m _ _ _ hm
  obtain ⟨us0, rfl, _⟩ := okWide_struct Try.underlying53 (hval 0 53 v0 rfl rfl)
  obtain ⟨fuel0, hf0⟩ := h0
  have hz0 : ∀ z ∈ d0.weights Try.prog 53, z ≤ reachBytes := fun z hz => by
    have := List.all_eq_true.1 hsz z (DataW.weights_mem_each (j := 0) (t := 53) (d := d0) rfl rfl z hz)
    simpa using this
  obtain ⟨cells0, hwt0, hext0⟩ := read_ok (X := Lk W [] (fun _ => True)) lk_all shWorld hf0 (by kernel_rfl) hz0
  obtain ⟨w0, rfl, lw0, iw0⟩ := wt_world hwt0
  clear hA0 hval0 hsz0 hsz
  refine (law_calls good (f := 7) (vs := #[.agg us0]) (by kernel_rfl) (c_FnExactWorldText w0 lw0 iw0) (by simp [okR, outCells, flatD, plainC, noLent]) (.cons (tva_agg hext0) .nil)).mono fun e W' ⟨he, bel⟩ => ?_
  subst he
  exact ⟨_, rfl, _, _, _, [], _, [], hW', trodAll_mk1 (shut_bool Try.underlying4 _), trodAll_mk1 (Below.trod laidOut (by kernel_rfl) (of_decide_eq_true (by kernel_rfl)) k0 bel lt0), rfl, bel.frame _, fun h => by cases h⟩
theorem over : Rows.fnExactWorldTextRow.holds Try.pinned (OpenSpec.ofChange Rows.fnExactWorldTextSpec) :=
  OpenClaim.holds_of_wide 7 Try.f7 rfl rfl rfl rfl rfl rfl rfl ⟨rfl, rfl, rfl, rfl, rfl⟩ rfl rfl rfl rfl rfl (by kernel_rfl) Try.func7 (by kernel_rfl)
    (of_decide_eq_true (by kernel_rfl)) (by unfold Func.isWrapper; first | (rw [if_pos (by decide +kernel)]; kernel_rfl) | (rw [if_neg (by decide +kernel)]; exact ⟨rfl, rfl⟩))
    (fun os started H enc _ => lifted os started H enc)
theorem proved : Rows.FnExactWorldTextSaid := over
#print axioms proved
end Go.Proofs.Ytkejckoefjonjaa.fnExactWorldText
namespace Go.Proofs.Ytkejckoefjonjaa
/-- The row, under a short name, for the claim. -/
theorem fnExactWorldText_holds : Rows.FnExactWorldTextSaid := fnExactWorldText.proved
end Go.Proofs.Ytkejckoefjonjaa
