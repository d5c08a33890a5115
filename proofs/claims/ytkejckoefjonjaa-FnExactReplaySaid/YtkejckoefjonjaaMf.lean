/- FnExactReplay: the program's Replay returns what the reference's returns, for all arguments (a world, a row of numbers). No condition. -/
import Derived.Test.YtkejckoefjonjaaRows
import Derived.WalkKit
import Derived.ProofKit
import Derived.OpenShut
import Derived.ShutString
import Derived.ChangeOld
import Derived.ChangeSame
import Derived.Below
import Derived.Carry
import Derived.SizedLaws
import Derived.Test.YtkejckoefjonjaaMe
set_option linter.unusedSimpArgs false
set_option linter.unusedVariables false
set_option linter.unnecessarySimpa false
set_option linter.unusedSectionVars false
namespace Go.Proofs.Ytkejckoefjonjaa
set_option maxRecDepth 100000

section
variable (t : Tel Rz)
theorem v_toNodeS (g : Bool) (xs : List MNode) (hb : xs.length ≤ 1048576) (ok : ∀ x ∈ xs, OkNode x) : cvP 56 [sN (some g) xs] t = feed t [sN none xs] := cvP_eq (c_toNodeS g xs hb ok) (by kernel_rfl) t
theorem v_eqNodeS (g h : Bool) (xs : List MNode) (hb : xs.length ≤ 1048576) (ok : ∀ x ∈ xs, OkNode x) : cvP 60 [sN (some g) xs, sN (some h) xs] t = feed t [.bool true] := cvP_eq (c_eqNodeS g h xs hb ok) (by kernel_rfl) t
theorem v_szNodeS (g : Bool) (xs : List MNode) (left : Int) (h0 : 0 ≤ left) (h1 : left ≤ 1048576) (hn : xs.length ≤ 140737488355328) (hx : ∀ x ∈ xs, LnNode x) : cvP 53 [sN (some g) xs, .int .i64 left] t = feed t [.int .i64 (szNodeSF xs left)] := cvP_eq (c_szNodeS g xs left h0 h1 hn hx) (by kernel_rfl) t
theorem v_toWireS (g : Bool) (xs : List MWire) (hb : xs.length ≤ 1048576) (ok : ∀ x ∈ xs, OkWire x) : cvP 57 [sW (some g) xs] t = feed t [sW none xs] := cvP_eq (c_toWireS g xs hb ok) (by kernel_rfl) t
theorem v_eqWireS (g h : Bool) (xs : List MWire) (hb : xs.length ≤ 1048576) (ok : ∀ x ∈ xs, OkWire x) : cvP 61 [sW (some g) xs, sW (some h) xs] t = feed t [.bool true] := cvP_eq (c_eqWireS g h xs hb ok) (by kernel_rfl) t
theorem v_szWireS (g : Bool) (xs : List MWire) (left : Int) (h0 : 0 ≤ left) (h1 : left ≤ 1048576) (hn : xs.length ≤ 140737488355328) (hx : ∀ x ∈ xs, LnWire x) : cvP 54 [sW (some g) xs, .int .i64 left] t = feed t [.int .i64 (szWireSF xs left)] := cvP_eq (c_szWireS g xs left h0 h1 hn hx) (by kernel_rfl) t
theorem v_toRecS (g : Bool) (xs : List MRec) (hb : xs.length ≤ 1048576) : cvP 58 [sK (some g) xs] t = feed t [sK none xs] := cvP_eq (c_toRecS g xs hb) (by kernel_rfl) t
theorem v_eqRecS (g h : Bool) (xs : List MRec) (hb : xs.length ≤ 1048576) : cvP 62 [sK (some g) xs, sK (some h) xs] t = feed t [.bool true] := cvP_eq (c_eqRecS g h xs hb) (by kernel_rfl) t
theorem v_szRecS (g : Bool) (n : Nat) (c : List D) (left : Int) (h0 : 0 ≤ left) (h1 : left ≤ 1048576) (hn : n ≤ 140737488355328) : cvP 55 [.sl (some g) 2 n c, .int .i64 left] t = feed t [.int .i64 (szF n left)] := cvP_eq (c_szRecS g n c left h0 h1 hn) (by kernel_rfl) t
end
theorem c_toWorld (g : Bool) (w : MWorld) (h : OkWorld w) : Cm 21 [.agg (eWorld (some g) w)] (.agg (eWorld none w), [.undef]) := by
  have h1 := h.nodes; have h2 := h.net; have h3 := h.log; have h4 := h.safe
  refine Cm.fin k_laws_toWorld fun J => ?_
  rw [e_laws_toWorld]
  simp (disch := first | omega | exact h.node | exact h.wire) only [v_toNodeS, v_toWireS, v_toRecS, v_toIntS, feed_sl, feed_done, s_nlI, s_nlN, s_nlW, s_nlK, br_t]
theorem c_eqWorld (g h : Bool) (w : MWorld) (ok : OkWorld w) : Cm 24 [.agg (eWorld (some g) w), .agg (eWorld (some h) w)] (.bool true, [.undef, .undef]) := by
  have h1 := ok.nodes; have h2 := ok.net; have h3 := ok.log; have h4 := ok.safe
  refine Cm.fin k_laws_eqWorld fun J => ?_
  rw [e_laws_eqWorld]
  simp (disch := first | omega | exact ok.node | exact ok.wire) only [v_eqNodeS, v_eqWireS, v_eqRecS, v_eqIntS, feed_bool, feed_done, decide_true, br_t, br_f, br_eq]
structure LnWorld (w : MWorld) : Prop where
  nodes : w.nodes.length ≤ 140737488355328
  node : ∀ n ∈ w.nodes, LnNode n
  net : w.net.length ≤ 140737488355328
  wire : ∀ x ∈ w.net, LnWire x
  log : w.log.length ≤ 140737488355328
  safe : w.safe.length ≤ 140737488355328
def szWorldF (w : MWorld) (l : Int) : Int := szB (szNodeSF w.nodes l) fun l => szB (szWireSF w.net l) fun l => szB (szF w.log.length l) fun l => szB (szF w.safe.length l) fun l => l
theorem szB_any {v l : Int} {k : Int → Int} (hv : v ≤ l ∧ -1 ≤ v) (hl : 0 ≤ l) (hk : 0 ≤ v → k v ≤ v ∧ -1 ≤ k v) : szB v k ≤ l ∧ -1 ≤ szB v k := by
  unfold szB
  split
  · omega
  · have := hk (by omega); omega
theorem szF_any {n : Nat} {l : Int} (h : 0 ≤ l) : szF n l ≤ l ∧ -1 ≤ szF n l := ⟨(szF_le h).1, (szF_le h).2.1⟩
theorem szL_any {α : Type} {f : α → Int → Int} (hf : ∀ x l, 0 ≤ l → f x l ≤ l ∧ -1 ≤ f x l) : ∀ (xs : List α) (l : Int), 0 ≤ l → szL f xs l ≤ l ∧ -1 ≤ szL f xs l
  | [], l, h => ⟨Int.le_refl _, by show -1 ≤ l; omega⟩
  | x :: xs, l, h => szB_any (hf x l h) h fun h1 => szL_any hf xs _ h1
theorem szR_any {xss : List (List Int)} {l : Int} (h : 0 ≤ l) : szR xss l ≤ l ∧ -1 ≤ szR xss l := szB_any (szF_any h) h fun h1 => szL_any (fun _ _ hl => szF_any hl) _ _ h1
theorem szNodeF_any {n : MNode} {l : Int} (h : 0 ≤ l) : szNodeF n l ≤ l ∧ -1 ≤ szNodeF n l := by
  refine szB_any (szF_any h) h fun h => szB_any ?_ h fun h => szB_any ?_ h fun h => szB_any (szF_any h) h fun h => szB_any (szR_any h) h fun h => szB_any (szF_any h) h fun h => szB_any (szF_any h) h fun h => ?_
  · exact szB_any (szF_any h) h fun h => szB_any (szR_any h) h fun h => by omega
  · exact szB_any (szF_any h) h fun h => szB_any (szF_any h) h fun h => by omega
  · omega
theorem szNodeSF_le {xs : List MNode} {l : Int} (h : 0 ≤ l) (hm : l ≤ 1048576) : szNodeSF xs l ≤ l ∧ -1 ≤ szNodeSF xs l ∧ (0 ≤ szNodeSF xs l → xs.length ≤ 1048576 ∧ ∀ x ∈ xs, OkNode x) := by
  refine szB_pair h (szF_ok h hm) fun h1 => ?_
  have h2 := szF_le (n := xs.length) h
  exact szL_le (f := szNodeF) (Q := OkNode) (fun x l hl => by
    by_cases hm : l ≤ 1048576
    · obtain ⟨a, b, c⟩ := szNodeF_le (x := x) hl hm
      exact ⟨a, b, fun hh _ => c hh⟩
    · refine ⟨?_, ?_, fun _ hm' => absurd hm' hm⟩
      · exact (szNodeF_any hl).1
      · exact (szNodeF_any hl).2) xs _ h1 (by omega)
theorem szWireSF_le {xs : List MWire} {l : Int} (h : 0 ≤ l) (hm : l ≤ 1048576) : szWireSF xs l ≤ l ∧ -1 ≤ szWireSF xs l ∧ (0 ≤ szWireSF xs l → xs.length ≤ 1048576 ∧ ∀ x ∈ xs, OkWire x) := by
  refine szB_pair h (szF_ok h hm) fun h1 => ?_
  have h2 := szF_le (n := xs.length) h
  exact szL_le (f := szWireF) (Q := OkWire) (fun x l hl => by
    by_cases hm : l ≤ 1048576
    · obtain ⟨a, b, c⟩ := szWireF_le (x := x) hl hm
      exact ⟨a, b, fun hh _ => c hh⟩
    · have h3 : szWireF x l ≤ l ∧ -1 ≤ szWireF x l := szB_any (k := fun l => l) (szF_any hl) hl fun h => by show (_ : Int) ≤ _ ∧ _; omega
      exact ⟨h3.1, h3.2, fun _ hm' => absurd hm' hm⟩) xs _ h1 (by omega)
theorem szWorldF_ok {w : MWorld} {l : Int} (h : 0 ≤ l) (hm : l ≤ 1048576) : szWorldF w l ≤ l ∧ -1 ≤ szWorldF w l ∧ (0 ≤ szWorldF w l → OkWorld w) := by
  have key : szWorldF w l ≤ l ∧ -1 ≤ szWorldF w l ∧ (0 ≤ szWorldF w l → (w.nodes.length ≤ 1048576 ∧ ∀ x ∈ w.nodes, OkNode x) ∧ (w.net.length ≤ 1048576 ∧ ∀ x ∈ w.net, OkWire x) ∧ w.log.length ≤ 1048576 ∧ w.safe.length ≤ 1048576 ∧ True) := by
    unfold szWorldF
    have a1 := szNodeSF_le (xs := w.nodes) h hm
    refine szB_pair h a1 fun h1 => ?_
    have a2 := szWireSF_le (xs := w.net) h1 (by omega)
    refine szB_pair h1 a2 fun h2 => ?_
    have a3 := szF_ok (n := w.log.length) h2 (by omega)
    refine szB_pair h2 a3 fun h3 => ?_
    exact szB_pair h3 (szF_ok h3 (by omega)) fun h4 => sz_end h4
  refine ⟨key.1, key.2.1, fun hh => ?_⟩
  obtain ⟨⟨b1, b2⟩, ⟨b3, b4⟩, b5, b6, _⟩ := key.2.2 hh
  exact ⟨b1, b2, b3, b4, b5, b6⟩
theorem c_szWorld (g : Bool) (w : MWorld) (left : Int) (h0 : 0 ≤ left) (h1 : left ≤ 1048576) (ln : LnWorld w) : Cm 19 [.agg (eWorld (some g) w), .int .i64 left] (.int .i64 (szWorldF w left), [.undef, .undef]) := by
  refine Cm.fin k_laws_szWorld fun J => ?_
  rw [e_laws_szWorld]
  have l1 := ln.nodes; have l2 := ln.net; have l3 := ln.log; have l4 := ln.safe
  have a1 := szNodeSF_le (xs := w.nodes) h0 h1
  simp (disch := first | omega | exact ln.node) only [v_szNodeS, feed_int, feed_done]
  refine br_szB (f := fun v => cvP 54 _ _) fun p1 => ?_
  have a2 := szWireSF_le (xs := w.net) p1 (by omega)
  simp (disch := first | omega | exact ln.wire) only [v_szWireS, feed_int, feed_done]
  refine br_szB (f := fun v => cvP 55 _ _) fun p2 => ?_
  have a3 := szF_le (n := w.log.length) p2
  simp (disch := omega) only [v_szRecS, feed_int, feed_done]
  refine br_szB (f := fun v => cvP 35 _ _) fun p3 => ?_
  simp (disch := omega) only [v_szIntS, feed_int, feed_done]
  exact br_szB (f := fun v => some (.int .i64 v, [.undef, .undef])) fun _ => rfl
section
variable (t : Tel Rz)
theorem v_toWorld (g : Bool) (w : MWorld) (h : OkWorld w) : cvP 21 [.agg (eWorld (some g) w)] t = feed t (eWorld none w) := cvP_eq (c_toWorld g w h) (by kernel_rfl) t
theorem v_eqWorld (g h : Bool) (w : MWorld) (ok : OkWorld w) : cvP 24 [.agg (eWorld (some g) w), .agg (eWorld (some h) w)] t = feed t [.bool true] := cvP_eq (c_eqWorld g h w ok) (by kernel_rfl) t
theorem v_szWorld (g : Bool) (w : MWorld) (left : Int) (h0 : 0 ≤ left) (h1 : left ≤ 1048576) (ln : LnWorld w) : cvP 19 [.agg (eWorld (some g) w), .int .i64 left] t = feed t [.int .i64 (szWorldF w left)] := cvP_eq (c_szWorld g w left h0 h1 ln) (by kernel_rfl) t
end

/-! ### what comes in -/
abbrev shWire : Sh := .ag [.int .i64, .int .i64, sh8]
abbrev shRec : Sh := .ag [.int .i64, .int .i64]
abbrev shWorld : Sh := .ag [.sl 248 shNode, .sl 40 shWire, .sl 16 shRec, shI, .int .i64]
structure InWorld (w : MWorld) : Prop where
  node : ∀ n ∈ w.nodes, InNode n
  src : ∀ x ∈ w.net, in64 x.src = true ∧ in64 x.dst = true
  logs : ∀ x ∈ w.log, in64 x.cell = true ∧ in64 x.up = true
  safe : In64 w.safe
  gen : in64 w.gen = true
theorem wt_rows {α : Type} {sh : Sh} {e : α → List D} {Q : α → Prop} (he : ∀ ds, WT sh ds → ∃ x, ds = e x ∧ Q x) : ∀ es : List (List D), (∀ x ∈ es, WT sh x) → ∃ xs, es.flatten = celz e xs ∧ xs.length = es.length ∧ ∀ x ∈ xs, Q x
  | [], _ => ⟨[], rfl, rfl, by simp⟩
  | d :: es, h => by
    obtain ⟨x, rfl, hx⟩ := he d (h d (by simp))
    obtain ⟨xs, h1, h2, h3⟩ := wt_rows he es (fun y hy => h y (by simp [hy]))
    refine ⟨x :: xs, by rw [List.flatten_cons, h1]; simp [celz], by simp [h2], fun y hy => ?_⟩
    rcases List.mem_cons.1 hy with rfl | hy
    · exact hx
    · exact h3 y hy
theorem wt_wire {ds : List D} (h : WT shWire ds) : ∃ x : MWire, ds = eWire (some false) x ∧ LnWire x ∧ in64 x.src = true ∧ in64 x.dst = true := by
  obtain ⟨_, _, rfl, ⟨a, rfl, ha⟩, _, _, rfl, ⟨b, rfl, hb⟩, _, _, rfl, hs, rfl⟩ := h
  obtain ⟨xs, rfl, hl⟩ := wt_8 hs
  exact ⟨⟨a, b, xs⟩, rfl, by unfold LnWire; simp only; omega, wf_in64 ha, wf_in64 hb⟩
theorem wt_rec {ds : List D} (h : WT shRec ds) : ∃ x : MRec, ds = eRec (some false) x ∧ in64 x.cell = true ∧ in64 x.up = true := by
  obtain ⟨_, _, rfl, ⟨a, rfl, ha⟩, _, _, rfl, ⟨b, rfl, hb⟩, rfl⟩ := h
  exact ⟨⟨a, b⟩, rfl, wf_in64 ha, wf_in64 hb⟩
theorem wt_world {ds : List D} (h : WT shWorld ds) : ∃ w : MWorld, ds = eWorld (some false) w ∧ LnWorld w ∧ InWorld w := by
  obtain ⟨_, _, rfl, ⟨es1, rfl, he1, hx1⟩, _, _, rfl, ⟨es2, rfl, he2, hx2⟩, _, _, rfl, ⟨es3, rfl, he3, hx3⟩, _, _, rfl, hs, _, _, rfl, ⟨gen, rfl, hg⟩, rfl⟩ := h
  obtain ⟨ns, a1, a2, a3⟩ := wt_rows (fun ds hd => wt_node hd) es1 hx1
  obtain ⟨ws, b1, b2, b3⟩ := wt_rows (fun ds hd => wt_wire hd) es2 hx2
  obtain ⟨rs, c1, c2, c3⟩ := wt_rows (fun ds hd => wt_rec hd) es3 hx3
  obtain ⟨safe, rfl, d1, d2⟩ := wt_I hs
  have : reachBytes = 140737488351232 := rfl
  refine ⟨⟨ns, ws, rs, safe, gen⟩, ?_, ⟨?_, fun n hn => (a3 n hn).1, ?_, fun n hn => (b3 n hn).1, ?_, ?_⟩, ⟨fun n hn => (a3 n hn).2, fun n hn => (b3 n hn).2, c3, d2, wf_in64 hg⟩⟩
  · rw [a1, b1, c1, ← a2, ← b2, ← c2]
    rfl
  all_goals simp only; omega
theorem exT_node (n : MNode) (b : Bool) : exTL b (eNode none n) = eNode (some b) n := by
  simp only [exTL, exT, exTL_ints, exTL_rows, exTL_bytes, exTL_bools]
theorem exTL_app (b : Bool) : ∀ x y : List D, exTL b (x ++ y) = exTL b x ++ exTL b y
  | [], _ => rfl
  | d :: x, y => by rw [List.cons_append, exTL, exTL, exTL_app b x y]; rfl
theorem exTL_celz {α : Type} {e e' : α → List D} {b : Bool} (h : ∀ x, exTL b (e x) = e' x) : ∀ xs : List α, exTL b (celz e xs) = celz e' xs
  | [] => rfl
  | x :: xs => by
    have h1 : ∀ f : α → List D, celz f (x :: xs) = f x ++ celz f xs := fun f => by simp [celz]
    rw [h1, h1, exTL_app, h, exTL_celz h xs]
theorem exTL_N (b : Bool) (xs : List MNode) : exTL b (celz (eNode none) xs) = celz (eNode (some b)) xs := exTL_celz (fun n => exT_node n b) xs
theorem exTL_W (b : Bool) (xs : List MWire) : exTL b (celz (eWire none) xs) = celz (eWire (some b)) xs := exTL_celz (fun n => by simp only [exTL, exT, exTL_bytes]) xs
theorem exTL_K (b : Bool) (xs : List MRec) : exTL b (celz (eRec none) xs) = celz (eRec (some b)) xs := exTL_celz (fun n => by simp only [exTL, exT]) xs
end Go.Proofs.Ytkejckoefjonjaa

namespace Go.Proofs.Ytkejckoefjonjaa
set_option maxRecDepth 100000
section
variable (pr : Prims) (cv : Cv Rz) (J : Nat → St → Option Rz)
def h_laws_markIntSS_0 (i0 : Int) (i1 : Int) (n2 : Nat) (c3 : List D) : St := (St.mk [(0, (.ref 19 [] 0 none)), (1, (.int .i64 i0)), (5, (.int .i64 i1))] [(19, [(.sl none 1 n2 c3)])] [] 0)
theorem k_laws_markIntSS : Told cfg Try.prog 83 Try.f83 := ⟨by kernel_rfl, Try.func83, by kernel_rfl⟩
theorem e_laws_markIntSS (n0 : Nat) (c0 : List D) (a1 : Int) : RunJ pr cv J 83 Try.f83 [(.sl none 1 n0 c0), (.int .i64 a1)] =
    (J 0 (h_laws_markIntSS_0 a1 0 n0 c0)) := by kernel_rfl
theorem eh_laws_markIntSS_0 (i0 : Int) (i1 : Int) (n2 : Nat) (c3 : List D) : HeadJ pr cv J 83 Try.f83 [(.sl none 0 0 []), .undef] 0 (h_laws_markIntSS_0 i0 i1 n2 c3) =
    (br (pr.lt i1 (pr.ofN n2)) (br (pr.inR i1 n2) (br (br (pr.isO c3 (pr.idx 0 i1 1)) true false) (br (pr.isOS 1 c3 (pr.idx 0 i1 1)) (br (pr.nl (pr.getC c3 (pr.idx 0 i1 1))) (cv 26 [(.sl none 1 (pr.getN c3 (pr.idx 0 i1 1)) (pr.getC c3 (pr.idx 0 i1 1))), (.int .i64 i0)] (.int (fun vx0 => (.sl (fun vn1 => (fun vc2 => (.done (br (br (br (pr.nl vc2) true false) true false) (br (pr.neq (pr.getN c3 (pr.idx 0 i1 1)) vn1) (cv 999999 [(.sl none 0 0 (List.set c3 (pr.idx 0 i1 1) (.sl none 1 vn1 vc2)))] (.sl (fun vn3 => (fun vc4 => (.done (J 0 (h_laws_markIntSS_0 vx0 (pr.ar .add .i64 i1 1) n2 vc4))))))) none) none)))))))) none) none) none) none) (some ((.int .i64 i0), [(.sl none 1 n2 c3), .undef]))) := by kernel_rfl
def h_laws_markWireS_0 (i0 : Int) (i1 : Int) (n2 : Nat) (c3 : List D) : St := (St.mk [(0, (.ref 34 [] 0 none)), (1, (.int .i64 i0)), (5, (.int .i64 i1))] [(34, [(.sl none 3 n2 c3)])] [] 0)
theorem k_laws_markWireS : Told cfg Try.prog 64 Try.f64 := ⟨by kernel_rfl, Try.func64, by kernel_rfl⟩
theorem e_laws_markWireS (n0 : Nat) (c0 : List D) (a1 : Int) : RunJ pr cv J 64 Try.f64 [(.sl none 3 n0 c0), (.int .i64 a1)] =
    (J 0 (h_laws_markWireS_0 a1 0 n0 c0)) := by kernel_rfl
theorem eh_laws_markWireS_0 (i0 : Int) (i1 : Int) (n2 : Nat) (c3 : List D) : HeadJ pr cv J 64 Try.f64 [(.sl none 0 0 []), .undef] 0 (h_laws_markWireS_0 i0 i1 n2 c3) =
    (br (pr.lt i1 (pr.ofN n2)) (br (pr.inR i1 n2) (br (pr.ne c3) (br (pr.slot c3 (pr.idx 0 i1 3)) (cv 999999 [(.sl none 0 0 (List.set c3 (pr.idx 0 i1 3) (.int .i64 i0)))] (.sl (fun vn0 => (fun vc1 => (.done (br (pr.inR i1 n2) (br (pr.ne vc1) (br (pr.slot vc1 ((pr.idx 0 i1 3) + 1)) (cv 999999 [(.sl none 0 0 (List.set vc1 ((pr.idx 0 i1 3) + 1) (.int .i64 (pr.ar .add .i64 i0 1))))] (.sl (fun vn2 => (fun vc3 => (.done (br (pr.inR i1 n2) (br (pr.ne vc3) (br (br (pr.isO vc3 ((pr.idx 0 i1 3) + 2)) true false) (br (pr.isOS 1 vc3 ((pr.idx 0 i1 3) + 2)) (br (pr.nl (pr.getC vc3 ((pr.idx 0 i1 3) + 2))) (cv 84 [(.sl none 1 (pr.getN vc3 ((pr.idx 0 i1 3) + 2)) (pr.getC vc3 ((pr.idx 0 i1 3) + 2))), (.int .i64 (pr.ar .add .i64 (pr.ar .add .i64 i0 1) 1))] (.int (fun vx4 => (.sl (fun vn5 => (fun vc6 => (.done (br (br (br (pr.nl vc6) true false) true false) (br (pr.neq (pr.getN vc3 ((pr.idx 0 i1 3) + 2)) vn5) (cv 999999 [(.sl none 0 0 (List.set vc3 ((pr.idx 0 i1 3) + 2) (.sl none 1 vn5 vc6)))] (.sl (fun vn7 => (fun vc8 => (.done (J 0 (h_laws_markWireS_0 vx4 (pr.ar .add .i64 i1 1) n2 vc8))))))) none) none)))))))) none) none) none) none) none)))))) none) none) none)))))) none) none) none) (some ((.int .i64 i0), [(.sl none 3 n2 c3), .undef]))) := by kernel_rfl
def h_laws_markRecS_0 (i0 : Int) (i1 : Int) (n2 : Nat) (c3 : List D) : St := (St.mk [(0, (.ref 27 [] 0 none)), (1, (.int .i64 i0)), (5, (.int .i64 i1))] [(27, [(.sl none 2 n2 c3)])] [] 0)
theorem k_laws_markRecS : Told cfg Try.prog 65 Try.f65 := ⟨by kernel_rfl, Try.func65, by kernel_rfl⟩
theorem e_laws_markRecS (n0 : Nat) (c0 : List D) (a1 : Int) : RunJ pr cv J 65 Try.f65 [(.sl none 2 n0 c0), (.int .i64 a1)] =
    (J 0 (h_laws_markRecS_0 a1 0 n0 c0)) := by kernel_rfl
theorem eh_laws_markRecS_0 (i0 : Int) (i1 : Int) (n2 : Nat) (c3 : List D) : HeadJ pr cv J 65 Try.f65 [(.sl none 0 0 []), .undef] 0 (h_laws_markRecS_0 i0 i1 n2 c3) =
    (br (pr.lt i1 (pr.ofN n2)) (br (pr.inR i1 n2) (br (pr.ne c3) (br (pr.slot c3 (pr.idx 0 i1 2)) (cv 999999 [(.sl none 0 0 (List.set c3 (pr.idx 0 i1 2) (.int .i64 i0)))] (.sl (fun vn0 => (fun vc1 => (.done (br (pr.inR i1 n2) (br (pr.ne vc1) (br (pr.slot vc1 ((pr.idx 0 i1 2) + 1)) (cv 999999 [(.sl none 0 0 (List.set vc1 ((pr.idx 0 i1 2) + 1) (.int .i64 (pr.ar .add .i64 i0 1))))] (.sl (fun vn2 => (fun vc3 => (.done (J 0 (h_laws_markRecS_0 (pr.ar .add .i64 (pr.ar .add .i64 i0 1) 1) (pr.ar .add .i64 i1 1) n2 vc3))))))) none) none) none)))))) none) none) none) (some ((.int .i64 i0), [(.sl none 2 n2 c3), .undef]))) := by kernel_rfl
def h_laws_markNodeS_0 (i0 : Int) (i1 : Int) (n2 : Nat) (c3 : List D) : St := (St.mk [(0, (.ref 143 [] 0 none)), (1, (.int .i64 i0)), (5, (.int .i64 i1))] [(143, [(.sl none 16 n2 c3)])] [] 0)
theorem k_laws_markNodeS : Told cfg Try.prog 63 Try.f63 := ⟨by kernel_rfl, Try.func63, by kernel_rfl⟩
theorem e_laws_markNodeS (n0 : Nat) (c0 : List D) (a1 : Int) : RunJ pr cv J 63 Try.f63 [(.sl none 16 n0 c0), (.int .i64 a1)] =
    (J 0 (h_laws_markNodeS_0 a1 0 n0 c0)) := by kernel_rfl
theorem eh_laws_markNodeS_0 (i0 : Int) (i1 : Int) (n2 : Nat) (c3 : List D) : HeadJ pr cv J 63 Try.f63 [(.sl none 0 0 []), .undef] 0 (h_laws_markNodeS_0 i0 i1 n2 c3) =
    (br (pr.lt i1 (pr.ofN n2)) (br (pr.inR i1 n2) (br (pr.ne c3) (br (pr.slot c3 (pr.idx 0 i1 16)) (cv 999999 [(.sl none 0 0 (List.set c3 (pr.idx 0 i1 16) (.int .i64 i0)))] (.sl (fun vn0 => (fun vc1 => (.done (br (br (pr.eq 3 0) false true) (br (pr.inR i1 n2) (br (pr.ne vc1) (br (pr.slot vc1 ((pr.idx 0 i1 16) + 1)) (cv 999999 [(.sl none 0 0 (List.set vc1 ((pr.idx 0 i1 16) + 1) (.bool (pr.eq (pr.ar .rem .i64 (pr.ar .add .i64 i0 1) 3) 0))))] (.sl (fun vn2 => (fun vc3 => (.done (br (br (pr.eq 3 0) false true) (br (pr.inR i1 n2) (br (pr.ne vc3) (br (pr.slot vc3 ((pr.idx 0 i1 16) + 2)) (cv 999999 [(.sl none 0 0 (List.set vc3 ((pr.idx 0 i1 16) + 2) (.bool (pr.eq (pr.ar .rem .i64 (pr.ar .add .i64 (pr.ar .add .i64 i0 1) 1) 3) 0))))] (.sl (fun vn4 => (fun vc5 => (.done (br (pr.inR i1 n2) (br (pr.ne vc5) (br (br (pr.isO vc5 ((pr.idx 0 i1 16) + 3)) true false) (br (pr.isOS 1 vc5 ((pr.idx 0 i1 16) + 3)) (br (pr.nl (pr.getC vc5 ((pr.idx 0 i1 16) + 3))) (cv 26 [(.sl none 1 (pr.getN vc5 ((pr.idx 0 i1 16) + 3)) (pr.getC vc5 ((pr.idx 0 i1 16) + 3))), (.int .i64 (pr.ar .add .i64 (pr.ar .add .i64 (pr.ar .add .i64 i0 1) 1) 1))] (.int (fun vx6 => (.sl (fun vn7 => (fun vc8 => (.done (br (br (br (pr.nl vc8) true false) true false) (br (pr.neq (pr.getN vc5 ((pr.idx 0 i1 16) + 3)) vn7) (cv 999999 [(.sl none 0 0 (List.set vc5 ((pr.idx 0 i1 16) + 3) (.sl none 1 vn7 vc8)))] (.sl (fun vn9 => (fun vc10 => (.done (br (pr.inR i1 n2) (br (pr.ne vc10) (br (pr.ne vc10) (br (br (pr.isO vc10 ((pr.idx 0 i1 16) + 4)) true false) (br (pr.isOS 1 vc10 ((pr.idx 0 i1 16) + 4)) (br (pr.nl (pr.getC vc10 ((pr.idx 0 i1 16) + 4))) (cv 26 [(.sl none 1 (pr.getN vc10 ((pr.idx 0 i1 16) + 4)) (pr.getC vc10 ((pr.idx 0 i1 16) + 4))), (.int .i64 vx6)] (.int (fun vx11 => (.sl (fun vn12 => (fun vc13 => (.done (br (br (br (pr.nl vc13) true false) true false) (br (pr.neq (pr.getN vc10 ((pr.idx 0 i1 16) + 4)) vn12) (cv 999999 [(.sl none 0 0 (List.set vc10 ((pr.idx 0 i1 16) + 4) (.sl none 1 vn12 vc13)))] (.sl (fun vn14 => (fun vc15 => (.done (br (pr.inR i1 n2) (br (pr.ne vc15) (br (pr.ne vc15) (br (br (pr.isO vc15 ((pr.idx 0 i1 16) + 5)) true false) (br (pr.isOS 1 vc15 ((pr.idx 0 i1 16) + 5)) (br (pr.nl (pr.getC vc15 ((pr.idx 0 i1 16) + 5))) (cv 83 [(.sl none 1 (pr.getN vc15 ((pr.idx 0 i1 16) + 5)) (pr.getC vc15 ((pr.idx 0 i1 16) + 5))), (.int .i64 vx11)] (.int (fun vx16 => (.sl (fun vn17 => (fun vc18 => (.done (br (br (br (pr.nl vc18) true false) true false) (br (pr.neq (pr.getN vc15 ((pr.idx 0 i1 16) + 5)) vn17) (cv 999999 [(.sl none 0 0 (List.set vc15 ((pr.idx 0 i1 16) + 5) (.sl none 1 vn17 vc18)))] (.sl (fun vn19 => (fun vc20 => (.done (br (br (pr.eq 3 0) false true) (br (pr.inR i1 n2) (br (pr.ne vc20) (br (pr.ne vc20) (br (pr.slot vc20 ((pr.idx 0 i1 16) + 6)) (cv 999999 [(.sl none 0 0 (List.set vc20 ((pr.idx 0 i1 16) + 6) (.bool (pr.eq (pr.ar .rem .i64 vx16 3) 0))))] (.sl (fun vn21 => (fun vc22 => (.done (br (br (pr.eq 3 0) false true) (br (pr.inR i1 n2) (br (pr.ne vc22) (br (pr.ne vc22) (br (pr.slot vc22 ((pr.idx 0 i1 16) + 7)) (cv 999999 [(.sl none 0 0 (List.set vc22 ((pr.idx 0 i1 16) + 7) (.bool (pr.eq (pr.ar .rem .i64 (pr.ar .add .i64 vx16 1) 3) 0))))] (.sl (fun vn23 => (fun vc24 => (.done (br (br (pr.eq 3 0) false true) (br (pr.inR i1 n2) (br (pr.ne vc24) (br (pr.ne vc24) (br (pr.slot vc24 ((pr.idx 0 i1 16) + 8)) (cv 999999 [(.sl none 0 0 (List.set vc24 ((pr.idx 0 i1 16) + 8) (.bool (pr.eq (pr.ar .rem .i64 (pr.ar .add .i64 (pr.ar .add .i64 vx16 1) 1) 3) 0))))] (.sl (fun vn25 => (fun vc26 => (.done (br (pr.inR i1 n2) (br (pr.ne vc26) (br (pr.ne vc26) (br (pr.slot vc26 ((pr.idx 0 i1 16) + 9)) (cv 999999 [(.sl none 0 0 (List.set vc26 ((pr.idx 0 i1 16) + 9) (.int .i64 (pr.ar .add .i64 (pr.ar .add .i64 (pr.ar .add .i64 vx16 1) 1) 1))))] (.sl (fun vn27 => (fun vc28 => (.done (br (pr.inR i1 n2) (br (pr.ne vc28) (br (pr.ne vc28) (br (br (pr.isO vc28 ((pr.idx 0 i1 16) + 10)) true false) (br (pr.isOS 1 vc28 ((pr.idx 0 i1 16) + 10)) (br (pr.nl (pr.getC vc28 ((pr.idx 0 i1 16) + 10))) (cv 84 [(.sl none 1 (pr.getN vc28 ((pr.idx 0 i1 16) + 10)) (pr.getC vc28 ((pr.idx 0 i1 16) + 10))), (.int .i64 (pr.ar .add .i64 (pr.ar .add .i64 (pr.ar .add .i64 (pr.ar .add .i64 vx16 1) 1) 1) 1))] (.int (fun vx29 => (.sl (fun vn30 => (fun vc31 => (.done (br (br (br (pr.nl vc31) true false) true false) (br (pr.neq (pr.getN vc28 ((pr.idx 0 i1 16) + 10)) vn30) (cv 999999 [(.sl none 0 0 (List.set vc28 ((pr.idx 0 i1 16) + 10) (.sl none 1 vn30 vc31)))] (.sl (fun vn32 => (fun vc33 => (.done (br (pr.inR i1 n2) (br (pr.ne vc33) (br (pr.ne vc33) (br (br (pr.isO vc33 ((pr.idx 0 i1 16) + 11)) true false) (br (pr.isOS 1 vc33 ((pr.idx 0 i1 16) + 11)) (br (pr.nl (pr.getC vc33 ((pr.idx 0 i1 16) + 11))) (cv 84 [(.sl none 1 (pr.getN vc33 ((pr.idx 0 i1 16) + 11)) (pr.getC vc33 ((pr.idx 0 i1 16) + 11))), (.int .i64 vx29)] (.int (fun vx34 => (.sl (fun vn35 => (fun vc36 => (.done (br (br (br (pr.nl vc36) true false) true false) (br (pr.neq (pr.getN vc33 ((pr.idx 0 i1 16) + 11)) vn35) (cv 999999 [(.sl none 0 0 (List.set vc33 ((pr.idx 0 i1 16) + 11) (.sl none 1 vn35 vc36)))] (.sl (fun vn37 => (fun vc38 => (.done (br (pr.inR i1 n2) (br (pr.ne vc38) (br (br (pr.isO vc38 ((pr.idx 0 i1 16) + 12)) true false) (br (pr.isOS 1 vc38 ((pr.idx 0 i1 16) + 12)) (br (pr.nl (pr.getC vc38 ((pr.idx 0 i1 16) + 12))) (cv 85 [(.sl none 1 (pr.getN vc38 ((pr.idx 0 i1 16) + 12)) (pr.getC vc38 ((pr.idx 0 i1 16) + 12))), (.int .i64 vx34)] (.int (fun vx39 => (.sl (fun vn40 => (fun vc41 => (.done (br (br (br (pr.nl vc41) true false) true false) (br (pr.neq (pr.getN vc38 ((pr.idx 0 i1 16) + 12)) vn40) (cv 999999 [(.sl none 0 0 (List.set vc38 ((pr.idx 0 i1 16) + 12) (.sl none 1 vn40 vc41)))] (.sl (fun vn42 => (fun vc43 => (.done (br (pr.inR i1 n2) (br (pr.ne vc43) (br (br (pr.isO vc43 ((pr.idx 0 i1 16) + 13)) true false) (br (pr.isOS 1 vc43 ((pr.idx 0 i1 16) + 13)) (br (pr.nl (pr.getC vc43 ((pr.idx 0 i1 16) + 13))) (cv 83 [(.sl none 1 (pr.getN vc43 ((pr.idx 0 i1 16) + 13)) (pr.getC vc43 ((pr.idx 0 i1 16) + 13))), (.int .i64 vx39)] (.int (fun vx44 => (.sl (fun vn45 => (fun vc46 => (.done (br (br (br (pr.nl vc46) true false) true false) (br (pr.neq (pr.getN vc43 ((pr.idx 0 i1 16) + 13)) vn45) (cv 999999 [(.sl none 0 0 (List.set vc43 ((pr.idx 0 i1 16) + 13) (.sl none 1 vn45 vc46)))] (.sl (fun vn47 => (fun vc48 => (.done (br (pr.inR i1 n2) (br (pr.ne vc48) (br (br (pr.isO vc48 ((pr.idx 0 i1 16) + 14)) true false) (br (pr.isOS 1 vc48 ((pr.idx 0 i1 16) + 14)) (br (pr.nl (pr.getC vc48 ((pr.idx 0 i1 16) + 14))) (cv 85 [(.sl none 1 (pr.getN vc48 ((pr.idx 0 i1 16) + 14)) (pr.getC vc48 ((pr.idx 0 i1 16) + 14))), (.int .i64 vx44)] (.int (fun vx49 => (.sl (fun vn50 => (fun vc51 => (.done (br (br (br (pr.nl vc51) true false) true false) (br (pr.neq (pr.getN vc48 ((pr.idx 0 i1 16) + 14)) vn50) (cv 999999 [(.sl none 0 0 (List.set vc48 ((pr.idx 0 i1 16) + 14) (.sl none 1 vn50 vc51)))] (.sl (fun vn52 => (fun vc53 => (.done (br (pr.inR i1 n2) (br (pr.ne vc53) (br (br (pr.isO vc53 ((pr.idx 0 i1 16) + 15)) true false) (br (pr.isOS 1 vc53 ((pr.idx 0 i1 16) + 15)) (br (pr.nl (pr.getC vc53 ((pr.idx 0 i1 16) + 15))) (cv 26 [(.sl none 1 (pr.getN vc53 ((pr.idx 0 i1 16) + 15)) (pr.getC vc53 ((pr.idx 0 i1 16) + 15))), (.int .i64 vx49)] (.int (fun vx54 => (.sl (fun vn55 => (fun vc56 => (.done (br (br (br (pr.nl vc56) true false) true false) (br (pr.neq (pr.getN vc53 ((pr.idx 0 i1 16) + 15)) vn55) (cv 999999 [(.sl none 0 0 (List.set vc53 ((pr.idx 0 i1 16) + 15) (.sl none 1 vn55 vc56)))] (.sl (fun vn57 => (fun vc58 => (.done (J 0 (h_laws_markNodeS_0 vx54 (pr.ar .add .i64 i1 1) n2 vc58))))))) none) none)))))))) none) none) none) none) none)))))) none) none)))))))) none) none) none) none) none)))))) none) none)))))))) none) none) none) none) none)))))) none) none)))))))) none) none) none) none) none)))))) none) none)))))))) none) none) none) none) none) none)))))) none) none)))))))) none) none) none) none) none) none)))))) none) none) none) none)))))) none) none) none) none) none)))))) none) none) none) none) none)))))) none) none) none) none) none)))))) none) none)))))))) none) none) none) none) none) none)))))) none) none)))))))) none) none) none) none) none) none)))))) none) none)))))))) none) none) none) none) none)))))) none) none) none) none)))))) none) none) none) none)))))) none) none) none) (some ((.int .i64 i0), [(.sl none 16 n2 c3), .undef]))) := by kernel_rfl
theorem k_laws_markWorld : Told cfg Try.prog 25 Try.f25 := ⟨by kernel_rfl, Try.func25, by kernel_rfl⟩
theorem e_laws_markWorld (n0 : Nat) (c0 : List D) (n1 : Nat) (c1 : List D) (n2 : Nat) (c2 : List D) (n3 : Nat) (c3 : List D) (a4 : Int) (a5 : Int) : RunJ pr cv J 25 Try.f25 [(.agg [(.sl none 16 n0 c0), (.sl none 3 n1 c1), (.sl none 2 n2 c2), (.sl none 1 n3 c3), (.int .i64 a4)]), (.int .i64 a5)] =
    (br (br (br (pr.nl c0) true false) true false) (cv 63 [(.sl none 16 n0 c0), (.int .i64 a5)] (.int (fun vx0 => (.sl (fun vn1 => (fun vc2 => (.done (br (br (br (pr.nl vc2) true false) true false) (br (br (br (pr.neq n0 vn1) true false) true false) (br (br (br (pr.nl c1) true false) true false) (cv 64 [(.sl none 3 n1 c1), (.int .i64 vx0)] (.int (fun vx3 => (.sl (fun vn4 => (fun vc5 => (.done (br (br (br (pr.nl vc5) true false) true false) (br (br (br (pr.neq n1 vn4) true false) true false) (br (br (br (pr.nl c2) true false) true false) (cv 65 [(.sl none 2 n2 c2), (.int .i64 vx3)] (.int (fun vx6 => (.sl (fun vn7 => (fun vc8 => (.done (br (br (br (pr.nl vc8) true false) true false) (br (br (br (pr.neq n2 vn7) true false) true false) (br (br (br (pr.nl c3) true false) true false) (cv 26 [(.sl none 1 n3 c3), (.int .i64 vx6)] (.int (fun vx9 => (.sl (fun vn10 => (fun vc11 => (.done (br (br (br (pr.nl vc11) true false) true false) (br (br (br (pr.neq n3 vn10) true false) true false) (some ((.int .i64 vx9), [(.agg [(.sl none 16 vn1 vc2), (.sl none 3 vn4 vc5), (.sl none 2 vn7 vc8), (.sl none 1 vn10 vc11), (.int .i64 a4)]), .undef])) none) none)))))))) none) none) none)))))))) none) none) none)))))))) none) none) none)))))))) none) := by kernel_rfl
end
section
variable (t : Tel Rz)
theorem v_markIntS (n : Nat) (xs : List Int) (k : Int) (hn : n = xs.length) (h0 : 0 ≤ k) (h1 : k + xs.length < 9223372036854775807) : cvP 26 [.sl none 1 n (ints xs), .int .i64 k] t = feed t [.int .i64 (k + xs.length), .sl none 1 xs.length (ints (mkI k xs.length))] := by subst hn; exact cvP_eq (c_markIntS xs k h0 h1) (by kernel_rfl) t
theorem v_markByteS (n : Nat) (xs : List UInt8) (k : Int) (hn : n = xs.length) (h0 : 0 ≤ k) (h1 : k + xs.length < 9223372036854775807) : cvP 84 [.sl none 1 n (bytes xs), .int .i64 k] t = feed t [.int .i64 (k + xs.length), .sl none 1 xs.length (bytes (mk8 k xs.length))] := by subst hn; exact cvP_eq (c_markByteS xs k h0 h1) (by kernel_rfl) t
theorem v_markBoolS (n : Nat) (xs : List Bool) (k : Int) (hn : n = xs.length) (h0 : 0 ≤ k) (h1 : k + xs.length < 9223372036854775807) : cvP 85 [.sl none 1 n (bools xs), .int .i64 k] t = feed t [.int .i64 (k + xs.length), .sl none 1 xs.length (bools (mkB k xs.length))] := by subst hn; exact cvP_eq (c_markBoolS xs k h0 h1) (by kernel_rfl) t
end
theorem br_neq' {R : Type} {a b : Nat} {u v : R} (h : a = b) : br (std.neq a b) u v = u := by simp [std, br, h]
/-- How many numbers rows bear. -/
def totR (xss : List (List Int)) : Nat := (xss.map List.length).sum
def mkR : Int → List (List Int) → List (List Int)
  | _, [] => []
  | k, xs :: r => mkI k xs.length :: mkR (k + xs.length) r
theorem mkR_length : ∀ (k : Int) (xss : List (List Int)), (mkR k xss).length = xss.length
  | _, [] => rfl
  | k, xs :: r => by simp [mkR, mkR_length]
/-- A row that is worked on from its first to its last. -/
theorem set_first {α : Type} (a : List α) (x y : α) (b : List α) : (a ++ x :: b).set a.length y = (a ++ [y]) ++ b := by
  rw [List.set_append_right _ _ (Nat.le_refl _)]
  simp
theorem w_markIntSS : ∀ (rest done : List (List Int)) (k : Int) (n : Nat), n = done.length + rest.length → 0 ≤ k → k + totR rest < 9223372036854775807 → n < 9223372036854775807 →
    WP 83 Try.f83 [.sl none 0 0 [], .undef] 0 (h_laws_markIntSS_0 k (done.length : Nat) n (rows none (done ++ rest))) (.int .i64 (k + totR rest), [.sl none 1 n (rows none (done ++ mkR k rest)), .undef])
  | [], done, k, n, hn, h0, h1, hs => by
    refine WP.fin fun J => ?_
    rw [eh_laws_markIntSS_0]
    simp (disch := (simp at hn; omega)) only [s_ofN, br_nlt, totR, List.map_nil, List.sum_nil, mkR, Int.natCast_zero, Int.add_zero]
  | xs :: rest, done, k, n, hn, h0, h1, hs => by
    have ht : totR (xs :: rest) = xs.length + totR rest := by simp [totR]
    rw [ht] at h1
    have hlen : done.length < (done ++ xs :: rest).length := by simp
    have hget : (done ++ xs :: rest)[done.length] = xs := by simp
    have hn' : done.length < n := by rw [hn]; simp
    have ih := w_markIntSS rest (done ++ [mkI k xs.length]) (k + xs.length) n (by rw [hn]; simp; omega) (by omega) (by omega) hs
    have e1 : ((done ++ [mkI k xs.length]).length : Nat) = done.length + 1 := by simp
    have e2 : (done ++ [mkI k xs.length]) ++ mkR (k + xs.length) rest = done ++ mkR k (xs :: rest) := by simp [mkR]
    have e3 : k + (xs.length : Int) + (totR rest : Int) = k + ((totR (xs :: rest) : Nat) : Int) := by rw [ht]; omega
    rw [e1, e2, e3] at ih
    refine WP.go _ ih fun J hJ => ?_
    rw [eh_laws_markIntSS_0]
    simp (disch := first | omega | assumption | (simp only [mkI_length]; done)) only [br_t, br_f, br_tf, s_ofN, br_lt, br_inR, idx1, br_isO, br_isOS, s_getN, s_getC, hget, s_nlI, v_markIntS, feed_int, feed_sl, feed_done, br_neq', cvP_nm, s_inc]
    have e4 : (D.sl none 1 xs.length (ints (mkI k xs.length))) = .sl none 1 (mkI k xs.length).length (ints (mkI k xs.length)) := by rw [mkI_length]
    rw [e4, rows_set, set_first]
    exact hJ
theorem c_markIntSS (xss : List (List Int)) (k : Int) (h0 : 0 ≤ k) (h1 : k + totR xss < 9223372036854775807) (hs : xss.length < 9223372036854775807) : Cm 83 [.sl none 1 xss.length (rows none xss), .int .i64 k] (.int .i64 (k + totR xss), [.sl none 1 xss.length (rows none (mkR k xss)), .undef]) := by
  refine Cm.go k_laws_markIntSS [.sl none 0 0 [], .undef] 0 _ (w_markIntSS xss [] k xss.length (by simp) h0 h1 hs) fun J hJ => ?_
  rw [e_laws_markIntSS]
  exact hJ
section
variable (t : Tel Rz)
theorem v_markIntSS (n : Nat) (xss : List (List Int)) (k : Int) (hn : n = xss.length) (h0 : 0 ≤ k) (h1 : k + totR xss < 9223372036854775807) (hs : xss.length < 9223372036854775807) : cvP 83 [.sl none 1 n (rows none xss), .int .i64 k] t = feed t [.int .i64 (k + totR xss), .sl none 1 xss.length (rows none (mkR k xss))] := by subst hn; exact cvP_eq (c_markIntSS xss k h0 h1 hs) (by kernel_rfl) t
end
def tot3 (k : Int) : Bool := k.tmod 3 == 0
theorem s_m3 (k : Int) : std.eq (std.ar .rem .i64 k 3) 0 = tot3 k := rfl
/-- A node's marks; how many they are. -/
def mkN (k0 : Int) (n : MNode) : MNode :=
  let k3 := k0 + 1 + 1 + 1
  let k4 := k3 + n.image.length
  let k5 := k4 + n.mt.gens.length
  let k6 := k5 + totR n.mt.bits
  let k10 := k6 + 1 + 1 + 1 + 1
  let k11 := k10 + n.slots.a.length
  let k12 := k11 + n.slots.b.length
  let k13 := k12 + n.conn.length
  let k14 := k13 + totR n.sync
  let k15 := k14 + n.copies.length
  ⟨k0, tot3 (k0 + 1), tot3 (k0 + 1 + 1), mkI k3 n.image.length, ⟨mkI k4 n.mt.gens.length, mkR k5 n.mt.bits, tot3 k6, tot3 (k6 + 1), tot3 (k6 + 1 + 1), k6 + 1 + 1 + 1⟩, ⟨mk8 k10 n.slots.a.length, mk8 k11 n.slots.b.length⟩, mkB k12 n.conn.length, mkR k13 n.sync, mkB k14 n.copies.length, mkI k15 n.wait.length⟩
def totN (n : MNode) : Nat := 7 + n.image.length + n.mt.gens.length + totR n.mt.bits + n.slots.a.length + n.slots.b.length + n.conn.length + totR n.sync + n.copies.length + n.wait.length
def totNs (ns : List MNode) : Nat := (ns.map totN).sum
def mkNs : Int → List MNode → List MNode
  | _, [] => []
  | k, n :: r => mkN k n :: mkNs (k + totN n) r
theorem mkNs_length : ∀ (k : Int) (ns : List MNode), (mkNs k ns).length = ns.length
  | _, [] => rfl
  | k, n :: r => by simp [mkNs, mkNs_length]
theorem totR_le {xss : List (List Int)} (h : OkR xss) : totR xss ≤ 1099511627776 := by
  have key : ∀ l : List (List Int), (∀ x ∈ l, x.length ≤ 1048576) → (l.map List.length).sum ≤ l.length * 1048576 := by
    intro l
    induction l with
    | nil => intro _; simp
    | cons x l ih =>
      intro hh
      have h1 := ih (fun y hy => hh y (by simp [hy]))
      have h2 := hh x (by simp)
      simp only [List.map_cons, List.sum_cons, List.length_cons, Nat.add_mul]
      omega
  have := key xss h.2
  have := h.1
  unfold totR
  omega
theorem celz_mid {α : Type} (e : α → List D) (a : List α) (x : α) (b : List α) : celz e (a ++ x :: b) = celz e a ++ (e x ++ celz e b) := by simp [celz]
set_option maxHeartbeats 1000000 in
theorem w_markNodeS : ∀ (rest done : List MNode) (k : Int) (n : Nat), n = done.length + rest.length → 0 ≤ k → k + totNs rest < 4611686018427387904 → n ≤ 1048576 → (∀ x ∈ rest, OkNode x) →
    WP 63 Try.f63 [.sl none 0 0 [], .undef] 0 (h_laws_markNodeS_0 k (done.length : Nat) n (celz (eNode none) (done ++ rest))) (.int .i64 (k + totNs rest), [.sl none 16 n (celz (eNode none) (done ++ mkNs k rest)), .undef])
  | [], done, k, n, hn, h0, h1, hs, _ => by
    refine WP.fin fun J => ?_
    rw [eh_laws_markNodeS_0]
    simp (disch := (simp at hn; omega)) only [s_ofN, br_nlt, totNs, List.map_nil, List.sum_nil, mkNs, Int.natCast_zero, Int.add_zero]
  | x :: rest, done, k, n, hn, h0, h1, hs, ok => by
    have ht : totNs (x :: rest) = totN x + totNs rest := by simp [totNs]
    rw [ht] at h1
    have okx := ok x (by simp)
    have hn' : done.length < n := by rw [hn]; simp
    have ih := w_markNodeS rest (done ++ [mkN k x]) (k + totN x) n (by rw [hn]; simp; omega) (by omega) (by omega) hs (fun y hy => ok y (by simp [hy]))
    have e1 : ((done ++ [mkN k x]).length : Nat) = done.length + 1 := by simp
    have e2 : (done ++ [mkN k x]) ++ mkNs (k + totN x) rest = done ++ mkNs k (x :: rest) := by simp [mkNs]
    have e3 : k + (totN x : Int) + (totNs rest : Int) = k + ((totNs (x :: rest) : Nat) : Int) := by rw [ht]; omega
    have e5 : (done ++ [mkN k x]) ++ rest = done ++ mkN k x :: rest := by simp
    rw [e1, e2, e3, e5, celz_mid] at ih
    refine WP.go _ ih fun J hJ => ?_
    have hA : (celz (eNode none) done).length = done.length * 16 := celz_length (w := 16) (fun _ => rfl) done
    have l1 := okx.image; have l2 := okx.mt.gens; have l3 := totR_le okx.mt.bits; have l3' := okx.mt.bits.1; have l4 := okx.slots.a; have l5 := okx.slots.b; have l6 := okx.conn; have l7 := totR_le okx.sync; have l7' := okx.sync.1; have l8 := okx.copies; have l9 := okx.wait
    have hT : totN x = 7 + x.image.length + x.mt.gens.length + totR x.mt.bits + x.slots.a.length + x.slots.b.length + x.conn.length + totR x.sync + x.copies.length + x.wait.length := rfl
    rw [eh_laws_markNodeS_0, celz_mid]
    simp (disch := first | omega | assumption | exact hA | (simp; done)) only [br_t, br_f, br_tf, br_ft, br_neq, s_ofN, br_lt, br_inR, idxw, zs_ne, zs_slot, zs_slot0, zs_isOS, zs_isO, zs_getN, zs_getC, zs_set, zs_set0, List.set_cons_zero, List.set_cons_succ, l_slotS, l_slotI, l_slotB, l_isOSS, l_isOS0, l_isOS', l_isO0, l_getNS, l_getN0, l_getCS, l_getC0, s_nlI, s_nlRn, s_nl8, s_nlB, s_m3, s_add, s_inc, v_markIntS, v_markIntSS, v_markByteS, v_markBoolS, feed_int, feed_sl, feed_done, br_neq', cvP_nm]
    have key : ∀ (a b : Int) (c : List D), a = k + totN x → b = ((done.length + 1 : Nat) : Int) → c = eNode none (mkN k x) → J 0 (h_laws_markNodeS_0 a b n (celz (eNode none) done ++ (c ++ celz (eNode none) rest))) = some (.int .i64 (k + ((totNs (x :: rest) : Nat) : Int)), [.sl none 16 n (celz (eNode none) (done ++ mkNs k (x :: rest))), .undef]) := by
      rintro _ _ _ rfl rfl rfl
      exact hJ
    refine key _ _ _ (by omega) (by omega) ?_
    simp only [eNode, sI, sR, s8, sB, mkN, mkI_length, mkR_length, mk8_length, mkB_length]
theorem c_markNodeS (ns : List MNode) (k : Int) (h0 : 0 ≤ k) (h1 : k + totNs ns < 4611686018427387904) (hs : ns.length ≤ 1048576) (ok : ∀ x ∈ ns, OkNode x) : Cm 63 [sN none ns, .int .i64 k] (.int .i64 (k + totNs ns), [sN none (mkNs k ns), .undef]) := by
  have hw := w_markNodeS ns [] k ns.length (by simp) h0 h1 hs ok
  refine Cm.go k_laws_markNodeS [.sl none 0 0 [], .undef] 0 _ (?_ : WP _ _ _ _ (h_laws_markNodeS_0 k (0 : Nat) ns.length (celz (eNode none) ns)) _) fun J hJ => ?_
  · rw [show (sN none (mkNs k ns)) = .sl none 16 ns.length (celz (eNode none) ([] ++ mkNs k ns)) from by simp only [sN, mkNs_length, List.nil_append]]
    exact hw
  · rw [e_laws_markNodeS]
    exact hJ
def mkWs : Int → List MWire → List MWire
  | _, [] => []
  | k, x :: r => ⟨k, k + 1, mk8 (k + 1 + 1) x.bytes.length⟩ :: mkWs (k + (2 + x.bytes.length : Nat)) r
def totWs (xs : List MWire) : Nat := (xs.map fun x => 2 + x.bytes.length).sum
theorem mkWs_length : ∀ (k : Int) (ns : List MWire), (mkWs k ns).length = ns.length
  | _, [] => rfl
  | k, n :: r => by simp [mkWs, mkWs_length]
theorem w_markWireS : ∀ (rest done : List MWire) (k : Int) (n : Nat), n = done.length + rest.length → 0 ≤ k → k + totWs rest < 4611686018427387904 → n ≤ 1048576 → (∀ x ∈ rest, OkWire x) →
    WP 64 Try.f64 [.sl none 0 0 [], .undef] 0 (h_laws_markWireS_0 k (done.length : Nat) n (celz (eWire none) (done ++ rest))) (.int .i64 (k + totWs rest), [.sl none 3 n (celz (eWire none) (done ++ mkWs k rest)), .undef])
  | [], done, k, n, hn, h0, h1, hs, _ => by
    refine WP.fin fun J => ?_
    rw [eh_laws_markWireS_0]
    simp (disch := (simp at hn; omega)) only [s_ofN, br_nlt, totWs, List.map_nil, List.sum_nil, mkWs, Int.natCast_zero, Int.add_zero]
  | x :: rest, done, k, n, hn, h0, h1, hs, ok => by
    have ht : totWs (x :: rest) = (2 + x.bytes.length) + totWs rest := by simp [totWs]
    rw [ht] at h1
    have okx := ok x (by simp)
    unfold OkWire at okx
    have hn' : done.length < n := by rw [hn]; simp
    have ih := w_markWireS rest (done ++ [⟨k, k + 1, mk8 (k + 1 + 1) x.bytes.length⟩]) (k + (2 + x.bytes.length : Nat)) n (by rw [hn]; simp; omega) (by omega) (by omega) hs (fun y hy => ok y (by simp [hy]))
    have e1 : ((done ++ [(⟨k, k + 1, mk8 (k + 1 + 1) x.bytes.length⟩ : MWire)]).length : Nat) = done.length + 1 := by simp
    have e2 : (done ++ [⟨k, k + 1, mk8 (k + 1 + 1) x.bytes.length⟩]) ++ mkWs (k + (2 + x.bytes.length : Nat)) rest = done ++ mkWs k (x :: rest) := by simp [mkWs]
    have e3 : k + ((2 + x.bytes.length : Nat) : Int) + (totWs rest : Int) = k + ((totWs (x :: rest) : Nat) : Int) := by rw [ht]; omega
    have e5 : (done ++ [(⟨k, k + 1, mk8 (k + 1 + 1) x.bytes.length⟩ : MWire)]) ++ rest = done ++ ⟨k, k + 1, mk8 (k + 1 + 1) x.bytes.length⟩ :: rest := by simp
    rw [e1, e2, e3, e5, celz_mid] at ih
    refine WP.go _ ih fun J hJ => ?_
    have hA : (celz (eWire none) done).length = done.length * 3 := celz_length (w := 3) (fun _ => rfl) done
    rw [eh_laws_markWireS_0, celz_mid]
    simp (disch := first | omega | assumption | exact hA | (simp; done)) only [br_t, br_f, br_tf, br_ft, s_ofN, br_lt, br_inR, idxw, zs_ne, zs_slot, zs_slot0, zs_isOS, zs_isO, zs_getN, zs_getC, zs_set, zs_set0, List.set_cons_zero, List.set_cons_succ, l_slotS, l_slotI, l_isOSS, l_isOS0, l_isOS', l_isO0, l_getNS, l_getN0, l_getCS, l_getC0, s_nl8, s_add, v_markByteS, feed_int, feed_sl, feed_done, br_neq', cvP_nm]
    have key : ∀ (a b : Int) (c : List D), a = k + ((2 + x.bytes.length : Nat) : Int) → b = ((done.length + 1 : Nat) : Int) → c = eWire none ⟨k, k + 1, mk8 (k + 1 + 1) x.bytes.length⟩ → J 0 (h_laws_markWireS_0 a b n (celz (eWire none) done ++ (c ++ celz (eWire none) rest))) = some (.int .i64 (k + ((totWs (x :: rest) : Nat) : Int)), [.sl none 3 n (celz (eWire none) (done ++ mkWs k (x :: rest))), .undef]) := by
      rintro _ _ _ rfl rfl rfl
      exact hJ
    refine key _ _ _ (by omega) (by omega) ?_
    simp only [eWire, s8, mk8_length]
theorem c_markWireS (ns : List MWire) (k : Int) (h0 : 0 ≤ k) (h1 : k + totWs ns < 4611686018427387904) (hs : ns.length ≤ 1048576) (ok : ∀ x ∈ ns, OkWire x) : Cm 64 [sW none ns, .int .i64 k] (.int .i64 (k + totWs ns), [sW none (mkWs k ns), .undef]) := by
  have hw := w_markWireS ns [] k ns.length (by simp) h0 h1 hs ok
  refine Cm.go k_laws_markWireS [.sl none 0 0 [], .undef] 0 _ (?_ : WP _ _ _ _ (h_laws_markWireS_0 k (0 : Nat) ns.length (celz (eWire none) ns)) _) fun J hJ => ?_
  · rw [show (sW none (mkWs k ns)) = .sl none 3 ns.length (celz (eWire none) ([] ++ mkWs k ns)) from by simp only [sW, mkWs_length, List.nil_append]]
    exact hw
  · rw [e_laws_markWireS]
    exact hJ
def mkKs : Int → List MRec → List MRec
  | _, [] => []
  | k, _ :: r => ⟨k, k + 1⟩ :: mkKs (k + 2) r
theorem mkKs_length : ∀ (k : Int) (ns : List MRec), (mkKs k ns).length = ns.length
  | _, [] => rfl
  | k, n :: r => by simp [mkKs, mkKs_length]
theorem w_markRecS : ∀ (rest done : List MRec) (k : Int) (n : Nat), n = done.length + rest.length → 0 ≤ k → k + 2 * rest.length < 4611686018427387904 → n ≤ 1048576 →
    WP 65 Try.f65 [.sl none 0 0 [], .undef] 0 (h_laws_markRecS_0 k (done.length : Nat) n (celz (eRec none) (done ++ rest))) (.int .i64 (k + 2 * rest.length), [.sl none 2 n (celz (eRec none) (done ++ mkKs k rest)), .undef])
  | [], done, k, n, hn, h0, h1, hs => by
    refine WP.fin fun J => ?_
    rw [eh_laws_markRecS_0]
    simp (disch := (simp at hn; omega)) only [s_ofN, br_nlt, mkKs, List.length_nil, Int.natCast_zero, Int.mul_zero, Int.add_zero]
  | x :: rest, done, k, n, hn, h0, h1, hs => by
    have ht : (x :: rest).length = rest.length + 1 := rfl
    rw [ht] at h1 hn
    have hn' : done.length < n := by omega
    have ih := w_markRecS rest (done ++ [⟨k, k + 1⟩]) (k + 2) n (by rw [hn]; simp; omega) (by omega) (by omega) hs
    have e1 : ((done ++ [(⟨k, k + 1⟩ : MRec)]).length : Nat) = done.length + 1 := by simp
    have e2 : (done ++ [⟨k, k + 1⟩]) ++ mkKs (k + 2) rest = done ++ mkKs k (x :: rest) := by simp [mkKs]
    have e3 : k + 2 + 2 * (rest.length : Int) = k + 2 * (((x :: rest).length : Nat) : Int) := by rw [ht]; omega
    have e5 : (done ++ [(⟨k, k + 1⟩ : MRec)]) ++ rest = done ++ ⟨k, k + 1⟩ :: rest := by simp
    rw [e1, e2, e3, e5, celz_mid] at ih
    refine WP.go _ ih fun J hJ => ?_
    have hA : (celz (eRec none) done).length = done.length * 2 := celz_length (w := 2) (fun _ => rfl) done
    rw [eh_laws_markRecS_0, celz_mid]
    simp (disch := first | omega | assumption | exact hA | (simp; done)) only [br_t, br_f, br_tf, br_ft, s_ofN, br_lt, br_inR, idxw, zs_ne, zs_slot, zs_slot0, zs_set, zs_set0, List.set_cons_zero, List.set_cons_succ, l_slotS, l_slotI, s_add, feed_sl, feed_done, cvP_nm]
    have key : ∀ (a b : Int) (c : List D), a = k + 2 → b = ((done.length + 1 : Nat) : Int) → c = eRec none ⟨k, k + 1⟩ → J 0 (h_laws_markRecS_0 a b n (celz (eRec none) done ++ (c ++ celz (eRec none) rest))) = some (.int .i64 (k + 2 * (((x :: rest).length : Nat) : Int)), [.sl none 2 n (celz (eRec none) (done ++ mkKs k (x :: rest))), .undef]) := by
      rintro _ _ _ rfl rfl rfl
      exact hJ
    exact key _ _ _ (by omega) (by omega) rfl
theorem c_markRecS (ns : List MRec) (k : Int) (h0 : 0 ≤ k) (h1 : k + 2 * ns.length < 4611686018427387904) (hs : ns.length ≤ 1048576) : Cm 65 [sK none ns, .int .i64 k] (.int .i64 (k + 2 * ns.length), [sK none (mkKs k ns), .undef]) := by
  have hw := w_markRecS ns [] k ns.length (by simp) h0 h1 hs
  refine Cm.go k_laws_markRecS [.sl none 0 0 [], .undef] 0 _ (?_ : WP _ _ _ _ (h_laws_markRecS_0 k (0 : Nat) ns.length (celz (eRec none) ns)) _) fun J hJ => ?_
  · rw [show (sK none (mkKs k ns)) = .sl none 2 ns.length (celz (eRec none) ([] ++ mkKs k ns)) from by simp only [sK, mkKs_length, List.nil_append]]
    exact hw
  · rw [e_laws_markRecS]
    exact hJ
section
variable (t : Tel Rz)
theorem v_markNodeS (n : Nat) (ns : List MNode) (k : Int) (hn : n = ns.length) (h0 : 0 ≤ k) (h1 : k + totNs ns < 4611686018427387904) (hs : ns.length ≤ 1048576) (ok : ∀ x ∈ ns, OkNode x) : cvP 63 [.sl none 16 n (celz (eNode none) ns), .int .i64 k] t = feed t [.int .i64 (k + totNs ns), sN none (mkNs k ns)] := by subst hn; exact cvP_eq (c_markNodeS ns k h0 h1 hs ok) (by kernel_rfl) t
theorem v_markWireS (n : Nat) (ns : List MWire) (k : Int) (hn : n = ns.length) (h0 : 0 ≤ k) (h1 : k + totWs ns < 4611686018427387904) (hs : ns.length ≤ 1048576) (ok : ∀ x ∈ ns, OkWire x) : cvP 64 [.sl none 3 n (celz (eWire none) ns), .int .i64 k] t = feed t [.int .i64 (k + totWs ns), sW none (mkWs k ns)] := by subst hn; exact cvP_eq (c_markWireS ns k h0 h1 hs ok) (by kernel_rfl) t
theorem v_markRecS (n : Nat) (ns : List MRec) (k : Int) (hn : n = ns.length) (h0 : 0 ≤ k) (h1 : k + 2 * ns.length < 4611686018427387904) (hs : ns.length ≤ 1048576) : cvP 65 [.sl none 2 n (celz (eRec none) ns), .int .i64 k] t = feed t [.int .i64 (k + 2 * ns.length), sK none (mkKs k ns)] := by subst hn; exact cvP_eq (c_markRecS ns k h0 h1 hs) (by kernel_rfl) t
end
/-- A sum over a row. -/
theorem sum_le {α : Type} (f : α → Nat) (B : Nat) : ∀ l : List α, (∀ x ∈ l, f x ≤ B) → (l.map f).sum ≤ l.length * B
  | [], _ => by simp
  | x :: l, h => by
    have h1 := sum_le f B l (fun y hy => h y (by simp [hy]))
    have h2 := h x (by simp)
    simp only [List.map_cons, List.sum_cons, List.length_cons, Nat.add_mul]
    omega
theorem totN_le {x : MNode} (ok : OkNode x) : totN x ≤ 2199033184263 := by
  have l1 := ok.image; have l2 := ok.mt.gens; have l3 := totR_le ok.mt.bits; have l4 := ok.slots.a; have l5 := ok.slots.b; have l6 := ok.conn; have l7 := totR_le ok.sync; have l8 := ok.copies; have l9 := ok.wait
  unfold totN
  omega
theorem totNs_le {ns : List MNode} (h : ns.length ≤ 1048576) (ok : ∀ x ∈ ns, OkNode x) : totNs ns ≤ 2305853420225761280 := by
  have := sum_le totN 2199033184263 ns (fun x hx => totN_le (ok x hx))
  unfold totNs
  omega
theorem totWs_le {ns : List MWire} (h : ns.length ≤ 1048576) (ok : ∀ x ∈ ns, OkWire x) : totWs ns ≤ 1099513724928 := by
  have := sum_le (fun x : MWire => 2 + x.bytes.length) 1048578 ns (fun x hx => by have := ok x hx; unfold OkWire at this; show 2 + x.bytes.length ≤ 1048578; omega)
  unfold totWs
  omega
def mkWorld (k : Int) (w : MWorld) : MWorld := ⟨mkNs k w.nodes, mkWs (k + totNs w.nodes) w.net, mkKs (k + totNs w.nodes + totWs w.net) w.log, mkI (k + totNs w.nodes + totWs w.net + 2 * w.log.length) w.safe.length, w.gen⟩
def totWorld (w : MWorld) : Int := totNs w.nodes + totWs w.net + 2 * w.log.length + w.safe.length
theorem c_markWorld (w : MWorld) (k : Int) (h0 : 0 ≤ k) (h1 : k ≤ 1048576) (ok : OkWorld w) : Cm 25 [.agg (eWorld none w), .int .i64 k] (.int .i64 (k + totWorld w), [.agg (eWorld none (mkWorld k w)), .undef]) := by
  have l1 := ok.nodes; have l2 := ok.net; have l3 := ok.log; have l4 := ok.safe
  have t1 := totNs_le l1 ok.node; have t2 := totWs_le l2 ok.wire
  refine Cm.fin k_laws_markWorld fun J => ?_
  rw [e_laws_markWorld]
  simp (disch := first | omega | exact ok.node | exact ok.wire | (simp only [mkNs_length, mkWs_length, mkKs_length, mkI_length]; done)) only [v_markNodeS, v_markWireS, v_markRecS, v_markIntS, feed_int, feed_sl, feed_done, s_nlI, s_nlN, s_nlW, s_nlK, br_t, br_f, br_tf, br_neq']
  simp only [eWorld, sN, sW, sK, sI, mkWorld, totWorld, mkI_length]
  have e : k + (totNs w.nodes : Int) + (totWs w.net : Int) + 2 * (w.log.length : Int) + (w.safe.length : Int) = k + (totNs w.nodes + totWs w.net + 2 * w.log.length + w.safe.length) := by omega
  rw [e]
end Go.Proofs.Ytkejckoefjonjaa

namespace Go.Proofs.Ytkejckoefjonjaa
set_option maxRecDepth 100000
section
variable (pr : Prims) (cv : Cv Rz) (J : Nat → St → Option Rz)
def h_slices_Reverseint_int_0 (i0 : Int) (i1 : Int) (n2 : Nat) (c3 : List D) : St := (St.mk [(0, (.ref 28 [] 0 none)), (2, (.int .i64 i0)), (3, (.int .i64 i1))] [(28, [(.sl none 1 n2 c3)])] [] 0)
theorem k_slices_Reverseint_int : Told cfg Try.prog 59 Try.f59 := ⟨by kernel_rfl, Try.func59, by kernel_rfl⟩
theorem e_slices_Reverseint_int (n0 : Nat) (c0 : List D) : RunJ pr cv J 59 Try.f59 [(.sl none 1 n0 c0)] =
    (J 0 (h_slices_Reverseint_int_0 0 (pr.ar .sub .i64 (pr.ofN n0) 1) n0 c0)) := by kernel_rfl
theorem eh_slices_Reverseint_int_0 (i0 : Int) (i1 : Int) (n2 : Nat) (c3 : List D) : HeadJ pr cv J 59 Try.f59 [(.sl none 0 0 [])] 0 (h_slices_Reverseint_int_0 i0 i1 n2 c3) =
    let y1 : List D := (List.set c3 (pr.idx 0 i0 1) (.int .i64 (pr.getI c3 (pr.idx 0 i1 1))))
    (br (pr.lt i0 i1) (br (pr.inR i1 n2) (br (br (pr.isI .i64 c3 (pr.idx 0 i1 1)) true false) (br (pr.inR i0 n2) (br (br (pr.isI .i64 c3 (pr.idx 0 i0 1)) true false) (br (pr.inR i0 n2) (br (pr.slot c3 (pr.idx 0 i0 1)) (br (pr.inR i1 n2) (br (pr.slot y1 (pr.idx 0 i1 1)) (J 0 (h_slices_Reverseint_int_0 (pr.ar .add .i64 i0 1) (pr.ar .sub .i64 i1 1) n2 (List.set y1 (pr.idx 0 i1 1) (.int .i64 (pr.getI c3 (pr.idx 0 i0 1)))))) none) none) none) none) none) none) none) none) (some ((.tup []), [(.sl none 1 n2 c3)]))) := by kernel_rfl
def h_spec_Chain_0 (i0 : Int) (g1 : Bool) (n2 : Nat) (c3 : List D) (g4 : Bool) (n5 : Nat) (c6 : List D) (g7 : Bool) (n8 : Nat) (c9 : List D) (g10 : Bool) (n11 : Nat) (c12 : List D) (i13 : Int) (n14 : Nat) (c15 : List D) : St := (St.mk [(1, (.int .i64 i0)), (2, (.ptr 2 [] 0)), (5, (.ref 10005 [] 0 none))] [(2, [(.sl (some g1) 16 n2 c3), (.sl (some g4) 3 n5 c6), (.sl (some g7) 2 n8 c9), (.sl (some g10) 1 n11 c12), (.int .i64 i13)]), (10005, [(.sl none 1 n14 c15)])] [] 0)
theorem k_spec_Chain : Told cfg Try.prog 20 Try.f20 := ⟨by kernel_rfl, Try.func20, by kernel_rfl⟩
theorem e_spec_Chain (g0 : Bool) (n0 : Nat) (c0 : List D) (g1 : Bool) (n1 : Nat) (c1 : List D) (g2 : Bool) (n2 : Nat) (c2 : List D) (g3 : Bool) (n3 : Nat) (c3 : List D) (a4 : Int) (a5 : Int) : RunJ pr cv J 20 Try.f20 [(.agg [(.sl (some g0) 16 n0 c0), (.sl (some g1) 3 n1 c1), (.sl (some g2) 2 n2 c2), (.sl (some g3) 1 n3 c3), (.int .i64 a4)]), (.int .i64 a5)] =
    (J 0 (h_spec_Chain_0 a5 g0 n0 c0 g1 n1 c1 g2 n2 c2 g3 n3 c3 a4 0 [])) := by kernel_rfl
theorem eh_spec_Chain_0 (i0 : Int) (g1 : Bool) (n2 : Nat) (c3 : List D) (g4 : Bool) (n5 : Nat) (c6 : List D) (g7 : Bool) (n8 : Nat) (c9 : List D) (g10 : Bool) (n11 : Nat) (c12 : List D) (i13 : Int) (n14 : Nat) (c15 : List D) : HeadJ pr cv J 20 Try.f20 [.undef, .undef] 0 (h_spec_Chain_0 i0 g1 n2 c3 g4 n5 c6 g7 n8 c9 g10 n11 c12 i13 n14 c15) =
    let y1 : Bool := (br (pr.isI .i64 c9 ((pr.idx 0 (pr.ar .sub .i64 i0 1) 2) + 1)) true false)
    let y2 : Int := (pr.getI c9 ((pr.idx 0 (pr.ar .sub .i64 i0 1) 2) + 1))
    let y3 : Option (D × List D) := (some ((.sl none 1 n14 c15), [.undef, .undef]))
    (br (pr.lt 0 i0) (br (pr.le i0 (pr.ofN n8)) (br (br (pr.flat c15) (pr.fits (1 + n14) 8) false) (br (pr.inR (pr.ar .sub .i64 i0 1) n8) (br y1 (br (pr.le i0 y2) (some ((.sl none 1 (1 + n14) ((.int .i64 i0) :: c15)), [.undef, .undef])) (br (pr.inR (pr.ar .sub .i64 i0 1) n8) (br y1 (J 0 (h_spec_Chain_0 y2 g1 n2 c3 g4 n5 c6 g7 n8 c9 g10 n11 c12 i13 (1 + n14) ((.int .i64 i0) :: c15))) none) none)) none) none) none) y3) y3) := by kernel_rfl
def h_impl_Chain_0 (i0 : Int) (g1 : Bool) (n2 : Nat) (c3 : List D) (g4 : Bool) (n5 : Nat) (c6 : List D) (g7 : Bool) (n8 : Nat) (c9 : List D) (g10 : Bool) (n11 : Nat) (c12 : List D) (i13 : Int) (n14 : Nat) (c15 : List D) : St := (St.mk [(1, (.int .i64 i0)), (2, (.ptr 2 [] 0)), (5, (.ref 10005 [] 0 none))] [(2, [(.sl (some g1) 16 n2 c3), (.sl (some g4) 3 n5 c6), (.sl (some g7) 2 n8 c9), (.sl (some g10) 1 n11 c12), (.int .i64 i13)]), (10005, [(.sl none 1 n14 c15)])] [] 0)
theorem k_impl_Chain : Told cfg Try.prog 22 Try.f22 := ⟨by kernel_rfl, Try.func22, by kernel_rfl⟩
theorem e_impl_Chain (g0 : Bool) (n0 : Nat) (c0 : List D) (g1 : Bool) (n1 : Nat) (c1 : List D) (g2 : Bool) (n2 : Nat) (c2 : List D) (g3 : Bool) (n3 : Nat) (c3 : List D) (a4 : Int) (a5 : Int) : RunJ pr cv J 22 Try.f22 [(.agg [(.sl (some g0) 16 n0 c0), (.sl (some g1) 3 n1 c1), (.sl (some g2) 2 n2 c2), (.sl (some g3) 1 n3 c3), (.int .i64 a4)]), (.int .i64 a5)] =
    (cv 38 [(.int .i64 a5), (.int .i64 1), (.int .i64 (pr.ofN n2))] (.bool (fun vb0 => (.done (br (br vb0 false true) (some ((.sl none 1 0 []), [.undef, .undef])) (J 0 (h_impl_Chain_0 a5 g0 n0 c0 g1 n1 c1 g2 n2 c2 g3 n3 c3 a4 0 []))))))) := by kernel_rfl
theorem eh_impl_Chain_0 (i0 : Int) (g1 : Bool) (n2 : Nat) (c3 : List D) (g4 : Bool) (n5 : Nat) (c6 : List D) (g7 : Bool) (n8 : Nat) (c9 : List D) (g10 : Bool) (n11 : Nat) (c12 : List D) (i13 : Int) (n14 : Nat) (c15 : List D) : HeadJ pr cv J 22 Try.f22 [.undef, .undef] 0 (h_impl_Chain_0 i0 g1 n2 c3 g4 n5 c6 g7 n8 c9 g10 n11 c12 i13 n14 c15) =
    let y1 : D := (.int .i64 (pr.getI c9 ((pr.idx 0 (pr.ar .sub .i64 i0 1) 2) + 1)))
    let y2 : List D := [(.sl none 1 (n14 + 1) (List.append c15 [(.int .i64 i0)]))]
    (br (br (pr.flat [(.int .i64 i0)]) (pr.fits (n14 + 1) 8) false) (br (pr.inR (pr.ar .sub .i64 i0 1) n8) (br (br (pr.isI .i64 c9 ((pr.idx 0 (pr.ar .sub .i64 i0 1) 2) + 1)) true false) (cv 38 [y1, (.int .i64 1), (.int .i64 (pr.ar .sub .i64 i0 1))] (.bool (fun vb0 => (.done (br (br vb0 false true) (br (br (br (pr.nl (List.append c15 [(.int .i64 i0)])) true false) true false) (cv 59 y2 (.sl (fun vn1 => (fun vc2 => (.done (br (br (br (pr.nl vc2) true false) true false) (br (br (br (pr.neq (n14 + 1) vn1) true false) true false) (some ((.sl none 1 vn1 vc2), [.undef, .undef])) none) none)))))) none) (J 0 (h_impl_Chain_0 (pr.getI c9 ((pr.idx 0 (pr.ar .sub .i64 i0 1) 2) + 1)) g1 n2 c3 g4 n5 c6 g7 n8 c9 g10 n11 c12 i13 (n14 + 1) (List.append c15 [(.int .i64 i0)])))))))) none) none) none) := by kernel_rfl
theorem k_spec_Put : Told cfg Try.prog 67 Try.f67 := ⟨by kernel_rfl, Try.func67, by kernel_rfl⟩
theorem e_spec_Put (g0 : Bool) (n0 : Nat) (c0 : List D) (a1 : Int) (a2 : Int) : RunJ pr cv J 67 Try.f67 [(.sl (some g0) 1 n0 c0), (.int .i64 a1), (.int .i64 a2)] =
    (br (br (pr.cell c0) (pr.fits (0 + n0) 8) false) (cv 36 [(.int .i64 a1), (.int .i64 0), (.int .i64 (pr.ar .sub .i64 (pr.ofN n0) 1))] (.bool (fun vb0 => (.done (br vb0 (br (pr.inR a1 (0 + n0)) (br (pr.slot c0 (pr.idx 0 a1 1)) (some ((.sl none 1 (0 + n0) (List.set c0 (pr.idx 0 a1 1) (.int .i64 a2))), [.undef, .undef, .undef])) none) none) (some ((.sl none 1 (0 + n0) c0), [.undef, .undef, .undef]))))))) none) := by kernel_rfl
theorem k_impl_Put : Told cfg Try.prog 69 Try.f69 := ⟨by kernel_rfl, Try.func69, by kernel_rfl⟩
theorem e_impl_Put (g0 : Bool) (n0 : Nat) (c0 : List D) (a1 : Int) (a2 : Int) : RunJ pr cv J 69 Try.f69 [(.sl (some g0) 1 n0 c0), (.int .i64 a1), (.int .i64 a2)] =
    (cv 86 [(.sl (some g0) 1 n0 c0)] (.sl (fun vn0 => (fun vc1 => (.done (br (br (br (pr.nl vc1) true false) true false) (cv 38 [(.int .i64 a1), (.int .i64 0), (.int .i64 (pr.ar .sub .i64 (pr.ofN n0) 1))] (.bool (fun vb2 => (.done (br vb2 (br (pr.inR a1 vn0) (br (pr.slot vc1 (pr.idx 0 a1 1)) (some ((.sl none 1 vn0 (List.set vc1 (pr.idx 0 a1 1) (.int .i64 a2))), [.undef, .undef, .undef])) none) none) (some ((.sl none 1 vn0 vc1), [.undef, .undef, .undef]))))))) none)))))) := by kernel_rfl
theorem k_spec_ImageNew : Told cfg Try.prog 66 Try.f66 := ⟨by kernel_rfl, Try.func66, by kernel_rfl⟩
theorem e_spec_ImageNew  : RunJ pr cv J 66 Try.f66 [] =
    (br (pr.mkok 8 8 8) (some ((.sl none 1 (pr.toN 8) (reps (pr.toN 8) [(.int .i64 0)])), [])) none) := by kernel_rfl
theorem k_impl_ImageNew : Told cfg Try.prog 68 Try.f68 := ⟨by kernel_rfl, Try.func68, by kernel_rfl⟩
theorem e_impl_ImageNew  : RunJ pr cv J 68 Try.f68 [] =
    (br (pr.mkok 8 8 8) (some ((.sl none 1 (pr.toN 8) (reps (pr.toN 8) [(.int .i64 0)])), [])) none) := by kernel_rfl
def h_spec_Replay_0 (g0 : Bool) (n1 : Nat) (c2 : List D) (i3 : Int) (g4 : Bool) (n5 : Nat) (c6 : List D) (g7 : Bool) (n8 : Nat) (c9 : List D) (g10 : Bool) (n11 : Nat) (c12 : List D) (g13 : Bool) (n14 : Nat) (c15 : List D) (i16 : Int) (n17 : Nat) (c18 : List D) : St := (St.mk [(1, (.sl (some g0) 1 n1 c2)), (2, (.ptr 2 [] 0)), (5, (.ref 10005 [] 0 none)), (6, (.int .i64 i3))] [(2, [(.sl (some g4) 16 n5 c6), (.sl (some g7) 3 n8 c9), (.sl (some g10) 2 n11 c12), (.sl (some g13) 1 n14 c15), (.int .i64 i16)]), (10005, [(.sl none 1 n17 c18)])] [] 0)
theorem k_spec_Replay : Told cfg Try.prog 28 Try.f28 := ⟨by kernel_rfl, Try.func28, by kernel_rfl⟩
theorem e_spec_Replay (g0 : Bool) (n0 : Nat) (c0 : List D) (g1 : Bool) (n1 : Nat) (c1 : List D) (g2 : Bool) (n2 : Nat) (c2 : List D) (g3 : Bool) (n3 : Nat) (c3 : List D) (a4 : Int) (g5 : Bool) (n5 : Nat) (c5 : List D) : RunJ pr cv J 28 Try.f28 [(.agg [(.sl (some g0) 16 n0 c0), (.sl (some g1) 3 n1 c1), (.sl (some g2) 2 n2 c2), (.sl (some g3) 1 n3 c3), (.int .i64 a4)]), (.sl (some g5) 1 n5 c5)] =
    (cv 66 [] (.sl (fun vn0 => (fun vc1 => (.done (br (br (br (pr.nl vc1) true false) true false) (J 0 (h_spec_Replay_0 g5 n5 c5 0 g0 n0 c0 g1 n1 c1 g2 n2 c2 g3 n3 c3 a4 vn0 vc1)) none)))))) := by kernel_rfl
theorem eh_spec_Replay_0 (g0 : Bool) (n1 : Nat) (c2 : List D) (i3 : Int) (g4 : Bool) (n5 : Nat) (c6 : List D) (g7 : Bool) (n8 : Nat) (c9 : List D) (g10 : Bool) (n11 : Nat) (c12 : List D) (g13 : Bool) (n14 : Nat) (c15 : List D) (i16 : Int) (n17 : Nat) (c18 : List D) : HeadJ pr cv J 28 Try.f28 [.undef, .undef] 0 (h_spec_Replay_0 g0 n1 c2 i3 g4 n5 c6 g7 n8 c9 g10 n11 c12 g13 n14 c15 i16 n17 c18) =
    let y1 : Nat := (pr.idx 0 (pr.ar .sub .i64 (pr.getI c2 (pr.idx 0 i3 1)) 1) 2)
    (br (pr.lt i3 (pr.ofN n1)) (br (pr.inR i3 n1) (br (br (pr.isI .i64 c2 (pr.idx 0 i3 1)) true false) (cv 36 [(.int .i64 (pr.getI c2 (pr.idx 0 i3 1))), (.int .i64 1), (.int .i64 (pr.ofN n11))] (.bool (fun vb0 => (.done (br vb0 (br (pr.inR i3 n1) (br (br (pr.isI .i64 c2 (pr.idx 0 i3 1)) true false) (br (pr.inR (pr.ar .sub .i64 (pr.getI c2 (pr.idx 0 i3 1)) 1) n11) (br (br (pr.isI .i64 c12 y1) true false) (br (pr.inR i3 n1) (br (br (pr.isI .i64 c2 (pr.idx 0 i3 1)) true false) (cv 67 [(.sl (some true) 1 n17 (exTL true c18)), (.int .i64 (pr.getI c12 y1)), (.int .i64 (pr.getI c2 (pr.idx 0 i3 1)))] (.sl (fun vn1 => (fun vc2 => (.done (br (br (br (pr.nl vc2) true false) true false) (J 0 (h_spec_Replay_0 g0 n1 c2 (pr.ar .add .i64 i3 1) g4 n5 c6 g7 n8 c9 g10 n11 c12 g13 n14 c15 i16 vn1 vc2)) none)))))) none) none) none) none) none) none) (J 0 (h_spec_Replay_0 g0 n1 c2 (pr.ar .add .i64 i3 1) g4 n5 c6 g7 n8 c9 g10 n11 c12 g13 n14 c15 i16 n17 c18))))))) none) none) (some ((.sl none 1 n17 c18), [.undef, .undef]))) := by kernel_rfl
def h_impl_Replay_0 (g0 : Bool) (n1 : Nat) (c2 : List D) (i3 : Int) (i4 : Int) (g5 : Bool) (n6 : Nat) (c7 : List D) (g8 : Bool) (n9 : Nat) (c10 : List D) (g11 : Bool) (n12 : Nat) (c13 : List D) (g14 : Bool) (n15 : Nat) (c16 : List D) (i17 : Int) (n18 : Nat) (c19 : List D) : St := (St.mk [(2, (.ptr 2 [] 0)), (5, (.ref 10005 [] 0 none)), (9, (.sl (some g0) 1 n1 c2)), (10, (.int .i64 i3)), (11, (.int .i64 i4))] [(2, [(.sl (some g5) 16 n6 c7), (.sl (some g8) 3 n9 c10), (.sl (some g11) 2 n12 c13), (.sl (some g14) 1 n15 c16), (.int .i64 i17)]), (10005, [(.sl none 1 n18 c19)])] [] 0)
theorem k_impl_Replay : Told cfg Try.prog 30 Try.f30 := ⟨by kernel_rfl, Try.func30, by kernel_rfl⟩
theorem e_impl_Replay (g0 : Bool) (n0 : Nat) (c0 : List D) (g1 : Bool) (n1 : Nat) (c1 : List D) (g2 : Bool) (n2 : Nat) (c2 : List D) (g3 : Bool) (n3 : Nat) (c3 : List D) (a4 : Int) (g5 : Bool) (n5 : Nat) (c5 : List D) : RunJ pr cv J 30 Try.f30 [(.agg [(.sl (some g0) 16 n0 c0), (.sl (some g1) 3 n1 c1), (.sl (some g2) 2 n2 c2), (.sl (some g3) 1 n3 c3), (.int .i64 a4)]), (.sl (some g5) 1 n5 c5)] =
    (cv 68 [] (.sl (fun vn0 => (fun vc1 => (.done (br (br (br (pr.nl vc1) true false) true false) (J 0 (h_impl_Replay_0 g5 n5 c5 (pr.ofN n5) 0 g0 n0 c0 g1 n1 c1 g2 n2 c2 g3 n3 c3 a4 vn0 vc1)) none)))))) := by kernel_rfl
theorem eh_impl_Replay_0 (g0 : Bool) (n1 : Nat) (c2 : List D) (i3 : Int) (i4 : Int) (g5 : Bool) (n6 : Nat) (c7 : List D) (g8 : Bool) (n9 : Nat) (c10 : List D) (g11 : Bool) (n12 : Nat) (c13 : List D) (g14 : Bool) (n15 : Nat) (c16 : List D) (i17 : Int) (n18 : Nat) (c19 : List D) : HeadJ pr cv J 30 Try.f30 [.undef, .undef] 0 (h_impl_Replay_0 g0 n1 c2 i3 i4 g5 n6 c7 g8 n9 c10 g11 n12 c13 g14 n15 c16 i17 n18 c19) =
    let y1 : Nat := (pr.idx 0 (pr.ar .sub .i64 (pr.getI c2 (pr.idx 0 i4 1)) 1) 2)
    (br (pr.lt i4 i3) (br (pr.inR i4 n1) (br (br (pr.isI .i64 c2 (pr.idx 0 i4 1)) true false) (cv 38 [(.int .i64 (pr.getI c2 (pr.idx 0 i4 1))), (.int .i64 1), (.int .i64 (pr.ofN n12))] (.bool (fun vb0 => (.done (br vb0 (br (pr.inR (pr.ar .sub .i64 (pr.getI c2 (pr.idx 0 i4 1)) 1) n12) (br (br (pr.isI .i64 c13 y1) true false) (cv 69 [(.sl (some true) 1 n18 (exTL true c19)), (.int .i64 (pr.getI c13 y1)), (.int .i64 (pr.getI c2 (pr.idx 0 i4 1)))] (.sl (fun vn1 => (fun vc2 => (.done (br (br (br (pr.nl vc2) true false) true false) (J 0 (h_impl_Replay_0 g0 n1 c2 i3 (pr.ar .add .i64 i4 1) g5 n6 c7 g8 n9 c10 g11 n12 c13 g14 n15 c16 i17 vn1 vc2)) none)))))) none) none) (J 0 (h_impl_Replay_0 g0 n1 c2 i3 (pr.ar .add .i64 i4 1) g5 n6 c7 g8 n9 c10 g11 n12 c13 g14 n15 c16 i17 n18 c19))))))) none) none) (some ((.sl none 1 n18 c19), [.undef, .undef]))) := by kernel_rfl
end

/-! ### turned round -/
def rv (xs : List Int) (k : Nat) : List Int := (List.range xs.length).map fun j => if j < k ∨ xs.length ≤ j + k then xs.getD (xs.length - 1 - j) 0 else xs.getD j 0
theorem rv_length (xs : List Int) (k : Nat) : (rv xs k).length = xs.length := by simp [rv]
theorem rv_get (xs : List Int) (k j : Nat) (h : j < (rv xs k).length) : (rv xs k)[j] = if j < k ∨ xs.length ≤ j + k then xs.getD (xs.length - 1 - j) 0 else xs.getD j 0 := by simp [rv]
theorem rv_zero (xs : List Int) : rv xs 0 = xs := by
  apply List.ext_getElem (by rw [rv_length])
  intro j h1 h2
  rw [rv_get, if_neg (by omega)]
  simp [List.getD_eq_getElem?_getD, h2]
theorem rv_end (xs : List Int) {k : Nat} (h : xs.length ≤ 2 * k + 1) : rv xs k = xs.reverse := by
  apply List.ext_getElem (by rw [rv_length, List.length_reverse])
  intro j h1 h2
  rw [rv_length] at h1
  rw [rv_get, List.getElem_reverse]
  split
  · simp [List.getD_eq_getElem?_getD, show xs.length - 1 - j < xs.length by omega]
  · have e : xs.length - 1 - j = j := by omega
    simp [List.getD_eq_getElem?_getD, h1, e]
theorem rv_step (xs : List Int) {k : Nat} (h : k + (k + 1) < xs.length) (h1 : k < (rv xs k).length) (h2 : xs.length - 1 - k < (rv xs k).length) :
    ((rv xs k).set k (rv xs k)[xs.length - 1 - k]).set (xs.length - 1 - k) (rv xs k)[k] = rv xs (k + 1) := by
  apply List.ext_getElem (by simp [rv_length])
  intro j g1 g2
  rw [rv_length] at g2
  rw [List.getElem_set, List.getElem_set]
  simp only [rv_get]
  by_cases e1 : xs.length - 1 - k = j
  · rw [if_pos e1, if_neg (by omega), if_pos (by omega)]
    congr 1
    omega
  · rw [if_neg e1]
    by_cases e2 : k = j
    · rw [if_pos e2, if_neg (by omega), if_pos (by omega)]
      subst e2
      rfl
    · rw [if_neg e2]
      by_cases e3 : j < k ∨ xs.length ≤ j + k
      · rw [if_pos e3, if_pos (by omega)]
      · rw [if_neg e3, if_neg (by omega)]
theorem c_ReverseI (xs : List Int) (hb : xs.length < 4611686018427387904) : Cm 59 [.sl none 1 xs.length (ints xs)] (.tup [], [.sl none 1 xs.length (ints xs.reverse)]) := by
  refine Cm.go k_slices_Reverseint_int [.sl none 0 0 []] 0 (h_slices_Reverseint_int_0 ((0 : Nat) : Int) ((xs.length : Int) - 1 - ((0 : Nat) : Int)) xs.length (ints (rv xs 0))) ?_ fun J hJ => ?_
  · refine WP.loop (H := fun k : Nat => h_slices_Reverseint_int_0 (k : Int) ((xs.length : Int) - 1 - (k : Int)) xs.length (ints (rv xs k))) (n := xs.length / 2) (fun _ => True) (fun k hk _ ih => WP.go _ (ih trivial) fun J hJ => ?_) (fun _ => WP.fin fun J => ?_) 0 (Nat.zero_le _) trivial
    · rw [eh_slices_Reverseint_int_0]
      have hl := rv_length xs k
      have e0 : (xs.length : Int) - 1 - (k : Int) = ((xs.length - 1 - k : Nat) : Int) := by omega
      have e1 : (xs.length : Int) - 1 - ((k + 1 : Nat) : Int) = ((xs.length - 1 - k : Nat) : Int) - 1 := by omega
      have h1 : k < (rv xs k).length := by omega
      have h2 : xs.length - 1 - k < (rv xs k).length := by omega
      rw [e1, ← rv_step xs (by omega) h1 h2] at hJ
      rw [e0]
      simp (disch := first | omega | (rw [List.length_set]; omega)) only [br_t, br_f, br_tf, br_lt, br_inR, idx1, br_isI, br_slotI, s_getI, ints_set, s_inc, s_sub]
      exact hJ
    · rw [eh_slices_Reverseint_int_0]
      simp (disch := omega) only [br_nlt, rv_end]
  · rw [e_slices_Reverseint_int]
    simp (disch := omega) only [s_ofN, s_sub]
    rw [rv_zero] at hJ
    have e : (xs.length : Int) - 1 - ((0 : Nat) : Int) = (xs.length : Int) - 1 := by omega
    rw [e] at hJ
    exact hJ

/-! ### chains -/
/-- The newest first. -/
def chn (log : List MRec) : Nat → Int → List Int
  | 0, _ => []
  | f + 1, n => if 1 ≤ n ∧ n ≤ log.length then n :: (if (log.getD (n - 1).toNat ⟨0, 0⟩).up < n then chn log f (log.getD (n - 1).toNat ⟨0, 0⟩).up else []) else []
theorem chn_out {log : List MRec} {n : Int} (h : ¬ (1 ≤ n ∧ n ≤ log.length)) : ∀ f, chn log f n = []
  | 0 => rfl
  | f + 1 => by rw [chn, if_neg h]
theorem chn_fuel {log : List MRec} : ∀ (f g : Nat) (n : Int), n ≤ f → n ≤ g → chn log f n = chn log g n
  | 0, g, n, hf, hg => by rw [chn_out (by omega), chn_out (by omega)]
  | f + 1, 0, n, hf, hg => by rw [chn_out (by omega), chn_out (by omega)]
  | f + 1, g + 1, n, hf, hg => by
    rw [chn, chn]
    split
    · split
      · rw [chn_fuel f g _ (by omega) (by omega)]
      · rfl
    · rfl
theorem chn_len {log : List MRec} : ∀ (f : Nat) (n : Int), ((chn log f n).length : Int) ≤ max n 0
  | 0, n => by simp [chn]; omega
  | f + 1, n => by
    rw [chn]
    split
    · split
      · have := chn_len (log := log) f (log.getD (n - 1).toNat ⟨0, 0⟩).up
        simp only [List.length_cons]
        omega
      · simp only [List.length_cons, List.length_nil]; omega
    · simp only [List.length_nil]; omega
theorem getD_get {α : Type} {l : List α} {i : Nat} (h : i < l.length) (d : α) : l.getD i d = l[i] := by simp [List.getD_eq_getElem?_getD, h]
theorem flatI {R : Type} {x y : R} (xs : List Int) : br (std.flat (ints xs)) x y = x := by
  have : std.flat (ints xs) = true := by simp [std, ints, flatC]
  rw [this]; rfl
theorem cellI {R : Type} {x y : R} (xs : List Int) : br (std.cell (ints xs)) x y = x := by
  have : std.cell (ints xs) = true := by simp [std, ints, cellish]
  rw [this]; rfl
theorem flatI1 {R : Type} {x y : R} (a : Int) : br (std.flat [.int .i64 a]) x y = x := flatI [a]
section
variable (g : Bool) (w : MWorld) (ok : OkWorld w)
include ok
theorem w_spec_Chain : ∀ (f : Nat) (n : Int) (out : List Int), n ≤ f → (out.length : Int) + max n 0 ≤ 1048576 ∨ ¬ (1 ≤ n ∧ n ≤ w.log.length) →
    WP 20 Try.f20 [.undef, .undef] 0 (h_spec_Chain_0 n g w.nodes.length (celz (eNode (some g)) w.nodes) g w.net.length (celz (eWire (some g)) w.net) g w.log.length (celz (eRec (some g)) w.log) g w.safe.length (ints w.safe) w.gen out.length (ints out)) (.sl none 1 ((chn w.log f n).reverse ++ out).length (ints ((chn w.log f n).reverse ++ out)), [.undef, .undef])
  | 0, n, out, hf, ho => by
    refine WP.fin fun J => ?_
    rw [eh_spec_Chain_0, chn_out (by omega)]
    simp (disch := omega) only [br_nlt, List.reverse_nil, List.nil_append]
  | f + 1, n, out, hf, ho => by
    have hlog := ok.log
    by_cases h1 : 1 ≤ n
    · by_cases h2 : n ≤ w.log.length
      · obtain ⟨m, rfl⟩ : ∃ m : Nat, n = (m : Int) + 1 := ⟨(n - 1).toNat, by omega⟩
        have hm : m < w.log.length := by omega
        have e1 : (m : Int) + 1 - 1 = (m : Int) := by omega
        have e2 : ints (((m : Int) + 1) :: out) = .int .i64 ((m : Int) + 1) :: ints out := rfl
        have e3 : (((m : Int) + 1) :: out).length = 1 + out.length := by rw [List.length_cons]; omega
        have hch : chn w.log (f + 1) ((m : Int) + 1) = ((m : Int) + 1) :: (if (w.log[m]).up < (m : Int) + 1 then chn w.log f (w.log[m]).up else []) := by
          rw [chn, if_pos ⟨h1, h2⟩, e1, Int.toNat_natCast, getD_get hm]
        rw [hch]
        by_cases h3 : (w.log[m]).up < (m : Int) + 1
        · rw [if_pos h3]
          have ih := w_spec_Chain f (w.log[m]).up (((m : Int) + 1) :: out) (by omega) (by rw [List.length_cons]; omega)
          have e4 : (((m : Int) + 1) :: chn w.log f (w.log[m]).up).reverse ++ out = (chn w.log f (w.log[m]).up).reverse ++ (((m : Int) + 1) :: out) := by simp
          rw [e4]
          rw [e2, e3] at ih
          refine WP.go _ ih fun J hJ => ?_
          rw [eh_spec_Chain_0]
          simp (disch := first | omega | assumption) only [br_t, br_f, br_tf, s_ofN, br_lt, br_le, br_nle, br_and, flatI, br_fits, s_sub, e1, br_inR, idxw, zK0_c, zK0_v, zK1_c, zK1_v]
          exact hJ
        · rw [if_neg h3]
          refine WP.fin fun J => ?_
          rw [eh_spec_Chain_0]
          simp (disch := first | omega | assumption) only [br_t, br_f, br_tf, s_ofN, br_lt, br_le, br_and, flatI, br_fits, s_sub, e1, br_inR, idxw, zK0_c, zK0_v, zK1_c, zK1_v]
          have e5 : [((m : Int) + 1)].reverse ++ out = ((m : Int) + 1) :: out := rfl
          rw [e5, e2, e3]
      · refine WP.fin fun J => ?_
        rw [eh_spec_Chain_0, chn_out (by omega)]
        simp (disch := omega) only [br_t, br_f, s_ofN, br_lt, br_nle, List.reverse_nil, List.nil_append]
    · refine WP.fin fun J => ?_
      rw [eh_spec_Chain_0, chn_out (by omega)]
      simp (disch := omega) only [br_nlt, List.reverse_nil, List.nil_append]
theorem w_impl_Chain : ∀ (f : Nat) (n : Int) (out : List Int), n ≤ f → 1 ≤ n → n ≤ w.log.length → (out.length : Int) + n ≤ 1048576 →
    WP 22 Try.f22 [.undef, .undef] 0 (h_impl_Chain_0 n g w.nodes.length (celz (eNode (some g)) w.nodes) g w.net.length (celz (eWire (some g)) w.net) g w.log.length (celz (eRec (some g)) w.log) g w.safe.length (ints w.safe) w.gen out.length (ints out)) (.sl none 1 (out ++ chn w.log f n).reverse.length (ints (out ++ chn w.log f n).reverse), [.undef, .undef])
  | 0, n, out, hf, h1, h2, ho => absurd hf (by omega)
  | f + 1, n, out, hf, h1, h2, ho => by
    have hlog := ok.log
    obtain ⟨m, rfl⟩ : ∃ m : Nat, n = (m : Int) + 1 := ⟨(n - 1).toNat, by omega⟩
    have hm : m < w.log.length := by omega
    have e1 : (m : Int) + 1 - 1 = (m : Int) := by omega
    have e2 : List.append (ints out) [.int .i64 ((m : Int) + 1)] = ints (out ++ [(m : Int) + 1]) := by simp [ints]
    have e3 : (out ++ [(m : Int) + 1]).length = out.length + 1 := by simp
    have hch : chn w.log (f + 1) ((m : Int) + 1) = ((m : Int) + 1) :: (if (w.log[m]).up < (m : Int) + 1 then chn w.log f (w.log[m]).up else []) := by
      rw [chn, if_pos ⟨h1, h2⟩, e1, Int.toNat_natCast, getD_get hm]
    rw [hch]
    have vf : ∀ t, cvP 38 [.int .i64 (w.log[m]).up, .int .i64 1, .int .i64 (m : Int)] t = feed t [.bool (decide (1 ≤ (w.log[m]).up ∧ (w.log[m]).up ≤ (m : Int)))] := fun t => cvP_eq (c_impl_from _ _ _) (by kernel_rfl) t
    by_cases h3 : 1 ≤ (w.log[m]).up ∧ (w.log[m]).up ≤ (m : Int)
    · have ih := w_impl_Chain f (w.log[m]).up (out ++ [(m : Int) + 1]) (by omega) h3.1 (by omega) (by rw [e3]; omega)
      rw [if_pos (by omega)]
      have e4 : out ++ ((m : Int) + 1) :: chn w.log f (w.log[m]).up = (out ++ [(m : Int) + 1]) ++ chn w.log f (w.log[m]).up := by simp
      rw [e4]
      rw [e3] at ih
      refine WP.go _ ih fun J hJ => ?_
      rw [eh_impl_Chain_0]
      simp (disch := first | omega | assumption) only [br_t, br_f, br_tf, br_ft, br_nb, br_and, flatI1, br_fits, s_sub, e1, br_inR, idxw, zK0_c, zK0_v, zK1_c, zK1_v, vf, feed_bool, feed_done, decide_eq_true h3, e2]
      exact hJ
    · have e4 : (if (w.log[m]).up < (m : Int) + 1 then chn w.log f (w.log[m]).up else []) = [] := by
        split
        · exact chn_out (by omega) f
        · rfl
      rw [e4]
      have vr : ∀ t, cvP 59 [.sl none 1 (out.length + 1) (ints (out ++ [(m : Int) + 1]))] t = feed t [.sl none 1 (out.length + 1) (ints (out ++ [(m : Int) + 1]).reverse)] := fun t => by
        have := c_ReverseI (out ++ [(m : Int) + 1]) (by rw [e3]; omega)
        rw [e3] at this
        exact cvP_eq this (by kernel_rfl) t
      refine WP.fin fun J => ?_
      rw [eh_impl_Chain_0]
      simp (disch := first | omega | assumption) only [br_t, br_f, br_tf, br_ft, br_nb, br_and, flatI1, br_fits, s_sub, e1, br_inR, idxw, zK0_c, zK0_v, zK1_c, zK1_v, vf, feed_bool, feed_sl, feed_done, decide_eq_false h3, e2, vr, s_nlI, br_neq']
      rw [List.length_reverse, e3]
theorem c_spec_Chain (n : Int) : Cm 20 [.agg (eWorld (some g) w), .int .i64 n] (.sl none 1 (chn w.log w.log.length n).reverse.length (ints (chn w.log w.log.length n).reverse), [.undef, .undef]) := by
  have hlog := ok.log
  have hw := w_spec_Chain g w ok (max n 0).toNat n [] (by omega) (by simp only [List.length_nil]; omega)
  have hf : chn w.log (max n 0).toNat n = chn w.log w.log.length n := by
    by_cases h : 1 ≤ n ∧ n ≤ w.log.length
    · exact chn_fuel _ _ n (by omega) (by omega)
    · rw [chn_out h, chn_out h]
  rw [hf, List.append_nil] at hw
  refine Cm.go k_spec_Chain [.undef, .undef] 0 _ hw fun J hJ => ?_
  rw [e_spec_Chain]
  exact hJ
theorem c_impl_Chain (n : Int) : Cm 22 [.agg (eWorld (some g) w), .int .i64 n] (.sl none 1 (chn w.log w.log.length n).reverse.length (ints (chn w.log w.log.length n).reverse), [.undef, .undef]) := by
  have hlog := ok.log
  by_cases h : 1 ≤ n ∧ n ≤ w.log.length
  · have hw := w_impl_Chain g w ok w.log.length n [] (by omega) h.1 h.2 (by simp only [List.length_nil]; omega)
    rw [List.nil_append] at hw
    refine Cm.go k_impl_Chain [.undef, .undef] 0 _ hw fun J hJ => ?_
    rw [e_impl_Chain]
    simp only [s_ofN, v_impl_from, feed_bool, feed_done, decide_eq_true h, br_ft, br_nb, br_t]
    exact hJ
  · refine Cm.fin k_impl_Chain fun J => ?_
    rw [e_impl_Chain, chn_out h]
    simp only [s_ofN, v_impl_from, feed_bool, feed_done, decide_eq_false h, br_ft, br_nb, br_f]
    rfl
end

/-! ### cells -/
theorem c_CloneI (g : Bool) (xs : List Int) (hb : xs.length ≤ 17592186044416) : Cm 86 [.sl (some g) 1 xs.length (ints xs)] (.sl none 1 xs.length (ints xs), [.undef]) := by
  refine runs_ext (e := cloneE 1 8) (by kernel_rfl) ?_
  have h : (ints xs).all flatC = true := by simp [ints, flatC]
  simp only [cloneE, h]
  rw [if_pos (by refine ⟨?_, ?_, ?_, ?_⟩ <;> first | trivial | rfl | omega)]
def putI (xs : List Int) (at_ n : Int) : List Int := if 0 ≤ at_ ∧ at_ ≤ (xs.length : Int) - 1 then xs.set at_.toNat n else xs
theorem putI_length (xs : List Int) (a n : Int) : (putI xs a n).length = xs.length := by
  unfold putI
  split <;> simp
theorem c_impl_Put (g : Bool) (xs : List Int) (a n : Int) (hb : xs.length ≤ 17592186044416) : Cm 69 [.sl (some g) 1 xs.length (ints xs), .int .i64 a, .int .i64 n] (.sl none 1 xs.length (ints (putI xs a n)), [.undef, .undef, .undef]) := by
  have vc : ∀ t, cvP 86 [.sl (some g) 1 xs.length (ints xs)] t = feed t [.sl none 1 xs.length (ints xs)] := cvP_eq (c_CloneI g xs hb) (by kernel_rfl)
  refine Cm.fin k_impl_Put fun J => ?_
  rw [e_impl_Put]
  simp (disch := omega) only [vc, feed_sl, feed_bool, feed_done, s_nlI, br_t, br_tf, s_ofN, s_sub, v_impl_from]
  unfold putI
  by_cases h : 0 ≤ a ∧ a ≤ (xs.length : Int) - 1
  · obtain ⟨m, rfl⟩ : ∃ m : Nat, a = (m : Int) := ⟨a.toNat, by omega⟩
    rw [if_pos h]
    simp (disch := omega) only [decide_eq_true h, br_t, br_inR, idx1, br_slotI, ints_set, Int.toNat_natCast]
  · rw [if_neg h]
    simp only [decide_eq_false h, br_f]
theorem c_spec_Put (g : Bool) (xs : List Int) (a n : Int) (hb : xs.length ≤ 17592186044416) : Cm 67 [.sl (some g) 1 xs.length (ints xs), .int .i64 a, .int .i64 n] (.sl none 1 xs.length (ints (putI xs a n)), [.undef, .undef, .undef]) := by
  refine Cm.fin k_spec_Put fun J => ?_
  rw [e_spec_Put]
  simp (disch := omega) only [cellI, br_fits, br_and, Nat.zero_add, feed_bool, feed_done, br_t, s_ofN, s_sub, v_l1In]
  unfold putI
  by_cases h : 0 ≤ a ∧ a ≤ (xs.length : Int) - 1
  · obtain ⟨m, rfl⟩ : ∃ m : Nat, a = (m : Int) := ⟨a.toNat, by omega⟩
    rw [if_pos h]
    simp (disch := omega) only [decide_eq_true h, br_t, br_inR, idx1, br_slotI, ints_set, Int.toNat_natCast]
  · rw [if_neg h]
    simp only [decide_eq_false h, br_f]
theorem c_impl_ImageNew : Cm 68 [] (.sl none 1 8 (ints (List.replicate 8 0)), []) := by
  refine Cm.fin k_impl_ImageNew fun J => ?_
  rw [e_impl_ImageNew]
  rfl
theorem c_spec_ImageNew : Cm 66 [] (.sl none 1 8 (ints (List.replicate 8 0)), []) := by
  refine Cm.fin k_spec_ImageNew fun J => ?_
  rw [e_spec_ImageNew]
  rfl
/-- One write replayed. -/
def rp1 (log : List MRec) (m : List Int) (n : Int) : List Int := if 1 ≤ n ∧ n ≤ log.length then putI m (log.getD (n - 1).toNat ⟨0, 0⟩).cell n else m
def rpl (log : List MRec) (list : List Int) : List Int := list.foldl (rp1 log) (List.replicate 8 0)
theorem rp1_length (log : List MRec) (m : List Int) (n : Int) : (rp1 log m n).length = m.length := by
  unfold rp1
  split
  · exact putI_length _ _ _
  · rfl
theorem rpl_length (log : List MRec) : ∀ (l : List Int) (m : List Int), (l.foldl (rp1 log) m).length = m.length
  | [], _ => rfl
  | x :: l, m => by rw [List.foldl_cons, rpl_length log l, rp1_length]
theorem foldl_take {α β : Type} (f : β → α → β) (b : β) {l : List α} {i : Nat} (h : i < l.length) : (l.take (i + 1)).foldl f b = f ((l.take i).foldl f b) l[i] := by
  rw [← List.take_append_getElem h, List.foldl_append]
  rfl
theorem c_spec_Replay (g g' : Bool) (w : MWorld) (ok : OkWorld w) (list : List Int) (hl : list.length ≤ 17592186044416) (h64 : In64 list) : Cm 28 [.agg (eWorld (some g) w), .sl (some g') 1 list.length (ints list)] (.sl none 1 8 (ints (rpl w.log list)), [.undef, .undef]) := by
  have hlog := ok.log
  have vi : ∀ t, cvP 66 [] t = feed t [.sl none 1 8 (ints (List.replicate 8 0))] := cvP_eq c_spec_ImageNew (by kernel_rfl)
  refine Cm.go k_spec_Replay [.undef, .undef] 0 (h_spec_Replay_0 g' list.length (ints list) (0 : Nat) g w.nodes.length (celz (eNode (some g)) w.nodes) g w.net.length (celz (eWire (some g)) w.net) g w.log.length (celz (eRec (some g)) w.log) g w.safe.length (ints w.safe) w.gen 8 (ints ((list.take 0).foldl (rp1 w.log) (List.replicate 8 0)))) ?_ fun J hJ => ?_
  · refine WP.loop (H := fun i : Nat => h_spec_Replay_0 g' list.length (ints list) (i : Nat) g w.nodes.length (celz (eNode (some g)) w.nodes) g w.net.length (celz (eWire (some g)) w.net) g w.log.length (celz (eRec (some g)) w.log) g w.safe.length (ints w.safe) w.gen 8 (ints ((list.take i).foldl (rp1 w.log) (List.replicate 8 0)))) (n := list.length) (fun _ => True) (fun i hi _ ih => WP.go _ (ih trivial) fun J hJ => ?_) (fun _ => WP.fin fun J => ?_) 0 (Nat.zero_le _) trivial
    · rw [eh_spec_Replay_0]
      rw [foldl_take _ _ hi] at hJ
      have hx := in64_iff.1 (h64 _ (List.getElem_mem hi))
      have hlen := rpl_length w.log (list.take i) (List.replicate 8 0)
      simp (disch := first | omega | assumption) only [br_t, br_f, br_tf, s_ofN, br_lt, br_inR, idx1, br_isI, s_getI, v_l1In, feed_bool, feed_done, s_inc]
      by_cases h : 1 ≤ list[i] ∧ list[i] ≤ (w.log.length : Int)
      · obtain ⟨m, hm⟩ : ∃ m : Nat, list[i] = (m : Int) + 1 := ⟨(list[i] - 1).toNat, by omega⟩
        have hmm : m < w.log.length := by omega
        have e1 : (m : Int) + 1 - 1 = (m : Int) := by omega
        have hr : rp1 w.log ((list.take i).foldl (rp1 w.log) (List.replicate 8 0)) list[i] = putI ((list.take i).foldl (rp1 w.log) (List.replicate 8 0)) (w.log[m]).cell list[i] := by
          rw [rp1, if_pos h, hm, e1, Int.toNat_natCast, getD_get hmm]
        rw [hr] at hJ
        have e8 : (8 : Nat) = ((list.take i).foldl (rp1 w.log) (List.replicate 8 0)).length := by rw [hlen]; rfl
        have vp : ∀ t, cvP 67 [.sl (some true) 1 8 (ints ((list.take i).foldl (rp1 w.log) (List.replicate 8 0))), .int .i64 (w.log[m]).cell, .int .i64 list[i]] t = feed t [.sl none 1 8 (ints (putI ((list.take i).foldl (rp1 w.log) (List.replicate 8 0)) (w.log[m]).cell list[i]))] := fun t => by
          have := c_spec_Put true ((list.take i).foldl (rp1 w.log) (List.replicate 8 0)) (w.log[m]).cell list[i] (by rw [hlen]; simp)
          rw [← e8] at this
          exact cvP_eq this (by kernel_rfl) t
        have es : std.ar .sub .i64 list[i] 1 = (m : Int) := by rw [hm, s_sub (by omega) (by omega), e1]
        simp (disch := first | omega | assumption) only [decide_eq_true h, br_t, br_f, br_tf, es, br_inR, idxw, zK0_c, zK0_v, zK1_c, zK1_v, exTL_ints, vp, feed_sl, feed_done, s_nlI]
        exact hJ
      · have hr : rp1 w.log ((list.take i).foldl (rp1 w.log) (List.replicate 8 0)) list[i] = (list.take i).foldl (rp1 w.log) (List.replicate 8 0) := by rw [rp1, if_neg h]
        rw [hr] at hJ
        simp only [decide_eq_false h, br_f]
        exact hJ
    · rw [eh_spec_Replay_0, List.take_length]
      simp (disch := omega) only [s_ofN, br_nlt]
      rfl
  · rw [e_spec_Replay]
    simp only [vi, feed_sl, feed_done, s_nlI, br_t, br_tf]
    exact hJ
theorem c_impl_Replay (g g' : Bool) (w : MWorld) (ok : OkWorld w) (list : List Int) (hl : list.length ≤ 17592186044416) (h64 : In64 list) : Cm 30 [.agg (eWorld (some g) w), .sl (some g') 1 list.length (ints list)] (.sl none 1 8 (ints (rpl w.log list)), [.undef, .undef]) := by
  have hlog := ok.log
  have vi : ∀ t, cvP 68 [] t = feed t [.sl none 1 8 (ints (List.replicate 8 0))] := cvP_eq c_impl_ImageNew (by kernel_rfl)
  refine Cm.go k_impl_Replay [.undef, .undef] 0 (h_impl_Replay_0 g' list.length (ints list) list.length (0 : Nat) g w.nodes.length (celz (eNode (some g)) w.nodes) g w.net.length (celz (eWire (some g)) w.net) g w.log.length (celz (eRec (some g)) w.log) g w.safe.length (ints w.safe) w.gen 8 (ints ((list.take 0).foldl (rp1 w.log) (List.replicate 8 0)))) ?_ fun J hJ => ?_
  · refine WP.loop (H := fun i : Nat => h_impl_Replay_0 g' list.length (ints list) list.length (i : Nat) g w.nodes.length (celz (eNode (some g)) w.nodes) g w.net.length (celz (eWire (some g)) w.net) g w.log.length (celz (eRec (some g)) w.log) g w.safe.length (ints w.safe) w.gen 8 (ints ((list.take i).foldl (rp1 w.log) (List.replicate 8 0)))) (n := list.length) (fun _ => True) (fun i hi _ ih => WP.go _ (ih trivial) fun J hJ => ?_) (fun _ => WP.fin fun J => ?_) 0 (Nat.zero_le _) trivial
    · rw [eh_impl_Replay_0]
      rw [foldl_take _ _ hi] at hJ
      have hx := in64_iff.1 (h64 _ (List.getElem_mem hi))
      have hlen := rpl_length w.log (list.take i) (List.replicate 8 0)
      simp (disch := first | omega | assumption) only [br_t, br_f, br_tf, s_ofN, br_lt, br_inR, idx1, br_isI, s_getI, v_impl_from, feed_bool, feed_done, s_inc]
      by_cases h : 1 ≤ list[i] ∧ list[i] ≤ (w.log.length : Int)
      · obtain ⟨m, hm⟩ : ∃ m : Nat, list[i] = (m : Int) + 1 := ⟨(list[i] - 1).toNat, by omega⟩
        have hmm : m < w.log.length := by omega
        have e1 : (m : Int) + 1 - 1 = (m : Int) := by omega
        have hr : rp1 w.log ((list.take i).foldl (rp1 w.log) (List.replicate 8 0)) list[i] = putI ((list.take i).foldl (rp1 w.log) (List.replicate 8 0)) (w.log[m]).cell list[i] := by
          rw [rp1, if_pos h, hm, e1, Int.toNat_natCast, getD_get hmm]
        rw [hr] at hJ
        have e8 : (8 : Nat) = ((list.take i).foldl (rp1 w.log) (List.replicate 8 0)).length := by rw [hlen]; rfl
        have vp : ∀ t, cvP 69 [.sl (some true) 1 8 (ints ((list.take i).foldl (rp1 w.log) (List.replicate 8 0))), .int .i64 (w.log[m]).cell, .int .i64 list[i]] t = feed t [.sl none 1 8 (ints (putI ((list.take i).foldl (rp1 w.log) (List.replicate 8 0)) (w.log[m]).cell list[i]))] := fun t => by
          have := c_impl_Put true ((list.take i).foldl (rp1 w.log) (List.replicate 8 0)) (w.log[m]).cell list[i] (by rw [hlen]; simp)
          rw [← e8] at this
          exact cvP_eq this (by kernel_rfl) t
        have es : std.ar .sub .i64 list[i] 1 = (m : Int) := by rw [hm, s_sub (by omega) (by omega), e1]
        simp (disch := first | omega | assumption) only [decide_eq_true h, br_t, br_f, br_tf, es, br_inR, idxw, zK0_c, zK0_v, zK1_c, zK1_v, exTL_ints, vp, feed_sl, feed_done, s_nlI]
        exact hJ
      · have hr : rp1 w.log ((list.take i).foldl (rp1 w.log) (List.replicate 8 0)) list[i] = (list.take i).foldl (rp1 w.log) (List.replicate 8 0) := by rw [rp1, if_neg h]
        rw [hr] at hJ
        simp only [decide_eq_false h, br_f]
        exact hJ
    · rw [eh_impl_Replay_0, List.take_length]
      simp (disch := omega) only [br_nlt]
      rfl
  · rw [e_impl_Replay]
    simp only [vi, feed_sl, feed_done, s_nlI, br_t, br_tf]
    exact hJ
end Go.Proofs.Ytkejckoefjonjaa

namespace Go.Proofs.Ytkejckoefjonjaa
set_option maxRecDepth 100000
section
variable (pr : Prims) (cv : Cv Rz) (J : Nat → St → Option Rz)
theorem k_laws_FnExactReplay : Told cfg Try.prog 6 Try.f6 := ⟨by kernel_rfl, Try.func6, by kernel_rfl⟩
theorem e_laws_FnExactReplay (g0 : Bool) (n0 : Nat) (c0 : List D) (g1 : Bool) (n1 : Nat) (c1 : List D) (g2 : Bool) (n2 : Nat) (c2 : List D) (g3 : Bool) (n3 : Nat) (c3 : List D) (a4 : Int) (g5 : Bool) (n5 : Nat) (c5 : List D) : RunJ pr cv J 6 Try.f6 [(.agg [(.sl (some g0) 16 n0 c0), (.sl (some g1) 3 n1 c1), (.sl (some g2) 2 n2 c2), (.sl (some g3) 1 n3 c3), (.int .i64 a4)]), (.sl (some g5) 1 n5 c5)] =
    let y1 : Option (D × List D) := (some ((.bool true), [.undef, .undef]))
    let y2 : D := (.agg [(.sl (some g0) 16 n0 c0), (.sl (some g1) 3 n1 c1), (.sl (some g2) 2 n2 c2), (.sl (some g3) 1 n3 c3), (.int .i64 a4)])
    let y3 : List D := [y2]
    let y4 : Option (D × List D) := (some ((.bool false), [.undef, .undef]))
    (br (pr.lt 1048576 (pr.ofN n5)) y1 (cv 19 [y2, (.int .i64 1048576)] (.int (fun vx0 => (.done (br (pr.lt vx0 0) y1 (cv 21 y3 (.sl (fun vn1 => (fun vc2 => (.sl (fun vn3 => (fun vc4 => (.sl (fun vn5 => (fun vc6 => (.sl (fun vn7 => (fun vc8 => (.int (fun vx9 => (.done (br (br (br (pr.nl vc2) (br (pr.nl vc4) (br (pr.nl vc6) (br (pr.nl vc8) true false) false) false) false) true false) (cv 29 [(.sl (some g5) 1 n5 c5)] (.sl (fun vn10 => (fun vc11 => (.done (br (br (br (pr.nl vc11) true false) true false) (cv 28 [(.agg [(.sl (some true) 16 vn1 (exTL true vc2)), (.sl (some true) 3 vn3 (exTL true vc4)), (.sl (some true) 2 vn5 (exTL true vc6)), (.sl (some true) 1 vn7 (exTL true vc8)), (.int .i64 vx9)]), (.sl (some true) 1 vn10 (exTL true vc11))] (.sl (fun vn12 => (fun vc13 => (.done (br (br (br (pr.nl vc13) true false) true false) (cv 21 y3 (.sl (fun vn14 => (fun vc15 => (.sl (fun vn16 => (fun vc17 => (.sl (fun vn18 => (fun vc19 => (.sl (fun vn20 => (fun vc21 => (.int (fun vx22 => (.done (br (br (br (pr.nl vc15) (br (pr.nl vc17) (br (pr.nl vc19) (br (pr.nl vc21) true false) false) false) false) true false) (cv 29 [(.sl (some g5) 1 n5 c5)] (.sl (fun vn23 => (fun vc24 => (.done (br (br (br (pr.nl vc24) true false) true false) (cv 30 [(.agg [(.sl (some true) 16 vn14 (exTL true vc15)), (.sl (some true) 3 vn16 (exTL true vc17)), (.sl (some true) 2 vn18 (exTL true vc19)), (.sl (some true) 1 vn20 (exTL true vc21)), (.int .i64 vx22)]), (.sl (some true) 1 vn23 (exTL true vc24))] (.sl (fun vn25 => (fun vc26 => (.done (br (br (br (pr.nl vc26) true false) true false) (cv 23 [(.sl (some true) 1 vn25 (exTL true vc26)), (.sl (some true) 1 vn12 (exTL true vc13))] (.bool (fun vb27 => (.done (br (br vb27 false true) y4 (cv 21 y3 (.sl (fun vn28 => (fun vc29 => (.sl (fun vn30 => (fun vc31 => (.sl (fun vn32 => (fun vc33 => (.sl (fun vn34 => (fun vc35 => (.int (fun vx36 => (.done (br (br (br (pr.nl vc29) (br (pr.nl vc31) (br (pr.nl vc33) (br (pr.nl vc35) true false) false) false) false) true false) (cv 24 [(.agg [(.sl (some true) 16 vn14 (exTL true vc15)), (.sl (some true) 3 vn16 (exTL true vc17)), (.sl (some true) 2 vn18 (exTL true vc19)), (.sl (some true) 1 vn20 (exTL true vc21)), (.int .i64 vx22)]), (.agg [(.sl (some true) 16 vn28 (exTL true vc29)), (.sl (some true) 3 vn30 (exTL true vc31)), (.sl (some true) 2 vn32 (exTL true vc33)), (.sl (some true) 1 vn34 (exTL true vc35)), (.int .i64 vx36)])] (.bool (fun vb37 => (.done (br (br vb37 false true) y4 (cv 29 [(.sl (some g5) 1 n5 c5)] (.sl (fun vn38 => (fun vc39 => (.done (br (br (br (pr.nl vc39) true false) true false) (cv 23 [(.sl (some true) 1 vn23 (exTL true vc24)), (.sl (some true) 1 vn38 (exTL true vc39))] (.bool (fun vb40 => (.done (br (br vb40 false true) y4 (br (br (br (pr.nl vc15) (br (pr.nl vc17) (br (pr.nl vc19) (br (pr.nl vc21) true false) false) false) false) true false) (cv 25 [(.agg [(.sl none 16 vn14 vc15), (.sl none 3 vn16 vc17), (.sl none 2 vn18 vc19), (.sl none 1 vn20 vc21), (.int .i64 vx22)]), (.int .i64 1)] (.int (fun vx41 => (.sl (fun vn42 => (fun vc43 => (.sl (fun vn44 => (fun vc45 => (.sl (fun vn46 => (fun vc47 => (.sl (fun vn48 => (fun vc49 => (.int (fun vx50 => (.done (br (br (br (pr.nl vc43) (br (pr.nl vc45) (br (pr.nl vc47) (br (pr.nl vc49) true false) false) false) false) true false) (br (br (br (pr.neq vn14 vn42) (br (pr.neq vn16 vn44) (br (pr.neq vn18 vn46) (br (pr.neq vn20 vn48) true false) false) false) false) true false) (br (br (br (pr.nl vc24) true false) true false) (cv 26 [(.sl none 1 vn23 vc24), (.int .i64 vx41)] (.int (fun vx51 => (.sl (fun vn52 => (fun vc53 => (.done (br (br (br (pr.nl vc53) true false) true false) (br (br (br (pr.neq vn23 vn52) true false) true false) (br (pr.lt vx51 0) y4 (cv 23 [(.sl (some true) 1 vn25 (exTL true vc26)), (.sl (some true) 1 vn12 (exTL true vc13))] (.bool (fun vb54 => (.done (br (br vb54 false true) y4 (br (br (br (pr.nl vc26) true false) true false) (cv 26 [(.sl none 1 vn25 vc26), (.int .i64 1)] (.int (fun vx55 => (.sl (fun vn56 => (fun vc57 => (.done (br (br (br (pr.nl vc57) true false) true false) (br (br (br (pr.neq vn25 vn56) true false) true false) (cv 27 [(.sl (some true) 1 vn56 (exTL true vc57)), (.int .i64 1)] (.int (fun vx58 => (.done (br (pr.lt vx58 0) y4 (br (br (pr.eq vx58 vx55) false true) y4 (cv 21 y3 (.sl (fun vn59 => (fun vc60 => (.sl (fun vn61 => (fun vc62 => (.sl (fun vn63 => (fun vc64 => (.sl (fun vn65 => (fun vc66 => (.int (fun vx67 => (.done (br (br (br (pr.nl vc60) (br (pr.nl vc62) (br (pr.nl vc64) (br (pr.nl vc66) true false) false) false) false) true false) (cv 29 [(.sl (some g5) 1 n5 c5)] (.sl (fun vn68 => (fun vc69 => (.done (br (br (br (pr.nl vc69) true false) true false) (cv 30 [(.agg [(.sl (some true) 16 vn59 (exTL true vc60)), (.sl (some true) 3 vn61 (exTL true vc62)), (.sl (some true) 2 vn63 (exTL true vc64)), (.sl (some true) 1 vn65 (exTL true vc66)), (.int .i64 vx67)]), (.sl (some true) 1 vn68 (exTL true vc69))] (.sl (fun vn70 => (fun vc71 => (.done (br (br (br (pr.nl vc71) true false) true false) (cv 23 [(.sl (some true) 1 vn70 (exTL true vc71)), (.sl (some true) 1 vn12 (exTL true vc13))] (.bool (fun vb72 => (.done (br (br vb72 false true) y4 (cv 27 [(.sl (some true) 1 vn56 (exTL true vc57)), (.int .i64 1)] (.int (fun vx73 => (.done (br (pr.lt vx73 0) y4 (br (br (pr.eq vx73 vx55) false true) y4 y1))))))))))) none)))))) none)))))) none))))))))))))))))))))))) none) none)))))))) none))))))) none) none)))))))) none) none) none))))))))))))))))))) none)))))) none))))))))))) none)))))))))))))))))))))) none)))))) none)))))) none))))))))))))))))) none)))))) none)))))) none))))))))))))))))))))))) := by kernel_rfl
end
theorem c_FnExactReplay (w : MWorld) (ln : LnWorld w) (hi : InWorld w) (list : List Int) (hl : list.length ≤ 17592186044416) (h64 : In64 list) : Cm 6 [.agg (eWorld (some false) w), sI (some false) list] (.bool true, [.undef, .undef]) := by
  have _ := hi
  refine Cm.fin k_laws_FnExactReplay fun J => ?_
  rw [e_laws_FnExactReplay]
  by_cases hll : list.length ≤ 1048576
  · have a1 := szWorldF_ok (w := w) (l := 1048576) (by omega) (by omega)
    simp (disch := first | omega | assumption) only [s_ofN, br_nlt, v_szWorld, feed_int, feed_done]
    by_cases hv : szWorldF w 1048576 < 0
    · rw [br_lt hv]
    · have ok : OkWorld w := a1.2.2 (by omega)
      rw [br_nlt (by omega)]
      have t1 := totNs_le ok.nodes ok.node; have t2 := totWs_le ok.net ok.wire; have t3 := ok.safe; have t4 := ok.log
      have htot : 0 ≤ totWorld w := by unfold totWorld; omega
      have htot2 : totWorld w ≤ 2305854520000000000 := by unfold totWorld; omega
      have vs : ∀ g g' t, cvP 28 [.agg (eWorld (some g) w), .sl (some g') 1 list.length (ints list)] t = feed t [.sl none 1 8 (ints (rpl w.log list))] := fun g g' => cvP_eq (c_spec_Replay g g' w ok list hl h64) (by kernel_rfl)
      have vi : ∀ g g' t, cvP 30 [.agg (eWorld (some g) w), .sl (some g') 1 list.length (ints list)] t = feed t [.sl none 1 8 (ints (rpl w.log list))] := fun g g' => cvP_eq (c_impl_Replay g g' w ok list hl h64) (by kernel_rfl)
      have vm : ∀ t, cvP 25 [.agg (eWorld none w), .int .i64 1] t = feed t (.int .i64 (1 + totWorld w) :: eWorld none (mkWorld 1 w)) := cvP_eq (c_markWorld w 1 (by omega) (by omega) ok) (by kernel_rfl)
      have hz8 : (rpl w.log list).length = 8 := by unfold rpl; rw [rpl_length]; rfl
      generalize rpl w.log list = z at vs vi hz8
      have vh : ∀ g t, cvP 27 [.sl (some g) 1 8 (ints (mkI 1 8)), .int .i64 1] t = feed t [.int .i64 (1 + ((8 : Nat) : Int))] := fun g => cvP_eq (c_heldIntS g 1 8 (by omega) (by omega)) (by kernel_rfl)
      have ve : ∀ g g' t, cvP 23 [.sl (some g) 1 8 (ints z), .sl (some g') 1 8 (ints z)] t = feed t [.bool true] := fun g g' t => by
        have := v_eqIntS t g g' z z (by omega)
        rw [hz8] at this
        simpa using this
      have vk : ∀ t, cvP 26 [.sl none 1 8 (ints z), .int .i64 1] t = feed t [.int .i64 (1 + ((8 : Nat) : Int)), .sl none 1 8 (ints (mkI 1 8))] := fun t => by
        have := v_markIntS t 8 z 1 hz8.symm (by omega) (by omega)
        rw [hz8] at this
        exact this
      simp (disch := first | omega | exact ok | assumption) only [v_toWorld, v_toIntS, vs, vi, vm, vh, ve, vk, feed_int, feed_bool, feed_sl, feed_done, br_t, br_f, br_tf, br_ft, br_nb, br_or, s_nlI, s_nlN, s_nlW, s_nlK, exTL_ints, exTL_N, exTL_W, exTL_K, v_eqWorld, v_eqIntS, decide_true, v_markIntS, br_nlt, br_neq', br_eq, mkI_length]
      simp only [br_and, mkWorld]
      rw [br_neq' (mkNs_length 1 w.nodes).symm, br_neq' (mkWs_length _ w.net).symm, br_neq' (mkKs_length _ w.log).symm, br_neq' (mkI_length _ w.safe.length).symm]
  · simp (disch := omega) only [s_ofN, br_lt]
end Go.Proofs.Ytkejckoefjonjaa

namespace Go.Proofs.Ytkejckoefjonjaa.fnExactReplay
open Go.ChangeShapes Go.WideShapes Go.ChangeAt Go.RowKit
set_option maxRecDepth 100000

theorem own : ownKnob Try.prog.godebug = none := by kernel_rfl
theorem laidOut : laidOutB Try.prog = true := by kernel_rfl
theorem lifted (os : Os) (started : os.Started) (H : Type) (enc : TypeId × Value → H) :
    ReturnsInHanded {} Try.checked os 6 .any (Rows.fnExactReplaySpec.pre6 enc Try.prog Try.f6 Rows.fnExactReplayRow.domain false) (Rows.fnExactReplaySpec.post enc Try.prog Try.f6 false true false false) := by
  refine returnsInHanded_of_change_sized (C := Try.checked) own started (by kernel_rfl) Try.func6
    (ChangeSpec.witness6 (enc := enc) (C := Try.checked) false ⟨#[], #[.agg #[.slice none 0 0, .slice none 0 0, .slice none 0 0, .slice none 0 0, .int .i64 0], .slice none 0 0], []⟩ 8 (by kernel_rfl) (by kernel_rfl) (by kernel_rfl) (by kernel_rfl)) ?_
  intro W base args ds gs before hval0 hW hcnd hsz0 _
  have hsz : (DataW.weightsEach Try.prog (Try.f6.params.toList ++ Rows.fnExactReplaySpec.plain.varTypes Try.prog) (ds ++ gs)).all (· ≤ reachBytes) = true := hsz0
  have hval : ∀ (j : Nat) t v, Try.f6.params[j]? = some t → args[j]? = some v → Value.okWide Try.prog W .any base t v := hval0
  have hW' := hW
  obtain ⟨p, q, hA0, hV, rfl, hfz, hnd⟩ := hW
  have hA : DataW.TrodAll enc Try.prog W 0 (fun _ => true) true Try.f6.params.toList args.toList ds p := hA0
  rw [Try.params6] at hA hval hsz
  obtain ⟨v0, vs0, d0, ds0, p0, q0, hargs0, rfl, rfl, h0, r0⟩ := trodAll_cons hA
  obtain ⟨v1, vs1, d1, ds1, p1, q1, hargs1, rfl, rfl, h1, r1⟩ := trodAll_cons r0
  obtain ⟨rfl, rfl, rfl⟩ := trodAll_nil r1
  obtain rfl : args = #[v0, v1] := by cases args; simp_all
  obtain ⟨rfl, rfl⟩ := trodVars_none hV
  have k0 := h0
  have lt0 : ∀ x ∈ p0, x.block < W.heap.size := by obtain ⟨m, hm⟩ := k0; exact DataW.trod_lt m _ _ _ hm
  obtain ⟨us0, rfl, _⟩ := okWide_struct Try.underlying53 (hval 0 53 v0 rfl rfl)
  obtain ⟨fuel0, hf0⟩ := h0
  have hz0 : ∀ z ∈ d0.weights Try.prog 53, z ≤ reachBytes := fun z hz => by
    have := List.all_eq_true.1 hsz z (DataW.weights_mem_each (j := 0) (t := 53) (d := d0) rfl rfl z hz)
    simpa using this
  obtain ⟨cells0, hwt0, hext0⟩ := read_ok (X := Lk W [] (fun _ => True)) lk_all shWorld hf0 (by kernel_rfl) hz0
  obtain ⟨w0, rfl, lw0, iw0⟩ := wt_world hwt0
  have k1 := h1
  have lt1 : ∀ x ∈ p1, x.block < W.heap.size := by obtain ⟨m, hm⟩ := k1; exact DataW.trod_lt m _ _ _ hm
  obtain ⟨sa1, sn1, sc1, rfl⟩ := okWide_slice Try.underlying22 (hval 1 22 v1 rfl rfl)
  obtain ⟨fuel1, hf1⟩ := h1
  have hz1 : ∀ z ∈ d1.weights Try.prog 22, z ≤ reachBytes := fun z hz => by
    have := List.all_eq_true.1 hsz z (DataW.weights_mem_each (j := 1) (t := 22) (d := d1) rfl rfl z hz)
    simpa using this
  obtain ⟨cells1, hwt1, hext1⟩ := read_ok (X := Lk W [] (fun _ => True)) lk_all shI hf1 (by kernel_rfl) hz1
  obtain ⟨y1, rfl, ly1, iy1⟩ := wt_I hwt1
  clear hA0 hval0 hsz0 hsz
  refine (law_calls good (f := 6) (vs := #[.agg us0, .slice sa1 sn1 sc1]) (by kernel_rfl) (c_FnExactReplay w0 lw0 iw0 y1 ly1 iy1) (by simp [okR, outCells, flatD, plainC, noLent]) (.cons (tva_agg hext0) (.cons (tva_one hext1 (by simp) (by simp)) .nil))).mono fun e W' ⟨he, bel⟩ => ?_
  subst he
  exact ⟨_, rfl, _, _, _, [], _, [], hW', trodAll_mk1 (shut_bool Try.underlying4 _), trodAll_mk2 (Below.trod laidOut (by kernel_rfl) (of_decide_eq_true (by kernel_rfl)) k0 bel lt0) (Below.trod laidOut (by kernel_rfl) (of_decide_eq_true (by kernel_rfl)) k1 bel lt1), rfl, bel.frame _, fun h => by cases h⟩
theorem over : Rows.fnExactReplayRow.holds Try.pinned (OpenSpec.ofChange Rows.fnExactReplaySpec) :=
  OpenClaim.holds_of_wide 6 Try.f6 rfl rfl rfl rfl rfl rfl rfl ⟨rfl, rfl, rfl, rfl, rfl⟩ rfl rfl rfl rfl rfl (by kernel_rfl) Try.func6 (by kernel_rfl)
    (of_decide_eq_true (by kernel_rfl)) (by unfold Func.isWrapper; first | (rw [if_pos (by decide +kernel)]; kernel_rfl) | (rw [if_neg (by decide +kernel)]; exact ⟨rfl, rfl⟩))
    (fun os started H enc _ => lifted os started H enc)
theorem proved : Rows.FnExactReplaySaid := over
#print axioms proved
end Go.Proofs.Ytkejckoefjonjaa.fnExactReplay
namespace Go.Proofs.Ytkejckoefjonjaa
/-- The row, under a short name, for the claim. -/
theorem fnExactReplay_holds : Rows.FnExactReplaySaid := fnExactReplay.proved
end Go.Proofs.Ytkejckoefjonjaa
