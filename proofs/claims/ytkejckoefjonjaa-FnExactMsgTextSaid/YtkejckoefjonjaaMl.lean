/- FnExactMsgText: the program's MsgText returns what the reference's returns, for all messages. Condition: none. -/
import Derived.Shelf.Strings.OnBuilder
import Derived.Test.YtkejckoefjonjaaChecked
import Derived.KernelRfl
import Derived.SizedLaws
import Derived.ChangeOld
import Derived.Test.YtkejckoefjonjaaRows
import Derived.WalkKit
import Derived.ProofKit
import Derived.OpenShut
import Derived.ShutString
import Derived.Below
import Derived.Carry
import Derived.Test.YtkejckoefjonjaaMc
namespace Go.Proofs.Ytkejckoefjonjaa
open Go.RowKit Go.Shelf

theorem ains_none {w : World} {X : Bool → Nat → Prop} : ∀ {b : List Bool} {ds : List D} {us : List Value} {az : List Arg}, AIns w X b ds us az → b.any id = false → (∀ a ∈ az, a = (none, [])) ∧ az.length = ds.length ∧ All2 (fun d u => ∀ S, TVa w X S d u) ds us
  | _, [], _, _, h, _ => by obtain ⟨rfl, rfl⟩ := h; exact ⟨by simp, rfl, .nil⟩
  | b, d :: ds, _, _, h, hn => by
    obtain ⟨u, us', a, az', rfl, rfl, h1, h2⟩ := h
    have hb : b.headD false = false ∧ b.tail.any id = false := by
      cases b with
      | nil => simp
      | cons x xs => simpa using hn
    rw [hb.1] at h1
    obtain ⟨g1, g2, g3⟩ := ains_none h2 hb.2
    refine ⟨fun x hx => ?_, by simp [g2], .cons h1.2 g3⟩
    simp only [List.mem_cons] at hx
    rcases hx with rfl | hx
    · exact h1.1
    · exact g1 x hx
theorem argsFt_none : ∀ {az : List Arg}, (∀ a ∈ az, a = (none, [])) → argsFt az = []
  | [], _ => rfl
  | a :: az, h => by
    have := h a (by simp)
    subst this
    show [] ++ ftsT [] ++ argsFt az = []
    rw [argsFt_none (fun b hb => h b (by simp [hb]))]
    rfl
theorem aouts_none {w' : World} : ∀ {b : List Bool} {az : List Arg}, b.any id = false → (∀ a ∈ az, a = (none, [])) → AOuts w' b (az.map fun _ => D.undef) az az
  | _, [], _, _ => ⟨rfl, rfl⟩
  | b, a :: az, hn, h => by
    have hb : b.headD false = false ∧ b.tail.any id = false := by
      cases b with
      | nil => simp
      | cons x xs => simpa using hn
    refine ⟨.undef, _, a, az, rfl, rfl, ?_, aouts_none hb.2 (fun x hx => h x (by simp [hx]))⟩
    rw [hb.1]
    exact h a (by simp)
/-- A function that hands back a plain value and leaves all as it was. -/
theorem post_plain {w w' : World} {Y : Nat → Prop} {own : List Bool} {ds : List D} {us : List Value} {az : List Arg} {v : Value} {r : D} (h : CallPre w Y own ds us az) (hn : own.any id = false) (hb : Below w.heap.size w w')
    (hr : ∃ t, r = t.er ∧ v = t.val ∧ t.er ≠ .undef ∧ (∀ cs, t.er ≠ .pbox cs) ∧ (∀ cs, t.er ≠ .tup cs) ∧ (∀ cs, t.er ≠ .agg cs) ∧ (ftsT [t]).Nodup ∧ (∀ k ∈ ftsT [t], w.heap.size ≤ k ∧ k < w'.heap.size) ∧ SatL w' (fun b k => Lk w' (ftsT [t]) (fun k => Y k ∨ w.heap.size ≤ k) b k) [t]) :
    CallPost w w' Y own az r (az.map fun _ => .undef) v := by
  obtain ⟨h1, h2, _⟩ := ains_none h.args hn
  have ha := argsFt_none h1
  obtain ⟨t, rfl, rfl, _, h3, h4, h5, h6, h7, h8⟩ := hr
  refine ⟨hb.size, fun k hk _ => hb.block k hk, hb.os, hb.tape, hb.output, [t], az, ?_, aouts_none hn h1, ?_, ?_, ?_, ?_⟩
  · have : FlatA t.er t.val [t] := by
      cases he : t.er with
      | agg cs => exact absurd he (h5 cs)
      | _ => exact ⟨t, rfl, he.symm, rfl⟩
    cases he : t.er with
    | pbox cs => exact absurd he (h3 cs)
    | tup cs => exact absurd he (h4 cs)
    | _ => rw [he] at this; exact this
  · rw [ha, List.append_nil]; exact h6
  · rw [ha, List.append_nil]
    intro k hk
    exact ⟨(h7 k hk).2, .inr (h7 k hk).1⟩
  · rw [ha, List.append_nil]
    refine satL_sub ?_ _ h8
    rintro b k ⟨g1, g2, g3⟩
    exact ⟨g1, g2, fun hb => (g3 hb).elim .inl (fun h => .inr (.inr h))⟩
  · intro a haa
    rw [h1 a haa]
    trivial
def strOf : D → Option ByteArray
  | .str s => some s
  | _ => none
/-- strings.Join. -/
def joinE : List D → Option (D × List D)
  | [.sl _ s _ cs, .str sep] => if s = 1 then (match mapO strOf cs with
    | some xs => if (Lib.join (xs.map (·.data.toList)) sep.data.toList).length ≤ 140737488355328 ∧ xs.length ≤ 140737488355328 then some (.str ⟨(Lib.join (xs.map (·.data.toList)) sep.data.toList).toArray⟩, [.undef, .undef]) else none
    | none => none) else none
  | _ => none
theorem mapO_get {α β : Type} {f : α → Option β} : ∀ {l : List α} {r : List β}, mapO f l = some r → l.length = r.length ∧ ∀ (i : Nat) (y : β), r[i]? = some y → ∃ x, l[i]? = some x ∧ f x = some y
  | [], r, h => by simp only [mapO, Option.some.injEq] at h; subst h; exact ⟨rfl, by simp⟩
  | a :: l, r, h => by
    simp only [mapO] at h
    split at h
    case h_2 => simp at h
    rename_i b hb
    split at h
    case h_2 => simp at h
    rename_i bs hbs
    simp only [Option.some.injEq] at h
    subst h
    obtain ⟨h1, h2⟩ := mapO_get hbs
    refine ⟨by simp [h1], fun i y hy => ?_⟩
    cases i with
    | zero => simp only [List.getElem?_cons_zero, Option.some.injEq] at hy; subst hy; exact ⟨a, rfl, hb⟩
    | succ i => simp only [List.getElem?_cons_succ] at hy ⊢; exact h2 i y hy
theorem str_post {w' : World} {Y : Nat → Prop} {w : World} (s : ByteArray) : ∃ t : T, D.str s = t.er ∧ Value.string s = t.val ∧ t.er ≠ .undef ∧ (∀ cs, t.er ≠ .pbox cs) ∧ (∀ cs, t.er ≠ .tup cs) ∧ (∀ cs, t.er ≠ .agg cs) ∧ (ftsT [t]).Nodup ∧ (∀ k ∈ ftsT [t], w.heap.size ≤ k ∧ k < w'.heap.size) ∧ SatL w' (fun b k => Lk w' (ftsT [t]) (fun k => Y k ∨ w.heap.size ≤ k) b k) [t] :=
  ⟨.v (.str s) (.string s), rfl, rfl, by simp [T.er, leafD], by simp [T.er, leafD], by simp [T.er, leafD], by simp [T.er, leafD], by simp [ftsT, T.ft], by simp [ftsT, T.ft], by simp [SatL, SatT, leafD, Ext]⟩
section
variable {P : Program} {ρ : Ren}
theorem join_ok (L : Lays.n156 P ρ) (X : Builder.Extra P ρ) (hf : FnOk P (ρ.f 156)) {own : List Bool} (hn : own.any id = false) {ds : List D} {r : D} {outs : List D} (h : joinE ds = some (r, outs)) :
    FnOk P (ρ.f 156) ∧ ∀ (w : World) (Y : Nat → Prop) (us : Array Value) (az : List Arg), CallPre w Y own ds us.toList az → okR r = true → (∀ o ∈ outs, okR o = true) →
      Calls P (ρ.f 156) us w fun e w' => ∃ v, e = .returned v ∧ CallPost w w' Y own az r outs v := by
  refine ⟨hf, fun w Y us az hp _ _ => ?_⟩
  unfold joinE at h
  split at h
  case h_2 => simp at h
  rename_i g s n cs sep
  split at h
  case isFalse => simp at h
  rename_i hs
  subst hs
  split at h
  case h_2 => simp at h
  rename_i xs hxs
  split at h
  case isFalse => simp at h
  rename_i hlen
  simp only [Option.some.injEq, Prod.mk.injEq] at h
  obtain ⟨rfl, rfl⟩ := h
  obtain ⟨h1, h2, h3⟩ := ains_none hp.args hn
  have hus : ∃ u, us = #[u, .string sep] ∧ ∀ S, TVa w (Lk w (argsFt az) Y) S (.sl g 1 n cs) u := by
    cases hl : us.toList with
    | nil => rw [hl] at h3; cases h3
    | cons u r => rw [hl] at h3; cases h3 with
      | cons k1 k2 => cases k2 with
        | cons k3 k4 =>
          cases k4
          have : _ = Value.string sep := k3 []
          subst this
          exact ⟨u, by rw [← Array.toArray_toList (xs := us), hl], k1⟩
  obtain ⟨u, rfl, hu⟩ := hus
  have hout : az.map (fun _ => D.undef) = [.undef, .undef] := by
    cases az with
    | nil => simp at h2
    | cons a az => cases az with
      | nil => simp at h2
      | cons b az => cases az with
        | nil => rfl
        | cons c az => simp at h2
  have hext : Ext w (Lk w (argsFt az) Y) (.sl g 1 n cs) u := by
    have := hu []
    cases g with
    | none => simp [TVa, TVc, Ext] at this
    | some g => simpa [TVa, TVc] using this
  have hfin : ∀ e w', e = Ending.returned (.string ⟨(Lib.join (xs.map (·.data.toList)) sep.data.toList).toArray⟩) → Below w.heap.size w w' → ∃ v, e = .returned v ∧ CallPost w w' Y own az (.str ⟨(Lib.join (xs.map (·.data.toList)) sep.data.toList).toArray⟩) [.undef, .undef] v := by
    rintro e w' rfl hb
    refine ⟨_, rfl, ?_⟩
    rw [← hout]
    exact post_plain hp hn hb (str_post _)
  obtain ⟨hl, hget⟩ := mapO_get hxs
  cases g with
  | none => simp [Ext] at hext
  | some g =>
    simp only [Ext] at hext
    obtain ⟨base, cap, vs, rfl, hcap, hlc, hel, hcase⟩ := hext
    have hall := (extL_all2 cs vs).1 hel
    rw [Nat.mul_one] at hlc
    have hnx : n = xs.length := by omega
    rcases hcase with rfl | ⟨k, off, c, e, fz, rfl, hX, hblk, hcells⟩
    · have hx0 : xs = [] := by simpa using hl.symm
      subst hx0
      subst hnx
      refine (Any.strings_Join_none L X _ cap sep w).mono fun e w' ⟨he, hw⟩ => ?_
      refine hfin e w' ?_ (hw ▸ Below.refl _ _)
      rw [he]
      rfl
    · subst hnx
      refine (Any.strings_Join L X k off cap xs sep w (fun j x hj => ?_) hX.1 hlen.2 hcap hlen.1).mono fun e w' ⟨he, hw⟩ => hfin e w' he hw
      obtain ⟨d, hd, hsd⟩ := hget j x hj
      have hds : d = .str x := by
        cases d <;> simp [strOf] at hsd
        rw [hsd]
      subst hds
      obtain ⟨v, hv, hve⟩ := hall.get hd
      have : v = .string x := hve
      subst this
      simp [World.cell?, hblk, hcells j _ hv]
end
end Go.Proofs.Ytkejckoefjonjaa

namespace Go.Proofs.Ytkejckoefjonjaa
open Go.Shelf

def tyTab : List (Nat × TI) := [
  (2, ⟨.int .i64, 1, 8, [.int .i64 0]⟩),
  (3, ⟨.int .i64, 1, 8, [.int .i64 0]⟩),
  (4, ⟨.bool, 1, 1, [.bool false]⟩),
  (5, ⟨.int .u8, 1, 1, [.int .u8 0]⟩),
  (6, ⟨.int .u8, 1, 1, [.int .u8 0]⟩),
  (7, ⟨.struct [0, 1, 2, 3] [1, 1, 1, 1], 4, 24, [.int .i64 0, .int .i64 0, .bool false, .int .u8 0]⟩),
  (8, ⟨.struct [0, 1, 2, 3] [1, 1, 1, 1], 4, 24, [.int .i64 0, .int .i64 0, .bool false, .int .u8 0]⟩),
  (9, ⟨.str, 1, 16, [.str ⟨#[]⟩]⟩),
  (10, ⟨.str, 1, 16, [.str ⟨#[]⟩]⟩),
  (11, ⟨.str, 1, 16, [.str ⟨#[]⟩]⟩),
  (12, ⟨.int .u64, 1, 8, [.int .u64 0]⟩),
  (13, ⟨.struct [0, 1] [1, 1], 2, 24, [.str ⟨#[]⟩, .int .u64 0]⟩),
  (14, ⟨.struct [0, 1] [1, 1], 2, 24, [.str ⟨#[]⟩, .int .u64 0]⟩),
  (15, ⟨.ptr 168, 1, 8, [.undef]⟩),
  (16, ⟨.ptr 171, 1, 8, [.undef]⟩),
  (17, ⟨.ptr 179, 1, 8, [.undef]⟩),
  (18, ⟨.struct [0] [1], 1, 8, [.undef]⟩),
  (19, ⟨.struct [0] [1], 1, 8, [.undef]⟩),
  (21, ⟨.int .i32, 1, 4, [.int .i32 0]⟩),
  (22, ⟨.slice 3, 1, 24, [.nil 1]⟩),
  (23, ⟨.struct [0, 1, 2, 3, 4] [1, 1, 1, 1, 1], 5, 56, [.int .i64 0, .int .i64 0, .int .i64 0, .int .i64 0, .nil 1]⟩),
  (24, ⟨.struct [0, 1, 2, 3, 4] [1, 1, 1, 1, 1], 5, 56, [.int .i64 0, .int .i64 0, .int .i64 0, .int .i64 0, .nil 1]⟩),
  (27, ⟨.struct [0, 1, 2, 3, 4] [1, 1, 1, 1, 1], 5, 56, [.int .i64 0, .int .i64 0, .int .i64 0, .int .i64 0, .nil 1]⟩),
  (31, ⟨.slice 22, 1, 24, [.nil 1]⟩),
  (32, ⟨.struct [0, 1, 2, 3, 4, 5] [1, 1, 1, 1, 1, 1], 6, 64, [.nil 1, .nil 1, .bool false, .bool false, .bool false, .int .i64 0]⟩),
  (33, ⟨.struct [0, 1, 2, 3, 4, 5] [1, 1, 1, 1, 1, 1], 6, 64, [.nil 1, .nil 1, .bool false, .bool false, .bool false, .int .i64 0]⟩),
  (34, ⟨.slice 5, 1, 24, [.nil 1]⟩),
  (35, ⟨.struct [0, 1] [1, 1], 2, 48, [.nil 1, .nil 1]⟩),
  (36, ⟨.struct [0, 1] [1, 1], 2, 48, [.nil 1, .nil 1]⟩),
  (37, ⟨.slice 4, 1, 24, [.nil 1]⟩),
  (38, ⟨.struct [0, 1, 2, 3, 4, 10, 12, 13, 14, 15] [1, 1, 1, 1, 6, 2, 1, 1, 1, 1], 16, 248, [.int .i64 0, .bool false, .bool false, .nil 1, .nil 1, .nil 1, .bool false, .bool false, .bool false, .int .i64 0, .nil 1, .nil 1, .nil 1, .nil 1, .nil 1, .nil 1]⟩),
  (39, ⟨.struct [0, 1, 2, 3, 4, 10, 12, 13, 14, 15] [1, 1, 1, 1, 6, 2, 1, 1, 1, 1], 16, 248, [.int .i64 0, .bool false, .bool false, .nil 1, .nil 1, .nil 1, .bool false, .bool false, .bool false, .int .i64 0, .nil 1, .nil 1, .nil 1, .nil 1, .nil 1, .nil 1]⟩),
  (42, ⟨.struct [0, 1, 2, 3, 4, 5] [1, 1, 1, 1, 1, 1], 6, 64, [.nil 1, .nil 1, .bool false, .bool false, .bool false, .int .i64 0]⟩),
  (43, ⟨.struct [0, 1] [1, 1], 2, 48, [.nil 1, .nil 1]⟩),
  (44, ⟨.struct [0, 1, 2, 3, 4, 10, 12, 13, 14, 15] [1, 1, 1, 1, 6, 2, 1, 1, 1, 1], 16, 248, [.int .i64 0, .bool false, .bool false, .nil 1, .nil 1, .nil 1, .bool false, .bool false, .bool false, .int .i64 0, .nil 1, .nil 1, .nil 1, .nil 1, .nil 1, .nil 1]⟩),
  (45, ⟨.struct [0, 1, 2, 3, 4, 10, 12, 13, 14, 15] [1, 1, 1, 1, 6, 2, 1, 1, 1, 1], 16, 248, [.int .i64 0, .bool false, .bool false, .nil 1, .nil 1, .nil 1, .bool false, .bool false, .bool false, .int .i64 0, .nil 1, .nil 1, .nil 1, .nil 1, .nil 1, .nil 1]⟩),
  (49, ⟨.slice 39, 1, 24, [.nil 16]⟩),
  (50, ⟨.slice 113, 1, 24, [.nil 3]⟩),
  (51, ⟨.slice 117, 1, 24, [.nil 2]⟩),
  (52, ⟨.struct [0, 1, 2, 3, 4] [1, 1, 1, 1, 1], 5, 104, [.nil 16, .nil 3, .nil 2, .nil 1, .int .i64 0]⟩),
  (53, ⟨.struct [0, 1, 2, 3, 4] [1, 1, 1, 1, 1], 5, 104, [.nil 16, .nil 3, .nil 2, .nil 1, .int .i64 0]⟩),
  (56, ⟨.slice 45, 1, 24, [.nil 16]⟩),
  (57, ⟨.slice 114, 1, 24, [.nil 3]⟩),
  (58, ⟨.slice 93, 1, 24, [.nil 2]⟩),
  (59, ⟨.struct [0, 1, 2, 3, 4] [1, 1, 1, 1, 1], 5, 104, [.nil 16, .nil 3, .nil 2, .nil 1, .int .i64 0]⟩),
  (60, ⟨.struct [0, 1, 2, 3, 4] [1, 1, 1, 1, 1], 5, 104, [.nil 16, .nil 3, .nil 2, .nil 1, .int .i64 0]⟩),
  (73, ⟨.slice 9, 1, 24, [.nil 1]⟩),
  (92, ⟨.struct [0, 1] [1, 1], 2, 16, [.int .i64 0, .int .i64 0]⟩),
  (93, ⟨.struct [0, 1] [1, 1], 2, 16, [.int .i64 0, .int .i64 0]⟩),
  (112, ⟨.struct [0, 1, 2] [1, 1, 1], 3, 40, [.int .i64 0, .int .i64 0, .nil 1]⟩),
  (113, ⟨.struct [0, 1, 2] [1, 1, 1], 3, 40, [.int .i64 0, .int .i64 0, .nil 1]⟩),
  (114, ⟨.struct [0, 1, 2] [1, 1, 1], 3, 40, [.int .i64 0, .int .i64 0, .nil 1]⟩),
  (117, ⟨.struct [0, 1] [1, 1], 2, 16, [.int .i64 0, .int .i64 0]⟩),
  (126, ⟨.ptr 128, 1, 8, [.undef]⟩),
  (127, ⟨.struct [0, 1] [1, 1], 2, 32, [.undef, .nil 1]⟩),
  (128, ⟨.struct [0, 1] [1, 1], 2, 32, [.undef, .nil 1]⟩),
  (140, ⟨.ptr 5, 1, 8, [.undef]⟩),
  (142, ⟨.int .u64, 1, 8, [.int .u64 0]⟩),
  (151, ⟨.ptr 153, 1, 8, [.undef]⟩),
  (152, ⟨.struct [0, 1, 2] [1, 1, 1], 3, 40, [.nil 1, .int .i64 0, .bool false]⟩),
  (153, ⟨.struct [0, 1, 2] [1, 1, 1], 3, 40, [.nil 1, .int .i64 0, .bool false]⟩),
  (160, ⟨.ptr 162, 1, 8, [.undef]⟩),
  (161, ⟨.struct [0, 1, 2] [1, 1, 1], 3, 40, [.nil 1, .int .i64 0, .bool false]⟩),
  (162, ⟨.struct [0, 1, 2] [1, 1, 1], 3, 40, [.nil 1, .int .i64 0, .bool false]⟩),
  (167, ⟨.struct [0, 1, 2, 3] [1, 1, 1, 1], 4, 40, [.undef, .undef, .undef, .str ⟨#[]⟩]⟩),
  (168, ⟨.struct [0, 1, 2, 3] [1, 1, 1, 1], 4, 40, [.undef, .undef, .undef, .str ⟨#[]⟩]⟩),
  (169, ⟨.array 0 16, 0, 0, []⟩),
  (172, ⟨.int .u32, 1, 4, [.int .u32 0]⟩),
  (173, ⟨.int .u8, 1, 1, [.int .u8 0]⟩),
  (174, ⟨.int .u8, 1, 1, [.int .u8 0]⟩),
  (176, ⟨.int .i32, 1, 4, [.int .i32 0]⟩),
  (177, ⟨.int .i32, 1, 4, [.int .i32 0]⟩),
  (178, ⟨.struct [0, 1, 2, 3, 4, 5, 6, 7, 8, 9, 10] [1, 1, 1, 1, 1, 1, 1, 1, 1, 1, 1], 11, 48, [.int .u64 0, .int .u64 0, .int .u32 0, .int .u8 0, .int .u8 0, .int .u8 0, .int .u8 0, .undef, .undef, .int .i32 0, .int .i32 0]⟩),
  (179, ⟨.struct [0, 1, 2, 3, 4, 5, 6, 7, 8, 9, 10] [1, 1, 1, 1, 1, 1, 1, 1, 1, 1, 1], 11, 48, [.int .u64 0, .int .u64 0, .int .u32 0, .int .u8 0, .int .u8 0, .int .u8 0, .int .u8 0, .undef, .undef, .int .i32 0, .int .i32 0]⟩)]
def ownTab : List (Nat × List Bool) := [(25, [true, false]), (26, [true, false]), (59, [true]), (63, [true, false]), (64, [true, false]), (65, [true, false]), (83, [true, false]), (84, [true, false]), (85, [true, false]), (99, [true, false]), (100, [true, false]), (101, [true]), (116, [true]), (117, [true, false]), (128, [true]), (129, [true]), (139, [true]), (140, [true]), (156, [true]), (157, [true]), (158, [true]), (159, [true]), (160, [true]), (163, [true])]
def inlTab : List Nat := []
def stealTab : List (Nat × Nat) := []
def nmTab : List (Nat × Nat × List Nat × List Nat) := [(15, (1, ([1, 3, 4], [1, 60]))), (17, (1, ([3, 51, 52, 53], [65]))), (20, (0, ([1, 2, 5], [2, 37, 38]))), (22, (0, ([1, 2, 5], [2, 35, 36]))), (23, (0, ([0, 1, 5], [26, 27]))), (26, (0, ([0, 1, 5], [19, 20]))), (27, (0, ([0, 1, 5], [21, 22]))), (28, (0, ([1, 2, 5, 6], [2, 39, 40]))), (29, (0, ([0, 3, 4], [22]))), (30, (0, ([2, 5, 9, 10, 11], [2, 32, 33]))), (31, (0, ([1, 3, 4], [1, 41]))), (32, (0, ([1, 3, 7, 8, 9], [1, 36]))), (37, (0, ([0, 3, 4], [31]))), (44, (0, ([0, 1, 5], [27, 28]))), (47, (0, ([0, 3, 4], [22]))), (48, (0, ([0, 3, 4], [23]))), (51, (0, ([0, 1, 5], [26, 27]))), (52, (0, ([0, 1, 5], [27, 28]))), (53, (0, ([0, 1, 5], [27, 28]))), (54, (0, ([0, 1, 5], [27, 28]))), (56, (0, ([0, 3, 4], [23]))), (57, (0, ([0, 3, 4], [23]))), (58, (0, ([0, 3, 4], [23]))), (59, (0, ([0, 2, 3], [28]))), (60, (0, ([0, 1, 5], [27, 28]))), (61, (0, ([0, 1, 5], [27, 28]))), (62, (0, ([0, 1, 5], [27, 28]))), (63, (0, ([0, 1, 5], [143, 144]))), (64, (0, ([0, 1, 5], [34, 35]))), (65, (0, ([0, 1, 5], [27, 28]))), (70, (0, ([1, 3], [1, 99]))), (72, (0, ([1, 85], [1, 164]))), (72, (2, ([1, 139, 140, 141], [1, 164]))), (76, (0, ([0, 3, 4], [22]))), (77, (0, ([0, 1, 5], [26, 27]))), (83, (0, ([0, 1, 5], [19, 20]))), (84, (0, ([0, 1, 5], [20, 21]))), (85, (0, ([0, 1, 5], [21, 22]))), (87, (0, ([0, 3], [19]))), (88, (0, ([1, 3], [1, 47]))), (89, (0, ([1, 3], [1, 81]))), (91, (0, ([2, 3, 5], [2, 3, 68, 69]))), (102, (0, ([0, 3], [32]))), (103, (0, ([0, 3], [29]))), (106, (0, ([0, 1, 5], [32, 33]))), (109, (0, ([0, 5, 6, 7], [26]))), (112, (0, ([0, 5, 6, 7], [29]))), (114, (0, ([0, 1, 12, 13], [26, 27]))), (115, (0, ([1, 2, 15, 16, 17], [32, 33, 34]))), (118, (0, ([0, 1, 5], [18, 19]))), (119, (0, ([0, 2, 4, 5, 6], [2, 11, 5, 65]))), (120, (0, ([1, 6], [29, 30]))), (121, (0, ([0, 1, 7, 8], [19, 20]))), (123, (0, ([0, 1, 7, 8], [19, 20]))), (128, (0, ([0, 3, 4, 5], [28]))), (130, (0, ([1, 3, 4], [1, 85]))), (130, (2, ([1, 3, 5], [1, 85]))), (130, (4, ([1, 3, 5, 6], [1, 85]))), (132, (0, ([0, 1, 7, 8], [19, 20]))), (133, (0, ([0, 2, 4, 5, 16], [2, 11, 5, 64]))), (136, (0, ([0, 1, 7, 8], [55, 56]))), (137, (0, ([0, 3], [25]))), (139, (0, ([0, 3, 4, 5], [28]))), (141, (0, ([1, 3, 13, 14, 15], [1, 41]))), (143, (0, ([0, 1, 7, 8, 9], [57, 58]))), (145, (0, ([3, 7, 8, 9], [19]))), (147, (0, ([0, 3], [27])))]
def cfg : Cfg where
  ty := lk tyTab
  ext := fun f => if f = 74 then some joinE else none
  own := fun f => (lk ownTab f).getD []
  inl := fun f => inlTab.contains f
  steal := fun f t => stealTab.contains (f, t)
  nm := fun f i => (nmTab.find? fun r => r.1 == f && r.2.1 == i).map fun r => r.2.2
theorem cfg_ok : CfgOk cfg Try.prog := ⟨tyall_ok (l := tyTab) (by kernel_rfl)⟩
theorem cfg_fits (f : FuncId) (fn : Func) (body : Code) (hf : Try.prog.funcs[f]? = some fn) (hb : fn.body = some body) : fitsC fn.ntmps body = true ∧ (fn.name == "runtime.NumGoroutine") = false :=
  fits_ok (by kernel_rfl) f fn body hf hb
theorem cfg_mixed : Try.prog.follows .mixedOrders = true := by kernel_rfl
def joinR : Ren := ⟨fun | 156 => 74 | 165 => 99 | 166 => 100 | 169 => 101 | 240 => 116 | 241 => 117 | 276 => 126 | 277 => 127 | n => n,
  fun | 31 => 73 | 37 => 34 | 70 => 126 | 72 => 128 | 75 => 131 | 76 => 132 | 80 => 134 | 127 => 140 | 164 => 148 | n => n, fun n => n⟩
theorem joinL : Lays.n156 Try.prog joinR where
  mixed := by kernel_rfl
  f156 := Try.func74.trans (congrArg some (by kernel_rfl))
  f165 := Try.func99.trans (congrArg some (by kernel_rfl))
  f166 := Try.func100.trans (congrArg some (by kernel_rfl))
  f169 := Try.func101.trans (congrArg some (by kernel_rfl))
  f240 := Try.func116.trans (congrArg some (by kernel_rfl))
  f241 := Try.func117.trans (congrArg some (by kernel_rfl))
  f276 := Try.func126.trans (congrArg some (by kernel_rfl))
  f277 := Try.func127.trans (congrArg some (by kernel_rfl))
  t0 := Try.underlying0
  a0 := Try.isAgg0
  z0 := Try.sizeOf0
  v0 := Try.zeroValue0
  t3 := Try.underlying3
  a3 := Try.isAgg3
  z3 := Try.sizeOf3
  v3 := Try.zeroValue3
  t4 := Try.underlying4
  a4 := Try.isAgg4
  z4 := Try.sizeOf4
  v4 := Try.zeroValue4
  t9 := Try.underlying9
  a9 := Try.isAgg9
  z9 := Try.sizeOf9
  v9 := Try.zeroValue9
  t20 := Try.underlying20
  a20 := Try.isAgg20
  z20 := Try.sizeOf20
  v20 := Try.zeroValue20
  t31 := Try.underlying73
  a31 := Try.isAgg73
  z31 := Try.sizeOf73
  v31 := Try.zeroValue73
  t37 := Try.underlying34
  a37 := Try.isAgg34
  z37 := Try.sizeOf34
  v37 := Try.zeroValue34
  t70 := Try.underlying126
  a70 := Try.isAgg126
  z70 := Try.sizeOf126
  v70 := Try.zeroValue126
  t72 := Try.underlying128
  a72 := Try.isAgg128
  z72 := Try.sizeOf128
  v72 := Try.zeroValue128
  t75 := Try.underlying131
  a75 := Try.isAgg131
  z75 := Try.sizeOf131
  v75 := Try.zeroValue131
  t76 := Try.underlying132
  a76 := Try.isAgg132
  z76 := Try.sizeOf132
  v76 := Try.zeroValue132
  t127 := Try.underlying140
  a127 := Try.isAgg140
  z127 := Try.sizeOf140
  v127 := Try.zeroValue140
  t164 := Try.underlying148
  a164 := Try.isAgg148
  z164 := Try.sizeOf148
  v164 := Try.zeroValue148
theorem joinX : Builder.Extra Try.prog joinR where
  sizeBuilder := by kernel_rfl
  liesBuilder := by kernel_rfl
  t5 := Try.underlying5
  a5 := Try.isAgg5
  z5 := Try.sizeOf5
  v5 := Try.zeroValue5
  infoByte := by kernel_rfl
  cellsByte := by kernel_rfl
  sizeByte := by kernel_rfl
  neB5 := by decide
theorem fn74 : FnOk Try.prog 74 := ⟨_, Try.func74, by kernel_rfl, by kernel_rfl⟩
theorem cfg_ext : ∀ f e ds r outs, cfg.ext f = some e → e ds = some (r, outs) → FnOk Try.prog f ∧ ∀ (w : World) (Y : Nat → Prop) (us : Array Value) (az : List Arg), CallPre w Y (cfg.own f) ds us.toList az → okR r = true → (∀ o ∈ outs, okR o = true) →
    Calls Try.prog f us w fun e w' => ∃ v, e = .returned v ∧ CallPost w w' Y (cfg.own f) az r outs v := by
  intro f e ds r outs h h2
  have h : (if f = 74 then some joinE else none) = some e := h
  split at h
  · rename_i hf
    subst hf
    have h := Option.some.inj h
    subst h
    exact join_ok joinL joinX fn74 (own := cfg.own 74) (by kernel_rfl) h2
  · simp at h
theorem good (k : Nat) : GoodCall Try.prog cfg.own (callF cfg Try.prog k) := (run_good cfg_ok cfg_mixed cfg_fits cfg_ext k).1
#print axioms good
end Go.Proofs.Ytkejckoefjonjaa

namespace Go.Proofs.Ytkejckoefjonjaa

def ints (xs : List Int) : List D := xs.map (D.int .i64)
theorem ints_length (xs : List Int) : (ints xs).length = xs.length := by simp [ints]
theorem ints_get (xs : List Int) (i : Nat) : (ints xs)[i]? = (xs[i]?).map (D.int .i64) := by simp [ints]
/-- Just numbers. -/
def isInts : List D → Bool
  | [] => true
  | .int .i64 _ :: cs => isInts cs
  | _ => false
theorem isInts_iff {cs : List D} : isInts cs = true ↔ ∃ xs, cs = ints xs := by
  constructor
  · intro h
    induction cs with
    | nil => exact ⟨[], rfl⟩
    | cons d cs ih =>
      cases d with
      | int k n =>
        cases k <;> simp only [isInts, Bool.false_eq_true] at h
        obtain ⟨xs, rfl⟩ := ih h
        exact ⟨n :: xs, rfl⟩
      | _ => simp [isInts] at h
  · rintro ⟨xs, rfl⟩
    induction xs with
    | nil => rfl
    | cons x xs ih => exact ih
theorem reps_zero (n : Nat) : reps n [D.int .i64 0] = ints (List.replicate n 0) := by
  induction n with
  | zero => rfl
  | succ n ih => simp [reps, ints, List.replicate_succ, rowZ] at ih ⊢
def md0 (_ : FuncId) (_ : List D) : Option (Bool × (D × List D)) := none
theorem md0_ok {P : Program} : ∀ g ds r, md0 g ds = some (true, r) → Comes cfg P g ds r := fun g ds r h => by simp [md0] at h
def ml0 (_ : Nat) (_ : St) : Option (Bool × Exit × St) := none
theorem noLoops {c : Cfg} {P : Program} {f : FuncId} {l : List (Nat × Code)} : ∀ j a' hh x st', (j, a') ∈ l → ml0 j hh = some (true, x, st') → HeadC c P f a' j hh (x, st') := fun j a' hh x st' _ h => by simp [ml0] at h
theorem br_t {R : Type} (x y : R) : br true x y = x := rfl
theorem br_f {R : Type} (x y : R) : br false x y = y := rfl
theorem br_tf (b : Bool) : br b true false = b := by cases b <;> rfl
theorem s_lt (a b : Int) : std.lt a b = decide (a < b) := rfl
theorem s_le (a b : Int) : std.le a b = decide (a ≤ b) := rfl
theorem s_eq (a b : Int) : std.eq a b = (a == b) := rfl
theorem s_ofN (n : Nat) : std.ofN n = (n : Int) := rfl
theorem s_toN (n : Nat) : std.toN (n : Int) = n := by simp [std]
theorem s_idx (i : Nat) (k : Nat) : std.idx 0 (i : Int) k = i * k := by simp [std]
theorem s_inR (i n : Nat) : std.inR (i : Int) n = decide (i < n) := by simp [std]
theorem wrap64 {n : Int} (h : -9223372036854775808 ≤ n) (h' : n < 9223372036854775808) : IntKind.i64.wrap n = n := by
  simp only [IntKind.wrap, IntKind.bits, IntKind.signed]
  simp
  omega
theorem s_isI {xs : List Int} {i : Nat} (h : i < xs.length) : std.isI .i64 (ints xs) i = true := by
  simp [std, ints_get, List.getElem?_eq_getElem h, ksame]
theorem s_getI {xs : List Int} {i : Nat} (h : i < xs.length) : std.getI (ints xs) i = xs[i] := by
  simp [std, ints_get, List.getElem?_eq_getElem h, cInt]
theorem s_slot {xs : List Int} {i : Nat} (h : i < xs.length) : std.slot (ints xs) i = true := by
  simp [std, ints_get, List.getElem?_eq_getElem h, isSl]
theorem s_nl (xs : List Int) : std.nl (ints xs) = true := by
  simp only [std]
  induction xs with
  | nil => rfl
  | cons x xs ih => simpa [ints, noLentL, noLent] using ih
theorem ints_set (xs : List Int) (i : Nat) (n : Int) : List.set (ints xs) i (.int .i64 n) = ints (xs.set i n) := by
  simp [ints, List.map_set]
/-- A function's loops, listed. -/
theorem loops_of {c : Cfg} {P : Program} {f : FuncId} {ml : Nat → St → Option (Bool × Exit × St)} {fn : Func} {l : List (Nat × Code)} (h : fn.body.map (loopsOf · 0) = some l) (hh : ∀ j a h x st', (j, a) ∈ l → ml j h = some (true, x, st') → HeadC c P f a j h (x, st')) :
    ∀ body, fn.body = some body → ∀ j a h x st', (j, a) ∈ loopsOf body 0 → ml j h = some (true, x, st') → HeadC c P f a j h (x, st') := by
  intro body hb j a hd x st' hm
  rw [hb, Option.map_some, Option.some.injEq] at h
  rw [h] at hm
  exact hh j a hd x st' hm
end Go.Proofs.Ytkejckoefjonjaa

namespace Go.Proofs.Ytkejckoefjonjaa
set_option maxRecDepth 100000

def g29 (n m : Nat) (cs zs : List D) : Bool := isInts cs && isInts zs && decide (cs.length = n) && decide (zs.length = m) && decide (m = n) && decide (n < 1152921504606846976)
def ml29 : Nat → St → Option (Bool × Exit × St)
  | 0, ⟨[(0, .sl (some g) 1 n cs), (3, .ref 10003 [] 0 none), (4, .int .i64 i)], [(10003, [.sl none 1 m zs])], [], 0⟩ =>
    some (g29 n m cs zs && decide (i = 0), .exit 0, ⟨[(0, .sl (some g) 1 n cs), (3, .ref 10003 [] 0 none), (4, .int .i64 n), (8, .int .i64 n), (9, .sl (some g) 1 n cs), (10, .int .i64 n), (11, .bool false)], [(10003, [.sl none 1 m cs])], [], 0⟩)
  | _, _ => none
theorem t29 (pr : Prims) (g : Bool) (n : Nat) (cs : List D) : runL pr cfg md0 ml29 29 Try.f29 [.sl (some g) 1 n cs] =
    br (pr.mkok (pr.ofN n) (pr.ofN n) 8) (br (g29 n (pr.toN (pr.ofN n)) cs (reps (pr.toN (pr.ofN n)) [.int .i64 0]) && decide ((0 : Int) = 0)) (some (.sl none 1 (pr.toN (pr.ofN n)) cs, [.undef])) none) none := by
  kernel_rfl
def H29 (g : Bool) (n m : Nat) (cs zs : List D) (i : Int) : St := ⟨[(0, .sl (some g) 1 n cs), (3, .ref 10003 [] 0 none), (4, .int .i64 i)], [(10003, [.sl none 1 m zs])], [], 0⟩
theorem t29b (pr : Prims) (g : Bool) (n m : Nat) (cs zs : List D) (i : Int) : codeL pr cfg md0 ml0 29 (lpOf Try.f29 0) 0 (H29 g n m cs zs i) (kN cfg 29 0) =
    br (pr.lt i (pr.ofN n)) (br (pr.inR i n) (br (br (pr.isI .i64 cs (pr.idx 0 i 1)) true false) (br (pr.inR i m) (br (pr.slot zs (pr.idx 0 i 1)) (some (Exit.normal, H29 g n m cs (List.set zs (pr.idx 0 i 1) (.int .i64 (pr.getI cs (pr.idx 0 i 1)))) (pr.ar .add .i64 i 1))) none) none) none) none)
      (some (.exit 0, ⟨[(0, .sl (some g) 1 n cs), (3, .ref 10003 [] 0 none), (4, .int .i64 i), (8, .int .i64 i), (9, .sl (some g) 1 n cs), (10, .int .i64 (pr.ofN n)), (11, .bool false)], [(10003, [.sl none 1 m zs])], [], 0⟩)) := by
  kernel_rfl
def X29 (g : Bool) (n : Nat) (cs : List D) : St := ⟨[(0, .sl (some g) 1 n cs), (3, .ref 10003 [] 0 none), (4, .int .i64 n), (8, .int .i64 n), (9, .sl (some g) 1 n cs), (10, .int .i64 n), (11, .bool false)], [(10003, [.sl none 1 n cs])], [], 0⟩
theorem loop29 (g : Bool) {n : Nat} (xs : List Int) (hn : xs.length = n) (hb : n < 1152921504606846976) : ∀ (k i : Nat) (zs : List Int), i + k = n → zs.length = n → (∀ j, j < i → zs[j]? = xs[j]?) →
    HeadC cfg Try.prog 29 (lpOf Try.f29 0) 0 (H29 g n n (ints xs) (ints zs) i) (.exit 0, X29 g n (ints xs))
  | 0, i, zs, hi, hz, hp => by
    have hin : i = n := by omega
    subst hin
    have hzx : zs = xs := by
      apply List.ext_getElem?
      intro j
      by_cases hj : j < i
      · exact hp j hj
      · rw [List.getElem?_eq_none (by omega), List.getElem?_eq_none (by omega)]
    subst hzx
    refine head_step cfg_ok md0_ok noLoops (x := .exit 0) (h' := X29 g i (ints zs)) ?_ (by simp) (fun _ => rfl)
    rw [t29b, s_lt, s_ofN, decide_eq_false (by omega), br_f]
    rfl
  | k + 1, i, zs, hi, hz, hp => by
    have hlt : i < xs.length := by omega
    have hltz : i < zs.length := by omega
    refine head_step cfg_ok md0_ok noLoops (x := .normal) (h' := H29 g n n (ints xs) (ints (zs.set i xs[i])) ((i + 1 : Nat) : Int)) ?_ (fun _ => loop29 g xs hn hb k (i + 1) (zs.set i xs[i]) (by omega) (by simpa using hz) (fun j hj => ?_)) (by simp)
    · rw [t29b, s_lt, s_ofN, decide_eq_true (by omega), br_t, s_idx, Nat.mul_one, s_inR, decide_eq_true (by omega), br_t, s_isI hlt, br_t, br_t, s_slot hltz, br_t, br_t, s_getI hlt, ints_set]
      have : std.ar .add .i64 (i : Int) 1 = ((i + 1 : Nat) : Int) := by
        show IntKind.i64.wrap _ = _
        rw [wrap64 (by omega) (by omega)]
        omega
      rw [this]
    · rw [List.getElem?_set]
      by_cases hij : i = j
      · subst hij
        rw [if_pos rfl, if_pos hltz, List.getElem?_eq_getElem hlt]
      · rw [if_neg hij]
        exact hp j (by omega)
theorem ml29_ok : ∀ j a h x st', (j, a) ∈ [(0, lpOf Try.f29 0)] → ml29 j h = some (true, x, st') → HeadC cfg Try.prog 29 a j h (x, st') := by
  intro j a h x st' hm hml
  simp only [List.mem_singleton, Prod.mk.injEq] at hm
  obtain ⟨rfl, rfl⟩ := hm
  unfold ml29 at hml
  split at hml
  case h_2 => simp at hml
  rename_i g n cs i m zs
  simp only [Option.some.injEq, Prod.mk.injEq, g29, Bool.and_eq_true, decide_eq_true_eq] at hml
  obtain ⟨⟨⟨⟨⟨⟨⟨h1, h2⟩, h3⟩, h4⟩, h5⟩, h7⟩, h6⟩, rfl, rfl⟩ := hml
  obtain ⟨xs, rfl⟩ := isInts_iff.1 h1
  obtain ⟨zs, rfl⟩ := isInts_iff.1 h2
  rw [ints_length] at h3 h4
  subst h5
  subst h6
  exact loop29 _ xs h3 h7 xs.length 0 zs (by omega) h4 (fun j hj => absurd hj (by omega))
/-- A row of numbers is copied. -/
theorem c29 (g : Bool) (xs : List Int) (hb : xs.length ≤ 17592186044416) : Comes cfg Try.prog 29 [.sl (some g) 1 xs.length (ints xs)] (.sl none 1 xs.length (ints xs), [.undef]) := by
  refine comes_of cfg_ok md0_ok (ml := ml29) (by kernel_rfl) Try.func29 (loops_of (l := [(0, lpOf Try.f29 0)]) (by kernel_rfl) ml29_ok) ?_
  have h1 : std.mkok (xs.length : Int) (xs.length : Int) 8 = true := by
    simp [std]; omega
  rw [t29, s_ofN, s_toN, h1, br_t]
  have h2 : g29 xs.length xs.length (ints xs) (reps xs.length [.int .i64 0]) = true := by
    rw [reps_zero]
    simp only [g29, isInts_iff.2 ⟨xs, rfl⟩, isInts_iff.2 ⟨_, rfl⟩, ints_length, List.length_replicate, decide_true, Bool.and_true]
    exact decide_eq_true (by omega)
  rw [h2]
  rfl
end Go.Proofs.Ytkejckoefjonjaa

namespace Go.Proofs.Ytkejckoefjonjaa
set_option maxRecDepth 100000

def bs (l : List UInt8) : ByteArray := ⟨l.toArray⟩
theorem bs_app (a b : List UInt8) : bs a ++ bs b = bs (a ++ b) := by
  apply ByteArray.ext
  simp [bs, ByteArray.data_append]
theorem bs_size (a : List UInt8) : (bs a).size = a.length := by simp [bs, ByteArray.size]
def natDig (n : Nat) : List UInt8 := if n < 10 then [UInt8.ofNat (48 + n)] else natDig (n / 10) ++ [UInt8.ofNat (48 + n % 10)]
theorem natDig_lt {n : Nat} (h : n < 10) : natDig n = [UInt8.ofNat (48 + n)] := by rw [natDig, if_pos h]
theorem natDig_ge {n : Nat} (h : ¬ n < 10) : natDig n = natDig (n / 10) ++ [UInt8.ofNat (48 + n % 10)] := by rw [natDig, if_neg h]
theorem natDig_len : ∀ (k n : Nat), n < 10 ^ (k + 1) → (natDig n).length ≤ k + 1
  | 0, n, h => by rw [natDig_lt (by simpa using h)]; simp
  | k + 1, n, h => by
    by_cases hn : n < 10
    · rw [natDig_lt hn]; simp
    · rw [natDig_ge hn, List.length_append]
      have h1 : n / 10 < 10 ^ (k + 1) := by
        rw [Nat.div_lt_iff_lt_mul (by omega)]
        rw [Nat.pow_succ] at h
        exact h
      have := natDig_len k (n / 10) h1
      simp only [List.length_singleton]
      omega
/-- A number's digits, a minus ahead. -/
def digL (a : Int) : List UInt8 := if a < 0 then 45 :: natDig a.natAbs else natDig a.natAbs
theorem digL_len {a : Int} (h : -9223372036854775808 ≤ a) (h' : a < 9223372036854775808) : (digL a).length ≤ 21 := by
  have h1 : (natDig a.natAbs).length ≤ 20 := natDig_len 19 _ (by
    have : (10 : Nat) ^ (19 + 1) = 100000000000000000000 := by decide
    omega)
  unfold digL
  split
  · simp; omega
  · omega
def in64 (a : Int) : Bool := decide (-9223372036854775808 ≤ a) && decide (a < 9223372036854775808)
theorem in64_iff {a : Int} : in64 a = true ↔ -9223372036854775808 ≤ a ∧ a < 9223372036854775808 := by simp [in64]
theorem s_rem (a b : Int) : std.ar .rem .i64 a b = a.tmod b := rfl
theorem s_quo {a : Int} (h : in64 a = true) : std.ar .quo .i64 a 10 = a.tdiv 10 := by
  rw [in64_iff] at h
  show IntKind.i64.wrap _ = _
  have h2 : (a.tdiv 10).natAbs ≤ a.natAbs := by rw [Int.natAbs_tdiv]; exact Nat.div_le_self _ _
  have h3 : a.natAbs / 10 = (a.tdiv 10).natAbs := by rw [Int.natAbs_tdiv]; rfl
  exact wrap64 (by omega) (by omega)
theorem enc_small {n : Nat} (h : n < 128) : Utf8.encode (n : Int) = bs [UInt8.ofNat n] := by
  have hv : Utf8.valid (n : Int) = true := by simp [Utf8.valid]; omega
  unfold Utf8.encode
  rw [if_pos hv]
  simp only [Int.toNat_natCast]
  rw [if_pos (by omega)]
  rfl
theorem wrap32 {n : Int} (h : 0 ≤ n) (h' : n < 2147483648) : IntKind.i32.wrap n = n := by
  simp only [IntKind.wrap, IntKind.bits, IntKind.signed]
  simp
  omega
/-- One digit. -/
theorem s_dig {d : Nat} (h : d < 10) : std.enc (std.wrap .i32 (std.ar .add .i64 48 (d : Int))) = bs [UInt8.ofNat (48 + d)] := by
  show Utf8.encode (IntKind.i32.wrap (IntKind.i64.wrap _)) = _
  rw [wrap64 (by omega) (by omega), wrap32 (by omega) (by omega)]
  have : (48 : Int) + (d : Int) = ((48 + d : Nat) : Int) := by omega
  rw [this, enc_small (by omega)]
theorem s_app (a b : List UInt8) : std.sapp (bs a) (bs b) = bs (a ++ b) := bs_app a b
theorem s_fit {a b : List UInt8} (h : a.length + b.length ≤ 9223372036854775807) : std.sfit (bs a) (bs b) = true := by
  simp only [std, bs_size]
  exact decide_eq_true h

/-! ### the program's own -/
def md40 (dig : Int → ByteArray) (gd : Int → Bool) (f : FuncId) (ds : List D) : Option (Bool × (D × List D)) := match f, ds with
  | 40, [.int .i64 a] => some (gd a, (.str (dig a), [.undef]))
  | _, _ => none
theorem t40 (pr : Prims) (dig : Int → ByteArray) (gd : Int → Bool) (a : Int) : runL pr cfg (md40 dig gd) ml0 40 Try.f40 [.int .i64 a] =
    let x1 : ByteArray := ⟨#[45]⟩
    let x2 := (pr.enc (pr.wrap .i32 (pr.ar .add .i64 48 (pr.ar .rem .i64 a 10))))
    let x3 := (br (pr.lt a 0) (br (br (pr.eq 10 0) false true) (br (br (gd (pr.ar .quo .i64 a 10)) true false) (br (br (pr.eq 10 0) false true) (br (br (gd (pr.ar .sub .i64 0 (pr.ar .rem .i64 a 10))) true false) (br (pr.sfit (dig (pr.ar .quo .i64 a 10)) (dig (pr.ar .sub .i64 0 (pr.ar .rem .i64 a 10)))) (some ((.str (pr.sapp (dig (pr.ar .quo .i64 a 10)) (dig (pr.ar .sub .i64 0 (pr.ar .rem .i64 a 10))))), [.undef])) none) none) none) none) none) (br (pr.lt a 10) (some ((.str (pr.enc (pr.wrap .i32 (pr.ar .add .i64 48 a)))), [.undef])) (br (br (pr.eq 10 0) false true) (br (br (gd (pr.ar .quo .i64 a 10)) true false) (br (br (pr.eq 10 0) false true) (br (pr.sfit (dig (pr.ar .quo .i64 a 10)) x2) (some ((.str (pr.sapp (dig (pr.ar .quo .i64 a 10)) x2)), [.undef])) none) none) none) none)))
    (br (pr.lt a 0) (br (pr.lt (-10) a) (br (br (gd (pr.ar .sub .i64 0 a)) true false) (br (pr.sfit x1 (dig (pr.ar .sub .i64 0 a))) (some ((.str (pr.sapp x1 (dig (pr.ar .sub .i64 0 a)))), [.undef])) none) none) x3) x3) := by
  kernel_rfl
def meas (a : Int) : Nat := 2 * a.natAbs + (if a < 0 then 1 else 0)
def g40 (a b : Int) : Bool := in64 b && decide (meas b < meas a)
theorem g40_iff {a b : Int} : g40 a b = true ↔ (-9223372036854775808 ≤ b ∧ b < 9223372036854775808) ∧ 2 * b.natAbs + (if b < 0 then 1 else 0) < 2 * a.natAbs + (if a < 0 then 1 else 0) := by
  unfold g40 in64
  rw [Bool.and_eq_true, Bool.and_eq_true, decide_eq_true_eq, decide_eq_true_eq, decide_eq_true_eq]
  exact Iff.rfl
theorem c40_step (a : Int) (ha : in64 a = true) : runL std cfg (md40 (fun b => bs (digL b)) (g40 a)) ml0 40 Try.f40 [.int .i64 a] = some (.str (bs (digL a)), [.undef]) := by
  have ha' := in64_iff.1 ha
  rw [t40]
  simp only [s_lt, s_eq, s_quo ha, s_rem]
  have h100 : ((10 : Int) == 0) = false := by decide
  have hsub : ∀ x : Int, -9223372036854775808 ≤ -x → -x < 9223372036854775808 → std.ar .sub .i64 0 x = -x := fun x h1 h2 => by
    show IntKind.i64.wrap _ = _
    rw [wrap64 (by omega) (by omega)]
    omega
  simp only [h100, br_f, br_t, br_tf]
  by_cases hneg : a < 0
  · obtain ⟨m, rfl⟩ : ∃ m : Nat, a = -(m : Int) := ⟨a.natAbs, by omega⟩
    have hq : (-(m : Int)).tdiv 10 = -((m / 10 : Nat) : Int) := by rw [Int.neg_tdiv]; rfl
    have hr : (-(m : Int)).tmod 10 = -((m % 10 : Nat) : Int) := by rw [Int.neg_tmod]; rfl
    rw [decide_eq_true hneg, br_t, hq, hr]
    have hd : digL (-(m : Int)) = 45 :: natDig m := by
      unfold digL
      rw [if_pos hneg, Int.natAbs_neg, Int.natAbs_natCast]
    by_cases h10 : (-10 : Int) < -(m : Int)
    · rw [decide_eq_true h10, br_t, hsub _ (by omega) (by omega)]
      have h1 : - -(m : Int) = (m : Int) := by omega
      rw [h1]
      have h2 : digL (m : Int) = natDig m := by
        unfold digL
        rw [if_neg (by omega), Int.natAbs_natCast]
      have h3 : g40 (-(m : Int)) (m : Int) = true := by
        rw [g40_iff]
        rw [if_neg (by omega), if_pos hneg]
        omega
      have h4 : (⟨#[45]⟩ : ByteArray) = bs [45] := rfl
      rw [h3, br_t, h2, h4, s_fit (by rw [natDig_lt (by omega)]; simp), br_t, s_app, hd]
      rfl
    · rw [decide_eq_false h10, br_f, br_t]
      have hm : ¬ m < 10 := by omega
      have h1 : g40 (-(m : Int)) (-((m / 10 : Nat) : Int)) = true := by
        rw [g40_iff]
        rw [if_pos hneg]
        split <;> omega
      rw [h1, br_t, hsub _ (by omega) (by omega)]
      have h2 : - -((m % 10 : Nat) : Int) = ((m % 10 : Nat) : Int) := by omega
      rw [h2]
      have h3 : g40 (-(m : Int)) ((m % 10 : Nat) : Int) = true := by
        rw [g40_iff]
        rw [if_pos hneg, if_neg (by omega)]
        omega
      rw [h3, br_t]
      have h5 : digL (-((m / 10 : Nat) : Int)) = 45 :: natDig (m / 10) := by
        unfold digL
        rw [if_pos (by omega), Int.natAbs_neg, Int.natAbs_natCast]
      have h6 : digL ((m % 10 : Nat) : Int) = [UInt8.ofNat (48 + m % 10)] := by
        unfold digL
        rw [if_neg (by omega), Int.natAbs_natCast, natDig_lt (by omega)]
      have h7 := digL_len (a := -((m / 10 : Nat) : Int)) (by omega) (by omega)
      rw [s_fit (by rw [h6]; show _ + 1 ≤ _; omega), br_t, s_app, h5, h6, hd, natDig_ge hm]
      rfl
  · obtain ⟨m, rfl⟩ : ∃ m : Nat, a = (m : Int) := ⟨a.natAbs, by omega⟩
    have hq : (m : Int).tdiv 10 = ((m / 10 : Nat) : Int) := rfl
    have hr : (m : Int).tmod 10 = ((m % 10 : Nat) : Int) := rfl
    rw [decide_eq_false hneg, br_f, br_f, hq, hr]
    have hd : digL (m : Int) = natDig m := by
      unfold digL
      rw [if_neg hneg, Int.natAbs_natCast]
    by_cases h10 : (m : Int) < 10
    · rw [decide_eq_true h10, br_t, s_dig (by omega), hd, natDig_lt (by omega)]
    · rw [decide_eq_false h10, br_f]
      have h1 : g40 (m : Int) ((m / 10 : Nat) : Int) = true := by
        rw [g40_iff]
        rw [if_neg (by omega), if_neg hneg]
        omega
      have h5 : digL ((m / 10 : Nat) : Int) = natDig (m / 10) := by
        unfold digL
        rw [if_neg (by omega), Int.natAbs_natCast]
      have h7 := digL_len (a := ((m / 10 : Nat) : Int)) (by omega) (by omega)
      rw [h1, br_t, s_dig (by omega), s_fit (by show _ + 1 ≤ _; omega), br_t, s_app, h5, hd, natDig_ge (n := m) (by omega)]
theorem c40_all : ∀ (k : Nat) (a : Int), meas a < k → in64 a = true → Comes cfg Try.prog 40 [.int .i64 a] (.str (bs (digL a)), [.undef])
  | 0, a, h, _ => absurd h (by omega)
  | k + 1, a, h, ha => by
    refine comes_of cfg_ok (md := md40 (fun b => bs (digL b)) (g40 a)) (fun g ds r hm => ?_) (ml := ml0) (by kernel_rfl) Try.func40 (fun _ _ => noLoops) (c40_step a ha)
    unfold md40 at hm
    split at hm
    · rename_i b
      simp only [Option.some.injEq, Prod.mk.injEq, g40, Bool.and_eq_true, decide_eq_true_eq] at hm
      obtain ⟨⟨h1, h2⟩, rfl⟩ := hm
      exact c40_all k b (by omega) h1
    · simp at hm
/-- The program's own digits. -/
theorem c40 (a : Int) (ha : in64 a = true) : Comes cfg Try.prog 40 [.int .i64 a] (.str (bs (digL a)), [.undef]) := c40_all _ a (Nat.lt_succ_self _) ha
end Go.Proofs.Ytkejckoefjonjaa

namespace Go.Proofs.Ytkejckoefjonjaa
set_option maxRecDepth 100000

def ml37 (F : Int → ByteArray → ByteArray) (G : Int → ByteArray → Bool) : Nat → St → Option (Bool × Exit × St)
  | 0, ⟨[(0, .int .i64 a), (3, .bool b), (4, .str s)], [], [], 0⟩ => some (G a s, .exit 0, ⟨[(0, .int .i64 0), (3, .bool b), (4, .str (F a s)), (10, .int .i64 0), (11, .bool false)], [], [], 0⟩)
  | _, _ => none
def H37 (a : Int) (b : Bool) (s : ByteArray) : St := ⟨[(0, .int .i64 a), (3, .bool b), (4, .str s)], [], [], 0⟩
def X37 (b : Bool) (s : ByteArray) : St := ⟨[(0, .int .i64 0), (3, .bool b), (4, .str s), (10, .int .i64 0), (11, .bool false)], [], [], 0⟩
theorem t37b (pr : Prims) (a : Int) (b : Bool) (s : ByteArray) : codeL pr cfg md0 ml0 37 (lpOf Try.f37 0) 0 (H37 a b s) (kN cfg 37 0) =
    let x1 : List D := [(.int .u8 (pr.wrap .u8 (pr.ar .add .i64 48 (pr.ar .sub .i64 0 (pr.ar .rem .i64 a 10)))))]
    let x2 := (pr.bss x1)
    let x3 : List D := [(.int .u8 (pr.wrap .u8 (pr.ar .add .i64 48 (pr.ar .rem .i64 a 10))))]
    let x4 := (pr.bss x3)
    (br (br (pr.eq a 0) false true) (br (br (pr.eq 10 0) false true) (br (pr.lt (pr.ar .rem .i64 a 10) 0) (br (pr.bsok x1) (br (pr.sfit x2 s) (br (br (pr.eq 10 0) false true) (some (Exit.normal, H37 (pr.ar .quo .i64 a 10) b (pr.sapp x2 s))) none) none) none) (br (pr.bsok x3) (br (pr.sfit x4 s) (br (br (pr.eq 10 0) false true) (some (Exit.normal, H37 (pr.ar .quo .i64 a 10) b (pr.sapp x4 s))) none) none) none)) none) (some ((Exit.exit 0), (St.mk [(0, (.int .i64 a)), (3, (.bool b)), (4, (.str s)), (10, (.int .i64 a)), (11, (.bool false))] [] [] 0)))) := by
  kernel_rfl
theorem t37 (pr : Prims) (F : Int → ByteArray → ByteArray) (G : Int → ByteArray → Bool) (a : Int) : runL pr cfg md0 (ml37 F G) 37 Try.f37 [.int .i64 a] =
    let x1 : ByteArray := ⟨#[45]⟩
    let x2 := F a ⟨#[]⟩
    (br (pr.eq a 0) (some ((.str ⟨#[48]⟩), [.undef])) (br (G a ⟨#[]⟩) (br (pr.lt a 0) (br (pr.sfit x1 x2) (some ((.str (pr.sapp x1 x2)), [.undef])) none) (some ((.str x2), [.undef]))) none)) := by
  kernel_rfl
/-- Digits, none of nothing. -/
def dz (a : Int) : List UInt8 := if a = 0 then [] else natDig a.natAbs
theorem wrap8 {n : Int} (h : 0 ≤ n) (h' : n < 256) : IntKind.u8.wrap n = n := by
  simp only [IntKind.wrap, IntKind.bits, IntKind.signed]
  simp
  omega
theorem s_byte {d : Nat} (h : d < 10) : std.wrap .u8 (std.ar .add .i64 48 (d : Int)) = ((48 + d : Nat) : Int) := by
  show IntKind.u8.wrap (IntKind.i64.wrap _) = _
  rw [wrap64 (by omega) (by omega), wrap8 (by omega) (by omega)]
  omega
theorem s_bsok (n : Nat) : std.bsok [.int .u8 (n : Int)] = true := by simp [std, mapO, byteOf]
theorem s_bss (n : Nat) : std.bss [.int .u8 (n : Int)] = bs [UInt8.ofNat n] := by simp [std, mapO, byteOf, bs]
theorem dz_step {a : Int} (h : a ≠ 0) : dz a = dz (a.tdiv 10) ++ [UInt8.ofNat (48 + a.natAbs % 10)] := by
  have hq : (a.tdiv 10).natAbs = a.natAbs / 10 := by rw [Int.natAbs_tdiv]; rfl
  unfold dz
  rw [if_neg h, hq]
  by_cases h10 : a.natAbs < 10
  · rw [if_pos (by omega), natDig_lt h10, Nat.mod_eq_of_lt h10]
    rfl
  · rw [if_neg (by omega), natDig_ge h10]
theorem loop37 : ∀ (n : Nat) (a : Int) (b : Bool) (l : List UInt8), a.natAbs < n → in64 a = true → (dz a).length + l.length ≤ 1000 →
    HeadC cfg Try.prog 37 (lpOf Try.f37 0) 0 (H37 a b (bs l)) (.exit 0, X37 b (bs (dz a ++ l)))
  | 0, a, b, l, h, _, _ => absurd h (by omega)
  | n + 1, a, b, l, h, ha, hl => by
    by_cases h0 : a = 0
    · subst h0
      refine head_step cfg_ok md0_ok noLoops (x := .exit 0) (h' := X37 b (bs l)) ?_ (by simp) (fun _ => rfl)
      rw [t37b]
      rfl
    · have hd := dz_step h0
      have hlen : (dz (a.tdiv 10)).length + 1 = (dz a).length := by rw [hd]; simp
      refine head_step cfg_ok md0_ok noLoops (x := .normal) (h' := H37 (a.tdiv 10) b (bs (UInt8.ofNat (48 + a.natAbs % 10) :: l))) ?_ (fun _ => ?_) (by simp)
      · have h100 : ((10 : Int) == 0) = false := by decide
        have ha0 : (a == 0) = false := by simpa using h0
        have h64 := in64_iff.1 ha
        rw [t37b]
        simp only [s_eq, s_lt, ha0, h100, br_f, br_t, s_quo ha, s_rem]
        have key : ∀ d : Nat, d < 10 → d = a.natAbs % 10 → ∀ e : Int, e = (d : Int) → br (std.bsok [.int .u8 (std.wrap .u8 (std.ar .add .i64 48 e))]) (br (std.sfit (std.bss [.int .u8 (std.wrap .u8 (std.ar .add .i64 48 e))]) (bs l)) (some (Exit.normal, H37 (a.tdiv 10) b (std.sapp (std.bss [.int .u8 (std.wrap .u8 (std.ar .add .i64 48 e))]) (bs l)))) none) none = some (Exit.normal, H37 (a.tdiv 10) b (bs (UInt8.ofNat (48 + a.natAbs % 10) :: l))) := by
          intro d hd1 hd2 e he
          subst he
          rw [s_byte hd1, s_bsok, br_t, s_bss, s_fit (by simp; omega), br_t, s_app, hd2]
          rfl
        by_cases hneg : a.tmod 10 < 0
        · rw [decide_eq_true hneg, br_t]
          refine key (a.natAbs % 10) (by omega) rfl _ ?_
          show IntKind.i64.wrap _ = _
          have hr : (a.tmod 10).natAbs = a.natAbs % 10 := by rw [Int.natAbs_tmod]; rfl
          rw [wrap64 (by omega) (by omega)]
          omega
        · rw [decide_eq_false hneg, br_f]
          refine key (a.natAbs % 10) (by omega) rfl _ ?_
          have hr : (a.tmod 10).natAbs = a.natAbs % 10 := by rw [Int.natAbs_tmod]; rfl
          omega
      · have hq : (a.tdiv 10).natAbs = a.natAbs / 10 := by rw [Int.natAbs_tdiv]; rfl
        have h64 := in64_iff.1 ha
        have := loop37 n (a.tdiv 10) b (UInt8.ofNat (48 + a.natAbs % 10) :: l) (by omega) (in64_iff.2 (by omega)) (by simp only [List.length_cons]; omega)
        rw [hd, List.append_assoc]
        exact this
def G37 (a : Int) (s : ByteArray) : Bool := in64 a && decide (s.size = 0)
def F37 (a : Int) (s : ByteArray) : ByteArray := bs (dz a) ++ s
theorem dz_len {a : Int} (ha : in64 a = true) : (dz a).length ≤ 20 := by
  have h64 := in64_iff.1 ha
  unfold dz
  split
  · simp
  · exact natDig_len 19 _ (by
      have : (10 : Nat) ^ (19 + 1) = 100000000000000000000 := by decide
      omega)
theorem ml37_ok : ∀ j a h x st', (j, a) ∈ [(0, lpOf Try.f37 0)] → ml37 F37 G37 j h = some (true, x, st') → HeadC cfg Try.prog 37 a j h (x, st') := by
  intro j a h x st' hm hml
  simp only [List.mem_singleton, Prod.mk.injEq] at hm
  obtain ⟨rfl, rfl⟩ := hm
  unfold ml37 at hml
  split at hml
  case h_2 => simp at hml
  rename_i a b s _
  simp only [Option.some.injEq, Prod.mk.injEq, G37, Bool.and_eq_true, decide_eq_true_eq] at hml
  obtain ⟨⟨h1, h2⟩, rfl, rfl⟩ := hml
  have hs : s = bs [] := by
    apply ByteArray.ext
    exact Array.eq_empty_of_size_eq_zero h2
  subst hs
  have := loop37 _ a b [] (Nat.lt_succ_self _) h1 (by have := dz_len h1; simp; omega)
  have e : F37 a (bs []) = bs (dz a ++ []) := by unfold F37; rw [bs_app]
  rw [e]
  exact this
/-- The reference's digits. -/
theorem c37 (a : Int) (ha : in64 a = true) : Comes cfg Try.prog 37 [.int .i64 a] (.str (bs (digL a)), [.undef]) := by
  refine comes_of cfg_ok md0_ok (ml := ml37 F37 G37) (by kernel_rfl) Try.func37 (loops_of (l := [(0, lpOf Try.f37 0)]) (by kernel_rfl) ml37_ok) ?_
  rw [t37]
  simp only [s_eq, s_lt]
  by_cases h0 : a = 0
  · subst h0
    have : digL 0 = [48] := by rw [digL, if_neg (by omega)]; exact natDig_lt (by decide)
    rw [this]
    rfl
  · have hG : G37 a ⟨#[]⟩ = true := by
      unfold G37
      rw [ha]
      rfl
    have hF : F37 a ⟨#[]⟩ = bs (natDig a.natAbs) := by
      unfold F37 dz
      rw [if_neg h0]
      show bs _ ++ bs [] = _
      rw [bs_app, List.append_nil]
    have hz := dz_len ha
    unfold dz at hz
    rw [if_neg h0] at hz
    have ha0 : (a == 0) = false := by simpa using h0
    rw [ha0, br_f, hG, br_t, hF]
    have h4 : (⟨#[45]⟩ : ByteArray) = bs [45] := rfl
    unfold digL
    by_cases hneg : a < 0
    · rw [decide_eq_true hneg, br_t, if_pos hneg, h4, s_fit (by simp; omega), br_t, s_app]
      rfl
    · rw [decide_eq_false hneg, br_f, if_neg hneg]
end Go.Proofs.Ytkejckoefjonjaa

namespace Go.Proofs.Ytkejckoefjonjaa
set_option maxRecDepth 100000

/-! ### two rows alike -/
def eqInts : List D → List D → Bool
  | [], [] => true
  | .int .i64 a :: cs, .int .i64 b :: ds => a == b && eqInts cs ds
  | _, _ => false
theorem eqInts_iff : ∀ {cs ds : List D}, eqInts cs ds = true → ∃ xs, cs = ints xs ∧ ds = ints xs
  | [], [], _ => ⟨[], rfl, rfl⟩
  | [], _ :: _, h => by simp [eqInts] at h
  | .int .i64 a :: cs, [], h => by simp [eqInts] at h
  | .int .i64 a :: cs, .int .i64 b :: ds, h => by
    simp only [eqInts, Bool.and_eq_true, beq_iff_eq] at h
    obtain ⟨rfl, h⟩ := h
    obtain ⟨xs, rfl, rfl⟩ := eqInts_iff h
    exact ⟨a :: xs, rfl, rfl⟩
theorem eqInts_self (xs : List Int) : eqInts (ints xs) (ints xs) = true := by
  induction xs with
  | nil => rfl
  | cons x xs ih => simpa [ints, eqInts] using ih
def G23 (n : Nat) (cs : List D) (m : Nat) (ds : List D) : Bool := eqInts cs ds && decide (cs.length = n) && decide (m = n) && decide (n < 1152921504606846976)
def ml23 (G : Nat → List D → Nat → List D → Bool) : Nat → St → Option (Bool × Exit × St)
  | 0, ⟨[(0, .sl (some g) 1 n cs), (1, .sl (some h) 1 m ds), (5, .int .i64 i)], [], [], 0⟩ => some (G n cs m ds && decide (i = 0), .exit 0, ⟨[(0, .sl (some g) 1 n cs), (1, .sl (some h) 1 m ds), (5, .int .i64 n), (11, .int .i64 n), (12, .sl (some g) 1 n cs), (13, .int .i64 n), (14, .bool false)], [], [], 0⟩)
  | _, _ => none
theorem t23 (pr : Prims) (G : Nat → List D → Nat → List D → Bool) (g h : Bool) (n m : Nat) (cs ds : List D) : runL pr cfg md0 (ml23 G) 23 Try.f23 [.sl (some g) 1 n cs, .sl (some h) 1 m ds] =
    br (br (pr.eq (pr.ofN n) (pr.ofN m)) false true) (some (.bool false, [.undef, .undef])) (br (G n cs m ds && decide ((0 : Int) = 0)) (some (.bool true, [.undef, .undef])) none) := by
  kernel_rfl
def H23 (g h : Bool) (n m : Nat) (cs ds : List D) (i : Int) : St := ⟨[(0, .sl (some g) 1 n cs), (1, .sl (some h) 1 m ds), (5, .int .i64 i)], [], [], 0⟩
def X23 (g h : Bool) (n m : Nat) (cs ds : List D) : St := ⟨[(0, .sl (some g) 1 n cs), (1, .sl (some h) 1 m ds), (5, .int .i64 n), (11, .int .i64 n), (12, .sl (some g) 1 n cs), (13, .int .i64 n), (14, .bool false)], [], [], 0⟩
theorem t23b (pr : Prims) (g h : Bool) (n m : Nat) (cs ds : List D) (i : Int) : codeL pr cfg md0 ml0 23 (lpOf Try.f23 0) 0 (H23 g h n m cs ds i) (kN cfg 23 0) =
    (br (pr.lt i (pr.ofN n)) (br (pr.inR i n) (br (br (pr.isI .i64 cs (pr.idx 0 i 1)) true false) (br (pr.inR i m) (br (br (pr.isI .i64 ds (pr.idx 0 i 1)) true false) (br (br (pr.eq (pr.getI cs (pr.idx 0 i 1)) (pr.getI ds (pr.idx 0 i 1))) false true) (some (Exit.ret, (St.mk [(0, (.sl (some g) 1 n cs)), (1, (.sl (some h) 1 m ds)), (4, (.bool false)), (5, (.int .i64 i)), (11, (.int .i64 i)), (12, (.sl (some g) 1 n cs)), (13, (.int .i64 (pr.ofN n))), (14, (.bool true)), (17, (.sl (some g) 1 n cs)), (18, (.int .i64 i)), (19, (.rptr cs (pr.idx 0 i 1))), (20, (.int .i64 (pr.getI cs (pr.idx 0 i 1)))), (21, (.sl (some h) 1 m ds)), (22, (.int .i64 i)), (23, (.rptr ds (pr.idx 0 i 1))), (24, (.int .i64 (pr.getI ds (pr.idx 0 i 1)))), (25, (.bool true))] [] [] 0))) (some (Exit.normal, H23 g h n m cs ds (pr.ar .add .i64 i 1)))) none) none) none) none) (some ((Exit.exit 0), (St.mk [(0, (.sl (some g) 1 n cs)), (1, (.sl (some h) 1 m ds)), (5, (.int .i64 i)), (11, (.int .i64 i)), (12, (.sl (some g) 1 n cs)), (13, (.int .i64 (pr.ofN n))), (14, (.bool false))] [] [] 0)))) := by
  kernel_rfl
theorem s_inc {i : Nat} (h : i < 1152921504606846976) : std.ar .add .i64 (i : Int) 1 = ((i + 1 : Nat) : Int) := by
  show IntKind.i64.wrap _ = _
  rw [wrap64 (by omega) (by omega)]
  omega
theorem loop23 (g h : Bool) (xs : List Int) (hb : xs.length < 1152921504606846976) : ∀ (k i : Nat), i + k = xs.length →
    HeadC cfg Try.prog 23 (lpOf Try.f23 0) 0 (H23 g h xs.length xs.length (ints xs) (ints xs) i) (.exit 0, X23 g h xs.length xs.length (ints xs) (ints xs))
  | 0, i, hi => by
    have hin : i = xs.length := by omega
    subst hin
    refine head_step cfg_ok md0_ok noLoops (x := .exit 0) (h' := X23 g h xs.length xs.length (ints xs) (ints xs)) ?_ (by simp) (fun _ => rfl)
    rw [t23b, s_lt, s_ofN, decide_eq_false (by omega), br_f]
    rfl
  | k + 1, i, hi => by
    have hlt : i < xs.length := by omega
    refine head_step cfg_ok md0_ok noLoops (x := .normal) (h' := H23 g h xs.length xs.length (ints xs) (ints xs) ((i + 1 : Nat) : Int)) ?_ (fun _ => loop23 g h xs hb k (i + 1) (by omega)) (by simp)
    rw [t23b, s_lt, s_ofN, decide_eq_true (by omega), br_t, s_idx, Nat.mul_one, s_inR, decide_eq_true hlt, br_t, s_isI hlt, br_t, br_t, br_t, br_t, s_eq, s_getI hlt, beq_self_eq_true, br_t, br_f, s_inc (by omega)]
theorem ml23_ok : ∀ j a h x st', (j, a) ∈ [(0, lpOf Try.f23 0)] → ml23 G23 j h = some (true, x, st') → HeadC cfg Try.prog 23 a j h (x, st') := by
  intro j a h x st' hm hml
  simp only [List.mem_singleton, Prod.mk.injEq] at hm
  obtain ⟨rfl, rfl⟩ := hm
  unfold ml23 at hml
  split at hml
  case h_2 => simp at hml
  simp only [Option.some.injEq, Prod.mk.injEq, G23, Bool.and_eq_true, decide_eq_true_eq] at hml
  obtain ⟨⟨⟨⟨⟨h1, h2⟩, h3⟩, h4⟩, h5⟩, rfl, rfl⟩ := hml
  obtain ⟨xs, rfl, rfl⟩ := eqInts_iff h1
  rw [ints_length] at h2
  subst h2
  subst h3
  subst h5
  exact loop23 _ _ xs h4 xs.length 0 (by omega)
theorem c23 (g h : Bool) (xs : List Int) (hb : xs.length < 1152921504606846976) : Comes cfg Try.prog 23 [.sl (some g) 1 xs.length (ints xs), .sl (some h) 1 xs.length (ints xs)] (.bool true, [.undef, .undef]) := by
  refine comes_of cfg_ok md0_ok (ml := ml23 G23) (by kernel_rfl) Try.func23 (loops_of (l := [(0, lpOf Try.f23 0)]) (by kernel_rfl) ml23_ok) ?_
  rw [t23, s_eq, beq_self_eq_true, br_t, br_f]
  have : G23 xs.length (ints xs) xs.length (ints xs) = true := by
    simp only [G23, eqInts_self, ints_length, decide_true, Bool.and_self, Bool.true_and]
    exact decide_eq_true hb
  rw [this]
  rfl

/-! ### small ones -/
theorem t36 (pr : Prims) (a b c : Int) : runL pr cfg md0 ml0 36 Try.f36 [.int .i64 a, .int .i64 b, .int .i64 c] =
    (br (pr.le b a) (some ((.bool (pr.le a c)), [.undef, .undef, .undef])) (some ((.bool false), [.undef, .undef, .undef]))) := by kernel_rfl
theorem t38 (pr : Prims) (a b c : Int) : runL pr cfg md0 ml0 38 Try.f38 [.int .i64 a, .int .i64 b, .int .i64 c] =
    (br (pr.le b a) (some ((.bool (pr.le a c)), [.undef, .undef, .undef])) (some ((.bool false), [.undef, .undef, .undef]))) := by kernel_rfl
theorem c36 (a b c : Int) : Comes cfg Try.prog 36 [.int .i64 a, .int .i64 b, .int .i64 c] (.bool (br (std.le b a) (std.le a c) false), [.undef, .undef, .undef]) := by
  refine comes_of cfg_ok md0_ok (ml := ml0) (by kernel_rfl) Try.func36 (fun _ _ => noLoops) ?_
  rw [t36]
  cases std.le b a <;> rfl
theorem c38 (a b c : Int) : Comes cfg Try.prog 38 [.int .i64 a, .int .i64 b, .int .i64 c] (.bool (br (std.le b a) (std.le a c) false), [.undef, .undef, .undef]) := by
  refine comes_of cfg_ok md0_ok (ml := ml0) (by kernel_rfl) Try.func38 (fun _ _ => noLoops) ?_
  rw [t38]
  cases std.le b a <;> rfl
def sz35 (n : Nat) (m : Int) : Int := br (std.lt (std.ar .sub .i64 m (std.ofN n)) 0) (-1) (std.ar .sub .i64 m (std.ofN n))
theorem t35 (pr : Prims) (m : Int) (g : Bool) (n : Nat) (cs : List D) : runL pr cfg md0 ml0 35 Try.f35 [.sl (some g) 1 n cs, .int .i64 m] =
    (br (pr.lt (pr.ar .sub .i64 m (pr.ofN n)) 0) (some ((.int .i64 (-1)), [.undef, .undef])) (some ((.int .i64 (pr.ar .sub .i64 m (pr.ofN n))), [.undef, .undef]))) := by kernel_rfl
theorem c35 (g : Bool) (n : Nat) (cs : List D) (m : Int) : Comes cfg Try.prog 35 [.sl (some g) 1 n cs, .int .i64 m] (.int .i64 (sz35 n m), [.undef, .undef]) := by
  refine comes_of cfg_ok md0_ok (ml := ml0) (by kernel_rfl) Try.func35 (fun _ _ => noLoops) ?_
  rw [t35]
  unfold sz35
  cases std.lt (std.ar .sub .i64 m (std.ofN n)) 0 <;> rfl
def md9 (h : Nat → Int → Int) (f : FuncId) (ds : List D) : Option (Bool × (D × List D)) := match f, ds with
  | 35, [.sl (some _) 1 n _, .int .i64 m] => some (true, (.int .i64 (h n m), [.undef, .undef]))
  | _, _ => none
theorem t9 (pr : Prims) (h : Nat → Int → Int) (a b c d : Int) (g : Bool) (n : Nat) (cs : List D) (m : Int) : runL pr cfg (md9 h) ml0 9 Try.f9 [.agg [.int .i64 a, .int .i64 b, .int .i64 c, .int .i64 d, .sl (some g) 1 n cs], .int .i64 m] =
    (br (pr.lt (h n m) 0) (some ((.int .i64 (-1)), [.undef, .undef])) (some ((.int .i64 (h n m)), [.undef, .undef]))) := by kernel_rfl
def sz9 (n : Nat) (m : Int) : Int := br (std.lt (sz35 n m) 0) (-1) (sz35 n m)
theorem c9 (a b c d : Int) (g : Bool) (n : Nat) (cs : List D) (m : Int) : Comes cfg Try.prog 9 [.agg [.int .i64 a, .int .i64 b, .int .i64 c, .int .i64 d, .sl (some g) 1 n cs], .int .i64 m] (.int .i64 (sz9 n m), [.undef, .undef]) := by
  refine comes_of cfg_ok (md := md9 sz35) (fun g ds r hm => ?_) (ml := ml0) (by kernel_rfl) Try.func9 (fun _ _ => noLoops) ?_
  · unfold md9 at hm
    split at hm
    · simp only [Option.some.injEq, Prod.mk.injEq, true_and] at hm
      subst hm
      exact c35 _ _ _ _
    · simp at hm
  · rw [t9]
    unfold sz9
    cases std.lt (sz35 n m) 0 <;> rfl
def G29 (n : Nat) (cs : List D) : Bool := isInts cs && decide (cs.length = n) && decide (n ≤ 17592186044416)
theorem G29_ok {n : Nat} {cs : List D} (h : G29 n cs = true) (g : Bool) : Comes cfg Try.prog 29 [.sl (some g) 1 n cs] (.sl none 1 n cs, [.undef]) := by
  simp only [G29, Bool.and_eq_true, decide_eq_true_eq] at h
  obtain ⟨⟨h1, h2⟩, h3⟩ := h
  obtain ⟨xs, rfl⟩ := isInts_iff.1 h1
  rw [ints_length] at h2
  subst h2
  exact c29 g xs h3
def md11 (G : Nat → List D → Bool) (f : FuncId) (ds : List D) : Option (Bool × (D × List D)) := match f, ds with
  | 29, [.sl (some _) 1 n cs] => some (G n cs, (.sl none 1 n cs, [.undef]))
  | _, _ => none
theorem t11 (pr : Prims) (G : Nat → List D → Bool) (a b c d : Int) (g : Bool) (n : Nat) (cs : List D) : runL pr cfg (md11 G) ml0 11 Try.f11 [.agg [.int .i64 a, .int .i64 b, .int .i64 c, .int .i64 d, .sl (some g) 1 n cs]] =
    (br (br (G n cs) (br (br (pr.nl cs) true false) true false) false) (some ((.agg [(.int .i64 a), (.int .i64 b), (.int .i64 c), (.int .i64 d), (.sl none 1 n cs)]), [.undef])) none) := by kernel_rfl
theorem c11 (a b c d : Int) (g : Bool) {n : Nat} {cs : List D} (h : G29 n cs = true) : Comes cfg Try.prog 11 [.agg [.int .i64 a, .int .i64 b, .int .i64 c, .int .i64 d, .sl (some g) 1 n cs]] (.agg [.int .i64 a, .int .i64 b, .int .i64 c, .int .i64 d, .sl none 1 n cs], [.undef]) := by
  refine comes_of cfg_ok (md := md11 G29) (fun g ds r hm => ?_) (ml := ml0) (by kernel_rfl) Try.func11 (fun _ _ => noLoops) ?_
  · unfold md11 at hm
    split at hm
    · simp only [Option.some.injEq, Prod.mk.injEq] at hm
      obtain ⟨h1, rfl⟩ := hm
      exact G29_ok h1 _
    · simp at hm
  · have hnl : std.nl cs = true := by
      simp only [G29, Bool.and_eq_true] at h
      obtain ⟨xs, rfl⟩ := isInts_iff.1 h.1.1
      exact s_nl xs
    rw [t11, h, hnl]
    rfl
end Go.Proofs.Ytkejckoefjonjaa

namespace Go.Proofs.Ytkejckoefjonjaa
set_option maxRecDepth 100000

def nameL (a : Int) : List UInt8 := if a = 1 then [100, 97, 116, 97] else if a = 2 then [97, 99, 107] else if a = 3 then [99, 108, 101, 97, 114] else if a = 4 then [99, 111, 112, 121] else if a = 5 then [100, 111, 110, 101] else [110, 111, 110, 101]
def txtL (a b c d : Int) (n : Nat) : List UInt8 := nameL a ++ 32 :: (digL b ++ 32 :: (digL c ++ 32 :: (digL d ++ 32 :: digL (n : Int))))

/-! ### the reference's -/
def md10 (pr : Prims) (dig : Int → ByteArray) (gd : Int → Bool) (f : FuncId) (ds : List D) : Option (Bool × (D × List D)) := match f, ds with
  | 36, [.int .i64 a, .int .i64 b, .int .i64 c] => some (true, (.bool (br (pr.le b a) (pr.le a c) false), [.undef, .undef, .undef]))
  | 37, [.int .i64 a] => some (gd a, (.str (dig a), [.undef]))
  | _, _ => none
def chain10 (pr : Prims) (dig : Int → ByteArray) (gd : Int → Bool) (b c d : Int) (n : Nat) (x : ByteArray) : Option (D × List D) :=
  let x3 : ByteArray := ⟨#[32]⟩
  let x12 := pr.sapp x x3
  let x13 := (pr.sapp x12 (dig b))
  let x14 := (pr.sapp x13 x3)
  let x15 := (pr.sapp x14 (dig c))
  let x16 := (pr.sapp x15 x3)
  let x17 := (pr.sapp x16 (dig d))
  let x18 := (pr.sapp x17 x3)
  (br (pr.sfit x x3) (br (br (gd b) true false) (br (pr.sfit x12 (dig b)) (br (pr.sfit x13 x3) (br (br (gd c) true false) (br (pr.sfit x14 (dig c)) (br (pr.sfit x15 x3) (br (br (gd d) true false) (br (pr.sfit x16 (dig d)) (br (pr.sfit x17 x3) (br (br (gd (pr.ofN n)) true false) (br (pr.sfit x18 (dig (pr.ofN n))) (some ((.str (pr.sapp x18 (dig (pr.ofN n)))), [.undef])) none) none) none) none) none) none) none) none) none) none) none) none)
def names10 : List D := [(.str ⟨#[110, 111, 110, 101]⟩), (.str ⟨#[100, 97, 116, 97]⟩), (.str ⟨#[97, 99, 107]⟩), (.str ⟨#[99, 108, 101, 97, 114]⟩), (.str ⟨#[99, 111, 112, 121]⟩), (.str ⟨#[100, 111, 110, 101]⟩)]
theorem t10 (pr : Prims) (dig : Int → ByteArray) (gd : Int → Bool) (a b c d : Int) (g : Bool) (n : Nat) (cs : List D) : runL pr cfg (md10 pr dig gd) ml0 10 Try.f10 [.agg [.int .i64 a, .int .i64 b, .int .i64 c, .int .i64 d, .sl (some g) 1 n cs]] =
    (br (br (br (pr.le 0 a) (pr.le a (pr.ar .sub .i64 (pr.ofN 6) 1)) false) false true)
      (br (pr.inR 0 6) (br (br (pr.isS names10 (pr.idx 0 0 1)) true false) (chain10 pr dig gd b c d n (pr.getS names10 (pr.idx 0 0 1))) none) none)
      (br (pr.inR a 6) (br (br (pr.isS names10 (pr.idx 0 a 1)) true false) (chain10 pr dig gd b c d n (pr.getS names10 (pr.idx 0 a 1))) none) none)) := by
  kernel_rfl
theorem chain10_ok {b c d : Int} {n : Nat} (hb : in64 b = true) (hc : in64 c = true) (hd : in64 d = true) (hn : in64 (n : Int) = true) {l : List UInt8} (hl : l.length ≤ 5) :
    chain10 std (fun a => bs (digL a)) in64 b c d n (bs l) = some (.str (bs (l ++ 32 :: (digL b ++ 32 :: (digL c ++ 32 :: (digL d ++ 32 :: digL (n : Int)))))), [.undef]) := by
  have kb := digL_len (in64_iff.1 hb).1 (in64_iff.1 hb).2
  have kc := digL_len (in64_iff.1 hc).1 (in64_iff.1 hc).2
  have kd := digL_len (in64_iff.1 hd).1 (in64_iff.1 hd).2
  have kn := digL_len (in64_iff.1 hn).1 (in64_iff.1 hn).2
  have h4 : (⟨#[32]⟩ : ByteArray) = bs [32] := rfl
  unfold chain10
  simp only [h4, s_app, s_ofN, hb, hc, hd, hn, br_t]
  rw [s_fit (by simp; omega), br_t, s_fit (by simp; omega), br_t, s_fit (by simp; omega), br_t, s_fit (by simp; omega), br_t, s_fit (by simp; omega), br_t, s_fit (by simp; omega), br_t, s_fit (by simp; omega), br_t, s_fit (by simp; omega), br_t]
  simp
theorem c10 (a : Int) {b c d : Int} (g : Bool) {n : Nat} (cs : List D) (hb : in64 b = true) (hc : in64 c = true) (hd : in64 d = true) (hn : in64 (n : Int) = true) :
    Comes cfg Try.prog 10 [.agg [.int .i64 a, .int .i64 b, .int .i64 c, .int .i64 d, .sl (some g) 1 n cs]] (.str (bs (txtL a b c d n)), [.undef]) := by
  refine comes_of cfg_ok (md := md10 std (fun a => bs (digL a)) in64) (fun g ds r hm => ?_) (ml := ml0) (by kernel_rfl) Try.func10 (fun _ _ => noLoops) ?_
  · unfold md10 at hm
    split at hm
    · simp only [Option.some.injEq, Prod.mk.injEq, true_and] at hm
      subst hm
      exact c36 _ _ _
    · simp only [Option.some.injEq, Prod.mk.injEq] at hm
      obtain ⟨h1, rfl⟩ := hm
      exact c37 _ h1
    · simp at hm
  · rw [t10]
    have e6 : std.ar .sub .i64 (std.ofN 6) 1 = 5 := by decide
    rw [s_le, s_le, e6]
    unfold txtL
    by_cases h : 0 ≤ a ∧ a ≤ 5
    · have fin : ∀ l : List UInt8, std.inR a 6 = true → std.isS names10 (std.idx 0 a 1) = true → std.getS names10 (std.idx 0 a 1) = bs l → nameL a = l → l.length ≤ 5 →
          (br (br (br (decide (0 ≤ a)) (decide (a ≤ 5)) false) false true)
            (br (std.inR 0 6) (br (br (std.isS names10 (std.idx 0 0 1)) true false) (chain10 std (fun a => bs (digL a)) in64 b c d n (std.getS names10 (std.idx 0 0 1))) none) none)
            (br (std.inR a 6) (br (br (std.isS names10 (std.idx 0 a 1)) true false) (chain10 std (fun a => bs (digL a)) in64 b c d n (std.getS names10 (std.idx 0 a 1))) none) none)) = some (.str (bs (nameL a ++ 32 :: (digL b ++ 32 :: (digL c ++ 32 :: (digL d ++ 32 :: digL (n : Int)))))), [.undef]) := by
        intro l h1 h2 h3 h4 h5
        rw [decide_eq_true h.1, decide_eq_true h.2, br_t, br_t, br_f, h1, br_t, h2, br_t, br_t, h3, h4]
        exact chain10_ok hb hc hd hn h5
      have h' : a = 0 ∨ a = 1 ∨ a = 2 ∨ a = 3 ∨ a = 4 ∨ a = 5 := by omega
      rcases h' with rfl | rfl | rfl | rfl | rfl | rfl
      · exact fin [110, 111, 110, 101] (by decide) (by decide) (by decide) (by decide) (by decide)
      · exact fin [100, 97, 116, 97] (by decide) (by decide) (by decide) (by decide) (by decide)
      · exact fin [97, 99, 107] (by decide) (by decide) (by decide) (by decide) (by decide)
      · exact fin [99, 108, 101, 97, 114] (by decide) (by decide) (by decide) (by decide) (by decide)
      · exact fin [99, 111, 112, 121] (by decide) (by decide) (by decide) (by decide) (by decide)
      · exact fin [100, 111, 110, 101] (by decide) (by decide) (by decide) (by decide) (by decide)
    · have h1 : br (br (decide (0 ≤ a)) (decide (a ≤ 5)) false) false true = true := by
        by_cases h0 : 0 ≤ a
        · rw [decide_eq_true h0, decide_eq_false (fun h5 => h ⟨h0, h5⟩)]; rfl
        · rw [decide_eq_false h0]; rfl
      have h2 : nameL a = [110, 111, 110, 101] := by
        unfold nameL
        rw [if_neg (by omega), if_neg (by omega), if_neg (by omega), if_neg (by omega), if_neg (by omega)]
      have e1 : std.inR 0 6 = true := by decide
      have e2 : std.isS names10 (std.idx 0 0 1) = true := by decide
      have e3 : std.getS names10 (std.idx 0 0 1) = bs [110, 111, 110, 101] := by decide
      rw [h1, br_t, h2, e1, br_t, e2, br_t, br_t, e3]
      exact chain10_ok hb hc hd hn (by decide)

/-! ### the program's -/
def jnB (cs : List D) (s : ByteArray) : ByteArray := match joinE [.sl (some true) 1 0 cs, .str s] with
  | some (.str b, _) => b
  | _ => ⟨#[]⟩
def gjB (cs : List D) (s : ByteArray) : Bool := match joinE [.sl (some true) 1 0 cs, .str s] with
  | some (.str _, _) => true
  | _ => false
theorem c74 (g : Bool) (n : Nat) (cs : List D) (s : ByteArray) (h : gjB cs s = true) : Comes cfg Try.prog 74 [.sl (some g) 1 n cs, .str s] (.str (jnB cs s), [.undef, .undef]) := by
  refine runs_ext (e := joinE) (by kernel_rfl) ?_
  have e : joinE [.sl (some g) 1 n cs, .str s] = joinE [.sl (some true) 1 0 cs, .str s] := rfl
  rw [e]
  unfold gjB at h
  unfold jnB
  simp only [joinE] at h ⊢
  split at h
  · rename_i b os hx
    rw [hx]
    split at hx
    · split at hx
      · split at hx
        · simp only [Option.some.injEq, Prod.mk.injEq] at hx
          rw [hx.2]
        · simp at hx
      · simp at hx
    · simp at hx
  · simp at h
def md39 (jn : List D → ByteArray → ByteArray) (gj : List D → ByteArray → Bool) (f : FuncId) (ds : List D) : Option (Bool × (D × List D)) := match f, ds with
  | 74, [.sl (some _) 1 _ cs, .str s] => some (gj cs s, (.str (jn cs s), [.undef, .undef]))
  | _, _ => none
theorem t39 (pr : Prims) (jn : List D → ByteArray → ByteArray) (gj : List D → ByteArray → Bool) (g : Bool) (n : Nat) (cs : List D) : runL pr cfg (md39 jn gj) ml0 39 Try.f39 [.sl (some g) 1 n cs] =
    let x1 : ByteArray := ⟨#[32]⟩
    (br (br (gj cs x1) true false) (some ((.str (jn cs x1)), [.undef])) none) := by kernel_rfl
theorem c39 (g : Bool) (n : Nat) (cs : List D) (h : gjB cs ⟨#[32]⟩ = true) : Comes cfg Try.prog 39 [.sl (some g) 1 n cs] (.str (jnB cs ⟨#[32]⟩), [.undef]) := by
  refine comes_of cfg_ok (md := md39 jnB gjB) (fun g ds r hm => ?_) (ml := ml0) (by kernel_rfl) Try.func39 (fun _ _ => noLoops) ?_
  · unfold md39 at hm
    split at hm
    · simp only [Option.some.injEq, Prod.mk.injEq] at hm
      obtain ⟨h1, rfl⟩ := hm
      exact c74 _ _ _ _ h1
    · simp at hm
  · rw [t39]
    simp only [h]
    rfl
end Go.Proofs.Ytkejckoefjonjaa

namespace Go.Proofs.Ytkejckoefjonjaa
set_option maxRecDepth 100000

theorem join5 (l1 l2 l3 l4 l5 : List UInt8) (h : l1.length + l2.length + l3.length + l4.length + l5.length ≤ 1000) :
    joinE [.sl (some true) 1 0 [.str (bs l1), .str (bs l2), .str (bs l3), .str (bs l4), .str (bs l5)], .str ⟨#[32]⟩] = some (.str (bs (l1 ++ 32 :: (l2 ++ 32 :: (l3 ++ 32 :: (l4 ++ 32 :: l5))))), [.undef, .undef]) := by
  have e : Lib.join ([bs l1, bs l2, bs l3, bs l4, bs l5].map (·.data.toList)) [32] = l1 ++ 32 :: (l2 ++ 32 :: (l3 ++ 32 :: (l4 ++ 32 :: l5))) := by
    simp [Lib.join_cons, Lib.joinTail, bs]
  have m : mapO strOf [.str (bs l1), .str (bs l2), .str (bs l3), .str (bs l4), .str (bs l5)] = some [bs l1, bs l2, bs l3, bs l4, bs l5] := rfl
  have s : (⟨#[32]⟩ : ByteArray).data.toList = [32] := rfl
  simp only [joinE, if_true, m, s]
  rw [e, if_pos ⟨by simp; omega, by simp⟩]
  rfl
def names12 : List D := [(.str ⟨#[100, 97, 116, 97]⟩), (.str ⟨#[97, 99, 107]⟩), (.str ⟨#[99, 108, 101, 97, 114]⟩), (.str ⟨#[99, 111, 112, 121]⟩), (.str ⟨#[100, 111, 110, 101]⟩)]
def md12 (pr : Prims) (dig : Int → ByteArray) (gd : Int → Bool) (sp : List D → ByteArray) (gs : List D → Bool) (f : FuncId) (ds : List D) : Option (Bool × (D × List D)) := match f, ds with
  | 38, [.int .i64 a, .int .i64 b, .int .i64 c] => some (true, (.bool (br (pr.le b a) (pr.le a c) false), [.undef, .undef, .undef]))
  | 40, [.int .i64 a] => some (gd a, (.str (dig a), [.undef]))
  | 39, [.sl (some _) 1 _ cs] => some (gs cs, (.str (sp cs), [.undef]))
  | _, _ => none
def chain12 (pr : Prims) (dig : Int → ByteArray) (gd : Int → Bool) (sp : List D → ByteArray) (gs : List D → Bool) (b c d : Int) (n : Nat) (x : ByteArray) : Option (D × List D) :=
  let x2 : List D := [(.str x), (.str (dig b)), (.str (dig c)), (.str (dig d)), (.str (dig (pr.ofN n)))]
  (br (br (gd b) true false) (br (br (gd c) true false) (br (br (gd d) true false) (br (br (gd (pr.ofN n)) true false) (br (br (gs x2) true false) (some ((.str (sp x2)), [.undef])) none) none) none) none) none)
theorem t12 (pr : Prims) (dig : Int → ByteArray) (gd : Int → Bool)  (sp : List D → ByteArray) (gs : List D → Bool) (a b c d : Int) (g : Bool) (n : Nat) (cs : List D) : runL pr cfg (md12 pr dig gd sp gs) ml0 12 Try.f12 [.agg [.int .i64 a, .int .i64 b, .int .i64 c, .int .i64 d, .sl (some g) 1 n cs]] =
    (br (br (pr.le 1 a) (pr.le a 5) false) (br (pr.inR (pr.ar .sub .i64 a 1) 5) (br (br (pr.isS names12 (pr.idx 0 (pr.ar .sub .i64 a 1) 1)) true false) (chain12 pr dig gd sp gs b c d n (pr.getS names12 (pr.idx 0 (pr.ar .sub .i64 a 1) 1))) none) none) (chain12 pr dig gd sp gs b c d n ⟨#[110, 111, 110, 101]⟩)) := by
  kernel_rfl
theorem chain12_ok {b c d : Int} {n : Nat} (hb : in64 b = true) (hc : in64 c = true) (hd : in64 d = true) (hn : in64 (n : Int) = true) {l : List UInt8} (hl : l.length ≤ 5) :
    chain12 std (fun a => bs (digL a)) in64 (fun cs => jnB cs ⟨#[32]⟩) (fun cs => gjB cs ⟨#[32]⟩) b c d n (bs l) = some (.str (bs (l ++ 32 :: (digL b ++ 32 :: (digL c ++ 32 :: (digL d ++ 32 :: digL (n : Int)))))), [.undef]) := by
  have kb := digL_len (in64_iff.1 hb).1 (in64_iff.1 hb).2
  have kc := digL_len (in64_iff.1 hc).1 (in64_iff.1 hc).2
  have kd := digL_len (in64_iff.1 hd).1 (in64_iff.1 hd).2
  have kn := digL_len (in64_iff.1 hn).1 (in64_iff.1 hn).2
  have hj := join5 l (digL b) (digL c) (digL d) (digL (n : Int)) (by omega)
  unfold chain12
  simp only [s_ofN, hb, hc, hd, hn, br_t]
  have h1 : gjB [.str (bs l), .str (bs (digL b)), .str (bs (digL c)), .str (bs (digL d)), .str (bs (digL (n : Int)))] ⟨#[32]⟩ = true := by
    unfold gjB
    rw [hj]
  have h2 : jnB [.str (bs l), .str (bs (digL b)), .str (bs (digL c)), .str (bs (digL d)), .str (bs (digL (n : Int)))] ⟨#[32]⟩ = bs (l ++ 32 :: (digL b ++ 32 :: (digL c ++ 32 :: (digL d ++ 32 :: digL (n : Int))))) := by
    unfold jnB
    rw [hj]
  rw [h1, h2]
  rfl
theorem c12 (a : Int) {b c d : Int} (g : Bool) {n : Nat} (cs : List D) (hb : in64 b = true) (hc : in64 c = true) (hd : in64 d = true) (hn : in64 (n : Int) = true) :
    Comes cfg Try.prog 12 [.agg [.int .i64 a, .int .i64 b, .int .i64 c, .int .i64 d, .sl (some g) 1 n cs]] (.str (bs (txtL a b c d n)), [.undef]) := by
  refine comes_of cfg_ok (md := md12 std (fun a => bs (digL a)) in64 (fun cs => jnB cs ⟨#[32]⟩) (fun cs => gjB cs ⟨#[32]⟩)) (fun g ds r hm => ?_) (ml := ml0) (by kernel_rfl) Try.func12 (fun _ _ => noLoops) ?_
  · unfold md12 at hm
    split at hm
    · simp only [Option.some.injEq, Prod.mk.injEq, true_and] at hm
      subst hm
      exact c38 _ _ _
    · simp only [Option.some.injEq, Prod.mk.injEq] at hm
      obtain ⟨h1, rfl⟩ := hm
      exact c40 _ h1
    · simp only [Option.some.injEq, Prod.mk.injEq] at hm
      obtain ⟨h1, rfl⟩ := hm
      exact c39 _ _ _ h1
    · simp at hm
  · rw [t12, s_le, s_le]
    unfold txtL
    by_cases h : 1 ≤ a ∧ a ≤ 5
    · have fin : ∀ l : List UInt8, std.inR (std.ar .sub .i64 a 1) 5 = true → std.isS names12 (std.idx 0 (std.ar .sub .i64 a 1) 1) = true → std.getS names12 (std.idx 0 (std.ar .sub .i64 a 1) 1) = bs l → nameL a = l → l.length ≤ 5 →
          (br (br (decide (1 ≤ a)) (decide (a ≤ 5)) false) (br (std.inR (std.ar .sub .i64 a 1) 5) (br (br (std.isS names12 (std.idx 0 (std.ar .sub .i64 a 1) 1)) true false) (chain12 std (fun a => bs (digL a)) in64 (fun cs => jnB cs ⟨#[32]⟩) (fun cs => gjB cs ⟨#[32]⟩) b c d n (std.getS names12 (std.idx 0 (std.ar .sub .i64 a 1) 1))) none) none) (chain12 std (fun a => bs (digL a)) in64 (fun cs => jnB cs ⟨#[32]⟩) (fun cs => gjB cs ⟨#[32]⟩) b c d n ⟨#[110, 111, 110, 101]⟩)) = some (.str (bs (nameL a ++ 32 :: (digL b ++ 32 :: (digL c ++ 32 :: (digL d ++ 32 :: digL (n : Int)))))), [.undef]) := by
        intro l h1 h2 h3 h4 h5
        rw [decide_eq_true h.1, decide_eq_true h.2, br_t, br_t, h1, br_t, h2, br_t, br_t, h3, h4]
        exact chain12_ok hb hc hd hn h5
      have h' : a = 1 ∨ a = 2 ∨ a = 3 ∨ a = 4 ∨ a = 5 := by omega
      rcases h' with rfl | rfl | rfl | rfl | rfl
      · exact fin [100, 97, 116, 97] (by decide) (by decide) (by decide) (by decide) (by decide)
      · exact fin [97, 99, 107] (by decide) (by decide) (by decide) (by decide) (by decide)
      · exact fin [99, 108, 101, 97, 114] (by decide) (by decide) (by decide) (by decide) (by decide)
      · exact fin [99, 111, 112, 121] (by decide) (by decide) (by decide) (by decide) (by decide)
      · exact fin [100, 111, 110, 101] (by decide) (by decide) (by decide) (by decide) (by decide)
    · have h1 : br (decide (1 ≤ a)) (decide (a ≤ 5)) false = false := by
        by_cases h0 : 1 ≤ a
        · rw [decide_eq_true h0, decide_eq_false (fun h5 => h ⟨h0, h5⟩)]; rfl
        · rw [decide_eq_false h0]; rfl
      have h2 : nameL a = [110, 111, 110, 101] := by
        unfold nameL
        rw [if_neg (by omega), if_neg (by omega), if_neg (by omega), if_neg (by omega), if_neg (by omega)]
      have e3 : (⟨#[110, 111, 110, 101]⟩ : ByteArray) = bs [110, 111, 110, 101] := rfl
      rw [h1, br_f, h2, e3]
      exact chain12_ok hb hc hd hn (by decide)

/-! ### two messages alike -/
def md13 (G e : Nat → List D → Nat → List D → Bool) (f : FuncId) (ds : List D) : Option (Bool × (D × List D)) := match f, ds with
  | 23, [.sl (some _) 1 n cs, .sl (some _) 1 m ds] => some (G n cs m ds, (.bool (e n cs m ds), [.undef, .undef]))
  | _, _ => none
theorem t13 (pr : Prims) (G e : Nat → List D → Nat → List D → Bool) (a b c d a' b' c' d' : Int) (g g' : Bool) (n n' : Nat) (cs cs' : List D) : runL pr cfg (md13 G e) ml0 13 Try.f13 [.agg [.int .i64 a, .int .i64 b, .int .i64 c, .int .i64 d, .sl (some g) 1 n cs], .agg [.int .i64 a', .int .i64 b', .int .i64 c', .int .i64 d', .sl (some g') 1 n' cs']] =
    let x1 := (some ((.bool false), [.undef, .undef]))
    (br (br (pr.eq a a') false true) x1 (br (br (pr.eq b b') false true) x1 (br (br (pr.eq c c') false true) x1 (br (br (pr.eq d d') false true) x1 (br (br (G n cs n' cs') true false) (br (br (e n cs n' cs') false true) x1 (some ((.bool true), [.undef, .undef]))) none))))) := by
  kernel_rfl
theorem c13 (a b c d : Int) (g g' : Bool) (xs : List Int) (hb : xs.length < 1152921504606846976) : Comes cfg Try.prog 13 [.agg [.int .i64 a, .int .i64 b, .int .i64 c, .int .i64 d, .sl (some g) 1 xs.length (ints xs)], .agg [.int .i64 a, .int .i64 b, .int .i64 c, .int .i64 d, .sl (some g') 1 xs.length (ints xs)]] (.bool true, [.undef, .undef]) := by
  refine comes_of cfg_ok (md := md13 G23 (fun _ _ _ _ => true)) (fun g ds r hm => ?_) (ml := ml0) (by kernel_rfl) Try.func13 (fun _ _ => noLoops) ?_
  · unfold md13 at hm
    split at hm
    · simp only [Option.some.injEq, Prod.mk.injEq, G23, Bool.and_eq_true, decide_eq_true_eq] at hm
      obtain ⟨⟨⟨⟨h1, h2⟩, h3⟩, h4⟩, rfl⟩ := hm
      obtain ⟨ys, rfl, rfl⟩ := eqInts_iff h1
      rw [ints_length] at h2
      subst h2
      subst h3
      exact c23 _ _ ys h4
    · simp at hm
  · have hG : G23 xs.length (ints xs) xs.length (ints xs) = true := by
      simp only [G23, eqInts_self, ints_length, decide_true, Bool.and_self, Bool.true_and]
      exact decide_eq_true hb
    rw [t13]
    simp only [s_eq, beq_self_eq_true, br_t, br_f, hG]

/-! ### the law -/
def md3 (G : Nat → List D → Bool) (sz : Nat → Int → Int) (tx ti : Int → Int → Int → Int → Nat → List D → ByteArray) (gt gi : Int → Int → Int → Int → Nat → List D → Bool) (e ge : Int → Int → Int → Int → Nat → List D → Int → Int → Int → Int → Nat → List D → Bool) (f : FuncId) (ds : List D) : Option (Bool × (D × List D)) := match f, ds with
  | 9, [.agg [.int .i64 _, .int .i64 _, .int .i64 _, .int .i64 _, .sl (some _) 1 n _], .int .i64 m] => some (true, (.int .i64 (sz n m), [.undef, .undef]))
  | 11, [.agg [.int .i64 a, .int .i64 b, .int .i64 c, .int .i64 d, .sl (some _) 1 n cs]] => some (G n cs, (.agg [.int .i64 a, .int .i64 b, .int .i64 c, .int .i64 d, .sl none 1 n cs], [.undef]))
  | 10, [.agg [.int .i64 a, .int .i64 b, .int .i64 c, .int .i64 d, .sl (some _) 1 n cs]] => some (gt a b c d n cs, (.str (tx a b c d n cs), [.undef]))
  | 12, [.agg [.int .i64 a, .int .i64 b, .int .i64 c, .int .i64 d, .sl (some _) 1 n cs]] => some (gi a b c d n cs, (.str (ti a b c d n cs), [.undef]))
  | 13, [.agg [.int .i64 a, .int .i64 b, .int .i64 c, .int .i64 d, .sl (some _) 1 n cs], .agg [.int .i64 a', .int .i64 b', .int .i64 c', .int .i64 d', .sl (some _) 1 n' cs']] => some (ge a b c d n cs a' b' c' d' n' cs', (.bool (e a b c d n cs a' b' c' d' n' cs'), [.undef, .undef]))
  | _, _ => none
theorem t3 (pr : Prims) (G : Nat → List D → Bool) (sz : Nat → Int → Int) (tx ti : Int → Int → Int → Int → Nat → List D → ByteArray) (gt gi : Int → Int → Int → Int → Nat → List D → Bool) (e ge : Int → Int → Int → Int → Nat → List D → Int → Int → Int → Int → Nat → List D → Bool) (a b c d : Int) (g : Bool) (n : Nat) (cs : List D) : runL pr cfg (md3 G sz tx ti gt gi e ge) ml0 3 Try.f3 [.agg [.int .i64 a, .int .i64 b, .int .i64 c, .int .i64 d, .sl (some g) 1 n cs]] =
    let x1 := (some ((.bool true), [.undef]))
    let x2 := (br (G n cs) (br (br (pr.nl cs) true false) true false) false)
    let x3 := exTL true cs
    let x4 := (some ((.bool false), [.undef]))
    (br (pr.lt (sz n 1048576) 0) x1 (br x2 (br (br (gt a b c d n x3) true false) (br x2 (br (br (gi a b c d n x3) true false) (br (br (pr.seq (ti a b c d n x3) (tx a b c d n x3)) false true) x4 (br x2 (br (br (ge a b c d n x3 a b c d n x3) true false) (br (br (e a b c d n x3 a b c d n x3) false true) x4 x1) none) none)) none) none) none) none)) := by
  kernel_rfl
theorem exTL_ints (b : Bool) (xs : List Int) : exTL b (ints xs) = ints xs := by
  induction xs with
  | nil => rfl
  | cons x xs ih =>
    show exT b (.int .i64 x) :: exTL b (ints xs) = _
    rw [ih]
    rfl
def g10 (_ b c d : Int) (n : Nat) (_ : List D) : Bool := in64 b && in64 c && in64 d && in64 (n : Int)
def ge13 (a b c d : Int) (n : Nat) (cs : List D) (a' b' c' d' : Int) (n' : Nat) (cs' : List D) : Bool := decide (a = a') && decide (b = b') && decide (c = c') && decide (d = d') && G23 n cs n' cs'
theorem c3 (a b c d : Int) (g : Bool) (xs : List Int) (hb : in64 b = true) (hc : in64 c = true) (hd : in64 d = true) (hx : xs.length ≤ 17592186044416) :
    Comes cfg Try.prog 3 [.agg [.int .i64 a, .int .i64 b, .int .i64 c, .int .i64 d, .sl (some g) 1 xs.length (ints xs)]] (.bool true, [.undef]) := by
  refine comes_of cfg_ok (md := md3 G29 sz9 (fun a b c d n _ => bs (txtL a b c d n)) (fun a b c d n _ => bs (txtL a b c d n)) g10 g10 (fun _ _ _ _ _ _ _ _ _ _ _ _ => true) ge13) (fun g ds r hm => ?_) (ml := ml0) (by kernel_rfl) Try.func3 (fun _ _ => noLoops) ?_
  · unfold md3 at hm
    split at hm
    · simp only [Option.some.injEq, Prod.mk.injEq, true_and] at hm
      subst hm
      exact c9 _ _ _ _ _ _ _ _
    · simp only [Option.some.injEq, Prod.mk.injEq] at hm
      obtain ⟨h1, rfl⟩ := hm
      exact c11 _ _ _ _ _ h1
    · simp only [Option.some.injEq, Prod.mk.injEq, g10, Bool.and_eq_true] at hm
      obtain ⟨⟨⟨⟨h1, h2⟩, h3⟩, h4⟩, rfl⟩ := hm
      exact c10 _ _ _ h1 h2 h3 h4
    · simp only [Option.some.injEq, Prod.mk.injEq, g10, Bool.and_eq_true] at hm
      obtain ⟨⟨⟨⟨h1, h2⟩, h3⟩, h4⟩, rfl⟩ := hm
      exact c12 _ _ _ h1 h2 h3 h4
    · simp only [Option.some.injEq, Prod.mk.injEq, ge13, G23, Bool.and_eq_true, decide_eq_true_eq] at hm
      obtain ⟨⟨⟨⟨⟨rfl, rfl⟩, rfl⟩, rfl⟩, ⟨⟨h1, h2⟩, h3⟩, h4⟩, rfl⟩ := hm
      obtain ⟨ys, rfl, rfl⟩ := eqInts_iff h1
      rw [ints_length] at h2
      subst h2
      subst h3
      exact c13 _ _ _ _ _ _ ys h4
    · simp at hm
  · have hn : in64 (xs.length : Int) = true := in64_iff.2 (by omega)
    have h1 : G29 xs.length (ints xs) = true := by
      simp only [G29, isInts_iff.2 ⟨xs, rfl⟩, ints_length, decide_true, Bool.true_and]
      exact decide_eq_true hx
    have h2 : ge13 a b c d xs.length (ints xs) a b c d xs.length (ints xs) = true := by
      simp only [ge13, G23, eqInts_self, ints_length, decide_true, Bool.and_self, Bool.true_and]
      exact decide_eq_true (by omega)
    have h3 : g10 a b c d xs.length (ints xs) = true := by simp only [g10, hb, hc, hd, hn, Bool.and_self]
    have h4 : ∀ s, std.seq s s = true := fun s => by simp [std]
    rw [t3]
    simp only [exTL_ints, h1, h2, h3, s_nl, h4, br_t, br_f]
    cases std.lt (sz9 xs.length 1048576) 0 <;> rfl
end Go.Proofs.Ytkejckoefjonjaa

namespace Go.Proofs.Ytkejckoefjonjaa
open Go.RowKit

/-- A type's form; a slice's with its elements' bytes. -/
inductive Sh where
  | bool
  | int (k : IntKind)
  | str
  | sl (b : Nat) (e : Sh)
  | ag (fs : List Sh)
mutual
def width : Sh → Nat
  | .ag fs => widths fs
  | _ => 1
def widths : List Sh → Nat
  | [] => 0
  | f :: fs => width f + widths fs
end
mutual
/-- Cells of that form. -/
def WT : Sh → List D → Prop
  | .bool, ds => ∃ b, ds = [.bool b]
  | .int k, ds => ∃ n, ds = [.int k n] ∧ (Lit.int k n).wf = true
  | .str, ds => ∃ s, ds = [.str s] ∧ s.size ≤ reachBytes
  | .sl b e, ds => ∃ es : List (List D), ds = [.sl (some false) (width e) es.length es.flatten] ∧ es.length * b ≤ reachBytes ∧ ∀ x ∈ es, WT e x
  | .ag fs, ds => WTs fs ds
def WTs : List Sh → List D → Prop
  | [], ds => ds = []
  | f :: fs, ds => ∃ a b, ds = a ++ b ∧ WT f a ∧ WTs fs b
end
mutual
def shOk (P : Program) : TypeId → Sh → Bool
  | t, .bool => match P.underlying t with | some .bool => true | _ => false
  | t, .int k => match P.underlying t with | some (.int k') => decide (k' = k) | _ => false
  | t, .str => match P.underlying t with | some .string => true | _ => false
  | t, .sl b e => match P.underlying t with
    | some (.slice et) => shOk P et e && decide (P.cellsOf et = width e) && decide (P.bytesOf et = b) && decide (0 < width e)
    | _ => false
  | t, .ag fs => match P.underlying t with
    | some (.struct fl) => decide (P.cellsOf t = widths fs) && shOks P fl.toList 0 fs
    | _ => false
def shOks (P : Program) : List Field → Nat → List Sh → Bool
  | [], _, [] => true
  | f :: fl, o, s :: ss => decide (f.offset = o) && decide (P.cellsOf f.type = width s) && shOk P f.type s && shOks P fl (o + width s) ss
  | _, _, _ => false
end
theorem mapM_some {α β : Type} {f : α → Option β} : ∀ {l : List α} {r : List β}, l.mapM f = some r → l.length = r.length ∧ ∀ (i : Nat) (a : α), l[i]? = some a → ∃ b, f a = some b ∧ r[i]? = some b
  | [], r, h => by
    simp only [List.mapM_nil] at h
    cases h
    exact ⟨rfl, by simp⟩
  | a :: l, r, h => by
    simp only [List.mapM_cons, Option.bind_eq_bind, Option.bind_eq_some_iff] at h
    obtain ⟨b, hb, bs, hbs, h⟩ := h
    cases h
    obtain ⟨h1, h2⟩ := mapM_some hbs
    refine ⟨by simp [h1], fun i x hx => ?_⟩
    cases i with
    | zero =>
      simp only [List.getElem?_cons_zero, Option.some.injEq] at hx
      subst hx
      exact ⟨b, hb, rfl⟩
    | succ i =>
      simp only [List.getElem?_cons_succ] at hx ⊢
      exact h2 i x hx
theorem cells_get {w : World} {base : Nat} {a : Addr} {n : Nat} {vs : List Value} (h : w.cells? base a n = some vs) : vs.length = n ∧ ∀ i, i < n → w.cell? (a.add i) = vs[i]? := by
  unfold World.cells? at h
  split at h
  · obtain ⟨h1, h2⟩ := mapM_some h
    rw [List.length_range] at h1
    refine ⟨h1.symm, fun i hi => ?_⟩
    obtain ⟨b, hb, hr⟩ := h2 i i (by rw [List.getElem?_range hi])
    rw [hb, hr]
  · simp at h
theorem ext_app {w : World} {X : Bool → Nat → Prop} {a b : List D} {us vs : List Value} (h : ExtL w X a us) (h' : ExtL w X b vs) : ExtL w X (a ++ b) (us ++ vs) := by
  rw [extL_all2] at h h' ⊢
  exact h.app h'
theorem flat_get {α : Type} {wd : Nat} (hw : 0 < wd) : ∀ {ls : List (List α)}, (∀ l ∈ ls, l.length = wd) → ∀ j : Nat, ls.flatten[j]? = (ls[j / wd]?).bind (fun l => l[j % wd]?)
  | [], _, j => by simp
  | l :: ls, h, j => by
    have hl := h l (by simp)
    rw [List.flatten_cons]
    by_cases hj : j < wd
    · rw [List.getElem?_append_left (by omega), Nat.div_eq_of_lt hj, Nat.mod_eq_of_lt hj]
      rfl
    · rw [List.getElem?_append_right (by omega), hl, flat_get hw (fun x hx => h x (by simp [hx])) (j - wd)]
      have h1 : j / wd = (j - wd) / wd + 1 := by
        rw [Nat.div_eq_sub_div hw (by omega)]
      have h2 : j % wd = (j - wd) % wd := by
        rw [Nat.mod_eq_sub_mod (by omega)]
      rw [h1, h2, List.getElem?_cons_succ]
theorem pick_all {α : Type} {Q : Nat → α → Prop} : ∀ len : Nat, (∀ i, i < len → ∃ x, Q i x) → ∃ es : List α, es.length = len ∧ ∀ (i : Nat) (x : α), es[i]? = some x → Q i x
  | 0, _ => ⟨[], rfl, by simp⟩
  | n + 1, h => by
    obtain ⟨es, h1, h2⟩ := pick_all n (fun i hi => h i (by omega))
    obtain ⟨x, hx⟩ := h n (by omega)
    refine ⟨es ++ [x], by simp [h1], fun i y hy => ?_⟩
    by_cases hi : i < n
    · rw [List.getElem?_append_left (by omega)] at hy
      exact h2 i y hy
    · rw [List.getElem?_append_right (by omega)] at hy
      have : i = n := by
        have := (List.getElem?_eq_some_iff.1 hy).1
        simp at this
        omega
      subst this
      rw [h1, Nat.sub_self, List.getElem?_cons_zero, Option.some.injEq] at hy
      subst hy
      exact hx
theorem weightsAll_mem {H : Type} {P : Program} {e : TypeId} : ∀ {ds : List (DataW H)} {i : Nat} {d : DataW H}, ds[i]? = some d → ∀ z ∈ d.weights P e, z ∈ DataW.weightsAll P e ds
  | [], i, d, h, _, _ => by simp at h
  | x :: ds, 0, d, h, z, hz => by
    simp only [List.getElem?_cons_zero, Option.some.injEq] at h
    subst h
    simp only [DataW.weightsAll, List.mem_append]
    exact .inl hz
  | x :: ds, i + 1, d, h, z, hz => by
    simp only [DataW.weightsAll, List.mem_append]
    exact .inr (weightsAll_mem (by simpa using h) z hz)
theorem extL_flat {w : World} {X : Bool → Nat → Prop} : ∀ {ps : List (List D × List Value)}, (∀ p ∈ ps, ExtL w X p.1 p.2) → ExtL w X (ps.map (·.1)).flatten (ps.map (·.2)).flatten
  | [], _ => by simp [ExtL]
  | p :: ps, h => by
    simp only [List.map_cons, List.flatten_cons]
    exact ext_app (h p (by simp)) (extL_flat (fun q hq => h q (by simp [hq])))
section
variable {H : Type} {enc : TypeId × Value → H} {P : Program} {w : World} {held : Bool} {X : Bool → Nat → Prop} (hX : ∀ k, k < w.heap.size → X false k)
include hX
mutual
theorem read_ok : ∀ (sh : Sh) {fuel : Nat} {t : TypeId} {cs : List Value} {x : DataW H × List MemPlace}, DataW.trod enc P w 0 (fun _ => true) held fuel t cs = some x → shOk P t sh = true → (∀ z ∈ x.1.weights P t, z ≤ reachBytes) → ∃ ds, WT sh ds ∧ ExtL w X ds cs
  | .bool, fuel, t, cs, x, h, hs, _ => by
    simp only [shOk] at hs
    split at hs
    · rename_i ht
      obtain ⟨b, rfl, rfl⟩ := DataW.trod_bool ht h
      exact ⟨[.bool b], ⟨b, rfl⟩, _, _, rfl, rfl, rfl⟩
    · simp at hs
  | .int k, fuel, t, cs, x, h, hs, _ => by
    simp only [shOk] at hs
    split at hs
    · rename_i k' ht
      simp only [decide_eq_true_eq] at hs
      subst hs
      obtain ⟨n, rfl, rfl, hw⟩ := DataW.trod_int ht h
      exact ⟨[.int k' n], ⟨n, rfl, hw⟩, _, _, rfl, rfl, rfl⟩
    · simp at hs
  | .str, fuel, t, cs, x, h, hs, hz => by
    simp only [shOk] at hs
    split at hs
    · rename_i ht
      obtain ⟨s, rfl, rfl, hw⟩ := DataW.trod_string ht h
      refine ⟨[.str s], ⟨s, rfl, ?_⟩, _, _, rfl, rfl, rfl⟩
      have : s.data.toList.length ≤ reachBytes := hz _ (by unfold DataW.weights; exact List.mem_cons_self)
      rw [Array.length_toList] at this
      exact this
    · simp at hs
  | .sl b e, fuel, t, cs, x, h, hs, hz => by
    simp only [shOk] at hs
    split at hs
    case h_2 => simp at hs
    rename_i et ht
    simp only [Bool.and_eq_true, decide_eq_true_eq] at hs
    obtain ⟨⟨⟨h1, h2⟩, h3⟩, h4⟩ := hs
    rcases DataW.trod_slice ht h with ⟨rfl, rfl⟩ | ⟨a, len, cap, elems, rest, n, rfl, rfl, rfl, _, hl, hm, hlen, hel, _⟩
    · refine ⟨[.sl (some false) (width e) 0 []], ⟨[], rfl, by simp, by simp⟩, _, _, rfl, ?_, rfl⟩
      exact ⟨none, 0, [], rfl, Nat.le_refl _, by simp, rfl, .inl rfl⟩
    · replace hz : ∀ z ∈ ((elems.map (fun y : DataW H × List MemPlace => y.1)).length + (rest.map (fun y : DataW H × List MemPlace => y.1)).length) * P.bytesOf et :: (DataW.weightsAll P et (elems.map (fun y : DataW H × List MemPlace => y.1)) ++ DataW.weightsAll P et (rest.map (fun y : DataW H × List MemPlace => y.1))), z ≤ reachBytes := fun z hz' => hz z (by
        show z ∈ (match P.underlying t with | some (.slice e) => ((elems.map (fun y : DataW H × List MemPlace => y.1)).length + (rest.map (fun y : DataW H × List MemPlace => y.1)).length) * P.bytesOf e :: (DataW.weightsAll P e (elems.map (fun y : DataW H × List MemPlace => y.1)) ++ DataW.weightsAll P e (rest.map (fun y : DataW H × List MemPlace => y.1))) | _ => [])
        rw [ht]
        exact hz')
      rw [h2] at hel
      have hw0 := hz _ List.mem_cons_self
      have each : ∀ i, i < len → ∃ p : List D × List Value, WT e p.1 ∧ ExtL w X p.1 p.2 ∧ p.2.length = width e ∧ ∀ j, j < width e → w.cell? ((a.add (i * width e)).add j) = p.2[j]? := by
        intro i hi
        have h5 := hel i hi
        have hi' : i < elems.length := by omega
        rw [List.getElem?_eq_getElem hi'] at h5
        rw [Option.bind_eq_some_iff] at h5
        obtain ⟨vs, h6, h7⟩ := h5
        obtain ⟨h8, h9⟩ := cells_get h6
        obtain ⟨ds, h10, h11⟩ := read_ok e h7 h1 (fun z hz' => hz z (List.mem_cons_of_mem _ (List.mem_append.2 (.inl (weightsAll_mem (i := i) (d := elems[i].1) (by rw [List.getElem?_map, List.getElem?_eq_getElem hi']; rfl) z hz')))))
        exact ⟨(ds, vs), h10, h11, h8, h9⟩
      obtain ⟨ps, g1, g2⟩ := pick_all len each
      have gm : ∀ p ∈ ps, WT e p.1 ∧ ExtL w X p.1 p.2 ∧ p.2.length = width e := fun p hp => by
        obtain ⟨i, hi⟩ := List.getElem?_of_mem hp
        obtain ⟨k1, k2, k3, _⟩ := g2 i p hi
        exact ⟨k1, k2, k3⟩
      have hflat := extL_flat (w := w) (X := X) (ps := ps) (fun p hp => (gm p hp).2.1)
      have hlen1 : ∀ l ∈ ps.map (·.1), l.length = width e := fun l hl => by
        obtain ⟨p, hp, rfl⟩ := List.mem_map.1 hl
        have := ((extL_all2 p.1 p.2).1 (gm p hp).2.1).len
        rw [this, (gm p hp).2.2]
      have hlen2 : ∀ l ∈ ps.map (·.2), l.length = width e := fun l hl => by
        obtain ⟨p, hp, rfl⟩ := List.mem_map.1 hl
        exact (gm p hp).2.2
      refine ⟨[.sl (some false) (width e) len (ps.map (·.1)).flatten], ⟨ps.map (·.1), by simp [g1], ?_, fun x hx => by obtain ⟨p, hp, rfl⟩ := List.mem_map.1 hx; exact (gm p hp).1⟩, _, _, rfl, ?_, rfl⟩
      · rw [List.length_map, g1]
        rw [List.length_map, List.length_map, h3, hlen] at hw0
        exact Nat.le_trans (Nat.mul_le_mul_right b (by omega)) hw0
      · refine ⟨some a, cap, (ps.map (·.2)).flatten, rfl, hl, ?_, hflat, ?_⟩
        · have : ∀ {ls : List (List D)}, (∀ l ∈ ls, l.length = width e) → ls.flatten.length = ls.length * width e := by
            intro ls
            induction ls with
            | nil => intro _; simp
            | cons l ls ih =>
              intro hh
              rw [List.flatten_cons, List.length_append, ih (fun x hx => hh x (by simp [hx])), hh l (by simp), List.length_cons, Nat.add_mul, Nat.one_mul, Nat.add_comm]
          rw [this hlen1, List.length_map, g1]
        · by_cases h0 : len = 0
          · left
            have : ps = [] := by cases ps with | nil => rfl | cons _ _ => simp at g1; omega
            rw [this]; rfl
          · right
            obtain ⟨p0, hp0⟩ : ∃ p, ps[0]? = some p := ⟨ps[0], List.getElem?_eq_getElem (by omega)⟩
            obtain ⟨_, _, k3, k4⟩ := g2 0 p0 hp0
            have k5 := k4 0 h4
            have hsome : p0.2[0]? = some (p0.2[0]) := List.getElem?_eq_getElem (by omega)
            rw [hsome, Nat.zero_mul] at k5
            have haa : (a.add 0).add 0 = a := by simp [Addr.add]
            rw [haa] at k5
            obtain ⟨k, off, spot⟩ := a
            unfold World.cell? at k5
            split at k5
            case h_2 => simp at k5
            rename_i c ee fz hblk
            split at k5
            · simp at k5
            rename_i hsp
            have hspot : spot = none := by cases spot <;> simp at hsp ⊢
            subst hspot
            refine ⟨k, off, c, ee, fz, rfl, hX k ?_, hblk, fun j v hj => ?_⟩
            · rcases Nat.lt_or_ge k w.heap.size with hh | hh
              · exact hh
              · rw [Array.getElem?_eq_none hh] at hblk; simp at hblk
            · rw [flat_get h4 hlen2] at hj
              rw [List.getElem?_map] at hj
              cases hp : ps[j / width e]? with
              | none => rw [hp] at hj; simp at hj
              | some p =>
                rw [hp] at hj
                simp only [Option.map_some, Option.bind_some] at hj
                obtain ⟨_, _, _, m4⟩ := g2 _ p hp
                have m5 := m4 (j % width e) (Nat.mod_lt _ h4)
                rw [hj, add_mk, add_mk] at m5
                unfold World.cell? at m5
                simp only [hblk] at m5
                have m6 : off + j / width e * width e + j % width e = off + j := by
                  have := Nat.div_add_mod j (width e)
                  rw [Nat.mul_comm] at this
                  omega
                rw [m6] at m5
                simpa using m5
  | .ag fs, fuel, t, cs, x, h, hs, hz => by
    simp only [shOk] at hs
    split at hs
    case h_2 => simp at hs
    rename_i fl ht
    simp only [Bool.and_eq_true, decide_eq_true_eq] at hs
    obtain ⟨h1, h2⟩ := hs
    obtain ⟨xs, n, rfl, rfl, h3, h4, h5⟩ := DataW.trod_struct ht h
    simp only [DataW.weights, ht] at hz
    obtain ⟨ds, h6, h7⟩ := reads_ok (cs := cs) (n := n) fs (fl := fl.toList) (o := 0) (xs := xs) (by simpa using h4.symm) (fun i f hf => h5 i f (by simpa using hf)) h2 hz (by omega)
    refine ⟨ds, h6, ?_⟩
    rw [List.drop_zero, List.take_of_length_le (by omega)] at h7
    exact h7
theorem reads_ok : ∀ (ss : List Sh) {n : Nat} {cs : List Value} {fl : List Field} {o : Nat} {xs : List (DataW H × List MemPlace)}, fl.length = xs.length → (∀ (i : Nat) (f : Field), fl[i]? = some f → DataW.trod enc P w 0 (fun _ => true) held n f.type ((cs.drop f.offset).take (P.cellsOf f.type)) = xs[i]?) → shOks P fl o ss = true → (∀ z ∈ DataW.weightsEach P (fl.map (·.type)) (xs.map (·.1)), z ≤ reachBytes) → o + widths ss ≤ cs.length →
    ∃ ds, WTs ss ds ∧ ExtL w X ds ((cs.drop o).take (widths ss))
  | [], n, cs, fl, o, xs, _, _, hs, _, _ => by
    have _ := hX
    cases fl with
    | nil => exact ⟨[], rfl, by simp [widths, ExtL]⟩
    | cons f fl => simp [shOks] at hs
  | s :: ss, n, cs, fl, o, xs, hl, hx, hs, hz, ho => by
    cases fl with
    | nil => simp [shOks] at hs
    | cons f fl =>
      cases xs with
      | nil => simp at hl
      | cons x xs =>
        simp only [shOks, Bool.and_eq_true, decide_eq_true_eq] at hs
        obtain ⟨⟨⟨h1, h2⟩, h3⟩, h4⟩ := hs
        subst h1
        simp only [List.map_cons, DataW.weightsEach, List.mem_append] at hz
        simp only [widths] at ho ⊢
        have h5 := hx 0 f rfl
        rw [List.getElem?_cons_zero, h2] at h5
        obtain ⟨ds1, g1, g2⟩ := read_ok s h5 h3 (fun z hz' => hz z (.inl hz'))
        obtain ⟨ds2, g3, g4⟩ := reads_ok (cs := cs) (n := n) ss (fl := fl) (o := f.offset + width s) (xs := xs) (by simpa using hl) (fun i f' hf => by have := hx (i + 1) f' (by simpa using hf); simpa using this) h4 (fun z hz' => hz z (.inr hz')) (by omega)
        refine ⟨ds1 ++ ds2, ⟨ds1, ds2, rfl, g1, g3⟩, ?_⟩
        rw [List.take_add, List.drop_drop]
        exact ext_app g2 g4
end
end
end Go.Proofs.Ytkejckoefjonjaa

namespace Go.Proofs.Ytkejckoefjonjaa
open Go.RowKit

theorem ains_of {w : World} {X : Bool → Nat → Prop} : ∀ {b : List Bool} {ds : List D} {vs : List Value}, b.any id = false → All2 (fun d v => ∀ S, TVa w X S d v) ds vs → AIns w X b ds vs (vs.map fun _ => (none, []))
  | _, [], _, _, .nil => ⟨rfl, rfl⟩
  | b, d :: ds, v :: vs, hn, .cons h1 h2 => by
    have hb : b.headD false = false ∧ b.tail.any id = false := by
      cases b with
      | nil => simp
      | cons x xs => simpa using hn
    refine ⟨v, vs, (none, []), _, rfl, rfl, ?_, ains_of hb.2 h2⟩
    rw [hb.1]
    exact ⟨rfl, h1⟩
/-- A law that comes back with true leaves all that stood. -/
theorem law_calls {P : Program} {c : Cfg} (hgood : ∀ k, GoodCall P c.own (callF c P k)) {f : FuncId} (hown : (c.own f).any id = false) {ds outs : List D} {vs : Array Value} {W : World} (hc : Comes c P f ds (.bool true, outs)) (hout : ∀ o ∈ outs, okR o = true)
    (ha : All2 (fun d v => ∀ S, TVa W (Lk W [] (fun _ => True)) S d v) ds vs.toList) : Calls P f vs W fun e W' => e = .returned (.bool true) ∧ Below W.heap.size W W' := by
  obtain ⟨k, hk⟩ := hc
  have h1 := hk k (Nat.le_refl _)
  have hnone : ∀ a ∈ vs.toList.map (fun _ => ((none, []) : Arg)), a = (none, []) := by simp
  have hft := argsFt_none hnone
  have hpre : CallPre W (fun _ => True) (c.own f) ds vs.toList (vs.toList.map fun _ => (none, [])) := by
    refine ⟨?_, by rw [hft]; simp, by rw [hft]; simp, fun a haa => ?_⟩
    · rw [hft]; exact ains_of hown ha
    · rw [hnone a haa]; trivial
  refine ((hgood k f ds _ outs h1).2 W _ vs _ hpre rfl hout).mono fun e W' => ?_
  rintro ⟨v, rfl, hp⟩
  have hv : v = .bool true := by
    obtain ⟨rts, az, hr, _, _, _, hs, _⟩ := hp.res
    obtain ⟨t, rfl, he, rfl⟩ := hr
    cases t with
    | v d u =>
      have hs := hs.1
      simp only [SatT] at hs
      have : leafD d = .bool true := he.symm
      rw [this] at hs
      exact hs
    | own s n cap a cs => simp [T.er] at he
  subst hv
  refine ⟨rfl, hp.os, hp.tape, hp.out, hp.sz, fun k hk => hp.old k hk (by rw [hft]; simp)⟩
/-- A struct that came in. -/
theorem tva_agg {w : World} {X : Bool → Nat → Prop} {ds : List D} {us : Array Value} (h : ExtL w X ds us.toList) : ∀ S, TVa w X S (.agg ds) (.agg us) := fun _ =>
  ⟨us, rfl, ((extL_all2 _ _).1 h).mono (fun _ _ hh => tvc_of_ext hh)⟩
theorem lk_all {w : World} : ∀ k, k < w.heap.size → Lk w [] (fun _ => True) false k := fun k hk => ⟨hk, by simp, fun _ => trivial⟩
end Go.Proofs.Ytkejckoefjonjaa

namespace Go.Proofs.Ytkejckoefjonjaa.fnExactMsgText
open Go.ChangeShapes Go.WideShapes Go.ChangeAt Go.RowKit
set_option maxRecDepth 100000

theorem own : ownKnob Try.prog.godebug = none := by kernel_rfl
theorem laidOut : laidOutB Try.prog = true := by kernel_rfl
theorem wf_in64 {n : Int} (h : (Lit.int .i64 n).wf = true) : in64 n = true := by
  simp [Lit.wf, IntKind.min, IntKind.max, IntKind.bits, IntKind.signed] at h
  rw [in64_iff]
  omega
theorem flat_ints : ∀ {es : List (List D)}, (∀ x ∈ es, WT (.int .i64) x) → ∃ xs, es.flatten = ints xs ∧ xs.length = es.length
  | [], _ => ⟨[], rfl, rfl⟩
  | e :: es, h => by
    obtain ⟨n, rfl, _⟩ := h e (by simp)
    obtain ⟨xs, h1, h2⟩ := flat_ints (es := es) (fun x hx => h x (by simp [hx]))
    exact ⟨n :: xs, by rw [List.flatten_cons, h1]; rfl, by simp [h2]⟩
def shMsg : Sh := .ag [.int .i64, .int .i64, .int .i64, .int .i64, .sl 8 (.int .i64)]
theorem wt_msg {ds : List D} (h : WT shMsg ds) : ∃ a b c d xs, ds = [.int .i64 a, .int .i64 b, .int .i64 c, .int .i64 d, .sl (some false) 1 (List.length xs) (ints xs)] ∧ in64 b = true ∧ in64 c = true ∧ in64 d = true ∧ xs.length ≤ 17592186044416 := by
  obtain ⟨_, _, rfl, ⟨a, rfl, _⟩, _, _, rfl, ⟨b, rfl, hb⟩, _, _, rfl, ⟨c, rfl, hc⟩, _, _, rfl, ⟨d, rfl, hd⟩, _, _, rfl, ⟨es, rfl, he, hx⟩, rfl⟩ := h
  obtain ⟨xs, h1, h2⟩ := flat_ints hx
  refine ⟨a, b, c, d, xs, ?_, wf_in64 hb, wf_in64 hc, wf_in64 hd, ?_⟩
  · rw [h1, h2]; rfl
  · have : reachBytes = 140737488351232 := rfl
    omega
theorem lifted (os : Os) (started : os.Started) (H : Type) (enc : TypeId × Value → H) :
    ReturnsInHanded {} Try.checked os 3 .any (Rows.fnExactMsgTextSpec.pre6 enc Try.prog Try.f3 Rows.fnExactMsgTextRow.domain false) (Rows.fnExactMsgTextSpec.post enc Try.prog Try.f3 false true false false) := by
  refine returnsInHanded_of_change_sized (C := Try.checked) own started (by kernel_rfl) Try.func3
    (ChangeSpec.witness6 (enc := enc) (C := Try.checked) false ⟨#[], #[.agg #[.int .i64 0, .int .i64 0, .int .i64 0, .int .i64 0, .slice none 0 0]], []⟩ 8 (by kernel_rfl) (by kernel_rfl) (by kernel_rfl) (by kernel_rfl)) ?_
  intro W base args ds gs before hval0 hW hcnd hsz0 _
  have hsz : (DataW.weightsEach Try.prog (Try.f3.params.toList ++ Rows.fnExactMsgTextSpec.plain.varTypes Try.prog) (ds ++ gs)).all (· ≤ reachBytes) = true := hsz0
  have hval : ∀ (j : Nat) t v, Try.f3.params[j]? = some t → args[j]? = some v → Value.okWide Try.prog W .any base t v := hval0
  have hW' := hW
  obtain ⟨p, q, hA0, hV, rfl, hfz, hnd⟩ := hW
  have hA : DataW.TrodAll enc Try.prog W 0 (fun _ => true) true Try.f3.params.toList args.toList ds p := hA0
  rw [Try.params3] at hA hval hsz
  obtain ⟨v0, vs0, d0, ds0, p0, q0, hargs, rfl, rfl, h0, r0⟩ := trodAll_cons hA
  obtain ⟨rfl, rfl, rfl⟩ := trodAll_nil r0
  obtain rfl : args = #[v0] := by cases args; simp_all
  obtain ⟨rfl, rfl⟩ := trodVars_none hV
  obtain ⟨us, rfl, _⟩ := okWide_struct Try.underlying24 (hval 0 24 v0 rfl rfl)
  have k0 := h0
  have lt0 : ∀ x ∈ p0, x.block < W.heap.size := by obtain ⟨m, hm⟩ := k0; exact DataW.trod_lt m _ _ _ hm
  obtain ⟨fuel, hf⟩ := h0
  have hz0 : ∀ z ∈ d0.weights Try.prog 24, z ≤ reachBytes := fun z hz => by
    have := List.all_eq_true.1 hsz z (DataW.weights_mem_each (j := 0) (t := 24) (d := d0) rfl rfl z hz)
    simpa using this
  obtain ⟨cells, hwt, hext⟩ := read_ok (X := Lk W [] (fun _ => True)) lk_all shMsg hf (by kernel_rfl) hz0
  obtain ⟨a, b, c, d, xs, rfl, hb, hc, hd, hx⟩ := wt_msg hwt
  clear hA0 hval0 hsz0 hsz
  refine (law_calls good (f := 3) (vs := #[.agg us]) (by kernel_rfl) (c3 a b c d false xs hb hc hd hx) (by simp [okR, outCells, flatD, plainC, noLent]) (.cons (tva_agg hext) .nil)).mono fun e W' ⟨he, bel⟩ => ?_
  subst he
  exact ⟨_, rfl, _, _, _, [], _, [], hW', trodAll_mk1 (shut_bool Try.underlying4 _), trodAll_mk1 (Below.trod laidOut (by kernel_rfl) (of_decide_eq_true (by kernel_rfl)) k0 bel lt0), rfl, bel.frame _, fun h => by cases h⟩
theorem over : Rows.fnExactMsgTextRow.holds Try.pinned (OpenSpec.ofChange Rows.fnExactMsgTextSpec) :=
  OpenClaim.holds_of_wide 3 Try.f3 rfl rfl rfl rfl rfl rfl rfl ⟨rfl, rfl, rfl, rfl, rfl⟩ rfl rfl rfl rfl rfl (by kernel_rfl) Try.func3 (by kernel_rfl)
    (of_decide_eq_true (by kernel_rfl)) (by unfold Func.isWrapper; first | (rw [if_pos (by decide +kernel)]; kernel_rfl) | (rw [if_neg (by decide +kernel)]; exact ⟨rfl, rfl⟩))
    (fun os started H enc _ => lifted os started H enc)
theorem proved : Rows.FnExactMsgTextSaid := over
#print axioms proved
end Go.Proofs.Ytkejckoefjonjaa.fnExactMsgText
namespace Go.Proofs.Ytkejckoefjonjaa
/-- The row, under a short name, for the claim. -/
theorem fnExactMsgText_holds : Rows.FnExactMsgTextSaid := fnExactMsgText.proved
end Go.Proofs.Ytkejckoefjonjaa
