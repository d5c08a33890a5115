/- Functions of Go's library. -/
import Derived.Shelf.Strings.OnBuilder
import Derived.Shelf.SlicesE.Clone
import Derived.Test.YtkejckoefjonjaaChecked
import Derived.KernelRfl
import Derived.SizedLaws
import Derived.ChangeOld
import Derived.Test.YtkejckoefjonjaaMc
set_option linter.unusedSimpArgs false
set_option linter.unusedVariables false
set_option linter.unnecessarySimpa false
set_option linter.unusedSectionVars false
namespace Go.Proofs.Ytkejckoefjonjaa
open Go.RowKit Go.Shelf

theorem ains_none {w : World} {X : Bool → Nat → Prop} : ∀ {b : List Bool} {ds : List D} {us : List Value} {az : List Arg}, AIns w X b ds us az → b.any id = false → (∀ a ∈ az, a = (none, [])) ∧ az.length = ds.length ∧ All2 (fun d u => ∀ S, TVa w X S d u) ds us
  | _, [], _, _, h, _ => by obtain ⟨rfl, rfl⟩ := h; exact ⟨by simp, rfl, .nil⟩
  | b, d :: ds, _, _, h, hn => by
    obtain ⟨u, us', a, az', rfl, rfl, h1, h2⟩ := h
    have hb : b.headD false = false ∧ b.tail.any id = false := by
      cases b with
      | nil => simp
      | cons x xs => simpa using hn
    rw [hb.1] at h1
    obtain ⟨g1, g2, g3⟩ := ains_none h2 hb.2
    refine ⟨fun x hx => ?_, by simp [g2], .cons h1.2 g3⟩
    simp only [List.mem_cons] at hx
    rcases hx with rfl | hx
    · exact h1.1
    · exact g1 x hx
theorem argsFt_none : ∀ {az : List Arg}, (∀ a ∈ az, a = (none, [])) → argsFt az = []
  | [], _ => rfl
  | a :: az, h => by
    have := h a (by simp)
    subst this
    show [] ++ ftsT [] ++ argsFt az = []
    rw [argsFt_none (fun b hb => h b (by simp [hb]))]
    rfl
theorem aouts_none {w' : World} : ∀ {b : List Bool} {az : List Arg}, b.any id = false → (∀ a ∈ az, a = (none, [])) → AOuts w' b (az.map fun _ => D.undef) az az
  | _, [], _, _ => ⟨rfl, rfl⟩
  | b, a :: az, hn, h => by
    have hb : b.headD false = false ∧ b.tail.any id = false := by
      cases b with
      | nil => simp
      | cons x xs => simpa using hn
    refine ⟨.undef, _, a, az, rfl, rfl, ?_, aouts_none hb.2 (fun x hx => h x (by simp [hx]))⟩
    rw [hb.1]
    exact h a (by simp)
/-- A function that hands back a plain value and leaves all as it was. -/
theorem post_plain {w w' : World} {Y : Nat → Prop} {own : List Bool} {ds : List D} {us : List Value} {az : List Arg} {v : Value} {r : D} (h : CallPre w Y own ds us az) (hn : own.any id = false) (hb : Below w.heap.size w w')
    (hr : ∃ t, r = t.er ∧ v = t.val ∧ t.er ≠ .undef ∧ (∀ cs, t.er ≠ .pbox cs) ∧ (∀ cs, t.er ≠ .tup cs) ∧ (∀ cs, t.er ≠ .agg cs) ∧ (ftsT [t]).Nodup ∧ (∀ k ∈ ftsT [t], w.heap.size ≤ k ∧ k < w'.heap.size) ∧ SatL w' (fun b k => Lk w' (ftsT [t]) (fun k => Y k ∨ w.heap.size ≤ k) b k) [t]) :
    CallPost w w' Y own az r (az.map fun _ => .undef) v := by
  obtain ⟨h1, h2, _⟩ := ains_none h.args hn
  have ha := argsFt_none h1
  obtain ⟨t, rfl, rfl, _, h3, h4, h5, h6, h7, h8⟩ := hr
  refine ⟨hb.size, fun k hk _ => hb.block k hk, hb.os, hb.tape, hb.output, [t], az, ?_, aouts_none hn h1, ?_, ?_, ?_, ?_⟩
  · have : FlatA t.er t.val [t] := by
      cases he : t.er with
      | agg cs => exact absurd he (h5 cs)
      | _ => exact ⟨t, rfl, he.symm, rfl⟩
    cases he : t.er with
    | pbox cs => exact absurd he (h3 cs)
    | tup cs => exact absurd he (h4 cs)
    | _ => rw [he] at this; exact this
  · rw [ha, List.append_nil]; exact h6
  · rw [ha, List.append_nil]
    intro k hk
    exact ⟨(h7 k hk).2, .inr (h7 k hk).1⟩
  · rw [ha, List.append_nil]
    refine satL_sub ?_ _ h8
    rintro b k ⟨g1, g2, g3⟩
    exact ⟨g1, g2, fun hb => (g3 hb).elim .inl (fun h => .inr (.inr h))⟩
  · intro a haa
    rw [h1 a haa]
    trivial
def strOf : D → Option ByteArray
  | .str s => some s
  | _ => none
/-- strings.Join. -/
def joinE : List D → Option (D × List D)
  | [.sl _ s _ cs, .str sep] => if s = 1 then (match mapO strOf cs with
    | some xs => if (Lib.join (xs.map (·.data.toList)) sep.data.toList).length ≤ 140737488355328 ∧ xs.length ≤ 140737488355328 then some (.str ⟨(Lib.join (xs.map (·.data.toList)) sep.data.toList).toArray⟩, [.undef, .undef]) else none
    | none => none) else none
  | _ => none
theorem mapO_get {α β : Type} {f : α → Option β} : ∀ {l : List α} {r : List β}, mapO f l = some r → l.length = r.length ∧ ∀ (i : Nat) (y : β), r[i]? = some y → ∃ x, l[i]? = some x ∧ f x = some y
  | [], r, h => by simp only [mapO, Option.some.injEq] at h; subst h; exact ⟨rfl, by simp⟩
  | a :: l, r, h => by
    simp only [mapO] at h
    split at h
    case h_2 => simp at h
    rename_i b hb
    split at h
    case h_2 => simp at h
    rename_i bs hbs
    simp only [Option.some.injEq] at h
    subst h
    obtain ⟨h1, h2⟩ := mapO_get hbs
    refine ⟨by simp [h1], fun i y hy => ?_⟩
    cases i with
    | zero => simp only [List.getElem?_cons_zero, Option.some.injEq] at hy; subst hy; exact ⟨a, rfl, hb⟩
    | succ i => simp only [List.getElem?_cons_succ] at hy ⊢; exact h2 i y hy
theorem str_post {w' : World} {Y : Nat → Prop} {w : World} (s : ByteArray) : ∃ t : T, D.str s = t.er ∧ Value.string s = t.val ∧ t.er ≠ .undef ∧ (∀ cs, t.er ≠ .pbox cs) ∧ (∀ cs, t.er ≠ .tup cs) ∧ (∀ cs, t.er ≠ .agg cs) ∧ (ftsT [t]).Nodup ∧ (∀ k ∈ ftsT [t], w.heap.size ≤ k ∧ k < w'.heap.size) ∧ SatL w' (fun b k => Lk w' (ftsT [t]) (fun k => Y k ∨ w.heap.size ≤ k) b k) [t] :=
  ⟨.v (.str s) (.string s), rfl, rfl, by simp [T.er, leafD], by simp [T.er, leafD], by simp [T.er, leafD], by simp [T.er, leafD], by simp [ftsT, T.ft], by simp [ftsT, T.ft], by simp [SatL, SatT, leafD, Ext]⟩
section
variable {P : Program} {ρ : Ren}
theorem join_ok (L : Lays.n156 P ρ) (X : Builder.Extra P ρ) (hf : FnOk P (ρ.f 156)) {own : List Bool} (hn : own.any id = false) {ds : List D} {r : D} {outs : List D} (h : joinE ds = some (r, outs)) :
    FnOk P (ρ.f 156) ∧ ∀ (w : World) (Y : Nat → Prop) (us : Array Value) (az : List Arg), CallPre w Y own ds us.toList az → okR r = true → (∀ o ∈ outs, okR o = true) →
      Calls P (ρ.f 156) us w fun e w' => ∃ v, e = .returned v ∧ CallPost w w' Y own az r outs v := by
  refine ⟨hf, fun w Y us az hp _ _ => ?_⟩
  unfold joinE at h
  split at h
  case h_2 => simp at h
  rename_i g s n cs sep
  split at h
  case isFalse => simp at h
  rename_i hs
  subst hs
  split at h
  case h_2 => simp at h
  rename_i xs hxs
  split at h
  case isFalse => simp at h
  rename_i hlen
  simp only [Option.some.injEq, Prod.mk.injEq] at h
  obtain ⟨rfl, rfl⟩ := h
  obtain ⟨h1, h2, h3⟩ := ains_none hp.args hn
  have hus : ∃ u, us = #[u, .string sep] ∧ ∀ S, TVa w (Lk w (argsFt az) Y) S (.sl g 1 n cs) u := by
    cases hl : us.toList with
    | nil => rw [hl] at h3; cases h3
    | cons u r => rw [hl] at h3; cases h3 with
      | cons k1 k2 => cases k2 with
        | cons k3 k4 =>
          cases k4
          have : _ = Value.string sep := k3 []
          subst this
          exact ⟨u, by rw [← Array.toArray_toList (xs := us), hl], k1⟩
  obtain ⟨u, rfl, hu⟩ := hus
  have hout : az.map (fun _ => D.undef) = [.undef, .undef] := by
    cases az with
    | nil => simp at h2
    | cons a az => cases az with
      | nil => simp at h2
      | cons b az => cases az with
        | nil => rfl
        | cons c az => simp at h2
  have hext : Ext w (Lk w (argsFt az) Y) (.sl g 1 n cs) u := by
    have := hu []
    cases g with
    | none => simp [TVa, TVc, Ext] at this
    | some g => simpa [TVa, TVc] using this
  have hfin : ∀ e w', e = Ending.returned (.string ⟨(Lib.join (xs.map (·.data.toList)) sep.data.toList).toArray⟩) → Below w.heap.size w w' → ∃ v, e = .returned v ∧ CallPost w w' Y own az (.str ⟨(Lib.join (xs.map (·.data.toList)) sep.data.toList).toArray⟩) [.undef, .undef] v := by
    rintro e w' rfl hb
    refine ⟨_, rfl, ?_⟩
    rw [← hout]
    exact post_plain hp hn hb (str_post _)
  obtain ⟨hl, hget⟩ := mapO_get hxs
  cases g with
  | none => simp [Ext] at hext
  | some g =>
    simp only [Ext] at hext
    obtain ⟨base, cap, vs, rfl, hcap, hlc, hel, hcase⟩ := hext
    have hall := (extL_all2 cs vs).1 hel
    rw [Nat.mul_one] at hlc
    have hnx : n = xs.length := by omega
    rcases hcase with rfl | ⟨k, off, c, e, fz, rfl, hX, hblk, hcells⟩
    · have hx0 : xs = [] := by simpa using hl.symm
      subst hx0
      subst hnx
      refine (Any.strings_Join_none L X _ cap sep w).mono fun e w' ⟨he, hw⟩ => ?_
      refine hfin e w' ?_ (hw ▸ Below.refl _ _)
      rw [he]
      rfl
    · subst hnx
      refine (Any.strings_Join L X k off cap xs sep w (fun j x hj => ?_) hX.1 hlen.2 hcap hlen.1).mono fun e w' ⟨he, hw⟩ => hfin e w' he hw
      obtain ⟨d, hd, hsd⟩ := hget j x hj
      have hds : d = .str x := by
        cases d <;> simp [strOf] at hsd
        rw [hsd]
      subst hds
      obtain ⟨v, hv, hve⟩ := hall.get hd
      have : v = .string x := hve
      subst this
      simp [World.cell?, hblk, hcells j _ hv]
end
end Go.Proofs.Ytkejckoefjonjaa

namespace Go.Proofs.Ytkejckoefjonjaa
open Go.RowKit Go.Shelf Go.Lib
section
variable {P : Program} {ρ : Ren}
set_option maxHeartbeats 2000000 in
set_option maxRecDepth 100000 in
theorem clone_zero (L : SlLaysE0.n41 P ρ) (i0 : TypeInfo) (z : Value) (size bytes : Nat) (hi : P.info? (ρ.t 23) = some i0) (hz0 : i0.zero = some z) (hz1 : i0.size = size) (hz2 : i0.bytes = bytes) (hzs : z.cells.size = size) (hsz : 0 < size)
    (z23 : ∀ w, (Go.sizeOf (ρ.t 23)).run P w = .ok size w) (a : Addr) (c : Nat) (w : World) :
    Calls P (ρ.f 41) #[.slice (some a) 0 c] w fun e w' => ∃ v', e = .returned v' ∧ w'.ownsRow w.heap.size (ρ.t 23) size v' 0 [] ∧ Below w.heap.size w w' := by
  have mixed := L.mixed; have t4 := L.t4; have a4 := L.a4; have z4 := L.z4; have v4 := L.v4; have t22 := L.t22; have a22 := L.a22; have z22 := L.z22; have v22 := L.v22
  have q22 : ∀ (w : World) (a : Option Addr) (n c n' c' : Nat), (binOp .eql (ρ.t 22) (.slice a n c) (.slice none n' c')).run P w = .ok (.bool a.isNone) w := fun w a n c n' c' => Lib.run_eql_slice_nil w _ _ a n c n' c' L.t22
  have u22 : ∀ w, Sem.run P (underlying (ρ.t 22)) w = .ok (TypeDesc.slice (ρ.t 23)) w := run_underlying t22
  obtain ⟨_, _, FG⟩ := L.f41
  go_enter FG, SlBodyN.n41_ntmps ρ
  go_wp2_with (at_builtin; refine wpList_append_own _ rfl _ _ (ρ.t 22) rfl w.heap.size (ρ.t 23) i0 z size bytes t22 hi hz0 hz1 hz2 hzs hsz _ _ _ rfl (World.ownsRow_made w #[] 0 (Nat.le_refl _) (Nat.zero_le _) (by simp)) a 0 c [] rfl (by simp) (by intro j u hj; simp at hj) (by intro u hu; cases hu) (by unfold maxLen; omega) (by omega) (by simp) ?_)
  intro v' w1 hown hgrow hnil
  go_wp2
  go_ret
  refine ⟨v', rfl, by simpa using hown, ?_⟩
  exact ((Below.refl _ w).alloc (Nat.le_refl _) _).grown hgrow (by simp) (by intro k hk; simp [Value.ownBlock] at hk; omega)
/-- Clone of a row of plain values. -/
def cloneE (sz bts : Nat) : List D → Option (D × List D)
  | [.sl _ s n cs] => if s = sz ∧ cs.all flatC = true ∧ n * bts ≤ 140737488355328 ∧ n ≤ 140737488355328 then some (.sl none s n cs, [.undef]) else none
  | [.nil s] => if s = sz then some (.sl none s 0 [], [.undef]) else none
  | _ => none
theorem flat_ext {w : World} {X : Bool → Nat → Prop} : ∀ {cs : List D} {us : List Value}, cs.all flatC = true → ExtL w X cs us → ∃ ts : List T, ersT ts = cs ∧ valsT ts = us ∧ ftsT ts = [] ∧ (∀ u ∈ us, u.oneCell' = true) ∧ ∀ w' X', SatL w' X' ts
  | [], us, _, h => by
    cases h
    exact ⟨[], rfl, rfl, rfl, by simp, fun _ _ => trivial⟩
  | d :: cs, us, hf, h => by
    simp only [List.all_cons, Bool.and_eq_true] at hf
    obtain ⟨v, vs, rfl, h1, h2⟩ := h
    obtain ⟨ts, e1, e2, e3, e4, e5⟩ := flat_ext hf.2 h2
    have hleaf : leafD d = d := by cases d <;> simp [flatC] at hf <;> rfl
    have hone : v.oneCell' = true := by
      cases d <;> simp [flatC] at hf <;> simp only [Ext] at h1 <;> subst h1 <;> rfl
    refine ⟨.v d v :: ts, by simp [ersT, T.er, hleaf, e1], by simp [valsT, T.val, e2], by simp [ftsT, T.ft, e3], fun u hu => ?_, fun w' X' => ⟨?_, e5 w' X'⟩⟩
    · rcases List.mem_cons.1 hu with rfl | hu
      · exact hone
      · exact e4 u hu
    · simp only [SatT, hleaf]
      cases d <;> simp [flatC] at hf <;> exact h1
theorem own_post {w w' : World} {Y : Nat → Prop} {s n : Nat} {cs : List D} {ts : List T} {v' : Value} {e : TypeId} (hr : w'.ownsRow w.heap.size e s v' n (valsT ts)) (he : ersT ts = cs) (hlen : cs.length = n * s) (hft : ftsT ts = []) (hsat : ∀ w' X', SatL w' X' ts) :
    ∃ t : T, D.sl none s n cs = t.er ∧ v' = t.val ∧ t.er ≠ .undef ∧ (∀ cs, t.er ≠ .pbox cs) ∧ (∀ cs, t.er ≠ .tup cs) ∧ (∀ cs, t.er ≠ .agg cs) ∧ (ftsT [t]).Nodup ∧ (∀ k ∈ ftsT [t], w.heap.size ≤ k ∧ k < w'.heap.size) ∧ SatL w' (fun b k => Lk w' (ftsT [t]) (fun k => Y k ∨ w.heap.size ≤ k) b k) [t] := by
  have hl : ts.length = n * s := by rw [← hlen, ← he, ersT_map, List.length_map]
  obtain ⟨_, h⟩ := hr
  rcases h with ⟨rfl, rfl⟩ | ⟨g, cap, cur, rfl, hg, hblk, hcap, hmax, hcur, htake⟩
  · refine ⟨.own s 0 0 none ts, by simp [T.er, he], rfl, by simp [T.er], by simp [T.er], by simp [T.er], by simp [T.er], by simp [ftsT, T.ft, ftA, hft], by simp [ftsT, T.ft, ftA, hft], ?_⟩
    simp only [SatL, SatT, and_true]
    exact ⟨Nat.le_refl _, hl, trivial, hsat _ _⟩
  · have hgs : g < w'.heap.size := by
      have := (Array.getElem?_eq_some_iff.1 hblk).1
      exact this
    refine ⟨.own s n cap (some (g, 0)) ts, by simp [T.er, he], rfl, by simp [T.er], by simp [T.er], by simp [T.er], by simp [T.er], by simp [ftsT, T.ft, ftA, hft], by simp [ftsT, T.ft, ftA, hft]; exact ⟨hg, hgs⟩, ?_⟩
    simp only [SatL, SatT, and_true]
    refine ⟨hcap, hl, ⟨cur, e, (0, 0), hblk, fun o _ h => by simp at h, by omega, fun j u hj => ?_⟩, hsat _ _⟩
    rw [Nat.zero_add]
    have hj' : j < n * s := by
      have := (List.getElem?_eq_some_iff.1 hj).1
      rw [valsT_map, List.length_map, hl] at this
      exact this
    rw [← htake, List.getElem?_take] at hj
    rw [if_pos hj'] at hj
    simpa using hj
theorem clone_ok (L : SlLaysE0.n41 P ρ) (i0 : TypeInfo) (z : Value) (size bytes : Nat) (hi : P.info? (ρ.t 23) = some i0) (hz0 : i0.zero = some z) (hz1 : i0.size = size) (hz2 : i0.bytes = bytes) (hzs : z.cells.size = size) (hsz : 0 < size)
    (z23 : ∀ w, (Go.sizeOf (ρ.t 23)).run P w = .ok size w) (hf : FnOk P (ρ.f 41)) {own : List Bool} (hn : own.any id = false) {ds : List D} {r : D} {outs : List D} (h : cloneE size bytes ds = some (r, outs)) :
    FnOk P (ρ.f 41) ∧ ∀ (w : World) (Y : Nat → Prop) (us : Array Value) (az : List Arg), CallPre w Y own ds us.toList az → okR r = true → (∀ o ∈ outs, okR o = true) →
      Calls P (ρ.f 41) us w fun e w' => ∃ v, e = .returned v ∧ CallPost w w' Y own az r outs v := by
  refine ⟨hf, fun w Y us az hp _ _ => ?_⟩
  obtain ⟨h1, h2, h3⟩ := ains_none hp.args hn
  have hone : ∀ {d : D}, ds = [d] → ∃ u, us = #[u] ∧ (∀ S, TVa w (Lk w (argsFt az) Y) S d u) ∧ az.map (fun _ => D.undef) = [.undef] := by
    intro d hd
    subst hd
    cases hl : us.toList with
    | nil => rw [hl] at h3; cases h3
    | cons u l => rw [hl] at h3; cases h3 with
      | cons k1 k2 =>
        cases k2
        refine ⟨u, by rw [← Array.toArray_toList (xs := us), hl], k1, ?_⟩
        cases az with
        | nil => simp at h2
        | cons a az => cases az with
          | nil => rfl
          | cons b az => simp at h2
  have hfin : ∀ {s n : Nat} {cs : List D} {ts : List T} {v' : Value} {e : TypeId} {w' : World}, az.map (fun _ => D.undef) = [.undef] → w'.ownsRow w.heap.size e s v' n (valsT ts) → ersT ts = cs → cs.length = n * s → ftsT ts = [] → (∀ w' X', SatL w' X' ts) → Below w.heap.size w w' → CallPost w w' Y own az (.sl none s n cs) [.undef] v' := by
    intro s n cs ts v' e w' ha hr he hlen hft hsat hb
    rw [← ha]
    exact post_plain hp hn hb (own_post hr he hlen hft hsat)
  unfold cloneE at h
  split at h
  · rename_i g s n cs
    split at h
    case isFalse => simp at h
    rename_i hc
    obtain ⟨rfl, hflat, hb1, hb2⟩ := hc
    simp only [Option.some.injEq, Prod.mk.injEq] at h
    obtain ⟨rfl, rfl⟩ := h
    obtain ⟨u, rfl, hu, haz⟩ := hone rfl
    have hext : Ext w (Lk w (argsFt az) Y) (.sl g s n cs) u := by
      have := hu []
      cases g with
      | none => simp [TVa, TVc, Ext] at this
      | some g => simpa [TVa, TVc] using this
    cases g with
    | none => simp [Ext] at hext
    | some g =>
      simp only [Ext] at hext
      obtain ⟨base, cap, vs, rfl, hcap, hlc, hel, hcase⟩ := hext
      obtain ⟨ts, e1, e2, e3, e4, e5⟩ := flat_ext hflat hel
      rcases hcase with rfl | ⟨k, off, c, e, fz, rfl, hX, hblk, hcells⟩
      · have hn0 : n = 0 := by
          rcases Nat.eq_zero_or_pos n with h0 | h0
          · exact h0
          · have := Nat.mul_pos h0 hsz
            simp at hlc
            omega
        subst hn0
        have hv : valsT ts = [] := by
          have : ts = [] := by cases ts with
            | nil => rfl
            | cons t ts => simp [ersT] at e1
          rw [this]; rfl
        cases base with
        | none =>
          refine (AnyE.slices_Clone_nil L 0 cap w).mono fun e w' hh => ?_
          obtain ⟨rfl, rfl⟩ := hh
          exact ⟨_, rfl, hfin (e := 0) haz (ts := ts) ⟨by rw [hv]; simp, .inl ⟨rfl, rfl⟩⟩ e1 hlc e3 e5 (Below.refl _ _)⟩
        | some a =>
          refine (clone_zero L i0 z s bytes hi hz0 hz1 hz2 hzs hsz z23 a cap w).mono fun e w' hh => ?_
          obtain ⟨v', rfl, hr, hb⟩ := hh
          exact ⟨_, rfl, hfin haz (ts := ts) (by rw [hv]; exact hr) e1 hlc e3 e5 hb⟩
      · have hl : vs.length = n * s := by rw [← e2, valsT_map, List.length_map, ← hlc, ← e1, ersT_map, List.length_map]
        refine (AnyE.slices_Clone L i0 z s bytes hi hz0 hz1 hz2 hzs hsz z23 k off n cap vs w hl (by unfold maxLen; omega) hb1 (fun j u hj => ?_) e4).mono fun e w' hh => ?_
        · simp [World.cell?, hblk, hcells j u hj]
        · obtain ⟨v', rfl, hr, _, hb⟩ := hh
          exact ⟨_, rfl, hfin haz (ts := ts) (by rw [e2]; exact hr) e1 hlc e3 e5 hb⟩
  · rename_i s
    split at h
    case isFalse => simp at h
    rename_i hs
    subst hs
    simp only [Option.some.injEq, Prod.mk.injEq] at h
    obtain ⟨rfl, rfl⟩ := h
    obtain ⟨u, rfl, hu, haz⟩ := hone rfl
    have : u = .slice none 0 0 := hu []
    subst this
    refine (AnyE.slices_Clone_nil L 0 0 w).mono fun e w' hh => ?_
    obtain ⟨rfl, rfl⟩ := hh
    exact ⟨_, rfl, hfin (e := 0) haz (ts := []) ⟨by simp [valsT], .inl ⟨rfl, rfl⟩⟩ rfl (by simp) rfl (fun _ _ => trivial) (Below.refl _ _)⟩
  · simp at h
end
end Go.Proofs.Ytkejckoefjonjaa

namespace Go.Proofs.Ytkejckoefjonjaa

section
variable (pr : Prims)
/-- What lay in a cell that is written anew, told by its type's zero. -/
def detU (st : St) (r p o : Nat) (z d : D) (cs : List D) : Option (Bool × St × (D → D)) :=
  match z with
  | .nil s => some (pr.isOS s cs o, st.mapD2 (detP r [p] o (.sl none s (pr.getN cs o) (pr.getC cs o))) (killP r [p] o true), detP r [p] o (.sl none s (pr.getN cs o) (pr.getC cs o)))
  | .int .. => if isSl d then none else some (pr.slot cs o, st, id)
  | .bool _ => if isSl d then none else some (pr.slot cs o, st, id)
  | .str _ => if isSl d then none else some (pr.slot cs o, st, id)
  | _ => none
def storeRowU (r p : Nat) : St → Nat → (D → D) → List D → List D → Option (Bool × St)
  | st, _, _, [], [] => some (true, st)
  | st, o, h, z :: zs, d :: ds =>
    if isAt r [p] o (h d) then none else
    match tkC st (h d) with
    | some (d', st1) => if !cellish d' then none else match st1.cells r [p] with
      | some cs => match detU pr st1 r p o z d' cs with
        | some (g, st2, f) => match st2.setC r [p] o d' with
          | some st3 => match storeRowU r p (st3.moved (f (h d)) r [p] o) (o + 1) (fun x => movedF (f (h d)) r [p] o (f (h x))) zs ds with
            | some (g', st') => some (br g g' false, st')
            | none => none
          | none => none
        | none => none
      | none => none
    | none => none
  | _, _, _, _, _ => none
/-- Operations at rows whose cells are not known one by one. -/
def opE (c : Cfg) (st : St) (o : Oper) : Option (Bool × St) :=
  match o.op with
  | .fieldAddr s x f => match c.ty s with
    | some ⟨.struct offs _, _, _, _⟩ => match offs[f]?, evD c st o.type x with
      | some k, .ptr r (p :: q) i => match st.cells r (p :: q) with
        | some cs => some (pr.ne cs, st.put o.dst (.ptr r (p :: q) (i + k)))
        | none => none
      | _, _ => none
    | _ => none
  | .nilCheck x => match evD c st o.type x with
    | .ptr r (p :: q) i => match st.cells r (p :: q) with
      | some cs => some (pr.ne cs, st.put o.dst (.ptr r (p :: q) i))
      | none => none
    | _ => none
  | .store t a x => match c.ty t with
    | some i => match evD c st o.type a with
      | .ptr r [p] j => if (i.size == 1 && scal (evD c st t x)) = true then none else
        if (cellsOf (evD c st t x)).length = i.size then match st.cells r [p] with
          | some cs => match storeRowU pr r p st j id i.zero (cellsOf (evD c st t x)) with
            | some (g, st') => some (br (pr.ne cs) g false, st'.put o.dst (.tup []))
            | none => none
          | none => none
        else none
      | _ => none
    | none => none
  | _ => none
end
theorem isOS_ok {s o : Nat} {cs : List D} (h : std.isOS s cs o = true) : cs[o]? = some (.sl none s (std.getN cs o) (std.getC cs o)) := by
  simp only [std] at h ⊢
  split at h
  · rename_i s' n ys he
    have : s' = s := by simpa using h
    subst this
    rw [he]
    rfl
  · simp at h
theorem live_ok {st : St} {r : Nat} {q : List Nat} {cs : List D} (hc : st.cells r q = some cs) (h : std.ne cs = true) : live st r q = true := by
  unfold live
  rw [hc]
  cases cs with
  | nil => simp [std] at h
  | cons _ _ => rfl
theorem slot_ok {cs : List D} {o : Nat} (h : std.slot cs o = true) : ∃ old, cs[o]? = some old ∧ isSl old = false := by
  simp only [std] at h
  split at h
  · rename_i old he
    exact ⟨old, he, by simpa using h⟩
  · simp at h
theorem detU_ok {st st2 : St} {r p o : Nat} {z d : D} {cs : List D} {f : D → D} (hc : st.cells r [p] = some cs) (h : detU std st r p o z d cs = some (true, st2, f)) : st.det r [p] o d = some (st2, f) := by
  have hcell : st.cell r [p] o = cs[o]? := by unfold St.cell; rw [hc]
  have scalar : ∀ {st2 : St} {f : D → D}, (if isSl d then none else some (std.slot cs o, st, (id : D → D))) = some (true, st2, f) → st.det r [p] o d = some (st2, f) := by
    intro st2 f h
    split at h
    · simp at h
    rename_i hd
    simp only [Option.some.injEq, Prod.mk.injEq] at h
    obtain ⟨h1, rfl, rfl⟩ := h
    obtain ⟨old, h2, h3⟩ := slot_ok h1
    unfold St.det
    rw [hcell, h2]
    simp only [h3, Bool.false_eq_true, if_false]
    rw [if_neg hd]
  unfold detU at h
  split at h
  · simp only [Option.some.injEq, Prod.mk.injEq] at h
    obtain ⟨h1, rfl, rfl⟩ := h
    unfold St.det
    rw [hcell, isOS_ok h1]
    simp [isSl]
  · exact scalar h
  · exact scalar h
  · exact scalar h
  · simp at h
theorem storeRowU_ok {r p : Nat} : ∀ {zs ds : List D} {st : St} {o : Nat} {h : D → D} {g : Bool} {st' : St}, storeRowU std r p st o h zs ds = some (g, st') → g = true → storeRow st r [p] o h ds = some st'
  | [], [], st, o, h, g, st', hu, hg => by
    simp only [storeRowU, Option.some.injEq, Prod.mk.injEq] at hu
    obtain ⟨_, rfl⟩ := hu
    rfl
  | [], _ :: _, st, o, h, g, st', hu, hg => by simp [storeRowU] at hu
  | _ :: _, [], st, o, h, g, st', hu, hg => by simp [storeRowU] at hu
  | z :: zs, d :: ds, st, o, h, g, st', hu, hg => by
    simp only [storeRowU] at hu
    split at hu
    · simp at hu
    rename_i hat
    split at hu
    case h_2 => simp at hu
    rename_i d' st1 htk
    split at hu
    · simp at hu
    rename_i hce
    split at hu
    case h_2 => simp at hu
    rename_i cs hcs
    split at hu
    case h_2 => simp at hu
    rename_i g1 st2 f hdet
    split at hu
    case h_2 => simp at hu
    rename_i st3 hset
    split at hu
    case h_2 => simp at hu
    rename_i g2 st4 hrec
    simp only [Option.some.injEq, Prod.mk.injEq] at hu
    obtain ⟨rfl, rfl⟩ := hu
    obtain ⟨rfl, rfl⟩ := br_bool hg
    have hat' : isAt r [p] o (h d) = false := by simpa using hat
    simp only [storeRow, hat', Bool.false_and, Bool.false_eq_true, if_false, htk]
    rw [if_neg hce]
    simp only [detU_ok hcs hdet, hset]
    exact storeRowU_ok hrec rfl
theorem opE_ok {c : Cfg} {cl : FuncId → List D → Option (D × List D)} {ci : FuncId → List D → Nat → St → Option (D × St)} {fnId : FuncId} {st st' : St} {o : Oper} {g : Bool} (h : opE std c st o = some (g, st')) (hg : g = true) : opD c cl ci fnId st o = some st' := by
  unfold opE at h
  unfold opD
  split at h
  · rename_i s x f ho
    simp only [ho]
    split at h
    case h_2 => simp at h
    rename_i offs szs a b z hty
    rw [hty]
    simp only
    split at h
    case h_2 => simp at h
    rename_i k r p q i hk hx
    rw [hk, hx]
    simp only
    split at h
    case h_2 => simp at h
    rename_i cs hcs
    simp only [Option.some.injEq, Prod.mk.injEq] at h
    obtain ⟨rfl, rfl⟩ := h
    simp only [fieldD, live_ok hcs hg, if_true]
  · rename_i x ho
    simp only [ho]
    split at h
    case h_2 => simp at h
    rename_i r p q i hx
    rw [hx]
    simp only
    split at h
    case h_2 => simp at h
    rename_i cs hcs
    simp only [Option.some.injEq, Prod.mk.injEq] at h
    obtain ⟨rfl, rfl⟩ := h
    simp only [live_ok hcs hg, if_true]
  · rename_i t a x ho
    simp only [ho]
    split at h
    case h_2 => simp at h
    rename_i i hi
    rw [hi]
    simp only
    split at h
    case h_2 => simp at h
    rename_i r p j ha
    rw [ha]
    split at h
    · simp at h
    split at h
    case isFalse => simp at h
    rename_i hlen
    split at h
    case h_2 => simp at h
    rename_i cs hcs
    split at h
    case h_2 => simp at h
    rename_i g1 st1 hrow
    simp only [Option.some.injEq, Prod.mk.injEq] at h
    obtain ⟨rfl, rfl⟩ := h
    obtain ⟨h1, rfl⟩ := br_bool hg
    simp only [storeD, hlen, live_ok hcs h1, and_self, if_true, storeRowU_ok hrow rfl]
  · simp at h

/-! ### what comes back, lengths compared aa they are handed in -/
section
variable (pr : Prims)
def backLU (st : St) (h : D → D) : List D → List D → Option (Bool × St × (D → D))
  | [], _ => some (true, st, h)
  | _ :: _, [] => none
  | a :: aa, d :: ds =>
    match h a, d with
    | .ref r q o none, .sl none s n cs => match st.cell r q o with
      | some (.hole s0 n0) => if s0 = s then
          (match (st.mapD (killP r q o false)).setC r q o (.sl none s n cs) with
           | some st' => (match backLU st' (fun x => killP r q o false (h x)) aa ds with
             | some (g, p) => some (br (pr.neq n0 n) g false, p)
             | none => none)
           | none => none)
        else none
      | _ => none
    | _, _ => backLU st h aa ds
def back1U (st : St) (h : D → D) (a out : D) : Option (Bool × St × (D → D)) :=
  match a, out with
  | .agg cs, .agg ds => backLU pr st h cs ds
  | .ptr r [] 0, .pbox ds => match lk st.rt r with
    | some [] => some (true, { st.mapD (killB r) with rt := pz (st.mapD (killB r)).rt r ds }, fun x => killB r (h x))
    | _ => none
  | a, d => backLU pr st h [a] [d]
def callBackU (st : St) (h : D → D) : List Bool → List D → List D → Option (Bool × St)
  | _, [], _ => some (true, st)
  | b, a :: aa, o :: os => if b.headD false then match back1U pr st h a o with
      | some (g, st', h') => (match callBackU st' h' b.tail aa os with
        | some (g', st'') => some (br g g' false, st'')
        | none => none)
      | none => none
    else callBackU st h b.tail aa os
  | _, _ :: _, [] => none
end
theorem backLU_ok : ∀ {aa ds : List D} {st : St} {h : D → D} {g : Bool} {p : St × (D → D)}, backLU std st h aa ds = some (g, p) → g = true → backL st h aa ds = some p
  | [], ds, st, h, g, p, hu, _ => by
    simp only [backLU, Option.some.injEq, Prod.mk.injEq] at hu
    obtain ⟨_, rfl⟩ := hu
    rfl
  | a :: aa, [], st, h, g, p, hu, _ => by simp [backLU] at hu
  | a :: aa, d :: ds, st, h, g, p, hu, hg => by
    simp only [backLU] at hu
    simp only [backL]
    split at hu
    · rename_i r q o s n cs ha
      rw [ha]
      simp only
      split at hu
      · rename_i s0 n0 hc
        rw [hc]
        simp only
        split at hu
        case isFalse => simp at hu
        rename_i hs
        split at hu
        case h_2 => simp at hu
        rename_i st' hset
        split at hu
        case h_2 => simp at hu
        rename_i g1 p1 hrec
        simp only [Option.some.injEq, Prod.mk.injEq] at hu
        obtain ⟨rfl, rfl⟩ := hu
        obtain ⟨h1, rfl⟩ := br_bool hg
        have hn : n0 = n := by simpa [std] using h1
        rw [if_pos ⟨hs, hn⟩, hset]
        exact backLU_ok hrec rfl
      · simp at hu
    · rename_i hx
      split
      · rename_i r q o s n cs ha
        exact absurd rfl (hx r q o s n cs ha)
      · exact backLU_ok hu hg
theorem back1U_ok {st : St} {h : D → D} {a out : D} {g : Bool} {p : St × (D → D)} (hu : back1U std st h a out = some (g, p)) (hg : g = true) : back1 st h a out = some p := by
  unfold back1U at hu
  unfold back1
  split at hu
  · exact backLU_ok hu hg
  · split at hu
    · rename_i he
      simp only [Option.some.injEq, Prod.mk.injEq] at hu
      obtain ⟨_, rfl⟩ := hu
      simp only [he]
    · simp at hu
  · rename_i h1 h2
    split
    · rename_i cs ds; exact absurd rfl (h1 cs ds rfl)
    · rename_i r ds; exact absurd rfl (h2 r ds rfl)
    · exact backLU_ok hu hg
theorem callBackU_ok : ∀ {aa : List D} {b : List Bool} {os : List D} {st : St} {h : D → D} {g : Bool} {st' : St}, callBackU std st h b aa os = some (g, st') → g = true → callBack st h b aa os = some st'
  | [], b, os, st, h, g, st', hu, _ => by
    simp only [callBackU, Option.some.injEq, Prod.mk.injEq] at hu
    obtain ⟨_, rfl⟩ := hu
    rfl
  | a :: aa, b, [], st, h, g, st', hu, _ => by simp [callBackU] at hu
  | a :: aa, b, o :: os, st, h, g, st', hu, hg => by
    simp only [callBackU] at hu
    simp only [callBack]
    split at hu
    · rename_i hb
      rw [if_pos hb]
      split at hu
      case h_2 => simp at hu
      rename_i g1 st1 h1 hback
      split at hu
      case h_2 => simp at hu
      rename_i g2 st2 hrec
      simp only [Option.some.injEq, Prod.mk.injEq] at hu
      obtain ⟨rfl, rfl⟩ := hu
      obtain ⟨rfl, rfl⟩ := br_bool hg
      rw [back1U_ok hback rfl]
      exact callBackU_ok hrec rfl
    · rename_i hb
      rw [if_neg hb]
      exact callBackU_ok hu hg

/-! ### is something lent handed over? -/
def lentC : D → Bool
  | .sl (some true) _ _ _ => true
  | _ => false
def nlC (pr : Prims) : D → Bool
  | .sl _ _ _ cs => pr.nl cs
  | _ => true
def allB (f : D → Bool) : List D → Bool
  | [] => true
  | d :: ds => br (f d) (allB f ds) false
def lentL : List Bool → List D → Bool
  | _, [] => false
  | b, d :: ds => (b.headD false && (outCells d).any lentC) || lentL b.tail ds
def nlG (pr : Prims) : List Bool → List D → Bool
  | _, [] => true
  | b, d :: ds => br (if b.headD false then allB (nlC pr) (outCells d) else true) (nlG pr b.tail ds) false
theorem allB_ok {f : D → Bool} : ∀ {ds : List D}, allB f ds = true → ∀ d ∈ ds, f d = true
  | [], _ => by simp
  | d :: ds, h => by
    obtain ⟨h1, h2⟩ := br_bool h
    intro x hx
    rcases List.mem_cons.1 hx with rfl | hx
    · exact h1
    · exact allB_ok h2 x hx
theorem lentL_true : ∀ {b : List Bool} {ds : List D}, lentL b ds = true → lentIn b ds = true
  | _, [], h => by simp [lentL] at h
  | b, d :: ds, h => by
    simp only [lentL, Bool.or_eq_true, Bool.and_eq_true] at h
    simp only [lentIn, Bool.or_eq_true, Bool.and_eq_true]
    rcases h with ⟨h1, h2⟩ | h
    · refine .inl ⟨h1, ?_⟩
      obtain ⟨x, hx, hl⟩ := List.any_eq_true.1 h2
      cases hall : (outCells d).all noLent with
      | false => rfl
      | true =>
        have := List.all_eq_true.1 hall x hx
        unfold lentC at hl
        split at hl
        · simp [noLent] at this
        · simp at hl
    · exact .inr (lentL_true h)
theorem lentL_false : ∀ {b : List Bool} {ds : List D}, lentL b ds = false → nlG std b ds = true → lentIn b ds = false
  | _, [], _, _ => rfl
  | b, d :: ds, h, hn => by
    simp only [lentL, Bool.or_eq_false_iff] at h
    simp only [nlG] at hn
    obtain ⟨h1, h2⟩ := br_bool hn
    simp only [lentIn, Bool.or_eq_false_iff]
    refine ⟨?_, lentL_false h.2 h2⟩
    cases hb : b.headD false with
    | false => rfl
    | true =>
      rw [hb] at h1
      simp only [if_true] at h1
      have h3 := allB_ok h1
      have h4 : (outCells d).any lentC = false := by have := h.1; rw [hb] at this; simpa using this
      have : (outCells d).all noLent = true := by
        rw [List.all_eq_true]
        intro x hx
        have h5 := h3 x hx
        have h6 : lentC x = false := by
          cases hl : lentC x with
          | false => rfl
          | true => rw [List.any_eq_true.2 ⟨x, hx, hl⟩] at h4; simp at h4
        cases x with
        | sl g s n cs =>
          cases g with
          | none => simpa [noLent, nlC, std] using h5
          | some g =>
            cases g with
            | false => simpa [noLent, nlC, std] using h5
            | true => simp [lentC] at h6
        | _ => simp [noLent]
      rw [this]
      rfl
end Go.Proofs.Ytkejckoefjonjaa

namespace Go.Proofs.Ytkejckoefjonjaa

/-- What a result looks like. -/
inductive RS where
  | int (k : IntKind)
  | bool
  | str
  | sl (s : Nat)
  | slx (s : Nat)
  | undef
  | agg (l : List RS)
  | tup (l : List RS)
  | pbox (l : List RS)
/-- What goes on behind a call, its result's parts bound one by one. -/
inductive Tel (R : Type) where
  | done (x : Option R)
  | int (f : Int → Tel R)
  | bool (f : Bool → Tel R)
  | str (f : ByteArray → Tel R)
  | sl (f : Nat → List D → Tel R)
  | slx (f : Bool → Nat → List D → Tel R)
section
variable {R : Type}
mutual
def telR : RS → (D → Tel R) → Tel R
  | .int k, f => .int fun x => f (.int k x)
  | .bool, f => .bool fun x => f (.bool x)
  | .str, f => .str fun x => f (.str x)
  | .sl s, f => .sl fun n cs => f (.sl none s n cs)
  | .slx s, f => .slx fun g n cs => f (.sl (some g) s n cs)
  | .undef, f => f .undef
  | .agg l, f => telL l fun ds => f (.agg ds)
  | .tup l, f => telL l fun ds => f (.tup ds)
  | .pbox l, f => telL l fun ds => f (.pbox ds)
def telL : List RS → (List D → Tel R) → Tel R
  | [], f => f []
  | s :: ss, f => telR s fun d => telL ss fun ds => f (d :: ds)
end
def feed : Tel R → List D → Option R
  | .done x, _ => x
  | .int f, .int _ n :: l => feed (f n) l
  | .bool f, .bool b :: l => feed (f b) l
  | .str f, .str s :: l => feed (f s) l
  | .sl f, .sl none _ n cs :: l => feed (f n cs) l
  | .slx f, .sl (some g) _ n cs :: l => feed (f g n cs) l
  | _, _ => none
end
mutual
def prts : D → List D
  | .agg ds => prtsL ds
  | .tup ds => prtsL ds
  | .pbox ds => prtsL ds
  | .undef => []
  | d => [d]
def prtsL : List D → List D
  | [] => []
  | d :: ds => prts d ++ prtsL ds
end
mutual
def okS : RS → D → Bool
  | .int k, .int k' _ => ksame k k'
  | .bool, .bool _ => true
  | .str, .str _ => true
  | .sl s, .sl none s' _ _ => s == s'
  | .slx s, .sl (some _) s' _ _ => s == s'
  | .undef, .undef => true
  | .agg l, .agg ds => okSL l ds
  | .tup l, .tup ds => okSL l ds
  | .pbox l, .pbox ds => okSL l ds
  | _, _ => false
def okSL : List RS → List D → Bool
  | [], [] => true
  | s :: ss, d :: ds => okS s d && okSL ss ds
  | _, _ => false
end
section
variable {R : Type}
mutual
theorem feed_telR : ∀ {s : RS} {d : D} (f : D → Tel R) (l : List D), okS s d = true → feed (telR s f) (prts d ++ l) = feed (f d) l
  | .int k, d, f, l, h => by
    cases d <;> simp [okS, ksame] at h
    subst h
    simp [telR, prts, feed]
  | .bool, d, f, l, h => by
    cases d <;> simp [okS] at h
    simp [telR, prts, feed]
  | .str, d, f, l, h => by
    cases d <;> simp [okS] at h
    simp [telR, prts, feed]
  | .sl s, d, f, l, h => by
    cases d with
    | sl g s' n cs => cases g with
      | none => simp [okS] at h; subst h; simp [telR, prts, feed]
      | some g => simp [okS] at h
    | _ => simp [okS] at h
  | .slx s, d, f, l, h => by
    cases d with
    | sl g s' n cs => cases g with
      | none => simp [okS] at h
      | some g => simp [okS] at h; subst h; simp [telR, prts, feed]
    | _ => simp [okS] at h
  | .undef, d, f, l, h => by
    cases d <;> simp [okS] at h
    simp [telR, prts]
  | .agg ss, d, f, l, h => by
    cases d with
    | agg ds => rw [telR, prts]; exact feed_telL _ l (by simpa [okS] using h)
    | _ => simp [okS] at h
  | .tup ss, d, f, l, h => by
    cases d with
    | tup ds => rw [telR, prts]; exact feed_telL _ l (by simpa [okS] using h)
    | _ => simp [okS] at h
  | .pbox ss, d, f, l, h => by
    cases d with
    | pbox ds => rw [telR, prts]; exact feed_telL _ l (by simpa [okS] using h)
    | _ => simp [okS] at h
theorem feed_telL : ∀ {ss : List RS} {ds : List D} (f : List D → Tel R) (l : List D), okSL ss ds = true → feed (telL ss f) (prtsL ds ++ l) = feed (f ds) l
  | [], ds, f, l, h => by
    cases ds with
    | nil => rfl
    | cons d ds => simp [okSL] at h
  | s :: ss, ds, f, l, h => by
    cases ds with
    | nil => simp [okSL] at h
    | cons d ds =>
      simp only [okSL, Bool.and_eq_true] at h
      rw [telL, prtsL, List.append_assoc, feed_telR _ _ h.1, feed_telL _ _ h.2]
end
end

/-- What a call comes to, if it comes to anything. -/
noncomputable def callV (c : Cfg) (P : Program) (f : FuncId) (ds : List D) : Option (D × List D) := by
  classical exact if h : ∃ r, Comes c P f ds r then some (Classical.choose h) else none
theorem callV_ev {c : Cfg} {P : Program} {f : FuncId} {ds : List D} {r : D × List D} (h : callV c P f ds = some r) : Comes c P f ds r := by
  unfold callV at h
  split at h
  · rename_i hh
    rw [Option.some.injEq] at h
    rw [← h]
    exact Classical.choose_spec hh
  · simp at h
theorem comes_det {c : Cfg} {P : Program} {f : FuncId} {ds : List D} {r r' : D × List D} (h : Comes c P f ds r) (h' : Comes c P f ds r') : r = r' := by
  obtain ⟨k, hk⟩ := Ev.and h h'
  have h3 := hk k (Nat.le_refl _)
  exact Option.some.inj (h3.1.symm.trans h3.2)
theorem callV_eq {c : Cfg} {P : Program} {f : FuncId} {ds : List D} {r : D × List D} (h : Comes c P f ds r) : callV c P f ds = some r := by
  unfold callV
  rw [dif_pos ⟨r, h⟩]
  exact congrArg some (comes_det (Classical.choose_spec (⟨r, h⟩ : ∃ r, Comes c P f ds r)) h)
/-- What is said of functions: their results' looks; whether rows of rows are told by what they are said to hold. -/
structure Sg where
  sig : FuncId → Option (RS × List RS)
  em : FuncId → Bool
abbrev Cv (R : Type) := FuncId → List D → Tel R → Option R
/-- The number 999999 stands for no function: what is handed in is but named. -/
noncomputable def cvS {R : Type} (c : Cfg) (P : Program) (sg : Sg) : Cv R := fun g ds t =>
  if g = 999999 then feed t ds else
  match callV c P g ds, sg.sig g with
  | some (r, outs), some (s, ss) => if okS s r && okSL ss outs then feed t (prts r ++ (prtsL outs ++ [])) else none
  | _, _ => none
theorem cv_eq {R : Type} {c : Cfg} {P : Program} {sg : Sg} {g : FuncId} {ds : List D} {r : D} {outs : List D} (t : Tel R) (h : Comes c P g ds (r, outs)) (hs : (match sg.sig g with | some (s, ss) => okS s r && okSL ss outs | none => false) = true) (hg : g ≠ 999999) : cvS c P sg g ds t = feed t (prts r ++ (prtsL outs ++ [])) := by
  unfold cvS
  rw [if_neg hg, callV_eq h]
  split at hs
  · rename_i s ss hg
    rw [hg]
    simp only [hs, if_true]
  · simp at hs
/-- A root's row is told anew. -/
def St.putRow (st : St) (r p : Nat) (zs : List D) : Option St :=
  match lk st.rt r with
  | some l => match l[p]? with
    | some (.sl none s n _) => some { st with rt := upd st.rt r (l.set p (.sl none s n zs)) }
    | _ => none
  | none => none
theorem putRow_same {st : St} {r p : Nat} {ys : List D} (h : st.cells r [p] = some ys) : st.putRow r p ys = some st := by
  unfold St.cells at h
  unfold St.putRow
  split at h
  case h_2 => simp at h
  rename_i l hl
  simp only [cellsAt] at h
  split at h
  case h_2 => simp at h
  rename_i s n xs hp
  simp only [Option.some.injEq] at h
  subst h
  simp only [hl, hp]
  have e : l.set p (.sl none s n xs) = l := by
    apply List.ext_getElem?
    intro i
    rw [List.getElem?_set]
    split
    · rename_i hi
      subst hi
      rw [if_pos (List.getElem?_eq_some_iff.1 hp).1, hp]
    · rfl
  rw [e, upd_same _ _ _ hl]
section
variable {R : Type} (pr : Prims) (c : Cfg) (sg : Sg) (cv : Cv R) (J : Nat → St → Option R) (fnId : FuncId)
/-- A call behind which the memory is 'st2 r' with the result r. -/
def contJ (st2 : St) (t : Bool) (dst : Option Nat) (r : D) (k : St → Option R) : Option R :=
  match dst with
  | some i => k ((st2.adopt (st2.of + i) (if t then tagR true r else r)).1.put (some i) (st2.adopt (st2.of + i) (if t then tagR true r else r)).2)
  | none => k st2
/-- A row of rows gets a name. -/
def naming (st : St) (r p : Nat) (k : St → Option R) : Option R :=
  match st.cells r [p] with
  | some ys => cv 999999 [.sl none 0 0 ys] (.sl fun _ zs => .done (match st.putRow r p zs with
    | some st' => k st'
    | none => none))
  | none => k st
def callJ (st : St) (dst : Option Nat) (g : FuncId) (args : List D) (k : St → Option R) : Option R :=
  if g = 999999 then none else
  match callIn st (c.own g) args, sg.sig g with
  | some (ds, st1), some (s, ss) =>
    br (if lentL (c.own g) ds then true else nlG pr (c.own g) ds)
    (cv g (if lentL (c.own g) ds then untag (c.own g) ds else ds) (telR s fun r => telL ss fun outs => .done (br (okU pr r && outs.all (okU pr))
      (match callBackU pr st1 id (c.own g) args (if lentL (c.own g) ds then outs.map (tagR true) else outs) with
        | some (q, st2) => br q (contJ st2 (lentL (c.own g) ds) dst r k) none
        | none => none) none))) none
  | _, _ => none
/-- A row in a row, at a place that is not known, is handed over. -/
def callJE (st : St) (dst : Option Nat) (g : FuncId) (sz r p o : Nat) (rest : List D) (k : St → Option R) : Option R :=
  if g = 999999 then none else
  match st.cells r [p], sg.sig g, (c.own g).headD false && !(c.own g).tail.any id with
  | some cs, some (s, ss), true =>
    match st.setC r [p] o (.hole sz (pr.getN cs o)) with
    | some st1 => match callRo st1 (c.own g).tail rest with
      | some rest' =>
        br (pr.isOS sz cs o) (br (pr.nl (pr.getC cs o))
        (cv g (.sl none sz (pr.getN cs o) (pr.getC cs o) :: rest') (telR s fun res => telL ss fun outs => .done (br (okU pr res && outs.all (okU pr))
          (match outs with
            | .sl none sz' n' cs' :: _ => if sz = sz' ∧ outs.length = rest.length + 1 then (match (st.mapD (killP r [p] o false)).setC r [p] o (.sl none sz' n' cs') with
              | some st2 => br (pr.neq (pr.getN cs o) n') (naming cv st2 r p fun st2 => contJ st2 false dst res k) none
              | none => none) else none
            | _ => none) none))) none) none
      | none => none
    | none => none
  | _, _, _ => none
def nameK (st : St) (o : Oper) (k : St → Option R) : St → Option R :=
  if sg.em fnId then (match o.op with
    | .store _ a _ => (match evD c st o.type a with
      | .ptr r [p] _ => fun st' => naming cv st' r p k
      | _ => k)
    | _ => k) else k
def opJ (st : St) (o : Oper) (k : St → Option R) : Option R :=
  match o.op with
  | .call cc => match cc.callee with
    | .value f => if cc.args.size ≠ cc.argTypes.size then none else match evD c st o.type f with
      | .fn g caps => if c.inl g then none else match sg.em fnId, ((cc.args.toList.zip cc.argTypes.toList).map fun p => evD c st p.2 p.1) ++ caps with
        | true, .ref r [p] o' none :: rest => callJE pr c sg cv st o.dst g (c.esz (cc.argTypes.toList.headD 0)) r p o' rest k
        | _, args => callJ pr c sg cv st o.dst g args k
      | _ => none
    | _ => opK pr c (fun _ _ => none) ciN fnId st o k
  | _ => match (if sg.em fnId then opE pr c st o else none) with
    | some (g, st') => br g (nameK c sg cv fnId st o k st') none
    | none => opK pr c (fun _ _ => none) ciN fnId st o (nameK c sg cv fnId st o k)
def opsJ (all : Array Oper) : List Oper → St → (St → Option R) → Option R
  | [], st, k => k st
  | o :: rest, st, k => match o.guard with
    | none => opJ pr c sg cv fnId st o fun st' => opsJ all rest st' k
    | some (j, want) => match (all[j]?).bind (·.dst) with
      | some t => match st.get t with
        | .bool b => match want with
          | true => br b (opJ pr c sg cv fnId (st.lit t true) o fun st' => opsJ all rest st' k) (opsJ all rest ((st.lit t false).put o.dst (.tup [])) k)
          | false => br b (opsJ all rest ((st.lit t true).put o.dst (.tup [])) k) (opJ pr c sg cv fnId (st.lit t false) o fun st' => opsJ all rest st' k)
        | .tup [] => opsJ all rest (st.put o.dst (.tup [])) k
        | _ => none
      | none => opsJ all rest (st.put o.dst (.tup [])) k
def jmp (i : Nat) (st : St) : Option R := match nmOf c fnId i st with
  | some h => J i h
  | none => none
def seqK (f : St → Option R) (k : Exit → St → Option R) : Exit → St → Option R
  | .normal, st => f st
  | x, st => k x st
def blkK (id : Nat) (k : Exit → St → Option R) : Exit → St → Option R
  | .exit id', st => if id' = id then k .normal st else k (.exit id') st
  | x, st => k x st
def codeJ : Code → Nat → St → (Exit → St → Option R) → Option R
  | .skip, _, st, k => k .normal st
  | .region _ ops false, _, st, k => opsJ pr c sg cv fnId ops ops.toList st (k .normal)
  | .region _ ops true, _, st, k => match planL c ops ops.size (Array.replicate ops.size false) with
    | some l => opsJ pr c sg cv fnId ops (opsOf ops l) st (k .normal)
    | none => none
  | .seq a b, i, st, k => codeJ a i st (seqK (fun st' => codeJ b i st' k) k)
  | .cond x a b, i, st, k => condK c st x (fun st => codeJ a i st k) (fun st => codeJ b i st k)
  | .block id a, _, st, k => codeJ a id st (blkK id k)
  | .loop _, i, st, _ => jmp c J fnId i st
  | .exit id, _, st, k => k (.exit id) st
  | .ret, _, st, k => k .ret st
  | _, _, _, _ => none
/-- A loop's body with all that comes behind it. -/
def treeJ : Code → Nat → (Exit → St → Option R) → Nat → Option (St → Option R)
  | .seq a b, i, k, j => match treeJ a i (seqK (fun st' => codeJ pr c sg cv J fnId b i st' k) k) j with
    | some t => some t
    | none => treeJ b i k j
  | .cond _ a b, i, k, j => match treeJ a i k j with
    | some t => some t
    | none => treeJ b i k j
  | .block id a, _, k, j => treeJ a id (blkK id k) j
  | .loop a, i, k, j => if i = j then some fun h => codeJ pr c sg cv J fnId a i h (seqK (jmp c J fnId i) k)
    else treeJ a i (seqK (jmp c J fnId i) k) j
  | _, _, _, _ => none
end
def idsOf : Code → Nat → List Nat
  | .seq a b, i => idsOf a i ++ idsOf b i
  | .cond _ a b, i => idsOf a i ++ idsOf b i
  | .block id a, _ => idsOf a id
  | .loop a, i => i :: idsOf a i
  | _, _ => []
/-- What an argument is as far as the end asks. -/
def skD : D → D
  | .pbox _ => .pbox []
  | .agg cs => if cs.any isOwn then .agg [.sl none 0 0 []] else .undef
  | .sl none _ _ _ => .sl none 0 0 []
  | .tup vs => .tup vs
  | _ => .undef
abbrev Rz := D × List D
section
variable (pr : Prims) (c : Cfg) (sg : Sg) (cv : Cv Rz) (J : Nat → St → Option Rz) (fnId : FuncId)
def headJ (fn : Func) (sk : List D) (j : Nat) (h : St) : Option Rz :=
  match fn.body with
  | some body => match treeJ pr c sg cv J fnId body 0 (finK c fn sk) j with
    | some t => t h
    | none => none
  | none => none
def runJ (fn : Func) (args : List D) : Option Rz :=
  match fn.body with
  | some body => codeJ pr c sg cv J fnId body 0 (enterL fn.ntmps 0 args ⟨[], [], [], 0⟩) (finK c fn (args.map skD))
  | none => none
end
noncomputable def Jn (c : Cfg) (P : Program) (sg : Sg) (f : FuncId) (fn : Func) (sk : List D) : Nat → Nat → St → Option Rz
  | 0 => fun _ _ => none
  | n + 1 => fun j h => headJ std c sg (cvS c P sg) (Jn c P sg f fn sk n) f fn sk j h
def W (c : Cfg) (P : Program) (sg : Sg) (f : FuncId) (fn : Func) (sk : List D) (j : Nat) (h : St) (r : Rz) : Prop := ∃ n, Jn c P sg f fn sk n j h = some r

/-! ### it is right -/
theorem outView_sk (st : St) (r : Nat) (d : D) : outView st r (skD d) = outView st r d := by
  cases d with
  | pbox cs => rfl
  | agg cs =>
    by_cases h : cs.any isOwn = true
    · have e : skD (.agg cs) = .agg [.sl none 0 0 []] := by simp only [skD, h, if_true]
      have h1 : rootD (.agg cs) = true := h
      have h2 : rootD (.agg [.sl none 0 0 []]) = true := rfl
      rw [e]
      unfold outView
      rw [h1, h2]
    · have e : skD (.agg cs) = .undef := by simp only [skD, if_neg h]
      have h1 : rootD (.agg cs) = false := Bool.eq_false_iff.2 h
      have h2 : rootD .undef = false := rfl
      rw [e]
      unfold outView
      rw [h1, h2]
      rfl
  | sl g s n cs =>
    cases g with
    | none => rfl
    | some g => rfl
  | tup vs => rfl
  | _ => rfl
theorem outsL_sk (n : Nat) : ∀ (i : Nat) (ds : List D) (st : St), outsL n i (ds.map skD) st = outsL n i ds st
  | _, [], _ => rfl
  | i, d :: ds, st => by
    simp only [List.map_cons, outsL, outView_sk]
    split
    · rw [outsL_sk n (i + 1) ds st]
    · split
      · rename_i o st' h
        rw [outsL_sk n (i + 1) ds st']
      · rfl
theorem finK_sk (c : Cfg) (fn : Func) (args : List D) : finK c fn (args.map skD) = finK c fn args := by
  funext x st
  unfold finK
  simp only [outsL_sk, List.length_map]

section
variable {R : Type} {P : Program} {c : Cfg} (hcfg : CfgOk c P) {sg : Sg} {fnId : FuncId}
include hcfg
theorem naming_k {st : St} {r p : Nat} {k : St → Option R} : naming (cvS c P sg) st r p k = k st := by
  have _ := hcfg
  unfold naming
  split
  · rename_i ys hys
    unfold cvS
    simp only [if_true, feed, putRow_same hys]
  · rfl
theorem nameK_k {st : St} {o : Oper} {k : St → Option R} : nameK c sg (cvS c P sg) fnId st o k = k := by
  unfold nameK
  split
  · split
    · split
      · funext st'
        exact naming_k hcfg
      · rfl
    · rfl
  · rfl
theorem contJ_k {st2 : St} {t : Bool} {dst : Option Nat} {r : D} {k : St → Option R} {x : R} (h : contJ st2 t dst r k = some x) : ∃ st', (match dst with
      | some i => some ((st2.adopt (st2.of + i) (if t then tagR true r else r)).1.put (some i) (st2.adopt (st2.of + i) (if t then tagR true r else r)).2)
      | none => some st2) = some st' ∧ k st' = some x ∧ ∀ (k' : St → Option R), contJ st2 t dst r k' = k' st' := by
  have _ := hcfg
  cases dst with
  | none => exact ⟨_, rfl, h, fun _ => rfl⟩
  | some i => exact ⟨_, rfl, h, fun _ => rfl⟩
theorem callJ_ok {st : St} {dst : Option Nat} {g : FuncId} {args : List D} {k : St → Option R} {r : R} (h : callJ std c sg (cvS c P sg) st dst g args k = some r) : ∃ st', callD c (callV c P) st dst g args = some st' ∧ k st' = some r ∧ ∀ (k' : St → Option R) r', k' st' = some r' → callJ std c sg (cvS c P sg) st dst g args k' = some r' := by
  unfold callJ at h
  split at h
  · simp at h
  rename_i hg
  split at h
  case h_2 => simp at h
  rename_i ds st1 s ss hin hsg
  obtain ⟨hl, h⟩ := br_true h
  unfold cvS at h
  rw [if_neg hg, hsg] at h
  split at h
  case h_2 => simp at h
  rename_i rr outs s' ss' hV hs'
  simp only [Option.some.injEq, Prod.mk.injEq] at hs'
  obtain ⟨rfl, rfl⟩ := hs'
  split at h
  case isFalse => simp at h
  rename_i hok
  have hok' := hok
  simp only [Bool.and_eq_true] at hok
  rw [feed_telR _ _ hok.1, feed_telL _ _ hok.2] at h
  simp only [feed] at h
  obtain ⟨h1, h2⟩ := br_true h
  have hU : (okR rr && outs.all okR) = true := by
    have e : okU std = okR := funext okU_ok
    rw [← e]
    exact h1
  split at h2
  case h_2 => simp at h2
  rename_i q st2 hb
  obtain ⟨hq, h2⟩ := br_true h2
  have ht : lentIn (c.own g) ds = lentL (c.own g) ds := by
    cases hlt : lentL (c.own g) ds with
    | true => exact lentL_true hlt
    | false => rw [hlt] at hl; exact lentL_false hlt (by simpa using hl)
  obtain ⟨st', k1, k2, k3⟩ := contJ_k hcfg h2
  refine ⟨st', ?_, k2, fun k' r' hk => ?_⟩
  · unfold callD
    rw [hin]
    simp only [ht, hV, hU, if_true, callBackU_ok hb hq]
    cases dst with
    | none => exact k1
    | some i => exact k1
  · unfold callJ
    rw [if_neg hg, hin, hsg]
    simp only
    rw [hl]
    simp only [br]
    unfold cvS
    rw [if_neg hg, hV, hsg]
    simp only
    rw [if_pos hok', feed_telR _ _ hok.1, feed_telL _ _ hok.2]
    simp only [feed, h1, br, hb, hq]
    rw [k3, hk]
theorem callOwn_none : ∀ {b : List Bool} {ds : List D} {st : St}, b.any id = false → callOwn st b ds = some (ds, st)
  | _, [], _, _ => rfl
  | b, d :: ds, st, h => by
    have _ := hcfg
    have hb : b.headD false = false ∧ b.tail.any id = false := by
      cases b with
      | nil => simp
      | cons x xs => simpa using h
    simp only [callOwn, hb.1, Bool.false_eq_true, if_false, callOwn_none hb.2]
theorem callBack_none : ∀ {b : List Bool} {ds os : List D} {st : St} {h : D → D}, b.any id = false → ds.length = os.length → callBack st h b ds os = some st
  | _, [], _, _, _, _, _ => rfl
  | b, d :: ds, [], st, h, hn, hl => by simp at hl
  | b, d :: ds, o :: os, st, h, hn, hl => by
    have _ := hcfg
    have hb : b.headD false = false ∧ b.tail.any id = false := by
      cases b with
      | nil => simp
      | cons x xs => simpa using hn
    simp only [callBack, hb.1, Bool.false_eq_true, if_false]
    exact callBack_none hb.2 (by simpa using hl)
theorem lentIn_none : ∀ {b : List Bool} {ds : List D}, b.any id = false → lentIn b ds = false
  | _, [], _ => rfl
  | b, d :: ds, hn => by
    have _ := hcfg
    have hb : b.headD false = false ∧ b.tail.any id = false := by
      cases b with
      | nil => simp
      | cons x xs => simpa using hn
    simp only [lentIn, hb.1, Bool.false_and, Bool.false_or]
    exact lentIn_none hb.2
theorem cells_setC {st st1 : St} {r p o : Nat} {cs : List D} {d : D} (hc : st.cells r [p] = some cs) (h : st.setC r [p] o d = some st1) : st1.cells r [p] = some (cs.set o d) := by
  have _ := hcfg
  unfold St.cells at hc ⊢
  unfold St.setC at h
  split at h
  case h_2 => simp at h
  rename_i l hl
  rw [hl] at hc
  simp only at hc
  split at h
  case h_2 => simp at h
  rename_i l' hm
  simp only [Option.some.injEq] at h
  subst h
  simp only [lk_pz_same]
  simp only [cellsAt] at hc
  split at hc
  case h_2 => simp at hc
  rename_i s n xs hp
  simp only [Option.some.injEq] at hc
  subst hc
  simp only [modAt, hp, Option.some.injEq] at hm
  subst hm
  have hlt : p < l.length := (List.getElem?_eq_some_iff.1 hp).1
  simp only [cellsAt, List.getElem?_set, hlt, if_true]
omit hcfg in
theorem pz_twice {α : Type} : ∀ (l : List (Nat × α)) (k : Nat) (u v : α), pz (pz l k u) k v = pz l k v
  | [], k, u, v => by simp [pz]
  | (j, w) :: t, k, u, v => by
    simp only [pz]
    split
    · rename_i h
      simp only [pz, if_pos h, pz_twice t k u v]
    · rename_i h
      split
      · simp [pz]
      · simp [pz]
omit hcfg in
theorem mapT_lk {α : Type} (f : α → α) : ∀ (l : List (Nat × α)) (k : Nat), lk (mapT f l) k = (lk l k).map f
  | [], _ => rfl
  | (j, w) :: t, k => by
    simp only [mapT, lk]
    split
    · rfl
    · exact mapT_lk f t k
theorem setC_twice {st st1 : St} {r p o : Nat} {h d : D} {b : Bool} (hs : st.setC r [p] o h = some st1) : (st1.mapD (killP r [p] o b)).setC r [p] o d = (st.mapD (killP r [p] o b)).setC r [p] o d := by
  have _ := hcfg
  unfold St.setC at hs
  split at hs
  case h_2 => simp at hs
  rename_i l hl
  split at hs
  case h_2 => simp at hs
  rename_i l' hm
  simp only [Option.some.injEq] at hs
  subst hs
  simp only [modAt] at hm
  split at hm
  case h_2 => simp at hm
  rename_i s n xs hp
  simp only [Option.some.injEq] at hm
  subst hm
  have hlt : p < l.length := (List.getElem?_eq_some_iff.1 hp).1
  have e1 : (l.map (onA (killP r [p] o b)))[p]? = some (.sl none s n xs) := by
    rw [List.getElem?_map, hp]
    rfl
  have e2 : ((l.set p (.sl none s n (xs.set o h))).map (onA (killP r [p] o b)))[p]? = some (.sl none s n (xs.set o h)) := by
    rw [List.getElem?_map, List.getElem?_set]
    simp only [hlt, if_true]
    rfl
  have e0 : lk (mapT (List.map (onA (killP r [p] o b))) st.rt) r = some (l.map (onA (killP r [p] o b))) := by
    rw [mapT_lk, hl]
    rfl
  have e3 : ((l.set p (.sl none s n (xs.set o h))).map (onA (killP r [p] o b))).set p (.sl none s n (xs.set o d)) = (l.map (onA (killP r [p] o b))).set p (.sl none s n (xs.set o d)) := by
    rw [List.map_set, List.set_set]
  unfold St.setC
  simp only [St.mapD, mapT_pz, lk_pz_same, e0, modAt, e1, e2, List.set_set, e3, pz_twice]
theorem callJE_ok {st : St} {dst : Option Nat} {g : FuncId} {sz a p o : Nat} {rest : List D} {k : St → Option R} {r : R} (h : callJE std c sg (cvS c P sg) st dst g sz a p o rest k = some r) : ∃ st', callD c (callV c P) st dst g (.ref a [p] o none :: rest) = some st' ∧ k st' = some r ∧ ∀ (k' : St → Option R) r', k' st' = some r' → callJE std c sg (cvS c P sg) st dst g sz a p o rest k' = some r' := by
  unfold callJE at h
  split at h
  · simp at h
  rename_i hg
  split at h
  case h_2 => simp at h
  rename_i cs s ss hcs hsg hown
  simp only [Bool.and_eq_true, Bool.not_eq_true'] at hown
  split at h
  case h_2 => simp at h
  rename_i st1 hset
  split at h
  case h_2 => simp at h
  rename_i rest' hro
  obtain ⟨hos, h⟩ := br_true h
  obtain ⟨hnl, h⟩ := br_true h
  simp only [naming_k hcfg] at h
  unfold cvS at h
  rw [if_neg hg, hsg] at h
  split at h
  case h_2 => simp at h
  rename_i rr outs s' ss' hV hs'
  simp only [Option.some.injEq, Prod.mk.injEq] at hs'
  obtain ⟨rfl, rfl⟩ := hs'
  split at h
  case isFalse => simp at h
  rename_i hok
  have hok' := hok
  simp only [Bool.and_eq_true] at hok
  rw [feed_telR _ _ hok.1, feed_telL _ _ hok.2] at h
  simp only [feed] at h
  obtain ⟨h1, h2⟩ := br_true h
  have hU : (okR rr && outs.all okR) = true := by
    have e : okU std = okR := funext okU_ok
    rw [← e]
    exact h1
  split at h2
  case h_2 => simp at h2
  rename_i sz' n' cs' orest
  split at h2
  case isFalse => simp at h2
  rename_i hszl
  obtain ⟨rfl, hol⟩ := hszl
  split at h2
  case h_2 => simp at h2
  rename_i st2 hset2
  have hset2' := hset2
  rw [← setC_twice hcfg hset] at hset2'
  obtain ⟨hq, h2⟩ := br_true h2
  have hn : std.getN cs o = n' := by simpa [std] using hq
  obtain ⟨st', k1, k2, k3⟩ := contJ_k hcfg h2
  have hcell : st.cell a [p] o = some (.sl none sz (std.getN cs o) (std.getC cs o)) := by
    unfold St.cell
    rw [hcs]
    exact isOS_ok hos
  have hholed : st1.cell a [p] o = some (.hole sz (std.getN cs o)) := by
    have hlt : o < cs.length := (List.getElem?_eq_some_iff.1 (isOS_ok hos)).1
    unfold St.cell
    rw [cells_setC hcfg hcs hset]
    simp only [List.getElem?_set, hlt, if_true]
  have hin : callIn st (c.own g) (.ref a [p] o none :: rest) = some (.sl none sz (std.getN cs o) (std.getC cs o) :: rest', st1) := by
    unfold callIn
    simp only [callOwn, hown.1, if_true, tkA, tkC, hcell, hset, trim, callOwn_none hcfg hown.2, callRo, hro]
  have hlent : lentIn (c.own g) (.sl none sz (std.getN cs o) (std.getC cs o) :: rest') = false := by
    simp only [lentIn, lentIn_none hcfg hown.2, Bool.or_false, hown.1, Bool.true_and, outCells, flatD, List.all_cons, List.all_nil, Bool.and_true, noLent]
    have : noLentL (std.getC cs o) = true := hnl
    rw [this]
    rfl
  have hback : callBack st1 id (c.own g) (.ref a [p] o none :: rest) (.sl none sz n' cs' :: orest) = some st2 := by
    simp only [callBack, hown.1, if_true, back1, backL, id, hholed]
    simp only [hn, and_self, if_true, hset2']
    exact callBack_none hcfg hown.2 (by simpa using hol.symm)
  refine ⟨st', ?_, k2, fun k' r' hk => ?_⟩
  · unfold callD
    rw [hin]
    simp only [hlent, Bool.false_eq_true, if_false, hV, hU, if_true, hback]
    cases dst with
    | none => exact k1
    | some i => exact k1
  · unfold callJE
    simp only [naming_k hcfg]
    rw [if_neg hg, hcs, hsg]
    simp only [hown.1, hown.2, Bool.not_false, Bool.and_self, hset, hro, hos, hnl, br]
    unfold cvS
    rw [if_neg hg, hV, hsg]
    simp only
    rw [if_pos hok', feed_telR _ _ hok.1, feed_telL _ _ hok.2]
    simp only [feed, h1, br]
    rw [if_pos ⟨trivial, hol⟩, hset2]
    simp only [hq]
    rw [k3, hk]
theorem opJ_ok {st : St} {o : Oper} {k : St → Option R} {r : R} (h : opJ std c sg (cvS c P sg) fnId st o k = some r) : ∃ st', opD c (callV c P) ciN fnId st o = some st' ∧ k st' = some r ∧ ∀ (k' : St → Option R) r', k' st' = some r' → opJ std c sg (cvS c P sg) fnId st o k' = some r' := by
  have hK : ∀ (k : St → Option R), opK std c (fun _ _ => none) ciN fnId st o k = some r → ∃ st', opD c (callV c P) ciN fnId st o = some st' ∧ k st' = some r ∧ ∀ (k' : St → Option R) r', k' st' = some r' → opK std c (fun _ _ => none) ciN fnId st o k' = some r' := by
    intro k h
    have hh := h
    unfold opK at h
    obtain ⟨h1, h2⟩ := br_true h
    split at h2
    · rename_i st' hu
      refine ⟨st', opU_ok hcfg (by simp) h1 hu, h2, fun k' r' hk => ?_⟩
      unfold opK
      rw [h1, hu]
      exact hk
    · simp at h2
  unfold opJ at h ⊢
  simp only [nameK_k hcfg] at h ⊢
  split at h
  · rename_i cc ho
    split at h
    · rename_i f hcc
      split at h
      · simp at h
      rename_i hsz
      split at h
      case h_2 => simp at h
      rename_i g caps hev
      split at h
      · simp at h
      rename_i hinl
      have hop : ∀ {args : List D} {st' : St}, ((cc.args.toList.zip cc.argTypes.toList).map fun p => evD c st p.2 p.1) ++ caps = args → callD c (callV c P) st o.dst g args = some st' → opD c (callV c P) ciN fnId st o = some st' := by
        intro args st' ha hd
        unfold opD
        simp only [ho, hcc]
        rw [if_neg hsz]
        simp only [hev, if_neg hinl, ha]
        exact hd
      split at h
      · rename_i a p o' rest hem harg
        obtain ⟨st', h1, h2, h3⟩ := callJE_ok hcfg h
        refine ⟨st', hop harg h1, h2, fun k' r' hk => ?_⟩
        rw [if_neg hsz]
        simp only [hev, if_neg hinl, hem, harg]
        exact h3 k' r' hk
      · rename_i hne
        obtain ⟨st', h1, h2, h3⟩ := callJ_ok hcfg h
        refine ⟨st', hop rfl h1, h2, fun k' r' hk => ?_⟩
        rw [if_neg hsz]
        simp only [hev, if_neg hinl]
        exact h3 k' r' hk
    · rename_i hcc
      obtain ⟨st', h1, h2, h3⟩ := hK k h
      refine ⟨st', h1, h2, fun k' r' hk => ?_⟩
      exact h3 k' r' hk
  · rename_i hnc
    split at h
    · rename_i g st' he
      obtain ⟨hg, h2⟩ := br_true h
      split at he
      case isFalse => simp at he
      refine ⟨st', opE_ok he hg, h2, fun k' r' hk => ?_⟩
      rw [hg]
      exact hk
    · rename_i he
      obtain ⟨st', h1, h2, h3⟩ := hK k h
      refine ⟨st', h1, h2, fun k' r' hk => ?_⟩
      exact h3 k' r' hk
end
end Go.Proofs.Ytkejckoefjonjaa

namespace Go.Proofs.Ytkejckoefjonjaa

section
variable {R : Type} {P : Program} {c : Cfg} (hcfg : CfgOk c P) {sg : Sg} {fnId : FuncId}
include hcfg
theorem opsJ_ok {all : Array Oper} {k : St → Option R} {r : R} : ∀ {os : List Oper} {st : St}, opsJ std c sg (cvS c P sg) fnId all os st k = some r → ∃ st', opsD c (callV c P) ciN fnId all os st = some st' ∧ k st' = some r ∧ ∀ (k' : St → Option R) r', k' st' = some r' → opsJ std c sg (cvS c P sg) fnId all os st k' = some r'
  | [], st, h => ⟨st, rfl, h, fun _ _ hk => hk⟩
  | o :: os, st, h => by
    have run : ∀ st, opJ std c sg (cvS c P sg) fnId st o (fun st' => opsJ std c sg (cvS c P sg) fnId all os st' k) = some r → ∃ st', (match opD c (callV c P) ciN fnId st o with | some st' => opsD c (callV c P) ciN fnId all os st' | none => none) = some st' ∧ k st' = some r ∧ ∀ (k' : St → Option R) r', k' st' = some r' → opJ std c sg (cvS c P sg) fnId st o (fun st' => opsJ std c sg (cvS c P sg) fnId all os st' k') = some r' := by
      intro st h
      obtain ⟨st1, h1, h2, h3⟩ := opJ_ok hcfg h
      obtain ⟨st2, k1, k2, k3⟩ := opsJ_ok h2
      refine ⟨st2, ?_, k2, fun k' r' hk => h3 _ _ (k3 k' r' hk)⟩
      rw [h1]
      exact k1
    simp only [opsJ] at h ⊢
    simp only [opsD, wantD]
    split at h
    · rename_i hg
      rw [hg]
      exact run st h
    · rename_i j want hg
      rw [hg]
      simp only
      split at h
      · rename_i t ht
        rw [ht]
        simp only
        split at h
        · rename_i b hb
          rw [hb]
          simp only
          cases want with
          | true =>
            simp only at h
            rcases br_cases h with ⟨rfl, h1⟩ | ⟨rfl, h1⟩
            · rw [lit_eq hb] at h1
              obtain ⟨st1, k1, k2, k3⟩ := run st h1
              refine ⟨st1, by simp only [beq_self_eq_true]; exact k1, k2, fun k' r' hk => ?_⟩
              simp only [br]
              rw [lit_eq hb]
              exact k3 k' r' hk
            · rw [lit_eq hb] at h1
              obtain ⟨st1, k1, k2, k3⟩ := opsJ_ok h1
              refine ⟨st1, by simpa using k1, k2, fun k' r' hk => ?_⟩
              simp only [br]
              rw [lit_eq hb]
              exact k3 k' r' hk
          | false =>
            simp only at h
            rcases br_cases h with ⟨rfl, h1⟩ | ⟨rfl, h1⟩
            · rw [lit_eq hb] at h1
              obtain ⟨st1, k1, k2, k3⟩ := opsJ_ok h1
              refine ⟨st1, by simpa using k1, k2, fun k' r' hk => ?_⟩
              simp only [br]
              rw [lit_eq hb]
              exact k3 k' r' hk
            · rw [lit_eq hb] at h1
              obtain ⟨st1, k1, k2, k3⟩ := run st h1
              refine ⟨st1, by simp only [beq_self_eq_true]; exact k1, k2, fun k' r' hk => ?_⟩
              simp only [br]
              rw [lit_eq hb]
              exact k3 k' r' hk
        · rename_i hb
          rw [hb]
          exact opsJ_ok h
        · simp at h
      · rename_i ht
        rw [ht]
        exact opsJ_ok h
theorem opsJ_mono {all : Array Oper} {os : List Oper} {st : St} {k k' : St → Option R} {r : R} (hk : ∀ st r, k st = some r → k' st = some r) (h : opsJ std c sg (cvS c P sg) fnId all os st k = some r) : opsJ std c sg (cvS c P sg) fnId all os st k' = some r := by
  obtain ⟨st', _, h2, h3⟩ := opsJ_ok hcfg h
  exact h3 k' r (hk _ _ h2)
theorem jmp_mono {J J' : Nat → St → Option R} (hJ : ∀ j h r, J j h = some r → J' j h = some r) {i : Nat} {st : St} {r : R} (h : jmp c J fnId i st = some r) : jmp c J' fnId i st = some r := by
  have _ := hcfg
  unfold jmp at h ⊢
  split at h
  · exact hJ _ _ _ h
  · simp at h
omit hcfg in
theorem seqK_mono {f f' : St → Option R} {k k' : Exit → St → Option R} (hf : ∀ st r, f st = some r → f' st = some r) (hk : ∀ x st r, k x st = some r → k' x st = some r) : ∀ x st r, seqK f k x st = some r → seqK f' k' x st = some r := by
  intro x st r h
  cases x with
  | normal => exact hf _ _ h
  | _ => exact hk _ _ _ h
omit hcfg in
theorem blkK_mono {id : Nat} {k k' : Exit → St → Option R} (hk : ∀ x st r, k x st = some r → k' x st = some r) : ∀ x st r, blkK id k x st = some r → blkK id k' x st = some r := by
  intro x st r h
  cases x with
  | exit id' =>
    simp only [blkK] at h ⊢
    split at h
    · rename_i e; rw [if_pos e]; exact hk _ _ _ h
    · rename_i e; rw [if_neg e]; exact hk _ _ _ h
  | _ => exact hk _ _ _ h
theorem codeJ_mono {J J' : Nat → St → Option R} (hJ : ∀ j h r, J j h = some r → J' j h = some r) : ∀ {code : Code} {i : Nat} {st : St} {k k' : Exit → St → Option R} {r : R}, (∀ x st r, k x st = some r → k' x st = some r) → codeJ std c sg (cvS c P sg) J fnId code i st k = some r → codeJ std c sg (cvS c P sg) J' fnId code i st k' = some r := by
  intro code
  induction code with
  | skip => intro i st k k' r hk h; exact hk _ _ _ h
  | exit id => intro i st k k' r hk h; exact hk _ _ _ h
  | ret => intro i st k k' r hk h; exact hk _ _ _ h
  | region id ops draw =>
    intro i st k k' r hk h
    cases draw with
    | false =>
      simp only [codeJ] at h ⊢
      exact opsJ_mono hcfg (hk _) h
    | true =>
      simp only [codeJ] at h ⊢
      split at h
      · exact opsJ_mono hcfg (hk _) h
      · simp at h
  | seq a b iha ihb =>
    intro i st k k' r hk h
    simp only [codeJ] at h ⊢
    exact iha (seqK_mono (fun st r hx => ihb hk hx) hk) h
  | cond v a b iha ihb =>
    intro i st k k' r hk h
    simp only [codeJ, condK] at h ⊢
    split at h
    · split at h
      · rcases br_cases h with ⟨rfl, h1⟩ | ⟨rfl, h1⟩
        · exact iha hk h1
        · exact ihb hk h1
      · simp at h
    · split at h
      · rcases br_cases h with ⟨rfl, h1⟩ | ⟨rfl, h1⟩
        · exact iha hk h1
        · exact ihb hk h1
      · simp at h
  | block id a iha =>
    intro i st k k' r hk h
    simp only [codeJ] at h ⊢
    exact iha (blkK_mono hk) h
  | loop a iha => intro i st k k' r hk h; exact jmp_mono hcfg hJ h
  | _ => intro i st k k' r hk h; simp [codeJ] at h
end
section
variable {R : Type} {pr : Prims} {c : Cfg} {sg : Sg} {cv : Cv R} {J : Nat → St → Option R} {fnId : FuncId}
theorem treeJ_ids : ∀ {code : Code} {i : Nat} {k : Exit → St → Option R} {j : Nat} {t : St → Option R}, treeJ pr c sg cv J fnId code i k j = some t → j ∈ idsOf code i := by
  intro code
  induction code with
  | seq a b iha ihb =>
    intro i k j t h
    simp only [treeJ] at h
    rw [idsOf, List.mem_append]
    split at h
    · rename_i t' ht
      exact .inl (iha ht)
    · exact .inr (ihb h)
  | cond v a b iha ihb =>
    intro i k j t h
    simp only [treeJ] at h
    rw [idsOf, List.mem_append]
    split at h
    · rename_i t' ht
      exact .inl (iha ht)
    · exact .inr (ihb h)
  | block id a iha => intro i k j t h; simp only [treeJ] at h; rw [idsOf]; exact iha h
  | loop a iha =>
    intro i k j t h
    simp only [treeJ] at h
    rw [idsOf, List.mem_cons]
    split at h
    · rename_i hij; exact .inl hij.symm
    · exact .inr (iha h)
  | _ => intro i k j t h; simp [treeJ] at h
end
section
variable {R : Type} {pr : Prims} {c : Cfg} {sg : Sg} {cv : Cv R} {J J' : Nat → St → Option R} {fnId : FuncId}
theorem treeJ_none : ∀ {code : Code} {i : Nat} {k k' : Exit → St → Option R} {j : Nat}, treeJ pr c sg cv J fnId code i k j = none → treeJ pr c sg cv J' fnId code i k' j = none := by
  intro code
  induction code with
  | seq a b iha ihb =>
    intro i k k' j h
    simp only [treeJ] at h ⊢
    split at h
    · simp at h
    · rename_i h1
      rw [iha h1]
      exact ihb h
  | cond v a b iha ihb =>
    intro i k k' j h
    simp only [treeJ] at h ⊢
    split at h
    · simp at h
    · rename_i h1
      rw [iha h1]
      exact ihb h
  | block id a iha => intro i k k' j h; simp only [treeJ] at h ⊢; exact iha h
  | loop a iha =>
    intro i k k' j h
    simp only [treeJ] at h ⊢
    split at h
    · simp at h
    · rename_i e
      rw [if_neg e]
      exact iha h
  | _ => intro i k k' j h; rfl
end
section
variable {P : Program} {c : Cfg} (hcfg : CfgOk c P) {sg : Sg} {f : FuncId} {fn : Func} {sk : List D} {body : Code} (hbody : fn.body = some body)
include hcfg
theorem treeJ_mono {J J' : Nat → St → Option Rz} (hJ : ∀ j h r, J j h = some r → J' j h = some r) : ∀ {code : Code} {i : Nat} {k k' : Exit → St → Option Rz} {j : Nat} {t : St → Option Rz}, (∀ x st r, k x st = some r → k' x st = some r) → treeJ std c sg (cvS c P sg) J f code i k j = some t → ∃ t', treeJ std c sg (cvS c P sg) J' f code i k' j = some t' ∧ ∀ h r, t h = some r → t' h = some r := by
  intro code
  induction code with
  | seq a b iha ihb =>
    intro i k k' j t hk h
    simp only [treeJ] at h ⊢
    have hkk := seqK_mono (f := fun st' => codeJ std c sg (cvS c P sg) J f b i st' k) (f' := fun st' => codeJ std c sg (cvS c P sg) J' f b i st' k') (fun st r hx => codeJ_mono hcfg hJ hk hx) hk
    split at h
    · rename_i t1 h1
      obtain ⟨t', h2, h3⟩ := iha hkk h1
      rw [h2]
      simp only [Option.some.injEq] at h
      subst h
      exact ⟨t', rfl, h3⟩
    · rename_i h1
      rw [treeJ_none h1]
      exact ihb hk h
  | cond v a b iha ihb =>
    intro i k k' j t hk h
    simp only [treeJ] at h ⊢
    split at h
    · rename_i t1 h1
      obtain ⟨t', h2, h3⟩ := iha hk h1
      rw [h2]
      simp only [Option.some.injEq] at h
      subst h
      exact ⟨t', rfl, h3⟩
    · rename_i h1
      rw [treeJ_none h1]
      exact ihb hk h
  | block id a iha =>
    intro i k k' j t hk h
    simp only [treeJ] at h ⊢
    exact iha (blkK_mono hk) h
  | loop a iha =>
    intro i k k' j t hk h
    simp only [treeJ] at h ⊢
    have hkk := seqK_mono (f := jmp c J f i) (f' := jmp c J' f i) (fun st r hx => jmp_mono hcfg hJ hx) hk
    split at h
    · rename_i e
      simp only [Option.some.injEq] at h
      subst h
      rw [if_pos e]
      exact ⟨_, rfl, fun hh r hr => codeJ_mono hcfg hJ hkk hr⟩
    · rename_i e
      rw [if_neg e]
      exact iha hkk h
  | _ => intro i k k' j t hk h; simp [treeJ] at h
theorem Jn_mono : ∀ {n m : Nat}, n ≤ m → ∀ j h r, Jn c P sg f fn sk n j h = some r → Jn c P sg f fn sk m j h = some r
  | 0, _, _, j, h, r, hh => by simp [Jn] at hh
  | n + 1, 0, hle, _, _, _, _ => absurd hle (by omega)
  | n + 1, m + 1, hle, j, h, r, hh => by
    have ih : ∀ j h r, Jn c P sg f fn sk n j h = some r → Jn c P sg f fn sk m j h = some r := Jn_mono (by omega)
    simp only [Jn, headJ] at hh ⊢
    split at hh
    case h_2 => simp at hh
    rename_i body hb
    split at hh
    case h_2 => simp at hh
    rename_i t ht
    obtain ⟨t', h1, h2⟩ := treeJ_mono hcfg ih (fun _ _ _ h => h) ht
    rw [h1]
    exact h2 _ _ hh
include hbody
theorem codeJ_ok : ∀ {code : Code} {n i : Nat} {st : St} {k : (Nat → St → Option Rz) → Exit → St → Option Rz} {r : Rz},
    (∀ J J' : Nat → St → Option Rz, (∀ j h r, J j h = some r → J' j h = some r) → ∀ x st r, k J x st = some r → k J' x st = some r) →
    (idsOf code i).Nodup →
    (∀ m j t, treeJ std c sg (cvS c P sg) (Jn c P sg f fn sk m) f code i (k (Jn c P sg f fn sk m)) j = some t → treeJ std c sg (cvS c P sg) (Jn c P sg f fn sk m) f body 0 (finK c fn sk) j = some t) →
    codeJ std c sg (cvS c P sg) (Jn c P sg f fn sk n) f code i st (k (Jn c P sg f fn sk n)) = some r → ∃ x st', CodeC c P f code i st (x, st') ∧ k (Jn c P sg f fn sk n) x st' = some r := by
  intro code
  have tr : ∀ {ops : Array Oper} {l : List Nat} {st st' : St}, opsI c (callV c P) ciN f ops l st = some st' → Ev fun k => opsI c (runF c P k).1 (runF c P k).2 f ops l st = some st' :=
    fun h => opsI_ev (fun f ds r hh => callV_ev hh) (fun f ds n st r hh => by simp [ciN] at hh) h
  induction code with
  | skip => intro n i st k r _ _ _ h; exact ⟨_, _, Ev.of fun _ => rfl, h⟩
  | exit id => intro n i st k r _ _ _ h; exact ⟨_, _, Ev.of fun _ => rfl, h⟩
  | ret => intro n i st k r _ _ _ h; exact ⟨_, _, Ev.of fun _ => rfl, h⟩
  | region id ops draw =>
    intro n i st k r _ _ _ h
    cases draw with
    | false =>
      simp only [codeJ] at h
      obtain ⟨st', h1, h2, _⟩ := opsJ_ok hcfg h
      rw [opsD_range] at h1
      refine ⟨.normal, st', (tr h1).mono fun n hn => ?_, h2⟩
      simp only [codeD, opsD_range, hn]
    | true =>
      simp only [codeJ] at h
      split at h
      case h_2 => simp at h
      rename_i l hl
      obtain ⟨st', h1, h2, _⟩ := opsJ_ok hcfg h
      rw [opsOf_I] at h1
      refine ⟨.normal, st', (tr h1).mono fun n hn => ?_, h2⟩
      simp only [codeD, hl, hn]
  | seq a b iha ihb =>
    intro n i st k r hk hn hc h
    simp only [codeJ] at h
    rw [idsOf, List.nodup_append] at hn
    obtain ⟨x, st1, h1, h2⟩ := iha (k := fun J => seqK (fun st' => codeJ std c sg (cvS c P sg) J f b i st' (k J)) (k J)) (fun J J' hJ => seqK_mono (fun st r hx => codeJ_mono hcfg hJ (hk J J' hJ) hx) (hk J J' hJ)) hn.1 (fun m j t ht => hc m j t (by simp only [treeJ]; rw [ht])) h
    cases x with
    | normal =>
      simp only [seqK] at h2
      obtain ⟨y, st2, h3, h4⟩ := ihb hk hn.2.1 (fun m j t ht => hc m j t (by
        simp only [treeJ]
        split
        · rename_i t' ht'
          exact absurd rfl (hn.2.2 j (treeJ_ids ht') j (treeJ_ids ht))
        · exact ht)) h2
      exact ⟨y, st2, (Ev.and h1 h3).mono fun n hn => by simp only [codeD]; rw [hn.1]; exact hn.2, h4⟩
    | _ => exact ⟨_, st1, Ev.mono h1 fun n hn => by simp only [codeD]; rw [hn], h2⟩
  | cond v a b iha ihb =>
    intro n i st k r hk hn hc h
    simp only [codeJ, condK] at h
    rw [idsOf, List.nodup_append] at hn
    have fin : ∀ {t : Bool}, evD c st 0 v = .bool t → (t = true → codeJ std c sg (cvS c P sg) (Jn c P sg f fn sk n) f a i st (k (Jn c P sg f fn sk n)) = some r) → (t = false → codeJ std c sg (cvS c P sg) (Jn c P sg f fn sk n) f b i st (k (Jn c P sg f fn sk n)) = some r) → ∃ x st', CodeC c P f (.cond v a b) i st (x, st') ∧ k (Jn c P sg f fn sk n) x st' = some r := by
      intro t ht h1 h2
      cases t with
      | true =>
        obtain ⟨x, st', h3, h4⟩ := iha hk hn.1 (fun m j t ht => hc m j t (by simp only [treeJ]; rw [ht])) (h1 rfl)
        exact ⟨x, st', Ev.mono h3 fun n hn => by simp only [codeD, ht, if_true]; exact hn, h4⟩
      | false =>
        obtain ⟨x, st', h3, h4⟩ := ihb hk hn.2.1 (fun m j t ht => hc m j t (by
          simp only [treeJ]
          split
          · rename_i t' ht'
            exact absurd rfl (hn.2.2 j (treeJ_ids ht') j (treeJ_ids ht))
          · exact ht)) (h2 rfl)
        exact ⟨x, st', Ev.mono h3 fun n hn => by simp only [codeD, ht, Bool.false_eq_true, if_false]; exact hn, h4⟩
    split at h
    · rename_i t
      split at h
      · rename_i b' hb
        refine fin (t := b') hb (fun e => ?_) (fun e => ?_)
        · subst e
          rcases br_cases h with ⟨_, h1⟩ | ⟨e2, _⟩
          · rw [lit_eq hb] at h1; exact h1
          · simp at e2
        · subst e
          rcases br_cases h with ⟨e2, _⟩ | ⟨_, h1⟩
          · simp at e2
          · rw [lit_eq hb] at h1; exact h1
      · simp at h
    · split at h
      · rename_i hv
        refine fin hv (fun e => ?_) (fun e => ?_)
        · subst e; exact h
        · subst e; exact h
      · simp at h
  | block id a iha =>
    intro n i st k r hk hn hc h
    simp only [codeJ] at h
    obtain ⟨x, st1, h1, h2⟩ := iha (k := fun J => blkK id (k J)) (fun J J' hJ => blkK_mono (hk J J' hJ)) hn (fun m j t ht => hc m j t (by simp only [treeJ]; exact ht)) h
    cases x with
    | exit id' =>
      simp only [blkK] at h2
      by_cases he : id' = id
      · rw [if_pos he] at h2
        exact ⟨.normal, st1, Ev.mono h1 fun n hn => by simp only [codeD]; rw [hn]; simp [he], h2⟩
      · rw [if_neg he] at h2
        exact ⟨.exit id', st1, Ev.mono h1 fun n hn => by simp only [codeD]; rw [hn]; simp [he], h2⟩
    | _ => exact ⟨_, st1, Ev.mono h1 fun n hn => by simp only [codeD]; rw [hn], h2⟩
  | loop a iha =>
    intro n i st k r hk hn hc h
    rw [idsOf, List.nodup_cons] at hn
    have key : ∀ (n : Nat) (st : St), jmp c (Jn c P sg f fn sk n) f i st = some r → ∃ x st', LoopC c P f a i st (x, st') ∧ k (Jn c P sg f fn sk n) x st' = some r := by
      intro n
      induction n with
      | zero =>
        intro st h
        unfold jmp at h
        split at h
        · simp [Jn] at h
        · simp at h
      | succ m ih =>
        intro st h
        unfold jmp at h
        split at h
        case h_2 => simp at h
        rename_i hd hnm
        simp only [Jn, headJ] at h
        rw [hbody] at h
        simp only at h
        have ht := hc m i _ (by simp only [treeJ, if_true]; rfl)
        rw [ht] at h
        simp only at h
        obtain ⟨x, st1, h1, h2⟩ := iha (k := fun J => seqK (jmp c J f i) (k J)) (fun J J' hJ => seqK_mono (fun st r hx => jmp_mono hcfg hJ hx) (hk J J' hJ)) hn.2 (fun m j t ht => hc m j t (by
              simp only [treeJ]
              have hne : i ≠ j := fun e => hn.1 (by rw [e]; rw [e] at ht; exact treeJ_ids ht)
              rw [if_neg hne]
              exact ht)) h
        cases x with
        | normal =>
          obtain ⟨y, st2, ⟨q, h3⟩, h4⟩ := ih st1 h2
          refine ⟨y, st2, ⟨q + 1, (Ev.and h1 h3).mono fun k hk m hm => ?_⟩, hk _ _ (Jn_mono hcfg (Nat.le_succ m)) _ _ _ h4⟩
          obtain ⟨m, rfl⟩ : ∃ m', m = m' + 1 := ⟨m - 1, by omega⟩
          simp only [iterD, hnm, hk.1]
          exact hk.2 m (by omega)
        | _ =>
          refine ⟨_, st1, ⟨1, Ev.mono h1 fun k hk m hm => ?_⟩, hk _ _ (Jn_mono hcfg (Nat.le_succ m)) _ _ _ h2⟩
          obtain ⟨m, rfl⟩ : ∃ m', m = m' + 1 := ⟨m - 1, by omega⟩
          simp only [iterD, hnm, hk]
    simp only [codeJ] at h
    obtain ⟨x, st', h1, h2⟩ := key n st h
    exact ⟨x, st', h1.code, h2⟩
  | _ => intro n i st k r _ _ _ h; simp [codeJ] at h
end

/-- A function that is told of. -/
structure Told (c : Cfg) (P : Program) (f : FuncId) (fn : Func) : Prop where
  ext : c.ext f = none
  func : P.funcs[f]? = some fn
  ids : (match fn.body with | some b => decide (idsOf b 0).Nodup | none => false) = true
section
variable {P : Program} {c : Cfg} (hcfg : CfgOk c P) {sg : Sg} {f : FuncId} {fn : Func} {sk : List D}
include hcfg
theorem W.go {j j' : Nat} {h h' : St} {r : Rz} (hw : W c P sg f fn sk j' h' r) (ht : ∀ J : Nat → St → Option Rz, J j' h' = some r → headJ std c sg (cvS c P sg) J f fn sk j h = some r) : W c P sg f fn sk j h r := by
  have _ := hcfg
  obtain ⟨n, hn⟩ := hw
  exact ⟨n + 1, ht _ hn⟩
theorem W.fin {j : Nat} {h : St} {r : Rz} (ht : ∀ J : Nat → St → Option Rz, headJ std c sg (cvS c P sg) J f fn sk j h = some r) : W c P sg f fn sk j h r := by
  have _ := hcfg
  exact ⟨1, ht _⟩
theorem comes_run (ok : Told c P f fn) {args : List D} {r : Rz} {n : Nat} (h : runJ std c sg (cvS c P sg) (Jn c P sg f fn (args.map skD) n) f fn args = some r) : Comes c P f args r := by
  unfold runJ at h
  split at h
  case h_2 => simp at h
  rename_i body hb
  have hids := ok.ids
  rw [hb] at hids
  obtain ⟨x, st, h1, h2⟩ := codeJ_ok hcfg hb (k := fun _ => finK c fn (args.map skD)) (fun J J' _ x st r h => h) (of_decide_eq_true hids) (fun m j t ht => ht) h
  obtain ⟨k0, h1⟩ := h1
  refine ⟨k0 + 1, fun k hk => ?_⟩
  obtain ⟨k, rfl⟩ : ∃ m, k = m + 1 := ⟨k - 1, by omega⟩
  show callS c P (runF c P k).1 (runF c P k).2 k f args = some r
  unfold callS
  rw [ok.ext, ok.func]
  simp only
  rw [hb]
  simp only
  rw [h1 k (by omega)]
  simp only
  rw [finK_sk] at h2
  unfold finK at h2
  obtain ⟨h3, h4⟩ := exit_size h2
  rw [if_pos h3]
  exact h4
theorem Comes.go (ok : Told c P f fn) {args : List D} {j : Nat} {h : St} {r : Rz} (hw : W c P sg f fn (args.map skD) j h r) (ht : ∀ J : Nat → St → Option Rz, J j h = some r → runJ std c sg (cvS c P sg) J f fn args = some r) : Comes c P f args r := by
  obtain ⟨n, hn⟩ := hw
  exact comes_run hcfg ok (ht _ hn)
theorem Comes.fin (ok : Told c P f fn) {args : List D} {r : Rz} (ht : ∀ J : Nat → St → Option Rz, runJ std c sg (cvS c P sg) J f fn args = some r) : Comes c P f args r :=
  comes_run hcfg ok (sg := sg) (n := 0) (ht _)
end
end Go.Proofs.Ytkejckoefjonjaa

namespace Go.Proofs.Ytkejckoefjonjaa
open Go.Shelf

def tyTab : List (Nat × TI) := [
  (2, ⟨.int .i64, 1, 8, [.int .i64 0]⟩),
  (3, ⟨.int .i64, 1, 8, [.int .i64 0]⟩),
  (4, ⟨.bool, 1, 1, [.bool false]⟩),
  (5, ⟨.int .u8, 1, 1, [.int .u8 0]⟩),
  (6, ⟨.int .u8, 1, 1, [.int .u8 0]⟩),
  (7, ⟨.struct [0, 1, 2, 3] [1, 1, 1, 1], 4, 24, [.int .i64 0, .int .i64 0, .bool false, .int .u8 0]⟩),
  (8, ⟨.struct [0, 1, 2, 3] [1, 1, 1, 1], 4, 24, [.int .i64 0, .int .i64 0, .bool false, .int .u8 0]⟩),
  (9, ⟨.str, 1, 16, [.str ⟨#[]⟩]⟩),
  (10, ⟨.str, 1, 16, [.str ⟨#[]⟩]⟩),
  (11, ⟨.str, 1, 16, [.str ⟨#[]⟩]⟩),
  (12, ⟨.int .u64, 1, 8, [.int .u64 0]⟩),
  (13, ⟨.struct [0, 1] [1, 1], 2, 24, [.str ⟨#[]⟩, .int .u64 0]⟩),
  (14, ⟨.struct [0, 1] [1, 1], 2, 24, [.str ⟨#[]⟩, .int .u64 0]⟩),
  (15, ⟨.ptr 168, 1, 8, [.undef]⟩),
  (16, ⟨.ptr 171, 1, 8, [.undef]⟩),
  (17, ⟨.ptr 179, 1, 8, [.undef]⟩),
  (18, ⟨.struct [0] [1], 1, 8, [.undef]⟩),
  (19, ⟨.struct [0] [1], 1, 8, [.undef]⟩),
  (21, ⟨.int .i32, 1, 4, [.int .i32 0]⟩),
  (22, ⟨.slice 3, 1, 24, [.nil 1]⟩),
  (23, ⟨.struct [0, 1, 2, 3, 4] [1, 1, 1, 1, 1], 5, 56, [.int .i64 0, .int .i64 0, .int .i64 0, .int .i64 0, .nil 1]⟩),
  (24, ⟨.struct [0, 1, 2, 3, 4] [1, 1, 1, 1, 1], 5, 56, [.int .i64 0, .int .i64 0, .int .i64 0, .int .i64 0, .nil 1]⟩),
  (27, ⟨.struct [0, 1, 2, 3, 4] [1, 1, 1, 1, 1], 5, 56, [.int .i64 0, .int .i64 0, .int .i64 0, .int .i64 0, .nil 1]⟩),
  (31, ⟨.slice 22, 1, 24, [.nil 1]⟩),
  (32, ⟨.struct [0, 1, 2, 3, 4, 5] [1, 1, 1, 1, 1, 1], 6, 64, [.nil 1, .nil 1, .bool false, .bool false, .bool false, .int .i64 0]⟩),
  (33, ⟨.struct [0, 1, 2, 3, 4, 5] [1, 1, 1, 1, 1, 1], 6, 64, [.nil 1, .nil 1, .bool false, .bool false, .bool false, .int .i64 0]⟩),
  (34, ⟨.slice 5, 1, 24, [.nil 1]⟩),
  (35, ⟨.struct [0, 1] [1, 1], 2, 48, [.nil 1, .nil 1]⟩),
  (36, ⟨.struct [0, 1] [1, 1], 2, 48, [.nil 1, .nil 1]⟩),
  (37, ⟨.slice 4, 1, 24, [.nil 1]⟩),
  (38, ⟨.struct [0, 1, 2, 3, 4, 10, 12, 13, 14, 15] [1, 1, 1, 1, 6, 2, 1, 1, 1, 1], 16, 248, [.int .i64 0, .bool false, .bool false, .nil 1, .nil 1, .nil 1, .bool false, .bool false, .bool false, .int .i64 0, .nil 1, .nil 1, .nil 1, .nil 1, .nil 1, .nil 1]⟩),
  (39, ⟨.struct [0, 1, 2, 3, 4, 10, 12, 13, 14, 15] [1, 1, 1, 1, 6, 2, 1, 1, 1, 1], 16, 248, [.int .i64 0, .bool false, .bool false, .nil 1, .nil 1, .nil 1, .bool false, .bool false, .bool false, .int .i64 0, .nil 1, .nil 1, .nil 1, .nil 1, .nil 1, .nil 1]⟩),
  (42, ⟨.struct [0, 1, 2, 3, 4, 5] [1, 1, 1, 1, 1, 1], 6, 64, [.nil 1, .nil 1, .bool false, .bool false, .bool false, .int .i64 0]⟩),
  (43, ⟨.struct [0, 1] [1, 1], 2, 48, [.nil 1, .nil 1]⟩),
  (44, ⟨.struct [0, 1, 2, 3, 4, 10, 12, 13, 14, 15] [1, 1, 1, 1, 6, 2, 1, 1, 1, 1], 16, 248, [.int .i64 0, .bool false, .bool false, .nil 1, .nil 1, .nil 1, .bool false, .bool false, .bool false, .int .i64 0, .nil 1, .nil 1, .nil 1, .nil 1, .nil 1, .nil 1]⟩),
  (45, ⟨.struct [0, 1, 2, 3, 4, 10, 12, 13, 14, 15] [1, 1, 1, 1, 6, 2, 1, 1, 1, 1], 16, 248, [.int .i64 0, .bool false, .bool false, .nil 1, .nil 1, .nil 1, .bool false, .bool false, .bool false, .int .i64 0, .nil 1, .nil 1, .nil 1, .nil 1, .nil 1, .nil 1]⟩),
  (49, ⟨.slice 39, 1, 24, [.nil 16]⟩),
  (50, ⟨.slice 113, 1, 24, [.nil 3]⟩),
  (51, ⟨.slice 117, 1, 24, [.nil 2]⟩),
  (52, ⟨.struct [0, 1, 2, 3, 4] [1, 1, 1, 1, 1], 5, 104, [.nil 16, .nil 3, .nil 2, .nil 1, .int .i64 0]⟩),
  (53, ⟨.struct [0, 1, 2, 3, 4] [1, 1, 1, 1, 1], 5, 104, [.nil 16, .nil 3, .nil 2, .nil 1, .int .i64 0]⟩),
  (56, ⟨.slice 45, 1, 24, [.nil 16]⟩),
  (57, ⟨.slice 114, 1, 24, [.nil 3]⟩),
  (58, ⟨.slice 93, 1, 24, [.nil 2]⟩),
  (59, ⟨.struct [0, 1, 2, 3, 4] [1, 1, 1, 1, 1], 5, 104, [.nil 16, .nil 3, .nil 2, .nil 1, .int .i64 0]⟩),
  (60, ⟨.struct [0, 1, 2, 3, 4] [1, 1, 1, 1, 1], 5, 104, [.nil 16, .nil 3, .nil 2, .nil 1, .int .i64 0]⟩),
  (73, ⟨.slice 9, 1, 24, [.nil 1]⟩),
  (92, ⟨.struct [0, 1] [1, 1], 2, 16, [.int .i64 0, .int .i64 0]⟩),
  (93, ⟨.struct [0, 1] [1, 1], 2, 16, [.int .i64 0, .int .i64 0]⟩),
  (112, ⟨.struct [0, 1, 2] [1, 1, 1], 3, 40, [.int .i64 0, .int .i64 0, .nil 1]⟩),
  (113, ⟨.struct [0, 1, 2] [1, 1, 1], 3, 40, [.int .i64 0, .int .i64 0, .nil 1]⟩),
  (114, ⟨.struct [0, 1, 2] [1, 1, 1], 3, 40, [.int .i64 0, .int .i64 0, .nil 1]⟩),
  (117, ⟨.struct [0, 1] [1, 1], 2, 16, [.int .i64 0, .int .i64 0]⟩),
  (126, ⟨.ptr 128, 1, 8, [.undef]⟩),
  (127, ⟨.struct [0, 1] [1, 1], 2, 32, [.undef, .nil 1]⟩),
  (128, ⟨.struct [0, 1] [1, 1], 2, 32, [.undef, .nil 1]⟩),
  (140, ⟨.ptr 5, 1, 8, [.undef]⟩),
  (142, ⟨.int .u64, 1, 8, [.int .u64 0]⟩),
  (151, ⟨.ptr 153, 1, 8, [.undef]⟩),
  (152, ⟨.struct [0, 1, 2] [1, 1, 1], 3, 40, [.nil 1, .int .i64 0, .bool false]⟩),
  (153, ⟨.struct [0, 1, 2] [1, 1, 1], 3, 40, [.nil 1, .int .i64 0, .bool false]⟩),
  (160, ⟨.ptr 162, 1, 8, [.undef]⟩),
  (161, ⟨.struct [0, 1, 2] [1, 1, 1], 3, 40, [.nil 1, .int .i64 0, .bool false]⟩),
  (162, ⟨.struct [0, 1, 2] [1, 1, 1], 3, 40, [.nil 1, .int .i64 0, .bool false]⟩),
  (167, ⟨.struct [0, 1, 2, 3] [1, 1, 1, 1], 4, 40, [.undef, .undef, .undef, .str ⟨#[]⟩]⟩),
  (168, ⟨.struct [0, 1, 2, 3] [1, 1, 1, 1], 4, 40, [.undef, .undef, .undef, .str ⟨#[]⟩]⟩),
  (172, ⟨.int .u32, 1, 4, [.int .u32 0]⟩),
  (173, ⟨.int .u8, 1, 1, [.int .u8 0]⟩),
  (174, ⟨.int .u8, 1, 1, [.int .u8 0]⟩),
  (176, ⟨.int .i32, 1, 4, [.int .i32 0]⟩),
  (177, ⟨.int .i32, 1, 4, [.int .i32 0]⟩),
  (178, ⟨.struct [0, 1, 2, 3, 4, 5, 6, 7, 8, 9, 10] [1, 1, 1, 1, 1, 1, 1, 1, 1, 1, 1], 11, 48, [.int .u64 0, .int .u64 0, .int .u32 0, .int .u8 0, .int .u8 0, .int .u8 0, .int .u8 0, .undef, .undef, .int .i32 0, .int .i32 0]⟩),
  (179, ⟨.struct [0, 1, 2, 3, 4, 5, 6, 7, 8, 9, 10] [1, 1, 1, 1, 1, 1, 1, 1, 1, 1, 1], 11, 48, [.int .u64 0, .int .u64 0, .int .u32 0, .int .u8 0, .int .u8 0, .int .u8 0, .int .u8 0, .undef, .undef, .int .i32 0, .int .i32 0]⟩)]
def ownTab : List (Nat × List Bool) := [(25, [true, false]), (26, [true, false]), (59, [true]), (63, [true, false]), (64, [true, false]), (65, [true, false]), (83, [true, false]), (84, [true, false]), (85, [true, false]), (99, [true, false]), (100, [true, false]), (101, [true]), (116, [true]), (117, [true, false]), (128, [true]), (129, [true]), (139, [true]), (140, [true]), (156, [true]), (157, [true]), (158, [true]), (159, [true]), (160, [true]), (163, [true])]
def inlTab : List Nat := []
def stealTab : List (Nat × Nat) := []
def nmTab : List (Nat × Nat × List Nat × List Nat) := [(15, (1, ([1, 3, 4], [1, 60]))), (17, (1, ([3, 51, 52, 53], [65]))), (20, (0, ([1, 2, 5], [2, 37, 38]))), (22, (0, ([1, 2, 5], [2, 35, 36]))), (23, (0, ([0, 1, 5], [26, 27]))), (26, (0, ([0, 1, 5], [19, 20]))), (27, (0, ([0, 1, 5], [21, 22]))), (28, (0, ([1, 2, 5, 6], [2, 39, 40]))), (29, (0, ([0, 3, 4], [22]))), (30, (0, ([2, 5, 9, 10, 11], [2, 32, 33]))), (31, (0, ([1, 3, 4], [1, 41]))), (32, (0, ([1, 3, 7, 8, 9], [1, 36]))), (37, (0, ([0, 3, 4], [31]))), (44, (0, ([0, 1, 5], [27, 28]))), (47, (0, ([0, 3, 4], [22]))), (48, (0, ([0, 3, 4], [23]))), (51, (0, ([0, 1, 5], [26, 27]))), (52, (0, ([0, 1, 5], [27, 28]))), (53, (0, ([0, 1, 5], [27, 28]))), (54, (0, ([0, 1, 5], [27, 28]))), (56, (0, ([0, 3, 4], [23]))), (57, (0, ([0, 3, 4], [23]))), (58, (0, ([0, 3, 4], [23]))), (59, (0, ([0, 2, 3], [28]))), (60, (0, ([0, 1, 5], [27, 28]))), (61, (0, ([0, 1, 5], [27, 28]))), (62, (0, ([0, 1, 5], [27, 28]))), (63, (0, ([0, 1, 5], [143, 144]))), (64, (0, ([0, 1, 5], [34, 35]))), (65, (0, ([0, 1, 5], [27, 28]))), (70, (0, ([1, 3], [1, 99]))), (72, (0, ([1, 85], [1, 164]))), (72, (2, ([1, 139, 140, 141], [1, 164]))), (74, (1, ([0, 1, 5, 39, 40, 41], [75, 76]))), (74, (3, ([1, 8, 63, 64, 65], [8, 75, 76]))), (76, (0, ([0, 3, 4], [22]))), (77, (0, ([0, 1, 5], [26, 27]))), (83, (0, ([0, 1, 5], [19, 20]))), (84, (0, ([0, 1, 5], [20, 21]))), (85, (0, ([0, 1, 5], [21, 22]))), (87, (0, ([0, 3], [19]))), (88, (0, ([1, 3], [1, 47]))), (89, (0, ([1, 3], [1, 81]))), (91, (0, ([2, 3, 5], [2, 3, 68, 69]))), (102, (0, ([0, 3], [32]))), (103, (0, ([0, 3], [29]))), (106, (0, ([0, 1, 5], [32, 33]))), (109, (0, ([0, 5, 6, 7], [26]))), (112, (0, ([0, 5, 6, 7], [29]))), (114, (0, ([0, 1, 12, 13], [26, 27]))), (115, (0, ([1, 2, 15, 16, 17], [32, 33, 34]))), (118, (0, ([0, 1, 5], [18, 19]))), (119, (0, ([0, 2, 4, 5, 6], [2, 11, 5, 65]))), (120, (0, ([1, 6], [29, 30]))), (121, (0, ([0, 1, 7, 8], [19, 20]))), (123, (0, ([0, 1, 7, 8], [19, 20]))), (128, (0, ([0, 3, 4, 5], [28]))), (130, (0, ([1, 3, 4], [1, 85]))), (130, (2, ([1, 3, 5], [1, 85]))), (130, (4, ([1, 3, 5, 6], [1, 85]))), (132, (0, ([0, 1, 7, 8], [19, 20]))), (133, (0, ([0, 2, 4, 5, 16], [2, 11, 5, 64]))), (136, (0, ([0, 1, 7, 8], [55, 56]))), (137, (0, ([0, 3], [25]))), (139, (0, ([0, 3, 4, 5], [28]))), (141, (0, ([1, 3, 13, 14, 15], [1, 41]))), (143, (0, ([0, 1, 7, 8, 9], [57, 58]))), (145, (0, ([3, 7, 8, 9], [19]))), (147, (0, ([0, 3], [27])))]
def sgTab : List (Nat × RS × List RS) := [
  (0, (.tup [], [])),
  (1, (.tup [], [])),
  (2, (.tup [], [])),
  (3, (.bool, [.undef])),
  (4, (.bool, [.undef])),
  (5, (.bool, [.undef, .undef])),
  (6, (.bool, [.undef, .undef])),
  (7, (.bool, [.undef])),
  (8, (.bool, [.undef])),
  (9, (.int .i64, [.undef, .undef])),
  (10, (.str, [.undef])),
  (11, (.agg [.int .i64, .int .i64, .int .i64, .int .i64, .sl 1], [.undef])),
  (12, (.str, [.undef])),
  (13, (.bool, [.undef, .undef])),
  (14, (.int .i64, [.undef, .undef])),
  (15, (.str, [.undef])),
  (16, (.agg [.int .i64, .bool, .bool, .sl 1, .sl 1, .sl 1, .bool, .bool, .bool, .int .i64, .sl 1, .sl 1, .sl 1, .sl 1, .sl 1, .sl 1], [.undef])),
  (17, (.str, [.undef])),
  (18, (.bool, [.undef, .undef])),
  (19, (.int .i64, [.undef, .undef])),
  (20, (.sl 1, [.undef, .undef])),
  (21, (.agg [.sl 16, .sl 3, .sl 2, .sl 1, .int .i64], [.undef])),
  (22, (.sl 1, [.undef, .undef])),
  (23, (.bool, [.undef, .undef])),
  (24, (.bool, [.undef, .undef])),
  (25, (.int .i64, [.agg [.sl 16, .sl 3, .sl 2, .sl 1, .int .i64], .undef])),
  (26, (.int .i64, [.sl 1, .undef])),
  (27, (.int .i64, [.undef, .undef])),
  (28, (.sl 1, [.undef, .undef])),
  (29, (.sl 1, [.undef])),
  (30, (.sl 1, [.undef, .undef])),
  (31, (.str, [.undef])),
  (32, (.str, [.undef])),
  (33, (.bool, [.undef])),
  (34, (.bool, [.undef])),
  (35, (.int .i64, [.undef, .undef])),
  (36, (.bool, [.undef, .undef, .undef])),
  (37, (.str, [.undef])),
  (38, (.bool, [.undef, .undef, .undef])),
  (39, (.str, [.undef])),
  (40, (.str, [.undef])),
  (41, (.int .i64, [.undef, .undef])),
  (42, (.int .i64, [.undef, .undef])),
  (43, (.int .i64, [.undef, .undef])),
  (44, (.int .i64, [.undef, .undef])),
  (45, (.agg [.sl 1, .sl 1, .bool, .bool, .bool, .int .i64], [.undef])),
  (46, (.agg [.sl 1, .sl 1], [.undef])),
  (47, (.sl 1, [.undef])),
  (48, (.sl 1, [.undef])),
  (49, (.bool, [.undef, .undef])),
  (50, (.bool, [.undef, .undef])),
  (51, (.bool, [.undef, .undef])),
  (52, (.bool, [.undef, .undef])),
  (53, (.int .i64, [.undef, .undef])),
  (54, (.int .i64, [.undef, .undef])),
  (55, (.int .i64, [.undef, .undef])),
  (56, (.sl 16, [.undef])),
  (57, (.sl 3, [.undef])),
  (58, (.sl 2, [.undef])),
  (59, (.tup [], [.sl 1])),
  (60, (.bool, [.undef, .undef])),
  (61, (.bool, [.undef, .undef])),
  (62, (.bool, [.undef, .undef])),
  (63, (.int .i64, [.sl 16, .undef])),
  (64, (.int .i64, [.sl 3, .undef])),
  (65, (.int .i64, [.sl 2, .undef])),
  (66, (.sl 1, [])),
  (67, (.sl 1, [.undef, .undef, .undef])),
  (68, (.sl 1, [])),
  (69, (.sl 1, [.undef, .undef, .undef])),
  (70, (.bool, [.undef])),
  (71, (.int .i64, [.undef])),
  (72, (.bool, [.undef])),
  (73, (.int .i64, [.undef])),
  (74, (.str, [.undef, .undef])),
  (75, (.int .i64, [.undef, .undef])),
  (76, (.sl 1, [.undef])),
  (77, (.bool, [.undef, .undef])),
  (78, (.int .i64, [.undef, .undef])),
  (79, (.agg [.int .i64, .int .i64, .sl 1], [.undef])),
  (80, (.agg [.int .i64, .int .i64], [.undef])),
  (81, (.bool, [.undef, .undef])),
  (82, (.bool, [.undef, .undef])),
  (83, (.int .i64, [.sl 1, .undef])),
  (84, (.int .i64, [.sl 1, .undef])),
  (85, (.int .i64, [.sl 1, .undef])),
  (86, (.sl 1, [.undef])),
  (87, (.bool, [.undef])),
  (88, (.bool, [.undef])),
  (89, (.bool, [.undef])),
  (90, (.tup [.agg [.sl 1, .sl 1, .bool, .bool, .bool, .int .i64], .int .i64, .bool], [.undef])),
  (91, (.bool, [.undef, .undef])),
  (92, (.bool, [.undef])),
  (93, (.bool, [.undef])),
  (94, (.bool, [.undef])),
  (95, (.bool, [.undef])),
  (96, (.tup [.agg [.sl 1, .sl 1, .bool, .bool, .bool, .int .i64], .int .i64, .bool], [.undef])),
  (97, (.bool, [.undef, .undef])),
  (98, (.bool, [.undef])),
  (102, (.bool, [.undef])),
  (103, (.bool, [.undef])),
  (104, (.int .i64, [.undef])),
  (105, (.tup [.agg [.sl 1, .sl 1, .bool, .bool, .bool, .int .i64], .int .i64, .bool], [.undef])),
  (106, (.bool, [.undef, .undef])),
  (107, (.bool, [.undef, .undef])),
  (108, (.bool, [.undef])),
  (109, (.bool, [.undef])),
  (110, (.bool, [.undef, .undef])),
  (111, (.bool, [.undef])),
  (112, (.bool, [.undef])),
  (113, (.tup [.agg [.sl 1, .sl 1, .bool, .bool, .bool, .int .i64], .int .i64, .bool], [.undef])),
  (114, (.bool, [.undef, .undef])),
  (115, (.bool, [.undef, .undef, .undef])),
  (118, (.bool, [.undef, .undef])),
  (119, (.tup [.agg [.sl 1, .sl 1, .bool, .bool, .bool, .int .i64], .bool], [.undef])),
  (120, (.sl 1, [.undef, .undef])),
  (121, (.int .i64, [.undef, .undef])),
  (122, (.bool, [.undef, .undef])),
  (123, (.int .i64, [.undef, .undef])),
  (124, (.bool, [.undef])),
  (125, (.tup [.agg [.sl 1, .sl 1, .bool, .bool, .bool, .int .i64], .int .i64, .bool], [.undef])),
  (127, (.sl 1, [.undef])),
  (128, (.sl 1, [.pbox [.sl 1, .int .i64, .bool]])),
  (129, (.int .i64, [.pbox [.sl 1, .int .i64, .bool]])),
  (130, (.sl 1, [.undef])),
  (131, (.sl 1, [.undef])),
  (132, (.int .i64, [.undef, .undef])),
  (133, (.tup [.agg [.sl 1, .sl 1, .bool, .bool, .bool, .int .i64], .bool], [.undef])),
  (134, (.bool, [.undef, .undef])),
  (135, (.sl 1, [.undef, .undef])),
  (136, (.tup [.int .i64, .int .i64, .bool], [.undef, .undef])),
  (137, (.sl 1, [.undef])),
  (138, (.int .i64, [.undef])),
  (139, (.sl 1, [.pbox [.sl 1, .int .i64, .bool]])),
  (140, (.int .i64, [.pbox [.sl 1, .int .i64, .bool]])),
  (141, (.sl 1, [.undef])),
  (142, (.sl 1, [.undef])),
  (143, (.tup [.int .i64, .int .i64, .bool], [.undef, .undef])),
  (144, (.sl 1, [.undef])),
  (145, (.sl 1, [.undef])),
  (146, (.int .i64, [.undef, .undef])),
  (147, (.sl 1, [.undef])),
  (148, (.str, [.undef])),
  (149, (.tup [], [.undef])),
  (150, (.str, [.undef])),
  (151, (.tup [], [.undef])),
  (152, (.str, [.undef])),
  (153, (.tup [], [.undef])),
  (154, (.str, [.undef])),
  (155, (.tup [], [.undef])),
  (161, (.str, [.undef])),
  (162, (.tup [], [.undef])),
  (164, (.str, [.undef]))]
def cfg : Cfg where
  ty := lk tyTab
  ext := fun f => if f = 74 then some joinE else if f = 86 then some (cloneE 1 8) else none
  own := fun f => (lk ownTab f).getD []
  inl := fun f => inlTab.contains f
  steal := fun f t => stealTab.contains (f, t)
  nm := fun f i => (nmTab.find? fun r => r.1 == f && r.2.1 == i).map fun r => r.2.2
def emTab : List Nat := [48, 56, 57, 58, 83, 63, 64, 65]
def sg : Sg := ⟨lk sgTab, fun f => emTab.contains f⟩
theorem cfg_ok : CfgOk cfg Try.prog := ⟨tyall_ok (l := tyTab) (by kernel_rfl)⟩
theorem cfg_fits (f : FuncId) (fn : Func) (body : Code) (hf : Try.prog.funcs[f]? = some fn) (hb : fn.body = some body) : fitsC fn.ntmps body = true ∧ (fn.name == "runtime.NumGoroutine") = false :=
  fits_ok (by kernel_rfl) f fn body hf hb
theorem cfg_mixed : Try.prog.follows .mixedOrders = true := by kernel_rfl
def joinR : Ren := ⟨fun | 156 => 74 | 165 => 99 | 166 => 100 | 169 => 101 | 240 => 116 | 241 => 117 | 276 => 126 | 277 => 127 | n => n,
  fun | 0 => 0 | 3 => 3 | 4 => 4 | 5 => 5 | 9 => 9 | 20 => 20 | 31 => 73 | 37 => 34 | 70 => 126 | 72 => 128 | 75 => 131 | 76 => 132 | 80 => 134 | 127 => 140 | 164 => 148 | n => n, fun n => n⟩
theorem joinL : Lays.n156 Try.prog joinR where
  mixed := by kernel_rfl
  f156 := Try.func74.trans (congrArg some (by kernel_rfl))
  f165 := Try.func99.trans (congrArg some (by kernel_rfl))
  f166 := Try.func100.trans (congrArg some (by kernel_rfl))
  f169 := Try.func101.trans (congrArg some (by kernel_rfl))
  f240 := Try.func116.trans (congrArg some (by kernel_rfl))
  f241 := Try.func117.trans (congrArg some (by kernel_rfl))
  f276 := Try.func126.trans (congrArg some (by kernel_rfl))
  f277 := Try.func127.trans (congrArg some (by kernel_rfl))
  t0 := Try.underlying0
  a0 := Try.isAgg0
  z0 := Try.sizeOf0
  v0 := Try.zeroValue0
  t3 := Try.underlying3
  a3 := Try.isAgg3
  z3 := Try.sizeOf3
  v3 := Try.zeroValue3
  t4 := Try.underlying4
  a4 := Try.isAgg4
  z4 := Try.sizeOf4
  v4 := Try.zeroValue4
  t9 := Try.underlying9
  a9 := Try.isAgg9
  z9 := Try.sizeOf9
  v9 := Try.zeroValue9
  t20 := Try.underlying20
  a20 := Try.isAgg20
  z20 := Try.sizeOf20
  v20 := Try.zeroValue20
  t31 := Try.underlying73
  a31 := Try.isAgg73
  z31 := Try.sizeOf73
  v31 := Try.zeroValue73
  t37 := Try.underlying34
  a37 := Try.isAgg34
  z37 := Try.sizeOf34
  v37 := Try.zeroValue34
  t70 := Try.underlying126
  a70 := Try.isAgg126
  z70 := Try.sizeOf126
  v70 := Try.zeroValue126
  t72 := Try.underlying128
  a72 := Try.isAgg128
  z72 := Try.sizeOf128
  v72 := Try.zeroValue128
  t75 := Try.underlying131
  a75 := Try.isAgg131
  z75 := Try.sizeOf131
  v75 := Try.zeroValue131
  t76 := Try.underlying132
  a76 := Try.isAgg132
  z76 := Try.sizeOf132
  v76 := Try.zeroValue132
  t127 := Try.underlying140
  a127 := Try.isAgg140
  z127 := Try.sizeOf140
  v127 := Try.zeroValue140
  t164 := Try.underlying148
  a164 := Try.isAgg148
  z164 := Try.sizeOf148
  v164 := Try.zeroValue148
theorem joinX : Builder.Extra Try.prog joinR where
  sizeBuilder := by kernel_rfl
  liesBuilder := by kernel_rfl
  t5 := Try.underlying5
  a5 := Try.isAgg5
  z5 := Try.sizeOf5
  v5 := Try.zeroValue5
  infoByte := by kernel_rfl
  cellsByte := by kernel_rfl
  sizeByte := by kernel_rfl
  neB5 := by decide
theorem fnJoin : FnOk Try.prog 74 := ⟨_, Try.func74, by kernel_rfl, by kernel_rfl⟩
def cloneR86 : Ren := ⟨fun | 41 => 86 | n => n, fun | 4 => 4 | 22 => 22 | 23 => 3 | n => n, fun n => n⟩
theorem cloneL86 : SlLaysE0.n41 Try.prog cloneR86 where
  mixed := by kernel_rfl
  f41 := ⟨Try.f86.name, by kernel_rfl, Try.func86.trans (congrArg some (by kernel_rfl))⟩
  t4 := Try.underlying4
  a4 := Try.isAgg4
  z4 := Try.sizeOf4
  v4 := Try.zeroValue4
  t22 := Try.underlying22
  a22 := Try.isAgg22
  z22 := Try.sizeOf22
  v22 := Try.zeroValue22
theorem fnClone86 : FnOk Try.prog 86 := ⟨_, Try.func86, by kernel_rfl, by kernel_rfl⟩
noncomputable def cloneI86 : TypeInfo := (Try.prog.info? 3).get (by kernel_rfl)
theorem cfg_ext : ∀ f e ds r outs, cfg.ext f = some e → e ds = some (r, outs) → FnOk Try.prog f ∧ ∀ (w : World) (Y : Nat → Prop) (us : Array Value) (az : List Arg), CallPre w Y (cfg.own f) ds us.toList az → okR r = true → (∀ o ∈ outs, okR o = true) →
    Calls Try.prog f us w fun e w' => ∃ v, e = .returned v ∧ CallPost w w' Y (cfg.own f) az r outs v := by
  intro f e ds r outs h h2
  have h : (if f = 74 then some joinE else if f = 86 then some (cloneE 1 8) else none) = some e := h
  split at h
  · rename_i hf
    subst hf
    have h := Option.some.inj h
    subst h
    exact join_ok joinL joinX fnJoin (own := cfg.own 74) (by kernel_rfl) h2
  split at h
  · rename_i hf
    subst hf
    have h := Option.some.inj h
    subst h
    exact clone_ok cloneL86 cloneI86 (.int .i64 0) 1 8 (by kernel_rfl) (by kernel_rfl) (by kernel_rfl) (by kernel_rfl) rfl (by decide) Try.sizeOf3 fnClone86 (own := cfg.own 86) (by kernel_rfl) h2
  · simp at h
theorem good (k : Nat) : GoodCall Try.prog cfg.own (callF cfg Try.prog k) := (run_good cfg_ok cfg_mixed cfg_fits cfg_ext k).1
end Go.Proofs.Ytkejckoefjonjaa

namespace Go.Proofs.Ytkejckoefjonjaa
open Go.RowKit

/-- A type's form; a slice's with its elements' bytes. -/
inductive Sh where
  | bool
  | int (k : IntKind)
  | str
  | sl (b : Nat) (e : Sh)
  | ag (fs : List Sh)
mutual
def width : Sh → Nat
  | .ag fs => widths fs
  | _ => 1
def widths : List Sh → Nat
  | [] => 0
  | f :: fs => width f + widths fs
end
mutual
/-- Cells of that form. -/
def WT : Sh → List D → Prop
  | .bool, ds => ∃ b, ds = [.bool b]
  | .int k, ds => ∃ n, ds = [.int k n] ∧ (Lit.int k n).wf = true
  | .str, ds => ∃ s, ds = [.str s] ∧ s.size ≤ reachBytes
  | .sl b e, ds => ∃ es : List (List D), ds = [.sl (some false) (width e) es.length es.flatten] ∧ es.length * b ≤ reachBytes ∧ ∀ x ∈ es, WT e x
  | .ag fs, ds => WTs fs ds
def WTs : List Sh → List D → Prop
  | [], ds => ds = []
  | f :: fs, ds => ∃ a b, ds = a ++ b ∧ WT f a ∧ WTs fs b
end
mutual
def shOk (P : Program) : TypeId → Sh → Bool
  | t, .bool => match P.underlying t with | some .bool => true | _ => false
  | t, .int k => match P.underlying t with | some (.int k') => decide (k' = k) | _ => false
  | t, .str => match P.underlying t with | some .string => true | _ => false
  | t, .sl b e => match P.underlying t with
    | some (.slice et) => shOk P et e && decide (P.cellsOf et = width e) && decide (P.bytesOf et = b) && decide (0 < width e)
    | _ => false
  | t, .ag fs => match P.underlying t with
    | some (.struct fl) => decide (P.cellsOf t = widths fs) && shOks P fl.toList 0 fs
    | _ => false
def shOks (P : Program) : List Field → Nat → List Sh → Bool
  | [], _, [] => true
  | f :: fl, o, s :: ss => decide (f.offset = o) && decide (P.cellsOf f.type = width s) && shOk P f.type s && shOks P fl (o + width s) ss
  | _, _, _ => false
end
theorem mapM_some {α β : Type} {f : α → Option β} : ∀ {l : List α} {r : List β}, l.mapM f = some r → l.length = r.length ∧ ∀ (i : Nat) (a : α), l[i]? = some a → ∃ b, f a = some b ∧ r[i]? = some b
  | [], r, h => by
    simp only [List.mapM_nil] at h
    cases h
    exact ⟨rfl, by simp⟩
  | a :: l, r, h => by
    simp only [List.mapM_cons, Option.bind_eq_bind, Option.bind_eq_some_iff] at h
    obtain ⟨b, hb, bs, hbs, h⟩ := h
    cases h
    obtain ⟨h1, h2⟩ := mapM_some hbs
    refine ⟨by simp [h1], fun i x hx => ?_⟩
    cases i with
    | zero =>
      simp only [List.getElem?_cons_zero, Option.some.injEq] at hx
      subst hx
      exact ⟨b, hb, rfl⟩
    | succ i =>
      simp only [List.getElem?_cons_succ] at hx ⊢
      exact h2 i x hx
theorem cells_get {w : World} {base : Nat} {a : Addr} {n : Nat} {vs : List Value} (h : w.cells? base a n = some vs) : vs.length = n ∧ ∀ i, i < n → w.cell? (a.add i) = vs[i]? := by
  unfold World.cells? at h
  split at h
  · obtain ⟨h1, h2⟩ := mapM_some h
    rw [List.length_range] at h1
    refine ⟨h1.symm, fun i hi => ?_⟩
    obtain ⟨b, hb, hr⟩ := h2 i i (by rw [List.getElem?_range hi])
    rw [hb, hr]
  · simp at h
theorem ext_app {w : World} {X : Bool → Nat → Prop} {a b : List D} {us vs : List Value} (h : ExtL w X a us) (h' : ExtL w X b vs) : ExtL w X (a ++ b) (us ++ vs) := by
  rw [extL_all2] at h h' ⊢
  exact h.app h'
theorem flat_get {α : Type} {wd : Nat} (hw : 0 < wd) : ∀ {ls : List (List α)}, (∀ l ∈ ls, l.length = wd) → ∀ j : Nat, ls.flatten[j]? = (ls[j / wd]?).bind (fun l => l[j % wd]?)
  | [], _, j => by simp
  | l :: ls, h, j => by
    have hl := h l (by simp)
    rw [List.flatten_cons]
    by_cases hj : j < wd
    · rw [List.getElem?_append_left (by omega), Nat.div_eq_of_lt hj, Nat.mod_eq_of_lt hj]
      rfl
    · rw [List.getElem?_append_right (by omega), hl, flat_get hw (fun x hx => h x (by simp [hx])) (j - wd)]
      have h1 : j / wd = (j - wd) / wd + 1 := by
        rw [Nat.div_eq_sub_div hw (by omega)]
      have h2 : j % wd = (j - wd) % wd := by
        rw [Nat.mod_eq_sub_mod (by omega)]
      rw [h1, h2, List.getElem?_cons_succ]
theorem pick_all {α : Type} {Q : Nat → α → Prop} : ∀ len : Nat, (∀ i, i < len → ∃ x, Q i x) → ∃ es : List α, es.length = len ∧ ∀ (i : Nat) (x : α), es[i]? = some x → Q i x
  | 0, _ => ⟨[], rfl, by simp⟩
  | n + 1, h => by
    obtain ⟨es, h1, h2⟩ := pick_all n (fun i hi => h i (by omega))
    obtain ⟨x, hx⟩ := h n (by omega)
    refine ⟨es ++ [x], by simp [h1], fun i y hy => ?_⟩
    by_cases hi : i < n
    · rw [List.getElem?_append_left (by omega)] at hy
      exact h2 i y hy
    · rw [List.getElem?_append_right (by omega)] at hy
      have : i = n := by
        have := (List.getElem?_eq_some_iff.1 hy).1
        simp at this
        omega
      subst this
      rw [h1, Nat.sub_self, List.getElem?_cons_zero, Option.some.injEq] at hy
      subst hy
      exact hx
theorem weightsAll_mem {H : Type} {P : Program} {e : TypeId} : ∀ {ds : List (DataW H)} {i : Nat} {d : DataW H}, ds[i]? = some d → ∀ z ∈ d.weights P e, z ∈ DataW.weightsAll P e ds
  | [], i, d, h, _, _ => by simp at h
  | x :: ds, 0, d, h, z, hz => by
    simp only [List.getElem?_cons_zero, Option.some.injEq] at h
    subst h
    simp only [DataW.weightsAll, List.mem_append]
    exact .inl hz
  | x :: ds, i + 1, d, h, z, hz => by
    simp only [DataW.weightsAll, List.mem_append]
    exact .inr (weightsAll_mem (by simpa using h) z hz)
theorem extL_flat {w : World} {X : Bool → Nat → Prop} : ∀ {ps : List (List D × List Value)}, (∀ p ∈ ps, ExtL w X p.1 p.2) → ExtL w X (ps.map (·.1)).flatten (ps.map (·.2)).flatten
  | [], _ => by simp [ExtL]
  | p :: ps, h => by
    simp only [List.map_cons, List.flatten_cons]
    exact ext_app (h p (by simp)) (extL_flat (fun q hq => h q (by simp [hq])))
section
variable {H : Type} {enc : TypeId × Value → H} {P : Program} {w : World} {held : Bool} {X : Bool → Nat → Prop} (hX : ∀ k, k < w.heap.size → X false k)
include hX
mutual
theorem read_ok : ∀ (sh : Sh) {fuel : Nat} {t : TypeId} {cs : List Value} {x : DataW H × List MemPlace}, DataW.trod enc P w 0 (fun _ => true) held fuel t cs = some x → shOk P t sh = true → (∀ z ∈ x.1.weights P t, z ≤ reachBytes) → ∃ ds, WT sh ds ∧ ExtL w X ds cs
  | .bool, fuel, t, cs, x, h, hs, _ => by
    simp only [shOk] at hs
    split at hs
    · rename_i ht
      obtain ⟨b, rfl, rfl⟩ := DataW.trod_bool ht h
      exact ⟨[.bool b], ⟨b, rfl⟩, _, _, rfl, rfl, rfl⟩
    · simp at hs
  | .int k, fuel, t, cs, x, h, hs, _ => by
    simp only [shOk] at hs
    split at hs
    · rename_i k' ht
      simp only [decide_eq_true_eq] at hs
      subst hs
      obtain ⟨n, rfl, rfl, hw⟩ := DataW.trod_int ht h
      exact ⟨[.int k' n], ⟨n, rfl, hw⟩, _, _, rfl, rfl, rfl⟩
    · simp at hs
  | .str, fuel, t, cs, x, h, hs, hz => by
    simp only [shOk] at hs
    split at hs
    · rename_i ht
      obtain ⟨s, rfl, rfl, hw⟩ := DataW.trod_string ht h
      refine ⟨[.str s], ⟨s, rfl, ?_⟩, _, _, rfl, rfl, rfl⟩
      have : s.data.toList.length ≤ reachBytes := hz _ (by unfold DataW.weights; exact List.mem_cons_self)
      rw [Array.length_toList] at this
      exact this
    · simp at hs
  | .sl b e, fuel, t, cs, x, h, hs, hz => by
    simp only [shOk] at hs
    split at hs
    case h_2 => simp at hs
    rename_i et ht
    simp only [Bool.and_eq_true, decide_eq_true_eq] at hs
    obtain ⟨⟨⟨h1, h2⟩, h3⟩, h4⟩ := hs
    rcases DataW.trod_slice ht h with ⟨rfl, rfl⟩ | ⟨a, len, cap, elems, rest, n, rfl, rfl, rfl, _, hl, hm, hlen, hel, _⟩
    · refine ⟨[.sl (some false) (width e) 0 []], ⟨[], rfl, by simp, by simp⟩, _, _, rfl, ?_, rfl⟩
      exact ⟨none, 0, [], rfl, Nat.le_refl _, by simp, rfl, .inl rfl⟩
    · replace hz : ∀ z ∈ ((elems.map (fun y : DataW H × List MemPlace => y.1)).length + (rest.map (fun y : DataW H × List MemPlace => y.1)).length) * P.bytesOf et :: (DataW.weightsAll P et (elems.map (fun y : DataW H × List MemPlace => y.1)) ++ DataW.weightsAll P et (rest.map (fun y : DataW H × List MemPlace => y.1))), z ≤ reachBytes := fun z hz' => hz z (by
        show z ∈ (match P.underlying t with | some (.slice e) => ((elems.map (fun y : DataW H × List MemPlace => y.1)).length + (rest.map (fun y : DataW H × List MemPlace => y.1)).length) * P.bytesOf e :: (DataW.weightsAll P e (elems.map (fun y : DataW H × List MemPlace => y.1)) ++ DataW.weightsAll P e (rest.map (fun y : DataW H × List MemPlace => y.1))) | _ => [])
        rw [ht]
        exact hz')
      rw [h2] at hel
      have hw0 := hz _ List.mem_cons_self
      have each : ∀ i, i < len → ∃ p : List D × List Value, WT e p.1 ∧ ExtL w X p.1 p.2 ∧ p.2.length = width e ∧ ∀ j, j < width e → w.cell? ((a.add (i * width e)).add j) = p.2[j]? := by
        intro i hi
        have h5 := hel i hi
        have hi' : i < elems.length := by omega
        rw [List.getElem?_eq_getElem hi'] at h5
        rw [Option.bind_eq_some_iff] at h5
        obtain ⟨vs, h6, h7⟩ := h5
        obtain ⟨h8, h9⟩ := cells_get h6
        obtain ⟨ds, h10, h11⟩ := read_ok e h7 h1 (fun z hz' => hz z (List.mem_cons_of_mem _ (List.mem_append.2 (.inl (weightsAll_mem (i := i) (d := elems[i].1) (by rw [List.getElem?_map, List.getElem?_eq_getElem hi']; rfl) z hz')))))
        exact ⟨(ds, vs), h10, h11, h8, h9⟩
      obtain ⟨ps, g1, g2⟩ := pick_all len each
      have gm : ∀ p ∈ ps, WT e p.1 ∧ ExtL w X p.1 p.2 ∧ p.2.length = width e := fun p hp => by
        obtain ⟨i, hi⟩ := List.getElem?_of_mem hp
        obtain ⟨k1, k2, k3, _⟩ := g2 i p hi
        exact ⟨k1, k2, k3⟩
      have hflat := extL_flat (w := w) (X := X) (ps := ps) (fun p hp => (gm p hp).2.1)
      have hlen1 : ∀ l ∈ ps.map (·.1), l.length = width e := fun l hl => by
        obtain ⟨p, hp, rfl⟩ := List.mem_map.1 hl
        have := ((extL_all2 p.1 p.2).1 (gm p hp).2.1).len
        rw [this, (gm p hp).2.2]
      have hlen2 : ∀ l ∈ ps.map (·.2), l.length = width e := fun l hl => by
        obtain ⟨p, hp, rfl⟩ := List.mem_map.1 hl
        exact (gm p hp).2.2
      refine ⟨[.sl (some false) (width e) len (ps.map (·.1)).flatten], ⟨ps.map (·.1), by simp [g1], ?_, fun x hx => by obtain ⟨p, hp, rfl⟩ := List.mem_map.1 hx; exact (gm p hp).1⟩, _, _, rfl, ?_, rfl⟩
      · rw [List.length_map, g1]
        rw [List.length_map, List.length_map, h3, hlen] at hw0
        exact Nat.le_trans (Nat.mul_le_mul_right b (by omega)) hw0
      · refine ⟨some a, cap, (ps.map (·.2)).flatten, rfl, hl, ?_, hflat, ?_⟩
        · have : ∀ {ls : List (List D)}, (∀ l ∈ ls, l.length = width e) → ls.flatten.length = ls.length * width e := by
            intro ls
            induction ls with
            | nil => intro _; simp
            | cons l ls ih =>
              intro hh
              rw [List.flatten_cons, List.length_append, ih (fun x hx => hh x (by simp [hx])), hh l (by simp), List.length_cons, Nat.add_mul, Nat.one_mul, Nat.add_comm]
          rw [this hlen1, List.length_map, g1]
        · by_cases h0 : len = 0
          · left
            have : ps = [] := by cases ps with | nil => rfl | cons _ _ => simp at g1; omega
            rw [this]; rfl
          · right
            obtain ⟨p0, hp0⟩ : ∃ p, ps[0]? = some p := ⟨ps[0], List.getElem?_eq_getElem (by omega)⟩
            obtain ⟨_, _, k3, k4⟩ := g2 0 p0 hp0
            have k5 := k4 0 h4
            have hsome : p0.2[0]? = some (p0.2[0]) := List.getElem?_eq_getElem (by omega)
            rw [hsome, Nat.zero_mul] at k5
            have haa : (a.add 0).add 0 = a := by simp [Addr.add]
            rw [haa] at k5
            obtain ⟨k, off, spot⟩ := a
            unfold World.cell? at k5
            split at k5
            case h_2 => simp at k5
            rename_i c ee fz hblk
            split at k5
            · simp at k5
            rename_i hsp
            have hspot : spot = none := by cases spot <;> simp at hsp ⊢
            subst hspot
            refine ⟨k, off, c, ee, fz, rfl, hX k ?_, hblk, fun j v hj => ?_⟩
            · rcases Nat.lt_or_ge k w.heap.size with hh | hh
              · exact hh
              · rw [Array.getElem?_eq_none hh] at hblk; simp at hblk
            · rw [flat_get h4 hlen2] at hj
              rw [List.getElem?_map] at hj
              cases hp : ps[j / width e]? with
              | none => rw [hp] at hj; simp at hj
              | some p =>
                rw [hp] at hj
                simp only [Option.map_some, Option.bind_some] at hj
                obtain ⟨_, _, _, m4⟩ := g2 _ p hp
                have m5 := m4 (j % width e) (Nat.mod_lt _ h4)
                rw [hj, add_mk, add_mk] at m5
                unfold World.cell? at m5
                simp only [hblk] at m5
                have m6 : off + j / width e * width e + j % width e = off + j := by
                  have := Nat.div_add_mod j (width e)
                  rw [Nat.mul_comm] at this
                  omega
                rw [m6] at m5
                simpa using m5
  | .ag fs, fuel, t, cs, x, h, hs, hz => by
    simp only [shOk] at hs
    split at hs
    case h_2 => simp at hs
    rename_i fl ht
    simp only [Bool.and_eq_true, decide_eq_true_eq] at hs
    obtain ⟨h1, h2⟩ := hs
    obtain ⟨xs, n, rfl, rfl, h3, h4, h5⟩ := DataW.trod_struct ht h
    simp only [DataW.weights, ht] at hz
    obtain ⟨ds, h6, h7⟩ := reads_ok (cs := cs) (n := n) fs (fl := fl.toList) (o := 0) (xs := xs) (by simpa using h4.symm) (fun i f hf => h5 i f (by simpa using hf)) h2 hz (by omega)
    refine ⟨ds, h6, ?_⟩
    rw [List.drop_zero, List.take_of_length_le (by omega)] at h7
    exact h7
theorem reads_ok : ∀ (ss : List Sh) {n : Nat} {cs : List Value} {fl : List Field} {o : Nat} {xs : List (DataW H × List MemPlace)}, fl.length = xs.length → (∀ (i : Nat) (f : Field), fl[i]? = some f → DataW.trod enc P w 0 (fun _ => true) held n f.type ((cs.drop f.offset).take (P.cellsOf f.type)) = xs[i]?) → shOks P fl o ss = true → (∀ z ∈ DataW.weightsEach P (fl.map (·.type)) (xs.map (·.1)), z ≤ reachBytes) → o + widths ss ≤ cs.length →
    ∃ ds, WTs ss ds ∧ ExtL w X ds ((cs.drop o).take (widths ss))
  | [], n, cs, fl, o, xs, _, _, hs, _, _ => by
    have _ := hX
    cases fl with
    | nil => exact ⟨[], rfl, by simp [widths, ExtL]⟩
    | cons f fl => simp [shOks] at hs
  | s :: ss, n, cs, fl, o, xs, hl, hx, hs, hz, ho => by
    cases fl with
    | nil => simp [shOks] at hs
    | cons f fl =>
      cases xs with
      | nil => simp at hl
      | cons x xs =>
        simp only [shOks, Bool.and_eq_true, decide_eq_true_eq] at hs
        obtain ⟨⟨⟨h1, h2⟩, h3⟩, h4⟩ := hs
        subst h1
        simp only [List.map_cons, DataW.weightsEach, List.mem_append] at hz
        simp only [widths] at ho ⊢
        have h5 := hx 0 f rfl
        rw [List.getElem?_cons_zero, h2] at h5
        obtain ⟨ds1, g1, g2⟩ := read_ok s h5 h3 (fun z hz' => hz z (.inl hz'))
        obtain ⟨ds2, g3, g4⟩ := reads_ok (cs := cs) (n := n) ss (fl := fl) (o := f.offset + width s) (xs := xs) (by simpa using hl) (fun i f' hf => by have := hx (i + 1) f' (by simpa using hf); simpa using this) h4 (fun z hz' => hz z (.inr hz')) (by omega)
        refine ⟨ds1 ++ ds2, ⟨ds1, ds2, rfl, g1, g3⟩, ?_⟩
        rw [List.take_add, List.drop_drop]
        exact ext_app g2 g4
end
end
end Go.Proofs.Ytkejckoefjonjaa

namespace Go.Proofs.Ytkejckoefjonjaa
open Go.RowKit

theorem ains_of {w : World} {X : Bool → Nat → Prop} : ∀ {b : List Bool} {ds : List D} {vs : List Value}, b.any id = false → All2 (fun d v => ∀ S, TVa w X S d v) ds vs → AIns w X b ds vs (vs.map fun _ => (none, []))
  | _, [], _, _, .nil => ⟨rfl, rfl⟩
  | b, d :: ds, v :: vs, hn, .cons h1 h2 => by
    have hb : b.headD false = false ∧ b.tail.any id = false := by
      cases b with
      | nil => simp
      | cons x xs => simpa using hn
    refine ⟨v, vs, (none, []), _, rfl, rfl, ?_, ains_of hb.2 h2⟩
    rw [hb.1]
    exact ⟨rfl, h1⟩
/-- A law that comes back with true leaves all that stood. -/
theorem law_calls {P : Program} {c : Cfg} (hgood : ∀ k, GoodCall P c.own (callF c P k)) {f : FuncId} (hown : (c.own f).any id = false) {ds outs : List D} {vs : Array Value} {W : World} (hc : Comes c P f ds (.bool true, outs)) (hout : ∀ o ∈ outs, okR o = true)
    (ha : All2 (fun d v => ∀ S, TVa W (Lk W [] (fun _ => True)) S d v) ds vs.toList) : Calls P f vs W fun e W' => e = .returned (.bool true) ∧ Below W.heap.size W W' := by
  obtain ⟨k, hk⟩ := hc
  have h1 := hk k (Nat.le_refl _)
  have hnone : ∀ a ∈ vs.toList.map (fun _ => ((none, []) : Arg)), a = (none, []) := by simp
  have hft := argsFt_none hnone
  have hpre : CallPre W (fun _ => True) (c.own f) ds vs.toList (vs.toList.map fun _ => (none, [])) := by
    refine ⟨?_, by rw [hft]; simp, by rw [hft]; simp, fun a haa => ?_⟩
    · rw [hft]; exact ains_of hown ha
    · rw [hnone a haa]; trivial
  refine ((hgood k f ds _ outs h1).2 W _ vs _ hpre rfl hout).mono fun e W' => ?_
  rintro ⟨v, rfl, hp⟩
  have hv : v = .bool true := by
    obtain ⟨rts, az, hr, _, _, _, hs, _⟩ := hp.res
    obtain ⟨t, rfl, he, rfl⟩ := hr
    cases t with
    | v d u =>
      have hs := hs.1
      simp only [SatT] at hs
      have : leafD d = .bool true := he.symm
      rw [this] at hs
      exact hs
    | own s n cap a cs => simp [T.er] at he
  subst hv
  refine ⟨rfl, hp.os, hp.tape, hp.out, hp.sz, fun k hk => hp.old k hk (by rw [hft]; simp)⟩
/-- A struct that came in. -/
theorem tva_agg {w : World} {X : Bool → Nat → Prop} {ds : List D} {us : Array Value} (h : ExtL w X ds us.toList) : ∀ S, TVa w X S (.agg ds) (.agg us) := fun _ =>
  ⟨us, rfl, ((extL_all2 _ _).1 h).mono (fun _ _ hh => tvc_of_ext hh)⟩
/-- One plain value that came in. -/
theorem tva_one {w : World} {X : Bool → Nat → Prop} {d : D} {v : Value} (h : ExtL w X [d] [v]) (h1 : ∀ cs, d ≠ .agg cs) (h2 : ∀ f cs, d ≠ .fn f cs) : ∀ S, TVa w X S d v := fun S => by
  obtain ⟨a, b, hv, he, _⟩ := h
  simp only [List.cons.injEq] at hv
  obtain ⟨rfl, rfl⟩ := hv
  have ht := tvc_of_ext (S := S) he
  cases d with
  | agg cs => exact absurd rfl (h1 cs)
  | fn f cs => exact absurd rfl (h2 f cs)
  | _ => exact ht
theorem lk_all {w : World} : ∀ k, k < w.heap.size → Lk w [] (fun _ => True) false k := fun k hk => ⟨hk, by simp, fun _ => trivial⟩
end Go.Proofs.Ytkejckoefjonjaa

namespace Go.Proofs.Ytkejckoefjonjaa
set_option maxRecDepth 100000
def bs (l : List UInt8) : ByteArray := ⟨l.toArray⟩
abbrev Cm (f : FuncId) (ds : List D) (r : Rz) : Prop := Comes cfg Try.prog f ds r
abbrev RunJ (pr : Prims) (cv : Cv Rz) (J : Nat → St → Option Rz) (f : FuncId) (fn : Func) (args : List D) : Option Rz := runJ pr cfg sg cv J f fn args
abbrev HeadJ (pr : Prims) (cv : Cv Rz) (J : Nat → St → Option Rz) (f : FuncId) (fn : Func) (sk : List D) (j : Nat) (h : St) : Option Rz := headJ pr cfg sg cv J f fn sk j h
noncomputable abbrev cvP : Cv Rz := cvS cfg Try.prog sg
abbrev WP (f : FuncId) (fn : Func) (sk : List D) (j : Nat) (h : St) (r : Rz) : Prop := W cfg Try.prog sg f fn sk j h r
section
variable {f : FuncId} {fn : Func} {sk : List D} {j j' : Nat} {h h' : St} {r : Rz}
theorem WP.go (h' : St) (hw : WP f fn sk j' h' r) (ht : ∀ J : Nat → St → Option Rz, J j' h' = some r → HeadJ std cvP J f fn sk j h = some r) : WP f fn sk j h r := W.go cfg_ok hw ht
theorem WP.fin (ht : ∀ J : Nat → St → Option Rz, HeadJ std cvP J f fn sk j h = some r) : WP f fn sk j h r := W.fin cfg_ok ht
theorem Cm.go (ok : Told cfg Try.prog f fn) (sk : List D) (j : Nat) (h : St) {args : List D} (hw : WP f fn sk j h r) (ht : ∀ J : Nat → St → Option Rz, J j h = some r → RunJ std cvP J f fn args = some r) (hsk : args.map skD = sk := by rfl) : Cm f args r := Comes.go cfg_ok ok (hsk ▸ hw) ht
theorem Cm.fin (ok : Told cfg Try.prog f fn) {args : List D} (ht : ∀ J : Nat → St → Option Rz, RunJ std cvP J f fn args = some r) : Cm f args r := Comes.fin (sg := sg) cfg_ok ok ht
/-- A loop that counts, told from its end on. -/
theorem WP.loop {H : Nat → St} {n : Nat} (inv : Nat → Prop) (hs : ∀ i, i < n → inv i → (inv (i + 1) → WP f fn sk j (H (i + 1)) r) → WP f fn sk j (H i) r) (he : inv n → WP f fn sk j (H n) r) : ∀ i, i ≤ n → inv i → WP f fn sk j (H i) r := by
  have key : ∀ k i, i + k = n → inv i → WP f fn sk j (H i) r := by
    intro k
    induction k with
    | zero => intro i hi hv; obtain rfl : i = n := by omega
              exact he hv
    | succ k ih => intro i hi hv; exact hs i (by omega) hv fun hv' => ih (i + 1) (by omega) hv'
  exact fun i hi hv => key (n - i) i (by omega) hv
end
theorem cvP_eq {g : FuncId} {ds : List D} {r : D} {outs : List D} (h : Cm g ds (r, outs)) (hs : (match sg.sig g with | some (s, ss) => okS s r && okSL ss outs | none => false) = true) (t : Tel Rz) : cvP g ds t = feed t (prts r ++ (prtsL outs ++ [])) := by
  refine cv_eq t h hs fun e => ?_
  subst e
  have : sg.sig 999999 = none := by kernel_rfl
  rw [this] at hs
  simp at hs
theorem cvP_nm (ys : List D) (t : Tel Rz) : cvP 999999 [.sl none 0 0 ys] t = feed t [.sl none 0 0 ys] := by
  show cvS cfg Try.prog sg 999999 _ t = _
  unfold cvS
  rw [if_pos rfl]

/-! ### branches -/
section
variable {R : Type} {x y : R}
theorem br_t : br true x y = x := rfl
theorem br_f : br false x y = y := rfl
theorem br_tf (b : Bool) : br b true false = b := by cases b <;> rfl
theorem br_ft (b : Bool) : br b false true = !b := by cases b <;> rfl
theorem br_nb (b : Bool) : br (!b) x y = br b y x := by cases b <;> rfl
theorem br_and (a b : Bool) (x y : R) : br (br a b false) x y = br a (br b x y) y := by cases a <;> rfl
theorem br_or (a b : Bool) (x y : R) : br (br a true b) x y = br a x (br b x y) := by cases a <;> rfl
theorem br_dec (p : Prop) [Decidable p] : br (decide p) x y = if p then x else y := by by_cases h : p <;> simp [h, br]
theorem br_same (b : Bool) : br b x x = x := by cases b <;> rfl
theorem br_lt {a b : Int} (h : a < b) : br (std.lt a b) x y = x := by simp [std, br, h]
theorem br_nlt {a b : Int} (h : b ≤ a) : br (std.lt a b) x y = y := by simp [std, br, Int.not_lt.2 h]
theorem br_le {a b : Int} (h : a ≤ b) : br (std.le a b) x y = x := by simp [std, br, h]
theorem br_nle {a b : Int} (h : b < a) : br (std.le a b) x y = y := by simp [std, br, Int.not_le.2 h]
theorem br_eq {a b : Int} (h : a = b) : br (std.eq a b) x y = x := by simp [std, br, h]
theorem br_neq {a b : Int} (h : a ≠ b) : br (std.eq a b) x y = y := by
  have e : (a == b) = false := by simpa using h
  simp [std, br, e]
theorem br_inR {i : Int} {n : Nat} (h0 : 0 ≤ i) (h : i < n) : br (std.inR i n) x y = x := by simp [std, br, h0, h]
theorem br_rng {l h : Int} {n : Nat} (h0 : 0 ≤ l) (h1 : l ≤ h) (h2 : h ≤ n) : br (std.rng l h n) x y = x := by simp [std, br, h0, h1, h2]
theorem br_fits {n b : Nat} (h : n * b ≤ 140737488355328) : br (std.fits n b) x y = x := by simp [std, br, h]
theorem br_mkok {l c : Int} {b : Nat} (h0 : 0 ≤ l) (h1 : l ≤ c) (h2 : c * b ≤ 140737488355328) : br (std.mkok l c b) x y = x := by simp [std, br, h0, h1, h2]
end
/-! ### numbers -/
theorem s_lt (a b : Int) : std.lt a b = decide (a < b) := rfl
theorem s_le (a b : Int) : std.le a b = decide (a ≤ b) := rfl
theorem s_eq (a b : Int) : std.eq a b = (a == b) := rfl
theorem s_ofN (n : Nat) : std.ofN n = (n : Int) := rfl
theorem s_toN (n : Nat) : std.toN (n : Int) = n := rfl
theorem s_idx (a i s : Nat) : std.idx a (i : Int) s = (a + i) * s := rfl
theorem s_beq (a b : Bool) : std.beq a b = (a == b) := rfl
theorem wrap64 {n : Int} (h : -9223372036854775808 ≤ n) (h' : n < 9223372036854775808) : IntKind.i64.wrap n = n := by
  simp only [IntKind.wrap, IntKind.bits, IntKind.signed]
  simp
  omega
theorem s_add {a b : Int} (h : -9223372036854775808 ≤ a + b) (h' : a + b < 9223372036854775808) : std.ar .add .i64 a b = a + b := wrap64 h h'
theorem s_sub {a b : Int} (h : -9223372036854775808 ≤ a - b) (h' : a - b < 9223372036854775808) : std.ar .sub .i64 a b = a - b := wrap64 h h'
theorem s_mul {a b : Int} (h : -9223372036854775808 ≤ a * b) (h' : a * b < 9223372036854775808) : std.ar .mul .i64 a b = a * b := wrap64 h h'
theorem s_inc {i : Nat} (h : i < 9223372036854775807) : std.ar .add .i64 (i : Int) 1 = ((i + 1 : Nat) : Int) := by
  rw [s_add (by omega) (by omega)]
  omega
theorem s_nsub (a b : Nat) : std.nsub (a : Int) (b : Int) = a - b := rfl
def in64 (a : Int) : Bool := decide (-9223372036854775808 ≤ a) && decide (a < 9223372036854775808)
theorem in64_iff {a : Int} : in64 a = true ↔ -9223372036854775808 ≤ a ∧ a < 9223372036854775808 := by simp [in64]

/-! ### rows -/
def ints (xs : List Int) : List D := xs.map (.int .i64)
def bytes (xs : List UInt8) : List D := xs.map byteD
def bools (xs : List Bool) : List D := xs.map .bool
def strs (xs : List (List UInt8)) : List D := xs.map fun s => .str (bs s)
/-- Rows of structs: each element's cells. -/
def celz {α : Type} (e : α → List D) (xs : List α) : List D := xs.flatMap e
theorem ints_length (xs : List Int) : (ints xs).length = xs.length := by simp [ints]
theorem bytes_length (xs : List UInt8) : (bytes xs).length = xs.length := by simp [bytes]
theorem bools_length (xs : List Bool) : (bools xs).length = xs.length := by simp [bools]
theorem celz_get {α : Type} {e : α → List D} {w : Nat} (hw : ∀ x, (e x).length = w) : ∀ (xs : List α) {i k : Nat} (hi : i < xs.length), k < w → (celz e xs)[i * w + k]? = (e xs[i])[k]?
  | [], i, k, hi, _ => absurd hi (by simp)
  | x :: xs, 0, k, hi, hk => by
    simp only [celz, List.flatMap_cons, Nat.zero_mul, Nat.zero_add, List.getElem_cons_zero]
    rw [List.getElem?_append_left (by rw [hw]; exact hk)]
  | x :: xs, i + 1, k, hi, hk => by
    simp only [celz, List.flatMap_cons, List.getElem_cons_succ]
    rw [List.getElem?_append_right (by rw [hw, Nat.succ_mul]; omega)]
    have : (i + 1) * w + k - (e x).length = i * w + k := by rw [hw, Nat.succ_mul]; omega
    rw [this]
    exact celz_get hw xs (by simpa using hi) hk
section
variable {R : Type} {x y : R}
theorem br_isI {xs : List Int} {i : Nat} (h : i < xs.length) : br (std.isI .i64 (ints xs) i) x y = x := by simp [std, ints, br, List.getElem?_eq_getElem h, ksame]
theorem s_getI {xs : List Int} {i : Nat} (h : i < xs.length) : std.getI (ints xs) i = xs[i] := by simp [std, ints, List.getElem?_eq_getElem h, cInt]
theorem br_isI8 {xs : List UInt8} {i : Nat} (h : i < xs.length) : br (std.isI .u8 (bytes xs) i) x y = x := by simp [std, bytes, byteD, br, List.getElem?_eq_getElem h, ksame]
theorem s_getI8 {xs : List UInt8} {i : Nat} (h : i < xs.length) : std.getI (bytes xs) i = (xs[i].toNat : Int) := by simp [std, bytes, byteD, List.getElem?_eq_getElem h, cInt]
theorem br_isB {xs : List Bool} {i : Nat} (h : i < xs.length) : br (std.isB (bools xs) i) x y = x := by simp [std, bools, br, List.getElem?_eq_getElem h]
theorem s_getB {xs : List Bool} {i : Nat} (h : i < xs.length) : std.getB (bools xs) i = xs[i] := by simp [std, bools, List.getElem?_eq_getElem h, cBool]
theorem br_slotI {xs : List Int} {i : Nat} (h : i < xs.length) : br (std.slot (ints xs) i) x y = x := by simp [std, ints, br, List.getElem?_eq_getElem h, isSl]
theorem br_slot8 {xs : List UInt8} {i : Nat} (h : i < xs.length) : br (std.slot (bytes xs) i) x y = x := by simp [std, bytes, byteD, br, List.getElem?_eq_getElem h, isSl]
theorem br_slotB {xs : List Bool} {i : Nat} (h : i < xs.length) : br (std.slot (bools xs) i) x y = x := by simp [std, bools, br, List.getElem?_eq_getElem h, isSl]
theorem ints_set (xs : List Int) (i : Nat) (a : Int) : List.set (ints xs) i (.int .i64 a) = ints (xs.set i a) := by simp [ints, List.map_set]
theorem bytes_set (xs : List UInt8) (i : Nat) (a : UInt8) : List.set (bytes xs) i (.int .u8 a.toNat) = bytes (xs.set i a) := by simp [bytes, List.map_set, byteD]
theorem bools_set (xs : List Bool) (i : Nat) (a : Bool) : List.set (bools xs) i (.bool a) = bools (xs.set i a) := by simp [bools, List.map_set]
theorem noLentL_flat : ∀ {ds : List D}, (∀ d ∈ ds, noLent d = true) → noLentL ds = true
  | [], _ => rfl
  | d :: ds, h => by
    simp only [noLentL, Bool.and_eq_true]
    exact ⟨h d (by simp), noLentL_flat fun x hx => h x (by simp [hx])⟩
theorem s_nlI (xs : List Int) : std.nl (ints xs) = true := noLentL_flat (by intro d hd; obtain ⟨a, _, rfl⟩ := List.mem_map.1 hd; rfl)
theorem s_nl8 (xs : List UInt8) : std.nl (bytes xs) = true := noLentL_flat (by intro d hd; obtain ⟨a, _, rfl⟩ := List.mem_map.1 hd; rfl)
theorem s_nlB (xs : List Bool) : std.nl (bools xs) = true := noLentL_flat (by intro d hd; obtain ⟨a, _, rfl⟩ := List.mem_map.1 hd; rfl)
theorem reps_I (n : Nat) : reps n [.int .i64 0] = ints (List.replicate n 0) := by
  unfold reps
  induction n with
  | zero => rfl
  | succ n ih => simpa [List.replicate_succ, ints, rowZ] using ih
theorem reps_8 (n : Nat) : reps n [.int .u8 0] = bytes (List.replicate n 0) := by
  unfold reps
  induction n with
  | zero => rfl
  | succ n ih => simpa [List.replicate_succ, bytes, rowZ, byteD] using ih
theorem reps_B (n : Nat) : reps n [.bool false] = bools (List.replicate n false) := by
  unfold reps
  induction n with
  | zero => rfl
  | succ n ih => simpa [List.replicate_succ, bools, rowZ] using ih
end
end Go.Proofs.Ytkejckoefjonjaa

namespace Go.Proofs.Ytkejckoefjonjaa
set_option maxRecDepth 100000
section
variable (pr : Prims) (cv : Cv Rz) (J : Nat → St → Option Rz)
def h_laws_toIntS_0 (g0 : Bool) (n1 : Nat) (c2 : List D) (i3 : Int) (n4 : Nat) (c5 : List D) : St := (St.mk [(0, (.sl (some g0) 1 n1 c2)), (3, (.ref 10003 [] 0 none)), (4, (.int .i64 i3))] [(10003, [(.sl none 1 n4 c5)])] [] 0)
theorem k_laws_toIntS : Told cfg Try.prog 29 Try.f29 := ⟨by kernel_rfl, Try.func29, by kernel_rfl⟩
theorem e_laws_toIntS (g0 : Bool) (n0 : Nat) (c0 : List D) : RunJ pr cv J 29 Try.f29 [(.sl (some g0) 1 n0 c0)] =
    (br (pr.mkok (pr.ofN n0) (pr.ofN n0) 8) (J 0 (h_laws_toIntS_0 g0 n0 c0 0 (pr.toN (pr.ofN n0)) (reps (pr.toN (pr.ofN n0)) [(.int .i64 0)]))) none) := by kernel_rfl
theorem eh_laws_toIntS_0 (g0 : Bool) (n1 : Nat) (c2 : List D) (i3 : Int) (n4 : Nat) (c5 : List D) : HeadJ pr cv J 29 Try.f29 [.undef] 0 (h_laws_toIntS_0 g0 n1 c2 i3 n4 c5) =
    (br (pr.lt i3 (pr.ofN n1)) (br (pr.inR i3 n1) (br (br (pr.isI .i64 c2 (pr.idx 0 i3 1)) true false) (br (pr.inR i3 n4) (br (pr.slot c5 (pr.idx 0 i3 1)) (J 0 (h_laws_toIntS_0 g0 n1 c2 (pr.ar .add .i64 i3 1) n4 (List.set c5 (pr.idx 0 i3 1) (.int .i64 (pr.getI c2 (pr.idx 0 i3 1)))))) none) none) none) none) (some ((.sl none 1 n4 c5), [.undef]))) := by kernel_rfl
def h_laws_eqIntS_0 (g0 : Bool) (n1 : Nat) (c2 : List D) (g3 : Bool) (n4 : Nat) (c5 : List D) (i6 : Int) : St := (St.mk [(0, (.sl (some g0) 1 n1 c2)), (1, (.sl (some g3) 1 n4 c5)), (5, (.int .i64 i6))] [] [] 0)
theorem k_laws_eqIntS : Told cfg Try.prog 23 Try.f23 := ⟨by kernel_rfl, Try.func23, by kernel_rfl⟩
theorem e_laws_eqIntS (g0 : Bool) (n0 : Nat) (c0 : List D) (g1 : Bool) (n1 : Nat) (c1 : List D) : RunJ pr cv J 23 Try.f23 [(.sl (some g0) 1 n0 c0), (.sl (some g1) 1 n1 c1)] =
    (br (br (pr.eq (pr.ofN n0) (pr.ofN n1)) false true) (some ((.bool false), [.undef, .undef])) (J 0 (h_laws_eqIntS_0 g0 n0 c0 g1 n1 c1 0))) := by kernel_rfl
theorem eh_laws_eqIntS_0 (g0 : Bool) (n1 : Nat) (c2 : List D) (g3 : Bool) (n4 : Nat) (c5 : List D) (i6 : Int) : HeadJ pr cv J 23 Try.f23 [.undef, .undef] 0 (h_laws_eqIntS_0 g0 n1 c2 g3 n4 c5 i6) =
    (br (pr.lt i6 (pr.ofN n1)) (br (pr.inR i6 n1) (br (br (pr.isI .i64 c2 (pr.idx 0 i6 1)) true false) (br (pr.inR i6 n4) (br (br (pr.isI .i64 c5 (pr.idx 0 i6 1)) true false) (br (br (pr.eq (pr.getI c2 (pr.idx 0 i6 1)) (pr.getI c5 (pr.idx 0 i6 1))) false true) (some ((.bool false), [.undef, .undef])) (J 0 (h_laws_eqIntS_0 g0 n1 c2 g3 n4 c5 (pr.ar .add .i64 i6 1)))) none) none) none) none) (some ((.bool true), [.undef, .undef]))) := by kernel_rfl
theorem k_laws_szIntS : Told cfg Try.prog 35 Try.f35 := ⟨by kernel_rfl, Try.func35, by kernel_rfl⟩
theorem e_laws_szIntS (g0 : Bool) (n0 : Nat) (c0 : List D) (a1 : Int) : RunJ pr cv J 35 Try.f35 [(.sl (some g0) 1 n0 c0), (.int .i64 a1)] =
    (br (pr.lt (pr.ar .sub .i64 a1 (pr.ofN n0)) 0) (some ((.int .i64 (-1)), [.undef, .undef])) (some ((.int .i64 (pr.ar .sub .i64 a1 (pr.ofN n0))), [.undef, .undef]))) := by kernel_rfl
def h_laws_markIntS_0 (i0 : Int) (i1 : Int) (n2 : Nat) (c3 : List D) : St := (St.mk [(0, (.ref 19 [] 0 none)), (1, (.int .i64 i0)), (5, (.int .i64 i1))] [(19, [(.sl none 1 n2 c3)])] [] 0)
theorem k_laws_markIntS : Told cfg Try.prog 26 Try.f26 := ⟨by kernel_rfl, Try.func26, by kernel_rfl⟩
theorem e_laws_markIntS (n0 : Nat) (c0 : List D) (a1 : Int) : RunJ pr cv J 26 Try.f26 [(.sl none 1 n0 c0), (.int .i64 a1)] =
    (J 0 (h_laws_markIntS_0 a1 0 n0 c0)) := by kernel_rfl
theorem eh_laws_markIntS_0 (i0 : Int) (i1 : Int) (n2 : Nat) (c3 : List D) : HeadJ pr cv J 26 Try.f26 [(.sl none 0 0 []), .undef] 0 (h_laws_markIntS_0 i0 i1 n2 c3) =
    (br (pr.lt i1 (pr.ofN n2)) (br (pr.inR i1 n2) (br (pr.slot c3 (pr.idx 0 i1 1)) (J 0 (h_laws_markIntS_0 (pr.ar .add .i64 i0 1) (pr.ar .add .i64 i1 1) n2 (List.set c3 (pr.idx 0 i1 1) (.int .i64 i0)))) none) none) (some ((.int .i64 i0), [(.sl none 1 n2 c3), .undef]))) := by kernel_rfl
def h_laws_toByteS_0 (g0 : Bool) (n1 : Nat) (c2 : List D) (i3 : Int) (n4 : Nat) (c5 : List D) : St := (St.mk [(0, (.sl (some g0) 1 n1 c2)), (3, (.ref 10003 [] 0 none)), (4, (.int .i64 i3))] [(10003, [(.sl none 1 n4 c5)])] [] 0)
theorem k_laws_toByteS : Told cfg Try.prog 76 Try.f76 := ⟨by kernel_rfl, Try.func76, by kernel_rfl⟩
theorem e_laws_toByteS (g0 : Bool) (n0 : Nat) (c0 : List D) : RunJ pr cv J 76 Try.f76 [(.sl (some g0) 1 n0 c0)] =
    (br (pr.mkok (pr.ofN n0) (pr.ofN n0) 1) (J 0 (h_laws_toByteS_0 g0 n0 c0 0 (pr.toN (pr.ofN n0)) (reps (pr.toN (pr.ofN n0)) [(.int .u8 0)]))) none) := by kernel_rfl
theorem eh_laws_toByteS_0 (g0 : Bool) (n1 : Nat) (c2 : List D) (i3 : Int) (n4 : Nat) (c5 : List D) : HeadJ pr cv J 76 Try.f76 [.undef] 0 (h_laws_toByteS_0 g0 n1 c2 i3 n4 c5) =
    (br (pr.lt i3 (pr.ofN n1)) (br (pr.inR i3 n1) (br (br (pr.isI .u8 c2 (pr.idx 0 i3 1)) true false) (br (pr.inR i3 n4) (br (pr.slot c5 (pr.idx 0 i3 1)) (J 0 (h_laws_toByteS_0 g0 n1 c2 (pr.ar .add .i64 i3 1) n4 (List.set c5 (pr.idx 0 i3 1) (.int .u8 (pr.getI c2 (pr.idx 0 i3 1)))))) none) none) none) none) (some ((.sl none 1 n4 c5), [.undef]))) := by kernel_rfl
def h_laws_eqByteS_0 (g0 : Bool) (n1 : Nat) (c2 : List D) (g3 : Bool) (n4 : Nat) (c5 : List D) (i6 : Int) : St := (St.mk [(0, (.sl (some g0) 1 n1 c2)), (1, (.sl (some g3) 1 n4 c5)), (5, (.int .i64 i6))] [] [] 0)
theorem k_laws_eqByteS : Told cfg Try.prog 77 Try.f77 := ⟨by kernel_rfl, Try.func77, by kernel_rfl⟩
theorem e_laws_eqByteS (g0 : Bool) (n0 : Nat) (c0 : List D) (g1 : Bool) (n1 : Nat) (c1 : List D) : RunJ pr cv J 77 Try.f77 [(.sl (some g0) 1 n0 c0), (.sl (some g1) 1 n1 c1)] =
    (br (br (pr.eq (pr.ofN n0) (pr.ofN n1)) false true) (some ((.bool false), [.undef, .undef])) (J 0 (h_laws_eqByteS_0 g0 n0 c0 g1 n1 c1 0))) := by kernel_rfl
theorem eh_laws_eqByteS_0 (g0 : Bool) (n1 : Nat) (c2 : List D) (g3 : Bool) (n4 : Nat) (c5 : List D) (i6 : Int) : HeadJ pr cv J 77 Try.f77 [.undef, .undef] 0 (h_laws_eqByteS_0 g0 n1 c2 g3 n4 c5 i6) =
    (br (pr.lt i6 (pr.ofN n1)) (br (pr.inR i6 n1) (br (br (pr.isI .u8 c2 (pr.idx 0 i6 1)) true false) (br (pr.inR i6 n4) (br (br (pr.isI .u8 c5 (pr.idx 0 i6 1)) true false) (br (br (pr.eq (pr.getI c2 (pr.idx 0 i6 1)) (pr.getI c5 (pr.idx 0 i6 1))) false true) (some ((.bool false), [.undef, .undef])) (J 0 (h_laws_eqByteS_0 g0 n1 c2 g3 n4 c5 (pr.ar .add .i64 i6 1)))) none) none) none) none) (some ((.bool true), [.undef, .undef]))) := by kernel_rfl
theorem k_laws_szByteS : Told cfg Try.prog 75 Try.f75 := ⟨by kernel_rfl, Try.func75, by kernel_rfl⟩
theorem e_laws_szByteS (g0 : Bool) (n0 : Nat) (c0 : List D) (a1 : Int) : RunJ pr cv J 75 Try.f75 [(.sl (some g0) 1 n0 c0), (.int .i64 a1)] =
    (br (pr.lt (pr.ar .sub .i64 a1 (pr.ofN n0)) 0) (some ((.int .i64 (-1)), [.undef, .undef])) (some ((.int .i64 (pr.ar .sub .i64 a1 (pr.ofN n0))), [.undef, .undef]))) := by kernel_rfl
def h_laws_markByteS_0 (i0 : Int) (i1 : Int) (n2 : Nat) (c3 : List D) : St := (St.mk [(0, (.ref 20 [] 0 none)), (1, (.int .i64 i0)), (5, (.int .i64 i1))] [(20, [(.sl none 1 n2 c3)])] [] 0)
theorem k_laws_markByteS : Told cfg Try.prog 84 Try.f84 := ⟨by kernel_rfl, Try.func84, by kernel_rfl⟩
theorem e_laws_markByteS (n0 : Nat) (c0 : List D) (a1 : Int) : RunJ pr cv J 84 Try.f84 [(.sl none 1 n0 c0), (.int .i64 a1)] =
    (J 0 (h_laws_markByteS_0 a1 0 n0 c0)) := by kernel_rfl
theorem eh_laws_markByteS_0 (i0 : Int) (i1 : Int) (n2 : Nat) (c3 : List D) : HeadJ pr cv J 84 Try.f84 [(.sl none 0 0 []), .undef] 0 (h_laws_markByteS_0 i0 i1 n2 c3) =
    (br (pr.lt i1 (pr.ofN n2)) (br (pr.inR i1 n2) (br (pr.slot c3 (pr.idx 0 i1 1)) (J 0 (h_laws_markByteS_0 (pr.ar .add .i64 i0 1) (pr.ar .add .i64 i1 1) n2 (List.set c3 (pr.idx 0 i1 1) (.int .u8 (pr.wrap .u8 i0))))) none) none) (some ((.int .i64 i0), [(.sl none 1 n2 c3), .undef]))) := by kernel_rfl
def h_laws_toBoolS_0 (g0 : Bool) (n1 : Nat) (c2 : List D) (i3 : Int) (n4 : Nat) (c5 : List D) : St := (St.mk [(0, (.sl (some g0) 1 n1 c2)), (3, (.ref 10003 [] 0 none)), (4, (.int .i64 i3))] [(10003, [(.sl none 1 n4 c5)])] [] 0)
theorem k_laws_toBoolS : Told cfg Try.prog 47 Try.f47 := ⟨by kernel_rfl, Try.func47, by kernel_rfl⟩
theorem e_laws_toBoolS (g0 : Bool) (n0 : Nat) (c0 : List D) : RunJ pr cv J 47 Try.f47 [(.sl (some g0) 1 n0 c0)] =
    (br (pr.mkok (pr.ofN n0) (pr.ofN n0) 1) (J 0 (h_laws_toBoolS_0 g0 n0 c0 0 (pr.toN (pr.ofN n0)) (reps (pr.toN (pr.ofN n0)) [(.bool false)]))) none) := by kernel_rfl
theorem eh_laws_toBoolS_0 (g0 : Bool) (n1 : Nat) (c2 : List D) (i3 : Int) (n4 : Nat) (c5 : List D) : HeadJ pr cv J 47 Try.f47 [.undef] 0 (h_laws_toBoolS_0 g0 n1 c2 i3 n4 c5) =
    (br (pr.lt i3 (pr.ofN n1)) (br (pr.inR i3 n1) (br (br (pr.isB c2 (pr.idx 0 i3 1)) true false) (br (pr.inR i3 n4) (br (pr.slot c5 (pr.idx 0 i3 1)) (J 0 (h_laws_toBoolS_0 g0 n1 c2 (pr.ar .add .i64 i3 1) n4 (List.set c5 (pr.idx 0 i3 1) (.bool (pr.getB c2 (pr.idx 0 i3 1)))))) none) none) none) none) (some ((.sl none 1 n4 c5), [.undef]))) := by kernel_rfl
def h_laws_eqBoolS_0 (g0 : Bool) (n1 : Nat) (c2 : List D) (g3 : Bool) (n4 : Nat) (c5 : List D) (i6 : Int) : St := (St.mk [(0, (.sl (some g0) 1 n1 c2)), (1, (.sl (some g3) 1 n4 c5)), (5, (.int .i64 i6))] [] [] 0)
theorem k_laws_eqBoolS : Told cfg Try.prog 51 Try.f51 := ⟨by kernel_rfl, Try.func51, by kernel_rfl⟩
theorem e_laws_eqBoolS (g0 : Bool) (n0 : Nat) (c0 : List D) (g1 : Bool) (n1 : Nat) (c1 : List D) : RunJ pr cv J 51 Try.f51 [(.sl (some g0) 1 n0 c0), (.sl (some g1) 1 n1 c1)] =
    (br (br (pr.eq (pr.ofN n0) (pr.ofN n1)) false true) (some ((.bool false), [.undef, .undef])) (J 0 (h_laws_eqBoolS_0 g0 n0 c0 g1 n1 c1 0))) := by kernel_rfl
theorem eh_laws_eqBoolS_0 (g0 : Bool) (n1 : Nat) (c2 : List D) (g3 : Bool) (n4 : Nat) (c5 : List D) (i6 : Int) : HeadJ pr cv J 51 Try.f51 [.undef, .undef] 0 (h_laws_eqBoolS_0 g0 n1 c2 g3 n4 c5 i6) =
    (br (pr.lt i6 (pr.ofN n1)) (br (pr.inR i6 n1) (br (br (pr.isB c2 (pr.idx 0 i6 1)) true false) (br (pr.inR i6 n4) (br (br (pr.isB c5 (pr.idx 0 i6 1)) true false) (br (br (pr.beq (pr.getB c2 (pr.idx 0 i6 1)) (pr.getB c5 (pr.idx 0 i6 1))) false true) (some ((.bool false), [.undef, .undef])) (J 0 (h_laws_eqBoolS_0 g0 n1 c2 g3 n4 c5 (pr.ar .add .i64 i6 1)))) none) none) none) none) (some ((.bool true), [.undef, .undef]))) := by kernel_rfl
theorem k_laws_szBoolS : Told cfg Try.prog 43 Try.f43 := ⟨by kernel_rfl, Try.func43, by kernel_rfl⟩
theorem e_laws_szBoolS (g0 : Bool) (n0 : Nat) (c0 : List D) (a1 : Int) : RunJ pr cv J 43 Try.f43 [(.sl (some g0) 1 n0 c0), (.int .i64 a1)] =
    (br (pr.lt (pr.ar .sub .i64 a1 (pr.ofN n0)) 0) (some ((.int .i64 (-1)), [.undef, .undef])) (some ((.int .i64 (pr.ar .sub .i64 a1 (pr.ofN n0))), [.undef, .undef]))) := by kernel_rfl
def h_laws_markBoolS_0 (i0 : Int) (i1 : Int) (n2 : Nat) (c3 : List D) : St := (St.mk [(0, (.ref 21 [] 0 none)), (1, (.int .i64 i0)), (5, (.int .i64 i1))] [(21, [(.sl none 1 n2 c3)])] [] 0)
theorem k_laws_markBoolS : Told cfg Try.prog 85 Try.f85 := ⟨by kernel_rfl, Try.func85, by kernel_rfl⟩
theorem e_laws_markBoolS (n0 : Nat) (c0 : List D) (a1 : Int) : RunJ pr cv J 85 Try.f85 [(.sl none 1 n0 c0), (.int .i64 a1)] =
    (J 0 (h_laws_markBoolS_0 a1 0 n0 c0)) := by kernel_rfl
theorem eh_laws_markBoolS_0 (i0 : Int) (i1 : Int) (n2 : Nat) (c3 : List D) : HeadJ pr cv J 85 Try.f85 [(.sl none 0 0 []), .undef] 0 (h_laws_markBoolS_0 i0 i1 n2 c3) =
    (br (pr.lt i1 (pr.ofN n2)) (br (br (pr.eq 3 0) false true) (br (pr.inR i1 n2) (br (pr.slot c3 (pr.idx 0 i1 1)) (J 0 (h_laws_markBoolS_0 (pr.ar .add .i64 i0 1) (pr.ar .add .i64 i1 1) n2 (List.set c3 (pr.idx 0 i1 1) (.bool (pr.eq (pr.ar .rem .i64 i0 3) 0))))) none) none) none) (some ((.int .i64 i0), [(.sl none 1 n2 c3), .undef]))) := by kernel_rfl
def h_laws_heldIntS_0 (g0 : Bool) (n1 : Nat) (c2 : List D) (i3 : Int) (i4 : Int) : St := (St.mk [(0, (.sl (some g0) 1 n1 c2)), (1, (.int .i64 i3)), (5, (.int .i64 i4))] [] [] 0)
theorem k_laws_heldIntS : Told cfg Try.prog 27 Try.f27 := ⟨by kernel_rfl, Try.func27, by kernel_rfl⟩
theorem e_laws_heldIntS (g0 : Bool) (n0 : Nat) (c0 : List D) (a1 : Int) : RunJ pr cv J 27 Try.f27 [(.sl (some g0) 1 n0 c0), (.int .i64 a1)] =
    (J 0 (h_laws_heldIntS_0 g0 n0 c0 a1 0)) := by kernel_rfl
theorem eh_laws_heldIntS_0 (g0 : Bool) (n1 : Nat) (c2 : List D) (i3 : Int) (i4 : Int) : HeadJ pr cv J 27 Try.f27 [.undef, .undef] 0 (h_laws_heldIntS_0 g0 n1 c2 i3 i4) =
    (br (pr.lt i4 (pr.ofN n1)) (br (pr.inR i4 n1) (br (br (pr.isI .i64 c2 (pr.idx 0 i4 1)) true false) (br (br (pr.eq (pr.getI c2 (pr.idx 0 i4 1)) i3) false true) (some ((.int .i64 (-1)), [.undef, .undef])) (J 0 (h_laws_heldIntS_0 g0 n1 c2 (pr.ar .add .i64 i3 1) (pr.ar .add .i64 i4 1)))) none) none) (some ((.int .i64 i3), [.undef, .undef]))) := by kernel_rfl
end
theorem idx1 (i : Nat) : std.idx 0 (i : Int) 1 = i := by rw [s_idx]; omega
theorem rep_step {α : Type} {xs : List α} {i : Nat} (hi : i < xs.length) (z : α) (ys : List α) (hl : xs.length = ys.length) (hy : i < ys.length) : (ys.take i ++ List.replicate (xs.length - i) z).set i ys[i] = ys.take (i + 1) ++ List.replicate (xs.length - (i + 1)) z := by
  rw [List.set_append_right _ _ (by simp; omega)]
  have h1 : i - (ys.take i).length = 0 := by simp; omega
  obtain ⟨k, hk⟩ : ∃ k, xs.length - i = k + 1 := ⟨xs.length - i - 1, by omega⟩
  have h2 : xs.length - (i + 1) = k := by omega
  rw [h1, hk, h2, List.replicate_succ, List.set_cons_zero, ← List.take_append_getElem hy, List.append_assoc]
  rfl
theorem drop_step {α : Type} {xs ys : List α} {i : Nat} (hl : xs.length = ys.length) (hi : i < xs.length) (hy : i < ys.length) : (ys.take i ++ xs.drop i).set i ys[i] = ys.take (i + 1) ++ xs.drop (i + 1) := by
  rw [List.set_append_right _ _ (by simp; omega)]
  have h1 : i - (ys.take i).length = 0 := by simp; omega
  rw [h1, ← List.getElem_cons_drop hi, List.set_cons_zero, ← List.take_append_getElem hy, List.append_assoc]
  rfl
def szF (n : Nat) (left : Int) : Int := if left < n then -1 else left - n
/-- What marks are. -/
def mkI (k : Int) (n : Nat) : List Int := (List.range n).map fun i : Nat => k + (i : Int)
def mk8 (k : Int) (n : Nat) : List UInt8 := (List.range n).map fun i : Nat => UInt8.ofNat ((k + (i : Int)) % 256).toNat
def mkB (k : Int) (n : Nat) : List Bool := (List.range n).map fun i : Nat => (k + (i : Int)).tmod 3 == 0
theorem mkI_length (k : Int) (n : Nat) : (mkI k n).length = n := by simp [mkI]
theorem mk8_length (k : Int) (n : Nat) : (mk8 k n).length = n := by simp [mk8]
theorem mkB_length (k : Int) (n : Nat) : (mkB k n).length = n := by simp [mkB]
theorem wrap8 (k : Int) : IntKind.u8.wrap k = ((UInt8.ofNat (k % 256).toNat).toNat : Int) := by
  have h : IntKind.u8.wrap k = k % 256 := by
    simp only [IntKind.wrap, IntKind.bits, IntKind.signed]
    simp
  rw [h]
  have h2 : 0 ≤ k % 256 := Int.emod_nonneg _ (by omega)
  have h3 : k % 256 < 256 := Int.emod_lt_of_pos _ (by omega)
  simp only [UInt8.toNat_ofNat']
  omega

theorem c_toIntS (g : Bool) (xs : List Int) (hb : xs.length ≤ 17592186044416) (hb2 : xs.length < 9223372036854775807) : Cm 29 [.sl (some g) 1 xs.length (ints xs)] (.sl none 1 xs.length (ints xs), [.undef]) := by
  refine Cm.go k_laws_toIntS [.undef] 0 (h_laws_toIntS_0 g xs.length (ints xs) (0 : Nat) xs.length (ints (List.replicate xs.length 0))) ?_ fun J hJ => ?_
  · refine WP.loop (H := fun i => h_laws_toIntS_0 g xs.length (ints xs) (i : Nat) xs.length (ints (xs.take i ++ List.replicate (xs.length - i) 0))) (n := xs.length) (fun _ => True) (fun i hi _ ih => WP.go _ (ih trivial) fun J hJ => ?_) (fun _ => WP.fin fun J => ?_) 0 (Nat.zero_le _) trivial
    · rw [eh_laws_toIntS_0]
      simp (disch := first | omega | (simp; done) | (simp; omega)) only [br_t, br_f, br_tf, s_ofN, br_lt, br_inR, idx1, br_isI, br_slotI, s_getI, ints_set, s_inc]
      rw [← hJ]
      congr 2
      rw [rep_step hi _ xs rfl hi]
    · rw [eh_laws_toIntS_0]
      simp (disch := omega) only [br_t, br_f, s_ofN, br_nlt, List.take_length, Nat.sub_self, List.replicate_zero, List.append_nil]
  · rw [e_laws_toIntS]
    simp (disch := omega) only [br_t, br_f, s_ofN, br_mkok, s_toN, reps_I]
    exact hJ
theorem c_eqIntS (g h : Bool) (xs ys : List Int) (hb : xs.length < 9223372036854775807) : Cm 23 [.sl (some g) 1 xs.length (ints xs), .sl (some h) 1 ys.length (ints ys)] (.bool (decide (xs = ys)), [.undef, .undef]) := by
  by_cases hl : xs.length = ys.length
  · refine Cm.go k_laws_eqIntS [.undef, .undef] 0 (h_laws_eqIntS_0 g xs.length (ints xs) h ys.length (ints ys) (0 : Nat)) ?_ fun J hJ => ?_
    · refine WP.loop (H := fun i => h_laws_eqIntS_0 g xs.length (ints xs) h ys.length (ints ys) (i : Nat)) (n := xs.length) (fun i => xs.take i = ys.take i) (fun i hi hv ih => ?_) (fun hv => WP.fin fun J => ?_) 0 (Nat.zero_le _) (by simp)
      · have hi' : i < ys.length := by omega
        by_cases he : xs[i] = ys[i]
        · refine WP.go _ (ih (by rw [← List.take_append_getElem hi, ← List.take_append_getElem hi', hv, he])) fun J hJ => ?_
          rw [eh_laws_eqIntS_0]
          simp (disch := omega) only [br_t, br_f, br_tf, br_ft, br_nb, s_ofN, br_lt, br_inR, idx1, br_isI, s_getI, s_inc, br_eq, he, s_beq, beq_self_eq_true, Bool.not_true]
          exact hJ
        · refine WP.fin fun J => ?_
          rw [eh_laws_eqIntS_0]
          have hne : xs ≠ ys := fun e => he (by subst e; rfl)
          have hn8 := he
          have hbe := he
          simp (disch := first | omega | assumption) only [br_t, br_f, br_tf, br_ft, br_nb, s_ofN, br_lt, br_inR, idx1, br_isI, s_getI, br_neq, decide_eq_false hne]
      · rw [eh_laws_eqIntS_0]
        rw [List.take_length, hl, List.take_length] at hv
        simp (disch := omega) only [br_t, br_f, s_ofN, br_nlt, decide_eq_true hv]
    · rw [e_laws_eqIntS]
      simp (disch := omega) only [br_t, br_f, s_ofN, br_ft, br_nb, br_eq]
      exact hJ
  · refine Cm.fin k_laws_eqIntS fun J => ?_
    have hne : xs ≠ ys := fun e => hl (by rw [e])
    rw [e_laws_eqIntS]
    simp (disch := omega) only [br_t, br_f, s_ofN, br_ft, br_nb, br_neq, decide_eq_false hne]
theorem c_szIntS (g : Bool) (n : Nat) (c : List D) (left : Int) (h0 : 0 ≤ left) (h1 : left ≤ 1048576) (hn : n ≤ 140737488355328) : Cm 35 [.sl (some g) 1 n c, .int .i64 left] (.int .i64 (szF n left), [.undef, .undef]) := by
  refine Cm.fin k_laws_szIntS fun J => ?_
  rw [e_laws_szIntS]
  unfold szF
  by_cases h : left < n
  · rw [if_pos h]
    simp (disch := omega) only [s_ofN, s_sub, br_lt]
  · rw [if_neg h]
    simp (disch := omega) only [s_ofN, s_sub, br_nlt]
theorem c_markIntS (xs : List Int) (k : Int) (h0 : 0 ≤ k) (h1 : k + xs.length < 9223372036854775807) : Cm 26 [.sl none 1 xs.length (ints xs), .int .i64 k] (.int .i64 (k + xs.length), [.sl none 1 xs.length (ints (mkI k xs.length)), .undef]) := by
  refine Cm.go k_laws_markIntS [.sl none 0 0 [], .undef] 0 (h_laws_markIntS_0 k (0 : Nat) xs.length (ints xs)) ?_ fun J hJ => ?_
  · have e0 : h_laws_markIntS_0 k (0 : Nat) xs.length (ints xs) = (fun i : Nat => h_laws_markIntS_0 (k + i) (i : Nat) xs.length (ints ((mkI k xs.length).take i ++ xs.drop i))) 0 := by simp
    rw [e0]
    refine WP.loop (H := fun i : Nat => h_laws_markIntS_0 (k + i) (i : Nat) xs.length (ints ((mkI k xs.length).take i ++ xs.drop i))) (n := xs.length) (fun _ => True) (fun i hi _ ih => WP.go _ (ih trivial) fun J hJ => ?_) (fun _ => WP.fin fun J => ?_) 0 (Nat.zero_le _) trivial
    · have hm : i < (mkI k xs.length).length := by rw [mkI_length]; exact hi
      have hstep := drop_step (mkI_length k xs.length).symm hi hm
      rw [eh_laws_markIntS_0]
      have hel : (mkI k xs.length)[i] = k + (i : Int) := by simp [mkI]
      have hw := hel
      simp (disch := first | omega | (simp; done) | (simp; omega)) only [br_t, br_f, br_tf, br_ft, s_ofN, br_lt, br_inR, idx1, br_slotI, s_inc, s_add]
      rw [hel] at hstep
      rw [ints_set, hstep]
      have e1 : k + (i : Int) + 1 = k + ((i + 1 : Nat) : Int) := by omega
      rw [e1]
      exact hJ
    · rw [eh_laws_markIntS_0]
      simp (disch := omega) only [br_t, br_f, s_ofN, br_nlt, List.drop_length, List.append_nil]
      rw [List.take_of_length_le (by rw [mkI_length]; omega)]
  · rw [e_laws_markIntS]
    exact hJ

theorem c_toByteS (g : Bool) (xs : List UInt8) (hb : xs.length ≤ 140737488355328) (hb2 : xs.length < 9223372036854775807) : Cm 76 [.sl (some g) 1 xs.length (bytes xs)] (.sl none 1 xs.length (bytes xs), [.undef]) := by
  refine Cm.go k_laws_toByteS [.undef] 0 (h_laws_toByteS_0 g xs.length (bytes xs) (0 : Nat) xs.length (bytes (List.replicate xs.length 0))) ?_ fun J hJ => ?_
  · refine WP.loop (H := fun i => h_laws_toByteS_0 g xs.length (bytes xs) (i : Nat) xs.length (bytes (xs.take i ++ List.replicate (xs.length - i) 0))) (n := xs.length) (fun _ => True) (fun i hi _ ih => WP.go _ (ih trivial) fun J hJ => ?_) (fun _ => WP.fin fun J => ?_) 0 (Nat.zero_le _) trivial
    · rw [eh_laws_toByteS_0]
      simp (disch := first | omega | (simp; done) | (simp; omega)) only [br_t, br_f, br_tf, s_ofN, br_lt, br_inR, idx1, br_isI8, br_slot8, s_getI8, bytes_set, s_inc]
      rw [← hJ]
      congr 2
      rw [rep_step hi _ xs rfl hi]
    · rw [eh_laws_toByteS_0]
      simp (disch := omega) only [br_t, br_f, s_ofN, br_nlt, List.take_length, Nat.sub_self, List.replicate_zero, List.append_nil]
  · rw [e_laws_toByteS]
    simp (disch := omega) only [br_t, br_f, s_ofN, br_mkok, s_toN, reps_8]
    exact hJ
theorem c_eqByteS (g h : Bool) (xs ys : List UInt8) (hb : xs.length < 9223372036854775807) : Cm 77 [.sl (some g) 1 xs.length (bytes xs), .sl (some h) 1 ys.length (bytes ys)] (.bool (decide (xs = ys)), [.undef, .undef]) := by
  by_cases hl : xs.length = ys.length
  · refine Cm.go k_laws_eqByteS [.undef, .undef] 0 (h_laws_eqByteS_0 g xs.length (bytes xs) h ys.length (bytes ys) (0 : Nat)) ?_ fun J hJ => ?_
    · refine WP.loop (H := fun i => h_laws_eqByteS_0 g xs.length (bytes xs) h ys.length (bytes ys) (i : Nat)) (n := xs.length) (fun i => xs.take i = ys.take i) (fun i hi hv ih => ?_) (fun hv => WP.fin fun J => ?_) 0 (Nat.zero_le _) (by simp)
      · have hi' : i < ys.length := by omega
        by_cases he : xs[i] = ys[i]
        · refine WP.go _ (ih (by rw [← List.take_append_getElem hi, ← List.take_append_getElem hi', hv, he])) fun J hJ => ?_
          rw [eh_laws_eqByteS_0]
          simp (disch := omega) only [br_t, br_f, br_tf, br_ft, br_nb, s_ofN, br_lt, br_inR, idx1, br_isI8, s_getI8, s_inc, br_eq, he, s_beq, beq_self_eq_true, Bool.not_true]
          exact hJ
        · refine WP.fin fun J => ?_
          rw [eh_laws_eqByteS_0]
          have hne : xs ≠ ys := fun e => he (by subst e; rfl)
          have hn8 : ((xs[i].toNat : Int)) ≠ (ys[i].toNat : Int) := fun e => he (UInt8.toNat_inj.1 (by omega))
          have hbe := he
          simp (disch := first | omega | assumption) only [br_t, br_f, br_tf, br_ft, br_nb, s_ofN, br_lt, br_inR, idx1, br_isI8, s_getI8, br_neq, decide_eq_false hne]
      · rw [eh_laws_eqByteS_0]
        rw [List.take_length, hl, List.take_length] at hv
        simp (disch := omega) only [br_t, br_f, s_ofN, br_nlt, decide_eq_true hv]
    · rw [e_laws_eqByteS]
      simp (disch := omega) only [br_t, br_f, s_ofN, br_ft, br_nb, br_eq]
      exact hJ
  · refine Cm.fin k_laws_eqByteS fun J => ?_
    have hne : xs ≠ ys := fun e => hl (by rw [e])
    rw [e_laws_eqByteS]
    simp (disch := omega) only [br_t, br_f, s_ofN, br_ft, br_nb, br_neq, decide_eq_false hne]
theorem c_szByteS (g : Bool) (n : Nat) (c : List D) (left : Int) (h0 : 0 ≤ left) (h1 : left ≤ 1048576) (hn : n ≤ 140737488355328) : Cm 75 [.sl (some g) 1 n c, .int .i64 left] (.int .i64 (szF n left), [.undef, .undef]) := by
  refine Cm.fin k_laws_szByteS fun J => ?_
  rw [e_laws_szByteS]
  unfold szF
  by_cases h : left < n
  · rw [if_pos h]
    simp (disch := omega) only [s_ofN, s_sub, br_lt]
  · rw [if_neg h]
    simp (disch := omega) only [s_ofN, s_sub, br_nlt]
theorem c_markByteS (xs : List UInt8) (k : Int) (h0 : 0 ≤ k) (h1 : k + xs.length < 9223372036854775807) : Cm 84 [.sl none 1 xs.length (bytes xs), .int .i64 k] (.int .i64 (k + xs.length), [.sl none 1 xs.length (bytes (mk8 k xs.length)), .undef]) := by
  refine Cm.go k_laws_markByteS [.sl none 0 0 [], .undef] 0 (h_laws_markByteS_0 k (0 : Nat) xs.length (bytes xs)) ?_ fun J hJ => ?_
  · have e0 : h_laws_markByteS_0 k (0 : Nat) xs.length (bytes xs) = (fun i : Nat => h_laws_markByteS_0 (k + i) (i : Nat) xs.length (bytes ((mk8 k xs.length).take i ++ xs.drop i))) 0 := by simp
    rw [e0]
    refine WP.loop (H := fun i : Nat => h_laws_markByteS_0 (k + i) (i : Nat) xs.length (bytes ((mk8 k xs.length).take i ++ xs.drop i))) (n := xs.length) (fun _ => True) (fun i hi _ ih => WP.go _ (ih trivial) fun J hJ => ?_) (fun _ => WP.fin fun J => ?_) 0 (Nat.zero_le _) trivial
    · have hm : i < (mk8 k xs.length).length := by rw [mk8_length]; exact hi
      have hstep := drop_step (mk8_length k xs.length).symm hi hm
      rw [eh_laws_markByteS_0]
      have hel : (mk8 k xs.length)[i] = UInt8.ofNat ((k + (i : Int)) % 256).toNat := by simp [mk8]
      have hw : std.wrap .u8 (k + (i : Int)) = ((UInt8.ofNat ((k + (i : Int)) % 256).toNat).toNat : Int) := wrap8 _
      simp (disch := first | omega | (simp; done) | (simp; omega)) only [br_t, br_f, br_tf, br_ft, s_ofN, br_lt, br_inR, idx1, br_slot8, s_inc, s_add, hw]
      rw [hel] at hstep
      rw [bytes_set, hstep]
      have e1 : k + (i : Int) + 1 = k + ((i + 1 : Nat) : Int) := by omega
      rw [e1]
      exact hJ
    · rw [eh_laws_markByteS_0]
      simp (disch := omega) only [br_t, br_f, s_ofN, br_nlt, List.drop_length, List.append_nil]
      rw [List.take_of_length_le (by rw [mk8_length]; omega)]
  · rw [e_laws_markByteS]
    exact hJ

theorem c_toBoolS (g : Bool) (xs : List Bool) (hb : xs.length ≤ 140737488355328) (hb2 : xs.length < 9223372036854775807) : Cm 47 [.sl (some g) 1 xs.length (bools xs)] (.sl none 1 xs.length (bools xs), [.undef]) := by
  refine Cm.go k_laws_toBoolS [.undef] 0 (h_laws_toBoolS_0 g xs.length (bools xs) (0 : Nat) xs.length (bools (List.replicate xs.length false))) ?_ fun J hJ => ?_
  · refine WP.loop (H := fun i => h_laws_toBoolS_0 g xs.length (bools xs) (i : Nat) xs.length (bools (xs.take i ++ List.replicate (xs.length - i) false))) (n := xs.length) (fun _ => True) (fun i hi _ ih => WP.go _ (ih trivial) fun J hJ => ?_) (fun _ => WP.fin fun J => ?_) 0 (Nat.zero_le _) trivial
    · rw [eh_laws_toBoolS_0]
      simp (disch := first | omega | (simp; done) | (simp; omega)) only [br_t, br_f, br_tf, s_ofN, br_lt, br_inR, idx1, br_isB, br_slotB, s_getB, bools_set, s_inc]
      rw [← hJ]
      congr 2
      rw [rep_step hi _ xs rfl hi]
    · rw [eh_laws_toBoolS_0]
      simp (disch := omega) only [br_t, br_f, s_ofN, br_nlt, List.take_length, Nat.sub_self, List.replicate_zero, List.append_nil]
  · rw [e_laws_toBoolS]
    simp (disch := omega) only [br_t, br_f, s_ofN, br_mkok, s_toN, reps_B]
    exact hJ
theorem c_eqBoolS (g h : Bool) (xs ys : List Bool) (hb : xs.length < 9223372036854775807) : Cm 51 [.sl (some g) 1 xs.length (bools xs), .sl (some h) 1 ys.length (bools ys)] (.bool (decide (xs = ys)), [.undef, .undef]) := by
  by_cases hl : xs.length = ys.length
  · refine Cm.go k_laws_eqBoolS [.undef, .undef] 0 (h_laws_eqBoolS_0 g xs.length (bools xs) h ys.length (bools ys) (0 : Nat)) ?_ fun J hJ => ?_
    · refine WP.loop (H := fun i => h_laws_eqBoolS_0 g xs.length (bools xs) h ys.length (bools ys) (i : Nat)) (n := xs.length) (fun i => xs.take i = ys.take i) (fun i hi hv ih => ?_) (fun hv => WP.fin fun J => ?_) 0 (Nat.zero_le _) (by simp)
      · have hi' : i < ys.length := by omega
        by_cases he : xs[i] = ys[i]
        · refine WP.go _ (ih (by rw [← List.take_append_getElem hi, ← List.take_append_getElem hi', hv, he])) fun J hJ => ?_
          rw [eh_laws_eqBoolS_0]
          simp (disch := omega) only [br_t, br_f, br_tf, br_ft, br_nb, s_ofN, br_lt, br_inR, idx1, br_isB, s_getB, s_inc, br_eq, he, s_beq, beq_self_eq_true, Bool.not_true]
          exact hJ
        · refine WP.fin fun J => ?_
          rw [eh_laws_eqBoolS_0]
          have hne : xs ≠ ys := fun e => he (by subst e; rfl)
          have hn8 := he
          have hbe : (xs[i] == ys[i]) = false := by simpa using he
          simp (disch := first | omega | assumption) only [br_t, br_f, br_tf, br_ft, br_nb, s_ofN, br_lt, br_inR, idx1, br_isB, s_getB, br_neq, decide_eq_false hne, s_beq, hbe, Bool.not_false]
      · rw [eh_laws_eqBoolS_0]
        rw [List.take_length, hl, List.take_length] at hv
        simp (disch := omega) only [br_t, br_f, s_ofN, br_nlt, decide_eq_true hv]
    · rw [e_laws_eqBoolS]
      simp (disch := omega) only [br_t, br_f, s_ofN, br_ft, br_nb, br_eq]
      exact hJ
  · refine Cm.fin k_laws_eqBoolS fun J => ?_
    have hne : xs ≠ ys := fun e => hl (by rw [e])
    rw [e_laws_eqBoolS]
    simp (disch := omega) only [br_t, br_f, s_ofN, br_ft, br_nb, br_neq, decide_eq_false hne]
theorem c_szBoolS (g : Bool) (n : Nat) (c : List D) (left : Int) (h0 : 0 ≤ left) (h1 : left ≤ 1048576) (hn : n ≤ 140737488355328) : Cm 43 [.sl (some g) 1 n c, .int .i64 left] (.int .i64 (szF n left), [.undef, .undef]) := by
  refine Cm.fin k_laws_szBoolS fun J => ?_
  rw [e_laws_szBoolS]
  unfold szF
  by_cases h : left < n
  · rw [if_pos h]
    simp (disch := omega) only [s_ofN, s_sub, br_lt]
  · rw [if_neg h]
    simp (disch := omega) only [s_ofN, s_sub, br_nlt]
theorem c_markBoolS (xs : List Bool) (k : Int) (h0 : 0 ≤ k) (h1 : k + xs.length < 9223372036854775807) : Cm 85 [.sl none 1 xs.length (bools xs), .int .i64 k] (.int .i64 (k + xs.length), [.sl none 1 xs.length (bools (mkB k xs.length)), .undef]) := by
  refine Cm.go k_laws_markBoolS [.sl none 0 0 [], .undef] 0 (h_laws_markBoolS_0 k (0 : Nat) xs.length (bools xs)) ?_ fun J hJ => ?_
  · have e0 : h_laws_markBoolS_0 k (0 : Nat) xs.length (bools xs) = (fun i : Nat => h_laws_markBoolS_0 (k + i) (i : Nat) xs.length (bools ((mkB k xs.length).take i ++ xs.drop i))) 0 := by simp
    rw [e0]
    refine WP.loop (H := fun i : Nat => h_laws_markBoolS_0 (k + i) (i : Nat) xs.length (bools ((mkB k xs.length).take i ++ xs.drop i))) (n := xs.length) (fun _ => True) (fun i hi _ ih => WP.go _ (ih trivial) fun J hJ => ?_) (fun _ => WP.fin fun J => ?_) 0 (Nat.zero_le _) trivial
    · have hm : i < (mkB k xs.length).length := by rw [mkB_length]; exact hi
      have hstep := drop_step (mkB_length k xs.length).symm hi hm
      rw [eh_laws_markBoolS_0]
      have hel : (mkB k xs.length)[i] = ((k + (i : Int)).tmod 3 == 0) := by simp [mkB]
      have hw : std.eq (std.ar .rem .i64 (k + (i : Int)) 3) 0 = ((k + (i : Int)).tmod 3 == 0) := rfl
      simp (disch := first | omega | (simp; done) | (simp; omega)) only [br_t, br_f, br_tf, br_ft, s_ofN, br_lt, br_inR, idx1, br_slotB, s_inc, s_add, hw, br_neq]
      rw [hel] at hstep
      rw [bools_set, hstep]
      have e1 : k + (i : Int) + 1 = k + ((i + 1 : Nat) : Int) := by omega
      rw [e1]
      exact hJ
    · rw [eh_laws_markBoolS_0]
      simp (disch := omega) only [br_t, br_f, s_ofN, br_nlt, List.drop_length, List.append_nil]
      rw [List.take_of_length_le (by rw [mkB_length]; omega)]
  · rw [e_laws_markBoolS]
    exact hJ

theorem c_heldIntS (g : Bool) (k : Int) (n : Nat) (h0 : 0 ≤ k) (h1 : k + n < 9223372036854775807) : Cm 27 [.sl (some g) 1 n (ints (mkI k n)), .int .i64 k] (.int .i64 (k + n), [.undef, .undef]) := by
  refine Cm.go k_laws_heldIntS [.undef, .undef] 0 (h_laws_heldIntS_0 g n (ints (mkI k n)) k (0 : Nat)) ?_ fun J hJ => ?_
  · have e0 : h_laws_heldIntS_0 g n (ints (mkI k n)) k (0 : Nat) = (fun i : Nat => h_laws_heldIntS_0 g n (ints (mkI k n)) (k + i) (i : Nat)) 0 := by simp
    rw [e0]
    refine WP.loop (H := fun i : Nat => h_laws_heldIntS_0 g n (ints (mkI k n)) (k + i) (i : Nat)) (n := n) (fun _ => True) (fun i hi _ ih => WP.go _ (ih trivial) fun J hJ => ?_) (fun _ => WP.fin fun J => ?_) 0 (Nat.zero_le _) trivial
    · have hm : i < (mkI k n).length := by rw [mkI_length]; exact hi
      have hel : (mkI k n)[i] = k + (i : Int) := by simp [mkI]
      rw [eh_laws_heldIntS_0]
      simp (disch := first | omega | (simp; done) | (simp; omega)) only [br_t, br_f, br_tf, br_ft, br_nb, s_ofN, br_lt, br_inR, idx1, br_isI, s_getI, hel, br_eq, s_inc, s_add]
      have e1 : k + (i : Int) + 1 = k + ((i + 1 : Nat) : Int) := by omega
      rw [e1]
      exact hJ
    · rw [eh_laws_heldIntS_0]
      simp (disch := omega) only [br_t, br_f, s_ofN, br_nlt]
  · rw [e_laws_heldIntS]
    exact hJ
end Go.Proofs.Ytkejckoefjonjaa
