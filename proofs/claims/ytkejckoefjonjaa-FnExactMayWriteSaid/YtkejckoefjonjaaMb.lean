/- What the proof of FnExactMayWrite stands on, part 2: an abstract machine on plain data, its soundness, and the contracts of functions. -/
import Derived.Lib.AppendZerosOnto
import Derived.Laws.BytesString
import Derived.Laws.Small
import Derived.Laws.Runes
import Derived.Test.YtkejckoefjonjaaMa
set_option linter.all false
set_option linter.unusedSimpArgs false
set_option linter.unusedVariables false
set_option linter.unnecessarySimpa false
set_option linter.unusedSectionVars false
namespace Go.Proofs.Ytkejckoefjonjaa
def cellsV (d : D) (u : Value) : List Value :=
  match d with
  | .agg _ => u.cells.toList
  | _ => [u]
section
variable {C : Ctx} {w : World} {vss : List (Array Value)}
theorem tells_tvt {w' : World} {S S' : List (Nat × RT)} {H H' : List T} (h : Tells C w w' S S' H H' id) {d : D} {u : Value} (hd : TVt w (Free C w S H) S d u) : TVt w' (Free C w' S' H') S' d u := lift_id h hd
theorem tkCells_ok {H : List T} {st st' : St} {S : List (Nat × RT)} {d : D} {u : Value} {ds' : List D} (h : Rel C H w st vss S) (hd : TVt w (Free C w S H) S d u) (ht : tkL st (cellsOf d) = some (ds', st')) :
    ∃ ts S', Rel C (ts ++ H) w st' vss S' ∧ ersT ts = ds' ∧ valsT ts = cellsV d u ∧ Tells C w w S S' H (ts ++ H) id ∧ Dom S S' ∧ Same st st' := by
  by_cases ha : ∃ cs, d = .agg cs
  · obtain ⟨cs, rfl⟩ := ha
    obtain ⟨us, rfl, hu⟩ := hd
    exact tkL_ok h hu ht
  · have hc : cellsOf d = [d] := by cases d <;> first | rfl | exact absurd ⟨_, rfl⟩ ha
    have hv : cellsV d u = [u] := by cases d <;> first | rfl | exact absurd ⟨_, rfl⟩ ha
    rw [hc] at ht
    rw [hv]
    have hd' : TVc w (Free C w S H) S d u := by
      cases d <;> first | exact hd | (simp [tkL, tkC] at ht; done) | exact absurd ⟨_, rfl⟩ ha
    exact tkL_ok h (.cons hd' .nil) ht
theorem tkParts_ok : ∀ {ps : List (Nat × D)} {us : List (Nat × Value)} {H : List T} {st st' : St} {S : List (Nat × RT)} {ps' : List (Nat × List D)}, Rel C H w st vss S → All2 (fun p q => q.1 = p.1 ∧ TVt w (Free C w S H) S p.2 q.2) ps us → tkParts st ps = some (ps', st') →
    ∃ (pts : List (Nat × List T)) (S' : List (Nat × RT)), Rel C (pts.flatMap (·.2) ++ H) w st' vss S' ∧ pts.map (fun p => (p.1, p.2.map T.er)) = ps' ∧ All2 (fun (p : Nat × D) (q : (Nat × List T) × (Nat × Value)) => q.2.1 = q.1.1 ∧ q.1.2.map T.val = cellsV p.2 q.2.2) ps (pts.zip us) ∧ pts.length = us.length ∧ Tells C w w S S' H (pts.flatMap (·.2) ++ H) id ∧ Dom S S' ∧ Same st st' := by
  intro ps
  induction ps with
  | nil =>
    intro us H st st' S ps' h hu ht
    cases hu
    simp only [tkParts, Option.some.injEq, Prod.mk.injEq] at ht
    obtain ⟨rfl, rfl⟩ := ht
    exact ⟨[], S, h, rfl, .nil, rfl, fun _ _ h => h, Dom.refl _, Same.refl _⟩
  | cons p ps ih =>
    intro us H st st' S ps' h hu ht
    cases hu with
    | cons hu1 hu2 =>
    rename_i q qs
    obtain ⟨i, d⟩ := p
    obtain ⟨j, u⟩ := q
    obtain ⟨rfl, hu1⟩ := hu1
    simp only [tkParts] at ht
    split at ht
    case h_2 => simp at ht
    rename_i d1 st1 h1
    split at ht
    case h_2 => simp at ht
    rename_i ds1 st2 h2
    simp only [Option.some.injEq, Prod.mk.injEq] at ht
    obtain ⟨rfl, rfl⟩ := ht
    obtain ⟨ts, S1, a1, rfl, a3, a4, a5, a6⟩ := tkCells_ok h hu1 h1
    obtain ⟨pts, S2, b1, rfl, b3, b4, b5, b6, b7⟩ := ih a1 (hu2.mono (fun _ _ hh => ⟨hh.1, tells_tvt a4 hh.2⟩)) h2
    have hp : (pts.flatMap (·.2) ++ (ts ++ H)).Perm (((j, ts) :: pts).flatMap (·.2) ++ H) := by
      simp only [List.flatMap_cons]
      rw [← List.append_assoc]
      exact List.Perm.append_right _ List.perm_append_comm
    refine ⟨(j, ts) :: pts, S2, b1.perm hp, by simp [ersT_map], .cons ⟨rfl, by rw [← valsT_map]; exact a3⟩ b3, by simp [b4], fun d u hd => ?_, a5.trans b6, Same.trans a6 b7⟩
    have := b5 _ _ (a4 d u hd)
    rwa [free_perm hp] at this
end
theorem vals_parts {w : World} {X : Bool → Nat → Prop} : ∀ {pts : List (Nat × List T)} {ps : List (Nat × D)} {us : List (Nat × Value)}, All2 (fun (p : Nat × D) (q : (Nat × List T) × (Nat × Value)) => q.2.1 = q.1.1 ∧ q.1.2.map T.val = cellsV p.2 q.2.2) ps (pts.zip us) → pts.length = us.length →
    (∀ p ∈ pts, ∀ t ∈ p.2, SatT w X t ∧ cellish t.er = true) → All2 (fun p q => q.1 = p.1 ∧ q.2.cells.toList = p.2.map T.val) pts us := by
  intro pts
  induction pts with
  | nil =>
    intro ps us h hl _
    cases us with
    | nil => exact .nil
    | cons u us => simp at hl
  | cons p pts ih =>
    intro ps us h hl hs
    cases us with
    | nil => simp at hl
    | cons u us =>
      simp only [List.zip_cons_cons] at h
      cases h with
      | cons h1 h2 =>
      rename_i d ds
      obtain ⟨e1, e2⟩ := h1
      refine .cons ⟨e1, ?_⟩ (ih h2 (by simpa using hl) (fun q hq => hs q (by simp [hq])))
      simp only at e2
      rw [e2]
      obtain ⟨j, d⟩ := d
      by_cases ha : ∃ cs, d = .agg cs
      · obtain ⟨cs, rfl⟩ := ha
        rfl
      · have hv : cellsV d u.2 = [u.2] := by cases d <;> first | rfl | exact absurd ⟨_, rfl⟩ ha
        simp only at hv ⊢
        simp only [hv] at e2 ⊢
        cases hp : p.2 with
        | nil => rw [hp] at e2; simp at e2
        | cons t ts =>
          rw [hp] at e2
          simp only [List.map_cons, List.cons.injEq, List.map_eq_nil_iff] at e2
          obtain ⟨e3, rfl⟩ := e2
          obtain ⟨g1, g2⟩ := hs p (by simp) t (by simp [hp])
          have := (one_tree g1 g2).2
          rw [e3] at this
          rw [this]
section
variable {P : Program} {c : Cfg} (hcfg : CfgOk c P) {C : Ctx} {w : World} {st st' : St} {a : Act} {vss : List (Array Value)} {S : List (Nat × RT)} (h : Rel C [] w st (a.tmps :: vss) S)
include hcfg h
theorem buildSlice_ok {t e : TypeId} {ti ei : TI} (ht0 : c.ty t = some ti) (hti : ti.ty = .slice e) (he : c.ty e = some ei) {n : Nat} {ps : Array (Nat × Operand)} (hn : n * ei.size ≤ 16777216) {pvs : List (Nat × List D)} {st1 : St}
    (hp : tkParts st (ps.toList.map fun p => (p.1, evD c st e p.2)) = some (pvs, st1)) {cs : List D} (hf : fillD cellish (fun i => some (i * ei.size, ei.size)) (reps n ei.zero) pvs = some cs)
    {d : Nat} (ht : d < a.tmps.size) (hP : ∀ p ∈ C.P0, p.1 ≠ st.of + d) (hr : st1.root (some d) [.sl none ei.size n cs] (fun d => .ref d [] 0 none) = some st') :
    ∃ v w', (Instr.buildSlice t n (ps.map fun (i, x) => (i, a.eval x))).run P w = .ok v w' ∧ ∃ S', Rel C [] w' st' (a.tmps.setIfInBounds d v :: vss) S' := by
  have htm : TMs w (Free C w S []) S st.tm a.tmps := by cases h.tms with | cons a _ => exact a
  obtain ⟨inf, h1, h2, h3, z, h4, h5⟩ := (hcfg.ty _ _ he).info
  have hzl := (hcfg.ty _ _ he).len
  obtain ⟨dd, g1, g2⟩ := (hcfg.ty _ _ ht0).desc
  rw [hti] at g2
  simp only [TyD] at g2
  subst g2
  have hall : All2 (fun p q => q.1 = p.1 ∧ TVt w (Free C w S []) S p.2 q.2) (ps.toList.map fun p => (p.1, evD c st e p.2)) (ps.toList.map fun p => (p.1, a.eval p.2)) := by
    refine all2_of_get (by simp) (fun i x y hx hy => ?_)
    simp only [List.getElem?_map] at hx hy
    cases hq : ps.toList[i]? with
    | none => simp [hq] at hx
    | some q =>
      simp only [hq, Option.map_some, Option.some.injEq] at hx hy
      subst hx; subst hy
      exact ⟨rfl, ev_ok (c := c) htm e q.2⟩
  obtain ⟨pts, S1, b1, rfl, b3, b4, b5, b6, b7⟩ := tkParts_ok h hall hp
  simp only [List.append_nil] at b1 b5
  have hoks := fillD_oks hf
  obtain ⟨zt, f1, f2, f3, f4⟩ := zero_reps h5 n
  rw [← f1, ersT_map] at hf
  obtain ⟨cs', k1, k2⟩ := fillD_G T.er hf
  have hsat := b1.mem.hand
  rw [satL_iff] at hsat
  have hvals := vals_parts (X := Free C w S1 (pts.flatMap (·.2))) b3 b4 (fun p hp t ht => ⟨hsat t (List.mem_flatMap.2 ⟨p, hp, ht⟩), hoks (p.1, p.2.map T.er) (List.mem_map.2 ⟨p, hp, rfl⟩) t.er (List.mem_map.2 ⟨t, ht, rfl⟩)⟩)
  have hzs : z.cells.size = ei.size := by rw [← hzl, h5.len]; simp
  have harr : ((Array.range (n * inf.size)).map (z.cells[· % z.cells.size]!)).toList = zt.map T.val := by
    rw [← valsT_map, f2, h2, ← hzs, ← made_list]
    simp
  obtain ⟨arr, m1, m2⟩ := fillG_fill T.val (arr := (Array.range (n * inf.size)).map (z.cells[· % z.cells.size]!)) hvals k1 harr
  have hrun : (Instr.buildSlice t n (ps.map fun (i, x) => (i, a.eval x))).run P w = .ok (.slice (some ⟨w.heap.size, 0, none⟩) n n) (w.alloc (.cells arr e)) := by
    have hl : (ps.map fun (i, x) => (i, a.eval x)).toList = ps.toList.map fun p => (p.1, a.eval p.2) := by simp
    by_cases h0 : n * inf.size = 0
    · have h1' := m1
      rw [h0] at h1'
      rw [← hl, ← h2] at h1'
      simp only [Array.range_zero', Array.map_empty] at h1'
      simp [Instr.buildSlice, run_underlying g1, sizeOf, typeInfo, h1, h0, newRow, Array.range_zero']
      simp at h1'
      rw [h1']
      simp
    · rw [← hl, ← h2] at m1
      exact run_buildSlice w t e n _ arr inf z g1 h1 h4 (by rw [h2]; omega) h0 m1
  refine ⟨_, _, hrun, ?_⟩
  have hof : st1.of = st.of := b7.2.2
  obtain ⟨q1, q2⟩ := fillG_mem k1
  have hlen : cs'.length = n * ei.size := by
    rw [q2]
    have := congrArg List.length f2
    rw [valsT_len] at this
    rw [this, List.length_flatten, List.map_replicate, List.sum_replicate_nat, Array.length_toList, hzs]
  have hfoot := fillG_foot k1 (by
    rw [f3, List.nil_append]
    exact (List.nodup_append.1 b1.mem.nd).2.1)
  rw [f3] at hfoot
  rw [← k2, ← ersT_map] at hr
  refine new_row (Hs := pts.flatMap (·.2)) (H := []) (by simpa using b1) (Grown.alloc w _) (ts := cs') ⟨Nat.le_refl _, by rw [alloc_size]; omega⟩ ?_ (fun k hk => by simpa using hfoot.2 k hk) hfoot.1 (Nat.le_refl _) hlen ?_ ht (by rw [hof]; exact hP) hr
  · rw [satL_iff]
    intro x hx
    simp only [List.append_nil]
    rcases q1 x hx with h6 | ⟨p, h6, h7⟩
    · exact (satL_iff _).1 (f4 _ _) x h6
    · exact hsat x (List.mem_flatMap.2 ⟨p, h6, h7⟩)
  · have hsz : arr.size = cs'.length := by have := congrArg List.length m2; simpa using this
    refine blk_alloc w _ _ (by rw [hsz, hlen]; exact Nat.le_refl _) (fun j u hj => ?_)
    rw [← Array.getElem?_toList, m2, ← valsT_map]
    exact hj
theorem box_ok {e : TypeId} {x : Operand} {i : TI} (hlen : (cellsOf (evD c st e x)).length = i.size) (hok : (cellsOf (evD c st e x)).all (okCell st) = true) {t : Nat} (ht : t < a.tmps.size) (hP : ∀ p ∈ C.P0, p.1 ≠ st.of + t)
    (hr : st.root (some t) (cellsOf (onT (killR (st.of + t)) (evD c st e x))) (fun d => .ptr d [] 0) = some st') :
    ∃ v w', (Instr.box e (a.eval x)).run P w = .ok v w' ∧ ∃ S', Rel C [] w' st' (a.tmps.setIfInBounds t v :: vss) S' := by
  have _ := hcfg
  have htm : TMs w (Free C w S []) S st.tm a.tmps := by cases h.tms with | cons a _ => exact a
  have hd := ev_ok (c := c) htm e x
  have hall := cells_ok h.rt h.mem hd (List.all_eq_true.1 hok)
  have hrun : (Instr.box e (a.eval x)).run P w = .ok (.pointer (some ⟨w.heap.size, 0, none⟩)) (w.alloc (.cells (a.eval x).cells e)) := by
    simp [Instr.box, newVar, newRow]
  refine ⟨_, _, hrun, ?_⟩
  have hcs : cellsOf (onT (killR (st.of + t)) (evD c st e x)) = (cellsOf (evD c st e x)).map (killR (st.of + t)) := by
    by_cases ha : ∃ cs, evD c st e x = .agg cs
    · obtain ⟨cs, ha⟩ := ha
      rw [ha]; rfl
    · have hc : cellsOf (evD c st e x) = [evD c st e x] := by cases hx : evD c st e x <;> first | rfl | exact absurd ⟨_, hx⟩ ha
      have ho := List.all_eq_true.1 hok (evD c st e x) (by rw [hc]; simp)
      rw [hc]
      cases hx : evD c st e x with
      | agg cs => exact absurd ⟨_, hx⟩ ha
      | tup cs => rw [hx] at ho; simp [okCell, cellish] at ho
      | fn f cs => rw [hx] at ho; simp [okCell, cellish] at ho
      | pbox cs => rw [hx] at ho; simp [okCell, cellish] at ho
      | ref r q o y => simp only [onT, onA, List.map_cons, List.map_nil, killR]; split <;> rfl
      | ptr r q o => simp only [onT, onA, List.map_cons, List.map_nil, killR]; split <;> rfl
      | _ => rfl
  obtain ⟨l, e1, e2, e3⟩ := all2_pairs hall
  let ts : List T := l.map fun p => .v (killR (st.of + t) p.1) p.2
  have hleaf : ∀ p ∈ l, leafD (killR (st.of + t) p.1) = killR (st.of + t) p.1 := by
    intro p hp
    have h2 := e3 p hp
    obtain ⟨d, u⟩ := p
    simp only at h2 ⊢
    cases d with
    | sl g s n cs =>
      cases g with
      | none => simp [TVc, Ext] at h2
      | some g => rfl
    | ref r q o y => simp only [killR]; split <;> rfl
    | ptr r q o => simp only [killR]; split <;> rfl
    | _ => rfl
  have hers : ersT ts = (cellsOf (evD c st e x)).map (killR (st.of + t)) := by
    rw [← e1, ersT_map]
    simp only [ts, List.map_map]
    refine List.map_congr_left (fun p hp => ?_)
    simp only [Function.comp_apply, T.er]
    exact hleaf p hp
  have hvals : valsT ts = (a.eval x).cells.toList := by
    rw [← e2, valsT_map]
    simp only [ts, List.map_map]
    rfl
  have hft : ftsT ts = [] := by
    rw [ftsT_map]
    simp only [ts, List.map_map]
    rw [List.flatten_eq_nil_iff]
    intro y hy
    simp only [List.mem_map, Function.comp_apply] at hy
    obtain ⟨p, _, rfl⟩ := hy
    rfl
  rw [hcs, ← hers] at hr
  refine new_box (Hs := []) h (Grown.alloc w _) (ts := ts) ⟨Nat.le_refl _, by rw [alloc_size]; omega⟩ (fun y hy => .inr ?_) (by rw [hft]; simp) (by rw [hft]; simp) ?_ ht hP hr
  · simp only [ts, List.mem_map] at hy
    obtain ⟨p, hp, rfl⟩ := hy
    exact ⟨p.1, p.2, rfl, e3 p hp⟩
  · refine blk_alloc w _ _ ?_ (fun j u hj => ?_)
    · have := congrArg List.length hvals
      rw [valsT_len] at this
      rw [this]; simp
    · rw [hvals] at hj
      simpa using hj
theorem box_steal {e : TypeId} {x : Operand} {i : TI} (hlen : (cellsOf (evD c st e x)).length = i.size) {ds : List D} {st1 : St} (htk : tkL st (cellsOf (evD c st e x)) = some (ds, st1)) (hok : ds.all cellish = true) {t : Nat} (ht : t < a.tmps.size) (hP : ∀ p ∈ C.P0, p.1 ≠ st.of + t)
    (hr : st1.root (some t) ds (fun d => .ptr d [] 0) = some st') :
    ∃ v w', (Instr.box e (a.eval x)).run P w = .ok v w' ∧ ∃ S', Rel C [] w' st' (a.tmps.setIfInBounds t v :: vss) S' := by
  have _ := hcfg
  have htm : TMs w (Free C w S []) S st.tm a.tmps := by cases h.tms with | cons a _ => exact a
  have hd := ev_ok (c := c) htm e x
  obtain ⟨ts, S1, b1, rfl, b3, b4, b5, b6⟩ := tkCells_ok h hd htk
  have hrun : (Instr.box e (a.eval x)).run P w = .ok (.pointer (some ⟨w.heap.size, 0, none⟩)) (w.alloc (.cells (a.eval x).cells e)) := by
    simp [Instr.box, newVar, newRow]
  refine ⟨_, _, hrun, ?_⟩
  have hsat := b1.mem.hand
  rw [List.append_nil, satL_iff] at hsat
  have hvals : valsT ts = (a.eval x).cells.toList := by
    by_cases ha : ∃ cs, evD c st e x = .agg cs
    · obtain ⟨cs, ha⟩ := ha
      rw [b3, ha]; rfl
    · have hv : cellsV (evD c st e x) (a.eval x) = [a.eval x] := by cases hx : evD c st e x <;> first | rfl | exact absurd ⟨_, hx⟩ ha
      rw [hv] at b3
      rw [b3]
      cases ts with
      | nil => simp [valsT] at b3
      | cons y ys =>
        simp only [valsT, List.cons.injEq] at b3
        have := one_tree (hsat y (by simp)) (List.all_eq_true.1 hok y.er (by simp [ersT]))
        rw [b3.1] at this
        rw [this.2]
  refine new_box (Hs := ts) b1 (Grown.alloc w _) (ts := ts) ⟨Nat.le_refl _, by rw [alloc_size]; omega⟩ (fun y hy => .inl (by rw [List.append_nil]; exact hsat y hy)) (fun _ h => h) ((List.nodup_append.1 (by simpa using b1.mem.nd)).2.1) ?_ ht (by rw [b6.2.2]; exact hP) hr
  refine blk_alloc w _ _ ?_ (fun j u hj => ?_)
  · have := congrArg List.length hvals
    rw [valsT_len] at this
    rw [this]; simp
  · rw [hvals] at hj
    simpa using hj
end
end Go.Proofs.Ytkejckoefjonjaa
namespace Go.Proofs.Ytkejckoefjonjaa
theorem addr_notin {q : List Nat} : ∀ {p : Nat} {cs l : List T} {bx : Option Nat} {b off : Nat}, addrT bx cs (p :: q) = some (b, off) → cellsT cs (p :: q) = some l → (ftsT cs).Nodup → b ∉ ftsT l := by
  induction q with
  | nil =>
    intro p cs l bx b off ha hc hn
    rw [addrT] at ha
    rw [cellsT] at hc
    cases hp : cs[p]? with
    | none => simp [hp] at hc
    | some x =>
      cases x with
      | v d u => simp [hp] at hc
      | own s n cap a xs =>
        simp only [hp, cellsT, Option.some.injEq] at hc ha
        subst hc; subst ha
        obtain ⟨A, B, e, _⟩ := fts_split cs p _ hp
        rw [e] at hn
        have := (List.nodup_append.1 (List.nodup_append.1 hn).1).2.1
        simp only [T.ft, ftA, List.cons_append, List.nil_append, List.nodup_cons] at this
        exact this.1
  | cons p' q ih =>
    intro p cs l bx b off ha hc hn
    rw [addrT] at ha
    rw [cellsT] at hc
    cases hp : cs[p]? with
    | none => simp [hp] at hc
    | some x =>
      cases x with
      | v d u => simp [hp] at hc
      | own s n cap a xs =>
        simp only [hp] at hc ha
        refine ih ha hc ?_
        obtain ⟨A, B, e, _⟩ := fts_split cs p _ hp
        rw [e] at hn
        have := (List.nodup_append.1 (List.nodup_append.1 hn).1).2.1
        simp only [T.ft] at this
        exact (List.nodup_append.1 this).2.1
theorem mod_fwd {q : List Nat} {o : Nat} {t' : T} {d : D} {u : Value} : ∀ {cs cs' : List T} {q' : List Nat} {o' : Nat} {l : List T}, modT (fun l => l.set o t') cs q = some cs' → under (q ++ [o]) (q' ++ [o']) = none → cellsT cs q' = some l → l[o']? = some (.v d u) →
    ∃ l', cellsT cs' q' = some l' ∧ l'[o']? = some (.v d u) := by
  induction q with
  | nil =>
    intro cs cs' q' o' l hm hu hc ho
    simp only [modT, Option.some.injEq] at hm
    subst hm
    cases q' with
    | nil =>
      simp only [cellsT, Option.some.injEq] at hc
      subst hc
      simp only [List.nil_append, under] at hu
      split at hu
      · simp at hu
      · rename_i hne
        exact ⟨_, rfl, by rw [List.getElem?_set_ne hne]; exact ho⟩
    | cons p q' =>
      simp only [List.nil_append, List.cons_append, under] at hu
      split at hu
      · simp at hu
      · rename_i hne
        exact ⟨l, by rw [cellsT, List.getElem?_set_ne hne]; rw [cellsT] at hc; exact hc, ho⟩
  | cons p q ih =>
    intro cs cs' q' o' l hm hu hc ho
    rw [modT] at hm
    cases hp : cs[p]? with
    | none => simp [hp] at hm
    | some x =>
      cases x with
      | v d u => simp [hp] at hm
      | own s n cap a xs =>
        simp only [hp] at hm
        cases hx : modT (fun l => l.set o t') xs q with
        | none => simp [hx] at hm
        | some xs' =>
          simp only [hx, Option.some.injEq] at hm
          subst hm
          obtain ⟨hlt, _⟩ := List.getElem?_eq_some_iff.1 hp
          cases q' with
          | nil =>
            simp only [cellsT, Option.some.injEq] at hc
            subst hc
            have hne : p ≠ o' := fun e => by subst e; rw [hp] at ho; simp at ho
            exact ⟨_, rfl, by rw [List.getElem?_set_ne hne]; exact ho⟩
          | cons p' q' =>
            by_cases hpp : p = p'
            · subst hpp
              simp only [List.cons_append, under, if_true] at hu
              rw [cellsT, hp] at hc
              obtain ⟨l', h1, h2⟩ := ih hx hu hc ho
              exact ⟨l', by rw [cellsT, List.getElem?_set_self hlt]; exact h1, h2⟩
            · exact ⟨l, by rw [cellsT, List.getElem?_set_ne hpp]; rw [cellsT] at hc; exact hc, ho⟩
theorem Chg.cell_fwd {S S' : List (Nat × RT)} {r : Nat} {q : List Nat} {o : Nat} {t t' : T} (hc : Chg S S' r q o t t') {r' : Nat} {q' : List Nat} {o' : Nat} (hf : r' ≠ r ∨ under (q ++ [o]) (q' ++ [o']) = none) {d : D} {u : Value} (h : cellR S r' q' o' = some (.v d u)) : cellR S' r' q' o' = some (.v d u) := by
  by_cases he : r' = r
  · subst he
    have hf : under (q ++ [o]) (q' ++ [o']) = none := by rcases hf with hf | hf <;> first | exact absurd rfl hf | exact hf
    obtain ⟨R, cs', l, h1, h2, h3, h4, rfl⟩ := hc.ex
    unfold cellR at h ⊢
    rw [lk_pt_same]
    rw [h1] at h
    simp only at h ⊢
    cases hx : cellsT R.cs q' with
    | none => simp [hx] at h
    | some l' =>
      simp only [hx] at h
      obtain ⟨l1, h5, h6⟩ := mod_fwd h4 hf hx h
      rw [h5]
      exact h6
  · unfold cellR at h ⊢
    rw [hc.lk_ne he]
    exact h
theorem cell_fS {g : D → D} {S : List (Nat × RT)} {r : Nat} {q : List Nat} {o : Nat} {t : T} (h : cellR S r q o = some t) : cellR (fS g S) r q o = some (if q = [] then fT g t else t) := by
  unfold cellR at h ⊢
  rw [lk_fS]
  cases hr : lk S r with
  | none => simp [hr] at h
  | some R =>
    simp only [hr, Option.map_some] at h ⊢
    cases q with
    | nil =>
      simp only [cellsT, if_true] at h ⊢
      rw [List.getElem?_map, h]; rfl
    | cons p q =>
      rw [cells_fT]
      simpa using h
section
variable {C : Ctx} {H Hs : List T} {w w' : World} {st st1 st2 : St} {vss : List (Array Value)} {S S1 S' : List (Nat × RT)}
theorem tell_ok (h : Rel C H w st vss S) {g : D → D} (hg : Tame g) (htv : ∀ d u, TVc w (Free C w S H) S d u → TVc w (Free C w S H) (fS g S) (g d) u) (hge : ∀ d u, Ext w (Free C w S H) d u → Ext w (Free C w S H) (onA g d) u) (hno : ∀ d u, TVc w (Free C w S H) S d u → onA g d = g d) :
    Rel C H w (st.mapD g) vss (fS g S) ∧ Tells C w w S (fS g S) H H g := by
  have hfr : Free C w (fS g S) H = Free C w S H := by
    funext b k
    simp only [Free, ft_fS]
  refine ⟨?_, fun d u hd => by rw [hfr]; exact htv d u hd⟩
  refine h.step (f := g) ?_ rfl rfl (fun d u hd => by rw [hfr]; exact htv d u hd) ⟨by rw [ft_fS]; exact h.mem.nd, ?_, by rw [hfr]; exact h.mem.hand, by rw [ft_fS]; exact h.mem.lt⟩
    ⟨h.kept.os, h.kept.tape, h.kept.output, h.kept.size, h.kept.block, by rw [ft_fS]; exact h.kept.foot, ?_⟩
  · exact rtEq_map hg h.rt
  · intro r R' hR'
    rw [lk_fS] at hR'
    cases hx : lk S r with
    | none => simp [hx] at hR'
    | some R =>
      simp only [hx, Option.map_some, Option.some.injEq] at hR'
      subst hR'
      obtain ⟨k1, k2⟩ := h.mem.root r R hx
      have hv : valsT (R.cs.map (fT g)) = valsT R.cs := by
        rw [valsT_map, valsT_map, List.map_map]
        congr 1
        funext t
        cases t <;> rfl
      refine ⟨?_, fun t ht => ?_⟩
      · simp only [List.length_map]
        rw [hv]; exact k1
      · simp only [List.mem_map] at ht
        obtain ⟨t0, ht0, rfl⟩ := ht
        have := k2 t0 ht0
        rw [hfr]
        cases t0 with
        | own s n cap a xs => exact this
        | v d u =>
          simp only [fT, CellOk] at this ⊢
          rw [hg.leaf]
          rcases this with this | ⟨hb, this⟩
          · exact .inl (hge _ _ this)
          · exact .inr ⟨hb, by rw [hno _ _ this]; exact htv _ _ this⟩
  · intro r b vs hm R' hR'
    rw [lk_fS] at hR'
    cases hx : lk S r with
    | none => simp [hx] at hR'
    | some R =>
      simp only [hx, Option.map_some, Option.some.injEq] at hR'
      subst hR'
      have hv : valsT (R.cs.map (fT g)) = valsT R.cs := by
        rw [valsT_map, valsT_map, List.map_map]
        congr 1
        funext t
        cases t <;> rfl
      have := h.kept.par r b vs hm R hx
      simp only
      rw [hv]; exact this
end
end Go.Proofs.Ytkejckoefjonjaa
namespace Go.Proofs.Ytkejckoefjonjaa
section
variable {C : Ctx} {H Hs : List T} {w w' : World} {st st1 st2 : St} {vss : List (Array Value)} {S S1 S' : List (Nat × RT)}
theorem fts_sub {k : Nat} {ts : List T} {t : T} (ht : t ∈ ts) (hk : k ∈ t.ft) : k ∈ ftsT ts := by
  obtain ⟨i, hi⟩ := List.mem_iff_getElem?.1 ht
  obtain ⟨A, B, e, _⟩ := fts_split ts i _ hi
  rw [e]; simp [hk]
theorem cells_sub {q : List Nat} {k : Nat} {cs l : List T} (hc : cellsT cs q = some l) (hk : k ∈ ftsT l) : k ∈ ftsT cs := by
  obtain ⟨A, B, e, _⟩ := path_split hc
  rw [e]; simp [hk]
theorem root_sub_ft {r k : Nat} {R : RT} (h : lk S r = some R) (hk : k ∈ R.ft) : k ∈ ftS S := by
  obtain ⟨A, B, e, _⟩ := fts_pt h
  rw [e]; simp [hk]
theorem root_nodup (hn : (ftS S).Nodup) {r : Nat} {R : RT} (h : lk S r = some R) : R.ft.Nodup := by
  obtain ⟨A, B, e, _⟩ := fts_pt h
  rw [e] at hn
  exact (List.nodup_append.1 (List.nodup_append.1 hn).1).2.1
structure Wr (C : Ctx) (w w' : World) (S S' : List (Nat × RT)) (H H' : List T) (t1 : T) : Prop where
  stays : Stays w w' (Free C w S H) (Free C w' S' H')
  sub : ∀ k ∈ ftS S' ++ ftsT H', k ∈ ftS S ++ ftsT H
  nd : (ftS S' ++ ftsT H').Nodup
  old : ∀ k ∈ t1.ft, Free C w' S' H' false k ∧ w'.heap[k]? = w.heap[k]?
  new : ∀ k ∈ ftsT H, w'.heap[k]? = w.heap[k]?
  kept : Kept C w' S' H'
theorem write_facts (h : Rel C (Hs ++ H) w st vss S) {g : D → D} (hS : SR g S S1) {r : Nat} {q : List Nat} {o : Nat} {t0 t1 t' : T} (hc : Chg S1 S' r q o t1 t') (hgt : t1.ft = t0.ft) {R : RT} {l : List T} (hR : lk S r = some R) (hl : cellsT R.cs q = some l) (ho : l[o]? = some t0) {b off : Nat} (ha : addrT R.box R.cs q = some (b, off))
    (hHs : ftsT Hs = t'.ft) {u : Value} (hu : Upd w w' b (off + o) u) (hsz : w'.heap.size = w.heap.size) (hos : w'.os = w.os) (htape : w'.tape = w.tape) (hout : w'.output = w.output) : Wr C w w' S S' (Hs ++ H) H t1 := by
  obtain ⟨A, B, e1, e2⟩ := hc.fts
  rw [hS.foot] at e1
  have hnd := h.mem.nd
  have hlt := h.mem.lt
  have hbR : b ∈ R.ft := by
    cases q with
    | nil => simp only [addrT] at ha; cases hb : R.box with
      | none => simp [hb] at ha
      | some b' => simp only [hb, Option.map_some, Option.some.injEq, Prod.mk.injEq] at ha; simp [RT.ft, hb, ha.1]
    | cons p q => simp [RT.ft, addr_mem ha]
  have hbS : b ∈ ftS S := root_sub_ft hR hbR
  have hsub : ∀ k ∈ ftS S' ++ ftsT H, k ∈ ftS S ++ ftsT (Hs ++ H) := by
    intro k hk
    rw [e2] at hk
    rw [e1, ftsT_app, hHs]
    simp only [List.mem_append] at hk ⊢
    rcases hk with ((hk | hk) | hk) | hk
    · exact .inl (.inl (.inl hk))
    · exact .inr (.inl hk)
    · exact .inl (.inr hk)
    · exact .inr (.inr hk)
  have hndf := hnd
  rw [e1, ftsT_app, hHs] at hndf
  have p1 : (A ++ t1.ft ++ B ++ (t'.ft ++ ftsT H)).Perm (t1.ft ++ (A ++ t'.ft ++ B ++ ftsT H)) := by
    refine List.perm_iff_count.2 fun a => ?_
    simp only [List.count_append]
    omega
  have hnd2 := p1.nodup_iff.1 hndf
  obtain ⟨_, hnd3, hdisj⟩ := List.nodup_append.1 hnd2
  have hbt : b ∉ t1.ft := by
    rw [hgt]
    intro hb
    have hRn := root_nodup (List.nodup_append.1 hnd).1 hR
    have htl : t0 ∈ l := List.mem_of_getElem? ho
    have hbl : b ∈ ftsT l := fts_sub htl hb
    cases q with
    | nil =>
      simp only [addrT] at ha
      simp only [cellsT, Option.some.injEq] at hl
      subst hl
      cases hx : R.box with
      | none => simp [hx] at ha
      | some b' =>
        simp only [hx, Option.map_some, Option.some.injEq, Prod.mk.injEq] at ha
        rw [RT.ft, hx] at hRn
        simp only [Option.toList, List.cons_append, List.nil_append, List.nodup_cons] at hRn
        exact hRn.1 (ha.1 ▸ hbl)
    | cons p q =>
      rw [RT.ft] at hRn
      exact addr_notin ha hl (List.nodup_append.1 hRn).2.1 hbl
  have hne : ∀ k, k ≠ b → w'.heap[k]? = w.heap[k]? := by obtain ⟨_, _, _, _, _, h3⟩ := hu; exact h3
  have hst : Stays w w' (Free C w S (Hs ++ H)) (Free C w' S' H) := by
    intro bb k hk
    have hkb : k ≠ b := fun e => hk.2.1 (e ▸ hbS)
    refine ⟨⟨by rw [hsz]; exact hk.1, fun hx => ?_, fun hx => ?_, hk.2.2.2⟩, hne k hkb⟩
    · rcases List.mem_append.1 (hsub k (List.mem_append.2 (.inl hx))) with h3 | h3
      · exact hk.2.1 h3
      · exact hk.2.2.1 h3
    · rcases List.mem_append.1 (hsub k (List.mem_append.2 (.inr hx))) with h3 | h3
      · exact hk.2.1 h3
      · exact hk.2.2.1 h3
  refine ⟨hst, hsub, by rw [e2]; exact hnd3, fun k hk => ?_, fun k hk => ?_, ?_⟩
  · have hkS : k ∈ ftS S ++ ftsT (Hs ++ H) := by rw [e1]; simp [hk]
    refine ⟨⟨by rw [hsz]; exact hlt k hkS, fun hx => ?_, fun hx => ?_, fun _ => .inr (h.kept.foot k hkS)⟩, hne k (fun e => hbt (e ▸ hk))⟩
    · rw [e2] at hx; exact hdisj k hk k (List.mem_append.2 (.inl hx)) rfl
    · exact hdisj k hk k (List.mem_append.2 (.inr hx)) rfl
  · exact hne k (fun e => by subst e; exact (List.nodup_append.1 hnd).2.2 k hbS k hk rfl)
  · refine ⟨by rw [hos]; exact h.kept.os, by rw [htape]; exact h.kept.tape, by rw [hout]; exact h.kept.output, by rw [hsz]; exact h.kept.size, fun k h1 h2 => ?_, fun k hk => h.kept.foot k (hsub k hk), fun r1 bx vs hm R1 hr1 => ?_⟩
    · rw [hne k (fun e => ?_)]
      · exact h.kept.block k h1 h2
      · subst e
        rcases h.kept.foot k (List.mem_append.2 (.inl hbS)) with h3 | h3
        · exact h2 h3
        · omega
    · obtain ⟨R2, cs', l2, g1, g2, g3, g4, rfl⟩ := hc.ex
      by_cases he : r1 = r
      · subst he
        rw [lk_pt_same, Option.some.injEq] at hr1
        subst hr1
        obtain ⟨R3, k1, k2, k3, k4, k5⟩ := hS.cell_own g1
        rw [hR, Option.some.injEq] at k1
        subst k1
        obtain ⟨m1, m2⟩ := h.kept.par r1 bx vs hm R hR
        refine ⟨by simp only; rw [k2, m1], fun hb => ?_⟩
        cases q with
        | nil =>
          simp only [addrT] at ha
          rw [m1, hb] at ha
          simp at ha
        | cons p q =>
          simp only
          rw [(mod_vals g4).1, k4]
          exact m2 hb
      · rw [lk_pt_ne _ _ he] at hr1
        obtain ⟨R3, k1, k2, k3, k4, k5⟩ := hS.cell_own hr1
        obtain ⟨m1, m2⟩ := h.kept.par r1 bx vs hm R3 k1
        exact ⟨by rw [k2, m1], fun hb => by rw [k4]; exact m2 hb⟩
end
end Go.Proofs.Ytkejckoefjonjaa
namespace Go.Proofs.Ytkejckoefjonjaa
theorem under_long (q : List Nat) (o : Nat) : under (q ++ [o]) q = none := by
  induction q with
  | nil => rfl
  | cons p q ih => simp only [List.cons_append, under, if_true]; exact ih
theorem killP_ptr (r : Nat) (q : List Nat) (o : Nat) (e : Bool) (i : Nat) : killP r q o e (.ptr r q i) = .ptr r q i := by
  simp only [killP, if_true, under_long]
theorem tame_id : Tame id := ⟨fun _ _ _ _ => rfl, fun _ _ => rfl, fun _ h => h⟩
theorem onA_id (d : D) : onA id d = d := by cases d <;> simp [onA]
theorem mapT_id {α : Type} (f : α → α) (hf : ∀ a, f a = a) : ∀ l : List (Nat × α), mapT f l = l
  | [] => rfl
  | (k, v) :: t => by simp [mapT, hf, mapT_id f hf t]
theorem rtEq_id {l : List (Nat × List D)} {S : List (Nat × RT)} (h : RtEq l S) : RtEq l (fS id S) := by
  have := rtEq_map tame_id h
  rwa [mapT_id] at this
  intro l
  have : onA id = id := funext onA_id
  rw [this]; simp
theorem fS_at {g : D → D} {S : List (Nat × RT)} {r : Nat} {q : List Nat} {o : Nat} {R : RT} {l : List T} {t0 : T} (hR : lk S r = some R) (hl : cellsT R.cs q = some l) (ho : l[o]? = some t0) :
    ∃ R1 l1 t1, lk (fS g S) r = some R1 ∧ R1.box = R.box ∧ cellsT R1.cs q = some l1 ∧ l1[o]? = some t1 ∧ (t1 = t0 ∨ (q = [] ∧ t1 = fT g t0)) ∧ l1.length = l.length ∧ addrT R1.box R1.cs q = addrT R.box R.cs q ∧ R1.cs.length = R.cs.length := by
  cases q with
  | nil =>
    simp only [cellsT, Option.some.injEq] at hl
    subst hl
    exact ⟨⟨R.box, R.cs.map (fT g)⟩, R.cs.map (fT g), fT g t0, by rw [lk_fS, hR]; rfl, rfl, rfl, by simp [ho], .inr ⟨rfl, rfl⟩, by simp, rfl, by simp⟩
  | cons p q =>
    exact ⟨⟨R.box, R.cs.map (fT g)⟩, l, t0, by rw [lk_fS, hR]; rfl, rfl, by simp only [cells_fT]; exact hl, ho, .inl rfl, rfl, addr_fT g, by simp⟩
theorem Chg.dom' {S S' : List (Nat × RT)} {r : Nat} {q : List Nat} {o : Nat} {t t' : T} (hc : Chg S S' r q o t t') {l : List T} {R : RT} (hR : lk S r = some R) (hl : cellsT R.cs q = some l) :
    ∃ R' l', lk S' r = some R' ∧ R'.box = R.box ∧ cellsT R'.cs q = some l' ∧ l'.length = l.length ∧ addrT R'.box R'.cs q = addrT R.box R.cs q := by
  obtain ⟨R0, cs', l0, h1, h2, h3, h4, rfl⟩ := hc.ex
  rw [h1, Option.some.injEq] at hR
  subst hR
  rw [h2, Option.some.injEq] at hl
  subst hl
  obtain ⟨l1, h5, h6⟩ := cells_of_mod h4
  rw [h2, Option.some.injEq] at h5
  subst h5
  exact ⟨⟨R0.box, cs'⟩, l0.set o t', lk_pt_same _ _ _, rfl, h6, by simp, Go.Proofs.Ytkejckoefjonjaa.addr_far h4 (under_long q o)⟩
structure Sto (S S' : List (Nat × RT)) (r : Nat) (q : List Nat) (o : Nat) (t' : T) (f : D → D) : Prop where
  new : cellR S' r q o = some t'
  ptr : ∀ i, f (.ptr r q i) = .ptr r q i
  hole : ∀ r' q' o' d0 u, (sn d0).isSome = true → leafD d0 = d0 → cellR S r' q' o' = some (.v d0 u) → (r' ≠ r ∨ under (q ++ [o]) (q' ++ [o']) = none) → cellR S' r' q' o' = some (.v d0 u)
  path : ∀ {R l}, lk S r = some R → cellsT R.cs q = some l → ∃ R' l', lk S' r = some R' ∧ R'.box = R.box ∧ cellsT R'.cs q = some l' ∧ l'.length = l.length ∧ addrT R'.box R'.cs q = addrT R.box R.cs q
section
variable {C : Ctx} {H Hs : List T} {w : World} {st st1 st2 : St} {vss : List (Array Value)} {S : List (Nat × RT)}
theorem store_one (h : Rel C (Hs ++ H) w st vss S) {r : Nat} {q : List Nat} {o : Nat} {d : D} {t' t0 : T} {R : RT} {l : List T} {f : D → D} (hR : lk S r = some R) (hl : cellsT R.cs q = some l) (ho : l[o]? = some t0) {b off : Nat} (ha : addrT R.box R.cs q = some (b, off))
    (hdet : st.det r q o d = some (st1, f)) (hset : st1.setC r q o t'.er = some st2) (hcell : cellish d = true)
    (hnew : (Hs = [t'] ∧ d = t'.er) ∨ (Hs = [] ∧ q = [] ∧ ∃ u, t' = .v (f d) u ∧ TVc w (Free C w S (Hs ++ H)) S d u)) :
    ∃ S', Rel C H (w.setCell ⟨b, off + o, none⟩ t'.val) st2 vss S' ∧ Tells C w (w.setCell ⟨b, off + o, none⟩ t'.val) S S' (Hs ++ H) H f ∧ Sto S S' r q o t' f ∧ st2.of = st.of := by
  have hold : st.cell r q o = some t0.er := by rw [cell_er st S h.rt, cellR_mk hR hl, ho]; rfl
  have hHs : ftsT Hs = t'.ft := by
    rcases hnew with ⟨rfl, _⟩ | ⟨rfl, _, u, rfl, _⟩
    · simp [ftsT]
    · rfl
  have hq0 : q = [] → R.box.isSome = true := fun e => by
    subst e
    simp only [addrT] at ha
    cases hb : R.box with
    | none => simp [hb] at ha
    | some b => rfl
  obtain ⟨b', off', lim, ha', hblk, hlim, _⟩ := mem_at h.mem hR hl (fun e => by subst e; simp at ho) hq0
  rw [ha] at ha'
  simp only [Option.some.injEq, Prod.mk.injEq] at ha'
  obtain ⟨rfl, rfl⟩ := ha'
  have hol : o < l.length := (List.getElem?_eq_some_iff.1 ho).1
  have hupd := upd_set hblk (o := o) (by omega) t'.val
  generalize hw' : w.setCell ⟨b, off + o, none⟩ t'.val = w' at hupd ⊢
  have hsz : w'.heap.size = w.heap.size := by rw [← hw']; simp [World.setCell]
  have hos : w'.os = w.os := by rw [← hw']; rfl
  have htape : w'.tape = w.tape := by rw [← hw']; rfl
  have hout : w'.output = w.output := by rw [← hw']; rfl
  have fin : ∀ g : D → D, Tame g → (∀ d, g d = d ∨ (∃ r q o x, d = .ref r q o x) ∨ ∃ r q o, d = .ptr r q o) → RtEq st1.rt (fS g S) → ((st1.tm = mapT (onT f) st.tm ∧ st1.up = st.up.map (mapT (onT f))) ∨ (f = id ∧ st1.tm = st.tm ∧ st1.up = st.up)) → st1.of = st.of → (∀ i, f (.ptr r q i) = .ptr r q i) →
      (∀ S' t1, Chg (fS g S) S' r q o t1 t' → (t1 = t0 ∨ (q = [] ∧ t1 = fT g t0)) → Wr C w w' S S' (Hs ++ H) H t1 → (∀ d u, TVc w (Free C w S (Hs ++ H)) S d u → TVc w' (Free C w' S' H) S' (f d) u) ∧ (∀ d u, TVc w (Free C w S (Hs ++ H)) S d u → TVc w' (Free C w' S' H) S' (g d) u)) →
      ∃ S', Rel C H w' st2 vss S' ∧ Tells C w w' S S' (Hs ++ H) H f ∧ Sto S S' r q o t' f ∧ st2.of = st.of := by
    intro g hg hgo hrt1 htm1 hof1 hptr htell
    obtain ⟨R1, l1, t1, e1, e2, e3, e4, e5, e6, e7, _⟩ := fS_at (g := g) hR hl ho
    obtain ⟨S', hc, hrt2, htm2, hup2, hof2⟩ := setC_chg hrt1 e1 e3 e4 hset
    have hgt : t1.ft = t0.ft := by
      rcases e5 with rfl | ⟨_, rfl⟩
      · rfl
      · exact ft_fT g t0
    have hwr := write_facts h (fS_SR hg S) hc hgt hR hl ho ha hHs hupd hsz hos htape hout
    obtain ⟨htf, htg⟩ := htell S' t1 hc e5 hwr
    have hhand := h.mem.hand
    rw [satL_app] at hhand
    have hmem : Mem C w' S' H := by
      refine mem_write h.mem (g := onA g) (fS_SR hg S) hc hR (fun e => ?_) (fun _ => ha) hupd ?_ hwr.stays hwr.nd hwr.sub (satL_move hwr.stays _ hhand.2 (fun k hk => hwr.new k (by rw [ftsT_app]; simp [hk]))) (fun d u hd => by rw [tvc_onA hd]; exact htg d u hd) (fun d u hd => ?_) hsz
      · subst e
        simp only [addrT] at ha
        cases hb : R.box with
        | none => simp [hb] at ha
        | some b' => simp only [hb, Option.map_some, Option.some.injEq, Prod.mk.injEq] at ha; exact ⟨by rw [ha.1], ha.2.symm⟩
      · rcases hnew with ⟨rfl, _⟩ | ⟨rfl, rfl, u, rfl, hd⟩
        · left
          have h1 := hhand.1
          simp only [SatL] at h1
          exact sat_move hwr.stays _ h1.1 (fun k hk => hwr.new k (by rw [ftsT_app]; simp [ftsT, hk]))
        · right
          have h2 := htf d u hd
          have h3 : leafD (f d) = f d := by
            cases hx : f d with
            | sl g s n cs =>
              rw [hx] at h2
              cases g with
              | none => simp [TVc, Ext] at h2
              | some g => rfl
            | _ => rfl
          exact ⟨f d, u, rfl, rfl, by rw [h3]; exact h2⟩
      · exact ext_tame hg hgo hd
    refine ⟨S', ?_, htf, ⟨hc.cell_new, hptr, ?_, ?_⟩, hof2.trans hof1⟩
    · rcases htm1 with ⟨h1, h2⟩ | ⟨rfl, h1, h2⟩
      · exact h.step (f := f) hrt2 (by rw [htm2, h1]) (by rw [hup2, h2]) htf hmem hwr.kept
      · exact h.step_id hrt2 (by rw [htm2, h1]) (by rw [hup2, h2]) htf hmem hwr.kept
    · intro r' q' o' d0 u h3 h4 h1 h2
      refine hc.cell_fwd h2 ?_
      rw [cell_fS h1]
      split
      · simp only [fT, h4]
        cases d0 <;> first | (simp [sn] at h3; done) | simp [onA, hg.hole, hg.sl]
      · rfl
    · intro R2 l2 h1 h2
      rw [hR, Option.some.injEq] at h1
      subst h1
      rw [hl, Option.some.injEq] at h2
      subst h2
      obtain ⟨R', l', k1, k2, k3, k4, k5⟩ := hc.dom' e1 e3
      exact ⟨R', l', k1, k2.trans e2, k3, k4.trans e6, k5.trans e7⟩
  unfold St.det at hdet
  rw [hold] at hdet
  simp only [Option.some.injEq] at hdet
  have hko := only_killP r q o true
  have htk := tame_killP r q o true
  have hkill : ∀ S' t1, Chg (fS (killP r q o true) S) S' r q o t1 t' → Wr C w w' S S' (Hs ++ H) H t1 → ∀ d u, TVc w (Free C w S (Hs ++ H)) S d u → TVc w' (Free C w' S' H) S' (killP r q o true d) u :=
    fun S' t1 hc hwr d u hd => tvc_kill hwr.stays hc (by simp) (tvc_fS htk hd)
  split at hdet
  · rename_i hs
    simp only [Prod.mk.injEq] at hdet
    obtain ⟨rfl, rfl⟩ := hdet
    refine fin (killP r q o true) htk hko ?_ (.inl ⟨rfl, rfl⟩) rfl (fun i => ?_) (fun S' t1 hc ht1 hwr => ⟨fun d u hd => ?_, hkill S' t1 hc hwr⟩)
    · exact rtEq_map htk h.rt
    · simp only [detP]; exact killP_ptr _ _ _ _ _
    · have he : t1.er = t0.er := by
        rcases ht1 with rfl | ⟨_, rfl⟩
        · rfl
        · rw [er_fT htk]
          cases hx : t0.er <;> simp [hx, isSl] at hs
          simp [onA, htk.sl]
      rw [← he]
      obtain ⟨g0, s0, n0, cs0, hsl⟩ : ∃ g s n cs, t0.er = .sl g s n cs := by
        cases hx : t0.er <;> simp [hx, isSl] at hs
        exact ⟨_, _, _, _, rfl⟩
      have hsat := sat_at h.mem hR hl ho hsl
      have hsat1 : SatT w (Free C w S (Hs ++ H)) t1 := by
        rcases ht1 with rfl | ⟨_, rfl⟩
        · exact hsat
        · cases t0 with
          | own s n cap a xs => exact hsat
          | v d0 u0 =>
            simp only [T.er] at hsl
            simp only [SatT, fT] at hsat ⊢
            rw [htk.leaf, hsl]
            rw [hsl] at hsat
            simpa [onA, htk.sl] using hsat
      exact tvc_det hwr.stays hc hsat1 hwr.old (tvc_fS htk hd)
  · rename_i hs
    split at hdet
    · simp only [Prod.mk.injEq] at hdet
      obtain ⟨rfl, rfl⟩ := hdet
      refine fin (killP r q o true) htk hko ?_ (.inl ⟨rfl, rfl⟩) rfl (fun i => killP_ptr _ _ _ _ _) (fun S' t1 hc ht1 hwr => ⟨hkill S' t1 hc hwr, hkill S' t1 hc hwr⟩)
      exact rtEq_map htk h.rt
    · rename_i hs2
      simp only [Prod.mk.injEq] at hdet
      obtain ⟨rfl, rfl⟩ := hdet
      have htv : ∀ S' t1, Chg (fS id S) S' r q o t1 t' → Wr C w w' S S' (Hs ++ H) H t1 → ∀ d u, TVc w (Free C w S (Hs ++ H)) S d u → TVc w' (Free C w' S' H) S' (id d) u := by
        intro S' t1 hc hwr d' u' hd'
        have hleaf : ∃ d0 u0, t' = .v d0 u0 ∧ sn (leafD d0) = none := by
          have hsn : ∀ x : D, cellish x = true → isSl x = false → sn (leafD x) = none := by
            intro x h1 h2
            cases x <;> first | rfl | (exfalso; simp [cellish] at h1; done) | (exfalso; simp [isSl] at h2; done)
          rcases hnew with ⟨_, rfl⟩ | ⟨_, _, u, rfl, _⟩
          · cases t' with
            | own s n cap a xs => simp [T.er, isSl] at hs2
            | v d0 u0 =>
              refine ⟨d0, u0, rfl, ?_⟩
              simp only [T.er] at hs2 hcell
              have := hsn (leafD d0) hcell (by simpa using hs2)
              rwa [leafD_leafD] at this
          · exact ⟨_, _, rfl, hsn _ hcell (by simpa using hs2)⟩
        obtain ⟨d0, u0, rfl, hn⟩ := hleaf
        exact tvc_leaf hwr.stays hc (.inl hn) (tvc_fS tame_id hd')
      refine fin id tame_id (fun _ => .inl rfl) (rtEq_id h.rt) (.inr ⟨rfl, rfl, rfl⟩) rfl (fun _ => rfl) (fun S' t1 hc ht1 hwr => ⟨htv S' t1 hc hwr, htv S' t1 hc hwr⟩)
end
end Go.Proofs.Ytkejckoefjonjaa
namespace Go.Proofs.Ytkejckoefjonjaa
section
variable {P : Program} {w : World}
theorem run_store_cell {b off lim : Nat} {us : List Value} (hb : Blk w b off lim us) {o : Nat} (ho : o < lim) {v : Value} (h1 : v.oneCell' = true) : (store ⟨b, off + o, none⟩ v).run P w = .ok () (w.setCell ⟨b, off + o, none⟩ v) := by
  obtain ⟨u, hu⟩ := isSome_blk hb ho
  rw [run_store P w _ v _ h1, hu]
  simp [frozen_blk hb ho]
theorem setCell_same {b off : Nat} {v : Value} (h : w.cell? ⟨b, off, none⟩ = some v) : w.setCell ⟨b, off, none⟩ v = w := by
  have hh : (w.setCell ⟨b, off, none⟩ v).heap = w.heap := by
    apply Array.ext_getElem?
    intro k
    simp only [World.setCell, Array.getElem?_modify]
    split
    · rename_i hk
      subst hk
      cases hx : w.heap[b]? with
      | none => rfl
      | some ob =>
        cases ob with
        | cells c e fz =>
          simp only [World.cell?, hx] at h
          simp only [Option.map_some, Option.isSome_none, Bool.false_eq_true, if_false]
          congr 2
          simp at h
          apply Array.ext_getElem?
          intro j
          rw [Array.getElem?_setIfInBounds]
          split
          · rename_i hj
            subst hj
            split
            · exact h.symm
            · rename_i hlt
              rw [Array.getElem?_eq_none (by omega)] at h
              simp at h
          · rfl
        | _ => rfl
    · rfl
  have : w.setCell ⟨b, off, none⟩ v = { w with heap := (w.setCell ⟨b, off, none⟩ v).heap } := rfl
  rw [this, hh]
end
theorem movP_ptr {S : List (Nat × RT)} {r' : Nat} {q' : List Nat} {o' : Nat} {d0 : D} {u0 : Value} (h0 : cellR S r' q' o' = some (.v d0 u0)) {r : Nat} {q : List Nat} {o : Nat} {t : T} (h1 : cellR S r q o = some t) (r1 : Nat) (q1 : List Nat) (o1 i : Nat) :
    movP r' q' o' r1 q1 o1 (.ptr r q i) = .ptr r q i ∧ killP r' q' o' true (.ptr r q i) = .ptr r q i := by
  have hnone : r = r' → under (q' ++ [o']) q = none := by
    intro e
    subst e
    cases hu : under (q' ++ [o']) q with
    | none => rfl
    | some y =>
      have := under_some hu
      unfold cellR at h0 h1
      cases hr : lk S r with
      | none => simp [hr] at h0
      | some R =>
        simp only [hr] at h0 h1
        cases hc : cellsT R.cs q' with
        | none => simp [hc] at h0
        | some l =>
          simp only [hc] at h0
          rw [this, List.append_assoc, List.singleton_append, cells_leaf hc h0] at h1
          simp at h1
  simp only [movP, killP]
  by_cases e : r = r'
  · simp only [if_pos e, hnone e]
    exact ⟨trivial, trivial⟩
  · simp only [if_neg e]
    exact ⟨trivial, trivial⟩
section
variable {C : Ctx} {H : List T} {w : World} {st : St} {vss : List (Array Value)} {S : List (Nat × RT)}
theorem kill_ok (h : Rel C H w st vss S) (r : Nat) (q : List Nat) (o : Nat) (e : Bool) : Rel C H w (st.mapD (killP r q o e)) vss (fS (killP r q o e) S) ∧ Tells C w w S (fS (killP r q o e) S) H H (killP r q o e) := by
  refine tell_ok h (tame_killP r q o e) (fun d u hd => ?_) (fun d u hd => ext_tame (tame_killP r q o e) (only_killP r q o e) hd) (fun d u hd => tvc_onA hd)
  have h1 := tvc_fS (tame_killP r q o e) hd
  cases d with
  | ref r' q' o' x =>
    simp only [killP]
    split
    · split
      · exact h1
      · split
        · simp [TVc, Ext]
        · exact h1
      · simp [TVc, Ext]
    · exact h1
  | ptr r' q' o' =>
    simp only [killP]
    split
    · split
      · exact h1
      · simp [TVc, Ext]
    · exact h1
  | _ => exact h1
theorem only_movP (r : Nat) (q : List Nat) (o r1 : Nat) (q1 : List Nat) (o1 : Nat) (d : D) : movP r q o r1 q1 o1 d = d ∨ (∃ r q o x, d = .ref r q o x) ∨ ∃ r q o, d = .ptr r q o := by
  cases d <;> first | exact .inl rfl | exact .inr (.inl ⟨_, _, _, _, rfl⟩) | exact .inr (.inr ⟨_, _, _, rfl⟩)
theorem mov_ok (h : Rel C H w st vss S) {r' : Nat} {q' : List Nat} {o' : Nat} {d0 : D} {u0 : Value} (h0 : cellR S r' q' o' = some (.v d0 u0)) {r : Nat} {q : List Nat} {o : Nat} {t : T} (h1 : cellR S r q o = some t) (hl : Like (.v d0 u0) t) :
    Rel C H w (st.mapD (movP r' q' o' r q o)) vss (fS (movP r' q' o' r q o) S) ∧ Tells C w w S (fS (movP r' q' o' r q o) S) H H (movP r' q' o' r q o) := by
  have htm := tame_movP r' q' o' r q o
  refine tell_ok h htm (fun d u hd => ?_) (fun d u hd => ext_tame htm (only_movP r' q' o' r q o) hd) (fun d u hd => tvc_onA hd)
  have h2 := tvc_fS htm hd
  cases d with
  | ref r2 q2 o2 x =>
    simp only [movP]
    split
    · rename_i e
      subst e
      split
      · exact h2
      · rename_i hu
        have e1 := under_some hu
        simp only [List.append_nil] at e1
        obtain ⟨rfl, e2⟩ := List.append_inj' e1 rfl
        simp only [List.cons.injEq, and_true] at e2
        subst e2
        refine tvc_fS htm ?_
        intro t2 ht2
        rw [h1, Option.some.injEq] at ht2
        subst ht2
        exact refOk_like hl (hd _ h0)
      · simp [TVc, Ext]
    · exact h2
  | ptr r2 q2 o2 =>
    simp only [movP]
    split
    · split
      · exact h2
      · simp [TVc, Ext]
    · exact h2
  | _ => exact h2
theorem cells_ok' (hrt : RtEq st.rt S) (hm : Mem C w S []) {d : D} {u : Value} (hd : TVt w (Free C w S []) S d u) (hok : (∀ cs, d ≠ .agg cs) → okCell st d = true) : All2 (TVc w (Free C w S []) S) (cellsOf d) u.cells.toList := by
  by_cases ha : ∃ cs, d = .agg cs
  · obtain ⟨cs, rfl⟩ := ha
    obtain ⟨us, rfl, h⟩ := hd
    exact h
  · refine cells_ok hrt hm hd (fun x hx => ?_)
    have hc : cellsOf d = [d] := by cases d <;> first | rfl | exact absurd ⟨_, rfl⟩ ha
    rw [hc] at hx
    simp only [List.mem_singleton] at hx
    subst hx
    exact hok (fun cs e => ha ⟨cs, e⟩)
end
theorem okCell_cellish {st : St} {d : D} (h : okCell st d = true) : cellish d = true := by
  cases d <;> first | rfl | exact h
section
variable {P : Program} {C : Ctx} {vss : List (Array Value)}
theorem storeBox_ok : ∀ {ds : List D} {us : List Value} {w : World} {st st' : St} {S : List (Nat × RT)} {r o : Nat} {h : D → D} {b off i : Nat}, Rel C [] w st vss S → (∃ R, lk S r = some R ∧ R.box = some b) → All2 (fun d u => TVc w (Free C w S []) S (h d) u) ds us → o = off + i → storeBox st r o h ds = some st' →
    ∃ w' S', (storeCells ⟨b, off, none⟩ us i).run P w = .ok () w' ∧ Rel C [] w' st' vss S' ∧ st'.of = st.of := by
  intro ds
  induction ds with
  | nil =>
    intro us w st st' S r o h b off i hr _ hu _ hs
    cases hu
    simp only [storeBox, Option.some.injEq] at hs
    subst hs
    exact ⟨w, S, rfl, hr, rfl⟩
  | cons d ds ih =>
    intro us w st st' S r o h b off i hr hbx hu hoi hs
    cases hu with
    | cons hu1 hu2 =>
    rename_i u us
    simp only [storeBox] at hs
    split at hs
    · simp at hs
    rename_i hok
    simp only [Bool.not_eq_true', Bool.not_eq_false] at hok
    split at hs
    case h_2 => simp at hs
    rename_i st1 f hdet
    split at hs
    case h_2 => simp at hs
    rename_i st2 hset
    obtain ⟨R, hR, hb⟩ := hbx
    obtain ⟨h1, _⟩ := one_ok hr.rt hr.mem hu1 hok
    have hcell : ∃ t0, R.cs[o]? = some t0 := by
      unfold St.det at hdet
      cases hx : st.cell r [] o with
      | none => simp [hx] at hdet
      | some old =>
        obtain ⟨R', l, t, g1, g2, g3, _⟩ := cell_st hr.rt hx
        rw [hR, Option.some.injEq] at g1
        subst g1
        simp only [cellsT, Option.some.injEq] at g2
        subst g2
        exact ⟨t, g3⟩
    obtain ⟨t0, ho⟩ := hcell
    have ha : addrT R.box R.cs [] = some (b, 0) := by simp [addrT, hb]
    obtain ⟨b', off', lim, ha', hblk, hlim, _⟩ := mem_at hr.mem hR (q := []) rfl (fun e => by rw [e] at ho; simp at ho) (fun _ => by rw [hb]; rfl)
    rw [ha] at ha'
    simp only [Option.some.injEq, Prod.mk.injEq] at ha'
    obtain ⟨rfl, rfl⟩ := ha'
    have hol : o < R.cs.length := (List.getElem?_eq_some_iff.1 ho).1
    have hrun := run_store_cell (P := P) hblk (o := o) (by omega) h1
    have hfd : leafD (f (h d)) = f (h d) := by
      have key : ∀ x : D, cellish x = true → leafD x = x → leafD (f x) = f x := by
        intro x hx hx2
        unfold St.det at hdet
        cases hy : st.cell r [] o with
        | none => simp [hy] at hdet
        | some old =>
          simp only [hy, Option.some.injEq] at hdet
          have hk : leafD (killP r [] o true x) = killP r [] o true x := by
            cases x with
            | ref r' q' o' y => simp only [killP]; split <;> (try split) <;> (try split) <;> rfl
            | ptr r' q' o' => simp only [killP]; split <;> (try split) <;> rfl
            | _ => exact hx2
          split at hdet
          · simp only [Prod.mk.injEq] at hdet
            obtain ⟨_, rfl⟩ := hdet
            cases x with
            | ref r' q' o' y =>
              simp only [detP]
              split
              · split
                · rfl
                · split
                  · exact (by rename_i g _ _ _ _; cases g <;> rfl)
                  · rfl
              · rfl
            | _ => exact hk
          · split at hdet
            · simp only [Prod.mk.injEq] at hdet
              obtain ⟨_, rfl⟩ := hdet
              exact hk
            · simp only [Prod.mk.injEq] at hdet
              obtain ⟨_, rfl⟩ := hdet
              exact hx2
      refine key _ (okCell_cellish hok) ?_
      cases hx : h d with
      | sl g s n cs =>
        rw [hx] at hu1
        cases g with
        | none => simp [TVc, Ext] at hu1
        | some g => rfl
      | _ => rfl
    obtain ⟨S', a1, a2, a3, a4⟩ := store_one (Hs := []) (H := []) (t' := .v (f (h d)) u) hr hR rfl ho ha hdet (by simp only [T.er]; rw [hfd]; exact hset) (okCell_cellish hok) (.inr ⟨rfl, rfl, u, rfl, hu1⟩)
    simp only [T.val, Nat.zero_add] at a1 a2
    simp only [Nat.zero_add] at hrun
    obtain ⟨R', l', k1, k2, _⟩ := a3.path hR (q := []) rfl
    obtain ⟨w', S'', c1, c2, c3⟩ := ih (i := i + 1) (o := o + 1) (off := off) (h := fun x => f (h x)) a1 ⟨R', k1, k2.trans hb⟩ (hu2.mono (fun _ _ hh => a2 _ _ hh)) (by omega) hs
    refine ⟨w', S'', ?_, c2, c3.trans a4⟩
    rw [storeCells]
    simp only [Sem.run_bind, add_mk]
    rw [← hoi, hrun]
    exact c1
theorem storeTree_ok : ∀ {ts : List T} {w : World} {st st' : St} {S : List (Nat × RT)} {r o : Nat} {b off i : Nat}, Rel C ts w st vss S → (∃ R, lk S r = some R ∧ R.box = some b) → o = off + i → storeTree st r o (ersT ts) = some st' →
    ∃ w' S', (storeCells ⟨b, off, none⟩ (valsT ts) i).run P w = .ok () w' ∧ Rel C [] w' st' vss S' ∧ st'.of = st.of := by
  intro ts
  induction ts with
  | nil =>
    intro w st st' S r o b off i hr _ _ hs
    simp only [ersT, storeTree, Option.some.injEq] at hs
    subst hs
    exact ⟨w, S, rfl, hr, rfl⟩
  | cons t ts ih =>
    intro w st st' S r o b off i hr hbx hoi hs
    simp only [ersT, storeTree] at hs
    split at hs
    · simp at hs
    rename_i hok
    simp only [Bool.not_eq_true', Bool.not_eq_false] at hok
    split at hs
    case h_2 => simp at hs
    rename_i st1 f hdet
    split at hs
    case h_2 => simp at hs
    rename_i st2 hset
    obtain ⟨R, hR, hb⟩ := hbx
    have hhand := hr.mem.hand
    simp only [SatL] at hhand
    obtain ⟨h1, _⟩ := one_tree hhand.1 hok
    have hcell : ∃ t0, R.cs[o]? = some t0 := by
      unfold St.det at hdet
      cases hx : st.cell r [] o with
      | none => simp [hx] at hdet
      | some old =>
        obtain ⟨R', l, t, g1, g2, g3, _⟩ := cell_st hr.rt hx
        rw [hR, Option.some.injEq] at g1
        subst g1
        simp only [cellsT, Option.some.injEq] at g2
        subst g2
        exact ⟨t, g3⟩
    obtain ⟨t0, ho⟩ := hcell
    have ha : addrT R.box R.cs [] = some (b, 0) := by simp [addrT, hb]
    obtain ⟨b', off', lim, ha', hblk, hlim, _⟩ := mem_at hr.mem hR (q := []) rfl (fun e => by rw [e] at ho; simp at ho) (fun _ => by rw [hb]; rfl)
    rw [ha] at ha'
    simp only [Option.some.injEq, Prod.mk.injEq] at ha'
    obtain ⟨rfl, rfl⟩ := ha'
    have hol : o < R.cs.length := (List.getElem?_eq_some_iff.1 ho).1
    have hrun := run_store_cell (P := P) hblk (o := o) (by omega) h1
    obtain ⟨S', a1, a2, a3, a4⟩ := store_one (Hs := [t]) (H := ts) (t' := t) hr hR rfl ho ha hdet hset hok (.inl ⟨rfl, rfl⟩)
    simp only [Nat.zero_add] at a1 a2
    simp only [Nat.zero_add] at hrun
    obtain ⟨R', l', k1, k2, _⟩ := a3.path hR (q := []) rfl
    obtain ⟨w', S'', c1, c2, c3⟩ := ih (i := i + 1) (o := o + 1) (off := off) a1 ⟨R', k1, k2.trans hb⟩ (by omega) hs
    refine ⟨w', S'', ?_, c2, c3.trans a4⟩
    rw [valsT, storeCells]
    simp only [Sem.run_bind, add_mk]
    rw [← hoi, hrun]
    exact c1
end
end Go.Proofs.Ytkejckoefjonjaa
namespace Go.Proofs.Ytkejckoefjonjaa
theorem killP_ref {r : Nat} {q : List Nat} {o : Nat} {x : D} {r' : Nat} {q' : List Nat} {o' : Nat} {y : Option (Nat × Nat)} (h : killP r q o true x = .ref r' q' o' y) : x = .ref r' q' o' y ∧ (r' ≠ r ∨ under (q ++ [o]) (q' ++ [o']) = none) := by
  cases x with
  | ref r2 q2 o2 x2 =>
    simp only [killP] at h
    split at h
    · split at h
      · rename_i hu
        simp only [D.ref.injEq] at h
        obtain ⟨rfl, rfl, rfl, rfl⟩ := h
        exact ⟨rfl, .inr hu⟩
      · simp at h
      · simp at h
    · rename_i hne
      simp only [D.ref.injEq] at h
      obtain ⟨rfl, rfl, rfl, rfl⟩ := h
      exact ⟨rfl, .inl hne⟩
  | ptr r2 q2 o2 =>
    simp only [killP] at h
    split at h
    · split at h <;> simp at h
    · simp at h
  | _ => simp [killP] at h
theorem detP_ref {r : Nat} {q : List Nat} {o : Nat} {old x : D} {r' : Nat} {q' : List Nat} {o' : Nat} {y : Option (Nat × Nat)} (h : detP r q o old x = .ref r' q' o' y) : x = .ref r' q' o' y ∧ (r' ≠ r ∨ under (q ++ [o]) (q' ++ [o']) = none) := by
  cases x with
  | ref r2 q2 o2 x2 =>
    simp only [detP] at h
    split at h
    · split at h
      · rename_i hu
        simp only [D.ref.injEq] at h
        obtain ⟨rfl, rfl, rfl, rfl⟩ := h
        exact ⟨rfl, .inr hu⟩
      · split at h
        · rename_i g s n cs _
          cases g <;> simp [exT] at h
        · simp at h
    · rename_i hne
      simp only [D.ref.injEq] at h
      obtain ⟨rfl, rfl, rfl, rfl⟩ := h
      exact ⟨rfl, .inl hne⟩
  | _ => exact killP_ref h
theorem det_ref {st st1 : St} {r : Nat} {q : List Nat} {o : Nat} {d : D} {f : D → D} (h : st.det r q o d = some (st1, f)) (hd : isSl d = true) {x : D} {r' : Nat} {q' : List Nat} {o' : Nat} {y : Option (Nat × Nat)} (hx : f x = .ref r' q' o' y) : x = .ref r' q' o' y ∧ (r' ≠ r ∨ under (q ++ [o]) (q' ++ [o']) = none) := by
  unfold St.det at h
  split at h
  case h_2 => simp at h
  simp only [Option.some.injEq] at h
  split at h
  · simp only [Prod.mk.injEq] at h
    obtain ⟨_, rfl⟩ := h
    exact detP_ref hx
  · try rw [if_pos hd] at h
    simp only [hd, if_true, Prod.mk.injEq] at h
    obtain ⟨_, rfl⟩ := h
    exact killP_ref hx
theorem tkC_sl {st st' : St} {r : Nat} {q : List Nat} {o : Nat} {x : Option (Nat × Nat)} {d : D} (h : tkC st (.ref r q o x) = some (d, st')) : isSl d = true := by
  simp only [tkC] at h
  split at h
  · split at h
    · simp only [Option.some.injEq, Prod.mk.injEq] at h
      rw [← h.1]; rfl
    · simp at h
  · simp only [Option.some.injEq, Prod.mk.injEq] at h
    rw [← h.1]; rfl
  · simp at h
section
variable {P : Program} {C : Ctx} {vss : List (Array Value)}
theorem storeRow_ok : ∀ {ds : List D} {us : List Value} {w : World} {st st' : St} {S : List (Nat × RT)} {r : Nat} {q : List Nat} {o : Nat} {h : D → D} {b off0 off i : Nat}, Rel C [] w st vss S → TVc w (Free C w S []) S (.ptr r q 0) (.pointer (some ⟨b, off0, none⟩)) → All2 (fun d u => TVc w (Free C w S []) S (h d) u) ds us → off + i = off0 + o → storeRow st r q o h ds = some st' →
    ∃ w' S', (storeCells ⟨b, off, none⟩ us i).run P w = .ok () w' ∧ Rel C [] w' st' vss S' ∧ st'.of = st.of := by
  intro ds
  induction ds with
  | nil =>
    intro us w st st' S r q o h b off0 off i hr _ hu _ hs
    cases hu
    simp only [storeRow, Option.some.injEq] at hs
    subst hs
    exact ⟨w, S, rfl, hr, rfl⟩
  | cons d ds ih =>
    intro us w st st' S r q o h b off0 off i hr hp hu hoi hs
    cases hu with
    | cons hu1 hu2 =>
    rename_i u us
    have place : ∀ {H : List T} {st0 : St} {S0 : List (Nat × RT)}, Rel C H w st0 vss S0 → TVc w (Free C w S0 H) S0 (.ptr r q 0) (.pointer (some ⟨b, off0, none⟩)) → ∀ {old : D}, st0.cell r q o = some old →
        ∃ R l t0 lim, lk S0 r = some R ∧ cellsT R.cs q = some l ∧ l[o]? = some t0 ∧ t0.er = old ∧ addrT R.box R.cs q = some (b, off0) ∧ Blk w b off0 lim (valsT l) ∧ o < lim := by
      intro H st0 S0 hr0 hp0 old hc
      obtain ⟨R, l, t0, g1, g2, g3, g4, g5⟩ := cell_st hr0.rt hc
      obtain ⟨hb1, hb2⟩ := hp0 R g1
      obtain ⟨b', off', lim, k1, k2, k3, _⟩ := mem_at hr0.mem g1 g2 (fun e => by subst e; simp at g3) hb1
      have := hb2 b' off' k1
      simp only [Value.pointer.injEq, Option.some.injEq, Addr.mk.injEq, Nat.add_zero, and_true] at this
      obtain ⟨rfl, rfl⟩ := this
      exact ⟨R, l, t0, lim, g1, g2, g3, g5.symm, k1, k2, by have := (List.getElem?_eq_some_iff.1 g3).1; omega⟩
    simp only [storeRow] at hs
    split at hs
    · rename_i hat
      simp only [Bool.and_eq_true] at hat
      obtain ⟨hat, hok⟩ := hat
      have hd : h d = .ref r q o none := by
        cases hx : h d with
        | ref r2 q2 o2 x2 =>
          rw [hx] at hat
          cases x2 with
          | none =>
            simp only [isAt, Bool.and_eq_true, decide_eq_true_eq] at hat
            obtain ⟨⟨rfl, rfl⟩, rfl⟩ := hat
            rfl
          | some p => simp [isAt] at hat
        | _ => rw [hx] at hat; simp [isAt] at hat
      rw [hd] at hok hu1
      obtain ⟨h1, _⟩ := one_ok hr.rt hr.mem hu1 hok
      simp only [okCell] at hok
      split at hok
      case h_2 => simp at hok
      rename_i g s n cs hc
      obtain ⟨R, l, t0, lim, g1, g2, g3, g4, g5, g6, g7⟩ := place hr hp hc
      have hval : u = t0.val := by
        have := hu1 t0 (by rw [cellR_mk g1 g2]; exact g3)
        unfold RefOk at this
        rw [g4] at this
        exact this
      have hrun := run_store_cell (P := P) g6 g7 h1
      rw [setCell_same (by rw [hval]; exact cell_blk g6 (by rw [valsT_get, g3]; rfl))] at hrun
      obtain ⟨w', S', c1, c2, c3⟩ := ih (i := i + 1) (o := o + 1) (off := off) hr hp hu2 (by omega) hs
      refine ⟨w', S', ?_, c2, c3⟩
      rw [storeCells]
      simp only [Sem.run_bind, add_mk]
      rw [hoi, hrun]
      exact c1
    · split at hs
      case h_2 => simp at hs
      rename_i d' st1 htk
      split at hs
      · simp at hs
      rename_i hcl
      simp only [Bool.not_eq_true', Bool.not_eq_false] at hcl
      split at hs
      case h_2 => simp at hs
      rename_i st2 f hdet
      split at hs
      case h_2 => simp at hs
      rename_i st3 hset
      obtain ⟨t, S1, a1, rfl, a3, a4, a5, a6, a7⟩ := take_ok hr hu1 htk
      have hp1 := a4 _ _ hp
      have hcell : ∃ old, st1.cell r q o = some old := by
        unfold St.det at hdet
        cases hx : st1.cell r q o with
        | none => simp [hx] at hdet
        | some old => exact ⟨old, rfl⟩
      obtain ⟨old, hcell⟩ := hcell
      obtain ⟨R, l, t0, lim, g1, g2, g3, g4, g5, g6, g7⟩ := place a1 hp1 hcell
      have hhand := a1.mem.hand
      simp only [SatL] at hhand
      obtain ⟨h1, _⟩ := one_tree hhand.1 hcl
      have hrun := run_store_cell (P := P) g6 g7 h1
      obtain ⟨S2, b1, b2, b3, b4⟩ := store_one (Hs := [t]) (H := []) (t' := t) a1 g1 g2 g3 g5 hdet hset hcl (.inl ⟨rfl, rfl⟩)
      rw [a3] at hrun b1 b2
      generalize hw' : w.setCell ⟨b, off0 + o, none⟩ u = w1 at hrun b1 b2
      have hp2 := b2 _ _ hp1
      rw [b3.ptr] at hp2
      have hmoved : ∃ S3, Rel C [] w1 (st3.moved (f (h d)) r q o) vss S3 ∧ Tells C w1 w1 S2 S3 [] [] (movedF (f (h d)) r q o) ∧ movedF (f (h d)) r q o (.ptr r q 0) = .ptr r q 0 ∧ (st3.moved (f (h d)) r q o).of = st3.of := by
        cases hx : f (h d) with
        | ref r' q' o' y =>
          have hh : isSl t.er = true := by
            cases hd : h d with
            | ref r2 q2 o2 x2 => rw [hd] at htk; exact tkC_sl htk
            | _ =>
              exfalso
              rw [hd] at hx
              unfold St.det at hdet
              rw [hcell] at hdet
              simp only [Option.some.injEq] at hdet
              split at hdet
              · simp only [Prod.mk.injEq] at hdet
                obtain ⟨_, rfl⟩ := hdet
                have := (detP_ref hx).1
                simp at this
              · split at hdet
                · simp only [Prod.mk.injEq] at hdet
                  obtain ⟨_, rfl⟩ := hdet
                  have := (killP_ref hx).1
                  simp at this
                · simp only [Prod.mk.injEq] at hdet
                  obtain ⟨_, rfl⟩ := hdet
                  simp at hx
          obtain ⟨hd, hfar⟩ := det_ref hdet hh hx
          obtain ⟨d0, u0, k1, k2, k3, k4⟩ := a7 r' q' o' y hd
          have hhole := b3.hole r' q' o' d0 u0 k1 k2 k3 hfar
          cases y with
          | none =>
            obtain ⟨m1, m2⟩ := mov_ok b1 hhole b3.new (k4 rfl)
            exact ⟨_, m1, m2, (movP_ptr hhole b3.new r q o 0).1, rfl⟩
          | some y =>
            obtain ⟨m1, m2⟩ := kill_ok b1 r' q' o' true
            exact ⟨_, m1, m2, (movP_ptr hhole b3.new r q o 0).2, rfl⟩
        | _ => exact ⟨S2, b1, fun _ _ hh => hh, rfl, rfl⟩
      obtain ⟨S3, c1, c2, c3, c4⟩ := hmoved
      have hp3 := c2 _ _ hp2
      rw [c3] at hp3
      obtain ⟨w', S', e1, e2, e3⟩ := ih (i := i + 1) (o := o + 1) (off := off) (h := fun x => movedF (f (h d)) r q o (f (h x))) c1 hp3 (hu2.mono (fun _ _ hh => c2 _ _ (b2 _ _ (a4 _ _ hh)))) (by omega) hs
      refine ⟨w', S', ?_, e2, e3.trans (c4.trans (b4.trans a6.2.2))⟩
      rw [storeCells]
      simp only [Sem.run_bind, add_mk]
      rw [hoi, hrun]
      exact e1
theorem storeTree_oks {st st' : St} {r : Nat} : ∀ {ds : List D} {st st' : St} {o : Nat}, storeTree st r o ds = some st' → ∀ d ∈ ds, cellish d = true := by
  intro ds
  induction ds with
  | nil => intro st st' o _ d hd; simp at hd
  | cons d ds ih =>
    intro st st' o hs x hx
    simp only [storeTree] at hs
    split at hs
    · simp at hs
    rename_i hok
    simp only [Bool.not_eq_true', Bool.not_eq_false] at hok
    split at hs
    case h_2 => simp at hs
    split at hs
    case h_2 => simp at hs
    rcases List.mem_cons.1 hx with rfl | hx
    · exact hok
    · exact ih hs x hx
theorem storeD_ok {c : Cfg} (hcfg : CfgOk c P) {w : World} {st st' : St} {S : List (Nat × RT)} (h : Rel C [] w st vss S) {t : TypeId} {i : TI} (ht : c.ty t = some i) {a v : D} {ua uv : Value} (ha : TVt w (Free C w S []) S a ua) (hv : TVt w (Free C w S []) S v uv) {steal : Nat → Bool} (hs : storeD st steal i.size a v = some st') :
    ∃ w' S', (Instr.storeAt t ua uv).run P w = .ok () w' ∧ Rel C [] w' st' vss S' ∧ st'.of = st.of := by
  cases a with
  | ptr r q o =>
    simp only [storeD] at hs
    split at hs
    case isFalse => simp at hs
    rename_i hc
    obtain ⟨hlen, hlive⟩ := hc
    obtain ⟨R, b, off, hR, haddr, rfl⟩ := live_at h.rt h.mem hlive ha
    have hsz := (hcfg.ty _ _ ht).sz w
    have hp : TVc w (Free C w S []) S (.ptr r q 0) (.pointer (some ⟨b, off, none⟩)) := by
      intro R' hR'
      rw [hR, Option.some.injEq] at hR'
      subst hR'
      refine ⟨(ha R hR).1, fun b' off' e => ?_⟩
      rw [haddr, Option.some.injEq, Prod.mk.injEq] at e
      obtain ⟨rfl, rfl⟩ := e
      rfl
    have hsa : ∀ A : Addr, (Instr.sureAddr (.pointer (some A))).run P w = .ok A w := fun A => rfl
    have run : ∀ {us : List Value} {w' : World}, uv.cells.toList = us → us.length = i.size → (storeCells ⟨b, off + o, none⟩ us 0).run P w = .ok () w' → (Instr.storeAt t (.pointer (some ⟨b, off + o, none⟩)) uv).run P w = .ok () w' := by
      intro us w' e1 e2 e3
      have e4 : uv.cells.size = i.size := by rw [← e2, ← e1]; simp
      simp only [Instr.storeAt, Sem.run_bind, hsa, Result.andThen_ok, storeVar, hsz]
      simp only [e4, ne_eq, not_true_eq_false, if_false, Sem.run_bind, Sem.run_pure, Result.andThen_ok, e1]
      exact e3
    have hleaf : ∀ {ds : List D}, storeBox st r o id ds = some st' ∨ storeRow st r q o id ds = some st' → ds = cellsOf v → (∀ cs, v ≠ .agg cs) → okCell st v = true ∨ ∃ d' st1, tkC st v = some (d', st1) ∧ cellish d' = true := by
      intro ds h1 h2 h3
      have hc : cellsOf v = [v] := by cases v <;> first | rfl | exact absurd rfl (h3 _)
      rw [hc] at h2
      subst h2
      rcases h1 with h1 | h1
      · simp only [storeBox, id] at h1
        split at h1
        · simp at h1
        rename_i hok
        simp only [Bool.not_eq_true', Bool.not_eq_false] at hok
        exact .inl hok
      · simp only [storeRow, id] at h1
        split at h1
        · rename_i hh
          simp only [Bool.and_eq_true] at hh
          exact .inl hh.2
        split at h1
        case h_2 => simp at h1
        rename_i d' st1 htk
        split at h1
        · simp at h1
        rename_i hcl
        simp only [Bool.not_eq_true', Bool.not_eq_false] at hcl
        exact .inr ⟨d', st1, htk, hcl⟩
    have hcells : ∀ {ds : List D}, storeBox st r o id ds = some st' ∨ storeRow st r q o id ds = some st' → ds = cellsOf v → All2 (TVc w (Free C w S []) S) (cellsOf v) uv.cells.toList := by
      intro ds h1 h2
      by_cases hagg : ∃ cs, v = .agg cs
      · obtain ⟨cs, rfl⟩ := hagg
        obtain ⟨us, rfl, hh⟩ := hv
        exact hh
      · have h3 : ∀ cs, v ≠ .agg cs := fun cs e => hagg ⟨cs, e⟩
        rcases hleaf h1 h2 h3 with h4 | ⟨d', st1, h4, h5⟩
        · exact cells_ok' h.rt h.mem hv (fun _ => h4)
        · have hc : cellsOf v = [v] := by cases v <;> first | rfl | exact absurd rfl (h3 _)
          have hv' : TVc w (Free C w S []) S v uv := by
            cases v <;> first | exact hv | (simp [tkC] at h4; done) | exact absurd rfl (h3 _)
          obtain ⟨t', S1, a1, rfl, a3, _⟩ := take_ok h hv' h4
          have hhand := a1.mem.hand
          simp only [SatL] at hhand
          have := (one_tree hhand.1 h5).2
          rw [a3] at this
          rw [hc, this]
          exact .cons hv' .nil
    cases q with
    | nil =>
      have hb : ∃ b', R.box = some b' ∧ b' = b ∧ off = 0 := by
        simp only [addrT] at haddr
        cases hx : R.box with
        | none => simp [hx] at haddr
        | some b' => simp only [hx, Option.map_some, Option.some.injEq, Prod.mk.injEq] at haddr; exact ⟨b', rfl, haddr.1, haddr.2.symm⟩
      obtain ⟨b', hb, rfl, rfl⟩ := hb
      simp only at hs
      split at hs
      · split at hs
        case h_2 => simp at hs
        rename_i cs st1 htk
        obtain ⟨ts, S1, b1, rfl, b3, b4, b5, b6⟩ := tkCells_ok h hv htk
        rw [List.append_nil] at b1 b4
        have hoks := storeTree_oks (st := st1) (st' := st') hs
        obtain ⟨R1, k1, k2, _⟩ := b5.fwd r R hR
        have hsat := b1.mem.hand
        rw [satL_iff] at hsat
        have hvals : valsT ts = uv.cells.toList := by
          by_cases hagg : ∃ cs, v = .agg cs
          · obtain ⟨cs, rfl⟩ := hagg
            exact b3
          · have hcv : cellsV v uv = [uv] := by cases v <;> first | rfl | exact absurd ⟨_, rfl⟩ hagg
            rw [hcv] at b3
            rw [b3]
            cases ts with
            | nil => simp [valsT] at b3
            | cons y ys =>
              simp only [valsT, List.cons.injEq] at b3
              have := one_tree (hsat y (by simp)) (hoks y.er (by simp [ersT]))
              rw [b3.1] at this
              rw [this.2]
        have hl2 : (ersT ts).length = i.size := by
          rw [← hlen]
          have h1 := congrArg List.length hvals
          rw [valsT_len] at h1
          rw [ersT_len, h1]
          by_cases hagg : ∃ cs, v = .agg cs
          · obtain ⟨cs, rfl⟩ := hagg
            obtain ⟨us, rfl, hh⟩ := hv
            have := hh.len
            simp only [cellsOf, Value.cells]
            exact this.symm
          · have hcv : cellsV v uv = [uv] := by cases v <;> first | rfl | exact absurd ⟨_, rfl⟩ hagg
            have hcc : cellsOf v = [v] := by cases v <;> first | rfl | exact absurd ⟨_, rfl⟩ hagg
            rw [hcv] at b3
            rw [← hvals, b3, hcc]; rfl
        obtain ⟨w', S', c1, c2, c3⟩ := storeTree_ok (P := P) (b := b') (off := 0 + o) (i := 0) b1 ⟨R1, k1, k2.trans hb⟩ (by omega) hs
        refine ⟨w', S', ?_, c2, c3.trans b6.2.2⟩
        exact run hvals.symm (by rw [valsT_len]; rw [ersT_len] at hl2; exact hl2) c1
      · have hall := hcells (.inl hs) rfl
        obtain ⟨w', S', c1, c2, c3⟩ := storeBox_ok (P := P) (b := b') (off := 0 + o) (i := 0) h ⟨R, hR, hb⟩ hall (by omega) hs
        exact ⟨w', S', run rfl (by rw [← hall.len]; exact hlen) c1, c2, c3⟩
    | cons p q =>
      simp only at hs
      have hall := hcells (.inr hs) rfl
      obtain ⟨w', S', c1, c2, c3⟩ := storeRow_ok (P := P) (b := b) (off0 := off) (off := off + o) (i := 0) h hp hall (by omega) hs
      exact ⟨w', S', run rfl (by rw [← hall.len]; exact hlen) c1, c2, c3⟩
  | _ => simp [storeD] at hs
end
end Go.Proofs.Ytkejckoefjonjaa
namespace Go.Proofs.Ytkejckoefjonjaa
theorem setCells_upd {b : Nat} : ∀ (vs : List Value) (o : Nat) (w : World) {c : Array Value} {e : TypeId} {fz : Nat × Nat}, w.heap[b]? = some (.cells c e fz) → o + vs.length ≤ c.size →
    ∃ c' : Array Value, (w.setCells b o vs).heap[b]? = some (.cells c' e fz) ∧ c'.size = c.size ∧ (∀ (j : Nat) (u : Value), vs[j]? = some u → c'[o + j]? = some u) ∧ (∀ i, i < o ∨ o + vs.length ≤ i → c'[i]? = c[i]?) ∧ (∀ k, k ≠ b → (w.setCells b o vs).heap[k]? = w.heap[k]?) ∧
      (w.setCells b o vs).heap.size = w.heap.size ∧ (w.setCells b o vs).os = w.os ∧ (w.setCells b o vs).tape = w.tape ∧ (w.setCells b o vs).output = w.output
  | [], o, w, c, e, fz, h, _ => ⟨c, h, rfl, by simp, fun _ _ => rfl, fun _ _ => rfl, rfl, rfl, rfl, rfl⟩
  | v :: vs, o, w, c, e, fz, h, hl => by
    have h1 : (w.setCell ⟨b, o, none⟩ v).heap[b]? = some (.cells (c.setIfInBounds o v) e fz) := by
      simp [World.setCell, Array.getElem?_modify, h]
    simp only [List.length_cons] at hl
    obtain ⟨c', g1, g2, g3, g4, g5, g6, g7, g8, g9⟩ := setCells_upd vs (o + 1) (w.setCell ⟨b, o, none⟩ v) h1 (by simp; omega)
    refine ⟨c', g1, by rw [g2]; simp, ?_, ?_, ?_, ?_, g7, g8, g9⟩
    · intro j u hj
      cases j with
      | zero =>
        simp only [List.getElem?_cons_zero, Option.some.injEq] at hj
        subst hj
        rw [Nat.add_zero, g4 o (.inl (by omega)), Array.getElem?_setIfInBounds_self_of_lt (by omega)]
      | succ j =>
        simp only [List.getElem?_cons_succ] at hj
        have := g3 j u hj
        rw [show o + (j + 1) = o + 1 + j by omega]; exact this
    · intro i hi
      rw [g4 i (by simp only [List.length_cons] at hi; omega), Array.getElem?_setIfInBounds_ne (by simp only [List.length_cons] at hi; omega)]
    · intro k hk
      rw [World.setCells, g5 k hk]
      simp only [World.setCell, Array.getElem?_modify]
      rw [if_neg (by simpa using Ne.symm hk)]
    · rw [World.setCells, g6]; simp [World.setCell]
section
variable {C : Ctx} {H : List T} {w : World} {st st' : St} {vss : List (Array Value)} {S : List (Nat × RT)}
theorem hand_grow {Ys : List T} {s n cap m b off : Nat} {ts : List T} (h : Rel C (Ys ++ .own s n cap (some (b, off)) ts :: H) w st vss S) (hm : Ys.length = m * s) (hc : n + m ≤ cap) :
    Rel C (.own s (n + m) cap (some (b, off)) (ts ++ Ys) :: H) (w.setCells b (off + n * s) (valsT Ys)) st vss S ∧
    Tells C w (w.setCells b (off + n * s) (valsT Ys)) S S (Ys ++ .own s n cap (some (b, off)) ts :: H) (.own s (n + m) cap (some (b, off)) (ts ++ Ys) :: H) id := by
  have hhand := h.mem.hand
  rw [satL_app] at hhand
  obtain ⟨hY, hT⟩ := hhand
  simp only [SatL, SatT] at hT
  obtain ⟨⟨h1, h2, hblk, h4⟩, hH⟩ := hT
  obtain ⟨c, e, fz, g1, g2, g3, g4⟩ := hblk
  have hmul : n * s + m * s ≤ cap * s := by rw [← Nat.add_mul]; exact Nat.mul_le_mul_right _ hc
  obtain ⟨c', k1, k2, k3, k4, k5, k6, k7, k8, k9⟩ := setCells_upd (valsT Ys) (off + n * s) w g1 (by rw [valsT_len, hm]; omega)
  generalize w.setCells b (off + n * s) (valsT Ys) = w' at k1 k5 k6 k7 k8 k9 ⊢
  have hperm : (ftsT (.own s (n + m) cap (some (b, off)) (ts ++ Ys) :: H)).Perm (ftsT (Ys ++ .own s n cap (some (b, off)) ts :: H)) := by
    refine List.perm_iff_count.2 fun a => ?_
    simp only [ftsT, ftsT_app, T.ft, ftA, List.count_append]
    omega
  have hmem : ∀ k, k ∈ ftsT (.own s (n + m) cap (some (b, off)) (ts ++ Ys) :: H) ↔ k ∈ ftsT (Ys ++ .own s n cap (some (b, off)) ts :: H) := fun k => hperm.mem_iff
  have hb : b ∈ ftsT (Ys ++ .own s n cap (some (b, off)) ts :: H) := by simp [ftsT_app, ftsT, T.ft, ftA]
  have hnd := h.mem.nd
  have hst : Stays w w' (Free C w S (Ys ++ .own s n cap (some (b, off)) ts :: H)) (Free C w' S (.own s (n + m) cap (some (b, off)) (ts ++ Ys) :: H)) := by
    intro bb k hk
    exact ⟨⟨by rw [k6]; exact hk.1, hk.2.1, fun hx => hk.2.2.1 ((hmem k).1 hx), hk.2.2.2⟩, k5 k (fun e => hk.2.2.1 (e ▸ hb))⟩
  have htv : ∀ d u, TVc w (Free C w S (Ys ++ .own s n cap (some (b, off)) ts :: H)) S d u → TVc w' (Free C w' S (.own s (n + m) cap (some (b, off)) (ts ++ Ys) :: H)) S d u := fun d u hd => tvc_fewer hst (fun _ _ h => h) hd
  have hbo : ∀ k, k ∈ ftS S ∨ k ∈ ftsT ts ∨ k ∈ ftsT Ys ∨ k ∈ ftsT H → k ≠ b := by
    intro k hk e
    subst e
    have hn2 : (ftS S ++ (ftsT Ys ++ (k :: ftsT ts ++ ftsT H))).Nodup := by
      have := hnd
      rw [ftsT_app, ftsT, T.ft, ftA] at this
      simpa using this
    have p1 : (ftS S ++ (ftsT Ys ++ (k :: ftsT ts ++ ftsT H))).Perm (k :: (ftS S ++ (ftsT Ys ++ (ftsT ts ++ ftsT H)))) := by
      refine List.perm_iff_count.2 fun a => ?_
      simp only [List.count_append, List.count_cons]
      omega
    have hn3 := p1.nodup_iff.1 hn2
    simp only [List.nodup_cons, List.mem_append] at hn3
    rcases hk with hk | hk | hk | hk
    · exact hn3.1 (.inl hk)
    · exact hn3.1 (.inr (.inr (.inl hk)))
    · exact hn3.1 (.inr (.inl hk))
    · exact hn3.1 (.inr (.inr (.inr hk)))
  refine ⟨h.step_id h.rt rfl rfl htv ⟨(List.Perm.append_left _ hperm).nodup_iff.2 hnd, ?_, ?_, fun k hk => ?_⟩ ?_, htv⟩
  · intro r R hR
    obtain ⟨q1, q2⟩ := h.mem.root r R hR
    have hRS : ∀ k ∈ R.ft, k ∈ ftS S := fun k hk => root_sub_ft hR hk
    refine ⟨?_, fun t ht => ?_⟩
    · cases hx : R.box with
      | none => trivial
      | some b0 =>
        simp only [hx] at q1 ⊢
        obtain ⟨c0, e0, fz0, r1, r2⟩ := q1
        exact ⟨c0, e0, fz0, by rw [k5 b0 (hbo b0 (.inl (hRS b0 (by simp [RT.ft, hx]))))]; exact r1, r2⟩
    · have := q2 t ht
      cases t with
      | v d u =>
        rcases this with this | ⟨hb, this⟩
        · exact .inl (ext_move hst _ _ this)
        · exact .inr ⟨hb, htv _ _ this⟩
      | own s' n' cap' a' xs => exact sat_move hst _ this (fun k hk => k5 k (hbo k (.inl (hRS k (by simp [RT.ft, fts_sub ht hk])))))
  · simp only [SatL, SatT]
    refine ⟨⟨hc, by rw [List.length_append, h2, hm, Nat.add_mul], ⟨c', e, fz, k1, by rw [k2]; exact g2, by rw [k2]; exact g3, fun j u hj => ?_⟩, ?_⟩, satL_move hst _ hH (fun k hk => k5 k (hbo k (.inr (.inr (.inr hk)))))⟩
    · rw [valsT_app] at hj
      by_cases hjl : j < (valsT ts).length
      · rw [List.getElem?_append_left hjl] at hj
        rw [k4 _ (.inl (by rw [valsT_len, h2] at hjl; omega))]
        exact g4 j u hj
      · rw [List.getElem?_append_right (by omega)] at hj
        have := k3 _ u hj
        rw [valsT_len, h2] at this hjl
        rw [show off + j = off + n * s + (j - n * s) by omega]
        exact this
    · rw [satL_app]
      exact ⟨satL_move hst _ h4 (fun k hk => k5 k (hbo k (.inr (.inl hk)))), satL_move hst _ hY (fun k hk => k5 k (hbo k (.inr (.inr (.inl hk)))))⟩
  · rw [k6]
    refine h.mem.lt k ?_
    rcases List.mem_append.1 hk with hk | hk
    · exact List.mem_append.2 (.inl hk)
    · exact List.mem_append.2 (.inr ((hmem k).1 hk))
  · refine ⟨by rw [k7]; exact h.kept.os, by rw [k8]; exact h.kept.tape, by rw [k9]; exact h.kept.output, by rw [k6]; exact h.kept.size, fun k q1 q2 => ?_, fun k hk => ?_, h.kept.par⟩
    · rw [k5 k (fun e => ?_)]
      · exact h.kept.block k q1 q2
      · subst e
        rcases h.kept.foot k (List.mem_append.2 (.inr hb)) with h3 | h3
        · exact q2 h3
        · omega
    · refine h.kept.foot k ?_
      rcases List.mem_append.1 hk with hk | hk
      · exact List.mem_append.2 (.inl hk)
      · exact List.mem_append.2 (.inr ((hmem k).1 hk))
theorem take_leaves (h : Rel C H w st vss S) : ∀ {ds : List D} {us : List Value}, All2 (Ext w (Free C w S H)) ds us → ∃ Ys, Rel C (Ys ++ H) w st vss S ∧ ersT Ys = ds ∧ valsT Ys = us ∧ ftsT Ys = [] := by
  intro ds
  induction ds with
  | nil => intro us hu; cases hu; exact ⟨[], h, rfl, rfl, rfl⟩
  | cons d ds ih =>
    intro us hu
    cases hu with
    | cons h1 h2 =>
    obtain ⟨Ys, a1, a2, a3, a4⟩ := ih h2
    rename_i u us
    have hleaf : leafD d = d := by
      cases d with
      | sl g s n cs => cases g with
        | none => simp [Ext] at h1
        | some g => rfl
      | _ => rfl
    have hfr : Free C w S (Ys ++ H) = Free C w S H := by
      funext b k
      simp only [Free, ftsT_app, a4, List.nil_append]
    exact ⟨.v d u :: Ys, take_plain a1 (by rw [hfr]; exact h1) hleaf, by simp [ersT, T.er, hleaf, a2], by simp [valsT, T.val, a3], by simp [ftsT, T.ft, a4]⟩
end
end Go.Proofs.Ytkejckoefjonjaa
namespace Go.Proofs.Ytkejckoefjonjaa
structure Runs (P : Program) (t tx ty e : TypeId) (inf : TypeInfo) (z : Value) (w : World) (ux : Value) (m : Nat) (news : List Value) : Prop where
  nil : m = 0 → news = [] → (Builtin.append_ #[t, tx] ty #[.slice none 0 0, ux]).run P w = .ok (.slice none 0 0) w
  room : ∀ b off n cap, n + m ≤ cap → (n + m) * inf.bytes ≤ 140737488355328 → 0 < inf.bytes → (∀ j, j < news.length → (w.cell? ⟨b, off + n * inf.size + j, none⟩).isSome = true) → (∀ j, j < news.length → w.frozen? ⟨b, off + n * inf.size + j, none⟩ = false) →
    (Builtin.append_ #[t, tx] ty #[.slice (some ⟨b, off, none⟩) n cap, ux]).run P w = .ok (.slice (some ⟨b, off, none⟩) (n + m) cap) (w.setCells b (off + n * inf.size) news)
  grow : ∀ base n cap olds, (Builtin.firstCells inf.size n (.slice base n cap)).run P w.drew = .ok (List.toArray olds) w.drew → cap < n + m → (n + m) * inf.bytes ≤ 140737488355328 → 0 < inf.bytes →
    (Builtin.append_ #[t, tx] ty #[.slice base n cap, ux]).run P w = .ok (.slice (some ⟨w.heap.size, 0, none⟩) (n + m) (grownCap w (n + m) cap e)) (w.drew.alloc (.cells ((olds ++ news).toArray ++ Builtin.zeroCells z.cells (grownCap w (n + m) cap e - (n + m))) e))
section
variable {P : Program} {w : World} {t tx ty e : TypeId} {inf : TypeInfo} {z : Value} (ht : P.underlying t = some (.slice e)) (hi : P.info? e = some inf) (hz : inf.zero = some z)
include ht hi hz
theorem runs_src {ux : Value} {m : Nat} {news : List Value} (hs : Src P inf.size tx ux m news w) : Runs P t tx ty e inf z w ux m news := by
  refine ⟨fun hm hn => ?_, fun b off n cap h1 _ _ h2 h3 => run_append_room_src w t tx ty e inf ht hi b off n cap ux m news hs h1 h2 h3, fun base n cap olds h1 h2 h3 h4 => ?_⟩
  · subst hm; subst hn
    have hc := hs.cells
    rcases hs.kind with ⟨e', hk⟩ | hk <;> simp [Builtin.append_, run_underlying ht, run_underlying hk, sizeOf, typeInfo, hi, hs.len, hc]
  · have hsm : (n + m) * 1 ≤ (n + m) * inf.bytes := Nat.mul_le_mul_left _ h4
    exact run_append_grow_src w t tx ty e inf z ht hi hz base n cap olds h1 ux m news hs h2 (by omega) (growslice_fits h2 h3)
theorem runs_zeros {k kx : IntKind} (htx : P.underlying tx = some (.int k)) (hzs : z.cells.size = inf.size) (hsz : 0 < inf.size) (m : Nat) (h1 : ∀ u ∈ z.cells.toList, u.oneCell' = true) : Runs P t tx ty e inf z w (.int kx m) m (List.replicate m z.cells.toList).flatten := by
  have hzc : Builtin.zeroCells z.cells m = (List.replicate m z.cells.toList).flatten.toArray := by
    apply Array.ext'
    simp only [Builtin.zeroCells, Array.toList_map, Array.toList_range]
    exact made_list z.cells m
  have hone : ∀ u ∈ (List.replicate m z.cells.toList).flatten, u.oneCell' = true := by
    intro u hu
    simp only [List.mem_flatten, List.mem_replicate] at hu
    obtain ⟨l, ⟨_, rfl⟩, hu⟩ := hu
    exact h1 u hu
  refine ⟨fun hm _ => ?_, fun b off n cap h2 h3 h3' h4 h5 => ?_, fun base n cap olds h2 h3 h4 h5 => ?_⟩
  · subst hm
    have hw0 : IntKind.i64.wrap 0 = 0 := by rw [IntKind.wrap_i64]; rfl
    simp [Builtin.append_, run_underlying ht, run_underlying htx, sizeOf, typeInfo, hi, asInt, asIntOf, hw0]
  · have hsm : (n + m) * 1 ≤ (n + m) * inf.bytes := Nat.mul_le_mul_left _ h3'
    have hw : IntKind.i64.wrap (m : Int) = m := by rw [IntKind.wrap_i64]; omega
    have hneg : ¬ ((m : Int) < 0) := by omega
    have hmb : m * inf.bytes ≤ 140737488355328 := Nat.le_trans (Nat.mul_le_mul_right _ (Nat.le_add_left m n)) h3
    have hbig : ¬ (281474976710656 < (m : Int) * (inf.bytes : Int)) := by
      rw [← Int.natCast_mul]
      omega
    have hst := run_storeCells_cells (P := P) b (off + n * inf.size) (List.replicate m z.cells.toList).flatten 0 w (by simpa using h4) (by simpa using h5) hone
    simp only [Nat.add_zero] at hst
    by_cases hm : m = 0
    · subst hm
      simp only [List.replicate_zero, List.flatten_nil] at hst ⊢
      have hw0 : IntKind.i64.wrap 0 = 0 := by rw [IntKind.wrap_i64]; rfl
      simp at h2
      simp [Builtin.append_, run_underlying ht, run_underlying htx, sizeOf, typeInfo, hi, asInt, asIntOf, hw0, h2, storeCells]
      rfl
    · have hns : ¬ (m * inf.size = 0) := Nat.mul_ne_zero hm (by omega)
      simp [Builtin.append_, run_underlying ht, run_underlying htx, sizeOf, typeInfo, zeroValue, hi, hz, asInt, asIntOf, hw, hneg, hbig, h2, hns, hzc, Addr.add_lit, hst]
  · have hsm : (n + m) * 1 ≤ (n + m) * inf.bytes := Nat.mul_le_mul_left _ h5
    have hfit := growslice_fits h3 h4
    have hmb : m * inf.bytes ≤ 140737488355328 := Nat.le_trans (Nat.mul_le_mul_right _ (Nat.le_add_left m n)) h4
    by_cases hm : m = 0
    · subst hm
      have hw0 : IntKind.i64.wrap 0 = 0 := by rw [IntKind.wrap_i64]; rfl
      simp only [Nat.add_zero] at hfit h3 hsm h4
      have h48' : ¬ (281474976710656 < Builtin.nextslicecap n cap * inf.bytes) := by omega
      have h63 : ¬ (9223372036854775807 < (n : Int)) := by omega
      have hn : ¬ (n ≤ cap) := by omega
      simp [Builtin.append_, run_underlying ht, run_underlying htx, sizeOf, typeInfo, zeroValue, hi, hz, asInt, asIntOf, hw0, hn, h63, h48', Question.forced, h2, newRow, grownCap]
    · have := Lib.run_append_grow_zeros w t tx ty e inf z kx k ht htx hi hz base n cap olds h2 m (by omega) hsz h3 (by omega) (by omega) hfit
      rw [this, hzc]
      congr 3
      apply Array.ext'
      simp
end
end Go.Proofs.Ytkejckoefjonjaa
namespace Go.Proofs.Ytkejckoefjonjaa
def trimT (x : Option (Nat × Nat)) (s : Nat) (ts : List T) : List T :=
  match x with
  | none => ts
  | some (l, m) => (ts.drop (l * s)).take (m * s)
theorem ersT_trim (x : Option (Nat × Nat)) (s n : Nat) (ts : List T) : ersT (trimT x s ts) = (trim x s n (ersT ts)).2 := by
  cases x with
  | none => rfl
  | some p => simp only [trimT, trim, ersT_drop, ersT_take]
theorem trim_own {w : World} {X : Bool → Nat → Prop} {s n cap : Nat} {a : Option (Nat × Nat)} {ts : List T} (hs : SatT w X (.own s n cap a ts)) {x : Option (Nat × Nat)} {u : Value} (hr : RefOk x (.own s n cap a ts) u) :
    ∃ cap' a', u = hdr a' (trim x s n (ersT ts)).1 cap' ∧ SatT w X (.own s (trim x s n (ersT ts)).1 cap' a' (trimT x s ts)) := by
  cases x with
  | none =>
    simp only [RefOk, sn, T.er] at hr
    exact ⟨cap, a, hr, hs⟩
  | some p =>
    obtain ⟨l, m⟩ := p
    simp only [RefOk, sn, T.er, T.val, hdr, Value.slice.injEq] at hr
    obtain ⟨h1, base, C, k, ⟨h2, _, h3⟩, h4, rfl, h5⟩ := hr
    subst h2; subst h3
    simp only [SatT] at hs
    obtain ⟨g1, g2, g3, g4⟩ := hs
    refine ⟨cap - l, a.map fun p => (p.1, p.2 + k * s), ?_, ?_⟩
    · simp only [hdr, Option.map_map, trim]
      congr 1
      cases a <;> simp [add_mk]
    · simp only [SatT, trim, trimT]
      refine ⟨by omega, ?_, ?_, ?_⟩
      · rw [List.length_take, List.length_drop, g2]
        have : l * s + m * s ≤ n * s := by rw [← Nat.add_mul]; exact Nat.mul_le_mul_right _ h1
        omega
      · cases a with
        | none => simp only at g3; simp only [Option.map_none]; omega
        | some p =>
          obtain ⟨b, off⟩ := p
          simp only [Option.map_some]
          obtain ⟨c, e, fz, k1, k2, k3, k4⟩ := g3
          refine ⟨c, e, fz, k1, k2, ?_, ?_⟩
          · rcases h5 with h5 | h5
            · rw [h5]
              have : k * s ≤ cap * s := Nat.mul_le_mul_right _ h4
              omega
            · subst h5
              have : k * s + (cap - k) * s = cap * s := by rw [← Nat.add_mul]; congr 1; omega
              omega
          · intro j u hj
            rw [valsT_map, List.map_take, List.map_drop, ← valsT_map, List.getElem?_take] at hj
            split at hj
            · rename_i hlt
              rw [List.getElem?_drop] at hj
              have hm : m ≠ 0 := fun e => by simp [e] at hlt
              have : k = l := by omega
              subst this
              rw [Nat.add_assoc]
              exact k4 _ _ hj
            · simp at hj
      · rw [satL_iff] at g4 ⊢
        exact fun t ht => g4 t (List.mem_of_mem_drop (List.mem_of_mem_take ht))
theorem flat_leaves {w : World} {X : Bool → Nat → Prop} : ∀ {ts : List T}, SatL w X ts → (ersT ts).all flatC = true → All2 (Ext w X) (ersT ts) (valsT ts) := by
  intro ts
  induction ts with
  | nil => intro _ _; exact .nil
  | cons t ts ih =>
    intro hs hf
    simp only [SatL] at hs
    simp only [ersT, List.all_cons, Bool.and_eq_true] at hf
    refine .cons ?_ (ih hs.2 hf.2)
    cases t with
    | v d u => exact hs.1
    | own s n cap a cs => simp [T.er, flatC] at hf
theorem flat_cellish {d : D} (h : flatC d = true) : cellish d = true := by
  cases d <;> first | rfl | simp [flatC] at h
section
variable {P : Program} {w : World}
theorem src_slice {sz : Nat} {tx e' : TypeId} (hk : P.underlying tx = some (.slice e')) {base : Option Addr} {n cap : Nat} {news : List Value} (hl : news.length = n * sz) (hsz : 0 < sz)
    (hm : news = [] ∨ ∃ b off, base = some ⟨b, off, none⟩ ∧ ∀ (j : Nat) (v : Value), news[j]? = some v → w.cell? ⟨b, off + j, none⟩ = some v) (h1 : ∀ v ∈ news, v.oneCell' = true) : Src P sz tx (.slice base n cap) n news w := by
  by_cases hn : n = 0
  · subst hn
    have : news = [] := List.length_eq_zero_iff.1 (by rw [hl]; simp)
    subst this
    cases base with
    | none => exact Src.ofNil w hk cap
    | some a => exact Src.ofSlice w hk a 0 cap [] (by simp) (by simp) (by simp)
  · rcases hm with rfl | ⟨b, off, rfl, hm⟩
    · have : n * sz = 0 := by rw [← hl]; rfl
      rcases Nat.mul_eq_zero.1 this with h | h <;> omega
    · exact Src.ofSlice w hk _ n cap news hl (fun j u hj => by rw [add_mk]; exact hm j u hj) h1
theorem tx_slice {c : Cfg} (hcfg : CfgOk c P) {tx : TypeId} (h : (match c.ty tx with | some ⟨.slice _, _, _, _⟩ => true | _ => false) = true) : ∃ e', P.underlying tx = some (.slice e') := by
  split at h
  · rename_i e _ _ _ heq
    obtain ⟨d, h1, h2⟩ := (hcfg.ty _ _ heq).desc
    simp only [TyD] at h2
    subst h2
    exact ⟨e, h1⟩
  · simp at h
end
section
variable {P : Program} {c : Cfg} (hcfg : CfgOk c P) {C : Ctx} {H : List T} {w : World} {st st' : St} {vss : List (Array Value)} {S : List (Nat × RT)}
include hcfg
theorem elems_src (h : Rel C H w st vss S) {d : D} {u : Value} (hd : TVt w (Free C w S H) S d u) {flat : Bool} {sz : Nat} (hsz : 0 < sz) {zs : List D} (hint : ∀ k n, d ≠ .int k n) {ys : List D} {m : Nat} (he : elems st flat zs sz d = some (ys, m, st')) {tx : TypeId} (htx : okTx c tx d = true) :
    ∃ Ys S', Rel C (Ys ++ H) w st' vss S' ∧ ersT Ys = ys ∧ Ys.length = m * sz ∧ Src P sz tx u m (valsT Ys) w ∧ st'.of = st.of ∧ st'.tm = st.tm ∧ st'.up = st.up := by
  have ext : ∀ {g : Bool} {s n : Nat} {cs : List D}, Ext w (Free C w S H) (.sl (some g) s n cs) u → s = sz → cs.all cellish = true → (∃ e', P.underlying tx = some (.slice e')) →
      ∃ Ys S', Rel C (Ys ++ H) w st vss S' ∧ ersT Ys = cs ∧ Ys.length = n * sz ∧ Src P sz tx u n (valsT Ys) w := by
    intro g s n cs hx hs hc ⟨e', hk⟩
    subst hs
    simp only [Ext] at hx
    obtain ⟨base, cap, us, rfl, h1, h2, h3, h4⟩ := hx
    have hall := (extL_all2 _ _).1 h3
    obtain ⟨Ys, a1, a2, a3, a4⟩ := take_leaves h hall
    have hone : ∀ v ∈ us, v.oneCell' = true := by
      intro v hv
      obtain ⟨i, hi⟩ := List.mem_iff_getElem?.1 hv
      have hlt : i < cs.length := by rw [hall.len]; exact (List.getElem?_eq_some_iff.1 hi).1
      obtain ⟨v', g1, g2⟩ := hall.get (List.getElem?_eq_getElem hlt)
      rw [hi, Option.some.injEq] at g1
      subst g1
      exact (ext_one g2 (List.all_eq_true.1 hc _ (List.getElem_mem hlt))).1
    refine ⟨Ys, S, a1, a2, by rw [← ersT_len, a2, h2], ?_⟩
    rw [a3]
    refine src_slice hk (by rw [← hall.len, h2]) hsz ?_ hone
    rcases h4 with h4 | ⟨k, off, c0, e0, fz, rfl, _, g1, g2⟩
    · left
      subst h4
      cases hall
      rfl
    · exact .inr ⟨k, off, rfl, fun j v hj => by simp [World.cell?, g1, g2 j v hj]⟩
  cases d with
  | int k n => exact absurd rfl (hint k n)
  | str s =>
    simp only [elems] at he
    split at he
    case isFalse => simp at he
    rename_i hs1
    subst hs1
    simp only [Option.some.injEq, Prod.mk.injEq] at he
    obtain ⟨rfl, rfl, rfl⟩ := he
    have hu : u = .string s := hd
    subst hu
    have hall : All2 (Ext w (Free C w S H)) (s.data.toList.map byteD) (byteCells s) := by
      refine all2_of_get (by simp [byteCells]) (fun i a b ha hb => ?_)
      simp only [byteCells, List.getElem?_map] at ha hb
      cases hx : s.data.toList[i]? with
      | none => simp [hx] at ha
      | some y =>
        simp only [hx, Option.map_some, Option.some.injEq] at ha hb
        subst ha; subst hb
        rfl
    obtain ⟨Ys, a1, a2, a3, a4⟩ := take_leaves h hall
    refine ⟨Ys, S, a1, a2, ?_, ?_, rfl, rfl, rfl⟩
    · rw [← valsT_len, a3, byteCells_length, Nat.mul_one]
    · rw [a3]
      refine Src.ofString w ?_ s
      simp only [okTx] at htx
      split at htx
      · rename_i heq
        obtain ⟨d, h1, h2⟩ := (hcfg.ty _ _ heq).desc
        simp only [TyD] at h2
        subst h2
        exact h1
      · simp at htx
  | nil s =>
    simp only [elems, Option.some.injEq, Prod.mk.injEq] at he
    obtain ⟨rfl, rfl, rfl⟩ := he
    have hu : u = .slice none 0 0 := hd
    subst hu
    obtain ⟨e', hk⟩ := tx_slice hcfg htx
    exact ⟨[], S, h, rfl, by simp, by simp only [valsT]; exact Src.ofNil w hk 0, rfl, rfl, rfl⟩
  | sl g s n cs =>
    cases g with
    | none => simp [elems] at he
    | some g =>
      simp only [elems] at he
      split at he
      case isFalse => simp at he
      rename_i hc
      simp only [Option.some.injEq, Prod.mk.injEq] at he
      obtain ⟨rfl, rfl, rfl⟩ := he
      obtain ⟨Ys, S', a1, a2, a3, a4⟩ := ext hd hc.1 hc.2 (tx_slice hcfg htx)
      exact ⟨Ys, S', a1, a2, a3, a4, rfl, rfl, rfl⟩
  | ref r q o x =>
    simp only [elems] at he
    split at he
    · rename_i s n cs hc
      obtain ⟨R, l, t0, g1, g2, g3, g4, g5⟩ := cell_st h.rt hc
      obtain ⟨cap, a, ts, rfl, rfl⟩ := er_own g5.symm
      have hsat := sat_at h.mem g1 g2 g3 (g := none) (s := s) (n := n) (cs := ersT ts) rfl
      obtain ⟨cap', a', hu, hsat'⟩ := trim_own hsat (hd _ g4)
      simp only [SatT] at hsat'
      obtain ⟨k1, k2, k3, k4⟩ := hsat'
      split at he
      · simp at he
      rename_i hss
      simp only [ne_eq, Decidable.not_not] at hss
      subst hss
      have hmem : valsT (trimT x s ts) = [] ∨ ∃ b off, a'.map (fun p => (⟨p.1, p.2, none⟩ : Addr)) = some ⟨b, off, none⟩ ∧ ∀ (j : Nat) (v : Value), (valsT (trimT x s ts))[j]? = some v → w.cell? ⟨b, off + j, none⟩ = some v := by
        cases a' with
        | none =>
          left
          have : (trimT x s ts).length = 0 := by rw [k2]; simp only at k3; rw [k3.1]; simp
          rw [List.length_eq_zero_iff.1 this]; rfl
        | some p => exact .inr ⟨p.1, p.2, rfl, fun j v hj => cell_blk k3 hj⟩
      rw [← ersT_trim] at he
      split at he
      · rename_i hflat
        split at he
        case isFalse => simp at he
        rename_i hf
        simp only [Option.some.injEq, Prod.mk.injEq] at he
        obtain ⟨rfl, rfl, rfl⟩ := he
        obtain ⟨Ys, b1, b2, b3, b4⟩ := take_leaves h (flat_leaves k4 hf)
        obtain ⟨e', hk⟩ := tx_slice hcfg htx
        refine ⟨Ys, S, b1, b2, by rw [← ersT_len, b2, ersT_len, k2], ?_, rfl, rfl, rfl⟩
        rw [b3, hu]
        refine src_slice hk (by rw [valsT_len, k2]) hsz hmem (fun v hv => ?_)
        rw [valsT_map] at hv
        obtain ⟨t, ht, rfl⟩ := List.mem_map.1 hv
        exact (one_tree ((satL_iff _).1 k4 t ht) (flat_cellish (List.all_eq_true.1 hf t.er (by rw [ersT_map]; exact List.mem_map.2 ⟨t, ht, rfl⟩)))).1
      · split at he
        case h_2 => simp at he
        rename_i ys1 st1 htk
        split at he
        case isFalse => simp at he
        rename_i hcl
        simp only [Option.some.injEq, Prod.mk.injEq] at he
        obtain ⟨rfl, rfl, rfl⟩ := he
        have hcells : cellsT R.cs (q ++ [o]) = some ts := (addr_app (bx := R.box) g2 g3).2
        have hall : All2 (TVc w (Free C w S H) S) (viewL r (q ++ [o]) (off x * s) (ersT (trimT x s ts))) (valsT (trimT x s ts)) := by
          refine all2_of_get (by rw [viewL_len, ersT_len, valsT_len]) (fun i y v hy hv => ?_)
          rw [viewL_get, ersT_get] at hy
          rw [valsT_get] at hv
          cases hx : (trimT x s ts)[i]? with
          | none => simp [hx] at hy
          | some t =>
            simp only [hx, Option.map_some, Option.some.injEq] at hy hv
            subst hy; subst hv
            refine view_ok h.mem g1 hcells ?_
            cases x with
            | none => simp only [trimT] at hx; simp only [off]; rw [Nat.zero_mul, Nat.zero_add]; exact hx
            | some p =>
              simp only [trimT] at hx
              rw [List.getElem?_take] at hx
              split at hx
              · rw [List.getElem?_drop] at hx; exact hx
              · simp at hx
        obtain ⟨Ys, S', b1, b2, b3, b4, b5, b6⟩ := tkL_ok h hall htk
        obtain ⟨e', hk⟩ := tx_slice hcfg htx
        have hhand := b1.mem.hand
        rw [satL_app] at hhand
        refine ⟨Ys, S', b1, b2, by rw [← valsT_len, b3, valsT_len, k2], ?_, b6.2.2, b6.1, b6.2.1⟩
        rw [b3, hu]
        refine src_slice hk (by rw [valsT_len, k2]) hsz hmem (fun v hv => ?_)
        rw [← b3, valsT_map] at hv
        obtain ⟨t, ht, rfl⟩ := List.mem_map.1 hv
        exact (one_tree ((satL_iff _).1 hhand.1 t ht) (List.all_eq_true.1 hcl t.er (by rw [← b2, ersT_map]; exact List.mem_map.2 ⟨t, ht, rfl⟩))).1
    · rename_i g s n cs hc
      split at he
      case isFalse => simp at he
      rename_i hcc
      simp only [Option.some.injEq, Prod.mk.injEq] at he
      obtain ⟨rfl, rfl, rfl⟩ := he
      obtain ⟨R, l, t0, g1, g2, g3, g4, g5⟩ := cell_st h.rt hc
      have hsat := sat_at h.mem g1 g2 g3 g5.symm
      have hleaf : t0.ft = [] := by
        cases t0 with
        | v d u => rfl
        | own s' n' cap a ts => simp [T.er] at g5
      have hx := ext_ref (X' := Free C w S H) (fun _ _ h => h) false g5.symm hsat (by simp [hleaf]) (hd _ g4)
      obtain ⟨Ys, S', a1, a2, a3, a4⟩ := ext hx hcc.1 hcc.2 (tx_slice hcfg htx)
      exact ⟨Ys, S', a1, a2, a3, a4, rfl, rfl, rfl⟩
    · simp at he
  | _ => simp [elems] at he
theorem elems_ok (h : Rel C H w st vss S) {d : D} {u : Value} (hd : TVt w (Free C w S H) S d u) {t ty e : TypeId} {inf : TypeInfo} {z : Value} (ht : P.underlying t = some (.slice e)) (hi : P.info? e = some inf) (hz : inf.zero = some z) {zs : List D} (hzs : All2 ZOk zs z.cells.toList) (hzl : zs.length = inf.size)
    (hsz : 0 < inf.size) {flat : Bool} {ys : List D} {m : Nat} (he : elems st flat zs inf.size d = some (ys, m, st')) {tx : TypeId} (htx : okTx c tx d = true) :
    ∃ Ys S', Rel C (Ys ++ H) w st' vss S' ∧ ersT Ys = ys ∧ Ys.length = m * inf.size ∧ Runs P t tx ty e inf z w u m (valsT Ys) ∧ st'.of = st.of ∧ st'.tm = st.tm ∧ st'.up = st.up := by
  by_cases hint : ∃ k n, d = .int k n
  · obtain ⟨k, n, rfl⟩ := hint
    have hu : u = .int k n := hd
    subst hu
    unfold elems at he
    split at he
    all_goals (try (rename_i heq; simp at heq; done))
    all_goals (try (simp at he; done))
    rename_i n0 heq
    simp only [D.int.injEq] at heq
    obtain ⟨rfl, rfl⟩ := heq
    split at he
    case isFalse => simp at he
    rename_i hc
    simp only [Option.some.injEq, Prod.mk.injEq] at he
    obtain ⟨rfl, rfl, rfl⟩ := he
    have hzsz : z.cells.size = inf.size := by rw [← hzl, hzs.len]; simp
    obtain ⟨ts, f1, f2, f3, f4⟩ := zero_reps hzs n.toNat
    obtain ⟨t0, e1, e2, e3, e4⟩ := zero_row hzs
    have hlen : ts.length = n.toNat * inf.size := by
      have := congrArg List.length f2
      rw [valsT_len] at this
      rw [this, List.length_flatten, List.map_replicate, List.sum_replicate_nat, Array.length_toList, hzsz]
    have hone : ∀ u ∈ z.cells.toList, u.oneCell' = true := by
      intro u hu
      rw [← e2, valsT_map] at hu
      obtain ⟨t1, ht1, rfl⟩ := List.mem_map.1 hu
      refine (one_tree ((satL_iff _).1 (e4 w (fun _ _ => False)) t1 ht1) (List.all_eq_true.1 hc.2 t1.er ?_)).1
      rw [← e1, ersT_map]
      exact List.mem_map.2 ⟨t1, ht1, rfl⟩
    have htx' : ∃ k', P.underlying tx = some (.int k') := by
      simp only [okTx] at htx
      split at htx
      · rename_i heq
        obtain ⟨d, h1, h2⟩ := (hcfg.ty _ _ heq).desc
        simp only [TyD] at h2
        subst h2
        exact ⟨_, h1⟩
      · simp at htx
    obtain ⟨k', hk'⟩ := htx'
    have hrel : ∀ l : List T, ftsT l = [] → (∀ w X, SatL w X l) → Rel C (l ++ H) w st vss S := by
      intro l hl1 hl2
      have hfr : Free C w S (l ++ H) = Free C w S H := by
        funext b k
        simp only [Free, ftsT_app, hl1, List.nil_append]
      obtain ⟨q1, ⟨m1, m2, m3, m4⟩, q3, q4⟩ := h
      refine ⟨q1, ⟨by rw [ftsT_app, hl1]; exact m1, by rw [hfr]; exact m2, ?_, by rw [ftsT_app, hl1]; exact m4⟩, by rw [hfr]; exact q3, ⟨q4.os, q4.tape, q4.output, q4.size, q4.block, by rw [ftsT_app, hl1]; exact q4.foot, q4.par⟩⟩
      rw [satL_app, hfr]
      exact ⟨hl2 _ _, m3⟩
    refine ⟨ts, S, hrel ts f3 f4, f1, hlen, ?_, rfl, rfl, rfl⟩
    rw [f2]
    have := runs_zeros (w := w) (ty := ty) ht hi hz hk' hzsz hsz n.toNat hone (kx := .i64)
    rwa [show ((n.toNat : Nat) : Int) = n from Int.toNat_of_nonneg hc.1] at this
  · obtain ⟨Ys, S', a1, a2, a3, a4, a5⟩ := elems_src hcfg h hd hsz (fun k n e => hint ⟨k, n, e⟩) he htx
    exact ⟨Ys, S', a1, a2, a3, runs_src ht hi hz a4, a5⟩
end
end Go.Proofs.Ytkejckoefjonjaa
namespace Go.Proofs.Ytkejckoefjonjaa
section
variable {P : Program} {c : Cfg} (hcfg : CfgOk c P) {C : Ctx} {w : World} {st st' : St} {vs : Array Value} {vss : List (Array Value)} {S : List (Nat × RT)} (h : Rel C [] w st (vs :: vss) S)
include hcfg h
theorem append_ok {t tx ty : TypeId} {s x : D} {us ux : Value} (hs : TVt w (Free C w S []) S s us) (hx : TVt w (Free C w S []) S x ux) {d : Nat} (ht : d < vs.size) (hP : ∀ p ∈ C.P0, p.1 ≠ st.of + d) (ha : appendD c st t tx (some d) s x = some st') :
    ∃ v w', (Builtin.append_ #[t, tx] ty #[us, ux]).run P w = .ok v w' ∧ ∃ S', Rel C [] w' st' (vs.setIfInBounds d v :: vss) S' := by
  unfold appendD at ha
  split at ha
  case h_2 => simp at ha
  rename_i e tsz tby tz hct
  split at ha
  case h_2 => simp at ha
  rename_i ei hce
  split at ha
  case isFalse => simp at ha
  rename_i htx
  split at ha
  case h_2 => simp at ha
  rename_i n cs st1 htg
  split at ha
  case h_2 => simp at ha
  rename_i ys m st2 hel
  split at ha
  case isFalse => simp at ha
  rename_i hb
  obtain ⟨hsz, hby, hfit⟩ := hb
  obtain ⟨inf, h1, h2, h3, z, h4, h5⟩ := (hcfg.ty _ _ hce).info
  have hzl := (hcfg.ty _ _ hce).len
  obtain ⟨dd, g1, g2⟩ := (hcfg.ty _ _ hct).desc
  simp only [TyD] at g2
  subst g2
  have hzs : z.cells.size = ei.size := by rw [← hzl, h5.len]; simp
  unfold target at htg
  split at htg
  case h_2 => simp at htg
  rename_i s0 n0 cs0 st0 htk
  split at htg
  case isFalse => simp at htg
  rename_i hs0
  subst hs0
  simp only [Option.some.injEq, Prod.mk.injEq] at htg
  obtain ⟨rfl, rfl, rfl⟩ := htg
  have hs' : TVc w (Free C w S []) S s us := by cases s <;> first | exact hs | (simp [tkC] at htk; done)
  obtain ⟨T1, S1, a1, a2, a3, a4, a5, a6, _⟩ := take_ok h hs' htk
  obtain ⟨cap, a, ts, rfl, rfl⟩ := er_own a2
  obtain ⟨Ys, S2, b1, rfl, b3, b4, b5, b6, b7⟩ := elems_ok (ty := ty) hcfg a1 (lift_id a4 hx) g1 h1 h4 h5 (hzl.trans h2.symm) (by rw [h2]; exact hsz) (by rw [h2]; exact hel) htx
  rw [h2] at b3
  have hof : st2.of = st.of := b5.trans a6.2.2
  have hhand := b1.mem.hand
  rw [satL_app] at hhand
  obtain ⟨hY, hT⟩ := hhand
  simp only [SatL, and_true] at hT
  have hT0 := hT
  simp only [SatT] at hT
  obtain ⟨k1, k2, k3, k4⟩ := hT
  have hnm : n0 + m ≤ 140737488355328 := by
    have : (n0 + m) * 1 ≤ (n0 + m) * ei.bytes := Nat.mul_le_mul_left _ hby
    omega
  have hus : us = .slice (a.map fun p => ⟨p.1, p.2, none⟩) n0 cap := a3.symm
  have hnd := (List.nodup_append.1 b1.mem.nd).2.1
  by_cases hroom : n0 + m ≤ cap
  ·
    cases a with
    | none =>
      simp only at k3
      obtain ⟨rfl, rfl⟩ := k3
      have hm0 : m = 0 := by omega
      subst hm0
      have hts : ts = [] := List.length_eq_zero_iff.1 (by rw [k2]; simp)
      have hYs : Ys = [] := List.length_eq_zero_iff.1 (by rw [b3]; simp)
      subst hts; subst hYs
      have hrun : (Builtin.append_ #[t, tx] ty #[us, ux]).run P w = .ok (.slice none 0 0) w := by
        rw [hus]
        exact b4.nil rfl rfl
      refine ⟨_, _, hrun, ?_⟩
      simp only [List.nil_append, ersT, List.append_nil, Nat.add_zero] at b1 ha
      refine new_root (Hs := [T.own ei.size 0 0 none []]) (H := []) (R := ⟨none, [T.own ei.size 0 0 none []]⟩) b1 (Grown.refl w) (by simp [RT.ft, ftsT, T.ft, ftA]) (by simp [RT.ft, ftsT, T.ft, ftA]) (fun S' hst htv => ⟨trivial, fun y hy => ?_⟩) ht (by rw [hof]; exact hP) (d := fun d => .ref d [] 0 none) ?_ (by simpa [ersT, T.er] using ha)
      · simp only [List.mem_singleton] at hy
        subst hy
        simp [CellOk, SatT, SatL]
      · intro S' X hl'
        simp only [TVt, TVa, TVc]
        intro y hy
        simp only [cellR, hl', cellsT, List.getElem?_cons_zero, Option.some.injEq] at hy
        subst hy
        simp [RefOk, sn, T.er, T.val, hdr]
    | some p =>
      obtain ⟨b, off⟩ := p
      have hmul : n0 * ei.size + m * ei.size ≤ cap * ei.size := by rw [← Nat.add_mul]; exact Nat.mul_le_mul_right _ hroom
      obtain ⟨c1, _⟩ := hand_grow (H := []) b1 b3 hroom
      have hrun : (Builtin.append_ #[t, tx] ty #[us, ux]).run P w = .ok (.slice (some ⟨b, off, none⟩) (n0 + m) cap) (w.setCells b (off + n0 * ei.size) (valsT Ys)) := by
        rw [hus]
        rw [← h2]
        refine b4.room b off n0 cap hroom (by rw [h3]; exact hfit) (by rw [h3]; exact hby) (fun j hj => ?_) (fun j hj => ?_)
        · rw [valsT_len, b3] at hj
          rw [h2, Nat.add_assoc]
          obtain ⟨u, hu⟩ := isSome_blk (j := n0 * ei.size + j) k3 (by omega)
          rw [hu]; rfl
        · rw [valsT_len, b3] at hj
          rw [h2, Nat.add_assoc]
          exact frozen_blk k3 (by omega)
      refine ⟨_, _, hrun, ?_⟩
      rw [← ersT_app] at ha
      refine new_root (Hs := [T.own ei.size (n0 + m) cap (some (b, off)) (ts ++ Ys)]) (H := []) (R := ⟨none, [T.own ei.size (n0 + m) cap (some (b, off)) (ts ++ Ys)]⟩) c1 (Grown.refl _) (fun k hk => .inl (by simpa [RT.ft] using hk)) ?_ (fun S' hst htv => ⟨trivial, fun y hy => ?_⟩) ht (by rw [hof]; exact hP) (d := fun d => .ref d [] 0 none) ?_ (by simpa [ersT, T.er] using ha)
      · have := (List.nodup_append.1 c1.mem.nd).2.1
        simpa [RT.ft] using this
      · simp only [List.mem_singleton] at hy
        subst hy
        have := c1.mem.hand
        simp only [SatL, and_true] at this
        exact sat_move hst _ this (fun _ _ => rfl)
      · intro S' X hl'
        simp only [TVt, TVa, TVc]
        intro y hy
        simp only [cellR, hl', cellsT, List.getElem?_cons_zero, Option.some.injEq] at hy
        subst hy
        simp [RefOk, sn, T.er, T.val, hdr]
  ·
    have hold : (Builtin.firstCells inf.size n0 (.slice (a.map fun p => (⟨p.1, p.2, none⟩ : Addr)) n0 cap)).run P w.drew = .ok (valsT ts).toArray w.drew := by
      cases a with
      | none =>
        simp only at k3
        have hts : ts = [] := List.length_eq_zero_iff.1 (by rw [k2, k3.1]; simp)
        subst hts
        exact run_firstCells_none _ _ _ _ _
      | some p =>
        exact run_firstCells_some w.drew inf.size n0 _ _ _ (valsT ts) (by rw [valsT_len, k2, h2]) (fun j v hj => by
          rw [add_mk]
          have := cell_blk k3 hj
          simpa using this)
    have hrun := b4.grow (a.map fun p => (⟨p.1, p.2, none⟩ : Addr)) n0 cap (valsT ts) hold (by omega) (by rw [h3]; exact hfit) (by rw [h3]; exact hby)
    rw [← hus] at hrun
    refine ⟨_, _, hrun, ?_⟩
    have hge := grownCap_ge w (n0 + m) cap e
    rw [← ersT_app] at ha
    have hlen : (ts ++ Ys).length = (n0 + m) * ei.size := by rw [List.length_append, k2, b3, Nat.add_mul]
    refine new_row (Hs := Ys ++ [T.own ei.size n0 cap a ts]) (H := []) (by simpa using b1) ((Grown.drew w).trans (Grown.alloc _ _)) (ts := ts ++ Ys) (b := w.heap.size) ⟨Nat.le_refl _, by rw [alloc_size]; exact Nat.lt_succ_self _⟩ ?_ ?_ ?_ hge hlen ?_ ht (by rw [hof]; exact hP) ha
    · rw [List.append_nil, satL_app]
      exact ⟨k4, hY⟩
    · intro k hk
      rw [ftsT_app] at hk
      simp only [ftsT_app, ftsT, T.ft, List.append_nil, List.mem_append]
      rcases List.mem_append.1 hk with hk | hk
      · exact .inr (.inr hk)
      · exact .inl hk
    · have p1 : (ftsT (Ys ++ [T.own ei.size n0 cap a ts])).Perm (ftA a ++ ftsT (ts ++ Ys)) := by
        refine List.perm_iff_count.2 fun a => ?_
        simp only [ftsT_app, ftsT, T.ft, List.count_append, List.count_nil]
        omega
      exact (List.nodup_append.1 (p1.nodup_iff.1 hnd)).2.1
    · refine blk_alloc w.drew _ e ?_ (fun j u hj => ?_)
      · simp only [Array.size_append, List.size_toArray, List.length_append, valsT_len, k2, b3, size_zeroCells, hzs, ← Nat.add_mul]
        refine Nat.mul_le_mul_right _ ?_
        omega
      · rw [valsT_app] at hj
        have hlt := (List.getElem?_eq_some_iff.1 hj).1
        rw [Array.getElem?_append_left (by simpa using hlt)]
        simpa using hj
end
end Go.Proofs.Ytkejckoefjonjaa
namespace Go.Proofs.Ytkejckoefjonjaa
theorem fold_push : ∀ (ns : List Int) (s : ByteArray), (ns.foldl (fun r n => r.push (UInt8.ofNat n.toNat)) s).data.toList = s.data.toList ++ ns.map (fun n => UInt8.ofNat n.toNat)
  | [], s => by simp
  | n :: ns, s => by
    rw [List.foldl_cons, fold_push ns]
    simp [ByteArray.push]
theorem bytes_ok {w : World} {X : Bool → Nat → Prop} : ∀ {cs : List D} {us : List Value} {bs : List UInt8}, All2 (Look w X) cs us → mapO byteOf cs = some bs → ∃ ns : List Int, us = ns.map (Value.int .u8) ∧ bs = ns.map (fun n => UInt8.ofNat n.toNat) := by
  intro cs
  induction cs with
  | nil =>
    intro us bs h hm
    cases h
    simp only [mapO, Option.some.injEq] at hm
    subst hm
    exact ⟨[], rfl, rfl⟩
  | cons d cs ih =>
    intro us bs h hm
    cases h with
    | cons h1 h2 =>
    simp only [mapO] at hm
    split at hm
    case h_2 => simp at hm
    rename_i b hb
    split at hm
    case h_2 => simp at hm
    rename_i bs' hbs
    simp only [Option.some.injEq] at hm
    subst hm
    obtain ⟨ns, rfl, rfl⟩ := ih h2 hbs
    unfold byteOf at hb
    split at hb
    case h_2 => simp at hb
    rename_i n
    simp only [Option.some.injEq] at hb
    subst hb
    refine ⟨n :: ns, ?_, rfl⟩
    simp only [List.map_cons, List.cons.injEq, and_true]
    rcases h1 with h1 | ⟨t, he, rfl, h1⟩
    · exact h1
    · cases t with
      | own s n cap a cs => simp [T.er] at he
      | v d u =>
        simp only [T.er] at he
        simp only [SatT, ← he] at h1
        exact h1
section
variable {P : Program} {c : Cfg} (hcfg : CfgOk c P) {C : Ctx} {w : World} {st st' : St} {vs : Array Value} {vss : List (Array Value)} {S : List (Nat × RT)} (h : Rel C [] w st (vs :: vss) S)
include hcfg
theorem ty_desc {t : TypeId} {ti : TI} (ht : c.ty t = some ti) : ∃ d, P.underlying t = some d ∧ TyD P ti.ty d := (hcfg.ty _ _ ht).desc
include h
theorem bytesStr_ok {src dst e : TypeId} (hs : P.underlying src = some (.slice e)) (he : P.underlying e = some (.int .u8)) (hd : P.underlying dst = some .string) {x : D} {u : Value} (hx : TVt w (Free C w S []) S x u) {g : Option Bool} {n : Nat} {cs : List D} (hsl : st.sl? x = some (g, 1, n, cs)) {bs : List UInt8} (hm : mapO byteOf cs = some bs) :
    ∀ w2, Stands w w2 → (convert src dst u).run P w2 = .ok (.string ⟨bs.toArray⟩) w2 := by
  have _ := hcfg
  intro w2 hw2
  obtain ⟨base, cap, rfl, h1, h2, h3⟩ := (sl_ok h.rt h.mem hx hsl).ok
  rw [run_convert_bytes_string w2 src dst e base n cap hs he hd]
  rcases h3 with rfl | ⟨b, off, cc, ee, fz, us, rfl, g1, g2, g3⟩
  · simp only [mapO, Option.some.injEq] at hm
    subst hm
    have hn : n = 0 := by simpa using h2.symm
    subst hn
    cases base with
    | none => rfl
    | some a => exact run_bytesToString w2 a 0 cap [] rfl
  · obtain ⟨ns, rfl, rfl⟩ := bytes_ok g2 hm
    have hl : ns.length = n := by have := g2.len; rw [h2] at this; simpa using this.symm
    have hload := run_loadCells_list (P := P) w2 ⟨b, off, none⟩ (ns.map (Value.int .u8)) (fun j v hj => by
      rw [add_mk]
      refine hw2.cell ?_
      simp [World.cell?, g1, g3 j v hj])
    rw [List.length_map, hl] at hload
    rw [run_bytesToString w2 _ n cap ns hload]
    congr 2
    have := fold_push ns ByteArray.empty
    have h4 : (ns.foldl (fun r n => r.push (UInt8.ofNat n.toNat)) ByteArray.empty).data = (ns.map (fun n => UInt8.ofNat n.toNat)).toArray := by
      apply Array.ext'
      rw [this]
      simp
    generalize ns.foldl (fun r n => r.push (UInt8.ofNat n.toNat)) ByteArray.empty = z at h4 ⊢
    cases z
    simp only at h4
    rw [h4]
theorem strBytes_ok {src dst e : TypeId} (hs : P.underlying src = some .string) (hd : P.underlying dst = some (.slice e)) (he : P.underlying e = some (.int .u8)) {s : ByteArray} {t : Nat} (ht : t < vs.size) (hP : ∀ p ∈ C.P0, p.1 ≠ st.of + t)
    (hr : st.root (some t) [.sl none 1 s.size (s.data.toList.map byteD)] (fun d => .ref d [] 0 none) = some st') :
    ∃ v w', (convert src dst (.string s)).run P w = .ok v w' ∧ ∃ S', Rel C [] w' st' (vs.setIfInBounds t v :: vss) S' := by
  have _ := hcfg
  have hall : All2 (Ext w (Free C w S [])) (s.data.toList.map byteD) (byteCells s) := by
    refine all2_of_get (by simp [byteCells]) (fun i a b ha hb => ?_)
    simp only [byteCells, List.getElem?_map] at ha hb
    cases hx : s.data.toList[i]? with
    | none => simp [hx] at ha
    | some y =>
      simp only [hx, Option.map_some, Option.some.injEq] at ha hb
      subst ha; subst hb
      rfl
  obtain ⟨Ys, a1, a2, a3, a4⟩ := take_leaves h hall
  have hcap : s.size ≤ grownCap w s.size 0 e := grownCap_ge w s.size 0 e
  let cells : Array Value := (s.data.map fun b => Value.int .u8 b.toNat) ++ Array.replicate (grownCap w s.size 0 e - s.size) (.int .u8 0)
  have hcs : cells.size = grownCap w s.size 0 e := by
    simp only [cells, Array.size_append, Array.size_map, Array.size_replicate]
    have : s.data.size = s.size := rfl
    omega
  let w1 := (w.drew.alloc (.cells cells e)).freeze ⟨w.heap.size, cells.size, none⟩ 1
  have hnew : (w.drew.alloc (.cells cells e)).heap[w.heap.size]? = some (.cells cells e (0, 0)) := alloc_new w.drew _
  have hrun : (convert src dst (.string s)).run P w = .ok (.slice (some ⟨w.heap.size, 0, none⟩) s.size (grownCap w s.size 0 e)) w1 := by
    have hsh : (w.drew.alloc (.cells cells e)).shape? w.heap.size = some (e, cells.size) := by
      simp only [World.shape?, hnew]
    simp only [convert, Sem.run_bind, run_underlying hs, run_underlying hd, run_underlying he, Result.andThen_ok]
    simp only [Conv.stringToBytes, Sem.run_bind, run_choose, Question.forced, Bool.false_eq_true, if_false, Result.andThen_ok, newRow, run_newObj, Sem.run_pure, markStringish, run_shape]
    have hsh' : World.shape? { os := w.os, heap := w.heap.push (.cells cells e), tape := w.tape, drawn := w.drawn + 1, output := w.output } w.heap.size = some (e, cells.size) := hsh
    simp only [cells, grownCap] at hsh'
    rw [hsh']
    simp only [run_freeze, Result.andThen_ok]
    rfl
  refine ⟨_, _, hrun, ?_⟩
  have hsz : w1.heap.size = w.heap.size + 1 := by
    show (World.freeze _ _ 1).heap.size = _
    simp only [World.freeze, Nat.one_ne_zero, if_false, Array.size_modify]
    exact alloc_size w.drew _
  have hg : Grown w w1 := by
    refine ⟨by omega, fun k hk => ?_, rfl, rfl, rfl⟩
    show (World.freeze _ _ 1).heap[k]? = _
    simp only [World.freeze, Nat.one_ne_zero, if_false, Array.getElem?_modify]
    rw [if_neg (by omega)]
    exact (Grown.alloc w.drew _).old k hk
  have hblk : Blk w1 w.heap.size 0 (grownCap w s.size 0 e * 1) (valsT Ys) := by
    refine ⟨cells, e, (cells.size, cells.size + 1), ?_, fun o ho => by simp only; omega, by rw [hcs]; omega, fun j u hj => ?_⟩
    · show (World.freeze _ _ 1).heap[w.heap.size]? = _
      simp only [World.freeze, Nat.one_ne_zero, if_false, Array.getElem?_modify, if_true]
      rw [hnew]
      rfl
    · rw [a3] at hj
      have hlt := (List.getElem?_eq_some_iff.1 hj).1
      rw [byteCells_length] at hlt
      simp only [cells, Nat.zero_add]
      rw [Array.getElem?_append_left (by simpa using hlt)]
      simp only [byteCells, List.getElem?_map] at hj
      simpa using hj
  rw [← a2] at hr
  exact new_row (Hs := Ys) (H := []) a1 hg ⟨Nat.le_refl _, by omega⟩ (by simpa using a1.mem.hand) (fun _ h => h) (by rw [a4]; simp) hcap (by rw [← valsT_len, a3, byteCells_length, Nat.mul_one]) hblk ht hP hr
end
end Go.Proofs.Ytkejckoefjonjaa
namespace Go.Proofs.Ytkejckoefjonjaa
section
variable {P : Program} {c : Cfg} (hcfg : CfgOk c P) {C : Ctx} {w : World} {st : St} {S : List (Nat × RT)} {X : Bool → Nat → Prop}
include hcfg
theorem index_ok {t : TypeId} {x d' : D} {u : Value} {k : IntKind} {i : Int} (hx : TVt w X S x u) (h : indexD c t x i = some d') : ∃ r, (∀ w : World, (Instr.index t u (.int k i)).run P w = .ok r w) ∧ TVt w X S d' r := by
  unfold indexD at h
  split at h
  · rename_i _ _ _ s ht
    obtain ⟨d, h1, h2⟩ := (hcfg.ty _ _ ht).desc
    simp only [TyD] at h2
    subst h2
    have hu : u = .string s := hx
    subst hu
    obtain ⟨g1, g2, g3⟩ := inRange_ok h
    cases hb : s.data.toList[i.toNat]? with
    | none => simp [hb] at g3
    | some b =>
      simp only [hb, Option.map_some, Option.some.injEq] at g3
      subst g3
      have hlt : i.toNat < s.size := by omega
      have hget : s[i.toNat]? = some b := by
        have h5 : s.data[i.toNat]? = some b := by rw [← Array.getElem?_toList]; exact hb
        rw [getElem?_pos s i.toNat hlt]
        rw [Array.getElem?_eq_getElem hlt] at h5
        exact h5
      refine ⟨.int .u8 b.toNat, ?_, rfl⟩
      intro w
      simp only [Instr.index, asIntOf, Sem.run_bind, Sem.run_pure, Result.andThen_ok, run_underlying h1, if_pos g1, hget]
  · rename_i n e _ _ _ cs ht
    split at h
    case h_2 => simp at h
    rename_i ei he
    obtain ⟨d, h1, h2⟩ := (hcfg.ty _ _ ht).desc
    simp only [TyD] at h2
    subst h2
    obtain ⟨us, rfl, hu⟩ := hx
    obtain ⟨g1, g2, g3⟩ := inRange_ok h
    have hsz := fun w => (hcfg.ty _ _ he).sz w
    have hag := fun w => (hcfg.ty _ _ he).agg w
    have hir : (0 ≤ i ∧ i < (n : Int)) := ⟨g1, g2⟩
    split at g3
    · rename_i hagg
      simp only [Option.some.injEq] at g3
      subst g3
      refine ⟨.agg (us.extract (i.toNat * ei.size) (i.toNat * ei.size + ei.size)), ?_, ?_⟩
      · intro w; simp [Instr.index, asIntOf, run_underlying h1, hir, hsz, part, hag, hagg]
      · refine ⟨_, rfl, ?_⟩
        have := (hu.drop (i.toNat * ei.size)).take ei.size
        simpa [Array.toList_extract, List.extract] using this
    · rename_i hagg
      obtain ⟨v, g4, g5⟩ := hu.get g3
      refine ⟨v, ?_, tvt_of_tvc g5⟩
      rw [Array.getElem?_toList] at g4
      simp only [Bool.not_eq_true] at hagg
      intro w; simp [Instr.index, asIntOf, run_underlying h1, hir, hsz, part, hag, hagg, g4]
  · simp at h
end
theorem Rel.put' {C : Ctx} {H : List T} {w : World} {st : St} {a : Act} {vss : List (Array Value)} {S : List (Nat × RT)} (h : Rel C H w st (a.tmps :: vss) S) {dst : Option Nat} (ht : ∀ t, dst = some t → t < a.tmps.size) {d : D} {v : Value} (hv : TVt w (Free C w S H) S d v) :
    Rel C H w (st.put dst d) ((a.put dst v).tmps :: vss) S := by
  cases dst with
  | none => exact h
  | some t => exact h.put (ht t rfl) hv
theorem put_of (st : St) (dst : Option Nat) (d : D) : (st.put dst d).of = st.of := by cases dst <;> rfl
theorem root_of {st st' : St} {dst : Option Nat} {cs : List D} {d : Nat → D} (h : st.root dst cs d = some st') : st'.of = st.of ∧ ∃ t, dst = some t := by
  cases dst with
  | none => simp [St.root] at h
  | some t =>
    simp only [St.root, Option.some.injEq] at h
    subst h
    exact ⟨rfl, t, rfl⟩
theorem aput_size (a : Act) (dst : Option Nat) (v : Value) : (a.put dst v).tmps.size = a.tmps.size ∧ (a.put dst v).defers = a.defers := by
  cases dst <;> simp [Act.put]
end Go.Proofs.Ytkejckoefjonjaa
namespace Go.Proofs.Ytkejckoefjonjaa
section
variable {P : Program} {c : Cfg} (hcfg : CfgOk c P) {C : Ctx} {w : World} {st st' : St} {vs : Array Value} {vss : List (Array Value)} {S : List (Nat × RT)} (h : Rel C [] w st (vs :: vss) S)
include hcfg h
theorem conv_val {src dst : TypeId} {x d : D} {u : Value} (hx : TVt w (Free C w S []) S x u) (hc : convD c st src dst x = some (d, none)) : ∃ r, (∀ w2, Stands w w2 → (convert src dst u).run P w2 = .ok r w2) ∧ TVt w (Free C w S []) S d r := by
  unfold convD at hc
  split at hc
  case h_2 => simp at hc
  rename_i si di hsi hdi
  obtain ⟨ds, hs1, hs2⟩ := ty_desc hcfg hsi
  obtain ⟨dd, hd1, hd2⟩ := ty_desc hcfg hdi
  split at hc
  · rename_i k _ n hk
    rw [hk] at hd2
    simp only [TyD] at hd2
    subst hd2
    simp only [Option.some.injEq, Prod.mk.injEq, and_true] at hc
    subst hc
    have hu := tv_int hx
    subst hu
    refine ⟨.int k (k.wrap n), ?_, tvi _ _⟩
    intro w2 _; simp [convert, run_underlying hs1, run_underlying hd1, Conv.intToInt]
  · rename_i n hk
    rw [hk] at hd2
    simp only [TyD] at hd2
    subst hd2
    simp only [Option.some.injEq, Prod.mk.injEq, and_true] at hc
    subst hc
    have hu := tv_int hx
    subst hu
    refine ⟨.string (Utf8.encode n), ?_, tvs _⟩
    intro w2 _; simp [convert, run_underlying hs1, run_underlying hd1, Conv.intToString]
  · rename_i s hk
    rw [hk] at hd2
    simp only [TyD] at hd2
    subst hd2
    simp only [Option.some.injEq, Prod.mk.injEq, and_true] at hc
    subst hc
    have hu := tv_str hx
    subst hu
    refine ⟨.string s, ?_, tvs _⟩
    intro w2 _; simp [convert, run_underlying hs1, run_underlying hd1]
  · rename_i e hk hsk _ _
    rw [hk] at hd2
    rw [hsk] at hs2
    simp only [TyD] at hd2 hs2
    subst hd2; subst hs2
    split at hc
    case h_2 => simp at hc
    rename_i he
    obtain ⟨de, he1, he2⟩ := ty_desc hcfg he
    simp only [TyD] at he2
    subst he2
    split at hc
    case h_2 => simp at hc
    rename_i g s n cs hsl
    split at hc
    case isFalse => simp at hc
    rename_i hs
    subst hs
    split at hc
    case h_2 => simp at hc
    rename_i bs hm
    simp only [Option.some.injEq, Prod.mk.injEq, and_true] at hc
    subst hc
    exact ⟨_, bytesStr_ok hcfg h hs1 he1 hd1 hx hsl hm, tvs _⟩
  · split at hc <;> simp at hc
  · simp at hc
theorem conv_root {src dst : TypeId} {x d : D} {cs : List D} {u : Value} (hx : TVt w (Free C w S []) S x u) (hc : convD c st src dst x = some (d, some cs)) {t : Nat} (ht : t < vs.size) (hP : ∀ p ∈ C.P0, p.1 ≠ st.of + t)
    (hr : st.root (some t) cs (fun d => .ref d [] 0 none) = some st') : ∃ v w', (convert src dst u).run P w = .ok v w' ∧ ∃ S', Rel C [] w' st' (vs.setIfInBounds t v :: vss) S' := by
  unfold convD at hc
  split at hc
  case h_2 => simp at hc
  rename_i si di hsi hdi
  obtain ⟨ds, hs1, hs2⟩ := ty_desc hcfg hsi
  obtain ⟨dd, hd1, hd2⟩ := ty_desc hcfg hdi
  split at hc
  · simp at hc
  · simp at hc
  · simp at hc
  · split at hc
    · split at hc
      · split at hc
        · split at hc <;> simp at hc
        · simp at hc
      · simp at hc
    · simp at hc
  · rename_i e s hk hsk
    rw [hk] at hd2
    rw [hsk] at hs2
    simp only [TyD] at hd2 hs2
    subst hd2; subst hs2
    split at hc
    case h_2 => simp at hc
    rename_i he
    obtain ⟨de, he1, he2⟩ := ty_desc hcfg he
    simp only [TyD] at he2
    subst he2
    simp only [Option.some.injEq, Prod.mk.injEq] at hc
    obtain ⟨_, rfl⟩ := hc
    have hu := tv_str hx
    subst hu
    exact strBytes_ok hcfg h hs1 hd1 he1 ht hP hr
  · simp at hc
end
end Go.Proofs.Ytkejckoefjonjaa
namespace Go.Proofs.Ytkejckoefjonjaa
theorem tkC_of {st st' : St} {d d' : D} (h : tkC st d = some (d', st')) : st'.of = st.of := by
  unfold tkC at h
  split at h <;> try (simp only [Option.some.injEq, Prod.mk.injEq] at h; obtain ⟨_, rfl⟩ := h; rfl)
  · split at h
    · split at h
      · rename_i st1 hs
        simp only [Option.some.injEq, Prod.mk.injEq] at h
        obtain ⟨_, rfl⟩ := h
        unfold St.setC at hs
        split at hs
        · split at hs
          · simp only [Option.some.injEq] at hs
            subst hs; rfl
          · simp at hs
        · simp at hs
      · simp at h
    · simp only [Option.some.injEq, Prod.mk.injEq] at h; obtain ⟨_, rfl⟩ := h; rfl
    · simp at h
  · simp at h
theorem tkL_of : ∀ {ds ds' : List D} {st st' : St}, tkL st ds = some (ds', st') → st'.of = st.of
  | [], ds', st, st', h => by simp only [tkL, Option.some.injEq, Prod.mk.injEq] at h; obtain ⟨_, rfl⟩ := h; rfl
  | d :: ds, ds', st, st', h => by
    simp only [tkL] at h
    split at h
    case h_2 => simp at h
    rename_i d1 st1 h1
    split at h
    case h_2 => simp at h
    rename_i ds1 st2 h2
    simp only [Option.some.injEq, Prod.mk.injEq] at h
    obtain ⟨_, rfl⟩ := h
    exact (tkL_of h2).trans (tkC_of h1)
theorem append_of {c : Cfg} {st st' : St} {t tx : TypeId} {dst : Option Nat} {s x : D} (h : appendD c st t tx dst s x = some st') : ∃ st2 : St, ∃ cs : List D, st2.of = st.of ∧ st2.root dst cs (fun d => .ref d [] 0 none) = some st' := by
  unfold appendD at h
  split at h
  case h_2 => simp at h
  split at h
  case h_2 => simp at h
  split at h
  case isFalse => simp at h
  split at h
  case h_2 => simp at h
  rename_i n cs st1 htg
  split at h
  case h_2 => simp at h
  rename_i ys m st2 hel
  split at h
  case isFalse => simp at h
  refine ⟨st2, _, ?_, h⟩
  have h1 : st1.of = st.of := by
    unfold target at htg
    split at htg
    · rename_i s' n' cs' st3 htk
      split at htg
      · simp only [Option.some.injEq, Prod.mk.injEq] at htg
        obtain ⟨_, _, rfl⟩ := htg
        exact tkC_of htk
      · simp at htg
    · simp at htg
  have h2 : st2.of = st1.of := by
    unfold elems at hel
    split at hel <;> try (simp at hel; done)
    · split at hel <;> simp only [Option.some.injEq, Prod.mk.injEq, reduceCtorEq] at hel
      obtain ⟨_, _, rfl⟩ := hel; rfl
    · split at hel <;> simp only [Option.some.injEq, Prod.mk.injEq, reduceCtorEq] at hel
      obtain ⟨_, _, rfl⟩ := hel; rfl
    · simp only [Option.some.injEq, Prod.mk.injEq] at hel
      obtain ⟨_, _, rfl⟩ := hel; rfl
    · split at hel <;> simp only [Option.some.injEq, Prod.mk.injEq, reduceCtorEq] at hel
      obtain ⟨_, _, rfl⟩ := hel; rfl
    · split at hel
      · split at hel
        · simp at hel
        · split at hel
          · split at hel <;> simp only [Option.some.injEq, Prod.mk.injEq, reduceCtorEq] at hel
            obtain ⟨_, _, rfl⟩ := hel; rfl
          · split at hel
            · rename_i ys' st4 htk
              split at hel <;> simp only [Option.some.injEq, Prod.mk.injEq, reduceCtorEq] at hel
              obtain ⟨_, _, rfl⟩ := hel
              exact tkL_of htk
            · simp at hel
      · split at hel <;> simp only [Option.some.injEq, Prod.mk.injEq, reduceCtorEq] at hel
        obtain ⟨_, _, rfl⟩ := hel; rfl
      · simp at hel
  exact h2.trans h1
section
variable {P : Program} {c : Cfg} (hcfg : CfgOk c P) {C : Ctx} {w : World} {st st' : St} {o : Oper} {a : Act} {vss : List (Array Value)} {S : List (Nat × RT)} {K : Act → World → Prop} {Q : Exit → Act → World → Prop}
  {cl : FuncId → List D → Option (D × List D)} {ci : FuncId → List D → Nat → St → Option (D × St)} {fnId : FuncId}
include hcfg
theorem op_simple (h : Rel C [] w st (a.tmps :: vss) S) (hdst : ∀ t, o.dst = some t → t < a.tmps.size ∧ ∀ p ∈ C.P0, p.1 ≠ st.of + t) (hno : ∀ cc f, o.op = .call cc → cc.callee ≠ .value f) (hop : opD c cl ci fnId st o = some st')
    (hK : ∀ a' w' S', Rel C [] w' st' (a'.tmps :: vss) S' → a'.tmps.size = a.tmps.size → a'.defers = a.defers → st'.of = st.of → K a' w') : o.wp P a w K Q := by
  have htm : TMs w (Free C w S []) S st.tm a.tmps := by cases h.tms with | cons a _ => exact a
  have ev := fun t x => ev_ok (c := c) htm t x
  have hd1 : ∀ t, o.dst = some t → t < a.tmps.size := fun t ht => (hdst t ht).1
  have fin_val : ∀ {d : D} {v : Value}, (execOp a.eval o).run P w = .ok (.value v) w → TVt w (Free C w S []) S d v → st' = st.put o.dst d → o.wp P a w K Q := by
    intro d v hrun hv hst
    subst hst
    refine wp_value hrun (hK _ _ S (h.put' hd1 hv) (aput_size a o.dst v).1 (aput_size a o.dst v).2 (put_of st o.dst d))
  have fin_root : ∀ {st1 : St} {cs : List D} {dd : Nat → D}, st1.of = st.of → st1.root o.dst cs dd = some st' → (∀ t, o.dst = some t → t < a.tmps.size → (∀ p ∈ C.P0, p.1 ≠ st.of + t) → st1.root (some t) cs dd = some st' → ∃ v w', (execOp a.eval o).run P w = .ok (.value v) w' ∧ ∃ S', Rel C [] w' st' (a.tmps.setIfInBounds t v :: vss) S') → o.wp P a w K Q := by
    intro st1 cs dd hof hr hk
    obtain ⟨h1, t, ht⟩ := root_of hr
    rw [ht] at hr
    obtain ⟨v, w', hrun, S', hrel⟩ := hk t ht (hdst t ht).1 (hdst t ht).2 hr
    refine wp_value hrun (hK _ _ S' ?_ (aput_size a o.dst v).1 (aput_size a o.dst v).2 (h1.trans hof))
    rw [ht]
    exact hrel
  unfold opD at hop
  cases ho : o.op with
  | move x =>
    simp only [ho, Option.some.injEq] at hop
    exact fin_val (by unfold execOp; simp only [ho]; rfl) (ev o.type x) hop.symm
  | assign x =>
    simp only [ho, Option.some.injEq] at hop
    exact fin_val (by unfold execOp; simp only [ho]; rfl) (ev o.type x) hop.symm
  | pick b x y =>
    simp only [ho] at hop
    split at hop
    case h_2 => simp at hop
    rename_i t hb
    simp only [Option.some.injEq] at hop
    have hbv := ev o.type b
    rw [hb] at hbv
    have hbv : a.eval b = .bool t := hbv
    refine fin_val (v := if t then a.eval x else a.eval y) (d := if t then evD c st o.type x else evD c st o.type y) ?_ ?_ hop.symm
    · unfold execOp
      simp only [ho, hbv, asBool, Sem.run_bind, Sem.run_pure, Result.andThen_ok]
    · cases t
      · exact ev o.type y
      · exact ev o.type x
  | alloc e =>
    simp only [ho] at hop
    split at hop
    case h_2 => simp at hop
    rename_i i hi
    refine fin_root rfl hop (fun t ht h1 h2 h3 => ?_)
    obtain ⟨v, w', hr, hS⟩ := alloc_ok hcfg h hi h1 h2 h3
    exact ⟨v, w', by unfold execOp; simp only [ho, Sem.run_bind, hr, Result.andThen_ok, Sem.run_pure], hS⟩
  | box e x =>
    simp only [ho] at hop
    split at hop
    case h_2 => simp at hop
    rename_i i hi
    by_cases hst : c.steal fnId (o.dst.getD 0) = true
    · simp only [hst, if_true, and_true] at hop
      split at hop
      case isFalse => simp at hop
      rename_i hc
      split at hop
      case h_2 => simp at hop
      rename_i t ht
      rw [ht] at hst
      simp only [Option.getD_some] at hst
      simp only [hst, if_true] at hop
      split at hop
      case h_2 => simp at hop
      rename_i cs st1 htk
      split at hop
      case isFalse => simp at hop
      rename_i hcs
      obtain ⟨v, w', hr, S', hrel⟩ := box_steal hcfg h hc htk hcs (hdst t ht).1 (hdst t ht).2 hop
      refine wp_value (v := v) (w' := w') (by unfold execOp; simp only [ho, Sem.run_bind, hr, Result.andThen_ok, Sem.run_pure]) (hK _ _ S' (by rw [ht]; exact hrel) (aput_size a o.dst v).1 (aput_size a o.dst v).2 ((root_of hop).1.trans (tkL_of htk)))
    · simp only [hst, Bool.false_eq_true, if_false] at hop
      split at hop
      case isFalse => simp at hop
      rename_i hc
      split at hop
      case h_2 => simp at hop
      rename_i t ht
      rw [ht] at hst
      simp only [Option.getD_some] at hst
      simp only [hst, Bool.false_eq_true, if_false] at hop
      obtain ⟨v, w', hr, S', hrel⟩ := box_ok hcfg h hc.1 hc.2 (hdst t ht).1 (hdst t ht).2 hop
      refine wp_value (v := v) (w' := w') (by unfold execOp; simp only [ho, Sem.run_bind, hr, Result.andThen_ok, Sem.run_pure]) (hK _ _ S' (by rw [ht]; exact hrel) (aput_size a o.dst v).1 (aput_size a o.dst v).2 (root_of hop).1)
  | build t ps =>
    simp only [ho] at hop
    split at hop
    · rename_i offs szs sz by_ z hct
      split at hop
      case h_2 => simp at hop
      rename_i cs hf
      simp only [Option.some.injEq] at hop
      obtain ⟨v, hr, hv⟩ := build_struct hcfg h hct hf
      exact fin_val (by unfold execOp; simp only [ho, Sem.run_bind, hr, Result.andThen_ok, Sem.run_pure]) hv hop.symm
    · rename_i n e sz by_ z hct
      split at hop
      case h_2 => simp at hop
      rename_i ei hce
      split at hop
      case h_2 => simp at hop
      rename_i cs hf
      simp only [Option.some.injEq] at hop
      obtain ⟨v, hr, hv⟩ := build_array hcfg h hct hce hf
      exact fin_val (by unfold execOp; simp only [ho, Sem.run_bind, hr, Result.andThen_ok, Sem.run_pure]) hv hop.symm
    · simp at hop
  | buildSlice t n ps =>
    simp only [ho] at hop
    split at hop
    case h_2 => simp at hop
    rename_i e sz by_ z hct
    split at hop
    case h_2 => simp at hop
    rename_i ei hce
    split at hop
    case isFalse => simp at hop
    rename_i hn
    split at hop
    case h_2 => simp at hop
    rename_i vs st1 hp
    split at hop
    case h_2 => simp at hop
    rename_i cs hf
    have hof : st1.of = st.of := by
      have hall : All2 (fun p q => q.1 = p.1 ∧ TVt w (Free C w S []) S p.2 q.2) (ps.toList.map fun p => (p.1, evD c st e p.2)) (ps.toList.map fun p => (p.1, a.eval p.2)) := by
        refine all2_of_get (by simp) (fun i x y hx hy => ?_)
        simp only [List.getElem?_map] at hx hy
        cases hq : ps.toList[i]? with
        | none => simp [hq] at hx
        | some q =>
          simp only [hq, Option.map_some, Option.some.injEq] at hx hy
          subst hx; subst hy
          exact ⟨rfl, ev e q.2⟩
      obtain ⟨_, _, _, _, _, _, _, _, b7⟩ := tkParts_ok h hall hp
      exact b7.2.2
    refine fin_root hof hop (fun t' ht h1 h2 h3 => ?_)
    obtain ⟨v, w', hr, hS⟩ := buildSlice_ok hcfg h hct rfl hce hn hp hf h1 h2 h3
    exact ⟨v, w', by unfold execOp; simp only [ho, Sem.run_bind, hr, Result.andThen_ok, Sem.run_pure], hS⟩
  | load t x =>
    simp only [ho] at hop
    split at hop
    case h_2 => simp at hop
    rename_i i hi
    split at hop
    case h_2 => simp at hop
    rename_i d hl
    simp only [Option.some.injEq] at hop
    obtain ⟨v, hr, hv⟩ := load_ok hcfg h.rt h.mem hi (ev o.type x) hl
    replace hr := hr w (Stands.refl w)
    exact fin_val (by unfold execOp; simp only [ho, Sem.run_bind, hr, Result.andThen_ok, Sem.run_pure]) hv hop.symm
  | store t x y =>
    simp only [ho] at hop
    split at hop
    case h_2 => simp at hop
    rename_i i hi
    split at hop
    case h_2 => simp at hop
    rename_i st1 hs
    simp only [Option.some.injEq] at hop
    subst hop
    obtain ⟨w', S', hr, hrel, hof⟩ := storeD_ok hcfg h hi (ev o.type x) (ev t y) hs
    refine wp_skipped (w' := w') (by unfold execOp; simp only [ho, Sem.run_bind, hr, Result.andThen_ok, Sem.run_pure]) (hK _ _ S' (hrel.put' hd1 (d := .tup []) ?_) (aput_size a o.dst undef).1 (aput_size a o.dst undef).2 ((put_of st1 o.dst _).trans hof))
    exact ⟨#[], rfl, .nil⟩
  | nilCheck x =>
    simp only [ho] at hop
    have hx := ev o.type x
    have hd : ∃ A, a.eval x = .pointer (some A) ∧ st' = st.put o.dst (evD c st o.type x) := by
      split at hop
      · rename_i r q i heq
        split at hop
        · rename_i hl
          simp only [Option.some.injEq] at hop
          rw [heq] at hx
          obtain ⟨A, hA, _⟩ := nilCheck_ok h.rt h.mem hx (by simp only [hl, if_true]; rfl)
          exact ⟨A, hA, by rw [heq]; exact hop.symm⟩
        · simp at hop
      · rename_i cs i heq
        simp only [Option.some.injEq] at hop
        rw [heq] at hx
        obtain ⟨A, hA, _⟩ := nilCheck_ok h.rt h.mem hx rfl
        exact ⟨A, hA, by rw [heq]; exact hop.symm⟩
      · simp at hop
    obtain ⟨A, hA, hst⟩ := hd
    refine fin_val (v := a.eval x) ?_ hx hst
    unfold execOp
    simp only [ho, hA]
    rfl
  | binOp op t x y z =>
    simp only [ho] at hop
    split at hop
    case h_2 => simp at hop
    rename_i d hb
    simp only [Option.some.injEq] at hop
    obtain ⟨v, hr, hv⟩ := bin_ok hcfg (x := x) (y := y) (ev t x) (ev t y) hb
    exact fin_val (by unfold execOp; simp only [ho, Sem.run_bind] at hr ⊢; rw [hr]; rfl) hv hop.symm
  | unOp op t x =>
    simp only [ho] at hop
    split at hop
    case h_2 => simp at hop
    rename_i d hb
    simp only [Option.some.injEq] at hop
    obtain ⟨v, hr, hv⟩ := un_ok (P := P) (ev o.type x) hb
    exact fin_val (by unfold execOp; simp only [ho, Sem.run_bind, hr, Result.andThen_ok, Sem.run_pure]) hv hop.symm
  | makeFunc fn first caps =>
    cases fn with
    | func f =>
      simp only [ho] at hop
      split at hop
      case isFalse => simp at hop
      rename_i hf
      simp only [Option.some.injEq] at hop
      have hfirst : first = #[] := Array.eq_empty_of_size_eq_zero hf.1
      subst hfirst
      refine fin_val (v := .func (.func f) #[] (caps.map a.eval)) (by simp [execOp, ho, Instr.makeFunc]) ?_ hop.symm
      refine ⟨_, rfl, ?_⟩
      refine all2_of_get (by simp) (fun i x y hx hy => ?_)
      have hs : single x = true := List.all_eq_true.1 hf.2 x (List.mem_of_getElem? hx)
      simp only [Array.toList_map, List.getElem?_map] at hx hy
      cases hq : caps.toList[i]? with
      | none => simp [hq] at hx
      | some q =>
        simp only [hq, Option.map_some, Option.some.injEq] at hx hy
        subst hy
        have hv := ev o.type q
        rw [hx] at hv
        cases x <;> first | exact hv | simp [single] at hs
    | _ => simp [ho] at hop
  | makeSlice t l cp =>
    simp only [ho] at hop
    split at hop
    case h_2 => simp at hop
    rename_i e sz by_ z hct
    split at hop
    case h_2 => simp at hop
    rename_i ei kl li kc ci hce hl hc
    split at hop
    case isFalse => simp at hop
    rename_i h0
    split at hop
    case isFalse => simp at hop
    rename_i hlc
    split at hop
    case isFalse => simp at hop
    rename_i hb
    have hlv := ev o.type l
    rw [hl] at hlv
    have hcv := ev o.type cp
    rw [hc] at hcv
    have hlv := tv_int hlv
    have hcv := tv_int hcv
    refine fin_root rfl hop (fun t' ht h1 h2 h3 => ?_)
    obtain ⟨v, w', hr, hS⟩ := makeSlice_ok hcfg h hct rfl hce (kl := kl) (kc := kc) h0 hlc hb h1 h2 h3
    exact ⟨v, w', by unfold execOp; simp only [ho, hlv, hcv, Sem.run_bind, hr, Result.andThen_ok, Sem.run_pure], hS⟩
  | convert src dst x =>
    simp only [ho] at hop
    split at hop
    · rename_i d hc
      simp only [Option.some.injEq] at hop
      obtain ⟨v, hr, hv⟩ := conv_val hcfg h (ev src x) hc
      replace hr := hr w (Stands.refl w)
      exact fin_val (by unfold execOp; simp only [ho, Sem.run_bind, hr, Result.andThen_ok, Sem.run_pure]) hv hop.symm
    · rename_i d cs hc
      refine fin_root rfl hop (fun t' ht h1 h2 h3 => ?_)
      obtain ⟨v, w', hr, hS⟩ := conv_root hcfg h (ev src x) hc h1 h2 h3
      exact ⟨v, w', by unfold execOp; simp only [ho, Sem.run_bind, hr, Result.andThen_ok, Sem.run_pure], hS⟩
    · simp at hop
  | slice t x lo hi mx =>
    cases mx with
    | some _ => simp [ho] at hop
    | none =>
      simp only [ho] at hop
      split at hop
      case h_2 => simp at hop
      rename_i d hs
      simp only [Option.some.injEq] at hop
      have hopt : ∀ y : Option Operand, Opt w (Free C w S []) S (y.map (evD c st o.type)) (y.map a.eval) := by
        intro y
        cases y with
        | none => exact .inl ⟨rfl, rfl⟩
        | some y => exact .inr ⟨_, _, rfl, rfl, ev o.type y⟩
      obtain ⟨v, hr, hv⟩ := slice_ok hcfg h.rt h.mem (ev t x) (hopt lo) (hopt hi) hs
      exact fin_val (by unfold execOp; simp only [ho, Option.map_none, Sem.run_bind, hr, Result.andThen_ok, Sem.run_pure]) hv hop.symm
  | fieldAddr s x f =>
    simp only [ho] at hop
    split at hop
    case h_2 => simp at hop
    rename_i offs szs sz by_ z hct
    split at hop
    case h_2 => simp at hop
    rename_i k hk
    split at hop
    case h_2 => simp at hop
    rename_i d hs
    simp only [Option.some.injEq] at hop
    obtain ⟨v, hr, hv⟩ := fieldAddr_ok hcfg h.rt h.mem hct hk (ev o.type x) hs
    exact fin_val (by unfold execOp; simp only [ho, Sem.run_bind, hr, Result.andThen_ok, Sem.run_pure]) hv hop.symm
  | indexAddr t x i =>
    simp only [ho] at hop
    split at hop
    case h_2 => simp at hop
    rename_i k i' hi
    split at hop
    case h_2 => simp at hop
    rename_i d hs
    simp only [Option.some.injEq] at hop
    have hiv := ev o.type i
    rw [hi] at hiv
    have hiv := tv_int hiv
    obtain ⟨v, hr, hv⟩ := indexAddr_ok hcfg h.rt h.mem (k := k) (ev t x) hs
    exact fin_val (by unfold execOp; simp only [ho, hiv, Sem.run_bind, hr, Result.andThen_ok, Sem.run_pure]) hv hop.symm
  | index t x i =>
    simp only [ho] at hop
    split at hop
    case h_2 => simp at hop
    rename_i k i' hi
    split at hop
    case h_2 => simp at hop
    rename_i d hs
    simp only [Option.some.injEq] at hop
    have hiv := ev o.type i
    rw [hi] at hiv
    have hiv := tv_int hiv
    obtain ⟨v, hr, hv⟩ := index_ok hcfg (k := k) (ev o.type x) hs
    exact fin_val (by unfold execOp; simp only [ho, hiv, Sem.run_bind, hr, Result.andThen_ok, Sem.run_pure]) hv hop.symm
  | extract x i =>
    simp only [ho] at hop
    split at hop
    case h_2 => simp at hop
    rename_i vs hx
    split at hop
    case h_2 => simp at hop
    rename_i d hs
    simp only [Option.some.injEq] at hop
    have hxv := ev o.type x
    rw [hx] at hxv
    obtain ⟨v, hr, hv⟩ := extract_ok (P := P) hxv hs
    exact fin_val (by unfold execOp; simp only [ho, Sem.run_bind, hr, Result.andThen_ok, Sem.run_pure]) hv hop.symm
  | call cc =>
    simp only [ho] at hop
    split at hop
    · simp at hop
    rename_i hsz
    simp only [ne_eq, Decidable.not_not] at hsz
    have pairs : ∀ {ds : List D}, ((cc.args.toList.zip cc.argTypes.toList).map fun p => evD c st p.2 p.1) = ds → All2 (TVt w (Free C w S []) S) ds (cc.args.map a.eval).toList := by
      intro ds hds
      subst hds
      refine all2_of_get (by simp [hsz]) (fun i x y hx hy => ?_)
      simp only [Array.toList_map, List.getElem?_map] at hx hy
      cases hq : (cc.args.toList.zip cc.argTypes.toList)[i]? with
      | none => simp [hq] at hx
      | some q =>
        simp only [hq, Option.map_some, Option.some.injEq] at hx
        rw [List.getElem?_zip_eq_some] at hq
        simp only [hq.1, Option.map_some, Option.some.injEq] at hy
        subst hx; subst hy
        exact ev q.2 q.1
    split at hop
    · rename_i f hf
      exact absurd hf (hno cc f ho)
    · rename_i hb
      split at hop
      case h_2 => simp at hop
      rename_i x t hx ht
      split at hop
      case h_2 => simp at hop
      rename_i d hl
      simp only [Option.some.injEq] at hop
      have ha := pairs hx
      have hargs : cc.args.map a.eval = #[(cc.args.map a.eval).toList.headD undef] := by
        cases ha' : (cc.args.map a.eval).toList with
        | nil => rw [ha'] at ha; cases ha
        | cons y ys => rw [ha'] at ha; cases ha with
          | cons _ h2 => cases h2; rw [← Array.toArray_toList (xs := cc.args.map a.eval), ha']; rfl
      have hts : cc.argTypes = #[t] := by rw [← Array.toArray_toList (xs := cc.argTypes), ht]
      have hx1 : TVt w (Free C w S []) S x ((cc.args.map a.eval).toList.headD undef) := by
        cases ha' : (cc.args.map a.eval).toList with
        | nil => rw [ha'] at ha; cases ha
        | cons y ys => rw [ha'] at ha; cases ha with
          | cons h1 _ => exact h1
      obtain ⟨v, hr, hv⟩ := len_ok hcfg h.rt h.mem hx1 hl o.type
      exact fin_val (by unfold execOp; simp only [ho, resolve, hb, invoke, builtin, Sem.run_bind, Sem.run_pure, Result.andThen_ok]; rw [hargs, hts, hr]; rfl) hv hop.symm
    · rename_i hb
      split at hop
      case h_2 => simp at hop
      rename_i k x k' y hx
      simp only [Option.some.injEq] at hop
      have ha := pairs hx
      have hargs : cc.args.map a.eval = #[.int k x, .int k' y] := by
        cases ha' : (cc.args.map a.eval).toList with
        | nil => rw [ha'] at ha; cases ha
        | cons y ys => rw [ha'] at ha; cases ha with
          | cons h1 h2 =>
            cases h2 with
            | cons h3 h4 =>
              cases h4
              rw [← Array.toArray_toList (xs := cc.args.map a.eval), ha', tv_int h1, tv_int h3]
      refine fin_val (v := .int k (if y < x then y else x)) ?_ (tvi _ _) hop.symm
      unfold execOp
      simp only [ho, resolve, hb, invoke, builtin, Sem.run_bind, Sem.run_pure, Result.andThen_ok]
      rw [hargs]
      simp [Builtin.min_, Builtin.min2]
    · rename_i hb
      split at hop
      case h_2 => simp at hop
      rename_i k x k' y hx
      simp only [Option.some.injEq] at hop
      have ha := pairs hx
      have hargs : cc.args.map a.eval = #[.int k x, .int k' y] := by
        cases ha' : (cc.args.map a.eval).toList with
        | nil => rw [ha'] at ha; cases ha
        | cons y ys => rw [ha'] at ha; cases ha with
          | cons h1 h2 =>
            cases h2 with
            | cons h3 h4 =>
              cases h4
              rw [← Array.toArray_toList (xs := cc.args.map a.eval), ha', tv_int h1, tv_int h3]
      refine fin_val (v := .int k (if y > x then y else x)) ?_ (tvi _ _) hop.symm
      unfold execOp
      simp only [ho, resolve, hb, invoke, builtin, Sem.run_bind, Sem.run_pure, Result.andThen_ok]
      rw [hargs]
      simp [Builtin.max_, Builtin.max2]
    · rename_i hb
      split at hop
      case h_2 => simp at hop
      rename_i s x t tx hx ht
      have ha := pairs hx
      obtain ⟨us, ux, hargs, hs1, hx1⟩ : ∃ us ux, cc.args.map a.eval = #[us, ux] ∧ TVt w (Free C w S []) S s us ∧ TVt w (Free C w S []) S x ux := by
        cases ha' : (cc.args.map a.eval).toList with
        | nil => rw [ha'] at ha; cases ha
        | cons y ys => rw [ha'] at ha; cases ha with
          | cons h1 h2 =>
            cases h2 with
            | cons h3 h4 =>
              cases h4
              exact ⟨_, _, by rw [← Array.toArray_toList (xs := cc.args.map a.eval), ha'], h1, h3⟩
      have hts : cc.argTypes = #[t, tx] := by rw [← Array.toArray_toList (xs := cc.argTypes), ht]
      obtain ⟨st2, dd, hof, hroot⟩ : ∃ st2 : St, ∃ cs : List D, st2.of = st.of ∧ st2.root o.dst cs (fun d => .ref d [] 0 none) = some st' := append_of hop
      obtain ⟨_, t', ht'⟩ := root_of hroot
      rw [ht'] at hop
      obtain ⟨v, w', hr, S', hrel⟩ := append_ok hcfg h hs1 hx1 (ty := o.type) (hdst t' ht').1 (hdst t' ht').2 hop
      refine wp_value (v := v) (w' := w') (by unfold execOp; simp only [ho, resolve, hb, invoke, builtin, Sem.run_bind, Sem.run_pure, Result.andThen_ok]; rw [hargs, hts, hr]; rfl) (hK _ _ S' (by rw [ht']; exact hrel) (aput_size a o.dst v).1 (aput_size a o.dst v).2 ((root_of hroot).1.trans hof))
    · simp at hop
  | _ => simp [ho] at hop
end
end Go.Proofs.Ytkejckoefjonjaa
namespace Go.Proofs.Ytkejckoefjonjaa
section
variable {P : Program} {c : Cfg} (hcfg : CfgOk c P) {C : Ctx} {w : World} {st st' : St} {o : Oper} {a : Act} {vss : List (Array Value)} {S : List (Nat × RT)}
  {cl : FuncId → List D → Option (D × List D)} {ci : FuncId → List D → Nat → St → Option (D × St)} {fnId : FuncId}
include hcfg
theorem op_value (h : Rel C [] w st (a.tmps :: vss) S) {b : Bool} (hpv : pvO c o = some b) (hop : opD c cl ci fnId st o = some st') :
    ∃ v d, (∀ w2, (b = true ∨ Stands w w2) → (execOp a.eval o).run P w2 = .ok (.value v) w2) ∧ TVt w (Free C w S []) S d v ∧ st' = st.put o.dst d := by
  have htm : TMs w (Free C w S []) S st.tm a.tmps := by cases h.tms with | cons a _ => exact a
  have ev := fun t x => ev_ok (c := c) htm t x
  have fin_val : ∀ {d : D} {v : Value}, (∀ w2, (b = true ∨ Stands w w2) → (execOp a.eval o).run P w2 = .ok (.value v) w2) → TVt w (Free C w S []) S d v → st' = st.put o.dst d → ∃ v d, (∀ w2, (b = true ∨ Stands w w2) → (execOp a.eval o).run P w2 = .ok (.value v) w2) ∧ TVt w (Free C w S []) S d v ∧ st' = st.put o.dst d :=
    fun h1 h2 h3 => ⟨_, _, h1, h2, h3⟩
  unfold opD at hop
  cases ho : o.op with
  | move x =>
    simp only [ho, Option.some.injEq] at hop
    exact fin_val (fun w2 _ => by unfold execOp; simp only [ho]; rfl) (ev o.type x) hop.symm
  | assign x =>
    simp only [ho, Option.some.injEq] at hop
    exact fin_val (fun w2 _ => by unfold execOp; simp only [ho]; rfl) (ev o.type x) hop.symm
  | pick b x y =>
    simp only [ho] at hop
    split at hop
    case h_2 => simp at hop
    rename_i t hb
    simp only [Option.some.injEq] at hop
    have hbv := ev o.type b
    rw [hb] at hbv
    have hbv : a.eval b = .bool t := hbv
    refine fin_val (v := if t then a.eval x else a.eval y) (d := if t then evD c st o.type x else evD c st o.type y) ?_ ?_ hop.symm
    · intro w2 _
      unfold execOp
      simp only [ho, hbv, asBool, Sem.run_bind, Sem.run_pure, Result.andThen_ok]
    · cases t
      · exact ev o.type y
      · exact ev o.type x
  | alloc e => simp [pvO, ho] at hpv
  | box e x => simp [pvO, ho] at hpv
  | build t ps =>
    simp only [ho] at hop
    split at hop
    · rename_i offs szs sz by_ z hct
      split at hop
      case h_2 => simp at hop
      rename_i cs hf
      simp only [Option.some.injEq] at hop
      obtain ⟨v, hr, hv⟩ := build_struct hcfg h hct hf
      exact fin_val (fun w2 _ => by unfold execOp; simp only [ho, Sem.run_bind, hr, Result.andThen_ok, Sem.run_pure]) hv hop.symm
    · rename_i n e sz by_ z hct
      split at hop
      case h_2 => simp at hop
      rename_i ei hce
      split at hop
      case h_2 => simp at hop
      rename_i cs hf
      simp only [Option.some.injEq] at hop
      obtain ⟨v, hr, hv⟩ := build_array hcfg h hct hce hf
      exact fin_val (fun w2 _ => by unfold execOp; simp only [ho, Sem.run_bind, hr, Result.andThen_ok, Sem.run_pure]) hv hop.symm
    · simp at hop
  | buildSlice t n ps => simp [pvO, ho] at hpv
  | load t x =>
    simp only [ho] at hop
    split at hop
    case h_2 => simp at hop
    rename_i i hi
    split at hop
    case h_2 => simp at hop
    rename_i d hl
    simp only [Option.some.injEq] at hop
    obtain ⟨v, hr, hv⟩ := load_ok hcfg h.rt h.mem hi (ev o.type x) hl
    exact fin_val (fun w2 hw2 => by have hr := hr w2 (hw2.resolve_left (by simp only [pvO, ho, Option.some.injEq] at hpv; rw [← hpv]; simp)); unfold execOp; simp only [ho, Sem.run_bind, hr, Result.andThen_ok, Sem.run_pure]) hv hop.symm
  | store t x y => simp [pvO, ho] at hpv
  | nilCheck x =>
    simp only [ho] at hop
    have hx := ev o.type x
    have hd : ∃ A, a.eval x = .pointer (some A) ∧ st' = st.put o.dst (evD c st o.type x) := by
      split at hop
      · rename_i r q i heq
        split at hop
        · rename_i hl
          simp only [Option.some.injEq] at hop
          rw [heq] at hx
          obtain ⟨A, hA, _⟩ := nilCheck_ok h.rt h.mem hx (by simp only [hl, if_true]; rfl)
          exact ⟨A, hA, by rw [heq]; exact hop.symm⟩
        · simp at hop
      · rename_i cs i heq
        simp only [Option.some.injEq] at hop
        rw [heq] at hx
        obtain ⟨A, hA, _⟩ := nilCheck_ok h.rt h.mem hx rfl
        exact ⟨A, hA, by rw [heq]; exact hop.symm⟩
      · simp at hop
    obtain ⟨A, hA, hst⟩ := hd
    refine fin_val (v := a.eval x) ?_ hx hst
    intro w2 _
    unfold execOp
    simp only [ho, hA]
    rfl
  | binOp op t x y z =>
    simp only [ho] at hop
    split at hop
    case h_2 => simp at hop
    rename_i d hb
    simp only [Option.some.injEq] at hop
    obtain ⟨v, hr, hv⟩ := bin_ok hcfg (x := x) (y := y) (ev t x) (ev t y) hb
    exact fin_val (fun w2 _ => by unfold execOp; simp only [ho, Sem.run_bind] at hr ⊢; rw [hr]; rfl) hv hop.symm
  | unOp op t x =>
    simp only [ho] at hop
    split at hop
    case h_2 => simp at hop
    rename_i d hb
    simp only [Option.some.injEq] at hop
    obtain ⟨v, hr, hv⟩ := un_ok (P := P) (ev o.type x) hb
    exact fin_val (fun w2 _ => by unfold execOp; simp only [ho, Sem.run_bind, hr, Result.andThen_ok, Sem.run_pure]) hv hop.symm
  | makeFunc fn first caps =>
    cases fn with
    | func f =>
      simp only [ho] at hop
      split at hop
      case isFalse => simp at hop
      rename_i hf
      simp only [Option.some.injEq] at hop
      have hfirst : first = #[] := Array.eq_empty_of_size_eq_zero hf.1
      subst hfirst
      refine fin_val (v := .func (.func f) #[] (caps.map a.eval)) (by simp [execOp, ho, Instr.makeFunc]) ?_ hop.symm
      refine ⟨_, rfl, ?_⟩
      refine all2_of_get (by simp) (fun i x y hx hy => ?_)
      have hs : single x = true := List.all_eq_true.1 hf.2 x (List.mem_of_getElem? hx)
      simp only [Array.toList_map, List.getElem?_map] at hx hy
      cases hq : caps.toList[i]? with
      | none => simp [hq] at hx
      | some q =>
        simp only [hq, Option.map_some, Option.some.injEq] at hx hy
        subst hy
        have hv := ev o.type q
        rw [hx] at hv
        cases x <;> first | exact hv | simp [single] at hs
    | _ => simp [ho] at hop
  | makeSlice t l cp => simp [pvO, ho] at hpv
  | convert src dst x =>
    simp only [ho] at hop
    split at hop
    · rename_i d hc
      simp only [Option.some.injEq] at hop
      obtain ⟨v, hr, hv⟩ := conv_val hcfg h (ev src x) hc
      exact fin_val (fun w2 hw2 => by have hr := hr w2 (hw2.resolve_left (by simp only [pvO, ho] at hpv; split at hpv <;> simp at hpv; rw [hpv]; simp)); unfold execOp; simp only [ho, Sem.run_bind, hr, Result.andThen_ok, Sem.run_pure]) hv hop.symm
    · rename_i d cs hc
      exfalso
      simp only [pvO, ho] at hpv
      unfold convD at hc
      split at hc
      case h_2 => simp at hc
      rename_i si di hsi hdi
      rw [hdi] at hpv
      split at hc
      · simp at hc
      · simp at hc
      · simp at hc
      · split at hc
        · split at hc
          · split at hc
            · split at hc <;> simp at hc
            · simp at hc
          · simp at hc
        · simp at hc
      · rename_i hdt hk hsk
        obtain ⟨ty, a1, a2, a3⟩ := di
        simp only at hdt
        subst hdt
        simp at hpv
      · simp at hc
    · simp at hop
  | slice t x lo hi mx =>
    cases mx with
    | some _ => simp [ho] at hop
    | none =>
      simp only [ho] at hop
      split at hop
      case h_2 => simp at hop
      rename_i d hs
      simp only [Option.some.injEq] at hop
      have hopt : ∀ y : Option Operand, Opt w (Free C w S []) S (y.map (evD c st o.type)) (y.map a.eval) := by
        intro y
        cases y with
        | none => exact .inl ⟨rfl, rfl⟩
        | some y => exact .inr ⟨_, _, rfl, rfl, ev o.type y⟩
      obtain ⟨v, hr, hv⟩ := slice_ok hcfg h.rt h.mem (ev t x) (hopt lo) (hopt hi) hs
      exact fin_val (fun w2 _ => by unfold execOp; simp only [ho, Option.map_none, Sem.run_bind, hr, Result.andThen_ok, Sem.run_pure]) hv hop.symm
  | fieldAddr s x f =>
    simp only [ho] at hop
    split at hop
    case h_2 => simp at hop
    rename_i offs szs sz by_ z hct
    split at hop
    case h_2 => simp at hop
    rename_i k hk
    split at hop
    case h_2 => simp at hop
    rename_i d hs
    simp only [Option.some.injEq] at hop
    obtain ⟨v, hr, hv⟩ := fieldAddr_ok hcfg h.rt h.mem hct hk (ev o.type x) hs
    exact fin_val (fun w2 _ => by unfold execOp; simp only [ho, Sem.run_bind, hr, Result.andThen_ok, Sem.run_pure]) hv hop.symm
  | indexAddr t x i =>
    simp only [ho] at hop
    split at hop
    case h_2 => simp at hop
    rename_i k i' hi
    split at hop
    case h_2 => simp at hop
    rename_i d hs
    simp only [Option.some.injEq] at hop
    have hiv := ev o.type i
    rw [hi] at hiv
    have hiv := tv_int hiv
    obtain ⟨v, hr, hv⟩ := indexAddr_ok hcfg h.rt h.mem (k := k) (ev t x) hs
    exact fin_val (fun w2 _ => by unfold execOp; simp only [ho, hiv, Sem.run_bind, hr, Result.andThen_ok, Sem.run_pure]) hv hop.symm
  | index t x i =>
    simp only [ho] at hop
    split at hop
    case h_2 => simp at hop
    rename_i k i' hi
    split at hop
    case h_2 => simp at hop
    rename_i d hs
    simp only [Option.some.injEq] at hop
    have hiv := ev o.type i
    rw [hi] at hiv
    have hiv := tv_int hiv
    obtain ⟨v, hr, hv⟩ := index_ok hcfg (k := k) (ev o.type x) hs
    exact fin_val (fun w2 _ => by unfold execOp; simp only [ho, hiv, Sem.run_bind, hr, Result.andThen_ok, Sem.run_pure]) hv hop.symm
  | extract x i =>
    simp only [ho] at hop
    split at hop
    case h_2 => simp at hop
    rename_i vs hx
    split at hop
    case h_2 => simp at hop
    rename_i d hs
    simp only [Option.some.injEq] at hop
    have hxv := ev o.type x
    rw [hx] at hxv
    obtain ⟨v, hr, hv⟩ := extract_ok (P := P) hxv hs
    exact fin_val (fun w2 _ => by unfold execOp; simp only [ho, Sem.run_bind, hr, Result.andThen_ok, Sem.run_pure]) hv hop.symm
  | call cc =>
    simp only [ho] at hop
    split at hop
    · simp at hop
    rename_i hsz
    simp only [ne_eq, Decidable.not_not] at hsz
    have pairs : ∀ {ds : List D}, ((cc.args.toList.zip cc.argTypes.toList).map fun p => evD c st p.2 p.1) = ds → All2 (TVt w (Free C w S []) S) ds (cc.args.map a.eval).toList := by
      intro ds hds
      subst hds
      refine all2_of_get (by simp [hsz]) (fun i x y hx hy => ?_)
      simp only [Array.toList_map, List.getElem?_map] at hx hy
      cases hq : (cc.args.toList.zip cc.argTypes.toList)[i]? with
      | none => simp [hq] at hx
      | some q =>
        simp only [hq, Option.map_some, Option.some.injEq] at hx
        rw [List.getElem?_zip_eq_some] at hq
        simp only [hq.1, Option.map_some, Option.some.injEq] at hy
        subst hx; subst hy
        exact ev q.2 q.1
    split at hop
    · rename_i f hf
      simp [pvO, ho, hf] at hpv
    · rename_i hb
      split at hop
      case h_2 => simp at hop
      rename_i x t hx ht
      split at hop
      case h_2 => simp at hop
      rename_i d hl
      simp only [Option.some.injEq] at hop
      have ha := pairs hx
      have hargs : cc.args.map a.eval = #[(cc.args.map a.eval).toList.headD undef] := by
        cases ha' : (cc.args.map a.eval).toList with
        | nil => rw [ha'] at ha; cases ha
        | cons y ys => rw [ha'] at ha; cases ha with
          | cons _ h2 => cases h2; rw [← Array.toArray_toList (xs := cc.args.map a.eval), ha']; rfl
      have hts : cc.argTypes = #[t] := by rw [← Array.toArray_toList (xs := cc.argTypes), ht]
      have hx1 : TVt w (Free C w S []) S x ((cc.args.map a.eval).toList.headD undef) := by
        cases ha' : (cc.args.map a.eval).toList with
        | nil => rw [ha'] at ha; cases ha
        | cons y ys => rw [ha'] at ha; cases ha with
          | cons h1 _ => exact h1
      obtain ⟨v, hr, hv⟩ := len_ok hcfg h.rt h.mem hx1 hl o.type
      exact fin_val (fun w2 _ => by unfold execOp; simp only [ho, resolve, hb, invoke, builtin, Sem.run_bind, Sem.run_pure, Result.andThen_ok]; rw [hargs, hts, hr]; rfl) hv hop.symm
    · rename_i hb
      split at hop
      case h_2 => simp at hop
      rename_i k x k' y hx
      simp only [Option.some.injEq] at hop
      have ha := pairs hx
      have hargs : cc.args.map a.eval = #[.int k x, .int k' y] := by
        cases ha' : (cc.args.map a.eval).toList with
        | nil => rw [ha'] at ha; cases ha
        | cons y ys => rw [ha'] at ha; cases ha with
          | cons h1 h2 =>
            cases h2 with
            | cons h3 h4 =>
              cases h4
              rw [← Array.toArray_toList (xs := cc.args.map a.eval), ha', tv_int h1, tv_int h3]
      refine fin_val (v := .int k (if y < x then y else x)) ?_ (tvi _ _) hop.symm
      intro w2 _
      unfold execOp
      simp only [ho, resolve, hb, invoke, builtin, Sem.run_bind, Sem.run_pure, Result.andThen_ok]
      rw [hargs]
      simp [Builtin.min_, Builtin.min2]
    · rename_i hb
      split at hop
      case h_2 => simp at hop
      rename_i k x k' y hx
      simp only [Option.some.injEq] at hop
      have ha := pairs hx
      have hargs : cc.args.map a.eval = #[.int k x, .int k' y] := by
        cases ha' : (cc.args.map a.eval).toList with
        | nil => rw [ha'] at ha; cases ha
        | cons y ys => rw [ha'] at ha; cases ha with
          | cons h1 h2 =>
            cases h2 with
            | cons h3 h4 =>
              cases h4
              rw [← Array.toArray_toList (xs := cc.args.map a.eval), ha', tv_int h1, tv_int h3]
      refine fin_val (v := .int k (if y > x then y else x)) ?_ (tvi _ _) hop.symm
      intro w2 _
      unfold execOp
      simp only [ho, resolve, hb, invoke, builtin, Sem.run_bind, Sem.run_pure, Result.andThen_ok]
      rw [hargs]
      simp [Builtin.max_, Builtin.max2]
    · rename_i hb
      simp [pvO, ho, hb] at hpv
    · simp at hop
  | _ => simp [ho] at hop
end
end Go.Proofs.Ytkejckoefjonjaa
namespace Go.Proofs.Ytkejckoefjonjaa
mutual
theorem ext_sub {w : World} {X X' : Bool → Nat → Prop} (h : ∀ b k, X b k → X' b k) : ∀ (d : D) (u : Value), Ext w X d u → Ext w X' d u
  | d, u, hu => ext_move (fun b k hk => ⟨h b k hk, rfl⟩) d u hu
end
theorem satL_sub {w : World} {X X' : Bool → Nat → Prop} (h : ∀ b k, X b k → X' b k) (ts : List T) (hs : SatL w X ts) : SatL w X' ts :=
  satL_move (fun b k hk => ⟨h b k hk, rfl⟩) ts hs (fun _ _ => rfl)
theorem tvc_world {w w' : World} {X X' : Bool → Nat → Prop} (hst : Stays w w' X X') {S : List (Nat × RT)} {d : D} {u : Value} (h : TVc w X S d u) : TVc w' X' S d u := by
  have he : ∀ d u, Ext w X d u → Ext w' X' d u := ext_move hst
  cases d with
  | ref r q o x => exact h
  | ptr r q o => exact h
  | rptr cs o =>
    obtain ⟨b, off, c, e, fz, us, h1, h2, h3, h4, h5⟩ := h
    exact ⟨b, off, c, e, fz, us, h1, (hst true b h2).1, by rw [(hst true b h2).2]; exact h3, extL_move hst cs us h4, h5⟩
  | _ => exact he _ _ h
theorem tva_world {w w' : World} {X X' : Bool → Nat → Prop} (hst : Stays w w' X X') {S : List (Nat × RT)} {d : D} {u : Value} (h : TVa w X S d u) : TVa w' X' S d u := by
  rcases tva_cases h with ⟨cs, us, rfl, rfl, h1⟩ | ⟨f, cs, us, rfl, rfl, h1⟩ | ⟨_, _, h1⟩
  · exact ⟨us, rfl, h1.mono (fun _ _ => tvc_world hst)⟩
  · exact ⟨us, rfl, h1.mono (fun _ _ => tvc_world hst)⟩
  · exact tva_of_tvc (tvc_world hst h1)
theorem fts_mem {ts : List T} {k : Nat} : k ∈ ftsT ts ↔ ∃ t ∈ ts, k ∈ t.ft := by
  rw [ftsT_map]
  simp only [List.mem_flatten, List.mem_map]
  constructor
  · rintro ⟨l, ⟨t, h1, rfl⟩, h2⟩
    exact ⟨t, h1, h2⟩
  · rintro ⟨t, h1, h2⟩
    exact ⟨_, ⟨t, h1, rfl⟩, h2⟩
theorem ftS_mem {S : List (Nat × RT)} {r : Nat} {R : RT} (h : lk S r = some R) {k : Nat} (hk : k ∈ R.ft) : k ∈ ftS S := by
  obtain ⟨A, B, h1, _⟩ := fts_pt h
  rw [h1]; simp [hk]
theorem box_only {S : List (Nat × RT)} (hn : (ftS S).Nodup) {r r' : Nat} {R R' : RT} {b : Nat} (h : lk S r = some R) (hb : R.box = some b) (h' : lk S r' = some R') (hk : b ∈ R'.ft) : r' = r := by
  by_cases he : r' = r
  · exact he
  obtain ⟨A, B, h1, h2⟩ := fts_pt h
  have h3 : lk (pt S r ⟨none, []⟩) r' = some R' := by rw [lk_pt_ne _ _ he]; exact h'
  have h4 := ftS_mem h3 hk
  rw [h2] at h4
  rw [h1] at hn
  have hbR : b ∈ R.ft := by simp [RT.ft, hb]
  simp only [RT.ft, Option.toList, ftsT, List.append_nil, List.mem_append] at h4
  rw [List.nodup_append, List.nodup_append] at hn
  rcases h4 with h4 | h4
  · exact absurd rfl (hn.1.2.2 b h4 b hbR)
  · exact absurd rfl (hn.2.2 b (by simp [hbR]) b h4)
section
variable {C : Ctx} {w w' : World} {st : St} {vss : List (Array Value)} {S : List (Nat × RT)} {Hs H Os : List T} {bxs : List Nat}
theorem rel_call (h : Rel C (Hs ++ H) w st vss S) (hbx : ∀ b ∈ bxs, ∃ r R, lk S r = some R ∧ R.box = some b ∧ R.cs = [])
    (hsz : w.heap.size ≤ w'.heap.size) (hold : ∀ k, k < w.heap.size → k ∉ ftsT Hs → k ∉ bxs → w'.heap[k]? = w.heap[k]?) (hos : w'.os = w.os) (htape : w'.tape = w.tape) (hout : w'.output = w.output)
    (hO : SatL w' (fun b k => k < w'.heap.size ∧ k ∉ ftsT Os ∧ k ∉ bxs ∧ (Free C w S (Hs ++ H) b k ∨ k ∈ ftsT Hs ∨ w.heap.size ≤ k)) Os)
    (hnd : (ftsT Os).Nodup) (hdis : ∀ k ∈ ftsT Os, k ∉ bxs) (hft : ∀ k ∈ ftsT Os, k < w'.heap.size ∧ (k ∈ ftsT Hs ∨ w.heap.size ≤ k)) (hblk : ∀ b ∈ bxs, Blk w' b 0 0 []) :
    Rel C (Os ++ H) w' st vss S ∧ Tells C w w' S S (Hs ++ H) (Os ++ H) id := by
  have hbS : ∀ b ∈ bxs, b ∈ ftS S := fun b hb => by
    obtain ⟨r, R, h1, h2, _⟩ := hbx b hb
    exact ftS_mem h1 (by simp [RT.ft, h2])
  have hnS := h.mem.nd
  rw [List.nodup_append, ftsT_app, List.nodup_append] at hnS
  obtain ⟨nS, ⟨nHs, nH, dHs⟩, dS⟩ := hnS
  have hlt := h.mem.lt
  have ltS : ∀ k ∈ ftS S, k < w.heap.size := fun k hk => hlt k (List.mem_append.2 (.inl hk))
  have ltH : ∀ k ∈ ftsT H, k < w.heap.size := fun k hk => hlt k (by simp [ftsT_app, hk])
  have SHs : ∀ k ∈ ftS S, k ∉ ftsT Hs := fun k hk h2 => dS k hk k (by simp [h2]) rfl
  have SH : ∀ k ∈ ftS S, k ∉ ftsT H := fun k hk h2 => dS k hk k (by simp [h2]) rfl
  have HHs : ∀ k ∈ ftsT H, k ∉ ftsT Hs := fun k hk h2 => dHs k h2 k hk rfl
  have OS : ∀ k ∈ ftsT Os, k ∉ ftS S := fun k hk h2 => by
    rcases (hft k hk).2 with h3 | h3
    · exact SHs k h2 h3
    · have := ltS k h2; omega
  have OH : ∀ k ∈ ftsT Os, k ∉ ftsT H := fun k hk h2 => by
    rcases (hft k hk).2 with h3 | h3
    · exact HHs k h2 h3
    · have := ltH k h2; omega
  have hst : Stays w w' (Free C w S (Hs ++ H)) (Free C w' S (Os ++ H)) := by
    intro b k hk
    obtain ⟨k1, k2, k3, k4⟩ := hk
    rw [ftsT_app, List.mem_append, not_or] at k3
    refine ⟨⟨by omega, k2, ?_, k4⟩, hold k k1 k3.1 (fun hb => k2 (hbS k hb))⟩
    rw [ftsT_app, List.mem_append, not_or]
    refine ⟨fun hk => ?_, k3.2⟩
    rcases (hft k hk).2 with h3 | h3
    · exact k3.1 h3
    · omega
  have htl : Tells C w w' S S (Hs ++ H) (Os ++ H) id := fun d u hd => tvc_world hst hd
  have hfree : ∀ b k, (k < w'.heap.size ∧ k ∉ ftsT Os ∧ k ∉ bxs ∧ (Free C w S (Hs ++ H) b k ∨ k ∈ ftsT Hs ∨ w.heap.size ≤ k)) → Free C w' S (Os ++ H) b k := by
    rintro b k ⟨k1, k2, k3, k4⟩
    have hFA : k ∈ ftsT Hs → k ∈ C.FA ∨ C.w0.heap.size ≤ k := fun hk => h.kept.foot k (by simp [ftsT_app, hk])
    refine ⟨k1, ?_, ?_, ?_⟩
    · rcases k4 with k4 | k4 | k4
      · exact k4.2.1
      · exact fun h2 => SHs k h2 k4
      · exact fun h2 => by have := ltS k h2; omega
    · rw [ftsT_app, List.mem_append, not_or]
      refine ⟨k2, ?_⟩
      rcases k4 with k4 | k4 | k4
      · have := k4.2.2.1
        rw [ftsT_app, List.mem_append, not_or] at this
        exact this.2
      · exact fun h2 => HHs k h2 k4
      · exact fun h2 => by have := ltH k h2; omega
    · intro hb
      rcases k4 with k4 | k4 | k4
      · exact k4.2.2.2 hb
      · exact .inr (hFA k4)
      · exact .inr (.inr (Nat.le_trans h.kept.size k4))
  refine ⟨⟨h.rt, ⟨?_, ?_, ?_, ?_⟩, ?_, ?_⟩, htl⟩
  · rw [List.nodup_append, ftsT_app, List.nodup_append]
    refine ⟨nS, ⟨hnd, nH, fun a ha b hb e => OH a ha (e ▸ hb)⟩, fun a ha b hb e => ?_⟩
    subst e
    rcases List.mem_append.1 hb with hb | hb
    · exact OS a hb ha
    · exact SH a ha hb
  · intro r R hr
    obtain ⟨h1, h2⟩ := h.mem.root r R hr
    have hb : ∀ b ∈ bxs, b ∈ R.ft → R.box = some b ∧ R.cs = [] := by
      intro b hb hR
      obtain ⟨r', R', e1, e2, e3⟩ := hbx b hb
      have := box_only nS e1 e2 hr hR
      subst this
      rw [e1, Option.some.injEq] at hr
      subst hr
      exact ⟨e2, e3⟩
    refine ⟨?_, fun t ht => ?_⟩
    · cases hx : R.box with
      | none => trivial
      | some b =>
        rw [hx] at h1
        by_cases hbb : b ∈ bxs
        · have := (hb b hbb (by simp [RT.ft, hx])).2
          rw [this]
          exact hblk b hbb
        · have hbS' := ftS_mem hr (show b ∈ R.ft by simp [RT.ft, hx])
          obtain ⟨c, e, fz, g1, g2⟩ := h1
          exact ⟨c, e, fz, by rw [hold b (ltS b hbS') (SHs b hbS') hbb]; exact g1, g2⟩
    · have h3 := h2 t ht
      cases t with
      | v d u =>
        rcases h3 with h3 | ⟨e, h3⟩
        · exact .inl (ext_move hst _ _ h3)
        · exact .inr ⟨e, tvc_world hst h3⟩
      | own s n cap a cs =>
        refine sat_move hst _ h3 (fun k hk => ?_)
        have hkR : k ∈ R.ft := by simp only [RT.ft, List.mem_append]; exact .inr (fts_mem.2 ⟨_, ht, hk⟩)
        have hkS := ftS_mem hr hkR
        refine hold k (ltS k hkS) (SHs k hkS) (fun hbb => ?_)
        have := (hb k hbb hkR).2
        rw [this] at ht
        simp at ht
  · rw [satL_app]
    refine ⟨satL_sub hfree _ hO, ?_⟩
    have hH := ((satL_app _ _).1 h.mem.hand).2
    exact satL_move hst _ hH (fun k hk => hold k (ltH k hk) (HHs k hk) (fun hb => SH k (hbS k hb) hk))
  · intro k hk
    rcases List.mem_append.1 hk with hk | hk
    · have := ltS k hk; omega
    · rw [ftsT_app] at hk
      rcases List.mem_append.1 hk with hk | hk
      · exact (hft k hk).1
      · have := ltH k hk; omega
  · exact h.tms.mono (fun _ _ ht => lift_tms_id htl ht)
  · have hk := h.kept
    refine ⟨hos.trans hk.os, htape.trans hk.tape, hout.trans hk.output, Nat.le_trans hk.size hsz, fun k h1 h2 => ?_, fun k h1 => ?_, hk.par⟩
    · have h3 : k ∉ ftS S ++ ftsT (Hs ++ H) := fun h3 => by
        rcases hk.foot k h3 with h4 | h4
        · exact h2 h4
        · omega
      simp only [ftsT_app, List.mem_append, not_or] at h3
      rw [hold k (Nat.lt_of_lt_of_le h1 hk.size) h3.2.1 (fun hb => h3.1 (hbS k hb))]
      exact hk.block k h1 h2
    · rcases List.mem_append.1 h1 with h1 | h1
      · exact hk.foot k (by simp [h1])
      · rw [ftsT_app] at h1
        rcases List.mem_append.1 h1 with h1 | h1
        · rcases (hft k h1).2 with h2 | h2
          · exact hk.foot k (by simp [ftsT_app, h2])
          · exact .inr (Nat.le_trans hk.size h2)
        · exact hk.foot k (by simp [ftsT_app, h1])
end
end Go.Proofs.Ytkejckoefjonjaa
namespace Go.Proofs.Ytkejckoefjonjaa
def DomB (S S' : List (Nat × RT)) : Prop := ∀ r R, lk S r = some R → ∃ R', lk S' r = some R' ∧ R'.box = R.box
theorem DomB.refl (S : List (Nat × RT)) : DomB S S := fun _ R h => ⟨R, h, rfl⟩
theorem DomB.trans {S S' S'' : List (Nat × RT)} (h : DomB S S') (h' : DomB S' S'') : DomB S S'' := fun r R hr => by
  obtain ⟨R1, h1, h2⟩ := h r R hr
  obtain ⟨R2, h4, h5⟩ := h' r R1 h1
  exact ⟨R2, h4, h5.trans h2⟩
theorem Dom.b {S S' : List (Nat × RT)} (h : Dom S S') : DomB S S' := fun r R hr => by
  obtain ⟨R1, h1, h2, _⟩ := h.fwd r R hr
  exact ⟨R1, h1, h2⟩
theorem fS_domB (g : D → D) (S : List (Nat × RT)) : DomB S (fS g S) := fun r R hr => ⟨⟨R.box, R.cs.map (fT g)⟩, by rw [lk_fS, hr]; rfl, rfl⟩
theorem cellR_ex {S : List (Nat × RT)} {r : Nat} {q : List Nat} {o : Nat} {t : T} (h : cellR S r q o = some t) : ∃ R l, lk S r = some R ∧ cellsT R.cs q = some l ∧ l[o]? = some t := by
  unfold cellR at h
  cases hr : lk S r with
  | none => simp [hr] at h
  | some R =>
    simp only [hr] at h
    cases hl : cellsT R.cs q with
    | none => simp [hl] at h
    | some l => simp only [hl] at h; exact ⟨R, l, rfl, hl, h⟩
section
variable {C : Ctx} {H : List T} {w : World} {st st' : St} {vss : List (Array Value)} {S : List (Nat × RT)}
theorem fill_one {t' t0 : T} (h : Rel C (t' :: H) w st vss S) {r : Nat} {q : List Nat} {o : Nat} {ex : Bool} (hc0 : cellR S r q o = some t0) (ht0 : ∃ d0 u0, t0 = .v d0 u0 ∧ (ex = false → onA (killP r q o ex) (leafD d0) = leafD d0)) (hl : Like t0 t' ∨ (ex = true ∧ t'.val = t0.val))
    (hset : (st.mapD (killP r q o ex)).setC r q o t'.er = some st') :
    ∃ S', Rel C H w st' vss S' ∧ Tells C w w S S' (t' :: H) H (killP r q o ex) ∧ st'.of = st.of ∧ DomB S S' ∧ cellR S' r q o = some t' ∧
      ∀ r' q' o' d0 u, (sn d0).isSome = true → leafD d0 = d0 → cellR S r' q' o' = some (.v d0 u) → (r' ≠ r ∨ under (q ++ [o]) (q' ++ [o']) = none) → cellR S' r' q' o' = some (.v d0 u) := by
  obtain ⟨d0, u0, rfl, hd0⟩ := ht0
  have hv : t'.val = (T.v d0 u0).val := by
    rcases hl with hl | hl
    · exact hl.1
    · exact hl.2
  obtain ⟨R, l, hR, hl0, ho⟩ := cellR_ex hc0
  have hg := tame_killP r q o ex
  have hgo := only_killP r q o ex
  have hrt1 : RtEq (st.mapD (killP r q o ex)).rt (fS (killP r q o ex) S) := by
    exact rtEq_map hg h.rt
  obtain ⟨R1, l1, t1, e1, e2, e3, e4, e5, e6, e7, e8⟩ := fS_at (g := killP r q o ex) hR hl0 ho
  have ht1 : t1 = .v (onA (killP r q o ex) (leafD d0)) u0 ∨ t1 = .v d0 u0 := by
    rcases e5 with rfl | ⟨_, rfl⟩
    · exact .inr rfl
    · exact .inl rfl
  have ht1v : t1.val = u0 := by rcases ht1 with rfl | rfl <;> rfl
  have ht1f : t1.ft = [] := by rcases ht1 with rfl | rfl <;> rfl
  have ht1s : ex = false → sn t1.er = sn (leafD d0) := fun e => by
    rcases ht1 with rfl | rfl
    · rw [hd0 e]; simp [T.er, leafD_leafD]
    · simp [T.er]
  obtain ⟨S', hc, hrt2, htm2, hup2, hof2⟩ := setC_chg (t' := t') hrt1 e1 e3 e4 hset
  obtain ⟨A, B, f1, f2⟩ := hc.fts
  rw [ft_fS] at f1
  rw [ht1f, List.append_nil] at f1
  have hmemiff : ∀ k, k ∈ ftS S' ++ ftsT H ↔ k ∈ ftS S ++ ftsT (t' :: H) := by
    intro k
    rw [f1, f2]
    simp only [ftsT, List.mem_append]
    constructor
    · rintro (((h | h) | h) | h)
      · exact .inl (.inl h)
      · exact .inr (.inl h)
      · exact .inl (.inr h)
      · exact .inr (.inr h)
    · rintro ((h | h) | (h | h))
      · exact .inl (.inl (.inl h))
      · exact .inl (.inr h)
      · exact .inl (.inl (.inr h))
      · exact .inr h
  have hnd : (ftS S' ++ ftsT H).Nodup := by
    have h0 := h.mem.nd
    rw [f1] at h0
    rw [f2]
    refine (List.Perm.nodup_iff ?_).1 h0
    refine List.perm_iff_count.2 fun a => ?_
    simp only [ftsT, List.count_append]
    omega
  have hX : ∀ b k, Free C w S (t' :: H) b k → Free C w S' H b k := free_sub (fun k hk => (hmemiff k).1 hk)
  have hst : Stays w w (Free C w S (t' :: H)) (Free C w S' H) := fun b k hk => ⟨hX b k hk, rfl⟩
  have hlike : ex = false → Like t1 t' := fun e => by
    rcases hl with hl | hl
    · exact ⟨by rw [ht1v]; exact hl.1, fun p hp => by rw [ht1s e]; exact hl.2 p hp⟩
    · exact absurd (hl.1.symm.trans e) (by simp)
  have htv : ∀ d u, TVc w (Free C w S (t' :: H)) S d u → TVc w (Free C w S' H) S' (killP r q o ex d) u :=
    fun d u hd => tvc_kill hst hc hlike (tvc_fS hg hd)
  have hhand := h.mem.hand
  simp only [SatL] at hhand
  have hmem : Mem C w S' H := mem_chg h.mem (g := onA (killP r q o ex)) (fS_SR hg S) hc (by rw [hv, ht1v]; rfl)
    (.inl (sat_move hst _ hhand.1 (fun _ _ => rfl))) hnd (fun k hk => (hmemiff k).1 hk) (satL_sub hX _ hhand.2)
    (fun d u hd => by rw [tvc_onA hd]; exact htv d u hd) (fun d u hd => ext_tame hg hgo (ext_sub hX _ _ hd))
  refine ⟨S', ?_, htv, hof2, ?_, hc.cell_new, fun r' q' o' d1 u1 h3 h4 h1 h2 => ?_⟩
  · refine h.step (f := killP r q o ex) hrt2 htm2 hup2 htv hmem (kept_chg h.kept (fun k hk => (hmemiff k).1 hk) (fun r' R' hr' => ?_))
    obtain ⟨R2, g1, g2, g3⟩ := hc.par (by rw [hv, ht1v]; rfl) hr'
    rw [lk_fS] at g1
    cases hx : lk S r' with
    | none => simp [hx] at g1
    | some R0 =>
      simp only [hx, Option.map_some, Option.some.injEq] at g1
      subst g1
      refine ⟨R0, rfl, g2, g3.trans ?_⟩
      simp only [valsT_map, List.map_map]
      congr 1
      funext t
      cases t <;> rfl
  · refine DomB.trans (S' := fS (killP r q o ex) S) (fS_domB _ S) (fun r' R' hr' => ?_)
    obtain ⟨R2, g1, g2, _⟩ := hc.dom hr'
    exact ⟨R2, g1, g2⟩
  · refine hc.cell_fwd h2 ?_
    rw [cell_fS h1]
    split
    · simp only [fT, h4]
      cases d1 <;> first | (simp [sn] at h3; done) | simp [onA, hg.hole, hg.sl]
    · rfl
theorem fill_box {ts : List T} (h : Rel C (ts ++ H) w st vss S) {r b : Nat} (h0 : lk S r = some ⟨some b, []⟩) (hblk : Blk w b 0 ts.length (valsT ts)) :
    Rel C H w { st.mapD (killB r) with rt := pz (st.mapD (killB r)).rt r (ersT ts) } vss (pt (fS (killB r) S) r ⟨some b, ts⟩) ∧ Tells C w w S (pt (fS (killB r) S) r ⟨some b, ts⟩) (ts ++ H) H (killB r) ∧ DomB S (pt (fS (killB r) S) r ⟨some b, ts⟩) := by
  have hg := tame_killB r
  have hgo := only_killB r
  have h1 : lk (fS (killB r) S) r = some ⟨some b, []⟩ := by rw [lk_fS, h0]; rfl
  obtain ⟨A, B, f1, f2⟩ := fts_pt h1
  rw [ft_fS] at f1
  have f3 := f2 ⟨some b, ts⟩
  simp only [RT.ft, Option.toList, ftsT, List.append_nil] at f1
  simp only [RT.ft, Option.toList] at f3
  have hmemiff : ∀ k, k ∈ ftS (pt (fS (killB r) S) r ⟨some b, ts⟩) ++ ftsT H ↔ k ∈ ftS S ++ ftsT (ts ++ H) := by
    intro k
    rw [f1, f3, ftsT_app]
    simp only [List.mem_append, List.mem_singleton]
    constructor
    · rintro (((h | (h | h)) | h) | h) <;> simp [h]
    · rintro (((h | h) | h) | (h | h)) <;> simp [h]
  have hnd : (ftS (pt (fS (killB r) S) r ⟨some b, ts⟩) ++ ftsT H).Nodup := by
    have h0 := h.mem.nd
    rw [f1] at h0
    rw [f3]
    refine (List.Perm.nodup_iff ?_).1 h0
    refine List.perm_iff_count.2 fun a => ?_
    simp only [ftsT_app, List.count_append]
    omega
  have hX : ∀ b' k, Free C w S (ts ++ H) b' k → Free C w (pt (fS (killB r) S) r ⟨some b, ts⟩) H b' k := free_sub (fun k hk => (hmemiff k).1 hk)
  have hst : Stays w w (Free C w S (ts ++ H)) (Free C w (pt (fS (killB r) S) r ⟨some b, ts⟩) H) := fun b k hk => ⟨hX b k hk, rfl⟩
  have htv : ∀ d u, TVc w (Free C w S (ts ++ H)) S d u → TVc w (Free C w (pt (fS (killB r) S) r ⟨some b, ts⟩) H) (pt (fS (killB r) S) r ⟨some b, ts⟩) (killB r d) u :=
    fun d u hd => tvc_box hst (R := ⟨some b, ts⟩) h1 rfl rfl (tvc_fS hg hd)
  have hhand := h.mem.hand
  rw [satL_app] at hhand
  refine ⟨?_, htv, ?_⟩
  · refine h.step (f := killB r) ?_ rfl rfl htv ⟨hnd, ?_, satL_sub hX _ hhand.2, fun k hk => h.mem.lt k ((hmemiff k).1 hk)⟩ ⟨h.kept.os, h.kept.tape, h.kept.output, h.kept.size, h.kept.block, fun k hk => h.kept.foot k ((hmemiff k).1 hk), ?_⟩
    · exact rtEq_pz (rtEq_map hg h.rt) r ⟨some b, ts⟩
    · intro r' R' hr'
      by_cases he : r' = r
      · subst he
        rw [lk_pt_same, Option.some.injEq] at hr'
        subst hr'
        refine ⟨hblk, fun t ht => ?_⟩
        have := (satL_iff _).1 (satL_sub hX _ hhand.1) t ht
        cases t with
        | v d u => exact .inl this
        | own s n cap a cs => exact this
      · rw [lk_pt_ne _ _ he, lk_fS] at hr'
        cases hx : lk S r' with
        | none => simp [hx] at hr'
        | some R0 =>
          simp only [hx, Option.map_some, Option.some.injEq] at hr'
          subst hr'
          obtain ⟨k1, k2⟩ := h.mem.root r' R0 hx
          refine ⟨?_, ?_⟩
          · simp only [List.length_map]
            have hv : valsT (R0.cs.map (fT (killB r))) = valsT R0.cs := by
              rw [valsT_map, valsT_map, List.map_map]
              congr 1
              funext t
              cases t <;> rfl
            rw [hv]
            exact k1
          · intro t ht
            simp only [List.mem_map] at ht
            obtain ⟨t0, ht0, rfl⟩ := ht
            have := k2 t0 ht0
            cases t0 with
            | v d u =>
              simp only [fT, CellOk] at this ⊢
              rw [hg.leaf]
              rcases this with this | ⟨hb, this⟩
              · exact .inl (ext_tame hg hgo (ext_sub hX _ _ this))
              · exact .inr ⟨hb, by rw [tvc_onA this]; exact htv _ _ this⟩
            | own s n cap a xs =>
              simp only [fT]
              exact sat_move hst _ this (fun _ _ => rfl)
    · intro r' b' vs hm R' hr'
      by_cases he : r' = r
      · subst he
        rw [lk_pt_same, Option.some.injEq] at hr'
        subst hr'
        obtain ⟨g1, g2⟩ := h.kept.par r' b' vs hm _ h0
        refine ⟨g1, fun hb => ?_⟩
        rw [hb] at g1
        simp at g1
      · rw [lk_pt_ne _ _ he, lk_fS] at hr'
        cases hx : lk S r' with
        | none => simp [hx] at hr'
        | some R0 =>
          simp only [hx, Option.map_some, Option.some.injEq] at hr'
          subst hr'
          obtain ⟨g1, g2⟩ := h.kept.par r' b' vs hm R0 hx
          refine ⟨g1, fun hb => ?_⟩
          rw [← g2 hb]
          simp only [valsT_map, List.map_map]
          congr 1
          funext t
          cases t <;> rfl
  · refine DomB.trans (S' := fS (killB r) S) (fS_domB _ S) (fun r' R' hr' => ?_)
    by_cases he : r' = r
    · subst he
      rw [h1, Option.some.injEq] at hr'
      subst hr'
      exact ⟨_, lk_pt_same _ _ _, rfl⟩
    · exact ⟨R', by rw [lk_pt_ne _ _ he]; exact hr', rfl⟩
end
end Go.Proofs.Ytkejckoefjonjaa
namespace Go.Proofs.Ytkejckoefjonjaa
def DomE (S S' : List (Nat × RT)) : Prop := ∀ r R, lk S r = some R → ∃ R', lk S' r = some R' ∧ R'.box = R.box ∧ (R.cs = [] → R'.cs = [])
theorem DomE.refl (S : List (Nat × RT)) : DomE S S := fun _ R h => ⟨R, h, rfl, fun h => h⟩
theorem DomE.trans {S S' S'' : List (Nat × RT)} (h : DomE S S') (h' : DomE S' S'') : DomE S S'' := fun r R hr => by
  obtain ⟨R1, h1, h2, h3⟩ := h r R hr
  obtain ⟨R2, h4, h5, h6⟩ := h' r R1 h1
  exact ⟨R2, h4, h5.trans h2, fun e => h6 (h3 e)⟩
theorem Dom.e {S S' : List (Nat × RT)} (h : Dom S S') : DomE S S' := fun r R hr => by
  obtain ⟨R1, h1, h2, h3⟩ := h.fwd r R hr
  exact ⟨R1, h1, h2, fun e => by
    have h4 := congrArg List.length h3
    rw [e] at h4
    simp only [valsT_len, List.length_nil] at h4
    exact List.length_eq_zero_iff.1 h4⟩
theorem DomE.b {S S' : List (Nat × RT)} (h : DomE S S') : DomB S S' := fun r R hr => by
  obtain ⟨R1, h1, h2, _⟩ := h r R hr
  exact ⟨R1, h1, h2⟩
theorem DomE.empty {S S' : List (Nat × RT)} (h : DomE S S') {r : Nat} {b : Option Nat} (hr : lk S r = some ⟨b, []⟩) : lk S' r = some ⟨b, []⟩ := by
  obtain ⟨R1, h1, h2, h3⟩ := h r _ hr
  have := h3 rfl
  cases R1
  simp only at h2 this
  rw [h1, h2, this]
section
variable {C : Ctx} {H : List T} {w : World} {st st' : St} {vss : List (Array Value)} {S : List (Nat × RT)}
theorem drop_cells (h : Rel C H w st vss S) {r b : Nat} {R : RT} (hR : lk S r = some R) (hb : R.box = some b) :
    Rel C H w { st with rt := pz st.rt r [] } vss (pt S r ⟨some b, []⟩) ∧ Tells C w w S (pt S r ⟨some b, []⟩) H H id ∧ DomE S (pt S r ⟨some b, []⟩) := by
  obtain ⟨A, B, f1, f2⟩ := fts_pt hR
  have f3 := f2 ⟨some b, []⟩
  simp only [RT.ft, hb, Option.toList, ftsT, List.append_nil] at f1 f3
  have hsub : ∀ k ∈ ftS (pt S r ⟨some b, []⟩) ++ ftsT H, k ∈ ftS S ++ ftsT H := by
    intro k hk
    rw [f3] at hk
    rw [f1]
    simp only [List.mem_append, List.mem_singleton] at hk ⊢
    rcases hk with ((hk | hk) | hk) | hk <;> simp [hk]
  have hnd : (ftS (pt S r ⟨some b, []⟩) ++ ftsT H).Nodup := by
    have h0 := h.mem.nd
    rw [f1] at h0
    rw [f3]
    refine List.Nodup.sublist ?_ h0
    refine List.Sublist.append (List.Sublist.append (List.Sublist.append (List.Sublist.refl _) ?_) (List.Sublist.refl _)) (List.Sublist.refl _)
    simp
  have hX : ∀ b' k, Free C w S H b' k → Free C w (pt S r ⟨some b, []⟩) H b' k := free_sub hsub
  have hst : Stays w w (Free C w S H) (Free C w (pt S r ⟨some b, []⟩) H) := fun b k hk => ⟨hX b k hk, rfl⟩
  have htv : ∀ d u, TVc w (Free C w S H) S d u → TVc w (Free C w (pt S r ⟨some b, []⟩) H) (pt S r ⟨some b, []⟩) d u := by
    intro d u hd
    cases d with
    | ref r' q' o' x =>
      intro t ht
      by_cases he : r' = r
      · subst he
        obtain ⟨R', l, e1, e2, e3⟩ := cellR_ex ht
        rw [lk_pt_same, Option.some.injEq] at e1
        subst e1
        cases q' with
        | nil => simp only [cellsT, Option.some.injEq] at e2; subst e2; simp at e3
        | cons p q => simp [cellsT] at e2
      · refine hd t ?_
        rw [← ht]
        simp only [cellR, lk_pt_ne _ _ he]
    | ptr r' q' o' =>
      intro R' hR'
      by_cases he : r' = r
      · subst he
        rw [lk_pt_same, Option.some.injEq] at hR'
        subst hR'
        refine ⟨fun _ => rfl, fun b' off ha => ?_⟩
        cases q' with
        | nil =>
          refine (hd R hR).2 b' off ?_
          simp only [addrT, hb] at ha ⊢
          exact ha
        | cons p q => simp [addrT] at ha
      · rw [lk_pt_ne _ _ he] at hR'
        exact hd R' hR'
    | rptr cs o => exact tvc_world (S := S) (d := .rptr cs o) hst hd
    | _ => exact ext_move hst _ _ hd
  refine ⟨h.step_id ?_ rfl rfl htv ⟨hnd, ?_, satL_sub hX _ h.mem.hand, fun k hk => h.mem.lt k (hsub k hk)⟩ ⟨h.kept.os, h.kept.tape, h.kept.output, h.kept.size, h.kept.block, fun k hk => h.kept.foot k (hsub k hk), ?_⟩, htv, ?_⟩
  · exact rtEq_pz h.rt r ⟨some b, []⟩
  · intro r' R' hr'
    by_cases he : r' = r
    · subst he
      rw [lk_pt_same, Option.some.injEq] at hr'
      subst hr'
      refine ⟨?_, by simp⟩
      have := (h.mem.root _ R hR).1
      rw [hb] at this
      obtain ⟨c, e, fz, g1, g2, g3, g4⟩ := this
      exact ⟨c, e, fz, g1, g2, by simp, by simp [valsT]⟩
    · rw [lk_pt_ne _ _ he] at hr'
      obtain ⟨k1, k2⟩ := h.mem.root r' R' hr'
      refine ⟨k1, fun t ht => ?_⟩
      have := k2 t ht
      cases t with
      | v d u =>
        rcases this with this | ⟨hb, this⟩
        · exact .inl (ext_sub hX _ _ this)
        · exact .inr ⟨hb, htv _ _ this⟩
      | own s n cap a xs => exact sat_move hst _ this (fun _ _ => rfl)
  · intro r' b' vs hm R' hr'
    by_cases he : r' = r
    · subst he
      rw [lk_pt_same, Option.some.injEq] at hr'
      subst hr'
      obtain ⟨g1, _⟩ := h.kept.par r' b' vs hm _ hR
      rw [hb] at g1
      exact ⟨g1, fun e => by rw [e] at g1; simp at g1⟩
    · rw [lk_pt_ne _ _ he] at hr'
      exact h.kept.par r' b' vs hm R' hr'
  · intro r' R' hr'
    by_cases he : r' = r
    · subst he
      rw [hR, Option.some.injEq] at hr'
      subst hr'
      exact ⟨_, lk_pt_same _ _ _, hb.symm, fun _ => rfl⟩
    · exact ⟨R', by rw [lk_pt_ne _ _ he]; exact hr', rfl, fun h => h⟩
theorem tkB_ok (h : Rel C H w st vss S) {r b : Nat} {R : RT} (hR : lk S r = some R) (hb : R.box = some b) {cs' : List D} (ht : tkB st r = some (cs', st')) :
    ∃ ts S', Rel C (ts ++ H) w st' vss S' ∧ ersT ts = cs' ∧ ts ≠ [] ∧ lk S' r = some ⟨some b, []⟩ ∧ Blk w b 0 ts.length (valsT ts) ∧ Tells C w w S S' H (ts ++ H) id ∧ DomE S S' ∧ Same st st' := by
  unfold tkB at ht
  rw [h.rt, hR] at ht
  simp only [Option.map_some] at ht
  split at ht
  case h_2 => simp at ht
  rename_i c cs hcs
  simp only [Option.some.injEq] at hcs
  split at ht
  case h_2 => simp at ht
  rename_i cs1 st1 htk
  simp only [Option.some.injEq, Prod.mk.injEq] at ht
  obtain ⟨rfl, rfl⟩ := ht
  have hall : All2 (TVc w (Free C w S H) S) (viewL r [] 0 (c :: cs)) (valsT R.cs) := by
    rw [← hcs]
    refine all2_of_get (by rw [viewL_len, ersT_len, valsT_len]) (fun i x y hx hy => ?_)
    rw [viewL_get, ersT_get] at hx
    rw [valsT_get] at hy
    cases hi : R.cs[i]? with
    | none => simp [hi] at hx
    | some t =>
      simp only [hi, Option.map_some, Option.some.injEq, Nat.zero_add] at hx hy
      subst hx; subst hy
      exact view_ok h.mem hR rfl hi
  obtain ⟨ts, S1, a1, a2, a3, a4, a5, a6⟩ := tkL_ok h hall htk
  obtain ⟨R1, b1, b2, _⟩ := a5.fwd r R hR
  obtain ⟨c1, c2, c3⟩ := drop_cells a1 b1 (b2.trans hb)
  refine ⟨ts, _, c1, a2, ?_, lk_pt_same _ _ _, ?_, fun d u hd => c2 d u (a4 d u hd), a5.e.trans c3, a6⟩
  · intro e
    have h1 := congrArg List.length hcs
    have h2 := congrArg List.length a3
    rw [e] at h2
    rw [ersT_len] at h1
    simp only [valsT_len, List.length_cons, List.length_nil] at h1 h2
    omega
  · have h1 := (h.mem.root r R hR).1
    rw [hb] at h1
    have h2 := congrArg List.length a3
    simp only [valsT_len] at h2
    rw [h2, a3]
    exact h1
end
def FlatA : D → Value → List T → Prop
  | .agg cs, u, ts => cs = ersT ts ∧ ∃ us, u = .agg us ∧ us.toList = valsT ts
  | d, u, ts => ∃ t, ts = [t] ∧ d = t.er ∧ u = t.val
abbrev Arg := Option Nat × List T
def AIn (w : World) (X : Bool → Nat → Prop) : Bool → D → Value → Arg → Prop
  | false, d, u, a => a = (none, []) ∧ ∀ S, TVa w X S d u
  | true, .pbox cs, u, a => ∃ b, a.1 = some b ∧ a.2 ≠ [] ∧ cs = ersT a.2 ∧ u = .pointer (some ⟨b, 0, none⟩) ∧ Blk w b 0 a.2.length (valsT a.2)
  | true, d, u, a => a.1 = none ∧ FlatA d u a.2
def AGave (w : World) (S : List (Nat × RT)) : Bool → D → D → Value → Arg → Prop
  | false, d, d1, _, a => a = (none, []) ∧ d1 = d
  | true, d, .pbox cs, u, a => ∃ r b, d = .ptr r [] 0 ∧ a.1 = some b ∧ lk S r = some ⟨some b, []⟩ ∧ a.2 ≠ [] ∧ cs = ersT a.2 ∧ u = .pointer (some ⟨b, 0, none⟩) ∧ Blk w b 0 a.2.length (valsT a.2)
  | true, d, d1, u, a => a.1 = none ∧ FlatA d1 u a.2 ∧ valsT a.2 = cellsV d u ∧ (∀ r, d ≠ .ptr r [] 0) ∧ ((∃ cs, d1 = .agg cs) ↔ ∃ cs, d = .agg cs) ∧ (∀ f cs, d ≠ .fn f cs) ∧ ∀ ds, d ≠ .tup ds
def AGaves (w : World) (S : List (Nat × RT)) : List Bool → List D → List D → List Value → List Arg → Prop
  | _, [], ds1, us, as9 => ds1 = [] ∧ us = [] ∧ as9 = []
  | b, d :: ds, ds1, us, as9 => ∃ d1 ds1' u us' a as', ds1 = d1 :: ds1' ∧ us = u :: us' ∧ as9 = a :: as' ∧ AGave w S (b.headD false) d d1 u a ∧ AGaves w S b.tail ds ds1' us' as'
def handsOf (as9 : List Arg) : List T := (as9.map Prod.snd).reverse.flatten
theorem handsOf_cons (a : Arg) (as9 : List Arg) : handsOf (a :: as9) = handsOf as9 ++ a.2 := by simp [handsOf]
theorem AGave.dom {w : World} {S S' : List (Nat × RT)} (h : DomE S S') {b : Bool} {d d1 : D} {u : Value} {a : Arg} (hg : AGave w S b d d1 u a) : AGave w S' b d d1 u a := by
  cases b with
  | false => exact hg
  | true =>
    cases d1 with
    | pbox cs =>
      obtain ⟨r, b, h1, h2, h3, h4⟩ := hg
      exact ⟨r, b, h1, h2, h.empty h3, h4⟩
    | _ => exact hg
theorem agave_other {w : World} {S : List (Nat × RT)} {d d1 : D} {u : Value} {a : Arg} (hn : ∀ cs, d1 ≠ .pbox cs) (h1 : a.1 = none) (h2 : FlatA d1 u a.2) (h3 : valsT a.2 = cellsV d u) (h4 : ∀ r, d ≠ .ptr r [] 0) (h5 : (∃ cs, d1 = .agg cs) ↔ ∃ cs, d = .agg cs) (h6 : (∀ f cs, d ≠ .fn f cs) ∧ ∀ ds, d ≠ .tup ds) : AGave w S true d d1 u a := by
  cases d1 <;> first | exact ⟨h1, h2, h3, h4, h5, h6⟩ | exact absurd rfl (hn _)
theorem er_pbox {t : T} {w : World} {X : Bool → Nat → Prop} (hs : SatT w X t) : (∀ cs, t.er ≠ .pbox cs) ∧ (∀ cs, t.er ≠ .agg cs) ∧ (∀ cs, t.er ≠ .tup cs) := by
  cases t with
  | own s n cap a xs => simp [T.er]
  | v d u =>
    simp only [SatT] at hs
    simp only [T.er]
    refine ⟨fun cs e => ?_, fun cs e => ?_, fun cs e => ?_⟩ <;> (rw [e] at hs; simp [Ext] at hs)
section
variable {C : Ctx} {w : World} {vss : List (Array Value)}
theorem tkA_ok {H : List T} {st st' : St} {S : List (Nat × RT)} {d d' : D} {u : Value} (h : Rel C H w st vss S) (hd : TVt w (Free C w S H) S d u) (ht : tkA st d = some (d', st')) :
    ∃ (a : Arg) (S' : List (Nat × RT)), Rel C (a.2 ++ H) w st' vss S' ∧ AGave w S' true d d' u a ∧ Tells C w w S S' H (a.2 ++ H) id ∧ DomE S S' ∧ Same st st' ∧ ∀ b, a.1 = some b → ∀ r0, lk S r0 ≠ some ⟨some b, []⟩ := by
  by_cases hp : ∃ r, d = .ptr r [] 0
  · obtain ⟨r, rfl⟩ := hp
    simp only [tkA] at ht
    split at ht
    case h_2 => simp at ht
    rename_i cs1 st1 htk
    simp only [Option.some.injEq, Prod.mk.injEq] at ht
    obtain ⟨rfl, rfl⟩ := ht
    cases hR : lk S r with
    | none => simp [tkB, h.rt r, hR] at htk
    | some R =>
      have hd' : ∀ R, lk S r = some R → (([] : List Nat) = [] → R.box.isSome) ∧ ∀ b off, addrT R.box R.cs [] = some (b, off) → u = .pointer (some ⟨b, off + 0, none⟩) := hd
      obtain ⟨h1, h2⟩ := hd' R hR
      obtain ⟨b, hb⟩ := Option.isSome_iff_exists.1 (h1 rfl)
      obtain ⟨ts, S', a1, a2, a3, a4, a5, a6, a7, a8⟩ := tkB_ok h hR hb htk
      refine ⟨(some b, ts), S', a1, ⟨r, b, rfl, rfl, a4, a3, a2.symm, by have := h2 b 0 (by simp [addrT, hb]); simpa using this, a5⟩, a6, a7, a8, fun b' e r0 hr0 => ?_⟩
      simp only [Option.some.injEq] at e
      subst e
      have := box_only (List.nodup_append.1 h.mem.nd).1 hR hb hr0 (by simp [RT.ft])
      subst this
      rw [hR, Option.some.injEq] at hr0
      subst hr0
      simp [tkB, h.rt _, hR, ersT] at htk
  · have hp : ∀ r, d ≠ .ptr r [] 0 := fun r e => hp ⟨r, e⟩
    by_cases ha : ∃ cs, d = .agg cs
    · obtain ⟨cs, rfl⟩ := ha
      simp only [tkA] at ht
      split at ht
      case h_2 => simp at ht
      rename_i cs1 st1 htk
      simp only [Option.some.injEq, Prod.mk.injEq] at ht
      obtain ⟨rfl, rfl⟩ := ht
      obtain ⟨ts, S', a1, a2, a3, a4, a5, a6⟩ := tkCells_ok h hd (d := .agg cs) htk
      obtain ⟨us, rfl, _⟩ := hd
      exact ⟨(none, ts), S', a1, agave_other (by simp) rfl ⟨a2.symm, us, rfl, by rw [a3]; rfl⟩ a3 hp (by simp) (by simp), a4, a5.e, a6, by simp⟩
    · have htk : tkC st d = some (d', st') := by
        unfold tkA at ht
        split at ht
        · exact absurd ⟨_, rfl⟩ ha
        · exact absurd rfl (hp _)
        · exact ht
      have hcell : cellsOf d = [d] := by cases d <;> first | rfl | exact absurd ⟨_, rfl⟩ ha
      obtain ⟨ts, S', a1, a2, a3, a4, a5, a6⟩ := tkCells_ok h hd (ds' := [d']) (st' := st') (by rw [hcell]; simp only [tkL, htk])
      have hv : cellsV d u = [u] := by cases d <;> first | rfl | exact absurd ⟨_, rfl⟩ ha
      rw [hv] at a3
      obtain ⟨t, rfl⟩ : ∃ t, ts = [t] := by
        match ts, a2 with
        | [t], _ => exact ⟨t, rfl⟩
      simp only [ersT, List.cons.injEq, and_true] at a2
      simp only [valsT, List.cons.injEq, and_true] at a3
      subst a2
      have hs := er_pbox (satL_get (o := 0) a1.mem.hand (t := t) rfl)
      refine ⟨(none, [t]), S', a1, agave_other hs.1 rfl ?_ (by rw [hv]; simp [valsT, a3]) hp ?_ ⟨fun f cs e => by rw [e] at htk; simp [tkC] at htk, fun ds e => by rw [e] at htk; simp [tkC] at htk⟩, a4, a5.e, a6, by simp⟩
      · have : ∀ d1, (∀ cs, d1 ≠ .agg cs) → d1 = t.er → FlatA d1 u [t] := fun d1 hn e => by
          cases d1 <;> first | exact ⟨t, rfl, e, a3.symm⟩ | exact absurd rfl (hn _)
        exact this _ hs.2.1 rfl
      · exact ⟨fun ⟨cs, e⟩ => absurd e (hs.2.1 cs), fun ⟨cs, e⟩ => absurd ⟨cs, e⟩ ha⟩
theorem callOwn_ok : ∀ {b : List Bool} {ds ds1 : List D} {us : List Value} {H : List T} {st st' : St} {S : List (Nat × RT)}, Rel C H w st vss S → All2 (TVt w (Free C w S H) S) ds us → callOwn st b ds = some (ds1, st') →
    ∃ (as9 : List Arg) (S' : List (Nat × RT)), Rel C (handsOf as9 ++ H) w st' vss S' ∧ AGaves w S' b ds ds1 us as9 ∧ Tells C w w S S' H (handsOf as9 ++ H) id ∧ DomE S S' ∧ Same st st' ∧ (as9.filterMap Prod.fst).Nodup ∧ ∀ r bk, lk S r = some ⟨some bk, []⟩ → bk ∉ as9.filterMap Prod.fst := by
  intro b ds
  induction ds generalizing b with
  | nil =>
    intro ds1 us H st st' S h hu hc
    cases hu
    simp only [callOwn, Option.some.injEq, Prod.mk.injEq] at hc
    obtain ⟨rfl, rfl⟩ := hc
    exact ⟨[], S, h, ⟨rfl, rfl, rfl⟩, fun _ _ h => h, DomE.refl _, Same.refl _, by simp, by simp⟩
  | cons d ds ih =>
    intro ds1 us H st st' S h hu hc
    cases hu with
    | cons hu1 hu2 =>
    rename_i u us
    simp only [callOwn] at hc
    split at hc
    case h_2 => simp at hc
    rename_i d1 st1 h1
    split at hc
    case h_2 => simp at hc
    rename_i ds2 st2 h2
    simp only [Option.some.injEq, Prod.mk.injEq] at hc
    obtain ⟨rfl, rfl⟩ := hc
    obtain ⟨a, S1, a1, a2, a3, a4, a5, a6⟩ : ∃ (a : Arg) (S' : List (Nat × RT)), Rel C (a.2 ++ H) w st1 vss S' ∧ AGave w S' (b.headD false) d d1 u a ∧ Tells C w w S S' H (a.2 ++ H) id ∧ DomE S S' ∧ Same st st1 ∧ ∀ b, a.1 = some b → ∀ r0, lk S r0 ≠ some ⟨some b, []⟩ := by
      cases hb : b.headD false with
      | false =>
        rw [hb] at h1
        simp only [Bool.false_eq_true, if_false, Option.some.injEq, Prod.mk.injEq] at h1
        obtain ⟨rfl, rfl⟩ := h1
        exact ⟨(none, []), S, h, ⟨rfl, rfl⟩, fun _ _ h => h, DomE.refl _, Same.refl _, by simp⟩
      | true =>
        rw [hb] at h1
        exact tkA_ok h hu1 (by simpa using h1)
    obtain ⟨as9, S2, b1, b2, b3, b4, b5, b6, b7⟩ := ih a1 (hu2.mono (fun _ _ hh => lift_id a3 hh)) h2
    refine ⟨a :: as9, S2, ?_, ⟨_, _, _, _, _, _, rfl, rfl, rfl, a2.dom b4, b2⟩, fun d u hd => ?_, a4.trans b4, Same.trans a5 b5, ?_, fun r bk hr => ?_⟩
    · rw [handsOf_cons, List.append_assoc]; exact b1
    · rw [handsOf_cons, List.append_assoc]; exact b3 d u (a3 d u hd)
    · cases ha : a.1 with
      | none => simpa [ha] using b6
      | some bk =>
        simp only [List.filterMap_cons, ha, List.nodup_cons]
        refine ⟨?_, b6⟩
        cases hb : b.headD false with
        | false => rw [hb] at a2; obtain ⟨rfl, _⟩ := a2; simp at ha
        | true =>
          rw [hb] at a2
          cases d1 with
          | pbox cs =>
            obtain ⟨r, bk', _, e2, e3, _⟩ := a2
            rw [ha, Option.some.injEq] at e2
            subst e2
            exact b7 r bk e3
          | _ => rw [a2.1] at ha; simp at ha
    · cases ha : a.1 with
      | none => simp only [List.filterMap_cons, ha]; exact b7 r bk (a4.empty hr)
      | some bk' =>
        simp only [List.filterMap_cons, ha, List.mem_cons, not_or]
        exact ⟨fun e => a6 bk' ha r (e ▸ hr), b7 r bk (a4.empty hr)⟩
end
end Go.Proofs.Ytkejckoefjonjaa
namespace Go.Proofs.Ytkejckoefjonjaa
theorem mapO_all2 {α β γ : Type} {f : α → Option β} {R : α → γ → Prop} {R' : β → γ → Prop} : ∀ {as9 : List α} {bs : List β} {cs : List γ}, All2 R as9 cs → mapO f as9 = some bs → (∀ a b c, R a c → f a = some b → R' b c) → All2 R' bs cs
  | [], bs, cs, h, hm, _ => by
    cases h
    simp only [mapO, Option.some.injEq] at hm
    subst hm
    exact .nil
  | a :: as9, bs, cs, h, hm, hr => by
    cases h with
    | cons h1 h2 =>
    simp only [mapO] at hm
    split at hm
    case h_2 => simp at hm
    rename_i b hb
    split at hm
    case h_2 => simp at hm
    rename_i bs' hbs
    simp only [Option.some.injEq] at hm
    subst hm
    exact .cons (hr _ _ _ h1 hb) (mapO_all2 h2 hbs hr)
section
variable {C : Ctx} {H : List T} {w : World} {st : St} {vss : List (Array Value)} {S : List (Nat × RT)} (h : Rel C H w st vss S) {X' : Bool → Nat → Prop} (hX : ∀ b k, Free C w S H b k → X' b k)
  (hF : ∀ r R k, lk S r = some R → R.cs ≠ [] → k ∈ R.ft → X' true k)
include h hX hF
theorem exC_ok {d d' : D} {u : Value} (hd : TVc w (Free C w S H) S d u) (he : exC st d = some d') : Ext w X' d' u := by
  cases d with
  | int k n => simp only [exC, Option.some.injEq] at he; subst he; exact hd
  | bool b => simp only [exC, Option.some.injEq] at he; subst he; exact hd
  | str s => simp only [exC, Option.some.injEq] at he; subst he; exact hd
  | nil s => simp only [exC, Option.some.injEq] at he; subst he; exact hd
  | undef => simp only [exC, Option.some.injEq] at he; subst he; simp [Ext]
  | hole s n => simp only [exC, Option.some.injEq] at he; subst he; simp [Ext]
  | sl g s n cs =>
    simp only [exC, Option.some.injEq] at he
    subst he
    cases g with
    | none => simp [TVc, Ext] at hd
    | some g => exact ext_sub hX _ _ hd
  | ref r q o x =>
    simp only [exC] at he
    split at he
    case h_2 => simp at he
    rename_i g s n cs hc
    simp only [Option.some.injEq] at he
    subst he
    obtain ⟨R, l, t, h1, h2, h3, h4, h5⟩ := cell_st h.rt hc
    refine ext_ref hX true h5.symm (sat_at h.mem h1 h2 h3 h5.symm) (fun k hk => hF r R k h1 ?_ ?_) (hd t h4)
    · intro e
      rw [e] at h2
      cases q with
      | nil => simp only [cellsT, Option.some.injEq] at h2; subst h2; simp at h3
      | cons p q => simp [cellsT] at h2
    · have : k ∈ ftsT l := fts_sub (List.mem_of_getElem? h3) hk
      have := cells_sub h2 this
      simp [RT.ft, this]
  | _ => simp [exC] at he
theorem exCell_ok {b : Bool} {t : T} {d' : D} (hc : CellOk w (Free C w S H) S b t) (hf : ∀ k ∈ t.ft, X' true k) (he : exC st t.er = some d') : Ext w X' d' t.val := by
  cases t with
  | v d u =>
    have : TVc w (Free C w S H) S (leafD d) u := by
      rcases hc with hc | ⟨_, hc⟩
      · exact tvc_of_ext hc
      · exact hc
    exact exC_ok h hX hF this he
  | own s n cap a cs =>
    simp only [T.er, exC, Option.some.injEq] at he
    subst he
    exact ext_of_sat hX true (.own s n cap a cs) hc hf
theorem exP_ok {d d' : D} {u : Value} (hd : TVc w (Free C w S H) S d u) (he : exP st d = some d') (S' : List (Nat × RT)) : TVc w X' S' d' u := by
  cases d with
  | rptr cs o =>
    simp only [exP, Option.some.injEq] at he
    subst he
    obtain ⟨b, off, c, e, fz, us, h1, h2, h3, h4, h5⟩ := hd
    exact ⟨b, off, c, e, fz, us, h1, hX true b h2, h3, extL_move (fun b k hk => ⟨hX b k hk, rfl⟩) cs us h4, h5⟩
  | ptr r q o =>
    simp only [exP] at he
    split at he
    case h_2 => simp at he
    rename_i c cs hcs
    split at he
    case h_2 => simp at he
    rename_i cs' hm
    simp only [Option.some.injEq] at he
    subst he
    obtain ⟨R, l, h1, h2, h3⟩ := cells_er st S h.rt hcs
    have hl : l ≠ [] := fun e => by rw [e] at h3; simp [ersT] at h3
    obtain ⟨p1, p2⟩ := hd R h1
    obtain ⟨b, off, lim, a1, a2, a3, a4⟩ := mem_at h.mem h1 h2 hl p1
    have hR : R.cs ≠ [] := fun e => by
      rw [e] at h2
      cases q with
      | nil => simp only [cellsT, Option.some.injEq] at h2; exact hl h2.symm
      | cons p q => simp [cellsT] at h2
    have hb : b ∈ R.ft := by
      cases q with
      | nil =>
        simp only [addrT] at a1
        cases hx : R.box with
        | none => simp [hx] at a1
        | some b' => simp only [hx, Option.map_some, Option.some.injEq, Prod.mk.injEq] at a1; simp [RT.ft, hx, a1.1]
      | cons p q => simp [RT.ft, addr_mem a1]
    obtain ⟨cc, e, fz, b1, b2, b3, b4⟩ := a2
    refine ⟨b, off, cc, e, fz, valsT l, p2 b off a1, hF r R b h1 hR hb, b1, (extL_all2 _ _).2 ?_, b4⟩
    have hall : All2 (fun d u => ∃ t bx, d = t.er ∧ u = t.val ∧ CellOk w (Free C w S H) S bx t ∧ ∀ k ∈ t.ft, X' true k) (c :: cs) (valsT l) := by
      rw [h3]
      refine all2_of_get (by simp [ersT_len, valsT_len]) (fun i x y hx hy => ?_)
      rw [ersT_get] at hx
      rw [valsT_get] at hy
      cases hi : l[i]? with
      | none => simp [hi] at hx
      | some t =>
        simp only [hi, Option.map_some, Option.some.injEq] at hx hy
        have hmem : ∀ k ∈ t.ft, X' true k := fun k hk => hF r R k h1 hR (by
          have := cells_sub h2 (fts_sub (List.mem_of_getElem? hi) hk)
          simp [RT.ft, this])
        cases q with
        | nil =>
          simp only [cellsT, Option.some.injEq] at h2
          subst h2
          exact ⟨t, R.box.isSome, hx.symm, hy.symm, (h.mem.root r R h1).2 t (List.mem_of_getElem? hi), hmem⟩
        | cons p q =>
          have := satL_get (a4 (by simp)) hi
          refine ⟨t, true, hx.symm, hy.symm, ?_, hmem⟩
          cases t with
          | v d u => exact .inl this
          | own s n cap a cs => exact this
    exact mapO_all2 hall hm (fun a b c ⟨t, bx, e1, e2, e3, e4⟩ he => by
      subst e1; subst e2
      exact exCell_ok h hX hF e3 e4 he)
  | _ => exact tvc_of_ext (exC_ok h hX hF hd he)
theorem exA_ok {d d' : D} {u : Value} (hd : TVt w (Free C w S H) S d u) (he : exA st d = some d') (S' : List (Nat × RT)) : TVa w X' S' d' u := by
  cases d with
  | agg cs =>
    simp only [exA] at he
    split at he
    case h_2 => simp at he
    rename_i cs' hm
    simp only [Option.some.injEq] at he
    subst he
    obtain ⟨us, rfl, hu⟩ := hd
    exact ⟨us, rfl, mapO_all2 hu hm (fun a b c h1 h2 => tvc_of_ext (exC_ok h hX hF h1 h2))⟩
  | fn f cs =>
    simp only [exA] at he
    split at he
    case h_2 => simp at he
    rename_i cs' hm
    simp only [Option.some.injEq] at he
    subst he
    obtain ⟨us, rfl, hu⟩ := hd
    exact ⟨us, rfl, mapO_all2 hu hm (fun a b c h1 h2 => exP_ok h hX hF h1 h2 S')⟩
  | tup ds => simp [exA, exP, exC] at he
  | int k n => exact tva_of_tvc (exP_ok h hX hF (d := .int k n) hd he S')
  | bool b => exact tva_of_tvc (exP_ok h hX hF (d := .bool b) hd he S')
  | str s => exact tva_of_tvc (exP_ok h hX hF (d := .str s) hd he S')
  | sl g s n cs => exact tva_of_tvc (exP_ok h hX hF (d := .sl g s n cs) hd he S')
  | ref r q o x => exact tva_of_tvc (exP_ok h hX hF (d := .ref r q o x) hd he S')
  | nil s => exact tva_of_tvc (exP_ok h hX hF (d := .nil s) hd he S')
  | ptr r q o => exact tva_of_tvc (exP_ok h hX hF (d := .ptr r q o) hd he S')
  | rptr cs o => exact tva_of_tvc (exP_ok h hX hF (d := .rptr cs o) hd he S')
  | pbox cs => exact tva_of_tvc (exP_ok h hX hF (d := .pbox cs) hd he S')
  | hole s n => exact tva_of_tvc (exP_ok h hX hF (d := .hole s n) hd he S')
  | undef  => exact tva_of_tvc (exP_ok h hX hF (d := .undef ) hd he S')
end
end Go.Proofs.Ytkejckoefjonjaa
namespace Go.Proofs.Ytkejckoefjonjaa
def argFt (a : Arg) : List Nat := a.1.toList ++ ftsT a.2
def argsFt : List Arg → List Nat
  | [] => []
  | a :: as9 => argFt a ++ argsFt as9
def AIns (w : World) (X : Bool → Nat → Prop) : List Bool → List D → List Value → List Arg → Prop
  | _, [], us, as9 => us = [] ∧ as9 = []
  | b, d :: ds, us, as9 => ∃ u us' a as', us = u :: us' ∧ as9 = a :: as' ∧ AIn w X (b.headD false) d u a ∧ AIns w X b.tail ds us' as'
def Lk (w : World) (F : List Nat) (Y : Nat → Prop) (b : Bool) (k : Nat) : Prop := k < w.heap.size ∧ k ∉ F ∧ (b = false → Y k)
structure CallPre (w : World) (Y : Nat → Prop) (own : List Bool) (ds : List D) (us : List Value) (as9 : List Arg) : Prop where
  args : AIns w (Lk w (argsFt as9) Y) own ds us as9
  nd : (argsFt as9).Nodup
  lt : ∀ k ∈ argsFt as9, k < w.heap.size
  sat : ∀ a ∈ as9, SatL w (Lk w (argsFt as9) Y) a.2
def boxT (b : Nat) (ts : List T) : T := .own ts.length 1 1 (some (b, 0)) ts
def FlatAs : List D → List Value → List T → Prop
  | [], us, ts => us = [] ∧ ts = []
  | d :: ds, us, ts => ∃ u us' t1 t2, us = u :: us' ∧ ts = t1 ++ t2 ∧ FlatA d u t1 ∧ FlatAs ds us' t2
def Res : D → Value → List T → Prop
  | .pbox cs, v, ts => ∃ b ts', ts = [boxT b ts'] ∧ cs = ersT ts' ∧ v = .pointer (some ⟨b, 0, none⟩)
  | .tup ds, v, ts => ∃ us, v = .tuple us ∧ FlatAs ds us.toList ts
  | d, v, ts => FlatA d v ts
def AOut (w' : World) : Bool → D → Arg → Arg → Prop
  | false, _, _, a' => a' = (none, [])
  | true, .pbox cs, a, a' => a'.1 = a.1 ∧ (∃ b, a.1 = some b ∧ Blk w' b 0 a'.2.length (valsT a'.2)) ∧ cs = ersT a'.2
  | true, .agg cs, a, a' => a.1 = none ∧ a'.1 = none ∧ cs = ersT a'.2 ∧ valsT a'.2 = valsT a.2
  | true, d, a, a' => a.1 = none ∧ a'.1 = none ∧ ((a'.2 = [] ∧ ∀ s n cs, d ≠ .sl none s n cs) ∨ ∃ t, a'.2 = [t] ∧ d = t.er ∧ valsT [t] = valsT a.2)
def AOuts (w' : World) : List Bool → List D → List Arg → List Arg → Prop
  | _, os, [], as' => os = [] ∧ as' = []
  | b, os, a :: as9, as' => ∃ o os' a' as'', os = o :: os' ∧ as' = a' :: as'' ∧ AOut w' (b.headD false) o a a' ∧ AOuts w' b.tail os' as9 as''
structure CallPost (w w' : World) (Y : Nat → Prop) (own : List Bool) (as9 : List Arg) (r : D) (outs : List D) (v : Value) : Prop where
  sz : w.heap.size ≤ w'.heap.size
  old : ∀ k, k < w.heap.size → k ∉ argsFt as9 → w'.heap[k]? = w.heap[k]?
  os : w'.os = w.os
  tape : w'.tape = w.tape
  out : w'.output = w.output
  res : ∃ (rts : List T) (as' : List Arg), Res r v rts ∧ AOuts w' own outs as9 as' ∧ (ftsT rts ++ argsFt as').Nodup ∧ (∀ k ∈ ftsT rts ++ argsFt as', k < w'.heap.size ∧ (k ∈ argsFt as9 ∨ w.heap.size ≤ k)) ∧
    SatL w' (fun b k => Lk w' (ftsT rts ++ argsFt as') (fun k => Y k ∨ k ∈ argsFt as9 ∨ w.heap.size ≤ k) b k) rts ∧
    ∀ a ∈ as', SatL w' (fun b k => Lk w' (ftsT rts ++ argsFt as') (fun k => Y k ∨ k ∈ argsFt as9 ∨ w.heap.size ≤ k) b k) a.2
def FnOk (P : Program) (f : FuncId) : Prop := ∃ fn, P.funcs[f]? = some fn ∧ (fn.name == "runtime.NumGoroutine") = false ∧ fn.body.isNone = false
def GoodCall (P : Program) (own : FuncId → List Bool) (cl : FuncId → List D → Option (D × List D)) : Prop :=
  ∀ f ds r outs, cl f ds = some (r, outs) → FnOk P f ∧ ∀ (w : World) (Y : Nat → Prop) (us : Array Value) (as9 : List Arg), CallPre w Y (own f) ds us.toList as9 → okR r = true → (∀ o ∈ outs, okR o = true) →
    Calls P f us w fun e w' => ∃ v, e = .returned v ∧ CallPost w w' Y (own f) as9 r outs v
def Kills (h : D → D) : Prop := ∀ x, h x = x ∨ h x = .undef
theorem kills_id : Kills id := fun _ => .inl rfl
theorem kills_killP (r : Nat) (q : List Nat) (o : Nat) (e : Bool) : Kills (killP r q o e) := fun x => by
  unfold killP
  split
  · split
    · split
      · exact .inl rfl
      · split
        · exact .inr rfl
        · exact .inl rfl
      · exact .inr rfl
    · exact .inl rfl
  · split
    · split
      · exact .inl rfl
      · exact .inr rfl
    · exact .inl rfl
  · exact .inl rfl
theorem kills_killB (r : Nat) : Kills (killB r) := fun x => by
  unfold killB
  split
  · split
    · exact .inr rfl
    · exact .inl rfl
  · split
    · exact .inr rfl
    · exact .inl rfl
  · exact .inl rfl
theorem Kills.comp {f g : D → D} (hf : Kills f) (hg : Kills g) (h0 : f .undef = .undef) : Kills (fun x => f (g x)) := fun x => by
  rcases hg x with e | e
  · show f (g x) = x ∨ f (g x) = .undef
    rw [e]; exact hf x
  · right; show f (g x) = _; rw [e, h0]
section
variable {C : Ctx} {w : World} {vss : List (Array Value)}
theorem drop_hand {H Hs : List T} {st : St} {S : List (Nat × RT)} (h : Rel C (Hs ++ H) w st vss S) : Rel C H w st vss S ∧ Tells C w w S S (Hs ++ H) H id := by
  have hsub : ∀ k ∈ ftS S ++ ftsT H, k ∈ ftS S ++ ftsT (Hs ++ H) := fun k hk => by
    rw [ftsT_app]
    rcases List.mem_append.1 hk with h | h <;> simp [h]
  have hX : ∀ b k, Free C w S (Hs ++ H) b k → Free C w S H b k := free_sub hsub
  have hst : Stays w w (Free C w S (Hs ++ H)) (Free C w S H) := fun b k hk => ⟨hX b k hk, rfl⟩
  have htv : Tells C w w S S (Hs ++ H) H id := fun d u hd => tvc_world hst hd
  refine ⟨h.step_id h.rt rfl rfl htv ⟨?_, ?_, satL_sub hX _ ((satL_app _ _).1 h.mem.hand).2, fun k hk => h.mem.lt k (hsub k hk)⟩ ⟨h.kept.os, h.kept.tape, h.kept.output, h.kept.size, h.kept.block, fun k hk => h.kept.foot k (hsub k hk), h.kept.par⟩, htv⟩
  · refine List.Nodup.sublist ?_ h.mem.nd
    rw [ftsT_app]
    exact List.Sublist.append (List.Sublist.refl _) (List.sublist_append_right _ _)
  · intro r R hr
    obtain ⟨k1, k2⟩ := h.mem.root r R hr
    refine ⟨k1, fun t ht => ?_⟩
    have := k2 t ht
    cases t with
    | v d u =>
      rcases this with this | ⟨hb, this⟩
      · exact .inl (ext_sub hX _ _ this)
      · exact .inr ⟨hb, htv _ _ this⟩
    | own s n cap a xs => exact sat_move hst _ this (fun _ _ => rfl)
structure Backed (C : Ctx) (w : World) (st st' : St) (S S' : List (Nat × RT)) (H H' : List T) (h0 h1 : D → D) : Prop where
  tells : ∀ d u, TVc w (Free C w S H) S (h0 d) u → TVc w (Free C w S' H') S' (h1 d) u
  kills : Kills h1
  dom : DomB S S'
  of : st'.of = st.of
theorem Backed.trans {st st1 st2 : St} {S S1 S2 : List (Nat × RT)} {H H1 H2 : List T} {h0 h1 h2 : D → D} (a : Backed C w st st1 S S1 H H1 h0 h1) (b : Backed C w st1 st2 S1 S2 H1 H2 h1 h2) : Backed C w st st2 S S2 H H2 h0 h2 :=
  ⟨fun d u hd => b.tells d u (a.tells d u hd), b.kills, a.dom.trans b.dom, b.of.trans a.of⟩
theorem Backed.drop {st : St} {S : List (Nat × RT)} {H Hs : List T} {h0 : D → D} (h : Rel C (Hs ++ H) w st vss S) (hk : Kills h0) : Backed C w st st S S (Hs ++ H) H h0 h0 :=
  ⟨fun d u hd => (drop_hand h).2 _ _ hd, hk, DomB.refl _, rfl⟩
theorem backL_ok : ∀ {as9 : List D} {ts : List T} {H : List T} {st st' : St} {S : List (Nat × RT)} {h0 h1 : D → D}, Rel C (ts ++ H) w st vss S → Kills h0 → All2 (fun a u => TVc w (Free C w S (ts ++ H)) S (h0 a) u) as9 (valsT ts) → backL st h0 as9 (ersT ts) = some (st', h1) →
    ∃ S', Rel C H w st' vss S' ∧ Backed C w st st' S S' (ts ++ H) H h0 h1 := by
  intro as9
  induction as9 with
  | nil =>
    intro ts H st st' S h0 h1 h hk ha hb
    have hts : ts = [] := by
      cases ts with
      | nil => rfl
      | cons t ts => simp only [valsT] at ha; cases ha
    subst hts
    simp only [backL, Option.some.injEq, Prod.mk.injEq] at hb
    obtain ⟨rfl, rfl⟩ := hb
    exact ⟨S, h, ⟨fun _ _ h => h, hk, DomB.refl _, rfl⟩⟩
  | cons a as9 ih =>
    intro ts H st st' S h0 h1 h hk ha hb
    cases ts with
    | nil => simp only [valsT] at ha; cases ha
    | cons t ts =>
      simp only [valsT] at ha
      cases ha with
      | cons ha1 ha2 =>
      simp only [ersT, backL] at hb
      split at hb
      · rename_i r q o s n cs e1 e2
        split at hb
        case h_2 => simp at hb
        rename_i s0 n0 hcell
        split at hb
        case isFalse => simp at hb
        rename_i hsn
        split at hb
        case h_2 => simp at hb
        rename_i st1 hset
        rw [e1] at ha1
        rw [← e2] at hset
        obtain ⟨R, l, t0, g1, g2, g3, g4, g5⟩ := cell_st h.rt hcell
        obtain ⟨d0, u0, rfl⟩ : ∃ d0 u0, t0 = .v d0 u0 := by
          cases t0 with
          | v d0 u0 => exact ⟨d0, u0, rfl⟩
          | own s n cap a cs => simp [T.er] at g5
        simp only [T.er] at g5
        have hu := ha1 _ g4
        simp only [RefOk, T.er, ← g5, sn] at hu
        obtain ⟨S1, b1, b2, b3, b4, _, _⟩ := fill_one (ex := false) h g4 ⟨d0, u0, rfl, fun _ => by rw [← g5]; simp [onA, killP]⟩ (.inl ⟨hu, fun p hp => by
          rw [e2] at hp
          simp only [sn, Option.some.injEq] at hp
          simp only [T.er, ← g5, sn, Option.some.injEq]
          rw [hsn.1, hsn.2]; exact hp⟩) hset
        have hk1 : Kills (fun x => killP r q o false (h0 x)) := Kills.comp (kills_killP r q o false) hk rfl
        obtain ⟨S2, c1, c2⟩ := ih b1 hk1 (ha2.mono (fun x u hx => b2 _ _ hx)) hb
        exact ⟨S2, c1, Backed.trans ⟨fun d u hd => b2 _ _ hd, hk1, b4, b3⟩ c2⟩
      · have hd := drop_hand (Hs := [t]) h
        obtain ⟨S2, c1, c2⟩ := ih hd.1 hk (ha2.mono (fun x u hx => hd.2 _ _ hx)) hb
        exact ⟨S2, c1, Backed.trans (Backed.drop (Hs := [t]) h hk) c2⟩
def ABack (w : World) (X : Bool → Nat → Prop) (S : List (Nat × RT)) (h0 : D → D) (d : D) (u : Value) (o : D) (a a' : Arg) : Prop :=
  All2 (fun x v => TVc w X S (h0 x) v) (cellsOf d) (cellsV d u) ∧ AOut w true o a a' ∧ (a.1 = none → valsT a.2 = cellsV d u ∧ ∀ r, d ≠ .ptr r [] 0) ∧ ∀ bx, a.1 = some bx → ∃ r R, d = .ptr r [] 0 ∧ lk S r = some R ∧ R.box = some bx
theorem back_single {H : List T} {st st' : St} {S : List (Nat × RT)} {h0 h1 : D → D} {ts : List T} {d o : D} (h : Rel C (ts ++ H) w st vss S) (hk : Kills h0) (hn : ∀ r q o' x s n cs, ¬ (h0 d = .ref r q o' x ∧ o = .sl none s n cs)) (hb : backL st h0 [d] [o] = some (st', h1)) : ∃ S', Rel C H w st' vss S' ∧ Backed C w st st' S S' (ts ++ H) H h0 h1 := by
  simp only [backL] at hb
  split at hb
  · rename_i r q o' s n cs e1
    exact absurd ⟨e1, rfl⟩ (hn r q o' none s n cs)
  · simp only [Option.some.injEq, Prod.mk.injEq] at hb
    obtain ⟨rfl, rfl⟩ := hb
    exact ⟨S, (drop_hand h).1, Backed.drop h hk⟩
theorem back1_ok {H : List T} {st st' : St} {S : List (Nat × RT)} {h0 h1 : D → D} {d o : D} {u : Value} {a a' : Arg} (h : Rel C (a'.2 ++ H) w st vss S) (hk : Kills h0) (ha : ABack w (Free C w S (a'.2 ++ H)) S h0 d u o a a') (hb : back1 st h0 d o = some (st', h1)) :
    ∃ S', Rel C H w st' vss S' ∧ Backed C w st st' S S' (a'.2 ++ H) H h0 h1 := by
  obtain ⟨h1', h2, h3, h4⟩ := ha
  unfold back1 at hb
  split at hb
  · rename_i cs ds
    obtain ⟨e1, e2, e3, e4⟩ := h2
    subst e3
    exact backL_ok h hk (by rw [e4, (h3 e1).1]; exact h1') hb
  · rename_i r ds
    obtain ⟨e1, ⟨b, e2, e3⟩, e4⟩ := h2
    split at hb
    case h_2 => simp at hb
    rename_i hrt
    simp only [Option.some.injEq, Prod.mk.injEq] at hb
    obtain ⟨rfl, rfl⟩ := hb
    obtain ⟨r', R, g1, g2, g3⟩ := h4 b e2
    simp only [D.ptr.injEq, and_true] at g1
    subst g1
    rw [h.rt, g2] at hrt
    simp only [Option.map_some, Option.some.injEq] at hrt
    have hcs : R.cs = [] := List.length_eq_zero_iff.1 (by rw [← ersT_len, hrt]; rfl)
    obtain ⟨c1, c2, c3⟩ := fill_box h (r := r) (b := b) (by rw [g2]; cases R; simp only at g3 hcs; rw [g3, hcs]) e3
    subst e4
    exact ⟨_, c1, ⟨fun d u hd => c2 _ _ hd, Kills.comp (kills_killB r) hk rfl, c3, rfl⟩⟩
  · rename_i hna hnp
    by_cases hagg : ∃ cs, d = .agg cs
    · obtain ⟨cs, rfl⟩ := hagg
      refine back_single h hk (fun r q o' x s n cs' hh => ?_) hb
      rcases hk (.agg cs) with e | e <;> rw [e] at hh <;> simp at hh
    have hcell : cellsOf d = [d] := by cases d <;> first | rfl | exact absurd ⟨_, rfl⟩ hagg
    have hcv : cellsV d u = [u] := by cases d <;> first | rfl | exact absurd ⟨_, rfl⟩ hagg
    by_cases hsl : ∃ s n cs, o = .sl none s n cs
    · obtain ⟨s, n, cs, rfl⟩ := hsl
      obtain ⟨e1, e2, e3⟩ := h2
      rcases e3 with ⟨_, e3⟩ | ⟨t, e3, e4, e5⟩
      · exact absurd rfl (e3 s n cs)
      · rw [e3] at h h1' ⊢
        rw [e4] at hb
        refine backL_ok (as9 := [d]) (ts := [t]) h hk ?_ (by simpa [ersT] using hb)
        rw [e5, (h3 e1).1, hcv]
        rw [hcell, hcv] at h1'
        exact h1'
    · exact back_single h hk (fun r q o' x s n cs' hh => hsl ⟨s, n, cs', hh.2⟩) hb
def ABacks (w : World) (X : Bool → Nat → Prop) (S : List (Nat × RT)) (h0 : D → D) : List Bool → List D → List Value → List D → List Arg → List Arg → Prop
  | _, [], us, os, as9, as' => us = [] ∧ os = [] ∧ as9 = [] ∧ as' = []
  | b, d :: ds, us, os, as9, as' => ∃ u us1 o os1 a as1 a' as1', us = u :: us1 ∧ os = o :: os1 ∧ as9 = a :: as1 ∧ as' = a' :: as1' ∧ (if b.headD false then ABack w X S h0 d u o a a' else a' = (none, [])) ∧ ABacks w X S h0 b.tail ds us1 os1 as1 as1'
theorem ABacks.step {X X' : Bool → Nat → Prop} {S S' : List (Nat × RT)} {h0 h1 : D → D} (ht : ∀ d u, TVc w X S (h0 d) u → TVc w X' S' (h1 d) u) (hd : DomB S S') : ∀ {b : List Bool} {ds : List D} {us : List Value} {os : List D} {as9 as' : List Arg}, ABacks w X S h0 b ds us os as9 as' → ABacks w X' S' h1 b ds us os as9 as'
  | _, [], _, _, _, _, h => h
  | b, d :: ds, us, os, as9, as', h => by
    obtain ⟨u, us1, o, os1, a, as1, a', as1', e1, e2, e3, e4, e5, e6⟩ := h
    refine ⟨u, us1, o, os1, a, as1, a', as1', e1, e2, e3, e4, ?_, e6.step ht hd⟩
    split
    · rename_i hb
      rw [if_pos hb] at e5
      obtain ⟨k1, k2, k3, k4⟩ := e5
      refine ⟨k1.mono (fun x v hx => ht _ _ hx), k2, k3, fun bx hbx => ?_⟩
      obtain ⟨r, R, g1, g2, g3⟩ := k4 bx hbx
      obtain ⟨R', g4, g5⟩ := hd r R g2
      exact ⟨r, R', g1, g4, g5.trans g3⟩
    · rename_i hb
      rw [if_neg hb] at e5
      exact e5
def handsF (as9 : List Arg) : List T := (as9.map Prod.snd).flatten
theorem callBack_ok : ∀ {ds : List D} {b : List Bool} {us : List Value} {os : List D} {as9 as' : List Arg} {H : List T} {st st' : St} {S : List (Nat × RT)} {h0 : D → D}, Rel C (handsF as' ++ H) w st vss S → Kills h0 → ABacks w (Free C w S (handsF as' ++ H)) S h0 b ds us os as9 as' → callBack st h0 b ds os = some st' →
    ∃ S' h1, Rel C H w st' vss S' ∧ Backed C w st st' S S' (handsF as' ++ H) H h0 h1 := by
  intro ds
  induction ds with
  | nil =>
    intro b us os as9 as' H st st' S h0 h hk ha hb
    obtain ⟨rfl, rfl, rfl, rfl⟩ := ha
    simp only [callBack, Option.some.injEq] at hb
    subst hb
    exact ⟨S, h0, h, ⟨fun _ _ h => h, hk, DomB.refl _, rfl⟩⟩
  | cons d ds ih =>
    intro b us os as9 as' H st st' S h0 h hk ha hb
    obtain ⟨u, us1, o, os1, a, as1, a', as1', rfl, rfl, rfl, rfl, e5, e6⟩ := ha
    have hh : handsF (a' :: as1') ++ H = a'.2 ++ (handsF as1' ++ H) := by simp [handsF]
    rw [hh] at h e5 e6 ⊢
    simp only [callBack] at hb
    split at hb
    · rename_i hbb
      rw [if_pos hbb] at e5
      split at hb
      case h_2 => simp at hb
      rename_i st1 h1 hb1
      obtain ⟨S1, c1, c2⟩ := back1_ok h hk e5 hb1
      obtain ⟨S2, h2, d1, d2⟩ := ih c1 c2.kills (e6.step c2.tells c2.dom) hb
      exact ⟨S2, h2, d1, c2.trans d2⟩
    · rename_i hbb
      rw [if_neg hbb] at e5
      subst e5
      have hd := drop_hand (Hs := []) (H := handsF as1' ++ H) h
      obtain ⟨S2, h2, d1, d2⟩ := ih hd.1 hk e6 hb
      exact ⟨S2, h2, d1, d2⟩
end
end Go.Proofs.Ytkejckoefjonjaa
namespace Go.Proofs.Ytkejckoefjonjaa
def fl1 : D → List D
  | .agg cs => cs
  | d => [d]
theorem flatD_tup (ds : List D) : flatD (.tup ds) = ds.flatMap fl1 := rfl
theorem flatA_er {d : D} {v : Value} {ts : List T} (h : FlatA d v ts) : ersT ts = fl1 d := by
  cases d <;> first | exact h.1.symm | (obtain ⟨t, rfl, h1, _⟩ := h; rw [h1]; simp [ersT, fl1, ← h1])
theorem flatAs_er : ∀ {ds : List D} {us : List Value} {ts : List T}, FlatAs ds us ts → ersT ts = ds.flatMap fl1
  | [], us, ts, h => by obtain ⟨rfl, rfl⟩ := h; rfl
  | d :: ds, us, ts, h => by
    obtain ⟨u, us', t1, t2, rfl, rfl, h1, h2⟩ := h
    rw [ersT_app, flatA_er h1, flatAs_er h2, List.flatMap_cons]
theorem er_notup {w : World} {X : Bool → Nat → Prop} {d : D} {v : Value} {ts : List T} (hs : SatL w X ts) (h : FlatA d v ts) : flatD d = fl1 d := by
  cases d with
  | tup ds =>
    obtain ⟨t, rfl, h1, _⟩ := h
    exact absurd h1.symm ((er_pbox ((satL_iff _).1 hs t (by simp))).2.2 ds)
  | _ => rfl
section
variable {C : Ctx} {w : World} {vss : List (Array Value)} {H : List T} {S : List (Nat × RT)}
theorem view_flatA (hm : Mem C w S H) {r : Nat} {R : RT} (hR : lk S r = some R) {d : D} {v : Value} {ts A B : List T} (hf : FlatA d v ts) (hcs : R.cs = A ++ ts ++ B) : TVa w (Free C w S H) S (viewA r A.length d) v := by
  have hget : ∀ (i : Nat) (t : T), ts[i]? = some t → R.cs[A.length + i]? = some t := fun i t hi => by
    have hlt := (List.getElem?_eq_some_iff.1 hi).1
    rw [hcs, List.append_assoc, List.getElem?_append_right (by omega), List.getElem?_append_left (by omega)]
    rw [← hi]; congr 1; omega
  by_cases ha : ∃ cs, d = .agg cs
  · obtain ⟨cs, rfl⟩ := ha
    obtain ⟨rfl, us, rfl, hu⟩ := hf
    refine ⟨us, rfl, all2_of_get (by rw [viewL_len, ersT_len, hu, valsT_len]) (fun i x y hx hy => ?_)⟩
    rw [viewL_get, ersT_get] at hx
    rw [hu, valsT_get] at hy
    cases hi : ts[i]? with
    | none => simp [hi] at hx
    | some t =>
      simp only [hi, Option.map_some, Option.some.injEq] at hx hy
      subst hx; subst hy
      exact view_ok hm hR rfl (hget i t hi)
  · have hv : viewA r A.length d = viewC r [] A.length d := by cases d <;> first | rfl | exact absurd ⟨_, rfl⟩ ha
    have hf' : ∃ t, ts = [t] ∧ d = t.er ∧ v = t.val := by cases d <;> first | exact hf | exact absurd ⟨_, rfl⟩ ha
    obtain ⟨t, rfl, rfl, rfl⟩ := hf'
    rw [hv]
    exact tva_of_tvc (view_ok hm hR rfl (hget 0 t rfl))
theorem view_flatAs (hm : Mem C w S H) {r : Nat} {R : RT} (hR : lk S r = some R) {X : Bool → Nat → Prop} : ∀ {ds : List D} {us : List Value} {ts A B : List T}, FlatAs ds us ts → SatL w X ts → R.cs = A ++ ts ++ B → All2 (TVa w (Free C w S H) S) (viewTs r A.length ds) us
  | [], us, ts, A, B, h, _, _ => by obtain ⟨rfl, rfl⟩ := h; exact .nil
  | d :: ds, us, ts, A, B, h, hs, hcs => by
    obtain ⟨u, us', t1, t2, rfl, rfl, h1, h2⟩ := h
    rw [satL_app] at hs
    simp only [viewTs]
    refine .cons (view_flatA hm hR (B := t2 ++ B) h1 (by rw [hcs]; simp)) ?_
    have hl : A.length + (flatD d).length = (A ++ t1).length := by rw [er_notup hs.1 h1, ← flatA_er h1, ersT_len, List.length_append]
    rw [hl]
    exact view_flatAs hm hR (B := B) h2 hs.2 (by rw [hcs]; simp)
theorem leaf_flatA {X : Bool → Nat → Prop} {d : D} {v : Value} {ts : List T} (hf : FlatA d v ts) (hs : SatL w X ts) (hno : (fl1 d).any isOwn = false) : TVa w X S d v := by
  have hl : ∀ t ∈ ts, Ext w X t.er t.val := fun t ht => by
    have h1 := (satL_iff _).1 hs t ht
    cases t with
    | v d u => exact h1
    | own s n cap a cs =>
      rw [← flatA_er hf] at hno
      have := List.any_eq_false.1 hno (T.own s n cap a cs).er (by rw [ersT_map]; exact List.mem_map.2 ⟨_, ht, rfl⟩)
      simp [T.er, isOwn] at this
  by_cases ha : ∃ cs, d = .agg cs
  · obtain ⟨cs, rfl⟩ := ha
    obtain ⟨rfl, us, rfl, hu⟩ := hf
    refine ⟨us, rfl, all2_of_get (by rw [ersT_len, hu, valsT_len]) (fun i x y hx hy => ?_)⟩
    rw [ersT_get] at hx
    rw [hu, valsT_get] at hy
    cases hi : ts[i]? with
    | none => simp [hi] at hx
    | some t =>
      simp only [hi, Option.map_some, Option.some.injEq] at hx hy
      subst hx; subst hy
      exact tvc_of_ext (hl t (List.mem_of_getElem? hi))
  · have hf' : ∃ t, ts = [t] ∧ d = t.er ∧ v = t.val := by cases d <;> first | exact hf | exact absurd ⟨_, rfl⟩ ha
    obtain ⟨t, rfl, rfl, rfl⟩ := hf'
    exact tva_of_tvc (tvc_of_ext (hl t (by simp)))
theorem leaf_flatAs {X : Bool → Nat → Prop} : ∀ {ds : List D} {us : List Value} {ts : List T}, FlatAs ds us ts → SatL w X ts → (ds.flatMap fl1).any isOwn = false → All2 (TVa w X S) ds us
  | [], us, ts, h, _, _ => by obtain ⟨rfl, rfl⟩ := h; exact .nil
  | d :: ds, us, ts, h, hs, hno => by
    obtain ⟨u, us', t1, t2, rfl, rfl, h1, h2⟩ := h
    rw [satL_app] at hs
    rw [List.flatMap_cons, List.any_append, Bool.or_eq_false_iff] at hno
    exact .cons (leaf_flatA h1 hs.1 hno.1) (leaf_flatAs h2 hs.2 hno.2)
theorem adopt_ok {rts : List T} {st : St} {vs : Array Value} (h : Rel C (rts ++ H) w st (vs :: vss) S) {r : D} {v : Value} (hr : Res r v rts) {t : Nat} (ht : t < vs.size) (hP : ∀ p ∈ C.P0, p.1 ≠ st.of + t) :
    ∃ S', Rel C H w ((st.adopt (st.of + t) r).1.put (some t) (st.adopt (st.of + t) r).2) (vs.setIfInBounds t v :: vss) S' := by
  have hhand := ((satL_app _ _).1 h.mem.hand).1
  have hndH : (ftsT rts).Nodup := by
    have := h.mem.nd
    rw [ftsT_app, List.nodup_append, List.nodup_append] at this
    exact this.2.1.1
  have hltH : ∀ k ∈ ftsT rts, k < w.heap.size := fun k hk => h.mem.lt k (by rw [ftsT_app]; simp [hk])
  by_cases hp : ∃ cs, r = .pbox cs
  · obtain ⟨cs, rfl⟩ := hp
    obtain ⟨b, ts, rfl, rfl, rfl⟩ := hr
    have hb : SatT w (Free C w S ([boxT b ts] ++ H)) (boxT b ts) := (satL_iff _).1 hhand _ (by simp)
    simp only [boxT, SatT, Nat.one_mul] at hb
    obtain ⟨_, _, hblk, hsl⟩ := hb
    have hft : ∀ k ∈ (RT.mk (some b) ts).ft, k ∈ ftsT [boxT b ts] ∨ w.heap.size ≤ k := fun k hk => .inl (by simpa [RT.ft, ftsT, boxT, T.ft, ftA] using hk)
    have hst := root_stays (r := st.of + t) (R := ⟨some b, ts⟩) h hft (Nat.le_refl _) (fun _ _ => rfl)
    obtain ⟨h1, _⟩ := root_gen (r := st.of + t) (R := ⟨some b, ts⟩) h ⟨hblk, fun x hx => by
        have := (satL_iff _).1 hsl x hx
        have := sat_move hst x this (fun _ _ => rfl)
        cases x with
        | v d u => exact .inl this
        | own s n cap a cs => exact this⟩
      ⟨by simpa [RT.ft, ftsT, boxT, T.ft, ftA] using hndH, hft⟩ (fun k hk => hltH k (by simpa [RT.ft, ftsT, boxT, T.ft, ftA] using hk)) (Nat.le_refl _) (fun _ _ => rfl) rfl rfl rfl hP
    refine ⟨_, h1.put ht ?_⟩
    intro R hR
    rw [lk_pt_same, Option.some.injEq] at hR
    subst hR
    exact ⟨fun _ => rfl, fun b' off ha => by simp only [addrT, Option.map_some, Option.some.injEq, Prod.mk.injEq] at ha; obtain ⟨rfl, rfl⟩ := ha; rfl⟩
  · have hflat : ersT rts = flatD r := by
      by_cases htup : ∃ ds, r = .tup ds
      · obtain ⟨ds, rfl⟩ := htup
        obtain ⟨us, rfl, hf⟩ := hr
        rw [flatD_tup]; exact flatAs_er hf
      · have hf : FlatA r v rts := by cases r <;> first | exact hr | exact absurd ⟨_, rfl⟩ hp | exact absurd ⟨_, rfl⟩ htup
        rw [er_notup hhand hf]; exact flatA_er hf
    have had : st.adopt (st.of + t) r = if (flatD r).any isOwn then ({ st.mapD (killR (st.of + t)) with rt := pz (st.mapD (killR (st.of + t))).rt (st.of + t) (flatD r) }, viewD (st.of + t) r) else (st, r) := by
      cases r <;> first | rfl | exact absurd ⟨_, rfl⟩ hp
    rw [had]
    by_cases hown : (flatD r).any isOwn = true
    · rw [if_pos hown]
      have hft : ∀ k ∈ (RT.mk none rts).ft, k ∈ ftsT rts ∨ w.heap.size ≤ k := fun k hk => .inl (by simpa [RT.ft] using hk)
      have hst := root_stays (r := st.of + t) (R := ⟨none, rts⟩) h hft (Nat.le_refl _) (fun _ _ => rfl)
      obtain ⟨h1, _⟩ := root_gen (r := st.of + t) (R := ⟨none, rts⟩) h ⟨trivial, fun x hx => by
          have := (satL_iff _).1 hhand x hx
          have := sat_move hst x this (fun _ _ => rfl)
          cases x with
          | v d u => exact .inl this
          | own s n cap a cs => exact this⟩
        ⟨by simpa [RT.ft] using hndH, hft⟩ (fun k hk => hltH k (by simpa [RT.ft] using hk)) (Nat.le_refl _) (fun _ _ => rfl) rfl rfl rfl hP
      rw [← hflat]
      refine ⟨_, h1.put ht ?_⟩
      have hlk : lk (pt (fS (killR (st.of + t)) S) (st.of + t) ⟨none, rts⟩) (st.of + t) = some ⟨none, rts⟩ := lk_pt_same _ _ _
      by_cases htup : ∃ ds, r = .tup ds
      · obtain ⟨ds, rfl⟩ := htup
        obtain ⟨us, rfl, hf⟩ := hr
        refine ⟨us, rfl, ?_⟩
        exact view_flatAs h1.mem hlk (A := []) (B := []) hf hhand (by simp)
      · have hf : FlatA r v rts := by cases r <;> first | exact hr | exact absurd ⟨_, rfl⟩ hp | exact absurd ⟨_, rfl⟩ htup
        have hv : viewD (st.of + t) r = viewA (st.of + t) 0 r := by cases r <;> first | rfl | exact absurd ⟨_, rfl⟩ htup
        rw [hv]
        exact tvt_of_tva (view_flatA h1.mem hlk (A := []) (B := []) hf (by simp))
    · rw [if_neg hown]
      have hown : (flatD r).any isOwn = false := by simpa using hown
      obtain ⟨h1, _⟩ := drop_hand h
      have hX : ∀ b k, Free C w S (rts ++ H) b k → Free C w S H b k := free_sub (fun k hk => by
        rw [ftsT_app]
        rcases List.mem_append.1 hk with h | h <;> simp [h])
      have hs := satL_sub hX _ hhand
      refine ⟨S, h1.put ht ?_⟩
      by_cases htup : ∃ ds, r = .tup ds
      · obtain ⟨ds, rfl⟩ := htup
        obtain ⟨us, rfl, hf⟩ := hr
        exact ⟨us, rfl, leaf_flatAs hf hs hown⟩
      · have hf : FlatA r v rts := by cases r <;> first | exact hr | exact absurd ⟨_, rfl⟩ hp | exact absurd ⟨_, rfl⟩ htup
        rw [er_notup hhand hf] at hown
        exact tvt_of_tva (leaf_flatA hf hs hown)
end
end Go.Proofs.Ytkejckoefjonjaa
namespace Go.Proofs.Ytkejckoefjonjaa
mutual
def tgT (b : Bool) : T → T
  | .v d u => .v (tagT b (leafD d)) u
  | .own s n cap a cs => .own s n cap a (tgL b cs)
def tgL (b : Bool) : List T → List T
  | [] => []
  | t :: ts => tgT b t :: tgL b ts
end
theorem leafD_id {d : D} (h : ∀ s n cs, d ≠ .sl none s n cs) : leafD d = d := by
  cases d with
  | sl g s n cs => cases g with
    | none => exact absurd rfl (h s n cs)
    | some g => rfl
  | _ => rfl
theorem leafD_not (d : D) (s n : Nat) (cs : List D) : leafD d ≠ .sl none s n cs := by
  cases d with
  | sl g s n cs => cases g <;> simp [leafD]
  | _ => simp [leafD]
theorem leaf_tag (b : Bool) (d : D) : leafD (tagT b (leafD d)) = tagT b (leafD d) := by
  refine leafD_id (fun s n cs => ?_)
  have := leafD_not d
  cases h : leafD d with
  | sl g s' n' cs' =>
    cases g with
    | none => exact absurd h (this _ _ _)
    | some g => simp [tagT]
  | _ => simp [tagT]
mutual
theorem er_tg (b : Bool) : ∀ t : T, (tgT b t).er = tagT b t.er
  | .v d u => by simp only [tgT, T.er]; exact leaf_tag b d
  | .own s n cap a cs => by simp only [tgT, T.er, tagT]; rw [ers_tg b cs]
theorem ers_tg (b : Bool) : ∀ ts : List T, ersT (tgL b ts) = tagL b (ersT ts)
  | [] => rfl
  | t :: ts => by simp only [tgL, ersT, tagL]; rw [er_tg b t, ers_tg b ts]
end
theorem val_tg (b : Bool) (t : T) : (tgT b t).val = t.val := by cases t <;> rfl
theorem vals_tg (b : Bool) : ∀ ts : List T, valsT (tgL b ts) = valsT ts
  | [] => rfl
  | t :: ts => by simp only [tgL, valsT]; rw [val_tg, vals_tg b ts]
mutual
theorem ft_tg (b : Bool) : ∀ t : T, (tgT b t).ft = t.ft
  | .v _ _ => rfl
  | .own s n cap a cs => by simp only [tgT, T.ft]; rw [fts_tg b cs]
theorem fts_tg (b : Bool) : ∀ ts : List T, ftsT (tgL b ts) = ftsT ts
  | [] => rfl
  | t :: ts => by simp only [tgL, ftsT]; rw [ft_tg b t, fts_tg b ts]
end
theorem tgL_len (b : Bool) : ∀ ts : List T, (tgL b ts).length = ts.length
  | [] => rfl
  | t :: ts => by simp [tgL, tgL_len b ts]
theorem tgL_app (b : Bool) : ∀ x y : List T, tgL b (x ++ y) = tgL b x ++ tgL b y
  | [], _ => rfl
  | t :: ts, y => by simp [tgL, tgL_app b ts y]
theorem tagL_len (b : Bool) : ∀ cs : List D, (tagL b cs).length = cs.length
  | [] => rfl
  | d :: ds => by simp [tagL, tagL_len b ds]
section
variable {w : World} {X X' : Bool → Nat → Prop} {b : Bool} (hX : ∀ g k, X g k → X' b k)
include hX
mutual
theorem ext_tag : ∀ (d : D) (u : Value), Ext w X d u → Ext w X' (tagT b d) u
  | .int _ _, _, hu => hu
  | .bool _, _, hu => hu
  | .str _, _, hu => hu
  | .nil _, _, hu => hu
  | .undef, _, _ => trivial
  | .hole _ _, _, _ => trivial
  | .sl (some g) s n cs, u, hu => by
    simp only [Ext, tagT] at hu ⊢
    obtain ⟨base, cap, us, h1, h1', h2, h3, h4⟩ := hu
    refine ⟨base, cap, us, h1, h1', by rw [tagL_len]; exact h2, extL_tag cs us h3, ?_⟩
    rcases h4 with h4 | ⟨k, off, c, e, fz, h5, h6, h7, h8⟩
    · left; rw [h4]; rfl
    · exact .inr ⟨k, off, c, e, fz, h5, hX g k h6, h7, h8⟩
  | .sl none _ _ _, _, hu => by simp [Ext] at hu
  | .ref .., _, hu => by simp [Ext] at hu
  | .agg _, _, hu => by simp [Ext] at hu
  | .tup _, _, hu => by simp [Ext] at hu
  | .fn .., _, hu => by simp [Ext] at hu
  | .ptr .., _, hu => by simp [Ext] at hu
  | .rptr .., _, hu => by simp [Ext] at hu
  | .pbox _, _, hu => by simp [Ext] at hu
theorem extL_tag : ∀ (ds : List D) (us : List Value), ExtL w X ds us → ExtL w X' (tagL b ds) us
  | [], _, hu => by have _ := hX; exact hu
  | d :: ds, us, hu => by
    simp only [ExtL, tagL] at hu ⊢
    obtain ⟨v, vs, h1, h2, h3⟩ := hu
    exact ⟨v, vs, h1, ext_tag d v h2, extL_tag ds vs h3⟩
end
mutual
theorem sat_tg : ∀ (t : T), SatT w X t → SatT w X' (tgT b t)
  | .v d u, hs => by
    simp only [SatT, tgT] at hs ⊢
    rw [leaf_tag]
    exact ext_tag hX _ _ hs
  | .own s n cap a cs, hs => by
    simp only [SatT, tgT] at hs ⊢
    obtain ⟨h1, h2, h3, h4⟩ := hs
    rw [vals_tg, tgL_len]
    exact ⟨h1, h2, h3, satL_tg cs h4⟩
theorem satL_tg : ∀ (ts : List T), SatL w X ts → SatL w X' (tgL b ts)
  | [], _ => by have _ := hX; simp [SatL, tgL]
  | t :: ts, hs => by
    simp only [SatL, tgL] at hs ⊢
    exact ⟨sat_tg t hs.1, satL_tg ts hs.2⟩
end
end
section
variable {w : World} {X : Bool → Nat → Prop}
mutual
theorem ext_nl : ∀ (d : D) (u : Value), Ext w X d u → noLent d = true → Ext w (fun g k => g = false ∧ X false k) d u
  | .int _ _, _, hu, _ => hu
  | .bool _, _, hu, _ => hu
  | .str _, _, hu, _ => hu
  | .nil _, _, hu, _ => hu
  | .undef, _, _, _ => trivial
  | .hole _ _, _, _, _ => trivial
  | .sl (some g) s n cs, u, hu, hn => by
    simp only [Ext] at hu ⊢
    simp only [noLent, Bool.and_eq_true] at hn
    have hg : g = false := by cases g with
      | false => rfl
      | true => exact absurd hn.1 (by decide)
    subst hg
    obtain ⟨base, cap, us, h1, h1', h2, h3, h4⟩ := hu
    refine ⟨base, cap, us, h1, h1', h2, extL_nl cs us h3 hn.2, ?_⟩
    rcases h4 with h4 | ⟨k, off, c, e, fz, h5, h6, h7, h8⟩
    · exact .inl h4
    · exact .inr ⟨k, off, c, e, fz, h5, ⟨rfl, h6⟩, h7, h8⟩
  | .sl none _ _ _, _, hu, _ => by simp [Ext] at hu
  | .ref .., _, hu, _ => by simp [Ext] at hu
  | .agg _, _, hu, _ => by simp [Ext] at hu
  | .tup _, _, hu, _ => by simp [Ext] at hu
  | .fn .., _, hu, _ => by simp [Ext] at hu
  | .ptr .., _, hu, _ => by simp [Ext] at hu
  | .rptr .., _, hu, _ => by simp [Ext] at hu
  | .pbox _, _, hu, _ => by simp [Ext] at hu
theorem extL_nl : ∀ (ds : List D) (us : List Value), ExtL w X ds us → noLentL ds = true → ExtL w (fun g k => g = false ∧ X false k) ds us
  | [], _, hu, _ => hu
  | d :: ds, us, hu, hn => by
    simp only [ExtL] at hu ⊢
    simp only [noLentL, Bool.and_eq_true] at hn
    obtain ⟨v, vs, h1, h2, h3⟩ := hu
    exact ⟨v, vs, h1, ext_nl d v h2 hn.1, extL_nl ds vs h3 hn.2⟩
end
mutual
theorem sat_nl : ∀ (t : T), SatT w X t → noLent t.er = true → SatT w (fun g k => g = false ∧ X false k) t
  | .v d u, hs, hn => by
    simp only [SatT] at hs ⊢
    exact ext_nl _ _ hs hn
  | .own s n cap a cs, hs, hn => by
    simp only [SatT] at hs ⊢
    simp only [T.er, noLent, Bool.and_eq_true] at hn
    exact ⟨hs.1, hs.2.1, hs.2.2.1, satL_nl cs hs.2.2.2 hn.2⟩
theorem satL_nl : ∀ (ts : List T), SatL w X ts → noLentL (ersT ts) = true → SatL w (fun g k => g = false ∧ X false k) ts
  | [], _, _ => by simp [SatL]
  | t :: ts, hs, hn => by
    simp only [SatL] at hs ⊢
    simp only [ersT, noLentL, Bool.and_eq_true] at hn
    exact ⟨sat_nl t hs.1 hn.1, satL_nl ts hs.2 hn.2⟩
end
end
theorem noLentL_all : ∀ ds : List D, noLentL ds = ds.all noLent
  | [] => rfl
  | d :: ds => by simp [noLentL, noLentL_all ds]
mutual
theorem tag_nl : ∀ d : D, noLent d = true → tagT false d = d
  | .sl none s n cs, h => by
    simp only [noLent, Bool.and_eq_true] at h
    simp only [tagT]
    rw [tagL_nl cs h.2]
  | .sl (some g) s n cs, h => by
    simp only [noLent, Bool.and_eq_true] at h
    have hg : g = false := by cases g with
      | false => rfl
      | true => exact absurd h.1 (by decide)
    subst hg
    simp only [tagT]
    rw [tagL_nl cs h.2]
  | .int _ _, _ => rfl
  | .bool _, _ => rfl
  | .str _, _ => rfl
  | .nil _, _ => rfl
  | .undef, _ => rfl
  | .hole _ _, _ => rfl
  | .ref .., _ => rfl
  | .agg _, _ => rfl
  | .tup _, _ => rfl
  | .fn .., _ => rfl
  | .ptr .., _ => rfl
  | .rptr .., _ => rfl
  | .pbox _, _ => rfl
theorem tagL_nl : ∀ ds : List D, noLentL ds = true → tagL false ds = ds
  | [], _ => rfl
  | d :: ds, h => by
    simp only [noLentL, Bool.and_eq_true] at h
    simp only [tagL]
    rw [tag_nl d h.1, tagL_nl ds h.2]
end
def tagP (b : Bool) : D → D
  | .agg cs => .agg (tagL b cs)
  | d => tagT b d
theorem tagR_tup (b : Bool) (vs : List D) : tagR b (.tup vs) = .tup (vs.map (tagP b)) := by
  simp only [tagR]
  congr 1
theorem tagR_nl (d : D) (h : (outCells d).all noLent = true) : tagR false d = d := by
  cases d with
  | agg cs => simp only [tagR]; rw [tagL_nl cs (by rw [noLentL_all]; exact h)]
  | pbox cs => simp only [tagR]; rw [tagL_nl cs (by rw [noLentL_all]; exact h)]
  | tup vs =>
    rw [tagR_tup]
    have hx : ∀ x ∈ vs, tagP false x = id x := by
      intro x hx
      have hh : ∀ y ∈ fl1 x, noLent y = true := fun y hy => by
        refine List.all_eq_true.1 h y ?_
        simp only [outCells, flatD_tup, List.mem_flatMap]
        exact ⟨x, hx, hy⟩
      cases x with
      | agg cs => simp only [tagP]; rw [tagL_nl cs (by rw [noLentL_all]; exact List.all_eq_true.2 hh)]; rfl
      | _ => exact tag_nl _ (hh _ (by simp [fl1]))
    rw [List.map_congr_left hx, List.map_id]
  | _ =>
    simp only [outCells, flatD, List.all_cons, List.all_nil, Bool.and_true] at h
    exact tag_nl _ h
theorem flatA_tag {w : World} {X : Bool → Nat → Prop} {b : Bool} {d : D} {u : Value} {ts : List T} (hf : FlatA d u ts) (hs : SatL w X ts) : FlatA (tagP b d) u (tgL b ts) := by
  by_cases ha : ∃ cs, d = .agg cs
  · obtain ⟨cs, rfl⟩ := ha
    obtain ⟨rfl, us, rfl, hu⟩ := hf
    exact ⟨(ers_tg b ts).symm, us, rfl, by rw [vals_tg]; exact hu⟩
  · have hf' : ∃ t, ts = [t] ∧ d = t.er ∧ u = t.val := by cases d <;> first | exact hf | exact absurd ⟨_, rfl⟩ ha
    obtain ⟨t, rfl, rfl, rfl⟩ := hf'
    have h1 := (satL_iff _).1 hs t (by simp)
    have hp : tagP b t.er = tagT b t.er := by
      cases he : t.er <;> first | rfl | exact absurd ⟨_, he⟩ ha
    rw [hp, ← er_tg b t, ← val_tg b t]
    have h2 : ∀ cs, (tgT b t).er ≠ .agg cs := by
      intro cs
      rw [er_tg]
      cases he : t.er with
      | agg cs' => exact absurd ⟨_, he⟩ ha
      | sl g s n cs' => cases g <;> simp [tagT]
      | _ => simp [tagT]
    have h3 : ∀ d, (∀ cs, d ≠ .agg cs) → d = (tgT b t).er → FlatA d (tgT b t).val (tgL b [t]) := fun d hn e => by
      cases d <;> first | exact ⟨_, rfl, e, rfl⟩ | exact absurd rfl (hn _)
    exact h3 _ h2 rfl
theorem flatAs_tag {w : World} {X : Bool → Nat → Prop} {b : Bool} : ∀ {ds : List D} {us : List Value} {ts : List T}, FlatAs ds us ts → SatL w X ts → FlatAs (ds.map (tagP b)) us (tgL b ts)
  | [], us, ts, h, _ => by obtain ⟨rfl, rfl⟩ := h; exact ⟨rfl, rfl⟩
  | d :: ds, us, ts, h, hs => by
    obtain ⟨u, us', t1, t2, rfl, rfl, h1, h2⟩ := h
    rw [satL_app] at hs
    exact ⟨u, us', _, _, rfl, tgL_app b t1 t2, flatA_tag h1 hs.1, flatAs_tag h2 hs.2⟩
theorem tagR_flat {b : Bool} {d : D} (h1 : ∀ cs, d ≠ .pbox cs) (h2 : ∀ cs, d ≠ .tup cs) : tagR b d = tagP b d := by
  cases d <;> first | rfl | exact absurd rfl (h1 _) | exact absurd rfl (h2 _)
theorem res_tag {w : World} {X : Bool → Nat → Prop} {b : Bool} {r : D} {v : Value} {ts : List T} (hr : Res r v ts) (hs : SatL w X ts) : Res (tagR b r) v (tgL b ts) := by
  by_cases hp : ∃ cs, r = .pbox cs
  · obtain ⟨cs, rfl⟩ := hp
    obtain ⟨bk, ts', rfl, rfl, rfl⟩ := hr
    exact ⟨bk, tgL b ts', by simp [tgL, boxT, tgT, tgL_len], (ers_tg b ts').symm, rfl⟩
  by_cases htup : ∃ ds, r = .tup ds
  · obtain ⟨ds, rfl⟩ := htup
    obtain ⟨us, rfl, hf⟩ := hr
    rw [tagR_tup]
    exact ⟨us, rfl, flatAs_tag hf hs⟩
  have hf : FlatA r v ts := by cases r <;> first | exact hr | exact absurd ⟨_, rfl⟩ hp | exact absurd ⟨_, rfl⟩ htup
  rw [tagR_flat (fun cs e => hp ⟨cs, e⟩) (fun cs e => htup ⟨cs, e⟩)]
  have h2 := flatA_tag (b := b) hf hs
  have h3 : (∀ cs, tagP b r ≠ .pbox cs) ∧ ∀ cs, tagP b r ≠ .tup cs := by
    cases r with
    | pbox cs => exact absurd ⟨_, rfl⟩ hp
    | tup cs => exact absurd ⟨_, rfl⟩ htup
    | sl g s n cs => cases g <;> simp [tagP, tagT]
    | _ => simp [tagP, tagT]
  have : ∀ d, (∀ cs, d ≠ .pbox cs) → (∀ cs, d ≠ .tup cs) → FlatA d v (tgL b ts) → Res d v (tgL b ts) := fun d h4 h5 h6 => by
    cases d <;> first | exact h6 | exact absurd rfl (h4 _) | exact absurd rfl (h5 _)
  exact this _ h3.1 h3.2 h2
theorem aout_tag {w : World} {X : Bool → Nat → Prop} {b c : Bool} {o : D} {a a' : Arg} (h : AOut w c o a a') (hs : SatL w X a'.2) : AOut w c (tagR b o) a (a'.1, tgL b a'.2) := by
  cases c with
  | false =>
    simp only [AOut] at h ⊢
    rw [h]; rfl
  | true =>
    cases o with
    | pbox cs =>
      obtain ⟨h1, ⟨bk, h2, h3⟩, h4⟩ := h
      exact ⟨h1, ⟨bk, h2, by simp only [tgL_len, vals_tg]; exact h3⟩, by rw [h4]; exact (ers_tg b _).symm⟩
    | agg cs =>
      obtain ⟨h1, h2, h3, h4⟩ := h
      exact ⟨h1, h2, by rw [h3]; exact (ers_tg b _).symm, by simp only [vals_tg]; exact h4⟩
    | tup vs =>
      obtain ⟨h1, h2, h3⟩ := h
      rw [tagR_tup]
      refine ⟨h1, h2, ?_⟩
      rcases h3 with ⟨h3, _⟩ | ⟨t, h3, h4, _⟩
      · exact .inl ⟨by rw [h3]; rfl, by simp⟩
      · rw [h3] at hs
        exact absurd h4.symm ((er_pbox ((satL_iff _).1 hs t (by simp))).2.2 vs)
    | sl g s n cs =>
      obtain ⟨h1, h2, h3⟩ := h
      cases g with
      | none =>
        refine ⟨h1, h2, ?_⟩
        rcases h3 with ⟨_, h3⟩ | ⟨t, h3, h4, h5⟩
        · exact absurd rfl (h3 s n cs)
        · exact .inr ⟨tgT b t, by rw [h3]; rfl, by rw [er_tg, ← h4]; rfl, by simp only [valsT, val_tg] at h5 ⊢; exact h5⟩
      | some g =>
        refine ⟨h1, h2, ?_⟩
        rcases h3 with ⟨h3, _⟩ | ⟨t, h3, h4, h5⟩
        · exact .inl ⟨by rw [h3]; rfl, by simp [tagR, tagT]⟩
        · exact .inr ⟨tgT b t, by rw [h3]; rfl, by rw [er_tg, ← h4]; rfl, by simp only [valsT, val_tg] at h5 ⊢; exact h5⟩
    | _ =>
      obtain ⟨h1, h2, h3⟩ := h
      refine ⟨h1, h2, ?_⟩
      rcases h3 with ⟨h3, _⟩ | ⟨t, h3, h4, h5⟩
      · exact .inl ⟨by rw [h3]; rfl, by simp [tagR, tagT]⟩
      · exact .inr ⟨tgT b t, by rw [h3]; rfl, by rw [er_tg, ← h4]; rfl, by simp only [valsT, val_tg] at h5 ⊢; exact h5⟩
theorem ain_tag {w : World} {X X' : Bool → Nat → Prop} {b : Bool} {d : D} {u : Value} {a : Arg} (h : AIn w X true d u a) (hs : SatL w X a.2) : AIn w X' true (tagR b d) u (a.1, tgL b a.2) := by
  by_cases hp : ∃ cs, d = .pbox cs
  · obtain ⟨cs, rfl⟩ := hp
    obtain ⟨bk, h1, h2, h3, h4, h5⟩ := h
    refine ⟨bk, h1, fun e => h2 ?_, by rw [h3]; exact (ers_tg b _).symm, h4, by simp only [tgL_len, vals_tg]; exact h5⟩
    have := congrArg List.length e
    simp only [tgL_len, List.length_nil] at this
    exact List.length_eq_zero_iff.1 this
  · have hf : a.1 = none ∧ FlatA d u a.2 := by cases d <;> first | exact h | exact absurd ⟨_, rfl⟩ hp
    have htup : ∀ vs, d ≠ .tup vs := by
      rintro vs rfl
      obtain ⟨t, e1, e2, _⟩ := hf.2
      rw [e1] at hs
      exact (er_pbox ((satL_iff _).1 hs t (by simp))).2.2 vs e2.symm
    rw [tagR_flat (fun cs e => hp ⟨cs, e⟩) htup]
    have h2 := flatA_tag (b := b) hf.2 hs
    have h3 : ∀ cs, tagP b d ≠ .pbox cs := by
      cases d with
      | pbox cs => exact absurd ⟨_, rfl⟩ hp
      | sl g s n cs => cases g <;> simp [tagP, tagT]
      | _ => simp [tagP, tagT]
    have : ∀ d, (∀ cs, d ≠ .pbox cs) → FlatA d u (tgL b a.2) → AIn w X' true d u (a.1, tgL b a.2) := fun d h4 h6 => by
      cases d <;> first | exact ⟨hf.1, h6⟩ | exact absurd rfl (h4 _)
    exact this _ h3 h2
end Go.Proofs.Ytkejckoefjonjaa
namespace Go.Proofs.Ytkejckoefjonjaa
theorem argsFt_perm : ∀ as9 : List Arg, (argsFt as9).Perm (as9.filterMap Prod.fst ++ ftsT (handsF as9))
  | [] => .refl _
  | (bx, ts) :: as9 => by
    have ih := argsFt_perm as9
    have h1 : handsF ((bx, ts) :: as9) = ts ++ handsF as9 := by simp [handsF]
    rw [h1, ftsT_app]
    simp only [argsFt, argFt]
    refine List.perm_iff_count.2 fun a => ?_
    have := List.perm_iff_count.1 ih a
    cases bx <;> simp only [List.filterMap_cons, Option.toList, List.count_append, List.count_cons, List.count_nil] at this ⊢ <;> omega
theorem handsOf_perm (as9 : List Arg) : (ftsT (handsOf as9)).Perm (ftsT (handsF as9)) := by
  refine fts_perm ?_
  induction as9 with
  | nil => exact .refl _
  | cons a as9 ih =>
    rw [handsOf_cons]
    have : handsF (a :: as9) = a.2 ++ handsF as9 := by simp [handsF]
    rw [this]
    exact (List.perm_append_comm).trans (List.Perm.append_left _ ih)
theorem argsFt_mem {as9 : List Arg} {k : Nat} : k ∈ argsFt as9 ↔ k ∈ as9.filterMap Prod.fst ∨ k ∈ ftsT (handsOf as9) := by
  rw [(argsFt_perm as9).mem_iff, List.mem_append, (handsOf_perm as9).mem_iff]
def tgA (b : Bool) (a : Arg) : Arg := (a.1, tgL b a.2)
theorem argsFt_tg (b : Bool) : ∀ as9 : List Arg, argsFt (as9.map (tgA b)) = argsFt as9
  | [] => rfl
  | a :: as9 => by simp only [List.map_cons, argsFt, argsFt_tg b as9, argFt, tgA, fts_tg]
theorem handsF_tg (b : Bool) : ∀ as9 : List Arg, handsF (as9.map (tgA b)) = tgL b (handsF as9)
  | [] => rfl
  | a :: as9 => by
    have h1 : handsF (a :: as9) = a.2 ++ handsF as9 := by simp [handsF]
    have h2 : handsF ((a :: as9).map (tgA b)) = (tgL b a.2) ++ handsF (as9.map (tgA b)) := by simp [handsF, tgA]
    rw [h1, h2, tgL_app, handsF_tg b as9]
theorem satL_handsF {w : World} {X : Bool → Nat → Prop} {as9 : List Arg} : SatL w X (handsF as9) ↔ ∀ a ∈ as9, SatL w X a.2 := by
  rw [satL_iff]
  simp only [handsF, List.mem_flatten, List.mem_map]
  constructor
  · intro h a ha
    rw [satL_iff]
    exact fun t ht => h t ⟨_, ⟨a, ha, rfl⟩, ht⟩
  · rintro h t ⟨l, ⟨a, ha, rfl⟩, ht⟩
    exact (satL_iff _).1 (h a ha) t ht
theorem satL_handsOf {w : World} {X : Bool → Nat → Prop} {as9 : List Arg} : SatL w X (handsOf as9) ↔ ∀ a ∈ as9, SatL w X a.2 := by
  rw [satL_iff]
  simp only [handsOf, List.mem_flatten, List.mem_reverse, List.mem_map]
  constructor
  · intro h a ha
    rw [satL_iff]
    exact fun t ht => h t ⟨_, ⟨a, ha, rfl⟩, ht⟩
  · rintro h t ⟨l, ⟨a, ha, rfl⟩, ht⟩
    exact (satL_iff _).1 (h a ha) t ht
theorem aout_old {w' : World} {c b : Bool} {o : D} {a a' : Arg} (h : AOut w' c o (tgA b a) a') : AOut w' c o a a' := by
  cases c with
  | false => exact h
  | true =>
    cases o <;> (simp only [AOut, tgA, vals_tg] at h ⊢; exact h)
theorem agaves_box {w : World} {S : List (Nat × RT)} : ∀ {b : List Bool} {ds ds1 : List D} {us : List Value} {as9 : List Arg}, AGaves w S b ds ds1 us as9 → ∀ bk ∈ as9.filterMap Prod.fst, ∃ r R, lk S r = some R ∧ R.box = some bk ∧ R.cs = []
  | _, [], _, _, _, h, bk, hb => by obtain ⟨_, _, rfl⟩ := h; simp at hb
  | b, d :: ds, ds1, us, as9, h, bk, hb => by
    obtain ⟨d1, ds1', u, us', a, as', rfl, rfl, rfl, h1, h2⟩ := h
    obtain ⟨bx, ts⟩ := a
    cases bx with
    | none => simp only [List.filterMap_cons] at hb; exact agaves_box h2 bk hb
    | some bk' =>
      simp only [List.filterMap_cons, List.mem_cons] at hb
      rcases hb with rfl | hb
      · cases hbb : b.headD false with
        | false => rw [hbb] at h1; simp [AGave] at h1
        | true =>
          rw [hbb] at h1
          cases d1 with
          | pbox cs =>
            obtain ⟨r, b2, _, e2, e3, _⟩ := h1
            simp only [Option.some.injEq] at e2
            subst e2
            exact ⟨r, _, e3, rfl, rfl⟩
          | _ => simp [AGave] at h1
      · exact agaves_box h2 bk hb
theorem lentIn_cons (b : List Bool) (d : D) (ds : List D) : lentIn b (d :: ds) = ((b.headD false && !((outCells d).all noLent)) || lentIn b.tail ds) := rfl
theorem agave_ain {w : World} {S : List (Nat × RT)} {X : Bool → Nat → Prop} {d d1 : D} {u : Value} {a : Arg} (h : AGave w S true d d1 u a) : AIn w X true d1 u a := by
  cases d1 with
  | pbox cs => obtain ⟨r, b, _, e2, e3, e4, e5, e6, e7⟩ := h; exact ⟨b, e2, e4, e5, e6, e7⟩
  | _ => exact ⟨h.1, h.2.1⟩
theorem ain_cells {w : World} {X X1 : Bool → Nat → Prop} {d : D} {u : Value} {a : Arg} (h : AIn w X true d u a) (hs : SatL w X1 a.2) : outCells d = ersT a.2 := by
  by_cases hp : ∃ cs, d = .pbox cs
  · obtain ⟨cs, rfl⟩ := hp
    obtain ⟨b, _, _, e, _⟩ := h
    exact e
  · have hf : FlatA d u a.2 := by cases d <;> first | exact h.2 | exact absurd ⟨_, rfl⟩ hp
    have : outCells d = flatD d := by cases d <;> first | rfl | exact absurd ⟨_, rfl⟩ hp
    rw [this, er_notup hs hf, flatA_er hf]
section
variable {C : Ctx} {w : World} {st st1 : St} {vss : List (Array Value)} {S S1 : List (Nat × RT)}
theorem pre_args {Hs : List T} (h : Rel C Hs w st1 vss S1) {X' : Bool → Nat → Prop} (hX : ∀ b k, Free C w S1 Hs b k → X' b k) (hF : ∀ r R k, lk S1 r = some R → R.cs ≠ [] → k ∈ R.ft → X' true k) :
    ∀ {b : List Bool} {ds ds1 ds2 : List D} {us : List Value} {as9 : List Arg}, AGaves w S1 b ds ds1 us as9 → All2 (TVt w (Free C w S1 Hs) S1) ds us → callRo st1 b ds1 = some ds2 → (∀ a ∈ as9, SatL w (Free C w S1 Hs) a.2) → AIns w X' b (untag b ds2) us (as9.map (tgA false)) ∧ (lentIn b ds2 = false → untag b ds2 = ds2 ∧ ∀ a ∈ as9, noLentL (ersT a.2) = true)
  | b, [], ds1, ds2, us, as9, h1, h2, h3, _ => by
    obtain ⟨rfl, rfl, rfl⟩ := h1
    simp only [callRo, Option.some.injEq] at h3
    subst h3
    exact ⟨⟨rfl, rfl⟩, fun _ => ⟨rfl, by simp⟩⟩
  | b, d :: ds, ds1, ds2, us, as9, h1, h2, h3, h4 => by
    obtain ⟨d1, ds1', u, us', a, as', rfl, rfl, rfl, g1, g2⟩ := h1
    cases h2 with
    | cons h21 h22 =>
    simp only [callRo] at h3
    split at h3
    case h_2 => simp at h3
    rename_i d2 hd2
    split at h3
    case h_2 => simp at h3
    rename_i ds2' hds2
    simp only [Option.some.injEq] at h3
    subst h3
    obtain ⟨k1, k2⟩ := pre_args h hX hF g2 h22 hds2 (fun a ha => h4 a (by simp [ha]))
    have hs := h4 a (by simp)
    cases hb : b.headD false with
    | false =>
      rw [hb] at g1 hd2
      obtain ⟨rfl, rfl⟩ := g1
      simp only [Bool.false_eq_true, if_false] at hd2
      refine ⟨⟨u, us', (none, []), _, rfl, rfl, ?_, k1⟩, fun hl => ?_⟩
      · rw [hb]
        simp only [Bool.false_eq_true, if_false]
        exact ⟨rfl, fun S' => exA_ok h hX hF h21 hd2 S'⟩
      · rw [lentIn_cons, hb] at hl
        simp only [Bool.false_and, Bool.false_or] at hl
        obtain ⟨e1, e2⟩ := k2 hl
        refine ⟨by simp only [untag, hb, Bool.false_eq_true, if_false]; rw [e1], fun x hx => ?_⟩
        simp only [List.mem_cons] at hx
        rcases hx with rfl | hx
        · rfl
        · exact e2 x hx
    | true =>
      rw [hb] at g1 hd2
      simp only [if_true, Option.some.injEq] at hd2
      subst hd2
      have hin := agave_ain (X := Free C w S1 Hs) g1
      refine ⟨⟨u, us', tgA false a, _, rfl, rfl, ?_, k1⟩, fun hl => ?_⟩
      · rw [hb]
        simp only [if_true]
        exact ain_tag hin hs
      · rw [lentIn_cons, hb] at hl
        simp only [Bool.true_and, Bool.or_eq_false_iff, Bool.not_eq_false'] at hl
        obtain ⟨e1, e2⟩ := k2 hl.2
        refine ⟨by simp only [untag, hb, if_true]; rw [e1, tagR_nl _ hl.1], fun x hx => ?_⟩
        simp only [List.mem_cons] at hx
        rcases hx with rfl | hx
        · rw [noLentL_all, ← ain_cells hin hs]; exact hl.1
        · exact e2 x hx
theorem post_fst {w' : World} {b : Bool} {d d1 o : D} {u : Value} {a a' : Arg} (g1 : AGave w S1 b d d1 u a) (g3 : AOut w' b o a a') : (a'.1 = a.1) ∧ ∀ bk, a.1 = some bk → Blk w' bk 0 0 [] := by
  cases b with
  | false =>
    obtain ⟨rfl, _⟩ := g1
    simp only [AOut] at g3
    rw [g3]
    exact ⟨rfl, by simp⟩
  | true =>
    have hblk : ∀ {bk n us}, Blk w' bk 0 n us → Blk w' bk 0 0 [] := fun ⟨c, e, fz, q1, q2, q3, q4⟩ => ⟨c, e, fz, q1, q2, by omega, by simp⟩
    cases o with
    | pbox cs =>
      obtain ⟨e1, ⟨bk, e2, e3⟩, _⟩ := g3
      refine ⟨e1, fun bk' e => ?_⟩
      rw [e2, Option.some.injEq] at e
      subst e
      exact hblk e3
    | _ => exact ⟨g3.2.1.trans g3.1.symm, fun bk e => by rw [g3.1] at e; simp at e⟩
theorem post_box {w' : World} : ∀ {b : List Bool} {ds ds1 : List D} {us : List Value} {as9 as' : List Arg} {os : List D}, AGaves w S1 b ds ds1 us as9 → AOuts w' b os (as9.map (tgA false)) as' →
    as'.filterMap Prod.fst = as9.filterMap Prod.fst ∧ ∀ bk ∈ as9.filterMap Prod.fst, Blk w' bk 0 0 []
  | b, [], ds1, us, as9, as', os, h1, h3 => by
    obtain ⟨rfl, rfl, rfl⟩ := h1
    simp only [List.map_nil, AOuts] at h3
    obtain ⟨rfl, rfl⟩ := h3
    exact ⟨rfl, by simp⟩
  | b, d :: ds, ds1, us, as9, as', os, h1, h3 => by
    obtain ⟨d1, ds1', u, us', a, as1, rfl, rfl, rfl, g1, g2⟩ := h1
    simp only [List.map_cons, AOuts] at h3
    obtain ⟨o, os', a', as'', rfl, rfl, g3, g4⟩ := h3
    obtain ⟨k2, k3⟩ := post_box g2 g4
    have hfst := post_fst g1 (aout_old g3)
    refine ⟨by simp only [List.filterMap_cons, hfst.1, k2], fun bk hbk => ?_⟩
    simp only [List.filterMap_cons] at hbk
    cases ha : a.1 with
    | none => rw [ha] at hbk; exact k3 bk hbk
    | some b2 =>
      rw [ha] at hbk
      simp only [List.mem_cons] at hbk
      rcases hbk with rfl | hbk
      · exact hfst.2 _ ha
      · exact k3 bk hbk
theorem post_args {w' : World} {X : Bool → Nat → Prop} {t : Bool} {Xo : Bool → Nat → Prop} : ∀ {b : List Bool} {ds ds1 : List D} {us : List Value} {as9 as' : List Arg} {os : List D}, AGaves w S1 b ds ds1 us as9 → All2 (TVt w' X S1) ds us → AOuts w' b os (as9.map (tgA false)) as' → (∀ a ∈ as', SatL w' Xo a.2) →
    ABacks w' X S1 id b ds us (os.map (tagR t)) as9 (as'.map (tgA t))
  | b, [], ds1, us, as9, as', os, h1, h2, h3, _ => by
    obtain ⟨rfl, rfl, rfl⟩ := h1
    simp only [List.map_nil, AOuts] at h3
    obtain ⟨rfl, rfl⟩ := h3
    exact ⟨rfl, rfl, rfl, rfl⟩
  | b, d :: ds, ds1, us, as9, as', os, h1, h2, h3, h4 => by
    obtain ⟨d1, ds1', u, us', a, as1, rfl, rfl, rfl, g1, g2⟩ := h1
    cases h2 with
    | cons h21 h22 =>
    simp only [List.map_cons, AOuts] at h3
    obtain ⟨o, os', a', as'', rfl, rfl, g3, g4⟩ := h3
    have g3 := aout_old g3
    have k1 := post_args (t := t) g2 h22 g4 (fun a ha => h4 a (by simp [ha]))
    have hs := h4 a' (by simp)
    refine ⟨u, us', tagR t o, _, a, as1, tgA t a', _, rfl, rfl, rfl, rfl, ?_, k1⟩
    · cases hb : b.headD false with
      | false =>
        rw [hb] at g3
        simp only [AOut] at g3
        simp only [Bool.false_eq_true, if_false]
        rw [g3]; rfl
      | true =>
        rw [hb] at g1 g3
        simp only [if_true]
        have hcell : All2 (fun x v => TVc w' X S1 (id x) v) (cellsOf d) (cellsV d u) := by
          by_cases hagg : ∃ cs, d = .agg cs
          · obtain ⟨cs, rfl⟩ := hagg
            obtain ⟨vs, rfl, hv⟩ := h21
            exact hv
          · have hnf : (∀ f cs, d ≠ .fn f cs) ∧ ∀ ds, d ≠ .tup ds := by
              cases d1 with
              | pbox cs => obtain ⟨r, _, e, _⟩ := g1; subst e; simp
              | _ => exact g1.2.2.2.2.2
            have h1 : cellsOf d = [d] := by cases d <;> first | rfl | exact absurd ⟨_, rfl⟩ hagg
            have h2 : cellsV d u = [u] := by cases d <;> first | rfl | exact absurd ⟨_, rfl⟩ hagg
            rw [h1, h2]
            refine .cons ?_ .nil
            rcases tvt_cases h21 with ⟨ds, _, e, _⟩ | ⟨_, h21⟩
            · exact absurd e (hnf.2 ds)
            · rcases tva_cases h21 with ⟨cs, _, e, _⟩ | ⟨f, cs, _, e, _⟩ | ⟨_, _, h21⟩
              · exact absurd ⟨cs, e⟩ hagg
              · exact absurd e (hnf.1 f cs)
              · exact h21
        refine ⟨hcell, aout_tag g3 hs, fun e => ?_, fun bx e => ?_⟩
        · cases d1 with
          | pbox cs => obtain ⟨r, b2, _, e2, _⟩ := g1; rw [e] at e2; simp at e2
          | _ => exact ⟨g1.2.2.1, g1.2.2.2.1⟩
        · cases d1 with
          | pbox cs =>
            obtain ⟨r, b2, e1, e2, e3, _⟩ := g1
            rw [e, Option.some.injEq] at e2
            subst e2
            exact ⟨r, _, e1, e3, rfl⟩
          | _ => rw [g1.1] at e; simp at e
end
end Go.Proofs.Ytkejckoefjonjaa
