/- What the proof of FnExactLead stands on, part 2: an abstract machine on plain data, its soundness, and the contracts of functions. -/
import Derived.Lib.AppendZerosOnto
import Derived.Laws.BytesString
import Derived.Laws.Small
import Derived.Laws.Runes
import Derived.Test.YtockoilcnmljiaaGreatMa
set_option linter.all false
set_option linter.unusedSimpArgs false
set_option linter.unusedVariables false
set_option linter.unnecessarySimpa false
set_option linter.unusedSectionVars false
namespace Go.Proofs.YtockoilcnmljiaaGreat
def gP (d:D) (u:Value):List Value:=
  match d with
  | .agg _=>u.cells.toList
  | _=>[u]
section
variable {C:Ctx} {Hx:List T} {w:World} {aI:List (Array Value)}
theorem US {w':World} {S S':List (Nat × RT)} {H H':List T} (h:hM C w w' S S' H H' id) {d:D} {u:Value} (hd:cy w (ah C w S H) S d u):cy w' (ah C w' S' H') S' d u:=ql h hd
theorem qT {H:List T} {st st':St} {S:List (Nat × RT)} {d:D} {u:Value} {ds':List D} (h:Rel C H w st aI S) (hd:cy w (ah C w S H) S d u) (ht:rM st (cellsOf d)=some (ds',st')):
    ∃ ts S',Rel C (ts++H) w st' aI S'∧bw ts=ds'∧aD ts=gP d u∧hM C w w S S' H (ts++H) id∧qn S S'∧mb st st':=by
  by_cases ha:∃ cs,d=.agg cs
  · obtain ⟨cs,rfl⟩:=ha
    obtain ⟨us,rfl,hu⟩:=hd
    exact Gk h hu ht
  · have hc:cellsOf d=[d]:=by cases d<;>first | rfl | exact absurd ⟨_,rfl⟩ ha
    have hv:gP d u=[u]:=by cases d<;>first | rfl | exact absurd ⟨_,rfl⟩ ha
    rw [hc] at ht
    rw [hv]
    have tB:bB w (ah C w S H) S d u:=by
      cases d<;>first | exact hd | (simp [rM,jf] at ht; done) | exact absurd ⟨_,rfl⟩ ha
    exact Gk h (.cons tB .nil) ht
theorem Gn:∀ {ps:List (Nat × D)} {us:List (Nat × Value)} {H:List T} {st st':St} {S:List (Nat × RT)} {ZG:List (Nat × List D)},Rel C H w st aI S→cj (fun p q=>q.1=p.1∧cy w (ah C w S H) S p.2 q.2) ps us→sb st ps=some (ZG,st')→
    ∃ (qo:List (Nat × List T)) (S':List (Nat × RT)),Rel C (qo.flatMap (·.2)++H) w st' aI S'∧qo.map (fun p=>(p.1,p.2.map T.er))=ZG∧cj (fun (p:Nat × D) (q:(Nat × List T) × (Nat × Value))=>q.2.1=q.1.1∧q.1.2.map T.val=gP p.2 q.2.2) ps (qo.zip us)∧qo.length=us.length∧hM C w w S S' H (qo.flatMap (·.2)++H) id∧qn S S'∧mb st st':=by
  intro ps
  induction ps with
  | nil=>
    intro us H st st' S ZG h hu ht
    cases hu
    simp only [sb,Option.some.injEq,Prod.mk.injEq] at ht
    obtain ⟨rfl,rfl⟩:=ht
    exact ⟨[],S,h,rfl,.nil,rfl,fun _ _ h=>h,qn.refl _,mb.refl _⟩
  | cons p ps ih=>
    intro us H st st' S ZG h hu ht
    cases hu with
    | cons tE DL=>
    rename_i q qs
    obtain ⟨i,d⟩:=p
    obtain ⟨j,u⟩:=q
    obtain ⟨rfl,tE⟩:=tE
    simp only [sb] at ht
    split at ht
    case h_2=>simp at ht
    rename_i d1 aQ h1
    split at ht
    case h_2=>simp at ht
    rename_i gp cq h2
    simp only [Option.some.injEq,Prod.mk.injEq] at ht
    obtain ⟨rfl,rfl⟩:=ht
    obtain ⟨ts,S1,a1,rfl,a3,a4,a5,a6⟩:=qT h tE h1
    obtain ⟨qo,S2,b1,rfl,b3,b4,b5,b6,b7⟩:=ih a1 (DL.mono (fun _ _ hh=>⟨hh.1,US a4 hh.2⟩)) h2
    have hp:(qo.flatMap (·.2)++(ts++H)).Perm (((j,ts)::qo).flatMap (·.2)++H):=by
      simp only [List.flatMap_cons]
      rw [← List.append_assoc]
      exact List.Perm.append_right _ List.perm_append_comm
    refine ⟨(j,ts)::qo,S2,b1.perm hp,by simp [eL],.cons ⟨rfl,by rw [← cW]; exact a3⟩ b3,by simp [b4],fun d u hd=>?_,a5.trans b6,mb.trans a6 b7⟩
    have:=b5 _ _ (a4 d u hd)
    rwa [AR hp] at this
end
theorem Tf {w:World} {X:Bool→Nat→Prop}:∀ {qo:List (Nat × List T)} {ps:List (Nat × D)} {us:List (Nat × Value)},cj (fun (p:Nat × D) (q:(Nat × List T) × (Nat × Value))=>q.2.1=q.1.1∧q.1.2.map T.val=gP p.2 q.2.2) ps (qo.zip us)→qo.length=us.length→
    (∀ p∈qo,∀ t∈p.2,bL w X t∧da t.er=true)→cj (fun p q=>q.1=p.1∧q.2.cells.toList=p.2.map T.val) qo us:=by
  intro qo
  induction qo with
  | nil=>
    intro ps us h hl _
    cases us with
    | nil=>exact .nil
    | cons u us=>simp at hl
  | cons p qo ih=>
    intro ps us h hl hs
    cases us with
    | nil=>simp at hl
    | cons u us=>
      simp only [List.zip_cons_cons] at h
      cases h with
      | cons h1 h2=>
      rename_i d ds
      obtain ⟨e1,e2⟩:=h1
      refine .cons ⟨e1,?_⟩ (ih h2 (by simpa using hl) (fun q hq=>hs q (by simp [hq])))
      simp only at e2
      rw [e2]
      obtain ⟨j,d⟩:=d
      by_cases ha:∃ cs,d=.agg cs
      · obtain ⟨cs,rfl⟩:=ha
        rfl
      · have hv:gP d u.2=[u.2]:=by cases d<;>first | rfl | exact absurd ⟨_,rfl⟩ ha
        simp only at hv ⊢
        simp only [hv] at e2 ⊢
        cases hp:p.2 with
        | nil=>rw [hp] at e2; simp at e2
        | cons t ts=>
          rw [hp] at e2
          simp only [List.map_cons,List.cons.injEq,List.map_eq_nil_iff] at e2
          obtain ⟨e3,rfl⟩:=e2
          obtain ⟨g1,g2⟩:=hs p (by simp) t (by simp [hp])
          have:=(mJ g1 g2).2
          rw [e3] at this
          rw [this]
section
variable {P:Program} {c:cB} (av:ez c P) {C:Ctx} {Hx:List T} {w:World} {st st':St} {a:Act} {aI:List (Array Value)} {S:List (Nat × RT)} (h:Rel C Hx w st (a.tmps::aI) S)
include av h
theorem LC {t e:TypeId} {ti ei:TI} (kG:c.ty t=some ti) (ZF:ti.ty=.slice e) (he:c.ty e=some ei) {n:Nat} {ps:Array (Nat × Operand)} (hn:n*ei.size≤16777216) {pvs:List (Nat × List D)} {aQ:St}
    (hp:sb st (ps.toList.map fun p=>(p.1,cw c st e p.2))=some (pvs,aQ)) {cs:List D} (hf:nD da (fun i=>some (i*ei.size,ei.size)) (fF n ei.zero) pvs=some cs)
    {d:Nat} (ht:d < a.tmps.size) (hP:∀ p∈C.P0,p.1≠st.of+d) (hr:aQ.root (some d) [.sl none ei.size n cs] (fun d=>.ref d [] 0 none)=some st'):
    ∃ v w',(Instr.buildSlice t n (ps.map fun (i,x)=>(i,a.eval x))).run P w=.ok v w'∧dM w w'∧∃ S',Rel C Hx w' st' (a.tmps.setIfInBounds d v::aI) S':=by
  have fY:mA w (ah C w S Hx) S st.tm a.tmps:=by cases h.pj with | cons a _=>exact a
  obtain ⟨inf,h1,h2,h3,z,h4,h5⟩:=(av.ty _ _ he).info
  have DN:=(av.ty _ _ he).len
  obtain ⟨dd,g1,g2⟩:=(av.ty _ _ kG).desc
  rw [ZF] at g2
  simp only [kD] at g2
  subst g2
  have dY:cj (fun p q=>q.1=p.1∧cy w (ah C w S Hx) S p.2 q.2) (ps.toList.map fun p=>(p.1,cw c st e p.2)) (ps.toList.map fun p=>(p.1,a.eval p.2)):=by
    refine dq (by simp) (fun i x y hx hy=>?_)
    simp only [List.getElem?_map] at hx hy
    cases hq:ps.toList[i]? with
    | none=>simp [hq] at hx
    | some q=>
      simp only [hq,Option.map_some,Option.some.injEq] at hx hy
      subst hx; subst hy
      exact ⟨rfl,wG (c:=c) fY e q.2⟩
  obtain ⟨qo,S1,b1,rfl,b3,b4,b5,b6,b7⟩:=Gn h dY hp
  have Xs:=KJ hf
  obtain ⟨zt,f1,f2,f3,f4⟩:=wK h5 n
  rw [← f1,eL] at hf
  obtain ⟨cs',k1,k2⟩:=RO T.er hf
  have dZ:=((dP _ _).1 b1.mem.hand).1
  rw [cr] at dZ
  have gO:=Tf (X:=ah C w S1 (qo.flatMap (·.2)++Hx)) b3 b4 (fun p hp t ht=>⟨dZ t (List.mem_flatMap.2 ⟨p,hp,ht⟩),Xs (p.1,p.2.map T.er) (List.mem_map.2 ⟨p,hp,rfl⟩) t.er (List.mem_map.2 ⟨t,ht,rfl⟩)⟩)
  have lG:z.cells.size=ei.size:=by rw [← DN,h5.len]; simp
  have ahW:((Array.range (n*inf.size)).map (z.cells[· % z.cells.size]!)).toList=zt.map T.val:=by
    rw [← cW,f2,h2,← lG,← AS]
    simp
  obtain ⟨arr,m1,m2⟩:=Gl T.val (arr:=(Array.range (n*inf.size)).map (z.cells[· % z.cells.size]!)) gO k1 ahW
  have eo:(Instr.buildSlice t n (ps.map fun (i,x)=>(i,a.eval x))).run P w=.ok (.slice (some ⟨w.heap.size,0,none⟩) n n) (w.alloc (.cells arr e)):=by
    have hl:(ps.map fun (i,x)=>(i,a.eval x)).toList=ps.toList.map fun p=>(p.1,a.eval p.2):=by simp
    by_cases h0:n*inf.size=0
    · have ph:=m1
      rw [h0] at ph
      rw [← hl,← h2] at ph
      simp only [Array.range_zero',Array.map_empty] at ph
      simp [Instr.buildSlice,run_underlying g1,sizeOf,typeInfo,h1,h0,newRow,Array.range_zero']
      simp at ph
      rw [ph]
      simp
    · rw [← hl,← h2] at m1
      exact run_buildSlice w t e n _ arr inf z g1 h1 h4 (by rw [h2]; omega) h0 m1
  refine ⟨_,_,eo,(Grown.alloc w _).bO,?_⟩
  have rN:aQ.of=st.of:=b7.2.2
  obtain ⟨q1,q2⟩:=KK k1
  have hlen:cs'.length=n*ei.size:=by
    rw [q2]
    have:=congrArg List.length f2
    rw [bS] at this
    rw [this,List.length_flatten,List.map_replicate,List.sum_replicate_nat,Array.length_toList,lG]
  have Tg:=Te k1 (by
    rw [f3,List.nil_append]
    have h9:=(List.nodup_append.1 b1.mem.nd).2.1
    rw [bj] at h9
    exact (List.nodup_append.1 h9).1)
  rw [f3] at Tg
  rw [← k2,← eL] at hr
  refine CU (Hs:=qo.flatMap (·.2)) (H:=Hx) b1 (Grown.alloc w _) (ts:=cs') ⟨Nat.le_refl _,by rw [jv]; omega⟩ ?_ (fun k hk=>by simpa using Tg.2 k hk) Tg.1 (Nat.le_refl _) hlen ?_ ht (by rw [rN]; exact hP) hr
  · rw [cr]
    intro x hx
    rcases q1 x hx with h6 | ⟨p,h6,h7⟩
    · exact (cr _).1 (f4 _ _) x h6
    · exact dZ x (List.mem_flatMap.2 ⟨p,h6,h7⟩)
  · have cV:arr.size=cs'.length:=by have:=congrArg List.length m2; simpa using this
    refine kH w _ _ (by rw [cV,hlen]; exact Nat.le_refl _) (fun j u hj=>?_)
    rw [← Array.getElem?_toList,m2,← cW]
    exact hj
theorem acP {e:TypeId} {x:Operand} {i:TI} (hlen:(cellsOf (cw c st e x)).length=i.size) (cQ:(cellsOf (cw c st e x)).all (fK st)=true) {t:Nat} (ht:t < a.tmps.size) (hP:∀ p∈C.P0,p.1≠st.of+t)
    (hr:st.root (some t) (cellsOf (pg (cF (st.of+t)) (cw c st e x))) (fun d=>.ptr d [] 0)=some st'):
    ∃ v w',(Instr.box e (a.eval x)).run P w=.ok v w'∧dM w w'∧∃ S',Rel C Hx w' st' (a.tmps.setIfInBounds t v::aI) S':=by
  have _:=av
  have fY:mA w (ah C w S Hx) S st.tm a.tmps:=by cases h.pj with | cons a _=>exact a
  have hd:=wG (c:=c) fY e x
  have dY:=Ex h.rt h.mem hd (List.all_eq_true.1 cQ)
  have eo:(Instr.box e (a.eval x)).run P w=.ok (.pointer (some ⟨w.heap.size,0,none⟩)) (w.alloc (.cells (a.eval x).cells e)):=by
    simp [Instr.box,newVar,newRow]
  refine ⟨_,_,eo,(Grown.alloc w _).bO,?_⟩
  have eM:cellsOf (pg (cF (st.of+t)) (cw c st e x))=(cellsOf (cw c st e x)).map (cF (st.of+t)):=by
    by_cases ha:∃ cs,cw c st e x=.agg cs
    · obtain ⟨cs,ha⟩:=ha
      rw [ha]; rfl
    · have hc:cellsOf (cw c st e x)=[cw c st e x]:=by cases hx:cw c st e x<;>first | rfl | exact absurd ⟨_,hx⟩ ha
      have ho:=List.all_eq_true.1 cQ (cw c st e x) (by rw [hc]; simp)
      rw [hc]
      cases hx:cw c st e x with
      | agg cs=>exact absurd ⟨_,hx⟩ ha
      | aP cs=>rw [hx] at ho; simp [fK,da] at ho
      | fn f cs=>rw [hx] at ho; simp [fK,da] at ho
      | bh cs=>rw [hx] at ho; simp [fK,da] at ho
      | ref r q o y=>simp only [pg,fh,List.map_cons,List.map_nil,cF]; split<;>rfl
      | ptr r q o=>simp only [pg,fh,List.map_cons,List.map_nil,cF]; split<;>rfl
      | _=>rfl
  obtain ⟨l,e1,e2,e3⟩:=yY dY
  let ts:List T:=l.map fun p=>.v (cF (st.of+t) p.1) p.2
  have km:∀ p∈l,bQ (cF (st.of+t) p.1)=cF (st.of+t) p.1:=by
    intro p hp
    have h2:=e3 p hp
    obtain ⟨d,u⟩:=p
    simp only at h2 ⊢
    cases d with
    | sl g s n cs=>
      cases g with
      | none=>simp [bB,Ext] at h2
      | some g=>rfl
    | ref r q o y=>simp only [cF]; split<;>rfl
    | ptr r q o=>simp only [cF]; split<;>rfl
    | _=>rfl
  have ahX:bw ts=(cellsOf (cw c st e x)).map (cF (st.of+t)):=by
    rw [← e1,eL]
    simp only [ts,List.map_map]
    refine List.map_congr_left (fun p hp=>?_)
    simp only [Function.comp_apply,T.er]
    exact km p hp
  have gO:aD ts=(a.eval x).cells.toList:=by
    rw [← e2,cW]
    simp only [ts,List.map_map]
    rfl
  have eT:ai ts=[]:=by
    rw [nT]
    simp only [ts,List.map_map]
    rw [List.flatten_eq_nil_iff]
    intro y hy
    simp only [List.mem_map,Function.comp_apply] at hy
    obtain ⟨p,_,rfl⟩:=hy
    rfl
  rw [eM,← ahX] at hr
  refine IK (Hs:=[]) h (Grown.alloc w _) (ts:=ts) ⟨Nat.le_refl _,by rw [jv]; omega⟩ (fun y hy=>.inr ?_) (by rw [eT]; simp) (by rw [eT]; simp) ?_ ht hP hr
  · simp only [ts,List.mem_map] at hy
    obtain ⟨p,hp,rfl⟩:=hy
    exact ⟨p.1,p.2,rfl,e3 p hp⟩
  · refine kH w _ _ ?_ (fun j u hj=>?_)
    · have:=congrArg List.length gO
      rw [bS] at this
      rw [this]; simp
    · rw [gO] at hj
      simpa using hj
theorem UT {e:TypeId} {x:Operand} {i:TI} (hlen:(cellsOf (cw c st e x)).length=i.size) {ds:List D} {aQ:St} (dD:rM st (cellsOf (cw c st e x))=some (ds,aQ)) (cQ:ds.all da=true) {t:Nat} (ht:t < a.tmps.size) (hP:∀ p∈C.P0,p.1≠st.of+t)
    (hr:aQ.root (some t) ds (fun d=>.ptr d [] 0)=some st'):
    ∃ v w',(Instr.box e (a.eval x)).run P w=.ok v w'∧dM w w'∧∃ S',Rel C Hx w' st' (a.tmps.setIfInBounds t v::aI) S':=by
  have _:=av
  have fY:mA w (ah C w S Hx) S st.tm a.tmps:=by cases h.pj with | cons a _=>exact a
  have hd:=wG (c:=c) fY e x
  obtain ⟨ts,S1,b1,rfl,b3,b4,b5,b6⟩:=qT h hd dD
  have eo:(Instr.box e (a.eval x)).run P w=.ok (.pointer (some ⟨w.heap.size,0,none⟩)) (w.alloc (.cells (a.eval x).cells e)):=by
    simp [Instr.box,newVar,newRow]
  refine ⟨_,_,eo,(Grown.alloc w _).bO,?_⟩
  have dZ:=((dP _ _).1 b1.mem.hand).1
  rw [cr] at dZ
  have gO:aD ts=(a.eval x).cells.toList:=by
    by_cases ha:∃ cs,cw c st e x=.agg cs
    · obtain ⟨cs,ha⟩:=ha
      rw [b3,ha]; rfl
    · have hv:gP (cw c st e x) (a.eval x)=[a.eval x]:=by cases hx:cw c st e x<;>first | rfl | exact absurd ⟨_,hx⟩ ha
      rw [hv] at b3
      rw [b3]
      cases ts with
      | nil=>simp [aD] at b3
      | cons y ys=>
        simp only [aD,List.cons.injEq] at b3
        have:=mJ (dZ y (by simp)) (List.all_eq_true.1 cQ y.er (by simp [bw]))
        rw [b3.1] at this
        rw [this.2]
  refine IK (Hs:=ts) b1 (Grown.alloc w _) (ts:=ts) ⟨Nat.le_refl _,by rw [jv]; omega⟩ (fun y hy=>.inl (dZ y hy)) (fun _ h=>h) (by
    have h9:=(List.nodup_append.1 b1.mem.nd).2.1
    rw [bj] at h9
    exact (List.nodup_append.1 h9).1) ?_ ht (by rw [b6.2.2]; exact hP) hr
  refine kH w _ _ ?_ (fun j u hj=>?_)
  · have:=congrArg List.length gO
    rw [bS] at this
    rw [this]; simp
  · rw [gO] at hj
    simpa using hj
end
end Go.Proofs.YtockoilcnmljiaaGreat
namespace Go.Proofs.YtockoilcnmljiaaGreat
theorem Th {q:List Nat}:∀ {p:Nat} {cs l:List T} {bx:Option Nat} {b off:Nat},cb bx cs (p::q)=some (b,off)→aw cs (p::q)=some l→(ai cs).Nodup→b∉ai l:=by
  induction q with
  | nil=>
    intro p cs l bx b off ha hc hn
    rw [cb] at ha
    rw [aw] at hc
    cases hp:cs[p]? with
    | none=>simp [hp] at hc
    | some x=>
      cases x with
      | v d u=>simp [hp] at hc
      | own s n cap a xs=>
        simp only [hp,aw,Option.some.injEq] at hc ha
        subst hc; subst ha
        obtain ⟨A,B,e,_⟩:=dR cs p _ hp
        rw [e] at hn
        have:=(List.nodup_append.1 (List.nodup_append.1 hn).1).2.1
        simp only [T.ft,jg,List.cons_append,List.nil_append,List.nodup_cons] at this
        exact this.1
  | cons p' q ih=>
    intro p cs l bx b off ha hc hn
    rw [cb] at ha
    rw [aw] at hc
    cases hp:cs[p]? with
    | none=>simp [hp] at hc
    | some x=>
      cases x with
      | v d u=>simp [hp] at hc
      | own s n cap a xs=>
        simp only [hp] at hc ha
        refine ih ha hc ?_
        obtain ⟨A,B,e,_⟩:=dR cs p _ hp
        rw [e] at hn
        have:=(List.nodup_append.1 (List.nodup_append.1 hn).1).2.1
        simp only [T.ft] at this
        exact (List.nodup_append.1 this).2.1
theorem aa1 {q:List Nat} {o:Nat} {t':T} {d:D} {u:Value}:∀ {cs cs':List T} {q':List Nat} {o':Nat} {l:List T},dL (fun l=>l.set o t') cs q=some cs'→under (q++[o]) (q'++[o'])=none→aw cs q'=some l→l[o']?=some (.v d u)→
    ∃ l',aw cs' q'=some l'∧l'[o']?=some (.v d u):=by
  induction q with
  | nil=>
    intro cs cs' q' o' l hm hu hc ho
    simp only [dL,Option.some.injEq] at hm
    subst hm
    cases q' with
    | nil=>
      simp only [aw,Option.some.injEq] at hc
      subst hc
      simp only [List.nil_append,under] at hu
      split at hu
      · simp at hu
      · rename_i dc
        exact ⟨_,rfl,by rw [List.getElem?_set_ne dc]; exact ho⟩
    | cons p q'=>
      simp only [List.nil_append,List.cons_append,under] at hu
      split at hu
      · simp at hu
      · rename_i dc
        exact ⟨l,by rw [aw,List.getElem?_set_ne dc]; rw [aw] at hc; exact hc,ho⟩
  | cons p q ih=>
    intro cs cs' q' o' l hm hu hc ho
    rw [dL] at hm
    cases hp:cs[p]? with
    | none=>simp [hp] at hm
    | some x=>
      cases x with
      | v d u=>simp [hp] at hm
      | own s n cap a xs=>
        simp only [hp] at hm
        cases hx:dL (fun l=>l.set o t') xs q with
        | none=>simp [hx] at hm
        | some kz=>
          simp only [hx,Option.some.injEq] at hm
          subst hm
          obtain ⟨cX,_⟩:=List.getElem?_eq_some_iff.1 hp
          cases q' with
          | nil=>
            simp only [aw,Option.some.injEq] at hc
            subst hc
            have dc:p≠o':=fun e=>by subst e; rw [hp] at ho; simp at ho
            exact ⟨_,rfl,by rw [List.getElem?_set_ne dc]; exact ho⟩
          | cons p' q'=>
            by_cases Gf:p=p'
            · subst Gf
              simp only [List.cons_append,under,if_true] at hu
              rw [aw,hp] at hc
              obtain ⟨l',h1,h2⟩:=ih hx hu hc ho
              exact ⟨l',by rw [aw,List.getElem?_set_self cX]; exact h1,h2⟩
            · exact ⟨l,by rw [aw,List.getElem?_set_ne Gf]; rw [aw] at hc; exact hc,ho⟩
theorem kF.N7 {S S':List (Nat × RT)} {r:Nat} {q:List Nat} {o:Nat} {t t':T} (hc:kF S S' r q o t t') {r':Nat} {q':List Nat} {o':Nat} (hf:r'≠r∨under (q++[o]) (q'++[o'])=none) {d:D} {u:Value} (h:cA S r' q' o'=some (.v d u)):cA S' r' q' o'=some (.v d u):=by
  by_cases he:r'=r
  · subst he
    have hf:under (q++[o]) (q'++[o'])=none:=by rcases hf with hf | hf<;>first | exact absurd rfl hf | exact hf
    obtain ⟨R,cs',l,h1,h2,h3,h4,rfl⟩:=hc.ex
    unfold cA at h ⊢
    rw [cH]
    rw [h1] at h
    simp only at h ⊢
    cases hx:aw R.cs q' with
    | none=>simp [hx] at h
    | some l'=>
      simp only [hx] at h
      obtain ⟨l1,h5,h6⟩:=aa1 h4 hf hx h
      rw [h5]
      exact h6
  · unfold cA at h ⊢
    rw [hc.Nl he]
    exact h
theorem CV {g:D→D} {S:List (Nat × RT)} {r:Nat} {q:List Nat} {o:Nat} {t:T} (h:cA S r q o=some t):cA (fS g S) r q o=some (if q=[] then fT g t else t):=by
  unfold cA at h ⊢
  rw [lJ]
  cases hr:lk S r with
  | none=>simp [hr] at h
  | some R=>
    simp only [hr,Option.map_some] at h ⊢
    cases q with
    | nil=>
      simp only [aw,if_true] at h ⊢
      rw [List.getElem?_map,h]; rfl
    | cons p q=>
      rw [Er]
      simpa using h
section
variable {C:Ctx} {H Hs:List T} {w w':World} {st aQ cq:St} {aI:List (Array Value)} {S S1 S':List (Nat × RT)}
theorem RP (h:Rel C H w st aI S) {g:D→D} (hg:lD g) (dW:∀ d u,bB w (ah C w S H) S d u→bB w (ah C w S H) (fS g S) (g d) u) (qP:∀ d u,Ext w (ah C w S H) d u→Ext w (ah C w S H) (fh g d) u) (oV:∀ d u,bB w (ah C w S H) S d u→fh g d=g d):
    Rel C H w (st.eY g) aI (fS g S)∧hM C w w S (fS g S) H H g:=by
  have DQ:ah C w (fS g S) H=ah C w S H:=by
    funext b k
    simp only [ah,uK]
  refine ⟨?_,fun d u hd=>by rw [DQ]; exact dW d u hd⟩
  refine h.step (f:=g) ?_ rfl rfl (fun d u hd=>by rw [DQ]; exact dW d u hd) ⟨by rw [uK]; exact h.mem.nd,?_,by rw [DQ]; exact h.mem.hand,by rw [uK]; exact h.mem.lt⟩
    ⟨h.kept.os,h.kept.tape,h.kept.output,h.kept.size,h.kept.block,by rw [uK]; exact h.kept.iE,?_⟩
  · exact pT hg h.rt
  · intro r R' eu
    rw [lJ] at eu
    cases hx:lk S r with
    | none=>simp [hx] at eu
    | some R=>
      simp only [hx,Option.map_some,Option.some.injEq] at eu
      subst eu
      obtain ⟨k1,k2⟩:=h.mem.root r R hx
      have hv:aD (R.cs.map (fT g))=aD R.cs:=by
        rw [cW,cW,List.map_map]
        congr 1
        funext t
        cases t<;>rfl
      refine ⟨?_,fun t ht=>?_⟩
      · simp only [List.length_map]
        rw [hv]; exact k1
      · simp only [List.mem_map] at ht
        obtain ⟨t0,kG,rfl⟩:=ht
        have:=k2 t0 kG
        rw [DQ]
        cases t0 with
        | own s n cap a xs=>exact this
        | v d u=>
          simp only [fT,jh] at this ⊢
          rw [hg.leaf]
          rcases this with this | ⟨hb,this⟩
          · exact .inl (qP _ _ this)
          · exact .inr ⟨hb,by rw [oV _ _ this]; exact dW _ _ this⟩
  · intro r b vs hm R' eu
    rw [lJ] at eu
    cases hx:lk S r with
    | none=>simp [hx] at eu
    | some R=>
      simp only [hx,Option.map_some,Option.some.injEq] at eu
      subst eu
      have hv:aD (R.cs.map (fT g))=aD R.cs:=by
        rw [cW,cW,List.map_map]
        congr 1
        funext t
        cases t<;>rfl
      have:=h.kept.par r b vs hm R hx
      simp only
      rw [hv]; exact this
end
end Go.Proofs.YtockoilcnmljiaaGreat
namespace Go.Proofs.YtockoilcnmljiaaGreat
section
variable {C:Ctx} {H Hs:List T} {w w':World} {st aQ cq:St} {aI:List (Array Value)} {S S1 S':List (Nat × RT)}
theorem CW {k:Nat} {ts:List T} {t:T} (ht:t∈ts) (hk:k∈t.ft):k∈ai ts:=by
  obtain ⟨i,hi⟩:=List.mem_iff_getElem?.1 ht
  obtain ⟨A,B,e,_⟩:=dR ts i _ hi
  rw [e]; simp [hk]
theorem KM {q:List Nat} {k:Nat} {cs l:List T} (hc:aw cs q=some l) (hk:k∈ai l):k∈ai cs:=by
  obtain ⟨A,B,e,_⟩:=F2 hc
  rw [e]; simp [hk]
theorem DR {r k:Nat} {R:RT} (h:lk S r=some R) (hk:k∈R.ft):k∈cL S:=by
  obtain ⟨A,B,e,_⟩:=lY h
  rw [e]; simp [hk]
theorem Ti (hn:(cL S).Nodup) {r:Nat} {R:RT} (h:lk S r=some R):R.ft.Nodup:=by
  obtain ⟨A,B,e,_⟩:=lY h
  rw [e] at hn
  exact (List.nodup_append.1 (List.nodup_append.1 hn).1).2.1
structure Wr (C:Ctx) (w w':World) (S S':List (Nat × RT)) (H H':List T) (t1:T):Prop where
  stays:ju w w' (ah C w S H) (ah C w' S' H')
  sub:∀ k∈cL S'++ai H',k∈cL S++ai H
  nd:(cL S'++ai H').Nodup
  bO:∀ k∈t1.ft,ah C w' S' H' false k∧w'.heap[k]?=w.heap[k]?
  new:∀ k∈ai H,w'.heap[k]?=w.heap[k]?
  kept:Kept C w' S' H'
theorem QH (h:Rel C (Hs++H) w st aI S) {g:D→D} (hS:SR g S S1) {r:Nat} {q:List Nat} {o:Nat} {t0 t1 t':T} (hc:kF S1 S' r q o t1 t') (hgt:t1.ft=t0.ft) {R:RT} {l:List T} (hR:lk S r=some R) (hl:aw R.cs q=some l) (ho:l[o]?=some t0) {b off:Nat} (ha:cb R.box R.cs q=some (b,off))
    (ZH:ai Hs=t'.ft) {u:Value} (hu:RH w w' b (off+o) u) (cV:w'.heap.size=w.heap.size) (nE:w'.os=w.os) (uL:w'.tape=w.tape) (vt:w'.output=w.output):Wr C w w' S S' (Hs++H) H t1:=by
  obtain ⟨A,B,e1,e2⟩:=hc.fts
  rw [hS.iE] at e1
  have fr:=h.mem.nd
  have cX:=h.mem.lt
  have ZI:b∈R.ft:=by
    cases q with
    | nil=>simp only [cb] at ha; cases hb:R.box with
      | none=>simp [hb] at ha
      | some b'=>simp only [hb,Option.map_some,Option.some.injEq,Prod.mk.injEq] at ha; simp [RT.ft,hb,ha.1]
    | cons p q=>simp [RT.ft,sj ha]
  have DJ:b∈cL S:=DR hR ZI
  have eF:∀ k∈cL S'++ai H,k∈cL S++ai (Hs++H):=by
    intro k hk
    rw [e2] at hk
    rw [e1,bj,ZH]
    simp only [List.mem_append] at hk ⊢
    rcases hk with ((hk | hk) | hk) | hk
    · exact .inl (.inl (.inl hk))
    · exact .inr (.inl hk)
    · exact .inl (.inr hk)
    · exact .inr (.inr hk)
  have acR:=fr
  rw [e1,bj,ZH] at acR
  have p1:(A++t1.ft++B++(t'.ft++ai H)).Perm (t1.ft++(A++t'.ft++B++ai H)):=by
    refine List.perm_iff_count.2 fun a=>?_
    simp only [List.count_append]
    omega
  have ahY:=p1.nodup_iff.1 acR
  obtain ⟨_,ahZ,ZJ⟩:=List.nodup_append.1 ahY
  have hbt:b∉t1.ft:=by
    rw [hgt]
    intro hb
    have UU:=Ti (List.nodup_append.1 fr).1 hR
    have ZK:t0∈l:=List.mem_of_getElem? ho
    have ZB:b∈ai l:=CW ZK hb
    cases q with
    | nil=>
      simp only [cb] at ha
      simp only [aw,Option.some.injEq] at hl
      subst hl
      cases hx:R.box with
      | none=>simp [hx] at ha
      | some b'=>
        simp only [hx,Option.map_some,Option.some.injEq,Prod.mk.injEq] at ha
        rw [RT.ft,hx] at UU
        simp only [Option.toList,List.cons_append,List.nil_append,List.nodup_cons] at UU
        exact UU.1 (ha.1▸ZB)
    | cons p q=>
      rw [RT.ft] at UU
      exact Th ha hl (List.nodup_append.1 UU).2.1 ZB
  have dc:∀ k,k≠b→w'.heap[k]?=w.heap[k]?:=by obtain ⟨_,_,_,_,_,h3⟩:=hu; exact h3
  have cE:ju w w' (ah C w S (Hs++H)) (ah C w' S' H):=by
    intro bb k hk
    have hkb:k≠b:=fun e=>hk.2.1 (e▸DJ)
    refine ⟨⟨by rw [cV]; exact hk.1,fun hx=>?_,fun hx=>?_,hk.2.2.2⟩,dc k hkb⟩
    · rcases List.mem_append.1 (eF k (List.mem_append.2 (.inl hx))) with h3 | h3
      · exact hk.2.1 h3
      · exact hk.2.2.1 h3
    · rcases List.mem_append.1 (eF k (List.mem_append.2 (.inr hx))) with h3 | h3
      · exact hk.2.1 h3
      · exact hk.2.2.1 h3
  refine ⟨cE,eF,by rw [e2]; exact ahZ,fun k hk=>?_,fun k hk=>?_,?_⟩
  · have KN:k∈cL S++ai (Hs++H):=by rw [e1]; simp [hk]
    refine ⟨⟨by rw [cV]; exact cX k KN,fun hx=>?_,fun hx=>?_,fun _=>.inr (h.kept.iE k KN)⟩,dc k (fun e=>hbt (e▸hk))⟩
    · rw [e2] at hx; exact ZJ k hk k (List.mem_append.2 (.inl hx)) rfl
    · exact ZJ k hk k (List.mem_append.2 (.inr hx)) rfl
  · exact dc k (fun e=>by subst e; exact (List.nodup_append.1 fr).2.2 k DJ k hk rfl)
  · refine ⟨by rw [nE]; exact h.kept.os,by rw [uL]; exact h.kept.tape,by rw [vt]; exact h.kept.output,by rw [cV]; exact h.kept.size,fun k h1 h2=>?_,fun k hk=>h.kept.iE k (eF k hk),fun r1 bx vs hm R1 Gp=>?_⟩
    · rw [dc k (fun e=>?_)]
      · exact h.kept.block k h1 h2
      · subst e
        rcases h.kept.iE k (List.mem_append.2 (.inl DJ)) with h3 | h3
        · exact h2 h3
        · omega
    · obtain ⟨R2,cs',l2,g1,g2,g3,g4,rfl⟩:=hc.ex
      by_cases he:r1=r
      · subst he
        rw [cH,Option.some.injEq] at Gp
        subst Gp
        obtain ⟨R3,k1,k2,k3,k4,k5⟩:=hS.sq g1
        rw [hR,Option.some.injEq] at k1
        subst k1
        obtain ⟨m1,m2⟩:=h.kept.par r1 bx vs hm R hR
        refine ⟨by simp only; rw [k2,m1],fun hb=>?_⟩
        cases q with
        | nil=>
          simp only [cb] at ha
          rw [m1,hb] at ha
          simp at ha
        | cons p q=>
          simp only
          rw [(mF g4).1,k4]
          exact m2 hb
      · rw [dJ _ _ he] at Gp
        obtain ⟨R3,k1,k2,k3,k4,k5⟩:=hS.sq Gp
        obtain ⟨m1,m2⟩:=h.kept.par r1 bx vs hm R3 k1
        exact ⟨by rw [k2,m1],fun hb=>by rw [k4]; exact m2 hb⟩
end
end Go.Proofs.YtockoilcnmljiaaGreat
namespace Go.Proofs.YtockoilcnmljiaaGreat
theorem Gq (q:List Nat) (o:Nat):under (q++[o]) q=none:=by
  induction q with
  | nil=>rfl
  | cons p q ih=>simp only [List.cons_append,under,if_true]; exact ih
theorem KO (r:Nat) (q:List Nat) (o:Nat) (e:Bool) (i:Nat):cz r q o e (.ptr r q i)=.ptr r q i:=by
  simp only [cz,if_true,Gq]
theorem IM:lD id:=⟨fun _ _ _ _=>rfl,fun _ _=>rfl,fun _ h=>h⟩
theorem acS (d:D):fh id d=d:=by cases d<;>simp [fh]
theorem RQ {α:Type} (f:α→α) (hf:∀ a,f a=a):∀ l:List (Nat × α),gb f l=l
  | []=>rfl
  | (k,v)::t=>by simp [gb,hf,RQ f hf t]
theorem aa2 {l:List (Nat × List D)} {S:List (Nat × RT)} (h:hI l S):hI l (fS id S):=by
  have:=pT IM h
  rwa [RQ] at this
  intro l
  have:fh id=id:=funext acS
  rw [this]; simp
theorem ZL {g:D→D} {S:List (Nat × RT)} {r:Nat} {q:List Nat} {o:Nat} {R:RT} {l:List T} {t0:T} (hR:lk S r=some R) (hl:aw R.cs q=some l) (ho:l[o]?=some t0):
    ∃ R1 l1 t1,lk (fS g S) r=some R1∧R1.box=R.box∧aw R1.cs q=some l1∧l1[o]?=some t1∧(t1=t0∨(q=[]∧t1=fT g t0))∧l1.length=l.length∧cb R1.box R1.cs q=cb R.box R.cs q∧R1.cs.length=R.cs.length:=by
  cases q with
  | nil=>
    simp only [aw,Option.some.injEq] at hl
    subst hl
    exact ⟨⟨R.box,R.cs.map (fT g)⟩,R.cs.map (fT g),fT g t0,by rw [lJ,hR]; rfl,rfl,rfl,by simp [ho],.inr ⟨rfl,rfl⟩,by simp,rfl,by simp⟩
  | cons p q=>
    exact ⟨⟨R.box,R.cs.map (fT g)⟩,l,t0,by rw [lJ,hR]; rfl,rfl,by simp only [Er]; exact hl,ho,.inl rfl,rfl,RL g,by simp⟩
theorem kF.ah0 {S S':List (Nat × RT)} {r:Nat} {q:List Nat} {o:Nat} {t t':T} (hc:kF S S' r q o t t') {l:List T} {R:RT} (hR:lk S r=some R) (hl:aw R.cs q=some l):
    ∃ R' l',lk S' r=some R'∧R'.box=R.box∧aw R'.cs q=some l'∧l'.length=l.length∧cb R'.box R'.cs q=cb R.box R.cs q:=by
  obtain ⟨R0,cs',l0,h1,h2,h3,h4,rfl⟩:=hc.ex
  rw [h1,Option.some.injEq] at hR
  subst hR
  rw [h2,Option.some.injEq] at hl
  subst hl
  obtain ⟨l1,h5,h6⟩:=nU h4
  rw [h2,Option.some.injEq] at h5
  subst h5
  exact ⟨⟨R0.box,cs'⟩,l0.set o t',cH _ _ _,rfl,h6,by simp,Go.Proofs.YtockoilcnmljiaaGreat.sm h4 (Gq q o)⟩
structure Sto (S S':List (Nat × RT)) (r:Nat) (q:List Nat) (o:Nat) (t':T) (f:D→D):Prop where
  new:cA S' r q o=some t'
  ptr:∀ i,f (.ptr r q i)=.ptr r q i
  hole:∀ r' q' o' d0 u,(sn d0).isSome=true→bQ d0=d0→cA S r' q' o'=some (.v d0 u)→(r'≠r∨under (q++[o]) (q'++[o'])=none)→cA S' r' q' o'=some (.v d0 u)
  path:∀ {R l},lk S r=some R→aw R.cs q=some l→∃ R' l',lk S' r=some R'∧R'.box=R.box∧aw R'.cs q=some l'∧l'.length=l.length∧cb R'.box R'.cs q=cb R.box R.cs q
section
variable {C:Ctx} {H Hs:List T} {w:World} {st aQ cq:St} {aI:List (Array Value)} {S:List (Nat × RT)}
theorem AV (h:Rel C (Hs++H) w st aI S) {r:Nat} {q:List Nat} {o:Nat} {d:D} {t' t0:T} {R:RT} {l:List T} {f:D→D} (hR:lk S r=some R) (hl:aw R.cs q=some l) (ho:l[o]?=some t0) {b off:Nat} (ha:cb R.box R.cs q=some (b,off))
    (dU:st.tt r q o d=some (aQ,f)) (jd:aQ.im r q o t'.er=some cq) (cS:da d=true)
    (yZ:(Hs=[t']∧d=t'.er)∨(Hs=[]∧q=[]∧∃ u,t'=.v (f d) u∧bB w (ah C w S (Hs++H)) S d u)):
    ∃ S',Rel C H (w.setCell ⟨b,off+o,none⟩ t'.val) cq aI S'∧hM C w (w.setCell ⟨b,off+o,none⟩ t'.val) S S' (Hs++H) H f∧Sto S S' r q o t' f∧cq.of=st.of:=by
  have hold:st.cell r q o=some t0.er:=by rw [II st S h.rt,Em hR hl,ho]; rfl
  have ZH:ai Hs=t'.ft:=by
    rcases yZ with ⟨rfl,_⟩ | ⟨rfl,_,u,rfl,_⟩
    · simp [ai]
    · rfl
  have hq0:q=[]→R.box.isSome=true:=fun e=>by
    subst e
    simp only [cb] at ha
    cases hb:R.box with
    | none=>simp [hb] at ha
    | some b=>rfl
  obtain ⟨b',Eo,fm,eN,eW,Xa,_⟩:=qL h.mem hR hl (fun e=>by subst e; simp at ho) hq0
  rw [ha] at eN
  simp only [Option.some.injEq,Prod.mk.injEq] at eN
  obtain ⟨rfl,rfl⟩:=eN
  have UW:o < l.length:=(List.getElem?_eq_some_iff.1 ho).1
  have Xt:=aa0 eW (o:=o) (by omega) t'.val
  generalize tF:w.setCell ⟨b,off+o,none⟩ t'.val=w' at Xt ⊢
  have cV:w'.heap.size=w.heap.size:=by rw [← tF]; simp [World.setCell]
  have nE:w'.os=w.os:=by rw [← tF]; rfl
  have uL:w'.tape=w.tape:=by rw [← tF]; rfl
  have vt:w'.output=w.output:=by rw [← tF]; rfl
  have fin:∀ g:D→D,lD g→(∀ d,g d=d∨(∃ r q o x,d=.ref r q o x)∨∃ r q o,d=.ptr r q o)→hI aQ.rt (fS g S)→((aQ.tm=gb (pg f) st.tm∧aQ.up=st.up.map (gb (pg f)))∨(f=id∧aQ.tm=st.tm∧aQ.up=st.up))→aQ.of=st.of→(∀ i,f (.ptr r q i)=.ptr r q i)→
      (∀ S' t1,kF (fS g S) S' r q o t1 t'→(t1=t0∨(q=[]∧t1=fT g t0))→Wr C w w' S S' (Hs++H) H t1→(∀ d u,bB w (ah C w S (Hs++H)) S d u→bB w' (ah C w' S' H) S' (f d) u)∧(∀ d u,bB w (ah C w S (Hs++H)) S d u→bB w' (ah C w' S' H) S' (g d) u))→
      ∃ S',Rel C H w' cq aI S'∧hM C w w' S S' (Hs++H) H f∧Sto S S' r q o t' f∧cq.of=st.of:=by
    intro g hg Gr Xu ah1 Ey ah2 afv
    obtain ⟨R1,l1,t1,e1,e2,e3,e4,e5,e6,e7,_⟩:=ZL (g:=g) hR hl ho
    obtain ⟨S',hc,Tj,Tk,Tl,Ez⟩:=Es Xu e1 e3 e4 jd
    have hgt:t1.ft=t0.ft:=by
      rcases e5 with rfl | ⟨_,rfl⟩
      · rfl
      · exact Zz g t0
    have nF:=QH h (S9 hg S) hc hgt hR hl ho ha ZH Xt cV nE uL vt
    obtain ⟨ZM,qU⟩:=afv S' t1 hc e5 nF
    have dw:=h.mem.hand
    rw [dP] at dw
    have dn:Mem C w' S' H:=by
      refine UO h.mem (g:=fh g) (S9 hg S) hc hR (fun e=>?_) (fun _=>ha) Xt ?_ nF.stays nF.nd nF.sub (gy nF.stays _ dw.2 (fun k hk=>nF.new k (by rw [bj]; simp [hk]))) (fun d u hd=>by rw [uW hd]; exact qU d u hd) (fun d u hd=>?_) cV
      · subst e
        simp only [cb] at ha
        cases hb:R.box with
        | none=>simp [hb] at ha
        | some b'=>simp only [hb,Option.map_some,Option.some.injEq,Prod.mk.injEq] at ha; exact ⟨by rw [ha.1],ha.2.symm⟩
      · rcases yZ with ⟨rfl,_⟩ | ⟨rfl,rfl,u,rfl,hd⟩
        · left
          have h1:=dw.1
          simp only [bM] at h1
          exact dO nF.stays _ h1.1 (fun k hk=>nF.new k (by rw [bj]; simp [ai,hk]))
        · right
          have h2:=ZM d u hd
          have h3:bQ (f d)=f d:=by
            cases hx:f d with
            | sl g s n cs=>
              rw [hx] at h2
              cases g with
              | none=>simp [bB,Ext] at h2
              | some g=>rfl
            | _=>rfl
          exact ⟨f d,u,rfl,rfl,by rw [h3]; exact h2⟩
      · exact sr hg Gr hd
    refine ⟨S',?_,ZM,⟨hc.Ep,ah2,?_,?_⟩,Ez.trans Ey⟩
    · rcases ah1 with ⟨h1,h2⟩ | ⟨rfl,h1,h2⟩
      · exact h.step (f:=f) Tj (by rw [Tk,h1]) (by rw [Tl,h2]) ZM dn nF.kept
      · exact h.so Tj (by rw [Tk,h1]) (by rw [Tl,h2]) ZM dn nF.kept
    · intro r' q' o' d0 u h3 h4 h1 h2
      refine hc.N7 h2 ?_
      rw [CV h1]
      split
      · simp only [fT,h4]
        cases d0<;>first | (simp [sn] at h3; done) | simp [fh,hg.hole,hg.sl]
      · rfl
    · intro R2 l2 h1 h2
      rw [hR,Option.some.injEq] at h1
      subst h1
      rw [hl,Option.some.injEq] at h2
      subst h2
      obtain ⟨R',l',k1,k2,k3,k4,k5⟩:=hc.ah0 e1 e3
      exact ⟨R',l',k1,k2.trans e2,k3,k4.trans e6,k5.trans e7⟩
  unfold St.tt at dU
  rw [hold] at dU
  simp only [Option.some.injEq] at dU
  have hko:=yW r q o true
  have dD:=mI r q o true
  have Tm:∀ S' t1,kF (fS (cz r q o true) S) S' r q o t1 t'→Wr C w w' S S' (Hs++H) H t1→∀ d u,bB w (ah C w S (Hs++H)) S d u→bB w' (ah C w' S' H) S' (cz r q o true d) u:=
    fun S' t1 hc nF d u hd=>yT nF.stays hc (by simp) (qO dD hd)
  split at dU
  · rename_i hs
    simp only [Prod.mk.injEq] at dU
    obtain ⟨rfl,rfl⟩:=dU
    refine fin (cz r q o true) dD hko ?_ (.inl ⟨rfl,rfl⟩) rfl (fun i=>?_) (fun S' t1 hc AW nF=>⟨fun d u hd=>?_,Tm S' t1 hc nF⟩)
    · exact pT dD h.rt
    · simp only [vd]; exact KO _ _ _ _ _
    · have he:t1.er=t0.er:=by
        rcases AW with rfl | ⟨_,rfl⟩
        · rfl
        · rw [Nn dD]
          cases hx:t0.er<;>simp [hx,gM] at hs
          simp [fh,dD.sl]
      rw [← he]
      obtain ⟨g0,s0,n0,cs0,gA⟩:∃ g s n cs,t0.er=.sl g s n cs:=by
        cases hx:t0.er<;>simp [hx,gM] at hs
        exact ⟨_,_,_,_,rfl⟩
      have dZ:=tA h.mem hR hl ho gA
      have afw:bL w (ah C w S (Hs++H)) t1:=by
        rcases AW with rfl | ⟨_,rfl⟩
        · exact dZ
        · cases t0 with
          | own s n cap a xs=>exact dZ
          | v d0 u0=>
            simp only [T.er] at gA
            simp only [bL,fT] at dZ ⊢
            rw [dD.leaf,gA]
            rw [gA] at dZ
            simpa [fh,dD.sl] using dZ
      exact aaZ nF.stays hc afw nF.bO (qO dD hd)
  · rename_i hs
    split at dU
    · simp only [Prod.mk.injEq] at dU
      obtain ⟨rfl,rfl⟩:=dU
      refine fin (cz r q o true) dD hko ?_ (.inl ⟨rfl,rfl⟩) rfl (fun i=>KO _ _ _ _ _) (fun S' t1 hc AW nF=>⟨Tm S' t1 hc nF,Tm S' t1 hc nF⟩)
      exact pT dD h.rt
    · rename_i rO
      simp only [Prod.mk.injEq] at dU
      obtain ⟨rfl,rfl⟩:=dU
      have dW:∀ S' t1,kF (fS id S) S' r q o t1 t'→Wr C w w' S S' (Hs++H) H t1→∀ d u,bB w (ah C w S (Hs++H)) S d u→bB w' (ah C w' S' H) S' (id d) u:=by
        intro S' t1 hc nF d' u' tB
        have km:∃ d0 u0,t'=.v d0 u0∧sn (bQ d0)=none:=by
          have N8:∀ x:D,da x=true→gM x=false→sn (bQ x)=none:=by
            intro x h1 h2
            cases x<;>first | rfl | (exfalso; simp [da] at h1; done) | (exfalso; simp [gM] at h2; done)
          rcases yZ with ⟨_,rfl⟩ | ⟨_,_,u,rfl,_⟩
          · cases t' with
            | own s n cap a xs=>simp [T.er,gM] at rO
            | v d0 u0=>
              refine ⟨d0,u0,rfl,?_⟩
              simp only [T.er] at rO cS
              have:=N8 (bQ d0) cS (by simpa using rO)
              rwa [DI] at this
          · exact ⟨_,_,rfl,N8 _ cS (by simpa using rO)⟩
        obtain ⟨d0,u0,rfl,hn⟩:=km
        exact NX nF.stays hc (.inl hn) (qO IM tB)
      refine fin id IM (fun _=>.inl rfl) (aa2 h.rt) (.inr ⟨rfl,rfl,rfl⟩) rfl (fun _=>rfl) (fun S' t1 hc AW nF=>⟨dW S' t1 hc nF,dW S' t1 hc nF⟩)
end
end Go.Proofs.YtockoilcnmljiaaGreat
namespace Go.Proofs.YtockoilcnmljiaaGreat
section
variable {P:Program} {w:World}
theorem oO {b off fm:Nat} {us:List Value} (hb:lF w b off fm us) {o:Nat} (ho:o < fm) {v:Value} (h1:v.oneCell'=true):(store ⟨b,off+o,none⟩ v).run P w=.ok () (w.setCell ⟨b,off+o,none⟩ v):=by
  obtain ⟨u,hu⟩:=F6 hb ho
  rw [run_store P w _ v _ h1,hu]
  simp [F5 hb ho]
theorem N9 {b off:Nat} {v:Value} (h:w.cell? ⟨b,off,none⟩=some v):w.setCell ⟨b,off,none⟩ v=w:=by
  have hh:(w.setCell ⟨b,off,none⟩ v).heap=w.heap:=by
    apply Array.ext_getElem?
    intro k
    simp only [World.setCell,Array.getElem?_modify]
    split
    · rename_i hk
      subst hk
      cases hx:w.heap[b]? with
      | none=>rfl
      | some ob=>
        cases ob with
        | cells c e fz=>
          simp only [World.cell?,hx] at h
          simp only [Option.map_some,Option.isSome_none,Bool.false_eq_true,if_false]
          congr 2
          simp at h
          apply Array.ext_getElem?
          intro j
          rw [Array.getElem?_setIfInBounds]
          split
          · rename_i hj
            subst hj
            split
            · exact h.symm
            · rename_i cX
              rw [Array.getElem?_eq_none (by omega)] at h
              simp at h
          · rfl
        | _=>rfl
    · rfl
  have:w.setCell ⟨b,off,none⟩ v={ w with heap:=(w.setCell ⟨b,off,none⟩ v).heap }:=rfl
  rw [this,hh]
end
theorem Oa {S:List (Nat × RT)} {r':Nat} {q':List Nat} {o':Nat} {d0:D} {u0:Value} (h0:cA S r' q' o'=some (.v d0 u0)) {r:Nat} {q:List Nat} {o:Nat} {t:T} (h1:cA S r q o=some t) (r1:Nat) (q1:List Nat) (o1 i:Nat):
    r9 r' q' o' r1 q1 o1 (.ptr r q i)=.ptr r q i∧cz r' q' o' true (.ptr r q i)=.ptr r q i:=by
  have za:r=r'→under (q'++[o']) q=none:=by
    intro e
    subst e
    cases hu:under (q'++[o']) q with
    | none=>rfl
    | some y=>
      have:=jt hu
      unfold cA at h0 h1
      cases hr:lk S r with
      | none=>simp [hr] at h0
      | some R=>
        simp only [hr] at h0 h1
        cases hc:aw R.cs q' with
        | none=>simp [hc] at h0
        | some l=>
          simp only [hc] at h0
          rw [this,List.append_assoc,List.singleton_append,Gg hc h0] at h1
          simp at h1
  simp only [r9,cz]
  by_cases e:r=r'
  · simp only [if_pos e,za e]
    exact ⟨trivial,trivial⟩
  · simp only [if_neg e]
    exact ⟨trivial,trivial⟩
section
variable {C:Ctx} {Hx:List T} {H:List T} {w:World} {st:St} {aI:List (Array Value)} {S:List (Nat × RT)}
theorem IN (h:Rel C H w st aI S) (r:Nat) (q:List Nat) (o:Nat) (e:Bool):Rel C H w (st.eY (cz r q o e)) aI (fS (cz r q o e) S)∧hM C w w S (fS (cz r q o e) S) H H (cz r q o e):=by
  refine RP h (mI r q o e) (fun d u hd=>?_) (fun d u hd=>sr (mI r q o e) (yW r q o e) hd) (fun d u hd=>uW hd)
  have h1:=qO (mI r q o e) hd
  cases d with
  | ref r' q' o' x=>
    simp only [cz]
    split
    · split
      · exact h1
      · split
        · simp [bB,Ext]
        · exact h1
      · simp [bB,Ext]
    · exact h1
  | ptr r' q' o'=>
    simp only [cz]
    split
    · split
      · exact h1
      · simp [bB,Ext]
    · exact h1
  | _=>exact h1
theorem UX (r:Nat) (q:List Nat) (o r1:Nat) (q1:List Nat) (o1:Nat) (d:D):r9 r q o r1 q1 o1 d=d∨(∃ r q o x,d=.ref r q o x)∨∃ r q o,d=.ptr r q o:=by
  cases d<;>first | exact .inl rfl | exact .inr (.inl ⟨_,_,_,_,rfl⟩) | exact .inr (.inr ⟨_,_,_,rfl⟩)
theorem Ob (h:Rel C H w st aI S) {r':Nat} {q':List Nat} {o':Nat} {d0:D} {u0:Value} (h0:cA S r' q' o'=some (.v d0 u0)) {r:Nat} {q:List Nat} {o:Nat} {t:T} (h1:cA S r q o=some t) (hl:lC (.v d0 u0) t):
    Rel C H w (st.eY (r9 r' q' o' r q o)) aI (fS (r9 r' q' o' r q o) S)∧hM C w w S (fS (r9 r' q' o' r q o) S) H H (r9 r' q' o' r q o):=by
  have fY:=AO r' q' o' r q o
  refine RP h fY (fun d u hd=>?_) (fun d u hd=>sr fY (UX r' q' o' r q o) hd) (fun d u hd=>uW hd)
  have h2:=qO fY hd
  cases d with
  | ref r2 q2 o2 x=>
    simp only [r9]
    split
    · rename_i e
      subst e
      split
      · exact h2
      · rename_i hu
        have e1:=jt hu
        simp only [List.append_nil] at e1
        obtain ⟨rfl,e2⟩:=List.append_inj' e1 rfl
        simp only [List.cons.injEq,and_true] at e2
        subst e2
        refine qO fY ?_
        intro t2 RR
        rw [h1,Option.some.injEq] at RR
        subst RR
        exact kE hl (hd _ h0)
      · simp [bB,Ext]
    · exact h2
  | ptr r2 q2 o2=>
    simp only [r9]
    split
    · split
      · exact h2
      · simp [bB,Ext]
    · exact h2
  | _=>exact h2
theorem UY (gf:hI st.rt S) (hm:Mem C w S Hx) {d:D} {u:Value} (hd:cy w (ah C w S Hx) S d u) (cQ:(∀ cs,d≠.agg cs)→fK st d=true):cj (bB w (ah C w S Hx) S) (cellsOf d) u.cells.toList:=by
  by_cases ha:∃ cs,d=.agg cs
  · obtain ⟨cs,rfl⟩:=ha
    obtain ⟨us,rfl,h⟩:=hd
    exact h
  · refine Ex gf hm hd (fun x hx=>?_)
    have hc:cellsOf d=[d]:=by cases d<;>first | rfl | exact absurd ⟨_,rfl⟩ ha
    rw [hc] at hx
    simp only [List.mem_singleton] at hx
    subst hx
    exact cQ (fun cs e=>ha ⟨cs,e⟩)
end
theorem xR {st:St} {d:D} (h:fK st d=true):da d=true:=by
  cases d<;>first | rfl | exact h
section
variable {P:Program} {C:Ctx} {Hx:List T} {aI:List (Array Value)}
theorem QI:∀ {ds:List D} {us:List Value} {w:World} {st st':St} {S:List (Nat × RT)} {r o:Nat} {h:D→D} {b off i:Nat},Rel C Hx w st aI S→(∃ R,lk S r=some R∧R.box=some b)→cj (fun d u=>bB w (ah C w S Hx) S (h d) u) ds us→o=off+i→nO st r o h ds=some st'→
    ∃ w' S',(storeCells ⟨b,off,none⟩ us i).run P w=.ok () w'∧Rel C Hx w' st' aI S'∧st'.of=st.of:=by
  intro ds
  induction ds with
  | nil=>
    intro us w st st' S r o h b off i hr _ hu _ hs
    cases hu
    simp only [nO,Option.some.injEq] at hs
    subst hs
    exact ⟨w,S,rfl,hr,rfl⟩
  | cons d ds ih=>
    intro us w st st' S r o h b off i hr vu hu AX hs
    cases hu with
    | cons tE DL=>
    rename_i u us
    simp only [nO] at hs
    split at hs
    · simp at hs
    rename_i cQ
    simp only [Bool.not_eq_true',Bool.not_eq_false] at cQ
    split at hs
    case h_2=>simp at hs
    rename_i aQ f dU
    split at hs
    case h_2=>simp at hs
    rename_i cq jd
    obtain ⟨R,hR,hb⟩:=vu
    obtain ⟨h1,_⟩:=N6 hr.rt hr.mem tE cQ
    have cS:∃ t0,R.cs[o]?=some t0:=by
      unfold St.tt at dU
      cases hx:st.cell r [] o with
      | none=>simp [hx] at dU
      | some bO=>
        obtain ⟨R',l,t,g1,g2,g3,_⟩:=iS hr.rt hx
        rw [hR,Option.some.injEq] at g1
        subst g1
        simp only [aw,Option.some.injEq] at g2
        subst g2
        exact ⟨t,g3⟩
    obtain ⟨t0,ho⟩:=cS
    have ha:cb R.box R.cs []=some (b,0):=by simp [cb,hb]
    obtain ⟨b',Eo,fm,eN,eW,Xa,_⟩:=qL hr.mem hR (q:=[]) rfl (fun e=>by rw [e] at ho; simp at ho) (fun _=>by rw [hb]; rfl)
    rw [ha] at eN
    simp only [Option.some.injEq,Prod.mk.injEq] at eN
    obtain ⟨rfl,rfl⟩:=eN
    have UW:o < R.cs.length:=(List.getElem?_eq_some_iff.1 ho).1
    have eo:=oO (P:=P) eW (o:=o) (by omega) h1
    have hfd:bQ (f (h d))=f (h d):=by
      have key:∀ x:D,da x=true→bQ x=x→bQ (f x)=f x:=by
        intro x hx ZN
        unfold St.tt at dU
        cases hy:st.cell r [] o with
        | none=>simp [hy] at dU
        | some bO=>
          simp only [hy,Option.some.injEq] at dU
          have hk:bQ (cz r [] o true x)=cz r [] o true x:=by
            cases x with
            | ref r' q' o' y=>simp only [cz]; split<;>(try split)<;>(try split)<;>rfl
            | ptr r' q' o'=>simp only [cz]; split<;>(try split)<;>rfl
            | _=>exact ZN
          split at dU
          · simp only [Prod.mk.injEq] at dU
            obtain ⟨_,rfl⟩:=dU
            cases x with
            | ref r' q' o' y=>
              simp only [vd]
              split
              · split
                · rfl
                · split
                  · exact (by rename_i g _ _ _ _; cases g<;>rfl)
                  · rfl
              · rfl
            | _=>exact hk
          · split at dU
            · simp only [Prod.mk.injEq] at dU
              obtain ⟨_,rfl⟩:=dU
              exact hk
            · simp only [Prod.mk.injEq] at dU
              obtain ⟨_,rfl⟩:=dU
              exact ZN
      refine key _ (xR cQ) ?_
      cases hx:h d with
      | sl g s n cs=>
        rw [hx] at tE
        cases g with
        | none=>simp [bB,Ext] at tE
        | some g=>rfl
      | _=>rfl
    obtain ⟨S',a1,a2,a3,a4⟩:=AV (Hs:=[]) (H:=Hx) (t':=.v (f (h d)) u) hr hR rfl ho ha dU (by simp only [T.er]; rw [hfd]; exact jd) (xR cQ) (.inr ⟨rfl,rfl,u,rfl,tE⟩)
    simp only [T.val,Nat.zero_add] at a1 a2
    simp only [Nat.zero_add] at eo
    obtain ⟨R',l',k1,k2,_⟩:=a3.path hR (q:=[]) rfl
    obtain ⟨w',zU,c1,c2,c3⟩:=ih (i:=i+1) (o:=o+1) (off:=off) (h:=fun x=>f (h x)) a1 ⟨R',k1,k2.trans hb⟩ (DL.mono (fun _ _ hh=>a2 _ _ hh)) (by omega) hs
    refine ⟨w',zU,?_,c2,c3.trans a4⟩
    rw [storeCells]
    simp only [Sem.run_bind,eZ]
    rw [← AX,eo]
    exact c1
theorem Oc:∀ {ts:List T} {w:World} {st st':St} {S:List (Nat × RT)} {r o:Nat} {b off i:Nat},Rel C (ts++Hx) w st aI S→(∃ R,lk S r=some R∧R.box=some b)→o=off+i→nP st r o (bw ts)=some st'→
    ∃ w' S',(storeCells ⟨b,off,none⟩ (aD ts) i).run P w=.ok () w'∧Rel C Hx w' st' aI S'∧st'.of=st.of:=by
  intro ts
  induction ts with
  | nil=>
    intro w st st' S r o b off i hr _ _ hs
    simp only [bw,nP,Option.some.injEq] at hs
    subst hs
    exact ⟨w,S,rfl,hr,rfl⟩
  | cons t ts ih=>
    intro w st st' S r o b off i hr vu AX hs
    simp only [bw,nP] at hs
    split at hs
    · simp at hs
    rename_i cQ
    simp only [Bool.not_eq_true',Bool.not_eq_false] at cQ
    split at hs
    case h_2=>simp at hs
    rename_i aQ f dU
    split at hs
    case h_2=>simp at hs
    rename_i cq jd
    obtain ⟨R,hR,hb⟩:=vu
    have dw:=hr.mem.hand
    simp only [List.cons_append,bM] at dw
    obtain ⟨h1,_⟩:=mJ dw.1 cQ
    have cS:∃ t0,R.cs[o]?=some t0:=by
      unfold St.tt at dU
      cases hx:st.cell r [] o with
      | none=>simp [hx] at dU
      | some bO=>
        obtain ⟨R',l,t,g1,g2,g3,_⟩:=iS hr.rt hx
        rw [hR,Option.some.injEq] at g1
        subst g1
        simp only [aw,Option.some.injEq] at g2
        subst g2
        exact ⟨t,g3⟩
    obtain ⟨t0,ho⟩:=cS
    have ha:cb R.box R.cs []=some (b,0):=by simp [cb,hb]
    obtain ⟨b',Eo,fm,eN,eW,Xa,_⟩:=qL hr.mem hR (q:=[]) rfl (fun e=>by rw [e] at ho; simp at ho) (fun _=>by rw [hb]; rfl)
    rw [ha] at eN
    simp only [Option.some.injEq,Prod.mk.injEq] at eN
    obtain ⟨rfl,rfl⟩:=eN
    have UW:o < R.cs.length:=(List.getElem?_eq_some_iff.1 ho).1
    have eo:=oO (P:=P) eW (o:=o) (by omega) h1
    obtain ⟨S',a1,a2,a3,a4⟩:=AV (Hs:=[t]) (H:=ts++Hx) (t':=t) hr hR rfl ho ha dU jd cQ (.inl ⟨rfl,rfl⟩)
    simp only [Nat.zero_add] at a1 a2
    simp only [Nat.zero_add] at eo
    obtain ⟨R',l',k1,k2,_⟩:=a3.path hR (q:=[]) rfl
    obtain ⟨w',zU,c1,c2,c3⟩:=ih (i:=i+1) (o:=o+1) (off:=off) a1 ⟨R',k1,k2.trans hb⟩ (by omega) hs
    refine ⟨w',zU,?_,c2,c3.trans a4⟩
    rw [aD,storeCells]
    simp only [Sem.run_bind,eZ]
    rw [← AX,eo]
    exact c1
end
end Go.Proofs.YtockoilcnmljiaaGreat
namespace Go.Proofs.YtockoilcnmljiaaGreat
theorem AY {r:Nat} {q:List Nat} {o:Nat} {x:D} {r':Nat} {q':List Nat} {o':Nat} {y:Option (Nat × Nat)} (h:cz r q o true x=.ref r' q' o' y):x=.ref r' q' o' y∧(r'≠r∨under (q++[o]) (q'++[o'])=none):=by
  cases x with
  | ref r2 q2 o2 x2=>
    simp only [cz] at h
    split at h
    · split at h
      · rename_i hu
        simp only [D.ref.injEq] at h
        obtain ⟨rfl,rfl,rfl,rfl⟩:=h
        exact ⟨rfl,.inr hu⟩
      · simp at h
      · simp at h
    · rename_i dc
      simp only [D.ref.injEq] at h
      obtain ⟨rfl,rfl,rfl,rfl⟩:=h
      exact ⟨rfl,.inl dc⟩
  | ptr r2 q2 o2=>
    simp only [cz] at h
    split at h
    · split at h<;>simp at h
    · simp at h
  | _=>simp [cz] at h
theorem Od {r:Nat} {q:List Nat} {o:Nat} {bO x:D} {r':Nat} {q':List Nat} {o':Nat} {y:Option (Nat × Nat)} (h:vd r q o bO x=.ref r' q' o' y):x=.ref r' q' o' y∧(r'≠r∨under (q++[o]) (q'++[o'])=none):=by
  cases x with
  | ref r2 q2 o2 x2=>
    simp only [vd] at h
    split at h
    · split at h
      · rename_i hu
        simp only [D.ref.injEq] at h
        obtain ⟨rfl,rfl,rfl,rfl⟩:=h
        exact ⟨rfl,.inr hu⟩
      · split at h
        · rename_i g s n cs _
          cases g<;>simp [iB] at h
        · simp at h
    · rename_i dc
      simp only [D.ref.injEq] at h
      obtain ⟨rfl,rfl,rfl,rfl⟩:=h
      exact ⟨rfl,.inl dc⟩
  | _=>exact AY h
theorem aa3 {st aQ:St} {r:Nat} {q:List Nat} {o:Nat} {d:D} {f:D→D} (h:st.tt r q o d=some (aQ,f)) (hd:gM d=true) {x:D} {r':Nat} {q':List Nat} {o':Nat} {y:Option (Nat × Nat)} (hx:f x=.ref r' q' o' y):x=.ref r' q' o' y∧(r'≠r∨under (q++[o]) (q'++[o'])=none):=by
  unfold St.tt at h
  split at h
  case h_2=>simp at h
  simp only [Option.some.injEq] at h
  split at h
  · simp only [Prod.mk.injEq] at h
    obtain ⟨_,rfl⟩:=h
    exact Od hx
  · try rw [if_pos hd] at h
    simp only [hd,if_true,Prod.mk.injEq] at h
    obtain ⟨_,rfl⟩:=h
    exact AY hx
theorem UZ {st st':St} {r:Nat} {q:List Nat} {o:Nat} {x:Option (Nat × Nat)} {d:D} (h:jf st (.ref r q o x)=some (d,st')):gM d=true:=by
  simp only [jf] at h
  split at h
  · split at h
    · simp only [Option.some.injEq,Prod.mk.injEq] at h
      rw [← h.1]; rfl
    · simp at h
  · simp only [Option.some.injEq,Prod.mk.injEq] at h
    rw [← h.1]; rfl
  · simp at h
section
variable {P:Program} {C:Ctx} {Hx:List T} {aI:List (Array Value)}
theorem QJ:∀ {ds:List D} {us:List Value} {w:World} {st st':St} {S:List (Nat × RT)} {r:Nat} {q:List Nat} {o:Nat} {h:D→D} {b off0 off i:Nat},Rel C Hx w st aI S→bB w (ah C w S Hx) S (.ptr r q 0) (.pointer (some ⟨b,off0,none⟩))→cj (fun d u=>bB w (ah C w S Hx) S (h d) u) ds us→off+i=off0+o→jc st r q o h ds=some st'→
    ∃ w' S',(storeCells ⟨b,off,none⟩ us i).run P w=.ok () w'∧Rel C Hx w' st' aI S'∧st'.of=st.of:=by
  intro ds
  induction ds with
  | nil=>
    intro us w st st' S r q o h b off0 off i hr _ hu _ hs
    cases hu
    simp only [jc,Option.some.injEq] at hs
    subst hs
    exact ⟨w,S,rfl,hr,rfl⟩
  | cons d ds ih=>
    intro us w st st' S r q o h b off0 off i hr hp hu AX hs
    cases hu with
    | cons tE DL=>
    rename_i u us
    have place:∀ {H:List T} {ZO:St} {S0:List (Nat × RT)},Rel C H w ZO aI S0→bB w (ah C w S0 H) S0 (.ptr r q 0) (.pointer (some ⟨b,off0,none⟩))→∀ {bO:D},ZO.cell r q o=some bO→
        ∃ R l t0 fm,lk S0 r=some R∧aw R.cs q=some l∧l[o]?=some t0∧t0.er=bO∧cb R.box R.cs q=some (b,off0)∧lF w b off0 fm (aD l)∧o < fm:=by
      intro H ZO S0 RU Oe bO hc
      obtain ⟨R,l,t0,g1,g2,g3,g4,g5⟩:=iS RU.rt hc
      obtain ⟨DK,AI⟩:=Oe R g1
      obtain ⟨b',Eo,fm,k1,k2,k3,_⟩:=qL RU.mem g1 g2 (fun e=>by subst e; simp at g3) DK
      have:=AI b' Eo k1
      simp only [Value.pointer.injEq,Option.some.injEq,Addr.mk.injEq,Nat.add_zero,and_true] at this
      obtain ⟨rfl,rfl⟩:=this
      exact ⟨R,l,t0,fm,g1,g2,g3,g5.symm,k1,k2,by have:=(List.getElem?_eq_some_iff.1 g3).1; omega⟩
    simp only [jc] at hs
    split at hs
    · rename_i xS
      simp only [Bool.and_eq_true] at xS
      obtain ⟨xS,cQ⟩:=xS
      have hd:h d=.ref r q o none:=by
        cases hx:h d with
        | ref r2 q2 o2 x2=>
          rw [hx] at xS
          cases x2 with
          | none=>
            simp only [Ej,Bool.and_eq_true,decide_eq_true_eq] at xS
            obtain ⟨⟨rfl,rfl⟩,rfl⟩:=xS
            rfl
          | some p=>simp [Ej] at xS
        | _=>rw [hx] at xS; simp [Ej] at xS
      rw [hd] at cQ tE
      obtain ⟨h1,_⟩:=N6 hr.rt hr.mem tE cQ
      simp only [fK] at cQ
      split at cQ
      case h_2=>simp at cQ
      rename_i g s n cs hc
      obtain ⟨R,l,t0,fm,g1,g2,g3,g4,g5,g6,g7⟩:=place hr hp hc
      have AZ:u=t0.val:=by
        have:=tE t0 (by rw [Em g1 g2]; exact g3)
        unfold eS at this
        rw [g4] at this
        exact this
      have eo:=oO (P:=P) g6 g7 h1
      rw [N9 (by rw [AZ]; exact vn g6 (by rw [fk,g3]; rfl))] at eo
      obtain ⟨w',S',c1,c2,c3⟩:=ih (i:=i+1) (o:=o+1) (off:=off) hr hp DL (by omega) hs
      refine ⟨w',S',?_,c2,c3⟩
      rw [storeCells]
      simp only [Sem.run_bind,eZ]
      rw [AX,eo]
      exact c1
    · split at hs
      case h_2=>simp at hs
      rename_i d' aQ dD
      split at hs
      · simp at hs
      rename_i gJ
      simp only [Bool.not_eq_true',Bool.not_eq_false] at gJ
      split at hs
      case h_2=>simp at hs
      rename_i cq f dU
      split at hs
      case h_2=>simp at hs
      rename_i DG jd
      obtain ⟨t,S1,a1,rfl,a3,a4,a5,a6,a7⟩:=uV hr tE dD
      have hp1:=a4 _ _ hp
      have cS:∃ bO,aQ.cell r q o=some bO:=by
        unfold St.tt at dU
        cases hx:aQ.cell r q o with
        | none=>simp [hx] at dU
        | some bO=>exact ⟨bO,rfl⟩
      obtain ⟨bO,cS⟩:=cS
      obtain ⟨R,l,t0,fm,g1,g2,g3,g4,g5,g6,g7⟩:=place a1 hp1 cS
      have dw:=a1.mem.hand
      simp only [bM] at dw
      obtain ⟨h1,_⟩:=mJ dw.1 gJ
      have eo:=oO (P:=P) g6 g7 h1
      obtain ⟨S2,b1,b2,b3,b4⟩:=AV (Hs:=[t]) (H:=Hx) (t':=t) a1 g1 g2 g3 g5 dU jd gJ (.inl ⟨rfl,rfl⟩)
      rw [a3] at eo b1 b2
      generalize tF:w.setCell ⟨b,off0+o,none⟩ u=w1 at eo b1 b2
      have RV:=b2 _ _ hp1
      rw [b3.ptr] at RV
      have acT:∃ S3,Rel C Hx w1 (DG.uH (f (h d)) r q o) aI S3∧hM C w1 w1 S2 S3 Hx Hx (xN (f (h d)) r q o)∧xN (f (h d)) r q o (.ptr r q 0)=.ptr r q 0∧(DG.uH (f (h d)) r q o).of=DG.of:=by
        cases hx:f (h d) with
        | ref r' q' o' y=>
          have hh:gM t.er=true:=by
            cases hd:h d with
            | ref r2 q2 o2 x2=>rw [hd] at dD; exact UZ dD
            | _=>
              exfalso
              rw [hd] at hx
              unfold St.tt at dU
              rw [cS] at dU
              simp only [Option.some.injEq] at dU
              split at dU
              · simp only [Prod.mk.injEq] at dU
                obtain ⟨_,rfl⟩:=dU
                have:=(Od hx).1
                simp at this
              · split at dU
                · simp only [Prod.mk.injEq] at dU
                  obtain ⟨_,rfl⟩:=dU
                  have:=(AY hx).1
                  simp at this
                · simp only [Prod.mk.injEq] at dU
                  obtain ⟨_,rfl⟩:=dU
                  simp at hx
          obtain ⟨hd,Ek⟩:=aa3 dU hh hx
          obtain ⟨d0,u0,k1,k2,k3,k4⟩:=a7 r' q' o' y hd
          have zb:=b3.hole r' q' o' d0 u0 k1 k2 k3 Ek
          cases y with
          | none=>
            obtain ⟨m1,m2⟩:=Ob b1 zb b3.new (k4 rfl)
            exact ⟨_,m1,m2,(Oa zb b3.new r q o 0).1,rfl⟩
          | some y=>
            obtain ⟨m1,m2⟩:=IN b1 r' q' o' true
            exact ⟨_,m1,m2,(Oa zb b3.new r q o 0).2,rfl⟩
        | _=>exact ⟨S2,b1,fun _ _ hh=>hh,rfl,rfl⟩
      obtain ⟨S3,c1,c2,c3,c4⟩:=acT
      have hp3:=c2 _ _ RV
      rw [c3] at hp3
      obtain ⟨w',S',e1,e2,e3⟩:=ih (i:=i+1) (o:=o+1) (off:=off) (h:=fun x=>xN (f (h d)) r q o (f (h x))) c1 hp3 (DL.mono (fun _ _ hh=>c2 _ _ (b2 _ _ (a4 _ _ hh)))) (by omega) hs
      refine ⟨w',S',?_,e2,e3.trans (c4.trans (b4.trans a6.2.2))⟩
      rw [storeCells]
      simp only [Sem.run_bind,eZ]
      rw [AX,eo]
      exact e1
theorem LD {st st':St} {r:Nat}:∀ {ds:List D} {st st':St} {o:Nat},nP st r o ds=some st'→∀ d∈ds,da d=true:=by
  intro ds
  induction ds with
  | nil=>intro st st' o _ d hd; simp at hd
  | cons d ds ih=>
    intro st st' o hs x hx
    simp only [nP] at hs
    split at hs
    · simp at hs
    rename_i cQ
    simp only [Bool.not_eq_true',Bool.not_eq_false] at cQ
    split at hs
    case h_2=>simp at hs
    split at hs
    case h_2=>simp at hs
    rcases List.mem_cons.1 hx with rfl | hx
    · exact cQ
    · exact ih hs x hx
theorem U0 {c:cB} (av:ez c P) {w:World} {st st':St} {S:List (Nat × RT)} (h:Rel C Hx w st aI S) {t:TypeId} {i:TI} (ht:c.ty t=some i) {a v:D} {ua uv:Value} (ha:cy w (ah C w S Hx) S a ua) (hv:cy w (ah C w S Hx) S v uv) {qH:Nat→Bool} (hs:ve st qH i.size a v=some st'):
    ∃ w' S',(Instr.storeAt t ua uv).run P w=.ok () w'∧Rel C Hx w' st' aI S'∧st'.of=st.of:=by
  cases a with
  | ptr r q o=>
    simp only [ve] at hs
    split at hs
    case isFalse=>simp at hs
    rename_i hc
    obtain ⟨hlen,wL⟩:=hc
    obtain ⟨R,b,off,hR,CX,rfl⟩:=uU h.rt h.mem wL ha
    have cV:=(av.ty _ _ ht).sz w
    have hp:bB w (ah C w S Hx) S (.ptr r q 0) (.pointer (some ⟨b,off,none⟩)):=by
      intro R' eu
      rw [hR,Option.some.injEq] at eu
      subst eu
      refine ⟨(ha R hR).1,fun b' Eo e=>?_⟩
      rw [CX,Option.some.injEq,Prod.mk.injEq] at e
      obtain ⟨rfl,rfl⟩:=e
      rfl
    have hsa:∀ A:Addr,(Instr.sureAddr (.pointer (some A))).run P w=.ok A w:=fun A=>rfl
    have run:∀ {us:List Value} {w':World},uv.cells.toList=us→us.length=i.size→(storeCells ⟨b,off+o,none⟩ us 0).run P w=.ok () w'→(Instr.storeAt t (.pointer (some ⟨b,off+o,none⟩)) uv).run P w=.ok () w':=by
      intro us w' e1 e2 e3
      have e4:uv.cells.size=i.size:=by rw [← e2,← e1]; simp
      simp only [Instr.storeAt,Sem.run_bind,hsa,Result.andThen_ok,storeVar,cV]
      simp only [e4,ne_eq,not_true_eq_false,if_false,Sem.run_bind,Sem.run_pure,Result.andThen_ok,e1]
      exact e3
    have km:∀ {ds:List D},nO st r o id ds=some st'∨jc st r q o id ds=some st'→ds=cellsOf v→(∀ cs,v≠.agg cs)→fK st v=true∨∃ d' aQ,jf st v=some (d',aQ)∧da d'=true:=by
      intro ds h1 h2 h3
      have hc:cellsOf v=[v]:=by cases v<;>first | rfl | exact absurd rfl (h3 _)
      rw [hc] at h2
      subst h2
      rcases h1 with h1 | h1
      · simp only [nO,id] at h1
        split at h1
        · simp at h1
        rename_i cQ
        simp only [Bool.not_eq_true',Bool.not_eq_false] at cQ
        exact .inl cQ
      · simp only [jc,id] at h1
        split at h1
        · rename_i hh
          simp only [Bool.and_eq_true] at hh
          exact .inl hh.2
        split at h1
        case h_2=>simp at h1
        rename_i d' aQ dD
        split at h1
        · simp at h1
        rename_i gJ
        simp only [Bool.not_eq_true',Bool.not_eq_false] at gJ
        exact .inr ⟨d',aQ,dD,gJ⟩
    have po:∀ {ds:List D},nO st r o id ds=some st'∨jc st r q o id ds=some st'→ds=cellsOf v→cj (bB w (ah C w S Hx) S) (cellsOf v) uv.cells.toList:=by
      intro ds h1 h2
      by_cases eA:∃ cs,v=.agg cs
      · obtain ⟨cs,rfl⟩:=eA
        obtain ⟨us,rfl,hh⟩:=hv
        exact hh
      · have h3:∀ cs,v≠.agg cs:=fun cs e=>eA ⟨cs,e⟩
        rcases km h1 h2 h3 with h4 | ⟨d',aQ,h4,h5⟩
        · exact UY h.rt h.mem hv (fun _=>h4)
        · have hc:cellsOf v=[v]:=by cases v<;>first | rfl | exact absurd rfl (h3 _)
          have lH:bB w (ah C w S Hx) S v uv:=by
            cases v<;>first | exact hv | (simp [jf] at h4; done) | exact absurd rfl (h3 _)
          obtain ⟨t',S1,a1,rfl,a3,_⟩:=uV h lH h4
          have dw:=a1.mem.hand
          simp only [bM] at dw
          have:=(mJ dw.1 h5).2
          rw [a3] at this
          rw [hc,this]
          exact .cons lH .nil
    cases q with
    | nil=>
      have hb:∃ b',R.box=some b'∧b'=b∧off=0:=by
        simp only [cb] at CX
        cases hx:R.box with
        | none=>simp [hx] at CX
        | some b'=>simp only [hx,Option.map_some,Option.some.injEq,Prod.mk.injEq] at CX; exact ⟨b',rfl,CX.1,CX.2.symm⟩
      obtain ⟨b',hb,rfl,rfl⟩:=hb
      simp only at hs
      split at hs
      · split at hs
        case h_2=>simp at hs
        rename_i cs aQ dD
        obtain ⟨ts,S1,b1,rfl,b3,b4,b5,b6⟩:=qT h hv dD
        have Xs:=LD (st:=aQ) (st':=st') hs
        obtain ⟨R1,k1,k2,_⟩:=b5.fwd r R hR
        have dZ:=((dP _ _).1 b1.mem.hand).1
        rw [cr] at dZ
        have gO:aD ts=uv.cells.toList:=by
          by_cases eA:∃ cs,v=.agg cs
          · obtain ⟨cs,rfl⟩:=eA
            exact b3
          · have A3:gP v uv=[uv]:=by cases v<;>first | rfl | exact absurd ⟨_,rfl⟩ eA
            rw [A3] at b3
            rw [b3]
            cases ts with
            | nil=>simp [aD] at b3
            | cons y ys=>
              simp only [aD,List.cons.injEq] at b3
              have:=mJ (dZ y (by simp)) (Xs y.er (by simp [bw]))
              rw [b3.1] at this
              rw [this.2]
        have ZP:(bw ts).length=i.size:=by
          rw [← hlen]
          have h1:=congrArg List.length gO
          rw [bS] at h1
          rw [fq,h1]
          by_cases eA:∃ cs,v=.agg cs
          · obtain ⟨cs,rfl⟩:=eA
            obtain ⟨us,rfl,hh⟩:=hv
            have:=hh.len
            simp only [cellsOf,Value.cells]
            exact this.symm
          · have A3:gP v uv=[uv]:=by cases v<;>first | rfl | exact absurd ⟨_,rfl⟩ eA
            have m8:cellsOf v=[v]:=by cases v<;>first | rfl | exact absurd ⟨_,rfl⟩ eA
            rw [A3] at b3
            rw [← gO,b3,m8]; rfl
        obtain ⟨w',S',c1,c2,c3⟩:=Oc (P:=P) (b:=b') (off:=0+o) (i:=0) b1 ⟨R1,k1,k2.trans hb⟩ (by omega) hs
        refine ⟨w',S',?_,c2,c3.trans b6.2.2⟩
        exact run gO.symm (by rw [bS]; rw [fq] at ZP; exact ZP) c1
      · have dY:=po (.inl hs) rfl
        obtain ⟨w',S',c1,c2,c3⟩:=QI (P:=P) (b:=b') (off:=0+o) (i:=0) h ⟨R,hR,hb⟩ dY (by omega) hs
        exact ⟨w',S',run rfl (by rw [← dY.len]; exact hlen) c1,c2,c3⟩
    | cons p q=>
      simp only at hs
      have dY:=po (.inr hs) rfl
      obtain ⟨w',S',c1,c2,c3⟩:=QJ (P:=P) (b:=b) (off0:=off) (off:=off+o) (i:=0) h hp dY (by omega) hs
      exact ⟨w',S',run rfl (by rw [← dY.len]; exact hlen) c1,c2,c3⟩
  | _=>simp [ve] at hs
end
end Go.Proofs.YtockoilcnmljiaaGreat
namespace Go.Proofs.YtockoilcnmljiaaGreat
theorem vw {b:Nat}:∀ (vs:List Value) (o:Nat) (w:World) {c:Array Value} {e:TypeId} {fz:Nat × Nat},w.heap[b]?=some (.cells c e fz)→o+vs.length≤c.size→
    ∃ c':Array Value,(w.setCells b o vs).heap[b]?=some (.cells c' e fz)∧c'.size=c.size∧(∀ (j:Nat) (u:Value),vs[j]?=some u→c'[o+j]?=some u)∧(∀ i,i < o∨o+vs.length≤i→c'[i]?=c[i]?)∧(∀ k,k≠b→(w.setCells b o vs).heap[k]?=w.heap[k]?)∧
      (w.setCells b o vs).heap.size=w.heap.size∧(w.setCells b o vs).os=w.os∧(w.setCells b o vs).tape=w.tape∧(w.setCells b o vs).output=w.output
  | [],o,w,c,e,fz,h,_=>⟨c,h,rfl,by simp,fun _ _=>rfl,fun _ _=>rfl,rfl,rfl,rfl,rfl⟩
  | v::vs,o,w,c,e,fz,h,hl=>by
    have h1:(w.setCell ⟨b,o,none⟩ v).heap[b]?=some (.cells (c.setIfInBounds o v) e fz):=by
      simp [World.setCell,Array.getElem?_modify,h]
    simp only [List.length_cons] at hl
    obtain ⟨c',g1,g2,g3,g4,g5,g6,g7,g8,g9⟩:=vw vs (o+1) (w.setCell ⟨b,o,none⟩ v) h1 (by simp; omega)
    refine ⟨c',g1,by rw [g2]; simp,?_,?_,?_,?_,g7,g8,g9⟩
    · intro j u hj
      cases j with
      | zero=>
        simp only [List.getElem?_cons_zero,Option.some.injEq] at hj
        subst hj
        rw [Nat.add_zero,g4 o (.inl (by omega)),Array.getElem?_setIfInBounds_self_of_lt (by omega)]
      | succ j=>
        simp only [List.getElem?_cons_succ] at hj
        have:=g3 j u hj
        rw [show o+(j+1)=o+1+j by omega]; exact this
    · intro i hi
      rw [g4 i (by simp only [List.length_cons] at hi; omega),Array.getElem?_setIfInBounds_ne (by simp only [List.length_cons] at hi; omega)]
    · intro k hk
      rw [World.setCells,g5 k hk]
      simp only [World.setCell,Array.getElem?_modify]
      rw [if_neg (by simpa using Ne.symm hk)]
    · rw [World.setCells,g6]; simp [World.setCell]
section
variable {C:Ctx} {H:List T} {w:World} {st st':St} {aI:List (Array Value)} {S:List (Nat × RT)}
theorem U1 {Ys:List T} {s n cap m b off:Nat} {ts:List T} (h:Rel C (Ys++.own s n cap (some (b,off)) ts::H) w st aI S) (hm:Ys.length=m*s) (hc:n+m≤cap):
    Rel C (.own s (n+m) cap (some (b,off)) (ts++Ys)::H) (w.setCells b (off+n*s) (aD Ys)) st aI S∧
    hM C w (w.setCells b (off+n*s) (aD Ys)) S S (Ys++.own s n cap (some (b,off)) ts::H) (.own s (n+m) cap (some (b,off)) (ts++Ys)::H) id:=by
  have dw:=h.mem.hand
  rw [dP] at dw
  obtain ⟨hY,hT⟩:=dw
  simp only [bM,bL] at hT
  obtain ⟨⟨h1,h2,eW,h4⟩,hH⟩:=hT
  obtain ⟨c,e,fz,g1,g2,g3,g4⟩:=eW
  have hmul:n*s+m*s≤cap*s:=by rw [← Nat.add_mul]; exact Nat.mul_le_mul_right _ hc
  obtain ⟨c',k1,k2,k3,k4,k5,k6,k7,k8,k9⟩:=vw (aD Ys) (off+n*s) w g1 (by rw [bS,hm]; omega)
  generalize w.setCells b (off+n*s) (aD Ys)=w' at k1 k5 k6 k7 k8 k9 ⊢
  have ZQ:(ai (.own s (n+m) cap (some (b,off)) (ts++Ys)::H)).Perm (ai (Ys++.own s n cap (some (b,off)) ts::H)):=by
    refine List.perm_iff_count.2 fun a=>?_
    simp only [ai,bj,T.ft,jg,List.count_append]
    omega
  have dn:∀ k,k∈ai (.own s (n+m) cap (some (b,off)) (ts++Ys)::H)↔k∈ai (Ys++.own s n cap (some (b,off)) ts::H):=fun k=>ZQ.mem_iff
  have hb:b∈ai (Ys++.own s n cap (some (b,off)) ts::H):=by simp [bj,ai,T.ft,jg]
  have fr:=h.mem.nd
  have cE:ju w w' (ah C w S (Ys++.own s n cap (some (b,off)) ts::H)) (ah C w' S (.own s (n+m) cap (some (b,off)) (ts++Ys)::H)):=by
    intro bb k hk
    exact ⟨⟨by rw [k6]; exact hk.1,hk.2.1,fun hx=>hk.2.2.1 ((dn k).1 hx),hk.2.2.2⟩,k5 k (fun e=>hk.2.2.1 (e▸hb))⟩
  have dW:∀ d u,bB w (ah C w S (Ys++.own s n cap (some (b,off)) ts::H)) S d u→bB w' (ah C w' S (.own s (n+m) cap (some (b,off)) (ts++Ys)::H)) S d u:=fun d u hd=>tD cE (fun _ _ h=>h) hd
  have U2:∀ k,k∈cL S∨k∈ai ts∨k∈ai Ys∨k∈ai H→k≠b:=by
    intro k hk e
    subst e
    have hn2:(cL S++(ai Ys++(k::ai ts++ai H))).Nodup:=by
      have:=fr
      rw [bj,ai,T.ft,jg] at this
      simpa using this
    have p1:(cL S++(ai Ys++(k::ai ts++ai H))).Perm (k::(cL S++(ai Ys++(ai ts++ai H)))):=by
      refine List.perm_iff_count.2 fun a=>?_
      simp only [List.count_append,List.count_cons]
      omega
    have U3:=p1.nodup_iff.1 hn2
    simp only [List.nodup_cons,List.mem_append] at U3
    rcases hk with hk | hk | hk | hk
    · exact U3.1 (.inl hk)
    · exact U3.1 (.inr (.inr (.inl hk)))
    · exact U3.1 (.inr (.inl hk))
    · exact U3.1 (.inr (.inr (.inr hk)))
  refine ⟨h.so h.rt rfl rfl dW ⟨(List.Perm.append_left _ ZQ).nodup_iff.2 fr,?_,?_,fun k hk=>?_⟩ ?_,dW⟩
  · intro r R hR
    obtain ⟨q1,q2⟩:=h.mem.root r R hR
    have hRS:∀ k∈R.ft,k∈cL S:=fun k hk=>DR hR hk
    refine ⟨?_,fun t ht=>?_⟩
    · cases hx:R.box with
      | none=>trivial
      | some b0=>
        simp only [hx] at q1 ⊢
        obtain ⟨c0,e0,fz0,r1,r2⟩:=q1
        exact ⟨c0,e0,fz0,by rw [k5 b0 (U2 b0 (.inl (hRS b0 (by simp [RT.ft,hx]))))]; exact r1,r2⟩
    · have:=q2 t ht
      cases t with
      | v d u=>
        rcases this with this | ⟨hb,this⟩
        · exact .inl (gv cE _ _ this)
        · exact .inr ⟨hb,dW _ _ this⟩
      | own s' n' uj a' xs=>exact dO cE _ this (fun k hk=>k5 k (U2 k (.inl (hRS k (by simp [RT.ft,CW ht hk])))))
  · simp only [bM,bL]
    refine ⟨⟨hc,by rw [List.length_append,h2,hm,Nat.add_mul],⟨c',e,fz,k1,by rw [k2]; exact g2,by rw [k2]; exact g3,fun j u hj=>?_⟩,?_⟩,gy cE _ hH (fun k hk=>k5 k (U2 k (.inr (.inr (.inr hk)))))⟩
    · rw [AF] at hj
      by_cases hjl:j < (aD ts).length
      · rw [List.getElem?_append_left hjl] at hj
        rw [k4 _ (.inl (by rw [bS,h2] at hjl; omega))]
        exact g4 j u hj
      · rw [List.getElem?_append_right (by omega)] at hj
        have:=k3 _ u hj
        rw [bS,h2] at this hjl
        rw [show off+j=off+n*s+(j - n*s) by omega]
        exact this
    · rw [dP]
      exact ⟨gy cE _ h4 (fun k hk=>k5 k (U2 k (.inr (.inl hk)))),gy cE _ hY (fun k hk=>k5 k (U2 k (.inr (.inr (.inl hk)))))⟩
  · rw [k6]
    refine h.mem.lt k ?_
    rcases List.mem_append.1 hk with hk | hk
    · exact List.mem_append.2 (.inl hk)
    · exact List.mem_append.2 (.inr ((dn k).1 hk))
  · refine ⟨by rw [k7]; exact h.kept.os,by rw [k8]; exact h.kept.tape,by rw [k9]; exact h.kept.output,by rw [k6]; exact h.kept.size,fun k q1 q2=>?_,fun k hk=>?_,h.kept.par⟩
    · rw [k5 k (fun e=>?_)]
      · exact h.kept.block k q1 q2
      · subst e
        rcases h.kept.iE k (List.mem_append.2 (.inr hb)) with h3 | h3
        · exact q2 h3
        · omega
    · refine h.kept.iE k ?_
      rcases List.mem_append.1 hk with hk | hk
      · exact List.mem_append.2 (.inl hk)
      · exact List.mem_append.2 (.inr ((dn k).1 hk))
theorem sZ (h:Rel C H w st aI S):∀ {ds:List D} {us:List Value},cj (Ext w (ah C w S H)) ds us→∃ Ys,Rel C (Ys++H) w st aI S∧bw Ys=ds∧aD Ys=us∧ai Ys=[]:=by
  intro ds
  induction ds with
  | nil=>intro us hu; cases hu; exact ⟨[],h,rfl,rfl,rfl⟩
  | cons d ds ih=>
    intro us hu
    cases hu with
    | cons h1 h2=>
    obtain ⟨Ys,a1,a2,a3,a4⟩:=ih h2
    rename_i u us
    have km:bQ d=d:=by
      cases d with
      | sl g s n cs=>cases g with
        | none=>simp [Ext] at h1
        | some g=>rfl
      | _=>rfl
    have DQ:ah C w S (Ys++H)=ah C w S H:=by
      funext b k
      simp only [ah,bj,a4,List.nil_append]
    exact ⟨.v d u::Ys,Gi a1 (by rw [DQ]; exact h1) km,by simp [bw,T.er,km,a2],by simp [aD,T.val,a3],by simp [ai,T.ft,a4]⟩
end
end Go.Proofs.YtockoilcnmljiaaGreat
namespace Go.Proofs.YtockoilcnmljiaaGreat
structure Xv (P:Program) (t tx ty e:TypeId) (inf:TypeInfo) (z:Value) (w:World) (ux:Value) (m:Nat) (news:List Value):Prop where
  nil:m=0→news=[]→(Builtin.append_ #[t,tx] ty #[.slice none 0 0,ux]).run P w=.ok (.slice none 0 0) w
  room:∀ b off n cap,n+m≤cap→(n+m)*inf.bytes≤140737488355328→0 < inf.bytes→(∀ j,j < news.length→(w.cell? ⟨b,off+n*inf.size+j,none⟩).isSome=true)→(∀ j,j < news.length→w.frozen? ⟨b,off+n*inf.size+j,none⟩=false)→
    (Builtin.append_ #[t,tx] ty #[.slice (some ⟨b,off,none⟩) n cap,ux]).run P w=.ok (.slice (some ⟨b,off,none⟩) (n+m) cap) (w.setCells b (off+n*inf.size) news)
  grow:∀ base n cap IP,(Builtin.firstCells inf.size n (.slice base n cap)).run P w.drew=.ok (List.toArray IP) w.drew→cap < n+m→(n+m)*inf.bytes≤140737488355328→0 < inf.bytes→
    (Builtin.append_ #[t,tx] ty #[.slice base n cap,ux]).run P w=.ok (.slice (some ⟨w.heap.size,0,none⟩) (n+m) (grownCap w (n+m) cap e)) (w.drew.alloc (.cells ((IP++news).toArray++Builtin.zeroCells z.cells (grownCap w (n+m) cap e - (n+m))) e))
section
variable {P:Program} {w:World} {t tx ty e:TypeId} {inf:TypeInfo} {z:Value} (ht:P.underlying t=some (.slice e)) (hi:P.info? e=some inf) (hz:inf.zero=some z)
include ht hi hz
theorem Xw {ux:Value} {m:Nat} {news:List Value} (hs:Src P inf.size tx ux m news w):Xv P t tx ty e inf z w ux m news:=by
  refine ⟨fun hm hn=>?_,fun b off n cap h1 _ _ h2 h3=>run_append_room_src w t tx ty e inf ht hi b off n cap ux m news hs h1 h2 h3,fun base n cap IP h1 h2 h3 h4=>?_⟩
  · subst hm; subst hn
    have hc:=hs.cells
    rcases hs.kind with ⟨e',hk⟩ | hk<;>simp [Builtin.append_,run_underlying ht,run_underlying hk,sizeOf,typeInfo,hi,hs.len,hc]
  · have hsm:(n+m)*1≤(n+m)*inf.bytes:=Nat.mul_le_mul_left _ h4
    exact run_append_grow_src w t tx ty e inf z ht hi hz base n cap IP h1 ux m news hs h2 (by omega) (growslice_fits h2 h3)
theorem Tn {k kx:IntKind} (nX:P.underlying tx=some (.int k)) (lG:z.cells.size=inf.size) (cV:0 < inf.size) (m:Nat) (h1:∀ u∈z.cells.toList,u.oneCell'=true):Xv P t tx ty e inf z w (.int kx m) m (List.replicate m z.cells.toList).flatten:=by
  have hzc:Builtin.zeroCells z.cells m=(List.replicate m z.cells.toList).flatten.toArray:=by
    apply Array.ext'
    simp only [Builtin.zeroCells,Array.toList_map,Array.toList_range]
    exact AS z.cells m
  have xx:∀ u∈(List.replicate m z.cells.toList).flatten,u.oneCell'=true:=by
    intro u hu
    simp only [List.mem_flatten,List.mem_replicate] at hu
    obtain ⟨l,⟨_,rfl⟩,hu⟩:=hu
    exact h1 u hu
  refine ⟨fun hm _=>?_,fun b off n cap h2 h3 Gs h4 h5=>?_,fun base n cap IP h2 h3 h4 h5=>?_⟩
  · subst hm
    have KP:IntKind.i64.wrap 0=0:=by rw [IntKind.wrap_i64]; rfl
    simp [Builtin.append_,run_underlying ht,run_underlying nX,sizeOf,typeInfo,hi,asInt,asIntOf,KP]
  · have hsm:(n+m)*1≤(n+m)*inf.bytes:=Nat.mul_le_mul_left _ Gs
    have hw:IntKind.i64.wrap (m:Int)=m:=by rw [IntKind.wrap_i64]; omega
    have ah3:¬ ((m:Int) < 0):=by omega
    have hmb:m*inf.bytes≤140737488355328:=Nat.le_trans (Nat.mul_le_mul_right _ (Nat.le_add_left m n)) h3
    have ah4:¬ (281474976710656 < (m:Int)*(inf.bytes:Int)):=by
      rw [← Int.natCast_mul]
      omega
    have cE:=run_storeCells_cells (P:=P) b (off+n*inf.size) (List.replicate m z.cells.toList).flatten 0 w (by simpa using h4) (by simpa using h5) xx
    simp only [Nat.add_zero] at cE
    by_cases hm:m=0
    · subst hm
      simp only [List.replicate_zero,List.flatten_nil] at cE ⊢
      have KP:IntKind.i64.wrap 0=0:=by rw [IntKind.wrap_i64]; rfl
      simp at h2
      simp [Builtin.append_,run_underlying ht,run_underlying nX,sizeOf,typeInfo,hi,asInt,asIntOf,KP,h2,storeCells]
      rfl
    · have hns:¬ (m*inf.size=0):=Nat.mul_ne_zero hm (by omega)
      simp [Builtin.append_,run_underlying ht,run_underlying nX,sizeOf,typeInfo,zeroValue,hi,hz,asInt,asIntOf,hw,ah3,ah4,h2,hns,hzc,Addr.add_lit,cE]
  · have hsm:(n+m)*1≤(n+m)*inf.bytes:=Nat.mul_le_mul_left _ h5
    have mc:=growslice_fits h3 h4
    have hmb:m*inf.bytes≤140737488355328:=Nat.le_trans (Nat.mul_le_mul_right _ (Nat.le_add_left m n)) h4
    by_cases hm:m=0
    · subst hm
      have KP:IntKind.i64.wrap 0=0:=by rw [IntKind.wrap_i64]; rfl
      simp only [Nat.add_zero] at mc h3 hsm h4
      have ah5:¬ (281474976710656 < Builtin.nextslicecap n cap*inf.bytes):=by omega
      have h63:¬ (9223372036854775807 < (n:Int)):=by omega
      have hn:¬ (n≤cap):=by omega
      simp [Builtin.append_,run_underlying ht,run_underlying nX,sizeOf,typeInfo,zeroValue,hi,hz,asInt,asIntOf,KP,hn,h63,ah5,Question.forced,h2,newRow,grownCap]
    · have:=Lib.run_append_grow_zeros w t tx ty e inf z kx k ht nX hi hz base n cap IP h2 m (by omega) cV h3 (by omega) (by omega) mc
      rw [this,hzc]
      congr 3
      apply Array.ext'
      simp
end
end Go.Proofs.YtockoilcnmljiaaGreat
namespace Go.Proofs.YtockoilcnmljiaaGreat
def pO (x:Option (Nat × Nat)) (s:Nat) (ts:List T):List T:=
  match x with
  | none=>ts
  | some (l,m)=>(ts.drop (l*s)).take (m*s)
theorem U4 (x:Option (Nat × Nat)) (s n:Nat) (ts:List T):bw (pO x s ts)=(trim x s n (bw ts)).2:=by
  cases x with
  | none=>rfl
  | some p=>simp only [pO,trim,AG,AH]
theorem Xx {w:World} {X:Bool→Nat→Prop} {s n cap:Nat} {a:Option (Nat × Nat)} {ts:List T} (hs:bL w X (.own s n cap a ts)) {x:Option (Nat × Nat)} {u:Value} (hr:eS x (.own s n cap a ts) u):
    ∃ uj a',u=wE a' (trim x s n (bw ts)).1 uj∧bL w X (.own s (trim x s n (bw ts)).1 uj a' (pO x s ts)):=by
  cases x with
  | none=>
    simp only [eS,sn,T.er] at hr
    exact ⟨cap,a,hr,hs⟩
  | some p=>
    obtain ⟨l,m⟩:=p
    simp only [eS,sn,T.er,T.val,wE,Value.slice.injEq] at hr
    obtain ⟨h1,base,C,k,⟨h2,_,h3⟩,h4,rfl,h5⟩:=hr
    subst h2; subst h3
    simp only [bL] at hs
    obtain ⟨g1,g2,g3,g4⟩:=hs
    refine ⟨cap - l,a.map fun p=>(p.1,p.2+k*s),?_,?_⟩
    · simp only [wE,Option.map_map,trim]
      congr 1
      cases a<;>simp [eZ]
    · simp only [bL,trim,pO]
      refine ⟨by omega,?_,?_,?_⟩
      · rw [List.length_take,List.length_drop,g2]
        have:l*s+m*s≤n*s:=by rw [← Nat.add_mul]; exact Nat.mul_le_mul_right _ h1
        omega
      · cases a with
        | none=>simp only at g3; simp only [Option.map_none]; omega
        | some p=>
          obtain ⟨b,off⟩:=p
          simp only [Option.map_some]
          obtain ⟨c,e,fz,k1,k2,k3,k4⟩:=g3
          refine ⟨c,e,fz,k1,k2,?_,?_⟩
          · rcases h5 with h5 | h5
            · rw [h5]
              have:k*s≤cap*s:=Nat.mul_le_mul_right _ h4
              omega
            · subst h5
              have:k*s+(cap - k)*s=cap*s:=by rw [← Nat.add_mul]; congr 1; omega
              omega
          · intro j u hj
            rw [cW,List.map_take,List.map_drop,← cW,List.getElem?_take] at hj
            split at hj
            · rename_i cX
              rw [List.getElem?_drop] at hj
              have hm:m≠0:=fun e=>by simp [e] at cX
              have:k=l:=by omega
              subst this
              rw [Nat.add_assoc]
              exact k4 _ _ hj
            · simp at hj
      · rw [cr] at g4 ⊢
        exact fun t ht=>g4 t (List.mem_of_mem_drop (List.mem_of_mem_take ht))
theorem QK {w:World} {X:Bool→Nat→Prop}:∀ {ts:List T},bM w X ts→(bw ts).all gG=true→cj (Ext w X) (bw ts) (aD ts):=by
  intro ts
  induction ts with
  | nil=>intro _ _; exact .nil
  | cons t ts ih=>
    intro hs hf
    simp only [bM] at hs
    simp only [bw,List.all_cons,Bool.and_eq_true] at hf
    refine .cons ?_ (ih hs.2 hf.2)
    cases t with
    | v d u=>exact hs.1
    | own s n cap a cs=>simp [T.er,gG] at hf
theorem Of {d:D} (h:gG d=true):da d=true:=by
  cases d<;>first | rfl | simp [gG] at h
section
variable {P:Program} {w:World}
theorem A4 {sz:Nat} {tx e':TypeId} (hk:P.underlying tx=some (.slice e')) {base:Option Addr} {n cap:Nat} {news:List Value} (hl:news.length=n*sz) (cV:0 < sz)
    (hm:news=[]∨∃ b off,base=some ⟨b,off,none⟩∧∀ (j:Nat) (v:Value),news[j]?=some v→w.cell? ⟨b,off+j,none⟩=some v) (h1:∀ v∈news,v.oneCell'=true):Src P sz tx (.slice base n cap) n news w:=by
  by_cases hn:n=0
  · subst hn
    have:news=[]:=List.length_eq_zero_iff.1 (by rw [hl]; simp)
    subst this
    cases base with
    | none=>exact Src.ofNil w hk cap
    | some a=>exact Src.ofSlice w hk a 0 cap [] (by simp) (by simp) (by simp)
  · rcases hm with rfl | ⟨b,off,rfl,hm⟩
    · have:n*sz=0:=by rw [← hl]; rfl
      rcases Nat.mul_eq_zero.1 this with h | h<;>omega
    · exact Src.ofSlice w hk _ n cap news hl (fun j u hj=>by rw [eZ]; exact hm j u hj) h1
theorem vx {c:cB} (av:ez c P) {tx:TypeId} (h:(match c.ty tx with | some ⟨.slice _,_,_,_⟩=>true | _=>false)=true):∃ e',P.underlying tx=some (.slice e'):=by
  split at h
  · rename_i e _ _ _ heq
    obtain ⟨d,h1,h2⟩:=(av.ty _ _ heq).desc
    simp only [kD] at h2
    subst h2
    exact ⟨e,h1⟩
  · simp at h
end
section
variable {P:Program} {c:cB} (av:ez c P) {C:Ctx} {H:List T} {w:World} {st st':St} {aI:List (Array Value)} {S:List (Nat × RT)}
include av
theorem U5 (h:Rel C H w st aI S) {d:D} {u:Value} (hd:cy w (ah C w S H) S d u) {flat:Bool} {sz:Nat} (cV:0 < sz) {zs:List D} (hint:∀ k n,d≠.int k n) {ys:List D} {m:Nat} (he:elems st flat zs sz d=some (ys,m,st')) {tx:TypeId} (nX:IG c tx d=true):
    ∃ Ys S',Rel C (Ys++H) w st' aI S'∧bw Ys=ys∧Ys.length=m*sz∧Src P sz tx u m (aD Ys) w∧st'.of=st.of∧st'.tm=st.tm∧st'.up=st.up:=by
  have ext:∀ {g:Bool} {s n:Nat} {cs:List D},Ext w (ah C w S H) (.sl (some g) s n cs) u→s=sz→cs.all da=true→(∃ e',P.underlying tx=some (.slice e'))→
      ∃ Ys S',Rel C (Ys++H) w st aI S'∧bw Ys=cs∧Ys.length=n*sz∧Src P sz tx u n (aD Ys) w:=by
    intro g s n cs hx hs hc ⟨e',hk⟩
    subst hs
    simp only [Ext] at hx
    obtain ⟨base,cap,us,rfl,h1,h2,h3,h4⟩:=hx
    have dY:=(gZ _ _).1 h3
    obtain ⟨Ys,a1,a2,a3,a4⟩:=sZ h dY
    have xx:∀ v∈us,v.oneCell'=true:=by
      intro v hv
      obtain ⟨i,hi⟩:=List.mem_iff_getElem?.1 hv
      have cX:i < cs.length:=by rw [dY.len]; exact (List.getElem?_eq_some_iff.1 hi).1
      obtain ⟨v',g1,g2⟩:=dY.get (List.getElem?_eq_getElem cX)
      rw [hi,Option.some.injEq] at g1
      subst g1
      exact (IL g2 (List.all_eq_true.1 hc _ (List.getElem_mem cX))).1
    refine ⟨Ys,S,a1,a2,by rw [← fq,a2,h2],?_⟩
    rw [a3]
    refine A4 hk (by rw [← dY.len,h2]) cV ?_ xx
    rcases h4 with h4 | ⟨k,off,c0,e0,fz,rfl,_,g1,g2⟩
    · left
      subst h4
      cases dY
      rfl
    · exact .inr ⟨k,off,rfl,fun j v hj=>by simp [World.cell?,g1,g2 j v hj]⟩
  cases d with
  | int k n=>exact absurd rfl (hint k n)
  | str s=>
    simp only [elems] at he
    split at he
    case isFalse=>simp at he
    rename_i wM
    subst wM
    simp only [Option.some.injEq,Prod.mk.injEq] at he
    obtain ⟨rfl,rfl,rfl⟩:=he
    have hu:u=.string s:=hd
    subst hu
    have dY:cj (Ext w (ah C w S H)) (s.data.toList.map du) (byteCells s):=by
      refine dq (by simp [byteCells]) (fun i a b ha hb=>?_)
      simp only [byteCells,List.getElem?_map] at ha hb
      cases hx:s.data.toList[i]? with
      | none=>simp [hx] at ha
      | some y=>
        simp only [hx,Option.map_some,Option.some.injEq] at ha hb
        subst ha; subst hb
        rfl
    obtain ⟨Ys,a1,a2,a3,a4⟩:=sZ h dY
    refine ⟨Ys,S,a1,a2,?_,?_,rfl,rfl,rfl⟩
    · rw [← bS,a3,byteCells_length,Nat.mul_one]
    · rw [a3]
      refine Src.ofString w ?_ s
      simp only [IG] at nX
      split at nX
      · rename_i heq
        obtain ⟨d,h1,h2⟩:=(av.ty _ _ heq).desc
        simp only [kD] at h2
        subst h2
        exact h1
      · simp at nX
  | nil s=>
    simp only [elems,Option.some.injEq,Prod.mk.injEq] at he
    obtain ⟨rfl,rfl,rfl⟩:=he
    have hu:u=.slice none 0 0:=hd
    subst hu
    obtain ⟨e',hk⟩:=vx av nX
    exact ⟨[],S,h,rfl,by simp,by simp only [aD]; exact Src.ofNil w hk 0,rfl,rfl,rfl⟩
  | sl g s n cs=>
    cases g with
    | none=>simp [elems] at he
    | some g=>
      simp only [elems] at he
      split at he
      case isFalse=>simp at he
      rename_i hc
      simp only [Option.some.injEq,Prod.mk.injEq] at he
      obtain ⟨rfl,rfl,rfl⟩:=he
      obtain ⟨Ys,S',a1,a2,a3,a4⟩:=ext hd hc.1 hc.2 (vx av nX)
      exact ⟨Ys,S',a1,a2,a3,a4,rfl,rfl,rfl⟩
  | ref r q o x=>
    simp only [elems] at he
    split at he
    · rename_i s n cs hc
      obtain ⟨R,l,t0,g1,g2,g3,g4,g5⟩:=iS h.rt hc
      obtain ⟨cap,a,ts,rfl,rfl⟩:=F1 g5.symm
      have dZ:=tA h.mem g1 g2 g3 (g:=none) (s:=s) (n:=n) (cs:=bw ts) rfl
      obtain ⟨uj,a',hu,Np⟩:=Xx dZ (hd _ g4)
      simp only [bL] at Np
      obtain ⟨k1,k2,k3,k4⟩:=Np
      split at he
      · simp at he
      rename_i hss
      simp only [ne_eq,Decidable.not_not] at hss
      subst hss
      have dn:aD (pO x s ts)=[]∨∃ b off,a'.map (fun p=>(⟨p.1,p.2,none⟩:Addr))=some ⟨b,off,none⟩∧∀ (j:Nat) (v:Value),(aD (pO x s ts))[j]?=some v→w.cell? ⟨b,off+j,none⟩=some v:=by
        cases a' with
        | none=>
          left
          have:(pO x s ts).length=0:=by rw [k2]; simp only at k3; rw [k3.1]; simp
          rw [List.length_eq_zero_iff.1 this]; rfl
        | some p=>exact .inr ⟨p.1,p.2,rfl,fun j v hj=>vn k3 hj⟩
      rw [← U4] at he
      split at he
      · rename_i ta
        split at he
        case isFalse=>simp at he
        rename_i hf
        simp only [Option.some.injEq,Prod.mk.injEq] at he
        obtain ⟨rfl,rfl,rfl⟩:=he
        obtain ⟨Ys,b1,b2,b3,b4⟩:=sZ h (QK k4 hf)
        obtain ⟨e',hk⟩:=vx av nX
        refine ⟨Ys,S,b1,b2,by rw [← fq,b2,fq,k2],?_,rfl,rfl,rfl⟩
        rw [b3,hu]
        refine A4 hk (by rw [bS,k2]) cV dn (fun v hv=>?_)
        rw [cW] at hv
        obtain ⟨t,ht,rfl⟩:=List.mem_map.1 hv
        exact (mJ ((cr _).1 k4 t ht) (Of (List.all_eq_true.1 hf t.er (by rw [eL]; exact List.mem_map.2 ⟨t,ht,rfl⟩)))).1
      · split at he
        case h_2=>simp at he
        rename_i ys1 aQ dD
        split at he
        case isFalse=>simp at he
        rename_i gJ
        simp only [Option.some.injEq,Prod.mk.injEq] at he
        obtain ⟨rfl,rfl,rfl⟩:=he
        have po:aw R.cs (q++[o])=some ts:=(NR (bx:=R.box) g2 g3).2
        have dY:cj (bB w (ah C w S H) S) (lI r (q++[o]) (off x*s) (bw (pO x s ts))) (aD (pO x s ts)):=by
          refine dq (by rw [qj,fq,bS]) (fun i y v hy hv=>?_)
          rw [nV,iv] at hy
          rw [fk] at hv
          cases hx:(pO x s ts)[i]? with
          | none=>simp [hx] at hy
          | some t=>
            simp only [hx,Option.map_some,Option.some.injEq] at hy hv
            subst hy; subst hv
            refine qi h.mem g1 po ?_
            cases x with
            | none=>simp only [pO] at hx; simp only [off]; rw [Nat.zero_mul,Nat.zero_add]; exact hx
            | some p=>
              simp only [pO] at hx
              rw [List.getElem?_take] at hx
              split at hx
              · rw [List.getElem?_drop] at hx; exact hx
              · simp at hx
        obtain ⟨Ys,S',b1,b2,b3,b4,b5,b6⟩:=Gk h dY dD
        obtain ⟨e',hk⟩:=vx av nX
        have dw:=b1.mem.hand
        rw [dP] at dw
        refine ⟨Ys,S',b1,b2,by rw [← bS,b3,bS,k2],?_,b6.2.2,b6.1,b6.2.1⟩
        rw [b3,hu]
        refine A4 hk (by rw [bS,k2]) cV dn (fun v hv=>?_)
        rw [← b3,cW] at hv
        obtain ⟨t,ht,rfl⟩:=List.mem_map.1 hv
        exact (mJ ((cr _).1 dw.1 t ht) (List.all_eq_true.1 gJ t.er (by rw [← b2,eL]; exact List.mem_map.2 ⟨t,ht,rfl⟩))).1
    · rename_i g s n cs hc
      split at he
      case isFalse=>simp at he
      rename_i m8
      simp only [Option.some.injEq,Prod.mk.injEq] at he
      obtain ⟨rfl,rfl,rfl⟩:=he
      obtain ⟨R,l,t0,g1,g2,g3,g4,g5⟩:=iS h.rt hc
      have dZ:=tA h.mem g1 g2 g3 g5.symm
      have km:t0.ft=[]:=by
        cases t0 with
        | v d u=>rfl
        | own s' n' cap a ts=>simp [T.er] at g5
      have hx:=CT (X':=ah C w S H) (fun _ _ h=>h) false g5.symm dZ (by simp [km]) (hd _ g4)
      obtain ⟨Ys,S',a1,a2,a3,a4⟩:=ext hx m8.1 m8.2 (vx av nX)
      exact ⟨Ys,S',a1,a2,a3,a4,rfl,rfl,rfl⟩
    · simp at he
  | _=>simp [elems] at he
theorem Xy (h:Rel C H w st aI S) {d:D} {u:Value} (hd:cy w (ah C w S H) S d u) {t ty e:TypeId} {inf:TypeInfo} {z:Value} (ht:P.underlying t=some (.slice e)) (hi:P.info? e=some inf) (hz:inf.zero=some z) {zs:List D} (lG:cj RJ zs z.cells.toList) (DN:zs.length=inf.size)
    (cV:0 < inf.size) {flat:Bool} {ys:List D} {m:Nat} (he:elems st flat zs inf.size d=some (ys,m,st')) {tx:TypeId} (nX:IG c tx d=true):
    ∃ Ys S',Rel C (Ys++H) w st' aI S'∧bw Ys=ys∧Ys.length=m*inf.size∧Xv P t tx ty e inf z w u m (aD Ys)∧st'.of=st.of∧st'.tm=st.tm∧st'.up=st.up:=by
  by_cases hint:∃ k n,d=.int k n
  · obtain ⟨k,n,rfl⟩:=hint
    have hu:u=.int k n:=hd
    subst hu
    unfold elems at he
    split at he
    all_goals (try (rename_i heq; simp at heq; done))
    all_goals (try (simp at he; done))
    rename_i n0 heq
    simp only [D.int.injEq] at heq
    obtain ⟨rfl,rfl⟩:=heq
    split at he
    case isFalse=>simp at he
    rename_i hc
    simp only [Option.some.injEq,Prod.mk.injEq] at he
    obtain ⟨rfl,rfl,rfl⟩:=he
    have acX:z.cells.size=inf.size:=by rw [← DN,lG.len]; simp
    obtain ⟨ts,f1,f2,f3,f4⟩:=wK lG n.toNat
    obtain ⟨t0,e1,e2,e3,e4⟩:=N1 lG
    have hlen:ts.length=n.toNat*inf.size:=by
      have:=congrArg List.length f2
      rw [bS] at this
      rw [this,List.length_flatten,List.map_replicate,List.sum_replicate_nat,Array.length_toList,acX]
    have xx:∀ u∈z.cells.toList,u.oneCell'=true:=by
      intro u hu
      rw [← e2,cW] at hu
      obtain ⟨t1,AW,rfl⟩:=List.mem_map.1 hu
      refine (mJ ((cr _).1 (e4 w (fun _ _=>False)) t1 AW) (List.all_eq_true.1 hc.2 t1.er ?_)).1
      rw [← e1,eL]
      exact List.mem_map.2 ⟨t1,AW,rfl⟩
    have ah6:∃ k',P.underlying tx=some (.int k'):=by
      simp only [IG] at nX
      split at nX
      · rename_i heq
        obtain ⟨d,h1,h2⟩:=(av.ty _ _ heq).desc
        simp only [kD] at h2
        subst h2
        exact ⟨_,h1⟩
      · simp at nX
    obtain ⟨k',hk'⟩:=ah6
    have iw:∀ l:List T,ai l=[]→(∀ w X,bM w X l)→Rel C (l++H) w st aI S:=by
      intro l ZR ZP
      have DQ:ah C w S (l++H)=ah C w S H:=by
        funext b k
        simp only [ah,bj,ZR,List.nil_append]
      obtain ⟨q1,⟨m1,m2,m3,m4⟩,q3,q4⟩:=h
      refine ⟨q1,⟨by rw [bj,ZR]; exact m1,by rw [DQ]; exact m2,?_,by rw [bj,ZR]; exact m4⟩,by rw [DQ]; exact q3,⟨q4.os,q4.tape,q4.output,q4.size,q4.block,by rw [bj,ZR]; exact q4.iE,q4.par⟩⟩
      rw [dP,DQ]
      exact ⟨ZP _ _,m3⟩
    refine ⟨ts,S,iw ts f3 f4,f1,hlen,?_,rfl,rfl,rfl⟩
    rw [f2]
    have:=Tn (w:=w) (ty:=ty) ht hi hz hk' acX cV n.toNat xx (kx:=.i64)
    rwa [show ((n.toNat:Nat):Int)=n from Int.toNat_of_nonneg hc.1] at this
  · obtain ⟨Ys,S',a1,a2,a3,a4,a5⟩:=U5 av h hd cV (fun k n e=>hint ⟨k,n,e⟩) he nX
    exact ⟨Ys,S',a1,a2,a3,Xw ht hi hz a4,a5⟩
end
end Go.Proofs.YtockoilcnmljiaaGreat
namespace Go.Proofs.YtockoilcnmljiaaGreat
section
variable {P:Program} {c:cB} (av:ez c P) {C:Ctx} {Hx:List T} {w:World} {st st':St} {vs:Array Value} {aI:List (Array Value)} {S:List (Nat × RT)} (h:Rel C Hx w st (vs::aI) S)
include av h
theorem U6 {t tx ty:TypeId} {s x:D} {us ux:Value} (hs:cy w (ah C w S Hx) S s us) (hx:cy w (ah C w S Hx) S x ux) {d:Nat} (ht:d < vs.size) (hP:∀ p∈C.P0,p.1≠st.of+d) (ha:sc c st t tx (some d) s x=some st'):
    ∃ v w',(Builtin.append_ #[t,tx] ty #[us,ux]).run P w=.ok v w'∧(∀ r' R' b',lk S r'=some R'→R'.box=some b'→w'.heap[b']?=w.heap[b']?)∧∃ S',Rel C Hx w' st' (vs.setIfInBounds d v::aI) S':=by
  unfold sc at ha
  split at ha
  case h_2=>simp at ha
  rename_i e tsz tby tz gq
  split at ha
  case h_2=>simp at ha
  rename_i ei ji
  split at ha
  case isFalse=>simp at ha
  rename_i nX
  split at ha
  case h_2=>simp at ha
  rename_i n cs aQ qU
  split at ha
  case h_2=>simp at ha
  rename_i ys m cq fu
  split at ha
  case isFalse=>simp at ha
  rename_i hb
  obtain ⟨cV,hby,mc⟩:=hb
  obtain ⟨inf,h1,h2,h3,z,h4,h5⟩:=(av.ty _ _ ji).info
  have DN:=(av.ty _ _ ji).len
  obtain ⟨dd,g1,g2⟩:=(av.ty _ _ gq).desc
  simp only [kD] at g2
  subst g2
  have lG:z.cells.size=ei.size:=by rw [← DN,h5.len]; simp
  unfold target at qU
  split at qU
  case h_2=>simp at qU
  rename_i s0 n0 cs0 ZO dD
  split at qU
  case isFalse=>simp at qU
  rename_i Zx
  subst Zx
  simp only [Option.some.injEq,Prod.mk.injEq] at qU
  obtain ⟨rfl,rfl,rfl⟩:=qU
  have vo:bB w (ah C w S Hx) S s us:=by cases s<;>first | exact hs | (simp [jf] at dD; done)
  obtain ⟨T1,S1,a1,a2,a3,a4,a5,a6,_⟩:=uV h vo dD
  obtain ⟨cap,a,ts,rfl,rfl⟩:=F1 a2
  have vu:∀ r' R' b',lk S r'=some R'→R'.box=some b'→b' < w.heap.size∧∀ p,a=some p→b'≠p.1:=by
    intro r' R' b' eE fX
    obtain ⟨R1,e1,e2,_⟩:=a5.fwd r' R' eE
    have ma:b'∈cL S1:=by
      obtain ⟨A,B,e3,_⟩:=lY e1
      rw [e3]
      simp [RT.ft,e2.trans fX]
    refine ⟨a1.mem.lt b' (List.mem_append.2 (.inl ma)),fun p hp e=>?_⟩
    subst hp
    exact (List.nodup_append.1 a1.mem.nd).2.2 b' ma p.1 (by simp [ai,T.ft,jg]) e
  obtain ⟨Ys,S2,b1,rfl,b3,b4,b5,b6,b7⟩:=Xy (ty:=ty) av a1 (ql a4 hx) g1 h1 h4 h5 (DN.trans h2.symm) (by rw [h2]; exact cV) (by rw [h2]; exact fu) nX
  rw [h2] at b3
  have rN:cq.of=st.of:=b5.trans a6.2.2
  have dw:=b1.mem.hand
  rw [dP] at dw
  obtain ⟨hY,hT⟩:=dw
  simp only [bM] at hT
  have hT:=hT.1
  have hT0:=hT
  simp only [bL] at hT
  obtain ⟨k1,k2,k3,k4⟩:=hT
  have Gt:n0+m≤140737488355328:=by
    have:(n0+m)*1≤(n0+m)*ei.bytes:=Nat.mul_le_mul_left _ hby
    omega
  have NS:us=.slice (a.map fun p=>⟨p.1,p.2,none⟩) n0 cap:=a3.symm
  have fr:(ai (Ys++[T.own ei.size n0 cap a ts])).Nodup:=by
    have h9:=(List.nodup_append.1 b1.mem.nd).2.1
    rw [show Ys++T.own ei.size n0 cap a ts::Hx=(Ys++[T.own ei.size n0 cap a ts])++Hx by simp,bj] at h9
    exact (List.nodup_append.1 h9).1
  by_cases To:n0+m≤cap
  ·
    cases a with
    | none=>
      simp only at k3
      obtain ⟨rfl,rfl⟩:=k3
      have Gh:m=0:=by omega
      subst Gh
      have A5:ts=[]:=List.length_eq_zero_iff.1 (by rw [k2]; simp)
      have hYs:Ys=[]:=List.length_eq_zero_iff.1 (by rw [b3]; simp)
      subst A5; subst hYs
      have eo:(Builtin.append_ #[t,tx] ty #[us,ux]).run P w=.ok (.slice none 0 0) w:=by
        rw [NS]
        exact b4.nil rfl rfl
      refine ⟨_,_,eo,fun _ _ _ _ _=>rfl,?_⟩
      simp only [List.nil_append,bw,List.append_nil,Nat.add_zero] at b1 ha
      refine sv (Hs:=[T.own ei.size 0 0 none []]) (H:=Hx) (R:=⟨none,[T.own ei.size 0 0 none []]⟩) b1 (Grown.refl w) (by simp [RT.ft,ai,T.ft,jg]) (by simp [RT.ft,ai,T.ft,jg]) (fun S' cE dW=>⟨trivial,fun y hy=>?_⟩) ht (by rw [rN]; exact hP) (d:=fun d=>.ref d [] 0 none) ?_ (by simpa [bw,T.er] using ha)
      · simp only [List.mem_singleton] at hy
        subst hy
        simp [jh,bL,bM]
      · intro S' X qm
        simp only [cy,gI,bB]
        intro y hy
        simp only [cA,qm,aw,List.getElem?_cons_zero,Option.some.injEq] at hy
        subst hy
        simp [eS,sn,T.er,T.val,wE]
    | some p=>
      obtain ⟨b,off⟩:=p
      have hmul:n0*ei.size+m*ei.size≤cap*ei.size:=by rw [← Nat.add_mul]; exact Nat.mul_le_mul_right _ To
      obtain ⟨c1,_⟩:=U1 (H:=Hx) b1 b3 To
      have eo:(Builtin.append_ #[t,tx] ty #[us,ux]).run P w=.ok (.slice (some ⟨b,off,none⟩) (n0+m) cap) (w.setCells b (off+n0*ei.size) (aD Ys)):=by
        rw [NS]
        rw [← h2]
        refine b4.room b off n0 cap To (by rw [h3]; exact mc) (by rw [h3]; exact hby) (fun j hj=>?_) (fun j hj=>?_)
        · rw [bS,b3] at hj
          rw [h2,Nat.add_assoc]
          obtain ⟨u,hu⟩:=F6 (j:=n0*ei.size+j) k3 (by omega)
          rw [hu]; rfl
        · rw [bS,b3] at hj
          rw [h2,Nat.add_assoc]
          exact F5 k3 (by omega)
      refine ⟨_,_,eo,fun r' R' b' eE fX=>?_,?_⟩
      · obtain ⟨c0,e0,fz0,g1,g2,g3,g4⟩:=k3
        exact (vw (aD Ys) (off+n0*ei.size) w g1 (by rw [bS,b3]; omega)).choose_spec.2.2.2.2.1 b' ((vu r' R' b' eE fX).2 _ rfl)
      rw [← vl] at ha
      refine sv (Hs:=[T.own ei.size (n0+m) cap (some (b,off)) (ts++Ys)]) (H:=Hx) (R:=⟨none,[T.own ei.size (n0+m) cap (some (b,off)) (ts++Ys)]⟩) c1 (Grown.refl _) (fun k hk=>.inl (by simpa [RT.ft] using hk)) ?_ (fun S' cE dW=>⟨trivial,fun y hy=>?_⟩) ht (by rw [rN]; exact hP) (d:=fun d=>.ref d [] 0 none) ?_ (by simpa [bw,T.er] using ha)
      · have:=(List.nodup_append.1 c1.mem.nd).2.1
        rw [← List.singleton_append,bj] at this
        simpa [RT.ft] using (List.nodup_append.1 this).1
      · simp only [List.mem_singleton] at hy
        subst hy
        have:=c1.mem.hand
        simp only [bM] at this
        exact dO cE _ this.1 (fun _ _=>rfl)
      · intro S' X qm
        simp only [cy,gI,bB]
        intro y hy
        simp only [cA,qm,aw,List.getElem?_cons_zero,Option.some.injEq] at hy
        subst hy
        simp [eS,sn,T.er,T.val,wE]
  ·
    have hold:(Builtin.firstCells inf.size n0 (.slice (a.map fun p=>(⟨p.1,p.2,none⟩:Addr)) n0 cap)).run P w.drew=.ok (aD ts).toArray w.drew:=by
      cases a with
      | none=>
        simp only at k3
        have A5:ts=[]:=List.length_eq_zero_iff.1 (by rw [k2,k3.1]; simp)
        subst A5
        exact run_firstCells_none _ _ _ _ _
      | some p=>
        exact run_firstCells_some w.drew inf.size n0 _ _ _ (aD ts) (by rw [bS,k2,h2]) (fun j v hj=>by
          rw [eZ]
          have:=vn k3 hj
          simpa using this)
    have eo:=b4.grow (a.map fun p=>(⟨p.1,p.2,none⟩:Addr)) n0 cap (aD ts) hold (by omega) (by rw [h3]; exact mc) (by rw [h3]; exact hby)
    rw [← NS] at eo
    refine ⟨_,_,eo,fun r' R' b' eE fX=>((Grown.drew w).trans (Grown.alloc _ _)).bO b' (vu r' R' b' eE fX).1,?_⟩
    have qP:=grownCap_ge w (n0+m) cap e
    rw [← vl] at ha
    have hlen:(ts++Ys).length=(n0+m)*ei.size:=by rw [List.length_append,k2,b3,Nat.add_mul]
    refine CU (Hs:=Ys++[T.own ei.size n0 cap a ts]) (H:=Hx) (by simpa using b1) ((Grown.drew w).trans (Grown.alloc _ _)) (ts:=ts++Ys) (b:=w.heap.size) ⟨Nat.le_refl _,by rw [jv]; exact Nat.lt_succ_self _⟩ ?_ ?_ ?_ qP hlen ?_ ht (by rw [rN]; exact hP) ha
    · rw [dP,List.append_assoc]
      exact ⟨k4,hY⟩
    · intro k hk
      rw [bj] at hk
      simp only [bj,ai,T.ft,List.append_nil,List.mem_append]
      rcases List.mem_append.1 hk with hk | hk
      · exact .inr (.inr hk)
      · exact .inl hk
    · have p1:(ai (Ys++[T.own ei.size n0 cap a ts])).Perm (jg a++ai (ts++Ys)):=by
        refine List.perm_iff_count.2 fun a=>?_
        simp only [bj,ai,T.ft,List.count_append,List.count_nil]
        omega
      exact (List.nodup_append.1 (p1.nodup_iff.1 fr)).2.1
    · refine kH w.drew _ e ?_ (fun j u hj=>?_)
      · simp only [Array.size_append,List.size_toArray,List.length_append,bS,k2,b3,size_zeroCells,lG,← Nat.add_mul]
        refine Nat.mul_le_mul_right _ ?_
        omega
      · rw [AF] at hj
        have cX:=(List.getElem?_eq_some_iff.1 hj).1
        rw [Array.getElem?_append_left (by simpa using cX)]
        simpa using hj
end
end Go.Proofs.YtockoilcnmljiaaGreat
namespace Go.Proofs.YtockoilcnmljiaaGreat
theorem fold_push:∀ (ns:List Int) (s:ByteArray),(ns.foldl (fun r n=>r.push (UInt8.ofNat n.toNat)) s).data.toList=s.data.toList++ns.map (fun n=>UInt8.ofNat n.toNat)
  | [],s=>by simp
  | n::ns,s=>by
    rw [List.foldl_cons,fold_push ns]
    simp [ByteArray.push]
theorem Xz {w:World} {X:Bool→Nat→Prop}:∀ {cs:List D} {us:List Value} {bs:List UInt8},cj (acx w X) cs us→lB byteOf cs=some bs→∃ ns:List Int,us=ns.map (Value.int .u8)∧bs=ns.map (fun n=>UInt8.ofNat n.toNat):=by
  intro cs
  induction cs with
  | nil=>
    intro us bs h hm
    cases h
    simp only [lB,Option.some.injEq] at hm
    subst hm
    exact ⟨[],rfl,rfl⟩
  | cons d cs ih=>
    intro us bs h hm
    cases h with
    | cons h1 h2=>
    simp only [lB] at hm
    split at hm
    case h_2=>simp at hm
    rename_i b hb
    split at hm
    case h_2=>simp at hm
    rename_i Zv KQ
    simp only [Option.some.injEq] at hm
    subst hm
    obtain ⟨ns,rfl,rfl⟩:=ih h2 KQ
    unfold byteOf at hb
    split at hb
    case h_2=>simp at hb
    rename_i n
    simp only [Option.some.injEq] at hb
    subst hb
    refine ⟨n::ns,?_,rfl⟩
    simp only [List.map_cons,List.cons.injEq,and_true]
    rcases h1 with h1 | ⟨t,he,rfl,h1⟩
    · exact h1
    · cases t with
      | own s n cap a cs=>simp [T.er] at he
      | v d u=>
        simp only [T.er] at he
        simp only [bL,← he] at h1
        exact h1
section
variable {P:Program} {c:cB} (av:ez c P) {C:Ctx} {Hx:List T} {w:World} {st st':St} {vs:Array Value} {aI:List (Array Value)} {S:List (Nat × RT)} (h:Rel C Hx w st (vs::aI) S)
include av
theorem uX {t:TypeId} {ti:TI} (ht:c.ty t=some ti):∃ d,P.underlying t=some d∧kD P ti.ty d:=(av.ty _ _ ht).desc
include h
theorem QL {src dst e:TypeId} (hs:P.underlying src=some (.slice e)) (he:P.underlying e=some (.int .u8)) (hd:P.underlying dst=some .string) {x:D} {u:Value} (hx:cy w (ah C w S Hx) S x u) {g:Option Bool} {n:Nat} {cs:List D} (gA:st.qg x=some (g,1,n,cs)) {bs:List UInt8} (hm:lB byteOf cs=some bs):
    ∀ w2,dM w w2→(convert src dst u).run P w2=.ok (.string ⟨bs.toArray⟩) w2:=by
  have _:=av
  intro w2 pn
  obtain ⟨base,cap,rfl,h1,h2,h3⟩:=(Nk h.rt h.mem hx gA).ok
  rw [run_convert_bytes_string w2 src dst e base n cap hs he hd]
  rcases h3 with rfl | ⟨b,off,cc,ee,fz,us,rfl,g1,g2,g3⟩
  · simp only [lB,Option.some.injEq] at hm
    subst hm
    have hn:n=0:=by simpa using h2.symm
    subst hn
    cases base with
    | none=>rfl
    | some a=>exact run_bytesToString w2 a 0 cap [] rfl
  · obtain ⟨ns,rfl,rfl⟩:=Xz g2 hm
    have hl:ns.length=n:=by have:=g2.len; rw [h2] at this; simpa using this.symm
    have zc:=run_loadCells_list (P:=P) w2 ⟨b,off,none⟩ (ns.map (Value.int .u8)) (fun j v hj=>by
      rw [eZ]
      refine pn.cell ?_
      simp [World.cell?,g1,g3 j v hj])
    rw [List.length_map,hl] at zc
    rw [run_bytesToString w2 _ n cap ns zc]
    congr 2
    have:=fold_push ns ByteArray.empty
    have h4:(ns.foldl (fun r n=>r.push (UInt8.ofNat n.toNat)) ByteArray.empty).data=(ns.map (fun n=>UInt8.ofNat n.toNat)).toArray:=by
      apply Array.ext'
      rw [this]
      simp
    generalize ns.foldl (fun r n=>r.push (UInt8.ofNat n.toNat)) ByteArray.empty=z at h4 ⊢
    cases z
    simp only at h4
    rw [h4]
theorem QM {src dst e:TypeId} (hs:P.underlying src=some .string) (hd:P.underlying dst=some (.slice e)) (he:P.underlying e=some (.int .u8)) {s:ByteArray} {t:Nat} (ht:t < vs.size) (hP:∀ p∈C.P0,p.1≠st.of+t)
    (hr:st.root (some t) [.sl none 1 s.size (s.data.toList.map du)] (fun d=>.ref d [] 0 none)=some st'):
    ∃ v w',(convert src dst (.string s)).run P w=.ok v w'∧∃ S',Rel C Hx w' st' (vs.setIfInBounds t v::aI) S':=by
  have _:=av
  have dY:cj (Ext w (ah C w S Hx)) (s.data.toList.map du) (byteCells s):=by
    refine dq (by simp [byteCells]) (fun i a b ha hb=>?_)
    simp only [byteCells,List.getElem?_map] at ha hb
    cases hx:s.data.toList[i]? with
    | none=>simp [hx] at ha
    | some y=>
      simp only [hx,Option.map_some,Option.some.injEq] at ha hb
      subst ha; subst hb
      rfl
  obtain ⟨Ys,a1,a2,a3,a4⟩:=sZ h dY
  have yS:s.size≤grownCap w s.size 0 e:=grownCap_ge w s.size 0 e
  let cells:Array Value:=(s.data.map fun b=>Value.int .u8 b.toNat)++Array.replicate (grownCap w s.size 0 e - s.size) (.int .u8 0)
  have eM:cells.size=grownCap w s.size 0 e:=by
    simp only [cells,Array.size_append,Array.size_map,Array.size_replicate]
    have:s.data.size=s.size:=rfl
    omega
  let w1:=(w.drew.alloc (.cells cells e)).freeze ⟨w.heap.size,cells.size,none⟩ 1
  have yZ:(w.drew.alloc (.cells cells e)).heap[w.heap.size]?=some (.cells cells e (0,0)):=KH w.drew _
  have eo:(convert src dst (.string s)).run P w=.ok (.slice (some ⟨w.heap.size,0,none⟩) s.size (grownCap w s.size 0 e)) w1:=by
    have hsh:(w.drew.alloc (.cells cells e)).shape? w.heap.size=some (e,cells.size):=by
      simp only [World.shape?,yZ]
    simp only [convert,Sem.run_bind,run_underlying hs,run_underlying hd,run_underlying he,Result.andThen_ok]
    simp only [Conv.stringToBytes,Sem.run_bind,run_choose,Question.forced,Bool.false_eq_true,if_false,Result.andThen_ok,newRow,run_newObj,Sem.run_pure,markStringish,run_shape]
    have acZ:World.shape? { os:=w.os,heap:=w.heap.push (.cells cells e),tape:=w.tape,drawn:=w.drawn+1,output:=w.output } w.heap.size=some (e,cells.size):=hsh
    simp only [cells,grownCap] at acZ
    rw [acZ]
    simp only [run_freeze,Result.andThen_ok]
    rfl
  refine ⟨_,_,eo,?_⟩
  have cV:w1.heap.size=w.heap.size+1:=by
    show (World.freeze _ _ 1).heap.size=_
    simp only [World.freeze,Nat.one_ne_zero,if_false,Array.size_modify]
    exact jv w.drew _
  have hg:Grown w w1:=by
    refine ⟨by omega,fun k hk=>?_,rfl,rfl,rfl⟩
    show (World.freeze _ _ 1).heap[k]?=_
    simp only [World.freeze,Nat.one_ne_zero,if_false,Array.getElem?_modify]
    rw [if_neg (by omega)]
    exact (Grown.alloc w.drew _).bO k hk
  have eW:lF w1 w.heap.size 0 (grownCap w s.size 0 e*1) (aD Ys):=by
    refine ⟨cells,e,(cells.size,cells.size+1),?_,fun o ho=>by simp only; omega,by rw [eM]; omega,fun j u hj=>?_⟩
    · show (World.freeze _ _ 1).heap[w.heap.size]?=_
      simp only [World.freeze,Nat.one_ne_zero,if_false,Array.getElem?_modify,if_true]
      rw [yZ]
      rfl
    · rw [a3] at hj
      have cX:=(List.getElem?_eq_some_iff.1 hj).1
      rw [byteCells_length] at cX
      simp only [cells,Nat.zero_add]
      rw [Array.getElem?_append_left (by simpa using cX)]
      simp only [byteCells,List.getElem?_map] at hj
      simpa using hj
  rw [← a2] at hr
  exact CU (Hs:=Ys) (H:=Hx) a1 hg ⟨Nat.le_refl _,by omega⟩ ((dP _ _).1 a1.mem.hand).1 (fun _ h=>h) (by rw [a4]; simp) yS (by rw [← bS,a3,byteCells_length,Nat.mul_one]) eW ht hP hr
end
end Go.Proofs.YtockoilcnmljiaaGreat
namespace Go.Proofs.YtockoilcnmljiaaGreat
section
variable {P:Program} {c:cB} (av:ez c P) {C:Ctx} {w:World} {st:St} {S:List (Nat × RT)} {X:Bool→Nat→Prop}
include av
theorem Og {t:TypeId} {x d':D} {u:Value} {k:IntKind} {i:Int} (hx:cy w X S x u) (h:xM c t x i=some d'):∃ r,(∀ w:World,(Instr.index t u (.int k i)).run P w=.ok r w)∧cy w X S d' r:=by
  unfold xM at h
  split at h
  · rename_i _ _ _ s ht
    obtain ⟨d,h1,h2⟩:=(av.ty _ _ ht).desc
    simp only [kD] at h2
    subst h2
    have hu:u=.string s:=hx
    subst hu
    obtain ⟨g1,g2,g3⟩:=mH h
    cases hb:s.data.toList[i.toNat]? with
    | none=>simp [hb] at g3
    | some b=>
      simp only [hb,Option.map_some,Option.some.injEq] at g3
      subst g3
      have cX:i.toNat < s.size:=by omega
      have me:s[i.toNat]?=some b:=by
        have h5:s.data[i.toNat]?=some b:=by rw [← Array.getElem?_toList]; exact hb
        rw [getElem?_pos s i.toNat cX]
        rw [Array.getElem?_eq_getElem cX] at h5
        exact h5
      refine ⟨.int .u8 b.toNat,?_,rfl⟩
      intro w
      simp only [Instr.index,asIntOf,Sem.run_bind,Sem.run_pure,Result.andThen_ok,run_underlying h1,if_pos g1,me]
  · rename_i n e _ _ _ cs ht
    split at h
    case h_2=>simp at h
    rename_i ei he
    obtain ⟨d,h1,h2⟩:=(av.ty _ _ ht).desc
    simp only [kD] at h2
    subst h2
    obtain ⟨us,rfl,hu⟩:=hx
    obtain ⟨g1,g2,g3⟩:=mH h
    have cV:=fun w=>(av.ty _ _ he).sz w
    have DS:=fun w=>(av.ty _ _ he).agg w
    have hir:(0≤i∧i < (n:Int)):=⟨g1,g2⟩
    split at g3
    · rename_i eA
      simp only [Option.some.injEq] at g3
      subst g3
      refine ⟨.agg (us.extract (i.toNat*ei.size) (i.toNat*ei.size+ei.size)),?_,?_⟩
      · intro w; simp [Instr.index,asIntOf,run_underlying h1,hir,cV,part,DS,eA]
      · refine ⟨_,rfl,?_⟩
        have:=(hu.drop (i.toNat*ei.size)).take ei.size
        simpa [Array.toList_extract,List.extract] using this
    · rename_i eA
      obtain ⟨v,g4,g5⟩:=hu.get g3
      refine ⟨v,?_,mG g5⟩
      rw [Array.getElem?_toList] at g4
      simp only [Bool.not_eq_true] at eA
      intro w; simp [Instr.index,asIntOf,run_underlying h1,hir,cV,part,DS,eA,g4]
  · simp at h
end
theorem Rel.A6 {C:Ctx} {H:List T} {w:World} {st:St} {a:Act} {aI:List (Array Value)} {S:List (Nat × RT)} (h:Rel C H w st (a.tmps::aI) S) {dst:Option Nat} (ht:∀ t,dst=some t→t < a.tmps.size) {d:D} {v:Value} (hv:cy w (ah C w S H) S d v):
    Rel C H w (st.put dst d) ((a.put dst v).tmps::aI) S:=by
  cases dst with
  | none=>exact h
  | some t=>exact h.put (ht t rfl) hv
theorem jj (st:St) (dst:Option Nat) (d:D):(st.put dst d).of=st.of:=by cases dst<;>rfl
theorem uY {st st':St} {dst:Option Nat} {cs:List D} {d:Nat→D} (h:st.root dst cs d=some st'):st'.of=st.of∧∃ t,dst=some t:=by
  cases dst with
  | none=>simp [St.root] at h
  | some t=>
    simp only [St.root,Option.some.injEq] at h
    subst h
    exact ⟨rfl,t,rfl⟩
theorem cY (a:Act) (dst:Option Nat) (v:Value):(a.put dst v).tmps.size=a.tmps.size∧(a.put dst v).defers=a.defers:=by
  cases dst<;>simp [Act.put]
end Go.Proofs.YtockoilcnmljiaaGreat
namespace Go.Proofs.YtockoilcnmljiaaGreat
section
variable {P:Program} {c:cB} (av:ez c P) {C:Ctx} {Hx:List T} {w:World} {st st':St} {vs:Array Value} {aI:List (Array Value)} {S:List (Nat × RT)} (h:Rel C Hx w st (vs::aI) S)
include av h
theorem Oh {src dst:TypeId} {x d:D} {u:Value} (hx:cy w (ah C w S Hx) S x u) (hc:wD c st src dst x=some (d,none)):∃ r,(∀ w2,dM w w2→(convert src dst u).run P w2=.ok r w2)∧cy w (ah C w S Hx) S d r:=by
  unfold wD at hc
  split at hc
  case h_2=>simp at hc
  rename_i si di ZS U7
  obtain ⟨ds,wM,rO⟩:=uX av ZS
  obtain ⟨dd,A7,m9⟩:=uX av U7
  split at hc
  · rename_i k _ n hk
    rw [hk] at m9
    simp only [kD] at m9
    subst m9
    simp only [Option.some.injEq,Prod.mk.injEq,and_true] at hc
    subst hc
    have hu:=gz hx
    subst hu
    refine ⟨.int k (k.wrap n),?_,UF _ _⟩
    intro w2 _; simp [convert,run_underlying wM,run_underlying A7,Conv.intToInt]
  · rename_i n hk
    rw [hk] at m9
    simp only [kD] at m9
    subst m9
    simp only [Option.some.injEq,Prod.mk.injEq,and_true] at hc
    subst hc
    have hu:=gz hx
    subst hu
    refine ⟨.string (Utf8.encode n),?_,tvs _⟩
    intro w2 _; simp [convert,run_underlying wM,run_underlying A7,Conv.intToString]
  · rename_i s hk
    rw [hk] at m9
    simp only [kD] at m9
    subst m9
    simp only [Option.some.injEq,Prod.mk.injEq,and_true] at hc
    subst hc
    have hu:=xQ hx
    subst hu
    refine ⟨.string s,?_,tvs _⟩
    intro w2 _; simp [convert,run_underlying wM,run_underlying A7]
  · rename_i e hk zV _ _
    rw [hk] at m9
    rw [zV] at rO
    simp only [kD] at m9 rO
    subst m9; subst rO
    split at hc
    case h_2=>simp at hc
    rename_i he
    obtain ⟨de,he1,U8⟩:=uX av he
    simp only [kD] at U8
    subst U8
    split at hc
    case h_2=>simp at hc
    rename_i g s n cs gA
    split at hc
    case isFalse=>simp at hc
    rename_i hs
    subst hs
    split at hc
    case h_2=>simp at hc
    rename_i bs hm
    simp only [Option.some.injEq,Prod.mk.injEq,and_true] at hc
    subst hc
    exact ⟨_,QL av h wM he1 A7 hx gA hm,tvs _⟩
  · split at hc<;>simp at hc
  · simp at hc
theorem U9 {src dst:TypeId} {x d:D} {cs:List D} {u:Value} (hx:cy w (ah C w S Hx) S x u) (hc:wD c st src dst x=some (d,some cs)) {t:Nat} (ht:t < vs.size) (hP:∀ p∈C.P0,p.1≠st.of+t)
    (hr:st.root (some t) cs (fun d=>.ref d [] 0 none)=some st'):∃ v w',(convert src dst u).run P w=.ok v w'∧∃ S',Rel C Hx w' st' (vs.setIfInBounds t v::aI) S':=by
  unfold wD at hc
  split at hc
  case h_2=>simp at hc
  rename_i si di ZS U7
  obtain ⟨ds,wM,rO⟩:=uX av ZS
  obtain ⟨dd,A7,m9⟩:=uX av U7
  split at hc
  · simp at hc
  · simp at hc
  · simp at hc
  · split at hc
    · split at hc
      · split at hc
        · split at hc<;>simp at hc
        · simp at hc
      · simp at hc
    · simp at hc
  · rename_i e s hk zV
    rw [hk] at m9
    rw [zV] at rO
    simp only [kD] at m9 rO
    subst m9; subst rO
    split at hc
    case h_2=>simp at hc
    rename_i he
    obtain ⟨de,he1,U8⟩:=uX av he
    simp only [kD] at U8
    subst U8
    simp only [Option.some.injEq,Prod.mk.injEq] at hc
    obtain ⟨_,rfl⟩:=hc
    have hu:=xQ hx
    subst hu
    exact QM av h wM A7 he1 ht hP hr
  · simp at hc
end
end Go.Proofs.YtockoilcnmljiaaGreat
namespace Go.Proofs.YtockoilcnmljiaaGreat
theorem Va {st st':St} {d d':D} (h:jf st d=some (d',st')):st'.of=st.of:=by
  unfold jf at h
  split at h<;>try (simp only [Option.some.injEq,Prod.mk.injEq] at h; obtain ⟨_,rfl⟩:=h; rfl)
  · split at h
    · split at h
      · rename_i aQ hs
        simp only [Option.some.injEq,Prod.mk.injEq] at h
        obtain ⟨_,rfl⟩:=h
        unfold St.im at hs
        split at hs
        · split at hs
          · simp only [Option.some.injEq] at hs
            subst hs; rfl
          · simp at hs
        · simp at hs
      · simp at h
    · simp only [Option.some.injEq,Prod.mk.injEq] at h; obtain ⟨_,rfl⟩:=h; rfl
    · simp at h
  · simp at h
theorem Oi:∀ {ds ds':List D} {st st':St},rM st ds=some (ds',st')→st'.of=st.of
  | [],ds',st,st',h=>by simp only [rM,Option.some.injEq,Prod.mk.injEq] at h; obtain ⟨_,rfl⟩:=h; rfl
  | d::ds,ds',st,st',h=>by
    simp only [rM] at h
    split at h
    case h_2=>simp at h
    rename_i d1 aQ h1
    split at h
    case h_2=>simp at h
    rename_i gp cq h2
    simp only [Option.some.injEq,Prod.mk.injEq] at h
    obtain ⟨_,rfl⟩:=h
    exact (Oi h2).trans (Va h1)
theorem Vb {c:cB} {st st':St} {t tx:TypeId} {dst:Option Nat} {s x:D} (h:sc c st t tx dst s x=some st'):∃ cq:St,∃ cs:List D,cq.of=st.of∧cq.root dst cs (fun d=>.ref d [] 0 none)=some st':=by
  unfold sc at h
  split at h
  case h_2=>simp at h
  split at h
  case h_2=>simp at h
  split at h
  case isFalse=>simp at h
  split at h
  case h_2=>simp at h
  rename_i n cs aQ qU
  split at h
  case h_2=>simp at h
  rename_i ys m cq fu
  split at h
  case isFalse=>simp at h
  refine ⟨cq,_,?_,h⟩
  have h1:aQ.of=st.of:=by
    unfold target at qU
    split at qU
    · rename_i s' n' cs' DG dD
      split at qU
      · simp only [Option.some.injEq,Prod.mk.injEq] at qU
        obtain ⟨_,_,rfl⟩:=qU
        exact Va dD
      · simp at qU
    · simp at qU
  have h2:cq.of=aQ.of:=by
    unfold elems at fu
    split at fu<;>try (simp at fu; done)
    · split at fu<;>simp only [Option.some.injEq,Prod.mk.injEq,reduceCtorEq] at fu
      obtain ⟨_,_,rfl⟩:=fu; rfl
    · split at fu<;>simp only [Option.some.injEq,Prod.mk.injEq,reduceCtorEq] at fu
      obtain ⟨_,_,rfl⟩:=fu; rfl
    · simp only [Option.some.injEq,Prod.mk.injEq] at fu
      obtain ⟨_,_,rfl⟩:=fu; rfl
    · split at fu<;>simp only [Option.some.injEq,Prod.mk.injEq,reduceCtorEq] at fu
      obtain ⟨_,_,rfl⟩:=fu; rfl
    · split at fu
      · split at fu
        · simp at fu
        · split at fu
          · split at fu<;>simp only [Option.some.injEq,Prod.mk.injEq,reduceCtorEq] at fu
            obtain ⟨_,_,rfl⟩:=fu; rfl
          · split at fu
            · rename_i ys' st4 dD
              split at fu<;>simp only [Option.some.injEq,Prod.mk.injEq,reduceCtorEq] at fu
              obtain ⟨_,_,rfl⟩:=fu
              exact Oi dD
            · simp at fu
      · split at fu<;>simp only [Option.some.injEq,Prod.mk.injEq,reduceCtorEq] at fu
        obtain ⟨_,_,rfl⟩:=fu; rfl
      · simp at fu
  exact h2.trans h1
theorem Vc (A:Addr) (i:Nat):(A.add i).block=A.block:=by
  obtain ⟨b,o,s⟩:=A
  cases s<;>first | rfl | (simp only [Addr.add]; split<;>rfl)
theorem LF (w:World) (a:Addr) (v:Value) {k:Nat} (hk:k≠a.block):(w.setCell a v).heap[k]?=w.heap[k]?:=by
  simp [World.setCell,Array.getElem?_modify,Ne.symm hk]
theorem vy {P:Program} {b:Nat}:∀ {us:List Value} {w w':World} {i:Nat},∀ A:Addr,A.block=b→(∃ c e fz,w.heap[b]?=some (.cells c e fz))→(storeCells A us i).run P w=.ok () w'→∀ k,k≠b→w'.heap[k]?=w.heap[k]?
  | [],w,w',i,A,hA,_,h,k,hk=>by
    simp only [storeCells,Sem.run_pure,Result.ok.injEq,true_and] at h
    rw [h]
  | u::us,w,w',i,A0,Vd,⟨c,e,fz,hb⟩,h,k,hk=>by
    have step:∀ w1:World,(store (Addr.add A0 i) u).run P w=.ok () w1→(∃ c e fz,w1.heap[b]?=some (.cells c e fz))∧w1.heap[k]?=w.heap[k]?:=by
      intro w1 h1
      have eW:(Addr.add A0 i).block=b:=by rw [Vc,Vd]
      generalize Addr.add A0 i=A at h1 eW
      have ZD:∀ v m,∀ r,w.farStore P A v m≠.ok r:=by
        intro v m r
        unfold World.farStore
        rw [eW,hb]
        simp
      have main:u.oneCell'=true→(∃ c e fz,w1.heap[b]?=some (.cells c e fz))∧w1.heap[k]?=w.heap[k]?:=by
        intro h1c
        rw [run_store P w A u _ h1c] at h1
        split at h1
        · split at h1
          · simp at h1
          · simp only [Result.ok.injEq,true_and] at h1
            subst h1
            refine ⟨?_,LF w A u (by rw [eW]; exact hk)⟩
            simp only [World.setCell,Array.getElem?_modify,eW,if_true,hb,Option.map_some]
            exact ⟨_,_,_,rfl⟩
        · split at h1
          · rename_i r hr
            exact absurd hr (ZD _ _ _)
          · simp at h1
      cases u with
      | agg us=>simp [store,Sem.run] at h1
      | tuple us=>simp [store,Sem.run] at h1
      | _=>exact main rfl
    rw [storeCells,Sem.run_bind] at h
    cases hs:(store (Addr.add A0 i) u).run P w with
    | ok _ w1=>
      rw [hs,Result.andThen_ok] at h
      obtain ⟨h2,h3⟩:=step w1 hs
      rw [vy A0 Vd h2 h k hk,h3]
    | halt x w1=>
      rw [hs] at h
      simp [Result.andThen] at h
structure zW (o:Oper) (a:Act) (S:List (Nat × RT)) (w w':World):Prop where
  al:tv o=true→dM w w'
  ap:∀ cc,o.op=.call cc→cc.callee=.builtin .append→∀ r R b,lk S r=some R→R.box=some b→w'.heap[b]?=w.heap[b]?
  st:∀ t x y,o.op=.store t x y→∀ A,a.eval x=.pointer (some A)→(∃ c e fz,w.heap[A.block]?=some (.cells c e fz))→∀ k,k≠A.block→w'.heap[k]?=w.heap[k]?
theorem zW.refl (o:Oper) (a:Act) (S:List (Nat × RT)) (w:World):zW o a S w w:=⟨fun _=>dM.refl w,fun _ _ _ _ _ _ _ _=>rfl,fun _ _ _ _ _ _ _ _ _=>rfl⟩
theorem zW.alloc {o:Oper} {a:Act} {S:List (Nat × RT)} {w w':World} (h:dM w w') (h2:tv o=true):zW o a S w w':=⟨fun _=>h,fun cc e=>by simp [tv,e] at h2,fun t x y e=>by simp [tv,e] at h2⟩
section
variable {P:Program} {c:cB} (av:ez c P) {C:Ctx} {Hx:List T} {w:World} {st st':St} {o:Oper} {a:Act} {aI:List (Array Value)} {S:List (Nat × RT)} {K:Act→World→Prop} {Q:Exit→Act→World→Prop}
  {cl:FuncId→List D→Option (D × List D)} {ci:FuncId→List D→Nat→St→Option (D × St)} {aC:FuncId}
include av
theorem Ve (h:Rel C Hx w st (a.tmps::aI) S) (gw:∀ t,o.dst=some t→t < a.tmps.size∧∀ p∈C.P0,p.1≠st.of+t) (oV:∀ cc f,o.op=.call cc→cc.callee≠.value f) (ak:fj c cl ci aC st o=some st')
    (hK:∀ a' w' S',Rel C Hx w' st' (a'.tmps::aI) S'→a'.tmps.size=a.tmps.size→a'.defers=a.defers→st'.of=st.of→zW o a S w w'→K a' w'):o.wp P a w K Q:=by
  have fY:mA w (ah C w S Hx) S st.tm a.tmps:=by cases h.pj with | cons a _=>exact a
  have ev:=fun t x=>wG (c:=c) fY t x
  have A7:∀ t,o.dst=some t→t < a.tmps.size:=fun t ht=>(gw t ht).1
  have cP:∀ {d:D} {v:Value},(execOp a.eval o).run P w=.ok (.value v) w→cy w (ah C w S Hx) S d v→st'=st.put o.dst d→o.wp P a w K Q:=by
    intro d v eo hv cE
    subst cE
    refine pS eo (hK _ _ S (h.A6 A7 hv) (cY a o.dst v).1 (cY a o.dst v).2 (jj st o.dst d) (zW.refl o a S w))
  have zd:∀ {aQ:St} {cs:List D} {dd:Nat→D},aQ.of=st.of→aQ.root o.dst cs dd=some st'→(∀ t,o.dst=some t→t < a.tmps.size→(∀ p∈C.P0,p.1≠st.of+t)→aQ.root (some t) cs dd=some st'→∃ v w',(execOp a.eval o).run P w=.ok (.value v) w'∧zW o a S w w'∧∃ S',Rel C Hx w' st' (a.tmps.setIfInBounds t v::aI) S')→o.wp P a w K Q:=by
    intro aQ cs dd rN hr hk
    obtain ⟨h1,t,ht⟩:=uY hr
    rw [ht] at hr
    obtain ⟨v,w',eo,A8,S',iw⟩:=hk t ht (gw t ht).1 (gw t ht).2 hr
    refine pS eo (hK _ _ S' ?_ (cY a o.dst v).1 (cY a o.dst v).2 (h1.trans rN) A8)
    rw [ht]
    exact iw
  unfold fj at ak
  cases ho:o.op with
  | move x=>
    simp only [ho,Option.some.injEq] at ak
    exact cP (by unfold execOp; simp only [ho]; rfl) (ev o.type x) ak.symm
  | assign x=>
    simp only [ho,Option.some.injEq] at ak
    exact cP (by unfold execOp; simp only [ho]; rfl) (ev o.type x) ak.symm
  | pick b x y=>
    simp only [ho] at ak
    split at ak
    case h_2=>simp at ak
    rename_i t hb
    simp only [Option.some.injEq] at ak
    have Gu:=ev o.type b
    rw [hb] at Gu
    have Gu:a.eval b=.bool t:=Gu
    refine cP (v:=if t then a.eval x else a.eval y) (d:=if t then cw c st o.type x else cw c st o.type y) ?_ ?_ ak.symm
    · unfold execOp
      simp only [ho,Gu,asBool,Sem.run_bind,Sem.run_pure,Result.andThen_ok]
    · cases t
      · exact ev o.type y
      · exact ev o.type x
  | alloc e=>
    simp only [ho] at ak
    split at ak
    case h_2=>simp at ak
    rename_i i hi
    refine zd rfl ak (fun t ht h1 h2 h3=>?_)
    obtain ⟨v,w',hr,hG,hS⟩:=Xp av h hi h1 h2 h3
    exact ⟨v,w',by unfold execOp; simp only [ho,Sem.run_bind,hr,Result.andThen_ok,Sem.run_pure],.alloc hG (by simp [tv,ho]),hS⟩
  | box e x=>
    simp only [ho] at ak
    split at ak
    case h_2=>simp at ak
    rename_i i hi
    by_cases cE:c.qH aC (o.dst.getD 0)=true
    · simp only [cE,if_true,and_true] at ak
      split at ak
      case isFalse=>simp at ak
      rename_i hc
      split at ak
      case h_2=>simp at ak
      rename_i t ht
      rw [ht] at cE
      simp only [Option.getD_some] at cE
      simp only [cE,if_true] at ak
      split at ak
      case h_2=>simp at ak
      rename_i cs aQ dD
      split at ak
      case isFalse=>simp at ak
      rename_i eM
      obtain ⟨v,w',hr,hG,S',iw⟩:=UT av h hc dD eM (gw t ht).1 (gw t ht).2 ak
      refine pS (v:=v) (w':=w') (by unfold execOp; simp only [ho,Sem.run_bind,hr,Result.andThen_ok,Sem.run_pure]) (hK _ _ S' (by rw [ht]; exact iw) (cY a o.dst v).1 (cY a o.dst v).2 ((uY ak).1.trans (Oi dD)) (.alloc hG (by simp [tv,ho])))
    · simp only [cE,Bool.false_eq_true,if_false] at ak
      split at ak
      case isFalse=>simp at ak
      rename_i hc
      split at ak
      case h_2=>simp at ak
      rename_i t ht
      rw [ht] at cE
      simp only [Option.getD_some] at cE
      simp only [cE,Bool.false_eq_true,if_false] at ak
      obtain ⟨v,w',hr,hG,S',iw⟩:=acP av h hc.1 hc.2 (gw t ht).1 (gw t ht).2 ak
      refine pS (v:=v) (w':=w') (by unfold execOp; simp only [ho,Sem.run_bind,hr,Result.andThen_ok,Sem.run_pure]) (hK _ _ S' (by rw [ht]; exact iw) (cY a o.dst v).1 (cY a o.dst v).2 (uY ak).1 (.alloc hG (by simp [tv,ho])))
  | build t ps=>
    simp only [ho] at ak
    split at ak
    · rename_i lW szs sz qk z gq
      split at ak
      case h_2=>simp at ak
      rename_i cs hf
      simp only [Option.some.injEq] at ak
      obtain ⟨v,hr,hv⟩:=AU av h gq hf
      exact cP (by unfold execOp; simp only [ho,Sem.run_bind,hr,Result.andThen_ok,Sem.run_pure]) hv ak.symm
    · rename_i n e sz qk z gq
      split at ak
      case h_2=>simp at ak
      rename_i ei ji
      split at ak
      case h_2=>simp at ak
      rename_i cs hf
      simp only [Option.some.injEq] at ak
      obtain ⟨v,hr,hv⟩:=DP av h gq ji hf
      exact cP (by unfold execOp; simp only [ho,Sem.run_bind,hr,Result.andThen_ok,Sem.run_pure]) hv ak.symm
    · simp at ak
  | buildSlice t n ps=>
    simp only [ho] at ak
    split at ak
    case h_2=>simp at ak
    rename_i e sz qk z gq
    split at ak
    case h_2=>simp at ak
    rename_i ei ji
    split at ak
    case isFalse=>simp at ak
    rename_i hn
    split at ak
    case h_2=>simp at ak
    rename_i vs aQ hp
    split at ak
    case h_2=>simp at ak
    rename_i cs hf
    have rN:aQ.of=st.of:=by
      have dY:cj (fun p q=>q.1=p.1∧cy w (ah C w S Hx) S p.2 q.2) (ps.toList.map fun p=>(p.1,cw c st e p.2)) (ps.toList.map fun p=>(p.1,a.eval p.2)):=by
        refine dq (by simp) (fun i x y hx hy=>?_)
        simp only [List.getElem?_map] at hx hy
        cases hq:ps.toList[i]? with
        | none=>simp [hq] at hx
        | some q=>
          simp only [hq,Option.map_some,Option.some.injEq] at hx hy
          subst hx; subst hy
          exact ⟨rfl,ev e q.2⟩
      obtain ⟨_,_,_,_,_,_,_,_,b7⟩:=Gn h dY hp
      exact b7.2.2
    refine zd rN ak (fun t' ht h1 h2 h3=>?_)
    obtain ⟨v,w',hr,hG,hS⟩:=LC av h gq rfl ji hn hp hf h1 h2 h3
    exact ⟨v,w',by unfold execOp; simp only [ho,Sem.run_bind,hr,Result.andThen_ok,Sem.run_pure],.alloc hG (by simp [tv,ho]),hS⟩
  | load t x=>
    simp only [ho] at ak
    split at ak
    case h_2=>simp at ak
    rename_i i hi
    split at ak
    case h_2=>simp at ak
    rename_i d hl
    simp only [Option.some.injEq] at ak
    obtain ⟨v,hr,hv⟩:=IJ av h.rt h.mem hi (ev o.type x) hl
    replace hr:=hr w (AJ.refl _ w)
    exact cP (by unfold execOp; simp only [ho,Sem.run_bind,hr,Result.andThen_ok,Sem.run_pure]) hv ak.symm
  | store t x y=>
    simp only [ho] at ak
    split at ak
    case h_2=>simp at ak
    rename_i i hi
    split at ak
    case h_2=>simp at ak
    rename_i aQ hs
    simp only [Option.some.injEq] at ak
    subst ak
    obtain ⟨w',S',hr,iw,rN⟩:=U0 av h hi (ev o.type x) (ev t y) hs
    refine S6 (w':=w') (by unfold execOp; simp only [ho,Sem.run_bind,hr,Result.andThen_ok,Sem.run_pure]) (hK _ _ S' (iw.A6 A7 (d:=.aP []) ?_) (cY a o.dst undef).1 (cY a o.dst undef).2 ((jj aQ o.dst _).trans rN) ?_)
    · exact ⟨#[],rfl,.nil⟩
    · refine ⟨fun e=>by simp [tv,ho] at e,fun cc e=>by simp [ho] at e,fun t0 x0 y0 e A hA cS k hk=>?_⟩
      rw [ho,Op.store.injEq] at e
      obtain ⟨rfl,rfl,rfl⟩:=e
      rw [hA] at hr
      have DT:(storeVar t A (a.eval y)).run P w=.ok () w':=by simpa [Instr.storeAt,Instr.sureAddr] using hr
      simp only [storeVar,Sem.run_bind,(av.ty _ _ hi).sz w,Result.andThen_ok] at DT
      split at DT
      · simp at DT
      · exact vy A rfl cS (by simpa using DT) k hk
  | nilCheck x=>
    simp only [ho] at ak
    have hx:=ev o.type x
    have hd:∃ A,a.eval x=.pointer (some A)∧st'=st.put o.dst (cw c st o.type x):=by
      split at ak
      · rename_i r q i heq
        split at ak
        · rename_i hl
          simp only [Option.some.injEq] at ak
          rw [heq] at hx
          obtain ⟨A,hA,_⟩:=sY h.rt h.mem hx (by simp only [hl,if_true]; rfl)
          exact ⟨A,hA,by rw [heq]; exact ak.symm⟩
        · simp at ak
      · rename_i cs i heq
        simp only [Option.some.injEq] at ak
        rw [heq] at hx
        obtain ⟨A,hA,_⟩:=sY h.rt h.mem hx rfl
        exact ⟨A,hA,by rw [heq]; exact ak.symm⟩
      · simp at ak
    obtain ⟨A,hA,cE⟩:=hd
    refine cP (v:=a.eval x) ?_ hx cE
    unfold execOp
    simp only [ho,hA]
    rfl
  | binOp op t x y z=>
    simp only [ho] at ak
    split at ak
    case h_2=>simp at ak
    rename_i d hb
    simp only [Option.some.injEq] at ak
    obtain ⟨v,hr,hv⟩:=UG av (x:=x) (y:=y) (ev t x) (ev t y) hb
    exact cP (by unfold execOp; simp only [ho,Sem.run_bind] at hr ⊢; rw [hr]; rfl) hv ak.symm
  | unOp op t x=>
    simp only [ho] at ak
    split at ak
    case h_2=>simp at ak
    rename_i d hb
    simp only [Option.some.injEq] at ak
    obtain ⟨v,hr,hv⟩:=Zw (P:=P) (ev o.type x) hb
    exact cP (by unfold execOp; simp only [ho,Sem.run_bind,hr,Result.andThen_ok,Sem.run_pure]) hv ak.symm
  | makeFunc fn first gL=>
    cases fn with
    | func f=>
      simp only [ho] at ak
      split at ak
      case isFalse=>simp at ak
      rename_i hf
      simp only [Option.some.injEq] at ak
      have Oj:first=#[]:=Array.eq_empty_of_size_eq_zero hf.1
      subst Oj
      refine cP (v:=.func (.func f) #[] (gL.map a.eval)) (by simp [execOp,ho,Instr.makeFunc]) ?_ ak.symm
      refine ⟨_,rfl,?_⟩
      refine dq (by simp) (fun i x y hx hy=>?_)
      have hs:single x=true:=List.all_eq_true.1 hf.2 x (List.mem_of_getElem? hx)
      simp only [Array.toList_map,List.getElem?_map] at hx hy
      cases hq:gL.toList[i]? with
      | none=>simp [hq] at hx
      | some q=>
        simp only [hq,Option.map_some,Option.some.injEq] at hx hy
        subst hy
        have hv:=ev o.type q
        rw [hx] at hv
        cases x<;>first | exact hv | simp [single] at hs
    | _=>simp [ho] at ak
  | makeSlice t l cp=>
    simp only [ho] at ak
    split at ak
    case h_2=>simp at ak
    rename_i e sz qk z gq
    split at ak
    case h_2=>simp at ak
    rename_i ei kl li kc ci ji hl hc
    split at ak
    case isFalse=>simp at ak
    rename_i h0
    split at ak
    case isFalse=>simp at ak
    rename_i AT
    split at ak
    case isFalse=>simp at ak
    rename_i hb
    have ZT:=ev o.type l
    rw [hl] at ZT
    have A3:=ev o.type cp
    rw [hc] at A3
    have ZT:=gz ZT
    have A3:=gz A3
    refine zd rfl ak (fun t' ht h1 h2 h3=>?_)
    obtain ⟨v,w',hr,hG,hS⟩:=N3 av h gq rfl ji (kl:=kl) (kc:=kc) h0 AT hb h1 h2 h3
    exact ⟨v,w',by unfold execOp; simp only [ho,ZT,A3,Sem.run_bind,hr,Result.andThen_ok,Sem.run_pure],.alloc hG (by simp [tv,ho]),hS⟩
  | convert src dst x=>
    simp only [ho] at ak
    split at ak
    · rename_i d hc
      simp only [Option.some.injEq] at ak
      obtain ⟨v,hr,hv⟩:=Oh av h (ev src x) hc
      replace hr:=hr w (dM.refl w)
      exact cP (by unfold execOp; simp only [ho,Sem.run_bind,hr,Result.andThen_ok,Sem.run_pure]) hv ak.symm
    · rename_i d cs hc
      refine zd rfl ak (fun t' ht h1 h2 h3=>?_)
      obtain ⟨v,w',hr,hS⟩:=U9 av h (ev src x) hc h1 h2 h3
      exact ⟨v,w',by unfold execOp; simp only [ho,Sem.run_bind,hr,Result.andThen_ok,Sem.run_pure],⟨fun e=>by simp [tv,ho] at e,fun cc e=>by simp [ho] at e,fun t0 x0 y0 e=>by simp [ho] at e⟩,hS⟩
    · simp at ak
  | slice t x lo hi mx=>
    cases mx with
    | some _=>simp [ho] at ak
    | none=>
      simp only [ho] at ak
      split at ak
      case h_2=>simp at ak
      rename_i d hs
      simp only [Option.some.injEq] at ak
      have Ok:∀ y:Option Operand,KC w (ah C w S Hx) S (y.map (cw c st o.type)) (y.map a.eval):=by
        intro y
        cases y with
        | none=>exact .inl ⟨rfl,rfl⟩
        | some y=>exact .inr ⟨_,_,rfl,rfl,ev o.type y⟩
      obtain ⟨v,hr,hv⟩:=NV av h.rt h.mem (ev t x) (Ok lo) (Ok hi) hs
      exact cP (by unfold execOp; simp only [ho,Option.map_none,Sem.run_bind,hr,Result.andThen_ok,Sem.run_pure]) hv ak.symm
  | fieldAddr s x f=>
    simp only [ho] at ak
    split at ak
    case h_2=>simp at ak
    rename_i lW szs sz qk z gq
    split at ak
    case h_2=>simp at ak
    rename_i k hk
    split at ak
    case h_2=>simp at ak
    rename_i d hs
    simp only [Option.some.injEq] at ak
    obtain ⟨v,hr,hv⟩:=AK av h.rt h.mem gq hk (ev o.type x) hs
    exact cP (by unfold execOp; simp only [ho,Sem.run_bind,hr,Result.andThen_ok,Sem.run_pure]) hv ak.symm
  | indexAddr t x i=>
    simp only [ho] at ak
    split at ak
    case h_2=>simp at ak
    rename_i k i' hi
    split at ak
    case h_2=>simp at ak
    rename_i d hs
    simp only [Option.some.injEq] at ak
    have qV:=ev o.type i
    rw [hi] at qV
    have qV:=gz qV
    obtain ⟨v,hr,hv⟩:=AM av h.rt h.mem (k:=k) (ev t x) hs
    exact cP (by unfold execOp; simp only [ho,qV,Sem.run_bind,hr,Result.andThen_ok,Sem.run_pure]) hv ak.symm
  | index t x i=>
    simp only [ho] at ak
    split at ak
    case h_2=>simp at ak
    rename_i k i' hi
    split at ak
    case h_2=>simp at ak
    rename_i d hs
    simp only [Option.some.injEq] at ak
    have qV:=ev o.type i
    rw [hi] at qV
    have qV:=gz qV
    obtain ⟨v,hr,hv⟩:=Og av (k:=k) (ev o.type x) hs
    exact cP (by unfold execOp; simp only [ho,qV,Sem.run_bind,hr,Result.andThen_ok,Sem.run_pure]) hv ak.symm
  | extract x i=>
    simp only [ho] at ak
    split at ak
    case h_2=>simp at ak
    rename_i vs hx
    split at ak
    case h_2=>simp at ak
    rename_i d hs
    simp only [Option.some.injEq] at ak
    have Vf:=ev o.type x
    rw [hx] at Vf
    obtain ⟨v,hr,hv⟩:=Ga (P:=P) Vf hs
    exact cP (by unfold execOp; simp only [ho,Sem.run_bind,hr,Result.andThen_ok,Sem.run_pure]) hv ak.symm
  | call cc=>
    simp only [ho] at ak
    split at ak
    · simp at ak
    rename_i cV
    simp only [ne_eq,Decidable.not_not] at cV
    have wN:∀ {ds:List D},((cc.args.toList.zip cc.argTypes.toList).map fun p=>cw c st p.2 p.1)=ds→cj (cy w (ah C w S Hx) S) ds (cc.args.map a.eval).toList:=by
      intro ds Ol
      subst Ol
      refine dq (by simp [cV]) (fun i x y hx hy=>?_)
      simp only [Array.toList_map,List.getElem?_map] at hx hy
      cases hq:(cc.args.toList.zip cc.argTypes.toList)[i]? with
      | none=>simp [hq] at hx
      | some q=>
        simp only [hq,Option.map_some,Option.some.injEq] at hx
        rw [List.getElem?_zip_eq_some] at hq
        simp only [hq.1,Option.map_some,Option.some.injEq] at hy
        subst hx; subst hy
        exact ev q.2 q.1
    split at ak
    · rename_i f hf
      exact absurd hf (oV cc f ho)
    · rename_i hb
      split at ak
      case h_2=>simp at ak
      rename_i x t hx ht
      split at ak
      case h_2=>simp at ak
      rename_i d hl
      simp only [Option.some.injEq] at ak
      have ha:=wN hx
      have hZ:cc.args.map a.eval=#[(cc.args.map a.eval).toList.headD undef]:=by
        cases eN:(cc.args.map a.eval).toList with
        | nil=>rw [eN] at ha; cases ha
        | cons y ys=>rw [eN] at ha; cases ha with
          | cons _ h2=>cases h2; rw [← Array.toArray_toList (xs:=cc.args.map a.eval),eN]; rfl
      have A5:cc.argTypes=#[t]:=by rw [← Array.toArray_toList (xs:=cc.argTypes),ht]
      have Om:cy w (ah C w S Hx) S x ((cc.args.map a.eval).toList.headD undef):=by
        cases eN:(cc.args.map a.eval).toList with
        | nil=>rw [eN] at ha; cases ha
        | cons y ys=>rw [eN] at ha; cases ha with
          | cons h1 _=>exact h1
      obtain ⟨v,hr,hv⟩:=UI av h.rt h.mem Om hl o.type
      exact cP (by unfold execOp; simp only [ho,resolve,hb,invoke,builtin,Sem.run_bind,Sem.run_pure,Result.andThen_ok]; rw [hZ,A5,hr]; rfl) hv ak.symm
    · rename_i hb
      split at ak
      case h_2=>simp at ak
      rename_i k x k' y hx
      simp only [Option.some.injEq] at ak
      have ha:=wN hx
      have hZ:cc.args.map a.eval=#[.int k x,.int k' y]:=by
        cases eN:(cc.args.map a.eval).toList with
        | nil=>rw [eN] at ha; cases ha
        | cons y ys=>rw [eN] at ha; cases ha with
          | cons h1 h2=>
            cases h2 with
            | cons h3 h4=>
              cases h4
              rw [← Array.toArray_toList (xs:=cc.args.map a.eval),eN,gz h1,gz h3]
      refine cP (v:=.int k (if y < x then y else x)) ?_ (UF _ _) ak.symm
      unfold execOp
      simp only [ho,resolve,hb,invoke,builtin,Sem.run_bind,Sem.run_pure,Result.andThen_ok]
      rw [hZ]
      simp [Builtin.min_,Builtin.min2]
    · rename_i hb
      split at ak
      case h_2=>simp at ak
      rename_i k x k' y hx
      simp only [Option.some.injEq] at ak
      have ha:=wN hx
      have hZ:cc.args.map a.eval=#[.int k x,.int k' y]:=by
        cases eN:(cc.args.map a.eval).toList with
        | nil=>rw [eN] at ha; cases ha
        | cons y ys=>rw [eN] at ha; cases ha with
          | cons h1 h2=>
            cases h2 with
            | cons h3 h4=>
              cases h4
              rw [← Array.toArray_toList (xs:=cc.args.map a.eval),eN,gz h1,gz h3]
      refine cP (v:=.int k (if y>x then y else x)) ?_ (UF _ _) ak.symm
      unfold execOp
      simp only [ho,resolve,hb,invoke,builtin,Sem.run_bind,Sem.run_pure,Result.andThen_ok]
      rw [hZ]
      simp [Builtin.max_,Builtin.max2]
    · rename_i hb
      split at ak
      case h_2=>simp at ak
      rename_i s x t tx hx ht
      have ha:=wN hx
      obtain ⟨us,ux,hZ,wM,Om⟩:∃ us ux,cc.args.map a.eval=#[us,ux]∧cy w (ah C w S Hx) S s us∧cy w (ah C w S Hx) S x ux:=by
        cases eN:(cc.args.map a.eval).toList with
        | nil=>rw [eN] at ha; cases ha
        | cons y ys=>rw [eN] at ha; cases ha with
          | cons h1 h2=>
            cases h2 with
            | cons h3 h4=>
              cases h4
              exact ⟨_,_,by rw [← Array.toArray_toList (xs:=cc.args.map a.eval),eN],h1,h3⟩
      have A5:cc.argTypes=#[t,tx]:=by rw [← Array.toArray_toList (xs:=cc.argTypes),ht]
      obtain ⟨cq,dd,rN,Nq⟩:∃ cq:St,∃ cs:List D,cq.of=st.of∧cq.root o.dst cs (fun d=>.ref d [] 0 none)=some st':=Vb ak
      obtain ⟨_,t',pk⟩:=uY Nq
      rw [pk] at ak
      obtain ⟨v,w',hr,hG,S',iw⟩:=U6 av h wM Om (ty:=o.type) (gw t' pk).1 (gw t' pk).2 ak
      refine pS (v:=v) (w':=w') (by unfold execOp; simp only [ho,resolve,hb,invoke,builtin,Sem.run_bind,Sem.run_pure,Result.andThen_ok]; rw [hZ,A5,hr]; rfl) (hK _ _ S' (by rw [pk]; exact iw) (cY a o.dst v).1 (cY a o.dst v).2 ((uY Nq).1.trans rN) ⟨fun e=>by simp [tv,ho] at e,fun _ _ _=>hG,fun t0 x0 y0 e=>by simp [ho] at e⟩)
    · simp at ak
  | _=>simp [ho] at ak
end
end Go.Proofs.YtockoilcnmljiaaGreat
namespace Go.Proofs.YtockoilcnmljiaaGreat
def Rd (o:Oper) (a:Act) (w w2:World):Prop:=
  match o.op with
  | .load _ x=>AJ (a.eval x) w w2
  | _=>dM w w2
theorem dM.rd {w w2:World} (h:dM w w2) (o:Oper) (a:Act):Rd o a w w2:=by
  unfold Rd
  split
  · exact h.ahT _
  · exact h
section
variable {P:Program} {c:cB} (av:ez c P) {C:Ctx} {Hx:List T} {w:World} {st st':St} {o:Oper} {a:Act} {aI:List (Array Value)} {S:List (Nat × RT)}
  {cl:FuncId→List D→Option (D × List D)} {ci:FuncId→List D→Nat→St→Option (D × St)} {aC:FuncId}
include av
theorem On (h:Rel C Hx w st (a.tmps::aI) S) {b:Bool} (mf:oU c o=some b) (ak:fj c cl ci aC st o=some st'):
    ∃ v d,(∀ w2,(b=true∨Rd o a w w2)→(execOp a.eval o).run P w2=.ok (.value v) w2)∧cy w (ah C w S Hx) S d v∧st'=st.put o.dst d:=by
  have fY:mA w (ah C w S Hx) S st.tm a.tmps:=by cases h.pj with | cons a _=>exact a
  have ev:=fun t x=>wG (c:=c) fY t x
  have cP:∀ {d:D} {v:Value},(∀ w2,(b=true∨Rd o a w w2)→(execOp a.eval o).run P w2=.ok (.value v) w2)→cy w (ah C w S Hx) S d v→st'=st.put o.dst d→∃ v d,(∀ w2,(b=true∨Rd o a w w2)→(execOp a.eval o).run P w2=.ok (.value v) w2)∧cy w (ah C w S Hx) S d v∧st'=st.put o.dst d:=
    fun h1 h2 h3=>⟨_,_,h1,h2,h3⟩
  unfold fj at ak
  cases ho:o.op with
  | move x=>
    simp only [ho,Option.some.injEq] at ak
    exact cP (fun w2 _=>by unfold execOp; simp only [ho]; rfl) (ev o.type x) ak.symm
  | assign x=>
    simp only [ho,Option.some.injEq] at ak
    exact cP (fun w2 _=>by unfold execOp; simp only [ho]; rfl) (ev o.type x) ak.symm
  | pick b x y=>
    simp only [ho] at ak
    split at ak
    case h_2=>simp at ak
    rename_i t hb
    simp only [Option.some.injEq] at ak
    have Gu:=ev o.type b
    rw [hb] at Gu
    have Gu:a.eval b=.bool t:=Gu
    refine cP (v:=if t then a.eval x else a.eval y) (d:=if t then cw c st o.type x else cw c st o.type y) ?_ ?_ ak.symm
    · intro w2 _
      unfold execOp
      simp only [ho,Gu,asBool,Sem.run_bind,Sem.run_pure,Result.andThen_ok]
    · cases t
      · exact ev o.type y
      · exact ev o.type x
  | alloc e=>simp [oU,ho] at mf
  | box e x=>simp [oU,ho] at mf
  | build t ps=>
    simp only [ho] at ak
    split at ak
    · rename_i lW szs sz qk z gq
      split at ak
      case h_2=>simp at ak
      rename_i cs hf
      simp only [Option.some.injEq] at ak
      obtain ⟨v,hr,hv⟩:=AU av h gq hf
      exact cP (fun w2 _=>by unfold execOp; simp only [ho,Sem.run_bind,hr,Result.andThen_ok,Sem.run_pure]) hv ak.symm
    · rename_i n e sz qk z gq
      split at ak
      case h_2=>simp at ak
      rename_i ei ji
      split at ak
      case h_2=>simp at ak
      rename_i cs hf
      simp only [Option.some.injEq] at ak
      obtain ⟨v,hr,hv⟩:=DP av h gq ji hf
      exact cP (fun w2 _=>by unfold execOp; simp only [ho,Sem.run_bind,hr,Result.andThen_ok,Sem.run_pure]) hv ak.symm
    · simp at ak
  | buildSlice t n ps=>simp [oU,ho] at mf
  | load t x=>
    simp only [ho] at ak
    split at ak
    case h_2=>simp at ak
    rename_i i hi
    split at ak
    case h_2=>simp at ak
    rename_i d hl
    simp only [Option.some.injEq] at ak
    obtain ⟨v,hr,hv⟩:=IJ av h.rt h.mem hi (ev o.type x) hl
    exact cP (fun w2 pn=>by have hr:=hr w2 (by have h9:=pn.resolve_left (by simp only [oU,ho,Option.some.injEq] at mf; rw [← mf]; simp); simpa only [Rd,ho] using h9); unfold execOp; simp only [ho,Sem.run_bind,hr,Result.andThen_ok,Sem.run_pure]) hv ak.symm
  | store t x y=>simp [oU,ho] at mf
  | nilCheck x=>
    simp only [ho] at ak
    have hx:=ev o.type x
    have hd:∃ A,a.eval x=.pointer (some A)∧st'=st.put o.dst (cw c st o.type x):=by
      split at ak
      · rename_i r q i heq
        split at ak
        · rename_i hl
          simp only [Option.some.injEq] at ak
          rw [heq] at hx
          obtain ⟨A,hA,_⟩:=sY h.rt h.mem hx (by simp only [hl,if_true]; rfl)
          exact ⟨A,hA,by rw [heq]; exact ak.symm⟩
        · simp at ak
      · rename_i cs i heq
        simp only [Option.some.injEq] at ak
        rw [heq] at hx
        obtain ⟨A,hA,_⟩:=sY h.rt h.mem hx rfl
        exact ⟨A,hA,by rw [heq]; exact ak.symm⟩
      · simp at ak
    obtain ⟨A,hA,cE⟩:=hd
    refine cP (v:=a.eval x) ?_ hx cE
    intro w2 _
    unfold execOp
    simp only [ho,hA]
    rfl
  | binOp op t x y z=>
    simp only [ho] at ak
    split at ak
    case h_2=>simp at ak
    rename_i d hb
    simp only [Option.some.injEq] at ak
    obtain ⟨v,hr,hv⟩:=UG av (x:=x) (y:=y) (ev t x) (ev t y) hb
    exact cP (fun w2 _=>by unfold execOp; simp only [ho,Sem.run_bind] at hr ⊢; rw [hr]; rfl) hv ak.symm
  | unOp op t x=>
    simp only [ho] at ak
    split at ak
    case h_2=>simp at ak
    rename_i d hb
    simp only [Option.some.injEq] at ak
    obtain ⟨v,hr,hv⟩:=Zw (P:=P) (ev o.type x) hb
    exact cP (fun w2 _=>by unfold execOp; simp only [ho,Sem.run_bind,hr,Result.andThen_ok,Sem.run_pure]) hv ak.symm
  | makeFunc fn first gL=>
    cases fn with
    | func f=>
      simp only [ho] at ak
      split at ak
      case isFalse=>simp at ak
      rename_i hf
      simp only [Option.some.injEq] at ak
      have Oj:first=#[]:=Array.eq_empty_of_size_eq_zero hf.1
      subst Oj
      refine cP (v:=.func (.func f) #[] (gL.map a.eval)) (by simp [execOp,ho,Instr.makeFunc]) ?_ ak.symm
      refine ⟨_,rfl,?_⟩
      refine dq (by simp) (fun i x y hx hy=>?_)
      have hs:single x=true:=List.all_eq_true.1 hf.2 x (List.mem_of_getElem? hx)
      simp only [Array.toList_map,List.getElem?_map] at hx hy
      cases hq:gL.toList[i]? with
      | none=>simp [hq] at hx
      | some q=>
        simp only [hq,Option.map_some,Option.some.injEq] at hx hy
        subst hy
        have hv:=ev o.type q
        rw [hx] at hv
        cases x<;>first | exact hv | simp [single] at hs
    | _=>simp [ho] at ak
  | makeSlice t l cp=>simp [oU,ho] at mf
  | convert src dst x=>
    simp only [ho] at ak
    split at ak
    · rename_i d hc
      simp only [Option.some.injEq] at ak
      obtain ⟨v,hr,hv⟩:=Oh av h (ev src x) hc
      exact cP (fun w2 pn=>by have hr:=hr w2 (by have h9:=pn.resolve_left (by simp only [oU,ho] at mf; split at mf<;>simp at mf; rw [mf]; simp); simpa only [Rd,ho] using h9); unfold execOp; simp only [ho,Sem.run_bind,hr,Result.andThen_ok,Sem.run_pure]) hv ak.symm
    · rename_i d cs hc
      exfalso
      simp only [oU,ho] at mf
      unfold wD at hc
      split at hc
      case h_2=>simp at hc
      rename_i si di ZS U7
      rw [U7] at mf
      split at hc
      · simp at hc
      · simp at hc
      · simp at hc
      · split at hc
        · split at hc
          · split at hc
            · split at hc<;>simp at hc
            · simp at hc
          · simp at hc
        · simp at hc
      · rename_i ZU hk zV
        obtain ⟨ty,a1,a2,a3⟩:=di
        simp only at ZU
        subst ZU
        simp at mf
      · simp at hc
    · simp at ak
  | slice t x lo hi mx=>
    cases mx with
    | some _=>simp [ho] at ak
    | none=>
      simp only [ho] at ak
      split at ak
      case h_2=>simp at ak
      rename_i d hs
      simp only [Option.some.injEq] at ak
      have Ok:∀ y:Option Operand,KC w (ah C w S Hx) S (y.map (cw c st o.type)) (y.map a.eval):=by
        intro y
        cases y with
        | none=>exact .inl ⟨rfl,rfl⟩
        | some y=>exact .inr ⟨_,_,rfl,rfl,ev o.type y⟩
      obtain ⟨v,hr,hv⟩:=NV av h.rt h.mem (ev t x) (Ok lo) (Ok hi) hs
      exact cP (fun w2 _=>by unfold execOp; simp only [ho,Option.map_none,Sem.run_bind,hr,Result.andThen_ok,Sem.run_pure]) hv ak.symm
  | fieldAddr s x f=>
    simp only [ho] at ak
    split at ak
    case h_2=>simp at ak
    rename_i lW szs sz qk z gq
    split at ak
    case h_2=>simp at ak
    rename_i k hk
    split at ak
    case h_2=>simp at ak
    rename_i d hs
    simp only [Option.some.injEq] at ak
    obtain ⟨v,hr,hv⟩:=AK av h.rt h.mem gq hk (ev o.type x) hs
    exact cP (fun w2 _=>by unfold execOp; simp only [ho,Sem.run_bind,hr,Result.andThen_ok,Sem.run_pure]) hv ak.symm
  | indexAddr t x i=>
    simp only [ho] at ak
    split at ak
    case h_2=>simp at ak
    rename_i k i' hi
    split at ak
    case h_2=>simp at ak
    rename_i d hs
    simp only [Option.some.injEq] at ak
    have qV:=ev o.type i
    rw [hi] at qV
    have qV:=gz qV
    obtain ⟨v,hr,hv⟩:=AM av h.rt h.mem (k:=k) (ev t x) hs
    exact cP (fun w2 _=>by unfold execOp; simp only [ho,qV,Sem.run_bind,hr,Result.andThen_ok,Sem.run_pure]) hv ak.symm
  | index t x i=>
    simp only [ho] at ak
    split at ak
    case h_2=>simp at ak
    rename_i k i' hi
    split at ak
    case h_2=>simp at ak
    rename_i d hs
    simp only [Option.some.injEq] at ak
    have qV:=ev o.type i
    rw [hi] at qV
    have qV:=gz qV
    obtain ⟨v,hr,hv⟩:=Og av (k:=k) (ev o.type x) hs
    exact cP (fun w2 _=>by unfold execOp; simp only [ho,qV,Sem.run_bind,hr,Result.andThen_ok,Sem.run_pure]) hv ak.symm
  | extract x i=>
    simp only [ho] at ak
    split at ak
    case h_2=>simp at ak
    rename_i vs hx
    split at ak
    case h_2=>simp at ak
    rename_i d hs
    simp only [Option.some.injEq] at ak
    have Vf:=ev o.type x
    rw [hx] at Vf
    obtain ⟨v,hr,hv⟩:=Ga (P:=P) Vf hs
    exact cP (fun w2 _=>by unfold execOp; simp only [ho,Sem.run_bind,hr,Result.andThen_ok,Sem.run_pure]) hv ak.symm
  | call cc=>
    simp only [ho] at ak
    split at ak
    · simp at ak
    rename_i cV
    simp only [ne_eq,Decidable.not_not] at cV
    have wN:∀ {ds:List D},((cc.args.toList.zip cc.argTypes.toList).map fun p=>cw c st p.2 p.1)=ds→cj (cy w (ah C w S Hx) S) ds (cc.args.map a.eval).toList:=by
      intro ds Ol
      subst Ol
      refine dq (by simp [cV]) (fun i x y hx hy=>?_)
      simp only [Array.toList_map,List.getElem?_map] at hx hy
      cases hq:(cc.args.toList.zip cc.argTypes.toList)[i]? with
      | none=>simp [hq] at hx
      | some q=>
        simp only [hq,Option.map_some,Option.some.injEq] at hx
        rw [List.getElem?_zip_eq_some] at hq
        simp only [hq.1,Option.map_some,Option.some.injEq] at hy
        subst hx; subst hy
        exact ev q.2 q.1
    split at ak
    · rename_i f hf
      simp [oU,ho,hf] at mf
    · rename_i hb
      split at ak
      case h_2=>simp at ak
      rename_i x t hx ht
      split at ak
      case h_2=>simp at ak
      rename_i d hl
      simp only [Option.some.injEq] at ak
      have ha:=wN hx
      have hZ:cc.args.map a.eval=#[(cc.args.map a.eval).toList.headD undef]:=by
        cases eN:(cc.args.map a.eval).toList with
        | nil=>rw [eN] at ha; cases ha
        | cons y ys=>rw [eN] at ha; cases ha with
          | cons _ h2=>cases h2; rw [← Array.toArray_toList (xs:=cc.args.map a.eval),eN]; rfl
      have A5:cc.argTypes=#[t]:=by rw [← Array.toArray_toList (xs:=cc.argTypes),ht]
      have Om:cy w (ah C w S Hx) S x ((cc.args.map a.eval).toList.headD undef):=by
        cases eN:(cc.args.map a.eval).toList with
        | nil=>rw [eN] at ha; cases ha
        | cons y ys=>rw [eN] at ha; cases ha with
          | cons h1 _=>exact h1
      obtain ⟨v,hr,hv⟩:=UI av h.rt h.mem Om hl o.type
      exact cP (fun w2 _=>by unfold execOp; simp only [ho,resolve,hb,invoke,builtin,Sem.run_bind,Sem.run_pure,Result.andThen_ok]; rw [hZ,A5,hr]; rfl) hv ak.symm
    · rename_i hb
      split at ak
      case h_2=>simp at ak
      rename_i k x k' y hx
      simp only [Option.some.injEq] at ak
      have ha:=wN hx
      have hZ:cc.args.map a.eval=#[.int k x,.int k' y]:=by
        cases eN:(cc.args.map a.eval).toList with
        | nil=>rw [eN] at ha; cases ha
        | cons y ys=>rw [eN] at ha; cases ha with
          | cons h1 h2=>
            cases h2 with
            | cons h3 h4=>
              cases h4
              rw [← Array.toArray_toList (xs:=cc.args.map a.eval),eN,gz h1,gz h3]
      refine cP (v:=.int k (if y < x then y else x)) ?_ (UF _ _) ak.symm
      intro w2 _
      unfold execOp
      simp only [ho,resolve,hb,invoke,builtin,Sem.run_bind,Sem.run_pure,Result.andThen_ok]
      rw [hZ]
      simp [Builtin.min_,Builtin.min2]
    · rename_i hb
      split at ak
      case h_2=>simp at ak
      rename_i k x k' y hx
      simp only [Option.some.injEq] at ak
      have ha:=wN hx
      have hZ:cc.args.map a.eval=#[.int k x,.int k' y]:=by
        cases eN:(cc.args.map a.eval).toList with
        | nil=>rw [eN] at ha; cases ha
        | cons y ys=>rw [eN] at ha; cases ha with
          | cons h1 h2=>
            cases h2 with
            | cons h3 h4=>
              cases h4
              rw [← Array.toArray_toList (xs:=cc.args.map a.eval),eN,gz h1,gz h3]
      refine cP (v:=.int k (if y>x then y else x)) ?_ (UF _ _) ak.symm
      intro w2 _
      unfold execOp
      simp only [ho,resolve,hb,invoke,builtin,Sem.run_bind,Sem.run_pure,Result.andThen_ok]
      rw [hZ]
      simp [Builtin.max_,Builtin.max2]
    · rename_i hb
      simp [oU,ho,hb] at mf
    · simp at ak
  | _=>simp [ho] at ak
end
end Go.Proofs.YtockoilcnmljiaaGreat
namespace Go.Proofs.YtockoilcnmljiaaGreat
mutual
theorem uZ {w:World} {X X':Bool→Nat→Prop} (h:∀ b k,X b k→X' b k):∀ (d:D) (u:Value),Ext w X d u→Ext w X' d u
  | d,u,hu=>gv (fun b k hk=>⟨h b k hk,rfl⟩) d u hu
end
theorem fQ {w:World} {X X':Bool→Nat→Prop} (h:∀ b k,X b k→X' b k) (ts:List T) (hs:bM w X ts):bM w X' ts:=
  gy (fun b k hk=>⟨h b k hk,rfl⟩) ts hs (fun _ _=>rfl)
theorem nY {w w':World} {X X':Bool→Nat→Prop} (cE:ju w w' X X') {S:List (Nat × RT)} {d:D} {u:Value} (h:bB w X S d u):bB w' X' S d u:=by
  have he:∀ d u,Ext w X d u→Ext w' X' d u:=gv cE
  cases d with
  | ref r q o x=>exact h
  | ptr r q o=>exact h
  | cJ cs o=>
    obtain ⟨b,off,c,e,fz,us,h1,h2,h3,h4,h5⟩:=h
    exact ⟨b,off,c,e,fz,us,h1,(cE true b h2).1,by rw [(cE true b h2).2]; exact h3,tw cE cs us h4,h5⟩
  | _=>exact he _ _ h
theorem Vg {w w':World} {X X':Bool→Nat→Prop} (cE:ju w w' X X') {S:List (Nat × RT)} {d:D} {u:Value} (h:gI w X S d u):gI w' X' S d u:=by
  rcases tC h with ⟨cs,us,rfl,rfl,h1⟩ | ⟨f,cs,us,rfl,rfl,h1⟩ | ⟨_,_,h1⟩
  · exact ⟨us,rfl,h1.mono (fun _ _=>nY cE)⟩
  · exact ⟨us,rfl,h1.mono (fun _ _=>nY cE)⟩
  · exact ey (nY cE h1)
theorem aa4 {ts:List T} {k:Nat}:k∈ai ts↔∃ t∈ts,k∈t.ft:=by
  rw [nT]
  simp only [List.mem_flatten,List.mem_map]
  constructor
  · rintro ⟨l,⟨t,h1,rfl⟩,h2⟩
    exact ⟨t,h1,h2⟩
  · rintro ⟨t,h1,h2⟩
    exact ⟨_,⟨t,h1,rfl⟩,h2⟩
theorem mg {S:List (Nat × RT)} {r:Nat} {R:RT} (h:lk S r=some R) {k:Nat} (hk:k∈R.ft):k∈cL S:=by
  obtain ⟨A,B,h1,_⟩:=lY h
  rw [h1]; simp [hk]
theorem ze {S:List (Nat × RT)} (hn:(cL S).Nodup) {r r':Nat} {R R':RT} {b:Nat} (h:lk S r=some R) (hb:R.box=some b) (h':lk S r'=some R') (hk:b∈R'.ft):r'=r:=by
  by_cases he:r'=r
  · exact he
  obtain ⟨A,B,h1,h2⟩:=lY h
  have h3:lk (pt S r ⟨none,[]⟩) r'=some R':=by rw [dJ _ _ he]; exact h'
  have h4:=mg h3 hk
  rw [h2] at h4
  rw [h1] at hn
  have ZI:b∈R.ft:=by simp [RT.ft,hb]
  simp only [RT.ft,Option.toList,ai,List.append_nil,List.mem_append] at h4
  rw [List.nodup_append,List.nodup_append] at hn
  rcases h4 with h4 | h4
  · exact absurd rfl (hn.1.2.2 b h4 b ZI)
  · exact absurd rfl (hn.2.2 b (by simp [ZI]) b h4)
section
variable {C:Ctx} {w w':World} {st:St} {aI:List (Array Value)} {S:List (Nat × RT)} {Hs H Os:List T} {bxs:List Nat}
theorem EA (h:Rel C (Hs++H) w st aI S) (vu:∀ b∈bxs,∃ r R,lk S r=some R∧R.box=some b∧R.cs=[])
    (cV:w.heap.size≤w'.heap.size) (hold:∀ k,k < w.heap.size→k∉ai Hs→k∉bxs→w'.heap[k]?=w.heap[k]?) (nE:w'.os=w.os) (uL:w'.tape=w.tape) (vt:w'.output=w.output)
    (hO:bM w' (fun b k=>k < w'.heap.size∧k∉ai Os∧k∉bxs∧(ah C w S (Hs++H) b k∨k∈ai Hs∨w.heap.size≤k)) Os)
    (fr:(ai Os).Nodup) (aob:∀ k∈ai Os,k∉bxs) (eT:∀ k∈ai Os,k < w'.heap.size∧(k∈ai Hs∨w.heap.size≤k)) (eW:∀ b∈bxs,lF w' b 0 0 []):
    Rel C (Os++H) w' st aI S∧hM C w w' S S (Hs++H) (Os++H) id:=by
  have DJ:∀ b∈bxs,b∈cL S:=fun b hb=>by
    obtain ⟨r,R,h1,h2,_⟩:=vu b hb
    exact mg h1 (by simp [RT.ft,h2])
  have hnS:=h.mem.nd
  rw [List.nodup_append,bj,List.nodup_append] at hnS
  obtain ⟨nS,⟨nHs,nH,dHs⟩,dS⟩:=hnS
  have cX:=h.mem.lt
  have Vh:∀ k∈cL S,k < w.heap.size:=fun k hk=>cX k (List.mem_append.2 (.inl hk))
  have ZV:∀ k∈ai H,k < w.heap.size:=fun k hk=>cX k (by simp [bj,hk])
  have ZW:∀ k∈cL S,k∉ai Hs:=fun k hk h2=>dS k hk k (by simp [h2]) rfl
  have SH:∀ k∈cL S,k∉ai H:=fun k hk h2=>dS k hk k (by simp [h2]) rfl
  have HHs:∀ k∈ai H,k∉ai Hs:=fun k hk h2=>dHs k h2 k hk rfl
  have OS:∀ k∈ai Os,k∉cL S:=fun k hk h2=>by
    rcases (eT k hk).2 with h3 | h3
    · exact ZW k h2 h3
    · have:=Vh k h2; omega
  have OH:∀ k∈ai Os,k∉ai H:=fun k hk h2=>by
    rcases (eT k hk).2 with h3 | h3
    · exact HHs k h2 h3
    · have:=ZV k h2; omega
  have cE:ju w w' (ah C w S (Hs++H)) (ah C w' S (Os++H)):=by
    intro b k hk
    obtain ⟨k1,k2,k3,k4⟩:=hk
    rw [bj,List.mem_append,not_or] at k3
    refine ⟨⟨by omega,k2,?_,k4⟩,hold k k1 k3.1 (fun hb=>k2 (DJ k hb))⟩
    rw [bj,List.mem_append,not_or]
    refine ⟨fun hk=>?_,k3.2⟩
    rcases (eT k hk).2 with h3 | h3
    · exact k3.1 h3
    · omega
  have ZK:hM C w w' S S (Hs++H) (Os++H) id:=fun d u hd=>nY cE hd
  have wO:∀ b k,(k < w'.heap.size∧k∉ai Os∧k∉bxs∧(ah C w S (Hs++H) b k∨k∈ai Hs∨w.heap.size≤k))→ah C w' S (Os++H) b k:=by
    rintro b k ⟨k1,k2,k3,k4⟩
    have hFA:k∈ai Hs→k∈C.FA∨C.w0.heap.size≤k:=fun hk=>h.kept.iE k (by simp [bj,hk])
    refine ⟨k1,?_,?_,?_⟩
    · rcases k4 with k4 | k4 | k4
      · exact k4.2.1
      · exact fun h2=>ZW k h2 k4
      · exact fun h2=>by have:=Vh k h2; omega
    · rw [bj,List.mem_append,not_or]
      refine ⟨k2,?_⟩
      rcases k4 with k4 | k4 | k4
      · have:=k4.2.2.1
        rw [bj,List.mem_append,not_or] at this
        exact this.2
      · exact fun h2=>HHs k h2 k4
      · exact fun h2=>by have:=ZV k h2; omega
    · intro hb
      rcases k4 with k4 | k4 | k4
      · exact k4.2.2.2 hb
      · exact .inr (hFA k4)
      · exact .inr (.inr (Nat.le_trans h.kept.size k4))
  refine ⟨⟨h.rt,⟨?_,?_,?_,?_⟩,?_,?_⟩,ZK⟩
  · rw [List.nodup_append,bj,List.nodup_append]
    refine ⟨nS,⟨fr,nH,fun a ha b hb e=>OH a ha (e▸hb)⟩,fun a ha b hb e=>?_⟩
    subst e
    rcases List.mem_append.1 hb with hb | hb
    · exact OS a hb ha
    · exact SH a ha hb
  · intro r R hr
    obtain ⟨h1,h2⟩:=h.mem.root r R hr
    have hb:∀ b∈bxs,b∈R.ft→R.box=some b∧R.cs=[]:=by
      intro b hb hR
      obtain ⟨r',R',e1,e2,e3⟩:=vu b hb
      have:=ze nS e1 e2 hr hR
      subst this
      rw [e1,Option.some.injEq] at hr
      subst hr
      exact ⟨e2,e3⟩
    refine ⟨?_,fun t ht=>?_⟩
    · cases hx:R.box with
      | none=>trivial
      | some b=>
        rw [hx] at h1
        by_cases tG:b∈bxs
        · have:=(hb b tG (by simp [RT.ft,hx])).2
          rw [this]
          exact eW b tG
        · have ac3:=mg hr (show b∈R.ft by simp [RT.ft,hx])
          obtain ⟨c,e,fz,g1,g2⟩:=h1
          exact ⟨c,e,fz,by rw [hold b (Vh b ac3) (ZW b ac3) tG]; exact g1,g2⟩
    · have h3:=h2 t ht
      cases t with
      | v d u=>
        rcases h3 with h3 | ⟨e,h3⟩
        · exact .inl (gv cE _ _ h3)
        · exact .inr ⟨e,nY cE h3⟩
      | own s n cap a cs=>
        refine dO cE _ h3 (fun k hk=>?_)
        have hkR:k∈R.ft:=by simp only [RT.ft,List.mem_append]; exact .inr (aa4.2 ⟨_,ht,hk⟩)
        have KN:=mg hr hkR
        refine hold k (Vh k KN) (ZW k KN) (fun tG=>?_)
        have:=(hb k tG hkR).2
        rw [this] at ht
        simp at ht
  · rw [dP]
    refine ⟨fQ wO _ hO,?_⟩
    have hH:=((dP _ _).1 h.mem.hand).2
    exact gy cE _ hH (fun k hk=>hold k (ZV k hk) (HHs k hk) (fun hb=>SH k (DJ k hb) hk))
  · intro k hk
    rcases List.mem_append.1 hk with hk | hk
    · have:=Vh k hk; omega
    · rw [bj] at hk
      rcases List.mem_append.1 hk with hk | hk
      · exact (eT k hk).1
      · have:=ZV k hk; omega
  · exact h.pj.mono (fun _ _ ht=>xr ZK ht)
  · have hk:=h.kept
    refine ⟨nE.trans hk.os,uL.trans hk.tape,vt.trans hk.output,Nat.le_trans hk.size cV,fun k h1 h2=>?_,fun k h1=>?_,hk.par⟩
    · have h3:k∉cL S++ai (Hs++H):=fun h3=>by
        rcases hk.iE k h3 with h4 | h4
        · exact h2 h4
        · omega
      simp only [bj,List.mem_append,not_or] at h3
      rw [hold k (Nat.lt_of_lt_of_le h1 hk.size) h3.2.1 (fun hb=>h3.1 (DJ k hb))]
      exact hk.block k h1 h2
    · rcases List.mem_append.1 h1 with h1 | h1
      · exact hk.iE k (by simp [h1])
      · rw [bj] at h1
        rcases List.mem_append.1 h1 with h1 | h1
        · rcases (eT k h1).2 with h2 | h2
          · exact hk.iE k (by simp [bj,h2])
          · exact .inr (Nat.le_trans hk.size h2)
        · exact hk.iE k (by simp [bj,h1])
end
end Go.Proofs.YtockoilcnmljiaaGreat
namespace Go.Proofs.YtockoilcnmljiaaGreat
def nA (S S':List (Nat × RT)):Prop:=∀ r R,lk S r=some R→∃ R',lk S' r=some R'∧R'.box=R.box
theorem nA.refl (S:List (Nat × RT)):nA S S:=fun _ R h=>⟨R,h,rfl⟩
theorem nA.trans {S S' zU:List (Nat × RT)} (h:nA S S') (h':nA S' zU):nA S zU:=fun r R hr=>by
  obtain ⟨R1,h1,h2⟩:=h r R hr
  obtain ⟨R2,h4,h5⟩:=h' r R1 h1
  exact ⟨R2,h4,h5.trans h2⟩
theorem qn.b {S S':List (Nat × RT)} (h:qn S S'):nA S S':=fun r R hr=>by
  obtain ⟨R1,h1,h2,_⟩:=h.fwd r R hr
  exact ⟨R1,h1,h2⟩
theorem RW (g:D→D) (S:List (Nat × RT)):nA S (fS g S):=fun r R hr=>⟨⟨R.box,R.cs.map (fT g)⟩,by rw [lJ,hr]; rfl,rfl⟩
theorem EB {S:List (Nat × RT)} {r:Nat} {q:List Nat} {o:Nat} {t:T} (h:cA S r q o=some t):∃ R l,lk S r=some R∧aw R.cs q=some l∧l[o]?=some t:=by
  unfold cA at h
  cases hr:lk S r with
  | none=>simp [hr] at h
  | some R=>
    simp only [hr] at h
    cases hl:aw R.cs q with
    | none=>simp [hl] at h
    | some l=>simp only [hl] at h; exact ⟨R,l,rfl,hl,h⟩
section
variable {C:Ctx} {H:List T} {w:World} {st st':St} {aI:List (Array Value)} {S:List (Nat × RT)}
theorem Oo {t' t0:T} (h:Rel C (t'::H) w st aI S) {r:Nat} {q:List Nat} {o:Nat} {ex:Bool} (hc0:cA S r q o=some t0) (kG:∃ d0 u0,t0=.v d0 u0∧(ex=false→fh (cz r q o ex) (bQ d0)=bQ d0)) (hl:lC t0 t'∨(ex=true∧t'.val=t0.val))
    (jd:(st.eY (cz r q o ex)).im r q o t'.er=some st'):
    ∃ S',Rel C H w st' aI S'∧hM C w w S S' (t'::H) H (cz r q o ex)∧st'.of=st.of∧nA S S'∧cA S' r q o=some t'∧
      ∀ r' q' o' d0 u,(sn d0).isSome=true→bQ d0=d0→cA S r' q' o'=some (.v d0 u)→(r'≠r∨under (q++[o]) (q'++[o'])=none)→cA S' r' q' o'=some (.v d0 u):=by
  obtain ⟨d0,u0,rfl,hd0⟩:=kG
  have hv:t'.val=(T.v d0 u0).val:=by
    rcases hl with hl | hl
    · exact hl.1
    · exact hl.2
  obtain ⟨R,l,hR,hl0,ho⟩:=EB hc0
  have hg:=mI r q o ex
  have Gr:=yW r q o ex
  have Xu:hI (st.eY (cz r q o ex)).rt (fS (cz r q o ex) S):=by
    exact pT hg h.rt
  obtain ⟨R1,l1,t1,e1,e2,e3,e4,e5,e6,e7,e8⟩:=ZL (g:=cz r q o ex) hR hl0 ho
  have AW:t1=.v (fh (cz r q o ex) (bQ d0)) u0∨t1=.v d0 u0:=by
    rcases e5 with rfl | ⟨_,rfl⟩
    · exact .inr rfl
    · exact .inl rfl
  have XA:t1.val=u0:=by rcases AW with rfl | rfl<;>rfl
  have ah7:t1.ft=[]:=by rcases AW with rfl | rfl<;>rfl
  have ah8:ex=false→sn t1.er=sn (bQ d0):=fun e=>by
    rcases AW with rfl | rfl
    · rw [hd0 e]; simp [T.er,DI]
    · simp [T.er]
  obtain ⟨S',hc,Tj,Tk,Tl,Ez⟩:=Es (t':=t') Xu e1 e3 e4 jd
  obtain ⟨A,B,f1,f2⟩:=hc.fts
  rw [uK] at f1
  rw [ah7,List.append_nil] at f1
  have sw:∀ k,k∈cL S'++ai H↔k∈cL S++ai (t'::H):=by
    intro k
    rw [f1,f2]
    simp only [ai,List.mem_append]
    constructor
    · rintro (((h | h) | h) | h)
      · exact .inl (.inl h)
      · exact .inr (.inl h)
      · exact .inl (.inr h)
      · exact .inr (.inr h)
    · rintro ((h | h) | (h | h))
      · exact .inl (.inl (.inl h))
      · exact .inl (.inr h)
      · exact .inl (.inl (.inr h))
      · exact .inr h
  have fr:(cL S'++ai H).Nodup:=by
    have h0:=h.mem.nd
    rw [f1] at h0
    rw [f2]
    refine (List.Perm.nodup_iff ?_).1 h0
    refine List.perm_iff_count.2 fun a=>?_
    simp only [ai,List.count_append]
    omega
  have hX:∀ b k,ah C w S (t'::H) b k→ah C w S' H b k:=jJ (fun k hk=>(sw k).1 hk)
  have cE:ju w w (ah C w S (t'::H)) (ah C w S' H):=fun b k hk=>⟨hX b k hk,rfl⟩
  have afx:ex=false→lC t1 t':=fun e=>by
    rcases hl with hl | hl
    · exact ⟨by rw [XA]; exact hl.1,fun p hp=>by rw [ah8 e]; exact hl.2 p hp⟩
    · exact absurd (hl.1.symm.trans e) (by simp)
  have dW:∀ d u,bB w (ah C w S (t'::H)) S d u→bB w (ah C w S' H) S' (cz r q o ex d) u:=
    fun d u hd=>yT cE hc afx (qO hg hd)
  have dw:=h.mem.hand
  simp only [bM] at dw
  have dn:Mem C w S' H:=RM h.mem (g:=fh (cz r q o ex)) (S9 hg S) hc (by rw [hv,XA]; rfl)
    (.inl (dO cE _ dw.1 (fun _ _=>rfl))) fr (fun k hk=>(sw k).1 hk) (fQ hX _ dw.2)
    (fun d u hd=>by rw [uW hd]; exact dW d u hd) (fun d u hd=>sr hg Gr (uZ hX _ _ hd))
  refine ⟨S',?_,dW,Ez,?_,hc.Ep,fun r' q' o' d1 u1 h3 h4 h1 h2=>?_⟩
  · refine h.step (f:=cz r q o ex) Tj Tk Tl dW dn (yV h.kept (fun k hk=>(sw k).1 hk) (fun r' R' eE=>?_))
    obtain ⟨R2,g1,g2,g3⟩:=hc.par (by rw [hv,XA]; rfl) eE
    rw [lJ] at g1
    cases hx:lk S r' with
    | none=>simp [hx] at g1
    | some R0=>
      simp only [hx,Option.map_some,Option.some.injEq] at g1
      subst g1
      refine ⟨R0,rfl,g2,g3.trans ?_⟩
      simp only [cW,List.map_map]
      congr 1
      funext t
      cases t<;>rfl
  · refine nA.trans (S':=fS (cz r q o ex) S) (RW _ S) (fun r' R' eE=>?_)
    obtain ⟨R2,g1,g2,_⟩:=hc.KG eE
    exact ⟨R2,g1,g2⟩
  · refine hc.N7 h2 ?_
    rw [CV h1]
    split
    · simp only [fT,h4]
      cases d1<;>first | (simp [sn] at h3; done) | simp [fh,hg.hole,hg.sl]
    · rfl
theorem XB {ts:List T} (h:Rel C (ts++H) w st aI S) {r b:Nat} (h0:lk S r=some ⟨some b,[]⟩) (eW:lF w b 0 ts.length (aD ts)):
    Rel C H w { st.eY (eC r) with rt:=pz (st.eY (eC r)).rt r (bw ts) } aI (pt (fS (eC r) S) r ⟨some b,ts⟩)∧hM C w w S (pt (fS (eC r) S) r ⟨some b,ts⟩) (ts++H) H (eC r)∧nA S (pt (fS (eC r) S) r ⟨some b,ts⟩):=by
  have hg:=Ta r
  have Gr:=Tc r
  have h1:lk (fS (eC r) S) r=some ⟨some b,[]⟩:=by rw [lJ,h0]; rfl
  obtain ⟨A,B,f1,f2⟩:=lY h1
  rw [uK] at f1
  have f3:=f2 ⟨some b,ts⟩
  simp only [RT.ft,Option.toList,ai,List.append_nil] at f1
  simp only [RT.ft,Option.toList] at f3
  have sw:∀ k,k∈cL (pt (fS (eC r) S) r ⟨some b,ts⟩)++ai H↔k∈cL S++ai (ts++H):=by
    intro k
    rw [f1,f3,bj]
    simp only [List.mem_append,List.mem_singleton]
    constructor
    · rintro (((h | (h | h)) | h) | h)<;>simp [h]
    · rintro (((h | h) | h) | (h | h))<;>simp [h]
  have fr:(cL (pt (fS (eC r) S) r ⟨some b,ts⟩)++ai H).Nodup:=by
    have h0:=h.mem.nd
    rw [f1] at h0
    rw [f3]
    refine (List.Perm.nodup_iff ?_).1 h0
    refine List.perm_iff_count.2 fun a=>?_
    simp only [bj,List.count_append]
    omega
  have hX:∀ b' k,ah C w S (ts++H) b' k→ah C w (pt (fS (eC r) S) r ⟨some b,ts⟩) H b' k:=jJ (fun k hk=>(sw k).1 hk)
  have cE:ju w w (ah C w S (ts++H)) (ah C w (pt (fS (eC r) S) r ⟨some b,ts⟩) H):=fun b k hk=>⟨hX b k hk,rfl⟩
  have dW:∀ d u,bB w (ah C w S (ts++H)) S d u→bB w (ah C w (pt (fS (eC r) S) r ⟨some b,ts⟩) H) (pt (fS (eC r) S) r ⟨some b,ts⟩) (eC r d) u:=
    fun d u hd=>aaU cE (R:=⟨some b,ts⟩) h1 rfl rfl (qO hg hd)
  have dw:=h.mem.hand
  rw [dP] at dw
  refine ⟨?_,dW,?_⟩
  · refine h.step (f:=eC r) ?_ rfl rfl dW ⟨fr,?_,fQ hX _ dw.2,fun k hk=>h.mem.lt k ((sw k).1 hk)⟩ ⟨h.kept.os,h.kept.tape,h.kept.output,h.kept.size,h.kept.block,fun k hk=>h.kept.iE k ((sw k).1 hk),?_⟩
    · exact CS (pT hg h.rt) r ⟨some b,ts⟩
    · intro r' R' eE
      by_cases he:r'=r
      · subst he
        rw [cH,Option.some.injEq] at eE
        subst eE
        refine ⟨eW,fun t ht=>?_⟩
        have:=(cr _).1 (fQ hX _ dw.1) t ht
        cases t with
        | v d u=>exact .inl this
        | own s n cap a cs=>exact this
      · rw [dJ _ _ he,lJ] at eE
        cases hx:lk S r' with
        | none=>simp [hx] at eE
        | some R0=>
          simp only [hx,Option.map_some,Option.some.injEq] at eE
          subst eE
          obtain ⟨k1,k2⟩:=h.mem.root r' R0 hx
          refine ⟨?_,?_⟩
          · simp only [List.length_map]
            have hv:aD (R0.cs.map (fT (eC r)))=aD R0.cs:=by
              rw [cW,cW,List.map_map]
              congr 1
              funext t
              cases t<;>rfl
            rw [hv]
            exact k1
          · intro t ht
            simp only [List.mem_map] at ht
            obtain ⟨t0,kG,rfl⟩:=ht
            have:=k2 t0 kG
            cases t0 with
            | v d u=>
              simp only [fT,jh] at this ⊢
              rw [hg.leaf]
              rcases this with this | ⟨hb,this⟩
              · exact .inl (sr hg Gr (uZ hX _ _ this))
              · exact .inr ⟨hb,by rw [uW this]; exact dW _ _ this⟩
            | own s n cap a xs=>
              simp only [fT]
              exact dO cE _ this (fun _ _=>rfl)
    · intro r' b' vs hm R' eE
      by_cases he:r'=r
      · subst he
        rw [cH,Option.some.injEq] at eE
        subst eE
        obtain ⟨g1,g2⟩:=h.kept.par r' b' vs hm _ h0
        refine ⟨g1,fun hb=>?_⟩
        rw [hb] at g1
        simp at g1
      · rw [dJ _ _ he,lJ] at eE
        cases hx:lk S r' with
        | none=>simp [hx] at eE
        | some R0=>
          simp only [hx,Option.map_some,Option.some.injEq] at eE
          subst eE
          obtain ⟨g1,g2⟩:=h.kept.par r' b' vs hm R0 hx
          refine ⟨g1,fun hb=>?_⟩
          rw [← g2 hb]
          simp only [cW,List.map_map]
          congr 1
          funext t
          cases t<;>rfl
  · refine nA.trans (S':=fS (eC r) S) (RW _ S) (fun r' R' eE=>?_)
    by_cases he:r'=r
    · subst he
      rw [h1,Option.some.injEq] at eE
      subst eE
      exact ⟨_,cH _ _ _,rfl⟩
    · exact ⟨R',by rw [dJ _ _ he]; exact eE,rfl⟩
end
end Go.Proofs.YtockoilcnmljiaaGreat
namespace Go.Proofs.YtockoilcnmljiaaGreat
def jw (S S':List (Nat × RT)):Prop:=∀ r R,lk S r=some R→∃ R',lk S' r=some R'∧R'.box=R.box∧(R.cs=[]→R'.cs=[])
theorem jw.refl (S:List (Nat × RT)):jw S S:=fun _ R h=>⟨R,h,rfl,fun h=>h⟩
theorem jw.trans {S S' zU:List (Nat × RT)} (h:jw S S') (h':jw S' zU):jw S zU:=fun r R hr=>by
  obtain ⟨R1,h1,h2,h3⟩:=h r R hr
  obtain ⟨R2,h4,h5,h6⟩:=h' r R1 h1
  exact ⟨R2,h4,h5.trans h2,fun e=>h6 (h3 e)⟩
theorem qn.e {S S':List (Nat × RT)} (h:qn S S'):jw S S':=fun r R hr=>by
  obtain ⟨R1,h1,h2,h3⟩:=h.fwd r R hr
  exact ⟨R1,h1,h2,fun e=>by
    have h4:=congrArg List.length h3
    rw [e] at h4
    simp only [bS,List.length_nil] at h4
    exact List.length_eq_zero_iff.1 h4⟩
theorem jw.b {S S':List (Nat × RT)} (h:jw S S'):nA S S':=fun r R hr=>by
  obtain ⟨R1,h1,h2,_⟩:=h r R hr
  exact ⟨R1,h1,h2⟩
theorem jw.empty {S S':List (Nat × RT)} (h:jw S S') {r:Nat} {b:Option Nat} (hr:lk S r=some ⟨b,[]⟩):lk S' r=some ⟨b,[]⟩:=by
  obtain ⟨R1,h1,h2,h3⟩:=h r _ hr
  have:=h3 rfl
  cases R1
  simp only at h2 this
  rw [h1,h2,this]
section
variable {C:Ctx} {H:List T} {w:World} {st st':St} {aI:List (Array Value)} {S:List (Nat × RT)}
theorem Tp (h:Rel C H w st aI S) {r b:Nat} {R:RT} (hR:lk S r=some R) (hb:R.box=some b):
    Rel C H w { st with rt:=pz st.rt r [] } aI (pt S r ⟨some b,[]⟩)∧hM C w w S (pt S r ⟨some b,[]⟩) H H id∧jw S (pt S r ⟨some b,[]⟩):=by
  obtain ⟨A,B,f1,f2⟩:=lY hR
  have f3:=f2 ⟨some b,[]⟩
  simp only [RT.ft,hb,Option.toList,ai,List.append_nil] at f1 f3
  have eF:∀ k∈cL (pt S r ⟨some b,[]⟩)++ai H,k∈cL S++ai H:=by
    intro k hk
    rw [f3] at hk
    rw [f1]
    simp only [List.mem_append,List.mem_singleton] at hk ⊢
    rcases hk with ((hk | hk) | hk) | hk<;>simp [hk]
  have fr:(cL (pt S r ⟨some b,[]⟩)++ai H).Nodup:=by
    have h0:=h.mem.nd
    rw [f1] at h0
    rw [f3]
    refine List.Nodup.sublist ?_ h0
    refine List.Sublist.append (List.Sublist.append (List.Sublist.append (List.Sublist.refl _) ?_) (List.Sublist.refl _)) (List.Sublist.refl _)
    simp
  have hX:∀ b' k,ah C w S H b' k→ah C w (pt S r ⟨some b,[]⟩) H b' k:=jJ eF
  have cE:ju w w (ah C w S H) (ah C w (pt S r ⟨some b,[]⟩) H):=fun b k hk=>⟨hX b k hk,rfl⟩
  have dW:∀ d u,bB w (ah C w S H) S d u→bB w (ah C w (pt S r ⟨some b,[]⟩) H) (pt S r ⟨some b,[]⟩) d u:=by
    intro d u hd
    cases d with
    | ref r' q' o' x=>
      intro t ht
      by_cases he:r'=r
      · subst he
        obtain ⟨R',l,e1,e2,e3⟩:=EB ht
        rw [cH,Option.some.injEq] at e1
        subst e1
        cases q' with
        | nil=>simp only [aw,Option.some.injEq] at e2; subst e2; simp at e3
        | cons p q=>simp [aw] at e2
      · refine hd t ?_
        rw [← ht]
        simp only [cA,dJ _ _ he]
    | ptr r' q' o'=>
      intro R' eu
      by_cases he:r'=r
      · subst he
        rw [cH,Option.some.injEq] at eu
        subst eu
        refine ⟨fun _=>rfl,fun b' off ha=>?_⟩
        cases q' with
        | nil=>
          refine (hd R hR).2 b' off ?_
          simp only [cb,hb] at ha ⊢
          exact ha
        | cons p q=>simp [cb] at ha
      · rw [dJ _ _ he] at eu
        exact hd R' eu
    | cJ cs o=>exact nY (S:=S) (d:=.cJ cs o) cE hd
    | _=>exact gv cE _ _ hd
  refine ⟨h.so ?_ rfl rfl dW ⟨fr,?_,fQ hX _ h.mem.hand,fun k hk=>h.mem.lt k (eF k hk)⟩ ⟨h.kept.os,h.kept.tape,h.kept.output,h.kept.size,h.kept.block,fun k hk=>h.kept.iE k (eF k hk),?_⟩,dW,?_⟩
  · exact CS h.rt r ⟨some b,[]⟩
  · intro r' R' eE
    by_cases he:r'=r
    · subst he
      rw [cH,Option.some.injEq] at eE
      subst eE
      refine ⟨?_,by simp⟩
      have:=(h.mem.root _ R hR).1
      rw [hb] at this
      obtain ⟨c,e,fz,g1,g2,g3,g4⟩:=this
      exact ⟨c,e,fz,g1,g2,by simp,by simp [aD]⟩
    · rw [dJ _ _ he] at eE
      obtain ⟨k1,k2⟩:=h.mem.root r' R' eE
      refine ⟨k1,fun t ht=>?_⟩
      have:=k2 t ht
      cases t with
      | v d u=>
        rcases this with this | ⟨hb,this⟩
        · exact .inl (uZ hX _ _ this)
        · exact .inr ⟨hb,dW _ _ this⟩
      | own s n cap a xs=>exact dO cE _ this (fun _ _=>rfl)
  · intro r' b' vs hm R' eE
    by_cases he:r'=r
    · subst he
      rw [cH,Option.some.injEq] at eE
      subst eE
      obtain ⟨g1,_⟩:=h.kept.par r' b' vs hm _ hR
      rw [hb] at g1
      exact ⟨g1,fun e=>by rw [e] at g1; simp at g1⟩
    · rw [dJ _ _ he] at eE
      exact h.kept.par r' b' vs hm R' eE
  · intro r' R' eE
    by_cases he:r'=r
    · subst he
      rw [hR,Option.some.injEq] at eE
      subst eE
      exact ⟨_,cH _ _ _,hb.symm,fun _=>rfl⟩
    · exact ⟨R',by rw [dJ _ _ he]; exact eE,rfl,fun h=>h⟩
theorem ac4 (h:Rel C H w st aI S) {r b:Nat} {R:RT} (hR:lk S r=some R) (hb:R.box=some b) {cs':List D} (ht:UA st r=some (cs',st')):
    ∃ ts S',Rel C (ts++H) w st' aI S'∧bw ts=cs'∧ts≠[]∧lk S' r=some ⟨some b,[]⟩∧lF w b 0 ts.length (aD ts)∧hM C w w S S' H (ts++H) id∧jw S S'∧mb st st':=by
  unfold UA at ht
  rw [h.rt,hR] at ht
  simp only [Option.map_some] at ht
  split at ht
  case h_2=>simp at ht
  rename_i c cs eM
  simp only [Option.some.injEq] at eM
  split at ht
  case h_2=>simp at ht
  rename_i cs1 aQ dD
  simp only [Option.some.injEq,Prod.mk.injEq] at ht
  obtain ⟨rfl,rfl⟩:=ht
  have dY:cj (bB w (ah C w S H) S) (lI r [] 0 (c::cs)) (aD R.cs):=by
    rw [← eM]
    refine dq (by rw [qj,fq,bS]) (fun i x y hx hy=>?_)
    rw [nV,iv] at hx
    rw [fk] at hy
    cases hi:R.cs[i]? with
    | none=>simp [hi] at hx
    | some t=>
      simp only [hi,Option.map_some,Option.some.injEq,Nat.zero_add] at hx hy
      subst hx; subst hy
      exact qi h.mem hR rfl hi
  obtain ⟨ts,S1,a1,a2,a3,a4,a5,a6⟩:=Gk h dY dD
  obtain ⟨R1,b1,b2,_⟩:=a5.fwd r R hR
  obtain ⟨c1,c2,c3⟩:=Tp a1 b1 (b2.trans hb)
  refine ⟨ts,_,c1,a2,?_,cH _ _ _,?_,fun d u hd=>c2 d u (a4 d u hd),a5.e.trans c3,a6⟩
  · intro e
    have h1:=congrArg List.length eM
    have h2:=congrArg List.length a3
    rw [e] at h2
    rw [fq] at h1
    simp only [bS,List.length_cons,List.length_nil] at h1 h2
    omega
  · have h1:=(h.mem.root r R hR).1
    rw [hb] at h1
    have h2:=congrArg List.length a3
    simp only [bS] at h2
    rw [h2,a3]
    exact h1
end
def fH:D→Value→List T→Prop
  | .agg cs,u,ts=>cs=bw ts∧∃ us,u=.agg us∧us.toList=aD ts
  | d,u,ts=>∃ t,ts=[t]∧d=t.er∧u=t.val
abbrev Arg:=Option Nat × List T
def KR (w:World) (X:Bool→Nat→Prop):Bool→D→Value→Arg→Prop
  | false,d,u,a=>a=(none,[])∧∀ S,gI w X S d u
  | true,.bh cs,u,a=>∃ b,a.1=some b∧a.2≠[]∧cs=bw a.2∧u=.pointer (some ⟨b,0,none⟩)∧lF w b 0 a.2.length (aD a.2)
  | true,d,u,a=>a.1=none∧fH d u a.2
def qW (w:World) (S:List (Nat × RT)):Bool→D→D→Value→Arg→Prop
  | false,d,d1,_,a=>a=(none,[])∧d1=d
  | true,d,.bh cs,u,a=>∃ r b,d=.ptr r [] 0∧a.1=some b∧lk S r=some ⟨some b,[]⟩∧a.2≠[]∧cs=bw a.2∧u=.pointer (some ⟨b,0,none⟩)∧lF w b 0 a.2.length (aD a.2)
  | true,d,d1,u,a=>a.1=none∧fH d1 u a.2∧aD a.2=gP d u∧(∀ r,d≠.ptr r [] 0)∧((∃ cs,d1=.agg cs)↔∃ cs,d=.agg cs)∧(∀ f cs,d≠.fn f cs)∧∀ ds,d≠.aP ds
def tH (w:World) (S:List (Nat × RT)):List Bool→List D→List D→List Value→List Arg→Prop
  | _,[],gp,us,as9=>gp=[]∧us=[]∧as9=[]
  | b,d::ds,gp,us,as9=>∃ d1 zf u kp a cx,gp=d1::zf∧us=u::kp∧as9=a::cx∧qW w S (b.headD false) d d1 u a∧tH w S b.tail ds zf kp cx
def cU (as9:List Arg):List T:=(as9.map Prod.snd).reverse.flatten
theorem qX (a:Arg) (as9:List Arg):cU (a::as9)=cU as9++a.2:=by simp [cU]
theorem qW.KG {w:World} {S S':List (Nat × RT)} (h:jw S S') {b:Bool} {d d1:D} {u:Value} {a:Arg} (hg:qW w S b d d1 u a):qW w S' b d d1 u a:=by
  cases b with
  | false=>exact hg
  | true=>
    cases d1 with
    | bh cs=>
      obtain ⟨r,b,h1,h2,h3,h4⟩:=hg
      exact ⟨r,b,h1,h2,h.empty h3,h4⟩
    | _=>exact hg
theorem DU {w:World} {S:List (Nat × RT)} {d d1:D} {u:Value} {a:Arg} (hn:∀ cs,d1≠.bh cs) (h1:a.1=none) (h2:fH d1 u a.2) (h3:aD a.2=gP d u) (h4:∀ r,d≠.ptr r [] 0) (h5:(∃ cs,d1=.agg cs)↔∃ cs,d=.agg cs) (h6:(∀ f cs,d≠.fn f cs)∧∀ ds,d≠.aP ds):qW w S true d d1 u a:=by
  cases d1<;>first | exact ⟨h1,h2,h3,h4,h5,h6⟩ | exact absurd rfl (hn _)
theorem sx {t:T} {w:World} {X:Bool→Nat→Prop} (hs:bL w X t):(∀ cs,t.er≠.bh cs)∧(∀ cs,t.er≠.agg cs)∧(∀ cs,t.er≠.aP cs):=by
  cases t with
  | own s n cap a xs=>simp [T.er]
  | v d u=>
    simp only [bL] at hs
    simp only [T.er]
    refine ⟨fun cs e=>?_,fun cs e=>?_,fun cs e=>?_⟩<;>(rw [e] at hs; simp [Ext] at hs)
section
variable {C:Ctx} {w:World} {aI:List (Array Value)}
theorem Oq {H:List T} {st st':St} {S:List (Nat × RT)} {d d':D} {u:Value} (h:Rel C H w st aI S) (hd:cy w (ah C w S H) S d u) (ht:DF st d=some (d',st')):
    ∃ (a:Arg) (S':List (Nat × RT)),Rel C (a.2++H) w st' aI S'∧qW w S' true d d' u a∧hM C w w S S' H (a.2++H) id∧jw S S'∧mb st st'∧∀ b,a.1=some b→∀ r0,lk S r0≠some ⟨some b,[]⟩:=by
  by_cases hp:∃ r,d=.ptr r [] 0
  · obtain ⟨r,rfl⟩:=hp
    simp only [DF] at ht
    split at ht
    case h_2=>simp at ht
    rename_i cs1 aQ dD
    simp only [Option.some.injEq,Prod.mk.injEq] at ht
    obtain ⟨rfl,rfl⟩:=ht
    cases hR:lk S r with
    | none=>simp [UA,h.rt r,hR] at dD
    | some R=>
      have tB:∀ R,lk S r=some R→(([]:List Nat)=[]→R.box.isSome)∧∀ b off,cb R.box R.cs []=some (b,off)→u=.pointer (some ⟨b,off+0,none⟩):=hd
      obtain ⟨h1,h2⟩:=tB R hR
      obtain ⟨b,hb⟩:=Option.isSome_iff_exists.1 (h1 rfl)
      obtain ⟨ts,S',a1,a2,a3,a4,a5,a6,a7,a8⟩:=ac4 h hR hb dD
      refine ⟨(some b,ts),S',a1,⟨r,b,rfl,rfl,a4,a3,a2.symm,by have:=h2 b 0 (by simp [cb,hb]); simpa using this,a5⟩,a6,a7,a8,fun b' e r0 RU=>?_⟩
      simp only [Option.some.injEq] at e
      subst e
      have:=ze (List.nodup_append.1 h.mem.nd).1 hR hb RU (by simp [RT.ft])
      subst this
      rw [hR,Option.some.injEq] at RU
      subst RU
      simp [UA,h.rt _,hR,bw] at dD
  · have hp:∀ r,d≠.ptr r [] 0:=fun r e=>hp ⟨r,e⟩
    by_cases ha:∃ cs,d=.agg cs
    · obtain ⟨cs,rfl⟩:=ha
      simp only [DF] at ht
      split at ht
      case h_2=>simp at ht
      rename_i cs1 aQ dD
      simp only [Option.some.injEq,Prod.mk.injEq] at ht
      obtain ⟨rfl,rfl⟩:=ht
      obtain ⟨ts,S',a1,a2,a3,a4,a5,a6⟩:=qT h hd (d:=.agg cs) dD
      obtain ⟨us,rfl,_⟩:=hd
      exact ⟨(none,ts),S',a1,DU (by simp) rfl ⟨a2.symm,us,rfl,by rw [a3]; rfl⟩ a3 hp (by simp) (by simp),a4,a5.e,a6,by simp⟩
    · have dD:jf st d=some (d',st'):=by
        unfold DF at ht
        split at ht
        · exact absurd ⟨_,rfl⟩ ha
        · exact absurd rfl (hp _)
        · exact ht
      have cS:cellsOf d=[d]:=by cases d<;>first | rfl | exact absurd ⟨_,rfl⟩ ha
      obtain ⟨ts,S',a1,a2,a3,a4,a5,a6⟩:=qT h hd (ds':=[d']) (st':=st') (by rw [cS]; simp only [rM,dD])
      have hv:gP d u=[u]:=by cases d<;>first | rfl | exact absurd ⟨_,rfl⟩ ha
      rw [hv] at a3
      obtain ⟨t,rfl⟩:∃ t,ts=[t]:=by
        match ts,a2 with
        | [t],_=>exact ⟨t,rfl⟩
      simp only [bw,List.cons.injEq,and_true] at a2
      simp only [aD,List.cons.injEq,and_true] at a3
      subst a2
      have hs:=sx (fP (o:=0) a1.mem.hand (t:=t) rfl)
      refine ⟨(none,[t]),S',a1,DU hs.1 rfl ?_ (by rw [hv]; simp [aD,a3]) hp ?_ ⟨fun f cs e=>by rw [e] at dD; simp [jf] at dD,fun ds e=>by rw [e] at dD; simp [jf] at dD⟩,a4,a5.e,a6,by simp⟩
      · have:∀ d1,(∀ cs,d1≠.agg cs)→d1=t.er→fH d1 u [t]:=fun d1 hn e=>by
          cases d1<;>first | exact ⟨t,rfl,e,a3.symm⟩ | exact absurd rfl (hn _)
        exact this _ hs.2.1 rfl
      · exact ⟨fun ⟨cs,e⟩=>absurd e (hs.2.1 cs),fun ⟨cs,e⟩=>absurd ⟨cs,e⟩ ha⟩
theorem Gv:∀ {b:List Bool} {ds gp:List D} {us:List Value} {H:List T} {st st':St} {S:List (Nat × RT)},Rel C H w st aI S→cj (cy w (ah C w S H) S) ds us→nq st b ds=some (gp,st')→
    ∃ (as9:List Arg) (S':List (Nat × RT)),Rel C (cU as9++H) w st' aI S'∧tH w S' b ds gp us as9∧hM C w w S S' H (cU as9++H) id∧jw S S'∧mb st st'∧(as9.filterMap Prod.fst).Nodup∧∀ r bk,lk S r=some ⟨some bk,[]⟩→bk∉as9.filterMap Prod.fst:=by
  intro b ds
  induction ds generalizing b with
  | nil=>
    intro gp us H st st' S h hu hc
    cases hu
    simp only [nq,Option.some.injEq,Prod.mk.injEq] at hc
    obtain ⟨rfl,rfl⟩:=hc
    exact ⟨[],S,h,⟨rfl,rfl,rfl⟩,fun _ _ h=>h,jw.refl _,mb.refl _,by simp,by simp⟩
  | cons d ds ih=>
    intro gp us H st st' S h hu hc
    cases hu with
    | cons tE DL=>
    rename_i u us
    simp only [nq] at hc
    split at hc
    case h_2=>simp at hc
    rename_i d1 aQ h1
    split at hc
    case h_2=>simp at hc
    rename_i tu cq h2
    simp only [Option.some.injEq,Prod.mk.injEq] at hc
    obtain ⟨rfl,rfl⟩:=hc
    obtain ⟨a,S1,a1,a2,a3,a4,a5,a6⟩:∃ (a:Arg) (S':List (Nat × RT)),Rel C (a.2++H) w aQ aI S'∧qW w S' (b.headD false) d d1 u a∧hM C w w S S' H (a.2++H) id∧jw S S'∧mb st aQ∧∀ b,a.1=some b→∀ r0,lk S r0≠some ⟨some b,[]⟩:=by
      cases hb:b.headD false with
      | false=>
        rw [hb] at h1
        simp only [Bool.false_eq_true,if_false,Option.some.injEq,Prod.mk.injEq] at h1
        obtain ⟨rfl,rfl⟩:=h1
        exact ⟨(none,[]),S,h,⟨rfl,rfl⟩,fun _ _ h=>h,jw.refl _,mb.refl _,by simp⟩
      | true=>
        rw [hb] at h1
        exact Oq h tE (by simpa using h1)
    obtain ⟨as9,S2,b1,b2,b3,b4,b5,b6,b7⟩:=ih a1 (DL.mono (fun _ _ hh=>ql a3 hh)) h2
    refine ⟨a::as9,S2,?_,⟨_,_,_,_,_,_,rfl,rfl,rfl,a2.KG b4,b2⟩,fun d u hd=>?_,a4.trans b4,mb.trans a5 b5,?_,fun r bk hr=>?_⟩
    · rw [qX,List.append_assoc]; exact b1
    · rw [qX,List.append_assoc]; exact b3 d u (a3 d u hd)
    · cases ha:a.1 with
      | none=>simpa [ha] using b6
      | some bk=>
        simp only [List.filterMap_cons,ha,List.nodup_cons]
        refine ⟨?_,b6⟩
        cases hb:b.headD false with
        | false=>rw [hb] at a2; obtain ⟨rfl,_⟩:=a2; simp at ha
        | true=>
          rw [hb] at a2
          cases d1 with
          | bh cs=>
            obtain ⟨r,Ot,_,e2,e3,_⟩:=a2
            rw [ha,Option.some.injEq] at e2
            subst e2
            exact b7 r bk e3
          | _=>rw [a2.1] at ha; simp at ha
    · cases ha:a.1 with
      | none=>simp only [List.filterMap_cons,ha]; exact b7 r bk (a4.empty hr)
      | some Ot=>
        simp only [List.filterMap_cons,ha,List.mem_cons,not_or]
        exact ⟨fun e=>a6 Ot ha r (e▸hr),b7 r bk (a4.empty hr)⟩
end
end Go.Proofs.YtockoilcnmljiaaGreat
namespace Go.Proofs.YtockoilcnmljiaaGreat
theorem wP {α β γ:Type} {f:α→Option β} {R:α→γ→Prop} {R':β→γ→Prop}:∀ {as9:List α} {bs:List β} {cs:List γ},cj R as9 cs→lB f as9=some bs→(∀ a b c,R a c→f a=some b→R' b c)→cj R' bs cs
  | [],bs,cs,h,hm,_=>by
    cases h
    simp only [lB,Option.some.injEq] at hm
    subst hm
    exact .nil
  | a::as9,bs,cs,h,hm,hr=>by
    cases h with
    | cons h1 h2=>
    simp only [lB] at hm
    split at hm
    case h_2=>simp at hm
    rename_i b hb
    split at hm
    case h_2=>simp at hm
    rename_i Zv KQ
    simp only [Option.some.injEq] at hm
    subst hm
    exact .cons (hr _ _ _ h1 hb) (wP h2 KQ hr)
section
variable {C:Ctx} {H:List T} {w:World} {st:St} {aI:List (Array Value)} {S:List (Nat × RT)} (h:Rel C H w st aI S) {X':Bool→Nat→Prop} (hX:∀ b k,ah C w S H b k→X' b k)
  (hF:∀ r R k,lk S r=some R→R.cs≠[]→k∈R.ft→X' true k)
include h hX hF
theorem Ou {d d':D} {u:Value} (hd:bB w (ah C w S H) S d u) (he:uo st d=some d'):Ext w X' d' u:=by
  cases d with
  | int k n=>simp only [uo,Option.some.injEq] at he; subst he; exact hd
  | bool b=>simp only [uo,Option.some.injEq] at he; subst he; exact hd
  | str s=>simp only [uo,Option.some.injEq] at he; subst he; exact hd
  | nil s=>simp only [uo,Option.some.injEq] at he; subst he; exact hd
  | undef=>simp only [uo,Option.some.injEq] at he; subst he; simp [Ext]
  | hole s n=>simp only [uo,Option.some.injEq] at he; subst he; simp [Ext]
  | sl g s n cs=>
    simp only [uo,Option.some.injEq] at he
    subst he
    cases g with
    | none=>simp [bB,Ext] at hd
    | some g=>exact uZ hX _ _ hd
  | ref r q o x=>
    simp only [uo] at he
    split at he
    case h_2=>simp at he
    rename_i g s n cs hc
    simp only [Option.some.injEq] at he
    subst he
    obtain ⟨R,l,t,h1,h2,h3,h4,h5⟩:=iS h.rt hc
    refine CT hX true h5.symm (tA h.mem h1 h2 h3 h5.symm) (fun k hk=>hF r R k h1 ?_ ?_) (hd t h4)
    · intro e
      rw [e] at h2
      cases q with
      | nil=>simp only [aw,Option.some.injEq] at h2; subst h2; simp at h3
      | cons p q=>simp [aw] at h2
    · have:k∈ai l:=CW (List.mem_of_getElem? h3) hk
      have:=KM h2 this
      simp [RT.ft,this]
  | _=>simp [uo] at he
theorem Vi {b:Bool} {t:T} {d':D} (hc:jh w (ah C w S H) S b t) (hf:∀ k∈t.ft,X' true k) (he:uo st t.er=some d'):Ext w X' d' t.val:=by
  cases t with
  | v d u=>
    have:bB w (ah C w S H) S (bQ d) u:=by
      rcases hc with hc | ⟨_,hc⟩
      · exact fG hc
      · exact hc
    exact Ou h hX hF this he
  | own s n cap a cs=>
    simp only [T.er,uo,Option.some.injEq] at he
    subst he
    exact yU hX true (.own s n cap a cs) hc hf
theorem na {d d':D} {u:Value} (hd:bB w (ah C w S H) S d u) (he:RG st d=some d') (S':List (Nat × RT)):bB w X' S' d' u:=by
  cases d with
  | cJ cs o=>
    simp only [RG,Option.some.injEq] at he
    subst he
    obtain ⟨b,off,c,e,fz,us,h1,h2,h3,h4,h5⟩:=hd
    exact ⟨b,off,c,e,fz,us,h1,hX true b h2,h3,tw (fun b k hk=>⟨hX b k hk,rfl⟩) cs us h4,h5⟩
  | ptr r q o=>
    simp only [RG] at he
    split at he
    case h_2=>simp at he
    rename_i c cs eM
    split at he
    case h_2=>simp at he
    rename_i cs' hm
    simp only [Option.some.injEq] at he
    subst he
    obtain ⟨R,l,h1,h2,h3⟩:=vm st S h.rt eM
    have hl:l≠[]:=fun e=>by rw [e] at h3; simp [bw] at h3
    obtain ⟨p1,p2⟩:=hd R h1
    obtain ⟨b,off,fm,a1,a2,a3,a4⟩:=qL h.mem h1 h2 hl p1
    have hR:R.cs≠[]:=fun e=>by
      rw [e] at h2
      cases q with
      | nil=>simp only [aw,Option.some.injEq] at h2; exact hl h2.symm
      | cons p q=>simp [aw] at h2
    have hb:b∈R.ft:=by
      cases q with
      | nil=>
        simp only [cb] at a1
        cases hx:R.box with
        | none=>simp [hx] at a1
        | some b'=>simp only [hx,Option.map_some,Option.some.injEq,Prod.mk.injEq] at a1; simp [RT.ft,hx,a1.1]
      | cons p q=>simp [RT.ft,sj a1]
    obtain ⟨cc,e,fz,b1,b2,b3,b4⟩:=a2
    refine ⟨b,off,cc,e,fz,aD l,p2 b off a1,hF r R b h1 hR hb,b1,(gZ _ _).2 ?_,b4⟩
    have dY:cj (fun d u=>∃ t bx,d=t.er∧u=t.val∧jh w (ah C w S H) S bx t∧∀ k∈t.ft,X' true k) (c::cs) (aD l):=by
      rw [h3]
      refine dq (by simp [fq,bS]) (fun i x y hx hy=>?_)
      rw [iv] at hx
      rw [fk] at hy
      cases hi:l[i]? with
      | none=>simp [hi] at hx
      | some t=>
        simp only [hi,Option.map_some,Option.some.injEq] at hx hy
        have dn:∀ k∈t.ft,X' true k:=fun k hk=>hF r R k h1 hR (by
          have:=KM h2 (CW (List.mem_of_getElem? hi) hk)
          simp [RT.ft,this])
        cases q with
        | nil=>
          simp only [aw,Option.some.injEq] at h2
          subst h2
          exact ⟨t,R.box.isSome,hx.symm,hy.symm,(h.mem.root r R h1).2 t (List.mem_of_getElem? hi),dn⟩
        | cons p q=>
          have:=fP (a4 (by simp)) hi
          refine ⟨t,true,hx.symm,hy.symm,?_,dn⟩
          cases t with
          | v d u=>exact .inl this
          | own s n cap a cs=>exact this
    exact wP dY hm (fun a b c ⟨t,bx,e1,e2,e3,e4⟩ he=>by
      subst e1; subst e2
      exact Vi h hX hF e3 e4 he)
  | _=>exact fG (Ou h hX hF hd he)
theorem ac6 {d d':D} {u:Value} (hd:cy w (ah C w S H) S d u) (he:Uz st d=some d') (S':List (Nat × RT)):gI w X' S' d' u:=by
  cases d with
  | agg cs=>
    simp only [Uz] at he
    split at he
    case h_2=>simp at he
    rename_i cs' hm
    simp only [Option.some.injEq] at he
    subst he
    obtain ⟨us,rfl,hu⟩:=hd
    exact ⟨us,rfl,wP hu hm (fun a b c h1 h2=>fG (Ou h hX hF h1 h2))⟩
  | fn f cs=>
    simp only [Uz] at he
    split at he
    case h_2=>simp at he
    rename_i cs' hm
    simp only [Option.some.injEq] at he
    subst he
    obtain ⟨us,rfl,hu⟩:=hd
    exact ⟨us,rfl,wP hu hm (fun a b c h1 h2=>na h hX hF h1 h2 S')⟩
  | aP ds=>simp [Uz,RG,uo] at he
  | int k n=>exact ey (na h hX hF (d:=.int k n) hd he S')
  | bool b=>exact ey (na h hX hF (d:=.bool b) hd he S')
  | str s=>exact ey (na h hX hF (d:=.str s) hd he S')
  | sl g s n cs=>exact ey (na h hX hF (d:=.sl g s n cs) hd he S')
  | ref r q o x=>exact ey (na h hX hF (d:=.ref r q o x) hd he S')
  | nil s=>exact ey (na h hX hF (d:=.nil s) hd he S')
  | ptr r q o=>exact ey (na h hX hF (d:=.ptr r q o) hd he S')
  | cJ cs o=>exact ey (na h hX hF (d:=.cJ cs o) hd he S')
  | bh cs=>exact ey (na h hX hF (d:=.bh cs) hd he S')
  | hole s n=>exact ey (na h hX hF (d:=.hole s n) hd he S')
  | undef =>exact ey (na h hX hF (d:=.undef) hd he S')
end
end Go.Proofs.YtockoilcnmljiaaGreat
namespace Go.Proofs.YtockoilcnmljiaaGreat
def CY (a:Arg):List Nat:=a.1.toList++ai a.2
def bI:List Arg→List Nat
  | []=>[]
  | a::as9=>CY a++bI as9
def uk (w:World) (X:Bool→Nat→Prop):List Bool→List D→List Value→List Arg→Prop
  | _,[],us,as9=>us=[]∧as9=[]
  | b,d::ds,us,as9=>∃ u kp a cx,us=u::kp∧as9=a::cx∧KR w X (b.headD false) d u a∧uk w X b.tail ds kp cx
def Lk (w:World) (F:List Nat) (Y:Nat→Prop) (b:Bool) (k:Nat):Prop:=k < w.heap.size∧k∉F∧(b=false→Y k)
structure mh (w:World) (Y:Nat→Prop) (own:List Bool) (ds:List D) (us:List Value) (as9:List Arg):Prop where
  args:uk w (Lk w (bI as9) Y) own ds us as9
  nd:(bI as9).Nodup
  lt:∀ k∈bI as9,k < w.heap.size
  sat:∀ a∈as9,bM w (Lk w (bI as9) Y) a.2
def sA (b:Nat) (ts:List T):T:=.own ts.length 1 1 (some (b,0)) ts
def tI:List D→List Value→List T→Prop
  | [],us,ts=>us=[]∧ts=[]
  | d::ds,us,ts=>∃ u kp t1 t2,us=u::kp∧ts=t1++t2∧fH d u t1∧tI ds kp t2
def KS:D→Value→List T→Prop
  | .bh cs,v,ts=>∃ b RX,ts=[sA b RX]∧cs=bw RX∧v=.pointer (some ⟨b,0,none⟩)
  | .aP ds,v,ts=>∃ us,v=.tuple us∧tI ds us.toList ts
  | d,v,ts=>fH d v ts
def oZ (w':World):Bool→D→Arg→Arg→Prop
  | false,_,_,a'=>a'=(none,[])
  | true,.bh cs,a,a'=>a'.1=a.1∧(∃ b,a.1=some b∧lF w' b 0 a'.2.length (aD a'.2))∧cs=bw a'.2
  | true,.agg cs,a,a'=>a.1=none∧a'.1=none∧cs=bw a'.2∧aD a'.2=aD a.2
  | true,d,a,a'=>a.1=none∧a'.1=none∧((a'.2=[]∧∀ s n cs,d≠.sl none s n cs)∨∃ t,a'.2=[t]∧d=t.er∧aD [t]=aD a.2)
def mK (w':World):List Bool→List D→List Arg→List Arg→Prop
  | _,os,[],cx=>os=[]∧cx=[]
  | b,os,a::as9,cx=>∃ o xT a' Ov,os=o::xT∧cx=a'::Ov∧oZ w' (b.headD false) o a a'∧mK w' b.tail xT as9 Ov
structure ix (w w':World) (Y:Nat→Prop) (own:List Bool) (as9:List Arg) (r:D) (outs:List D) (v:Value):Prop where
  sz:w.heap.size≤w'.heap.size
  bO:∀ k,k < w.heap.size→k∉bI as9→w'.heap[k]?=w.heap[k]?
  os:w'.os=w.os
  tape:w'.tape=w.tape
  out:w'.output=w.output
  res:∃ (fa:List T) (cx:List Arg),KS r v fa∧mK w' own outs as9 cx∧(ai fa++bI cx).Nodup∧(∀ k∈ai fa++bI cx,k < w'.heap.size∧(k∈bI as9∨w.heap.size≤k))∧
    bM w' (fun b k=>Lk w' (ai fa++bI cx) (fun k=>Y k∨k∈bI as9∨w.heap.size≤k) b k) fa∧
    ∀ a∈cx,bM w' (fun b k=>Lk w' (ai fa++bI cx) (fun k=>Y k∨k∈bI as9∨w.heap.size≤k) b k) a.2
def qY (P : Program) (f : FuncId) : Prop := ∃ fn, P.funcs[f]? = some fn ∧ (fn.name == "runtime.NumGoroutine") = false ∧ fn.body.isNone = false
def lE (P:Program) (own:FuncId→List Bool) (cl:FuncId→List D→Option (D × List D)):Prop:=
  ∀ f ds r outs,cl f ds=some (r,outs)→qY P f∧∀ (w:World) (Y:Nat→Prop) (us:Array Value) (as9:List Arg),mh w Y (own f) ds us.toList as9→dQ r=true→(∀ o∈outs,dQ o=true)→
    Calls P f us w fun e w'=>∃ v,e=.returned v∧ix w w' Y (own f) as9 r outs v
def lK (h:D→D):Prop:=∀ x,h x=x∨h x=.undef
theorem XC:lK id:=fun _=>.inl rfl
theorem QN (r:Nat) (q:List Nat) (o:Nat) (e:Bool):lK (cz r q o e):=fun x=>by
  unfold cz
  split
  · split
    · split
      · exact .inl rfl
      · split
        · exact .inr rfl
        · exact .inl rfl
      · exact .inr rfl
    · exact .inl rfl
  · split
    · split
      · exact .inl rfl
      · exact .inr rfl
    · exact .inl rfl
  · exact .inl rfl
theorem QO (r:Nat):lK (eC r):=fun x=>by
  unfold eC
  split
  · split
    · exact .inr rfl
    · exact .inl rfl
  · split
    · exact .inr rfl
    · exact .inl rfl
  · exact .inl rfl
theorem lK.comp {f g:D→D} (hf:lK f) (hg:lK g) (h0:f .undef=.undef):lK (fun x=>f (g x)):=fun x=>by
  rcases hg x with e | e
  · show f (g x)=x∨f (g x)=.undef
    rw [e]; exact hf x
  · right; show f (g x)=_; rw [e,h0]
section
variable {C:Ctx} {w:World} {aI:List (Array Value)}
theorem qp {H Hs:List T} {st:St} {S:List (Nat × RT)} (h:Rel C (Hs++H) w st aI S):Rel C H w st aI S∧hM C w w S S (Hs++H) H id:=by
  have eF:∀ k∈cL S++ai H,k∈cL S++ai (Hs++H):=fun k hk=>by
    rw [bj]
    rcases List.mem_append.1 hk with h | h<;>simp [h]
  have hX:∀ b k,ah C w S (Hs++H) b k→ah C w S H b k:=jJ eF
  have cE:ju w w (ah C w S (Hs++H)) (ah C w S H):=fun b k hk=>⟨hX b k hk,rfl⟩
  have dW:hM C w w S S (Hs++H) H id:=fun d u hd=>nY cE hd
  refine ⟨h.so h.rt rfl rfl dW ⟨?_,?_,fQ hX _ ((dP _ _).1 h.mem.hand).2,fun k hk=>h.mem.lt k (eF k hk)⟩ ⟨h.kept.os,h.kept.tape,h.kept.output,h.kept.size,h.kept.block,fun k hk=>h.kept.iE k (eF k hk),h.kept.par⟩,dW⟩
  · refine List.Nodup.sublist ?_ h.mem.nd
    rw [bj]
    exact List.Sublist.append (List.Sublist.refl _) (List.sublist_append_right _ _)
  · intro r R hr
    obtain ⟨k1,k2⟩:=h.mem.root r R hr
    refine ⟨k1,fun t ht=>?_⟩
    have:=k2 t ht
    cases t with
    | v d u=>
      rcases this with this | ⟨hb,this⟩
      · exact .inl (uZ hX _ _ this)
      · exact .inr ⟨hb,dW _ _ this⟩
    | own s n cap a xs=>exact dO cE _ this (fun _ _=>rfl)
structure kI (C:Ctx) (w:World) (st st':St) (S S':List (Nat × RT)) (H H':List T) (h0 h1:D→D):Prop where
  Tq:∀ d u,bB w (ah C w S H) S (h0 d) u→bB w (ah C w S' H') S' (h1 d) u
  ZX:lK h1
  KG:nA S S'
  of:st'.of=st.of
theorem kI.trans {st aQ cq:St} {S S1 S2:List (Nat × RT)} {H H1 H2:List T} {h0 h1 h2:D→D} (a:kI C w st aQ S S1 H H1 h0 h1) (b:kI C w aQ cq S1 S2 H1 H2 h1 h2):kI C w st cq S S2 H H2 h0 h2:=
  ⟨fun d u hd=>b.Tq d u (a.Tq d u hd),b.ZX,a.KG.trans b.KG,b.of.trans a.of⟩
theorem kI.drop {st:St} {S:List (Nat × RT)} {H Hs:List T} {h0:D→D} (h:Rel C (Hs++H) w st aI S) (hk:lK h0):kI C w st st S S (Hs++H) H h0 h0:=
  ⟨fun d u hd=>(qp h).2 _ _ hd,hk,nA.refl _,rfl⟩
theorem Ow:∀ {as9:List D} {ts:List T} {H:List T} {st st':St} {S:List (Nat × RT)} {h0 h1:D→D},Rel C (ts++H) w st aI S→lK h0→cj (fun a u=>bB w (ah C w S (ts++H)) S (h0 a) u) as9 (aD ts)→pL st h0 as9 (bw ts)=some (st',h1)→
    ∃ S',Rel C H w st' aI S'∧kI C w st st' S S' (ts++H) H h0 h1:=by
  intro as9
  induction as9 with
  | nil=>
    intro ts H st st' S h0 h1 h hk ha hb
    have A5:ts=[]:=by
      cases ts with
      | nil=>rfl
      | cons t ts=>simp only [aD] at ha; cases ha
    subst A5
    simp only [pL,Option.some.injEq,Prod.mk.injEq] at hb
    obtain ⟨rfl,rfl⟩:=hb
    exact ⟨S,h,⟨fun _ _ h=>h,hk,nA.refl _,rfl⟩⟩
  | cons a as9 ih=>
    intro ts H st st' S h0 h1 h hk ha hb
    cases ts with
    | nil=>simp only [aD] at ha; cases ha
    | cons t ts=>
      simp only [aD] at ha
      cases ha with
      | cons Gb ha2=>
      simp only [bw,pL] at hb
      split at hb
      · rename_i r q o s n cs e1 e2
        split at hb
        case h_2=>simp at hb
        rename_i s0 n0 cS
        split at hb
        case isFalse=>simp at hb
        rename_i N8
        split at hb
        case h_2=>simp at hb
        rename_i aQ jd
        rw [e1] at Gb
        rw [← e2] at jd
        obtain ⟨R,l,t0,g1,g2,g3,g4,g5⟩:=iS h.rt cS
        obtain ⟨d0,u0,rfl⟩:∃ d0 u0,t0=.v d0 u0:=by
          cases t0 with
          | v d0 u0=>exact ⟨d0,u0,rfl⟩
          | own s n cap a cs=>simp [T.er] at g5
        simp only [T.er] at g5
        have hu:=Gb _ g4
        simp only [eS,T.er,← g5,sn] at hu
        obtain ⟨S1,b1,b2,b3,b4,_,_⟩:=Oo (ex:=false) h g4 ⟨d0,u0,rfl,fun _=>by rw [← g5]; simp [fh,cz]⟩ (.inl ⟨hu,fun p hp=>by
          rw [e2] at hp
          simp only [sn,Option.some.injEq] at hp
          simp only [T.er,← g5,sn,Option.some.injEq]
          rw [N8.1,N8.2]; exact hp⟩) jd
        have hk1:lK (fun x=>cz r q o false (h0 x)):=lK.comp (QN r q o false) hk rfl
        obtain ⟨S2,c1,c2⟩:=ih b1 hk1 (ha2.mono (fun x u hx=>b2 _ _ hx)) hb
        exact ⟨S2,c1,kI.trans ⟨fun d u hd=>b2 _ _ hd,hk1,b4,b3⟩ c2⟩
      · have hd:=qp (Hs:=[t]) h
        obtain ⟨S2,c1,c2⟩:=ih hd.1 hk (ha2.mono (fun x u hx=>hd.2 _ _ hx)) hb
        exact ⟨S2,c1,kI.trans (kI.drop (Hs:=[t]) h hk) c2⟩
def ZY (w:World) (X:Bool→Nat→Prop) (S:List (Nat × RT)) (h0:D→D) (d:D) (u:Value) (o:D) (a a':Arg):Prop:=
  cj (fun x v=>bB w X S (h0 x) v) (cellsOf d) (gP d u)∧oZ w true o a a'∧(a.1=none→aD a.2=gP d u∧∀ r,d≠.ptr r [] 0)∧∀ bx,a.1=some bx→∃ r R,d=.ptr r [] 0∧lk S r=some R∧R.box=some bx
theorem DV {H:List T} {st st':St} {S:List (Nat × RT)} {h0 h1:D→D} {ts:List T} {d o:D} (h:Rel C (ts++H) w st aI S) (hk:lK h0) (hn:∀ r q o' x s n cs,¬ (h0 d=.ref r q o' x∧o=.sl none s n cs)) (hb:pL st h0 [d] [o]=some (st',h1)):∃ S',Rel C H w st' aI S'∧kI C w st st' S S' (ts++H) H h0 h1:=by
  simp only [pL] at hb
  split at hb
  · rename_i r q o' s n cs e1
    exact absurd ⟨e1,rfl⟩ (hn r q o' none s n cs)
  · simp only [Option.some.injEq,Prod.mk.injEq] at hb
    obtain ⟨rfl,rfl⟩:=hb
    exact ⟨S,(qp h).1,kI.drop h hk⟩
theorem XD {H:List T} {st st':St} {S:List (Nat × RT)} {h0 h1:D→D} {d o:D} {u:Value} {a a':Arg} (h:Rel C (a'.2++H) w st aI S) (hk:lK h0) (ha:ZY w (ah C w S (a'.2++H)) S h0 d u o a a') (hb:CO st h0 d o=some (st',h1)):
    ∃ S',Rel C H w st' aI S'∧kI C w st st' S S' (a'.2++H) H h0 h1:=by
  obtain ⟨ph,h2,h3,h4⟩:=ha
  unfold CO at hb
  split at hb
  · rename_i cs ds
    obtain ⟨e1,e2,e3,e4⟩:=h2
    subst e3
    exact Ow h hk (by rw [e4,(h3 e1).1]; exact ph) hb
  · rename_i r ds
    obtain ⟨e1,⟨b,e2,e3⟩,e4⟩:=h2
    split at hb
    case h_2=>simp at hb
    rename_i gf
    simp only [Option.some.injEq,Prod.mk.injEq] at hb
    obtain ⟨rfl,rfl⟩:=hb
    obtain ⟨r',R,g1,g2,g3⟩:=h4 b e2
    simp only [D.ptr.injEq,and_true] at g1
    subst g1
    rw [h.rt,g2] at gf
    simp only [Option.map_some,Option.some.injEq] at gf
    have eM:R.cs=[]:=List.length_eq_zero_iff.1 (by rw [← fq,gf]; rfl)
    obtain ⟨c1,c2,c3⟩:=XB h (r:=r) (b:=b) (by rw [g2]; cases R; simp only at g3 eM; rw [g3,eM]) e3
    subst e4
    exact ⟨_,c1,⟨fun d u hd=>c2 _ _ hd,lK.comp (QO r) hk rfl,c3,rfl⟩⟩
  · rename_i hna hnp
    by_cases eA:∃ cs,d=.agg cs
    · obtain ⟨cs,rfl⟩:=eA
      refine DV h hk (fun r q o' x s n cs' hh=>?_) hb
      rcases hk (.agg cs) with e | e<;>rw [e] at hh<;>simp at hh
    have cS:cellsOf d=[d]:=by cases d<;>first | rfl | exact absurd ⟨_,rfl⟩ eA
    have A3:gP d u=[u]:=by cases d<;>first | rfl | exact absurd ⟨_,rfl⟩ eA
    by_cases gA:∃ s n cs,o=.sl none s n cs
    · obtain ⟨s,n,cs,rfl⟩:=gA
      obtain ⟨e1,e2,e3⟩:=h2
      rcases e3 with ⟨_,e3⟩ | ⟨t,e3,e4,e5⟩
      · exact absurd rfl (e3 s n cs)
      · rw [e3] at h ph ⊢
        rw [e4] at hb
        refine Ow (as9:=[d]) (ts:=[t]) h hk ?_ (by simpa [bw] using hb)
        rw [e5,(h3 e1).1,A3]
        rw [cS,A3] at ph
        exact ph
    · exact DV h hk (fun r q o' x s n cs' hh=>gA ⟨s,n,cs',hh.2⟩) hb
def xU (w:World) (X:Bool→Nat→Prop) (S:List (Nat × RT)) (h0:D→D):List Bool→List D→List Value→List D→List Arg→List Arg→Prop
  | _,[],us,os,as9,cx=>us=[]∧os=[]∧as9=[]∧cx=[]
  | b,d::ds,us,os,as9,cx=>∃ u KT o qq a A9 a' Ba,us=u::KT∧os=o::qq∧as9=a::A9∧cx=a'::Ba∧(if b.headD false then ZY w X S h0 d u o a a' else a'=(none,[]))∧xU w X S h0 b.tail ds KT qq A9 Ba
theorem xU.step {X X':Bool→Nat→Prop} {S S':List (Nat × RT)} {h0 h1:D→D} (ht:∀ d u,bB w X S (h0 d) u→bB w X' S' (h1 d) u) (hd:nA S S'):∀ {b:List Bool} {ds:List D} {us:List Value} {os:List D} {as9 cx:List Arg},xU w X S h0 b ds us os as9 cx→xU w X' S' h1 b ds us os as9 cx
  | _,[],_,_,_,_,h=>h
  | b,d::ds,us,os,as9,cx,h=>by
    obtain ⟨u,KT,o,qq,a,A9,a',Ba,e1,e2,e3,e4,e5,e6⟩:=h
    refine ⟨u,KT,o,qq,a,A9,a',Ba,e1,e2,e3,e4,?_,e6.step ht hd⟩
    split
    · rename_i hb
      rw [if_pos hb] at e5
      obtain ⟨k1,k2,k3,k4⟩:=e5
      refine ⟨k1.mono (fun x v hx=>ht _ _ hx),k2,k3,fun bx vu=>?_⟩
      obtain ⟨r,R,g1,g2,g3⟩:=k4 bx vu
      obtain ⟨R',g4,g5⟩:=hd r R g2
      exact ⟨r,R',g1,g4,g5.trans g3⟩
    · rename_i hb
      rw [if_neg hb] at e5
      exact e5
def db (as9:List Arg):List T:=(as9.map Prod.snd).flatten
theorem QP:∀ {ds:List D} {b:List Bool} {us:List Value} {os:List D} {as9 cx:List Arg} {H:List T} {st st':St} {S:List (Nat × RT)} {h0:D→D},Rel C (db cx++H) w st aI S→lK h0→xU w (ah C w S (db cx++H)) S h0 b ds us os as9 cx→ir st h0 b ds os=some st'→
    ∃ S' h1,Rel C H w st' aI S'∧kI C w st st' S S' (db cx++H) H h0 h1:=by
  intro ds
  induction ds with
  | nil=>
    intro b us os as9 cx H st st' S h0 h hk ha hb
    obtain ⟨rfl,rfl,rfl,rfl⟩:=ha
    simp only [ir,Option.some.injEq] at hb
    subst hb
    exact ⟨S,h0,h,⟨fun _ _ h=>h,hk,nA.refl _,rfl⟩⟩
  | cons d ds ih=>
    intro b us os as9 cx H st st' S h0 h hk ha hb
    obtain ⟨u,KT,o,qq,a,A9,a',Ba,rfl,rfl,rfl,rfl,e5,e6⟩:=ha
    have hh:db (a'::Ba)++H=a'.2++(db Ba++H):=by simp [db]
    rw [hh] at h e5 e6 ⊢
    simp only [ir] at hb
    split at hb
    · rename_i tG
      rw [if_pos tG] at e5
      split at hb
      case h_2=>simp at hb
      rename_i aQ h1 DK
      obtain ⟨S1,c1,c2⟩:=XD h hk e5 DK
      obtain ⟨S2,h2,d1,d2⟩:=ih c1 c2.ZX (e6.step c2.Tq c2.KG) hb
      exact ⟨S2,h2,d1,c2.trans d2⟩
    · rename_i tG
      rw [if_neg tG] at e5
      subst e5
      have hd:=qp (Hs:=[]) (H:=db Ba++H) h
      obtain ⟨S2,h2,d1,d2⟩:=ih hd.1 hk e6 hb
      exact ⟨S2,h2,d1,d2⟩
end
end Go.Proofs.YtockoilcnmljiaaGreat
namespace Go.Proofs.YtockoilcnmljiaaGreat
def zX:D→List D
  | .agg cs=>cs
  | d=>[d]
theorem wQ (ds:List D):dp (.aP ds)=ds.flatMap zX:=rfl
theorem pU {d:D} {v:Value} {ts:List T} (h:fH d v ts):bw ts=zX d:=by
  cases d<;>first | exact h.1.symm | (obtain ⟨t,rfl,h1,_⟩:=h; rw [h1]; simp [bw,zX,← h1])
theorem Bb:∀ {ds:List D} {us:List Value} {ts:List T},tI ds us ts→bw ts=ds.flatMap zX
  | [],us,ts,h=>by obtain ⟨rfl,rfl⟩:=h; rfl
  | d::ds,us,ts,h=>by
    obtain ⟨u,kp,t1,t2,rfl,rfl,h1,h2⟩:=h
    rw [vl,pU h1,Bb h2,List.flatMap_cons]
theorem sC {w:World} {X:Bool→Nat→Prop} {d:D} {v:Value} {ts:List T} (hs:bM w X ts) (h:fH d v ts):dp d=zX d:=by
  cases d with
  | aP ds=>
    obtain ⟨t,rfl,h1,_⟩:=h
    exact absurd h1.symm ((sx ((cr _).1 hs t (by simp))).2.2 ds)
  | _=>rfl
section
variable {C:Ctx} {w:World} {aI:List (Array Value)} {H:List T} {S:List (Nat × RT)}
theorem zg (hm:Mem C w S H) {r:Nat} {R:RT} (hR:lk S r=some R) {d:D} {v:Value} {ts A B:List T} (hf:fH d v ts) (eM:R.cs=A++ts++B):gI w (ah C w S H) S (CL r A.length d) v:=by
  have me:∀ (i:Nat) (t:T),ts[i]?=some t→R.cs[A.length+i]?=some t:=fun i t hi=>by
    have cX:=(List.getElem?_eq_some_iff.1 hi).1
    rw [eM,List.append_assoc,List.getElem?_append_right (by omega),List.getElem?_append_left (by omega)]
    rw [← hi]; congr 1; omega
  by_cases ha:∃ cs,d=.agg cs
  · obtain ⟨cs,rfl⟩:=ha
    obtain ⟨rfl,us,rfl,hu⟩:=hf
    refine ⟨us,rfl,dq (by rw [qj,fq,hu,bS]) (fun i x y hx hy=>?_)⟩
    rw [nV,iv] at hx
    rw [hu,fk] at hy
    cases hi:ts[i]? with
    | none=>simp [hi] at hx
    | some t=>
      simp only [hi,Option.map_some,Option.some.injEq] at hx hy
      subst hx; subst hy
      exact qi hm hR rfl (me i t hi)
  · have hv:CL r A.length d=gF r [] A.length d:=by cases d<;>first | rfl | exact absurd ⟨_,rfl⟩ ha
    have Vj:∃ t,ts=[t]∧d=t.er∧v=t.val:=by cases d<;>first | exact hf | exact absurd ⟨_,rfl⟩ ha
    obtain ⟨t,rfl,rfl,rfl⟩:=Vj
    rw [hv]
    exact ey (qi hm hR rfl (me 0 t rfl))
theorem DW (hm:Mem C w S H) {r:Nat} {R:RT} (hR:lk S r=some R) {X:Bool→Nat→Prop}:∀ {ds:List D} {us:List Value} {ts A B:List T},tI ds us ts→bM w X ts→R.cs=A++ts++B→cj (gI w (ah C w S H) S) (FY r A.length ds) us
  | [],us,ts,A,B,h,_,_=>by obtain ⟨rfl,rfl⟩:=h; exact .nil
  | d::ds,us,ts,A,B,h,hs,eM=>by
    obtain ⟨u,kp,t1,t2,rfl,rfl,h1,h2⟩:=h
    rw [dP] at hs
    simp only [FY]
    refine .cons (zg hm hR (B:=t2++B) h1 (by rw [eM]; simp)) ?_
    have hl:A.length+(dp d).length=(A++t1).length:=by rw [sC hs.1 h1,← pU h1,fq,List.length_append]
    rw [hl]
    exact DW hm hR (B:=B) h2 hs.2 (by rw [eM]; simp)
theorem zh {X:Bool→Nat→Prop} {d:D} {v:Value} {ts:List T} (hf:fH d v ts) (hs:bM w X ts) (oV:(zX d).any iR=false):gI w X S d v:=by
  have hl:∀ t∈ts,Ext w X t.er t.val:=fun t ht=>by
    have h1:=(cr _).1 hs t ht
    cases t with
    | v d u=>exact h1
    | own s n cap a cs=>
      rw [← pU hf] at oV
      have:=List.any_eq_false.1 oV (T.own s n cap a cs).er (by rw [eL]; exact List.mem_map.2 ⟨_,ht,rfl⟩)
      simp [T.er,iR] at this
  by_cases ha:∃ cs,d=.agg cs
  · obtain ⟨cs,rfl⟩:=ha
    obtain ⟨rfl,us,rfl,hu⟩:=hf
    refine ⟨us,rfl,dq (by rw [fq,hu,bS]) (fun i x y hx hy=>?_)⟩
    rw [iv] at hx
    rw [hu,fk] at hy
    cases hi:ts[i]? with
    | none=>simp [hi] at hx
    | some t=>
      simp only [hi,Option.map_some,Option.some.injEq] at hx hy
      subst hx; subst hy
      exact fG (hl t (List.mem_of_getElem? hi))
  · have Vj:∃ t,ts=[t]∧d=t.er∧v=t.val:=by cases d<;>first | exact hf | exact absurd ⟨_,rfl⟩ ha
    obtain ⟨t,rfl,rfl,rfl⟩:=Vj
    exact ey (fG (hl t (by simp)))
theorem DX {X:Bool→Nat→Prop}:∀ {ds:List D} {us:List Value} {ts:List T},tI ds us ts→bM w X ts→(ds.flatMap zX).any iR=false→cj (gI w X S) ds us
  | [],us,ts,h,_,_=>by obtain ⟨rfl,rfl⟩:=h; exact .nil
  | d::ds,us,ts,h,hs,oV=>by
    obtain ⟨u,kp,t1,t2,rfl,rfl,h1,h2⟩:=h
    rw [dP] at hs
    rw [List.flatMap_cons,List.any_append,Bool.or_eq_false_iff] at oV
    exact .cons (zh h1 hs.1 oV.1) (DX h2 hs.2 oV.2)
theorem XE {fa:List T} {st:St} {vs:Array Value} (h:Rel C (fa++H) w st (vs::aI) S) {r:D} {v:Value} (hr:KS r v fa) {t:Nat} (ht:t < vs.size) (hP:∀ p∈C.P0,p.1≠st.of+t):
    ∃ S',Rel C H w ((st.qI (st.of+t) r).1.put (some t) (st.qI (st.of+t) r).2) (vs.setIfInBounds t v::aI) S':=by
  have dw:=((dP _ _).1 h.mem.hand).1
  have ac8:(ai fa).Nodup:=by
    have:=h.mem.nd
    rw [bj,List.nodup_append,List.nodup_append] at this
    exact this.2.1.1
  have ac9:∀ k∈ai fa,k < w.heap.size:=fun k hk=>h.mem.lt k (by rw [bj]; simp [hk])
  by_cases hp:∃ cs,r=.bh cs
  · obtain ⟨cs,rfl⟩:=hp
    obtain ⟨b,ts,rfl,rfl,rfl⟩:=hr
    have hb:bL w (ah C w S ([sA b ts]++H)) (sA b ts):=(cr _).1 dw _ (by simp)
    simp only [sA,bL,Nat.one_mul] at hb
    obtain ⟨_,_,eW,gA⟩:=hb
    have eT:∀ k∈(RT.mk (some b) ts).ft,k∈ai [sA b ts]∨w.heap.size≤k:=fun k hk=>.inl (by simpa [RT.ft,ai,sA,T.ft,jg] using hk)
    have cE:=oN (r:=st.of+t) (R:=⟨some b,ts⟩) h eT (Nat.le_refl _) (fun _ _=>rfl)
    obtain ⟨h1,_⟩:=yX (r:=st.of+t) (R:=⟨some b,ts⟩) h ⟨eW,fun x hx=>by
        have:=(cr _).1 gA x hx
        have:=dO cE x this (fun _ _=>rfl)
        cases x with
        | v d u=>exact .inl this
        | own s n cap a cs=>exact this⟩
      ⟨by simpa [RT.ft,ai,sA,T.ft,jg] using ac8,eT⟩ (fun k hk=>ac9 k (by simpa [RT.ft,ai,sA,T.ft,jg] using hk)) (Nat.le_refl _) (fun _ _=>rfl) rfl rfl rfl hP
    refine ⟨_,h1.put ht ?_⟩
    intro R hR
    rw [cH,Option.some.injEq] at hR
    subst hR
    exact ⟨fun _=>rfl,fun b' off ha=>by simp only [cb,Option.map_some,Option.some.injEq,Prod.mk.injEq] at ha; obtain ⟨rfl,rfl⟩:=ha; rfl⟩
  · have ta:bw fa=dp r:=by
      by_cases jK:∃ ds,r=.aP ds
      · obtain ⟨ds,rfl⟩:=jK
        obtain ⟨us,rfl,hf⟩:=hr
        rw [wQ]; exact Bb hf
      · have hf:fH r v fa:=by cases r<;>first | exact hr | exact absurd ⟨_,rfl⟩ hp | exact absurd ⟨_,rfl⟩ jK
        rw [sC dw hf]; exact pU hf
    have had:st.qI (st.of+t) r=if (dp r).any iR then ({ st.eY (cF (st.of+t)) with rt:=pz (st.eY (cF (st.of+t))).rt (st.of+t) (dp r) },CM (st.of+t) r) else (st,r):=by
      cases r<;>first | rfl | exact absurd ⟨_,rfl⟩ hp
    rw [had]
    by_cases jx:(dp r).any iR=true
    · rw [if_pos jx]
      have eT:∀ k∈(RT.mk none fa).ft,k∈ai fa∨w.heap.size≤k:=fun k hk=>.inl (by simpa [RT.ft] using hk)
      have cE:=oN (r:=st.of+t) (R:=⟨none,fa⟩) h eT (Nat.le_refl _) (fun _ _=>rfl)
      obtain ⟨h1,_⟩:=yX (r:=st.of+t) (R:=⟨none,fa⟩) h ⟨trivial,fun x hx=>by
          have:=(cr _).1 dw x hx
          have:=dO cE x this (fun _ _=>rfl)
          cases x with
          | v d u=>exact .inl this
          | own s n cap a cs=>exact this⟩
        ⟨by simpa [RT.ft] using ac8,eT⟩ (fun k hk=>ac9 k (by simpa [RT.ft] using hk)) (Nat.le_refl _) (fun _ _=>rfl) rfl rfl rfl hP
      rw [← ta]
      refine ⟨_,h1.put ht ?_⟩
      have zY:lk (pt (fS (cF (st.of+t)) S) (st.of+t) ⟨none,fa⟩) (st.of+t)=some ⟨none,fa⟩:=cH _ _ _
      by_cases jK:∃ ds,r=.aP ds
      · obtain ⟨ds,rfl⟩:=jK
        obtain ⟨us,rfl,hf⟩:=hr
        refine ⟨us,rfl,?_⟩
        exact DW h1.mem zY (A:=[]) (B:=[]) hf dw (by simp)
      · have hf:fH r v fa:=by cases r<;>first | exact hr | exact absurd ⟨_,rfl⟩ hp | exact absurd ⟨_,rfl⟩ jK
        have hv:CM (st.of+t) r=CL (st.of+t) 0 r:=by cases r<;>first | rfl | exact absurd ⟨_,rfl⟩ jK
        rw [hv]
        exact kC (zg h1.mem zY (A:=[]) (B:=[]) hf (by simp))
    · rw [if_neg jx]
      have jx:(dp r).any iR=false:=by simpa using jx
      obtain ⟨h1,_⟩:=qp h
      have hX:∀ b k,ah C w S (fa++H) b k→ah C w S H b k:=jJ (fun k hk=>by
        rw [bj]
        rcases List.mem_append.1 hk with h | h<;>simp [h])
      have hs:=fQ hX _ dw
      refine ⟨S,h1.put ht ?_⟩
      by_cases jK:∃ ds,r=.aP ds
      · obtain ⟨ds,rfl⟩:=jK
        obtain ⟨us,rfl,hf⟩:=hr
        exact ⟨us,rfl,DX hf hs jx⟩
      · have hf:fH r v fa:=by cases r<;>first | exact hr | exact absurd ⟨_,rfl⟩ hp | exact absurd ⟨_,rfl⟩ jK
        rw [sC dw hf] at jx
        exact kC (zh hf hs jx)
end
end Go.Proofs.YtockoilcnmljiaaGreat
namespace Go.Proofs.YtockoilcnmljiaaGreat
mutual
def tJ (b:Bool):T→T
  | .v d u=>.v (iq b (bQ d)) u
  | .own s n cap a cs=>.own s n cap a (gr b cs)
def gr (b:Bool):List T→List T
  | []=>[]
  | t::ts=>tJ b t::gr b ts
end
theorem XF {d:D} (h:∀ s n cs,d≠.sl none s n cs):bQ d=d:=by
  cases d with
  | sl g s n cs=>cases g with
    | none=>exact absurd rfl (h s n cs)
    | some g=>rfl
  | _=>rfl
theorem Vk (d:D) (s n:Nat) (cs:List D):bQ d≠.sl none s n cs:=by
  cases d with
  | sl g s n cs=>cases g<;>simp [bQ]
  | _=>simp [bQ]
theorem Ox (b:Bool) (d:D):bQ (iq b (bQ d))=iq b (bQ d):=by
  refine XF (fun s n cs=>?_)
  have:=Vk d
  cases h:bQ d with
  | sl g s' n' cs'=>
    cases g with
    | none=>exact absurd h (this _ _ _)
    | some g=>simp [iq]
  | _=>simp [iq]
mutual
theorem CZ (b:Bool):∀ t:T,(tJ b t).er=iq b t.er
  | .v d u=>by simp only [tJ,T.er]; exact Ox b d
  | .own s n cap a cs=>by simp only [tJ,T.er,iq]; rw [vz b cs]
theorem vz (b:Bool):∀ ts:List T,bw (gr b ts)=ek b (bw ts)
  | []=>rfl
  | t::ts=>by simp only [gr,bw,ek]; rw [CZ b t,vz b ts]
end
theorem Bc (b:Bool) (t:T):(tJ b t).val=t.val:=by cases t<;>rfl
theorem sE (b:Bool):∀ ts:List T,aD (gr b ts)=aD ts
  | []=>rfl
  | t::ts=>by simp only [gr,aD]; rw [Bc,sE b ts]
mutual
theorem afy (b:Bool):∀ t:T,(tJ b t).ft=t.ft
  | .v _ _=>rfl
  | .own s n cap a cs=>by simp only [tJ,T.ft]; rw [vA b cs]
theorem vA (b:Bool):∀ ts:List T,ai (gr b ts)=ai ts
  | []=>rfl
  | t::ts=>by simp only [gr,ai]; rw [afy b t,vA b ts]
end
theorem u3 (b:Bool):∀ ts:List T,(gr b ts).length=ts.length
  | []=>rfl
  | t::ts=>by simp [gr,u3 b ts]
theorem C2 (b:Bool):∀ x y:List T,gr b (x++y)=gr b x++gr b y
  | [],_=>rfl
  | t::ts,y=>by simp [gr,C2 b ts y]
theorem Oy (b:Bool):∀ cs:List D,(ek b cs).length=cs.length
  | []=>rfl
  | d::ds=>by simp [ek,Oy b ds]
section
variable {w:World} {X X':Bool→Nat→Prop} {b:Bool} (hX:∀ g k,X g k→X' b k)
include hX
mutual
theorem RY:∀ (d:D) (u:Value),Ext w X d u→Ext w X' (iq b d) u
  | .int _ _,_,hu=>hu
  | .bool _,_,hu=>hu
  | .str _,_,hu=>hu
  | .nil _,_,hu=>hu
  | .undef,_,_=>trivial
  | .hole _ _,_,_=>trivial
  | .sl (some g) s n cs,u,hu=>by
    simp only [Ext,iq] at hu ⊢
    obtain ⟨base,cap,us,h1,ph,h2,h3,h4⟩:=hu
    refine ⟨base,cap,us,h1,ph,by rw [Oy]; exact h2,Oz cs us h3,?_⟩
    rcases h4 with h4 | ⟨k,off,c,e,fz,h5,h6,h7,h8⟩
    · left; rw [h4]; rfl
    · exact .inr ⟨k,off,c,e,fz,h5,hX g k h6,h7,h8⟩
  | .sl none _ _ _,_,hu=>by simp [Ext] at hu
  | .ref ..,_,hu=>by simp [Ext] at hu
  | .agg _,_,hu=>by simp [Ext] at hu
  | .aP _,_,hu=>by simp [Ext] at hu
  | .fn ..,_,hu=>by simp [Ext] at hu
  | .ptr ..,_,hu=>by simp [Ext] at hu
  | .cJ ..,_,hu=>by simp [Ext] at hu
  | .bh _,_,hu=>by simp [Ext] at hu
theorem Oz:∀ (ds:List D) (us:List Value),gd w X ds us→gd w X' (ek b ds) us
  | [],_,hu=>by have _:=hX; exact hu
  | d::ds,us,hu=>by
    simp only [gd,ek] at hu ⊢
    obtain ⟨v,vs,h1,h2,h3⟩:=hu
    exact ⟨v,vs,h1,RY d v h2,Oz ds vs h3⟩
end
mutual
theorem ada:∀ (t:T),bL w X t→bL w X' (tJ b t)
  | .v d u,hs=>by
    simp only [bL,tJ] at hs ⊢
    rw [Ox]
    exact RY hX _ _ hs
  | .own s n cap a cs,hs=>by
    simp only [bL,tJ] at hs ⊢
    obtain ⟨h1,h2,h3,h4⟩:=hs
    rw [sE,u3]
    exact ⟨h1,h2,h3,xV cs h4⟩
theorem xV:∀ (ts:List T),bM w X ts→bM w X' (gr b ts)
  | [],_=>by have _:=hX; simp [bM,gr]
  | t::ts,hs=>by
    simp only [bM,gr] at hs ⊢
    exact ⟨ada t hs.1,xV ts hs.2⟩
end
end
section
variable {w:World} {X:Bool→Nat→Prop}
mutual
theorem Vl:∀ (d:D) (u:Value),Ext w X d u→cf d=true→Ext w (fun g k=>g=false∧X false k) d u
  | .int _ _,_,hu,_=>hu
  | .bool _,_,hu,_=>hu
  | .str _,_,hu,_=>hu
  | .nil _,_,hu,_=>hu
  | .undef,_,_,_=>trivial
  | .hole _ _,_,_,_=>trivial
  | .sl (some g) s n cs,u,hu,hn=>by
    simp only [Ext] at hu ⊢
    simp only [cf,Bool.and_eq_true] at hn
    have hg:g=false:=by cases g with
      | false=>rfl
      | true=>exact absurd hn.1 (by decide)
    subst hg
    obtain ⟨base,cap,us,h1,ph,h2,h3,h4⟩:=hu
    refine ⟨base,cap,us,h1,ph,h2,RZ cs us h3 hn.2,?_⟩
    rcases h4 with h4 | ⟨k,off,c,e,fz,h5,h6,h7,h8⟩
    · exact .inl h4
    · exact .inr ⟨k,off,c,e,fz,h5,⟨rfl,h6⟩,h7,h8⟩
  | .sl none _ _ _,_,hu,_=>by simp [Ext] at hu
  | .ref ..,_,hu,_=>by simp [Ext] at hu
  | .agg _,_,hu,_=>by simp [Ext] at hu
  | .aP _,_,hu,_=>by simp [Ext] at hu
  | .fn ..,_,hu,_=>by simp [Ext] at hu
  | .ptr ..,_,hu,_=>by simp [Ext] at hu
  | .cJ ..,_,hu,_=>by simp [Ext] at hu
  | .bh _,_,hu,_=>by simp [Ext] at hu
theorem RZ:∀ (ds:List D) (us:List Value),gd w X ds us→cm ds=true→gd w (fun g k=>g=false∧X false k) ds us
  | [],_,hu,_=>hu
  | d::ds,us,hu,hn=>by
    simp only [gd] at hu ⊢
    simp only [cm,Bool.and_eq_true] at hn
    obtain ⟨v,vs,h1,h2,h3⟩:=hu
    exact ⟨v,vs,h1,Vl d v h2 hn.1,RZ ds vs h3 hn.2⟩
end
mutual
theorem adb:∀ (t:T),bL w X t→cf t.er=true→bL w (fun g k=>g=false∧X false k) t
  | .v d u,hs,hn=>by
    simp only [bL] at hs ⊢
    exact Vl _ _ hs hn
  | .own s n cap a cs,hs,hn=>by
    simp only [bL] at hs ⊢
    simp only [T.er,cf,Bool.and_eq_true] at hn
    exact ⟨hs.1,hs.2.1,hs.2.2.1,C3 cs hs.2.2.2 hn.2⟩
theorem C3:∀ (ts:List T),bM w X ts→cm (bw ts)=true→bM w (fun g k=>g=false∧X false k) ts
  | [],_,_=>by simp [bM]
  | t::ts,hs,hn=>by
    simp only [bM] at hs ⊢
    simp only [bw,cm,Bool.and_eq_true] at hn
    exact ⟨adb t hs.1 hn.1,C3 ts hs.2 hn.2⟩
end
end
theorem eh:∀ ds:List D,cm ds=ds.all cf
  | []=>rfl
  | d::ds=>by simp [cm,eh ds]
mutual
theorem OA:∀ d:D,cf d=true→iq false d=d
  | .sl none s n cs,h=>by
    simp only [cf,Bool.and_eq_true] at h
    simp only [iq]
    rw [u4 cs h.2]
  | .sl (some g) s n cs,h=>by
    simp only [cf,Bool.and_eq_true] at h
    have hg:g=false:=by cases g with
      | false=>rfl
      | true=>exact absurd h.1 (by decide)
    subst hg
    simp only [iq]
    rw [u4 cs h.2]
  | .int _ _,_=>rfl
  | .bool _,_=>rfl
  | .str _,_=>rfl
  | .nil _,_=>rfl
  | .undef,_=>rfl
  | .hole _ _,_=>rfl
  | .ref ..,_=>rfl
  | .agg _,_=>rfl
  | .aP _,_=>rfl
  | .fn ..,_=>rfl
  | .ptr ..,_=>rfl
  | .cJ ..,_=>rfl
  | .bh _,_=>rfl
theorem u4:∀ ds:List D,cm ds=true→ek false ds=ds
  | [],_=>rfl
  | d::ds,h=>by
    simp only [cm,Bool.and_eq_true] at h
    simp only [ek]
    rw [OA d h.1,u4 ds h.2]
end
def qZ (b:Bool):D→D
  | .agg cs=>.agg (ek b cs)
  | d=>iq b d
theorem EC (b:Bool) (vs:List D):gN b (.aP vs)=.aP (vs.map (qZ b)):=by
  simp only [gN]
  congr 1
theorem IQ (d:D) (h:(ch d).all cf=true):gN false d=d:=by
  cases d with
  | agg cs=>simp only [gN]; rw [u4 cs (by rw [eh]; exact h)]
  | bh cs=>simp only [gN]; rw [u4 cs (by rw [eh]; exact h)]
  | aP vs=>
    rw [EC]
    have hx:∀ x∈vs,qZ false x=id x:=by
      intro x hx
      have hh:∀ y∈zX x,cf y=true:=fun y hy=>by
        refine List.all_eq_true.1 h y ?_
        simp only [ch,wQ,List.mem_flatMap]
        exact ⟨x,hx,hy⟩
      cases x with
      | agg cs=>simp only [qZ]; rw [u4 cs (by rw [eh]; exact List.all_eq_true.2 hh)]; rfl
      | _=>exact OA _ (hh _ (by simp [zX]))
    rw [List.map_congr_left hx,List.map_id]
  | _=>
    simp only [ch,dp,List.all_cons,List.all_nil,Bool.and_true] at h
    exact OA _ h
theorem Bd {w:World} {X:Bool→Nat→Prop} {b:Bool} {d:D} {u:Value} {ts:List T} (hf:fH d u ts) (hs:bM w X ts):fH (qZ b d) u (gr b ts):=by
  by_cases ha:∃ cs,d=.agg cs
  · obtain ⟨cs,rfl⟩:=ha
    obtain ⟨rfl,us,rfl,hu⟩:=hf
    exact ⟨(vz b ts).symm,us,rfl,by rw [sE]; exact hu⟩
  · have Vj:∃ t,ts=[t]∧d=t.er∧u=t.val:=by cases d<;>first | exact hf | exact absurd ⟨_,rfl⟩ ha
    obtain ⟨t,rfl,rfl,rfl⟩:=Vj
    have h1:=(cr _).1 hs t (by simp)
    have hp:qZ b t.er=iq b t.er:=by
      cases he:t.er<;>first | rfl | exact absurd ⟨_,he⟩ ha
    rw [hp,← CZ b t,← Bc b t]
    have h2:∀ cs,(tJ b t).er≠.agg cs:=by
      intro cs
      rw [CZ]
      cases he:t.er with
      | agg cs'=>exact absurd ⟨_,he⟩ ha
      | sl g s n cs'=>cases g<;>simp [iq]
      | _=>simp [iq]
    have h3:∀ d,(∀ cs,d≠.agg cs)→d=(tJ b t).er→fH d (tJ b t).val (gr b [t]):=fun d hn e=>by
      cases d<;>first | exact ⟨_,rfl,e,rfl⟩ | exact absurd rfl (hn _)
    exact h3 _ h2 rfl
theorem Gw {w:World} {X:Bool→Nat→Prop} {b:Bool}:∀ {ds:List D} {us:List Value} {ts:List T},tI ds us ts→bM w X ts→tI (ds.map (qZ b)) us (gr b ts)
  | [],us,ts,h,_=>by obtain ⟨rfl,rfl⟩:=h; exact ⟨rfl,rfl⟩
  | d::ds,us,ts,h,hs=>by
    obtain ⟨u,kp,t1,t2,rfl,rfl,h1,h2⟩:=h
    rw [dP] at hs
    exact ⟨u,kp,_,_,rfl,C2 b t1 t2,Bd h1 hs.1,Gw h2 hs.2⟩
theorem KU {b:Bool} {d:D} (h1:∀ cs,d≠.bh cs) (h2:∀ cs,d≠.aP cs):gN b d=qZ b d:=by
  cases d<;>first | rfl | exact absurd rfl (h1 _) | exact absurd rfl (h2 _)
theorem aa5 {w:World} {X:Bool→Nat→Prop} {b:Bool} {r:D} {v:Value} {ts:List T} (hr:KS r v ts) (hs:bM w X ts):KS (gN b r) v (gr b ts):=by
  by_cases hp:∃ cs,r=.bh cs
  · obtain ⟨cs,rfl⟩:=hp
    obtain ⟨bk,RX,rfl,rfl,rfl⟩:=hr
    exact ⟨bk,gr b RX,by simp [gr,sA,tJ,u3],(vz b RX).symm,rfl⟩
  by_cases jK:∃ ds,r=.aP ds
  · obtain ⟨ds,rfl⟩:=jK
    obtain ⟨us,rfl,hf⟩:=hr
    rw [EC]
    exact ⟨us,rfl,Gw hf hs⟩
  have hf:fH r v ts:=by cases r<;>first | exact hr | exact absurd ⟨_,rfl⟩ hp | exact absurd ⟨_,rfl⟩ jK
  rw [KU (fun cs e=>hp ⟨cs,e⟩) (fun cs e=>jK ⟨cs,e⟩)]
  have h2:=Bd (b:=b) hf hs
  have h3:(∀ cs,qZ b r≠.bh cs)∧∀ cs,qZ b r≠.aP cs:=by
    cases r with
    | bh cs=>exact absurd ⟨_,rfl⟩ hp
    | aP cs=>exact absurd ⟨_,rfl⟩ jK
    | sl g s n cs=>cases g<;>simp [qZ,iq]
    | _=>simp [qZ,iq]
  have:∀ d,(∀ cs,d≠.bh cs)→(∀ cs,d≠.aP cs)→fH d v (gr b ts)→KS d v (gr b ts):=fun d h4 h5 h6=>by
    cases d<;>first | exact h6 | exact absurd rfl (h4 _) | exact absurd rfl (h5 _)
  exact this _ h3.1 h3.2 h2
theorem XG {w:World} {X:Bool→Nat→Prop} {b c:Bool} {o:D} {a a':Arg} (h:oZ w c o a a') (hs:bM w X a'.2):oZ w c (gN b o) a (a'.1,gr b a'.2):=by
  cases c with
  | false=>
    simp only [oZ] at h ⊢
    rw [h]; rfl
  | true=>
    cases o with
    | bh cs=>
      obtain ⟨h1,⟨bk,h2,h3⟩,h4⟩:=h
      exact ⟨h1,⟨bk,h2,by simp only [u3,sE]; exact h3⟩,by rw [h4]; exact (vz b _).symm⟩
    | agg cs=>
      obtain ⟨h1,h2,h3,h4⟩:=h
      exact ⟨h1,h2,by rw [h3]; exact (vz b _).symm,by simp only [sE]; exact h4⟩
    | aP vs=>
      obtain ⟨h1,h2,h3⟩:=h
      rw [EC]
      refine ⟨h1,h2,?_⟩
      rcases h3 with ⟨h3,_⟩ | ⟨t,h3,h4,_⟩
      · exact .inl ⟨by rw [h3]; rfl,by simp⟩
      · rw [h3] at hs
        exact absurd h4.symm ((sx ((cr _).1 hs t (by simp))).2.2 vs)
    | sl g s n cs=>
      obtain ⟨h1,h2,h3⟩:=h
      cases g with
      | none=>
        refine ⟨h1,h2,?_⟩
        rcases h3 with ⟨_,h3⟩ | ⟨t,h3,h4,h5⟩
        · exact absurd rfl (h3 s n cs)
        · exact .inr ⟨tJ b t,by rw [h3]; rfl,by rw [CZ,← h4]; rfl,by simp only [aD,Bc] at h5 ⊢; exact h5⟩
      | some g=>
        refine ⟨h1,h2,?_⟩
        rcases h3 with ⟨h3,_⟩ | ⟨t,h3,h4,h5⟩
        · exact .inl ⟨by rw [h3]; rfl,by simp [gN,iq]⟩
        · exact .inr ⟨tJ b t,by rw [h3]; rfl,by rw [CZ,← h4]; rfl,by simp only [aD,Bc] at h5 ⊢; exact h5⟩
    | _=>
      obtain ⟨h1,h2,h3⟩:=h
      refine ⟨h1,h2,?_⟩
      rcases h3 with ⟨h3,_⟩ | ⟨t,h3,h4,h5⟩
      · exact .inl ⟨by rw [h3]; rfl,by simp [gN,iq]⟩
      · exact .inr ⟨tJ b t,by rw [h3]; rfl,by rw [CZ,← h4]; rfl,by simp only [aD,Bc] at h5 ⊢; exact h5⟩
theorem aa6 {w:World} {X X':Bool→Nat→Prop} {b:Bool} {d:D} {u:Value} {a:Arg} (h:KR w X true d u a) (hs:bM w X a.2):KR w X' true (gN b d) u (a.1,gr b a.2):=by
  by_cases hp:∃ cs,d=.bh cs
  · obtain ⟨cs,rfl⟩:=hp
    obtain ⟨bk,h1,h2,h3,h4,h5⟩:=h
    refine ⟨bk,h1,fun e=>h2 ?_,by rw [h3]; exact (vz b _).symm,h4,by simp only [u3,sE]; exact h5⟩
    have:=congrArg List.length e
    simp only [u3,List.length_nil] at this
    exact List.length_eq_zero_iff.1 this
  · have hf:a.1=none∧fH d u a.2:=by cases d<;>first | exact h | exact absurd ⟨_,rfl⟩ hp
    have jK:∀ vs,d≠.aP vs:=by
      rintro vs rfl
      obtain ⟨t,e1,e2,_⟩:=hf.2
      rw [e1] at hs
      exact (sx ((cr _).1 hs t (by simp))).2.2 vs e2.symm
    rw [KU (fun cs e=>hp ⟨cs,e⟩) jK]
    have h2:=Bd (b:=b) hf.2 hs
    have h3:∀ cs,qZ b d≠.bh cs:=by
      cases d with
      | bh cs=>exact absurd ⟨_,rfl⟩ hp
      | sl g s n cs=>cases g<;>simp [qZ,iq]
      | _=>simp [qZ,iq]
    have:∀ d,(∀ cs,d≠.bh cs)→fH d u (gr b a.2)→KR w X' true d u (a.1,gr b a.2):=fun d h4 h6=>by
      cases d<;>first | exact ⟨hf.1,h6⟩ | exact absurd rfl (h4 _)
    exact this _ h3 h2
end Go.Proofs.YtockoilcnmljiaaGreat
namespace Go.Proofs.YtockoilcnmljiaaGreat
theorem jC:∀ as9:List Arg,(bI as9).Perm (as9.filterMap Prod.fst++ai (db as9))
  | []=>.refl _
  | (bx,ts)::as9=>by
    have ih:=jC as9
    have h1:db ((bx,ts)::as9)=ts++db as9:=by simp [db]
    rw [h1,bj]
    simp only [bI,CY]
    refine List.perm_iff_count.2 fun a=>?_
    have:=List.perm_iff_count.1 ih a
    cases bx<;>simp only [List.filterMap_cons,Option.toList,List.count_append,List.count_cons,List.count_nil] at this ⊢<;>omega
theorem nZ (as9:List Arg):(ai (cU as9)).Perm (ai (db as9)):=by
  refine Eu ?_
  induction as9 with
  | nil=>exact .refl _
  | cons a as9 ih=>
    rw [qX]
    have:db (a::as9)=a.2++db as9:=by simp [db]
    rw [this]
    exact (List.perm_append_comm).trans (List.Perm.append_left _ ih)
theorem kJ {as9:List Arg} {k:Nat}:k∈bI as9↔k∈as9.filterMap Prod.fst∨k∈ai (cU as9):=by
  rw [(jC as9).mem_iff,List.mem_append,(nZ as9).mem_iff]
def tK (b:Bool) (a:Arg):Arg:=(a.1,gr b a.2)
theorem qt (b:Bool):∀ as9:List Arg,bI (as9.map (tK b))=bI as9
  | []=>rfl
  | a::as9=>by simp only [List.map_cons,bI,qt b as9,CY,tK,vA]
theorem KV (b:Bool):∀ as9:List Arg,db (as9.map (tK b))=gr b (db as9)
  | []=>rfl
  | a::as9=>by
    have h1:db (a::as9)=a.2++db as9:=by simp [db]
    have h2:db ((a::as9).map (tK b))=(gr b a.2)++db (as9.map (tK b)):=by simp [db,tK]
    rw [h1,h2,C2,KV b as9]
theorem xz {w:World} {X:Bool→Nat→Prop} {as9:List Arg}:bM w X (db as9)↔∀ a∈as9,bM w X a.2:=by
  rw [cr]
  simp only [db,List.mem_flatten,List.mem_map]
  constructor
  · intro h a ha
    rw [cr]
    exact fun t ht=>h t ⟨_,⟨a,ha,rfl⟩,ht⟩
  · rintro h t ⟨l,⟨a,ha,rfl⟩,ht⟩
    exact (cr _).1 (h a ha) t ht
theorem vB {w:World} {X:Bool→Nat→Prop} {as9:List Arg}:bM w X (cU as9)↔∀ a∈as9,bM w X a.2:=by
  rw [cr]
  simp only [cU,List.mem_flatten,List.mem_reverse,List.mem_map]
  constructor
  · intro h a ha
    rw [cr]
    exact fun t ht=>h t ⟨_,⟨a,ha,rfl⟩,ht⟩
  · rintro h t ⟨l,⟨a,ha,rfl⟩,ht⟩
    exact (cr _).1 (h a ha) t ht
theorem OB {w':World} {c b:Bool} {o:D} {a a':Arg} (h:oZ w' c o (tK b a) a'):oZ w' c o a a':=by
  cases c with
  | false=>exact h
  | true=>
    cases o<;>(simp only [oZ,tK,sE] at h ⊢; exact h)
theorem uM {w:World} {S:List (Nat × RT)}:∀ {b:List Bool} {ds gp:List D} {us:List Value} {as9:List Arg},tH w S b ds gp us as9→∀ bk∈as9.filterMap Prod.fst,∃ r R,lk S r=some R∧R.box=some bk∧R.cs=[]
  | _,[],_,_,_,h,bk,hb=>by obtain ⟨_,_,rfl⟩:=h; simp at hb
  | b,d::ds,gp,us,as9,h,bk,hb=>by
    obtain ⟨d1,zf,u,kp,a,cx,rfl,rfl,rfl,h1,h2⟩:=h
    obtain ⟨bx,ts⟩:=a
    cases bx with
    | none=>simp only [List.filterMap_cons] at hb; exact uM h2 bk hb
    | some Ot=>
      simp only [List.filterMap_cons,List.mem_cons] at hb
      rcases hb with rfl | hb
      · cases tG:b.headD false with
        | false=>rw [tG] at h1; simp [qW] at h1
        | true=>
          rw [tG] at h1
          cases d1 with
          | bh cs=>
            obtain ⟨r,b2,_,e2,e3,_⟩:=h1
            simp only [Option.some.injEq] at e2
            subst e2
            exact ⟨r,_,e3,rfl,rfl⟩
          | _=>simp [qW] at h1
      · exact uM h2 bk hb
theorem DY (b:List Bool) (d:D) (ds:List D):fA b (d::ds)=((b.headD false&&!((ch d).all cf))||fA b.tail ds):=rfl
theorem Vm {w:World} {S:List (Nat × RT)} {X:Bool→Nat→Prop} {d d1:D} {u:Value} {a:Arg} (h:qW w S true d d1 u a):KR w X true d1 u a:=by
  cases d1 with
  | bh cs=>obtain ⟨r,b,_,e2,e3,e4,e5,e6,e7⟩:=h; exact ⟨b,e2,e4,e5,e6,e7⟩
  | _=>exact ⟨h.1,h.2.1⟩
theorem KW {w:World} {X X1:Bool→Nat→Prop} {d:D} {u:Value} {a:Arg} (h:KR w X true d u a) (hs:bM w X1 a.2):ch d=bw a.2:=by
  by_cases hp:∃ cs,d=.bh cs
  · obtain ⟨cs,rfl⟩:=hp
    obtain ⟨b,_,_,e,_⟩:=h
    exact e
  · have hf:fH d u a.2:=by cases d<;>first | exact h.2 | exact absurd ⟨_,rfl⟩ hp
    have:ch d=dp d:=by cases d<;>first | rfl | exact absurd ⟨_,rfl⟩ hp
    rw [this,sC hs hf,pU hf]
section
variable {C:Ctx} {w:World} {st aQ:St} {aI:List (Array Value)} {S S1:List (Nat × RT)}
theorem OC {Hs:List T} (h:Rel C Hs w aQ aI S1) {X':Bool→Nat→Prop} (hX:∀ b k,ah C w S1 Hs b k→X' b k) (hF:∀ r R k,lk S1 r=some R→R.cs≠[]→k∈R.ft→X' true k):
    ∀ {b:List Bool} {ds gp tu:List D} {us:List Value} {as9:List Arg},tH w S1 b ds gp us as9→cj (cy w (ah C w S1 Hs) S1) ds us→vg aQ b gp=some tu→(∀ a∈as9,bM w (ah C w S1 Hs) a.2)→uk w X' b (kj b tu) us (as9.map (tK false))∧(fA b tu=false→kj b tu=tu∧∀ a∈as9,cm (bw a.2)=true)
  | b,[],gp,tu,us,as9,h1,h2,h3,_=>by
    obtain ⟨rfl,rfl,rfl⟩:=h1
    simp only [vg,Option.some.injEq] at h3
    subst h3
    exact ⟨⟨rfl,rfl⟩,fun _=>⟨rfl,by simp⟩⟩
  | b,d::ds,gp,tu,us,as9,h1,h2,h3,h4=>by
    obtain ⟨d1,zf,u,kp,a,cx,rfl,rfl,rfl,g1,g2⟩:=h1
    cases h2 with
    | cons KX h22=>
    simp only [vg] at h3
    split at h3
    case h_2=>simp at h3
    rename_i d2 m9
    split at h3
    case h_2=>simp at h3
    rename_i IS ah9
    simp only [Option.some.injEq] at h3
    subst h3
    obtain ⟨k1,k2⟩:=OC h hX hF g2 h22 ah9 (fun a ha=>h4 a (by simp [ha]))
    have hs:=h4 a (by simp)
    cases hb:b.headD false with
    | false=>
      rw [hb] at g1 m9
      obtain ⟨rfl,rfl⟩:=g1
      simp only [Bool.false_eq_true,if_false] at m9
      refine ⟨⟨u,kp,(none,[]),_,rfl,rfl,?_,k1⟩,fun hl=>?_⟩
      · rw [hb]
        simp only [Bool.false_eq_true,if_false]
        exact ⟨rfl,fun S'=>ac6 h hX hF KX m9 S'⟩
      · rw [DY,hb] at hl
        simp only [Bool.false_and,Bool.false_or] at hl
        obtain ⟨e1,e2⟩:=k2 hl
        refine ⟨by simp only [kj,hb,Bool.false_eq_true,if_false]; rw [e1],fun x hx=>?_⟩
        simp only [List.mem_cons] at hx
        rcases hx with rfl | hx
        · rfl
        · exact e2 x hx
    | true=>
      rw [hb] at g1 m9
      simp only [if_true,Option.some.injEq] at m9
      subst m9
      have ma:=Vm (X:=ah C w S1 Hs) g1
      refine ⟨⟨u,kp,tK false a,_,rfl,rfl,?_,k1⟩,fun hl=>?_⟩
      · rw [hb]
        simp only [if_true]
        exact aa6 ma hs
      · rw [DY,hb] at hl
        simp only [Bool.true_and,Bool.or_eq_false_iff,Bool.not_eq_false'] at hl
        obtain ⟨e1,e2⟩:=k2 hl.2
        refine ⟨by simp only [kj,hb,if_true]; rw [e1,IQ _ hl.1],fun x hx=>?_⟩
        simp only [List.mem_cons] at hx
        rcases hx with rfl | hx
        · rw [eh,← KW ma hs]; exact hl.1
        · exact e2 x hx
theorem XH {w':World} {b:Bool} {d d1 o:D} {u:Value} {a a':Arg} (g1:qW w S1 b d d1 u a) (g3:oZ w' b o a a'):(a'.1=a.1)∧∀ bk,a.1=some bk→lF w' bk 0 0 []:=by
  cases b with
  | false=>
    obtain ⟨rfl,_⟩:=g1
    simp only [oZ] at g3
    rw [g3]
    exact ⟨rfl,by simp⟩
  | true=>
    have eW:∀ {bk n us},lF w' bk 0 n us→lF w' bk 0 0 []:=fun ⟨c,e,fz,q1,q2,q3,q4⟩=>⟨c,e,fz,q1,q2,by omega,by simp⟩
    cases o with
    | bh cs=>
      obtain ⟨e1,⟨bk,e2,e3⟩,_⟩:=g3
      refine ⟨e1,fun Ot e=>?_⟩
      rw [e2,Option.some.injEq] at e
      subst e
      exact eW e3
    | _=>exact ⟨g3.2.1.trans g3.1.symm,fun bk e=>by rw [g3.1] at e; simp at e⟩
theorem OD {w':World}:∀ {b:List Bool} {ds gp:List D} {us:List Value} {as9 cx:List Arg} {os:List D},tH w S1 b ds gp us as9→mK w' b os (as9.map (tK false)) cx→
    cx.filterMap Prod.fst=as9.filterMap Prod.fst∧∀ bk∈as9.filterMap Prod.fst,lF w' bk 0 0 []
  | b,[],gp,us,as9,cx,os,h1,h3=>by
    obtain ⟨rfl,rfl,rfl⟩:=h1
    simp only [List.map_nil,mK] at h3
    obtain ⟨rfl,rfl⟩:=h3
    exact ⟨rfl,by simp⟩
  | b,d::ds,gp,us,as9,cx,os,h1,h3=>by
    obtain ⟨d1,zf,u,kp,a,A9,rfl,rfl,rfl,g1,g2⟩:=h1
    simp only [List.map_cons,mK] at h3
    obtain ⟨o,xT,a',Ov,rfl,rfl,g3,g4⟩:=h3
    obtain ⟨k2,k3⟩:=OD g2 g4
    have adf:=XH g1 (OB g3)
    refine ⟨by simp only [List.filterMap_cons,adf.1,k2],fun bk vC=>?_⟩
    simp only [List.filterMap_cons] at vC
    cases ha:a.1 with
    | none=>rw [ha] at vC; exact k3 bk vC
    | some b2=>
      rw [ha] at vC
      simp only [List.mem_cons] at vC
      rcases vC with rfl | vC
      · exact adf.2 _ ha
      · exact k3 bk vC
theorem KY {w':World} {X:Bool→Nat→Prop} {t:Bool} {Xo:Bool→Nat→Prop}:∀ {b:List Bool} {ds gp:List D} {us:List Value} {as9 cx:List Arg} {os:List D},tH w S1 b ds gp us as9→cj (cy w' X S1) ds us→mK w' b os (as9.map (tK false)) cx→(∀ a∈cx,bM w' Xo a.2)→
    xU w' X S1 id b ds us (os.map (gN t)) as9 (cx.map (tK t))
  | b,[],gp,us,as9,cx,os,h1,h2,h3,_=>by
    obtain ⟨rfl,rfl,rfl⟩:=h1
    simp only [List.map_nil,mK] at h3
    obtain ⟨rfl,rfl⟩:=h3
    exact ⟨rfl,rfl,rfl,rfl⟩
  | b,d::ds,gp,us,as9,cx,os,h1,h2,h3,h4=>by
    obtain ⟨d1,zf,u,kp,a,A9,rfl,rfl,rfl,g1,g2⟩:=h1
    cases h2 with
    | cons KX h22=>
    simp only [List.map_cons,mK] at h3
    obtain ⟨o,xT,a',Ov,rfl,rfl,g3,g4⟩:=h3
    have g3:=OB g3
    have k1:=KY (t:=t) g2 h22 g4 (fun a ha=>h4 a (by simp [ha]))
    have hs:=h4 a' (by simp)
    refine ⟨u,kp,gN t o,_,a,A9,tK t a',_,rfl,rfl,rfl,rfl,?_,k1⟩
    · cases hb:b.headD false with
      | false=>
        rw [hb] at g3
        simp only [oZ] at g3
        simp only [Bool.false_eq_true,if_false]
        rw [g3]; rfl
      | true=>
        rw [hb] at g1 g3
        simp only [if_true]
        have cS:cj (fun x v=>bB w' X S1 (id x) v) (cellsOf d) (gP d u):=by
          by_cases eA:∃ cs,d=.agg cs
          · obtain ⟨cs,rfl⟩:=eA
            obtain ⟨vs,rfl,hv⟩:=KX
            exact hv
          · have hnf:(∀ f cs,d≠.fn f cs)∧∀ ds,d≠.aP ds:=by
              cases d1 with
              | bh cs=>obtain ⟨r,_,e,_⟩:=g1; subst e; simp
              | _=>exact g1.2.2.2.2.2
            have h1:cellsOf d=[d]:=by cases d<;>first | rfl | exact absurd ⟨_,rfl⟩ eA
            have h2:gP d u=[u]:=by cases d<;>first | rfl | exact absurd ⟨_,rfl⟩ eA
            rw [h1,h2]
            refine .cons ?_ .nil
            rcases wI KX with ⟨ds,_,e,_⟩ | ⟨_,KX⟩
            · exact absurd e (hnf.2 ds)
            · rcases tC KX with ⟨cs,_,e,_⟩ | ⟨f,cs,_,e,_⟩ | ⟨_,_,KX⟩
              · exact absurd ⟨cs,e⟩ eA
              · exact absurd e (hnf.1 f cs)
              · exact KX
        refine ⟨cS,XG g3 hs,fun e=>?_,fun bx e=>?_⟩
        · cases d1 with
          | bh cs=>obtain ⟨r,b2,_,e2,_⟩:=g1; rw [e] at e2; simp at e2
          | _=>exact ⟨g1.2.2.1,g1.2.2.2.1⟩
        · cases d1 with
          | bh cs=>
            obtain ⟨r,b2,e1,e2,e3,_⟩:=g1
            rw [e,Option.some.injEq] at e2
            subst e2
            exact ⟨r,_,e1,e3,rfl⟩
          | _=>rw [g1.1] at e; simp at e
end
end Go.Proofs.YtockoilcnmljiaaGreat
