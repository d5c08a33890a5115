/- What these proofs stand on, part 2: an abstract machine on plain data, its soundness, and the contracts of functions. -/
import Derived.Lib.AppendZerosOnto
import Derived.Laws.BytesString
import Derived.Laws.Small
import Derived.Laws.Runes
import Derived.Test.YtockoilcnmljiaaGreatMa
set_option linter.all false
set_option linter.unusedSimpArgs false
set_option linter.unusedVariables false
set_option linter.unnecessarySimpa false
set_option linter.unusedSectionVars false
namespace Go.Proofs.YtockoilcnmljiaaGreat
def gT (d:D) (u:Value):List Value:=
  match d with
  | .agg _=>u.cells.toList
  | _=>[u]
section
variable {C:Ctx} {Hx:List T} {w:World} {aJ:List (Array Value)}
theorem UX {w':World} {S S':List (Nat × RT)} {H H':List T} (h:im C w w' S S' H H' id) {d:D} {u:Value} (hd:cz w (af C w S H) S d u):cz w' (af C w' S' H') S' d u:=qz h hd
theorem ri {H:List T} {st st':St} {S:List (Nat × RT)} {d:D} {u:Value} {ds':List D} (h:Rel C H w st aJ S) (hd:cz w (af C w S H) S d u) (ht:rY st (cellsOf d)=some (ds',st')):
    ∃ ts S',Rel C (ts++H) w st' aJ S'∧bu ts=ds'∧aG ts=gT d u∧im C w w S S' H (ts++H) id∧qB S S'∧mh st st':=by
  by_cases ha:∃ cs,d=.agg cs
  · obtain ⟨cs,rfl⟩:=ha
    obtain ⟨us,rfl,hu⟩:=hd
    exact G5 h hu ht
  · have hc:cellsOf d=[d]:=by cases d<;>first | rfl | exact absurd ⟨_,rfl⟩ ha
    have hv:gT d u=[u]:=by cases d<;>first | rfl | exact absurd ⟨_,rfl⟩ ha
    rw [hc] at ht
    rw [hv]
    have tK:bz w (af C w S H) S d u:=by
      cases d<;>first | exact hd | (simp [rY,jn] at ht; done) | exact absurd ⟨_,rfl⟩ ha
    exact G5 h (.cons tK .nil) ht
theorem G8:∀ {ps:List (Nat × D)} {us:List (Nat × Value)} {H:List T} {st st':St} {S:List (Nat × RT)} {ZL:List (Nat × List D)},Rel C H w st aJ S→cm (fun p q=>q.1=p.1∧cz w (af C w S H) S p.2 q.2) ps us→sr st ps=some (ZL,st')→
    ∃ (qC:List (Nat × List T)) (S':List (Nat × RT)),Rel C (qC.flatMap (·.2)++H) w st' aJ S'∧qC.map (fun p=>(p.1,p.2.map T.er))=ZL∧cm (fun (p:Nat × D) (q:(Nat × List T) × (Nat × Value))=>q.2.1=q.1.1∧q.1.2.map T.val=gT p.2 q.2.2) ps (qC.zip us)∧qC.length=us.length∧im C w w S S' H (qC.flatMap (·.2)++H) id∧qB S S'∧mh st st':=by
  intro ps
  induction ps with
  | nil=>
    intro us H st st' S ZL h hu ht
    cases hu
    simp only [sr,Option.some.injEq,Prod.mk.injEq] at ht
    obtain ⟨rfl,rfl⟩:=ht
    exact ⟨[],S,h,rfl,.nil,rfl,fun _ _ h=>h,qB.refl _,mh.refl _⟩
  | cons p ps ih=>
    intro us H st st' S ZL h hu ht
    cases hu with
    | cons tN EM=>
    rename_i q qs
    obtain ⟨i,d⟩:=p
    obtain ⟨j,u⟩:=q
    obtain ⟨rfl,tN⟩:=tN
    simp only [sr] at ht
    split at ht
    case h_2=>simp at ht
    rename_i d1 aQ h1
    split at ht
    case h_2=>simp at ht
    rename_i gv ct h2
    simp only [Option.some.injEq,Prod.mk.injEq] at ht
    obtain ⟨rfl,rfl⟩:=ht
    obtain ⟨ts,S1,a1,rfl,a3,a4,a5,a6⟩:=ri h tN h1
    obtain ⟨qC,S2,b1,rfl,b3,b4,b5,b6,b7⟩:=ih a1 (EM.mono (fun _ _ hh=>⟨hh.1,UX a4 hh.2⟩)) h2
    have hp:(qC.flatMap (·.2)++(ts++H)).Perm (((j,ts)::qC).flatMap (·.2)++H):=by
      simp only [List.flatMap_cons]
      rw [← List.append_assoc]
      exact List.Perm.append_right _ List.perm_append_comm
    refine ⟨(j,ts)::qC,S2,b1.perm hp,by simp [eL],.cons ⟨rfl,by rw [← cW]; exact a3⟩ b3,by simp [b4],fun d u hd=>?_,a5.trans b6,mh.trans a6 b7⟩
    have:=b5 _ _ (a4 d u hd)
    rwa [Bz hp] at this
end
theorem To {w:World} {X:Bool→Nat→Prop}:∀ {qC:List (Nat × List T)} {ps:List (Nat × D)} {us:List (Nat × Value)},cm (fun (p:Nat × D) (q:(Nat × List T) × (Nat × Value))=>q.2.1=q.1.1∧q.1.2.map T.val=gT p.2 q.2.2) ps (qC.zip us)→qC.length=us.length→
    (∀ p∈qC,∀ t∈p.2,bM w X t∧dg t.er=true)→cm (fun p q=>q.1=p.1∧q.2.cells.toList=p.2.map T.val) qC us:=by
  intro qC
  induction qC with
  | nil=>
    intro ps us h hl _
    cases us with
    | nil=>exact .nil
    | cons u us=>simp at hl
  | cons p qC ih=>
    intro ps us h hl hs
    cases us with
    | nil=>simp at hl
    | cons u us=>
      simp only [List.zip_cons_cons] at h
      cases h with
      | cons h1 h2=>
      rename_i d ds
      obtain ⟨e1,e2⟩:=h1
      refine .cons ⟨e1,?_⟩ (ih h2 (by simpa using hl) (fun q hq=>hs q (by simp [hq])))
      simp only at e2
      rw [e2]
      obtain ⟨j,d⟩:=d
      by_cases ha:∃ cs,d=.agg cs
      · obtain ⟨cs,rfl⟩:=ha
        rfl
      · have hv:gT d u.2=[u.2]:=by cases d<;>first | rfl | exact absurd ⟨_,rfl⟩ ha
        simp only at hv ⊢
        simp only [hv] at e2 ⊢
        cases hp:p.2 with
        | nil=>rw [hp] at e2; simp at e2
        | cons t ts=>
          rw [hp] at e2
          simp only [List.map_cons,List.cons.injEq,List.map_eq_nil_iff] at e2
          obtain ⟨e3,rfl⟩:=e2
          obtain ⟨g1,g2⟩:=hs p (by simp) t (by simp [hp])
          have:=(mO g1 g2).2
          rw [e3] at this
          rw [this]
section
variable {P:Program} {c:cD} (ax:ey c P) {C:Ctx} {Hx:List T} {w:World} {st st':St} {a:Act} {aJ:List (Array Value)} {S:List (Nat × RT)} (h:Rel C Hx w st (a.tmps::aJ) S)
include ax h
theorem Mf {t e:TypeId} {ti ei:TI} (kP:c.ty t=some ti) (ZK:ti.ty=.slice e) (he:c.ty e=some ei) {n:Nat} {ps:Array (Nat × Operand)} (hn:n*ei.size≤16777216) {pvs:List (Nat × List D)} {aQ:St}
    (hp:sr st (ps.toList.map fun p=>(p.1,cx c st e p.2))=some (pvs,aQ)) {cs:List D} (hf:nM dg (fun i=>some (i*ei.size,ei.size)) (fC n ei.zero) pvs=some cs)
    {d:Nat} (ht:d < a.tmps.size) (hP:∀ p∈C.P0,p.1≠st.of+d) (hr:aQ.root (some d) [.sl none ei.size n cs] (fun d=>.ref d [] 0 none)=some st'):
    ∃ v w',(Instr.buildSlice t n (ps.map fun (i,x)=>(i,a.eval x))).run P w=.ok v w'∧dP w w'∧∃ S',Rel C Hx w' st' (a.tmps.setIfInBounds d v::aJ) S':=by
  have fZ:mF w (af C w S Hx) S st.tm a.tmps:=by cases h.pE with | cons a _=>exact a
  obtain ⟨inf,h1,h2,h3,z,h4,h5⟩:=(ax.ty _ _ he).info
  have EO:=(ax.ty _ _ he).len
  obtain ⟨dd,g1,g2⟩:=(ax.ty _ _ kP).desc
  rw [ZK] at g2
  simp only [kM] at g2
  subst g2
  have eb:cm (fun p q=>q.1=p.1∧cz w (af C w S Hx) S p.2 q.2) (ps.toList.map fun p=>(p.1,cx c st e p.2)) (ps.toList.map fun p=>(p.1,a.eval p.2)):=by
    refine dv (by simp) (fun i x y hx hy=>?_)
    simp only [List.getElem?_map] at hx hy
    cases hq:ps.toList[i]? with
    | none=>simp [hq] at hx
    | some q=>
      simp only [hq,Option.map_some,Option.some.injEq] at hx hy
      subst hx; subst hy
      exact ⟨rfl,xB (c:=c) fZ e q.2⟩
  obtain ⟨qC,S1,b1,rfl,b3,b4,b5,b6,b7⟩:=G8 h eb hp
  have XN:=Li hf
  obtain ⟨zt,f1,f2,f3,f4⟩:=xF h5 n
  rw [← f1,eL] at hf
  obtain ⟨cs',k1,k2⟩:=R5 T.er hf
  have ec:=((dU _ _).1 b1.mem.hand).1
  rw [cu] at ec
  have gS:=To (X:=af C w S1 (qC.flatMap (·.2)++Hx)) b3 b4 (fun p hp t ht=>⟨ec t (List.mem_flatMap.2 ⟨p,hp,ht⟩),XN (p.1,p.2.map T.er) (List.mem_map.2 ⟨p,hp,rfl⟩) t.er (List.mem_map.2 ⟨t,ht,rfl⟩)⟩)
  have lM:z.cells.size=ei.size:=by rw [← EO,h5.len]; simp
  have aii:((Array.range (n*inf.size)).map (z.cells[· % z.cells.size]!)).toList=zt.map T.val:=by
    rw [← cW,f2,h2,← lM,← BA]
    simp
  obtain ⟨arr,m1,m2⟩:=G6 T.val (arr:=(Array.range (n*inf.size)).map (z.cells[· % z.cells.size]!)) gS k1 aii
  have ek:(Instr.buildSlice t n (ps.map fun (i,x)=>(i,a.eval x))).run P w=.ok (.slice (some ⟨w.heap.size,0,none⟩) n n) (w.alloc (.cells arr e)):=by
    have hl:(ps.map fun (i,x)=>(i,a.eval x)).toList=ps.toList.map fun p=>(p.1,a.eval p.2):=by simp
    by_cases h0:n*inf.size=0
    · have pD:=m1
      rw [h0] at pD
      rw [← hl,← h2] at pD
      simp only [Array.range_zero',Array.map_empty] at pD
      simp [Instr.buildSlice,run_underlying g1,sizeOf,typeInfo,h1,h0,newRow,Array.range_zero']
      simp at pD
      rw [pD]
      simp
    · rw [← hl,← h2] at m1
      exact run_buildSlice w t e n _ arr inf z g1 h1 h4 (by rw [h2]; omega) h0 m1
  refine ⟨_,_,ek,(Grown.alloc w _).cg,?_⟩
  have rZ:aQ.of=st.of:=b7.2.2
  obtain ⟨q1,q2⟩:=Lj k1
  have hlen:cs'.length=n*ei.size:=by
    rw [q2]
    have:=congrArg List.length f2
    rw [bX] at this
    rw [this,List.length_flatten,List.map_replicate,List.sum_replicate_nat,Array.length_toList,lM]
  have Tp:=Tn k1 (by
    rw [f3,List.nil_append]
    have h9:=(List.nodup_append.1 b1.mem.nd).2.1
    rw [bt] at h9
    exact (List.nodup_append.1 h9).1)
  rw [f3] at Tp
  rw [← k2,← eL] at hr
  refine DH (Hs:=qC.flatMap (·.2)) (H:=Hx) b1 (Grown.alloc w _) (ts:=cs') ⟨Nat.le_refl _,by rw [jC]; omega⟩ ?_ (fun k hk=>by simpa using Tp.2 k hk) Tp.1 (Nat.le_refl _) hlen ?_ ht (by rw [rZ]; exact hP) hr
  · rw [cu]
    intro x hx
    rcases q1 x hx with h6 | ⟨p,h6,h7⟩
    · exact (cu _).1 (f4 _ _) x h6
    · exact ec x (List.mem_flatMap.2 ⟨p,h6,h7⟩)
  · have cE:arr.size=cs'.length:=by have:=congrArg List.length m2; simpa using this
    refine kQ w _ _ (by rw [cE,hlen]; exact Nat.le_refl _) (fun j u hj=>?_)
    rw [← Array.getElem?_toList,m2,← cW]
    exact hj
theorem adD {e:TypeId} {x:Operand} {i:TI} (hlen:(cellsOf (cx c st e x)).length=i.size) (cQ:(cellsOf (cx c st e x)).all (fO st)=true) {t:Nat} (ht:t < a.tmps.size) (hP:∀ p∈C.P0,p.1≠st.of+t)
    (hr:st.root (some t) (cellsOf (pC (cH (st.of+t)) (cx c st e x))) (fun d=>.ptr d [] 0)=some st'):
    ∃ v w',(Instr.box e (a.eval x)).run P w=.ok v w'∧dP w w'∧∃ S',Rel C Hx w' st' (a.tmps.setIfInBounds t v::aJ) S':=by
  have _:=ax
  have fZ:mF w (af C w S Hx) S st.tm a.tmps:=by cases h.pE with | cons a _=>exact a
  have hd:=xB (c:=c) fZ e x
  have eb:=FJ h.rt h.mem hd (List.all_eq_true.1 cQ)
  have ek:(Instr.box e (a.eval x)).run P w=.ok (.pointer (some ⟨w.heap.size,0,none⟩)) (w.alloc (.cells (a.eval x).cells e)):=by
    simp [Instr.box,newVar,newRow]
  refine ⟨_,_,ek,(Grown.alloc w _).cg,?_⟩
  have eM:cellsOf (pC (cH (st.of+t)) (cx c st e x))=(cellsOf (cx c st e x)).map (cH (st.of+t)):=by
    by_cases ha:∃ cs,cx c st e x=.agg cs
    · obtain ⟨cs,ha⟩:=ha
      rw [ha]; rfl
    · have hc:cellsOf (cx c st e x)=[cx c st e x]:=by cases hx:cx c st e x<;>first | rfl | exact absurd ⟨_,hx⟩ ha
      have ho:=List.all_eq_true.1 cQ (cx c st e x) (by rw [hc]; simp)
      rw [hc]
      cases hx:cx c st e x with
      | agg cs=>exact absurd ⟨_,hx⟩ ha
      | bf cs=>rw [hx] at ho; simp [fO,dg] at ho
      | fn f cs=>rw [hx] at ho; simp [fO,dg] at ho
      | bp cs=>rw [hx] at ho; simp [fO,dg] at ho
      | ref r q o y=>simp only [pC,fr,List.map_cons,List.map_nil,cH]; split<;>rfl
      | ptr r q o=>simp only [pC,fr,List.map_cons,List.map_nil,cH]; split<;>rfl
      | _=>rfl
  obtain ⟨l,e1,e2,e3⟩:=zL eb
  let ts:List T:=l.map fun p=>.v (cH (st.of+t) p.1) p.2
  have ko:∀ p∈l,bU (cH (st.of+t) p.1)=cH (st.of+t) p.1:=by
    intro p hp
    have h2:=e3 p hp
    obtain ⟨d,u⟩:=p
    simp only at h2 ⊢
    cases d with
    | sl g s n cs=>
      cases g with
      | none=>simp [bz,Ext] at h2
      | some g=>rfl
    | ref r q o y=>simp only [cH]; split<;>rfl
    | ptr r q o=>simp only [cH]; split<;>rfl
    | _=>rfl
  have aij:bu ts=(cellsOf (cx c st e x)).map (cH (st.of+t)):=by
    rw [← e1,eL]
    simp only [ts,List.map_map]
    refine List.map_congr_left (fun p hp=>?_)
    simp only [Function.comp_apply,T.er]
    exact ko p hp
  have gS:aG ts=(a.eval x).cells.toList:=by
    rw [← e2,cW]
    simp only [ts,List.map_map]
    rfl
  have eV:aj ts=[]:=by
    rw [om]
    simp only [ts,List.map_map]
    rw [List.flatten_eq_nil_iff]
    intro y hy
    simp only [List.mem_map,Function.comp_apply] at hy
    obtain ⟨p,_,rfl⟩:=hy
    rfl
  rw [eM,← aij] at hr
  refine Jm (Hs:=[]) h (Grown.alloc w _) (ts:=ts) ⟨Nat.le_refl _,by rw [jC]; omega⟩ (fun y hy=>.inr ?_) (by rw [eV]; simp) (by rw [eV]; simp) ?_ ht hP hr
  · simp only [ts,List.mem_map] at hy
    obtain ⟨p,hp,rfl⟩:=hy
    exact ⟨p.1,p.2,rfl,e3 p hp⟩
  · refine kQ w _ _ ?_ (fun j u hj=>?_)
    · have:=congrArg List.length gS
      rw [bX] at this
      rw [this]; simp
    · rw [gS] at hj
      simpa using hj
theorem UY {e:TypeId} {x:Operand} {i:TI} (hlen:(cellsOf (cx c st e x)).length=i.size) {ds:List D} {aQ:St} (dI:rY st (cellsOf (cx c st e x))=some (ds,aQ)) (cQ:ds.all dg=true) {t:Nat} (ht:t < a.tmps.size) (hP:∀ p∈C.P0,p.1≠st.of+t)
    (hr:aQ.root (some t) ds (fun d=>.ptr d [] 0)=some st'):
    ∃ v w',(Instr.box e (a.eval x)).run P w=.ok v w'∧dP w w'∧∃ S',Rel C Hx w' st' (a.tmps.setIfInBounds t v::aJ) S':=by
  have _:=ax
  have fZ:mF w (af C w S Hx) S st.tm a.tmps:=by cases h.pE with | cons a _=>exact a
  have hd:=xB (c:=c) fZ e x
  obtain ⟨ts,S1,b1,rfl,b3,b4,b5,b6⟩:=ri h hd dI
  have ek:(Instr.box e (a.eval x)).run P w=.ok (.pointer (some ⟨w.heap.size,0,none⟩)) (w.alloc (.cells (a.eval x).cells e)):=by
    simp [Instr.box,newVar,newRow]
  refine ⟨_,_,ek,(Grown.alloc w _).cg,?_⟩
  have ec:=((dU _ _).1 b1.mem.hand).1
  rw [cu] at ec
  have gS:aG ts=(a.eval x).cells.toList:=by
    by_cases ha:∃ cs,cx c st e x=.agg cs
    · obtain ⟨cs,ha⟩:=ha
      rw [b3,ha]; rfl
    · have hv:gT (cx c st e x) (a.eval x)=[a.eval x]:=by cases hx:cx c st e x<;>first | rfl | exact absurd ⟨_,hx⟩ ha
      rw [hv] at b3
      rw [b3]
      cases ts with
      | nil=>simp [aG] at b3
      | cons y ys=>
        simp only [aG,List.cons.injEq] at b3
        have:=mO (ec y (by simp)) (List.all_eq_true.1 cQ y.er (by simp [bu]))
        rw [b3.1] at this
        rw [this.2]
  refine Jm (Hs:=ts) b1 (Grown.alloc w _) (ts:=ts) ⟨Nat.le_refl _,by rw [jC]; omega⟩ (fun y hy=>.inl (ec y hy)) (fun _ h=>h) (by
    have h9:=(List.nodup_append.1 b1.mem.nd).2.1
    rw [bt] at h9
    exact (List.nodup_append.1 h9).1) ?_ ht (by rw [b6.2.2]; exact hP) hr
  refine kQ w _ _ ?_ (fun j u hj=>?_)
  · have:=congrArg List.length gS
    rw [bX] at this
    rw [this]; simp
  · rw [gS] at hj
    simpa using hj
end
end Go.Proofs.YtockoilcnmljiaaGreat
namespace Go.Proofs.YtockoilcnmljiaaGreat
theorem Tq {q:List Nat}:∀ {p:Nat} {cs l:List T} {bx:Option Nat} {b off:Nat},cj bx cs (p::q)=some (b,off)→aA cs (p::q)=some l→(aj cs).Nodup→b∉aj l:=by
  induction q with
  | nil=>
    intro p cs l bx b off ha hc hn
    rw [cj] at ha
    rw [aA] at hc
    cases hp:cs[p]? with
    | none=>simp [hp] at hc
    | some x=>
      cases x with
      | v d u=>simp [hp] at hc
      | own s n cap a xs=>
        simp only [hp,aA,Option.some.injEq] at hc ha
        subst hc; subst ha
        obtain ⟨A,B,e,_⟩:=dW cs p _ hp
        rw [e] at hn
        have:=(List.nodup_append.1 (List.nodup_append.1 hn).1).2.1
        simp only [T.ft,jo,List.cons_append,List.nil_append,List.nodup_cons] at this
        exact this.1
  | cons p' q ih=>
    intro p cs l bx b off ha hc hn
    rw [cj] at ha
    rw [aA] at hc
    cases hp:cs[p]? with
    | none=>simp [hp] at hc
    | some x=>
      cases x with
      | v d u=>simp [hp] at hc
      | own s n cap a xs=>
        simp only [hp] at hc ha
        refine ih ha hc ?_
        obtain ⟨A,B,e,_⟩:=dW cs p _ hp
        rw [e] at hn
        have:=(List.nodup_append.1 (List.nodup_append.1 hn).1).2.1
        simp only [T.ft] at this
        exact (List.nodup_append.1 this).2.1
theorem abL {q:List Nat} {o:Nat} {t':T} {d:D} {u:Value}:∀ {cs cs':List T} {q':List Nat} {o':Nat} {l:List T},dO (fun l=>l.set o t') cs q=some cs'→under (q++[o]) (q'++[o'])=none→aA cs q'=some l→l[o']?=some (.v d u)→
    ∃ l',aA cs' q'=some l'∧l'[o']?=some (.v d u):=by
  induction q with
  | nil=>
    intro cs cs' q' o' l hm hu hc ho
    simp only [dO,Option.some.injEq] at hm
    subst hm
    cases q' with
    | nil=>
      simp only [aA,Option.some.injEq] at hc
      subst hc
      simp only [List.nil_append,under] at hu
      split at hu
      · simp at hu
      · rename_i db
        exact ⟨_,rfl,by rw [List.getElem?_set_ne db]; exact ho⟩
    | cons p q'=>
      simp only [List.nil_append,List.cons_append,under] at hu
      split at hu
      · simp at hu
      · rename_i db
        exact ⟨l,by rw [aA,List.getElem?_set_ne db]; rw [aA] at hc; exact hc,ho⟩
  | cons p q ih=>
    intro cs cs' q' o' l hm hu hc ho
    rw [dO] at hm
    cases hp:cs[p]? with
    | none=>simp [hp] at hm
    | some x=>
      cases x with
      | v d u=>simp [hp] at hm
      | own s n cap a xs=>
        simp only [hp] at hm
        cases hx:dO (fun l=>l.set o t') xs q with
        | none=>simp [hx] at hm
        | some kI=>
          simp only [hx,Option.some.injEq] at hm
          subst hm
          obtain ⟨dp,_⟩:=List.getElem?_eq_some_iff.1 hp
          cases q' with
          | nil=>
            simp only [aA,Option.some.injEq] at hc
            subst hc
            have db:p≠o':=fun e=>by subst e; rw [hp] at ho; simp at ho
            exact ⟨_,rfl,by rw [List.getElem?_set_ne db]; exact ho⟩
          | cons p' q'=>
            by_cases G0:p=p'
            · subst G0
              simp only [List.cons_append,under,if_true] at hu
              rw [aA,hp] at hc
              obtain ⟨l',h1,h2⟩:=ih hx hu hc ho
              exact ⟨l',by rw [aA,List.getElem?_set_self dp]; exact h1,h2⟩
            · exact ⟨l,by rw [aA,List.getElem?_set_ne G0]; rw [aA] at hc; exact hc,ho⟩
theorem kO.OO {S S':List (Nat × RT)} {r:Nat} {q:List Nat} {o:Nat} {t t':T} (hc:kO S S' r q o t t') {r':Nat} {q':List Nat} {o':Nat} (hf:r'≠r∨under (q++[o]) (q'++[o'])=none) {d:D} {u:Value} (h:cB S r' q' o'=some (.v d u)):cB S' r' q' o'=some (.v d u):=by
  by_cases he:r'=r
  · subst he
    have hf:under (q++[o]) (q'++[o'])=none:=by rcases hf with hf | hf<;>first | exact absurd rfl hf | exact hf
    obtain ⟨R,cs',l,h1,h2,h3,h4,rfl⟩:=hc.ex
    unfold cB at h ⊢
    rw [cI]
    rw [h1] at h
    simp only at h ⊢
    cases hx:aA R.cs q' with
    | none=>simp [hx] at h
    | some l'=>
      simp only [hx] at h
      obtain ⟨l1,h5,h6⟩:=abL h4 hf hx h
      rw [h5]
      exact h6
  · unfold cB at h ⊢
    rw [hc.N4 he]
    exact h
theorem DI {g:D→D} {S:List (Nat × RT)} {r:Nat} {q:List Nat} {o:Nat} {t:T} (h:cB S r q o=some t):cB (fS g S) r q o=some (if q=[] then fT g t else t):=by
  unfold cB at h ⊢
  rw [lP]
  cases hr:lk S r with
  | none=>simp [hr] at h
  | some R=>
    simp only [hr,Option.map_some] at h ⊢
    cases q with
    | nil=>
      simp only [aA,if_true] at h ⊢
      rw [List.getElem?_map,h]; rfl
    | cons p q=>
      rw [FD]
      simpa using h
section
variable {C:Ctx} {H Hs:List T} {w w':World} {st aQ ct:St} {aJ:List (Array Value)} {S S1 S':List (Nat × RT)}
theorem R6 (h:Rel C H w st aJ S) {g:D→D} (hg:lI g) (ea:∀ d u,bz w (af C w S H) S d u→bz w (af C w S H) (fS g S) (g d) u) (Bu:∀ d u,Ext w (af C w S H) d u→Ext w (af C w S H) (fr g d) u) (pb:∀ d u,bz w (af C w S H) S d u→fr g d=g d):
    Rel C H w (st.fc g) aJ (fS g S)∧im C w w S (fS g S) H H g:=by
  have ES:af C w (fS g S) H=af C w S H:=by
    funext b k
    simp only [af,uX]
  refine ⟨?_,fun d u hd=>by rw [ES]; exact ea d u hd⟩
  refine h.step (f:=g) ?_ rfl rfl (fun d u hd=>by rw [ES]; exact ea d u hd) ⟨by rw [uX]; exact h.mem.nd,?_,by rw [ES]; exact h.mem.hand,by rw [uX]; exact h.mem.lt⟩
    ⟨h.kept.os,h.kept.tape,h.kept.output,h.kept.size,h.kept.block,by rw [uX]; exact h.kept.iJ,?_⟩
  · exact qd hg h.rt
  · intro r R' eo
    rw [lP] at eo
    cases hx:lk S r with
    | none=>simp [hx] at eo
    | some R=>
      simp only [hx,Option.map_some,Option.some.injEq] at eo
      subst eo
      obtain ⟨k1,k2⟩:=h.mem.root r R hx
      have hv:aG (R.cs.map (fT g))=aG R.cs:=by
        rw [cW,cW,List.map_map]
        congr 1
        funext t
        cases t<;>rfl
      refine ⟨?_,fun t ht=>?_⟩
      · simp only [List.length_map]
        rw [hv]; exact k1
      · simp only [List.mem_map] at ht
        obtain ⟨t0,kP,rfl⟩:=ht
        have:=k2 t0 kP
        rw [ES]
        cases t0 with
        | own s n cap a xs=>exact this
        | v d u=>
          simp only [fT,jq] at this ⊢
          rw [hg.leaf]
          rcases this with this | ⟨hb,this⟩
          · exact .inl (Bu _ _ this)
          · exact .inr ⟨hb,by rw [pb _ _ this]; exact ea _ _ this⟩
  · intro r b vs hm R' eo
    rw [lP] at eo
    cases hx:lk S r with
    | none=>simp [hx] at eo
    | some R=>
      simp only [hx,Option.map_some,Option.some.injEq] at eo
      subst eo
      have hv:aG (R.cs.map (fT g))=aG R.cs:=by
        rw [cW,cW,List.map_map]
        congr 1
        funext t
        cases t<;>rfl
      have:=h.kept.par r b vs hm R hx
      simp only
      rw [hv]; exact this
end
end Go.Proofs.YtockoilcnmljiaaGreat
namespace Go.Proofs.YtockoilcnmljiaaGreat
section
variable {C:Ctx} {H Hs:List T} {w w':World} {st aQ ct:St} {aJ:List (Array Value)} {S S1 S':List (Nat × RT)}
theorem DJ {k:Nat} {ts:List T} {t:T} (ht:t∈ts) (hk:k∈t.ft):k∈aj ts:=by
  obtain ⟨i,hi⟩:=List.mem_iff_getElem?.1 ht
  obtain ⟨A,B,e,_⟩:=dW ts i _ hi
  rw [e]; simp [hk]
theorem Lm {q:List Nat} {k:Nat} {cs l:List T} (hc:aA cs q=some l) (hk:k∈aj l):k∈aj cs:=by
  obtain ⟨A,B,e,_⟩:=GN hc
  rw [e]; simp [hk]
theorem ET {r k:Nat} {R:RT} (h:lk S r=some R) (hk:k∈R.ft):k∈cM S:=by
  obtain ⟨A,B,e,_⟩:=me h
  rw [e]; simp [hk]
theorem Tr (hn:(cM S).Nodup) {r:Nat} {R:RT} (h:lk S r=some R):R.ft.Nodup:=by
  obtain ⟨A,B,e,_⟩:=me h
  rw [e] at hn
  exact (List.nodup_append.1 (List.nodup_append.1 hn).1).2.1
structure Wr (C:Ctx) (w w':World) (S S':List (Nat × RT)) (H H':List T) (t1:T):Prop where
  stays:jB w w' (af C w S H) (af C w' S' H')
  sub:∀ k∈cM S'++aj H',k∈cM S++aj H
  nd:(cM S'++aj H').Nodup
  cg:∀ k∈t1.ft,af C w' S' H' false k∧w'.heap[k]?=w.heap[k]?
  new:∀ k∈aj H,w'.heap[k]?=w.heap[k]?
  kept:Kept C w' S' H'
theorem Q7 (h:Rel C (Hs++H) w st aJ S) {g:D→D} (hS:SR g S S1) {r:Nat} {q:List Nat} {o:Nat} {t0 t1 t':T} (hc:kO S1 S' r q o t1 t') (hgt:t1.ft=t0.ft) {R:RT} {l:List T} (hR:lk S r=some R) (hl:aA R.cs q=some l) (ho:l[o]?=some t0) {b off:Nat} (ha:cj R.box R.cs q=some (b,off))
    (ZM:aj Hs=t'.ft) {u:Value} (hu:RR w w' b (off+o) u) (cE:w'.heap.size=w.heap.size) (nN:w'.os=w.os) (uY:w'.tape=w.tape) (vO:w'.output=w.output):Wr C w w' S S' (Hs++H) H t1:=by
  obtain ⟨A,B,e1,e2⟩:=hc.fts
  rw [hS.iJ] at e1
  have eU:=h.mem.nd
  have dp:=h.mem.lt
  have ZN:b∈R.ft:=by
    cases q with
    | nil=>simp only [cj] at ha; cases hb:R.box with
      | none=>simp [hb] at ha
      | some b'=>simp only [hb,Option.map_some,Option.some.injEq,Prod.mk.injEq] at ha; simp [RT.ft,hb,ha.1]
    | cons p q=>simp [RT.ft,sx ha]
  have EK:b∈cM S:=ET hR ZN
  have eG:∀ k∈cM S'++aj H,k∈cM S++aj (Hs++H):=by
    intro k hk
    rw [e2] at hk
    rw [e1,bt,ZM]
    simp only [List.mem_append] at hk ⊢
    rcases hk with ((hk | hk) | hk) | hk
    · exact .inl (.inl (.inl hk))
    · exact .inr (.inl hk)
    · exact .inl (.inr hk)
    · exact .inr (.inr hk)
  have adF:=eU
  rw [e1,bt,ZM] at adF
  have p1:(A++t1.ft++B++(t'.ft++aj H)).Perm (t1.ft++(A++t'.ft++B++aj H)):=by
    refine List.perm_iff_count.2 fun a=>?_
    simp only [List.count_append]
    omega
  have aik:=p1.nodup_iff.1 adF
  obtain ⟨_,ail,ZO⟩:=List.nodup_append.1 aik
  have hbt:b∉t1.ft:=by
    rw [hgt]
    intro hb
    have UZ:=Tr (List.nodup_append.1 eU).1 hR
    have ZP:t0∈l:=List.mem_of_getElem? ho
    have ZG:b∈aj l:=DJ ZP hb
    cases q with
    | nil=>
      simp only [cj] at ha
      simp only [aA,Option.some.injEq] at hl
      subst hl
      cases hx:R.box with
      | none=>simp [hx] at ha
      | some b'=>
        simp only [hx,Option.map_some,Option.some.injEq,Prod.mk.injEq] at ha
        rw [RT.ft,hx] at UZ
        simp only [Option.toList,List.cons_append,List.nil_append,List.nodup_cons] at UZ
        exact UZ.1 (ha.1▸ZG)
    | cons p q=>
      rw [RT.ft] at UZ
      exact Tq ha hl (List.nodup_append.1 UZ).2.1 ZG
  have db:∀ k,k≠b→w'.heap[k]?=w.heap[k]?:=by obtain ⟨_,_,_,_,_,h3⟩:=hu; exact h3
  have cF:jB w w' (af C w S (Hs++H)) (af C w' S' H):=by
    intro bb k hk
    have hkb:k≠b:=fun e=>hk.2.1 (e▸EK)
    refine ⟨⟨by rw [cE]; exact hk.1,fun hx=>?_,fun hx=>?_,hk.2.2.2⟩,db k hkb⟩
    · rcases List.mem_append.1 (eG k (List.mem_append.2 (.inl hx))) with h3 | h3
      · exact hk.2.1 h3
      · exact hk.2.2.1 h3
    · rcases List.mem_append.1 (eG k (List.mem_append.2 (.inr hx))) with h3 | h3
      · exact hk.2.1 h3
      · exact hk.2.2.1 h3
  refine ⟨cF,eG,by rw [e2]; exact ail,fun k hk=>?_,fun k hk=>?_,?_⟩
  · have Ln:k∈cM S++aj (Hs++H):=by rw [e1]; simp [hk]
    refine ⟨⟨by rw [cE]; exact dp k Ln,fun hx=>?_,fun hx=>?_,fun _=>.inr (h.kept.iJ k Ln)⟩,db k (fun e=>hbt (e▸hk))⟩
    · rw [e2] at hx; exact ZO k hk k (List.mem_append.2 (.inl hx)) rfl
    · exact ZO k hk k (List.mem_append.2 (.inr hx)) rfl
  · exact db k (fun e=>by subst e; exact (List.nodup_append.1 eU).2.2 k EK k hk rfl)
  · refine ⟨by rw [nN]; exact h.kept.os,by rw [uY]; exact h.kept.tape,by rw [vO]; exact h.kept.output,by rw [cE]; exact h.kept.size,fun k h1 h2=>?_,fun k hk=>h.kept.iJ k (eG k hk),fun r1 bx vs hm R1 G9=>?_⟩
    · rw [db k (fun e=>?_)]
      · exact h.kept.block k h1 h2
      · subst e
        rcases h.kept.iJ k (List.mem_append.2 (.inl EK)) with h3 | h3
        · exact h2 h3
        · omega
    · obtain ⟨R2,cs',l2,g1,g2,g3,g4,rfl⟩:=hc.ex
      by_cases he:r1=r
      · subst he
        rw [cI,Option.some.injEq] at G9
        subst G9
        obtain ⟨R3,k1,k2,k3,k4,k5⟩:=hS.sE g1
        rw [hR,Option.some.injEq] at k1
        subst k1
        obtain ⟨m1,m2⟩:=h.kept.par r1 bx vs hm R hR
        refine ⟨by simp only; rw [k2,m1],fun hb=>?_⟩
        cases q with
        | nil=>
          simp only [cj] at ha
          rw [m1,hb] at ha
          simp at ha
        | cons p q=>
          simp only
          rw [(mK g4).1,k4]
          exact m2 hb
      · rw [dL _ _ he] at G9
        obtain ⟨R3,k1,k2,k3,k4,k5⟩:=hS.sE G9
        obtain ⟨m1,m2⟩:=h.kept.par r1 bx vs hm R3 k1
        exact ⟨by rw [k2,m1],fun hb=>by rw [k4]; exact m2 hb⟩
end
end Go.Proofs.YtockoilcnmljiaaGreat
namespace Go.Proofs.YtockoilcnmljiaaGreat
theorem Ha (q:List Nat) (o:Nat):under (q++[o]) q=none:=by
  induction q with
  | nil=>rfl
  | cons p q ih=>simp only [List.cons_append,under,if_true]; exact ih
theorem Lo (r:Nat) (q:List Nat) (o:Nat) (e:Bool) (i:Nat):cA r q o e (.ptr r q i)=.ptr r q i:=by
  simp only [cA,if_true,Ha]
theorem Jp:lI id:=⟨fun _ _ _ _=>rfl,fun _ _=>rfl,fun _ h=>h⟩
theorem adG (d:D):fr id d=d:=by cases d<;>simp [fr]
theorem R7 {α:Type} (f:α→α) (hf:∀ a,f a=a):∀ l:List (Nat × α),gg f l=l
  | []=>rfl
  | (k,v)::t=>by simp [gg,hf,R7 f hf t]
theorem abM {l:List (Nat × List D)} {S:List (Nat × RT)} (h:ik l S):ik l (fS id S):=by
  have:=qd Jp h
  rwa [R7] at this
  intro l
  have:fr id=id:=funext adG
  rw [this]; simp
theorem ZQ {g:D→D} {S:List (Nat × RT)} {r:Nat} {q:List Nat} {o:Nat} {R:RT} {l:List T} {t0:T} (hR:lk S r=some R) (hl:aA R.cs q=some l) (ho:l[o]?=some t0):
    ∃ R1 l1 t1,lk (fS g S) r=some R1∧R1.box=R.box∧aA R1.cs q=some l1∧l1[o]?=some t1∧(t1=t0∨(q=[]∧t1=fT g t0))∧l1.length=l.length∧cj R1.box R1.cs q=cj R.box R.cs q∧R1.cs.length=R.cs.length:=by
  cases q with
  | nil=>
    simp only [aA,Option.some.injEq] at hl
    subst hl
    exact ⟨⟨R.box,R.cs.map (fT g)⟩,R.cs.map (fT g),fT g t0,by rw [lP,hR]; rfl,rfl,rfl,by simp [ho],.inr ⟨rfl,rfl⟩,by simp,rfl,by simp⟩
  | cons p q=>
    exact ⟨⟨R.box,R.cs.map (fT g)⟩,l,t0,by rw [lP,hR]; rfl,rfl,by simp only [FD]; exact hl,ho,.inl rfl,rfl,RY g,by simp⟩
theorem kO.aim {S S':List (Nat × RT)} {r:Nat} {q:List Nat} {o:Nat} {t t':T} (hc:kO S S' r q o t t') {l:List T} {R:RT} (hR:lk S r=some R) (hl:aA R.cs q=some l):
    ∃ R' l',lk S' r=some R'∧R'.box=R.box∧aA R'.cs q=some l'∧l'.length=l.length∧cj R'.box R'.cs q=cj R.box R.cs q:=by
  obtain ⟨R0,cs',l0,h1,h2,h3,h4,rfl⟩:=hc.ex
  rw [h1,Option.some.injEq] at hR
  subst hR
  rw [h2,Option.some.injEq] at hl
  subst hl
  obtain ⟨l1,h5,h6⟩:=oo h4
  rw [h2,Option.some.injEq] at h5
  subst h5
  exact ⟨⟨R0.box,cs'⟩,l0.set o t',cI _ _ _,rfl,h6,by simp,Go.Proofs.YtockoilcnmljiaaGreat.sA h4 (Ha q o)⟩
structure Sto (S S':List (Nat × RT)) (r:Nat) (q:List Nat) (o:Nat) (t':T) (f:D→D):Prop where
  new:cB S' r q o=some t'
  ptr:∀ i,f (.ptr r q i)=.ptr r q i
  hole:∀ r' q' o' d0 u,(sn d0).isSome=true→bU d0=d0→cB S r' q' o'=some (.v d0 u)→(r'≠r∨under (q++[o]) (q'++[o'])=none)→cB S' r' q' o'=some (.v d0 u)
  path:∀ {R l},lk S r=some R→aA R.cs q=some l→∃ R' l',lk S' r=some R'∧R'.box=R.box∧aA R'.cs q=some l'∧l'.length=l.length∧cj R'.box R'.cs q=cj R.box R.cs q
section
variable {C:Ctx} {H Hs:List T} {w:World} {st aQ ct:St} {aJ:List (Array Value)} {S:List (Nat × RT)}
theorem BD (h:Rel C (Hs++H) w st aJ S) {r:Nat} {q:List Nat} {o:Nat} {d:D} {t' t0:T} {R:RT} {l:List T} {f:D→D} (hR:lk S r=some R) (hl:aA R.cs q=some l) (ho:l[o]?=some t0) {b off:Nat} (ha:cj R.box R.cs q=some (b,off))
    (dY:st.tF r q o d=some (aQ,f)) (jl:aQ.iz r q o t'.er=some ct) (cR:dg d=true)
    (zM:(Hs=[t']∧d=t'.er)∨(Hs=[]∧q=[]∧∃ u,t'=.v (f d) u∧bz w (af C w S (Hs++H)) S d u)):
    ∃ S',Rel C H (w.setCell ⟨b,off+o,none⟩ t'.val) ct aJ S'∧im C w (w.setCell ⟨b,off+o,none⟩ t'.val) S S' (Hs++H) H f∧Sto S S' r q o t' f∧ct.of=st.of:=by
  have hold:st.cell r q o=some t0.er:=by rw [Jk st S h.rt,Fy hR hl,ho]; rfl
  have ZM:aj Hs=t'.ft:=by
    rcases zM with ⟨rfl,_⟩ | ⟨rfl,_,u,rfl,_⟩
    · simp [aj]
    · rfl
  have hq0:q=[]→R.box.isSome=true:=fun e=>by
    subst e
    simp only [cj] at ha
    cases hb:R.box with
    | none=>simp [hb] at ha
    | some b=>rfl
  obtain ⟨b',FB,fw,eN,eY,Xw,_⟩:=q8 h.mem hR hl (fun e=>by subst e; simp at ho) hq0
  rw [ha] at eN
  simp only [Option.some.injEq,Prod.mk.injEq] at eN
  obtain ⟨rfl,rfl⟩:=eN
  have U0:o < l.length:=(List.getElem?_eq_some_iff.1 ho).1
  have XO:=abK eY (o:=o) (by omega) t'.val
  generalize tO:w.setCell ⟨b,off+o,none⟩ t'.val=w' at XO ⊢
  have cE:w'.heap.size=w.heap.size:=by rw [← tO]; simp [World.setCell]
  have nN:w'.os=w.os:=by rw [← tO]; rfl
  have uY:w'.tape=w.tape:=by rw [← tO]; rfl
  have vO:w'.output=w.output:=by rw [← tO]; rfl
  have fin:∀ g:D→D,lI g→(∀ d,g d=d∨(∃ r q o x,d=.ref r q o x)∨∃ r q o,d=.ptr r q o)→ik aQ.rt (fS g S)→((aQ.tm=gg (pC f) st.tm∧aQ.up=st.up.map (gg (pC f)))∨(f=id∧aQ.tm=st.tm∧aQ.up=st.up))→aQ.of=st.of→(∀ i,f (.ptr r q i)=.ptr r q i)→
      (∀ S' t1,kO (fS g S) S' r q o t1 t'→(t1=t0∨(q=[]∧t1=fT g t0))→Wr C w w' S S' (Hs++H) H t1→(∀ d u,bz w (af C w S (Hs++H)) S d u→bz w' (af C w' S' H) S' (f d) u)∧(∀ d u,bz w (af C w S (Hs++H)) S d u→bz w' (af C w' S' H) S' (g d) u))→
      ∃ S',Rel C H w' ct aJ S'∧im C w w' S S' (Hs++H) H f∧Sto S S' r q o t' f∧ct.of=st.of:=by
    intro g hg Hb XP ain FK aio afZ
    obtain ⟨R1,l1,t1,e1,e2,e3,e4,e5,e6,e7,_⟩:=ZQ (g:=g) hR hl ho
    obtain ⟨S',hc,Ts,Tt,Tu,FL⟩:=FE XP e1 e3 e4 jl
    have hgt:t1.ft=t0.ft:=by
      rcases e5 with rfl | ⟨_,rfl⟩
      · rfl
      · exact ZE g t0
    have nO:=Q7 h (Ti hg S) hc hgt hR hl ho ha ZM XO cE nN uY vO
    obtain ⟨ZR,rj⟩:=afZ S' t1 hc e5 nO
    have dw:=h.mem.hand
    rw [dU] at dw
    have dj:Mem C w' S' H:=by
      refine US h.mem (g:=fr g) (Ti hg S) hc hR (fun e=>?_) (fun _=>ha) XO ?_ nO.stays nO.nd nO.sub (gA nO.stays _ dw.2 (fun k hk=>nO.new k (by rw [bt]; simp [hk]))) (fun d u hd=>by rw [vm hd]; exact rj d u hd) (fun d u hd=>?_) cE
      · subst e
        simp only [cj] at ha
        cases hb:R.box with
        | none=>simp [hb] at ha
        | some b'=>simp only [hb,Option.map_some,Option.some.injEq,Prod.mk.injEq] at ha; exact ⟨by rw [ha.1],ha.2.symm⟩
      · rcases zM with ⟨rfl,_⟩ | ⟨rfl,rfl,u,rfl,hd⟩
        · left
          have h1:=dw.1
          simp only [bN] at h1
          exact dT nO.stays _ h1.1 (fun k hk=>nO.new k (by rw [bt]; simp [aj,hk]))
        · right
          have h2:=ZR d u hd
          have h3:bU (f d)=f d:=by
            cases hx:f d with
            | sl g s n cs=>
              rw [hx] at h2
              cases g with
              | none=>simp [bz,Ext] at h2
              | some g=>rfl
            | _=>rfl
          exact ⟨f d,u,rfl,rfl,by rw [h3]; exact h2⟩
      · exact sF hg Hb hd
    refine ⟨S',?_,ZR,⟨hc.FC,aio,?_,?_⟩,FL.trans FK⟩
    · rcases ain with ⟨h1,h2⟩ | ⟨rfl,h1,h2⟩
      · exact h.step (f:=f) Ts (by rw [Tt,h1]) (by rw [Tu,h2]) ZR dj nO.kept
      · exact h.sC Ts (by rw [Tt,h1]) (by rw [Tu,h2]) ZR dj nO.kept
    · intro r' q' o' d0 u h3 h4 h1 h2
      refine hc.OO h2 ?_
      rw [DI h1]
      split
      · simp only [fT,h4]
        cases d0<;>first | (simp [sn] at h3; done) | simp [fr,hg.hole,hg.sl]
      · rfl
    · intro R2 l2 h1 h2
      rw [hR,Option.some.injEq] at h1
      subst h1
      rw [hl,Option.some.injEq] at h2
      subst h2
      obtain ⟨R',l',k1,k2,k3,k4,k5⟩:=hc.aim e1 e3
      exact ⟨R',l',k1,k2.trans e2,k3,k4.trans e6,k5.trans e7⟩
  unfold St.tF at dY
  rw [hold] at dY
  simp only [Option.some.injEq] at dY
  have hko:=zJ r q o true
  have dI:=mN r q o true
  have Tv:∀ S' t1,kO (fS (cA r q o true) S) S' r q o t1 t'→Wr C w w' S S' (Hs++H) H t1→∀ d u,bz w (af C w S (Hs++H)) S d u→bz w' (af C w' S' H) S' (cA r q o true d) u:=
    fun S' t1 hc nO d u hd=>zG nO.stays hc (by simp) (rb dI hd)
  split at dY
  · rename_i hs
    simp only [Prod.mk.injEq] at dY
    obtain ⟨rfl,rfl⟩:=dY
    refine fin (cA r q o true) dI hko ?_ (.inl ⟨rfl,rfl⟩) rfl (fun i=>?_) (fun S' t1 hc BE nO=>⟨fun d u hd=>?_,Tv S' t1 hc nO⟩)
    · exact qd dI h.rt
    · simp only [vB]; exact Lo _ _ _ _ _
    · have he:t1.er=t0.er:=by
        rcases BE with rfl | ⟨_,rfl⟩
        · rfl
        · rw [N5 dI]
          cases hx:t0.er<;>simp [hx,gQ] at hs
          simp [fr,dI.sl]
      rw [← he]
      obtain ⟨g0,s0,n0,cs0,gC⟩:∃ g s n cs,t0.er=.sl g s n cs:=by
        cases hx:t0.er<;>simp [hx,gQ] at hs
        exact ⟨_,_,_,_,rfl⟩
      have ec:=tJ h.mem hR hl ho gC
      have af0:bM w (af C w S (Hs++H)) t1:=by
        rcases BE with rfl | ⟨_,rfl⟩
        · exact ec
        · cases t0 with
          | own s n cap a xs=>exact ec
          | v d0 u0=>
            simp only [T.er] at gC
            simp only [bM,fT] at ec ⊢
            rw [dI.leaf,gC]
            rw [gC] at ec
            simpa [fr,dI.sl] using ec
      exact abJ nO.stays hc af0 nO.cg (rb dI hd)
  · rename_i hs
    split at dY
    · simp only [Prod.mk.injEq] at dY
      obtain ⟨rfl,rfl⟩:=dY
      refine fin (cA r q o true) dI hko ?_ (.inl ⟨rfl,rfl⟩) rfl (fun i=>Lo _ _ _ _ _) (fun S' t1 hc BE nO=>⟨Tv S' t1 hc nO,Tv S' t1 hc nO⟩)
      exact qd dI h.rt
    · rename_i r8
      simp only [Prod.mk.injEq] at dY
      obtain ⟨rfl,rfl⟩:=dY
      have ea:∀ S' t1,kO (fS id S) S' r q o t1 t'→Wr C w w' S S' (Hs++H) H t1→∀ d u,bz w (af C w S (Hs++H)) S d u→bz w' (af C w' S' H) S' (id d) u:=by
        intro S' t1 hc nO d' u' tK
        have ko:∃ d0 u0,t'=.v d0 u0∧sn (bU d0)=none:=by
          have OP:∀ x:D,dg x=true→gQ x=false→sn (bU x)=none:=by
            intro x h1 h2
            cases x<;>first | rfl | (exfalso; simp [dg] at h1; done) | (exfalso; simp [gQ] at h2; done)
          rcases zM with ⟨_,rfl⟩ | ⟨_,_,u,rfl,_⟩
          · cases t' with
            | own s n cap a xs=>simp [T.er,gQ] at r8
            | v d0 u0=>
              refine ⟨d0,u0,rfl,?_⟩
              simp only [T.er] at r8 cR
              have:=OP (bU d0) cR (by simpa using r8)
              rwa [EJ] at this
          · exact ⟨_,_,rfl,OP _ cR (by simpa using r8)⟩
        obtain ⟨d0,u0,rfl,hn⟩:=ko
        exact OD nO.stays hc (.inl hn) (rb Jp tK)
      refine fin id Jp (fun _=>.inl rfl) (abM h.rt) (.inr ⟨rfl,rfl,rfl⟩) rfl (fun _=>rfl) (fun S' t1 hc BE nO=>⟨ea S' t1 hc nO,ea S' t1 hc nO⟩)
end
end Go.Proofs.YtockoilcnmljiaaGreat
namespace Go.Proofs.YtockoilcnmljiaaGreat
section
variable {P:Program} {w:World}
theorem o0 {b off fw:Nat} {us:List Value} (hb:lL w b off fw us) {o:Nat} (ho:o < fw) {v:Value} (h1:v.oneCell'=true):(store ⟨b,off+o,none⟩ v).run P w=.ok () (w.setCell ⟨b,off+o,none⟩ v):=by
  obtain ⟨u,hu⟩:=GR hb ho
  rw [run_store P w _ v _ h1,hu]
  simp [GQ hb ho]
theorem OQ {b off:Nat} {v:Value} (h:w.cell? ⟨b,off,none⟩=some v):w.setCell ⟨b,off,none⟩ v=w:=by
  have hh:(w.setCell ⟨b,off,none⟩ v).heap=w.heap:=by
    apply Array.ext_getElem?
    intro k
    simp only [World.setCell,Array.getElem?_modify]
    split
    · rename_i hk
      subst hk
      cases hx:w.heap[b]? with
      | none=>rfl
      | some ob=>
        cases ob with
        | cells c e fz=>
          simp only [World.cell?,hx] at h
          simp only [Option.map_some,Option.isSome_none,Bool.false_eq_true,if_false]
          congr 2
          simp at h
          apply Array.ext_getElem?
          intro j
          rw [Array.getElem?_setIfInBounds]
          split
          · rename_i hj
            subst hj
            split
            · exact h.symm
            · rename_i dp
              rw [Array.getElem?_eq_none (by omega)] at h
              simp at h
          · rfl
        | _=>rfl
    · rfl
  have:w.setCell ⟨b,off,none⟩ v={ w with heap:=(w.setCell ⟨b,off,none⟩ v).heap }:=rfl
  rw [this,hh]
end
theorem OR {S:List (Nat × RT)} {r':Nat} {q':List Nat} {o':Nat} {d0:D} {u0:Value} (h0:cB S r' q' o'=some (.v d0 u0)) {r:Nat} {q:List Nat} {o:Nat} {t:T} (h1:cB S r q o=some t) (r1:Nat) (q1:List Nat) (o1 i:Nat):
    so r' q' o' r1 q1 o1 (.ptr r q i)=.ptr r q i∧cA r' q' o' true (.ptr r q i)=.ptr r q i:=by
  have zN:r=r'→under (q'++[o']) q=none:=by
    intro e
    subst e
    cases hu:under (q'++[o']) q with
    | none=>rfl
    | some y=>
      have:=jA hu
      unfold cB at h0 h1
      cases hr:lk S r with
      | none=>simp [hr] at h0
      | some R=>
        simp only [hr] at h0 h1
        cases hc:aA R.cs q' with
        | none=>simp [hc] at h0
        | some l=>
          simp only [hc] at h0
          rw [this,List.append_assoc,List.singleton_append,G1 hc h0] at h1
          simp at h1
  simp only [so,cA]
  by_cases e:r=r'
  · simp only [if_pos e,zN e]
    exact ⟨trivial,trivial⟩
  · simp only [if_neg e]
    exact ⟨trivial,trivial⟩
section
variable {C:Ctx} {Hx:List T} {H:List T} {w:World} {st:St} {aJ:List (Array Value)} {S:List (Nat × RT)}
theorem Jq (h:Rel C H w st aJ S) (r:Nat) (q:List Nat) (o:Nat) (e:Bool):Rel C H w (st.fc (cA r q o e)) aJ (fS (cA r q o e) S)∧im C w w S (fS (cA r q o e) S) H H (cA r q o e):=by
  refine R6 h (mN r q o e) (fun d u hd=>?_) (fun d u hd=>sF (mN r q o e) (zJ r q o e) hd) (fun d u hd=>vm hd)
  have h1:=rb (mN r q o e) hd
  cases d with
  | ref r' q' o' x=>
    simp only [cA]
    split
    · split
      · exact h1
      · split
        · simp [bz,Ext]
        · exact h1
      · simp [bz,Ext]
    · exact h1
  | ptr r' q' o'=>
    simp only [cA]
    split
    · split
      · exact h1
      · simp [bz,Ext]
    · exact h1
  | _=>exact h1
theorem U1 (r:Nat) (q:List Nat) (o r1:Nat) (q1:List Nat) (o1:Nat) (d:D):so r q o r1 q1 o1 d=d∨(∃ r q o x,d=.ref r q o x)∨∃ r q o,d=.ptr r q o:=by
  cases d<;>first | exact .inl rfl | exact .inr (.inl ⟨_,_,_,_,rfl⟩) | exact .inr (.inr ⟨_,_,_,rfl⟩)
theorem OT (h:Rel C H w st aJ S) {r':Nat} {q':List Nat} {o':Nat} {d0:D} {u0:Value} (h0:cB S r' q' o'=some (.v d0 u0)) {r:Nat} {q:List Nat} {o:Nat} {t:T} (h1:cB S r q o=some t) (hl:lH (.v d0 u0) t):
    Rel C H w (st.fc (so r' q' o' r q o)) aJ (fS (so r' q' o' r q o) S)∧im C w w S (fS (so r' q' o' r q o) S) H H (so r' q' o' r q o):=by
  have fZ:=Bw r' q' o' r q o
  refine R6 h fZ (fun d u hd=>?_) (fun d u hd=>sF fZ (U1 r' q' o' r q o) hd) (fun d u hd=>vm hd)
  have h2:=rb fZ hd
  cases d with
  | ref r2 q2 o2 x=>
    simp only [so]
    split
    · rename_i e
      subst e
      split
      · exact h2
      · rename_i hu
        have e1:=jA hu
        simp only [List.append_nil] at e1
        obtain ⟨rfl,e2⟩:=List.append_inj' e1 rfl
        simp only [List.cons.injEq,and_true] at e2
        subst e2
        refine rb fZ ?_
        intro t2 R8
        rw [h1,Option.some.injEq] at R8
        subst R8
        exact kN hl (hd _ h0)
      · simp [bz,Ext]
    · exact h2
  | ptr r2 q2 o2=>
    simp only [so]
    split
    · split
      · exact h2
      · simp [bz,Ext]
    · exact h2
  | _=>exact h2
theorem U2 (gi:ik st.rt S) (hm:Mem C w S Hx) {d:D} {u:Value} (hd:cz w (af C w S Hx) S d u) (cQ:(∀ cs,d≠.agg cs)→fO st d=true):cm (bz w (af C w S Hx) S) (cellsOf d) u.cells.toList:=by
  by_cases ha:∃ cs,d=.agg cs
  · obtain ⟨cs,rfl⟩:=ha
    obtain ⟨us,rfl,h⟩:=hd
    exact h
  · refine FJ gi hm hd (fun x hx=>?_)
    have hc:cellsOf d=[d]:=by cases d<;>first | rfl | exact absurd ⟨_,rfl⟩ ha
    rw [hc] at hx
    simp only [List.mem_singleton] at hx
    subst hx
    exact cQ (fun cs e=>ha ⟨cs,e⟩)
end
theorem yz {st:St} {d:D} (h:fO st d=true):dg d=true:=by
  cases d<;>first | rfl | exact h
section
variable {P:Program} {C:Ctx} {Hx:List T} {aJ:List (Array Value)}
theorem Q8:∀ {ds:List D} {us:List Value} {w:World} {st st':St} {S:List (Nat × RT)} {r o:Nat} {h:D→D} {b off i:Nat},Rel C Hx w st aJ S→(∃ R,lk S r=some R∧R.box=some b)→cm (fun d u=>bz w (af C w S Hx) S (h d) u) ds us→o=off+i→oa st r o h ds=some st'→
    ∃ w' S',(storeCells ⟨b,off,none⟩ us i).run P w=.ok () w'∧Rel C Hx w' st' aJ S'∧st'.of=st.of:=by
  intro ds
  induction ds with
  | nil=>
    intro us w st st' S r o h b off i hr _ hu _ hs
    cases hu
    simp only [oa,Option.some.injEq] at hs
    subst hs
    exact ⟨w,S,rfl,hr,rfl⟩
  | cons d ds ih=>
    intro us w st st' S r o h b off i hr vP hu BF hs
    cases hu with
    | cons tN EM=>
    rename_i u us
    simp only [oa] at hs
    split at hs
    · simp at hs
    rename_i cQ
    simp only [Bool.not_eq_true',Bool.not_eq_false] at cQ
    split at hs
    case h_2=>simp at hs
    rename_i aQ f dY
    split at hs
    case h_2=>simp at hs
    rename_i ct jl
    obtain ⟨R,hR,hb⟩:=vP
    obtain ⟨h1,_⟩:=ON hr.rt hr.mem tN cQ
    have cR:∃ t0,R.cs[o]?=some t0:=by
      unfold St.tF at dY
      cases hx:st.cell r [] o with
      | none=>simp [hx] at dY
      | some cg=>
        obtain ⟨R',l,t,g1,g2,g3,_⟩:=iW hr.rt hx
        rw [hR,Option.some.injEq] at g1
        subst g1
        simp only [aA,Option.some.injEq] at g2
        subst g2
        exact ⟨t,g3⟩
    obtain ⟨t0,ho⟩:=cR
    have ha:cj R.box R.cs []=some (b,0):=by simp [cj,hb]
    obtain ⟨b',FB,fw,eN,eY,Xw,_⟩:=q8 hr.mem hR (q:=[]) rfl (fun e=>by rw [e] at ho; simp at ho) (fun _=>by rw [hb]; rfl)
    rw [ha] at eN
    simp only [Option.some.injEq,Prod.mk.injEq] at eN
    obtain ⟨rfl,rfl⟩:=eN
    have U0:o < R.cs.length:=(List.getElem?_eq_some_iff.1 ho).1
    have ek:=o0 (P:=P) eY (o:=o) (by omega) h1
    have hfd:bU (f (h d))=f (h d):=by
      have key:∀ x:D,dg x=true→bU x=x→bU (f x)=f x:=by
        intro x hx R9
        unfold St.tF at dY
        cases hy:st.cell r [] o with
        | none=>simp [hy] at dY
        | some cg=>
          simp only [hy,Option.some.injEq] at dY
          have hk:bU (cA r [] o true x)=cA r [] o true x:=by
            cases x with
            | ref r' q' o' y=>simp only [cA]; split<;>(try split)<;>(try split)<;>rfl
            | ptr r' q' o'=>simp only [cA]; split<;>(try split)<;>rfl
            | _=>exact R9
          split at dY
          · simp only [Prod.mk.injEq] at dY
            obtain ⟨_,rfl⟩:=dY
            cases x with
            | ref r' q' o' y=>
              simp only [vB]
              split
              · split
                · rfl
                · split
                  · exact (by rename_i g _ _ _ _; cases g<;>rfl)
                  · rfl
              · rfl
            | _=>exact hk
          · split at dY
            · simp only [Prod.mk.injEq] at dY
              obtain ⟨_,rfl⟩:=dY
              exact hk
            · simp only [Prod.mk.injEq] at dY
              obtain ⟨_,rfl⟩:=dY
              exact R9
      refine key _ (yz cQ) ?_
      cases hx:h d with
      | sl g s n cs=>
        rw [hx] at tN
        cases g with
        | none=>simp [bz,Ext] at tN
        | some g=>rfl
      | _=>rfl
    obtain ⟨S',a1,a2,a3,a4⟩:=BD (Hs:=[]) (H:=Hx) (t':=.v (f (h d)) u) hr hR rfl ho ha dY (by simp only [T.er]; rw [hfd]; exact jl) (yz cQ) (.inr ⟨rfl,rfl,u,rfl,tN⟩)
    simp only [T.val,Nat.zero_add] at a1 a2
    simp only [Nat.zero_add] at ek
    obtain ⟨R',l',k1,k2,_⟩:=a3.path hR (q:=[]) rfl
    obtain ⟨w',AB,c1,c2,c3⟩:=ih (i:=i+1) (o:=o+1) (off:=off) (h:=fun x=>f (h x)) a1 ⟨R',k1,k2.trans hb⟩ (EM.mono (fun _ _ hh=>a2 _ _ hh)) (by omega) hs
    refine ⟨w',AB,?_,c2,c3.trans a4⟩
    rw [storeCells]
    simp only [Sem.run_bind,fe]
    rw [← BF,ek]
    exact c1
theorem OU:∀ {ts:List T} {w:World} {st st':St} {S:List (Nat × RT)} {r o:Nat} {b off i:Nat},Rel C (ts++Hx) w st aJ S→(∃ R,lk S r=some R∧R.box=some b)→o=off+i→oc st r o (bu ts)=some st'→
    ∃ w' S',(storeCells ⟨b,off,none⟩ (aG ts) i).run P w=.ok () w'∧Rel C Hx w' st' aJ S'∧st'.of=st.of:=by
  intro ts
  induction ts with
  | nil=>
    intro w st st' S r o b off i hr _ _ hs
    simp only [bu,oc,Option.some.injEq] at hs
    subst hs
    exact ⟨w,S,rfl,hr,rfl⟩
  | cons t ts ih=>
    intro w st st' S r o b off i hr vP BF hs
    simp only [bu,oc] at hs
    split at hs
    · simp at hs
    rename_i cQ
    simp only [Bool.not_eq_true',Bool.not_eq_false] at cQ
    split at hs
    case h_2=>simp at hs
    rename_i aQ f dY
    split at hs
    case h_2=>simp at hs
    rename_i ct jl
    obtain ⟨R,hR,hb⟩:=vP
    have dw:=hr.mem.hand
    simp only [List.cons_append,bN] at dw
    obtain ⟨h1,_⟩:=mO dw.1 cQ
    have cR:∃ t0,R.cs[o]?=some t0:=by
      unfold St.tF at dY
      cases hx:st.cell r [] o with
      | none=>simp [hx] at dY
      | some cg=>
        obtain ⟨R',l,t,g1,g2,g3,_⟩:=iW hr.rt hx
        rw [hR,Option.some.injEq] at g1
        subst g1
        simp only [aA,Option.some.injEq] at g2
        subst g2
        exact ⟨t,g3⟩
    obtain ⟨t0,ho⟩:=cR
    have ha:cj R.box R.cs []=some (b,0):=by simp [cj,hb]
    obtain ⟨b',FB,fw,eN,eY,Xw,_⟩:=q8 hr.mem hR (q:=[]) rfl (fun e=>by rw [e] at ho; simp at ho) (fun _=>by rw [hb]; rfl)
    rw [ha] at eN
    simp only [Option.some.injEq,Prod.mk.injEq] at eN
    obtain ⟨rfl,rfl⟩:=eN
    have U0:o < R.cs.length:=(List.getElem?_eq_some_iff.1 ho).1
    have ek:=o0 (P:=P) eY (o:=o) (by omega) h1
    obtain ⟨S',a1,a2,a3,a4⟩:=BD (Hs:=[t]) (H:=ts++Hx) (t':=t) hr hR rfl ho ha dY jl cQ (.inl ⟨rfl,rfl⟩)
    simp only [Nat.zero_add] at a1 a2
    simp only [Nat.zero_add] at ek
    obtain ⟨R',l',k1,k2,_⟩:=a3.path hR (q:=[]) rfl
    obtain ⟨w',AB,c1,c2,c3⟩:=ih (i:=i+1) (o:=o+1) (off:=off) a1 ⟨R',k1,k2.trans hb⟩ (by omega) hs
    refine ⟨w',AB,?_,c2,c3.trans a4⟩
    rw [aG,storeCells]
    simp only [Sem.run_bind,fe]
    rw [← BF,ek]
    exact c1
end
end Go.Proofs.YtockoilcnmljiaaGreat
namespace Go.Proofs.YtockoilcnmljiaaGreat
theorem BG {r:Nat} {q:List Nat} {o:Nat} {x:D} {r':Nat} {q':List Nat} {o':Nat} {y:Option (Nat × Nat)} (h:cA r q o true x=.ref r' q' o' y):x=.ref r' q' o' y∧(r'≠r∨under (q++[o]) (q'++[o'])=none):=by
  cases x with
  | ref r2 q2 o2 x2=>
    simp only [cA] at h
    split at h
    · split at h
      · rename_i hu
        simp only [D.ref.injEq] at h
        obtain ⟨rfl,rfl,rfl,rfl⟩:=h
        exact ⟨rfl,.inr hu⟩
      · simp at h
      · simp at h
    · rename_i db
      simp only [D.ref.injEq] at h
      obtain ⟨rfl,rfl,rfl,rfl⟩:=h
      exact ⟨rfl,.inl db⟩
  | ptr r2 q2 o2=>
    simp only [cA] at h
    split at h
    · split at h<;>simp at h
    · simp at h
  | _=>simp [cA] at h
theorem OV {r:Nat} {q:List Nat} {o:Nat} {cg x:D} {r':Nat} {q':List Nat} {o':Nat} {y:Option (Nat × Nat)} (h:vB r q o cg x=.ref r' q' o' y):x=.ref r' q' o' y∧(r'≠r∨under (q++[o]) (q'++[o'])=none):=by
  cases x with
  | ref r2 q2 o2 x2=>
    simp only [vB] at h
    split at h
    · split at h
      · rename_i hu
        simp only [D.ref.injEq] at h
        obtain ⟨rfl,rfl,rfl,rfl⟩:=h
        exact ⟨rfl,.inr hu⟩
      · split at h
        · rename_i g s n cs _
          cases g<;>simp [dN] at h
        · simp at h
    · rename_i db
      simp only [D.ref.injEq] at h
      obtain ⟨rfl,rfl,rfl,rfl⟩:=h
      exact ⟨rfl,.inl db⟩
  | _=>exact BG h
theorem abN {st aQ:St} {r:Nat} {q:List Nat} {o:Nat} {d:D} {f:D→D} (h:st.tF r q o d=some (aQ,f)) (hd:gQ d=true) {x:D} {r':Nat} {q':List Nat} {o':Nat} {y:Option (Nat × Nat)} (hx:f x=.ref r' q' o' y):x=.ref r' q' o' y∧(r'≠r∨under (q++[o]) (q'++[o'])=none):=by
  unfold St.tF at h
  split at h
  case h_2=>simp at h
  simp only [Option.some.injEq] at h
  split at h
  · simp only [Prod.mk.injEq] at h
    obtain ⟨_,rfl⟩:=h
    exact OV hx
  · try rw [if_pos hd] at h
    simp only [hd,if_true,Prod.mk.injEq] at h
    obtain ⟨_,rfl⟩:=h
    exact BG hx
theorem U3 {st st':St} {r:Nat} {q:List Nat} {o:Nat} {x:Option (Nat × Nat)} {d:D} (h:jn st (.ref r q o x)=some (d,st')):gQ d=true:=by
  simp only [jn] at h
  split at h
  · split at h
    · simp only [Option.some.injEq,Prod.mk.injEq] at h
      rw [← h.1]; rfl
    · simp at h
  · simp only [Option.some.injEq,Prod.mk.injEq] at h
    rw [← h.1]; rfl
  · simp at h
section
variable {P:Program} {C:Ctx} {Hx:List T} {aJ:List (Array Value)}
theorem Q9:∀ {ds:List D} {us:List Value} {w:World} {st st':St} {S:List (Nat × RT)} {r:Nat} {q:List Nat} {o:Nat} {h:D→D} {b off0 off i:Nat},Rel C Hx w st aJ S→bz w (af C w S Hx) S (.ptr r q 0) (.pointer (some ⟨b,off0,none⟩))→cm (fun d u=>bz w (af C w S Hx) S (h d) u) ds us→off+i=off0+o→jk st r q o h ds=some st'→
    ∃ w' S',(storeCells ⟨b,off,none⟩ us i).run P w=.ok () w'∧Rel C Hx w' st' aJ S'∧st'.of=st.of:=by
  intro ds
  induction ds with
  | nil=>
    intro us w st st' S r q o h b off0 off i hr _ hu _ hs
    cases hu
    simp only [jk,Option.some.injEq] at hs
    subst hs
    exact ⟨w,S,rfl,hr,rfl⟩
  | cons d ds ih=>
    intro us w st st' S r q o h b off0 off i hr hp hu BF hs
    cases hu with
    | cons tN EM=>
    rename_i u us
    have place:∀ {H:List T} {ZS:St} {S0:List (Nat × RT)},Rel C H w ZS aJ S0→bz w (af C w S0 H) S0 (.ptr r q 0) (.pointer (some ⟨b,off0,none⟩))→∀ {cg:D},ZS.cell r q o=some cg→
        ∃ R l t0 fw,lk S0 r=some R∧aA R.cs q=some l∧l[o]?=some t0∧t0.er=cg∧cj R.box R.cs q=some (b,off0)∧lL w b off0 fw (aG l)∧o < fw:=by
      intro H ZS S0 Sa OW cg hc
      obtain ⟨R,l,t0,g1,g2,g3,g4,g5⟩:=iW Sa.rt hc
      obtain ⟨EL,Bp⟩:=OW R g1
      obtain ⟨b',FB,fw,k1,k2,k3,_⟩:=q8 Sa.mem g1 g2 (fun e=>by subst e; simp at g3) EL
      have:=Bp b' FB k1
      simp only [Value.pointer.injEq,Option.some.injEq,Addr.mk.injEq,Nat.add_zero,and_true] at this
      obtain ⟨rfl,rfl⟩:=this
      exact ⟨R,l,t0,fw,g1,g2,g3,g5.symm,k1,k2,by have:=(List.getElem?_eq_some_iff.1 g3).1; omega⟩
    simp only [jk] at hs
    split at hs
    · rename_i yA
      simp only [Bool.and_eq_true] at yA
      obtain ⟨yA,cQ⟩:=yA
      have hd:h d=.ref r q o none:=by
        cases hx:h d with
        | ref r2 q2 o2 x2=>
          rw [hx] at yA
          cases x2 with
          | none=>
            simp only [Fv,Bool.and_eq_true,decide_eq_true_eq] at yA
            obtain ⟨⟨rfl,rfl⟩,rfl⟩:=yA
            rfl
          | some p=>simp [Fv] at yA
        | _=>rw [hx] at yA; simp [Fv] at yA
      rw [hd] at cQ tN
      obtain ⟨h1,_⟩:=ON hr.rt hr.mem tN cQ
      simp only [fO] at cQ
      split at cQ
      case h_2=>simp at cQ
      rename_i g s n cs hc
      obtain ⟨R,l,t0,fw,g1,g2,g3,g4,g5,g6,g7⟩:=place hr hp hc
      have jP:u=t0.val:=by
        have:=tN t0 (by rw [Fy g1 g2]; exact g3)
        unfold eT at this
        rw [g4] at this
        exact this
      have ek:=o0 (P:=P) g6 g7 h1
      rw [OQ (by rw [jP]; exact vK g6 (by rw [fv,g3]; rfl))] at ek
      obtain ⟨w',S',c1,c2,c3⟩:=ih (i:=i+1) (o:=o+1) (off:=off) hr hp EM (by omega) hs
      refine ⟨w',S',?_,c2,c3⟩
      rw [storeCells]
      simp only [Sem.run_bind,fe]
      rw [BF,ek]
      exact c1
    · split at hs
      case h_2=>simp at hs
      rename_i d' aQ dI
      split at hs
      · simp at hs
      rename_i gM
      simp only [Bool.not_eq_true',Bool.not_eq_false] at gM
      split at hs
      case h_2=>simp at hs
      rename_i ct f dY
      split at hs
      case h_2=>simp at hs
      rename_i EH jl
      obtain ⟨t,S1,a1,rfl,a3,a4,a5,a6,a7⟩:=vl hr tN dI
      have hp1:=a4 _ _ hp
      have cR:∃ cg,aQ.cell r q o=some cg:=by
        unfold St.tF at dY
        cases hx:aQ.cell r q o with
        | none=>simp [hx] at dY
        | some cg=>exact ⟨cg,rfl⟩
      obtain ⟨cg,cR⟩:=cR
      obtain ⟨R,l,t0,fw,g1,g2,g3,g4,g5,g6,g7⟩:=place a1 hp1 cR
      have dw:=a1.mem.hand
      simp only [bN] at dw
      obtain ⟨h1,_⟩:=mO dw.1 gM
      have ek:=o0 (P:=P) g6 g7 h1
      obtain ⟨S2,b1,b2,b3,b4⟩:=BD (Hs:=[t]) (H:=Hx) (t':=t) a1 g1 g2 g3 g5 dY jl gM (.inl ⟨rfl,rfl⟩)
      rw [a3] at ek b1 b2
      generalize tO:w.setCell ⟨b,off0+o,none⟩ u=w1 at ek b1 b2
      have Sb:=b2 _ _ hp1
      rw [b3.ptr] at Sb
      have adH:∃ S3,Rel C Hx w1 (EH.uU (f (h d)) r q o) aJ S3∧im C w1 w1 S2 S3 Hx Hx (yu (f (h d)) r q o)∧yu (f (h d)) r q o (.ptr r q 0)=.ptr r q 0∧(EH.uU (f (h d)) r q o).of=EH.of:=by
        cases hx:f (h d) with
        | ref r' q' o' y=>
          have hh:gQ t.er=true:=by
            cases hd:h d with
            | ref r2 q2 o2 x2=>rw [hd] at dI; exact U3 dI
            | _=>
              exfalso
              rw [hd] at hx
              unfold St.tF at dY
              rw [cR] at dY
              simp only [Option.some.injEq] at dY
              split at dY
              · simp only [Prod.mk.injEq] at dY
                obtain ⟨_,rfl⟩:=dY
                have:=(OV hx).1
                simp at this
              · split at dY
                · simp only [Prod.mk.injEq] at dY
                  obtain ⟨_,rfl⟩:=dY
                  have:=(BG hx).1
                  simp at this
                · simp only [Prod.mk.injEq] at dY
                  obtain ⟨_,rfl⟩:=dY
                  simp at hx
          obtain ⟨hd,Fw⟩:=abN dY hh hx
          obtain ⟨d0,u0,k1,k2,k3,k4⟩:=a7 r' q' o' y hd
          have zO:=b3.hole r' q' o' d0 u0 k1 k2 k3 Fw
          cases y with
          | none=>
            obtain ⟨m1,m2⟩:=OT b1 zO b3.new (k4 rfl)
            exact ⟨_,m1,m2,(OR zO b3.new r q o 0).1,rfl⟩
          | some y=>
            obtain ⟨m1,m2⟩:=Jq b1 r' q' o' true
            exact ⟨_,m1,m2,(OR zO b3.new r q o 0).2,rfl⟩
        | _=>exact ⟨S2,b1,fun _ _ hh=>hh,rfl,rfl⟩
      obtain ⟨S3,c1,c2,c3,c4⟩:=adH
      have hp3:=c2 _ _ Sb
      rw [c3] at hp3
      obtain ⟨w',S',e1,e2,e3⟩:=ih (i:=i+1) (o:=o+1) (off:=off) (h:=fun x=>yu (f (h d)) r q o (f (h x))) c1 hp3 (EM.mono (fun _ _ hh=>c2 _ _ (b2 _ _ (a4 _ _ hh)))) (by omega) hs
      refine ⟨w',S',?_,e2,e3.trans (c4.trans (b4.trans a6.2.2))⟩
      rw [storeCells]
      simp only [Sem.run_bind,fe]
      rw [BF,ek]
      exact e1
theorem Mg {st st':St} {r:Nat}:∀ {ds:List D} {st st':St} {o:Nat},oc st r o ds=some st'→∀ d∈ds,dg d=true:=by
  intro ds
  induction ds with
  | nil=>intro st st' o _ d hd; simp at hd
  | cons d ds ih=>
    intro st st' o hs x hx
    simp only [oc] at hs
    split at hs
    · simp at hs
    rename_i cQ
    simp only [Bool.not_eq_true',Bool.not_eq_false] at cQ
    split at hs
    case h_2=>simp at hs
    split at hs
    case h_2=>simp at hs
    rcases List.mem_cons.1 hx with rfl | hx
    · exact cQ
    · exact ih hs x hx
theorem U4 {c:cD} (ax:ey c P) {w:World} {st st':St} {S:List (Nat × RT)} (h:Rel C Hx w st aJ S) {t:TypeId} {i:TI} (ht:c.ty t=some i) {a v:D} {ua uv:Value} (ha:cz w (af C w S Hx) S a ua) (hv:cz w (af C w S Hx) S v uv) {qW:Nat→Bool} (hs:vC st qW i.size a v=some st'):
    ∃ w' S',(Instr.storeAt t ua uv).run P w=.ok () w'∧Rel C Hx w' st' aJ S'∧st'.of=st.of:=by
  cases a with
  | ptr r q o=>
    simp only [vC] at hs
    split at hs
    case isFalse=>simp at hs
    rename_i hc
    obtain ⟨hlen,xG⟩:=hc
    obtain ⟨R,b,off,hR,DK,rfl⟩:=vk h.rt h.mem xG ha
    have cE:=(ax.ty _ _ ht).sz w
    have hp:bz w (af C w S Hx) S (.ptr r q 0) (.pointer (some ⟨b,off,none⟩)):=by
      intro R' eo
      rw [hR,Option.some.injEq] at eo
      subst eo
      refine ⟨(ha R hR).1,fun b' FB e=>?_⟩
      rw [DK,Option.some.injEq,Prod.mk.injEq] at e
      obtain ⟨rfl,rfl⟩:=e
      rfl
    have hsa:∀ A:Addr,(Instr.sureAddr (.pointer (some A))).run P w=.ok A w:=fun A=>rfl
    have run:∀ {us:List Value} {w':World},uv.cells.toList=us→us.length=i.size→(storeCells ⟨b,off+o,none⟩ us 0).run P w=.ok () w'→(Instr.storeAt t (.pointer (some ⟨b,off+o,none⟩)) uv).run P w=.ok () w':=by
      intro us w' e1 e2 e3
      have e4:uv.cells.size=i.size:=by rw [← e2,← e1]; simp
      simp only [Instr.storeAt,Sem.run_bind,hsa,Result.andThen_ok,storeVar,cE]
      simp only [e4,ne_eq,not_true_eq_false,if_false,Sem.run_bind,Sem.run_pure,Result.andThen_ok,e1]
      exact e3
    have ko:∀ {ds:List D},oa st r o id ds=some st'∨jk st r q o id ds=some st'→ds=cellsOf v→(∀ cs,v≠.agg cs)→fO st v=true∨∃ d' aQ,jn st v=some (d',aQ)∧dg d'=true:=by
      intro ds h1 h2 h3
      have hc:cellsOf v=[v]:=by cases v<;>first | rfl | exact absurd rfl (h3 _)
      rw [hc] at h2
      subst h2
      rcases h1 with h1 | h1
      · simp only [oa,id] at h1
        split at h1
        · simp at h1
        rename_i cQ
        simp only [Bool.not_eq_true',Bool.not_eq_false] at cQ
        exact .inl cQ
      · simp only [jk,id] at h1
        split at h1
        · rename_i hh
          simp only [Bool.and_eq_true] at hh
          exact .inl hh.2
        split at h1
        case h_2=>simp at h1
        rename_i d' aQ dI
        split at h1
        · simp at h1
        rename_i gM
        simp only [Bool.not_eq_true',Bool.not_eq_false] at gM
        exact .inr ⟨d',aQ,dI,gM⟩
    have pH:∀ {ds:List D},oa st r o id ds=some st'∨jk st r q o id ds=some st'→ds=cellsOf v→cm (bz w (af C w S Hx) S) (cellsOf v) uv.cells.toList:=by
      intro ds h1 h2
      by_cases ez:∃ cs,v=.agg cs
      · obtain ⟨cs,rfl⟩:=ez
        obtain ⟨us,rfl,hh⟩:=hv
        exact hh
      · have h3:∀ cs,v≠.agg cs:=fun cs e=>ez ⟨cs,e⟩
        rcases ko h1 h2 h3 with h4 | ⟨d',aQ,h4,h5⟩
        · exact U2 h.rt h.mem hv (fun _=>h4)
        · have hc:cellsOf v=[v]:=by cases v<;>first | rfl | exact absurd rfl (h3 _)
          have lN:bz w (af C w S Hx) S v uv:=by
            cases v<;>first | exact hv | (simp [jn] at h4; done) | exact absurd rfl (h3 _)
          obtain ⟨t',S1,a1,rfl,a3,_⟩:=vl h lN h4
          have dw:=a1.mem.hand
          simp only [bN] at dw
          have:=(mO dw.1 h5).2
          rw [a3] at this
          rw [hc,this]
          exact .cons lN .nil
    cases q with
    | nil=>
      have hb:∃ b',R.box=some b'∧b'=b∧off=0:=by
        simp only [cj] at DK
        cases hx:R.box with
        | none=>simp [hx] at DK
        | some b'=>simp only [hx,Option.map_some,Option.some.injEq,Prod.mk.injEq] at DK; exact ⟨b',rfl,DK.1,DK.2.symm⟩
      obtain ⟨b',hb,rfl,rfl⟩:=hb
      simp only at hs
      split at hs
      · split at hs
        case h_2=>simp at hs
        rename_i cs aQ dI
        obtain ⟨ts,S1,b1,rfl,b3,b4,b5,b6⟩:=ri h hv dI
        have XN:=Mg (st:=aQ) (st':=st') hs
        obtain ⟨R1,k1,k2,_⟩:=b5.fwd r R hR
        have ec:=((dU _ _).1 b1.mem.hand).1
        rw [cu] at ec
        have gS:aG ts=uv.cells.toList:=by
          by_cases ez:∃ cs,v=.agg cs
          · obtain ⟨cs,rfl⟩:=ez
            exact b3
          · have BH:gT v uv=[uv]:=by cases v<;>first | rfl | exact absurd ⟨_,rfl⟩ ez
            rw [BH] at b3
            rw [b3]
            cases ts with
            | nil=>simp [aG] at b3
            | cons y ys=>
              simp only [aG,List.cons.injEq] at b3
              have:=mO (ec y (by simp)) (XN y.er (by simp [bu]))
              rw [b3.1] at this
              rw [this.2]
        have ZT:(bu ts).length=i.size:=by
          rw [← hlen]
          have h1:=congrArg List.length gS
          rw [bX] at h1
          rw [fx,h1]
          by_cases ez:∃ cs,v=.agg cs
          · obtain ⟨cs,rfl⟩:=ez
            obtain ⟨us,rfl,hh⟩:=hv
            have:=hh.len
            simp only [cellsOf,Value.cells]
            exact this.symm
          · have BH:gT v uv=[uv]:=by cases v<;>first | rfl | exact absurd ⟨_,rfl⟩ ez
            have nc:cellsOf v=[v]:=by cases v<;>first | rfl | exact absurd ⟨_,rfl⟩ ez
            rw [BH] at b3
            rw [← gS,b3,nc]; rfl
        obtain ⟨w',S',c1,c2,c3⟩:=OU (P:=P) (b:=b') (off:=0+o) (i:=0) b1 ⟨R1,k1,k2.trans hb⟩ (by omega) hs
        refine ⟨w',S',?_,c2,c3.trans b6.2.2⟩
        exact run gS.symm (by rw [bX]; rw [fx] at ZT; exact ZT) c1
      · have eb:=pH (.inl hs) rfl
        obtain ⟨w',S',c1,c2,c3⟩:=Q8 (P:=P) (b:=b') (off:=0+o) (i:=0) h ⟨R,hR,hb⟩ eb (by omega) hs
        exact ⟨w',S',run rfl (by rw [← eb.len]; exact hlen) c1,c2,c3⟩
    | cons p q=>
      simp only at hs
      have eb:=pH (.inr hs) rfl
      obtain ⟨w',S',c1,c2,c3⟩:=Q9 (P:=P) (b:=b) (off0:=off) (off:=off+o) (i:=0) h hp eb (by omega) hs
      exact ⟨w',S',run rfl (by rw [← eb.len]; exact hlen) c1,c2,c3⟩
  | _=>simp [vC] at hs
end
end Go.Proofs.YtockoilcnmljiaaGreat
namespace Go.Proofs.YtockoilcnmljiaaGreat
theorem vR {b:Nat}:∀ (vs:List Value) (o:Nat) (w:World) {c:Array Value} {e:TypeId} {fz:Nat × Nat},w.heap[b]?=some (.cells c e fz)→o+vs.length≤c.size→
    ∃ c':Array Value,(w.setCells b o vs).heap[b]?=some (.cells c' e fz)∧c'.size=c.size∧(∀ (j:Nat) (u:Value),vs[j]?=some u→c'[o+j]?=some u)∧(∀ i,i < o∨o+vs.length≤i→c'[i]?=c[i]?)∧(∀ k,k≠b→(w.setCells b o vs).heap[k]?=w.heap[k]?)∧
      (w.setCells b o vs).heap.size=w.heap.size∧(w.setCells b o vs).os=w.os∧(w.setCells b o vs).tape=w.tape∧(w.setCells b o vs).output=w.output
  | [],o,w,c,e,fz,h,_=>⟨c,h,rfl,by simp,fun _ _=>rfl,fun _ _=>rfl,rfl,rfl,rfl,rfl⟩
  | v::vs,o,w,c,e,fz,h,hl=>by
    have h1:(w.setCell ⟨b,o,none⟩ v).heap[b]?=some (.cells (c.setIfInBounds o v) e fz):=by
      simp [World.setCell,Array.getElem?_modify,h]
    simp only [List.length_cons] at hl
    obtain ⟨c',g1,g2,g3,g4,g5,g6,g7,g8,g9⟩:=vR vs (o+1) (w.setCell ⟨b,o,none⟩ v) h1 (by simp; omega)
    refine ⟨c',g1,by rw [g2]; simp,?_,?_,?_,?_,g7,g8,g9⟩
    · intro j u hj
      cases j with
      | zero=>
        simp only [List.getElem?_cons_zero,Option.some.injEq] at hj
        subst hj
        rw [Nat.add_zero,g4 o (.inl (by omega)),Array.getElem?_setIfInBounds_self_of_lt (by omega)]
      | succ j=>
        simp only [List.getElem?_cons_succ] at hj
        have:=g3 j u hj
        rw [show o+(j+1)=o+1+j by omega]; exact this
    · intro i hi
      rw [g4 i (by simp only [List.length_cons] at hi; omega),Array.getElem?_setIfInBounds_ne (by simp only [List.length_cons] at hi; omega)]
    · intro k hk
      rw [World.setCells,g5 k hk]
      simp only [World.setCell,Array.getElem?_modify]
      rw [if_neg (by simpa using Ne.symm hk)]
    · rw [World.setCells,g6]; simp [World.setCell]
section
variable {C:Ctx} {H:List T} {w:World} {st st':St} {aJ:List (Array Value)} {S:List (Nat × RT)}
theorem U5 {Ys:List T} {s n cap m b off:Nat} {ts:List T} (h:Rel C (Ys++.own s n cap (some (b,off)) ts::H) w st aJ S) (hm:Ys.length=m*s) (hc:n+m≤cap):
    Rel C (.own s (n+m) cap (some (b,off)) (ts++Ys)::H) (w.setCells b (off+n*s) (aG Ys)) st aJ S∧
    im C w (w.setCells b (off+n*s) (aG Ys)) S S (Ys++.own s n cap (some (b,off)) ts::H) (.own s (n+m) cap (some (b,off)) (ts++Ys)::H) id:=by
  have dw:=h.mem.hand
  rw [dU] at dw
  obtain ⟨hY,hT⟩:=dw
  simp only [bN,bM] at hT
  obtain ⟨⟨h1,h2,eY,h4⟩,hH⟩:=hT
  obtain ⟨c,e,fz,g1,g2,g3,g4⟩:=eY
  have hmul:n*s+m*s≤cap*s:=by rw [← Nat.add_mul]; exact Nat.mul_le_mul_right _ hc
  obtain ⟨c',k1,k2,k3,k4,k5,k6,k7,k8,k9⟩:=vR (aG Ys) (off+n*s) w g1 (by rw [bX,hm]; omega)
  generalize w.setCells b (off+n*s) (aG Ys)=w' at k1 k5 k6 k7 k8 k9 ⊢
  have ZU:(aj (.own s (n+m) cap (some (b,off)) (ts++Ys)::H)).Perm (aj (Ys++.own s n cap (some (b,off)) ts::H)):=by
    refine List.perm_iff_count.2 fun a=>?_
    simp only [aj,bt,T.ft,jo,List.count_append]
    omega
  have dj:∀ k,k∈aj (.own s (n+m) cap (some (b,off)) (ts++Ys)::H)↔k∈aj (Ys++.own s n cap (some (b,off)) ts::H):=fun k=>ZU.mem_iff
  have hb:b∈aj (Ys++.own s n cap (some (b,off)) ts::H):=by simp [bt,aj,T.ft,jo]
  have eU:=h.mem.nd
  have cF:jB w w' (af C w S (Ys++.own s n cap (some (b,off)) ts::H)) (af C w' S (.own s (n+m) cap (some (b,off)) (ts++Ys)::H)):=by
    intro bb k hk
    exact ⟨⟨by rw [k6]; exact hk.1,hk.2.1,fun hx=>hk.2.2.1 ((dj k).1 hx),hk.2.2.2⟩,k5 k (fun e=>hk.2.2.1 (e▸hb))⟩
  have ea:∀ d u,bz w (af C w S (Ys++.own s n cap (some (b,off)) ts::H)) S d u→bz w' (af C w' S (.own s (n+m) cap (some (b,off)) (ts++Ys)::H)) S d u:=fun d u hd=>tM cF (fun _ _ h=>h) hd
  have U6:∀ k,k∈cM S∨k∈aj ts∨k∈aj Ys∨k∈aj H→k≠b:=by
    intro k hk e
    subst e
    have hn2:(cM S++(aj Ys++(k::aj ts++aj H))).Nodup:=by
      have:=eU
      rw [bt,aj,T.ft,jo] at this
      simpa using this
    have p1:(cM S++(aj Ys++(k::aj ts++aj H))).Perm (k::(cM S++(aj Ys++(aj ts++aj H)))):=by
      refine List.perm_iff_count.2 fun a=>?_
      simp only [List.count_append,List.count_cons]
      omega
    have U7:=p1.nodup_iff.1 hn2
    simp only [List.nodup_cons,List.mem_append] at U7
    rcases hk with hk | hk | hk | hk
    · exact U7.1 (.inl hk)
    · exact U7.1 (.inr (.inr (.inl hk)))
    · exact U7.1 (.inr (.inl hk))
    · exact U7.1 (.inr (.inr (.inr hk)))
  refine ⟨h.sC h.rt rfl rfl ea ⟨(List.Perm.append_left _ ZU).nodup_iff.2 eU,?_,?_,fun k hk=>?_⟩ ?_,ea⟩
  · intro r R hR
    obtain ⟨q1,q2⟩:=h.mem.root r R hR
    have hRS:∀ k∈R.ft,k∈cM S:=fun k hk=>ET hR hk
    refine ⟨?_,fun t ht=>?_⟩
    · cases hx:R.box with
      | none=>trivial
      | some b0=>
        simp only [hx] at q1 ⊢
        obtain ⟨c0,e0,fz0,r1,r2⟩:=q1
        exact ⟨c0,e0,fz0,by rw [k5 b0 (U6 b0 (.inl (hRS b0 (by simp [RT.ft,hx]))))]; exact r1,r2⟩
    · have:=q2 t ht
      cases t with
      | v d u=>
        rcases this with this | ⟨hb,this⟩
        · exact .inl (gy cF _ _ this)
        · exact .inr ⟨hb,ea _ _ this⟩
      | own s' n' uE a' xs=>exact dT cF _ this (fun k hk=>k5 k (U6 k (.inl (hRS k (by simp [RT.ft,DJ ht hk])))))
  · simp only [bN,bM]
    refine ⟨⟨hc,by rw [List.length_append,h2,hm,Nat.add_mul],⟨c',e,fz,k1,by rw [k2]; exact g2,by rw [k2]; exact g3,fun j u hj=>?_⟩,?_⟩,gA cF _ hH (fun k hk=>k5 k (U6 k (.inr (.inr (.inr hk)))))⟩
    · rw [Bm] at hj
      by_cases hjl:j < (aG ts).length
      · rw [List.getElem?_append_left hjl] at hj
        rw [k4 _ (.inl (by rw [bX,h2] at hjl; omega))]
        exact g4 j u hj
      · rw [List.getElem?_append_right (by omega)] at hj
        have:=k3 _ u hj
        rw [bX,h2] at this hjl
        rw [show off+j=off+n*s+(j - n*s) by omega]
        exact this
    · rw [dU]
      exact ⟨gA cF _ h4 (fun k hk=>k5 k (U6 k (.inr (.inl hk)))),gA cF _ hY (fun k hk=>k5 k (U6 k (.inr (.inr (.inl hk)))))⟩
  · rw [k6]
    refine h.mem.lt k ?_
    rcases List.mem_append.1 hk with hk | hk
    · exact List.mem_append.2 (.inl hk)
    · exact List.mem_append.2 (.inr ((dj k).1 hk))
  · refine ⟨by rw [k7]; exact h.kept.os,by rw [k8]; exact h.kept.tape,by rw [k9]; exact h.kept.output,by rw [k6]; exact h.kept.size,fun k q1 q2=>?_,fun k hk=>?_,h.kept.par⟩
    · rw [k5 k (fun e=>?_)]
      · exact h.kept.block k q1 q2
      · subst e
        rcases h.kept.iJ k (List.mem_append.2 (.inr hb)) with h3 | h3
        · exact q2 h3
        · omega
    · refine h.kept.iJ k ?_
      rcases List.mem_append.1 hk with hk | hk
      · exact List.mem_append.2 (.inl hk)
      · exact List.mem_append.2 (.inr ((dj k).1 hk))
theorem tt (h:Rel C H w st aJ S):∀ {ds:List D} {us:List Value},cm (Ext w (af C w S H)) ds us→∃ Ys,Rel C (Ys++H) w st aJ S∧bu Ys=ds∧aG Ys=us∧aj Ys=[]:=by
  intro ds
  induction ds with
  | nil=>intro us hu; cases hu; exact ⟨[],h,rfl,rfl,rfl⟩
  | cons d ds ih=>
    intro us hu
    cases hu with
    | cons h1 h2=>
    obtain ⟨Ys,a1,a2,a3,a4⟩:=ih h2
    rename_i u us
    have ko:bU d=d:=by
      cases d with
      | sl g s n cs=>cases g with
        | none=>simp [Ext] at h1
        | some g=>rfl
      | _=>rfl
    have ES:af C w S (Ys++H)=af C w S H:=by
      funext b k
      simp only [af,bt,a4,List.nil_append]
    exact ⟨.v d u::Ys,G3 a1 (by rw [ES]; exact h1) ko,by simp [bu,T.er,ko,a2],by simp [aG,T.val,a3],by simp [aj,T.ft,a4]⟩
end
end Go.Proofs.YtockoilcnmljiaaGreat
namespace Go.Proofs.YtockoilcnmljiaaGreat
structure XQ (P:Program) (t tx ty e:TypeId) (inf:TypeInfo) (z:Value) (w:World) (ux:Value) (m:Nat) (news:List Value):Prop where
  nil:m=0→news=[]→(Builtin.append_ #[t,tx] ty #[.slice none 0 0,ux]).run P w=.ok (.slice none 0 0) w
  room:∀ b off n cap,n+m≤cap→(n+m)*inf.bytes≤140737488355328→0 < inf.bytes→(∀ j,j < news.length→(w.cell? ⟨b,off+n*inf.size+j,none⟩).isSome=true)→(∀ j,j < news.length→w.frozen? ⟨b,off+n*inf.size+j,none⟩=false)→
    (Builtin.append_ #[t,tx] ty #[.slice (some ⟨b,off,none⟩) n cap,ux]).run P w=.ok (.slice (some ⟨b,off,none⟩) (n+m) cap) (w.setCells b (off+n*inf.size) news)
  grow:∀ base n cap Jr,(Builtin.firstCells inf.size n (.slice base n cap)).run P w.drew=.ok (List.toArray Jr) w.drew→cap < n+m→(n+m)*inf.bytes≤140737488355328→0 < inf.bytes→
    (Builtin.append_ #[t,tx] ty #[.slice base n cap,ux]).run P w=.ok (.slice (some ⟨w.heap.size,0,none⟩) (n+m) (grownCap w (n+m) cap e)) (w.drew.alloc (.cells ((Jr++news).toArray++Builtin.zeroCells z.cells (grownCap w (n+m) cap e - (n+m))) e))
section
variable {P:Program} {w:World} {t tx ty e:TypeId} {inf:TypeInfo} {z:Value} (ht:P.underlying t=some (.slice e)) (hi:P.info? e=some inf) (hz:inf.zero=some z)
include ht hi hz
theorem XR {ux:Value} {m:Nat} {news:List Value} (hs:Src P inf.size tx ux m news w):XQ P t tx ty e inf z w ux m news:=by
  refine ⟨fun hm hn=>?_,fun b off n cap h1 _ _ h2 h3=>run_append_room_src w t tx ty e inf ht hi b off n cap ux m news hs h1 h2 h3,fun base n cap Jr h1 h2 h3 h4=>?_⟩
  · subst hm; subst hn
    have hc:=hs.cells
    rcases hs.kind with ⟨e',hk⟩ | hk<;>simp [Builtin.append_,run_underlying ht,run_underlying hk,sizeOf,typeInfo,hi,hs.len,hc]
  · have hsm:(n+m)*1≤(n+m)*inf.bytes:=Nat.mul_le_mul_left _ h4
    exact run_append_grow_src w t tx ty e inf z ht hi hz base n cap Jr h1 ux m news hs h2 (by omega) (growslice_fits h2 h3)
theorem Tw {k kx:IntKind} (ou:P.underlying tx=some (.int k)) (lM:z.cells.size=inf.size) (cE:0 < inf.size) (m:Nat) (h1:∀ u∈z.cells.toList,u.oneCell'=true):XQ P t tx ty e inf z w (.int kx m) m (List.replicate m z.cells.toList).flatten:=by
  have hzc:Builtin.zeroCells z.cells m=(List.replicate m z.cells.toList).flatten.toArray:=by
    apply Array.ext'
    simp only [Builtin.zeroCells,Array.toList_map,Array.toList_range]
    exact BA z.cells m
  have yc:∀ u∈(List.replicate m z.cells.toList).flatten,u.oneCell'=true:=by
    intro u hu
    simp only [List.mem_flatten,List.mem_replicate] at hu
    obtain ⟨l,⟨_,rfl⟩,hu⟩:=hu
    exact h1 u hu
  refine ⟨fun hm _=>?_,fun b off n cap h2 h3 Hc h4 h5=>?_,fun base n cap Jr h2 h3 h4 h5=>?_⟩
  · subst hm
    have Lp:IntKind.i64.wrap 0=0:=by rw [IntKind.wrap_i64]; rfl
    simp [Builtin.append_,run_underlying ht,run_underlying ou,sizeOf,typeInfo,hi,asInt,asIntOf,Lp]
  · have hsm:(n+m)*1≤(n+m)*inf.bytes:=Nat.mul_le_mul_left _ Hc
    have hw:IntKind.i64.wrap (m:Int)=m:=by rw [IntKind.wrap_i64]; omega
    have aip:¬ ((m:Int) < 0):=by omega
    have hmb:m*inf.bytes≤140737488355328:=Nat.le_trans (Nat.mul_le_mul_right _ (Nat.le_add_left m n)) h3
    have aiq:¬ (281474976710656 < (m:Int)*(inf.bytes:Int)):=by
      rw [← Int.natCast_mul]
      omega
    have cF:=run_storeCells_cells (P:=P) b (off+n*inf.size) (List.replicate m z.cells.toList).flatten 0 w (by simpa using h4) (by simpa using h5) yc
    simp only [Nat.add_zero] at cF
    by_cases hm:m=0
    · subst hm
      simp only [List.replicate_zero,List.flatten_nil] at cF ⊢
      have Lp:IntKind.i64.wrap 0=0:=by rw [IntKind.wrap_i64]; rfl
      simp at h2
      simp [Builtin.append_,run_underlying ht,run_underlying ou,sizeOf,typeInfo,hi,asInt,asIntOf,Lp,h2,storeCells]
      rfl
    · have hns:¬ (m*inf.size=0):=Nat.mul_ne_zero hm (by omega)
      simp [Builtin.append_,run_underlying ht,run_underlying ou,sizeOf,typeInfo,zeroValue,hi,hz,asInt,asIntOf,hw,aip,aiq,h2,hns,hzc,Addr.add_lit,cF]
  · have hsm:(n+m)*1≤(n+m)*inf.bytes:=Nat.mul_le_mul_left _ h5
    have mj:=growslice_fits h3 h4
    have hmb:m*inf.bytes≤140737488355328:=Nat.le_trans (Nat.mul_le_mul_right _ (Nat.le_add_left m n)) h4
    by_cases hm:m=0
    · subst hm
      have Lp:IntKind.i64.wrap 0=0:=by rw [IntKind.wrap_i64]; rfl
      simp only [Nat.add_zero] at mj h3 hsm h4
      have air:¬ (281474976710656 < Builtin.nextslicecap n cap*inf.bytes):=by omega
      have h63:¬ (9223372036854775807 < (n:Int)):=by omega
      have hn:¬ (n≤cap):=by omega
      simp [Builtin.append_,run_underlying ht,run_underlying ou,sizeOf,typeInfo,zeroValue,hi,hz,asInt,asIntOf,Lp,hn,h63,air,Question.forced,h2,newRow,grownCap]
    · have:=Lib.run_append_grow_zeros w t tx ty e inf z kx k ht ou hi hz base n cap Jr h2 m (by omega) cE h3 (by omega) (by omega) mj
      rw [this,hzc]
      congr 3
      apply Array.ext'
      simp
end
end Go.Proofs.YtockoilcnmljiaaGreat
namespace Go.Proofs.YtockoilcnmljiaaGreat
def pY (x:Option (Nat × Nat)) (s:Nat) (ts:List T):List T:=
  match x with
  | none=>ts
  | some (l,m)=>(ts.drop (l*s)).take (m*s)
theorem U8 (x:Option (Nat × Nat)) (s n:Nat) (ts:List T):bu (pY x s ts)=(trim x s n (bu ts)).2:=by
  cases x with
  | none=>rfl
  | some p=>simp only [pY,trim,Bn,Bo]
theorem XS {w:World} {X:Bool→Nat→Prop} {s n cap:Nat} {a:Option (Nat × Nat)} {ts:List T} (hs:bM w X (.own s n cap a ts)) {x:Option (Nat × Nat)} {u:Value} (hr:eT x (.own s n cap a ts) u):
    ∃ uE a',u=xz a' (trim x s n (bu ts)).1 uE∧bM w X (.own s (trim x s n (bu ts)).1 uE a' (pY x s ts)):=by
  cases x with
  | none=>
    simp only [eT,sn,T.er] at hr
    exact ⟨cap,a,hr,hs⟩
  | some p=>
    obtain ⟨l,m⟩:=p
    simp only [eT,sn,T.er,T.val,xz,Value.slice.injEq] at hr
    obtain ⟨h1,base,C,k,⟨h2,_,h3⟩,h4,rfl,h5⟩:=hr
    subst h2; subst h3
    simp only [bM] at hs
    obtain ⟨g1,g2,g3,g4⟩:=hs
    refine ⟨cap - l,a.map fun p=>(p.1,p.2+k*s),?_,?_⟩
    · simp only [xz,Option.map_map,trim]
      congr 1
      cases a<;>simp [fe]
    · simp only [bM,trim,pY]
      refine ⟨by omega,?_,?_,?_⟩
      · rw [List.length_take,List.length_drop,g2]
        have:l*s+m*s≤n*s:=by rw [← Nat.add_mul]; exact Nat.mul_le_mul_right _ h1
        omega
      · cases a with
        | none=>simp only at g3; simp only [Option.map_none]; omega
        | some p=>
          obtain ⟨b,off⟩:=p
          simp only [Option.map_some]
          obtain ⟨c,e,fz,k1,k2,k3,k4⟩:=g3
          refine ⟨c,e,fz,k1,k2,?_,?_⟩
          · rcases h5 with h5 | h5
            · rw [h5]
              have:k*s≤cap*s:=Nat.mul_le_mul_right _ h4
              omega
            · subst h5
              have:k*s+(cap - k)*s=cap*s:=by rw [← Nat.add_mul]; congr 1; omega
              omega
          · intro j u hj
            rw [cW,List.map_take,List.map_drop,← cW,List.getElem?_take] at hj
            split at hj
            · rename_i dp
              rw [List.getElem?_drop] at hj
              have hm:m≠0:=fun e=>by simp [e] at dp
              have:k=l:=by omega
              subst this
              rw [Nat.add_assoc]
              exact k4 _ _ hj
            · simp at hj
      · rw [cu] at g4 ⊢
        exact fun t ht=>g4 t (List.mem_of_mem_drop (List.mem_of_mem_take ht))
theorem Ra {w:World} {X:Bool→Nat→Prop}:∀ {ts:List T},bN w X ts→(bu ts).all iV=true→cm (Ext w X) (bu ts) (aG ts):=by
  intro ts
  induction ts with
  | nil=>intro _ _; exact .nil
  | cons t ts ih=>
    intro hs hf
    simp only [bN] at hs
    simp only [bu,List.all_cons,Bool.and_eq_true] at hf
    refine .cons ?_ (ih hs.2 hf.2)
    cases t with
    | v d u=>exact hs.1
    | own s n cap a cs=>simp [T.er,iV] at hf
theorem OX {d:D} (h:iV d=true):dg d=true:=by
  cases d<;>first | rfl | simp [iV] at h
section
variable {P:Program} {w:World}
theorem BI {sz:Nat} {tx e':TypeId} (hk:P.underlying tx=some (.slice e')) {base:Option Addr} {n cap:Nat} {news:List Value} (hl:news.length=n*sz) (cE:0 < sz)
    (hm:news=[]∨∃ b off,base=some ⟨b,off,none⟩∧∀ (j:Nat) (v:Value),news[j]?=some v→w.cell? ⟨b,off+j,none⟩=some v) (h1:∀ v∈news,v.oneCell'=true):Src P sz tx (.slice base n cap) n news w:=by
  by_cases hn:n=0
  · subst hn
    have:news=[]:=List.length_eq_zero_iff.1 (by rw [hl]; simp)
    subst this
    cases base with
    | none=>exact Src.ofNil w hk cap
    | some a=>exact Src.ofSlice w hk a 0 cap [] (by simp) (by simp) (by simp)
  · rcases hm with rfl | ⟨b,off,rfl,hm⟩
    · have:n*sz=0:=by rw [← hl]; rfl
      rcases Nat.mul_eq_zero.1 this with h | h<;>omega
    · exact Src.ofSlice w hk _ n cap news hl (fun j u hj=>by rw [fe]; exact hm j u hj) h1
theorem vS {c:cD} (ax:ey c P) {tx:TypeId} (h:(match c.ty tx with | some ⟨.slice _,_,_,_⟩=>true | _=>false)=true):∃ e',P.underlying tx=some (.slice e'):=by
  split at h
  · rename_i e _ _ _ heq
    obtain ⟨d,h1,h2⟩:=(ax.ty _ _ heq).desc
    simp only [kM] at h2
    subst h2
    exact ⟨e,h1⟩
  · simp at h
end
section
variable {P:Program} {c:cD} (ax:ey c P) {C:Ctx} {H:List T} {w:World} {st st':St} {aJ:List (Array Value)} {S:List (Nat × RT)}
include ax
theorem U9 (h:Rel C H w st aJ S) {d:D} {u:Value} (hd:cz w (af C w S H) S d u) {flat:Bool} {sz:Nat} (cE:0 < sz) {zs:List D} (hint:∀ k n,d≠.int k n) {ys:List D} {m:Nat} (he:elems st flat zs sz d=some (ys,m,st')) {tx:TypeId} (ou:Ji c tx d=true):
    ∃ Ys S',Rel C (Ys++H) w st' aJ S'∧bu Ys=ys∧Ys.length=m*sz∧Src P sz tx u m (aG Ys) w∧st'.of=st.of∧st'.tm=st.tm∧st'.up=st.up:=by
  have ext:∀ {g:Bool} {s n:Nat} {cs:List D},Ext w (af C w S H) (.sl (some g) s n cs) u→s=sz→cs.all dg=true→(∃ e',P.underlying tx=some (.slice e'))→
      ∃ Ys S',Rel C (Ys++H) w st aJ S'∧bu Ys=cs∧Ys.length=n*sz∧Src P sz tx u n (aG Ys) w:=by
    intro g s n cs hx hs hc ⟨e',hk⟩
    subst hs
    simp only [Ext] at hx
    obtain ⟨base,cap,us,rfl,h1,h2,h3,h4⟩:=hx
    have eb:=(hM _ _).1 h3
    obtain ⟨Ys,a1,a2,a3,a4⟩:=tt h eb
    have yc:∀ v∈us,v.oneCell'=true:=by
      intro v hv
      obtain ⟨i,hi⟩:=List.mem_iff_getElem?.1 hv
      have dp:i < cs.length:=by rw [eb.len]; exact (List.getElem?_eq_some_iff.1 hi).1
      obtain ⟨v',g1,g2⟩:=eb.get (List.getElem?_eq_getElem dp)
      rw [hi,Option.some.injEq] at g1
      subst g1
      exact (Jo g2 (List.all_eq_true.1 hc _ (List.getElem_mem dp))).1
    refine ⟨Ys,S,a1,a2,by rw [← fx,a2,h2],?_⟩
    rw [a3]
    refine BI hk (by rw [← eb.len,h2]) cE ?_ yc
    rcases h4 with h4 | ⟨k,off,c0,e0,fz,rfl,_,g1,g2⟩
    · left
      subst h4
      cases eb
      rfl
    · exact .inr ⟨k,off,rfl,fun j v hj=>by simp [World.cell?,g1,g2 j v hj]⟩
  cases d with
  | int k n=>exact absurd rfl (hint k n)
  | str s=>
    simp only [elems] at he
    split at he
    case isFalse=>simp at he
    rename_i xH
    subst xH
    simp only [Option.some.injEq,Prod.mk.injEq] at he
    obtain ⟨rfl,rfl,rfl⟩:=he
    have hu:u=.string s:=hd
    subst hu
    have eb:cm (Ext w (af C w S H)) (s.data.toList.map dE) (byteCells s):=by
      refine dv (by simp [byteCells]) (fun i a b ha hb=>?_)
      simp only [byteCells,List.getElem?_map] at ha hb
      cases hx:s.data.toList[i]? with
      | none=>simp [hx] at ha
      | some y=>
        simp only [hx,Option.map_some,Option.some.injEq] at ha hb
        subst ha; subst hb
        rfl
    obtain ⟨Ys,a1,a2,a3,a4⟩:=tt h eb
    refine ⟨Ys,S,a1,a2,?_,?_,rfl,rfl,rfl⟩
    · rw [← bX,a3,byteCells_length,Nat.mul_one]
    · rw [a3]
      refine Src.ofString w ?_ s
      simp only [Ji] at ou
      split at ou
      · rename_i heq
        obtain ⟨d,h1,h2⟩:=(ax.ty _ _ heq).desc
        simp only [kM] at h2
        subst h2
        exact h1
      · simp at ou
  | nil s=>
    simp only [elems,Option.some.injEq,Prod.mk.injEq] at he
    obtain ⟨rfl,rfl,rfl⟩:=he
    have hu:u=.slice none 0 0:=hd
    subst hu
    obtain ⟨e',hk⟩:=vS ax ou
    exact ⟨[],S,h,rfl,by simp,by simp only [aG]; exact Src.ofNil w hk 0,rfl,rfl,rfl⟩
  | sl g s n cs=>
    cases g with
    | none=>simp [elems] at he
    | some g=>
      simp only [elems] at he
      split at he
      case isFalse=>simp at he
      rename_i hc
      simp only [Option.some.injEq,Prod.mk.injEq] at he
      obtain ⟨rfl,rfl,rfl⟩:=he
      obtain ⟨Ys,S',a1,a2,a3,a4⟩:=ext hd hc.1 hc.2 (vS ax ou)
      exact ⟨Ys,S',a1,a2,a3,a4,rfl,rfl,rfl⟩
  | ref r q o x=>
    simp only [elems] at he
    split at he
    · rename_i s n cs hc
      obtain ⟨R,l,t0,g1,g2,g3,g4,g5⟩:=iW h.rt hc
      obtain ⟨cap,a,ts,rfl,rfl⟩:=GM g5.symm
      have ec:=tJ h.mem g1 g2 g3 (g:=none) (s:=s) (n:=n) (cs:=bu ts) rfl
      obtain ⟨uE,a',hu,N6⟩:=XS ec (hd _ g4)
      simp only [bM] at N6
      obtain ⟨k1,k2,k3,k4⟩:=N6
      split at he
      · simp at he
      rename_i hss
      simp only [ne_eq,Decidable.not_not] at hss
      subst hss
      have dj:aG (pY x s ts)=[]∨∃ b off,a'.map (fun p=>(⟨p.1,p.2,none⟩:Addr))=some ⟨b,off,none⟩∧∀ (j:Nat) (v:Value),(aG (pY x s ts))[j]?=some v→w.cell? ⟨b,off+j,none⟩=some v:=by
        cases a' with
        | none=>
          left
          have:(pY x s ts).length=0:=by rw [k2]; simp only at k3; rw [k3.1]; simp
          rw [List.length_eq_zero_iff.1 this]; rfl
        | some p=>exact .inr ⟨p.1,p.2,rfl,fun j v hj=>vK k3 hj⟩
      rw [← U8] at he
      split at he
      · rename_i tu
        split at he
        case isFalse=>simp at he
        rename_i hf
        simp only [Option.some.injEq,Prod.mk.injEq] at he
        obtain ⟨rfl,rfl,rfl⟩:=he
        obtain ⟨Ys,b1,b2,b3,b4⟩:=tt h (Ra k4 hf)
        obtain ⟨e',hk⟩:=vS ax ou
        refine ⟨Ys,S,b1,b2,by rw [← fx,b2,fx,k2],?_,rfl,rfl,rfl⟩
        rw [b3,hu]
        refine BI hk (by rw [bX,k2]) cE dj (fun v hv=>?_)
        rw [cW] at hv
        obtain ⟨t,ht,rfl⟩:=List.mem_map.1 hv
        exact (mO ((cu _).1 k4 t ht) (OX (List.all_eq_true.1 hf t.er (by rw [eL]; exact List.mem_map.2 ⟨t,ht,rfl⟩)))).1
      · split at he
        case h_2=>simp at he
        rename_i ys1 aQ dI
        split at he
        case isFalse=>simp at he
        rename_i gM
        simp only [Option.some.injEq,Prod.mk.injEq] at he
        obtain ⟨rfl,rfl,rfl⟩:=he
        have pH:aA R.cs (q++[o])=some ts:=(Ox (bx:=R.box) g2 g3).2
        have eb:cm (bz w (af C w S H) S) (lO r (q++[o]) (off x*s) (bu (pY x s ts))) (aG (pY x s ts)):=by
          refine dv (by rw [qx,fx,bX]) (fun i y v hy hv=>?_)
          rw [oq,iD] at hy
          rw [fv] at hv
          cases hx:(pY x s ts)[i]? with
          | none=>simp [hx] at hy
          | some t=>
            simp only [hx,Option.map_some,Option.some.injEq] at hy hv
            subst hy; subst hv
            refine qw h.mem g1 pH ?_
            cases x with
            | none=>simp only [pY] at hx; simp only [off]; rw [Nat.zero_mul,Nat.zero_add]; exact hx
            | some p=>
              simp only [pY] at hx
              rw [List.getElem?_take] at hx
              split at hx
              · rw [List.getElem?_drop] at hx; exact hx
              · simp at hx
        obtain ⟨Ys,S',b1,b2,b3,b4,b5,b6⟩:=G5 h eb dI
        obtain ⟨e',hk⟩:=vS ax ou
        have dw:=b1.mem.hand
        rw [dU] at dw
        refine ⟨Ys,S',b1,b2,by rw [← bX,b3,bX,k2],?_,b6.2.2,b6.1,b6.2.1⟩
        rw [b3,hu]
        refine BI hk (by rw [bX,k2]) cE dj (fun v hv=>?_)
        rw [← b3,cW] at hv
        obtain ⟨t,ht,rfl⟩:=List.mem_map.1 hv
        exact (mO ((cu _).1 dw.1 t ht) (List.all_eq_true.1 gM t.er (by rw [← b2,eL]; exact List.mem_map.2 ⟨t,ht,rfl⟩))).1
    · rename_i g s n cs hc
      split at he
      case isFalse=>simp at he
      rename_i nc
      simp only [Option.some.injEq,Prod.mk.injEq] at he
      obtain ⟨rfl,rfl,rfl⟩:=he
      obtain ⟨R,l,t0,g1,g2,g3,g4,g5⟩:=iW h.rt hc
      have ec:=tJ h.mem g1 g2 g3 g5.symm
      have ko:t0.ft=[]:=by
        cases t0 with
        | v d u=>rfl
        | own s' n' cap a ts=>simp [T.er] at g5
      have hx:=DG (X':=af C w S H) (fun _ _ h=>h) false g5.symm ec (by simp [ko]) (hd _ g4)
      obtain ⟨Ys,S',a1,a2,a3,a4⟩:=ext hx nc.1 nc.2 (vS ax ou)
      exact ⟨Ys,S',a1,a2,a3,a4,rfl,rfl,rfl⟩
    · simp at he
  | _=>simp [elems] at he
theorem XT (h:Rel C H w st aJ S) {d:D} {u:Value} (hd:cz w (af C w S H) S d u) {t ty e:TypeId} {inf:TypeInfo} {z:Value} (ht:P.underlying t=some (.slice e)) (hi:P.info? e=some inf) (hz:inf.zero=some z) {zs:List D} (lM:cm RW zs z.cells.toList) (EO:zs.length=inf.size)
    (cE:0 < inf.size) {flat:Bool} {ys:List D} {m:Nat} (he:elems st flat zs inf.size d=some (ys,m,st')) {tx:TypeId} (ou:Ji c tx d=true):
    ∃ Ys S',Rel C (Ys++H) w st' aJ S'∧bu Ys=ys∧Ys.length=m*inf.size∧XQ P t tx ty e inf z w u m (aG Ys)∧st'.of=st.of∧st'.tm=st.tm∧st'.up=st.up:=by
  by_cases hint:∃ k n,d=.int k n
  · obtain ⟨k,n,rfl⟩:=hint
    have hu:u=.int k n:=hd
    subst hu
    unfold elems at he
    split at he
    all_goals (try (rename_i heq; simp at heq; done))
    all_goals (try (simp at he; done))
    rename_i n0 heq
    simp only [D.int.injEq] at heq
    obtain ⟨rfl,rfl⟩:=heq
    split at he
    case isFalse=>simp at he
    rename_i hc
    simp only [Option.some.injEq,Prod.mk.injEq] at he
    obtain ⟨rfl,rfl,rfl⟩:=he
    have adL:z.cells.size=inf.size:=by rw [← EO,lM.len]; simp
    obtain ⟨ts,f1,f2,f3,f4⟩:=xF lM n.toNat
    obtain ⟨t0,e1,e2,e3,e4⟩:=OI lM
    have hlen:ts.length=n.toNat*inf.size:=by
      have:=congrArg List.length f2
      rw [bX] at this
      rw [this,List.length_flatten,List.map_replicate,List.sum_replicate_nat,Array.length_toList,adL]
    have yc:∀ u∈z.cells.toList,u.oneCell'=true:=by
      intro u hu
      rw [← e2,cW] at hu
      obtain ⟨t1,BE,rfl⟩:=List.mem_map.1 hu
      refine (mO ((cu _).1 (e4 w (fun _ _=>False)) t1 BE) (List.all_eq_true.1 hc.2 t1.er ?_)).1
      rw [← e1,eL]
      exact List.mem_map.2 ⟨t1,BE,rfl⟩
    have ais:∃ k',P.underlying tx=some (.int k'):=by
      simp only [Ji] at ou
      split at ou
      · rename_i heq
        obtain ⟨d,h1,h2⟩:=(ax.ty _ _ heq).desc
        simp only [kM] at h2
        subst h2
        exact ⟨_,h1⟩
      · simp at ou
    obtain ⟨k',hk'⟩:=ais
    have iE:∀ l:List T,aj l=[]→(∀ w X,bN w X l)→Rel C (l++H) w st aJ S:=by
      intro l ZV ZT
      have ES:af C w S (l++H)=af C w S H:=by
        funext b k
        simp only [af,bt,ZV,List.nil_append]
      obtain ⟨q1,⟨m1,m2,m3,m4⟩,q3,q4⟩:=h
      refine ⟨q1,⟨by rw [bt,ZV]; exact m1,by rw [ES]; exact m2,?_,by rw [bt,ZV]; exact m4⟩,by rw [ES]; exact q3,⟨q4.os,q4.tape,q4.output,q4.size,q4.block,by rw [bt,ZV]; exact q4.iJ,q4.par⟩⟩
      rw [dU,ES]
      exact ⟨ZT _ _,m3⟩
    refine ⟨ts,S,iE ts f3 f4,f1,hlen,?_,rfl,rfl,rfl⟩
    rw [f2]
    have:=Tw (w:=w) (ty:=ty) ht hi hz hk' adL cE n.toNat yc (kx:=.i64)
    rwa [show ((n.toNat:Nat):Int)=n from Int.toNat_of_nonneg hc.1] at this
  · obtain ⟨Ys,S',a1,a2,a3,a4,a5⟩:=U9 ax h hd cE (fun k n e=>hint ⟨k,n,e⟩) he ou
    exact ⟨Ys,S',a1,a2,a3,XR ht hi hz a4,a5⟩
end
end Go.Proofs.YtockoilcnmljiaaGreat
namespace Go.Proofs.YtockoilcnmljiaaGreat
section
variable {P:Program} {c:cD} (ax:ey c P) {C:Ctx} {Hx:List T} {w:World} {st st':St} {vs:Array Value} {aJ:List (Array Value)} {S:List (Nat × RT)} (h:Rel C Hx w st (vs::aJ) S)
include ax h
theorem Va {t tx ty:TypeId} {s x:D} {us ux:Value} (hs:cz w (af C w S Hx) S s us) (hx:cz w (af C w S Hx) S x ux) {d:Nat} (ht:d < vs.size) (hP:∀ p∈C.P0,p.1≠st.of+d) (ha:su c st t tx (some d) s x=some st'):
    ∃ v w',(Builtin.append_ #[t,tx] ty #[us,ux]).run P w=.ok v w'∧(∀ r' R' b',lk S r'=some R'→R'.box=some b'→w'.heap[b']?=w.heap[b']?)∧∃ S',Rel C Hx w' st' (vs.setIfInBounds d v::aJ) S':=by
  unfold su at ha
  split at ha
  case h_2=>simp at ha
  rename_i e tsz tby tz gw
  split at ha
  case h_2=>simp at ha
  rename_i ei jr
  split at ha
  case isFalse=>simp at ha
  rename_i ou
  split at ha
  case h_2=>simp at ha
  rename_i n cs aQ rj
  split at ha
  case h_2=>simp at ha
  rename_i ys m ct gN
  split at ha
  case isFalse=>simp at ha
  rename_i hb
  obtain ⟨cE,hby,mj⟩:=hb
  obtain ⟨inf,h1,h2,h3,z,h4,h5⟩:=(ax.ty _ _ jr).info
  have EO:=(ax.ty _ _ jr).len
  obtain ⟨dd,g1,g2⟩:=(ax.ty _ _ gw).desc
  simp only [kM] at g2
  subst g2
  have lM:z.cells.size=ei.size:=by rw [← EO,h5.len]; simp
  unfold target at rj
  split at rj
  case h_2=>simp at rj
  rename_i s0 n0 cs0 ZS dI
  split at rj
  case isFalse=>simp at rj
  rename_i ZC
  subst ZC
  simp only [Option.some.injEq,Prod.mk.injEq] at rj
  obtain ⟨rfl,rfl,rfl⟩:=rj
  have vL:bz w (af C w S Hx) S s us:=by cases s<;>first | exact hs | (simp [jn] at dI; done)
  obtain ⟨T1,S1,a1,a2,a3,a4,a5,a6,_⟩:=vl h vL dI
  obtain ⟨cap,a,ts,rfl,rfl⟩:=GM a2
  have vP:∀ r' R' b',lk S r'=some R'→R'.box=some b'→b' < w.heap.size∧∀ p,a=some p→b'≠p.1:=by
    intro r' R' b' eE fY
    obtain ⟨R1,e1,e2,_⟩:=a5.fwd r' R' eE
    have mg:b'∈cM S1:=by
      obtain ⟨A,B,e3,_⟩:=me e1
      rw [e3]
      simp [RT.ft,e2.trans fY]
    refine ⟨a1.mem.lt b' (List.mem_append.2 (.inl mg)),fun p hp e=>?_⟩
    subst hp
    exact (List.nodup_append.1 a1.mem.nd).2.2 b' mg p.1 (by simp [aj,T.ft,jo]) e
  obtain ⟨Ys,S2,b1,rfl,b3,b4,b5,b6,b7⟩:=XT (ty:=ty) ax a1 (qz a4 hx) g1 h1 h4 h5 (EO.trans h2.symm) (by rw [h2]; exact cE) (by rw [h2]; exact gN) ou
  rw [h2] at b3
  have rZ:ct.of=st.of:=b5.trans a6.2.2
  have dw:=b1.mem.hand
  rw [dU] at dw
  obtain ⟨hY,hT⟩:=dw
  simp only [bN] at hT
  have hT:=hT.1
  have hT0:=hT
  simp only [bM] at hT
  obtain ⟨k1,k2,k3,k4⟩:=hT
  have Hd:n0+m≤140737488355328:=by
    have:(n0+m)*1≤(n0+m)*ei.bytes:=Nat.mul_le_mul_left _ hby
    omega
  have Oy:us=.slice (a.map fun p=>⟨p.1,p.2,none⟩) n0 cap:=a3.symm
  have eU:(aj (Ys++[T.own ei.size n0 cap a ts])).Nodup:=by
    have h9:=(List.nodup_append.1 b1.mem.nd).2.1
    rw [show Ys++T.own ei.size n0 cap a ts::Hx=(Ys++[T.own ei.size n0 cap a ts])++Hx by simp,bt] at h9
    exact (List.nodup_append.1 h9).1
  by_cases Tx:n0+m≤cap
  ·
    cases a with
    | none=>
      simp only at k3
      obtain ⟨rfl,rfl⟩:=k3
      have G2:m=0:=by omega
      subst G2
      have BJ:ts=[]:=List.length_eq_zero_iff.1 (by rw [k2]; simp)
      have hYs:Ys=[]:=List.length_eq_zero_iff.1 (by rw [b3]; simp)
      subst BJ; subst hYs
      have ek:(Builtin.append_ #[t,tx] ty #[us,ux]).run P w=.ok (.slice none 0 0) w:=by
        rw [Oy]
        exact b4.nil rfl rfl
      refine ⟨_,_,ek,fun _ _ _ _ _=>rfl,?_⟩
      simp only [List.nil_append,bu,List.append_nil,Nat.add_zero] at b1 ha
      refine sH (Hs:=[T.own ei.size 0 0 none []]) (H:=Hx) (R:=⟨none,[T.own ei.size 0 0 none []]⟩) b1 (Grown.refl w) (by simp [RT.ft,aj,T.ft,jo]) (by simp [RT.ft,aj,T.ft,jo]) (fun S' cF ea=>⟨trivial,fun y hy=>?_⟩) ht (by rw [rZ]; exact hP) (d:=fun d=>.ref d [] 0 none) ?_ (by simpa [bu,T.er] using ha)
      · simp only [List.mem_singleton] at hy
        subst hy
        simp [jq,bM,bN]
      · intro S' X qA
        simp only [cz,gL,bz]
        intro y hy
        simp only [cB,qA,aA,List.getElem?_cons_zero,Option.some.injEq] at hy
        subst hy
        simp [eT,sn,T.er,T.val,xz]
    | some p=>
      obtain ⟨b,off⟩:=p
      have hmul:n0*ei.size+m*ei.size≤cap*ei.size:=by rw [← Nat.add_mul]; exact Nat.mul_le_mul_right _ Tx
      obtain ⟨c1,_⟩:=U5 (H:=Hx) b1 b3 Tx
      have ek:(Builtin.append_ #[t,tx] ty #[us,ux]).run P w=.ok (.slice (some ⟨b,off,none⟩) (n0+m) cap) (w.setCells b (off+n0*ei.size) (aG Ys)):=by
        rw [Oy]
        rw [← h2]
        refine b4.room b off n0 cap Tx (by rw [h3]; exact mj) (by rw [h3]; exact hby) (fun j hj=>?_) (fun j hj=>?_)
        · rw [bX,b3] at hj
          rw [h2,Nat.add_assoc]
          obtain ⟨u,hu⟩:=GR (j:=n0*ei.size+j) k3 (by omega)
          rw [hu]; rfl
        · rw [bX,b3] at hj
          rw [h2,Nat.add_assoc]
          exact GQ k3 (by omega)
      refine ⟨_,_,ek,fun r' R' b' eE fY=>?_,?_⟩
      · obtain ⟨c0,e0,fz0,g1,g2,g3,g4⟩:=k3
        exact (vR (aG Ys) (off+n0*ei.size) w g1 (by rw [bX,b3]; omega)).choose_spec.2.2.2.2.1 b' ((vP r' R' b' eE fY).2 _ rfl)
      rw [← vI] at ha
      refine sH (Hs:=[T.own ei.size (n0+m) cap (some (b,off)) (ts++Ys)]) (H:=Hx) (R:=⟨none,[T.own ei.size (n0+m) cap (some (b,off)) (ts++Ys)]⟩) c1 (Grown.refl _) (fun k hk=>.inl (by simpa [RT.ft] using hk)) ?_ (fun S' cF ea=>⟨trivial,fun y hy=>?_⟩) ht (by rw [rZ]; exact hP) (d:=fun d=>.ref d [] 0 none) ?_ (by simpa [bu,T.er] using ha)
      · have:=(List.nodup_append.1 c1.mem.nd).2.1
        rw [← List.singleton_append,bt] at this
        simpa [RT.ft] using (List.nodup_append.1 this).1
      · simp only [List.mem_singleton] at hy
        subst hy
        have:=c1.mem.hand
        simp only [bN] at this
        exact dT cF _ this.1 (fun _ _=>rfl)
      · intro S' X qA
        simp only [cz,gL,bz]
        intro y hy
        simp only [cB,qA,aA,List.getElem?_cons_zero,Option.some.injEq] at hy
        subst hy
        simp [eT,sn,T.er,T.val,xz]
  ·
    have hold:(Builtin.firstCells inf.size n0 (.slice (a.map fun p=>(⟨p.1,p.2,none⟩:Addr)) n0 cap)).run P w.drew=.ok (aG ts).toArray w.drew:=by
      cases a with
      | none=>
        simp only at k3
        have BJ:ts=[]:=List.length_eq_zero_iff.1 (by rw [k2,k3.1]; simp)
        subst BJ
        exact run_firstCells_none _ _ _ _ _
      | some p=>
        exact run_firstCells_some w.drew inf.size n0 _ _ _ (aG ts) (by rw [bX,k2,h2]) (fun j v hj=>by
          rw [fe]
          have:=vK k3 hj
          simpa using this)
    have ek:=b4.grow (a.map fun p=>(⟨p.1,p.2,none⟩:Addr)) n0 cap (aG ts) hold (by omega) (by rw [h3]; exact mj) (by rw [h3]; exact hby)
    rw [← Oy] at ek
    refine ⟨_,_,ek,fun r' R' b' eE fY=>((Grown.drew w).trans (Grown.alloc _ _)).cg b' (vP r' R' b' eE fY).1,?_⟩
    have Bu:=grownCap_ge w (n0+m) cap e
    rw [← vI] at ha
    have hlen:(ts++Ys).length=(n0+m)*ei.size:=by rw [List.length_append,k2,b3,Nat.add_mul]
    refine DH (Hs:=Ys++[T.own ei.size n0 cap a ts]) (H:=Hx) (by simpa using b1) ((Grown.drew w).trans (Grown.alloc _ _)) (ts:=ts++Ys) (b:=w.heap.size) ⟨Nat.le_refl _,by rw [jC]; exact Nat.lt_succ_self _⟩ ?_ ?_ ?_ Bu hlen ?_ ht (by rw [rZ]; exact hP) ha
    · rw [dU,List.append_assoc]
      exact ⟨k4,hY⟩
    · intro k hk
      rw [bt] at hk
      simp only [bt,aj,T.ft,List.append_nil,List.mem_append]
      rcases List.mem_append.1 hk with hk | hk
      · exact .inr (.inr hk)
      · exact .inl hk
    · have p1:(aj (Ys++[T.own ei.size n0 cap a ts])).Perm (jo a++aj (ts++Ys)):=by
        refine List.perm_iff_count.2 fun a=>?_
        simp only [bt,aj,T.ft,List.count_append,List.count_nil]
        omega
      exact (List.nodup_append.1 (p1.nodup_iff.1 eU)).2.1
    · refine kQ w.drew _ e ?_ (fun j u hj=>?_)
      · simp only [Array.size_append,List.size_toArray,List.length_append,bX,k2,b3,size_zeroCells,lM,← Nat.add_mul]
        refine Nat.mul_le_mul_right _ ?_
        omega
      · rw [Bm] at hj
        have dp:=(List.getElem?_eq_some_iff.1 hj).1
        rw [Array.getElem?_append_left (by simpa using dp)]
        simpa using hj
end
end Go.Proofs.YtockoilcnmljiaaGreat
namespace Go.Proofs.YtockoilcnmljiaaGreat
theorem fold_push:∀ (ns:List Int) (s:ByteArray),(ns.foldl (fun r n=>r.push (UInt8.ofNat n.toNat)) s).data.toList=s.data.toList++ns.map (fun n=>UInt8.ofNat n.toNat)
  | [],s=>by simp
  | n::ns,s=>by
    rw [List.foldl_cons,fold_push ns]
    simp [ByteArray.push]
theorem XU {w:World} {X:Bool→Nat→Prop}:∀ {cs:List D} {us:List Value} {bs:List UInt8},cm (adl w X) cs us→lG byteOf cs=some bs→∃ ns:List Int,us=ns.map (Value.int .u8)∧bs=ns.map (fun n=>UInt8.ofNat n.toNat):=by
  intro cs
  induction cs with
  | nil=>
    intro us bs h hm
    cases h
    simp only [lG,Option.some.injEq] at hm
    subst hm
    exact ⟨[],rfl,rfl⟩
  | cons d cs ih=>
    intro us bs h hm
    cases h with
    | cons h1 h2=>
    simp only [lG] at hm
    split at hm
    case h_2=>simp at hm
    rename_i b hb
    split at hm
    case h_2=>simp at hm
    rename_i ZA Lq
    simp only [Option.some.injEq] at hm
    subst hm
    obtain ⟨ns,rfl,rfl⟩:=ih h2 Lq
    unfold byteOf at hb
    split at hb
    case h_2=>simp at hb
    rename_i n
    simp only [Option.some.injEq] at hb
    subst hb
    refine ⟨n::ns,?_,rfl⟩
    simp only [List.map_cons,List.cons.injEq,and_true]
    rcases h1 with h1 | ⟨t,he,rfl,h1⟩
    · exact h1
    · cases t with
      | own s n cap a cs=>simp [T.er] at he
      | v d u=>
        simp only [T.er] at he
        simp only [bM,← he] at h1
        exact h1
section
variable {P:Program} {c:cD} (ax:ey c P) {C:Ctx} {Hx:List T} {w:World} {st st':St} {vs:Array Value} {aJ:List (Array Value)} {S:List (Nat × RT)} (h:Rel C Hx w st (vs::aJ) S)
include ax
theorem vn {t:TypeId} {ti:TI} (ht:c.ty t=some ti):∃ d,P.underlying t=some d∧kM P ti.ty d:=(ax.ty _ _ ht).desc
include h
theorem Rb {src dst e:TypeId} (hs:P.underlying src=some (.slice e)) (he:P.underlying e=some (.int .u8)) (hd:P.underlying dst=some .string) {x:D} {u:Value} (hx:cz w (af C w S Hx) S x u) {g:Option Bool} {n:Nat} {cs:List D} (gC:st.qu x=some (g,1,n,cs)) {bs:List UInt8} (hm:lG byteOf cs=some bs):
    ∀ w2,dP w w2→(convert src dst u).run P w2=.ok (.string ⟨bs.toArray⟩) w2:=by
  have _:=ax
  intro w2 pG
  obtain ⟨base,cap,rfl,h1,h2,h3⟩:=(N3 h.rt h.mem hx gC).ok
  rw [run_convert_bytes_string w2 src dst e base n cap hs he hd]
  rcases h3 with rfl | ⟨b,off,cc,ee,fz,us,rfl,g1,g2,g3⟩
  · simp only [lG,Option.some.injEq] at hm
    subst hm
    have hn:n=0:=by simpa using h2.symm
    subst hn
    cases base with
    | none=>rfl
    | some a=>exact run_bytesToString w2 a 0 cap [] rfl
  · obtain ⟨ns,rfl,rfl⟩:=XU g2 hm
    have hl:ns.length=n:=by have:=g2.len; rw [h2] at this; simpa using this.symm
    have zP:=run_loadCells_list (P:=P) w2 ⟨b,off,none⟩ (ns.map (Value.int .u8)) (fun j v hj=>by
      rw [fe]
      refine pG.cell ?_
      simp [World.cell?,g1,g3 j v hj])
    rw [List.length_map,hl] at zP
    rw [run_bytesToString w2 _ n cap ns zP]
    congr 2
    have:=fold_push ns ByteArray.empty
    have h4:(ns.foldl (fun r n=>r.push (UInt8.ofNat n.toNat)) ByteArray.empty).data=(ns.map (fun n=>UInt8.ofNat n.toNat)).toArray:=by
      apply Array.ext'
      rw [this]
      simp
    generalize ns.foldl (fun r n=>r.push (UInt8.ofNat n.toNat)) ByteArray.empty=z at h4 ⊢
    cases z
    simp only at h4
    rw [h4]
theorem Rc {src dst e:TypeId} (hs:P.underlying src=some .string) (hd:P.underlying dst=some (.slice e)) (he:P.underlying e=some (.int .u8)) {s:ByteArray} {t:Nat} (ht:t < vs.size) (hP:∀ p∈C.P0,p.1≠st.of+t)
    (hr:st.root (some t) [.sl none 1 s.size (s.data.toList.map dE)] (fun d=>.ref d [] 0 none)=some st'):
    ∃ v w',(convert src dst (.string s)).run P w=.ok v w'∧∃ S',Rel C Hx w' st' (vs.setIfInBounds t v::aJ) S':=by
  have _:=ax
  have eb:cm (Ext w (af C w S Hx)) (s.data.toList.map dE) (byteCells s):=by
    refine dv (by simp [byteCells]) (fun i a b ha hb=>?_)
    simp only [byteCells,List.getElem?_map] at ha hb
    cases hx:s.data.toList[i]? with
    | none=>simp [hx] at ha
    | some y=>
      simp only [hx,Option.map_some,Option.some.injEq] at ha hb
      subst ha; subst hb
      rfl
  obtain ⟨Ys,a1,a2,a3,a4⟩:=tt h eb
  have zF:s.size≤grownCap w s.size 0 e:=grownCap_ge w s.size 0 e
  let cells:Array Value:=(s.data.map fun b=>Value.int .u8 b.toNat)++Array.replicate (grownCap w s.size 0 e - s.size) (.int .u8 0)
  have eM:cells.size=grownCap w s.size 0 e:=by
    simp only [cells,Array.size_append,Array.size_map,Array.size_replicate]
    have:s.data.size=s.size:=rfl
    omega
  let w1:=(w.drew.alloc (.cells cells e)).freeze ⟨w.heap.size,cells.size,none⟩ 1
  have zM:(w.drew.alloc (.cells cells e)).heap[w.heap.size]?=some (.cells cells e (0,0)):=Lg w.drew _
  have ek:(convert src dst (.string s)).run P w=.ok (.slice (some ⟨w.heap.size,0,none⟩) s.size (grownCap w s.size 0 e)) w1:=by
    have hsh:(w.drew.alloc (.cells cells e)).shape? w.heap.size=some (e,cells.size):=by
      simp only [World.shape?,zM]
    simp only [convert,Sem.run_bind,run_underlying hs,run_underlying hd,run_underlying he,Result.andThen_ok]
    simp only [Conv.stringToBytes,Sem.run_bind,run_choose,Question.forced,Bool.false_eq_true,if_false,Result.andThen_ok,newRow,run_newObj,Sem.run_pure,markStringish,run_shape]
    have adN:World.shape? { os:=w.os,heap:=w.heap.push (.cells cells e),tape:=w.tape,drawn:=w.drawn+1,output:=w.output } w.heap.size=some (e,cells.size):=hsh
    simp only [cells,grownCap] at adN
    rw [adN]
    simp only [run_freeze,Result.andThen_ok]
    rfl
  refine ⟨_,_,ek,?_⟩
  have cE:w1.heap.size=w.heap.size+1:=by
    show (World.freeze _ _ 1).heap.size=_
    simp only [World.freeze,Nat.one_ne_zero,if_false,Array.size_modify]
    exact jC w.drew _
  have hg:Grown w w1:=by
    refine ⟨by omega,fun k hk=>?_,rfl,rfl,rfl⟩
    show (World.freeze _ _ 1).heap[k]?=_
    simp only [World.freeze,Nat.one_ne_zero,if_false,Array.getElem?_modify]
    rw [if_neg (by omega)]
    exact (Grown.alloc w.drew _).cg k hk
  have eY:lL w1 w.heap.size 0 (grownCap w s.size 0 e*1) (aG Ys):=by
    refine ⟨cells,e,(cells.size,cells.size+1),?_,fun o ho=>by simp only; omega,by rw [eM]; omega,fun j u hj=>?_⟩
    · show (World.freeze _ _ 1).heap[w.heap.size]?=_
      simp only [World.freeze,Nat.one_ne_zero,if_false,Array.getElem?_modify,if_true]
      rw [zM]
      rfl
    · rw [a3] at hj
      have dp:=(List.getElem?_eq_some_iff.1 hj).1
      rw [byteCells_length] at dp
      simp only [cells,Nat.zero_add]
      rw [Array.getElem?_append_left (by simpa using dp)]
      simp only [byteCells,List.getElem?_map] at hj
      simpa using hj
  rw [← a2] at hr
  exact DH (Hs:=Ys) (H:=Hx) a1 hg ⟨Nat.le_refl _,by omega⟩ ((dU _ _).1 a1.mem.hand).1 (fun _ h=>h) (by rw [a4]; simp) zF (by rw [← bX,a3,byteCells_length,Nat.mul_one]) eY ht hP hr
end
end Go.Proofs.YtockoilcnmljiaaGreat
namespace Go.Proofs.YtockoilcnmljiaaGreat
section
variable {P:Program} {c:cD} (ax:ey c P) {C:Ctx} {w:World} {st:St} {S:List (Nat × RT)} {X:Bool→Nat→Prop}
include ax
theorem OY {t:TypeId} {x d':D} {u:Value} {k:IntKind} {i:Int} (hx:cz w X S x u) (h:yt c t x i=some d'):∃ r,(∀ w:World,(Instr.index t u (.int k i)).run P w=.ok r w)∧cz w X S d' r:=by
  unfold yt at h
  split at h
  · rename_i _ _ _ s ht
    obtain ⟨d,h1,h2⟩:=(ax.ty _ _ ht).desc
    simp only [kM] at h2
    subst h2
    have hu:u=.string s:=hx
    subst hu
    obtain ⟨g1,g2,g3⟩:=mM h
    cases hb:s.data.toList[i.toNat]? with
    | none=>simp [hb] at g3
    | some b=>
      simp only [hb,Option.map_some,Option.some.injEq] at g3
      subst g3
      have dp:i.toNat < s.size:=by omega
      have nG:s[i.toNat]?=some b:=by
        have h5:s.data[i.toNat]?=some b:=by rw [← Array.getElem?_toList]; exact hb
        rw [getElem?_pos s i.toNat dp]
        rw [Array.getElem?_eq_getElem dp] at h5
        exact h5
      refine ⟨.int .u8 b.toNat,?_,rfl⟩
      intro w
      simp only [Instr.index,asIntOf,Sem.run_bind,Sem.run_pure,Result.andThen_ok,run_underlying h1,if_pos g1,nG]
  · rename_i n e _ _ _ cs ht
    split at h
    case h_2=>simp at h
    rename_i ei he
    obtain ⟨d,h1,h2⟩:=(ax.ty _ _ ht).desc
    simp only [kM] at h2
    subst h2
    obtain ⟨us,rfl,hu⟩:=hx
    obtain ⟨g1,g2,g3⟩:=mM h
    have cE:=fun w=>(ax.ty _ _ he).sz w
    have EU:=fun w=>(ax.ty _ _ he).agg w
    have hir:(0≤i∧i < (n:Int)):=⟨g1,g2⟩
    split at g3
    · rename_i ez
      simp only [Option.some.injEq] at g3
      subst g3
      refine ⟨.agg (us.extract (i.toNat*ei.size) (i.toNat*ei.size+ei.size)),?_,?_⟩
      · intro w; simp [Instr.index,asIntOf,run_underlying h1,hir,cE,part,EU,ez]
      · refine ⟨_,rfl,?_⟩
        have:=(hu.drop (i.toNat*ei.size)).take ei.size
        simpa [Array.toList_extract,List.extract] using this
    · rename_i ez
      obtain ⟨v,g4,g5⟩:=hu.get g3
      refine ⟨v,?_,mL g5⟩
      rw [Array.getElem?_toList] at g4
      simp only [Bool.not_eq_true] at ez
      intro w; simp [Instr.index,asIntOf,run_underlying h1,hir,cE,part,EU,ez,g4]
  · simp at h
end
theorem Rel.BK {C:Ctx} {H:List T} {w:World} {st:St} {a:Act} {aJ:List (Array Value)} {S:List (Nat × RT)} (h:Rel C H w st (a.tmps::aJ) S) {dst:Option Nat} (ht:∀ t,dst=some t→t < a.tmps.size) {d:D} {v:Value} (hv:cz w (af C w S H) S d v):
    Rel C H w (st.put dst d) ((a.put dst v).tmps::aJ) S:=by
  cases dst with
  | none=>exact h
  | some t=>exact h.put (ht t rfl) hv
theorem js (st:St) (dst:Option Nat) (d:D):(st.put dst d).of=st.of:=by cases dst<;>rfl
theorem vo {st st':St} {dst:Option Nat} {cs:List D} {d:Nat→D} (h:st.root dst cs d=some st'):st'.of=st.of∧∃ t,dst=some t:=by
  cases dst with
  | none=>simp [St.root] at h
  | some t=>
    simp only [St.root,Option.some.injEq] at h
    subst h
    exact ⟨rfl,t,rfl⟩
theorem cX (a:Act) (dst:Option Nat) (v:Value):(a.put dst v).tmps.size=a.tmps.size∧(a.put dst v).defers=a.defers:=by
  cases dst<;>simp [Act.put]
end Go.Proofs.YtockoilcnmljiaaGreat
namespace Go.Proofs.YtockoilcnmljiaaGreat
section
variable {P:Program} {c:cD} (ax:ey c P) {C:Ctx} {Hx:List T} {w:World} {st st':St} {vs:Array Value} {aJ:List (Array Value)} {S:List (Nat × RT)} (h:Rel C Hx w st (vs::aJ) S)
include ax h
theorem OZ {src dst:TypeId} {x d:D} {u:Value} (hx:cz w (af C w S Hx) S x u) (hc:xx c st src dst x=some (d,none)):∃ r,(∀ w2,dP w w2→(convert src dst u).run P w2=.ok r w2)∧cz w (af C w S Hx) S d r:=by
  unfold xx at hc
  split at hc
  case h_2=>simp at hc
  rename_i si di ZW Vb
  obtain ⟨ds,xH,r8⟩:=vn ax ZW
  obtain ⟨dd,BL,nf⟩:=vn ax Vb
  split at hc
  · rename_i k _ n hk
    rw [hk] at nf
    simp only [kM] at nf
    subst nf
    simp only [Option.some.injEq,Prod.mk.injEq,and_true] at hc
    subst hc
    have hu:=gB hx
    subst hu
    refine ⟨.int k (k.wrap n),?_,UJ _ _⟩
    intro w2 _; simp [convert,run_underlying xH,run_underlying BL,Conv.intToInt]
  · rename_i n hk
    rw [hk] at nf
    simp only [kM] at nf
    subst nf
    simp only [Option.some.injEq,Prod.mk.injEq,and_true] at hc
    subst hc
    have hu:=gB hx
    subst hu
    refine ⟨.string (Utf8.encode n),?_,tvs _⟩
    intro w2 _; simp [convert,run_underlying xH,run_underlying BL,Conv.intToString]
  · rename_i s hk
    rw [hk] at nf
    simp only [kM] at nf
    subst nf
    simp only [Option.some.injEq,Prod.mk.injEq,and_true] at hc
    subst hc
    have hu:=yy hx
    subst hu
    refine ⟨.string s,?_,tvs _⟩
    intro w2 _; simp [convert,run_underlying xH,run_underlying BL]
  · rename_i e hk AD _ _
    rw [hk] at nf
    rw [AD] at r8
    simp only [kM] at nf r8
    subst nf; subst r8
    split at hc
    case h_2=>simp at hc
    rename_i he
    obtain ⟨de,ZX,Sc⟩:=vn ax he
    simp only [kM] at Sc
    subst Sc
    split at hc
    case h_2=>simp at hc
    rename_i g s n cs gC
    split at hc
    case isFalse=>simp at hc
    rename_i hs
    subst hs
    split at hc
    case h_2=>simp at hc
    rename_i bs hm
    simp only [Option.some.injEq,Prod.mk.injEq,and_true] at hc
    subst hc
    exact ⟨_,Rb ax h xH ZX BL hx gC hm,tvs _⟩
  · split at hc<;>simp at hc
  · simp at hc
theorem Vc {src dst:TypeId} {x d:D} {cs:List D} {u:Value} (hx:cz w (af C w S Hx) S x u) (hc:xx c st src dst x=some (d,some cs)) {t:Nat} (ht:t < vs.size) (hP:∀ p∈C.P0,p.1≠st.of+t)
    (hr:st.root (some t) cs (fun d=>.ref d [] 0 none)=some st'):∃ v w',(convert src dst u).run P w=.ok v w'∧∃ S',Rel C Hx w' st' (vs.setIfInBounds t v::aJ) S':=by
  unfold xx at hc
  split at hc
  case h_2=>simp at hc
  rename_i si di ZW Vb
  obtain ⟨ds,xH,r8⟩:=vn ax ZW
  obtain ⟨dd,BL,nf⟩:=vn ax Vb
  split at hc
  · simp at hc
  · simp at hc
  · simp at hc
  · split at hc
    · split at hc
      · split at hc
        · split at hc<;>simp at hc
        · simp at hc
      · simp at hc
    · simp at hc
  · rename_i e s hk AD
    rw [hk] at nf
    rw [AD] at r8
    simp only [kM] at nf r8
    subst nf; subst r8
    split at hc
    case h_2=>simp at hc
    rename_i he
    obtain ⟨de,ZX,Sc⟩:=vn ax he
    simp only [kM] at Sc
    subst Sc
    simp only [Option.some.injEq,Prod.mk.injEq] at hc
    obtain ⟨_,rfl⟩:=hc
    have hu:=yy hx
    subst hu
    exact Rc ax h xH BL ZX ht hP hr
  · simp at hc
end
end Go.Proofs.YtockoilcnmljiaaGreat
namespace Go.Proofs.YtockoilcnmljiaaGreat
theorem Vd {st st':St} {d d':D} (h:jn st d=some (d',st')):st'.of=st.of:=by
  unfold jn at h
  split at h<;>try (simp only [Option.some.injEq,Prod.mk.injEq] at h; obtain ⟨_,rfl⟩:=h; rfl)
  · split at h
    · split at h
      · rename_i aQ hs
        simp only [Option.some.injEq,Prod.mk.injEq] at h
        obtain ⟨_,rfl⟩:=h
        unfold St.iz at hs
        split at hs
        · split at hs
          · simp only [Option.some.injEq] at hs
            subst hs; rfl
          · simp at hs
        · simp at hs
      · simp at h
    · simp only [Option.some.injEq,Prod.mk.injEq] at h; obtain ⟨_,rfl⟩:=h; rfl
    · simp at h
  · simp at h
theorem O0:∀ {ds ds':List D} {st st':St},rY st ds=some (ds',st')→st'.of=st.of
  | [],ds',st,st',h=>by simp only [rY,Option.some.injEq,Prod.mk.injEq] at h; obtain ⟨_,rfl⟩:=h; rfl
  | d::ds,ds',st,st',h=>by
    simp only [rY] at h
    split at h
    case h_2=>simp at h
    rename_i d1 aQ h1
    split at h
    case h_2=>simp at h
    rename_i gv ct h2
    simp only [Option.some.injEq,Prod.mk.injEq] at h
    obtain ⟨_,rfl⟩:=h
    exact (O0 h2).trans (Vd h1)
theorem Ve {c:cD} {st st':St} {t tx:TypeId} {dst:Option Nat} {s x:D} (h:su c st t tx dst s x=some st'):∃ ct:St,∃ cs:List D,ct.of=st.of∧ct.root dst cs (fun d=>.ref d [] 0 none)=some st':=by
  unfold su at h
  split at h
  case h_2=>simp at h
  split at h
  case h_2=>simp at h
  split at h
  case isFalse=>simp at h
  split at h
  case h_2=>simp at h
  rename_i n cs aQ rj
  split at h
  case h_2=>simp at h
  rename_i ys m ct gN
  split at h
  case isFalse=>simp at h
  refine ⟨ct,_,?_,h⟩
  have h1:aQ.of=st.of:=by
    unfold target at rj
    split at rj
    · rename_i s' n' cs' EH dI
      split at rj
      · simp only [Option.some.injEq,Prod.mk.injEq] at rj
        obtain ⟨_,_,rfl⟩:=rj
        exact Vd dI
      · simp at rj
    · simp at rj
  have h2:ct.of=aQ.of:=by
    unfold elems at gN
    split at gN<;>try (simp at gN; done)
    · split at gN<;>simp only [Option.some.injEq,Prod.mk.injEq,reduceCtorEq] at gN
      obtain ⟨_,_,rfl⟩:=gN; rfl
    · split at gN<;>simp only [Option.some.injEq,Prod.mk.injEq,reduceCtorEq] at gN
      obtain ⟨_,_,rfl⟩:=gN; rfl
    · simp only [Option.some.injEq,Prod.mk.injEq] at gN
      obtain ⟨_,_,rfl⟩:=gN; rfl
    · split at gN<;>simp only [Option.some.injEq,Prod.mk.injEq,reduceCtorEq] at gN
      obtain ⟨_,_,rfl⟩:=gN; rfl
    · split at gN
      · split at gN
        · simp at gN
        · split at gN
          · split at gN<;>simp only [Option.some.injEq,Prod.mk.injEq,reduceCtorEq] at gN
            obtain ⟨_,_,rfl⟩:=gN; rfl
          · split at gN
            · rename_i ys' st4 dI
              split at gN<;>simp only [Option.some.injEq,Prod.mk.injEq,reduceCtorEq] at gN
              obtain ⟨_,_,rfl⟩:=gN
              exact O0 dI
            · simp at gN
      · split at gN<;>simp only [Option.some.injEq,Prod.mk.injEq,reduceCtorEq] at gN
        obtain ⟨_,_,rfl⟩:=gN; rfl
      · simp at gN
  exact h2.trans h1
theorem Vf (A:Addr) (i:Nat):(A.add i).block=A.block:=by
  obtain ⟨b,o,s⟩:=A
  cases s<;>first | rfl | (simp only [Addr.add]; split<;>rfl)
theorem Mh (w:World) (a:Addr) (v:Value) {k:Nat} (hk:k≠a.block):(w.setCell a v).heap[k]?=w.heap[k]?:=by
  simp [World.setCell,Array.getElem?_modify,Ne.symm hk]
theorem vT {P:Program} {b:Nat}:∀ {us:List Value} {w w':World} {i:Nat},∀ A:Addr,A.block=b→(∃ c e fz,w.heap[b]?=some (.cells c e fz))→(storeCells A us i).run P w=.ok () w'→∀ k,k≠b→w'.heap[k]?=w.heap[k]?
  | [],w,w',i,A,hA,_,h,k,hk=>by
    simp only [storeCells,Sem.run_pure,Result.ok.injEq,true_and] at h
    rw [h]
  | u::us,w,w',i,A0,qD,⟨c,e,fz,hb⟩,h,k,hk=>by
    have step:∀ w1:World,(store (Addr.add A0 i) u).run P w=.ok () w1→(∃ c e fz,w1.heap[b]?=some (.cells c e fz))∧w1.heap[k]?=w.heap[k]?:=by
      intro w1 h1
      have eY:(Addr.add A0 i).block=b:=by rw [Vf,qD]
      generalize Addr.add A0 i=A at h1 eY
      have ZI:∀ v m,∀ r,w.farStore P A v m≠.ok r:=by
        intro v m r
        unfold World.farStore
        rw [eY,hb]
        simp
      have main:u.oneCell'=true→(∃ c e fz,w1.heap[b]?=some (.cells c e fz))∧w1.heap[k]?=w.heap[k]?:=by
        intro h1c
        rw [run_store P w A u _ h1c] at h1
        split at h1
        · split at h1
          · simp at h1
          · simp only [Result.ok.injEq,true_and] at h1
            subst h1
            refine ⟨?_,Mh w A u (by rw [eY]; exact hk)⟩
            simp only [World.setCell,Array.getElem?_modify,eY,if_true,hb,Option.map_some]
            exact ⟨_,_,_,rfl⟩
        · split at h1
          · rename_i r hr
            exact absurd hr (ZI _ _ _)
          · simp at h1
      cases u with
      | agg us=>simp [store,Sem.run] at h1
      | tuple us=>simp [store,Sem.run] at h1
      | _=>exact main rfl
    rw [storeCells,Sem.run_bind] at h
    cases hs:(store (Addr.add A0 i) u).run P w with
    | ok _ w1=>
      rw [hs,Result.andThen_ok] at h
      obtain ⟨h2,h3⟩:=step w1 hs
      rw [vT A0 qD h2 h k hk,h3]
    | halt x w1=>
      rw [hs] at h
      simp [Result.andThen] at h
structure AE (o:Oper) (a:Act) (S:List (Nat × RT)) (w w':World):Prop where
  al:tH o=true→dP w w'
  ap:∀ cc,o.op=.call cc→cc.callee=.builtin .append→∀ r R b,lk S r=some R→R.box=some b→w'.heap[b]?=w.heap[b]?
  st:∀ t x y,o.op=.store t x y→∀ A,a.eval x=.pointer (some A)→(∃ c e fz,w.heap[A.block]?=some (.cells c e fz))→∀ k,k≠A.block→w'.heap[k]?=w.heap[k]?
theorem AE.refl (o:Oper) (a:Act) (S:List (Nat × RT)) (w:World):AE o a S w w:=⟨fun _=>dP.refl w,fun _ _ _ _ _ _ _ _=>rfl,fun _ _ _ _ _ _ _ _ _=>rfl⟩
theorem AE.alloc {o:Oper} {a:Act} {S:List (Nat × RT)} {w w':World} (h:dP w w') (h2:tH o=true):AE o a S w w':=⟨fun _=>h,fun cc e=>by simp [tH,e] at h2,fun t x y e=>by simp [tH,e] at h2⟩
section
variable {P:Program} {c:cD} (ax:ey c P) {C:Ctx} {Hx:List T} {w:World} {st st':St} {o:Oper} {a:Act} {aJ:List (Array Value)} {S:List (Nat × RT)} {K:Act→World→Prop} {Q:Exit→Act→World→Prop}
  {cl:FuncId→List D→Option (D × List D)} {ci:FuncId→List D→Nat→St→Option (D × St)} {aD:FuncId}
include ax
theorem Vg (h:Rel C Hx w st (a.tmps::aJ) S) (gz:∀ t,o.dst=some t→t < a.tmps.size∧∀ p∈C.P0,p.1≠st.of+t) (pb:∀ cc f,o.op=.call cc→cc.callee≠.value f) (aq:fu c cl ci aD st o=some st')
    (hK:∀ a' w' S',Rel C Hx w' st' (a'.tmps::aJ) S'→a'.tmps.size=a.tmps.size→a'.defers=a.defers→st'.of=st.of→AE o a S w w'→K a' w'):o.wp P a w K Q:=by
  have fZ:mF w (af C w S Hx) S st.tm a.tmps:=by cases h.pE with | cons a _=>exact a
  have ev:=fun t x=>xB (c:=c) fZ t x
  have BL:∀ t,o.dst=some t→t < a.tmps.size:=fun t ht=>(gz t ht).1
  have cP:∀ {d:D} {v:Value},(execOp a.eval o).run P w=.ok (.value v) w→cz w (af C w S Hx) S d v→st'=st.put o.dst d→o.wp P a w K Q:=by
    intro d v ek hv cF
    subst cF
    refine qc ek (hK _ _ S (h.BK BL hv) (cX a o.dst v).1 (cX a o.dst v).2 (js st o.dst d) (AE.refl o a S w))
  have zQ:∀ {aQ:St} {cs:List D} {dd:Nat→D},aQ.of=st.of→aQ.root o.dst cs dd=some st'→(∀ t,o.dst=some t→t < a.tmps.size→(∀ p∈C.P0,p.1≠st.of+t)→aQ.root (some t) cs dd=some st'→∃ v w',(execOp a.eval o).run P w=.ok (.value v) w'∧AE o a S w w'∧∃ S',Rel C Hx w' st' (a.tmps.setIfInBounds t v::aJ) S')→o.wp P a w K Q:=by
    intro aQ cs dd rZ hr hk
    obtain ⟨h1,t,ht⟩:=vo hr
    rw [ht] at hr
    obtain ⟨v,w',ek,BM,S',iE⟩:=hk t ht (gz t ht).1 (gz t ht).2 hr
    refine qc ek (hK _ _ S' ?_ (cX a o.dst v).1 (cX a o.dst v).2 (h1.trans rZ) BM)
    rw [ht]
    exact iE
  unfold fu at aq
  cases ho:o.op with
  | move x=>
    simp only [ho,Option.some.injEq] at aq
    exact cP (by unfold execOp; simp only [ho]; rfl) (ev o.type x) aq.symm
  | assign x=>
    simp only [ho,Option.some.injEq] at aq
    exact cP (by unfold execOp; simp only [ho]; rfl) (ev o.type x) aq.symm
  | pick b x y=>
    simp only [ho] at aq
    split at aq
    case h_2=>simp at aq
    rename_i t hb
    simp only [Option.some.injEq] at aq
    have He:=ev o.type b
    rw [hb] at He
    have He:a.eval b=.bool t:=He
    refine cP (v:=if t then a.eval x else a.eval y) (d:=if t then cx c st o.type x else cx c st o.type y) ?_ ?_ aq.symm
    · unfold execOp
      simp only [ho,He,asBool,Sem.run_bind,Sem.run_pure,Result.andThen_ok]
    · cases t
      · exact ev o.type y
      · exact ev o.type x
  | alloc e=>
    simp only [ho] at aq
    split at aq
    case h_2=>simp at aq
    rename_i i hi
    refine zQ rfl aq (fun t ht h1 h2 h3=>?_)
    obtain ⟨v,w',hr,hG,hS⟩:=XK ax h hi h1 h2 h3
    exact ⟨v,w',by unfold execOp; simp only [ho,Sem.run_bind,hr,Result.andThen_ok,Sem.run_pure],.alloc hG (by simp [tH,ho]),hS⟩
  | box e x=>
    simp only [ho] at aq
    split at aq
    case h_2=>simp at aq
    rename_i i hi
    by_cases cF:c.qW aD (o.dst.getD 0)=true
    · simp only [cF,if_true,and_true] at aq
      split at aq
      case isFalse=>simp at aq
      rename_i hc
      split at aq
      case h_2=>simp at aq
      rename_i t ht
      rw [ht] at cF
      simp only [Option.getD_some] at cF
      simp only [cF,if_true] at aq
      split at aq
      case h_2=>simp at aq
      rename_i cs aQ dI
      split at aq
      case isFalse=>simp at aq
      rename_i eM
      obtain ⟨v,w',hr,hG,S',iE⟩:=UY ax h hc dI eM (gz t ht).1 (gz t ht).2 aq
      refine qc (v:=v) (w':=w') (by unfold execOp; simp only [ho,Sem.run_bind,hr,Result.andThen_ok,Sem.run_pure]) (hK _ _ S' (by rw [ht]; exact iE) (cX a o.dst v).1 (cX a o.dst v).2 ((vo aq).1.trans (O0 dI)) (.alloc hG (by simp [tH,ho])))
    · simp only [cF,Bool.false_eq_true,if_false] at aq
      split at aq
      case isFalse=>simp at aq
      rename_i hc
      split at aq
      case h_2=>simp at aq
      rename_i t ht
      rw [ht] at cF
      simp only [Option.getD_some] at cF
      simp only [cF,Bool.false_eq_true,if_false] at aq
      obtain ⟨v,w',hr,hG,S',iE⟩:=adD ax h hc.1 hc.2 (gz t ht).1 (gz t ht).2 aq
      refine qc (v:=v) (w':=w') (by unfold execOp; simp only [ho,Sem.run_bind,hr,Result.andThen_ok,Sem.run_pure]) (hK _ _ S' (by rw [ht]; exact iE) (cX a o.dst v).1 (cX a o.dst v).2 (vo aq).1 (.alloc hG (by simp [tH,ho])))
  | build t ps=>
    simp only [ho] at aq
    split at aq
    · rename_i mb szs sz qy z gw
      split at aq
      case h_2=>simp at aq
      rename_i cs hf
      simp only [Option.some.injEq] at aq
      obtain ⟨v,hr,hv⟩:=BC ax h gw hf
      exact cP (by unfold execOp; simp only [ho,Sem.run_bind,hr,Result.andThen_ok,Sem.run_pure]) hv aq.symm
    · rename_i n e sz qy z gw
      split at aq
      case h_2=>simp at aq
      rename_i ei jr
      split at aq
      case h_2=>simp at aq
      rename_i cs hf
      simp only [Option.some.injEq] at aq
      obtain ⟨v,hr,hv⟩:=ER ax h gw jr hf
      exact cP (by unfold execOp; simp only [ho,Sem.run_bind,hr,Result.andThen_ok,Sem.run_pure]) hv aq.symm
    · simp at aq
  | buildSlice t n ps=>
    simp only [ho] at aq
    split at aq
    case h_2=>simp at aq
    rename_i e sz qy z gw
    split at aq
    case h_2=>simp at aq
    rename_i ei jr
    split at aq
    case isFalse=>simp at aq
    rename_i hn
    split at aq
    case h_2=>simp at aq
    rename_i vs aQ hp
    split at aq
    case h_2=>simp at aq
    rename_i cs hf
    have rZ:aQ.of=st.of:=by
      have eb:cm (fun p q=>q.1=p.1∧cz w (af C w S Hx) S p.2 q.2) (ps.toList.map fun p=>(p.1,cx c st e p.2)) (ps.toList.map fun p=>(p.1,a.eval p.2)):=by
        refine dv (by simp) (fun i x y hx hy=>?_)
        simp only [List.getElem?_map] at hx hy
        cases hq:ps.toList[i]? with
        | none=>simp [hq] at hx
        | some q=>
          simp only [hq,Option.map_some,Option.some.injEq] at hx hy
          subst hx; subst hy
          exact ⟨rfl,ev e q.2⟩
      obtain ⟨_,_,_,_,_,_,_,_,b7⟩:=G8 h eb hp
      exact b7.2.2
    refine zQ rZ aq (fun t' ht h1 h2 h3=>?_)
    obtain ⟨v,w',hr,hG,hS⟩:=Mf ax h gw rfl jr hn hp hf h1 h2 h3
    exact ⟨v,w',by unfold execOp; simp only [ho,Sem.run_bind,hr,Result.andThen_ok,Sem.run_pure],.alloc hG (by simp [tH,ho]),hS⟩
  | load t x=>
    simp only [ho] at aq
    split at aq
    case h_2=>simp at aq
    rename_i i hi
    split at aq
    case h_2=>simp at aq
    rename_i d hl
    simp only [Option.some.injEq] at aq
    obtain ⟨v,hr,hv⟩:=Jl ax h.rt h.mem hi (ev o.type x) hl
    replace hr:=hr w (Bq.refl _ w)
    exact cP (by unfold execOp; simp only [ho,Sem.run_bind,hr,Result.andThen_ok,Sem.run_pure]) hv aq.symm
  | store t x y=>
    simp only [ho] at aq
    split at aq
    case h_2=>simp at aq
    rename_i i hi
    split at aq
    case h_2=>simp at aq
    rename_i aQ hs
    simp only [Option.some.injEq] at aq
    subst aq
    obtain ⟨w',S',hr,iE,rZ⟩:=U4 ax h hi (ev o.type x) (ev t y) hs
    refine Tf (w':=w') (by unfold execOp; simp only [ho,Sem.run_bind,hr,Result.andThen_ok,Sem.run_pure]) (hK _ _ S' (iE.BK BL (d:=.bf []) ?_) (cX a o.dst undef).1 (cX a o.dst undef).2 ((js aQ o.dst _).trans rZ) ?_)
    · exact ⟨#[],rfl,.nil⟩
    · refine ⟨fun e=>by simp [tH,ho] at e,fun cc e=>by simp [ho] at e,fun t0 x0 y0 e A hA cR k hk=>?_⟩
      rw [ho,Op.store.injEq] at e
      obtain ⟨rfl,rfl,rfl⟩:=e
      rw [hA] at hr
      have EV:(storeVar t A (a.eval y)).run P w=.ok () w':=by simpa [Instr.storeAt,Instr.sureAddr] using hr
      simp only [storeVar,Sem.run_bind,(ax.ty _ _ hi).sz w,Result.andThen_ok] at EV
      split at EV
      · simp at EV
      · exact vT A rfl cR (by simpa using EV) k hk
  | nilCheck x=>
    simp only [ho] at aq
    have hx:=ev o.type x
    have hd:∃ A,a.eval x=.pointer (some A)∧st'=st.put o.dst (cx c st o.type x):=by
      split at aq
      · rename_i r q i heq
        split at aq
        · rename_i hl
          simp only [Option.some.injEq] at aq
          rw [heq] at hx
          obtain ⟨A,hA,_⟩:=tq h.rt h.mem hx (by simp only [hl,if_true]; rfl)
          exact ⟨A,hA,by rw [heq]; exact aq.symm⟩
        · simp at aq
      · rename_i cs i heq
        simp only [Option.some.injEq] at aq
        rw [heq] at hx
        obtain ⟨A,hA,_⟩:=tq h.rt h.mem hx rfl
        exact ⟨A,hA,by rw [heq]; exact aq.symm⟩
      · simp at aq
    obtain ⟨A,hA,cF⟩:=hd
    refine cP (v:=a.eval x) ?_ hx cF
    unfold execOp
    simp only [ho,hA]
    rfl
  | binOp op t x y z=>
    simp only [ho] at aq
    split at aq
    case h_2=>simp at aq
    rename_i d hb
    simp only [Option.some.injEq] at aq
    obtain ⟨v,hr,hv⟩:=UK ax (x:=x) (y:=y) (ev t x) (ev t y) hb
    exact cP (by unfold execOp; simp only [ho,Sem.run_bind] at hr ⊢; rw [hr]; rfl) hv aq.symm
  | unOp op t x=>
    simp only [ho] at aq
    split at aq
    case h_2=>simp at aq
    rename_i d hb
    simp only [Option.some.injEq] at aq
    obtain ⟨v,hr,hv⟩:=ZB (P:=P) (ev o.type x) hb
    exact cP (by unfold execOp; simp only [ho,Sem.run_bind,hr,Result.andThen_ok,Sem.run_pure]) hv aq.symm
  | makeFunc fn first gP=>
    cases fn with
    | func f=>
      simp only [ho] at aq
      split at aq
      case isFalse=>simp at aq
      rename_i hf
      simp only [Option.some.injEq] at aq
      have O1:first=#[]:=Array.eq_empty_of_size_eq_zero hf.1
      subst O1
      refine cP (v:=.func (.func f) #[] (gP.map a.eval)) (by simp [execOp,ho,Instr.makeFunc]) ?_ aq.symm
      refine ⟨_,rfl,?_⟩
      refine dv (by simp) (fun i x y hx hy=>?_)
      have hs:single x=true:=List.all_eq_true.1 hf.2 x (List.mem_of_getElem? hx)
      simp only [Array.toList_map,List.getElem?_map] at hx hy
      cases hq:gP.toList[i]? with
      | none=>simp [hq] at hx
      | some q=>
        simp only [hq,Option.map_some,Option.some.injEq] at hx hy
        subst hy
        have hv:=ev o.type q
        rw [hx] at hv
        cases x<;>first | exact hv | simp [single] at hs
    | _=>simp [ho] at aq
  | makeSlice t l cp=>
    simp only [ho] at aq
    split at aq
    case h_2=>simp at aq
    rename_i e sz qy z gw
    split at aq
    case h_2=>simp at aq
    rename_i ei kl li kc ci jr hl hc
    split at aq
    case isFalse=>simp at aq
    rename_i h0
    split at aq
    case isFalse=>simp at aq
    rename_i BB
    split at aq
    case isFalse=>simp at aq
    rename_i hb
    have ZY:=ev o.type l
    rw [hl] at ZY
    have BH:=ev o.type cp
    rw [hc] at BH
    have ZY:=gB ZY
    have BH:=gB BH
    refine zQ rfl aq (fun t' ht h1 h2 h3=>?_)
    obtain ⟨v,w',hr,hG,hS⟩:=OK ax h gw rfl jr (kl:=kl) (kc:=kc) h0 BB hb h1 h2 h3
    exact ⟨v,w',by unfold execOp; simp only [ho,ZY,BH,Sem.run_bind,hr,Result.andThen_ok,Sem.run_pure],.alloc hG (by simp [tH,ho]),hS⟩
  | convert src dst x=>
    simp only [ho] at aq
    split at aq
    · rename_i d hc
      simp only [Option.some.injEq] at aq
      obtain ⟨v,hr,hv⟩:=OZ ax h (ev src x) hc
      replace hr:=hr w (dP.refl w)
      exact cP (by unfold execOp; simp only [ho,Sem.run_bind,hr,Result.andThen_ok,Sem.run_pure]) hv aq.symm
    · rename_i d cs hc
      refine zQ rfl aq (fun t' ht h1 h2 h3=>?_)
      obtain ⟨v,w',hr,hS⟩:=Vc ax h (ev src x) hc h1 h2 h3
      exact ⟨v,w',by unfold execOp; simp only [ho,Sem.run_bind,hr,Result.andThen_ok,Sem.run_pure],⟨fun e=>by simp [tH,ho] at e,fun cc e=>by simp [ho] at e,fun t0 x0 y0 e=>by simp [ho] at e⟩,hS⟩
    · simp at aq
  | slice t x lo hi mx=>
    cases mx with
    | some _=>simp [ho] at aq
    | none=>
      simp only [ho] at aq
      split at aq
      case h_2=>simp at aq
      rename_i d hs
      simp only [Option.some.injEq] at aq
      have O2:∀ y:Option Operand,Lb w (af C w S Hx) S (y.map (cx c st o.type)) (y.map a.eval):=by
        intro y
        cases y with
        | none=>exact .inl ⟨rfl,rfl⟩
        | some y=>exact .inr ⟨_,_,rfl,rfl,ev o.type y⟩
      obtain ⟨v,hr,hv⟩:=OB ax h.rt h.mem (ev t x) (O2 lo) (O2 hi) hs
      exact cP (by unfold execOp; simp only [ho,Option.map_none,Sem.run_bind,hr,Result.andThen_ok,Sem.run_pure]) hv aq.symm
  | fieldAddr s x f=>
    simp only [ho] at aq
    split at aq
    case h_2=>simp at aq
    rename_i mb szs sz qy z gw
    split at aq
    case h_2=>simp at aq
    rename_i k hk
    split at aq
    case h_2=>simp at aq
    rename_i d hs
    simp only [Option.some.injEq] at aq
    obtain ⟨v,hr,hv⟩:=Br ax h.rt h.mem gw hk (ev o.type x) hs
    exact cP (by unfold execOp; simp only [ho,Sem.run_bind,hr,Result.andThen_ok,Sem.run_pure]) hv aq.symm
  | indexAddr t x i=>
    simp only [ho] at aq
    split at aq
    case h_2=>simp at aq
    rename_i k i' hi
    split at aq
    case h_2=>simp at aq
    rename_i d hs
    simp only [Option.some.injEq] at aq
    have rk:=ev o.type i
    rw [hi] at rk
    have rk:=gB rk
    obtain ⟨v,hr,hv⟩:=Bt ax h.rt h.mem (k:=k) (ev t x) hs
    exact cP (by unfold execOp; simp only [ho,rk,Sem.run_bind,hr,Result.andThen_ok,Sem.run_pure]) hv aq.symm
  | index t x i=>
    simp only [ho] at aq
    split at aq
    case h_2=>simp at aq
    rename_i k i' hi
    split at aq
    case h_2=>simp at aq
    rename_i d hs
    simp only [Option.some.injEq] at aq
    have rk:=ev o.type i
    rw [hi] at rk
    have rk:=gB rk
    obtain ⟨v,hr,hv⟩:=OY ax (k:=k) (ev o.type x) hs
    exact cP (by unfold execOp; simp only [ho,rk,Sem.run_bind,hr,Result.andThen_ok,Sem.run_pure]) hv aq.symm
  | extract x i=>
    simp only [ho] at aq
    split at aq
    case h_2=>simp at aq
    rename_i vs hx
    split at aq
    case h_2=>simp at aq
    rename_i d hs
    simp only [Option.some.injEq] at aq
    have Vh:=ev o.type x
    rw [hx] at Vh
    obtain ⟨v,hr,hv⟩:=GV (P:=P) Vh hs
    exact cP (by unfold execOp; simp only [ho,Sem.run_bind,hr,Result.andThen_ok,Sem.run_pure]) hv aq.symm
  | call cc=>
    simp only [ho] at aq
    split at aq
    · simp at aq
    rename_i cE
    simp only [ne_eq,Decidable.not_not] at cE
    have xI:∀ {ds:List D},((cc.args.toList.zip cc.argTypes.toList).map fun p=>cx c st p.2 p.1)=ds→cm (cz w (af C w S Hx) S) ds (cc.args.map a.eval).toList:=by
      intro ds O3
      subst O3
      refine dv (by simp [cE]) (fun i x y hx hy=>?_)
      simp only [Array.toList_map,List.getElem?_map] at hx hy
      cases hq:(cc.args.toList.zip cc.argTypes.toList)[i]? with
      | none=>simp [hq] at hx
      | some q=>
        simp only [hq,Option.map_some,Option.some.injEq] at hx
        rw [List.getElem?_zip_eq_some] at hq
        simp only [hq.1,Option.map_some,Option.some.injEq] at hy
        subst hx; subst hy
        exact ev q.2 q.1
    split at aq
    · rename_i f hf
      exact absurd hf (pb cc f ho)
    · rename_i hb
      split at aq
      case h_2=>simp at aq
      rename_i x t hx ht
      split at aq
      case h_2=>simp at aq
      rename_i d hl
      simp only [Option.some.injEq] at aq
      have ha:=xI hx
      have iq:cc.args.map a.eval=#[(cc.args.map a.eval).toList.headD undef]:=by
        cases eN:(cc.args.map a.eval).toList with
        | nil=>rw [eN] at ha; cases ha
        | cons y ys=>rw [eN] at ha; cases ha with
          | cons _ h2=>cases h2; rw [← Array.toArray_toList (xs:=cc.args.map a.eval),eN]; rfl
      have BJ:cc.argTypes=#[t]:=by rw [← Array.toArray_toList (xs:=cc.argTypes),ht]
      have Hf:cz w (af C w S Hx) S x ((cc.args.map a.eval).toList.headD undef):=by
        cases eN:(cc.args.map a.eval).toList with
        | nil=>rw [eN] at ha; cases ha
        | cons y ys=>rw [eN] at ha; cases ha with
          | cons h1 _=>exact h1
      obtain ⟨v,hr,hv⟩:=UM ax h.rt h.mem Hf hl o.type
      exact cP (by unfold execOp; simp only [ho,resolve,hb,invoke,builtin,Sem.run_bind,Sem.run_pure,Result.andThen_ok]; rw [iq,BJ,hr]; rfl) hv aq.symm
    · rename_i hb
      split at aq
      case h_2=>simp at aq
      rename_i k x k' y hx
      simp only [Option.some.injEq] at aq
      have ha:=xI hx
      have iq:cc.args.map a.eval=#[.int k x,.int k' y]:=by
        cases eN:(cc.args.map a.eval).toList with
        | nil=>rw [eN] at ha; cases ha
        | cons y ys=>rw [eN] at ha; cases ha with
          | cons h1 h2=>
            cases h2 with
            | cons h3 h4=>
              cases h4
              rw [← Array.toArray_toList (xs:=cc.args.map a.eval),eN,gB h1,gB h3]
      refine cP (v:=.int k (if y < x then y else x)) ?_ (UJ _ _) aq.symm
      unfold execOp
      simp only [ho,resolve,hb,invoke,builtin,Sem.run_bind,Sem.run_pure,Result.andThen_ok]
      rw [iq]
      simp [Builtin.min_,Builtin.min2]
    · rename_i hb
      split at aq
      case h_2=>simp at aq
      rename_i k x k' y hx
      simp only [Option.some.injEq] at aq
      have ha:=xI hx
      have iq:cc.args.map a.eval=#[.int k x,.int k' y]:=by
        cases eN:(cc.args.map a.eval).toList with
        | nil=>rw [eN] at ha; cases ha
        | cons y ys=>rw [eN] at ha; cases ha with
          | cons h1 h2=>
            cases h2 with
            | cons h3 h4=>
              cases h4
              rw [← Array.toArray_toList (xs:=cc.args.map a.eval),eN,gB h1,gB h3]
      refine cP (v:=.int k (if y>x then y else x)) ?_ (UJ _ _) aq.symm
      unfold execOp
      simp only [ho,resolve,hb,invoke,builtin,Sem.run_bind,Sem.run_pure,Result.andThen_ok]
      rw [iq]
      simp [Builtin.max_,Builtin.max2]
    · rename_i hb
      split at aq
      case h_2=>simp at aq
      rename_i s x t tx hx ht
      have ha:=xI hx
      obtain ⟨us,ux,iq,xH,Hf⟩:∃ us ux,cc.args.map a.eval=#[us,ux]∧cz w (af C w S Hx) S s us∧cz w (af C w S Hx) S x ux:=by
        cases eN:(cc.args.map a.eval).toList with
        | nil=>rw [eN] at ha; cases ha
        | cons y ys=>rw [eN] at ha; cases ha with
          | cons h1 h2=>
            cases h2 with
            | cons h3 h4=>
              cases h4
              exact ⟨_,_,by rw [← Array.toArray_toList (xs:=cc.args.map a.eval),eN],h1,h3⟩
      have BJ:cc.argTypes=#[t,tx]:=by rw [← Array.toArray_toList (xs:=cc.argTypes),ht]
      obtain ⟨ct,dd,rZ,N7⟩:∃ ct:St,∃ cs:List D,ct.of=st.of∧ct.root o.dst cs (fun d=>.ref d [] 0 none)=some st':=Ve aq
      obtain ⟨_,t',pF⟩:=vo N7
      rw [pF] at aq
      obtain ⟨v,w',hr,hG,S',iE⟩:=Va ax h xH Hf (ty:=o.type) (gz t' pF).1 (gz t' pF).2 aq
      refine qc (v:=v) (w':=w') (by unfold execOp; simp only [ho,resolve,hb,invoke,builtin,Sem.run_bind,Sem.run_pure,Result.andThen_ok]; rw [iq,BJ,hr]; rfl) (hK _ _ S' (by rw [pF]; exact iE) (cX a o.dst v).1 (cX a o.dst v).2 ((vo N7).1.trans rZ) ⟨fun e=>by simp [tH,ho] at e,fun _ _ _=>hG,fun t0 x0 y0 e=>by simp [ho] at e⟩)
    · simp at aq
  | _=>simp [ho] at aq
end
end Go.Proofs.YtockoilcnmljiaaGreat
namespace Go.Proofs.YtockoilcnmljiaaGreat
def Rd (o:Oper) (a:Act) (w w2:World):Prop:=
  match o.op with
  | .load _ x=>Bq (a.eval x) w w2
  | _=>dP w w2
theorem dP.rd {w w2:World} (h:dP w w2) (o:Oper) (a:Act):Rd o a w w2:=by
  unfold Rd
  split
  · exact h.aie _
  · exact h
section
variable {P:Program} {c:cD} (ax:ey c P) {C:Ctx} {Hx:List T} {w:World} {st st':St} {o:Oper} {a:Act} {aJ:List (Array Value)} {S:List (Nat × RT)}
  {cl:FuncId→List D→Option (D × List D)} {ci:FuncId→List D→Nat→St→Option (D × St)} {aD:FuncId}
include ax
theorem O4 (h:Rel C Hx w st (a.tmps::aJ) S) {b:Bool} (mm:o9 c o=some b) (aq:fu c cl ci aD st o=some st'):
    ∃ v d,(∀ w2,(b=true∨Rd o a w w2)→(execOp a.eval o).run P w2=.ok (.value v) w2)∧cz w (af C w S Hx) S d v∧st'=st.put o.dst d:=by
  have fZ:mF w (af C w S Hx) S st.tm a.tmps:=by cases h.pE with | cons a _=>exact a
  have ev:=fun t x=>xB (c:=c) fZ t x
  have cP:∀ {d:D} {v:Value},(∀ w2,(b=true∨Rd o a w w2)→(execOp a.eval o).run P w2=.ok (.value v) w2)→cz w (af C w S Hx) S d v→st'=st.put o.dst d→∃ v d,(∀ w2,(b=true∨Rd o a w w2)→(execOp a.eval o).run P w2=.ok (.value v) w2)∧cz w (af C w S Hx) S d v∧st'=st.put o.dst d:=
    fun h1 h2 h3=>⟨_,_,h1,h2,h3⟩
  unfold fu at aq
  cases ho:o.op with
  | move x=>
    simp only [ho,Option.some.injEq] at aq
    exact cP (fun w2 _=>by unfold execOp; simp only [ho]; rfl) (ev o.type x) aq.symm
  | assign x=>
    simp only [ho,Option.some.injEq] at aq
    exact cP (fun w2 _=>by unfold execOp; simp only [ho]; rfl) (ev o.type x) aq.symm
  | pick b x y=>
    simp only [ho] at aq
    split at aq
    case h_2=>simp at aq
    rename_i t hb
    simp only [Option.some.injEq] at aq
    have He:=ev o.type b
    rw [hb] at He
    have He:a.eval b=.bool t:=He
    refine cP (v:=if t then a.eval x else a.eval y) (d:=if t then cx c st o.type x else cx c st o.type y) ?_ ?_ aq.symm
    · intro w2 _
      unfold execOp
      simp only [ho,He,asBool,Sem.run_bind,Sem.run_pure,Result.andThen_ok]
    · cases t
      · exact ev o.type y
      · exact ev o.type x
  | alloc e=>simp [o9,ho] at mm
  | box e x=>simp [o9,ho] at mm
  | build t ps=>
    simp only [ho] at aq
    split at aq
    · rename_i mb szs sz qy z gw
      split at aq
      case h_2=>simp at aq
      rename_i cs hf
      simp only [Option.some.injEq] at aq
      obtain ⟨v,hr,hv⟩:=BC ax h gw hf
      exact cP (fun w2 _=>by unfold execOp; simp only [ho,Sem.run_bind,hr,Result.andThen_ok,Sem.run_pure]) hv aq.symm
    · rename_i n e sz qy z gw
      split at aq
      case h_2=>simp at aq
      rename_i ei jr
      split at aq
      case h_2=>simp at aq
      rename_i cs hf
      simp only [Option.some.injEq] at aq
      obtain ⟨v,hr,hv⟩:=ER ax h gw jr hf
      exact cP (fun w2 _=>by unfold execOp; simp only [ho,Sem.run_bind,hr,Result.andThen_ok,Sem.run_pure]) hv aq.symm
    · simp at aq
  | buildSlice t n ps=>simp [o9,ho] at mm
  | load t x=>
    simp only [ho] at aq
    split at aq
    case h_2=>simp at aq
    rename_i i hi
    split at aq
    case h_2=>simp at aq
    rename_i d hl
    simp only [Option.some.injEq] at aq
    obtain ⟨v,hr,hv⟩:=Jl ax h.rt h.mem hi (ev o.type x) hl
    exact cP (fun w2 pG=>by have hr:=hr w2 (by have h9:=pG.resolve_left (by simp only [o9,ho,Option.some.injEq] at mm; rw [← mm]; simp); simpa only [Rd,ho] using h9); unfold execOp; simp only [ho,Sem.run_bind,hr,Result.andThen_ok,Sem.run_pure]) hv aq.symm
  | store t x y=>simp [o9,ho] at mm
  | nilCheck x=>
    simp only [ho] at aq
    have hx:=ev o.type x
    have hd:∃ A,a.eval x=.pointer (some A)∧st'=st.put o.dst (cx c st o.type x):=by
      split at aq
      · rename_i r q i heq
        split at aq
        · rename_i hl
          simp only [Option.some.injEq] at aq
          rw [heq] at hx
          obtain ⟨A,hA,_⟩:=tq h.rt h.mem hx (by simp only [hl,if_true]; rfl)
          exact ⟨A,hA,by rw [heq]; exact aq.symm⟩
        · simp at aq
      · rename_i cs i heq
        simp only [Option.some.injEq] at aq
        rw [heq] at hx
        obtain ⟨A,hA,_⟩:=tq h.rt h.mem hx rfl
        exact ⟨A,hA,by rw [heq]; exact aq.symm⟩
      · simp at aq
    obtain ⟨A,hA,cF⟩:=hd
    refine cP (v:=a.eval x) ?_ hx cF
    intro w2 _
    unfold execOp
    simp only [ho,hA]
    rfl
  | binOp op t x y z=>
    simp only [ho] at aq
    split at aq
    case h_2=>simp at aq
    rename_i d hb
    simp only [Option.some.injEq] at aq
    obtain ⟨v,hr,hv⟩:=UK ax (x:=x) (y:=y) (ev t x) (ev t y) hb
    exact cP (fun w2 _=>by unfold execOp; simp only [ho,Sem.run_bind] at hr ⊢; rw [hr]; rfl) hv aq.symm
  | unOp op t x=>
    simp only [ho] at aq
    split at aq
    case h_2=>simp at aq
    rename_i d hb
    simp only [Option.some.injEq] at aq
    obtain ⟨v,hr,hv⟩:=ZB (P:=P) (ev o.type x) hb
    exact cP (fun w2 _=>by unfold execOp; simp only [ho,Sem.run_bind,hr,Result.andThen_ok,Sem.run_pure]) hv aq.symm
  | makeFunc fn first gP=>
    cases fn with
    | func f=>
      simp only [ho] at aq
      split at aq
      case isFalse=>simp at aq
      rename_i hf
      simp only [Option.some.injEq] at aq
      have O1:first=#[]:=Array.eq_empty_of_size_eq_zero hf.1
      subst O1
      refine cP (v:=.func (.func f) #[] (gP.map a.eval)) (by simp [execOp,ho,Instr.makeFunc]) ?_ aq.symm
      refine ⟨_,rfl,?_⟩
      refine dv (by simp) (fun i x y hx hy=>?_)
      have hs:single x=true:=List.all_eq_true.1 hf.2 x (List.mem_of_getElem? hx)
      simp only [Array.toList_map,List.getElem?_map] at hx hy
      cases hq:gP.toList[i]? with
      | none=>simp [hq] at hx
      | some q=>
        simp only [hq,Option.map_some,Option.some.injEq] at hx hy
        subst hy
        have hv:=ev o.type q
        rw [hx] at hv
        cases x<;>first | exact hv | simp [single] at hs
    | _=>simp [ho] at aq
  | makeSlice t l cp=>simp [o9,ho] at mm
  | convert src dst x=>
    simp only [ho] at aq
    split at aq
    · rename_i d hc
      simp only [Option.some.injEq] at aq
      obtain ⟨v,hr,hv⟩:=OZ ax h (ev src x) hc
      exact cP (fun w2 pG=>by have hr:=hr w2 (by have h9:=pG.resolve_left (by simp only [o9,ho] at mm; split at mm<;>simp at mm; rw [mm]; simp); simpa only [Rd,ho] using h9); unfold execOp; simp only [ho,Sem.run_bind,hr,Result.andThen_ok,Sem.run_pure]) hv aq.symm
    · rename_i d cs hc
      exfalso
      simp only [o9,ho] at mm
      unfold xx at hc
      split at hc
      case h_2=>simp at hc
      rename_i si di ZW Vb
      rw [Vb] at mm
      split at hc
      · simp at hc
      · simp at hc
      · simp at hc
      · split at hc
        · split at hc
          · split at hc
            · split at hc<;>simp at hc
            · simp at hc
          · simp at hc
        · simp at hc
      · rename_i ZZ hk AD
        obtain ⟨ty,a1,a2,a3⟩:=di
        simp only at ZZ
        subst ZZ
        simp at mm
      · simp at hc
    · simp at aq
  | slice t x lo hi mx=>
    cases mx with
    | some _=>simp [ho] at aq
    | none=>
      simp only [ho] at aq
      split at aq
      case h_2=>simp at aq
      rename_i d hs
      simp only [Option.some.injEq] at aq
      have O2:∀ y:Option Operand,Lb w (af C w S Hx) S (y.map (cx c st o.type)) (y.map a.eval):=by
        intro y
        cases y with
        | none=>exact .inl ⟨rfl,rfl⟩
        | some y=>exact .inr ⟨_,_,rfl,rfl,ev o.type y⟩
      obtain ⟨v,hr,hv⟩:=OB ax h.rt h.mem (ev t x) (O2 lo) (O2 hi) hs
      exact cP (fun w2 _=>by unfold execOp; simp only [ho,Option.map_none,Sem.run_bind,hr,Result.andThen_ok,Sem.run_pure]) hv aq.symm
  | fieldAddr s x f=>
    simp only [ho] at aq
    split at aq
    case h_2=>simp at aq
    rename_i mb szs sz qy z gw
    split at aq
    case h_2=>simp at aq
    rename_i k hk
    split at aq
    case h_2=>simp at aq
    rename_i d hs
    simp only [Option.some.injEq] at aq
    obtain ⟨v,hr,hv⟩:=Br ax h.rt h.mem gw hk (ev o.type x) hs
    exact cP (fun w2 _=>by unfold execOp; simp only [ho,Sem.run_bind,hr,Result.andThen_ok,Sem.run_pure]) hv aq.symm
  | indexAddr t x i=>
    simp only [ho] at aq
    split at aq
    case h_2=>simp at aq
    rename_i k i' hi
    split at aq
    case h_2=>simp at aq
    rename_i d hs
    simp only [Option.some.injEq] at aq
    have rk:=ev o.type i
    rw [hi] at rk
    have rk:=gB rk
    obtain ⟨v,hr,hv⟩:=Bt ax h.rt h.mem (k:=k) (ev t x) hs
    exact cP (fun w2 _=>by unfold execOp; simp only [ho,rk,Sem.run_bind,hr,Result.andThen_ok,Sem.run_pure]) hv aq.symm
  | index t x i=>
    simp only [ho] at aq
    split at aq
    case h_2=>simp at aq
    rename_i k i' hi
    split at aq
    case h_2=>simp at aq
    rename_i d hs
    simp only [Option.some.injEq] at aq
    have rk:=ev o.type i
    rw [hi] at rk
    have rk:=gB rk
    obtain ⟨v,hr,hv⟩:=OY ax (k:=k) (ev o.type x) hs
    exact cP (fun w2 _=>by unfold execOp; simp only [ho,rk,Sem.run_bind,hr,Result.andThen_ok,Sem.run_pure]) hv aq.symm
  | extract x i=>
    simp only [ho] at aq
    split at aq
    case h_2=>simp at aq
    rename_i vs hx
    split at aq
    case h_2=>simp at aq
    rename_i d hs
    simp only [Option.some.injEq] at aq
    have Vh:=ev o.type x
    rw [hx] at Vh
    obtain ⟨v,hr,hv⟩:=GV (P:=P) Vh hs
    exact cP (fun w2 _=>by unfold execOp; simp only [ho,Sem.run_bind,hr,Result.andThen_ok,Sem.run_pure]) hv aq.symm
  | call cc=>
    simp only [ho] at aq
    split at aq
    · simp at aq
    rename_i cE
    simp only [ne_eq,Decidable.not_not] at cE
    have xI:∀ {ds:List D},((cc.args.toList.zip cc.argTypes.toList).map fun p=>cx c st p.2 p.1)=ds→cm (cz w (af C w S Hx) S) ds (cc.args.map a.eval).toList:=by
      intro ds O3
      subst O3
      refine dv (by simp [cE]) (fun i x y hx hy=>?_)
      simp only [Array.toList_map,List.getElem?_map] at hx hy
      cases hq:(cc.args.toList.zip cc.argTypes.toList)[i]? with
      | none=>simp [hq] at hx
      | some q=>
        simp only [hq,Option.map_some,Option.some.injEq] at hx
        rw [List.getElem?_zip_eq_some] at hq
        simp only [hq.1,Option.map_some,Option.some.injEq] at hy
        subst hx; subst hy
        exact ev q.2 q.1
    split at aq
    · rename_i f hf
      simp [o9,ho,hf] at mm
    · rename_i hb
      split at aq
      case h_2=>simp at aq
      rename_i x t hx ht
      split at aq
      case h_2=>simp at aq
      rename_i d hl
      simp only [Option.some.injEq] at aq
      have ha:=xI hx
      have iq:cc.args.map a.eval=#[(cc.args.map a.eval).toList.headD undef]:=by
        cases eN:(cc.args.map a.eval).toList with
        | nil=>rw [eN] at ha; cases ha
        | cons y ys=>rw [eN] at ha; cases ha with
          | cons _ h2=>cases h2; rw [← Array.toArray_toList (xs:=cc.args.map a.eval),eN]; rfl
      have BJ:cc.argTypes=#[t]:=by rw [← Array.toArray_toList (xs:=cc.argTypes),ht]
      have Hf:cz w (af C w S Hx) S x ((cc.args.map a.eval).toList.headD undef):=by
        cases eN:(cc.args.map a.eval).toList with
        | nil=>rw [eN] at ha; cases ha
        | cons y ys=>rw [eN] at ha; cases ha with
          | cons h1 _=>exact h1
      obtain ⟨v,hr,hv⟩:=UM ax h.rt h.mem Hf hl o.type
      exact cP (fun w2 _=>by unfold execOp; simp only [ho,resolve,hb,invoke,builtin,Sem.run_bind,Sem.run_pure,Result.andThen_ok]; rw [iq,BJ,hr]; rfl) hv aq.symm
    · rename_i hb
      split at aq
      case h_2=>simp at aq
      rename_i k x k' y hx
      simp only [Option.some.injEq] at aq
      have ha:=xI hx
      have iq:cc.args.map a.eval=#[.int k x,.int k' y]:=by
        cases eN:(cc.args.map a.eval).toList with
        | nil=>rw [eN] at ha; cases ha
        | cons y ys=>rw [eN] at ha; cases ha with
          | cons h1 h2=>
            cases h2 with
            | cons h3 h4=>
              cases h4
              rw [← Array.toArray_toList (xs:=cc.args.map a.eval),eN,gB h1,gB h3]
      refine cP (v:=.int k (if y < x then y else x)) ?_ (UJ _ _) aq.symm
      intro w2 _
      unfold execOp
      simp only [ho,resolve,hb,invoke,builtin,Sem.run_bind,Sem.run_pure,Result.andThen_ok]
      rw [iq]
      simp [Builtin.min_,Builtin.min2]
    · rename_i hb
      split at aq
      case h_2=>simp at aq
      rename_i k x k' y hx
      simp only [Option.some.injEq] at aq
      have ha:=xI hx
      have iq:cc.args.map a.eval=#[.int k x,.int k' y]:=by
        cases eN:(cc.args.map a.eval).toList with
        | nil=>rw [eN] at ha; cases ha
        | cons y ys=>rw [eN] at ha; cases ha with
          | cons h1 h2=>
            cases h2 with
            | cons h3 h4=>
              cases h4
              rw [← Array.toArray_toList (xs:=cc.args.map a.eval),eN,gB h1,gB h3]
      refine cP (v:=.int k (if y>x then y else x)) ?_ (UJ _ _) aq.symm
      intro w2 _
      unfold execOp
      simp only [ho,resolve,hb,invoke,builtin,Sem.run_bind,Sem.run_pure,Result.andThen_ok]
      rw [iq]
      simp [Builtin.max_,Builtin.max2]
    · rename_i hb
      simp [o9,ho,hb] at mm
    · simp at aq
  | _=>simp [ho] at aq
end
end Go.Proofs.YtockoilcnmljiaaGreat
namespace Go.Proofs.YtockoilcnmljiaaGreat
mutual
theorem vq {w:World} {X X':Bool→Nat→Prop} (h:∀ b k,X b k→X' b k):∀ (d:D) (u:Value),Ext w X d u→Ext w X' d u
  | d,u,hu=>gy (fun b k hk=>⟨h b k hk,rfl⟩) d u hu
end
theorem fV {w:World} {X X':Bool→Nat→Prop} (h:∀ b k,X b k→X' b k) (ts:List T) (hs:bN w X ts):bN w X' ts:=
  gA (fun b k hk=>⟨h b k hk,rfl⟩) ts hs (fun _ _=>rfl)
theorem ov {w w':World} {X X':Bool→Nat→Prop} (cF:jB w w' X X') {S:List (Nat × RT)} {d:D} {u:Value} (h:bz w X S d u):bz w' X' S d u:=by
  have he:∀ d u,Ext w X d u→Ext w' X' d u:=gy cF
  cases d with
  | ref r q o x=>exact h
  | ptr r q o=>exact h
  | cr cs o=>
    obtain ⟨b,off,c,e,fz,us,h1,h2,h3,h4,h5⟩:=h
    exact ⟨b,off,c,e,fz,us,h1,(cF true b h2).1,by rw [(cF true b h2).2]; exact h3,tI cF cs us h4,h5⟩
  | _=>exact he _ _ h
theorem Vi {w w':World} {X X':Bool→Nat→Prop} (cF:jB w w' X X') {S:List (Nat × RT)} {d:D} {u:Value} (h:gL w X S d u):gL w' X' S d u:=by
  rcases tL h with ⟨cs,us,rfl,rfl,h1⟩ | ⟨f,cs,us,rfl,rfl,h1⟩ | ⟨_,_,h1⟩
  · exact ⟨us,rfl,h1.mono (fun _ _=>ov cF)⟩
  · exact ⟨us,rfl,h1.mono (fun _ _=>ov cF)⟩
  · exact ew (ov cF h1)
theorem abO {ts:List T} {k:Nat}:k∈aj ts↔∃ t∈ts,k∈t.ft:=by
  rw [om]
  simp only [List.mem_flatten,List.mem_map]
  constructor
  · rintro ⟨l,⟨t,h1,rfl⟩,h2⟩
    exact ⟨t,h1,h2⟩
  · rintro ⟨t,h1,h2⟩
    exact ⟨_,⟨t,h1,rfl⟩,h2⟩
theorem mo {S:List (Nat × RT)} {r:Nat} {R:RT} (h:lk S r=some R) {k:Nat} (hk:k∈R.ft):k∈cM S:=by
  obtain ⟨A,B,h1,_⟩:=me h
  rw [h1]; simp [hk]
theorem zR {S:List (Nat × RT)} (hn:(cM S).Nodup) {r r':Nat} {R R':RT} {b:Nat} (h:lk S r=some R) (hb:R.box=some b) (h':lk S r'=some R') (hk:b∈R'.ft):r'=r:=by
  by_cases he:r'=r
  · exact he
  obtain ⟨A,B,h1,h2⟩:=me h
  have h3:lk (pt S r ⟨none,[]⟩) r'=some R':=by rw [dL _ _ he]; exact h'
  have h4:=mo h3 hk
  rw [h2] at h4
  rw [h1] at hn
  have ZN:b∈R.ft:=by simp [RT.ft,hb]
  simp only [RT.ft,Option.toList,aj,List.append_nil,List.mem_append] at h4
  rw [List.nodup_append,List.nodup_append] at hn
  rcases h4 with h4 | h4
  · exact absurd rfl (hn.1.2.2 b h4 b ZN)
  · exact absurd rfl (hn.2.2 b (by simp [ZN]) b h4)
section
variable {C:Ctx} {w w':World} {st:St} {aJ:List (Array Value)} {S:List (Nat × RT)} {Hs H Os:List T} {bxs:List Nat}
theorem FM (h:Rel C (Hs++H) w st aJ S) (vP:∀ b∈bxs,∃ r R,lk S r=some R∧R.box=some b∧R.cs=[])
    (cE:w.heap.size≤w'.heap.size) (hold:∀ k,k < w.heap.size→k∉aj Hs→k∉bxs→w'.heap[k]?=w.heap[k]?) (nN:w'.os=w.os) (uY:w'.tape=w.tape) (vO:w'.output=w.output)
    (hO:bN w' (fun b k=>k < w'.heap.size∧k∉aj Os∧k∉bxs∧(af C w S (Hs++H) b k∨k∈aj Hs∨w.heap.size≤k)) Os)
    (eU:(aj Os).Nodup) (anI:∀ k∈aj Os,k∉bxs) (eV:∀ k∈aj Os,k < w'.heap.size∧(k∈aj Hs∨w.heap.size≤k)) (eY:∀ b∈bxs,lL w' b 0 0 []):
    Rel C (Os++H) w' st aJ S∧im C w w' S S (Hs++H) (Os++H) id:=by
  have EK:∀ b∈bxs,b∈cM S:=fun b hb=>by
    obtain ⟨r,R,h1,h2,_⟩:=vP b hb
    exact mo h1 (by simp [RT.ft,h2])
  have hnS:=h.mem.nd
  rw [List.nodup_append,bt,List.nodup_append] at hnS
  obtain ⟨nS,⟨nHs,nH,dHs⟩,dS⟩:=hnS
  have dp:=h.mem.lt
  have Vj:∀ k∈cM S,k < w.heap.size:=fun k hk=>dp k (List.mem_append.2 (.inl hk))
  have Z0:∀ k∈aj H,k < w.heap.size:=fun k hk=>dp k (by simp [bt,hk])
  have Z1:∀ k∈cM S,k∉aj Hs:=fun k hk h2=>dS k hk k (by simp [h2]) rfl
  have SH:∀ k∈cM S,k∉aj H:=fun k hk h2=>dS k hk k (by simp [h2]) rfl
  have HHs:∀ k∈aj H,k∉aj Hs:=fun k hk h2=>dHs k h2 k hk rfl
  have OS:∀ k∈aj Os,k∉cM S:=fun k hk h2=>by
    rcases (eV k hk).2 with h3 | h3
    · exact Z1 k h2 h3
    · have:=Vj k h2; omega
  have OH:∀ k∈aj Os,k∉aj H:=fun k hk h2=>by
    rcases (eV k hk).2 with h3 | h3
    · exact HHs k h2 h3
    · have:=Z0 k h2; omega
  have cF:jB w w' (af C w S (Hs++H)) (af C w' S (Os++H)):=by
    intro b k hk
    obtain ⟨k1,k2,k3,k4⟩:=hk
    rw [bt,List.mem_append,not_or] at k3
    refine ⟨⟨by omega,k2,?_,k4⟩,hold k k1 k3.1 (fun hb=>k2 (EK k hb))⟩
    rw [bt,List.mem_append,not_or]
    refine ⟨fun hk=>?_,k3.2⟩
    rcases (eV k hk).2 with h3 | h3
    · exact k3.1 h3
    · omega
  have ZP:im C w w' S S (Hs++H) (Os++H) id:=fun d u hd=>ov cF hd
  have xJ:∀ b k,(k < w'.heap.size∧k∉aj Os∧k∉bxs∧(af C w S (Hs++H) b k∨k∈aj Hs∨w.heap.size≤k))→af C w' S (Os++H) b k:=by
    rintro b k ⟨k1,k2,k3,k4⟩
    have hFA:k∈aj Hs→k∈C.FA∨C.w0.heap.size≤k:=fun hk=>h.kept.iJ k (by simp [bt,hk])
    refine ⟨k1,?_,?_,?_⟩
    · rcases k4 with k4 | k4 | k4
      · exact k4.2.1
      · exact fun h2=>Z1 k h2 k4
      · exact fun h2=>by have:=Vj k h2; omega
    · rw [bt,List.mem_append,not_or]
      refine ⟨k2,?_⟩
      rcases k4 with k4 | k4 | k4
      · have:=k4.2.2.1
        rw [bt,List.mem_append,not_or] at this
        exact this.2
      · exact fun h2=>HHs k h2 k4
      · exact fun h2=>by have:=Z0 k h2; omega
    · intro hb
      rcases k4 with k4 | k4 | k4
      · exact k4.2.2.2 hb
      · exact .inr (hFA k4)
      · exact .inr (.inr (Nat.le_trans h.kept.size k4))
  refine ⟨⟨h.rt,⟨?_,?_,?_,?_⟩,?_,?_⟩,ZP⟩
  · rw [List.nodup_append,bt,List.nodup_append]
    refine ⟨nS,⟨eU,nH,fun a ha b hb e=>OH a ha (e▸hb)⟩,fun a ha b hb e=>?_⟩
    subst e
    rcases List.mem_append.1 hb with hb | hb
    · exact OS a hb ha
    · exact SH a ha hb
  · intro r R hr
    obtain ⟨h1,h2⟩:=h.mem.root r R hr
    have hb:∀ b∈bxs,b∈R.ft→R.box=some b∧R.cs=[]:=by
      intro b hb hR
      obtain ⟨r',R',e1,e2,e3⟩:=vP b hb
      have:=zR nS e1 e2 hr hR
      subst this
      rw [e1,Option.some.injEq] at hr
      subst hr
      exact ⟨e2,e3⟩
    refine ⟨?_,fun t ht=>?_⟩
    · cases hx:R.box with
      | none=>trivial
      | some b=>
        rw [hx] at h1
        by_cases tP:b∈bxs
        · have:=(hb b tP (by simp [RT.ft,hx])).2
          rw [this]
          exact eY b tP
        · have adQ:=mo hr (show b∈R.ft by simp [RT.ft,hx])
          obtain ⟨c,e,fz,g1,g2⟩:=h1
          exact ⟨c,e,fz,by rw [hold b (Vj b adQ) (Z1 b adQ) tP]; exact g1,g2⟩
    · have h3:=h2 t ht
      cases t with
      | v d u=>
        rcases h3 with h3 | ⟨e,h3⟩
        · exact .inl (gy cF _ _ h3)
        · exact .inr ⟨e,ov cF h3⟩
      | own s n cap a cs=>
        refine dT cF _ h3 (fun k hk=>?_)
        have hkR:k∈R.ft:=by simp only [RT.ft,List.mem_append]; exact .inr (abO.2 ⟨_,ht,hk⟩)
        have Ln:=mo hr hkR
        refine hold k (Vj k Ln) (Z1 k Ln) (fun tP=>?_)
        have:=(hb k tP hkR).2
        rw [this] at ht
        simp at ht
  · rw [dU]
    refine ⟨fV xJ _ hO,?_⟩
    have hH:=((dU _ _).1 h.mem.hand).2
    exact gA cF _ hH (fun k hk=>hold k (Z0 k hk) (HHs k hk) (fun hb=>SH k (EK k hb) hk))
  · intro k hk
    rcases List.mem_append.1 hk with hk | hk
    · have:=Vj k hk; omega
    · rw [bt] at hk
      rcases List.mem_append.1 hk with hk | hk
      · exact (eV k hk).1
      · have:=Z0 k hk; omega
  · exact h.pE.mono (fun _ _ ht=>yb ZP ht)
  · have hk:=h.kept
    refine ⟨nN.trans hk.os,uY.trans hk.tape,vO.trans hk.output,Nat.le_trans hk.size cE,fun k h1 h2=>?_,fun k h1=>?_,hk.par⟩
    · have h3:k∉cM S++aj (Hs++H):=fun h3=>by
        rcases hk.iJ k h3 with h4 | h4
        · exact h2 h4
        · omega
      simp only [bt,List.mem_append,not_or] at h3
      rw [hold k (Nat.lt_of_lt_of_le h1 hk.size) h3.2.1 (fun hb=>h3.1 (EK k hb))]
      exact hk.block k h1 h2
    · rcases List.mem_append.1 h1 with h1 | h1
      · exact hk.iJ k (by simp [h1])
      · rw [bt] at h1
        rcases List.mem_append.1 h1 with h1 | h1
        · rcases (eV k h1).2 with h2 | h2
          · exact hk.iJ k (by simp [bt,h2])
          · exact .inr (Nat.le_trans hk.size h2)
        · exact hk.iJ k (by simp [bt,h1])
end
end Go.Proofs.YtockoilcnmljiaaGreat
namespace Go.Proofs.YtockoilcnmljiaaGreat
def nI (S S':List (Nat × RT)):Prop:=∀ r R,lk S r=some R→∃ R',lk S' r=some R'∧R'.box=R.box
theorem nI.refl (S:List (Nat × RT)):nI S S:=fun _ R h=>⟨R,h,rfl⟩
theorem nI.trans {S S' AB:List (Nat × RT)} (h:nI S S') (h':nI S' AB):nI S AB:=fun r R hr=>by
  obtain ⟨R1,h1,h2⟩:=h r R hr
  obtain ⟨R2,h4,h5⟩:=h' r R1 h1
  exact ⟨R2,h4,h5.trans h2⟩
theorem qB.b {S S':List (Nat × RT)} (h:qB S S'):nI S S':=fun r R hr=>by
  obtain ⟨R1,h1,h2,_⟩:=h.fwd r R hr
  exact ⟨R1,h1,h2⟩
theorem Sd (g:D→D) (S:List (Nat × RT)):nI S (fS g S):=fun r R hr=>⟨⟨R.box,R.cs.map (fT g)⟩,by rw [lP,hr]; rfl,rfl⟩
theorem FN {S:List (Nat × RT)} {r:Nat} {q:List Nat} {o:Nat} {t:T} (h:cB S r q o=some t):∃ R l,lk S r=some R∧aA R.cs q=some l∧l[o]?=some t:=by
  unfold cB at h
  cases hr:lk S r with
  | none=>simp [hr] at h
  | some R=>
    simp only [hr] at h
    cases hl:aA R.cs q with
    | none=>simp [hl] at h
    | some l=>simp only [hl] at h; exact ⟨R,l,rfl,hl,h⟩
section
variable {C:Ctx} {H:List T} {w:World} {st st':St} {aJ:List (Array Value)} {S:List (Nat × RT)}
theorem O5 {t' t0:T} (h:Rel C (t'::H) w st aJ S) {r:Nat} {q:List Nat} {o:Nat} {ex:Bool} (hc0:cB S r q o=some t0) (kP:∃ d0 u0,t0=.v d0 u0∧(ex=false→fr (cA r q o ex) (bU d0)=bU d0)) (hl:lH t0 t'∨(ex=true∧t'.val=t0.val))
    (jl:(st.fc (cA r q o ex)).iz r q o t'.er=some st'):
    ∃ S',Rel C H w st' aJ S'∧im C w w S S' (t'::H) H (cA r q o ex)∧st'.of=st.of∧nI S S'∧cB S' r q o=some t'∧
      ∀ r' q' o' d0 u,(sn d0).isSome=true→bU d0=d0→cB S r' q' o'=some (.v d0 u)→(r'≠r∨under (q++[o]) (q'++[o'])=none)→cB S' r' q' o'=some (.v d0 u):=by
  obtain ⟨d0,u0,rfl,hd0⟩:=kP
  have hv:t'.val=(T.v d0 u0).val:=by
    rcases hl with hl | hl
    · exact hl.1
    · exact hl.2
  obtain ⟨R,l,hR,hl0,ho⟩:=FN hc0
  have hg:=mN r q o ex
  have Hb:=zJ r q o ex
  have XP:ik (st.fc (cA r q o ex)).rt (fS (cA r q o ex) S):=by
    exact qd hg h.rt
  obtain ⟨R1,l1,t1,e1,e2,e3,e4,e5,e6,e7,e8⟩:=ZQ (g:=cA r q o ex) hR hl0 ho
  have BE:t1=.v (fr (cA r q o ex) (bU d0)) u0∨t1=.v d0 u0:=by
    rcases e5 with rfl | ⟨_,rfl⟩
    · exact .inr rfl
    · exact .inl rfl
  have XV:t1.val=u0:=by rcases BE with rfl | rfl<;>rfl
  have ait:t1.ft=[]:=by rcases BE with rfl | rfl<;>rfl
  have aiu:ex=false→sn t1.er=sn (bU d0):=fun e=>by
    rcases BE with rfl | rfl
    · rw [hd0 e]; simp [T.er,EJ]
    · simp [T.er]
  obtain ⟨S',hc,Ts,Tt,Tu,FL⟩:=FE (t':=t') XP e1 e3 e4 jl
  obtain ⟨A,B,f1,f2⟩:=hc.fts
  rw [uX] at f1
  rw [ait,List.append_nil] at f1
  have sJ:∀ k,k∈cM S'++aj H↔k∈cM S++aj (t'::H):=by
    intro k
    rw [f1,f2]
    simp only [aj,List.mem_append]
    constructor
    · rintro (((h | h) | h) | h)
      · exact .inl (.inl h)
      · exact .inr (.inl h)
      · exact .inl (.inr h)
      · exact .inr (.inr h)
    · rintro ((h | h) | (h | h))
      · exact .inl (.inl (.inl h))
      · exact .inl (.inr h)
      · exact .inl (.inl (.inr h))
      · exact .inr h
  have eU:(cM S'++aj H).Nodup:=by
    have h0:=h.mem.nd
    rw [f1] at h0
    rw [f2]
    refine (List.Perm.nodup_iff ?_).1 h0
    refine List.perm_iff_count.2 fun a=>?_
    simp only [aj,List.count_append]
    omega
  have hX:∀ b k,af C w S (t'::H) b k→af C w S' H b k:=jO (fun k hk=>(sJ k).1 hk)
  have cF:jB w w (af C w S (t'::H)) (af C w S' H):=fun b k hk=>⟨hX b k hk,rfl⟩
  have af1:ex=false→lH t1 t':=fun e=>by
    rcases hl with hl | hl
    · exact ⟨by rw [XV]; exact hl.1,fun p hp=>by rw [aiu e]; exact hl.2 p hp⟩
    · exact absurd (hl.1.symm.trans e) (by simp)
  have ea:∀ d u,bz w (af C w S (t'::H)) S d u→bz w (af C w S' H) S' (cA r q o ex d) u:=
    fun d u hd=>zG cF hc af1 (rb hg hd)
  have dw:=h.mem.hand
  simp only [bN] at dw
  have dj:Mem C w S' H:=RZ h.mem (g:=fr (cA r q o ex)) (Ti hg S) hc (by rw [hv,XV]; rfl)
    (.inl (dT cF _ dw.1 (fun _ _=>rfl))) eU (fun k hk=>(sJ k).1 hk) (fV hX _ dw.2)
    (fun d u hd=>by rw [vm hd]; exact ea d u hd) (fun d u hd=>sF hg Hb (vq hX _ _ hd))
  refine ⟨S',?_,ea,FL,?_,hc.FC,fun r' q' o' d1 u1 h3 h4 h1 h2=>?_⟩
  · refine h.step (f:=cA r q o ex) Ts Tt Tu ea dj (zI h.kept (fun k hk=>(sJ k).1 hk) (fun r' R' eE=>?_))
    obtain ⟨R2,g1,g2,g3⟩:=hc.par (by rw [hv,XV]; rfl) eE
    rw [lP] at g1
    cases hx:lk S r' with
    | none=>simp [hx] at g1
    | some R0=>
      simp only [hx,Option.map_some,Option.some.injEq] at g1
      subst g1
      refine ⟨R0,rfl,g2,g3.trans ?_⟩
      simp only [cW,List.map_map]
      congr 1
      funext t
      cases t<;>rfl
  · refine nI.trans (S':=fS (cA r q o ex) S) (Sd _ S) (fun r' R' eE=>?_)
    obtain ⟨R2,g1,g2,_⟩:=hc.Lf eE
    exact ⟨R2,g1,g2⟩
  · refine hc.OO h2 ?_
    rw [DI h1]
    split
    · simp only [fT,h4]
      cases d1<;>first | (simp [sn] at h3; done) | simp [fr,hg.hole,hg.sl]
    · rfl
theorem XW {ts:List T} (h:Rel C (ts++H) w st aJ S) {r b:Nat} (h0:lk S r=some ⟨some b,[]⟩) (eY:lL w b 0 ts.length (aG ts)):
    Rel C H w { st.fc (eB r) with rt:=pz (st.fc (eB r)).rt r (bu ts) } aJ (pt (fS (eB r) S) r ⟨some b,ts⟩)∧im C w w S (pt (fS (eB r) S) r ⟨some b,ts⟩) (ts++H) H (eB r)∧nI S (pt (fS (eB r) S) r ⟨some b,ts⟩):=by
  have hg:=Tj r
  have Hb:=Tl r
  have h1:lk (fS (eB r) S) r=some ⟨some b,[]⟩:=by rw [lP,h0]; rfl
  obtain ⟨A,B,f1,f2⟩:=me h1
  rw [uX] at f1
  have f3:=f2 ⟨some b,ts⟩
  simp only [RT.ft,Option.toList,aj,List.append_nil] at f1
  simp only [RT.ft,Option.toList] at f3
  have sJ:∀ k,k∈cM (pt (fS (eB r) S) r ⟨some b,ts⟩)++aj H↔k∈cM S++aj (ts++H):=by
    intro k
    rw [f1,f3,bt]
    simp only [List.mem_append,List.mem_singleton]
    constructor
    · rintro (((h | (h | h)) | h) | h)<;>simp [h]
    · rintro (((h | h) | h) | (h | h))<;>simp [h]
  have eU:(cM (pt (fS (eB r) S) r ⟨some b,ts⟩)++aj H).Nodup:=by
    have h0:=h.mem.nd
    rw [f1] at h0
    rw [f3]
    refine (List.Perm.nodup_iff ?_).1 h0
    refine List.perm_iff_count.2 fun a=>?_
    simp only [bt,List.count_append]
    omega
  have hX:∀ b' k,af C w S (ts++H) b' k→af C w (pt (fS (eB r) S) r ⟨some b,ts⟩) H b' k:=jO (fun k hk=>(sJ k).1 hk)
  have cF:jB w w (af C w S (ts++H)) (af C w (pt (fS (eB r) S) r ⟨some b,ts⟩) H):=fun b k hk=>⟨hX b k hk,rfl⟩
  have ea:∀ d u,bz w (af C w S (ts++H)) S d u→bz w (af C w (pt (fS (eB r) S) r ⟨some b,ts⟩) H) (pt (fS (eB r) S) r ⟨some b,ts⟩) (eB r d) u:=
    fun d u hd=>abE cF (R:=⟨some b,ts⟩) h1 rfl rfl (rb hg hd)
  have dw:=h.mem.hand
  rw [dU] at dw
  refine ⟨?_,ea,?_⟩
  · refine h.step (f:=eB r) ?_ rfl rfl ea ⟨eU,?_,fV hX _ dw.2,fun k hk=>h.mem.lt k ((sJ k).1 hk)⟩ ⟨h.kept.os,h.kept.tape,h.kept.output,h.kept.size,h.kept.block,fun k hk=>h.kept.iJ k ((sJ k).1 hk),?_⟩
    · exact DF (qd hg h.rt) r ⟨some b,ts⟩
    · intro r' R' eE
      by_cases he:r'=r
      · subst he
        rw [cI,Option.some.injEq] at eE
        subst eE
        refine ⟨eY,fun t ht=>?_⟩
        have:=(cu _).1 (fV hX _ dw.1) t ht
        cases t with
        | v d u=>exact .inl this
        | own s n cap a cs=>exact this
      · rw [dL _ _ he,lP] at eE
        cases hx:lk S r' with
        | none=>simp [hx] at eE
        | some R0=>
          simp only [hx,Option.map_some,Option.some.injEq] at eE
          subst eE
          obtain ⟨k1,k2⟩:=h.mem.root r' R0 hx
          refine ⟨?_,?_⟩
          · simp only [List.length_map]
            have hv:aG (R0.cs.map (fT (eB r)))=aG R0.cs:=by
              rw [cW,cW,List.map_map]
              congr 1
              funext t
              cases t<;>rfl
            rw [hv]
            exact k1
          · intro t ht
            simp only [List.mem_map] at ht
            obtain ⟨t0,kP,rfl⟩:=ht
            have:=k2 t0 kP
            cases t0 with
            | v d u=>
              simp only [fT,jq] at this ⊢
              rw [hg.leaf]
              rcases this with this | ⟨hb,this⟩
              · exact .inl (sF hg Hb (vq hX _ _ this))
              · exact .inr ⟨hb,by rw [vm this]; exact ea _ _ this⟩
            | own s n cap a xs=>
              simp only [fT]
              exact dT cF _ this (fun _ _=>rfl)
    · intro r' b' vs hm R' eE
      by_cases he:r'=r
      · subst he
        rw [cI,Option.some.injEq] at eE
        subst eE
        obtain ⟨g1,g2⟩:=h.kept.par r' b' vs hm _ h0
        refine ⟨g1,fun hb=>?_⟩
        rw [hb] at g1
        simp at g1
      · rw [dL _ _ he,lP] at eE
        cases hx:lk S r' with
        | none=>simp [hx] at eE
        | some R0=>
          simp only [hx,Option.map_some,Option.some.injEq] at eE
          subst eE
          obtain ⟨g1,g2⟩:=h.kept.par r' b' vs hm R0 hx
          refine ⟨g1,fun hb=>?_⟩
          rw [← g2 hb]
          simp only [cW,List.map_map]
          congr 1
          funext t
          cases t<;>rfl
  · refine nI.trans (S':=fS (eB r) S) (Sd _ S) (fun r' R' eE=>?_)
    by_cases he:r'=r
    · subst he
      rw [h1,Option.some.injEq] at eE
      subst eE
      exact ⟨_,cI _ _ _,rfl⟩
    · exact ⟨R',by rw [dL _ _ he]; exact eE,rfl⟩
end
end Go.Proofs.YtockoilcnmljiaaGreat
namespace Go.Proofs.YtockoilcnmljiaaGreat
def jD (S S':List (Nat × RT)):Prop:=∀ r R,lk S r=some R→∃ R',lk S' r=some R'∧R'.box=R.box∧(R.cs=[]→R'.cs=[])
theorem jD.refl (S:List (Nat × RT)):jD S S:=fun _ R h=>⟨R,h,rfl,fun h=>h⟩
theorem jD.trans {S S' AB:List (Nat × RT)} (h:jD S S') (h':jD S' AB):jD S AB:=fun r R hr=>by
  obtain ⟨R1,h1,h2,h3⟩:=h r R hr
  obtain ⟨R2,h4,h5,h6⟩:=h' r R1 h1
  exact ⟨R2,h4,h5.trans h2,fun e=>h6 (h3 e)⟩
theorem qB.e {S S':List (Nat × RT)} (h:qB S S'):jD S S':=fun r R hr=>by
  obtain ⟨R1,h1,h2,h3⟩:=h.fwd r R hr
  exact ⟨R1,h1,h2,fun e=>by
    have h4:=congrArg List.length h3
    rw [e] at h4
    simp only [bX,List.length_nil] at h4
    exact List.length_eq_zero_iff.1 h4⟩
theorem jD.b {S S':List (Nat × RT)} (h:jD S S'):nI S S':=fun r R hr=>by
  obtain ⟨R1,h1,h2,_⟩:=h r R hr
  exact ⟨R1,h1,h2⟩
theorem jD.empty {S S':List (Nat × RT)} (h:jD S S') {r:Nat} {b:Option Nat} (hr:lk S r=some ⟨b,[]⟩):lk S' r=some ⟨b,[]⟩:=by
  obtain ⟨R1,h1,h2,h3⟩:=h r _ hr
  have:=h3 rfl
  cases R1
  simp only at h2 this
  rw [h1,h2,this]
section
variable {C:Ctx} {H:List T} {w:World} {st st':St} {aJ:List (Array Value)} {S:List (Nat × RT)}
theorem Tz (h:Rel C H w st aJ S) {r b:Nat} {R:RT} (hR:lk S r=some R) (hb:R.box=some b):
    Rel C H w { st with rt:=pz st.rt r [] } aJ (pt S r ⟨some b,[]⟩)∧im C w w S (pt S r ⟨some b,[]⟩) H H id∧jD S (pt S r ⟨some b,[]⟩):=by
  obtain ⟨A,B,f1,f2⟩:=me hR
  have f3:=f2 ⟨some b,[]⟩
  simp only [RT.ft,hb,Option.toList,aj,List.append_nil] at f1 f3
  have eG:∀ k∈cM (pt S r ⟨some b,[]⟩)++aj H,k∈cM S++aj H:=by
    intro k hk
    rw [f3] at hk
    rw [f1]
    simp only [List.mem_append,List.mem_singleton] at hk ⊢
    rcases hk with ((hk | hk) | hk) | hk<;>simp [hk]
  have eU:(cM (pt S r ⟨some b,[]⟩)++aj H).Nodup:=by
    have h0:=h.mem.nd
    rw [f1] at h0
    rw [f3]
    refine List.Nodup.sublist ?_ h0
    refine List.Sublist.append (List.Sublist.append (List.Sublist.append (List.Sublist.refl _) ?_) (List.Sublist.refl _)) (List.Sublist.refl _)
    simp
  have hX:∀ b' k,af C w S H b' k→af C w (pt S r ⟨some b,[]⟩) H b' k:=jO eG
  have cF:jB w w (af C w S H) (af C w (pt S r ⟨some b,[]⟩) H):=fun b k hk=>⟨hX b k hk,rfl⟩
  have ea:∀ d u,bz w (af C w S H) S d u→bz w (af C w (pt S r ⟨some b,[]⟩) H) (pt S r ⟨some b,[]⟩) d u:=by
    intro d u hd
    cases d with
    | ref r' q' o' x=>
      intro t ht
      by_cases he:r'=r
      · subst he
        obtain ⟨R',l,e1,e2,e3⟩:=FN ht
        rw [cI,Option.some.injEq] at e1
        subst e1
        cases q' with
        | nil=>simp only [aA,Option.some.injEq] at e2; subst e2; simp at e3
        | cons p q=>simp [aA] at e2
      · refine hd t ?_
        rw [← ht]
        simp only [cB,dL _ _ he]
    | ptr r' q' o'=>
      intro R' eo
      by_cases he:r'=r
      · subst he
        rw [cI,Option.some.injEq] at eo
        subst eo
        refine ⟨fun _=>rfl,fun b' off ha=>?_⟩
        cases q' with
        | nil=>
          refine (hd R hR).2 b' off ?_
          simp only [cj,hb] at ha ⊢
          exact ha
        | cons p q=>simp [cj] at ha
      · rw [dL _ _ he] at eo
        exact hd R' eo
    | cr cs o=>exact ov (S:=S) (d:=.cr cs o) cF hd
    | _=>exact gy cF _ _ hd
  refine ⟨h.sC ?_ rfl rfl ea ⟨eU,?_,fV hX _ h.mem.hand,fun k hk=>h.mem.lt k (eG k hk)⟩ ⟨h.kept.os,h.kept.tape,h.kept.output,h.kept.size,h.kept.block,fun k hk=>h.kept.iJ k (eG k hk),?_⟩,ea,?_⟩
  · exact DF h.rt r ⟨some b,[]⟩
  · intro r' R' eE
    by_cases he:r'=r
    · subst he
      rw [cI,Option.some.injEq] at eE
      subst eE
      refine ⟨?_,by simp⟩
      have:=(h.mem.root _ R hR).1
      rw [hb] at this
      obtain ⟨c,e,fz,g1,g2,g3,g4⟩:=this
      exact ⟨c,e,fz,g1,g2,by simp,by simp [aG]⟩
    · rw [dL _ _ he] at eE
      obtain ⟨k1,k2⟩:=h.mem.root r' R' eE
      refine ⟨k1,fun t ht=>?_⟩
      have:=k2 t ht
      cases t with
      | v d u=>
        rcases this with this | ⟨hb,this⟩
        · exact .inl (vq hX _ _ this)
        · exact .inr ⟨hb,ea _ _ this⟩
      | own s n cap a xs=>exact dT cF _ this (fun _ _=>rfl)
  · intro r' b' vs hm R' eE
    by_cases he:r'=r
    · subst he
      rw [cI,Option.some.injEq] at eE
      subst eE
      obtain ⟨g1,_⟩:=h.kept.par r' b' vs hm _ hR
      rw [hb] at g1
      exact ⟨g1,fun e=>by rw [e] at g1; simp at g1⟩
    · rw [dL _ _ he] at eE
      exact h.kept.par r' b' vs hm R' eE
  · intro r' R' eE
    by_cases he:r'=r
    · subst he
      rw [hR,Option.some.injEq] at eE
      subst eE
      exact ⟨_,cI _ _ _,hb.symm,fun _=>rfl⟩
    · exact ⟨R',by rw [dL _ _ he]; exact eE,rfl,fun h=>h⟩
theorem adR (h:Rel C H w st aJ S) {r b:Nat} {R:RT} (hR:lk S r=some R) (hb:R.box=some b) {cs':List D} (ht:UE st r=some (cs',st')):
    ∃ ts S',Rel C (ts++H) w st' aJ S'∧bu ts=cs'∧ts≠[]∧lk S' r=some ⟨some b,[]⟩∧lL w b 0 ts.length (aG ts)∧im C w w S S' H (ts++H) id∧jD S S'∧mh st st':=by
  unfold UE at ht
  rw [h.rt,hR] at ht
  simp only [Option.map_some] at ht
  split at ht
  case h_2=>simp at ht
  rename_i c cs eM
  simp only [Option.some.injEq] at eM
  split at ht
  case h_2=>simp at ht
  rename_i cs1 aQ dI
  simp only [Option.some.injEq,Prod.mk.injEq] at ht
  obtain ⟨rfl,rfl⟩:=ht
  have eb:cm (bz w (af C w S H) S) (lO r [] 0 (c::cs)) (aG R.cs):=by
    rw [← eM]
    refine dv (by rw [qx,fx,bX]) (fun i x y hx hy=>?_)
    rw [oq,iD] at hx
    rw [fv] at hy
    cases hi:R.cs[i]? with
    | none=>simp [hi] at hx
    | some t=>
      simp only [hi,Option.map_some,Option.some.injEq,Nat.zero_add] at hx hy
      subst hx; subst hy
      exact qw h.mem hR rfl hi
  obtain ⟨ts,S1,a1,a2,a3,a4,a5,a6⟩:=G5 h eb dI
  obtain ⟨R1,b1,b2,_⟩:=a5.fwd r R hR
  obtain ⟨c1,c2,c3⟩:=Tz a1 b1 (b2.trans hb)
  refine ⟨ts,_,c1,a2,?_,cI _ _ _,?_,fun d u hd=>c2 d u (a4 d u hd),a5.e.trans c3,a6⟩
  · intro e
    have h1:=congrArg List.length eM
    have h2:=congrArg List.length a3
    rw [e] at h2
    rw [fx] at h1
    simp only [bX,List.length_cons,List.length_nil] at h1 h2
    omega
  · have h1:=(h.mem.root r R hR).1
    rw [hb] at h1
    have h2:=congrArg List.length a3
    simp only [bX] at h2
    rw [h2,a3]
    exact h1
end
def fL:D→Value→List T→Prop
  | .agg cs,u,ts=>cs=bu ts∧∃ us,u=.agg us∧us.toList=aG ts
  | d,u,ts=>∃ t,ts=[t]∧d=t.er∧u=t.val
abbrev Arg:=Option Nat × List T
def Lr (w:World) (X:Bool→Nat→Prop):Bool→D→Value→Arg→Prop
  | false,d,u,a=>a=(none,[])∧∀ S,gL w X S d u
  | true,.bp cs,u,a=>∃ b,a.1=some b∧a.2≠[]∧cs=bu a.2∧u=.pointer (some ⟨b,0,none⟩)∧lL w b 0 a.2.length (aG a.2)
  | true,d,u,a=>a.1=none∧fL d u a.2
def rl (w:World) (S:List (Nat × RT)):Bool→D→D→Value→Arg→Prop
  | false,d,d1,_,a=>a=(none,[])∧d1=d
  | true,d,.bp cs,u,a=>∃ r b,d=.ptr r [] 0∧a.1=some b∧lk S r=some ⟨some b,[]⟩∧a.2≠[]∧cs=bu a.2∧u=.pointer (some ⟨b,0,none⟩)∧lL w b 0 a.2.length (aG a.2)
  | true,d,d1,u,a=>a.1=none∧fL d1 u a.2∧aG a.2=gT d u∧(∀ r,d≠.ptr r [] 0)∧((∃ cs,d1=.agg cs)↔∃ cs,d=.agg cs)∧(∀ f cs,d≠.fn f cs)∧∀ ds,d≠.bf ds
def tQ (w:World) (S:List (Nat × RT)):List Bool→List D→List D→List Value→List Arg→Prop
  | _,[],gv,us,as9=>gv=[]∧us=[]∧as9=[]
  | b,d::ds,gv,us,as9=>∃ d1 zS u kA a cy,gv=d1::zS∧us=u::kA∧as9=a::cy∧rl w S (b.headD false) d d1 u a∧tQ w S b.tail ds zS kA cy
def cT (as9:List Arg):List T:=(as9.map Prod.snd).reverse.flatten
theorem rm (a:Arg) (as9:List Arg):cT (a::as9)=cT as9++a.2:=by simp [cT]
theorem rl.Lf {w:World} {S S':List (Nat × RT)} (h:jD S S') {b:Bool} {d d1:D} {u:Value} {a:Arg} (hg:rl w S b d d1 u a):rl w S' b d d1 u a:=by
  cases b with
  | false=>exact hg
  | true=>
    cases d1 with
    | bp cs=>
      obtain ⟨r,b,h1,h2,h3,h4⟩:=hg
      exact ⟨r,b,h1,h2,h.empty h3,h4⟩
    | _=>exact hg
theorem EW {w:World} {S:List (Nat × RT)} {d d1:D} {u:Value} {a:Arg} (hn:∀ cs,d1≠.bp cs) (h1:a.1=none) (h2:fL d1 u a.2) (h3:aG a.2=gT d u) (h4:∀ r,d≠.ptr r [] 0) (h5:(∃ cs,d1=.agg cs)↔∃ cs,d=.agg cs) (h6:(∀ f cs,d≠.fn f cs)∧∀ ds,d≠.bf ds):rl w S true d d1 u a:=by
  cases d1<;>first | exact ⟨h1,h2,h3,h4,h5,h6⟩ | exact absurd rfl (hn _)
theorem sL {t:T} {w:World} {X:Bool→Nat→Prop} (hs:bM w X t):(∀ cs,t.er≠.bp cs)∧(∀ cs,t.er≠.agg cs)∧(∀ cs,t.er≠.bf cs):=by
  cases t with
  | own s n cap a xs=>simp [T.er]
  | v d u=>
    simp only [bM] at hs
    simp only [T.er]
    refine ⟨fun cs e=>?_,fun cs e=>?_,fun cs e=>?_⟩<;>(rw [e] at hs; simp [Ext] at hs)
section
variable {C:Ctx} {w:World} {aJ:List (Array Value)}
theorem O6 {H:List T} {st st':St} {S:List (Nat × RT)} {d d':D} {u:Value} (h:Rel C H w st aJ S) (hd:cz w (af C w S H) S d u) (ht:EG st d=some (d',st')):
    ∃ (a:Arg) (S':List (Nat × RT)),Rel C (a.2++H) w st' aJ S'∧rl w S' true d d' u a∧im C w w S S' H (a.2++H) id∧jD S S'∧mh st st'∧∀ b,a.1=some b→∀ r0,lk S r0≠some ⟨some b,[]⟩:=by
  by_cases hp:∃ r,d=.ptr r [] 0
  · obtain ⟨r,rfl⟩:=hp
    simp only [EG] at ht
    split at ht
    case h_2=>simp at ht
    rename_i cs1 aQ dI
    simp only [Option.some.injEq,Prod.mk.injEq] at ht
    obtain ⟨rfl,rfl⟩:=ht
    cases hR:lk S r with
    | none=>simp [UE,h.rt r,hR] at dI
    | some R=>
      have tK:∀ R,lk S r=some R→(([]:List Nat)=[]→R.box.isSome)∧∀ b off,cj R.box R.cs []=some (b,off)→u=.pointer (some ⟨b,off+0,none⟩):=hd
      obtain ⟨h1,h2⟩:=tK R hR
      obtain ⟨b,hb⟩:=Option.isSome_iff_exists.1 (h1 rfl)
      obtain ⟨ts,S',a1,a2,a3,a4,a5,a6,a7,a8⟩:=adR h hR hb dI
      refine ⟨(some b,ts),S',a1,⟨r,b,rfl,rfl,a4,a3,a2.symm,by have:=h2 b 0 (by simp [cj,hb]); simpa using this,a5⟩,a6,a7,a8,fun b' e r0 Sa=>?_⟩
      simp only [Option.some.injEq] at e
      subst e
      have:=zR (List.nodup_append.1 h.mem.nd).1 hR hb Sa (by simp [RT.ft])
      subst this
      rw [hR,Option.some.injEq] at Sa
      subst Sa
      simp [UE,h.rt _,hR,bu] at dI
  · have hp:∀ r,d≠.ptr r [] 0:=fun r e=>hp ⟨r,e⟩
    by_cases ha:∃ cs,d=.agg cs
    · obtain ⟨cs,rfl⟩:=ha
      simp only [EG] at ht
      split at ht
      case h_2=>simp at ht
      rename_i cs1 aQ dI
      simp only [Option.some.injEq,Prod.mk.injEq] at ht
      obtain ⟨rfl,rfl⟩:=ht
      obtain ⟨ts,S',a1,a2,a3,a4,a5,a6⟩:=ri h hd (d:=.agg cs) dI
      obtain ⟨us,rfl,_⟩:=hd
      exact ⟨(none,ts),S',a1,EW (by simp) rfl ⟨a2.symm,us,rfl,by rw [a3]; rfl⟩ a3 hp (by simp) (by simp),a4,a5.e,a6,by simp⟩
    · have dI:jn st d=some (d',st'):=by
        unfold EG at ht
        split at ht
        · exact absurd ⟨_,rfl⟩ ha
        · exact absurd rfl (hp _)
        · exact ht
      have cR:cellsOf d=[d]:=by cases d<;>first | rfl | exact absurd ⟨_,rfl⟩ ha
      obtain ⟨ts,S',a1,a2,a3,a4,a5,a6⟩:=ri h hd (ds':=[d']) (st':=st') (by rw [cR]; simp only [rY,dI])
      have hv:gT d u=[u]:=by cases d<;>first | rfl | exact absurd ⟨_,rfl⟩ ha
      rw [hv] at a3
      obtain ⟨t,rfl⟩:∃ t,ts=[t]:=by
        match ts,a2 with
        | [t],_=>exact ⟨t,rfl⟩
      simp only [bu,List.cons.injEq,and_true] at a2
      simp only [aG,List.cons.injEq,and_true] at a3
      subst a2
      have hs:=sL (fU (o:=0) a1.mem.hand (t:=t) rfl)
      refine ⟨(none,[t]),S',a1,EW hs.1 rfl ?_ (by rw [hv]; simp [aG,a3]) hp ?_ ⟨fun f cs e=>by rw [e] at dI; simp [jn] at dI,fun ds e=>by rw [e] at dI; simp [jn] at dI⟩,a4,a5.e,a6,by simp⟩
      · have:∀ d1,(∀ cs,d1≠.agg cs)→d1=t.er→fL d1 u [t]:=fun d1 hn e=>by
          cases d1<;>first | exact ⟨t,rfl,e,a3.symm⟩ | exact absurd rfl (hn _)
        exact this _ hs.2.1 rfl
      · exact ⟨fun ⟨cs,e⟩=>absurd e (hs.2.1 cs),fun ⟨cs,e⟩=>absurd ⟨cs,e⟩ ha⟩
theorem Hg:∀ {b:List Bool} {ds gv:List D} {us:List Value} {H:List T} {st st':St} {S:List (Nat × RT)},Rel C H w st aJ S→cm (cz w (af C w S H) S) ds us→nr st b ds=some (gv,st')→
    ∃ (as9:List Arg) (S':List (Nat × RT)),Rel C (cT as9++H) w st' aJ S'∧tQ w S' b ds gv us as9∧im C w w S S' H (cT as9++H) id∧jD S S'∧mh st st'∧(as9.filterMap Prod.fst).Nodup∧∀ r bk,lk S r=some ⟨some bk,[]⟩→bk∉as9.filterMap Prod.fst:=by
  intro b ds
  induction ds generalizing b with
  | nil=>
    intro gv us H st st' S h hu hc
    cases hu
    simp only [nr,Option.some.injEq,Prod.mk.injEq] at hc
    obtain ⟨rfl,rfl⟩:=hc
    exact ⟨[],S,h,⟨rfl,rfl,rfl⟩,fun _ _ h=>h,jD.refl _,mh.refl _,by simp,by simp⟩
  | cons d ds ih=>
    intro gv us H st st' S h hu hc
    cases hu with
    | cons tN EM=>
    rename_i u us
    simp only [nr] at hc
    split at hc
    case h_2=>simp at hc
    rename_i d1 aQ h1
    split at hc
    case h_2=>simp at hc
    rename_i tG ct h2
    simp only [Option.some.injEq,Prod.mk.injEq] at hc
    obtain ⟨rfl,rfl⟩:=hc
    obtain ⟨a,S1,a1,a2,a3,a4,a5,a6⟩:∃ (a:Arg) (S':List (Nat × RT)),Rel C (a.2++H) w aQ aJ S'∧rl w S' (b.headD false) d d1 u a∧im C w w S S' H (a.2++H) id∧jD S S'∧mh st aQ∧∀ b,a.1=some b→∀ r0,lk S r0≠some ⟨some b,[]⟩:=by
      cases hb:b.headD false with
      | false=>
        rw [hb] at h1
        simp only [Bool.false_eq_true,if_false,Option.some.injEq,Prod.mk.injEq] at h1
        obtain ⟨rfl,rfl⟩:=h1
        exact ⟨(none,[]),S,h,⟨rfl,rfl⟩,fun _ _ h=>h,jD.refl _,mh.refl _,by simp⟩
      | true=>
        rw [hb] at h1
        exact O6 h tN (by simpa using h1)
    obtain ⟨as9,S2,b1,b2,b3,b4,b5,b6,b7⟩:=ih a1 (EM.mono (fun _ _ hh=>qz a3 hh)) h2
    refine ⟨a::as9,S2,?_,⟨_,_,_,_,_,_,rfl,rfl,rfl,a2.Lf b4,b2⟩,fun d u hd=>?_,a4.trans b4,mh.trans a5 b5,?_,fun r bk hr=>?_⟩
    · rw [rm,List.append_assoc]; exact b1
    · rw [rm,List.append_assoc]; exact b3 d u (a3 d u hd)
    · cases ha:a.1 with
      | none=>simpa [ha] using b6
      | some bk=>
        simp only [List.filterMap_cons,ha,List.nodup_cons]
        refine ⟨?_,b6⟩
        cases hb:b.headD false with
        | false=>rw [hb] at a2; obtain ⟨rfl,_⟩:=a2; simp at ha
        | true=>
          rw [hb] at a2
          cases d1 with
          | bp cs=>
            obtain ⟨r,O7,_,e2,e3,_⟩:=a2
            rw [ha,Option.some.injEq] at e2
            subst e2
            exact b7 r bk e3
          | _=>rw [a2.1] at ha; simp at ha
    · cases ha:a.1 with
      | none=>simp only [List.filterMap_cons,ha]; exact b7 r bk (a4.empty hr)
      | some O7=>
        simp only [List.filterMap_cons,ha,List.mem_cons,not_or]
        exact ⟨fun e=>a6 O7 ha r (e▸hr),b7 r bk (a4.empty hr)⟩
end
end Go.Proofs.YtockoilcnmljiaaGreat
namespace Go.Proofs.YtockoilcnmljiaaGreat
theorem xK {α β γ:Type} {f:α→Option β} {R:α→γ→Prop} {R':β→γ→Prop}:∀ {as9:List α} {bs:List β} {cs:List γ},cm R as9 cs→lG f as9=some bs→(∀ a b c,R a c→f a=some b→R' b c)→cm R' bs cs
  | [],bs,cs,h,hm,_=>by
    cases h
    simp only [lG,Option.some.injEq] at hm
    subst hm
    exact .nil
  | a::as9,bs,cs,h,hm,hr=>by
    cases h with
    | cons h1 h2=>
    simp only [lG] at hm
    split at hm
    case h_2=>simp at hm
    rename_i b hb
    split at hm
    case h_2=>simp at hm
    rename_i ZA Lq
    simp only [Option.some.injEq] at hm
    subst hm
    exact .cons (hr _ _ _ h1 hb) (xK h2 Lq hr)
section
variable {C:Ctx} {H:List T} {w:World} {st:St} {aJ:List (Array Value)} {S:List (Nat × RT)} (h:Rel C H w st aJ S) {X':Bool→Nat→Prop} (hX:∀ b k,af C w S H b k→X' b k)
  (hF:∀ r R k,lk S r=some R→R.cs≠[]→k∈R.ft→X' true k)
include h hX hF
theorem O8 {d d':D} {u:Value} (hd:bz w (af C w S H) S d u) (he:uH st d=some d'):Ext w X' d' u:=by
  cases d with
  | int k n=>simp only [uH,Option.some.injEq] at he; subst he; exact hd
  | bool b=>simp only [uH,Option.some.injEq] at he; subst he; exact hd
  | str s=>simp only [uH,Option.some.injEq] at he; subst he; exact hd
  | nil s=>simp only [uH,Option.some.injEq] at he; subst he; exact hd
  | undef=>simp only [uH,Option.some.injEq] at he; subst he; simp [Ext]
  | hole s n=>simp only [uH,Option.some.injEq] at he; subst he; simp [Ext]
  | sl g s n cs=>
    simp only [uH,Option.some.injEq] at he
    subst he
    cases g with
    | none=>simp [bz,Ext] at hd
    | some g=>exact vq hX _ _ hd
  | ref r q o x=>
    simp only [uH] at he
    split at he
    case h_2=>simp at he
    rename_i g s n cs hc
    simp only [Option.some.injEq] at he
    subst he
    obtain ⟨R,l,t,h1,h2,h3,h4,h5⟩:=iW h.rt hc
    refine DG hX true h5.symm (tJ h.mem h1 h2 h3 h5.symm) (fun k hk=>hF r R k h1 ?_ ?_) (hd t h4)
    · intro e
      rw [e] at h2
      cases q with
      | nil=>simp only [aA,Option.some.injEq] at h2; subst h2; simp at h3
      | cons p q=>simp [aA] at h2
    · have:k∈aj l:=DJ (List.mem_of_getElem? h3) hk
      have:=Lm h2 this
      simp [RT.ft,this]
  | _=>simp [uH] at he
theorem Vk {b:Bool} {t:T} {d':D} (hc:jq w (af C w S H) S b t) (hf:∀ k∈t.ft,X' true k) (he:uH st t.er=some d'):Ext w X' d' t.val:=by
  cases t with
  | v d u=>
    have:bz w (af C w S H) S (bU d) u:=by
      rcases hc with hc | ⟨_,hc⟩
      · exact fK hc
      · exact hc
    exact O8 h hX hF this he
  | own s n cap a cs=>
    simp only [T.er,uH,Option.some.injEq] at he
    subst he
    exact zH hX true (.own s n cap a cs) hc hf
theorem ng {d d':D} {u:Value} (hd:bz w (af C w S H) S d u) (he:RQ st d=some d') (S':List (Nat × RT)):bz w X' S' d' u:=by
  cases d with
  | cr cs o=>
    simp only [RQ,Option.some.injEq] at he
    subst he
    obtain ⟨b,off,c,e,fz,us,h1,h2,h3,h4,h5⟩:=hd
    exact ⟨b,off,c,e,fz,us,h1,hX true b h2,h3,tI (fun b k hk=>⟨hX b k hk,rfl⟩) cs us h4,h5⟩
  | ptr r q o=>
    simp only [RQ] at he
    split at he
    case h_2=>simp at he
    rename_i c cs eM
    split at he
    case h_2=>simp at he
    rename_i cs' hm
    simp only [Option.some.injEq] at he
    subst he
    obtain ⟨R,l,h1,h2,h3⟩:=vJ st S h.rt eM
    have hl:l≠[]:=fun e=>by rw [e] at h3; simp [bu] at h3
    obtain ⟨p1,p2⟩:=hd R h1
    obtain ⟨b,off,fw,a1,a2,a3,a4⟩:=q8 h.mem h1 h2 hl p1
    have hR:R.cs≠[]:=fun e=>by
      rw [e] at h2
      cases q with
      | nil=>simp only [aA,Option.some.injEq] at h2; exact hl h2.symm
      | cons p q=>simp [aA] at h2
    have hb:b∈R.ft:=by
      cases q with
      | nil=>
        simp only [cj] at a1
        cases hx:R.box with
        | none=>simp [hx] at a1
        | some b'=>simp only [hx,Option.map_some,Option.some.injEq,Prod.mk.injEq] at a1; simp [RT.ft,hx,a1.1]
      | cons p q=>simp [RT.ft,sx a1]
    obtain ⟨cc,e,fz,b1,b2,b3,b4⟩:=a2
    refine ⟨b,off,cc,e,fz,aG l,p2 b off a1,hF r R b h1 hR hb,b1,(hM _ _).2 ?_,b4⟩
    have eb:cm (fun d u=>∃ t bx,d=t.er∧u=t.val∧jq w (af C w S H) S bx t∧∀ k∈t.ft,X' true k) (c::cs) (aG l):=by
      rw [h3]
      refine dv (by simp [fx,bX]) (fun i x y hx hy=>?_)
      rw [iD] at hx
      rw [fv] at hy
      cases hi:l[i]? with
      | none=>simp [hi] at hx
      | some t=>
        simp only [hi,Option.map_some,Option.some.injEq] at hx hy
        have dj:∀ k∈t.ft,X' true k:=fun k hk=>hF r R k h1 hR (by
          have:=Lm h2 (DJ (List.mem_of_getElem? hi) hk)
          simp [RT.ft,this])
        cases q with
        | nil=>
          simp only [aA,Option.some.injEq] at h2
          subst h2
          exact ⟨t,R.box.isSome,hx.symm,hy.symm,(h.mem.root r R h1).2 t (List.mem_of_getElem? hi),dj⟩
        | cons p q=>
          have:=fU (a4 (by simp)) hi
          refine ⟨t,true,hx.symm,hy.symm,?_,dj⟩
          cases t with
          | v d u=>exact .inl this
          | own s n cap a cs=>exact this
    exact xK eb hm (fun a b c ⟨t,bx,e1,e2,e3,e4⟩ he=>by
      subst e1; subst e2
      exact Vk h hX hF e3 e4 he)
  | _=>exact fK (O8 h hX hF hd he)
theorem adT {d d':D} {u:Value} (hd:cz w (af C w S H) S d u) (he:UD st d=some d') (S':List (Nat × RT)):gL w X' S' d' u:=by
  cases d with
  | agg cs=>
    simp only [UD] at he
    split at he
    case h_2=>simp at he
    rename_i cs' hm
    simp only [Option.some.injEq] at he
    subst he
    obtain ⟨us,rfl,hu⟩:=hd
    exact ⟨us,rfl,xK hu hm (fun a b c h1 h2=>fK (O8 h hX hF h1 h2))⟩
  | fn f cs=>
    simp only [UD] at he
    split at he
    case h_2=>simp at he
    rename_i cs' hm
    simp only [Option.some.injEq] at he
    subst he
    obtain ⟨us,rfl,hu⟩:=hd
    exact ⟨us,rfl,xK hu hm (fun a b c h1 h2=>ng h hX hF h1 h2 S')⟩
  | bf ds=>simp [UD,RQ,uH] at he
  | int k n=>exact ew (ng h hX hF (d:=.int k n) hd he S')
  | bool b=>exact ew (ng h hX hF (d:=.bool b) hd he S')
  | str s=>exact ew (ng h hX hF (d:=.str s) hd he S')
  | sl g s n cs=>exact ew (ng h hX hF (d:=.sl g s n cs) hd he S')
  | ref r q o x=>exact ew (ng h hX hF (d:=.ref r q o x) hd he S')
  | nil s=>exact ew (ng h hX hF (d:=.nil s) hd he S')
  | ptr r q o=>exact ew (ng h hX hF (d:=.ptr r q o) hd he S')
  | cr cs o=>exact ew (ng h hX hF (d:=.cr cs o) hd he S')
  | bp cs=>exact ew (ng h hX hF (d:=.bp cs) hd he S')
  | hole s n=>exact ew (ng h hX hF (d:=.hole s n) hd he S')
  | undef =>exact ew (ng h hX hF (d:=.undef) hd he S')
end
end Go.Proofs.YtockoilcnmljiaaGreat
namespace Go.Proofs.YtockoilcnmljiaaGreat
def DL (a:Arg):List Nat:=a.1.toList++aj a.2
def bL:List Arg→List Nat
  | []=>[]
  | a::as9=>DL a++bL as9
def uF (w:World) (X:Bool→Nat→Prop):List Bool→List D→List Value→List Arg→Prop
  | _,[],us,as9=>us=[]∧as9=[]
  | b,d::ds,us,as9=>∃ u kA a cy,us=u::kA∧as9=a::cy∧Lr w X (b.headD false) d u a∧uF w X b.tail ds kA cy
def Lk (w:World) (F:List Nat) (Y:Nat→Prop) (b:Bool) (k:Nat):Prop:=k < w.heap.size∧k∉F∧(b=false→Y k)
structure mq (w:World) (Y:Nat→Prop) (own:List Bool) (ds:List D) (us:List Value) (as9:List Arg):Prop where
  args:uF w (Lk w (bL as9) Y) own ds us as9
  nd:(bL as9).Nodup
  lt:∀ k∈bL as9,k < w.heap.size
  sat:∀ a∈as9,bN w (Lk w (bL as9) Y) a.2
def sO (b:Nat) (ts:List T):T:=.own ts.length 1 1 (some (b,0)) ts
def tR:List D→List Value→List T→Prop
  | [],us,ts=>us=[]∧ts=[]
  | d::ds,us,ts=>∃ u kA t1 t2,us=u::kA∧ts=t1++t2∧fL d u t1∧tR ds kA t2
def Ls:D→Value→List T→Prop
  | .bp cs,v,ts=>∃ b Se,ts=[sO b Se]∧cs=bu Se∧v=.pointer (some ⟨b,0,none⟩)
  | .bf ds,v,ts=>∃ us,v=.tuple us∧tR ds us.toList ts
  | d,v,ts=>fL d v ts
def pe (w':World):Bool→D→Arg→Arg→Prop
  | false,_,_,a'=>a'=(none,[])
  | true,.bp cs,a,a'=>a'.1=a.1∧(∃ b,a.1=some b∧lL w' b 0 a'.2.length (aG a'.2))∧cs=bu a'.2
  | true,.agg cs,a,a'=>a.1=none∧a'.1=none∧cs=bu a'.2∧aG a'.2=aG a.2
  | true,d,a,a'=>a.1=none∧a'.1=none∧((a'.2=[]∧∀ s n cs,d≠.sl none s n cs)∨∃ t,a'.2=[t]∧d=t.er∧aG [t]=aG a.2)
def mP (w':World):List Bool→List D→List Arg→List Arg→Prop
  | _,os,[],cy=>os=[]∧cy=[]
  | b,os,a::as9,cy=>∃ o yB a' O9,os=o::yB∧cy=a'::O9∧pe w' (b.headD false) o a a'∧mP w' b.tail yB as9 O9
structure iF (w w':World) (Y:Nat→Prop) (own:List Bool) (as9:List Arg) (r:D) (outs:List D) (v:Value):Prop where
  sz:w.heap.size≤w'.heap.size
  cg:∀ k,k < w.heap.size→k∉bL as9→w'.heap[k]?=w.heap[k]?
  os:w'.os=w.os
  tape:w'.tape=w.tape
  out:w'.output=w.output
  res:∃ (ff:List T) (cy:List Arg),Ls r v ff∧mP w' own outs as9 cy∧(aj ff++bL cy).Nodup∧(∀ k∈aj ff++bL cy,k < w'.heap.size∧(k∈bL as9∨w.heap.size≤k))∧
    bN w' (fun b k=>Lk w' (aj ff++bL cy) (fun k=>Y k∨k∈bL as9∨w.heap.size≤k) b k) ff∧
    ∀ a∈cy,bN w' (fun b k=>Lk w' (aj ff++bL cy) (fun k=>Y k∨k∈bL as9∨w.heap.size≤k) b k) a.2
def rn (P : Program) (f : FuncId) : Prop := ∃ fn, P.funcs[f]? = some fn ∧ (fn.name == "runtime.NumGoroutine") = false ∧ fn.body.isNone = false
def lJ (P:Program) (own:FuncId→List Bool) (cl:FuncId→List D→Option (D × List D)):Prop:=
  ∀ f ds r outs,cl f ds=some (r,outs)→rn P f∧∀ (w:World) (Y:Nat→Prop) (us:Array Value) (as9:List Arg),mq w Y (own f) ds us.toList as9→dG r=true→(∀ o∈outs,dG o=true)→
    Calls P f us w fun e w'=>∃ v,e=.returned v∧iF w w' Y (own f) as9 r outs v
def lQ (h:D→D):Prop:=∀ x,h x=x∨h x=.undef
theorem XX:lQ id:=fun _=>.inl rfl
theorem Re (r:Nat) (q:List Nat) (o:Nat) (e:Bool):lQ (cA r q o e):=fun x=>by
  unfold cA
  split
  · split
    · split
      · exact .inl rfl
      · split
        · exact .inr rfl
        · exact .inl rfl
      · exact .inr rfl
    · exact .inl rfl
  · split
    · split
      · exact .inl rfl
      · exact .inr rfl
    · exact .inl rfl
  · exact .inl rfl
theorem Rf (r:Nat):lQ (eB r):=fun x=>by
  unfold eB
  split
  · split
    · exact .inr rfl
    · exact .inl rfl
  · split
    · exact .inr rfl
    · exact .inl rfl
  · exact .inl rfl
theorem lQ.comp {f g:D→D} (hf:lQ f) (hg:lQ g) (h0:f .undef=.undef):lQ (fun x=>f (g x)):=fun x=>by
  rcases hg x with e | e
  · show f (g x)=x∨f (g x)=.undef
    rw [e]; exact hf x
  · right; show f (g x)=_; rw [e,h0]
section
variable {C:Ctx} {w:World} {aJ:List (Array Value)}
theorem qE {H Hs:List T} {st:St} {S:List (Nat × RT)} (h:Rel C (Hs++H) w st aJ S):Rel C H w st aJ S∧im C w w S S (Hs++H) H id:=by
  have eG:∀ k∈cM S++aj H,k∈cM S++aj (Hs++H):=fun k hk=>by
    rw [bt]
    rcases List.mem_append.1 hk with h | h<;>simp [h]
  have hX:∀ b k,af C w S (Hs++H) b k→af C w S H b k:=jO eG
  have cF:jB w w (af C w S (Hs++H)) (af C w S H):=fun b k hk=>⟨hX b k hk,rfl⟩
  have ea:im C w w S S (Hs++H) H id:=fun d u hd=>ov cF hd
  refine ⟨h.sC h.rt rfl rfl ea ⟨?_,?_,fV hX _ ((dU _ _).1 h.mem.hand).2,fun k hk=>h.mem.lt k (eG k hk)⟩ ⟨h.kept.os,h.kept.tape,h.kept.output,h.kept.size,h.kept.block,fun k hk=>h.kept.iJ k (eG k hk),h.kept.par⟩,ea⟩
  · refine List.Nodup.sublist ?_ h.mem.nd
    rw [bt]
    exact List.Sublist.append (List.Sublist.refl _) (List.sublist_append_right _ _)
  · intro r R hr
    obtain ⟨k1,k2⟩:=h.mem.root r R hr
    refine ⟨k1,fun t ht=>?_⟩
    have:=k2 t ht
    cases t with
    | v d u=>
      rcases this with this | ⟨hb,this⟩
      · exact .inl (vq hX _ _ this)
      · exact .inr ⟨hb,ea _ _ this⟩
    | own s n cap a xs=>exact dT cF _ this (fun _ _=>rfl)
structure kR (C:Ctx) (w:World) (st st':St) (S S':List (Nat × RT)) (H H':List T) (h0 h1:D→D):Prop where
  TA:∀ d u,bz w (af C w S H) S (h0 d) u→bz w (af C w S' H') S' (h1 d) u
  Z2:lQ h1
  Lf:nI S S'
  of:st'.of=st.of
theorem kR.trans {st aQ ct:St} {S S1 S2:List (Nat × RT)} {H H1 H2:List T} {h0 h1 h2:D→D} (a:kR C w st aQ S S1 H H1 h0 h1) (b:kR C w aQ ct S1 S2 H1 H2 h1 h2):kR C w st ct S S2 H H2 h0 h2:=
  ⟨fun d u hd=>b.TA d u (a.TA d u hd),b.Z2,a.Lf.trans b.Lf,b.of.trans a.of⟩
theorem kR.drop {st:St} {S:List (Nat × RT)} {H Hs:List T} {h0:D→D} (h:Rel C (Hs++H) w st aJ S) (hk:lQ h0):kR C w st st S S (Hs++H) H h0 h0:=
  ⟨fun d u hd=>(qE h).2 _ _ hd,hk,nI.refl _,rfl⟩
theorem Pa:∀ {as9:List D} {ts:List T} {H:List T} {st st':St} {S:List (Nat × RT)} {h0 h1:D→D},Rel C (ts++H) w st aJ S→lQ h0→cm (fun a u=>bz w (af C w S (ts++H)) S (h0 a) u) as9 (aG ts)→pV st h0 as9 (bu ts)=some (st',h1)→
    ∃ S',Rel C H w st' aJ S'∧kR C w st st' S S' (ts++H) H h0 h1:=by
  intro as9
  induction as9 with
  | nil=>
    intro ts H st st' S h0 h1 h hk ha hb
    have BJ:ts=[]:=by
      cases ts with
      | nil=>rfl
      | cons t ts=>simp only [aG] at ha; cases ha
    subst BJ
    simp only [pV,Option.some.injEq,Prod.mk.injEq] at hb
    obtain ⟨rfl,rfl⟩:=hb
    exact ⟨S,h,⟨fun _ _ h=>h,hk,nI.refl _,rfl⟩⟩
  | cons a as9 ih=>
    intro ts H st st' S h0 h1 h hk ha hb
    cases ts with
    | nil=>simp only [aG] at ha; cases ha
    | cons t ts=>
      simp only [aG] at ha
      cases ha with
      | cons GW ha2=>
      simp only [bu,pV] at hb
      split at hb
      · rename_i r q o s n cs e1 e2
        split at hb
        case h_2=>simp at hb
        rename_i s0 n0 cR
        split at hb
        case isFalse=>simp at hb
        rename_i OP
        split at hb
        case h_2=>simp at hb
        rename_i aQ jl
        rw [e1] at GW
        rw [← e2] at jl
        obtain ⟨R,l,t0,g1,g2,g3,g4,g5⟩:=iW h.rt cR
        obtain ⟨d0,u0,rfl⟩:∃ d0 u0,t0=.v d0 u0:=by
          cases t0 with
          | v d0 u0=>exact ⟨d0,u0,rfl⟩
          | own s n cap a cs=>simp [T.er] at g5
        simp only [T.er] at g5
        have hu:=GW _ g4
        simp only [eT,T.er,← g5,sn] at hu
        obtain ⟨S1,b1,b2,b3,b4,_,_⟩:=O5 (ex:=false) h g4 ⟨d0,u0,rfl,fun _=>by rw [← g5]; simp [fr,cA]⟩ (.inl ⟨hu,fun p hp=>by
          rw [e2] at hp
          simp only [sn,Option.some.injEq] at hp
          simp only [T.er,← g5,sn,Option.some.injEq]
          rw [OP.1,OP.2]; exact hp⟩) jl
        have hk1:lQ (fun x=>cA r q o false (h0 x)):=lQ.comp (Re r q o false) hk rfl
        obtain ⟨S2,c1,c2⟩:=ih b1 hk1 (ha2.mono (fun x u hx=>b2 _ _ hx)) hb
        exact ⟨S2,c1,kR.trans ⟨fun d u hd=>b2 _ _ hd,hk1,b4,b3⟩ c2⟩
      · have hd:=qE (Hs:=[t]) h
        obtain ⟨S2,c1,c2⟩:=ih hd.1 hk (ha2.mono (fun x u hx=>hd.2 _ _ hx)) hb
        exact ⟨S2,c1,kR.trans (kR.drop (Hs:=[t]) h hk) c2⟩
def Z3 (w:World) (X:Bool→Nat→Prop) (S:List (Nat × RT)) (h0:D→D) (d:D) (u:Value) (o:D) (a a':Arg):Prop:=
  cm (fun x v=>bz w X S (h0 x) v) (cellsOf d) (gT d u)∧pe w true o a a'∧(a.1=none→aG a.2=gT d u∧∀ r,d≠.ptr r [] 0)∧∀ bx,a.1=some bx→∃ r R,d=.ptr r [] 0∧lk S r=some R∧R.box=some bx
theorem EX {H:List T} {st st':St} {S:List (Nat × RT)} {h0 h1:D→D} {ts:List T} {d o:D} (h:Rel C (ts++H) w st aJ S) (hk:lQ h0) (hn:∀ r q o' x s n cs,¬ (h0 d=.ref r q o' x∧o=.sl none s n cs)) (hb:pV st h0 [d] [o]=some (st',h1)):∃ S',Rel C H w st' aJ S'∧kR C w st st' S S' (ts++H) H h0 h1:=by
  simp only [pV] at hb
  split at hb
  · rename_i r q o' s n cs e1
    exact absurd ⟨e1,rfl⟩ (hn r q o' none s n cs)
  · simp only [Option.some.injEq,Prod.mk.injEq] at hb
    obtain ⟨rfl,rfl⟩:=hb
    exact ⟨S,(qE h).1,kR.drop h hk⟩
theorem XY {H:List T} {st st':St} {S:List (Nat × RT)} {h0 h1:D→D} {d o:D} {u:Value} {a a':Arg} (h:Rel C (a'.2++H) w st aJ S) (hk:lQ h0) (ha:Z3 w (af C w S (a'.2++H)) S h0 d u o a a') (hb:DB st h0 d o=some (st',h1)):
    ∃ S',Rel C H w st' aJ S'∧kR C w st st' S S' (a'.2++H) H h0 h1:=by
  obtain ⟨pD,h2,h3,h4⟩:=ha
  unfold DB at hb
  split at hb
  · rename_i cs ds
    obtain ⟨e1,e2,e3,e4⟩:=h2
    subst e3
    exact Pa h hk (by rw [e4,(h3 e1).1]; exact pD) hb
  · rename_i r ds
    obtain ⟨e1,⟨b,e2,e3⟩,e4⟩:=h2
    split at hb
    case h_2=>simp at hb
    rename_i gi
    simp only [Option.some.injEq,Prod.mk.injEq] at hb
    obtain ⟨rfl,rfl⟩:=hb
    obtain ⟨r',R,g1,g2,g3⟩:=h4 b e2
    simp only [D.ptr.injEq,and_true] at g1
    subst g1
    rw [h.rt,g2] at gi
    simp only [Option.map_some,Option.some.injEq] at gi
    have eM:R.cs=[]:=List.length_eq_zero_iff.1 (by rw [← fx,gi]; rfl)
    obtain ⟨c1,c2,c3⟩:=XW h (r:=r) (b:=b) (by rw [g2]; cases R; simp only at g3 eM; rw [g3,eM]) e3
    subst e4
    exact ⟨_,c1,⟨fun d u hd=>c2 _ _ hd,lQ.comp (Rf r) hk rfl,c3,rfl⟩⟩
  · rename_i hna hnp
    by_cases ez:∃ cs,d=.agg cs
    · obtain ⟨cs,rfl⟩:=ez
      refine EX h hk (fun r q o' x s n cs' hh=>?_) hb
      rcases hk (.agg cs) with e | e<;>rw [e] at hh<;>simp at hh
    have cR:cellsOf d=[d]:=by cases d<;>first | rfl | exact absurd ⟨_,rfl⟩ ez
    have BH:gT d u=[u]:=by cases d<;>first | rfl | exact absurd ⟨_,rfl⟩ ez
    by_cases gC:∃ s n cs,o=.sl none s n cs
    · obtain ⟨s,n,cs,rfl⟩:=gC
      obtain ⟨e1,e2,e3⟩:=h2
      rcases e3 with ⟨_,e3⟩ | ⟨t,e3,e4,e5⟩
      · exact absurd rfl (e3 s n cs)
      · rw [e3] at h pD ⊢
        rw [e4] at hb
        refine Pa (as9:=[d]) (ts:=[t]) h hk ?_ (by simpa [bu] using hb)
        rw [e5,(h3 e1).1,BH]
        rw [cR,BH] at pD
        exact pD
    · exact EX h hk (fun r q o' x s n cs' hh=>gC ⟨s,n,cs',hh.2⟩) hb
def yC (w:World) (X:Bool→Nat→Prop) (S:List (Nat × RT)) (h0:D→D):List Bool→List D→List Value→List D→List Arg→List Arg→Prop
  | _,[],us,os,as9,cy=>us=[]∧os=[]∧as9=[]∧cy=[]
  | b,d::ds,us,os,as9,cy=>∃ u Sf o qF a BN a' BO,us=u::Sf∧os=o::qF∧as9=a::BN∧cy=a'::BO∧(if b.headD false then Z3 w X S h0 d u o a a' else a'=(none,[]))∧yC w X S h0 b.tail ds Sf qF BN BO
theorem yC.step {X X':Bool→Nat→Prop} {S S':List (Nat × RT)} {h0 h1:D→D} (ht:∀ d u,bz w X S (h0 d) u→bz w X' S' (h1 d) u) (hd:nI S S'):∀ {b:List Bool} {ds:List D} {us:List Value} {os:List D} {as9 cy:List Arg},yC w X S h0 b ds us os as9 cy→yC w X' S' h1 b ds us os as9 cy
  | _,[],_,_,_,_,h=>h
  | b,d::ds,us,os,as9,cy,h=>by
    obtain ⟨u,Sf,o,qF,a,BN,a',BO,e1,e2,e3,e4,e5,e6⟩:=h
    refine ⟨u,Sf,o,qF,a,BN,a',BO,e1,e2,e3,e4,?_,e6.step ht hd⟩
    split
    · rename_i hb
      rw [if_pos hb] at e5
      obtain ⟨k1,k2,k3,k4⟩:=e5
      refine ⟨k1.mono (fun x v hx=>ht _ _ hx),k2,k3,fun bx vP=>?_⟩
      obtain ⟨r,R,g1,g2,g3⟩:=k4 bx vP
      obtain ⟨R',g4,g5⟩:=hd r R g2
      exact ⟨r,R',g1,g4,g5.trans g3⟩
    · rename_i hb
      rw [if_neg hb] at e5
      exact e5
def da (as9:List Arg):List T:=(as9.map Prod.snd).flatten
theorem Rg:∀ {ds:List D} {b:List Bool} {us:List Value} {os:List D} {as9 cy:List Arg} {H:List T} {st st':St} {S:List (Nat × RT)} {h0:D→D},Rel C (da cy++H) w st aJ S→lQ h0→yC w (af C w S (da cy++H)) S h0 b ds us os as9 cy→iB st h0 b ds os=some st'→
    ∃ S' h1,Rel C H w st' aJ S'∧kR C w st st' S S' (da cy++H) H h0 h1:=by
  intro ds
  induction ds with
  | nil=>
    intro b us os as9 cy H st st' S h0 h hk ha hb
    obtain ⟨rfl,rfl,rfl,rfl⟩:=ha
    simp only [iB,Option.some.injEq] at hb
    subst hb
    exact ⟨S,h0,h,⟨fun _ _ h=>h,hk,nI.refl _,rfl⟩⟩
  | cons d ds ih=>
    intro b us os as9 cy H st st' S h0 h hk ha hb
    obtain ⟨u,Sf,o,qF,a,BN,a',BO,rfl,rfl,rfl,rfl,e5,e6⟩:=ha
    have hh:da (a'::BO)++H=a'.2++(da BO++H):=by simp [da]
    rw [hh] at h e5 e6 ⊢
    simp only [iB] at hb
    split at hb
    · rename_i tP
      rw [if_pos tP] at e5
      split at hb
      case h_2=>simp at hb
      rename_i aQ h1 EL
      obtain ⟨S1,c1,c2⟩:=XY h hk e5 EL
      obtain ⟨S2,h2,d1,d2⟩:=ih c1 c2.Z2 (e6.step c2.TA c2.Lf) hb
      exact ⟨S2,h2,d1,c2.trans d2⟩
    · rename_i tP
      rw [if_neg tP] at e5
      subst e5
      have hd:=qE (Hs:=[]) (H:=da BO++H) h
      obtain ⟨S2,h2,d1,d2⟩:=ih hd.1 hk e6 hb
      exact ⟨S2,h2,d1,d2⟩
end
end Go.Proofs.YtockoilcnmljiaaGreat
namespace Go.Proofs.YtockoilcnmljiaaGreat
def AF:D→List D
  | .agg cs=>cs
  | d=>[d]
theorem xL (ds:List D):cY (.bf ds)=ds.flatMap AF:=rfl
theorem qe {d:D} {v:Value} {ts:List T} (h:fL d v ts):bu ts=AF d:=by
  cases d<;>first | exact h.1.symm | (obtain ⟨t,rfl,h1,_⟩:=h; rw [h1]; simp [bu,AF,← h1])
theorem BP:∀ {ds:List D} {us:List Value} {ts:List T},tR ds us ts→bu ts=ds.flatMap AF
  | [],us,ts,h=>by obtain ⟨rfl,rfl⟩:=h; rfl
  | d::ds,us,ts,h=>by
    obtain ⟨u,kA,t1,t2,rfl,rfl,h1,h2⟩:=h
    rw [vI,qe h1,BP h2,List.flatMap_cons]
theorem sQ {w:World} {X:Bool→Nat→Prop} {d:D} {v:Value} {ts:List T} (hs:bN w X ts) (h:fL d v ts):cY d=AF d:=by
  cases d with
  | bf ds=>
    obtain ⟨t,rfl,h1,_⟩:=h
    exact absurd h1.symm ((sL ((cu _).1 hs t (by simp))).2.2 ds)
  | _=>rfl
section
variable {C:Ctx} {w:World} {aJ:List (Array Value)} {H:List T} {S:List (Nat × RT)}
theorem zT (hm:Mem C w S H) {r:Nat} {R:RT} (hR:lk S r=some R) {d:D} {v:Value} {ts A B:List T} (hf:fL d v ts) (eM:R.cs=A++ts++B):gL w (af C w S H) S (Dy r A.length d) v:=by
  have nG:∀ (i:Nat) (t:T),ts[i]?=some t→R.cs[A.length+i]?=some t:=fun i t hi=>by
    have dp:=(List.getElem?_eq_some_iff.1 hi).1
    rw [eM,List.append_assoc,List.getElem?_append_right (by omega),List.getElem?_append_left (by omega)]
    rw [← hi]; congr 1; omega
  by_cases ha:∃ cs,d=.agg cs
  · obtain ⟨cs,rfl⟩:=ha
    obtain ⟨rfl,us,rfl,hu⟩:=hf
    refine ⟨us,rfl,dv (by rw [qx,fx,hu,bX]) (fun i x y hx hy=>?_)⟩
    rw [oq,iD] at hx
    rw [hu,fv] at hy
    cases hi:ts[i]? with
    | none=>simp [hi] at hx
    | some t=>
      simp only [hi,Option.map_some,Option.some.injEq] at hx hy
      subst hx; subst hy
      exact qw hm hR rfl (nG i t hi)
  · have hv:Dy r A.length d=gI r [] A.length d:=by cases d<;>first | rfl | exact absurd ⟨_,rfl⟩ ha
    have Vl:∃ t,ts=[t]∧d=t.er∧v=t.val:=by cases d<;>first | exact hf | exact absurd ⟨_,rfl⟩ ha
    obtain ⟨t,rfl,rfl,rfl⟩:=Vl
    rw [hv]
    exact ew (qw hm hR rfl (nG 0 t rfl))
theorem EY (hm:Mem C w S H) {r:Nat} {R:RT} (hR:lk S r=some R) {X:Bool→Nat→Prop}:∀ {ds:List D} {us:List Value} {ts A B:List T},tR ds us ts→bN w X ts→R.cs=A++ts++B→cm (gL w (af C w S H) S) (GJ r A.length ds) us
  | [],us,ts,A,B,h,_,_=>by obtain ⟨rfl,rfl⟩:=h; exact .nil
  | d::ds,us,ts,A,B,h,hs,eM=>by
    obtain ⟨u,kA,t1,t2,rfl,rfl,h1,h2⟩:=h
    rw [dU] at hs
    simp only [GJ]
    refine .cons (zT hm hR (B:=t2++B) h1 (by rw [eM]; simp)) ?_
    have hl:A.length+(cY d).length=(A++t1).length:=by rw [sQ hs.1 h1,← qe h1,fx,List.length_append]
    rw [hl]
    exact EY hm hR (B:=B) h2 hs.2 (by rw [eM]; simp)
theorem zU {X:Bool→Nat→Prop} {d:D} {v:Value} {ts:List T} (hf:fL d v ts) (hs:bN w X ts) (pb:(AF d).any iU=false):gL w X S d v:=by
  have hl:∀ t∈ts,Ext w X t.er t.val:=fun t ht=>by
    have h1:=(cu _).1 hs t ht
    cases t with
    | v d u=>exact h1
    | own s n cap a cs=>
      rw [← qe hf] at pb
      have:=List.any_eq_false.1 pb (T.own s n cap a cs).er (by rw [eL]; exact List.mem_map.2 ⟨_,ht,rfl⟩)
      simp [T.er,iU] at this
  by_cases ha:∃ cs,d=.agg cs
  · obtain ⟨cs,rfl⟩:=ha
    obtain ⟨rfl,us,rfl,hu⟩:=hf
    refine ⟨us,rfl,dv (by rw [fx,hu,bX]) (fun i x y hx hy=>?_)⟩
    rw [iD] at hx
    rw [hu,fv] at hy
    cases hi:ts[i]? with
    | none=>simp [hi] at hx
    | some t=>
      simp only [hi,Option.map_some,Option.some.injEq] at hx hy
      subst hx; subst hy
      exact fK (hl t (List.mem_of_getElem? hi))
  · have Vl:∃ t,ts=[t]∧d=t.er∧v=t.val:=by cases d<;>first | exact hf | exact absurd ⟨_,rfl⟩ ha
    obtain ⟨t,rfl,rfl,rfl⟩:=Vl
    exact ew (fK (hl t (by simp)))
theorem EZ {X:Bool→Nat→Prop}:∀ {ds:List D} {us:List Value} {ts:List T},tR ds us ts→bN w X ts→(ds.flatMap AF).any iU=false→cm (gL w X S) ds us
  | [],us,ts,h,_,_=>by obtain ⟨rfl,rfl⟩:=h; exact .nil
  | d::ds,us,ts,h,hs,pb=>by
    obtain ⟨u,kA,t1,t2,rfl,rfl,h1,h2⟩:=h
    rw [dU] at hs
    rw [List.flatMap_cons,List.any_append,Bool.or_eq_false_iff] at pb
    exact .cons (zU h1 hs.1 pb.1) (EZ h2 hs.2 pb.2)
theorem XZ {ff:List T} {st:St} {vs:Array Value} (h:Rel C (ff++H) w st (vs::aJ) S) {r:D} {v:Value} (hr:Ls r v ff) {t:Nat} (ht:t < vs.size) (hP:∀ p∈C.P0,p.1≠st.of+t):
    ∃ S',Rel C H w ((st.qX (st.of+t) r).1.put (some t) (st.qX (st.of+t) r).2) (vs.setIfInBounds t v::aJ) S':=by
  have dw:=((dU _ _).1 h.mem.hand).1
  have adV:(aj ff).Nodup:=by
    have:=h.mem.nd
    rw [bt,List.nodup_append,List.nodup_append] at this
    exact this.2.1.1
  have adW:∀ k∈aj ff,k < w.heap.size:=fun k hk=>h.mem.lt k (by rw [bt]; simp [hk])
  by_cases hp:∃ cs,r=.bp cs
  · obtain ⟨cs,rfl⟩:=hp
    obtain ⟨b,ts,rfl,rfl,rfl⟩:=hr
    have hb:bM w (af C w S ([sO b ts]++H)) (sO b ts):=(cu _).1 dw _ (by simp)
    simp only [sO,bM,Nat.one_mul] at hb
    obtain ⟨_,_,eY,gC⟩:=hb
    have eV:∀ k∈(RT.mk (some b) ts).ft,k∈aj [sO b ts]∨w.heap.size≤k:=fun k hk=>.inl (by simpa [RT.ft,aj,sO,T.ft,jo] using hk)
    have cF:=oZ (r:=st.of+t) (R:=⟨some b,ts⟩) h eV (Nat.le_refl _) (fun _ _=>rfl)
    obtain ⟨h1,_⟩:=zK (r:=st.of+t) (R:=⟨some b,ts⟩) h ⟨eY,fun x hx=>by
        have:=(cu _).1 gC x hx
        have:=dT cF x this (fun _ _=>rfl)
        cases x with
        | v d u=>exact .inl this
        | own s n cap a cs=>exact this⟩
      ⟨by simpa [RT.ft,aj,sO,T.ft,jo] using adV,eV⟩ (fun k hk=>adW k (by simpa [RT.ft,aj,sO,T.ft,jo] using hk)) (Nat.le_refl _) (fun _ _=>rfl) rfl rfl rfl hP
    refine ⟨_,h1.put ht ?_⟩
    intro R hR
    rw [cI,Option.some.injEq] at hR
    subst hR
    exact ⟨fun _=>rfl,fun b' off ha=>by simp only [cj,Option.map_some,Option.some.injEq,Prod.mk.injEq] at ha; obtain ⟨rfl,rfl⟩:=ha; rfl⟩
  · have tu:bu ff=cY r:=by
      by_cases jQ:∃ ds,r=.bf ds
      · obtain ⟨ds,rfl⟩:=jQ
        obtain ⟨us,rfl,hf⟩:=hr
        rw [xL]; exact BP hf
      · have hf:fL r v ff:=by cases r<;>first | exact hr | exact absurd ⟨_,rfl⟩ hp | exact absurd ⟨_,rfl⟩ jQ
        rw [sQ dw hf]; exact qe hf
    have had:st.qX (st.of+t) r=if (cY r).any iU then ({ st.fc (cH (st.of+t)) with rt:=pz (st.fc (cH (st.of+t))).rt (st.of+t) (cY r) },Dz (st.of+t) r) else (st,r):=by
      cases r<;>first | rfl | exact absurd ⟨_,rfl⟩ hp
    rw [had]
    by_cases jE:(cY r).any iU=true
    · rw [if_pos jE]
      have eV:∀ k∈(RT.mk none ff).ft,k∈aj ff∨w.heap.size≤k:=fun k hk=>.inl (by simpa [RT.ft] using hk)
      have cF:=oZ (r:=st.of+t) (R:=⟨none,ff⟩) h eV (Nat.le_refl _) (fun _ _=>rfl)
      obtain ⟨h1,_⟩:=zK (r:=st.of+t) (R:=⟨none,ff⟩) h ⟨trivial,fun x hx=>by
          have:=(cu _).1 dw x hx
          have:=dT cF x this (fun _ _=>rfl)
          cases x with
          | v d u=>exact .inl this
          | own s n cap a cs=>exact this⟩
        ⟨by simpa [RT.ft] using adV,eV⟩ (fun k hk=>adW k (by simpa [RT.ft] using hk)) (Nat.le_refl _) (fun _ _=>rfl) rfl rfl rfl hP
      rw [← tu]
      refine ⟨_,h1.put ht ?_⟩
      have AG:lk (pt (fS (cH (st.of+t)) S) (st.of+t) ⟨none,ff⟩) (st.of+t)=some ⟨none,ff⟩:=cI _ _ _
      by_cases jQ:∃ ds,r=.bf ds
      · obtain ⟨ds,rfl⟩:=jQ
        obtain ⟨us,rfl,hf⟩:=hr
        refine ⟨us,rfl,?_⟩
        exact EY h1.mem AG (A:=[]) (B:=[]) hf dw (by simp)
      · have hf:fL r v ff:=by cases r<;>first | exact hr | exact absurd ⟨_,rfl⟩ hp | exact absurd ⟨_,rfl⟩ jQ
        have hv:Dz (st.of+t) r=Dy (st.of+t) 0 r:=by cases r<;>first | rfl | exact absurd ⟨_,rfl⟩ jQ
        rw [hv]
        exact kL (zT h1.mem AG (A:=[]) (B:=[]) hf (by simp))
    · rw [if_neg jE]
      have jE:(cY r).any iU=false:=by simpa using jE
      obtain ⟨h1,_⟩:=qE h
      have hX:∀ b k,af C w S (ff++H) b k→af C w S H b k:=jO (fun k hk=>by
        rw [bt]
        rcases List.mem_append.1 hk with h | h<;>simp [h])
      have hs:=fV hX _ dw
      refine ⟨S,h1.put ht ?_⟩
      by_cases jQ:∃ ds,r=.bf ds
      · obtain ⟨ds,rfl⟩:=jQ
        obtain ⟨us,rfl,hf⟩:=hr
        exact ⟨us,rfl,EZ hf hs jE⟩
      · have hf:fL r v ff:=by cases r<;>first | exact hr | exact absurd ⟨_,rfl⟩ hp | exact absurd ⟨_,rfl⟩ jQ
        rw [sQ dw hf] at jE
        exact kL (zU hf hs jE)
end
end Go.Proofs.YtockoilcnmljiaaGreat
namespace Go.Proofs.YtockoilcnmljiaaGreat
mutual
def tS (b:Bool):T→T
  | .v d u=>.v (iA b (bU d)) u
  | .own s n cap a cs=>.own s n cap a (gx b cs)
def gx (b:Bool):List T→List T
  | []=>[]
  | t::ts=>tS b t::gx b ts
end
theorem X0 {d:D} (h:∀ s n cs,d≠.sl none s n cs):bU d=d:=by
  cases d with
  | sl g s n cs=>cases g with
    | none=>exact absurd rfl (h s n cs)
    | some g=>rfl
  | _=>rfl
theorem Vm (d:D) (s n:Nat) (cs:List D):bU d≠.sl none s n cs:=by
  cases d with
  | sl g s n cs=>cases g<;>simp [bU]
  | _=>simp [bU]
theorem Pb (b:Bool) (d:D):bU (iA b (bU d))=iA b (bU d):=by
  refine X0 (fun s n cs=>?_)
  have:=Vm d
  cases h:bU d with
  | sl g s' n' cs'=>
    cases g with
    | none=>exact absurd h (this _ _ _)
    | some g=>simp [iA]
  | _=>simp [iA]
mutual
theorem DM (b:Bool):∀ t:T,(tS b t).er=iA b t.er
  | .v d u=>by simp only [tS,T.er]; exact Pb b d
  | .own s n cap a cs=>by simp only [tS,T.er,iA]; rw [vU b cs]
theorem vU (b:Bool):∀ ts:List T,bu (gx b ts)=ej b (bu ts)
  | []=>rfl
  | t::ts=>by simp only [gx,bu,ej]; rw [DM b t,vU b ts]
end
theorem BQ (b:Bool) (t:T):(tS b t).val=t.val:=by cases t<;>rfl
theorem sS (b:Bool):∀ ts:List T,aG (gx b ts)=aG ts
  | []=>rfl
  | t::ts=>by simp only [gx,aG]; rw [BQ,sS b ts]
mutual
theorem af2 (b:Bool):∀ t:T,(tS b t).ft=t.ft
  | .v _ _=>rfl
  | .own s n cap a cs=>by simp only [tS,T.ft]; rw [vV b cs]
theorem vV (b:Bool):∀ ts:List T,aj (gx b ts)=aj ts
  | []=>rfl
  | t::ts=>by simp only [gx,aj]; rw [af2 b t,vV b ts]
end
theorem vt (b:Bool):∀ ts:List T,(gx b ts).length=ts.length
  | []=>rfl
  | t::ts=>by simp [gx,vt b ts]
theorem DN (b:Bool):∀ x y:List T,gx b (x++y)=gx b x++gx b y
  | [],_=>rfl
  | t::ts,y=>by simp [gx,DN b ts y]
theorem Pc (b:Bool):∀ cs:List D,(ej b cs).length=cs.length
  | []=>rfl
  | d::ds=>by simp [ej,Pc b ds]
section
variable {w:World} {X X':Bool→Nat→Prop} {b:Bool} (hX:∀ g k,X g k→X' b k)
include hX
mutual
theorem Si:∀ (d:D) (u:Value),Ext w X d u→Ext w X' (iA b d) u
  | .int _ _,_,hu=>hu
  | .bool _,_,hu=>hu
  | .str _,_,hu=>hu
  | .nil _,_,hu=>hu
  | .undef,_,_=>trivial
  | .hole _ _,_,_=>trivial
  | .sl (some g) s n cs,u,hu=>by
    simp only [Ext,iA] at hu ⊢
    obtain ⟨base,cap,us,h1,pD,h2,h3,h4⟩:=hu
    refine ⟨base,cap,us,h1,pD,by rw [Pc]; exact h2,Pd cs us h3,?_⟩
    rcases h4 with h4 | ⟨k,off,c,e,fz,h5,h6,h7,h8⟩
    · left; rw [h4]; rfl
    · exact .inr ⟨k,off,c,e,fz,h5,hX g k h6,h7,h8⟩
  | .sl none _ _ _,_,hu=>by simp [Ext] at hu
  | .ref ..,_,hu=>by simp [Ext] at hu
  | .agg _,_,hu=>by simp [Ext] at hu
  | .bf _,_,hu=>by simp [Ext] at hu
  | .fn ..,_,hu=>by simp [Ext] at hu
  | .ptr ..,_,hu=>by simp [Ext] at hu
  | .cr ..,_,hu=>by simp [Ext] at hu
  | .bp _,_,hu=>by simp [Ext] at hu
theorem Pd:∀ (ds:List D) (us:List Value),gh w X ds us→gh w X' (ej b ds) us
  | [],_,hu=>by have _:=hX; exact hu
  | d::ds,us,hu=>by
    simp only [gh,ej] at hu ⊢
    obtain ⟨v,vs,h1,h2,h3⟩:=hu
    exact ⟨v,vs,h1,Si d v h2,Pd ds vs h3⟩
end
mutual
theorem adX:∀ (t:T),bM w X t→bM w X' (tS b t)
  | .v d u,hs=>by
    simp only [bM,tS] at hs ⊢
    rw [Pb]
    exact Si hX _ _ hs
  | .own s n cap a cs,hs=>by
    simp only [bM,tS] at hs ⊢
    obtain ⟨h1,h2,h3,h4⟩:=hs
    rw [sS,vt]
    exact ⟨h1,h2,h3,yD cs h4⟩
theorem yD:∀ (ts:List T),bN w X ts→bN w X' (gx b ts)
  | [],_=>by have _:=hX; simp [bN,gx]
  | t::ts,hs=>by
    simp only [bN,gx] at hs ⊢
    exact ⟨adX t hs.1,yD ts hs.2⟩
end
end
section
variable {w:World} {X:Bool→Nat→Prop}
mutual
theorem Vn:∀ (d:D) (u:Value),Ext w X d u→bZ d=true→Ext w (fun g k=>g=false∧X false k) d u
  | .int _ _,_,hu,_=>hu
  | .bool _,_,hu,_=>hu
  | .str _,_,hu,_=>hu
  | .nil _,_,hu,_=>hu
  | .undef,_,_,_=>trivial
  | .hole _ _,_,_,_=>trivial
  | .sl (some g) s n cs,u,hu,hn=>by
    simp only [Ext] at hu ⊢
    simp only [bZ,Bool.and_eq_true] at hn
    have hg:g=false:=by cases g with
      | false=>rfl
      | true=>exact absurd hn.1 (by decide)
    subst hg
    obtain ⟨base,cap,us,h1,pD,h2,h3,h4⟩:=hu
    refine ⟨base,cap,us,h1,pD,h2,Sj cs us h3 hn.2,?_⟩
    rcases h4 with h4 | ⟨k,off,c,e,fz,h5,h6,h7,h8⟩
    · exact .inl h4
    · exact .inr ⟨k,off,c,e,fz,h5,⟨rfl,h6⟩,h7,h8⟩
  | .sl none _ _ _,_,hu,_=>by simp [Ext] at hu
  | .ref ..,_,hu,_=>by simp [Ext] at hu
  | .agg _,_,hu,_=>by simp [Ext] at hu
  | .bf _,_,hu,_=>by simp [Ext] at hu
  | .fn ..,_,hu,_=>by simp [Ext] at hu
  | .ptr ..,_,hu,_=>by simp [Ext] at hu
  | .cr ..,_,hu,_=>by simp [Ext] at hu
  | .bp _,_,hu,_=>by simp [Ext] at hu
theorem Sj:∀ (ds:List D) (us:List Value),gh w X ds us→cq ds=true→gh w (fun g k=>g=false∧X false k) ds us
  | [],_,hu,_=>hu
  | d::ds,us,hu,hn=>by
    simp only [gh] at hu ⊢
    simp only [cq,Bool.and_eq_true] at hn
    obtain ⟨v,vs,h1,h2,h3⟩:=hu
    exact ⟨v,vs,h1,Vn d v h2 hn.1,Sj ds vs h3 hn.2⟩
end
mutual
theorem adY:∀ (t:T),bM w X t→bZ t.er=true→bM w (fun g k=>g=false∧X false k) t
  | .v d u,hs,hn=>by
    simp only [bM] at hs ⊢
    exact Vn _ _ hs hn
  | .own s n cap a cs,hs,hn=>by
    simp only [bM] at hs ⊢
    simp only [T.er,bZ,Bool.and_eq_true] at hn
    exact ⟨hs.1,hs.2.1,hs.2.2.1,DO cs hs.2.2.2 hn.2⟩
theorem DO:∀ (ts:List T),bN w X ts→cq (bu ts)=true→bN w (fun g k=>g=false∧X false k) ts
  | [],_,_=>by simp [bN]
  | t::ts,hs,hn=>by
    simp only [bN] at hs ⊢
    simp only [bu,cq,Bool.and_eq_true] at hn
    exact ⟨adY t hs.1 hn.1,DO ts hs.2 hn.2⟩
end
end
theorem eh:∀ ds:List D,cq ds=ds.all bZ
  | []=>rfl
  | d::ds=>by simp [cq,eh ds]
mutual
theorem Pe:∀ d:D,bZ d=true→iA false d=d
  | .sl none s n cs,h=>by
    simp only [bZ,Bool.and_eq_true] at h
    simp only [iA]
    rw [vu cs h.2]
  | .sl (some g) s n cs,h=>by
    simp only [bZ,Bool.and_eq_true] at h
    have hg:g=false:=by cases g with
      | false=>rfl
      | true=>exact absurd h.1 (by decide)
    subst hg
    simp only [iA]
    rw [vu cs h.2]
  | .int _ _,_=>rfl
  | .bool _,_=>rfl
  | .str _,_=>rfl
  | .nil _,_=>rfl
  | .undef,_=>rfl
  | .hole _ _,_=>rfl
  | .ref ..,_=>rfl
  | .agg _,_=>rfl
  | .bf _,_=>rfl
  | .fn ..,_=>rfl
  | .ptr ..,_=>rfl
  | .cr ..,_=>rfl
  | .bp _,_=>rfl
theorem vu:∀ ds:List D,cq ds=true→ej false ds=ds
  | [],_=>rfl
  | d::ds,h=>by
    simp only [cq,Bool.and_eq_true] at h
    simp only [ej]
    rw [Pe d h.1,vu ds h.2]
end
def rp (b:Bool):D→D
  | .agg cs=>.agg (ej b cs)
  | d=>iA b d
theorem FO (b:Bool) (vs:List D):gR b (.bf vs)=.bf (vs.map (rp b)):=by
  simp only [gR]
  congr 1
theorem Js (d:D) (h:(bY d).all bZ=true):gR false d=d:=by
  cases d with
  | agg cs=>simp only [gR]; rw [vu cs (by rw [eh]; exact h)]
  | bp cs=>simp only [gR]; rw [vu cs (by rw [eh]; exact h)]
  | bf vs=>
    rw [FO]
    have hx:∀ x∈vs,rp false x=id x:=by
      intro x hx
      have hh:∀ y∈AF x,bZ y=true:=fun y hy=>by
        refine List.all_eq_true.1 h y ?_
        simp only [bY,xL,List.mem_flatMap]
        exact ⟨x,hx,hy⟩
      cases x with
      | agg cs=>simp only [rp]; rw [vu cs (by rw [eh]; exact List.all_eq_true.2 hh)]; rfl
      | _=>exact Pe _ (hh _ (by simp [AF]))
    rw [List.map_congr_left hx,List.map_id]
  | _=>
    simp only [bY,cY,List.all_cons,List.all_nil,Bool.and_true] at h
    exact Pe _ h
theorem BR {w:World} {X:Bool→Nat→Prop} {b:Bool} {d:D} {u:Value} {ts:List T} (hf:fL d u ts) (hs:bN w X ts):fL (rp b d) u (gx b ts):=by
  by_cases ha:∃ cs,d=.agg cs
  · obtain ⟨cs,rfl⟩:=ha
    obtain ⟨rfl,us,rfl,hu⟩:=hf
    exact ⟨(vU b ts).symm,us,rfl,by rw [sS]; exact hu⟩
  · have Vl:∃ t,ts=[t]∧d=t.er∧u=t.val:=by cases d<;>first | exact hf | exact absurd ⟨_,rfl⟩ ha
    obtain ⟨t,rfl,rfl,rfl⟩:=Vl
    have h1:=(cu _).1 hs t (by simp)
    have hp:rp b t.er=iA b t.er:=by
      cases he:t.er<;>first | rfl | exact absurd ⟨_,he⟩ ha
    rw [hp,← DM b t,← BQ b t]
    have h2:∀ cs,(tS b t).er≠.agg cs:=by
      intro cs
      rw [DM]
      cases he:t.er with
      | agg cs'=>exact absurd ⟨_,he⟩ ha
      | sl g s n cs'=>cases g<;>simp [iA]
      | _=>simp [iA]
    have h3:∀ d,(∀ cs,d≠.agg cs)→d=(tS b t).er→fL d (tS b t).val (gx b [t]):=fun d hn e=>by
      cases d<;>first | exact ⟨_,rfl,e,rfl⟩ | exact absurd rfl (hn _)
    exact h3 _ h2 rfl
theorem Hh {w:World} {X:Bool→Nat→Prop} {b:Bool}:∀ {ds:List D} {us:List Value} {ts:List T},tR ds us ts→bN w X ts→tR (ds.map (rp b)) us (gx b ts)
  | [],us,ts,h,_=>by obtain ⟨rfl,rfl⟩:=h; exact ⟨rfl,rfl⟩
  | d::ds,us,ts,h,hs=>by
    obtain ⟨u,kA,t1,t2,rfl,rfl,h1,h2⟩:=h
    rw [dU] at hs
    exact ⟨u,kA,_,_,rfl,DN b t1 t2,BR h1 hs.1,Hh h2 hs.2⟩
theorem Lt {b:Bool} {d:D} (h1:∀ cs,d≠.bp cs) (h2:∀ cs,d≠.bf cs):gR b d=rp b d:=by
  cases d<;>first | rfl | exact absurd rfl (h1 _) | exact absurd rfl (h2 _)
theorem abP {w:World} {X:Bool→Nat→Prop} {b:Bool} {r:D} {v:Value} {ts:List T} (hr:Ls r v ts) (hs:bN w X ts):Ls (gR b r) v (gx b ts):=by
  by_cases hp:∃ cs,r=.bp cs
  · obtain ⟨cs,rfl⟩:=hp
    obtain ⟨bk,Se,rfl,rfl,rfl⟩:=hr
    exact ⟨bk,gx b Se,by simp [gx,sO,tS,vt],(vU b Se).symm,rfl⟩
  by_cases jQ:∃ ds,r=.bf ds
  · obtain ⟨ds,rfl⟩:=jQ
    obtain ⟨us,rfl,hf⟩:=hr
    rw [FO]
    exact ⟨us,rfl,Hh hf hs⟩
  have hf:fL r v ts:=by cases r<;>first | exact hr | exact absurd ⟨_,rfl⟩ hp | exact absurd ⟨_,rfl⟩ jQ
  rw [Lt (fun cs e=>hp ⟨cs,e⟩) (fun cs e=>jQ ⟨cs,e⟩)]
  have h2:=BR (b:=b) hf hs
  have h3:(∀ cs,rp b r≠.bp cs)∧∀ cs,rp b r≠.bf cs:=by
    cases r with
    | bp cs=>exact absurd ⟨_,rfl⟩ hp
    | bf cs=>exact absurd ⟨_,rfl⟩ jQ
    | sl g s n cs=>cases g<;>simp [rp,iA]
    | _=>simp [rp,iA]
  have:∀ d,(∀ cs,d≠.bp cs)→(∀ cs,d≠.bf cs)→fL d v (gx b ts)→Ls d v (gx b ts):=fun d h4 h5 h6=>by
    cases d<;>first | exact h6 | exact absurd rfl (h4 _) | exact absurd rfl (h5 _)
  exact this _ h3.1 h3.2 h2
theorem X3 {w:World} {X:Bool→Nat→Prop} {b c:Bool} {o:D} {a a':Arg} (h:pe w c o a a') (hs:bN w X a'.2):pe w c (gR b o) a (a'.1,gx b a'.2):=by
  cases c with
  | false=>
    simp only [pe] at h ⊢
    rw [h]; rfl
  | true=>
    cases o with
    | bp cs=>
      obtain ⟨h1,⟨bk,h2,h3⟩,h4⟩:=h
      exact ⟨h1,⟨bk,h2,by simp only [vt,sS]; exact h3⟩,by rw [h4]; exact (vU b _).symm⟩
    | agg cs=>
      obtain ⟨h1,h2,h3,h4⟩:=h
      exact ⟨h1,h2,by rw [h3]; exact (vU b _).symm,by simp only [sS]; exact h4⟩
    | bf vs=>
      obtain ⟨h1,h2,h3⟩:=h
      rw [FO]
      refine ⟨h1,h2,?_⟩
      rcases h3 with ⟨h3,_⟩ | ⟨t,h3,h4,_⟩
      · exact .inl ⟨by rw [h3]; rfl,by simp⟩
      · rw [h3] at hs
        exact absurd h4.symm ((sL ((cu _).1 hs t (by simp))).2.2 vs)
    | sl g s n cs=>
      obtain ⟨h1,h2,h3⟩:=h
      cases g with
      | none=>
        refine ⟨h1,h2,?_⟩
        rcases h3 with ⟨_,h3⟩ | ⟨t,h3,h4,h5⟩
        · exact absurd rfl (h3 s n cs)
        · exact .inr ⟨tS b t,by rw [h3]; rfl,by rw [DM,← h4]; rfl,by simp only [aG,BQ] at h5 ⊢; exact h5⟩
      | some g=>
        refine ⟨h1,h2,?_⟩
        rcases h3 with ⟨h3,_⟩ | ⟨t,h3,h4,h5⟩
        · exact .inl ⟨by rw [h3]; rfl,by simp [gR,iA]⟩
        · exact .inr ⟨tS b t,by rw [h3]; rfl,by rw [DM,← h4]; rfl,by simp only [aG,BQ] at h5 ⊢; exact h5⟩
    | _=>
      obtain ⟨h1,h2,h3⟩:=h
      refine ⟨h1,h2,?_⟩
      rcases h3 with ⟨h3,_⟩ | ⟨t,h3,h4,h5⟩
      · exact .inl ⟨by rw [h3]; rfl,by simp [gR,iA]⟩
      · exact .inr ⟨tS b t,by rw [h3]; rfl,by rw [DM,← h4]; rfl,by simp only [aG,BQ] at h5 ⊢; exact h5⟩
theorem abQ {w:World} {X X':Bool→Nat→Prop} {b:Bool} {d:D} {u:Value} {a:Arg} (h:Lr w X true d u a) (hs:bN w X a.2):Lr w X' true (gR b d) u (a.1,gx b a.2):=by
  by_cases hp:∃ cs,d=.bp cs
  · obtain ⟨cs,rfl⟩:=hp
    obtain ⟨bk,h1,h2,h3,h4,h5⟩:=h
    refine ⟨bk,h1,fun e=>h2 ?_,by rw [h3]; exact (vU b _).symm,h4,by simp only [vt,sS]; exact h5⟩
    have:=congrArg List.length e
    simp only [vt,List.length_nil] at this
    exact List.length_eq_zero_iff.1 this
  · have hf:a.1=none∧fL d u a.2:=by cases d<;>first | exact h | exact absurd ⟨_,rfl⟩ hp
    have jQ:∀ vs,d≠.bf vs:=by
      rintro vs rfl
      obtain ⟨t,e1,e2,_⟩:=hf.2
      rw [e1] at hs
      exact (sL ((cu _).1 hs t (by simp))).2.2 vs e2.symm
    rw [Lt (fun cs e=>hp ⟨cs,e⟩) jQ]
    have h2:=BR (b:=b) hf.2 hs
    have h3:∀ cs,rp b d≠.bp cs:=by
      cases d with
      | bp cs=>exact absurd ⟨_,rfl⟩ hp
      | sl g s n cs=>cases g<;>simp [rp,iA]
      | _=>simp [rp,iA]
    have:∀ d,(∀ cs,d≠.bp cs)→fL d u (gx b a.2)→Lr w X' true d u (a.1,gx b a.2):=fun d h4 h6=>by
      cases d<;>first | exact ⟨hf.1,h6⟩ | exact absurd rfl (h4 _)
    exact this _ h3 h2
end Go.Proofs.YtockoilcnmljiaaGreat
namespace Go.Proofs.YtockoilcnmljiaaGreat
theorem jH:∀ as9:List Arg,(bL as9).Perm (as9.filterMap Prod.fst++aj (da as9))
  | []=>.refl _
  | (bx,ts)::as9=>by
    have ih:=jH as9
    have h1:da ((bx,ts)::as9)=ts++da as9:=by simp [da]
    rw [h1,bt]
    simp only [bL,DL]
    refine List.perm_iff_count.2 fun a=>?_
    have:=List.perm_iff_count.1 ih a
    cases bx<;>simp only [List.filterMap_cons,Option.toList,List.count_append,List.count_cons,List.count_nil] at this ⊢<;>omega
theorem oz (as9:List Arg):(aj (cT as9)).Perm (aj (da as9)):=by
  refine FH ?_
  induction as9 with
  | nil=>exact .refl _
  | cons a as9 ih=>
    rw [rm]
    have:da (a::as9)=a.2++da as9:=by simp [da]
    rw [this]
    exact (List.perm_append_comm).trans (List.Perm.append_left _ ih)
theorem kS {as9:List Arg} {k:Nat}:k∈bL as9↔k∈as9.filterMap Prod.fst∨k∈aj (cT as9):=by
  rw [(jH as9).mem_iff,List.mem_append,(oz as9).mem_iff]
def tT (b:Bool) (a:Arg):Arg:=(a.1,gx b a.2)
theorem qG (b:Bool):∀ as9:List Arg,bL (as9.map (tT b))=bL as9
  | []=>rfl
  | a::as9=>by simp only [List.map_cons,bL,qG b as9,DL,tT,vV]
theorem Lu (b:Bool):∀ as9:List Arg,da (as9.map (tT b))=gx b (da as9)
  | []=>rfl
  | a::as9=>by
    have h1:da (a::as9)=a.2++da as9:=by simp [da]
    have h2:da ((a::as9).map (tT b))=(gx b a.2)++da (as9.map (tT b)):=by simp [da,tT]
    rw [h1,h2,DN,Lu b as9]
theorem yd {w:World} {X:Bool→Nat→Prop} {as9:List Arg}:bN w X (da as9)↔∀ a∈as9,bN w X a.2:=by
  rw [cu]
  simp only [da,List.mem_flatten,List.mem_map]
  constructor
  · intro h a ha
    rw [cu]
    exact fun t ht=>h t ⟨_,⟨a,ha,rfl⟩,ht⟩
  · rintro h t ⟨l,⟨a,ha,rfl⟩,ht⟩
    exact (cu _).1 (h a ha) t ht
theorem vW {w:World} {X:Bool→Nat→Prop} {as9:List Arg}:bN w X (cT as9)↔∀ a∈as9,bN w X a.2:=by
  rw [cu]
  simp only [cT,List.mem_flatten,List.mem_reverse,List.mem_map]
  constructor
  · intro h a ha
    rw [cu]
    exact fun t ht=>h t ⟨_,⟨a,ha,rfl⟩,ht⟩
  · rintro h t ⟨l,⟨a,ha,rfl⟩,ht⟩
    exact (cu _).1 (h a ha) t ht
theorem Pf {w':World} {c b:Bool} {o:D} {a a':Arg} (h:pe w' c o (tT b a) a'):pe w' c o a a':=by
  cases c with
  | false=>exact h
  | true=>
    cases o<;>(simp only [pe,tT,sS] at h ⊢; exact h)
theorem uZ {w:World} {S:List (Nat × RT)}:∀ {b:List Bool} {ds gv:List D} {us:List Value} {as9:List Arg},tQ w S b ds gv us as9→∀ bk∈as9.filterMap Prod.fst,∃ r R,lk S r=some R∧R.box=some bk∧R.cs=[]
  | _,[],_,_,_,h,bk,hb=>by obtain ⟨_,_,rfl⟩:=h; simp at hb
  | b,d::ds,gv,us,as9,h,bk,hb=>by
    obtain ⟨d1,zS,u,kA,a,cy,rfl,rfl,rfl,h1,h2⟩:=h
    obtain ⟨bx,ts⟩:=a
    cases bx with
    | none=>simp only [List.filterMap_cons] at hb; exact uZ h2 bk hb
    | some O7=>
      simp only [List.filterMap_cons,List.mem_cons] at hb
      rcases hb with rfl | hb
      · cases tP:b.headD false with
        | false=>rw [tP] at h1; simp [rl] at h1
        | true=>
          rw [tP] at h1
          cases d1 with
          | bp cs=>
            obtain ⟨r,b2,_,e2,e3,_⟩:=h1
            simp only [Option.some.injEq] at e2
            subst e2
            exact ⟨r,_,e3,rfl,rfl⟩
          | _=>simp [rl] at h1
      · exact uZ h2 bk hb
theorem E0 (b:List Bool) (d:D) (ds:List D):fE b (d::ds)=((b.headD false&&!((bY d).all bZ))||fE b.tail ds):=rfl
theorem Vo {w:World} {S:List (Nat × RT)} {X:Bool→Nat→Prop} {d d1:D} {u:Value} {a:Arg} (h:rl w S true d d1 u a):Lr w X true d1 u a:=by
  cases d1 with
  | bp cs=>obtain ⟨r,b,_,e2,e3,e4,e5,e6,e7⟩:=h; exact ⟨b,e2,e4,e5,e6,e7⟩
  | _=>exact ⟨h.1,h.2.1⟩
theorem Lv {w:World} {X X1:Bool→Nat→Prop} {d:D} {u:Value} {a:Arg} (h:Lr w X true d u a) (hs:bN w X1 a.2):bY d=bu a.2:=by
  by_cases hp:∃ cs,d=.bp cs
  · obtain ⟨cs,rfl⟩:=hp
    obtain ⟨b,_,_,e,_⟩:=h
    exact e
  · have hf:fL d u a.2:=by cases d<;>first | exact h.2 | exact absurd ⟨_,rfl⟩ hp
    have:bY d=cY d:=by cases d<;>first | rfl | exact absurd ⟨_,rfl⟩ hp
    rw [this,sQ hs hf,qe hf]
section
variable {C:Ctx} {w:World} {st aQ:St} {aJ:List (Array Value)} {S S1:List (Nat × RT)}
theorem Pg {Hs:List T} (h:Rel C Hs w aQ aJ S1) {X':Bool→Nat→Prop} (hX:∀ b k,af C w S1 Hs b k→X' b k) (hF:∀ r R k,lk S1 r=some R→R.cs≠[]→k∈R.ft→X' true k):
    ∀ {b:List Bool} {ds gv tG:List D} {us:List Value} {as9:List Arg},tQ w S1 b ds gv us as9→cm (cz w (af C w S1 Hs) S1) ds us→vD aQ b gv=some tG→(∀ a∈as9,bN w (af C w S1 Hs) a.2)→uF w X' b (kn b tG) us (as9.map (tT false))∧(fE b tG=false→kn b tG=tG∧∀ a∈as9,cq (bu a.2)=true)
  | b,[],gv,tG,us,as9,h1,h2,h3,_=>by
    obtain ⟨rfl,rfl,rfl⟩:=h1
    simp only [vD,Option.some.injEq] at h3
    subst h3
    exact ⟨⟨rfl,rfl⟩,fun _=>⟨rfl,by simp⟩⟩
  | b,d::ds,gv,tG,us,as9,h1,h2,h3,h4=>by
    obtain ⟨d1,zS,u,kA,a,cy,rfl,rfl,rfl,g1,g2⟩:=h1
    cases h2 with
    | cons Lw h22=>
    simp only [vD] at h3
    split at h3
    case h_2=>simp at h3
    rename_i d2 nf
    split at h3
    case h_2=>simp at h3
    rename_i Jt aiv
    simp only [Option.some.injEq] at h3
    subst h3
    obtain ⟨k1,k2⟩:=Pg h hX hF g2 h22 aiv (fun a ha=>h4 a (by simp [ha]))
    have hs:=h4 a (by simp)
    cases hb:b.headD false with
    | false=>
      rw [hb] at g1 nf
      obtain ⟨rfl,rfl⟩:=g1
      simp only [Bool.false_eq_true,if_false] at nf
      refine ⟨⟨u,kA,(none,[]),_,rfl,rfl,?_,k1⟩,fun hl=>?_⟩
      · rw [hb]
        simp only [Bool.false_eq_true,if_false]
        exact ⟨rfl,fun S'=>adT h hX hF Lw nf S'⟩
      · rw [E0,hb] at hl
        simp only [Bool.false_and,Bool.false_or] at hl
        obtain ⟨e1,e2⟩:=k2 hl
        refine ⟨by simp only [kn,hb,Bool.false_eq_true,if_false]; rw [e1],fun x hx=>?_⟩
        simp only [List.mem_cons] at hx
        rcases hx with rfl | hx
        · rfl
        · exact e2 x hx
    | true=>
      rw [hb] at g1 nf
      simp only [if_true,Option.some.injEq] at nf
      subst nf
      have mg:=Vo (X:=af C w S1 Hs) g1
      refine ⟨⟨u,kA,tT false a,_,rfl,rfl,?_,k1⟩,fun hl=>?_⟩
      · rw [hb]
        simp only [if_true]
        exact abQ mg hs
      · rw [E0,hb] at hl
        simp only [Bool.true_and,Bool.or_eq_false_iff,Bool.not_eq_false'] at hl
        obtain ⟨e1,e2⟩:=k2 hl.2
        refine ⟨by simp only [kn,hb,if_true]; rw [e1,Js _ hl.1],fun x hx=>?_⟩
        simp only [List.mem_cons] at hx
        rcases hx with rfl | hx
        · rw [eh,← Lv mg hs]; exact hl.1
        · exact e2 x hx
theorem X4 {w':World} {b:Bool} {d d1 o:D} {u:Value} {a a':Arg} (g1:rl w S1 b d d1 u a) (g3:pe w' b o a a'):(a'.1=a.1)∧∀ bk,a.1=some bk→lL w' bk 0 0 []:=by
  cases b with
  | false=>
    obtain ⟨rfl,_⟩:=g1
    simp only [pe] at g3
    rw [g3]
    exact ⟨rfl,by simp⟩
  | true=>
    have eY:∀ {bk n us},lL w' bk 0 n us→lL w' bk 0 0 []:=fun ⟨c,e,fz,q1,q2,q3,q4⟩=>⟨c,e,fz,q1,q2,by omega,by simp⟩
    cases o with
    | bp cs=>
      obtain ⟨e1,⟨bk,e2,e3⟩,_⟩:=g3
      refine ⟨e1,fun O7 e=>?_⟩
      rw [e2,Option.some.injEq] at e
      subst e
      exact eY e3
    | _=>exact ⟨g3.2.1.trans g3.1.symm,fun bk e=>by rw [g3.1] at e; simp at e⟩
theorem Ph {w':World}:∀ {b:List Bool} {ds gv:List D} {us:List Value} {as9 cy:List Arg} {os:List D},tQ w S1 b ds gv us as9→mP w' b os (as9.map (tT false)) cy→
    cy.filterMap Prod.fst=as9.filterMap Prod.fst∧∀ bk∈as9.filterMap Prod.fst,lL w' bk 0 0 []
  | b,[],gv,us,as9,cy,os,h1,h3=>by
    obtain ⟨rfl,rfl,rfl⟩:=h1
    simp only [List.map_nil,mP] at h3
    obtain ⟨rfl,rfl⟩:=h3
    exact ⟨rfl,by simp⟩
  | b,d::ds,gv,us,as9,cy,os,h1,h3=>by
    obtain ⟨d1,zS,u,kA,a,BN,rfl,rfl,rfl,g1,g2⟩:=h1
    simp only [List.map_cons,mP] at h3
    obtain ⟨o,yB,a',O9,rfl,rfl,g3,g4⟩:=h3
    obtain ⟨k2,k3⟩:=Ph g2 g4
    have ad0:=X4 g1 (Pf g3)
    refine ⟨by simp only [List.filterMap_cons,ad0.1,k2],fun bk vX=>?_⟩
    simp only [List.filterMap_cons] at vX
    cases ha:a.1 with
    | none=>rw [ha] at vX; exact k3 bk vX
    | some b2=>
      rw [ha] at vX
      simp only [List.mem_cons] at vX
      rcases vX with rfl | vX
      · exact ad0.2 _ ha
      · exact k3 bk vX
theorem Lx {w':World} {X:Bool→Nat→Prop} {t:Bool} {Xo:Bool→Nat→Prop}:∀ {b:List Bool} {ds gv:List D} {us:List Value} {as9 cy:List Arg} {os:List D},tQ w S1 b ds gv us as9→cm (cz w' X S1) ds us→mP w' b os (as9.map (tT false)) cy→(∀ a∈cy,bN w' Xo a.2)→
    yC w' X S1 id b ds us (os.map (gR t)) as9 (cy.map (tT t))
  | b,[],gv,us,as9,cy,os,h1,h2,h3,_=>by
    obtain ⟨rfl,rfl,rfl⟩:=h1
    simp only [List.map_nil,mP] at h3
    obtain ⟨rfl,rfl⟩:=h3
    exact ⟨rfl,rfl,rfl,rfl⟩
  | b,d::ds,gv,us,as9,cy,os,h1,h2,h3,h4=>by
    obtain ⟨d1,zS,u,kA,a,BN,rfl,rfl,rfl,g1,g2⟩:=h1
    cases h2 with
    | cons Lw h22=>
    simp only [List.map_cons,mP] at h3
    obtain ⟨o,yB,a',O9,rfl,rfl,g3,g4⟩:=h3
    have g3:=Pf g3
    have k1:=Lx (t:=t) g2 h22 g4 (fun a ha=>h4 a (by simp [ha]))
    have hs:=h4 a' (by simp)
    refine ⟨u,kA,gR t o,_,a,BN,tT t a',_,rfl,rfl,rfl,rfl,?_,k1⟩
    · cases hb:b.headD false with
      | false=>
        rw [hb] at g3
        simp only [pe] at g3
        simp only [Bool.false_eq_true,if_false]
        rw [g3]; rfl
      | true=>
        rw [hb] at g1 g3
        simp only [if_true]
        have cR:cm (fun x v=>bz w' X S1 (id x) v) (cellsOf d) (gT d u):=by
          by_cases ez:∃ cs,d=.agg cs
          · obtain ⟨cs,rfl⟩:=ez
            obtain ⟨vs,rfl,hv⟩:=Lw
            exact hv
          · have hnf:(∀ f cs,d≠.fn f cs)∧∀ ds,d≠.bf ds:=by
              cases d1 with
              | bp cs=>obtain ⟨r,_,e,_⟩:=g1; subst e; simp
              | _=>exact g1.2.2.2.2.2
            have h1:cellsOf d=[d]:=by cases d<;>first | rfl | exact absurd ⟨_,rfl⟩ ez
            have h2:gT d u=[u]:=by cases d<;>first | rfl | exact absurd ⟨_,rfl⟩ ez
            rw [h1,h2]
            refine .cons ?_ .nil
            rcases xD Lw with ⟨ds,_,e,_⟩ | ⟨_,Lw⟩
            · exact absurd e (hnf.2 ds)
            · rcases tL Lw with ⟨cs,_,e,_⟩ | ⟨f,cs,_,e,_⟩ | ⟨_,_,Lw⟩
              · exact absurd ⟨cs,e⟩ ez
              · exact absurd e (hnf.1 f cs)
              · exact Lw
        refine ⟨cR,X3 g3 hs,fun e=>?_,fun bx e=>?_⟩
        · cases d1 with
          | bp cs=>obtain ⟨r,b2,_,e2,_⟩:=g1; rw [e] at e2; simp at e2
          | _=>exact ⟨g1.2.2.1,g1.2.2.2.1⟩
        · cases d1 with
          | bp cs=>
            obtain ⟨r,b2,e1,e2,e3,_⟩:=g1
            rw [e,Option.some.injEq] at e2
            subst e2
            exact ⟨r,_,e1,e3,rfl⟩
          | _=>rw [g1.1] at e; simp at e
end
end Go.Proofs.YtockoilcnmljiaaGreat
