/- What the proof of FnExactLeave stands on, part 2: an abstract machine on plain data, its soundness, and the contracts of functions. -/
import Derived.Lib.AppendZerosOnto
import Derived.Laws.BytesString
import Derived.Laws.Small
import Derived.Laws.Runes
import Derived.Test.YtockoilcnmljiaaGreatMa
set_option linter.all false
set_option linter.unusedSimpArgs false
set_option linter.unusedVariables false
set_option linter.unnecessarySimpa false
set_option linter.unusedSectionVars false
namespace Go.Proofs.YtockoilcnmljiaaGreat
def gF (d:D) (u:Value):List Value:=
  match d with
  | .agg _=>u.cells.toList
  | _=>[u]
section
variable {C:Ctx} {Hx:List T} {w:World} {aE:List (Array Value)}
theorem Tb {w':World} {S S':List (Nat × RT)} {H H':List T} (h:gV C w w' S S' H H' id) {d:D} {u:Value} (hd:cr w (af C w S H) S d u):cr w' (af C w' S' H') S' d u:=pH h hd
theorem qk {H:List T} {st st':St} {S:List (Nat × RT)} {d:D} {u:Value} {ds':List D} (h:Rel C H w st aE S) (hd:cr w (af C w S H) S d u) (ht:qU st (cellsOf d)=some (ds',st')):
    ∃ ts S',Rel C (ts++H) w st' aE S'∧bh ts=ds'∧aC ts=gF d u∧gV C w w S S' H (ts++H) id∧pJ S S'∧lL st st':=by
  by_cases ha:∃ cs,d=.agg cs
  · obtain ⟨cs,rfl⟩:=ha
    obtain ⟨us,rfl,hu⟩:=hd
    exact E8 h hu ht
  · have hc:cellsOf d=[d]:=by cases d<;>first | rfl | exact absurd ⟨_,rfl⟩ ha
    have hv:gF d u=[u]:=by cases d<;>first | rfl | exact absurd ⟨_,rfl⟩ ha
    rw [hc] at ht
    rw [hv]
    have sv:bj w (af C w S H) S d u:=by
      cases d<;>first | exact hd | (simp [qU,iU] at ht; done) | exact absurd ⟨_,rfl⟩ ha
    exact E8 h (.cons sv .nil) ht
theorem Fb:∀ {ps:List (Nat × D)} {us:List (Nat × Value)} {H:List T} {st st':St} {S:List (Nat × RT)} {X3:List (Nat × List D)},Rel C H w st aE S→cb (fun p q=>q.1=p.1∧cr w (af C w S H) S p.2 q.2) ps us→rl st ps=some (X3,st')→
    ∃ (pK:List (Nat × List T)) (S':List (Nat × RT)),Rel C (pK.flatMap (·.2)++H) w st' aE S'∧pK.map (fun p=>(p.1,p.2.map T.er))=X3∧cb (fun (p:Nat × D) (q:(Nat × List T) × (Nat × Value))=>q.2.1=q.1.1∧q.1.2.map T.val=gF p.2 q.2.2) ps (pK.zip us)∧pK.length=us.length∧gV C w w S S' H (pK.flatMap (·.2)++H) id∧pJ S S'∧lL st st':=by
  intro ps
  induction ps with
  | nil=>
    intro us H st st' S X3 h hu ht
    cases hu
    simp only [rl,Option.some.injEq,Prod.mk.injEq] at ht
    obtain ⟨rfl,rfl⟩:=ht
    exact ⟨[],S,h,rfl,.nil,rfl,fun _ _ h=>h,pJ.refl _,lL.refl _⟩
  | cons p ps ih=>
    intro us H st st' S X3 h hu ht
    cases hu with
    | cons sA CK=>
    rename_i q qs
    obtain ⟨i,d⟩:=p
    obtain ⟨j,u⟩:=q
    obtain ⟨rfl,sA⟩:=sA
    simp only [rl] at ht
    split at ht
    case h_2=>simp at ht
    rename_i d1 aN h1
    split at ht
    case h_2=>simp at ht
    rename_i gl ch h2
    simp only [Option.some.injEq,Prod.mk.injEq] at ht
    obtain ⟨rfl,rfl⟩:=ht
    obtain ⟨ts,S1,a1,rfl,a3,a4,a5,a6⟩:=qk h sA h1
    obtain ⟨pK,S2,b1,rfl,b3,b4,b5,b6,b7⟩:=ih a1 (CK.mono (fun _ _ hh=>⟨hh.1,Tb a4 hh.2⟩)) h2
    have hp:(pK.flatMap (·.2)++(ts++H)).Perm (((j,ts)::pK).flatMap (·.2)++H):=by
      simp only [List.flatMap_cons]
      rw [← List.append_assoc]
      exact List.Perm.append_right _ List.perm_append_comm
    refine ⟨(j,ts)::pK,S2,b1.perm hp,by simp [eD],.cons ⟨rfl,by rw [← cS]; exact a3⟩ b3,by simp [b4],fun d u hd=>?_,a5.trans b6,lL.trans a6 b7⟩
    have:=b5 _ _ (a4 d u hd)
    rwa [zV hp] at this
end
theorem Rf {w:World} {X:Bool→Nat→Prop}:∀ {pK:List (Nat × List T)} {ps:List (Nat × D)} {us:List (Nat × Value)},cb (fun (p:Nat × D) (q:(Nat × List T) × (Nat × Value))=>q.2.1=q.1.1∧q.1.2.map T.val=gF p.2 q.2.2) ps (pK.zip us)→pK.length=us.length→
    (∀ p∈pK,∀ t∈p.2,bE w X t∧cW t.er=true)→cb (fun p q=>q.1=p.1∧q.2.cells.toList=p.2.map T.val) pK us:=by
  intro pK
  induction pK with
  | nil=>
    intro ps us h hl _
    cases us with
    | nil=>exact .nil
    | cons u us=>simp at hl
  | cons p pK ih=>
    intro ps us h hl hs
    cases us with
    | nil=>simp at hl
    | cons u us=>
      simp only [List.zip_cons_cons] at h
      cases h with
      | cons h1 h2=>
      rename_i d ds
      obtain ⟨e1,e2⟩:=h1
      refine .cons ⟨e1,?_⟩ (ih h2 (by simpa using hl) (fun q hq=>hs q (by simp [hq])))
      simp only at e2
      rw [e2]
      obtain ⟨j,d⟩:=d
      by_cases ha:∃ cs,d=.agg cs
      · obtain ⟨cs,rfl⟩:=ha
        rfl
      · have hv:gF d u.2=[u.2]:=by cases d<;>first | rfl | exact absurd ⟨_,rfl⟩ ha
        simp only at hv ⊢
        simp only [hv] at e2 ⊢
        cases hp:p.2 with
        | nil=>rw [hp] at e2; simp at e2
        | cons t ts=>
          rw [hp] at e2
          simp only [List.map_cons,List.cons.injEq,List.map_eq_nil_iff] at e2
          obtain ⟨e3,rfl⟩:=e2
          obtain ⟨g1,g2⟩:=hs p (by simp) t (by simp [hp])
          have:=(mj g1 g2).2
          rw [e3] at this
          rw [this]
section
variable {P:Program} {c:cx} (aq:ek c P) {C:Ctx} {Hx:List T} {w:World} {st st':St} {a:Act} {aE:List (Array Value)} {S:List (Nat × RT)} (h:Rel C Hx w st (a.tmps::aE) S)
include aq h
theorem Ki {t e:TypeId} {ti ei:TI} (ks:c.ty t=some ti) (X0:ti.ty=.slice e) (he:c.ty e=some ei) {n:Nat} {ps:Array (Nat × Operand)} (hn:n*ei.size≤16777216) {pvs:List (Nat × List D)} {aN:St}
    (hp:rl st (ps.toList.map fun p=>(p.1,cn c st e p.2))=some (pvs,aN)) {cs:List D} (hf:nb cW (fun i=>some (i*ei.size,ei.size)) (fA n ei.zero) pvs=some cs)
    {d:Nat} (ht:d < a.tmps.size) (hP:∀ p∈C.P0,p.1≠st.of+d) (hr:aN.root (some d) [.sl none ei.size n cs] (fun d=>.ref d [] 0 none)=some st'):
    ∃ v w',(Instr.buildSlice t n (ps.map fun (i,x)=>(i,a.eval x))).run P w=.ok v w'∧dG w w'∧∃ S',Rel C Hx w' st' (a.tmps.setIfInBounds d v::aE) S':=by
  have fP:ma w (af C w S Hx) S st.tm a.tmps:=by cases h.oO with | cons a _=>exact a
  obtain ⟨inf,h1,h2,h3,z,h4,h5⟩:=(aq.ty _ _ he).info
  have CM:=(aq.ty _ _ he).len
  obtain ⟨dd,g1,g2⟩:=(aq.ty _ _ ks).desc
  rw [X0] at g2
  simp only [kp] at g2
  subst g2
  have dV:cb (fun p q=>q.1=p.1∧cr w (af C w S Hx) S p.2 q.2) (ps.toList.map fun p=>(p.1,cn c st e p.2)) (ps.toList.map fun p=>(p.1,a.eval p.2)):=by
    refine dk (by simp) (fun i x y hx hy=>?_)
    simp only [List.getElem?_map] at hx hy
    cases hq:ps.toList[i]? with
    | none=>simp [hq] at hx
    | some q=>
      simp only [hq,Option.map_some,Option.some.injEq] at hx hy
      subst hx; subst hy
      exact ⟨rfl,vM (c:=c) fP e q.2⟩
  obtain ⟨pK,S1,b1,rfl,b3,b4,b5,b6,b7⟩:=Fb h dV hp
  have VK:=Jv hf
  obtain ⟨zt,f1,f2,f3,f4⟩:=vQ h5 n
  rw [← f1,eD] at hf
  obtain ⟨cs',k1,k2⟩:=Qb T.er hf
  have dW:=((dL _ _).1 b1.mem.hand).1
  rw [cj] at dW
  have gE:=Rf (X:=af C w S1 (pK.flatMap (·.2)++Hx)) b3 b4 (fun p hp t ht=>⟨dW t (List.mem_flatMap.2 ⟨p,hp,ht⟩),VK (p.1,p.2.map T.er) (List.mem_map.2 ⟨p,hp,rfl⟩) t.er (List.mem_map.2 ⟨t,ht,rfl⟩)⟩)
  have lj:z.cells.size=ei.size:=by rw [← CM,h5.len]; simp
  have af7:((Array.range (n*inf.size)).map (z.cells[· % z.cells.size]!)).toList=zt.map T.val:=by
    rw [← cS,f2,h2,← lj,← zW]
    simp
  obtain ⟨arr,m1,m2⟩:=E9 T.val (arr:=(Array.range (n*inf.size)).map (z.cells[· % z.cells.size]!)) gE k1 af7
  have eg:(Instr.buildSlice t n (ps.map fun (i,x)=>(i,a.eval x))).run P w=.ok (.slice (some ⟨w.heap.size,0,none⟩) n n) (w.alloc (.cells arr e)):=by
    have hl:(ps.map fun (i,x)=>(i,a.eval x)).toList=ps.toList.map fun p=>(p.1,a.eval p.2):=by simp
    by_cases h0:n*inf.size=0
    · have oN:=m1
      rw [h0] at oN
      rw [← hl,← h2] at oN
      simp only [Array.range_zero',Array.map_empty] at oN
      simp [Instr.buildSlice,run_underlying g1,sizeOf,typeInfo,h1,h0,newRow,Array.range_zero']
      simp at oN
      rw [oN]
      simp
    · rw [← hl,← h2] at m1
      exact run_buildSlice w t e n _ arr inf z g1 h1 h4 (by rw [h2]; omega) h0 m1
  refine ⟨_,_,eg,(Grown.alloc w _).bN,?_⟩
  have qV:aN.of=st.of:=b7.2.2
  obtain ⟨q1,q2⟩:=Jw k1
  have hlen:cs'.length=n*ei.size:=by
    rw [q2]
    have:=congrArg List.length f2
    rw [bP] at this
    rw [this,List.length_flatten,List.map_replicate,List.sum_replicate_nat,Array.length_toList,lj]
  have Rg:=Re k1 (by
    rw [f3,List.nil_append]
    have h9:=(List.nodup_append.1 b1.mem.nd).2.1
    rw [bg] at h9
    exact (List.nodup_append.1 h9).1)
  rw [f3] at Rg
  rw [← k2,← eD] at hr
  refine BR (Hs:=pK.flatMap (·.2)) (H:=Hx) b1 (Grown.alloc w _) (ts:=cs') ⟨Nat.le_refl _,by rw [ji]; omega⟩ ?_ (fun k hk=>by simpa using Rg.2 k hk) Rg.1 (Nat.le_refl _) hlen ?_ ht (by rw [qV]; exact hP) hr
  · rw [cj]
    intro x hx
    rcases q1 x hx with h6 | ⟨p,h6,h7⟩
    · exact (cj _).1 (f4 _ _) x h6
    · exact dW x (List.mem_flatMap.2 ⟨p,h6,h7⟩)
  · have cX:arr.size=cs'.length:=by have:=congrArg List.length m2; simpa using this
    refine kt w _ _ (by rw [cX,hlen]; exact Nat.le_refl _) (fun j u hj=>?_)
    rw [← Array.getElem?_toList,m2,← cS]
    exact hj
theorem aa5 {e:TypeId} {x:Operand} {i:TI} (hlen:(cellsOf (cn c st e x)).length=i.size) (cL:(cellsOf (cn c st e x)).all (fD st)=true) {t:Nat} (ht:t < a.tmps.size) (hP:∀ p∈C.P0,p.1≠st.of+t)
    (hr:st.root (some t) (cellsOf (oM (cB (st.of+t)) (cn c st e x))) (fun d=>.ptr d [] 0)=some st'):
    ∃ v w',(Instr.box e (a.eval x)).run P w=.ok v w'∧dG w w'∧∃ S',Rel C Hx w' st' (a.tmps.setIfInBounds t v::aE) S':=by
  have _:=aq
  have fP:ma w (af C w S Hx) S st.tm a.tmps:=by cases h.oO with | cons a _=>exact a
  have hd:=vM (c:=c) fP e x
  have dV:=Dw h.rt h.mem hd (List.all_eq_true.1 cL)
  have eg:(Instr.box e (a.eval x)).run P w=.ok (.pointer (some ⟨w.heap.size,0,none⟩)) (w.alloc (.cells (a.eval x).cells e)):=by
    simp [Instr.box,newVar,newRow]
  refine ⟨_,_,eg,(Grown.alloc w _).bN,?_⟩
  have eE:cellsOf (oM (cB (st.of+t)) (cn c st e x))=(cellsOf (cn c st e x)).map (cB (st.of+t)):=by
    by_cases ha:∃ cs,cn c st e x=.agg cs
    · obtain ⟨cs,ha⟩:=ha
      rw [ha]; rfl
    · have hc:cellsOf (cn c st e x)=[cn c st e x]:=by cases hx:cn c st e x<;>first | rfl | exact absurd ⟨_,hx⟩ ha
      have ho:=List.all_eq_true.1 cL (cn c st e x) (by rw [hc]; simp)
      rw [hc]
      cases hx:cn c st e x with
      | agg cs=>exact absurd ⟨_,hx⟩ ha
      | aL cs=>rw [hx] at ho; simp [fD,cW] at ho
      | fn f cs=>rw [hx] at ho; simp [fD,cW] at ho
      | bf cs=>rw [hx] at ho; simp [fD,cW] at ho
      | ref r q o y=>simp only [oM,fa,List.map_cons,List.map_nil,cB]; split<;>rfl
      | ptr r q o=>simp only [oM,fa,List.map_cons,List.map_nil,cB]; split<;>rfl
      | _=>rfl
  obtain ⟨l,e1,e2,e3⟩:=yd dV
  let ts:List T:=l.map fun p=>.v (cB (st.of+t) p.1) p.2
  have j6:∀ p∈l,bL (cB (st.of+t) p.1)=cB (st.of+t) p.1:=by
    intro p hp
    have h2:=e3 p hp
    obtain ⟨d,u⟩:=p
    simp only at h2 ⊢
    cases d with
    | sl g s n cs=>
      cases g with
      | none=>simp [bj,Ext] at h2
      | some g=>rfl
    | ref r q o y=>simp only [cB]; split<;>rfl
    | ptr r q o=>simp only [cB]; split<;>rfl
    | _=>rfl
  have af8:bh ts=(cellsOf (cn c st e x)).map (cB (st.of+t)):=by
    rw [← e1,eD]
    simp only [ts,List.map_map]
    refine List.map_congr_left (fun p hp=>?_)
    simp only [Function.comp_apply,T.er]
    exact j6 p hp
  have gE:aC ts=(a.eval x).cells.toList:=by
    rw [← e2,cS]
    simp only [ts,List.map_map]
    rfl
  have eL:ah ts=[]:=by
    rw [nv]
    simp only [ts,List.map_map]
    rw [List.flatten_eq_nil_iff]
    intro y hy
    simp only [List.mem_map,Function.comp_apply] at hy
    obtain ⟨p,_,rfl⟩:=hy
    rfl
  rw [eE,← af8] at hr
  refine Hm (Hs:=[]) h (Grown.alloc w _) (ts:=ts) ⟨Nat.le_refl _,by rw [ji]; omega⟩ (fun y hy=>.inr ?_) (by rw [eL]; simp) (by rw [eL]; simp) ?_ ht hP hr
  · simp only [ts,List.mem_map] at hy
    obtain ⟨p,hp,rfl⟩:=hy
    exact ⟨p.1,p.2,rfl,e3 p hp⟩
  · refine kt w _ _ ?_ (fun j u hj=>?_)
    · have:=congrArg List.length gE
      rw [bP] at this
      rw [this]; simp
    · rw [gE] at hj
      simpa using hj
theorem Tc {e:TypeId} {x:Operand} {i:TI} (hlen:(cellsOf (cn c st e x)).length=i.size) {ds:List D} {aN:St} (dz:qU st (cellsOf (cn c st e x))=some (ds,aN)) (cL:ds.all cW=true) {t:Nat} (ht:t < a.tmps.size) (hP:∀ p∈C.P0,p.1≠st.of+t)
    (hr:aN.root (some t) ds (fun d=>.ptr d [] 0)=some st'):
    ∃ v w',(Instr.box e (a.eval x)).run P w=.ok v w'∧dG w w'∧∃ S',Rel C Hx w' st' (a.tmps.setIfInBounds t v::aE) S':=by
  have _:=aq
  have fP:ma w (af C w S Hx) S st.tm a.tmps:=by cases h.oO with | cons a _=>exact a
  have hd:=vM (c:=c) fP e x
  obtain ⟨ts,S1,b1,rfl,b3,b4,b5,b6⟩:=qk h hd dz
  have eg:(Instr.box e (a.eval x)).run P w=.ok (.pointer (some ⟨w.heap.size,0,none⟩)) (w.alloc (.cells (a.eval x).cells e)):=by
    simp [Instr.box,newVar,newRow]
  refine ⟨_,_,eg,(Grown.alloc w _).bN,?_⟩
  have dW:=((dL _ _).1 b1.mem.hand).1
  rw [cj] at dW
  have gE:aC ts=(a.eval x).cells.toList:=by
    by_cases ha:∃ cs,cn c st e x=.agg cs
    · obtain ⟨cs,ha⟩:=ha
      rw [b3,ha]; rfl
    · have hv:gF (cn c st e x) (a.eval x)=[a.eval x]:=by cases hx:cn c st e x<;>first | rfl | exact absurd ⟨_,hx⟩ ha
      rw [hv] at b3
      rw [b3]
      cases ts with
      | nil=>simp [aC] at b3
      | cons y ys=>
        simp only [aC,List.cons.injEq] at b3
        have:=mj (dW y (by simp)) (List.all_eq_true.1 cL y.er (by simp [bh]))
        rw [b3.1] at this
        rw [this.2]
  refine Hm (Hs:=ts) b1 (Grown.alloc w _) (ts:=ts) ⟨Nat.le_refl _,by rw [ji]; omega⟩ (fun y hy=>.inl (dW y hy)) (fun _ h=>h) (by
    have h9:=(List.nodup_append.1 b1.mem.nd).2.1
    rw [bg] at h9
    exact (List.nodup_append.1 h9).1) ?_ ht (by rw [b6.2.2]; exact hP) hr
  refine kt w _ _ ?_ (fun j u hj=>?_)
  · have:=congrArg List.length gE
    rw [bP] at this
    rw [this]; simp
  · rw [gE] at hj
    simpa using hj
end
end Go.Proofs.YtockoilcnmljiaaGreat
namespace Go.Proofs.YtockoilcnmljiaaGreat
theorem Rh {q:List Nat}:∀ {p:Nat} {cs l:List T} {bx:Option Nat} {b off:Nat},bV bx cs (p::q)=some (b,off)→aw cs (p::q)=some l→(ah cs).Nodup→b∉ah l:=by
  induction q with
  | nil=>
    intro p cs l bx b off ha hc hn
    rw [bV] at ha
    rw [aw] at hc
    cases hp:cs[p]? with
    | none=>simp [hp] at hc
    | some x=>
      cases x with
      | v d u=>simp [hp] at hc
      | own s n cap a xs=>
        simp only [hp,aw,Option.some.injEq] at hc ha
        subst hc; subst ha
        obtain ⟨A,B,e,_⟩:=dN cs p _ hp
        rw [e] at hn
        have:=(List.nodup_append.1 (List.nodup_append.1 hn).1).2.1
        simp only [T.ft,iV,List.cons_append,List.nil_append,List.nodup_cons] at this
        exact this.1
  | cons p' q ih=>
    intro p cs l bx b off ha hc hn
    rw [bV] at ha
    rw [aw] at hc
    cases hp:cs[p]? with
    | none=>simp [hp] at hc
    | some x=>
      cases x with
      | v d u=>simp [hp] at hc
      | own s n cap a xs=>
        simp only [hp] at hc ha
        refine ih ha hc ?_
        obtain ⟨A,B,e,_⟩:=dN cs p _ hp
        rw [e] at hn
        have:=(List.nodup_append.1 (List.nodup_append.1 hn).1).2.1
        simp only [T.ft] at this
        exact (List.nodup_append.1 this).2.1
theorem Zm {q:List Nat} {o:Nat} {t':T} {d:D} {u:Value}:∀ {cs cs':List T} {q':List Nat} {o':Nat} {l:List T},dF (fun l=>l.set o t') cs q=some cs'→under (q++[o]) (q'++[o'])=none→aw cs q'=some l→l[o']?=some (.v d u)→
    ∃ l',aw cs' q'=some l'∧l'[o']?=some (.v d u):=by
  induction q with
  | nil=>
    intro cs cs' q' o' l hm hu hc ho
    simp only [dF,Option.some.injEq] at hm
    subst hm
    cases q' with
    | nil=>
      simp only [aw,Option.some.injEq] at hc
      subst hc
      simp only [List.nil_append,under] at hu
      split at hu
      · simp at hu
      · rename_i cZ
        exact ⟨_,rfl,by rw [List.getElem?_set_ne cZ]; exact ho⟩
    | cons p q'=>
      simp only [List.nil_append,List.cons_append,under] at hu
      split at hu
      · simp at hu
      · rename_i cZ
        exact ⟨l,by rw [aw,List.getElem?_set_ne cZ]; rw [aw] at hc; exact hc,ho⟩
  | cons p q ih=>
    intro cs cs' q' o' l hm hu hc ho
    rw [dF] at hm
    cases hp:cs[p]? with
    | none=>simp [hp] at hm
    | some x=>
      cases x with
      | v d u=>simp [hp] at hm
      | own s n cap a xs=>
        simp only [hp] at hm
        cases hx:dF (fun l=>l.set o t') xs q with
        | none=>simp [hx] at hm
        | some kj=>
          simp only [hx,Option.some.injEq] at hm
          subst hm
          obtain ⟨cT,_⟩:=List.getElem?_eq_some_iff.1 hp
          cases q' with
          | nil=>
            simp only [aw,Option.some.injEq] at hc
            subst hc
            have cZ:p≠o':=fun e=>by subst e; rw [hp] at ho; simp at ho
            exact ⟨_,rfl,by rw [List.getElem?_set_ne cZ]; exact ho⟩
          | cons p' q'=>
            by_cases E3:p=p'
            · subst E3
              simp only [List.cons_append,under,if_true] at hu
              rw [aw,hp] at hc
              obtain ⟨l',h1,h2⟩:=ih hx hu hc ho
              exact ⟨l',by rw [aw,List.getElem?_set_self cT]; exact h1,h2⟩
            · exact ⟨l,by rw [aw,List.getElem?_set_ne E3]; rw [aw] at hc; exact hc,ho⟩
theorem kr.MC {S S':List (Nat × RT)} {r:Nat} {q:List Nat} {o:Nat} {t t':T} (hc:kr S S' r q o t t') {r':Nat} {q':List Nat} {o':Nat} (hf:r'≠r∨under (q++[o]) (q'++[o'])=none) {d:D} {u:Value} (h:cu S r' q' o'=some (.v d u)):cu S' r' q' o'=some (.v d u):=by
  by_cases he:r'=r
  · subst he
    have hf:under (q++[o]) (q'++[o'])=none:=by rcases hf with hf | hf<;>first | exact absurd rfl hf | exact hf
    obtain ⟨R,cs',l,h1,h2,h3,h4,rfl⟩:=hc.ex
    unfold cu at h ⊢
    rw [cD]
    rw [h1] at h
    simp only at h ⊢
    cases hx:aw R.cs q' with
    | none=>simp [hx] at h
    | some l'=>
      simp only [hx] at h
      obtain ⟨l1,h5,h6⟩:=Zm h4 hf hx h
      rw [h5]
      exact h6
  · unfold cu at h ⊢
    rw [hc.LU he]
    exact h
theorem BS {g:D→D} {S:List (Nat × RT)} {r:Nat} {q:List Nat} {o:Nat} {t:T} (h:cu S r q o=some t):cu (fS g S) r q o=some (if q=[] then fT g t else t):=by
  unfold cu at h ⊢
  rw [lq]
  cases hr:lk S r with
  | none=>simp [hr] at h
  | some R=>
    simp only [hr,Option.map_some] at h ⊢
    cases q with
    | nil=>
      simp only [aw,if_true] at h ⊢
      rw [List.getElem?_map,h]; rfl
    | cons p q=>
      rw [Dq]
      simpa using h
section
variable {C:Ctx} {H Hs:List T} {w w':World} {st aN ch:St} {aE:List (Array Value)} {S S1 S':List (Nat × RT)}
theorem Qc (h:Rel C H w st aE S) {g:D→D} (hg:ld g) (dR:∀ d u,bj w (af C w S H) S d u→bj w (af C w S H) (fS g S) (g d) u) (qg:∀ d u,Ext w (af C w S H) d u→Ext w (af C w S H) (fa g d) u) (ot:∀ d u,bj w (af C w S H) S d u→fa g d=g d):
    Rel C H w (st.eS g) aE (fS g S)∧gV C w w S (fS g S) H H g:=by
  have CP:af C w (fS g S) H=af C w S H:=by
    funext b k
    simp only [af,tS]
  refine ⟨?_,fun d u hd=>by rw [CP]; exact dR d u hd⟩
  refine h.step (f:=g) ?_ rfl rfl (fun d u hd=>by rw [CP]; exact dR d u hd) ⟨by rw [tS]; exact h.mem.nd,?_,by rw [CP]; exact h.mem.hand,by rw [tS]; exact h.mem.lt⟩
    ⟨h.kept.os,h.kept.tape,h.kept.output,h.kept.size,h.kept.block,by rw [tS]; exact h.kept.ix,?_⟩
  · exact pj hg h.rt
  · intro r R' eh
    rw [lq] at eh
    cases hx:lk S r with
    | none=>simp [hx] at eh
    | some R=>
      simp only [hx,Option.map_some,Option.some.injEq] at eh
      subst eh
      obtain ⟨k1,k2⟩:=h.mem.root r R hx
      have hv:aC (R.cs.map (fT g))=aC R.cs:=by
        rw [cS,cS,List.map_map]
        congr 1
        funext t
        cases t<;>rfl
      refine ⟨?_,fun t ht=>?_⟩
      · simp only [List.length_map]
        rw [hv]; exact k1
      · simp only [List.mem_map] at ht
        obtain ⟨t0,ks,rfl⟩:=ht
        have:=k2 t0 ks
        rw [CP]
        cases t0 with
        | own s n cap a xs=>exact this
        | v d u=>
          simp only [fT,iW] at this ⊢
          rw [hg.leaf]
          rcases this with this | ⟨hb,this⟩
          · exact .inl (qg _ _ this)
          · exact .inr ⟨hb,by rw [ot _ _ this]; exact dR _ _ this⟩
  · intro r b vs hm R' eh
    rw [lq] at eh
    cases hx:lk S r with
    | none=>simp [hx] at eh
    | some R=>
      simp only [hx,Option.map_some,Option.some.injEq] at eh
      subst eh
      have hv:aC (R.cs.map (fT g))=aC R.cs:=by
        rw [cS,cS,List.map_map]
        congr 1
        funext t
        cases t<;>rfl
      have:=h.kept.par r b vs hm R hx
      simp only
      rw [hv]; exact this
end
end Go.Proofs.YtockoilcnmljiaaGreat
namespace Go.Proofs.YtockoilcnmljiaaGreat
section
variable {C:Ctx} {H Hs:List T} {w w':World} {st aN ch:St} {aE:List (Array Value)} {S S1 S':List (Nat × RT)}
theorem BT {k:Nat} {ts:List T} {t:T} (ht:t∈ts) (hk:k∈t.ft):k∈ah ts:=by
  obtain ⟨i,hi⟩:=List.mem_iff_getElem?.1 ht
  obtain ⟨A,B,e,_⟩:=dN ts i _ hi
  rw [e]; simp [hk]
theorem Jy {q:List Nat} {k:Nat} {cs l:List T} (hc:aw cs q=some l) (hk:k∈ah l):k∈ah cs:=by
  obtain ⟨A,B,e,_⟩:=EO hc
  rw [e]; simp [hk]
theorem CQ {r k:Nat} {R:RT} (h:lk S r=some R) (hk:k∈R.ft):k∈cF S:=by
  obtain ⟨A,B,e,_⟩:=lI h
  rw [e]; simp [hk]
theorem Ri (hn:(cF S).Nodup) {r:Nat} {R:RT} (h:lk S r=some R):R.ft.Nodup:=by
  obtain ⟨A,B,e,_⟩:=lI h
  rw [e] at hn
  exact (List.nodup_append.1 (List.nodup_append.1 hn).1).2.1
structure Wr (C:Ctx) (w w':World) (S S':List (Nat × RT)) (H H':List T) (t1:T):Prop where
  stays:jh w w' (af C w S H) (af C w' S' H')
  sub:∀ k∈cF S'++ah H',k∈cF S++ah H
  nd:(cF S'++ah H').Nodup
  bN:∀ k∈t1.ft,af C w' S' H' false k∧w'.heap[k]?=w.heap[k]?
  new:∀ k∈ah H,w'.heap[k]?=w.heap[k]?
  kept:Kept C w' S' H'
theorem O0 (h:Rel C (Hs++H) w st aE S) {g:D→D} (hS:SR g S S1) {r:Nat} {q:List Nat} {o:Nat} {t0 t1 t':T} (hc:kr S1 S' r q o t1 t') (hgt:t1.ft=t0.ft) {R:RT} {l:List T} (hR:lk S r=some R) (hl:aw R.cs q=some l) (ho:l[o]?=some t0) {b off:Nat} (ha:bV R.box R.cs q=some (b,off))
    (X4:ah Hs=t'.ft) {u:Value} (hu:P4 w w' b (off+o) u) (cX:w'.heap.size=w.heap.size) (nc:w'.os=w.os) (tT:w'.tape=w.tape) (uM:w'.output=w.output):Wr C w w' S S' (Hs++H) H t1:=by
  obtain ⟨A,B,e1,e2⟩:=hc.fts
  rw [hS.ix] at e1
  have fh:=h.mem.nd
  have cT:=h.mem.lt
  have X5:b∈R.ft:=by
    cases q with
    | nil=>simp only [bV] at ha; cases hb:R.box with
      | none=>simp [hb] at ha
      | some b'=>simp only [hb,Option.map_some,Option.some.injEq,Prod.mk.injEq] at ha; simp [RT.ft,hb,ha.1]
    | cons p q=>simp [RT.ft,rq ha]
  have CI:b∈cF S:=CQ hR X5
  have ez:∀ k∈cF S'++ah H,k∈cF S++ah (Hs++H):=by
    intro k hk
    rw [e2] at hk
    rw [e1,bg,X4]
    simp only [List.mem_append] at hk ⊢
    rcases hk with ((hk | hk) | hk) | hk
    · exact .inl (.inl (.inl hk))
    · exact .inr (.inl hk)
    · exact .inl (.inr hk)
    · exact .inr (.inr hk)
  have aa7:=fh
  rw [e1,bg,X4] at aa7
  have p1:(A++t1.ft++B++(t'.ft++ah H)).Perm (t1.ft++(A++t'.ft++B++ah H)):=by
    refine List.perm_iff_count.2 fun a=>?_
    simp only [List.count_append]
    omega
  have af9:=p1.nodup_iff.1 aa7
  obtain ⟨_,aga,X6⟩:=List.nodup_append.1 af9
  have hbt:b∉t1.ft:=by
    rw [hgt]
    intro hb
    have Td:=Ri (List.nodup_append.1 fh).1 hR
    have X7:t0∈l:=List.mem_of_getElem? ho
    have XW:b∈ah l:=BT X7 hb
    cases q with
    | nil=>
      simp only [bV] at ha
      simp only [aw,Option.some.injEq] at hl
      subst hl
      cases hx:R.box with
      | none=>simp [hx] at ha
      | some b'=>
        simp only [hx,Option.map_some,Option.some.injEq,Prod.mk.injEq] at ha
        rw [RT.ft,hx] at Td
        simp only [Option.toList,List.cons_append,List.nil_append,List.nodup_cons] at Td
        exact Td.1 (ha.1▸XW)
    | cons p q=>
      rw [RT.ft] at Td
      exact Rh ha hl (List.nodup_append.1 Td).2.1 XW
  have cZ:∀ k,k≠b→w'.heap[k]?=w.heap[k]?:=by obtain ⟨_,_,_,_,_,h3⟩:=hu; exact h3
  have cy:jh w w' (af C w S (Hs++H)) (af C w' S' H):=by
    intro bb k hk
    have hkb:k≠b:=fun e=>hk.2.1 (e▸CI)
    refine ⟨⟨by rw [cX]; exact hk.1,fun hx=>?_,fun hx=>?_,hk.2.2.2⟩,cZ k hkb⟩
    · rcases List.mem_append.1 (ez k (List.mem_append.2 (.inl hx))) with h3 | h3
      · exact hk.2.1 h3
      · exact hk.2.2.1 h3
    · rcases List.mem_append.1 (ez k (List.mem_append.2 (.inr hx))) with h3 | h3
      · exact hk.2.1 h3
      · exact hk.2.2.1 h3
  refine ⟨cy,ez,by rw [e2]; exact aga,fun k hk=>?_,fun k hk=>?_,?_⟩
  · have Jz:k∈cF S++ah (Hs++H):=by rw [e1]; simp [hk]
    refine ⟨⟨by rw [cX]; exact cT k Jz,fun hx=>?_,fun hx=>?_,fun _=>.inr (h.kept.ix k Jz)⟩,cZ k (fun e=>hbt (e▸hk))⟩
    · rw [e2] at hx; exact X6 k hk k (List.mem_append.2 (.inl hx)) rfl
    · exact X6 k hk k (List.mem_append.2 (.inr hx)) rfl
  · exact cZ k (fun e=>by subst e; exact (List.nodup_append.1 fh).2.2 k CI k hk rfl)
  · refine ⟨by rw [nc]; exact h.kept.os,by rw [tT]; exact h.kept.tape,by rw [uM]; exact h.kept.output,by rw [cX]; exact h.kept.size,fun k h1 h2=>?_,fun k hk=>h.kept.ix k (ez k hk),fun r1 bx vs hm R1 Fc=>?_⟩
    · rw [cZ k (fun e=>?_)]
      · exact h.kept.block k h1 h2
      · subst e
        rcases h.kept.ix k (List.mem_append.2 (.inl CI)) with h3 | h3
        · exact h2 h3
        · omega
    · obtain ⟨R2,cs',l2,g1,g2,g3,g4,rfl⟩:=hc.ex
      by_cases he:r1=r
      · subst he
        rw [cD,Option.some.injEq] at Fc
        subst Fc
        obtain ⟨R3,k1,k2,k3,k4,k5⟩:=hS.ry g1
        rw [hR,Option.some.injEq] at k1
        subst k1
        obtain ⟨m1,m2⟩:=h.kept.par r1 bx vs hm R hR
        refine ⟨by simp only; rw [k2,m1],fun hb=>?_⟩
        cases q with
        | nil=>
          simp only [bV] at ha
          rw [m1,hb] at ha
          simp at ha
        | cons p q=>
          simp only
          rw [(mf g4).1,k4]
          exact m2 hb
      · rw [dD _ _ he] at Fc
        obtain ⟨R3,k1,k2,k3,k4,k5⟩:=hS.ry Fc
        obtain ⟨m1,m2⟩:=h.kept.par r1 bx vs hm R3 k1
        exact ⟨by rw [k2,m1],fun hb=>by rw [k4]; exact m2 hb⟩
end
end Go.Proofs.YtockoilcnmljiaaGreat
namespace Go.Proofs.YtockoilcnmljiaaGreat
theorem Fe (q:List Nat) (o:Nat):under (q++[o]) q=none:=by
  induction q with
  | nil=>rfl
  | cons p q ih=>simp only [List.cons_append,under,if_true]; exact ih
theorem JA (r:Nat) (q:List Nat) (o:Nat) (e:Bool) (i:Nat):ct r q o e (.ptr r q i)=.ptr r q i:=by
  simp only [ct,if_true,Fe]
theorem Ho:ld id:=⟨fun _ _ _ _=>rfl,fun _ _=>rfl,fun _ h=>h⟩
theorem aa8 (d:D):fa id d=d:=by cases d<;>simp [fa]
theorem Qd {α:Type} (f:α→α) (hf:∀ a,f a=a):∀ l:List (Nat × α),fR f l=l
  | []=>rfl
  | (k,v)::t=>by simp [fR,hf,Qd f hf t]
theorem Zn {l:List (Nat × List D)} {S:List (Nat × RT)} (h:gT l S):gT l (fS id S):=by
  have:=pj Ho h
  rwa [Qd] at this
  intro l
  have:fa id=id:=funext aa8
  rw [this]; simp
theorem X8 {g:D→D} {S:List (Nat × RT)} {r:Nat} {q:List Nat} {o:Nat} {R:RT} {l:List T} {t0:T} (hR:lk S r=some R) (hl:aw R.cs q=some l) (ho:l[o]?=some t0):
    ∃ R1 l1 t1,lk (fS g S) r=some R1∧R1.box=R.box∧aw R1.cs q=some l1∧l1[o]?=some t1∧(t1=t0∨(q=[]∧t1=fT g t0))∧l1.length=l.length∧bV R1.box R1.cs q=bV R.box R.cs q∧R1.cs.length=R.cs.length:=by
  cases q with
  | nil=>
    simp only [aw,Option.some.injEq] at hl
    subst hl
    exact ⟨⟨R.box,R.cs.map (fT g)⟩,R.cs.map (fT g),fT g t0,by rw [lq,hR]; rfl,rfl,rfl,by simp [ho],.inr ⟨rfl,rfl⟩,by simp,rfl,by simp⟩
  | cons p q=>
    exact ⟨⟨R.box,R.cs.map (fT g)⟩,l,t0,by rw [lq,hR]; rfl,rfl,by simp only [Dq]; exact hl,ho,.inl rfl,rfl,P8 g,by simp⟩
theorem kr.agb {S S':List (Nat × RT)} {r:Nat} {q:List Nat} {o:Nat} {t t':T} (hc:kr S S' r q o t t') {l:List T} {R:RT} (hR:lk S r=some R) (hl:aw R.cs q=some l):
    ∃ R' l',lk S' r=some R'∧R'.box=R.box∧aw R'.cs q=some l'∧l'.length=l.length∧bV R'.box R'.cs q=bV R.box R.cs q:=by
  obtain ⟨R0,cs',l0,h1,h2,h3,h4,rfl⟩:=hc.ex
  rw [h1,Option.some.injEq] at hR
  subst hR
  rw [h2,Option.some.injEq] at hl
  subst hl
  obtain ⟨l1,h5,h6⟩:=nw h4
  rw [h2,Option.some.injEq] at h5
  subst h5
  exact ⟨⟨R0.box,cs'⟩,l0.set o t',cD _ _ _,rfl,h6,by simp,Go.Proofs.YtockoilcnmljiaaGreat.ru h4 (Fe q o)⟩
structure Sto (S S':List (Nat × RT)) (r:Nat) (q:List Nat) (o:Nat) (t':T) (f:D→D):Prop where
  new:cu S' r q o=some t'
  ptr:∀ i,f (.ptr r q i)=.ptr r q i
  hole:∀ r' q' o' d0 u,(sn d0).isSome=true→bL d0=d0→cu S r' q' o'=some (.v d0 u)→(r'≠r∨under (q++[o]) (q'++[o'])=none)→cu S' r' q' o'=some (.v d0 u)
  path:∀ {R l},lk S r=some R→aw R.cs q=some l→∃ R' l',lk S' r=some R'∧R'.box=R.box∧aw R'.cs q=some l'∧l'.length=l.length∧bV R'.box R'.cs q=bV R.box R.cs q
section
variable {C:Ctx} {H Hs:List T} {w:World} {st aN ch:St} {aE:List (Array Value)} {S:List (Nat × RT)}
theorem zZ (h:Rel C (Hs++H) w st aE S) {r:Nat} {q:List Nat} {o:Nat} {d:D} {t' t0:T} {R:RT} {l:List T} {f:D→D} (hR:lk S r=some R) (hl:aw R.cs q=some l) (ho:l[o]?=some t0) {b off:Nat} (ha:bV R.box R.cs q=some (b,off))
    (dP:st.so r q o d=some (aN,f)) (iS:aN.hL r q o t'.er=some ch) (cM:cW d=true)
    (ye:(Hs=[t']∧d=t'.er)∨(Hs=[]∧q=[]∧∃ u,t'=.v (f d) u∧bj w (af C w S (Hs++H)) S d u)):
    ∃ S',Rel C H (w.setCell ⟨b,off+o,none⟩ t'.val) ch aE S'∧gV C w (w.setCell ⟨b,off+o,none⟩ t'.val) S S' (Hs++H) H f∧Sto S S' r q o t' f∧ch.of=st.of:=by
  have hold:st.cell r q o=some t0.er:=by rw [Hk st S h.rt,Dl hR hl,ho]; rfl
  have X4:ah Hs=t'.ft:=by
    rcases ye with ⟨rfl,_⟩ | ⟨rfl,_,u,rfl,_⟩
    · simp [ah]
    · rfl
  have hq0:q=[]→R.box.isSome=true:=fun e=>by
    subst e
    simp only [bV] at ha
    cases hb:R.box with
    | none=>simp [hb] at ha
    | some b=>rfl
  obtain ⟨b',Dn,fe,eF,eP,Vt,_⟩:=qc h.mem hR hl (fun e=>by subst e; simp at ho) hq0
  rw [ha] at eF
  simp only [Option.some.injEq,Prod.mk.injEq] at eF
  obtain ⟨rfl,rfl⟩:=eF
  have Te:o < l.length:=(List.getElem?_eq_some_iff.1 ho).1
  have VL:=Zl eP (o:=o) (by omega) t'.val
  generalize sC:w.setCell ⟨b,off+o,none⟩ t'.val=w' at VL ⊢
  have cX:w'.heap.size=w.heap.size:=by rw [← sC]; simp [World.setCell]
  have nc:w'.os=w.os:=by rw [← sC]; rfl
  have tT:w'.tape=w.tape:=by rw [← sC]; rfl
  have uM:w'.output=w.output:=by rw [← sC]; rfl
  have fin:∀ g:D→D,ld g→(∀ d,g d=d∨(∃ r q o x,d=.ref r q o x)∨∃ r q o,d=.ptr r q o)→gT aN.rt (fS g S)→((aN.tm=fR (oM f) st.tm∧aN.up=st.up.map (fR (oM f)))∨(f=id∧aN.tm=st.tm∧aN.up=st.up))→aN.of=st.of→(∀ i,f (.ptr r q i)=.ptr r q i)→
      (∀ S' t1,kr (fS g S) S' r q o t1 t'→(t1=t0∨(q=[]∧t1=fT g t0))→Wr C w w' S S' (Hs++H) H t1→(∀ d u,bj w (af C w S (Hs++H)) S d u→bj w' (af C w' S' H) S' (f d) u)∧(∀ d u,bj w (af C w S (Hs++H)) S d u→bj w' (af C w' S' H) S' (g d) u))→
      ∃ S',Rel C H w' ch aE S'∧gV C w w' S S' (Hs++H) H f∧Sto S S' r q o t' f∧ch.of=st.of:=by
    intro g hg Ff VM agc Dx agd adM
    obtain ⟨R1,l1,t1,e1,e2,e3,e4,e5,e6,e7,_⟩:=X8 (g:=g) hR hl ho
    obtain ⟨S',hc,Rj,Rk,Rl,Dy⟩:=Dr VM e1 e3 e4 iS
    have hgt:t1.ft=t0.ft:=by
      rcases e5 with rfl | ⟨_,rfl⟩
      · rfl
      · exact XU g t0
    have nf:=O0 h (Q8 hg S) hc hgt hR hl ho ha X4 VL cX nc tT uM
    obtain ⟨X9,ql⟩:=adM S' t1 hc e5 nf
    have dr:=h.mem.hand
    rw [dL] at dr
    have dg:Mem C w' S' H:=by
      refine S7 h.mem (g:=fa g) (Q8 hg S) hc hR (fun e=>?_) (fun _=>ha) VL ?_ nf.stays nf.nd nf.sub (gn nf.stays _ dr.2 (fun k hk=>nf.new k (by rw [bg]; simp [hk]))) (fun d u hd=>by rw [ud hd]; exact ql d u hd) (fun d u hd=>?_) cX
      · subst e
        simp only [bV] at ha
        cases hb:R.box with
        | none=>simp [hb] at ha
        | some b'=>simp only [hb,Option.map_some,Option.some.injEq,Prod.mk.injEq] at ha; exact ⟨by rw [ha.1],ha.2.symm⟩
      · rcases ye with ⟨rfl,_⟩ | ⟨rfl,rfl,u,rfl,hd⟩
        · left
          have h1:=dr.1
          simp only [bF] at h1
          exact dK nf.stays _ h1.1 (fun k hk=>nf.new k (by rw [bg]; simp [ah,hk]))
        · right
          have h2:=X9 d u hd
          have h3:bL (f d)=f d:=by
            cases hx:f d with
            | sl g s n cs=>
              rw [hx] at h2
              cases g with
              | none=>simp [bj,Ext] at h2
              | some g=>rfl
            | _=>rfl
          exact ⟨f d,u,rfl,rfl,by rw [h3]; exact h2⟩
      · exact rz hg Ff hd
    refine ⟨S',?_,X9,⟨hc.Dp,agd,?_,?_⟩,Dy.trans Dx⟩
    · rcases agc with ⟨h1,h2⟩ | ⟨rfl,h1,h2⟩
      · exact h.step (f:=f) Rj (by rw [Rk,h1]) (by rw [Rl,h2]) X9 dg nf.kept
      · exact h.rv Rj (by rw [Rk,h1]) (by rw [Rl,h2]) X9 dg nf.kept
    · intro r' q' o' d0 u h3 h4 h1 h2
      refine hc.MC h2 ?_
      rw [BS h1]
      split
      · simp only [fT,h4]
        cases d0<;>first | (simp [sn] at h3; done) | simp [fa,hg.hole,hg.sl]
      · rfl
    · intro R2 l2 h1 h2
      rw [hR,Option.some.injEq] at h1
      subst h1
      rw [hl,Option.some.injEq] at h2
      subst h2
      obtain ⟨R',l',k1,k2,k3,k4,k5⟩:=hc.agb e1 e3
      exact ⟨R',l',k1,k2.trans e2,k3,k4.trans e6,k5.trans e7⟩
  unfold St.so at dP
  rw [hold] at dP
  simp only [Option.some.injEq] at dP
  have hko:=yb r q o true
  have dz:=mi r q o true
  have Rm:∀ S' t1,kr (fS (ct r q o true) S) S' r q o t1 t'→Wr C w w' S S' (Hs++H) H t1→∀ d u,bj w (af C w S (Hs++H)) S d u→bj w' (af C w' S' H) S' (ct r q o true d) u:=
    fun S' t1 hc nf d u hd=>x8 nf.stays hc (by simp) (qf dz hd)
  split at dP
  · rename_i hs
    simp only [Prod.mk.injEq] at dP
    obtain ⟨rfl,rfl⟩:=dP
    refine fin (ct r q o true) dz hko ?_ (.inl ⟨rfl,rfl⟩) rfl (fun i=>?_) (fun S' t1 hc z1 nf=>⟨fun d u hd=>?_,Rm S' t1 hc nf⟩)
    · exact pj dz h.rt
    · simp only [uz]; exact JA _ _ _ _ _
    · have he:t1.er=t0.er:=by
        rcases z1 with rfl | ⟨_,rfl⟩
        · rfl
        · rw [LV dz]
          cases hx:t0.er<;>simp [hx,gA] at hs
          simp [fa,dz.sl]
      rw [← he]
      obtain ⟨g0,s0,n0,cs0,gq⟩:∃ g s n cs,t0.er=.sl g s n cs:=by
        cases hx:t0.er<;>simp [hx,gA] at hs
        exact ⟨_,_,_,_,rfl⟩
      have dW:=su h.mem hR hl ho gq
      have adN:bE w (af C w S (Hs++H)) t1:=by
        rcases z1 with rfl | ⟨_,rfl⟩
        · exact dW
        · cases t0 with
          | own s n cap a xs=>exact dW
          | v d0 u0=>
            simp only [T.er] at gq
            simp only [bE,fT] at dW ⊢
            rw [dz.leaf,gq]
            rw [gq] at dW
            simpa [fa,dz.sl] using dW
      exact Zk nf.stays hc adN nf.bN (qf dz hd)
  · rename_i hs
    split at dP
    · simp only [Prod.mk.injEq] at dP
      obtain ⟨rfl,rfl⟩:=dP
      refine fin (ct r q o true) dz hko ?_ (.inl ⟨rfl,rfl⟩) rfl (fun i=>JA _ _ _ _ _) (fun S' t1 hc z1 nf=>⟨Rm S' t1 hc nf,Rm S' t1 hc nf⟩)
      exact pj dz h.rt
    · rename_i qW
      simp only [Prod.mk.injEq] at dP
      obtain ⟨rfl,rfl⟩:=dP
      have dR:∀ S' t1,kr (fS id S) S' r q o t1 t'→Wr C w w' S S' (Hs++H) H t1→∀ d u,bj w (af C w S (Hs++H)) S d u→bj w' (af C w' S' H) S' (id d) u:=by
        intro S' t1 hc nf d' u' sv
        have j6:∃ d0 u0,t'=.v d0 u0∧sn (bL d0)=none:=by
          have MD:∀ x:D,cW x=true→gA x=false→sn (bL x)=none:=by
            intro x h1 h2
            cases x<;>first | rfl | (exfalso; simp [cW] at h1; done) | (exfalso; simp [gA] at h2; done)
          rcases ye with ⟨_,rfl⟩ | ⟨_,_,u,rfl,_⟩
          · cases t' with
            | own s n cap a xs=>simp [T.er,gA] at qW
            | v d0 u0=>
              refine ⟨d0,u0,rfl,?_⟩
              simp only [T.er] at qW cM
              have:=MD (bL d0) cM (by simpa using qW)
              rwa [CH] at this
          · exact ⟨_,_,rfl,MD _ cM (by simpa using qW)⟩
        obtain ⟨d0,u0,rfl,hn⟩:=j6
        exact Mr nf.stays hc (.inl hn) (qf Ho sv)
      refine fin id Ho (fun _=>.inl rfl) (Zn h.rt) (.inr ⟨rfl,rfl,rfl⟩) rfl (fun _=>rfl) (fun S' t1 hc z1 nf=>⟨dR S' t1 hc nf,dR S' t1 hc nf⟩)
end
end Go.Proofs.YtockoilcnmljiaaGreat
namespace Go.Proofs.YtockoilcnmljiaaGreat
section
variable {P:Program} {w:World}
theorem od {b off fe:Nat} {us:List Value} (hb:lh w b off fe us) {o:Nat} (ho:o < fe) {v:Value} (h1:v.oneCell'=true):(store ⟨b,off+o,none⟩ v).run P w=.ok () (w.setCell ⟨b,off+o,none⟩ v):=by
  obtain ⟨u,hu⟩:=ET hb ho
  rw [run_store P w _ v _ h1,hu]
  simp [ES hb ho]
theorem ME {b off:Nat} {v:Value} (h:w.cell? ⟨b,off,none⟩=some v):w.setCell ⟨b,off,none⟩ v=w:=by
  have hh:(w.setCell ⟨b,off,none⟩ v).heap=w.heap:=by
    apply Array.ext_getElem?
    intro k
    simp only [World.setCell,Array.getElem?_modify]
    split
    · rename_i hk
      subst hk
      cases hx:w.heap[b]? with
      | none=>rfl
      | some ob=>
        cases ob with
        | cells c e fz=>
          simp only [World.cell?,hx] at h
          simp only [Option.map_some,Option.isSome_none,Bool.false_eq_true,if_false]
          congr 2
          simp at h
          apply Array.ext_getElem?
          intro j
          rw [Array.getElem?_setIfInBounds]
          split
          · rename_i hj
            subst hj
            split
            · exact h.symm
            · rename_i cT
              rw [Array.getElem?_eq_none (by omega)] at h
              simp at h
          · rfl
        | _=>rfl
    · rfl
  have:w.setCell ⟨b,off,none⟩ v={ w with heap:=(w.setCell ⟨b,off,none⟩ v).heap }:=rfl
  rw [this,hh]
end
theorem MF {S:List (Nat × RT)} {r':Nat} {q':List Nat} {o':Nat} {d0:D} {u0:Value} (h0:cu S r' q' o'=some (.v d0 u0)) {r:Nat} {q:List Nat} {o:Nat} {t:T} (h1:cu S r q o=some t) (r1:Nat) (q1:List Nat) (o1 i:Nat):
    rj r' q' o' r1 q1 o1 (.ptr r q i)=.ptr r q i∧ct r' q' o' true (.ptr r q i)=.ptr r q i:=by
  have yf:r=r'→under (q'++[o']) q=none:=by
    intro e
    subst e
    cases hu:under (q'++[o']) q with
    | none=>rfl
    | some y=>
      have:=jg hu
      unfold cu at h0 h1
      cases hr:lk S r with
      | none=>simp [hr] at h0
      | some R=>
        simp only [hr] at h0 h1
        cases hc:aw R.cs q' with
        | none=>simp [hc] at h0
        | some l=>
          simp only [hc] at h0
          rw [this,List.append_assoc,List.singleton_append,E4 hc h0] at h1
          simp at h1
  simp only [rj,ct]
  by_cases e:r=r'
  · simp only [if_pos e,yf e]
    exact ⟨trivial,trivial⟩
  · simp only [if_neg e]
    exact ⟨trivial,trivial⟩
section
variable {C:Ctx} {Hx:List T} {H:List T} {w:World} {st:St} {aE:List (Array Value)} {S:List (Nat × RT)}
theorem Hp (h:Rel C H w st aE S) (r:Nat) (q:List Nat) (o:Nat) (e:Bool):Rel C H w (st.eS (ct r q o e)) aE (fS (ct r q o e) S)∧gV C w w S (fS (ct r q o e) S) H H (ct r q o e):=by
  refine Qc h (mi r q o e) (fun d u hd=>?_) (fun d u hd=>rz (mi r q o e) (yb r q o e) hd) (fun d u hd=>ud hd)
  have h1:=qf (mi r q o e) hd
  cases d with
  | ref r' q' o' x=>
    simp only [ct]
    split
    · split
      · exact h1
      · split
        · simp [bj,Ext]
        · exact h1
      · simp [bj,Ext]
    · exact h1
  | ptr r' q' o'=>
    simp only [ct]
    split
    · split
      · exact h1
      · simp [bj,Ext]
    · exact h1
  | _=>exact h1
theorem Tf (r:Nat) (q:List Nat) (o r1:Nat) (q1:List Nat) (o1:Nat) (d:D):rj r q o r1 q1 o1 d=d∨(∃ r q o x,d=.ref r q o x)∨∃ r q o,d=.ptr r q o:=by
  cases d<;>first | exact .inl rfl | exact .inr (.inl ⟨_,_,_,_,rfl⟩) | exact .inr (.inr ⟨_,_,_,rfl⟩)
theorem MG (h:Rel C H w st aE S) {r':Nat} {q':List Nat} {o':Nat} {d0:D} {u0:Value} (h0:cu S r' q' o'=some (.v d0 u0)) {r:Nat} {q:List Nat} {o:Nat} {t:T} (h1:cu S r q o=some t) (hl:la (.v d0 u0) t):
    Rel C H w (st.eS (rj r' q' o' r q o)) aE (fS (rj r' q' o' r q o) S)∧gV C w w S (fS (rj r' q' o' r q o) S) H H (rj r' q' o' r q o):=by
  have fP:=zS r' q' o' r q o
  refine Qc h fP (fun d u hd=>?_) (fun d u hd=>rz fP (Tf r' q' o' r q o) hd) (fun d u hd=>ud hd)
  have h2:=qf fP hd
  cases d with
  | ref r2 q2 o2 x=>
    simp only [rj]
    split
    · rename_i e
      subst e
      split
      · exact h2
      · rename_i hu
        have e1:=jg hu
        simp only [List.append_nil] at e1
        obtain ⟨rfl,e2⟩:=List.append_inj' e1 rfl
        simp only [List.cons.injEq,and_true] at e2
        subst e2
        refine qf fP ?_
        intro t2 Qe
        rw [h1,Option.some.injEq] at Qe
        subst Qe
        exact kq hl (hd _ h0)
      · simp [bj,Ext]
    · exact h2
  | ptr r2 q2 o2=>
    simp only [rj]
    split
    · split
      · exact h2
      · simp [bj,Ext]
    · exact h2
  | _=>exact h2
theorem Tg (fU:gT st.rt S) (hm:Mem C w S Hx) {d:D} {u:Value} (hd:cr w (af C w S Hx) S d u) (cL:(∀ cs,d≠.agg cs)→fD st d=true):cb (bj w (af C w S Hx) S) (cellsOf d) u.cells.toList:=by
  by_cases ha:∃ cs,d=.agg cs
  · obtain ⟨cs,rfl⟩:=ha
    obtain ⟨us,rfl,h⟩:=hd
    exact h
  · refine Dw fU hm hd (fun x hx=>?_)
    have hc:cellsOf d=[d]:=by cases d<;>first | rfl | exact absurd ⟨_,rfl⟩ ha
    rw [hc] at hx
    simp only [List.mem_singleton] at hx
    subst hx
    exact cL (fun cs e=>ha ⟨cs,e⟩)
end
theorem wN {st:St} {d:D} (h:fD st d=true):cW d=true:=by
  cases d<;>first | rfl | exact h
section
variable {P:Program} {C:Ctx} {Hx:List T} {aE:List (Array Value)}
theorem O1:∀ {ds:List D} {us:List Value} {w:World} {st st':St} {S:List (Nat × RT)} {r o:Nat} {h:D→D} {b off i:Nat},Rel C Hx w st aE S→(∃ R,lk S r=some R∧R.box=some b)→cb (fun d u=>bj w (af C w S Hx) S (h d) u) ds us→o=off+i→nq st r o h ds=some st'→
    ∃ w' S',(storeCells ⟨b,off,none⟩ us i).run P w=.ok () w'∧Rel C Hx w' st' aE S'∧st'.of=st.of:=by
  intro ds
  induction ds with
  | nil=>
    intro us w st st' S r o h b off i hr _ hu _ hs
    cases hu
    simp only [nq,Option.some.injEq] at hs
    subst hs
    exact ⟨w,S,rfl,hr,rfl⟩
  | cons d ds ih=>
    intro us w st st' S r o h b off i hr uN hu z6 hs
    cases hu with
    | cons sA CK=>
    rename_i u us
    simp only [nq] at hs
    split at hs
    · simp at hs
    rename_i cL
    simp only [Bool.not_eq_true',Bool.not_eq_false] at cL
    split at hs
    case h_2=>simp at hs
    rename_i aN f dP
    split at hs
    case h_2=>simp at hs
    rename_i ch iS
    obtain ⟨R,hR,hb⟩:=uN
    obtain ⟨h1,_⟩:=MB hr.rt hr.mem sA cL
    have cM:∃ t0,R.cs[o]?=some t0:=by
      unfold St.so at dP
      cases hx:st.cell r [] o with
      | none=>simp [hx] at dP
      | some bN=>
        obtain ⟨R',l,t,g1,g2,g3,_⟩:=iI hr.rt hx
        rw [hR,Option.some.injEq] at g1
        subst g1
        simp only [aw,Option.some.injEq] at g2
        subst g2
        exact ⟨t,g3⟩
    obtain ⟨t0,ho⟩:=cM
    have ha:bV R.box R.cs []=some (b,0):=by simp [bV,hb]
    obtain ⟨b',Dn,fe,eF,eP,Vt,_⟩:=qc hr.mem hR (q:=[]) rfl (fun e=>by rw [e] at ho; simp at ho) (fun _=>by rw [hb]; rfl)
    rw [ha] at eF
    simp only [Option.some.injEq,Prod.mk.injEq] at eF
    obtain ⟨rfl,rfl⟩:=eF
    have Te:o < R.cs.length:=(List.getElem?_eq_some_iff.1 ho).1
    have eg:=od (P:=P) eP (o:=o) (by omega) h1
    have hfd:bL (f (h d))=f (h d):=by
      have key:∀ x:D,cW x=true→bL x=x→bL (f x)=f x:=by
        intro x hx Ya
        unfold St.so at dP
        cases hy:st.cell r [] o with
        | none=>simp [hy] at dP
        | some bN=>
          simp only [hy,Option.some.injEq] at dP
          have hk:bL (ct r [] o true x)=ct r [] o true x:=by
            cases x with
            | ref r' q' o' y=>simp only [ct]; split<;>(try split)<;>(try split)<;>rfl
            | ptr r' q' o'=>simp only [ct]; split<;>(try split)<;>rfl
            | _=>exact Ya
          split at dP
          · simp only [Prod.mk.injEq] at dP
            obtain ⟨_,rfl⟩:=dP
            cases x with
            | ref r' q' o' y=>
              simp only [uz]
              split
              · split
                · rfl
                · split
                  · exact (by rename_i g _ _ _ _; cases g<;>rfl)
                  · rfl
              · rfl
            | _=>exact hk
          · split at dP
            · simp only [Prod.mk.injEq] at dP
              obtain ⟨_,rfl⟩:=dP
              exact hk
            · simp only [Prod.mk.injEq] at dP
              obtain ⟨_,rfl⟩:=dP
              exact Ya
      refine key _ (wN cL) ?_
      cases hx:h d with
      | sl g s n cs=>
        rw [hx] at sA
        cases g with
        | none=>simp [bj,Ext] at sA
        | some g=>rfl
      | _=>rfl
    obtain ⟨S',a1,a2,a3,a4⟩:=zZ (Hs:=[]) (H:=Hx) (t':=.v (f (h d)) u) hr hR rfl ho ha dP (by simp only [T.er]; rw [hfd]; exact iS) (wN cL) (.inr ⟨rfl,rfl,u,rfl,sA⟩)
    simp only [T.val,Nat.zero_add] at a1 a2
    simp only [Nat.zero_add] at eg
    obtain ⟨R',l',k1,k2,_⟩:=a3.path hR (q:=[]) rfl
    obtain ⟨w',yT,c1,c2,c3⟩:=ih (i:=i+1) (o:=o+1) (off:=off) (h:=fun x=>f (h x)) a1 ⟨R',k1,k2.trans hb⟩ (CK.mono (fun _ _ hh=>a2 _ _ hh)) (by omega) hs
    refine ⟨w',yT,?_,c2,c3.trans a4⟩
    rw [storeCells]
    simp only [Sem.run_bind,eT]
    rw [← z6,eg]
    exact c1
theorem MH:∀ {ts:List T} {w:World} {st st':St} {S:List (Nat × RT)} {r o:Nat} {b off i:Nat},Rel C (ts++Hx) w st aE S→(∃ R,lk S r=some R∧R.box=some b)→o=off+i→nr st r o (bh ts)=some st'→
    ∃ w' S',(storeCells ⟨b,off,none⟩ (aC ts) i).run P w=.ok () w'∧Rel C Hx w' st' aE S'∧st'.of=st.of:=by
  intro ts
  induction ts with
  | nil=>
    intro w st st' S r o b off i hr _ _ hs
    simp only [bh,nr,Option.some.injEq] at hs
    subst hs
    exact ⟨w,S,rfl,hr,rfl⟩
  | cons t ts ih=>
    intro w st st' S r o b off i hr uN z6 hs
    simp only [bh,nr] at hs
    split at hs
    · simp at hs
    rename_i cL
    simp only [Bool.not_eq_true',Bool.not_eq_false] at cL
    split at hs
    case h_2=>simp at hs
    rename_i aN f dP
    split at hs
    case h_2=>simp at hs
    rename_i ch iS
    obtain ⟨R,hR,hb⟩:=uN
    have dr:=hr.mem.hand
    simp only [List.cons_append,bF] at dr
    obtain ⟨h1,_⟩:=mj dr.1 cL
    have cM:∃ t0,R.cs[o]?=some t0:=by
      unfold St.so at dP
      cases hx:st.cell r [] o with
      | none=>simp [hx] at dP
      | some bN=>
        obtain ⟨R',l,t,g1,g2,g3,_⟩:=iI hr.rt hx
        rw [hR,Option.some.injEq] at g1
        subst g1
        simp only [aw,Option.some.injEq] at g2
        subst g2
        exact ⟨t,g3⟩
    obtain ⟨t0,ho⟩:=cM
    have ha:bV R.box R.cs []=some (b,0):=by simp [bV,hb]
    obtain ⟨b',Dn,fe,eF,eP,Vt,_⟩:=qc hr.mem hR (q:=[]) rfl (fun e=>by rw [e] at ho; simp at ho) (fun _=>by rw [hb]; rfl)
    rw [ha] at eF
    simp only [Option.some.injEq,Prod.mk.injEq] at eF
    obtain ⟨rfl,rfl⟩:=eF
    have Te:o < R.cs.length:=(List.getElem?_eq_some_iff.1 ho).1
    have eg:=od (P:=P) eP (o:=o) (by omega) h1
    obtain ⟨S',a1,a2,a3,a4⟩:=zZ (Hs:=[t]) (H:=ts++Hx) (t':=t) hr hR rfl ho ha dP iS cL (.inl ⟨rfl,rfl⟩)
    simp only [Nat.zero_add] at a1 a2
    simp only [Nat.zero_add] at eg
    obtain ⟨R',l',k1,k2,_⟩:=a3.path hR (q:=[]) rfl
    obtain ⟨w',yT,c1,c2,c3⟩:=ih (i:=i+1) (o:=o+1) (off:=off) a1 ⟨R',k1,k2.trans hb⟩ (by omega) hs
    refine ⟨w',yT,?_,c2,c3.trans a4⟩
    rw [aC,storeCells]
    simp only [Sem.run_bind,eT]
    rw [← z6,eg]
    exact c1
end
end Go.Proofs.YtockoilcnmljiaaGreat
namespace Go.Proofs.YtockoilcnmljiaaGreat
theorem z7 {r:Nat} {q:List Nat} {o:Nat} {x:D} {r':Nat} {q':List Nat} {o':Nat} {y:Option (Nat × Nat)} (h:ct r q o true x=.ref r' q' o' y):x=.ref r' q' o' y∧(r'≠r∨under (q++[o]) (q'++[o'])=none):=by
  cases x with
  | ref r2 q2 o2 x2=>
    simp only [ct] at h
    split at h
    · split at h
      · rename_i hu
        simp only [D.ref.injEq] at h
        obtain ⟨rfl,rfl,rfl,rfl⟩:=h
        exact ⟨rfl,.inr hu⟩
      · simp at h
      · simp at h
    · rename_i cZ
      simp only [D.ref.injEq] at h
      obtain ⟨rfl,rfl,rfl,rfl⟩:=h
      exact ⟨rfl,.inl cZ⟩
  | ptr r2 q2 o2=>
    simp only [ct] at h
    split at h
    · split at h<;>simp at h
    · simp at h
  | _=>simp [ct] at h
theorem MI {r:Nat} {q:List Nat} {o:Nat} {bN x:D} {r':Nat} {q':List Nat} {o':Nat} {y:Option (Nat × Nat)} (h:uz r q o bN x=.ref r' q' o' y):x=.ref r' q' o' y∧(r'≠r∨under (q++[o]) (q'++[o'])=none):=by
  cases x with
  | ref r2 q2 o2 x2=>
    simp only [uz] at h
    split at h
    · split at h
      · rename_i hu
        simp only [D.ref.injEq] at h
        obtain ⟨rfl,rfl,rfl,rfl⟩:=h
        exact ⟨rfl,.inr hu⟩
      · split at h
        · rename_i g s n cs _
          cases g<;>simp [iw] at h
        · simp at h
    · rename_i cZ
      simp only [D.ref.injEq] at h
      obtain ⟨rfl,rfl,rfl,rfl⟩:=h
      exact ⟨rfl,.inl cZ⟩
  | _=>exact z7 h
theorem Zo {st aN:St} {r:Nat} {q:List Nat} {o:Nat} {d:D} {f:D→D} (h:st.so r q o d=some (aN,f)) (hd:gA d=true) {x:D} {r':Nat} {q':List Nat} {o':Nat} {y:Option (Nat × Nat)} (hx:f x=.ref r' q' o' y):x=.ref r' q' o' y∧(r'≠r∨under (q++[o]) (q'++[o'])=none):=by
  unfold St.so at h
  split at h
  case h_2=>simp at h
  simp only [Option.some.injEq] at h
  split at h
  · simp only [Prod.mk.injEq] at h
    obtain ⟨_,rfl⟩:=h
    exact MI hx
  · try rw [if_pos hd] at h
    simp only [hd,if_true,Prod.mk.injEq] at h
    obtain ⟨_,rfl⟩:=h
    exact z7 hx
theorem Th {st st':St} {r:Nat} {q:List Nat} {o:Nat} {x:Option (Nat × Nat)} {d:D} (h:iU st (.ref r q o x)=some (d,st')):gA d=true:=by
  simp only [iU] at h
  split at h
  · split at h
    · simp only [Option.some.injEq,Prod.mk.injEq] at h
      rw [← h.1]; rfl
    · simp at h
  · simp only [Option.some.injEq,Prod.mk.injEq] at h
    rw [← h.1]; rfl
  · simp at h
section
variable {P:Program} {C:Ctx} {Hx:List T} {aE:List (Array Value)}
theorem O2:∀ {ds:List D} {us:List Value} {w:World} {st st':St} {S:List (Nat × RT)} {r:Nat} {q:List Nat} {o:Nat} {h:D→D} {b off0 off i:Nat},Rel C Hx w st aE S→bj w (af C w S Hx) S (.ptr r q 0) (.pointer (some ⟨b,off0,none⟩))→cb (fun d u=>bj w (af C w S Hx) S (h d) u) ds us→off+i=off0+o→iR st r q o h ds=some st'→
    ∃ w' S',(storeCells ⟨b,off,none⟩ us i).run P w=.ok () w'∧Rel C Hx w' st' aE S'∧st'.of=st.of:=by
  intro ds
  induction ds with
  | nil=>
    intro us w st st' S r q o h b off0 off i hr _ hu _ hs
    cases hu
    simp only [iR,Option.some.injEq] at hs
    subst hs
    exact ⟨w,S,rfl,hr,rfl⟩
  | cons d ds ih=>
    intro us w st st' S r q o h b off0 off i hr hp hu z6 hs
    cases hu with
    | cons sA CK=>
    rename_i u us
    have place:∀ {H:List T} {Yb:St} {S0:List (Nat × RT)},Rel C H w Yb aE S0→bj w (af C w S0 H) S0 (.ptr r q 0) (.pointer (some ⟨b,off0,none⟩))→∀ {bN:D},Yb.cell r q o=some bN→
        ∃ R l t0 fe,lk S0 r=some R∧aw R.cs q=some l∧l[o]?=some t0∧t0.er=bN∧bV R.box R.cs q=some (b,off0)∧lh w b off0 fe (aC l)∧o < fe:=by
      intro H Yb S0 Qf MJ bN hc
      obtain ⟨R,l,t0,g1,g2,g3,g4,g5⟩:=iI Qf.rt hc
      obtain ⟨CJ,zM⟩:=MJ R g1
      obtain ⟨b',Dn,fe,k1,k2,k3,_⟩:=qc Qf.mem g1 g2 (fun e=>by subst e; simp at g3) CJ
      have:=zM b' Dn k1
      simp only [Value.pointer.injEq,Option.some.injEq,Addr.mk.injEq,Nat.add_zero,and_true] at this
      obtain ⟨rfl,rfl⟩:=this
      exact ⟨R,l,t0,fe,g1,g2,g3,g5.symm,k1,k2,by have:=(List.getElem?_eq_some_iff.1 g3).1; omega⟩
    simp only [iR] at hs
    split at hs
    · rename_i wO
      simp only [Bool.and_eq_true] at wO
      obtain ⟨wO,cL⟩:=wO
      have hd:h d=.ref r q o none:=by
        cases hx:h d with
        | ref r2 q2 o2 x2=>
          rw [hx] at wO
          cases x2 with
          | none=>
            simp only [Di,Bool.and_eq_true,decide_eq_true_eq] at wO
            obtain ⟨⟨rfl,rfl⟩,rfl⟩:=wO
            rfl
          | some p=>simp [Di] at wO
        | _=>rw [hx] at wO; simp [Di] at wO
      rw [hd] at cL sA
      obtain ⟨h1,_⟩:=MB hr.rt hr.mem sA cL
      simp only [fD] at cL
      split at cL
      case h_2=>simp at cL
      rename_i g s n cs hc
      obtain ⟨R,l,t0,fe,g1,g2,g3,g4,g5,g6,g7⟩:=place hr hp hc
      have Hq:u=t0.val:=by
        have:=sA t0 (by rw [Dl g1 g2]; exact g3)
        unfold eK at this
        rw [g4] at this
        exact this
      have eg:=od (P:=P) g6 g7 h1
      rw [ME (by rw [Hq]; exact uI g6 (by rw [fc,g3]; rfl))] at eg
      obtain ⟨w',S',c1,c2,c3⟩:=ih (i:=i+1) (o:=o+1) (off:=off) hr hp CK (by omega) hs
      refine ⟨w',S',?_,c2,c3⟩
      rw [storeCells]
      simp only [Sem.run_bind,eT]
      rw [z6,eg]
      exact c1
    · split at hs
      case h_2=>simp at hs
      rename_i d' aN dz
      split at hs
      · simp at hs
      rename_i gy
      simp only [Bool.not_eq_true',Bool.not_eq_false] at gy
      split at hs
      case h_2=>simp at hs
      rename_i ch f dP
      split at hs
      case h_2=>simp at hs
      rename_i CF iS
      obtain ⟨t,S1,a1,rfl,a3,a4,a5,a6,a7⟩:=uc hr sA dz
      have hp1:=a4 _ _ hp
      have cM:∃ bN,aN.cell r q o=some bN:=by
        unfold St.so at dP
        cases hx:aN.cell r q o with
        | none=>simp [hx] at dP
        | some bN=>exact ⟨bN,rfl⟩
      obtain ⟨bN,cM⟩:=cM
      obtain ⟨R,l,t0,fe,g1,g2,g3,g4,g5,g6,g7⟩:=place a1 hp1 cM
      have dr:=a1.mem.hand
      simp only [bF] at dr
      obtain ⟨h1,_⟩:=mj dr.1 gy
      have eg:=od (P:=P) g6 g7 h1
      obtain ⟨S2,b1,b2,b3,b4⟩:=zZ (Hs:=[t]) (H:=Hx) (t':=t) a1 g1 g2 g3 g5 dP iS gy (.inl ⟨rfl,rfl⟩)
      rw [a3] at eg b1 b2
      generalize sC:w.setCell ⟨b,off0+o,none⟩ u=w1 at eg b1 b2
      have Qg:=b2 _ _ hp1
      rw [b3.ptr] at Qg
      have aa9:∃ S3,Rel C Hx w1 (CF.tP (f (h d)) r q o) aE S3∧gV C w1 w1 S2 S3 Hx Hx (wJ (f (h d)) r q o)∧wJ (f (h d)) r q o (.ptr r q 0)=.ptr r q 0∧(CF.tP (f (h d)) r q o).of=CF.of:=by
        cases hx:f (h d) with
        | ref r' q' o' y=>
          have hh:gA t.er=true:=by
            cases hd:h d with
            | ref r2 q2 o2 x2=>rw [hd] at dz; exact Th dz
            | _=>
              exfalso
              rw [hd] at hx
              unfold St.so at dP
              rw [cM] at dP
              simp only [Option.some.injEq] at dP
              split at dP
              · simp only [Prod.mk.injEq] at dP
                obtain ⟨_,rfl⟩:=dP
                have:=(MI hx).1
                simp at this
              · split at dP
                · simp only [Prod.mk.injEq] at dP
                  obtain ⟨_,rfl⟩:=dP
                  have:=(z7 hx).1
                  simp at this
                · simp only [Prod.mk.injEq] at dP
                  obtain ⟨_,rfl⟩:=dP
                  simp at hx
          obtain ⟨hd,Dj⟩:=Zo dP hh hx
          obtain ⟨d0,u0,k1,k2,k3,k4⟩:=a7 r' q' o' y hd
          have yg:=b3.hole r' q' o' d0 u0 k1 k2 k3 Dj
          cases y with
          | none=>
            obtain ⟨m1,m2⟩:=MG b1 yg b3.new (k4 rfl)
            exact ⟨_,m1,m2,(MF yg b3.new r q o 0).1,rfl⟩
          | some y=>
            obtain ⟨m1,m2⟩:=Hp b1 r' q' o' true
            exact ⟨_,m1,m2,(MF yg b3.new r q o 0).2,rfl⟩
        | _=>exact ⟨S2,b1,fun _ _ hh=>hh,rfl,rfl⟩
      obtain ⟨S3,c1,c2,c3,c4⟩:=aa9
      have hp3:=c2 _ _ Qg
      rw [c3] at hp3
      obtain ⟨w',S',e1,e2,e3⟩:=ih (i:=i+1) (o:=o+1) (off:=off) (h:=fun x=>wJ (f (h d)) r q o (f (h x))) c1 hp3 (CK.mono (fun _ _ hh=>c2 _ _ (b2 _ _ (a4 _ _ hh)))) (by omega) hs
      refine ⟨w',S',?_,e2,e3.trans (c4.trans (b4.trans a6.2.2))⟩
      rw [storeCells]
      simp only [Sem.run_bind,eT]
      rw [z6,eg]
      exact e1
theorem Kj {st st':St} {r:Nat}:∀ {ds:List D} {st st':St} {o:Nat},nr st r o ds=some st'→∀ d∈ds,cW d=true:=by
  intro ds
  induction ds with
  | nil=>intro st st' o _ d hd; simp at hd
  | cons d ds ih=>
    intro st st' o hs x hx
    simp only [nr] at hs
    split at hs
    · simp at hs
    rename_i cL
    simp only [Bool.not_eq_true',Bool.not_eq_false] at cL
    split at hs
    case h_2=>simp at hs
    split at hs
    case h_2=>simp at hs
    rcases List.mem_cons.1 hx with rfl | hx
    · exact cL
    · exact ih hs x hx
theorem Ti {c:cx} (aq:ek c P) {w:World} {st st':St} {S:List (Nat × RT)} (h:Rel C Hx w st aE S) {t:TypeId} {i:TI} (ht:c.ty t=some i) {a v:D} {ua uv:Value} (ha:cr w (af C w S Hx) S a ua) (hv:cr w (af C w S Hx) S v uv) {pZ:Nat→Bool} (hs:uA st pZ i.size a v=some st'):
    ∃ w' S',(Instr.storeAt t ua uv).run P w=.ok () w'∧Rel C Hx w' st' aE S'∧st'.of=st.of:=by
  cases a with
  | ptr r q o=>
    simp only [uA] at hs
    split at hs
    case isFalse=>simp at hs
    rename_i hc
    obtain ⟨hlen,vR⟩:=hc
    obtain ⟨R,b,off,hR,BU,rfl⟩:=ub h.rt h.mem vR ha
    have cX:=(aq.ty _ _ ht).sz w
    have hp:bj w (af C w S Hx) S (.ptr r q 0) (.pointer (some ⟨b,off,none⟩)):=by
      intro R' eh
      rw [hR,Option.some.injEq] at eh
      subst eh
      refine ⟨(ha R hR).1,fun b' Dn e=>?_⟩
      rw [BU,Option.some.injEq,Prod.mk.injEq] at e
      obtain ⟨rfl,rfl⟩:=e
      rfl
    have hsa:∀ A:Addr,(Instr.sureAddr (.pointer (some A))).run P w=.ok A w:=fun A=>rfl
    have run:∀ {us:List Value} {w':World},uv.cells.toList=us→us.length=i.size→(storeCells ⟨b,off+o,none⟩ us 0).run P w=.ok () w'→(Instr.storeAt t (.pointer (some ⟨b,off+o,none⟩)) uv).run P w=.ok () w':=by
      intro us w' e1 e2 e3
      have e4:uv.cells.size=i.size:=by rw [← e2,← e1]; simp
      simp only [Instr.storeAt,Sem.run_bind,hsa,Result.andThen_ok,storeVar,cX]
      simp only [e4,ne_eq,not_true_eq_false,if_false,Sem.run_bind,Sem.run_pure,Result.andThen_ok,e1]
      exact e3
    have j6:∀ {ds:List D},nq st r o id ds=some st'∨iR st r q o id ds=some st'→ds=cellsOf v→(∀ cs,v≠.agg cs)→fD st v=true∨∃ d' aN,iU st v=some (d',aN)∧cW d'=true:=by
      intro ds h1 h2 h3
      have hc:cellsOf v=[v]:=by cases v<;>first | rfl | exact absurd rfl (h3 _)
      rw [hc] at h2
      subst h2
      rcases h1 with h1 | h1
      · simp only [nq,id] at h1
        split at h1
        · simp at h1
        rename_i cL
        simp only [Bool.not_eq_true',Bool.not_eq_false] at cL
        exact .inl cL
      · simp only [iR,id] at h1
        split at h1
        · rename_i hh
          simp only [Bool.and_eq_true] at hh
          exact .inl hh.2
        split at h1
        case h_2=>simp at h1
        rename_i d' aN dz
        split at h1
        · simp at h1
        rename_i gy
        simp only [Bool.not_eq_true',Bool.not_eq_false] at gy
        exact .inr ⟨d',aN,dz,gy⟩
    have oR:∀ {ds:List D},nq st r o id ds=some st'∨iR st r q o id ds=some st'→ds=cellsOf v→cb (bj w (af C w S Hx) S) (cellsOf v) uv.cells.toList:=by
      intro ds h1 h2
      by_cases eo:∃ cs,v=.agg cs
      · obtain ⟨cs,rfl⟩:=eo
        obtain ⟨us,rfl,hh⟩:=hv
        exact hh
      · have h3:∀ cs,v≠.agg cs:=fun cs e=>eo ⟨cs,e⟩
        rcases j6 h1 h2 h3 with h4 | ⟨d',aN,h4,h5⟩
        · exact Tg h.rt h.mem hv (fun _=>h4)
        · have hc:cellsOf v=[v]:=by cases v<;>first | rfl | exact absurd rfl (h3 _)
          have ll:bj w (af C w S Hx) S v uv:=by
            cases v<;>first | exact hv | (simp [iU] at h4; done) | exact absurd rfl (h3 _)
          obtain ⟨t',S1,a1,rfl,a3,_⟩:=uc h ll h4
          have dr:=a1.mem.hand
          simp only [bF] at dr
          have:=(mj dr.1 h5).2
          rw [a3] at this
          rw [hc,this]
          exact .cons ll .nil
    cases q with
    | nil=>
      have hb:∃ b',R.box=some b'∧b'=b∧off=0:=by
        simp only [bV] at BU
        cases hx:R.box with
        | none=>simp [hx] at BU
        | some b'=>simp only [hx,Option.map_some,Option.some.injEq,Prod.mk.injEq] at BU; exact ⟨b',rfl,BU.1,BU.2.symm⟩
      obtain ⟨b',hb,rfl,rfl⟩:=hb
      simp only at hs
      split at hs
      · split at hs
        case h_2=>simp at hs
        rename_i cs aN dz
        obtain ⟨ts,S1,b1,rfl,b3,b4,b5,b6⟩:=qk h hv dz
        have VK:=Kj (st:=aN) (st':=st') hs
        obtain ⟨R1,k1,k2,_⟩:=b5.fwd r R hR
        have dW:=((dL _ _).1 b1.mem.hand).1
        rw [cj] at dW
        have gE:aC ts=uv.cells.toList:=by
          by_cases eo:∃ cs,v=.agg cs
          · obtain ⟨cs,rfl⟩:=eo
            exact b3
          · have z8:gF v uv=[uv]:=by cases v<;>first | rfl | exact absurd ⟨_,rfl⟩ eo
            rw [z8] at b3
            rw [b3]
            cases ts with
            | nil=>simp [aC] at b3
            | cons y ys=>
              simp only [aC,List.cons.injEq] at b3
              have:=mj (dW y (by simp)) (VK y.er (by simp [bh]))
              rw [b3.1] at this
              rw [this.2]
        have Yc:(bh ts).length=i.size:=by
          rw [← hlen]
          have h1:=congrArg List.length gE
          rw [bP] at h1
          rw [fg,h1]
          by_cases eo:∃ cs,v=.agg cs
          · obtain ⟨cs,rfl⟩:=eo
            obtain ⟨us,rfl,hh⟩:=hv
            have:=hh.len
            simp only [cellsOf,Value.cells]
            exact this.symm
          · have z8:gF v uv=[uv]:=by cases v<;>first | rfl | exact absurd ⟨_,rfl⟩ eo
            have mH:cellsOf v=[v]:=by cases v<;>first | rfl | exact absurd ⟨_,rfl⟩ eo
            rw [z8] at b3
            rw [← gE,b3,mH]; rfl
        obtain ⟨w',S',c1,c2,c3⟩:=MH (P:=P) (b:=b') (off:=0+o) (i:=0) b1 ⟨R1,k1,k2.trans hb⟩ (by omega) hs
        refine ⟨w',S',?_,c2,c3.trans b6.2.2⟩
        exact run gE.symm (by rw [bP]; rw [fg] at Yc; exact Yc) c1
      · have dV:=oR (.inl hs) rfl
        obtain ⟨w',S',c1,c2,c3⟩:=O1 (P:=P) (b:=b') (off:=0+o) (i:=0) h ⟨R,hR,hb⟩ dV (by omega) hs
        exact ⟨w',S',run rfl (by rw [← dV.len]; exact hlen) c1,c2,c3⟩
    | cons p q=>
      simp only at hs
      have dV:=oR (.inr hs) rfl
      obtain ⟨w',S',c1,c2,c3⟩:=O2 (P:=P) (b:=b) (off0:=off) (off:=off+o) (i:=0) h hp dV (by omega) hs
      exact ⟨w',S',run rfl (by rw [← dV.len]; exact hlen) c1,c2,c3⟩
  | _=>simp [uA] at hs
end
end Go.Proofs.YtockoilcnmljiaaGreat
namespace Go.Proofs.YtockoilcnmljiaaGreat
theorem uP {b:Nat}:∀ (vs:List Value) (o:Nat) (w:World) {c:Array Value} {e:TypeId} {fz:Nat × Nat},w.heap[b]?=some (.cells c e fz)→o+vs.length≤c.size→
    ∃ c':Array Value,(w.setCells b o vs).heap[b]?=some (.cells c' e fz)∧c'.size=c.size∧(∀ (j:Nat) (u:Value),vs[j]?=some u→c'[o+j]?=some u)∧(∀ i,i < o∨o+vs.length≤i→c'[i]?=c[i]?)∧(∀ k,k≠b→(w.setCells b o vs).heap[k]?=w.heap[k]?)∧
      (w.setCells b o vs).heap.size=w.heap.size∧(w.setCells b o vs).os=w.os∧(w.setCells b o vs).tape=w.tape∧(w.setCells b o vs).output=w.output
  | [],o,w,c,e,fz,h,_=>⟨c,h,rfl,by simp,fun _ _=>rfl,fun _ _=>rfl,rfl,rfl,rfl,rfl⟩
  | v::vs,o,w,c,e,fz,h,hl=>by
    have h1:(w.setCell ⟨b,o,none⟩ v).heap[b]?=some (.cells (c.setIfInBounds o v) e fz):=by
      simp [World.setCell,Array.getElem?_modify,h]
    simp only [List.length_cons] at hl
    obtain ⟨c',g1,g2,g3,g4,g5,g6,g7,g8,g9⟩:=uP vs (o+1) (w.setCell ⟨b,o,none⟩ v) h1 (by simp; omega)
    refine ⟨c',g1,by rw [g2]; simp,?_,?_,?_,?_,g7,g8,g9⟩
    · intro j u hj
      cases j with
      | zero=>
        simp only [List.getElem?_cons_zero,Option.some.injEq] at hj
        subst hj
        rw [Nat.add_zero,g4 o (.inl (by omega)),Array.getElem?_setIfInBounds_self_of_lt (by omega)]
      | succ j=>
        simp only [List.getElem?_cons_succ] at hj
        have:=g3 j u hj
        rw [show o+(j+1)=o+1+j by omega]; exact this
    · intro i hi
      rw [g4 i (by simp only [List.length_cons] at hi; omega),Array.getElem?_setIfInBounds_ne (by simp only [List.length_cons] at hi; omega)]
    · intro k hk
      rw [World.setCells,g5 k hk]
      simp only [World.setCell,Array.getElem?_modify]
      rw [if_neg (by simpa using Ne.symm hk)]
    · rw [World.setCells,g6]; simp [World.setCell]
section
variable {C:Ctx} {H:List T} {w:World} {st st':St} {aE:List (Array Value)} {S:List (Nat × RT)}
theorem Tj {Ys:List T} {s n cap m b off:Nat} {ts:List T} (h:Rel C (Ys++.own s n cap (some (b,off)) ts::H) w st aE S) (hm:Ys.length=m*s) (hc:n+m≤cap):
    Rel C (.own s (n+m) cap (some (b,off)) (ts++Ys)::H) (w.setCells b (off+n*s) (aC Ys)) st aE S∧
    gV C w (w.setCells b (off+n*s) (aC Ys)) S S (Ys++.own s n cap (some (b,off)) ts::H) (.own s (n+m) cap (some (b,off)) (ts++Ys)::H) id:=by
  have dr:=h.mem.hand
  rw [dL] at dr
  obtain ⟨hY,hT⟩:=dr
  simp only [bF,bE] at hT
  obtain ⟨⟨h1,h2,eP,h4⟩,hH⟩:=hT
  obtain ⟨c,e,fz,g1,g2,g3,g4⟩:=eP
  have hmul:n*s+m*s≤cap*s:=by rw [← Nat.add_mul]; exact Nat.mul_le_mul_right _ hc
  obtain ⟨c',k1,k2,k3,k4,k5,k6,k7,k8,k9⟩:=uP (aC Ys) (off+n*s) w g1 (by rw [bP,hm]; omega)
  generalize w.setCells b (off+n*s) (aC Ys)=w' at k1 k5 k6 k7 k8 k9 ⊢
  have Yd:(ah (.own s (n+m) cap (some (b,off)) (ts++Ys)::H)).Perm (ah (Ys++.own s n cap (some (b,off)) ts::H)):=by
    refine List.perm_iff_count.2 fun a=>?_
    simp only [ah,bg,T.ft,iV,List.count_append]
    omega
  have dg:∀ k,k∈ah (.own s (n+m) cap (some (b,off)) (ts++Ys)::H)↔k∈ah (Ys++.own s n cap (some (b,off)) ts::H):=fun k=>Yd.mem_iff
  have hb:b∈ah (Ys++.own s n cap (some (b,off)) ts::H):=by simp [bg,ah,T.ft,iV]
  have fh:=h.mem.nd
  have cy:jh w w' (af C w S (Ys++.own s n cap (some (b,off)) ts::H)) (af C w' S (.own s (n+m) cap (some (b,off)) (ts++Ys)::H)):=by
    intro bb k hk
    exact ⟨⟨by rw [k6]; exact hk.1,hk.2.1,fun hx=>hk.2.2.1 ((dg k).1 hx),hk.2.2.2⟩,k5 k (fun e=>hk.2.2.1 (e▸hb))⟩
  have dR:∀ d u,bj w (af C w S (Ys++.own s n cap (some (b,off)) ts::H)) S d u→bj w' (af C w' S (.own s (n+m) cap (some (b,off)) (ts++Ys)::H)) S d u:=fun d u hd=>sx cy (fun _ _ h=>h) hd
  have Tk:∀ k,k∈cF S∨k∈ah ts∨k∈ah Ys∨k∈ah H→k≠b:=by
    intro k hk e
    subst e
    have hn2:(cF S++(ah Ys++(k::ah ts++ah H))).Nodup:=by
      have:=fh
      rw [bg,ah,T.ft,iV] at this
      simpa using this
    have p1:(cF S++(ah Ys++(k::ah ts++ah H))).Perm (k::(cF S++(ah Ys++(ah ts++ah H)))):=by
      refine List.perm_iff_count.2 fun a=>?_
      simp only [List.count_append,List.count_cons]
      omega
    have Tl:=p1.nodup_iff.1 hn2
    simp only [List.nodup_cons,List.mem_append] at Tl
    rcases hk with hk | hk | hk | hk
    · exact Tl.1 (.inl hk)
    · exact Tl.1 (.inr (.inr (.inl hk)))
    · exact Tl.1 (.inr (.inl hk))
    · exact Tl.1 (.inr (.inr (.inr hk)))
  refine ⟨h.rv h.rt rfl rfl dR ⟨(List.Perm.append_left _ Yd).nodup_iff.2 fh,?_,?_,fun k hk=>?_⟩ ?_,dR⟩
  · intro r R hR
    obtain ⟨q1,q2⟩:=h.mem.root r R hR
    have hRS:∀ k∈R.ft,k∈cF S:=fun k hk=>CQ hR hk
    refine ⟨?_,fun t ht=>?_⟩
    · cases hx:R.box with
      | none=>trivial
      | some b0=>
        simp only [hx] at q1 ⊢
        obtain ⟨c0,e0,fz0,r1,r2⟩:=q1
        exact ⟨c0,e0,fz0,by rw [k5 b0 (Tk b0 (.inl (hRS b0 (by simp [RT.ft,hx]))))]; exact r1,r2⟩
    · have:=q2 t ht
      cases t with
      | v d u=>
        rcases this with this | ⟨hb,this⟩
        · exact .inl (gi cy _ _ this)
        · exact .inr ⟨hb,dR _ _ this⟩
      | own s' n' tq a' xs=>exact dK cy _ this (fun k hk=>k5 k (Tk k (.inl (hRS k (by simp [RT.ft,BT ht hk])))))
  · simp only [bF,bE]
    refine ⟨⟨hc,by rw [List.length_append,h2,hm,Nat.add_mul],⟨c',e,fz,k1,by rw [k2]; exact g2,by rw [k2]; exact g3,fun j u hj=>?_⟩,?_⟩,gn cy _ hH (fun k hk=>k5 k (Tk k (.inr (.inr (.inr hk)))))⟩
    · rw [zJ] at hj
      by_cases hjl:j < (aC ts).length
      · rw [List.getElem?_append_left hjl] at hj
        rw [k4 _ (.inl (by rw [bP,h2] at hjl; omega))]
        exact g4 j u hj
      · rw [List.getElem?_append_right (by omega)] at hj
        have:=k3 _ u hj
        rw [bP,h2] at this hjl
        rw [show off+j=off+n*s+(j - n*s) by omega]
        exact this
    · rw [dL]
      exact ⟨gn cy _ h4 (fun k hk=>k5 k (Tk k (.inr (.inl hk)))),gn cy _ hY (fun k hk=>k5 k (Tk k (.inr (.inr (.inl hk)))))⟩
  · rw [k6]
    refine h.mem.lt k ?_
    rcases List.mem_append.1 hk with hk | hk
    · exact List.mem_append.2 (.inl hk)
    · exact List.mem_append.2 (.inr ((dg k).1 hk))
  · refine ⟨by rw [k7]; exact h.kept.os,by rw [k8]; exact h.kept.tape,by rw [k9]; exact h.kept.output,by rw [k6]; exact h.kept.size,fun k q1 q2=>?_,fun k hk=>?_,h.kept.par⟩
    · rw [k5 k (fun e=>?_)]
      · exact h.kept.block k q1 q2
      · subst e
        rcases h.kept.ix k (List.mem_append.2 (.inr hb)) with h3 | h3
        · exact q2 h3
        · omega
    · refine h.kept.ix k ?_
      rcases List.mem_append.1 hk with hk | hk
      · exact List.mem_append.2 (.inl hk)
      · exact List.mem_append.2 (.inr ((dg k).1 hk))
theorem rV (h:Rel C H w st aE S):∀ {ds:List D} {us:List Value},cb (Ext w (af C w S H)) ds us→∃ Ys,Rel C (Ys++H) w st aE S∧bh Ys=ds∧aC Ys=us∧ah Ys=[]:=by
  intro ds
  induction ds with
  | nil=>intro us hu; cases hu; exact ⟨[],h,rfl,rfl,rfl⟩
  | cons d ds ih=>
    intro us hu
    cases hu with
    | cons h1 h2=>
    obtain ⟨Ys,a1,a2,a3,a4⟩:=ih h2
    rename_i u us
    have j6:bL d=d:=by
      cases d with
      | sl g s n cs=>cases g with
        | none=>simp [Ext] at h1
        | some g=>rfl
      | _=>rfl
    have CP:af C w S (Ys++H)=af C w S H:=by
      funext b k
      simp only [af,bg,a4,List.nil_append]
    exact ⟨.v d u::Ys,E6 a1 (by rw [CP]; exact h1) j6,by simp [bh,T.er,j6,a2],by simp [aC,T.val,a3],by simp [ah,T.ft,a4]⟩
end
end Go.Proofs.YtockoilcnmljiaaGreat
namespace Go.Proofs.YtockoilcnmljiaaGreat
structure VN (P:Program) (t tx ty e:TypeId) (inf:TypeInfo) (z:Value) (w:World) (ux:Value) (m:Nat) (news:List Value):Prop where
  nil:m=0→news=[]→(Builtin.append_ #[t,tx] ty #[.slice none 0 0,ux]).run P w=.ok (.slice none 0 0) w
  room:∀ b off n cap,n+m≤cap→(n+m)*inf.bytes≤140737488355328→0 < inf.bytes→(∀ j,j < news.length→(w.cell? ⟨b,off+n*inf.size+j,none⟩).isSome=true)→(∀ j,j < news.length→w.frozen? ⟨b,off+n*inf.size+j,none⟩=false)→
    (Builtin.append_ #[t,tx] ty #[.slice (some ⟨b,off,none⟩) n cap,ux]).run P w=.ok (.slice (some ⟨b,off,none⟩) (n+m) cap) (w.setCells b (off+n*inf.size) news)
  grow:∀ base n cap Hr,(Builtin.firstCells inf.size n (.slice base n cap)).run P w.drew=.ok (List.toArray Hr) w.drew→cap < n+m→(n+m)*inf.bytes≤140737488355328→0 < inf.bytes→
    (Builtin.append_ #[t,tx] ty #[.slice base n cap,ux]).run P w=.ok (.slice (some ⟨w.heap.size,0,none⟩) (n+m) (grownCap w (n+m) cap e)) (w.drew.alloc (.cells ((Hr++news).toArray++Builtin.zeroCells z.cells (grownCap w (n+m) cap e - (n+m))) e))
section
variable {P:Program} {w:World} {t tx ty e:TypeId} {inf:TypeInfo} {z:Value} (ht:P.underlying t=some (.slice e)) (hi:P.info? e=some inf) (hz:inf.zero=some z)
include ht hi hz
theorem VO {ux:Value} {m:Nat} {news:List Value} (hs:Src P inf.size tx ux m news w):VN P t tx ty e inf z w ux m news:=by
  refine ⟨fun hm hn=>?_,fun b off n cap h1 _ _ h2 h3=>run_append_room_src w t tx ty e inf ht hi b off n cap ux m news hs h1 h2 h3,fun base n cap Hr h1 h2 h3 h4=>?_⟩
  · subst hm; subst hn
    have hc:=hs.cells
    rcases hs.kind with ⟨e',hk⟩ | hk<;>simp [Builtin.append_,run_underlying ht,run_underlying hk,sizeOf,typeInfo,hi,hs.len,hc]
  · have hsm:(n+m)*1≤(n+m)*inf.bytes:=Nat.mul_le_mul_left _ h4
    exact run_append_grow_src w t tx ty e inf z ht hi hz base n cap Hr h1 ux m news hs h2 (by omega) (growslice_fits h2 h3)
theorem Rn {k kx:IntKind} (nz:P.underlying tx=some (.int k)) (lj:z.cells.size=inf.size) (cX:0 < inf.size) (m:Nat) (h1:∀ u∈z.cells.toList,u.oneCell'=true):VN P t tx ty e inf z w (.int kx m) m (List.replicate m z.cells.toList).flatten:=by
  have hzc:Builtin.zeroCells z.cells m=(List.replicate m z.cells.toList).flatten.toArray:=by
    apply Array.ext'
    simp only [Builtin.zeroCells,Array.toList_map,Array.toList_range]
    exact zW z.cells m
  have wq:∀ u∈(List.replicate m z.cells.toList).flatten,u.oneCell'=true:=by
    intro u hu
    simp only [List.mem_flatten,List.mem_replicate] at hu
    obtain ⟨l,⟨_,rfl⟩,hu⟩:=hu
    exact h1 u hu
  refine ⟨fun hm _=>?_,fun b off n cap h2 h3 Fg h4 h5=>?_,fun base n cap Hr h2 h3 h4 h5=>?_⟩
  · subst hm
    have JB:IntKind.i64.wrap 0=0:=by rw [IntKind.wrap_i64]; rfl
    simp [Builtin.append_,run_underlying ht,run_underlying nz,sizeOf,typeInfo,hi,asInt,asIntOf,JB]
  · have hsm:(n+m)*1≤(n+m)*inf.bytes:=Nat.mul_le_mul_left _ Fg
    have hw:IntKind.i64.wrap (m:Int)=m:=by rw [IntKind.wrap_i64]; omega
    have age:¬ ((m:Int) < 0):=by omega
    have hmb:m*inf.bytes≤140737488355328:=Nat.le_trans (Nat.mul_le_mul_right _ (Nat.le_add_left m n)) h3
    have agf:¬ (281474976710656 < (m:Int)*(inf.bytes:Int)):=by
      rw [← Int.natCast_mul]
      omega
    have cy:=run_storeCells_cells (P:=P) b (off+n*inf.size) (List.replicate m z.cells.toList).flatten 0 w (by simpa using h4) (by simpa using h5) wq
    simp only [Nat.add_zero] at cy
    by_cases hm:m=0
    · subst hm
      simp only [List.replicate_zero,List.flatten_nil] at cy ⊢
      have JB:IntKind.i64.wrap 0=0:=by rw [IntKind.wrap_i64]; rfl
      simp at h2
      simp [Builtin.append_,run_underlying ht,run_underlying nz,sizeOf,typeInfo,hi,asInt,asIntOf,JB,h2,storeCells]
      rfl
    · have hns:¬ (m*inf.size=0):=Nat.mul_ne_zero hm (by omega)
      simp [Builtin.append_,run_underlying ht,run_underlying nz,sizeOf,typeInfo,zeroValue,hi,hz,asInt,asIntOf,hw,age,agf,h2,hns,hzc,Addr.add_lit,cy]
  · have hsm:(n+m)*1≤(n+m)*inf.bytes:=Nat.mul_le_mul_left _ h5
    have lM:=growslice_fits h3 h4
    have hmb:m*inf.bytes≤140737488355328:=Nat.le_trans (Nat.mul_le_mul_right _ (Nat.le_add_left m n)) h4
    by_cases hm:m=0
    · subst hm
      have JB:IntKind.i64.wrap 0=0:=by rw [IntKind.wrap_i64]; rfl
      simp only [Nat.add_zero] at lM h3 hsm h4
      have agh:¬ (281474976710656 < Builtin.nextslicecap n cap*inf.bytes):=by omega
      have h63:¬ (9223372036854775807 < (n:Int)):=by omega
      have hn:¬ (n≤cap):=by omega
      simp [Builtin.append_,run_underlying ht,run_underlying nz,sizeOf,typeInfo,zeroValue,hi,hz,asInt,asIntOf,JB,hn,h63,agh,Question.forced,h2,newRow,grownCap]
    · have:=Lib.run_append_grow_zeros w t tx ty e inf z kx k ht nz hi hz base n cap Hr h2 m (by omega) cX h3 (by omega) (by omega) lM
      rw [this,hzc]
      congr 3
      apply Array.ext'
      simp
end
end Go.Proofs.YtockoilcnmljiaaGreat
namespace Go.Proofs.YtockoilcnmljiaaGreat
def pd (x:Option (Nat × Nat)) (s:Nat) (ts:List T):List T:=
  match x with
  | none=>ts
  | some (l,m)=>(ts.drop (l*s)).take (m*s)
theorem Tm (x:Option (Nat × Nat)) (s n:Nat) (ts:List T):bh (pd x s ts)=(trim x s n (bh ts)).2:=by
  cases x with
  | none=>rfl
  | some p=>simp only [pd,trim,zK,zL]
theorem VP {w:World} {X:Bool→Nat→Prop} {s n cap:Nat} {a:Option (Nat × Nat)} {ts:List T} (hs:bE w X (.own s n cap a ts)) {x:Option (Nat × Nat)} {u:Value} (hr:eK x (.own s n cap a ts) u):
    ∃ tq a',u=vK a' (trim x s n (bh ts)).1 tq∧bE w X (.own s (trim x s n (bh ts)).1 tq a' (pd x s ts)):=by
  cases x with
  | none=>
    simp only [eK,sn,T.er] at hr
    exact ⟨cap,a,hr,hs⟩
  | some p=>
    obtain ⟨l,m⟩:=p
    simp only [eK,sn,T.er,T.val,vK,Value.slice.injEq] at hr
    obtain ⟨h1,base,C,k,⟨h2,_,h3⟩,h4,rfl,h5⟩:=hr
    subst h2; subst h3
    simp only [bE] at hs
    obtain ⟨g1,g2,g3,g4⟩:=hs
    refine ⟨cap - l,a.map fun p=>(p.1,p.2+k*s),?_,?_⟩
    · simp only [vK,Option.map_map,trim]
      congr 1
      cases a<;>simp [eT]
    · simp only [bE,trim,pd]
      refine ⟨by omega,?_,?_,?_⟩
      · rw [List.length_take,List.length_drop,g2]
        have:l*s+m*s≤n*s:=by rw [← Nat.add_mul]; exact Nat.mul_le_mul_right _ h1
        omega
      · cases a with
        | none=>simp only at g3; simp only [Option.map_none]; omega
        | some p=>
          obtain ⟨b,off⟩:=p
          simp only [Option.map_some]
          obtain ⟨c,e,fz,k1,k2,k3,k4⟩:=g3
          refine ⟨c,e,fz,k1,k2,?_,?_⟩
          · rcases h5 with h5 | h5
            · rw [h5]
              have:k*s≤cap*s:=Nat.mul_le_mul_right _ h4
              omega
            · subst h5
              have:k*s+(cap - k)*s=cap*s:=by rw [← Nat.add_mul]; congr 1; omega
              omega
          · intro j u hj
            rw [cS,List.map_take,List.map_drop,← cS,List.getElem?_take] at hj
            split at hj
            · rename_i cT
              rw [List.getElem?_drop] at hj
              have hm:m≠0:=fun e=>by simp [e] at cT
              have:k=l:=by omega
              subst this
              rw [Nat.add_assoc]
              exact k4 _ _ hj
            · simp at hj
      · rw [cj] at g4 ⊢
        exact fun t ht=>g4 t (List.mem_of_mem_drop (List.mem_of_mem_take ht))
theorem O3 {w:World} {X:Bool→Nat→Prop}:∀ {ts:List T},bF w X ts→(bh ts).all gC=true→cb (Ext w X) (bh ts) (aC ts):=by
  intro ts
  induction ts with
  | nil=>intro _ _; exact .nil
  | cons t ts ih=>
    intro hs hf
    simp only [bF] at hs
    simp only [bh,List.all_cons,Bool.and_eq_true] at hf
    refine .cons ?_ (ih hs.2 hf.2)
    cases t with
    | v d u=>exact hs.1
    | own s n cap a cs=>simp [T.er,gC] at hf
theorem MK {d:D} (h:gC d=true):cW d=true:=by
  cases d<;>first | rfl | simp [gC] at h
section
variable {P:Program} {w:World}
theorem Aa {sz:Nat} {tx e':TypeId} (hk:P.underlying tx=some (.slice e')) {base:Option Addr} {n cap:Nat} {news:List Value} (hl:news.length=n*sz) (cX:0 < sz)
    (hm:news=[]∨∃ b off,base=some ⟨b,off,none⟩∧∀ (j:Nat) (v:Value),news[j]?=some v→w.cell? ⟨b,off+j,none⟩=some v) (h1:∀ v∈news,v.oneCell'=true):Src P sz tx (.slice base n cap) n news w:=by
  by_cases hn:n=0
  · subst hn
    have:news=[]:=List.length_eq_zero_iff.1 (by rw [hl]; simp)
    subst this
    cases base with
    | none=>exact Src.ofNil w hk cap
    | some a=>exact Src.ofSlice w hk a 0 cap [] (by simp) (by simp) (by simp)
  · rcases hm with rfl | ⟨b,off,rfl,hm⟩
    · have:n*sz=0:=by rw [← hl]; rfl
      rcases Nat.mul_eq_zero.1 this with h | h<;>omega
    · exact Src.ofSlice w hk _ n cap news hl (fun j u hj=>by rw [eT]; exact hm j u hj) h1
theorem uQ {c:cx} (aq:ek c P) {tx:TypeId} (h:(match c.ty tx with | some ⟨.slice _,_,_,_⟩=>true | _=>false)=true):∃ e',P.underlying tx=some (.slice e'):=by
  split at h
  · rename_i e _ _ _ heq
    obtain ⟨d,h1,h2⟩:=(aq.ty _ _ heq).desc
    simp only [kp] at h2
    subst h2
    exact ⟨e,h1⟩
  · simp at h
end
section
variable {P:Program} {c:cx} (aq:ek c P) {C:Ctx} {H:List T} {w:World} {st st':St} {aE:List (Array Value)} {S:List (Nat × RT)}
include aq
theorem Tn (h:Rel C H w st aE S) {d:D} {u:Value} (hd:cr w (af C w S H) S d u) {flat:Bool} {sz:Nat} (cX:0 < sz) {zs:List D} (hint:∀ k n,d≠.int k n) {ys:List D} {m:Nat} (he:elems st flat zs sz d=some (ys,m,st')) {tx:TypeId} (nz:Hi c tx d=true):
    ∃ Ys S',Rel C (Ys++H) w st' aE S'∧bh Ys=ys∧Ys.length=m*sz∧Src P sz tx u m (aC Ys) w∧st'.of=st.of∧st'.tm=st.tm∧st'.up=st.up:=by
  have ext:∀ {g:Bool} {s n:Nat} {cs:List D},Ext w (af C w S H) (.sl (some g) s n cs) u→s=sz→cs.all cW=true→(∃ e',P.underlying tx=some (.slice e'))→
      ∃ Ys S',Rel C (Ys++H) w st aE S'∧bh Ys=cs∧Ys.length=n*sz∧Src P sz tx u n (aC Ys) w:=by
    intro g s n cs hx hs hc ⟨e',hk⟩
    subst hs
    simp only [Ext] at hx
    obtain ⟨base,cap,us,rfl,h1,h2,h3,h4⟩:=hx
    have dV:=(gO _ _).1 h3
    obtain ⟨Ys,a1,a2,a3,a4⟩:=rV h dV
    have wq:∀ v∈us,v.oneCell'=true:=by
      intro v hv
      obtain ⟨i,hi⟩:=List.mem_iff_getElem?.1 hv
      have cT:i < cs.length:=by rw [dV.len]; exact (List.getElem?_eq_some_iff.1 hi).1
      obtain ⟨v',g1,g2⟩:=dV.get (List.getElem?_eq_getElem cT)
      rw [hi,Option.some.injEq] at g1
      subst g1
      exact (Hn g2 (List.all_eq_true.1 hc _ (List.getElem_mem cT))).1
    refine ⟨Ys,S,a1,a2,by rw [← fg,a2,h2],?_⟩
    rw [a3]
    refine Aa hk (by rw [← dV.len,h2]) cX ?_ wq
    rcases h4 with h4 | ⟨k,off,c0,e0,fz,rfl,_,g1,g2⟩
    · left
      subst h4
      cases dV
      rfl
    · exact .inr ⟨k,off,rfl,fun j v hj=>by simp [World.cell?,g1,g2 j v hj]⟩
  cases d with
  | int k n=>exact absurd rfl (hint k n)
  | str s=>
    simp only [elems] at he
    split at he
    case isFalse=>simp at he
    rename_i vS
    subst vS
    simp only [Option.some.injEq,Prod.mk.injEq] at he
    obtain ⟨rfl,rfl,rfl⟩:=he
    have hu:u=.string s:=hd
    subst hu
    have dV:cb (Ext w (af C w S H)) (s.data.toList.map dq) (byteCells s):=by
      refine dk (by simp [byteCells]) (fun i a b ha hb=>?_)
      simp only [byteCells,List.getElem?_map] at ha hb
      cases hx:s.data.toList[i]? with
      | none=>simp [hx] at ha
      | some y=>
        simp only [hx,Option.map_some,Option.some.injEq] at ha hb
        subst ha; subst hb
        rfl
    obtain ⟨Ys,a1,a2,a3,a4⟩:=rV h dV
    refine ⟨Ys,S,a1,a2,?_,?_,rfl,rfl,rfl⟩
    · rw [← bP,a3,byteCells_length,Nat.mul_one]
    · rw [a3]
      refine Src.ofString w ?_ s
      simp only [Hi] at nz
      split at nz
      · rename_i heq
        obtain ⟨d,h1,h2⟩:=(aq.ty _ _ heq).desc
        simp only [kp] at h2
        subst h2
        exact h1
      · simp at nz
  | nil s=>
    simp only [elems,Option.some.injEq,Prod.mk.injEq] at he
    obtain ⟨rfl,rfl,rfl⟩:=he
    have hu:u=.slice none 0 0:=hd
    subst hu
    obtain ⟨e',hk⟩:=uQ aq nz
    exact ⟨[],S,h,rfl,by simp,by simp only [aC]; exact Src.ofNil w hk 0,rfl,rfl,rfl⟩
  | sl g s n cs=>
    cases g with
    | none=>simp [elems] at he
    | some g=>
      simp only [elems] at he
      split at he
      case isFalse=>simp at he
      rename_i hc
      simp only [Option.some.injEq,Prod.mk.injEq] at he
      obtain ⟨rfl,rfl,rfl⟩:=he
      obtain ⟨Ys,S',a1,a2,a3,a4⟩:=ext hd hc.1 hc.2 (uQ aq nz)
      exact ⟨Ys,S',a1,a2,a3,a4,rfl,rfl,rfl⟩
  | ref r q o x=>
    simp only [elems] at he
    split at he
    · rename_i s n cs hc
      obtain ⟨R,l,t0,g1,g2,g3,g4,g5⟩:=iI h.rt hc
      obtain ⟨cap,a,ts,rfl,rfl⟩:=EN g5.symm
      have dW:=su h.mem g1 g2 g3 (g:=none) (s:=s) (n:=n) (cs:=bh ts) rfl
      obtain ⟨tq,a',hu,LW⟩:=VP dW (hd _ g4)
      simp only [bE] at LW
      obtain ⟨k1,k2,k3,k4⟩:=LW
      split at he
      · simp at he
      rename_i hss
      simp only [ne_eq,Decidable.not_not] at hss
      subst hss
      have dg:aC (pd x s ts)=[]∨∃ b off,a'.map (fun p=>(⟨p.1,p.2,none⟩:Addr))=some ⟨b,off,none⟩∧∀ (j:Nat) (v:Value),(aC (pd x s ts))[j]?=some v→w.cell? ⟨b,off+j,none⟩=some v:=by
        cases a' with
        | none=>
          left
          have:(pd x s ts).length=0:=by rw [k2]; simp only at k3; rw [k3.1]; simp
          rw [List.length_eq_zero_iff.1 this]; rfl
        | some p=>exact .inr ⟨p.1,p.2,rfl,fun j v hj=>uI k3 hj⟩
      rw [← Tm] at he
      split at he
      · rename_i rW
        split at he
        case isFalse=>simp at he
        rename_i hf
        simp only [Option.some.injEq,Prod.mk.injEq] at he
        obtain ⟨rfl,rfl,rfl⟩:=he
        obtain ⟨Ys,b1,b2,b3,b4⟩:=rV h (O3 k4 hf)
        obtain ⟨e',hk⟩:=uQ aq nz
        refine ⟨Ys,S,b1,b2,by rw [← fg,b2,fg,k2],?_,rfl,rfl,rfl⟩
        rw [b3,hu]
        refine Aa hk (by rw [bP,k2]) cX dg (fun v hv=>?_)
        rw [cS] at hv
        obtain ⟨t,ht,rfl⟩:=List.mem_map.1 hv
        exact (mj ((cj _).1 k4 t ht) (MK (List.all_eq_true.1 hf t.er (by rw [eD]; exact List.mem_map.2 ⟨t,ht,rfl⟩)))).1
      · split at he
        case h_2=>simp at he
        rename_i ys1 aN dz
        split at he
        case isFalse=>simp at he
        rename_i gy
        simp only [Option.some.injEq,Prod.mk.injEq] at he
        obtain ⟨rfl,rfl,rfl⟩:=he
        have oR:aw R.cs (q++[o])=some ts:=(Mk (bx:=R.box) g2 g3).2
        have dV:cb (bj w (af C w S H) S) (lp r (q++[o]) (off x*s) (bh (pd x s ts))) (aC (pd x s ts)):=by
          refine dk (by rw [pF,fg,bP]) (fun i y v hy hv=>?_)
          rw [nx,ic] at hy
          rw [fc] at hv
          cases hx:(pd x s ts)[i]? with
          | none=>simp [hx] at hy
          | some t=>
            simp only [hx,Option.map_some,Option.some.injEq] at hy hv
            subst hy; subst hv
            refine pE h.mem g1 oR ?_
            cases x with
            | none=>simp only [pd] at hx; simp only [off]; rw [Nat.zero_mul,Nat.zero_add]; exact hx
            | some p=>
              simp only [pd] at hx
              rw [List.getElem?_take] at hx
              split at hx
              · rw [List.getElem?_drop] at hx; exact hx
              · simp at hx
        obtain ⟨Ys,S',b1,b2,b3,b4,b5,b6⟩:=E8 h dV dz
        obtain ⟨e',hk⟩:=uQ aq nz
        have dr:=b1.mem.hand
        rw [dL] at dr
        refine ⟨Ys,S',b1,b2,by rw [← bP,b3,bP,k2],?_,b6.2.2,b6.1,b6.2.1⟩
        rw [b3,hu]
        refine Aa hk (by rw [bP,k2]) cX dg (fun v hv=>?_)
        rw [← b3,cS] at hv
        obtain ⟨t,ht,rfl⟩:=List.mem_map.1 hv
        exact (mj ((cj _).1 dr.1 t ht) (List.all_eq_true.1 gy t.er (by rw [← b2,eD]; exact List.mem_map.2 ⟨t,ht,rfl⟩))).1
    · rename_i g s n cs hc
      split at he
      case isFalse=>simp at he
      rename_i mH
      simp only [Option.some.injEq,Prod.mk.injEq] at he
      obtain ⟨rfl,rfl,rfl⟩:=he
      obtain ⟨R,l,t0,g1,g2,g3,g4,g5⟩:=iI h.rt hc
      have dW:=su h.mem g1 g2 g3 g5.symm
      have j6:t0.ft=[]:=by
        cases t0 with
        | v d u=>rfl
        | own s' n' cap a ts=>simp [T.er] at g5
      have hx:=BQ (X':=af C w S H) (fun _ _ h=>h) false g5.symm dW (by simp [j6]) (hd _ g4)
      obtain ⟨Ys,S',a1,a2,a3,a4⟩:=ext hx mH.1 mH.2 (uQ aq nz)
      exact ⟨Ys,S',a1,a2,a3,a4,rfl,rfl,rfl⟩
    · simp at he
  | _=>simp [elems] at he
theorem VQ (h:Rel C H w st aE S) {d:D} {u:Value} (hd:cr w (af C w S H) S d u) {t ty e:TypeId} {inf:TypeInfo} {z:Value} (ht:P.underlying t=some (.slice e)) (hi:P.info? e=some inf) (hz:inf.zero=some z) {zs:List D} (lj:cb P6 zs z.cells.toList) (CM:zs.length=inf.size)
    (cX:0 < inf.size) {flat:Bool} {ys:List D} {m:Nat} (he:elems st flat zs inf.size d=some (ys,m,st')) {tx:TypeId} (nz:Hi c tx d=true):
    ∃ Ys S',Rel C (Ys++H) w st' aE S'∧bh Ys=ys∧Ys.length=m*inf.size∧VN P t tx ty e inf z w u m (aC Ys)∧st'.of=st.of∧st'.tm=st.tm∧st'.up=st.up:=by
  by_cases hint:∃ k n,d=.int k n
  · obtain ⟨k,n,rfl⟩:=hint
    have hu:u=.int k n:=hd
    subst hu
    unfold elems at he
    split at he
    all_goals (try (rename_i heq; simp at heq; done))
    all_goals (try (simp at he; done))
    rename_i n0 heq
    simp only [D.int.injEq] at heq
    obtain ⟨rfl,rfl⟩:=heq
    split at he
    case isFalse=>simp at he
    rename_i hc
    simp only [Option.some.injEq,Prod.mk.injEq] at he
    obtain ⟨rfl,rfl,rfl⟩:=he
    have abd:z.cells.size=inf.size:=by rw [← CM,lj.len]; simp
    obtain ⟨ts,f1,f2,f3,f4⟩:=vQ lj n.toNat
    obtain ⟨t0,e1,e2,e3,e4⟩:=Mw lj
    have hlen:ts.length=n.toNat*inf.size:=by
      have:=congrArg List.length f2
      rw [bP] at this
      rw [this,List.length_flatten,List.map_replicate,List.sum_replicate_nat,Array.length_toList,abd]
    have wq:∀ u∈z.cells.toList,u.oneCell'=true:=by
      intro u hu
      rw [← e2,cS] at hu
      obtain ⟨t1,z1,rfl⟩:=List.mem_map.1 hu
      refine (mj ((cj _).1 (e4 w (fun _ _=>False)) t1 z1) (List.all_eq_true.1 hc.2 t1.er ?_)).1
      rw [← e1,eD]
      exact List.mem_map.2 ⟨t1,z1,rfl⟩
    have agi:∃ k',P.underlying tx=some (.int k'):=by
      simp only [Hi] at nz
      split at nz
      · rename_i heq
        obtain ⟨d,h1,h2⟩:=(aq.ty _ _ heq).desc
        simp only [kp] at h2
        subst h2
        exact ⟨_,h1⟩
      · simp at nz
    obtain ⟨k',hk'⟩:=agi
    have ie:∀ l:List T,ah l=[]→(∀ w X,bF w X l)→Rel C (l++H) w st aE S:=by
      intro l Ye Yc
      have CP:af C w S (l++H)=af C w S H:=by
        funext b k
        simp only [af,bg,Ye,List.nil_append]
      obtain ⟨q1,⟨m1,m2,m3,m4⟩,q3,q4⟩:=h
      refine ⟨q1,⟨by rw [bg,Ye]; exact m1,by rw [CP]; exact m2,?_,by rw [bg,Ye]; exact m4⟩,by rw [CP]; exact q3,⟨q4.os,q4.tape,q4.output,q4.size,q4.block,by rw [bg,Ye]; exact q4.ix,q4.par⟩⟩
      rw [dL,CP]
      exact ⟨Yc _ _,m3⟩
    refine ⟨ts,S,ie ts f3 f4,f1,hlen,?_,rfl,rfl,rfl⟩
    rw [f2]
    have:=Rn (w:=w) (ty:=ty) ht hi hz hk' abd cX n.toNat wq (kx:=.i64)
    rwa [show ((n.toNat:Nat):Int)=n from Int.toNat_of_nonneg hc.1] at this
  · obtain ⟨Ys,S',a1,a2,a3,a4,a5⟩:=Tn aq h hd cX (fun k n e=>hint ⟨k,n,e⟩) he nz
    exact ⟨Ys,S',a1,a2,a3,VO ht hi hz a4,a5⟩
end
end Go.Proofs.YtockoilcnmljiaaGreat
namespace Go.Proofs.YtockoilcnmljiaaGreat
section
variable {P:Program} {c:cx} (aq:ek c P) {C:Ctx} {Hx:List T} {w:World} {st st':St} {vs:Array Value} {aE:List (Array Value)} {S:List (Nat × RT)} (h:Rel C Hx w st (vs::aE) S)
include aq h
theorem To {t tx ty:TypeId} {s x:D} {us ux:Value} (hs:cr w (af C w S Hx) S s us) (hx:cr w (af C w S Hx) S x ux) {d:Nat} (ht:d < vs.size) (hP:∀ p∈C.P0,p.1≠st.of+d) (ha:rm c st t tx (some d) s x=some st'):
    ∃ v w',(Builtin.append_ #[t,tx] ty #[us,ux]).run P w=.ok v w'∧(∀ r' R' b',lk S r'=some R'→R'.box=some b'→w'.heap[b']?=w.heap[b']?)∧∃ S',Rel C Hx w' st' (vs.setIfInBounds d v::aE) S':=by
  unfold rm at ha
  split at ha
  case h_2=>simp at ha
  rename_i e tsz tby tz gd
  split at ha
  case h_2=>simp at ha
  rename_i ei iX
  split at ha
  case isFalse=>simp at ha
  rename_i nz
  split at ha
  case h_2=>simp at ha
  rename_i n cs aN ql
  split at ha
  case h_2=>simp at ha
  rename_i ys m ch fj
  split at ha
  case isFalse=>simp at ha
  rename_i hb
  obtain ⟨cX,hby,lM⟩:=hb
  obtain ⟨inf,h1,h2,h3,z,h4,h5⟩:=(aq.ty _ _ iX).info
  have CM:=(aq.ty _ _ iX).len
  obtain ⟨dd,g1,g2⟩:=(aq.ty _ _ gd).desc
  simp only [kp] at g2
  subst g2
  have lj:z.cells.size=ei.size:=by rw [← CM,h5.len]; simp
  unfold target at ql
  split at ql
  case h_2=>simp at ql
  rename_i s0 n0 cs0 Yb dz
  split at ql
  case isFalse=>simp at ql
  rename_i XS
  subst XS
  simp only [Option.some.injEq,Prod.mk.injEq] at ql
  obtain ⟨rfl,rfl,rfl⟩:=ql
  have uJ:bj w (af C w S Hx) S s us:=by cases s<;>first | exact hs | (simp [iU] at dz; done)
  obtain ⟨T1,S1,a1,a2,a3,a4,a5,a6,_⟩:=uc h uJ dz
  obtain ⟨cap,a,ts,rfl,rfl⟩:=EN a2
  have uN:∀ r' R' b',lk S r'=some R'→R'.box=some b'→b' < w.heap.size∧∀ p,a=some p→b'≠p.1:=by
    intro r' R' b' ey fO
    obtain ⟨R1,e1,e2,_⟩:=a5.fwd r' R' ey
    have lK:b'∈cF S1:=by
      obtain ⟨A,B,e3,_⟩:=lI e1
      rw [e3]
      simp [RT.ft,e2.trans fO]
    refine ⟨a1.mem.lt b' (List.mem_append.2 (.inl lK)),fun p hp e=>?_⟩
    subst hp
    exact (List.nodup_append.1 a1.mem.nd).2.2 b' lK p.1 (by simp [ah,T.ft,iV]) e
  obtain ⟨Ys,S2,b1,rfl,b3,b4,b5,b6,b7⟩:=VQ (ty:=ty) aq a1 (pH a4 hx) g1 h1 h4 h5 (CM.trans h2.symm) (by rw [h2]; exact cX) (by rw [h2]; exact fj) nz
  rw [h2] at b3
  have qV:ch.of=st.of:=b5.trans a6.2.2
  have dr:=b1.mem.hand
  rw [dL] at dr
  obtain ⟨hY,hT⟩:=dr
  simp only [bF] at hT
  have hT:=hT.1
  have hT0:=hT
  simp only [bE] at hT
  obtain ⟨k1,k2,k3,k4⟩:=hT
  have Fh:n0+m≤140737488355328:=by
    have:(n0+m)*1≤(n0+m)*ei.bytes:=Nat.mul_le_mul_left _ hby
    omega
  have Mm:us=.slice (a.map fun p=>⟨p.1,p.2,none⟩) n0 cap:=a3.symm
  have fh:(ah (Ys++[T.own ei.size n0 cap a ts])).Nodup:=by
    have h9:=(List.nodup_append.1 b1.mem.nd).2.1
    rw [show Ys++T.own ei.size n0 cap a ts::Hx=(Ys++[T.own ei.size n0 cap a ts])++Hx by simp,bg] at h9
    exact (List.nodup_append.1 h9).1
  by_cases Ro:n0+m≤cap
  ·
    cases a with
    | none=>
      simp only at k3
      obtain ⟨rfl,rfl⟩:=k3
      have E5:m=0:=by omega
      subst E5
      have Ab:ts=[]:=List.length_eq_zero_iff.1 (by rw [k2]; simp)
      have hYs:Ys=[]:=List.length_eq_zero_iff.1 (by rw [b3]; simp)
      subst Ab; subst hYs
      have eg:(Builtin.append_ #[t,tx] ty #[us,ux]).run P w=.ok (.slice none 0 0) w:=by
        rw [Mm]
        exact b4.nil rfl rfl
      refine ⟨_,_,eg,fun _ _ _ _ _=>rfl,?_⟩
      simp only [List.nil_append,bh,List.append_nil,Nat.add_zero] at b1 ha
      refine rB (Hs:=[T.own ei.size 0 0 none []]) (H:=Hx) (R:=⟨none,[T.own ei.size 0 0 none []]⟩) b1 (Grown.refl w) (by simp [RT.ft,ah,T.ft,iV]) (by simp [RT.ft,ah,T.ft,iV]) (fun S' cy dR=>⟨trivial,fun y hy=>?_⟩) ht (by rw [qV]; exact hP) (d:=fun d=>.ref d [] 0 none) ?_ (by simpa [bh,T.er] using ha)
      · simp only [List.mem_singleton] at hy
        subst hy
        simp [iW,bE,bF]
      · intro S' X pI
        simp only [cr,gD,bj]
        intro y hy
        simp only [cu,pI,aw,List.getElem?_cons_zero,Option.some.injEq] at hy
        subst hy
        simp [eK,sn,T.er,T.val,vK]
    | some p=>
      obtain ⟨b,off⟩:=p
      have hmul:n0*ei.size+m*ei.size≤cap*ei.size:=by rw [← Nat.add_mul]; exact Nat.mul_le_mul_right _ Ro
      obtain ⟨c1,_⟩:=Tj (H:=Hx) b1 b3 Ro
      have eg:(Builtin.append_ #[t,tx] ty #[us,ux]).run P w=.ok (.slice (some ⟨b,off,none⟩) (n0+m) cap) (w.setCells b (off+n0*ei.size) (aC Ys)):=by
        rw [Mm]
        rw [← h2]
        refine b4.room b off n0 cap Ro (by rw [h3]; exact lM) (by rw [h3]; exact hby) (fun j hj=>?_) (fun j hj=>?_)
        · rw [bP,b3] at hj
          rw [h2,Nat.add_assoc]
          obtain ⟨u,hu⟩:=ET (j:=n0*ei.size+j) k3 (by omega)
          rw [hu]; rfl
        · rw [bP,b3] at hj
          rw [h2,Nat.add_assoc]
          exact ES k3 (by omega)
      refine ⟨_,_,eg,fun r' R' b' ey fO=>?_,?_⟩
      · obtain ⟨c0,e0,fz0,g1,g2,g3,g4⟩:=k3
        exact (uP (aC Ys) (off+n0*ei.size) w g1 (by rw [bP,b3]; omega)).choose_spec.2.2.2.2.1 b' ((uN r' R' b' ey fO).2 _ rfl)
      rw [← uG] at ha
      refine rB (Hs:=[T.own ei.size (n0+m) cap (some (b,off)) (ts++Ys)]) (H:=Hx) (R:=⟨none,[T.own ei.size (n0+m) cap (some (b,off)) (ts++Ys)]⟩) c1 (Grown.refl _) (fun k hk=>.inl (by simpa [RT.ft] using hk)) ?_ (fun S' cy dR=>⟨trivial,fun y hy=>?_⟩) ht (by rw [qV]; exact hP) (d:=fun d=>.ref d [] 0 none) ?_ (by simpa [bh,T.er] using ha)
      · have:=(List.nodup_append.1 c1.mem.nd).2.1
        rw [← List.singleton_append,bg] at this
        simpa [RT.ft] using (List.nodup_append.1 this).1
      · simp only [List.mem_singleton] at hy
        subst hy
        have:=c1.mem.hand
        simp only [bF] at this
        exact dK cy _ this.1 (fun _ _=>rfl)
      · intro S' X pI
        simp only [cr,gD,bj]
        intro y hy
        simp only [cu,pI,aw,List.getElem?_cons_zero,Option.some.injEq] at hy
        subst hy
        simp [eK,sn,T.er,T.val,vK]
  ·
    have hold:(Builtin.firstCells inf.size n0 (.slice (a.map fun p=>(⟨p.1,p.2,none⟩:Addr)) n0 cap)).run P w.drew=.ok (aC ts).toArray w.drew:=by
      cases a with
      | none=>
        simp only at k3
        have Ab:ts=[]:=List.length_eq_zero_iff.1 (by rw [k2,k3.1]; simp)
        subst Ab
        exact run_firstCells_none _ _ _ _ _
      | some p=>
        exact run_firstCells_some w.drew inf.size n0 _ _ _ (aC ts) (by rw [bP,k2,h2]) (fun j v hj=>by
          rw [eT]
          have:=uI k3 hj
          simpa using this)
    have eg:=b4.grow (a.map fun p=>(⟨p.1,p.2,none⟩:Addr)) n0 cap (aC ts) hold (by omega) (by rw [h3]; exact lM) (by rw [h3]; exact hby)
    rw [← Mm] at eg
    refine ⟨_,_,eg,fun r' R' b' ey fO=>((Grown.drew w).trans (Grown.alloc _ _)).bN b' (uN r' R' b' ey fO).1,?_⟩
    have qg:=grownCap_ge w (n0+m) cap e
    rw [← uG] at ha
    have hlen:(ts++Ys).length=(n0+m)*ei.size:=by rw [List.length_append,k2,b3,Nat.add_mul]
    refine BR (Hs:=Ys++[T.own ei.size n0 cap a ts]) (H:=Hx) (by simpa using b1) ((Grown.drew w).trans (Grown.alloc _ _)) (ts:=ts++Ys) (b:=w.heap.size) ⟨Nat.le_refl _,by rw [ji]; exact Nat.lt_succ_self _⟩ ?_ ?_ ?_ qg hlen ?_ ht (by rw [qV]; exact hP) ha
    · rw [dL,List.append_assoc]
      exact ⟨k4,hY⟩
    · intro k hk
      rw [bg] at hk
      simp only [bg,ah,T.ft,List.append_nil,List.mem_append]
      rcases List.mem_append.1 hk with hk | hk
      · exact .inr (.inr hk)
      · exact .inl hk
    · have p1:(ah (Ys++[T.own ei.size n0 cap a ts])).Perm (iV a++ah (ts++Ys)):=by
        refine List.perm_iff_count.2 fun a=>?_
        simp only [bg,ah,T.ft,List.count_append,List.count_nil]
        omega
      exact (List.nodup_append.1 (p1.nodup_iff.1 fh)).2.1
    · refine kt w.drew _ e ?_ (fun j u hj=>?_)
      · simp only [Array.size_append,List.size_toArray,List.length_append,bP,k2,b3,size_zeroCells,lj,← Nat.add_mul]
        refine Nat.mul_le_mul_right _ ?_
        omega
      · rw [zJ] at hj
        have cT:=(List.getElem?_eq_some_iff.1 hj).1
        rw [Array.getElem?_append_left (by simpa using cT)]
        simpa using hj
end
end Go.Proofs.YtockoilcnmljiaaGreat
namespace Go.Proofs.YtockoilcnmljiaaGreat
theorem fold_push:∀ (ns:List Int) (s:ByteArray),(ns.foldl (fun r n=>r.push (UInt8.ofNat n.toNat)) s).data.toList=s.data.toList++ns.map (fun n=>UInt8.ofNat n.toNat)
  | [],s=>by simp
  | n::ns,s=>by
    rw [List.foldl_cons,fold_push ns]
    simp [ByteArray.push]
theorem VR {w:World} {X:Bool→Nat→Prop}:∀ {cs:List D} {us:List Value} {bs:List UInt8},cb (aaN w X) cs us→kZ byteOf cs=some bs→∃ ns:List Int,us=ns.map (Value.int .u8)∧bs=ns.map (fun n=>UInt8.ofNat n.toNat):=by
  intro cs
  induction cs with
  | nil=>
    intro us bs h hm
    cases h
    simp only [kZ,Option.some.injEq] at hm
    subst hm
    exact ⟨[],rfl,rfl⟩
  | cons d cs ih=>
    intro us bs h hm
    cases h with
    | cons h1 h2=>
    simp only [kZ] at hm
    split at hm
    case h_2=>simp at hm
    rename_i b hb
    split at hm
    case h_2=>simp at hm
    rename_i XQ JC
    simp only [Option.some.injEq] at hm
    subst hm
    obtain ⟨ns,rfl,rfl⟩:=ih h2 JC
    unfold byteOf at hb
    split at hb
    case h_2=>simp at hb
    rename_i n
    simp only [Option.some.injEq] at hb
    subst hb
    refine ⟨n::ns,?_,rfl⟩
    simp only [List.map_cons,List.cons.injEq,and_true]
    rcases h1 with h1 | ⟨t,he,rfl,h1⟩
    · exact h1
    · cases t with
      | own s n cap a cs=>simp [T.er] at he
      | v d u=>
        simp only [T.er] at he
        simp only [bE,← he] at h1
        exact h1
section
variable {P:Program} {c:cx} (aq:ek c P) {C:Ctx} {Hx:List T} {w:World} {st st':St} {vs:Array Value} {aE:List (Array Value)} {S:List (Nat × RT)} (h:Rel C Hx w st (vs::aE) S)
include aq
theorem ue {t:TypeId} {ti:TI} (ht:c.ty t=some ti):∃ d,P.underlying t=some d∧kp P ti.ty d:=(aq.ty _ _ ht).desc
include h
theorem O4 {src dst e:TypeId} (hs:P.underlying src=some (.slice e)) (he:P.underlying e=some (.int .u8)) (hd:P.underlying dst=some .string) {x:D} {u:Value} (hx:cr w (af C w S Hx) S x u) {g:Option Bool} {n:Nat} {cs:List D} (gq:st.pC x=some (g,1,n,cs)) {bs:List UInt8} (hm:kZ byteOf cs=some bs):
    ∀ w2,dG w w2→(convert src dst u).run P w2=.ok (.string ⟨bs.toArray⟩) w2:=by
  have _:=aq
  intro w2 oQ
  obtain ⟨base,cap,rfl,h1,h2,h3⟩:=(LS h.rt h.mem hx gq).ok
  rw [run_convert_bytes_string w2 src dst e base n cap hs he hd]
  rcases h3 with rfl | ⟨b,off,cc,ee,fz,us,rfl,g1,g2,g3⟩
  · simp only [kZ,Option.some.injEq] at hm
    subst hm
    have hn:n=0:=by simpa using h2.symm
    subst hn
    cases base with
    | none=>rfl
    | some a=>exact run_bytesToString w2 a 0 cap [] rfl
  · obtain ⟨ns,rfl,rfl⟩:=VR g2 hm
    have hl:ns.length=n:=by have:=g2.len; rw [h2] at this; simpa using this.symm
    have yi:=run_loadCells_list (P:=P) w2 ⟨b,off,none⟩ (ns.map (Value.int .u8)) (fun j v hj=>by
      rw [eT]
      refine oQ.cell ?_
      simp [World.cell?,g1,g3 j v hj])
    rw [List.length_map,hl] at yi
    rw [run_bytesToString w2 _ n cap ns yi]
    congr 2
    have:=fold_push ns ByteArray.empty
    have h4:(ns.foldl (fun r n=>r.push (UInt8.ofNat n.toNat)) ByteArray.empty).data=(ns.map (fun n=>UInt8.ofNat n.toNat)).toArray:=by
      apply Array.ext'
      rw [this]
      simp
    generalize ns.foldl (fun r n=>r.push (UInt8.ofNat n.toNat)) ByteArray.empty=z at h4 ⊢
    cases z
    simp only at h4
    rw [h4]
theorem O5 {src dst e:TypeId} (hs:P.underlying src=some .string) (hd:P.underlying dst=some (.slice e)) (he:P.underlying e=some (.int .u8)) {s:ByteArray} {t:Nat} (ht:t < vs.size) (hP:∀ p∈C.P0,p.1≠st.of+t)
    (hr:st.root (some t) [.sl none 1 s.size (s.data.toList.map dq)] (fun d=>.ref d [] 0 none)=some st'):
    ∃ v w',(convert src dst (.string s)).run P w=.ok v w'∧∃ S',Rel C Hx w' st' (vs.setIfInBounds t v::aE) S':=by
  have _:=aq
  have dV:cb (Ext w (af C w S Hx)) (s.data.toList.map dq) (byteCells s):=by
    refine dk (by simp [byteCells]) (fun i a b ha hb=>?_)
    simp only [byteCells,List.getElem?_map] at ha hb
    cases hx:s.data.toList[i]? with
    | none=>simp [hx] at ha
    | some y=>
      simp only [hx,Option.map_some,Option.some.injEq] at ha hb
      subst ha; subst hb
      rfl
  obtain ⟨Ys,a1,a2,a3,a4⟩:=rV h dV
  have x7:s.size≤grownCap w s.size 0 e:=grownCap_ge w s.size 0 e
  let cells:Array Value:=(s.data.map fun b=>Value.int .u8 b.toNat)++Array.replicate (grownCap w s.size 0 e - s.size) (.int .u8 0)
  have eE:cells.size=grownCap w s.size 0 e:=by
    simp only [cells,Array.size_append,Array.size_map,Array.size_replicate]
    have:s.data.size=s.size:=rfl
    omega
  let w1:=(w.drew.alloc (.cells cells e)).freeze ⟨w.heap.size,cells.size,none⟩ 1
  have ye:(w.drew.alloc (.cells cells e)).heap[w.heap.size]?=some (.cells cells e (0,0)):=Jt w.drew _
  have eg:(convert src dst (.string s)).run P w=.ok (.slice (some ⟨w.heap.size,0,none⟩) s.size (grownCap w s.size 0 e)) w1:=by
    have hsh:(w.drew.alloc (.cells cells e)).shape? w.heap.size=some (e,cells.size):=by
      simp only [World.shape?,ye]
    simp only [convert,Sem.run_bind,run_underlying hs,run_underlying hd,run_underlying he,Result.andThen_ok]
    simp only [Conv.stringToBytes,Sem.run_bind,run_choose,Question.forced,Bool.false_eq_true,if_false,Result.andThen_ok,newRow,run_newObj,Sem.run_pure,markStringish,run_shape]
    have abf:World.shape? { os:=w.os,heap:=w.heap.push (.cells cells e),tape:=w.tape,drawn:=w.drawn+1,output:=w.output } w.heap.size=some (e,cells.size):=hsh
    simp only [cells,grownCap] at abf
    rw [abf]
    simp only [run_freeze,Result.andThen_ok]
    rfl
  refine ⟨_,_,eg,?_⟩
  have cX:w1.heap.size=w.heap.size+1:=by
    show (World.freeze _ _ 1).heap.size=_
    simp only [World.freeze,Nat.one_ne_zero,if_false,Array.size_modify]
    exact ji w.drew _
  have hg:Grown w w1:=by
    refine ⟨by omega,fun k hk=>?_,rfl,rfl,rfl⟩
    show (World.freeze _ _ 1).heap[k]?=_
    simp only [World.freeze,Nat.one_ne_zero,if_false,Array.getElem?_modify]
    rw [if_neg (by omega)]
    exact (Grown.alloc w.drew _).bN k hk
  have eP:lh w1 w.heap.size 0 (grownCap w s.size 0 e*1) (aC Ys):=by
    refine ⟨cells,e,(cells.size,cells.size+1),?_,fun o ho=>by simp only; omega,by rw [eE]; omega,fun j u hj=>?_⟩
    · show (World.freeze _ _ 1).heap[w.heap.size]?=_
      simp only [World.freeze,Nat.one_ne_zero,if_false,Array.getElem?_modify,if_true]
      rw [ye]
      rfl
    · rw [a3] at hj
      have cT:=(List.getElem?_eq_some_iff.1 hj).1
      rw [byteCells_length] at cT
      simp only [cells,Nat.zero_add]
      rw [Array.getElem?_append_left (by simpa using cT)]
      simp only [byteCells,List.getElem?_map] at hj
      simpa using hj
  rw [← a2] at hr
  exact BR (Hs:=Ys) (H:=Hx) a1 hg ⟨Nat.le_refl _,by omega⟩ ((dL _ _).1 a1.mem.hand).1 (fun _ h=>h) (by rw [a4]; simp) x7 (by rw [← bP,a3,byteCells_length,Nat.mul_one]) eP ht hP hr
end
end Go.Proofs.YtockoilcnmljiaaGreat
namespace Go.Proofs.YtockoilcnmljiaaGreat
section
variable {P:Program} {c:cx} (aq:ek c P) {C:Ctx} {w:World} {st:St} {S:List (Nat × RT)} {X:Bool→Nat→Prop}
include aq
theorem ML {t:TypeId} {x d':D} {u:Value} {k:IntKind} {i:Int} (hx:cr w X S x u) (h:wI c t x i=some d'):∃ r,(∀ w:World,(Instr.index t u (.int k i)).run P w=.ok r w)∧cr w X S d' r:=by
  unfold wI at h
  split at h
  · rename_i _ _ _ s ht
    obtain ⟨d,h1,h2⟩:=(aq.ty _ _ ht).desc
    simp only [kp] at h2
    subst h2
    have hu:u=.string s:=hx
    subst hu
    obtain ⟨g1,g2,g3⟩:=mh h
    cases hb:s.data.toList[i.toNat]? with
    | none=>simp [hb] at g3
    | some b=>
      simp only [hb,Option.map_some,Option.some.injEq] at g3
      subst g3
      have cT:i.toNat < s.size:=by omega
      have lN:s[i.toNat]?=some b:=by
        have h5:s.data[i.toNat]?=some b:=by rw [← Array.getElem?_toList]; exact hb
        rw [getElem?_pos s i.toNat cT]
        rw [Array.getElem?_eq_getElem cT] at h5
        exact h5
      refine ⟨.int .u8 b.toNat,?_,rfl⟩
      intro w
      simp only [Instr.index,asIntOf,Sem.run_bind,Sem.run_pure,Result.andThen_ok,run_underlying h1,if_pos g1,lN]
  · rename_i n e _ _ _ cs ht
    split at h
    case h_2=>simp at h
    rename_i ei he
    obtain ⟨d,h1,h2⟩:=(aq.ty _ _ ht).desc
    simp only [kp] at h2
    subst h2
    obtain ⟨us,rfl,hu⟩:=hx
    obtain ⟨g1,g2,g3⟩:=mh h
    have cX:=fun w=>(aq.ty _ _ he).sz w
    have CR:=fun w=>(aq.ty _ _ he).agg w
    have hir:(0≤i∧i < (n:Int)):=⟨g1,g2⟩
    split at g3
    · rename_i eo
      simp only [Option.some.injEq] at g3
      subst g3
      refine ⟨.agg (us.extract (i.toNat*ei.size) (i.toNat*ei.size+ei.size)),?_,?_⟩
      · intro w; simp [Instr.index,asIntOf,run_underlying h1,hir,cX,part,CR,eo]
      · refine ⟨_,rfl,?_⟩
        have:=(hu.drop (i.toNat*ei.size)).take ei.size
        simpa [Array.toList_extract,List.extract] using this
    · rename_i eo
      obtain ⟨v,g4,g5⟩:=hu.get g3
      refine ⟨v,?_,mg g5⟩
      rw [Array.getElem?_toList] at g4
      simp only [Bool.not_eq_true] at eo
      intro w; simp [Instr.index,asIntOf,run_underlying h1,hir,cX,part,CR,eo,g4]
  · simp at h
end
theorem Rel.Ac {C:Ctx} {H:List T} {w:World} {st:St} {a:Act} {aE:List (Array Value)} {S:List (Nat × RT)} (h:Rel C H w st (a.tmps::aE) S) {dst:Option Nat} (ht:∀ t,dst=some t→t < a.tmps.size) {d:D} {v:Value} (hv:cr w (af C w S H) S d v):
    Rel C H w (st.put dst d) ((a.put dst v).tmps::aE) S:=by
  cases dst with
  | none=>exact h
  | some t=>exact h.put (ht t rfl) hv
theorem iY (st:St) (dst:Option Nat) (d:D):(st.put dst d).of=st.of:=by cases dst<;>rfl
theorem uf {st st':St} {dst:Option Nat} {cs:List D} {d:Nat→D} (h:st.root dst cs d=some st'):st'.of=st.of∧∃ t,dst=some t:=by
  cases dst with
  | none=>simp [St.root] at h
  | some t=>
    simp only [St.root,Option.some.injEq] at h
    subst h
    exact ⟨rfl,t,rfl⟩
theorem cU (a:Act) (dst:Option Nat) (v:Value):(a.put dst v).tmps.size=a.tmps.size∧(a.put dst v).defers=a.defers:=by
  cases dst<;>simp [Act.put]
end Go.Proofs.YtockoilcnmljiaaGreat
namespace Go.Proofs.YtockoilcnmljiaaGreat
section
variable {P:Program} {c:cx} (aq:ek c P) {C:Ctx} {Hx:List T} {w:World} {st st':St} {vs:Array Value} {aE:List (Array Value)} {S:List (Nat × RT)} (h:Rel C Hx w st (vs::aE) S)
include aq h
theorem MM {src dst:TypeId} {x d:D} {u:Value} (hx:cr w (af C w S Hx) S x u) (hc:vJ c st src dst x=some (d,none)):∃ r,(∀ w2,dG w w2→(convert src dst u).run P w2=.ok r w2)∧cr w (af C w S Hx) S d r:=by
  unfold vJ at hc
  split at hc
  case h_2=>simp at hc
  rename_i si di Yf Tp
  obtain ⟨ds,vS,qW⟩:=ue aq Yf
  obtain ⟨dd,Ad,mI⟩:=ue aq Tp
  split at hc
  · rename_i k _ n hk
    rw [hk] at mI
    simp only [kp] at mI
    subst mI
    simp only [Option.some.injEq,Prod.mk.injEq,and_true] at hc
    subst hc
    have hu:=gp hx
    subst hu
    refine ⟨.int k (k.wrap n),?_,SS _ _⟩
    intro w2 _; simp [convert,run_underlying vS,run_underlying Ad,Conv.intToInt]
  · rename_i n hk
    rw [hk] at mI
    simp only [kp] at mI
    subst mI
    simp only [Option.some.injEq,Prod.mk.injEq,and_true] at hc
    subst hc
    have hu:=gp hx
    subst hu
    refine ⟨.string (Utf8.encode n),?_,tvs _⟩
    intro w2 _; simp [convert,run_underlying vS,run_underlying Ad,Conv.intToString]
  · rename_i s hk
    rw [hk] at mI
    simp only [kp] at mI
    subst mI
    simp only [Option.some.injEq,Prod.mk.injEq,and_true] at hc
    subst hc
    have hu:=wM hx
    subst hu
    refine ⟨.string s,?_,tvs _⟩
    intro w2 _; simp [convert,run_underlying vS,run_underlying Ad]
  · rename_i e hk yU _ _
    rw [hk] at mI
    rw [yU] at qW
    simp only [kp] at mI qW
    subst mI; subst qW
    split at hc
    case h_2=>simp at hc
    rename_i he
    obtain ⟨de,he1,Tq⟩:=ue aq he
    simp only [kp] at Tq
    subst Tq
    split at hc
    case h_2=>simp at hc
    rename_i g s n cs gq
    split at hc
    case isFalse=>simp at hc
    rename_i hs
    subst hs
    split at hc
    case h_2=>simp at hc
    rename_i bs hm
    simp only [Option.some.injEq,Prod.mk.injEq,and_true] at hc
    subst hc
    exact ⟨_,O4 aq h vS he1 Ad hx gq hm,tvs _⟩
  · split at hc<;>simp at hc
  · simp at hc
theorem Tr {src dst:TypeId} {x d:D} {cs:List D} {u:Value} (hx:cr w (af C w S Hx) S x u) (hc:vJ c st src dst x=some (d,some cs)) {t:Nat} (ht:t < vs.size) (hP:∀ p∈C.P0,p.1≠st.of+t)
    (hr:st.root (some t) cs (fun d=>.ref d [] 0 none)=some st'):∃ v w',(convert src dst u).run P w=.ok v w'∧∃ S',Rel C Hx w' st' (vs.setIfInBounds t v::aE) S':=by
  unfold vJ at hc
  split at hc
  case h_2=>simp at hc
  rename_i si di Yf Tp
  obtain ⟨ds,vS,qW⟩:=ue aq Yf
  obtain ⟨dd,Ad,mI⟩:=ue aq Tp
  split at hc
  · simp at hc
  · simp at hc
  · simp at hc
  · split at hc
    · split at hc
      · split at hc
        · split at hc<;>simp at hc
        · simp at hc
      · simp at hc
    · simp at hc
  · rename_i e s hk yU
    rw [hk] at mI
    rw [yU] at qW
    simp only [kp] at mI qW
    subst mI; subst qW
    split at hc
    case h_2=>simp at hc
    rename_i he
    obtain ⟨de,he1,Tq⟩:=ue aq he
    simp only [kp] at Tq
    subst Tq
    simp only [Option.some.injEq,Prod.mk.injEq] at hc
    obtain ⟨_,rfl⟩:=hc
    have hu:=wM hx
    subst hu
    exact O5 aq h vS Ad he1 ht hP hr
  · simp at hc
end
end Go.Proofs.YtockoilcnmljiaaGreat
namespace Go.Proofs.YtockoilcnmljiaaGreat
theorem Ts {st st':St} {d d':D} (h:iU st d=some (d',st')):st'.of=st.of:=by
  unfold iU at h
  split at h<;>try (simp only [Option.some.injEq,Prod.mk.injEq] at h; obtain ⟨_,rfl⟩:=h; rfl)
  · split at h
    · split at h
      · rename_i aN hs
        simp only [Option.some.injEq,Prod.mk.injEq] at h
        obtain ⟨_,rfl⟩:=h
        unfold St.hL at hs
        split at hs
        · split at hs
          · simp only [Option.some.injEq] at hs
            subst hs; rfl
          · simp at hs
        · simp at hs
      · simp at h
    · simp only [Option.some.injEq,Prod.mk.injEq] at h; obtain ⟨_,rfl⟩:=h; rfl
    · simp at h
  · simp at h
theorem MN:∀ {ds ds':List D} {st st':St},qU st ds=some (ds',st')→st'.of=st.of
  | [],ds',st,st',h=>by simp only [qU,Option.some.injEq,Prod.mk.injEq] at h; obtain ⟨_,rfl⟩:=h; rfl
  | d::ds,ds',st,st',h=>by
    simp only [qU] at h
    split at h
    case h_2=>simp at h
    rename_i d1 aN h1
    split at h
    case h_2=>simp at h
    rename_i gl ch h2
    simp only [Option.some.injEq,Prod.mk.injEq] at h
    obtain ⟨_,rfl⟩:=h
    exact (MN h2).trans (Ts h1)
theorem Tt {c:cx} {st st':St} {t tx:TypeId} {dst:Option Nat} {s x:D} (h:rm c st t tx dst s x=some st'):∃ ch:St,∃ cs:List D,ch.of=st.of∧ch.root dst cs (fun d=>.ref d [] 0 none)=some st':=by
  unfold rm at h
  split at h
  case h_2=>simp at h
  split at h
  case h_2=>simp at h
  split at h
  case isFalse=>simp at h
  split at h
  case h_2=>simp at h
  rename_i n cs aN ql
  split at h
  case h_2=>simp at h
  rename_i ys m ch fj
  split at h
  case isFalse=>simp at h
  refine ⟨ch,_,?_,h⟩
  have h1:aN.of=st.of:=by
    unfold target at ql
    split at ql
    · rename_i s' n' cs' CF dz
      split at ql
      · simp only [Option.some.injEq,Prod.mk.injEq] at ql
        obtain ⟨_,_,rfl⟩:=ql
        exact Ts dz
      · simp at ql
    · simp at ql
  have h2:ch.of=aN.of:=by
    unfold elems at fj
    split at fj<;>try (simp at fj; done)
    · split at fj<;>simp only [Option.some.injEq,Prod.mk.injEq,reduceCtorEq] at fj
      obtain ⟨_,_,rfl⟩:=fj; rfl
    · split at fj<;>simp only [Option.some.injEq,Prod.mk.injEq,reduceCtorEq] at fj
      obtain ⟨_,_,rfl⟩:=fj; rfl
    · simp only [Option.some.injEq,Prod.mk.injEq] at fj
      obtain ⟨_,_,rfl⟩:=fj; rfl
    · split at fj<;>simp only [Option.some.injEq,Prod.mk.injEq,reduceCtorEq] at fj
      obtain ⟨_,_,rfl⟩:=fj; rfl
    · split at fj
      · split at fj
        · simp at fj
        · split at fj
          · split at fj<;>simp only [Option.some.injEq,Prod.mk.injEq,reduceCtorEq] at fj
            obtain ⟨_,_,rfl⟩:=fj; rfl
          · split at fj
            · rename_i ys' st4 dz
              split at fj<;>simp only [Option.some.injEq,Prod.mk.injEq,reduceCtorEq] at fj
              obtain ⟨_,_,rfl⟩:=fj
              exact MN dz
            · simp at fj
      · split at fj<;>simp only [Option.some.injEq,Prod.mk.injEq,reduceCtorEq] at fj
        obtain ⟨_,_,rfl⟩:=fj; rfl
      · simp at fj
  exact h2.trans h1
theorem Tu (A:Addr) (i:Nat):(A.add i).block=A.block:=by
  obtain ⟨b,o,s⟩:=A
  cases s<;>first | rfl | (simp only [Addr.add]; split<;>rfl)
theorem Kk (w:World) (a:Addr) (v:Value) {k:Nat} (hk:k≠a.block):(w.setCell a v).heap[k]?=w.heap[k]?:=by
  simp [World.setCell,Array.getElem?_modify,Ne.symm hk]
theorem uR {P:Program} {b:Nat}:∀ {us:List Value} {w w':World} {i:Nat},∀ A:Addr,A.block=b→(∃ c e fz,w.heap[b]?=some (.cells c e fz))→(storeCells A us i).run P w=.ok () w'→∀ k,k≠b→w'.heap[k]?=w.heap[k]?
  | [],w,w',i,A,hA,_,h,k,hk=>by
    simp only [storeCells,Sem.run_pure,Result.ok.injEq,true_and] at h
    rw [h]
  | u::us,w,w',i,A0,Tv,⟨c,e,fz,hb⟩,h,k,hk=>by
    have step:∀ w1:World,(store (Addr.add A0 i) u).run P w=.ok () w1→(∃ c e fz,w1.heap[b]?=some (.cells c e fz))∧w1.heap[k]?=w.heap[k]?:=by
      intro w1 h1
      have eP:(Addr.add A0 i).block=b:=by rw [Tu,Tv]
      generalize Addr.add A0 i=A at h1 eP
      have XY:∀ v m,∀ r,w.farStore P A v m≠.ok r:=by
        intro v m r
        unfold World.farStore
        rw [eP,hb]
        simp
      have main:u.oneCell'=true→(∃ c e fz,w1.heap[b]?=some (.cells c e fz))∧w1.heap[k]?=w.heap[k]?:=by
        intro h1c
        rw [run_store P w A u _ h1c] at h1
        split at h1
        · split at h1
          · simp at h1
          · simp only [Result.ok.injEq,true_and] at h1
            subst h1
            refine ⟨?_,Kk w A u (by rw [eP]; exact hk)⟩
            simp only [World.setCell,Array.getElem?_modify,eP,if_true,hb,Option.map_some]
            exact ⟨_,_,_,rfl⟩
        · split at h1
          · rename_i r hr
            exact absurd hr (XY _ _ _)
          · simp at h1
      cases u with
      | agg us=>simp [store,Sem.run] at h1
      | tuple us=>simp [store,Sem.run] at h1
      | _=>exact main rfl
    rw [storeCells,Sem.run_bind] at h
    cases hs:(store (Addr.add A0 i) u).run P w with
    | ok _ w1=>
      rw [hs,Result.andThen_ok] at h
      obtain ⟨h2,h3⟩:=step w1 hs
      rw [uR A0 Tv h2 h k hk,h3]
    | halt x w1=>
      rw [hs] at h
      simp [Result.andThen] at h
structure yV (o:Oper) (a:Act) (S:List (Nat × RT)) (w w':World):Prop where
  al:sq o=true→dG w w'
  ap:∀ cc,o.op=.call cc→cc.callee=.builtin .append→∀ r R b,lk S r=some R→R.box=some b→w'.heap[b]?=w.heap[b]?
  st:∀ t x y,o.op=.store t x y→∀ A,a.eval x=.pointer (some A)→(∃ c e fz,w.heap[A.block]?=some (.cells c e fz))→∀ k,k≠A.block→w'.heap[k]?=w.heap[k]?
theorem yV.refl (o:Oper) (a:Act) (S:List (Nat × RT)) (w:World):yV o a S w w:=⟨fun _=>dG.refl w,fun _ _ _ _ _ _ _ _=>rfl,fun _ _ _ _ _ _ _ _ _=>rfl⟩
theorem yV.alloc {o:Oper} {a:Act} {S:List (Nat × RT)} {w w':World} (h:dG w w') (h2:sq o=true):yV o a S w w':=⟨fun _=>h,fun cc e=>by simp [sq,e] at h2,fun t x y e=>by simp [sq,e] at h2⟩
section
variable {P:Program} {c:cx} (aq:ek c P) {C:Ctx} {Hx:List T} {w:World} {st st':St} {o:Oper} {a:Act} {aE:List (Array Value)} {S:List (Nat × RT)} {K:Act→World→Prop} {Q:Exit→Act→World→Prop}
  {cl:FuncId→List D→Option (D × List D)} {ci:FuncId→List D→Nat→St→Option (D × St)} {aB:FuncId}
include aq
theorem Tw (h:Rel C Hx w st (a.tmps::aE) S) (gj:∀ t,o.dst=some t→t < a.tmps.size∧∀ p∈C.P0,p.1≠st.of+t) (ot:∀ cc f,o.op=.call cc→cc.callee≠.value f) (ak:fb c cl ci aB st o=some st')
    (hK:∀ a' w' S',Rel C Hx w' st' (a'.tmps::aE) S'→a'.tmps.size=a.tmps.size→a'.defers=a.defers→st'.of=st.of→yV o a S w w'→K a' w'):o.wp P a w K Q:=by
  have fP:ma w (af C w S Hx) S st.tm a.tmps:=by cases h.oO with | cons a _=>exact a
  have ev:=fun t x=>vM (c:=c) fP t x
  have Ad:∀ t,o.dst=some t→t < a.tmps.size:=fun t ht=>(gj t ht).1
  have cK:∀ {d:D} {v:Value},(execOp a.eval o).run P w=.ok (.value v) w→cr w (af C w S Hx) S d v→st'=st.put o.dst d→o.wp P a w K Q:=by
    intro d v eg hv cy
    subst cy
    refine ph eg (hK _ _ S (h.Ac Ad hv) (cU a o.dst v).1 (cU a o.dst v).2 (iY st o.dst d) (yV.refl o a S w))
  have yj:∀ {aN:St} {cs:List D} {dd:Nat→D},aN.of=st.of→aN.root o.dst cs dd=some st'→(∀ t,o.dst=some t→t < a.tmps.size→(∀ p∈C.P0,p.1≠st.of+t)→aN.root (some t) cs dd=some st'→∃ v w',(execOp a.eval o).run P w=.ok (.value v) w'∧yV o a S w w'∧∃ S',Rel C Hx w' st' (a.tmps.setIfInBounds t v::aE) S')→o.wp P a w K Q:=by
    intro aN cs dd qV hr hk
    obtain ⟨h1,t,ht⟩:=uf hr
    rw [ht] at hr
    obtain ⟨v,w',eg,Ae,S',ie⟩:=hk t ht (gj t ht).1 (gj t ht).2 hr
    refine ph eg (hK _ _ S' ?_ (cU a o.dst v).1 (cU a o.dst v).2 (h1.trans qV) Ae)
    rw [ht]
    exact ie
  unfold fb at ak
  cases ho:o.op with
  | move x=>
    simp only [ho,Option.some.injEq] at ak
    exact cK (by unfold execOp; simp only [ho]; rfl) (ev o.type x) ak.symm
  | assign x=>
    simp only [ho,Option.some.injEq] at ak
    exact cK (by unfold execOp; simp only [ho]; rfl) (ev o.type x) ak.symm
  | pick b x y=>
    simp only [ho] at ak
    split at ak
    case h_2=>simp at ak
    rename_i t hb
    simp only [Option.some.injEq] at ak
    have Fi:=ev o.type b
    rw [hb] at Fi
    have Fi:a.eval b=.bool t:=Fi
    refine cK (v:=if t then a.eval x else a.eval y) (d:=if t then cn c st o.type x else cn c st o.type y) ?_ ?_ ak.symm
    · unfold execOp
      simp only [ho,Fi,asBool,Sem.run_bind,Sem.run_pure,Result.andThen_ok]
    · cases t
      · exact ev o.type y
      · exact ev o.type x
  | alloc e=>
    simp only [ho] at ak
    split at ak
    case h_2=>simp at ak
    rename_i i hi
    refine yj rfl ak (fun t ht h1 h2 h3=>?_)
    obtain ⟨v,w',hr,hG,hS⟩:=VH aq h hi h1 h2 h3
    exact ⟨v,w',by unfold execOp; simp only [ho,Sem.run_bind,hr,Result.andThen_ok,Sem.run_pure],.alloc hG (by simp [sq,ho]),hS⟩
  | box e x=>
    simp only [ho] at ak
    split at ak
    case h_2=>simp at ak
    rename_i i hi
    by_cases cy:c.pZ aB (o.dst.getD 0)=true
    · simp only [cy,if_true,and_true] at ak
      split at ak
      case isFalse=>simp at ak
      rename_i hc
      split at ak
      case h_2=>simp at ak
      rename_i t ht
      rw [ht] at cy
      simp only [Option.getD_some] at cy
      simp only [cy,if_true] at ak
      split at ak
      case h_2=>simp at ak
      rename_i cs aN dz
      split at ak
      case isFalse=>simp at ak
      rename_i eE
      obtain ⟨v,w',hr,hG,S',ie⟩:=Tc aq h hc dz eE (gj t ht).1 (gj t ht).2 ak
      refine ph (v:=v) (w':=w') (by unfold execOp; simp only [ho,Sem.run_bind,hr,Result.andThen_ok,Sem.run_pure]) (hK _ _ S' (by rw [ht]; exact ie) (cU a o.dst v).1 (cU a o.dst v).2 ((uf ak).1.trans (MN dz)) (.alloc hG (by simp [sq,ho])))
    · simp only [cy,Bool.false_eq_true,if_false] at ak
      split at ak
      case isFalse=>simp at ak
      rename_i hc
      split at ak
      case h_2=>simp at ak
      rename_i t ht
      rw [ht] at cy
      simp only [Option.getD_some] at cy
      simp only [cy,Bool.false_eq_true,if_false] at ak
      obtain ⟨v,w',hr,hG,S',ie⟩:=aa5 aq h hc.1 hc.2 (gj t ht).1 (gj t ht).2 ak
      refine ph (v:=v) (w':=w') (by unfold execOp; simp only [ho,Sem.run_bind,hr,Result.andThen_ok,Sem.run_pure]) (hK _ _ S' (by rw [ht]; exact ie) (cU a o.dst v).1 (cU a o.dst v).2 (uf ak).1 (.alloc hG (by simp [sq,ho])))
  | build t ps=>
    simp only [ho] at ak
    split at ak
    · rename_i lG szs sz pG z gd
      split at ak
      case h_2=>simp at ak
      rename_i cs hf
      simp only [Option.some.injEq] at ak
      obtain ⟨v,hr,hv⟩:=zY aq h gd hf
      exact cK (by unfold execOp; simp only [ho,Sem.run_bind,hr,Result.andThen_ok,Sem.run_pure]) hv ak.symm
    · rename_i n e sz pG z gd
      split at ak
      case h_2=>simp at ak
      rename_i ei iX
      split at ak
      case h_2=>simp at ak
      rename_i cs hf
      simp only [Option.some.injEq] at ak
      obtain ⟨v,hr,hv⟩:=CO aq h gd iX hf
      exact cK (by unfold execOp; simp only [ho,Sem.run_bind,hr,Result.andThen_ok,Sem.run_pure]) hv ak.symm
    · simp at ak
  | buildSlice t n ps=>
    simp only [ho] at ak
    split at ak
    case h_2=>simp at ak
    rename_i e sz pG z gd
    split at ak
    case h_2=>simp at ak
    rename_i ei iX
    split at ak
    case isFalse=>simp at ak
    rename_i hn
    split at ak
    case h_2=>simp at ak
    rename_i vs aN hp
    split at ak
    case h_2=>simp at ak
    rename_i cs hf
    have qV:aN.of=st.of:=by
      have dV:cb (fun p q=>q.1=p.1∧cr w (af C w S Hx) S p.2 q.2) (ps.toList.map fun p=>(p.1,cn c st e p.2)) (ps.toList.map fun p=>(p.1,a.eval p.2)):=by
        refine dk (by simp) (fun i x y hx hy=>?_)
        simp only [List.getElem?_map] at hx hy
        cases hq:ps.toList[i]? with
        | none=>simp [hq] at hx
        | some q=>
          simp only [hq,Option.map_some,Option.some.injEq] at hx hy
          subst hx; subst hy
          exact ⟨rfl,ev e q.2⟩
      obtain ⟨_,_,_,_,_,_,_,_,b7⟩:=Fb h dV hp
      exact b7.2.2
    refine yj qV ak (fun t' ht h1 h2 h3=>?_)
    obtain ⟨v,w',hr,hG,hS⟩:=Ki aq h gd rfl iX hn hp hf h1 h2 h3
    exact ⟨v,w',by unfold execOp; simp only [ho,Sem.run_bind,hr,Result.andThen_ok,Sem.run_pure],.alloc hG (by simp [sq,ho]),hS⟩
  | load t x=>
    simp only [ho] at ak
    split at ak
    case h_2=>simp at ak
    rename_i i hi
    split at ak
    case h_2=>simp at ak
    rename_i d hl
    simp only [Option.some.injEq] at ak
    obtain ⟨v,hr,hv⟩:=Hl aq h.rt h.mem hi (ev o.type x) hl
    replace hr:=hr w (zN.refl _ w)
    exact cK (by unfold execOp; simp only [ho,Sem.run_bind,hr,Result.andThen_ok,Sem.run_pure]) hv ak.symm
  | store t x y=>
    simp only [ho] at ak
    split at ak
    case h_2=>simp at ak
    rename_i i hi
    split at ak
    case h_2=>simp at ak
    rename_i aN hs
    simp only [Option.some.injEq] at ak
    subst ak
    obtain ⟨w',S',hr,ie,qV⟩:=Ti aq h hi (ev o.type x) (ev t y) hs
    refine Q5 (w':=w') (by unfold execOp; simp only [ho,Sem.run_bind,hr,Result.andThen_ok,Sem.run_pure]) (hK _ _ S' (ie.Ac Ad (d:=.aL []) ?_) (cU a o.dst undef).1 (cU a o.dst undef).2 ((iY aN o.dst _).trans qV) ?_)
    · exact ⟨#[],rfl,.nil⟩
    · refine ⟨fun e=>by simp [sq,ho] at e,fun cc e=>by simp [ho] at e,fun t0 x0 y0 e A hA cM k hk=>?_⟩
      rw [ho,Op.store.injEq] at e
      obtain ⟨rfl,rfl,rfl⟩:=e
      rw [hA] at hr
      have CS:(storeVar t A (a.eval y)).run P w=.ok () w':=by simpa [Instr.storeAt,Instr.sureAddr] using hr
      simp only [storeVar,Sem.run_bind,(aq.ty _ _ hi).sz w,Result.andThen_ok] at CS
      split at CS
      · simp at CS
      · exact uR A rfl cM (by simpa using CS) k hk
  | nilCheck x=>
    simp only [ho] at ak
    have hx:=ev o.type x
    have hd:∃ A,a.eval x=.pointer (some A)∧st'=st.put o.dst (cn c st o.type x):=by
      split at ak
      · rename_i r q i heq
        split at ak
        · rename_i hl
          simp only [Option.some.injEq] at ak
          rw [heq] at hx
          obtain ⟨A,hA,_⟩:=rU h.rt h.mem hx (by simp only [hl,if_true]; rfl)
          exact ⟨A,hA,by rw [heq]; exact ak.symm⟩
        · simp at ak
      · rename_i cs i heq
        simp only [Option.some.injEq] at ak
        rw [heq] at hx
        obtain ⟨A,hA,_⟩:=rU h.rt h.mem hx rfl
        exact ⟨A,hA,by rw [heq]; exact ak.symm⟩
      · simp at ak
    obtain ⟨A,hA,cy⟩:=hd
    refine cK (v:=a.eval x) ?_ hx cy
    unfold execOp
    simp only [ho,hA]
    rfl
  | binOp op t x y z=>
    simp only [ho] at ak
    split at ak
    case h_2=>simp at ak
    rename_i d hb
    simp only [Option.some.injEq] at ak
    obtain ⟨v,hr,hv⟩:=SU aq (x:=x) (y:=y) (ev t x) (ev t y) hb
    exact cK (by unfold execOp; simp only [ho,Sem.run_bind] at hr ⊢; rw [hr]; rfl) hv ak.symm
  | unOp op t x=>
    simp only [ho] at ak
    split at ak
    case h_2=>simp at ak
    rename_i d hb
    simp only [Option.some.injEq] at ak
    obtain ⟨v,hr,hv⟩:=XR (P:=P) (ev o.type x) hb
    exact cK (by unfold execOp; simp only [ho,Sem.run_bind,hr,Result.andThen_ok,Sem.run_pure]) hv ak.symm
  | makeFunc fn first gz=>
    cases fn with
    | func f=>
      simp only [ho] at ak
      split at ak
      case isFalse=>simp at ak
      rename_i hf
      simp only [Option.some.injEq] at ak
      have MO:first=#[]:=Array.eq_empty_of_size_eq_zero hf.1
      subst MO
      refine cK (v:=.func (.func f) #[] (gz.map a.eval)) (by simp [execOp,ho,Instr.makeFunc]) ?_ ak.symm
      refine ⟨_,rfl,?_⟩
      refine dk (by simp) (fun i x y hx hy=>?_)
      have hs:single x=true:=List.all_eq_true.1 hf.2 x (List.mem_of_getElem? hx)
      simp only [Array.toList_map,List.getElem?_map] at hx hy
      cases hq:gz.toList[i]? with
      | none=>simp [hq] at hx
      | some q=>
        simp only [hq,Option.map_some,Option.some.injEq] at hx hy
        subst hy
        have hv:=ev o.type q
        rw [hx] at hv
        cases x<;>first | exact hv | simp [single] at hs
    | _=>simp [ho] at ak
  | makeSlice t l cp=>
    simp only [ho] at ak
    split at ak
    case h_2=>simp at ak
    rename_i e sz pG z gd
    split at ak
    case h_2=>simp at ak
    rename_i ei kl li kc ci iX hl hc
    split at ak
    case isFalse=>simp at ak
    rename_i h0
    split at ak
    case isFalse=>simp at ak
    rename_i zX
    split at ak
    case isFalse=>simp at ak
    rename_i hb
    have Yg:=ev o.type l
    rw [hl] at Yg
    have z8:=ev o.type cp
    rw [hc] at z8
    have Yg:=gp Yg
    have z8:=gp z8
    refine yj rfl ak (fun t' ht h1 h2 h3=>?_)
    obtain ⟨v,w',hr,hG,hS⟩:=My aq h gd rfl iX (kl:=kl) (kc:=kc) h0 zX hb h1 h2 h3
    exact ⟨v,w',by unfold execOp; simp only [ho,Yg,z8,Sem.run_bind,hr,Result.andThen_ok,Sem.run_pure],.alloc hG (by simp [sq,ho]),hS⟩
  | convert src dst x=>
    simp only [ho] at ak
    split at ak
    · rename_i d hc
      simp only [Option.some.injEq] at ak
      obtain ⟨v,hr,hv⟩:=MM aq h (ev src x) hc
      replace hr:=hr w (dG.refl w)
      exact cK (by unfold execOp; simp only [ho,Sem.run_bind,hr,Result.andThen_ok,Sem.run_pure]) hv ak.symm
    · rename_i d cs hc
      refine yj rfl ak (fun t' ht h1 h2 h3=>?_)
      obtain ⟨v,w',hr,hS⟩:=Tr aq h (ev src x) hc h1 h2 h3
      exact ⟨v,w',by unfold execOp; simp only [ho,Sem.run_bind,hr,Result.andThen_ok,Sem.run_pure],⟨fun e=>by simp [sq,ho] at e,fun cc e=>by simp [ho] at e,fun t0 x0 y0 e=>by simp [ho] at e⟩,hS⟩
    · simp at ak
  | slice t x lo hi mx=>
    cases mx with
    | some _=>simp [ho] at ak
    | none=>
      simp only [ho] at ak
      split at ak
      case h_2=>simp at ak
      rename_i d hs
      simp only [Option.some.injEq] at ak
      have MP:∀ y:Option Operand,Jo w (af C w S Hx) S (y.map (cn c st o.type)) (y.map a.eval):=by
        intro y
        cases y with
        | none=>exact .inl ⟨rfl,rfl⟩
        | some y=>exact .inr ⟨_,_,rfl,rfl,ev o.type y⟩
      obtain ⟨v,hr,hv⟩:=Mp aq h.rt h.mem (ev t x) (MP lo) (MP hi) hs
      exact cK (by unfold execOp; simp only [ho,Option.map_none,Sem.run_bind,hr,Result.andThen_ok,Sem.run_pure]) hv ak.symm
  | fieldAddr s x f=>
    simp only [ho] at ak
    split at ak
    case h_2=>simp at ak
    rename_i lG szs sz pG z gd
    split at ak
    case h_2=>simp at ak
    rename_i k hk
    split at ak
    case h_2=>simp at ak
    rename_i d hs
    simp only [Option.some.injEq] at ak
    obtain ⟨v,hr,hv⟩:=zO aq h.rt h.mem gd hk (ev o.type x) hs
    exact cK (by unfold execOp; simp only [ho,Sem.run_bind,hr,Result.andThen_ok,Sem.run_pure]) hv ak.symm
  | indexAddr t x i=>
    simp only [ho] at ak
    split at ak
    case h_2=>simp at ak
    rename_i k i' hi
    split at ak
    case h_2=>simp at ak
    rename_i d hs
    simp only [Option.some.injEq] at ak
    have qm:=ev o.type i
    rw [hi] at qm
    have qm:=gp qm
    obtain ⟨v,hr,hv⟩:=zQ aq h.rt h.mem (k:=k) (ev t x) hs
    exact cK (by unfold execOp; simp only [ho,qm,Sem.run_bind,hr,Result.andThen_ok,Sem.run_pure]) hv ak.symm
  | index t x i=>
    simp only [ho] at ak
    split at ak
    case h_2=>simp at ak
    rename_i k i' hi
    split at ak
    case h_2=>simp at ak
    rename_i d hs
    simp only [Option.some.injEq] at ak
    have qm:=ev o.type i
    rw [hi] at qm
    have qm:=gp qm
    obtain ⟨v,hr,hv⟩:=ML aq (k:=k) (ev o.type x) hs
    exact cK (by unfold execOp; simp only [ho,qm,Sem.run_bind,hr,Result.andThen_ok,Sem.run_pure]) hv ak.symm
  | extract x i=>
    simp only [ho] at ak
    split at ak
    case h_2=>simp at ak
    rename_i vs hx
    split at ak
    case h_2=>simp at ak
    rename_i d hs
    simp only [Option.some.injEq] at ak
    have Tx:=ev o.type x
    rw [hx] at Tx
    obtain ⟨v,hr,hv⟩:=EW (P:=P) Tx hs
    exact cK (by unfold execOp; simp only [ho,Sem.run_bind,hr,Result.andThen_ok,Sem.run_pure]) hv ak.symm
  | call cc=>
    simp only [ho] at ak
    split at ak
    · simp at ak
    rename_i cX
    simp only [ne_eq,Decidable.not_not] at cX
    have vT:∀ {ds:List D},((cc.args.toList.zip cc.argTypes.toList).map fun p=>cn c st p.2 p.1)=ds→cb (cr w (af C w S Hx) S) ds (cc.args.map a.eval).toList:=by
      intro ds MQ
      subst MQ
      refine dk (by simp [cX]) (fun i x y hx hy=>?_)
      simp only [Array.toList_map,List.getElem?_map] at hx hy
      cases hq:(cc.args.toList.zip cc.argTypes.toList)[i]? with
      | none=>simp [hq] at hx
      | some q=>
        simp only [hq,Option.map_some,Option.some.injEq] at hx
        rw [List.getElem?_zip_eq_some] at hq
        simp only [hq.1,Option.map_some,Option.some.injEq] at hy
        subst hx; subst hy
        exact ev q.2 q.1
    split at ak
    · rename_i f hf
      exact absurd hf (ot cc f ho)
    · rename_i hb
      split at ak
      case h_2=>simp at ak
      rename_i x t hx ht
      split at ak
      case h_2=>simp at ak
      rename_i d hl
      simp only [Option.some.injEq] at ak
      have ha:=vT hx
      have gW:cc.args.map a.eval=#[(cc.args.map a.eval).toList.headD undef]:=by
        cases eF:(cc.args.map a.eval).toList with
        | nil=>rw [eF] at ha; cases ha
        | cons y ys=>rw [eF] at ha; cases ha with
          | cons _ h2=>cases h2; rw [← Array.toArray_toList (xs:=cc.args.map a.eval),eF]; rfl
      have Ab:cc.argTypes=#[t]:=by rw [← Array.toArray_toList (xs:=cc.argTypes),ht]
      have MR:cr w (af C w S Hx) S x ((cc.args.map a.eval).toList.headD undef):=by
        cases eF:(cc.args.map a.eval).toList with
        | nil=>rw [eF] at ha; cases ha
        | cons y ys=>rw [eF] at ha; cases ha with
          | cons h1 _=>exact h1
      obtain ⟨v,hr,hv⟩:=SW aq h.rt h.mem MR hl o.type
      exact cK (by unfold execOp; simp only [ho,resolve,hb,invoke,builtin,Sem.run_bind,Sem.run_pure,Result.andThen_ok]; rw [gW,Ab,hr]; rfl) hv ak.symm
    · rename_i hb
      split at ak
      case h_2=>simp at ak
      rename_i k x k' y hx
      simp only [Option.some.injEq] at ak
      have ha:=vT hx
      have gW:cc.args.map a.eval=#[.int k x,.int k' y]:=by
        cases eF:(cc.args.map a.eval).toList with
        | nil=>rw [eF] at ha; cases ha
        | cons y ys=>rw [eF] at ha; cases ha with
          | cons h1 h2=>
            cases h2 with
            | cons h3 h4=>
              cases h4
              rw [← Array.toArray_toList (xs:=cc.args.map a.eval),eF,gp h1,gp h3]
      refine cK (v:=.int k (if y < x then y else x)) ?_ (SS _ _) ak.symm
      unfold execOp
      simp only [ho,resolve,hb,invoke,builtin,Sem.run_bind,Sem.run_pure,Result.andThen_ok]
      rw [gW]
      simp [Builtin.min_,Builtin.min2]
    · rename_i hb
      split at ak
      case h_2=>simp at ak
      rename_i k x k' y hx
      simp only [Option.some.injEq] at ak
      have ha:=vT hx
      have gW:cc.args.map a.eval=#[.int k x,.int k' y]:=by
        cases eF:(cc.args.map a.eval).toList with
        | nil=>rw [eF] at ha; cases ha
        | cons y ys=>rw [eF] at ha; cases ha with
          | cons h1 h2=>
            cases h2 with
            | cons h3 h4=>
              cases h4
              rw [← Array.toArray_toList (xs:=cc.args.map a.eval),eF,gp h1,gp h3]
      refine cK (v:=.int k (if y>x then y else x)) ?_ (SS _ _) ak.symm
      unfold execOp
      simp only [ho,resolve,hb,invoke,builtin,Sem.run_bind,Sem.run_pure,Result.andThen_ok]
      rw [gW]
      simp [Builtin.max_,Builtin.max2]
    · rename_i hb
      split at ak
      case h_2=>simp at ak
      rename_i s x t tx hx ht
      have ha:=vT hx
      obtain ⟨us,ux,gW,vS,MR⟩:∃ us ux,cc.args.map a.eval=#[us,ux]∧cr w (af C w S Hx) S s us∧cr w (af C w S Hx) S x ux:=by
        cases eF:(cc.args.map a.eval).toList with
        | nil=>rw [eF] at ha; cases ha
        | cons y ys=>rw [eF] at ha; cases ha with
          | cons h1 h2=>
            cases h2 with
            | cons h3 h4=>
              cases h4
              exact ⟨_,_,by rw [← Array.toArray_toList (xs:=cc.args.map a.eval),eF],h1,h3⟩
      have Ab:cc.argTypes=#[t,tx]:=by rw [← Array.toArray_toList (xs:=cc.argTypes),ht]
      obtain ⟨ch,dd,qV,LX⟩:∃ ch:St,∃ cs:List D,ch.of=st.of∧ch.root o.dst cs (fun d=>.ref d [] 0 none)=some st':=Tt ak
      obtain ⟨_,t',oP⟩:=uf LX
      rw [oP] at ak
      obtain ⟨v,w',hr,hG,S',ie⟩:=To aq h vS MR (ty:=o.type) (gj t' oP).1 (gj t' oP).2 ak
      refine ph (v:=v) (w':=w') (by unfold execOp; simp only [ho,resolve,hb,invoke,builtin,Sem.run_bind,Sem.run_pure,Result.andThen_ok]; rw [gW,Ab,hr]; rfl) (hK _ _ S' (by rw [oP]; exact ie) (cU a o.dst v).1 (cU a o.dst v).2 ((uf LX).1.trans qV) ⟨fun e=>by simp [sq,ho] at e,fun _ _ _=>hG,fun t0 x0 y0 e=>by simp [ho] at e⟩)
    · simp at ak
  | _=>simp [ho] at ak
end
end Go.Proofs.YtockoilcnmljiaaGreat
namespace Go.Proofs.YtockoilcnmljiaaGreat
def Rd (o:Oper) (a:Act) (w w2:World):Prop:=
  match o.op with
  | .load _ x=>zN (a.eval x) w w2
  | _=>dG w w2
theorem dG.rd {w w2:World} (h:dG w w2) (o:Oper) (a:Act):Rd o a w w2:=by
  unfold Rd
  split
  · exact h.af4 _
  · exact h
section
variable {P:Program} {c:cx} (aq:ek c P) {C:Ctx} {Hx:List T} {w:World} {st st':St} {o:Oper} {a:Act} {aE:List (Array Value)} {S:List (Nat × RT)}
  {cl:FuncId→List D→Option (D × List D)} {ci:FuncId→List D→Nat→St→Option (D × St)} {aB:FuncId}
include aq
theorem MS (h:Rel C Hx w st (a.tmps::aE) S) {b:Bool} (lO:oq c o=some b) (ak:fb c cl ci aB st o=some st'):
    ∃ v d,(∀ w2,(b=true∨Rd o a w w2)→(execOp a.eval o).run P w2=.ok (.value v) w2)∧cr w (af C w S Hx) S d v∧st'=st.put o.dst d:=by
  have fP:ma w (af C w S Hx) S st.tm a.tmps:=by cases h.oO with | cons a _=>exact a
  have ev:=fun t x=>vM (c:=c) fP t x
  have cK:∀ {d:D} {v:Value},(∀ w2,(b=true∨Rd o a w w2)→(execOp a.eval o).run P w2=.ok (.value v) w2)→cr w (af C w S Hx) S d v→st'=st.put o.dst d→∃ v d,(∀ w2,(b=true∨Rd o a w w2)→(execOp a.eval o).run P w2=.ok (.value v) w2)∧cr w (af C w S Hx) S d v∧st'=st.put o.dst d:=
    fun h1 h2 h3=>⟨_,_,h1,h2,h3⟩
  unfold fb at ak
  cases ho:o.op with
  | move x=>
    simp only [ho,Option.some.injEq] at ak
    exact cK (fun w2 _=>by unfold execOp; simp only [ho]; rfl) (ev o.type x) ak.symm
  | assign x=>
    simp only [ho,Option.some.injEq] at ak
    exact cK (fun w2 _=>by unfold execOp; simp only [ho]; rfl) (ev o.type x) ak.symm
  | pick b x y=>
    simp only [ho] at ak
    split at ak
    case h_2=>simp at ak
    rename_i t hb
    simp only [Option.some.injEq] at ak
    have Fi:=ev o.type b
    rw [hb] at Fi
    have Fi:a.eval b=.bool t:=Fi
    refine cK (v:=if t then a.eval x else a.eval y) (d:=if t then cn c st o.type x else cn c st o.type y) ?_ ?_ ak.symm
    · intro w2 _
      unfold execOp
      simp only [ho,Fi,asBool,Sem.run_bind,Sem.run_pure,Result.andThen_ok]
    · cases t
      · exact ev o.type y
      · exact ev o.type x
  | alloc e=>simp [oq,ho] at lO
  | box e x=>simp [oq,ho] at lO
  | build t ps=>
    simp only [ho] at ak
    split at ak
    · rename_i lG szs sz pG z gd
      split at ak
      case h_2=>simp at ak
      rename_i cs hf
      simp only [Option.some.injEq] at ak
      obtain ⟨v,hr,hv⟩:=zY aq h gd hf
      exact cK (fun w2 _=>by unfold execOp; simp only [ho,Sem.run_bind,hr,Result.andThen_ok,Sem.run_pure]) hv ak.symm
    · rename_i n e sz pG z gd
      split at ak
      case h_2=>simp at ak
      rename_i ei iX
      split at ak
      case h_2=>simp at ak
      rename_i cs hf
      simp only [Option.some.injEq] at ak
      obtain ⟨v,hr,hv⟩:=CO aq h gd iX hf
      exact cK (fun w2 _=>by unfold execOp; simp only [ho,Sem.run_bind,hr,Result.andThen_ok,Sem.run_pure]) hv ak.symm
    · simp at ak
  | buildSlice t n ps=>simp [oq,ho] at lO
  | load t x=>
    simp only [ho] at ak
    split at ak
    case h_2=>simp at ak
    rename_i i hi
    split at ak
    case h_2=>simp at ak
    rename_i d hl
    simp only [Option.some.injEq] at ak
    obtain ⟨v,hr,hv⟩:=Hl aq h.rt h.mem hi (ev o.type x) hl
    exact cK (fun w2 oQ=>by have hr:=hr w2 (by have h9:=oQ.resolve_left (by simp only [oq,ho,Option.some.injEq] at lO; rw [← lO]; simp); simpa only [Rd,ho] using h9); unfold execOp; simp only [ho,Sem.run_bind,hr,Result.andThen_ok,Sem.run_pure]) hv ak.symm
  | store t x y=>simp [oq,ho] at lO
  | nilCheck x=>
    simp only [ho] at ak
    have hx:=ev o.type x
    have hd:∃ A,a.eval x=.pointer (some A)∧st'=st.put o.dst (cn c st o.type x):=by
      split at ak
      · rename_i r q i heq
        split at ak
        · rename_i hl
          simp only [Option.some.injEq] at ak
          rw [heq] at hx
          obtain ⟨A,hA,_⟩:=rU h.rt h.mem hx (by simp only [hl,if_true]; rfl)
          exact ⟨A,hA,by rw [heq]; exact ak.symm⟩
        · simp at ak
      · rename_i cs i heq
        simp only [Option.some.injEq] at ak
        rw [heq] at hx
        obtain ⟨A,hA,_⟩:=rU h.rt h.mem hx rfl
        exact ⟨A,hA,by rw [heq]; exact ak.symm⟩
      · simp at ak
    obtain ⟨A,hA,cy⟩:=hd
    refine cK (v:=a.eval x) ?_ hx cy
    intro w2 _
    unfold execOp
    simp only [ho,hA]
    rfl
  | binOp op t x y z=>
    simp only [ho] at ak
    split at ak
    case h_2=>simp at ak
    rename_i d hb
    simp only [Option.some.injEq] at ak
    obtain ⟨v,hr,hv⟩:=SU aq (x:=x) (y:=y) (ev t x) (ev t y) hb
    exact cK (fun w2 _=>by unfold execOp; simp only [ho,Sem.run_bind] at hr ⊢; rw [hr]; rfl) hv ak.symm
  | unOp op t x=>
    simp only [ho] at ak
    split at ak
    case h_2=>simp at ak
    rename_i d hb
    simp only [Option.some.injEq] at ak
    obtain ⟨v,hr,hv⟩:=XR (P:=P) (ev o.type x) hb
    exact cK (fun w2 _=>by unfold execOp; simp only [ho,Sem.run_bind,hr,Result.andThen_ok,Sem.run_pure]) hv ak.symm
  | makeFunc fn first gz=>
    cases fn with
    | func f=>
      simp only [ho] at ak
      split at ak
      case isFalse=>simp at ak
      rename_i hf
      simp only [Option.some.injEq] at ak
      have MO:first=#[]:=Array.eq_empty_of_size_eq_zero hf.1
      subst MO
      refine cK (v:=.func (.func f) #[] (gz.map a.eval)) (by simp [execOp,ho,Instr.makeFunc]) ?_ ak.symm
      refine ⟨_,rfl,?_⟩
      refine dk (by simp) (fun i x y hx hy=>?_)
      have hs:single x=true:=List.all_eq_true.1 hf.2 x (List.mem_of_getElem? hx)
      simp only [Array.toList_map,List.getElem?_map] at hx hy
      cases hq:gz.toList[i]? with
      | none=>simp [hq] at hx
      | some q=>
        simp only [hq,Option.map_some,Option.some.injEq] at hx hy
        subst hy
        have hv:=ev o.type q
        rw [hx] at hv
        cases x<;>first | exact hv | simp [single] at hs
    | _=>simp [ho] at ak
  | makeSlice t l cp=>simp [oq,ho] at lO
  | convert src dst x=>
    simp only [ho] at ak
    split at ak
    · rename_i d hc
      simp only [Option.some.injEq] at ak
      obtain ⟨v,hr,hv⟩:=MM aq h (ev src x) hc
      exact cK (fun w2 oQ=>by have hr:=hr w2 (by have h9:=oQ.resolve_left (by simp only [oq,ho] at lO; split at lO<;>simp at lO; rw [lO]; simp); simpa only [Rd,ho] using h9); unfold execOp; simp only [ho,Sem.run_bind,hr,Result.andThen_ok,Sem.run_pure]) hv ak.symm
    · rename_i d cs hc
      exfalso
      simp only [oq,ho] at lO
      unfold vJ at hc
      split at hc
      case h_2=>simp at hc
      rename_i si di Yf Tp
      rw [Tp] at lO
      split at hc
      · simp at hc
      · simp at hc
      · simp at hc
      · split at hc
        · split at hc
          · split at hc
            · split at hc<;>simp at hc
            · simp at hc
          · simp at hc
        · simp at hc
      · rename_i Yh hk yU
        obtain ⟨ty,a1,a2,a3⟩:=di
        simp only at Yh
        subst Yh
        simp at lO
      · simp at hc
    · simp at ak
  | slice t x lo hi mx=>
    cases mx with
    | some _=>simp [ho] at ak
    | none=>
      simp only [ho] at ak
      split at ak
      case h_2=>simp at ak
      rename_i d hs
      simp only [Option.some.injEq] at ak
      have MP:∀ y:Option Operand,Jo w (af C w S Hx) S (y.map (cn c st o.type)) (y.map a.eval):=by
        intro y
        cases y with
        | none=>exact .inl ⟨rfl,rfl⟩
        | some y=>exact .inr ⟨_,_,rfl,rfl,ev o.type y⟩
      obtain ⟨v,hr,hv⟩:=Mp aq h.rt h.mem (ev t x) (MP lo) (MP hi) hs
      exact cK (fun w2 _=>by unfold execOp; simp only [ho,Option.map_none,Sem.run_bind,hr,Result.andThen_ok,Sem.run_pure]) hv ak.symm
  | fieldAddr s x f=>
    simp only [ho] at ak
    split at ak
    case h_2=>simp at ak
    rename_i lG szs sz pG z gd
    split at ak
    case h_2=>simp at ak
    rename_i k hk
    split at ak
    case h_2=>simp at ak
    rename_i d hs
    simp only [Option.some.injEq] at ak
    obtain ⟨v,hr,hv⟩:=zO aq h.rt h.mem gd hk (ev o.type x) hs
    exact cK (fun w2 _=>by unfold execOp; simp only [ho,Sem.run_bind,hr,Result.andThen_ok,Sem.run_pure]) hv ak.symm
  | indexAddr t x i=>
    simp only [ho] at ak
    split at ak
    case h_2=>simp at ak
    rename_i k i' hi
    split at ak
    case h_2=>simp at ak
    rename_i d hs
    simp only [Option.some.injEq] at ak
    have qm:=ev o.type i
    rw [hi] at qm
    have qm:=gp qm
    obtain ⟨v,hr,hv⟩:=zQ aq h.rt h.mem (k:=k) (ev t x) hs
    exact cK (fun w2 _=>by unfold execOp; simp only [ho,qm,Sem.run_bind,hr,Result.andThen_ok,Sem.run_pure]) hv ak.symm
  | index t x i=>
    simp only [ho] at ak
    split at ak
    case h_2=>simp at ak
    rename_i k i' hi
    split at ak
    case h_2=>simp at ak
    rename_i d hs
    simp only [Option.some.injEq] at ak
    have qm:=ev o.type i
    rw [hi] at qm
    have qm:=gp qm
    obtain ⟨v,hr,hv⟩:=ML aq (k:=k) (ev o.type x) hs
    exact cK (fun w2 _=>by unfold execOp; simp only [ho,qm,Sem.run_bind,hr,Result.andThen_ok,Sem.run_pure]) hv ak.symm
  | extract x i=>
    simp only [ho] at ak
    split at ak
    case h_2=>simp at ak
    rename_i vs hx
    split at ak
    case h_2=>simp at ak
    rename_i d hs
    simp only [Option.some.injEq] at ak
    have Tx:=ev o.type x
    rw [hx] at Tx
    obtain ⟨v,hr,hv⟩:=EW (P:=P) Tx hs
    exact cK (fun w2 _=>by unfold execOp; simp only [ho,Sem.run_bind,hr,Result.andThen_ok,Sem.run_pure]) hv ak.symm
  | call cc=>
    simp only [ho] at ak
    split at ak
    · simp at ak
    rename_i cX
    simp only [ne_eq,Decidable.not_not] at cX
    have vT:∀ {ds:List D},((cc.args.toList.zip cc.argTypes.toList).map fun p=>cn c st p.2 p.1)=ds→cb (cr w (af C w S Hx) S) ds (cc.args.map a.eval).toList:=by
      intro ds MQ
      subst MQ
      refine dk (by simp [cX]) (fun i x y hx hy=>?_)
      simp only [Array.toList_map,List.getElem?_map] at hx hy
      cases hq:(cc.args.toList.zip cc.argTypes.toList)[i]? with
      | none=>simp [hq] at hx
      | some q=>
        simp only [hq,Option.map_some,Option.some.injEq] at hx
        rw [List.getElem?_zip_eq_some] at hq
        simp only [hq.1,Option.map_some,Option.some.injEq] at hy
        subst hx; subst hy
        exact ev q.2 q.1
    split at ak
    · rename_i f hf
      simp [oq,ho,hf] at lO
    · rename_i hb
      split at ak
      case h_2=>simp at ak
      rename_i x t hx ht
      split at ak
      case h_2=>simp at ak
      rename_i d hl
      simp only [Option.some.injEq] at ak
      have ha:=vT hx
      have gW:cc.args.map a.eval=#[(cc.args.map a.eval).toList.headD undef]:=by
        cases eF:(cc.args.map a.eval).toList with
        | nil=>rw [eF] at ha; cases ha
        | cons y ys=>rw [eF] at ha; cases ha with
          | cons _ h2=>cases h2; rw [← Array.toArray_toList (xs:=cc.args.map a.eval),eF]; rfl
      have Ab:cc.argTypes=#[t]:=by rw [← Array.toArray_toList (xs:=cc.argTypes),ht]
      have MR:cr w (af C w S Hx) S x ((cc.args.map a.eval).toList.headD undef):=by
        cases eF:(cc.args.map a.eval).toList with
        | nil=>rw [eF] at ha; cases ha
        | cons y ys=>rw [eF] at ha; cases ha with
          | cons h1 _=>exact h1
      obtain ⟨v,hr,hv⟩:=SW aq h.rt h.mem MR hl o.type
      exact cK (fun w2 _=>by unfold execOp; simp only [ho,resolve,hb,invoke,builtin,Sem.run_bind,Sem.run_pure,Result.andThen_ok]; rw [gW,Ab,hr]; rfl) hv ak.symm
    · rename_i hb
      split at ak
      case h_2=>simp at ak
      rename_i k x k' y hx
      simp only [Option.some.injEq] at ak
      have ha:=vT hx
      have gW:cc.args.map a.eval=#[.int k x,.int k' y]:=by
        cases eF:(cc.args.map a.eval).toList with
        | nil=>rw [eF] at ha; cases ha
        | cons y ys=>rw [eF] at ha; cases ha with
          | cons h1 h2=>
            cases h2 with
            | cons h3 h4=>
              cases h4
              rw [← Array.toArray_toList (xs:=cc.args.map a.eval),eF,gp h1,gp h3]
      refine cK (v:=.int k (if y < x then y else x)) ?_ (SS _ _) ak.symm
      intro w2 _
      unfold execOp
      simp only [ho,resolve,hb,invoke,builtin,Sem.run_bind,Sem.run_pure,Result.andThen_ok]
      rw [gW]
      simp [Builtin.min_,Builtin.min2]
    · rename_i hb
      split at ak
      case h_2=>simp at ak
      rename_i k x k' y hx
      simp only [Option.some.injEq] at ak
      have ha:=vT hx
      have gW:cc.args.map a.eval=#[.int k x,.int k' y]:=by
        cases eF:(cc.args.map a.eval).toList with
        | nil=>rw [eF] at ha; cases ha
        | cons y ys=>rw [eF] at ha; cases ha with
          | cons h1 h2=>
            cases h2 with
            | cons h3 h4=>
              cases h4
              rw [← Array.toArray_toList (xs:=cc.args.map a.eval),eF,gp h1,gp h3]
      refine cK (v:=.int k (if y>x then y else x)) ?_ (SS _ _) ak.symm
      intro w2 _
      unfold execOp
      simp only [ho,resolve,hb,invoke,builtin,Sem.run_bind,Sem.run_pure,Result.andThen_ok]
      rw [gW]
      simp [Builtin.max_,Builtin.max2]
    · rename_i hb
      simp [oq,ho,hb] at lO
    · simp at ak
  | _=>simp [ho] at ak
end
end Go.Proofs.YtockoilcnmljiaaGreat
namespace Go.Proofs.YtockoilcnmljiaaGreat
mutual
theorem ug {w:World} {X X':Bool→Nat→Prop} (h:∀ b k,X b k→X' b k):∀ (d:D) (u:Value),Ext w X d u→Ext w X' d u
  | d,u,hu=>gi (fun b k hk=>⟨h b k hk,rfl⟩) d u hu
end
theorem fJ {w:World} {X X':Bool→Nat→Prop} (h:∀ b k,X b k→X' b k) (ts:List T) (hs:bF w X ts):bF w X' ts:=
  gn (fun b k hk=>⟨h b k hk,rfl⟩) ts hs (fun _ _=>rfl)
theorem nA {w w':World} {X X':Bool→Nat→Prop} (cy:jh w w' X X') {S:List (Nat × RT)} {d:D} {u:Value} (h:bj w X S d u):bj w' X' S d u:=by
  have he:∀ d u,Ext w X d u→Ext w' X' d u:=gi cy
  cases d with
  | ref r q o x=>exact h
  | ptr r q o=>exact h
  | da cs o=>
    obtain ⟨b,off,c,e,fz,us,h1,h2,h3,h4,h5⟩:=h
    exact ⟨b,off,c,e,fz,us,h1,(cy true b h2).1,by rw [(cy true b h2).2]; exact h3,sr cy cs us h4,h5⟩
  | _=>exact he _ _ h
theorem Tz {w w':World} {X X':Bool→Nat→Prop} (cy:jh w w' X X') {S:List (Nat × RT)} {d:D} {u:Value} (h:gD w X S d u):gD w' X' S d u:=by
  rcases sw h with ⟨cs,us,rfl,rfl,h1⟩ | ⟨f,cs,us,rfl,rfl,h1⟩ | ⟨_,_,h1⟩
  · exact ⟨us,rfl,h1.mono (fun _ _=>nA cy)⟩
  · exact ⟨us,rfl,h1.mono (fun _ _=>nA cy)⟩
  · exact ej (nA cy h1)
theorem Zp {ts:List T} {k:Nat}:k∈ah ts↔∃ t∈ts,k∈t.ft:=by
  rw [nv]
  simp only [List.mem_flatten,List.mem_map]
  constructor
  · rintro ⟨l,⟨t,h1,rfl⟩,h2⟩
    exact ⟨t,h1,h2⟩
  · rintro ⟨t,h1,h2⟩
    exact ⟨_,⟨t,h1,rfl⟩,h2⟩
theorem lP {S:List (Nat × RT)} {r:Nat} {R:RT} (h:lk S r=some R) {k:Nat} (hk:k∈R.ft):k∈cF S:=by
  obtain ⟨A,B,h1,_⟩:=lI h
  rw [h1]; simp [hk]
theorem yk {S:List (Nat × RT)} (hn:(cF S).Nodup) {r r':Nat} {R R':RT} {b:Nat} (h:lk S r=some R) (hb:R.box=some b) (h':lk S r'=some R') (hk:b∈R'.ft):r'=r:=by
  by_cases he:r'=r
  · exact he
  obtain ⟨A,B,h1,h2⟩:=lI h
  have h3:lk (pt S r ⟨none,[]⟩) r'=some R':=by rw [dD _ _ he]; exact h'
  have h4:=lP h3 hk
  rw [h2] at h4
  rw [h1] at hn
  have X5:b∈R.ft:=by simp [RT.ft,hb]
  simp only [RT.ft,Option.toList,ah,List.append_nil,List.mem_append] at h4
  rw [List.nodup_append,List.nodup_append] at hn
  rcases h4 with h4 | h4
  · exact absurd rfl (hn.1.2.2 b h4 b X5)
  · exact absurd rfl (hn.2.2 b (by simp [X5]) b h4)
section
variable {C:Ctx} {w w':World} {st:St} {aE:List (Array Value)} {S:List (Nat × RT)} {Hs H Os:List T} {bxs:List Nat}
theorem Dz (h:Rel C (Hs++H) w st aE S) (uN:∀ b∈bxs,∃ r R,lk S r=some R∧R.box=some b∧R.cs=[])
    (cX:w.heap.size≤w'.heap.size) (hold:∀ k,k < w.heap.size→k∉ah Hs→k∉bxs→w'.heap[k]?=w.heap[k]?) (nc:w'.os=w.os) (tT:w'.tape=w.tape) (uM:w'.output=w.output)
    (hO:bF w' (fun b k=>k < w'.heap.size∧k∉ah Os∧k∉bxs∧(af C w S (Hs++H) b k∨k∈ah Hs∨w.heap.size≤k)) Os)
    (fh:(ah Os).Nodup) (alF:∀ k∈ah Os,k∉bxs) (eL:∀ k∈ah Os,k < w'.heap.size∧(k∈ah Hs∨w.heap.size≤k)) (eP:∀ b∈bxs,lh w' b 0 0 []):
    Rel C (Os++H) w' st aE S∧gV C w w' S S (Hs++H) (Os++H) id:=by
  have CI:∀ b∈bxs,b∈cF S:=fun b hb=>by
    obtain ⟨r,R,h1,h2,_⟩:=uN b hb
    exact lP h1 (by simp [RT.ft,h2])
  have hnS:=h.mem.nd
  rw [List.nodup_append,bg,List.nodup_append] at hnS
  obtain ⟨nS,⟨nHs,nH,dHs⟩,dS⟩:=hnS
  have cT:=h.mem.lt
  have TA:∀ k∈cF S,k < w.heap.size:=fun k hk=>cT k (List.mem_append.2 (.inl hk))
  have Yi:∀ k∈ah H,k < w.heap.size:=fun k hk=>cT k (by simp [bg,hk])
  have Yj:∀ k∈cF S,k∉ah Hs:=fun k hk h2=>dS k hk k (by simp [h2]) rfl
  have SH:∀ k∈cF S,k∉ah H:=fun k hk h2=>dS k hk k (by simp [h2]) rfl
  have HHs:∀ k∈ah H,k∉ah Hs:=fun k hk h2=>dHs k h2 k hk rfl
  have OS:∀ k∈ah Os,k∉cF S:=fun k hk h2=>by
    rcases (eL k hk).2 with h3 | h3
    · exact Yj k h2 h3
    · have:=TA k h2; omega
  have OH:∀ k∈ah Os,k∉ah H:=fun k hk h2=>by
    rcases (eL k hk).2 with h3 | h3
    · exact HHs k h2 h3
    · have:=Yi k h2; omega
  have cy:jh w w' (af C w S (Hs++H)) (af C w' S (Os++H)):=by
    intro b k hk
    obtain ⟨k1,k2,k3,k4⟩:=hk
    rw [bg,List.mem_append,not_or] at k3
    refine ⟨⟨by omega,k2,?_,k4⟩,hold k k1 k3.1 (fun hb=>k2 (CI k hb))⟩
    rw [bg,List.mem_append,not_or]
    refine ⟨fun hk=>?_,k3.2⟩
    rcases (eL k hk).2 with h3 | h3
    · exact k3.1 h3
    · omega
  have X7:gV C w w' S S (Hs++H) (Os++H) id:=fun d u hd=>nA cy hd
  have vU:∀ b k,(k < w'.heap.size∧k∉ah Os∧k∉bxs∧(af C w S (Hs++H) b k∨k∈ah Hs∨w.heap.size≤k))→af C w' S (Os++H) b k:=by
    rintro b k ⟨k1,k2,k3,k4⟩
    have hFA:k∈ah Hs→k∈C.FA∨C.w0.heap.size≤k:=fun hk=>h.kept.ix k (by simp [bg,hk])
    refine ⟨k1,?_,?_,?_⟩
    · rcases k4 with k4 | k4 | k4
      · exact k4.2.1
      · exact fun h2=>Yj k h2 k4
      · exact fun h2=>by have:=TA k h2; omega
    · rw [bg,List.mem_append,not_or]
      refine ⟨k2,?_⟩
      rcases k4 with k4 | k4 | k4
      · have:=k4.2.2.1
        rw [bg,List.mem_append,not_or] at this
        exact this.2
      · exact fun h2=>HHs k h2 k4
      · exact fun h2=>by have:=Yi k h2; omega
    · intro hb
      rcases k4 with k4 | k4 | k4
      · exact k4.2.2.2 hb
      · exact .inr (hFA k4)
      · exact .inr (.inr (Nat.le_trans h.kept.size k4))
  refine ⟨⟨h.rt,⟨?_,?_,?_,?_⟩,?_,?_⟩,X7⟩
  · rw [List.nodup_append,bg,List.nodup_append]
    refine ⟨nS,⟨fh,nH,fun a ha b hb e=>OH a ha (e▸hb)⟩,fun a ha b hb e=>?_⟩
    subst e
    rcases List.mem_append.1 hb with hb | hb
    · exact OS a hb ha
    · exact SH a ha hb
  · intro r R hr
    obtain ⟨h1,h2⟩:=h.mem.root r R hr
    have hb:∀ b∈bxs,b∈R.ft→R.box=some b∧R.cs=[]:=by
      intro b hb hR
      obtain ⟨r',R',e1,e2,e3⟩:=uN b hb
      have:=yk nS e1 e2 hr hR
      subst this
      rw [e1,Option.some.injEq] at hr
      subst hr
      exact ⟨e2,e3⟩
    refine ⟨?_,fun t ht=>?_⟩
    · cases hx:R.box with
      | none=>trivial
      | some b=>
        rw [hx] at h1
        by_cases sE:b∈bxs
        · have:=(hb b sE (by simp [RT.ft,hx])).2
          rw [this]
          exact eP b sE
        · have abj:=lP hr (show b∈R.ft by simp [RT.ft,hx])
          obtain ⟨c,e,fz,g1,g2⟩:=h1
          exact ⟨c,e,fz,by rw [hold b (TA b abj) (Yj b abj) sE]; exact g1,g2⟩
    · have h3:=h2 t ht
      cases t with
      | v d u=>
        rcases h3 with h3 | ⟨e,h3⟩
        · exact .inl (gi cy _ _ h3)
        · exact .inr ⟨e,nA cy h3⟩
      | own s n cap a cs=>
        refine dK cy _ h3 (fun k hk=>?_)
        have hkR:k∈R.ft:=by simp only [RT.ft,List.mem_append]; exact .inr (Zp.2 ⟨_,ht,hk⟩)
        have Jz:=lP hr hkR
        refine hold k (TA k Jz) (Yj k Jz) (fun sE=>?_)
        have:=(hb k sE hkR).2
        rw [this] at ht
        simp at ht
  · rw [dL]
    refine ⟨fJ vU _ hO,?_⟩
    have hH:=((dL _ _).1 h.mem.hand).2
    exact gn cy _ hH (fun k hk=>hold k (Yi k hk) (HHs k hk) (fun hb=>SH k (CI k hb) hk))
  · intro k hk
    rcases List.mem_append.1 hk with hk | hk
    · have:=TA k hk; omega
    · rw [bg] at hk
      rcases List.mem_append.1 hk with hk | hk
      · exact (eL k hk).1
      · have:=Yi k hk; omega
  · exact h.oO.mono (fun _ _ ht=>wo X7 ht)
  · have hk:=h.kept
    refine ⟨nc.trans hk.os,tT.trans hk.tape,uM.trans hk.output,Nat.le_trans hk.size cX,fun k h1 h2=>?_,fun k h1=>?_,hk.par⟩
    · have h3:k∉cF S++ah (Hs++H):=fun h3=>by
        rcases hk.ix k h3 with h4 | h4
        · exact h2 h4
        · omega
      simp only [bg,List.mem_append,not_or] at h3
      rw [hold k (Nat.lt_of_lt_of_le h1 hk.size) h3.2.1 (fun hb=>h3.1 (CI k hb))]
      exact hk.block k h1 h2
    · rcases List.mem_append.1 h1 with h1 | h1
      · exact hk.ix k (by simp [h1])
      · rw [bg] at h1
        rcases List.mem_append.1 h1 with h1 | h1
        · rcases (eL k h1).2 with h2 | h2
          · exact hk.ix k (by simp [bg,h2])
          · exact .inr (Nat.le_trans hk.size h2)
        · exact hk.ix k (by simp [bg,h1])
end
end Go.Proofs.YtockoilcnmljiaaGreat
namespace Go.Proofs.YtockoilcnmljiaaGreat
def m9 (S S':List (Nat × RT)):Prop:=∀ r R,lk S r=some R→∃ R',lk S' r=some R'∧R'.box=R.box
theorem m9.refl (S:List (Nat × RT)):m9 S S:=fun _ R h=>⟨R,h,rfl⟩
theorem m9.trans {S S' yT:List (Nat × RT)} (h:m9 S S') (h':m9 S' yT):m9 S yT:=fun r R hr=>by
  obtain ⟨R1,h1,h2⟩:=h r R hr
  obtain ⟨R2,h4,h5⟩:=h' r R1 h1
  exact ⟨R2,h4,h5.trans h2⟩
theorem pJ.b {S S':List (Nat × RT)} (h:pJ S S'):m9 S S':=fun r R hr=>by
  obtain ⟨R1,h1,h2,_⟩:=h.fwd r R hr
  exact ⟨R1,h1,h2⟩
theorem Qh (g:D→D) (S:List (Nat × RT)):m9 S (fS g S):=fun r R hr=>⟨⟨R.box,R.cs.map (fT g)⟩,by rw [lq,hr]; rfl,rfl⟩
theorem DA {S:List (Nat × RT)} {r:Nat} {q:List Nat} {o:Nat} {t:T} (h:cu S r q o=some t):∃ R l,lk S r=some R∧aw R.cs q=some l∧l[o]?=some t:=by
  unfold cu at h
  cases hr:lk S r with
  | none=>simp [hr] at h
  | some R=>
    simp only [hr] at h
    cases hl:aw R.cs q with
    | none=>simp [hl] at h
    | some l=>simp only [hl] at h; exact ⟨R,l,rfl,hl,h⟩
section
variable {C:Ctx} {H:List T} {w:World} {st st':St} {aE:List (Array Value)} {S:List (Nat × RT)}
theorem MT {t' t0:T} (h:Rel C (t'::H) w st aE S) {r:Nat} {q:List Nat} {o:Nat} {ex:Bool} (hc0:cu S r q o=some t0) (ks:∃ d0 u0,t0=.v d0 u0∧(ex=false→fa (ct r q o ex) (bL d0)=bL d0)) (hl:la t0 t'∨(ex=true∧t'.val=t0.val))
    (iS:(st.eS (ct r q o ex)).hL r q o t'.er=some st'):
    ∃ S',Rel C H w st' aE S'∧gV C w w S S' (t'::H) H (ct r q o ex)∧st'.of=st.of∧m9 S S'∧cu S' r q o=some t'∧
      ∀ r' q' o' d0 u,(sn d0).isSome=true→bL d0=d0→cu S r' q' o'=some (.v d0 u)→(r'≠r∨under (q++[o]) (q'++[o'])=none)→cu S' r' q' o'=some (.v d0 u):=by
  obtain ⟨d0,u0,rfl,hd0⟩:=ks
  have hv:t'.val=(T.v d0 u0).val:=by
    rcases hl with hl | hl
    · exact hl.1
    · exact hl.2
  obtain ⟨R,l,hR,hl0,ho⟩:=DA hc0
  have hg:=mi r q o ex
  have Ff:=yb r q o ex
  have VM:gT (st.eS (ct r q o ex)).rt (fS (ct r q o ex) S):=by
    exact pj hg h.rt
  obtain ⟨R1,l1,t1,e1,e2,e3,e4,e5,e6,e7,e8⟩:=X8 (g:=ct r q o ex) hR hl0 ho
  have z1:t1=.v (fa (ct r q o ex) (bL d0)) u0∨t1=.v d0 u0:=by
    rcases e5 with rfl | ⟨_,rfl⟩
    · exact .inr rfl
    · exact .inl rfl
  have VS:t1.val=u0:=by rcases z1 with rfl | rfl<;>rfl
  have agj:t1.ft=[]:=by rcases z1 with rfl | rfl<;>rfl
  have agk:ex=false→sn t1.er=sn (bL d0):=fun e=>by
    rcases z1 with rfl | rfl
    · rw [hd0 e]; simp [T.er,CH]
    · simp [T.er]
  obtain ⟨S',hc,Rj,Rk,Rl,Dy⟩:=Dr (t':=t') VM e1 e3 e4 iS
  obtain ⟨A,B,f1,f2⟩:=hc.fts
  rw [tS] at f1
  rw [agj,List.append_nil] at f1
  have rC:∀ k,k∈cF S'++ah H↔k∈cF S++ah (t'::H):=by
    intro k
    rw [f1,f2]
    simp only [ah,List.mem_append]
    constructor
    · rintro (((h | h) | h) | h)
      · exact .inl (.inl h)
      · exact .inr (.inl h)
      · exact .inl (.inr h)
      · exact .inr (.inr h)
    · rintro ((h | h) | (h | h))
      · exact .inl (.inl (.inl h))
      · exact .inl (.inr h)
      · exact .inl (.inl (.inr h))
      · exact .inr h
  have fh:(cF S'++ah H).Nodup:=by
    have h0:=h.mem.nd
    rw [f1] at h0
    rw [f2]
    refine (List.Perm.nodup_iff ?_).1 h0
    refine List.perm_iff_count.2 fun a=>?_
    simp only [ah,List.count_append]
    omega
  have hX:∀ b k,af C w S (t'::H) b k→af C w S' H b k:=jy (fun k hk=>(rC k).1 hk)
  have cy:jh w w (af C w S (t'::H)) (af C w S' H):=fun b k hk=>⟨hX b k hk,rfl⟩
  have adO:ex=false→la t1 t':=fun e=>by
    rcases hl with hl | hl
    · exact ⟨by rw [VS]; exact hl.1,fun p hp=>by rw [agk e]; exact hl.2 p hp⟩
    · exact absurd (hl.1.symm.trans e) (by simp)
  have dR:∀ d u,bj w (af C w S (t'::H)) S d u→bj w (af C w S' H) S' (ct r q o ex d) u:=
    fun d u hd=>x8 cy hc adO (qf hg hd)
  have dr:=h.mem.hand
  simp only [bF] at dr
  have dg:Mem C w S' H:=P9 h.mem (g:=fa (ct r q o ex)) (Q8 hg S) hc (by rw [hv,VS]; rfl)
    (.inl (dK cy _ dr.1 (fun _ _=>rfl))) fh (fun k hk=>(rC k).1 hk) (fJ hX _ dr.2)
    (fun d u hd=>by rw [ud hd]; exact dR d u hd) (fun d u hd=>rz hg Ff (ug hX _ _ hd))
  refine ⟨S',?_,dR,Dy,?_,hc.Dp,fun r' q' o' d1 u1 h3 h4 h1 h2=>?_⟩
  · refine h.step (f:=ct r q o ex) Rj Rk Rl dR dg (ya h.kept (fun k hk=>(rC k).1 hk) (fun r' R' ey=>?_))
    obtain ⟨R2,g1,g2,g3⟩:=hc.par (by rw [hv,VS]; rfl) ey
    rw [lq] at g1
    cases hx:lk S r' with
    | none=>simp [hx] at g1
    | some R0=>
      simp only [hx,Option.map_some,Option.some.injEq] at g1
      subst g1
      refine ⟨R0,rfl,g2,g3.trans ?_⟩
      simp only [cS,List.map_map]
      congr 1
      funext t
      cases t<;>rfl
  · refine m9.trans (S':=fS (ct r q o ex) S) (Qh _ S) (fun r' R' ey=>?_)
    obtain ⟨R2,g1,g2,_⟩:=hc.Js ey
    exact ⟨R2,g1,g2⟩
  · refine hc.MC h2 ?_
    rw [BS h1]
    split
    · simp only [fT,h4]
      cases d1<;>first | (simp [sn] at h3; done) | simp [fa,hg.hole,hg.sl]
    · rfl
theorem VT {ts:List T} (h:Rel C (ts++H) w st aE S) {r b:Nat} (h0:lk S r=some ⟨some b,[]⟩) (eP:lh w b 0 ts.length (aC ts)):
    Rel C H w { st.eS (eu r) with rt:=pz (st.eS (eu r)).rt r (bh ts) } aE (pt (fS (eu r) S) r ⟨some b,ts⟩)∧gV C w w S (pt (fS (eu r) S) r ⟨some b,ts⟩) (ts++H) H (eu r)∧m9 S (pt (fS (eu r) S) r ⟨some b,ts⟩):=by
  have hg:=Q9 r
  have Ff:=Rb r
  have h1:lk (fS (eu r) S) r=some ⟨some b,[]⟩:=by rw [lq,h0]; rfl
  obtain ⟨A,B,f1,f2⟩:=lI h1
  rw [tS] at f1
  have f3:=f2 ⟨some b,ts⟩
  simp only [RT.ft,Option.toList,ah,List.append_nil] at f1
  simp only [RT.ft,Option.toList] at f3
  have rC:∀ k,k∈cF (pt (fS (eu r) S) r ⟨some b,ts⟩)++ah H↔k∈cF S++ah (ts++H):=by
    intro k
    rw [f1,f3,bg]
    simp only [List.mem_append,List.mem_singleton]
    constructor
    · rintro (((h | (h | h)) | h) | h)<;>simp [h]
    · rintro (((h | h) | h) | (h | h))<;>simp [h]
  have fh:(cF (pt (fS (eu r) S) r ⟨some b,ts⟩)++ah H).Nodup:=by
    have h0:=h.mem.nd
    rw [f1] at h0
    rw [f3]
    refine (List.Perm.nodup_iff ?_).1 h0
    refine List.perm_iff_count.2 fun a=>?_
    simp only [bg,List.count_append]
    omega
  have hX:∀ b' k,af C w S (ts++H) b' k→af C w (pt (fS (eu r) S) r ⟨some b,ts⟩) H b' k:=jy (fun k hk=>(rC k).1 hk)
  have cy:jh w w (af C w S (ts++H)) (af C w (pt (fS (eu r) S) r ⟨some b,ts⟩) H):=fun b k hk=>⟨hX b k hk,rfl⟩
  have dR:∀ d u,bj w (af C w S (ts++H)) S d u→bj w (af C w (pt (fS (eu r) S) r ⟨some b,ts⟩) H) (pt (fS (eu r) S) r ⟨some b,ts⟩) (eu r d) u:=
    fun d u hd=>Zf cy (R:=⟨some b,ts⟩) h1 rfl rfl (qf hg hd)
  have dr:=h.mem.hand
  rw [dL] at dr
  refine ⟨?_,dR,?_⟩
  · refine h.step (f:=eu r) ?_ rfl rfl dR ⟨fh,?_,fJ hX _ dr.2,fun k hk=>h.mem.lt k ((rC k).1 hk)⟩ ⟨h.kept.os,h.kept.tape,h.kept.output,h.kept.size,h.kept.block,fun k hk=>h.kept.ix k ((rC k).1 hk),?_⟩
    · exact BP (pj hg h.rt) r ⟨some b,ts⟩
    · intro r' R' ey
      by_cases he:r'=r
      · subst he
        rw [cD,Option.some.injEq] at ey
        subst ey
        refine ⟨eP,fun t ht=>?_⟩
        have:=(cj _).1 (fJ hX _ dr.1) t ht
        cases t with
        | v d u=>exact .inl this
        | own s n cap a cs=>exact this
      · rw [dD _ _ he,lq] at ey
        cases hx:lk S r' with
        | none=>simp [hx] at ey
        | some R0=>
          simp only [hx,Option.map_some,Option.some.injEq] at ey
          subst ey
          obtain ⟨k1,k2⟩:=h.mem.root r' R0 hx
          refine ⟨?_,?_⟩
          · simp only [List.length_map]
            have hv:aC (R0.cs.map (fT (eu r)))=aC R0.cs:=by
              rw [cS,cS,List.map_map]
              congr 1
              funext t
              cases t<;>rfl
            rw [hv]
            exact k1
          · intro t ht
            simp only [List.mem_map] at ht
            obtain ⟨t0,ks,rfl⟩:=ht
            have:=k2 t0 ks
            cases t0 with
            | v d u=>
              simp only [fT,iW] at this ⊢
              rw [hg.leaf]
              rcases this with this | ⟨hb,this⟩
              · exact .inl (rz hg Ff (ug hX _ _ this))
              · exact .inr ⟨hb,by rw [ud this]; exact dR _ _ this⟩
            | own s n cap a xs=>
              simp only [fT]
              exact dK cy _ this (fun _ _=>rfl)
    · intro r' b' vs hm R' ey
      by_cases he:r'=r
      · subst he
        rw [cD,Option.some.injEq] at ey
        subst ey
        obtain ⟨g1,g2⟩:=h.kept.par r' b' vs hm _ h0
        refine ⟨g1,fun hb=>?_⟩
        rw [hb] at g1
        simp at g1
      · rw [dD _ _ he,lq] at ey
        cases hx:lk S r' with
        | none=>simp [hx] at ey
        | some R0=>
          simp only [hx,Option.map_some,Option.some.injEq] at ey
          subst ey
          obtain ⟨g1,g2⟩:=h.kept.par r' b' vs hm R0 hx
          refine ⟨g1,fun hb=>?_⟩
          rw [← g2 hb]
          simp only [cS,List.map_map]
          congr 1
          funext t
          cases t<;>rfl
  · refine m9.trans (S':=fS (eu r) S) (Qh _ S) (fun r' R' ey=>?_)
    by_cases he:r'=r
    · subst he
      rw [h1,Option.some.injEq] at ey
      subst ey
      exact ⟨_,cD _ _ _,rfl⟩
    · exact ⟨R',by rw [dD _ _ he]; exact ey,rfl⟩
end
end Go.Proofs.YtockoilcnmljiaaGreat
namespace Go.Proofs.YtockoilcnmljiaaGreat
def jj (S S':List (Nat × RT)):Prop:=∀ r R,lk S r=some R→∃ R',lk S' r=some R'∧R'.box=R.box∧(R.cs=[]→R'.cs=[])
theorem jj.refl (S:List (Nat × RT)):jj S S:=fun _ R h=>⟨R,h,rfl,fun h=>h⟩
theorem jj.trans {S S' yT:List (Nat × RT)} (h:jj S S') (h':jj S' yT):jj S yT:=fun r R hr=>by
  obtain ⟨R1,h1,h2,h3⟩:=h r R hr
  obtain ⟨R2,h4,h5,h6⟩:=h' r R1 h1
  exact ⟨R2,h4,h5.trans h2,fun e=>h6 (h3 e)⟩
theorem pJ.e {S S':List (Nat × RT)} (h:pJ S S'):jj S S':=fun r R hr=>by
  obtain ⟨R1,h1,h2,h3⟩:=h.fwd r R hr
  exact ⟨R1,h1,h2,fun e=>by
    have h4:=congrArg List.length h3
    rw [e] at h4
    simp only [bP,List.length_nil] at h4
    exact List.length_eq_zero_iff.1 h4⟩
theorem jj.b {S S':List (Nat × RT)} (h:jj S S'):m9 S S':=fun r R hr=>by
  obtain ⟨R1,h1,h2,_⟩:=h r R hr
  exact ⟨R1,h1,h2⟩
theorem jj.empty {S S':List (Nat × RT)} (h:jj S S') {r:Nat} {b:Option Nat} (hr:lk S r=some ⟨b,[]⟩):lk S' r=some ⟨b,[]⟩:=by
  obtain ⟨R1,h1,h2,h3⟩:=h r _ hr
  have:=h3 rfl
  cases R1
  simp only at h2 this
  rw [h1,h2,this]
section
variable {C:Ctx} {H:List T} {w:World} {st st':St} {aE:List (Array Value)} {S:List (Nat × RT)}
theorem Rp (h:Rel C H w st aE S) {r b:Nat} {R:RT} (hR:lk S r=some R) (hb:R.box=some b):
    Rel C H w { st with rt:=pz st.rt r [] } aE (pt S r ⟨some b,[]⟩)∧gV C w w S (pt S r ⟨some b,[]⟩) H H id∧jj S (pt S r ⟨some b,[]⟩):=by
  obtain ⟨A,B,f1,f2⟩:=lI hR
  have f3:=f2 ⟨some b,[]⟩
  simp only [RT.ft,hb,Option.toList,ah,List.append_nil] at f1 f3
  have ez:∀ k∈cF (pt S r ⟨some b,[]⟩)++ah H,k∈cF S++ah H:=by
    intro k hk
    rw [f3] at hk
    rw [f1]
    simp only [List.mem_append,List.mem_singleton] at hk ⊢
    rcases hk with ((hk | hk) | hk) | hk<;>simp [hk]
  have fh:(cF (pt S r ⟨some b,[]⟩)++ah H).Nodup:=by
    have h0:=h.mem.nd
    rw [f1] at h0
    rw [f3]
    refine List.Nodup.sublist ?_ h0
    refine List.Sublist.append (List.Sublist.append (List.Sublist.append (List.Sublist.refl _) ?_) (List.Sublist.refl _)) (List.Sublist.refl _)
    simp
  have hX:∀ b' k,af C w S H b' k→af C w (pt S r ⟨some b,[]⟩) H b' k:=jy ez
  have cy:jh w w (af C w S H) (af C w (pt S r ⟨some b,[]⟩) H):=fun b k hk=>⟨hX b k hk,rfl⟩
  have dR:∀ d u,bj w (af C w S H) S d u→bj w (af C w (pt S r ⟨some b,[]⟩) H) (pt S r ⟨some b,[]⟩) d u:=by
    intro d u hd
    cases d with
    | ref r' q' o' x=>
      intro t ht
      by_cases he:r'=r
      · subst he
        obtain ⟨R',l,e1,e2,e3⟩:=DA ht
        rw [cD,Option.some.injEq] at e1
        subst e1
        cases q' with
        | nil=>simp only [aw,Option.some.injEq] at e2; subst e2; simp at e3
        | cons p q=>simp [aw] at e2
      · refine hd t ?_
        rw [← ht]
        simp only [cu,dD _ _ he]
    | ptr r' q' o'=>
      intro R' eh
      by_cases he:r'=r
      · subst he
        rw [cD,Option.some.injEq] at eh
        subst eh
        refine ⟨fun _=>rfl,fun b' off ha=>?_⟩
        cases q' with
        | nil=>
          refine (hd R hR).2 b' off ?_
          simp only [bV,hb] at ha ⊢
          exact ha
        | cons p q=>simp [bV] at ha
      · rw [dD _ _ he] at eh
        exact hd R' eh
    | da cs o=>exact nA (S:=S) (d:=.da cs o) cy hd
    | _=>exact gi cy _ _ hd
  refine ⟨h.rv ?_ rfl rfl dR ⟨fh,?_,fJ hX _ h.mem.hand,fun k hk=>h.mem.lt k (ez k hk)⟩ ⟨h.kept.os,h.kept.tape,h.kept.output,h.kept.size,h.kept.block,fun k hk=>h.kept.ix k (ez k hk),?_⟩,dR,?_⟩
  · exact BP h.rt r ⟨some b,[]⟩
  · intro r' R' ey
    by_cases he:r'=r
    · subst he
      rw [cD,Option.some.injEq] at ey
      subst ey
      refine ⟨?_,by simp⟩
      have:=(h.mem.root _ R hR).1
      rw [hb] at this
      obtain ⟨c,e,fz,g1,g2,g3,g4⟩:=this
      exact ⟨c,e,fz,g1,g2,by simp,by simp [aC]⟩
    · rw [dD _ _ he] at ey
      obtain ⟨k1,k2⟩:=h.mem.root r' R' ey
      refine ⟨k1,fun t ht=>?_⟩
      have:=k2 t ht
      cases t with
      | v d u=>
        rcases this with this | ⟨hb,this⟩
        · exact .inl (ug hX _ _ this)
        · exact .inr ⟨hb,dR _ _ this⟩
      | own s n cap a xs=>exact dK cy _ this (fun _ _=>rfl)
  · intro r' b' vs hm R' ey
    by_cases he:r'=r
    · subst he
      rw [cD,Option.some.injEq] at ey
      subst ey
      obtain ⟨g1,_⟩:=h.kept.par r' b' vs hm _ hR
      rw [hb] at g1
      exact ⟨g1,fun e=>by rw [e] at g1; simp at g1⟩
    · rw [dD _ _ he] at ey
      exact h.kept.par r' b' vs hm R' ey
  · intro r' R' ey
    by_cases he:r'=r
    · subst he
      rw [hR,Option.some.injEq] at ey
      subst ey
      exact ⟨_,cD _ _ _,hb.symm,fun _=>rfl⟩
    · exact ⟨R',by rw [dD _ _ he]; exact ey,rfl,fun h=>h⟩
theorem abk (h:Rel C H w st aE S) {r b:Nat} {R:RT} (hR:lk S r=some R) (hb:R.box=some b) {cs':List D} (ht:SM st r=some (cs',st')):
    ∃ ts S',Rel C (ts++H) w st' aE S'∧bh ts=cs'∧ts≠[]∧lk S' r=some ⟨some b,[]⟩∧lh w b 0 ts.length (aC ts)∧gV C w w S S' H (ts++H) id∧jj S S'∧lL st st':=by
  unfold SM at ht
  rw [h.rt,hR] at ht
  simp only [Option.map_some] at ht
  split at ht
  case h_2=>simp at ht
  rename_i c cs eE
  simp only [Option.some.injEq] at eE
  split at ht
  case h_2=>simp at ht
  rename_i cs1 aN dz
  simp only [Option.some.injEq,Prod.mk.injEq] at ht
  obtain ⟨rfl,rfl⟩:=ht
  have dV:cb (bj w (af C w S H) S) (lp r [] 0 (c::cs)) (aC R.cs):=by
    rw [← eE]
    refine dk (by rw [pF,fg,bP]) (fun i x y hx hy=>?_)
    rw [nx,ic] at hx
    rw [fc] at hy
    cases hi:R.cs[i]? with
    | none=>simp [hi] at hx
    | some t=>
      simp only [hi,Option.map_some,Option.some.injEq,Nat.zero_add] at hx hy
      subst hx; subst hy
      exact pE h.mem hR rfl hi
  obtain ⟨ts,S1,a1,a2,a3,a4,a5,a6⟩:=E8 h dV dz
  obtain ⟨R1,b1,b2,_⟩:=a5.fwd r R hR
  obtain ⟨c1,c2,c3⟩:=Rp a1 b1 (b2.trans hb)
  refine ⟨ts,_,c1,a2,?_,cD _ _ _,?_,fun d u hd=>c2 d u (a4 d u hd),a5.e.trans c3,a6⟩
  · intro e
    have h1:=congrArg List.length eE
    have h2:=congrArg List.length a3
    rw [e] at h2
    rw [fg] at h1
    simp only [bP,List.length_cons,List.length_nil] at h1 h2
    omega
  · have h1:=(h.mem.root r R hR).1
    rw [hb] at h1
    have h2:=congrArg List.length a3
    simp only [bP] at h2
    rw [h2,a3]
    exact h1
end
def fB:D→Value→List T→Prop
  | .agg cs,u,ts=>cs=bh ts∧∃ us,u=.agg us∧us.toList=aC ts
  | d,u,ts=>∃ t,ts=[t]∧d=t.er∧u=t.val
abbrev Arg:=Option Nat × List T
def JD (w:World) (X:Bool→Nat→Prop):Bool→D→Value→Arg→Prop
  | false,d,u,a=>a=(none,[])∧∀ S,gD w X S d u
  | true,.bf cs,u,a=>∃ b,a.1=some b∧a.2≠[]∧cs=bh a.2∧u=.pointer (some ⟨b,0,none⟩)∧lh w b 0 a.2.length (aC a.2)
  | true,d,u,a=>a.1=none∧fB d u a.2
def qn (w:World) (S:List (Nat × RT)):Bool→D→D→Value→Arg→Prop
  | false,d,d1,_,a=>a=(none,[])∧d1=d
  | true,d,.bf cs,u,a=>∃ r b,d=.ptr r [] 0∧a.1=some b∧lk S r=some ⟨some b,[]⟩∧a.2≠[]∧cs=bh a.2∧u=.pointer (some ⟨b,0,none⟩)∧lh w b 0 a.2.length (aC a.2)
  | true,d,d1,u,a=>a.1=none∧fB d1 u a.2∧aC a.2=gF d u∧(∀ r,d≠.ptr r [] 0)∧((∃ cs,d1=.agg cs)↔∃ cs,d=.agg cs)∧(∀ f cs,d≠.fn f cs)∧∀ ds,d≠.aL ds
def sF (w:World) (S:List (Nat × RT)):List Bool→List D→List D→List Value→List Arg→Prop
  | _,[],gl,us,as9=>gl=[]∧us=[]∧as9=[]
  | b,d::ds,gl,us,as9=>∃ d1 ym u j9 a cq,gl=d1::ym∧us=u::j9∧as9=a::cq∧qn w S (b.headD false) d d1 u a∧sF w S b.tail ds ym j9 cq
def cR (as9:List Arg):List T:=(as9.map Prod.snd).reverse.flatten
theorem qo (a:Arg) (as9:List Arg):cR (a::as9)=cR as9++a.2:=by simp [cR]
theorem qn.Js {w:World} {S S':List (Nat × RT)} (h:jj S S') {b:Bool} {d d1:D} {u:Value} {a:Arg} (hg:qn w S b d d1 u a):qn w S' b d d1 u a:=by
  cases b with
  | false=>exact hg
  | true=>
    cases d1 with
    | bf cs=>
      obtain ⟨r,b,h1,h2,h3,h4⟩:=hg
      exact ⟨r,b,h1,h2,h.empty h3,h4⟩
    | _=>exact hg
theorem CT {w:World} {S:List (Nat × RT)} {d d1:D} {u:Value} {a:Arg} (hn:∀ cs,d1≠.bf cs) (h1:a.1=none) (h2:fB d1 u a.2) (h3:aC a.2=gF d u) (h4:∀ r,d≠.ptr r [] 0) (h5:(∃ cs,d1=.agg cs)↔∃ cs,d=.agg cs) (h6:(∀ f cs,d≠.fn f cs)∧∀ ds,d≠.aL ds):qn w S true d d1 u a:=by
  cases d1<;>first | exact ⟨h1,h2,h3,h4,h5,h6⟩ | exact absurd rfl (hn _)
theorem rD {t:T} {w:World} {X:Bool→Nat→Prop} (hs:bE w X t):(∀ cs,t.er≠.bf cs)∧(∀ cs,t.er≠.agg cs)∧(∀ cs,t.er≠.aL cs):=by
  cases t with
  | own s n cap a xs=>simp [T.er]
  | v d u=>
    simp only [bE] at hs
    simp only [T.er]
    refine ⟨fun cs e=>?_,fun cs e=>?_,fun cs e=>?_⟩<;>(rw [e] at hs; simp [Ext] at hs)
section
variable {C:Ctx} {w:World} {aE:List (Array Value)}
theorem MU {H:List T} {st st':St} {S:List (Nat × RT)} {d d':D} {u:Value} (h:Rel C H w st aE S) (hd:cr w (af C w S H) S d u) (ht:CE st d=some (d',st')):
    ∃ (a:Arg) (S':List (Nat × RT)),Rel C (a.2++H) w st' aE S'∧qn w S' true d d' u a∧gV C w w S S' H (a.2++H) id∧jj S S'∧lL st st'∧∀ b,a.1=some b→∀ r0,lk S r0≠some ⟨some b,[]⟩:=by
  by_cases hp:∃ r,d=.ptr r [] 0
  · obtain ⟨r,rfl⟩:=hp
    simp only [CE] at ht
    split at ht
    case h_2=>simp at ht
    rename_i cs1 aN dz
    simp only [Option.some.injEq,Prod.mk.injEq] at ht
    obtain ⟨rfl,rfl⟩:=ht
    cases hR:lk S r with
    | none=>simp [SM,h.rt r,hR] at dz
    | some R=>
      have sv:∀ R,lk S r=some R→(([]:List Nat)=[]→R.box.isSome)∧∀ b off,bV R.box R.cs []=some (b,off)→u=.pointer (some ⟨b,off+0,none⟩):=hd
      obtain ⟨h1,h2⟩:=sv R hR
      obtain ⟨b,hb⟩:=Option.isSome_iff_exists.1 (h1 rfl)
      obtain ⟨ts,S',a1,a2,a3,a4,a5,a6,a7,a8⟩:=abk h hR hb dz
      refine ⟨(some b,ts),S',a1,⟨r,b,rfl,rfl,a4,a3,a2.symm,by have:=h2 b 0 (by simp [bV,hb]); simpa using this,a5⟩,a6,a7,a8,fun b' e r0 Qf=>?_⟩
      simp only [Option.some.injEq] at e
      subst e
      have:=yk (List.nodup_append.1 h.mem.nd).1 hR hb Qf (by simp [RT.ft])
      subst this
      rw [hR,Option.some.injEq] at Qf
      subst Qf
      simp [SM,h.rt _,hR,bh] at dz
  · have hp:∀ r,d≠.ptr r [] 0:=fun r e=>hp ⟨r,e⟩
    by_cases ha:∃ cs,d=.agg cs
    · obtain ⟨cs,rfl⟩:=ha
      simp only [CE] at ht
      split at ht
      case h_2=>simp at ht
      rename_i cs1 aN dz
      simp only [Option.some.injEq,Prod.mk.injEq] at ht
      obtain ⟨rfl,rfl⟩:=ht
      obtain ⟨ts,S',a1,a2,a3,a4,a5,a6⟩:=qk h hd (d:=.agg cs) dz
      obtain ⟨us,rfl,_⟩:=hd
      exact ⟨(none,ts),S',a1,CT (by simp) rfl ⟨a2.symm,us,rfl,by rw [a3]; rfl⟩ a3 hp (by simp) (by simp),a4,a5.e,a6,by simp⟩
    · have dz:iU st d=some (d',st'):=by
        unfold CE at ht
        split at ht
        · exact absurd ⟨_,rfl⟩ ha
        · exact absurd rfl (hp _)
        · exact ht
      have cM:cellsOf d=[d]:=by cases d<;>first | rfl | exact absurd ⟨_,rfl⟩ ha
      obtain ⟨ts,S',a1,a2,a3,a4,a5,a6⟩:=qk h hd (ds':=[d']) (st':=st') (by rw [cM]; simp only [qU,dz])
      have hv:gF d u=[u]:=by cases d<;>first | rfl | exact absurd ⟨_,rfl⟩ ha
      rw [hv] at a3
      obtain ⟨t,rfl⟩:∃ t,ts=[t]:=by
        match ts,a2 with
        | [t],_=>exact ⟨t,rfl⟩
      simp only [bh,List.cons.injEq,and_true] at a2
      simp only [aC,List.cons.injEq,and_true] at a3
      subst a2
      have hs:=rD (fI (o:=0) a1.mem.hand (t:=t) rfl)
      refine ⟨(none,[t]),S',a1,CT hs.1 rfl ?_ (by rw [hv]; simp [aC,a3]) hp ?_ ⟨fun f cs e=>by rw [e] at dz; simp [iU] at dz,fun ds e=>by rw [e] at dz; simp [iU] at dz⟩,a4,a5.e,a6,by simp⟩
      · have:∀ d1,(∀ cs,d1≠.agg cs)→d1=t.er→fB d1 u [t]:=fun d1 hn e=>by
          cases d1<;>first | exact ⟨t,rfl,e,a3.symm⟩ | exact absurd rfl (hn _)
        exact this _ hs.2.1 rfl
      · exact ⟨fun ⟨cs,e⟩=>absurd e (hs.2.1 cs),fun ⟨cs,e⟩=>absurd ⟨cs,e⟩ ha⟩
theorem Fj:∀ {b:List Bool} {ds gl:List D} {us:List Value} {H:List T} {st st':St} {S:List (Nat × RT)},Rel C H w st aE S→cb (cr w (af C w S H) S) ds us→mT st b ds=some (gl,st')→
    ∃ (as9:List Arg) (S':List (Nat × RT)),Rel C (cR as9++H) w st' aE S'∧sF w S' b ds gl us as9∧gV C w w S S' H (cR as9++H) id∧jj S S'∧lL st st'∧(as9.filterMap Prod.fst).Nodup∧∀ r bk,lk S r=some ⟨some bk,[]⟩→bk∉as9.filterMap Prod.fst:=by
  intro b ds
  induction ds generalizing b with
  | nil=>
    intro gl us H st st' S h hu hc
    cases hu
    simp only [mT,Option.some.injEq,Prod.mk.injEq] at hc
    obtain ⟨rfl,rfl⟩:=hc
    exact ⟨[],S,h,⟨rfl,rfl,rfl⟩,fun _ _ h=>h,jj.refl _,lL.refl _,by simp,by simp⟩
  | cons d ds ih=>
    intro gl us H st st' S h hu hc
    cases hu with
    | cons sA CK=>
    rename_i u us
    simp only [mT] at hc
    split at hc
    case h_2=>simp at hc
    rename_i d1 aN h1
    split at hc
    case h_2=>simp at hc
    rename_i tA ch h2
    simp only [Option.some.injEq,Prod.mk.injEq] at hc
    obtain ⟨rfl,rfl⟩:=hc
    obtain ⟨a,S1,a1,a2,a3,a4,a5,a6⟩:∃ (a:Arg) (S':List (Nat × RT)),Rel C (a.2++H) w aN aE S'∧qn w S' (b.headD false) d d1 u a∧gV C w w S S' H (a.2++H) id∧jj S S'∧lL st aN∧∀ b,a.1=some b→∀ r0,lk S r0≠some ⟨some b,[]⟩:=by
      cases hb:b.headD false with
      | false=>
        rw [hb] at h1
        simp only [Bool.false_eq_true,if_false,Option.some.injEq,Prod.mk.injEq] at h1
        obtain ⟨rfl,rfl⟩:=h1
        exact ⟨(none,[]),S,h,⟨rfl,rfl⟩,fun _ _ h=>h,jj.refl _,lL.refl _,by simp⟩
      | true=>
        rw [hb] at h1
        exact MU h sA (by simpa using h1)
    obtain ⟨as9,S2,b1,b2,b3,b4,b5,b6,b7⟩:=ih a1 (CK.mono (fun _ _ hh=>pH a3 hh)) h2
    refine ⟨a::as9,S2,?_,⟨_,_,_,_,_,_,rfl,rfl,rfl,a2.Js b4,b2⟩,fun d u hd=>?_,a4.trans b4,lL.trans a5 b5,?_,fun r bk hr=>?_⟩
    · rw [qo,List.append_assoc]; exact b1
    · rw [qo,List.append_assoc]; exact b3 d u (a3 d u hd)
    · cases ha:a.1 with
      | none=>simpa [ha] using b6
      | some bk=>
        simp only [List.filterMap_cons,ha,List.nodup_cons]
        refine ⟨?_,b6⟩
        cases hb:b.headD false with
        | false=>rw [hb] at a2; obtain ⟨rfl,_⟩:=a2; simp at ha
        | true=>
          rw [hb] at a2
          cases d1 with
          | bf cs=>
            obtain ⟨r,MV,_,e2,e3,_⟩:=a2
            rw [ha,Option.some.injEq] at e2
            subst e2
            exact b7 r bk e3
          | _=>rw [a2.1] at ha; simp at ha
    · cases ha:a.1 with
      | none=>simp only [List.filterMap_cons,ha]; exact b7 r bk (a4.empty hr)
      | some MV=>
        simp only [List.filterMap_cons,ha,List.mem_cons,not_or]
        exact ⟨fun e=>a6 MV ha r (e▸hr),b7 r bk (a4.empty hr)⟩
end
end Go.Proofs.YtockoilcnmljiaaGreat
namespace Go.Proofs.YtockoilcnmljiaaGreat
theorem vV {α β γ:Type} {f:α→Option β} {R:α→γ→Prop} {R':β→γ→Prop}:∀ {as9:List α} {bs:List β} {cs:List γ},cb R as9 cs→kZ f as9=some bs→(∀ a b c,R a c→f a=some b→R' b c)→cb R' bs cs
  | [],bs,cs,h,hm,_=>by
    cases h
    simp only [kZ,Option.some.injEq] at hm
    subst hm
    exact .nil
  | a::as9,bs,cs,h,hm,hr=>by
    cases h with
    | cons h1 h2=>
    simp only [kZ] at hm
    split at hm
    case h_2=>simp at hm
    rename_i b hb
    split at hm
    case h_2=>simp at hm
    rename_i XQ JC
    simp only [Option.some.injEq] at hm
    subst hm
    exact .cons (hr _ _ _ h1 hb) (vV h2 JC hr)
section
variable {C:Ctx} {H:List T} {w:World} {st:St} {aE:List (Array Value)} {S:List (Nat × RT)} (h:Rel C H w st aE S) {X':Bool→Nat→Prop} (hX:∀ b k,af C w S H b k→X' b k)
  (hF:∀ r R k,lk S r=some R→R.cs≠[]→k∈R.ft→X' true k)
include h hX hF
theorem MW {d d':D} {u:Value} (hd:bj w (af C w S H) S d u) (he:tw st d=some d'):Ext w X' d' u:=by
  cases d with
  | int k n=>simp only [tw,Option.some.injEq] at he; subst he; exact hd
  | bool b=>simp only [tw,Option.some.injEq] at he; subst he; exact hd
  | str s=>simp only [tw,Option.some.injEq] at he; subst he; exact hd
  | nil s=>simp only [tw,Option.some.injEq] at he; subst he; exact hd
  | undef=>simp only [tw,Option.some.injEq] at he; subst he; simp [Ext]
  | hole s n=>simp only [tw,Option.some.injEq] at he; subst he; simp [Ext]
  | sl g s n cs=>
    simp only [tw,Option.some.injEq] at he
    subst he
    cases g with
    | none=>simp [bj,Ext] at hd
    | some g=>exact ug hX _ _ hd
  | ref r q o x=>
    simp only [tw] at he
    split at he
    case h_2=>simp at he
    rename_i g s n cs hc
    simp only [Option.some.injEq] at he
    subst he
    obtain ⟨R,l,t,h1,h2,h3,h4,h5⟩:=iI h.rt hc
    refine BQ hX true h5.symm (su h.mem h1 h2 h3 h5.symm) (fun k hk=>hF r R k h1 ?_ ?_) (hd t h4)
    · intro e
      rw [e] at h2
      cases q with
      | nil=>simp only [aw,Option.some.injEq] at h2; subst h2; simp at h3
      | cons p q=>simp [aw] at h2
    · have:k∈ah l:=BT (List.mem_of_getElem? h3) hk
      have:=Jy h2 this
      simp [RT.ft,this]
  | _=>simp [tw] at he
theorem TB {b:Bool} {t:T} {d':D} (hc:iW w (af C w S H) S b t) (hf:∀ k∈t.ft,X' true k) (he:tw st t.er=some d'):Ext w X' d' t.val:=by
  cases t with
  | v d u=>
    have:bj w (af C w S H) S (bL d) u:=by
      rcases hc with hc | ⟨_,hc⟩
      · exact fZ hc
      · exact hc
    exact MW h hX hF this he
  | own s n cap a cs=>
    simp only [T.er,tw,Option.some.injEq] at he
    subst he
    exact x9 hX true (.own s n cap a cs) hc hf
theorem mJ {d d':D} {u:Value} (hd:bj w (af C w S H) S d u) (he:P3 st d=some d') (S':List (Nat × RT)):bj w X' S' d' u:=by
  cases d with
  | da cs o=>
    simp only [P3,Option.some.injEq] at he
    subst he
    obtain ⟨b,off,c,e,fz,us,h1,h2,h3,h4,h5⟩:=hd
    exact ⟨b,off,c,e,fz,us,h1,hX true b h2,h3,sr (fun b k hk=>⟨hX b k hk,rfl⟩) cs us h4,h5⟩
  | ptr r q o=>
    simp only [P3] at he
    split at he
    case h_2=>simp at he
    rename_i c cs eE
    split at he
    case h_2=>simp at he
    rename_i cs' hm
    simp only [Option.some.injEq] at he
    subst he
    obtain ⟨R,l,h1,h2,h3⟩:=uH st S h.rt eE
    have hl:l≠[]:=fun e=>by rw [e] at h3; simp [bh] at h3
    obtain ⟨p1,p2⟩:=hd R h1
    obtain ⟨b,off,fe,a1,a2,a3,a4⟩:=qc h.mem h1 h2 hl p1
    have hR:R.cs≠[]:=fun e=>by
      rw [e] at h2
      cases q with
      | nil=>simp only [aw,Option.some.injEq] at h2; exact hl h2.symm
      | cons p q=>simp [aw] at h2
    have hb:b∈R.ft:=by
      cases q with
      | nil=>
        simp only [bV] at a1
        cases hx:R.box with
        | none=>simp [hx] at a1
        | some b'=>simp only [hx,Option.map_some,Option.some.injEq,Prod.mk.injEq] at a1; simp [RT.ft,hx,a1.1]
      | cons p q=>simp [RT.ft,rq a1]
    obtain ⟨cc,e,fz,b1,b2,b3,b4⟩:=a2
    refine ⟨b,off,cc,e,fz,aC l,p2 b off a1,hF r R b h1 hR hb,b1,(gO _ _).2 ?_,b4⟩
    have dV:cb (fun d u=>∃ t bx,d=t.er∧u=t.val∧iW w (af C w S H) S bx t∧∀ k∈t.ft,X' true k) (c::cs) (aC l):=by
      rw [h3]
      refine dk (by simp [fg,bP]) (fun i x y hx hy=>?_)
      rw [ic] at hx
      rw [fc] at hy
      cases hi:l[i]? with
      | none=>simp [hi] at hx
      | some t=>
        simp only [hi,Option.map_some,Option.some.injEq] at hx hy
        have dg:∀ k∈t.ft,X' true k:=fun k hk=>hF r R k h1 hR (by
          have:=Jy h2 (BT (List.mem_of_getElem? hi) hk)
          simp [RT.ft,this])
        cases q with
        | nil=>
          simp only [aw,Option.some.injEq] at h2
          subst h2
          exact ⟨t,R.box.isSome,hx.symm,hy.symm,(h.mem.root r R h1).2 t (List.mem_of_getElem? hi),dg⟩
        | cons p q=>
          have:=fI (a4 (by simp)) hi
          refine ⟨t,true,hx.symm,hy.symm,?_,dg⟩
          cases t with
          | v d u=>exact .inl this
          | own s n cap a cs=>exact this
    exact vV dV hm (fun a b c ⟨t,bx,e1,e2,e3,e4⟩ he=>by
      subst e1; subst e2
      exact TB h hX hF e3 e4 he)
  | _=>exact fZ (MW h hX hF hd he)
theorem abm {d d':D} {u:Value} (hd:cr w (af C w S H) S d u) (he:SL st d=some d') (S':List (Nat × RT)):gD w X' S' d' u:=by
  cases d with
  | agg cs=>
    simp only [SL] at he
    split at he
    case h_2=>simp at he
    rename_i cs' hm
    simp only [Option.some.injEq] at he
    subst he
    obtain ⟨us,rfl,hu⟩:=hd
    exact ⟨us,rfl,vV hu hm (fun a b c h1 h2=>fZ (MW h hX hF h1 h2))⟩
  | fn f cs=>
    simp only [SL] at he
    split at he
    case h_2=>simp at he
    rename_i cs' hm
    simp only [Option.some.injEq] at he
    subst he
    obtain ⟨us,rfl,hu⟩:=hd
    exact ⟨us,rfl,vV hu hm (fun a b c h1 h2=>mJ h hX hF h1 h2 S')⟩
  | aL ds=>simp [SL,P3,tw] at he
  | int k n=>exact ej (mJ h hX hF (d:=.int k n) hd he S')
  | bool b=>exact ej (mJ h hX hF (d:=.bool b) hd he S')
  | str s=>exact ej (mJ h hX hF (d:=.str s) hd he S')
  | sl g s n cs=>exact ej (mJ h hX hF (d:=.sl g s n cs) hd he S')
  | ref r q o x=>exact ej (mJ h hX hF (d:=.ref r q o x) hd he S')
  | nil s=>exact ej (mJ h hX hF (d:=.nil s) hd he S')
  | ptr r q o=>exact ej (mJ h hX hF (d:=.ptr r q o) hd he S')
  | da cs o=>exact ej (mJ h hX hF (d:=.da cs o) hd he S')
  | bf cs=>exact ej (mJ h hX hF (d:=.bf cs) hd he S')
  | hole s n=>exact ej (mJ h hX hF (d:=.hole s n) hd he S')
  | undef =>exact ej (mJ h hX hF (d:=.undef) hd he S')
end
end Go.Proofs.YtockoilcnmljiaaGreat
namespace Go.Proofs.YtockoilcnmljiaaGreat
def BV (a:Arg):List Nat:=a.1.toList++ah a.2
def bt:List Arg→List Nat
  | []=>[]
  | a::as9=>BV a++bt as9
def tt (w:World) (X:Bool→Nat→Prop):List Bool→List D→List Value→List Arg→Prop
  | _,[],us,as9=>us=[]∧as9=[]
  | b,d::ds,us,as9=>∃ u j9 a cq,us=u::j9∧as9=a::cq∧JD w X (b.headD false) d u a∧tt w X b.tail ds j9 cq
def Lk (w:World) (F:List Nat) (Y:Nat→Prop) (b:Bool) (k:Nat):Prop:=k < w.heap.size∧k∉F∧(b=false→Y k)
structure lQ (w:World) (Y:Nat→Prop) (own:List Bool) (ds:List D) (us:List Value) (as9:List Arg):Prop where
  args:tt w (Lk w (bt as9) Y) own ds us as9
  nd:(bt as9).Nodup
  lt:∀ k∈bt as9,k < w.heap.size
  sat:∀ a∈as9,bF w (Lk w (bt as9) Y) a.2
def rE (b:Nat) (ts:List T):T:=.own ts.length 1 1 (some (b,0)) ts
def sG:List D→List Value→List T→Prop
  | [],us,ts=>us=[]∧ts=[]
  | d::ds,us,ts=>∃ u j9 t1 t2,us=u::j9∧ts=t1++t2∧fB d u t1∧sG ds j9 t2
def JE:D→Value→List T→Prop
  | .bf cs,v,ts=>∃ b Qi,ts=[rE b Qi]∧cs=bh Qi∧v=.pointer (some ⟨b,0,none⟩)
  | .aL ds,v,ts=>∃ us,v=.tuple us∧sG ds us.toList ts
  | d,v,ts=>fB d v ts
def oz (w':World):Bool→D→Arg→Arg→Prop
  | false,_,_,a'=>a'=(none,[])
  | true,.bf cs,a,a'=>a'.1=a.1∧(∃ b,a.1=some b∧lh w' b 0 a'.2.length (aC a'.2))∧cs=bh a'.2
  | true,.agg cs,a,a'=>a.1=none∧a'.1=none∧cs=bh a'.2∧aC a'.2=aC a.2
  | true,d,a,a'=>a.1=none∧a'.1=none∧((a'.2=[]∧∀ s n cs,d≠.sl none s n cs)∨∃ t,a'.2=[t]∧d=t.er∧aC [t]=aC a.2)
def mm (w':World):List Bool→List D→List Arg→List Arg→Prop
  | _,os,[],cq=>os=[]∧cq=[]
  | b,os,a::as9,cq=>∃ o wP a' MX,os=o::wP∧cq=a'::MX∧oz w' (b.headD false) o a a'∧mm w' b.tail wP as9 MX
structure ig (w w':World) (Y:Nat→Prop) (own:List Bool) (as9:List Arg) (r:D) (outs:List D) (v:Value):Prop where
  sz:w.heap.size≤w'.heap.size
  bN:∀ k,k < w.heap.size→k∉bt as9→w'.heap[k]?=w.heap[k]?
  os:w'.os=w.os
  tape:w'.tape=w.tape
  out:w'.output=w.output
  res:∃ (eU:List T) (cq:List Arg),JE r v eU∧mm w' own outs as9 cq∧(ah eU++bt cq).Nodup∧(∀ k∈ah eU++bt cq,k < w'.heap.size∧(k∈bt as9∨w.heap.size≤k))∧
    bF w' (fun b k=>Lk w' (ah eU++bt cq) (fun k=>Y k∨k∈bt as9∨w.heap.size≤k) b k) eU∧
    ∀ a∈cq,bF w' (fun b k=>Lk w' (ah eU++bt cq) (fun k=>Y k∨k∈bt as9∨w.heap.size≤k) b k) a.2
def qp (P : Program) (f : FuncId) : Prop := ∃ fn, P.funcs[f]? = some fn ∧ (fn.name == "runtime.NumGoroutine") = false ∧ fn.body.isNone = false
def lf (P:Program) (own:FuncId→List Bool) (cl:FuncId→List D→Option (D × List D)):Prop:=
  ∀ f ds r outs,cl f ds=some (r,outs)→qp P f∧∀ (w:World) (Y:Nat→Prop) (us:Array Value) (as9:List Arg),lQ w Y (own f) ds us.toList as9→dM r=true→(∀ o∈outs,dM o=true)→
    Calls P f us w fun e w'=>∃ v,e=.returned v∧ig w w' Y (own f) as9 r outs v
def lr (h:D→D):Prop:=∀ x,h x=x∨h x=.undef
theorem VU:lr id:=fun _=>.inl rfl
theorem O6 (r:Nat) (q:List Nat) (o:Nat) (e:Bool):lr (ct r q o e):=fun x=>by
  unfold ct
  split
  · split
    · split
      · exact .inl rfl
      · split
        · exact .inr rfl
        · exact .inl rfl
      · exact .inr rfl
    · exact .inl rfl
  · split
    · split
      · exact .inl rfl
      · exact .inr rfl
    · exact .inl rfl
  · exact .inl rfl
theorem O7 (r:Nat):lr (eu r):=fun x=>by
  unfold eu
  split
  · split
    · exact .inr rfl
    · exact .inl rfl
  · split
    · exact .inr rfl
    · exact .inl rfl
  · exact .inl rfl
theorem lr.comp {f g:D→D} (hf:lr f) (hg:lr g) (h0:f .undef=.undef):lr (fun x=>f (g x)):=fun x=>by
  rcases hg x with e | e
  · show f (g x)=x∨f (g x)=.undef
    rw [e]; exact hf x
  · right; show f (g x)=_; rw [e,h0]
section
variable {C:Ctx} {w:World} {aE:List (Array Value)}
theorem pL {H Hs:List T} {st:St} {S:List (Nat × RT)} (h:Rel C (Hs++H) w st aE S):Rel C H w st aE S∧gV C w w S S (Hs++H) H id:=by
  have ez:∀ k∈cF S++ah H,k∈cF S++ah (Hs++H):=fun k hk=>by
    rw [bg]
    rcases List.mem_append.1 hk with h | h<;>simp [h]
  have hX:∀ b k,af C w S (Hs++H) b k→af C w S H b k:=jy ez
  have cy:jh w w (af C w S (Hs++H)) (af C w S H):=fun b k hk=>⟨hX b k hk,rfl⟩
  have dR:gV C w w S S (Hs++H) H id:=fun d u hd=>nA cy hd
  refine ⟨h.rv h.rt rfl rfl dR ⟨?_,?_,fJ hX _ ((dL _ _).1 h.mem.hand).2,fun k hk=>h.mem.lt k (ez k hk)⟩ ⟨h.kept.os,h.kept.tape,h.kept.output,h.kept.size,h.kept.block,fun k hk=>h.kept.ix k (ez k hk),h.kept.par⟩,dR⟩
  · refine List.Nodup.sublist ?_ h.mem.nd
    rw [bg]
    exact List.Sublist.append (List.Sublist.refl _) (List.sublist_append_right _ _)
  · intro r R hr
    obtain ⟨k1,k2⟩:=h.mem.root r R hr
    refine ⟨k1,fun t ht=>?_⟩
    have:=k2 t ht
    cases t with
    | v d u=>
      rcases this with this | ⟨hb,this⟩
      · exact .inl (ug hX _ _ this)
      · exact .inr ⟨hb,dR _ _ this⟩
    | own s n cap a xs=>exact dK cy _ this (fun _ _=>rfl)
structure ku (C:Ctx) (w:World) (st st':St) (S S':List (Nat × RT)) (H H':List T) (h0 h1:D→D):Prop where
  Rq:∀ d u,bj w (af C w S H) S (h0 d) u→bj w (af C w S' H') S' (h1 d) u
  Yk:lr h1
  Js:m9 S S'
  of:st'.of=st.of
theorem ku.trans {st aN ch:St} {S S1 S2:List (Nat × RT)} {H H1 H2:List T} {h0 h1 h2:D→D} (a:ku C w st aN S S1 H H1 h0 h1) (b:ku C w aN ch S1 S2 H1 H2 h1 h2):ku C w st ch S S2 H H2 h0 h2:=
  ⟨fun d u hd=>b.Rq d u (a.Rq d u hd),b.Yk,a.Js.trans b.Js,b.of.trans a.of⟩
theorem ku.drop {st:St} {S:List (Nat × RT)} {H Hs:List T} {h0:D→D} (h:Rel C (Hs++H) w st aE S) (hk:lr h0):ku C w st st S S (Hs++H) H h0 h0:=
  ⟨fun d u hd=>(pL h).2 _ _ hd,hk,m9.refl _,rfl⟩
theorem MY:∀ {as9:List D} {ts:List T} {H:List T} {st st':St} {S:List (Nat × RT)} {h0 h1:D→D},Rel C (ts++H) w st aE S→lr h0→cb (fun a u=>bj w (af C w S (ts++H)) S (h0 a) u) as9 (aC ts)→o9 st h0 as9 (bh ts)=some (st',h1)→
    ∃ S',Rel C H w st' aE S'∧ku C w st st' S S' (ts++H) H h0 h1:=by
  intro as9
  induction as9 with
  | nil=>
    intro ts H st st' S h0 h1 h hk ha hb
    have Ab:ts=[]:=by
      cases ts with
      | nil=>rfl
      | cons t ts=>simp only [aC] at ha; cases ha
    subst Ab
    simp only [o9,Option.some.injEq,Prod.mk.injEq] at hb
    obtain ⟨rfl,rfl⟩:=hb
    exact ⟨S,h,⟨fun _ _ h=>h,hk,m9.refl _,rfl⟩⟩
  | cons a as9 ih=>
    intro ts H st st' S h0 h1 h hk ha hb
    cases ts with
    | nil=>simp only [aC] at ha; cases ha
    | cons t ts=>
      simp only [aC] at ha
      cases ha with
      | cons EX ha2=>
      simp only [bh,o9] at hb
      split at hb
      · rename_i r q o s n cs e1 e2
        split at hb
        case h_2=>simp at hb
        rename_i s0 n0 cM
        split at hb
        case isFalse=>simp at hb
        rename_i MD
        split at hb
        case h_2=>simp at hb
        rename_i aN iS
        rw [e1] at EX
        rw [← e2] at iS
        obtain ⟨R,l,t0,g1,g2,g3,g4,g5⟩:=iI h.rt cM
        obtain ⟨d0,u0,rfl⟩:∃ d0 u0,t0=.v d0 u0:=by
          cases t0 with
          | v d0 u0=>exact ⟨d0,u0,rfl⟩
          | own s n cap a cs=>simp [T.er] at g5
        simp only [T.er] at g5
        have hu:=EX _ g4
        simp only [eK,T.er,← g5,sn] at hu
        obtain ⟨S1,b1,b2,b3,b4,_,_⟩:=MT (ex:=false) h g4 ⟨d0,u0,rfl,fun _=>by rw [← g5]; simp [fa,ct]⟩ (.inl ⟨hu,fun p hp=>by
          rw [e2] at hp
          simp only [sn,Option.some.injEq] at hp
          simp only [T.er,← g5,sn,Option.some.injEq]
          rw [MD.1,MD.2]; exact hp⟩) iS
        have hk1:lr (fun x=>ct r q o false (h0 x)):=lr.comp (O6 r q o false) hk rfl
        obtain ⟨S2,c1,c2⟩:=ih b1 hk1 (ha2.mono (fun x u hx=>b2 _ _ hx)) hb
        exact ⟨S2,c1,ku.trans ⟨fun d u hd=>b2 _ _ hd,hk1,b4,b3⟩ c2⟩
      · have hd:=pL (Hs:=[t]) h
        obtain ⟨S2,c1,c2⟩:=ih hd.1 hk (ha2.mono (fun x u hx=>hd.2 _ _ hx)) hb
        exact ⟨S2,c1,ku.trans (ku.drop (Hs:=[t]) h hk) c2⟩
def Yl (w:World) (X:Bool→Nat→Prop) (S:List (Nat × RT)) (h0:D→D) (d:D) (u:Value) (o:D) (a a':Arg):Prop:=
  cb (fun x v=>bj w X S (h0 x) v) (cellsOf d) (gF d u)∧oz w true o a a'∧(a.1=none→aC a.2=gF d u∧∀ r,d≠.ptr r [] 0)∧∀ bx,a.1=some bx→∃ r R,d=.ptr r [] 0∧lk S r=some R∧R.box=some bx
theorem CU {H:List T} {st st':St} {S:List (Nat × RT)} {h0 h1:D→D} {ts:List T} {d o:D} (h:Rel C (ts++H) w st aE S) (hk:lr h0) (hn:∀ r q o' x s n cs,¬ (h0 d=.ref r q o' x∧o=.sl none s n cs)) (hb:o9 st h0 [d] [o]=some (st',h1)):∃ S',Rel C H w st' aE S'∧ku C w st st' S S' (ts++H) H h0 h1:=by
  simp only [o9] at hb
  split at hb
  · rename_i r q o' s n cs e1
    exact absurd ⟨e1,rfl⟩ (hn r q o' none s n cs)
  · simp only [Option.some.injEq,Prod.mk.injEq] at hb
    obtain ⟨rfl,rfl⟩:=hb
    exact ⟨S,(pL h).1,ku.drop h hk⟩
theorem VV {H:List T} {st st':St} {S:List (Nat × RT)} {h0 h1:D→D} {d o:D} {u:Value} {a a':Arg} (h:Rel C (a'.2++H) w st aE S) (hk:lr h0) (ha:Yl w (af C w S (a'.2++H)) S h0 d u o a a') (hb:BL st h0 d o=some (st',h1)):
    ∃ S',Rel C H w st' aE S'∧ku C w st st' S S' (a'.2++H) H h0 h1:=by
  obtain ⟨oN,h2,h3,h4⟩:=ha
  unfold BL at hb
  split at hb
  · rename_i cs ds
    obtain ⟨e1,e2,e3,e4⟩:=h2
    subst e3
    exact MY h hk (by rw [e4,(h3 e1).1]; exact oN) hb
  · rename_i r ds
    obtain ⟨e1,⟨b,e2,e3⟩,e4⟩:=h2
    split at hb
    case h_2=>simp at hb
    rename_i fU
    simp only [Option.some.injEq,Prod.mk.injEq] at hb
    obtain ⟨rfl,rfl⟩:=hb
    obtain ⟨r',R,g1,g2,g3⟩:=h4 b e2
    simp only [D.ptr.injEq,and_true] at g1
    subst g1
    rw [h.rt,g2] at fU
    simp only [Option.map_some,Option.some.injEq] at fU
    have eE:R.cs=[]:=List.length_eq_zero_iff.1 (by rw [← fg,fU]; rfl)
    obtain ⟨c1,c2,c3⟩:=VT h (r:=r) (b:=b) (by rw [g2]; cases R; simp only at g3 eE; rw [g3,eE]) e3
    subst e4
    exact ⟨_,c1,⟨fun d u hd=>c2 _ _ hd,lr.comp (O7 r) hk rfl,c3,rfl⟩⟩
  · rename_i hna hnp
    by_cases eo:∃ cs,d=.agg cs
    · obtain ⟨cs,rfl⟩:=eo
      refine CU h hk (fun r q o' x s n cs' hh=>?_) hb
      rcases hk (.agg cs) with e | e<;>rw [e] at hh<;>simp at hh
    have cM:cellsOf d=[d]:=by cases d<;>first | rfl | exact absurd ⟨_,rfl⟩ eo
    have z8:gF d u=[u]:=by cases d<;>first | rfl | exact absurd ⟨_,rfl⟩ eo
    by_cases gq:∃ s n cs,o=.sl none s n cs
    · obtain ⟨s,n,cs,rfl⟩:=gq
      obtain ⟨e1,e2,e3⟩:=h2
      rcases e3 with ⟨_,e3⟩ | ⟨t,e3,e4,e5⟩
      · exact absurd rfl (e3 s n cs)
      · rw [e3] at h oN ⊢
        rw [e4] at hb
        refine MY (as9:=[d]) (ts:=[t]) h hk ?_ (by simpa [bh] using hb)
        rw [e5,(h3 e1).1,z8]
        rw [cM,z8] at oN
        exact oN
    · exact CU h hk (fun r q o' x s n cs' hh=>gq ⟨s,n,cs',hh.2⟩) hb
def wQ (w:World) (X:Bool→Nat→Prop) (S:List (Nat × RT)) (h0:D→D):List Bool→List D→List Value→List D→List Arg→List Arg→Prop
  | _,[],us,os,as9,cq=>us=[]∧os=[]∧as9=[]∧cq=[]
  | b,d::ds,us,os,as9,cq=>∃ u Qj o pM a Af a' Ag,us=u::Qj∧os=o::pM∧as9=a::Af∧cq=a'::Ag∧(if b.headD false then Yl w X S h0 d u o a a' else a'=(none,[]))∧wQ w X S h0 b.tail ds Qj pM Af Ag
theorem wQ.step {X X':Bool→Nat→Prop} {S S':List (Nat × RT)} {h0 h1:D→D} (ht:∀ d u,bj w X S (h0 d) u→bj w X' S' (h1 d) u) (hd:m9 S S'):∀ {b:List Bool} {ds:List D} {us:List Value} {os:List D} {as9 cq:List Arg},wQ w X S h0 b ds us os as9 cq→wQ w X' S' h1 b ds us os as9 cq
  | _,[],_,_,_,_,h=>h
  | b,d::ds,us,os,as9,cq,h=>by
    obtain ⟨u,Qj,o,pM,a,Af,a',Ag,e1,e2,e3,e4,e5,e6⟩:=h
    refine ⟨u,Qj,o,pM,a,Af,a',Ag,e1,e2,e3,e4,?_,e6.step ht hd⟩
    split
    · rename_i hb
      rw [if_pos hb] at e5
      obtain ⟨k1,k2,k3,k4⟩:=e5
      refine ⟨k1.mono (fun x v hx=>ht _ _ hx),k2,k3,fun bx uN=>?_⟩
      obtain ⟨r,R,g1,g2,g3⟩:=k4 bx uN
      obtain ⟨R',g4,g5⟩:=hd r R g2
      exact ⟨r,R',g1,g4,g5.trans g3⟩
    · rename_i hb
      rw [if_neg hb] at e5
      exact e5
def cY (as9:List Arg):List T:=(as9.map Prod.snd).flatten
theorem O8:∀ {ds:List D} {b:List Bool} {us:List Value} {os:List D} {as9 cq:List Arg} {H:List T} {st st':St} {S:List (Nat × RT)} {h0:D→D},Rel C (cY cq++H) w st aE S→lr h0→wQ w (af C w S (cY cq++H)) S h0 b ds us os as9 cq→hZ st h0 b ds os=some st'→
    ∃ S' h1,Rel C H w st' aE S'∧ku C w st st' S S' (cY cq++H) H h0 h1:=by
  intro ds
  induction ds with
  | nil=>
    intro b us os as9 cq H st st' S h0 h hk ha hb
    obtain ⟨rfl,rfl,rfl,rfl⟩:=ha
    simp only [hZ,Option.some.injEq] at hb
    subst hb
    exact ⟨S,h0,h,⟨fun _ _ h=>h,hk,m9.refl _,rfl⟩⟩
  | cons d ds ih=>
    intro b us os as9 cq H st st' S h0 h hk ha hb
    obtain ⟨u,Qj,o,pM,a,Af,a',Ag,rfl,rfl,rfl,rfl,e5,e6⟩:=ha
    have hh:cY (a'::Ag)++H=a'.2++(cY Ag++H):=by simp [cY]
    rw [hh] at h e5 e6 ⊢
    simp only [hZ] at hb
    split at hb
    · rename_i sE
      rw [if_pos sE] at e5
      split at hb
      case h_2=>simp at hb
      rename_i aN h1 CJ
      obtain ⟨S1,c1,c2⟩:=VV h hk e5 CJ
      obtain ⟨S2,h2,d1,d2⟩:=ih c1 c2.Yk (e6.step c2.Rq c2.Js) hb
      exact ⟨S2,h2,d1,c2.trans d2⟩
    · rename_i sE
      rw [if_neg sE] at e5
      subst e5
      have hd:=pL (Hs:=[]) (H:=cY Ag++H) h
      obtain ⟨S2,h2,d1,d2⟩:=ih hd.1 hk e6 hb
      exact ⟨S2,h2,d1,d2⟩
end
end Go.Proofs.YtockoilcnmljiaaGreat
namespace Go.Proofs.YtockoilcnmljiaaGreat
def yW:D→List D
  | .agg cs=>cs
  | d=>[d]
theorem vW (ds:List D):dj (.aL ds)=ds.flatMap yW:=rfl
theorem pk {d:D} {v:Value} {ts:List T} (h:fB d v ts):bh ts=yW d:=by
  cases d<;>first | exact h.1.symm | (obtain ⟨t,rfl,h1,_⟩:=h; rw [h1]; simp [bh,yW,← h1])
theorem Ah:∀ {ds:List D} {us:List Value} {ts:List T},sG ds us ts→bh ts=ds.flatMap yW
  | [],us,ts,h=>by obtain ⟨rfl,rfl⟩:=h; rfl
  | d::ds,us,ts,h=>by
    obtain ⟨u,j9,t1,t2,rfl,rfl,h1,h2⟩:=h
    rw [uG,pk h1,Ah h2,List.flatMap_cons]
theorem rF {w:World} {X:Bool→Nat→Prop} {d:D} {v:Value} {ts:List T} (hs:bF w X ts) (h:fB d v ts):dj d=yW d:=by
  cases d with
  | aL ds=>
    obtain ⟨t,rfl,h1,_⟩:=h
    exact absurd h1.symm ((rD ((cj _).1 hs t (by simp))).2.2 ds)
  | _=>rfl
section
variable {C:Ctx} {w:World} {aE:List (Array Value)} {H:List T} {S:List (Nat × RT)}
theorem yn (hm:Mem C w S H) {r:Nat} {R:RT} (hR:lk S r=some R) {d:D} {v:Value} {ts A B:List T} (hf:fB d v ts) (eE:R.cs=A++ts++B):gD w (af C w S H) S (BI r A.length d) v:=by
  have lN:∀ (i:Nat) (t:T),ts[i]?=some t→R.cs[A.length+i]?=some t:=fun i t hi=>by
    have cT:=(List.getElem?_eq_some_iff.1 hi).1
    rw [eE,List.append_assoc,List.getElem?_append_right (by omega),List.getElem?_append_left (by omega)]
    rw [← hi]; congr 1; omega
  by_cases ha:∃ cs,d=.agg cs
  · obtain ⟨cs,rfl⟩:=ha
    obtain ⟨rfl,us,rfl,hu⟩:=hf
    refine ⟨us,rfl,dk (by rw [pF,fg,hu,bP]) (fun i x y hx hy=>?_)⟩
    rw [nx,ic] at hx
    rw [hu,fc] at hy
    cases hi:ts[i]? with
    | none=>simp [hi] at hx
    | some t=>
      simp only [hi,Option.map_some,Option.some.injEq] at hx hy
      subst hx; subst hy
      exact pE hm hR rfl (lN i t hi)
  · have hv:BI r A.length d=gw r [] A.length d:=by cases d<;>first | rfl | exact absurd ⟨_,rfl⟩ ha
    have TC:∃ t,ts=[t]∧d=t.er∧v=t.val:=by cases d<;>first | exact hf | exact absurd ⟨_,rfl⟩ ha
    obtain ⟨t,rfl,rfl,rfl⟩:=TC
    rw [hv]
    exact ej (pE hm hR rfl (lN 0 t rfl))
theorem CV (hm:Mem C w S H) {r:Nat} {R:RT} (hR:lk S r=some R) {X:Bool→Nat→Prop}:∀ {ds:List D} {us:List Value} {ts A B:List T},sG ds us ts→bF w X ts→R.cs=A++ts++B→cb (gD w (af C w S H) S) (EK r A.length ds) us
  | [],us,ts,A,B,h,_,_=>by obtain ⟨rfl,rfl⟩:=h; exact .nil
  | d::ds,us,ts,A,B,h,hs,eE=>by
    obtain ⟨u,j9,t1,t2,rfl,rfl,h1,h2⟩:=h
    rw [dL] at hs
    simp only [EK]
    refine .cons (yn hm hR (B:=t2++B) h1 (by rw [eE]; simp)) ?_
    have hl:A.length+(dj d).length=(A++t1).length:=by rw [rF hs.1 h1,← pk h1,fg,List.length_append]
    rw [hl]
    exact CV hm hR (B:=B) h2 hs.2 (by rw [eE]; simp)
theorem yo {X:Bool→Nat→Prop} {d:D} {v:Value} {ts:List T} (hf:fB d v ts) (hs:bF w X ts) (ot:(yW d).any iH=false):gD w X S d v:=by
  have hl:∀ t∈ts,Ext w X t.er t.val:=fun t ht=>by
    have h1:=(cj _).1 hs t ht
    cases t with
    | v d u=>exact h1
    | own s n cap a cs=>
      rw [← pk hf] at ot
      have:=List.any_eq_false.1 ot (T.own s n cap a cs).er (by rw [eD]; exact List.mem_map.2 ⟨_,ht,rfl⟩)
      simp [T.er,iH] at this
  by_cases ha:∃ cs,d=.agg cs
  · obtain ⟨cs,rfl⟩:=ha
    obtain ⟨rfl,us,rfl,hu⟩:=hf
    refine ⟨us,rfl,dk (by rw [fg,hu,bP]) (fun i x y hx hy=>?_)⟩
    rw [ic] at hx
    rw [hu,fc] at hy
    cases hi:ts[i]? with
    | none=>simp [hi] at hx
    | some t=>
      simp only [hi,Option.map_some,Option.some.injEq] at hx hy
      subst hx; subst hy
      exact fZ (hl t (List.mem_of_getElem? hi))
  · have TC:∃ t,ts=[t]∧d=t.er∧v=t.val:=by cases d<;>first | exact hf | exact absurd ⟨_,rfl⟩ ha
    obtain ⟨t,rfl,rfl,rfl⟩:=TC
    exact ej (fZ (hl t (by simp)))
theorem CW {X:Bool→Nat→Prop}:∀ {ds:List D} {us:List Value} {ts:List T},sG ds us ts→bF w X ts→(ds.flatMap yW).any iH=false→cb (gD w X S) ds us
  | [],us,ts,h,_,_=>by obtain ⟨rfl,rfl⟩:=h; exact .nil
  | d::ds,us,ts,h,hs,ot=>by
    obtain ⟨u,j9,t1,t2,rfl,rfl,h1,h2⟩:=h
    rw [dL] at hs
    rw [List.flatMap_cons,List.any_append,Bool.or_eq_false_iff] at ot
    exact .cons (yo h1 hs.1 ot.1) (CW h2 hs.2 ot.2)
theorem VW {eU:List T} {st:St} {vs:Array Value} (h:Rel C (eU++H) w st (vs::aE) S) {r:D} {v:Value} (hr:JE r v eU) {t:Nat} (ht:t < vs.size) (hP:∀ p∈C.P0,p.1≠st.of+t):
    ∃ S',Rel C H w ((st.p7 (st.of+t) r).1.put (some t) (st.p7 (st.of+t) r).2) (vs.setIfInBounds t v::aE) S':=by
  have dr:=((dL _ _).1 h.mem.hand).1
  have abo:(ah eU).Nodup:=by
    have:=h.mem.nd
    rw [bg,List.nodup_append,List.nodup_append] at this
    exact this.2.1.1
  have abp:∀ k∈ah eU,k < w.heap.size:=fun k hk=>h.mem.lt k (by rw [bg]; simp [hk])
  by_cases hp:∃ cs,r=.bf cs
  · obtain ⟨cs,rfl⟩:=hp
    obtain ⟨b,ts,rfl,rfl,rfl⟩:=hr
    have hb:bE w (af C w S ([rE b ts]++H)) (rE b ts):=(cj _).1 dr _ (by simp)
    simp only [rE,bE,Nat.one_mul] at hb
    obtain ⟨_,_,eP,gq⟩:=hb
    have eL:∀ k∈(RT.mk (some b) ts).ft,k∈ah [rE b ts]∨w.heap.size≤k:=fun k hk=>.inl (by simpa [RT.ft,ah,rE,T.ft,iV] using hk)
    have cy:=oc (r:=st.of+t) (R:=⟨some b,ts⟩) h eL (Nat.le_refl _) (fun _ _=>rfl)
    obtain ⟨h1,_⟩:=yc (r:=st.of+t) (R:=⟨some b,ts⟩) h ⟨eP,fun x hx=>by
        have:=(cj _).1 gq x hx
        have:=dK cy x this (fun _ _=>rfl)
        cases x with
        | v d u=>exact .inl this
        | own s n cap a cs=>exact this⟩
      ⟨by simpa [RT.ft,ah,rE,T.ft,iV] using abo,eL⟩ (fun k hk=>abp k (by simpa [RT.ft,ah,rE,T.ft,iV] using hk)) (Nat.le_refl _) (fun _ _=>rfl) rfl rfl rfl hP
    refine ⟨_,h1.put ht ?_⟩
    intro R hR
    rw [cD,Option.some.injEq] at hR
    subst hR
    exact ⟨fun _=>rfl,fun b' off ha=>by simp only [bV,Option.map_some,Option.some.injEq,Prod.mk.injEq] at ha; obtain ⟨rfl,rfl⟩:=ha; rfl⟩
  · have rW:bh eU=dj r:=by
      by_cases jz:∃ ds,r=.aL ds
      · obtain ⟨ds,rfl⟩:=jz
        obtain ⟨us,rfl,hf⟩:=hr
        rw [vW]; exact Ah hf
      · have hf:fB r v eU:=by cases r<;>first | exact hr | exact absurd ⟨_,rfl⟩ hp | exact absurd ⟨_,rfl⟩ jz
        rw [rF dr hf]; exact pk hf
    have had:st.p7 (st.of+t) r=if (dj r).any iH then ({ st.eS (cB (st.of+t)) with rt:=pz (st.eS (cB (st.of+t))).rt (st.of+t) (dj r) },BJ (st.of+t) r) else (st,r):=by
      cases r<;>first | rfl | exact absurd ⟨_,rfl⟩ hp
    rw [had]
    by_cases jk:(dj r).any iH=true
    · rw [if_pos jk]
      have eL:∀ k∈(RT.mk none eU).ft,k∈ah eU∨w.heap.size≤k:=fun k hk=>.inl (by simpa [RT.ft] using hk)
      have cy:=oc (r:=st.of+t) (R:=⟨none,eU⟩) h eL (Nat.le_refl _) (fun _ _=>rfl)
      obtain ⟨h1,_⟩:=yc (r:=st.of+t) (R:=⟨none,eU⟩) h ⟨trivial,fun x hx=>by
          have:=(cj _).1 dr x hx
          have:=dK cy x this (fun _ _=>rfl)
          cases x with
          | v d u=>exact .inl this
          | own s n cap a cs=>exact this⟩
        ⟨by simpa [RT.ft] using abo,eL⟩ (fun k hk=>abp k (by simpa [RT.ft] using hk)) (Nat.le_refl _) (fun _ _=>rfl) rfl rfl rfl hP
      rw [← rW]
      refine ⟨_,h1.put ht ?_⟩
      have yX:lk (pt (fS (cB (st.of+t)) S) (st.of+t) ⟨none,eU⟩) (st.of+t)=some ⟨none,eU⟩:=cD _ _ _
      by_cases jz:∃ ds,r=.aL ds
      · obtain ⟨ds,rfl⟩:=jz
        obtain ⟨us,rfl,hf⟩:=hr
        refine ⟨us,rfl,?_⟩
        exact CV h1.mem yX (A:=[]) (B:=[]) hf dr (by simp)
      · have hf:fB r v eU:=by cases r<;>first | exact hr | exact absurd ⟨_,rfl⟩ hp | exact absurd ⟨_,rfl⟩ jz
        have hv:BJ (st.of+t) r=BI (st.of+t) 0 r:=by cases r<;>first | rfl | exact absurd ⟨_,rfl⟩ jz
        rw [hv]
        exact ko (yn h1.mem yX (A:=[]) (B:=[]) hf (by simp))
    · rw [if_neg jk]
      have jk:(dj r).any iH=false:=by simpa using jk
      obtain ⟨h1,_⟩:=pL h
      have hX:∀ b k,af C w S (eU++H) b k→af C w S H b k:=jy (fun k hk=>by
        rw [bg]
        rcases List.mem_append.1 hk with h | h<;>simp [h])
      have hs:=fJ hX _ dr
      refine ⟨S,h1.put ht ?_⟩
      by_cases jz:∃ ds,r=.aL ds
      · obtain ⟨ds,rfl⟩:=jz
        obtain ⟨us,rfl,hf⟩:=hr
        exact ⟨us,rfl,CW hf hs jk⟩
      · have hf:fB r v eU:=by cases r<;>first | exact hr | exact absurd ⟨_,rfl⟩ hp | exact absurd ⟨_,rfl⟩ jz
        rw [rF dr hf] at jk
        exact ko (yo hf hs jk)
end
end Go.Proofs.YtockoilcnmljiaaGreat
namespace Go.Proofs.YtockoilcnmljiaaGreat
mutual
def sH (b:Bool):T→T
  | .v d u=>.v (hM b (bL d)) u
  | .own s n cap a cs=>.own s n cap a (gf b cs)
def gf (b:Bool):List T→List T
  | []=>[]
  | t::ts=>sH b t::gf b ts
end
theorem VX {d:D} (h:∀ s n cs,d≠.sl none s n cs):bL d=d:=by
  cases d with
  | sl g s n cs=>cases g with
    | none=>exact absurd rfl (h s n cs)
    | some g=>rfl
  | _=>rfl
theorem TD (d:D) (s n:Nat) (cs:List D):bL d≠.sl none s n cs:=by
  cases d with
  | sl g s n cs=>cases g<;>simp [bL]
  | _=>simp [bL]
theorem MZ (b:Bool) (d:D):bL (hM b (bL d))=hM b (bL d):=by
  refine VX (fun s n cs=>?_)
  have:=TD d
  cases h:bL d with
  | sl g s' n' cs'=>
    cases g with
    | none=>exact absurd h (this _ _ _)
    | some g=>simp [hM]
  | _=>simp [hM]
mutual
theorem BW (b:Bool):∀ t:T,(sH b t).er=hM b t.er
  | .v d u=>by simp only [sH,T.er]; exact MZ b d
  | .own s n cap a cs=>by simp only [sH,T.er,hM]; rw [uS b cs]
theorem uS (b:Bool):∀ ts:List T,bh (gf b ts)=ef b (bh ts)
  | []=>rfl
  | t::ts=>by simp only [gf,bh,ef]; rw [BW b t,uS b ts]
end
theorem Ai (b:Bool) (t:T):(sH b t).val=t.val:=by cases t<;>rfl
theorem rG (b:Bool):∀ ts:List T,aC (gf b ts)=aC ts
  | []=>rfl
  | t::ts=>by simp only [gf,aC]; rw [Ai,rG b ts]
mutual
theorem adP (b:Bool):∀ t:T,(sH b t).ft=t.ft
  | .v _ _=>rfl
  | .own s n cap a cs=>by simp only [sH,T.ft]; rw [uT b cs]
theorem uT (b:Bool):∀ ts:List T,ah (gf b ts)=ah ts
  | []=>rfl
  | t::ts=>by simp only [gf,ah]; rw [adP b t,uT b ts]
end
theorem ui (b:Bool):∀ ts:List T,(gf b ts).length=ts.length
  | []=>rfl
  | t::ts=>by simp [gf,ui b ts]
theorem BX (b:Bool):∀ x y:List T,gf b (x++y)=gf b x++gf b y
  | [],_=>rfl
  | t::ts,y=>by simp [gf,BX b ts y]
theorem M0 (b:Bool):∀ cs:List D,(ef b cs).length=cs.length
  | []=>rfl
  | d::ds=>by simp [ef,M0 b ds]
section
variable {w:World} {X X':Bool→Nat→Prop} {b:Bool} (hX:∀ g k,X g k→X' b k)
include hX
mutual
theorem Qk:∀ (d:D) (u:Value),Ext w X d u→Ext w X' (hM b d) u
  | .int _ _,_,hu=>hu
  | .bool _,_,hu=>hu
  | .str _,_,hu=>hu
  | .nil _,_,hu=>hu
  | .undef,_,_=>trivial
  | .hole _ _,_,_=>trivial
  | .sl (some g) s n cs,u,hu=>by
    simp only [Ext,hM] at hu ⊢
    obtain ⟨base,cap,us,h1,oN,h2,h3,h4⟩:=hu
    refine ⟨base,cap,us,h1,oN,by rw [M0]; exact h2,M1 cs us h3,?_⟩
    rcases h4 with h4 | ⟨k,off,c,e,fz,h5,h6,h7,h8⟩
    · left; rw [h4]; rfl
    · exact .inr ⟨k,off,c,e,fz,h5,hX g k h6,h7,h8⟩
  | .sl none _ _ _,_,hu=>by simp [Ext] at hu
  | .ref ..,_,hu=>by simp [Ext] at hu
  | .agg _,_,hu=>by simp [Ext] at hu
  | .aL _,_,hu=>by simp [Ext] at hu
  | .fn ..,_,hu=>by simp [Ext] at hu
  | .ptr ..,_,hu=>by simp [Ext] at hu
  | .da ..,_,hu=>by simp [Ext] at hu
  | .bf _,_,hu=>by simp [Ext] at hu
theorem M1:∀ (ds:List D) (us:List Value),gh w X ds us→gh w X' (ef b ds) us
  | [],_,hu=>by have _:=hX; exact hu
  | d::ds,us,hu=>by
    simp only [gh,ef] at hu ⊢
    obtain ⟨v,vs,h1,h2,h3⟩:=hu
    exact ⟨v,vs,h1,Qk d v h2,M1 ds vs h3⟩
end
mutual
theorem abq:∀ (t:T),bE w X t→bE w X' (sH b t)
  | .v d u,hs=>by
    simp only [bE,sH] at hs ⊢
    rw [MZ]
    exact Qk hX _ _ hs
  | .own s n cap a cs,hs=>by
    simp only [bE,sH] at hs ⊢
    obtain ⟨h1,h2,h3,h4⟩:=hs
    rw [rG,ui]
    exact ⟨h1,h2,h3,wR cs h4⟩
theorem wR:∀ (ts:List T),bF w X ts→bF w X' (gf b ts)
  | [],_=>by have _:=hX; simp [bF,gf]
  | t::ts,hs=>by
    simp only [bF,gf] at hs ⊢
    exact ⟨abq t hs.1,wR ts hs.2⟩
end
end
section
variable {w:World} {X:Bool→Nat→Prop}
mutual
theorem TE:∀ (d:D) (u:Value),Ext w X d u→bY d=true→Ext w (fun g k=>g=false∧X false k) d u
  | .int _ _,_,hu,_=>hu
  | .bool _,_,hu,_=>hu
  | .str _,_,hu,_=>hu
  | .nil _,_,hu,_=>hu
  | .undef,_,_,_=>trivial
  | .hole _ _,_,_,_=>trivial
  | .sl (some g) s n cs,u,hu,hn=>by
    simp only [Ext] at hu ⊢
    simp only [bY,Bool.and_eq_true] at hn
    have hg:g=false:=by cases g with
      | false=>rfl
      | true=>exact absurd hn.1 (by decide)
    subst hg
    obtain ⟨base,cap,us,h1,oN,h2,h3,h4⟩:=hu
    refine ⟨base,cap,us,h1,oN,h2,Ql cs us h3 hn.2,?_⟩
    rcases h4 with h4 | ⟨k,off,c,e,fz,h5,h6,h7,h8⟩
    · exact .inl h4
    · exact .inr ⟨k,off,c,e,fz,h5,⟨rfl,h6⟩,h7,h8⟩
  | .sl none _ _ _,_,hu,_=>by simp [Ext] at hu
  | .ref ..,_,hu,_=>by simp [Ext] at hu
  | .agg _,_,hu,_=>by simp [Ext] at hu
  | .aL _,_,hu,_=>by simp [Ext] at hu
  | .fn ..,_,hu,_=>by simp [Ext] at hu
  | .ptr ..,_,hu,_=>by simp [Ext] at hu
  | .da ..,_,hu,_=>by simp [Ext] at hu
  | .bf _,_,hu,_=>by simp [Ext] at hu
theorem Ql:∀ (ds:List D) (us:List Value),gh w X ds us→cd ds=true→gh w (fun g k=>g=false∧X false k) ds us
  | [],_,hu,_=>hu
  | d::ds,us,hu,hn=>by
    simp only [gh] at hu ⊢
    simp only [cd,Bool.and_eq_true] at hn
    obtain ⟨v,vs,h1,h2,h3⟩:=hu
    exact ⟨v,vs,h1,TE d v h2 hn.1,Ql ds vs h3 hn.2⟩
end
mutual
theorem abr:∀ (t:T),bE w X t→bY t.er=true→bE w (fun g k=>g=false∧X false k) t
  | .v d u,hs,hn=>by
    simp only [bE] at hs ⊢
    exact TE _ _ hs hn
  | .own s n cap a cs,hs,hn=>by
    simp only [bE] at hs ⊢
    simp only [T.er,bY,Bool.and_eq_true] at hn
    exact ⟨hs.1,hs.2.1,hs.2.2.1,BY cs hs.2.2.2 hn.2⟩
theorem BY:∀ (ts:List T),bF w X ts→cd (bh ts)=true→bF w (fun g k=>g=false∧X false k) ts
  | [],_,_=>by simp [bF]
  | t::ts,hs,hn=>by
    simp only [bF] at hs ⊢
    simp only [bh,cd,Bool.and_eq_true] at hn
    exact ⟨abr t hs.1 hn.1,BY ts hs.2 hn.2⟩
end
end
theorem eb:∀ ds:List D,cd ds=ds.all bY
  | []=>rfl
  | d::ds=>by simp [cd,eb ds]
mutual
theorem M3:∀ d:D,bY d=true→hM false d=d
  | .sl none s n cs,h=>by
    simp only [bY,Bool.and_eq_true] at h
    simp only [hM]
    rw [uj cs h.2]
  | .sl (some g) s n cs,h=>by
    simp only [bY,Bool.and_eq_true] at h
    have hg:g=false:=by cases g with
      | false=>rfl
      | true=>exact absurd h.1 (by decide)
    subst hg
    simp only [hM]
    rw [uj cs h.2]
  | .int _ _,_=>rfl
  | .bool _,_=>rfl
  | .str _,_=>rfl
  | .nil _,_=>rfl
  | .undef,_=>rfl
  | .hole _ _,_=>rfl
  | .ref ..,_=>rfl
  | .agg _,_=>rfl
  | .aL _,_=>rfl
  | .fn ..,_=>rfl
  | .ptr ..,_=>rfl
  | .da ..,_=>rfl
  | .bf _,_=>rfl
theorem uj:∀ ds:List D,cd ds=true→ef false ds=ds
  | [],_=>rfl
  | d::ds,h=>by
    simp only [cd,Bool.and_eq_true] at h
    simp only [ef]
    rw [M3 d h.1,uj ds h.2]
end
def qq (b:Bool):D→D
  | .agg cs=>.agg (ef b cs)
  | d=>hM b d
theorem DB (b:Bool) (vs:List D):gB b (.aL vs)=.aL (vs.map (qq b)):=by
  simp only [gB]
  congr 1
theorem Ht (d:D) (h:(bZ d).all bY=true):gB false d=d:=by
  cases d with
  | agg cs=>simp only [gB]; rw [uj cs (by rw [eb]; exact h)]
  | bf cs=>simp only [gB]; rw [uj cs (by rw [eb]; exact h)]
  | aL vs=>
    rw [DB]
    have hx:∀ x∈vs,qq false x=id x:=by
      intro x hx
      have hh:∀ y∈yW x,bY y=true:=fun y hy=>by
        refine List.all_eq_true.1 h y ?_
        simp only [bZ,vW,List.mem_flatMap]
        exact ⟨x,hx,hy⟩
      cases x with
      | agg cs=>simp only [qq]; rw [uj cs (by rw [eb]; exact List.all_eq_true.2 hh)]; rfl
      | _=>exact M3 _ (hh _ (by simp [yW]))
    rw [List.map_congr_left hx,List.map_id]
  | _=>
    simp only [bZ,dj,List.all_cons,List.all_nil,Bool.and_true] at h
    exact M3 _ h
theorem Aj {w:World} {X:Bool→Nat→Prop} {b:Bool} {d:D} {u:Value} {ts:List T} (hf:fB d u ts) (hs:bF w X ts):fB (qq b d) u (gf b ts):=by
  by_cases ha:∃ cs,d=.agg cs
  · obtain ⟨cs,rfl⟩:=ha
    obtain ⟨rfl,us,rfl,hu⟩:=hf
    exact ⟨(uS b ts).symm,us,rfl,by rw [rG]; exact hu⟩
  · have TC:∃ t,ts=[t]∧d=t.er∧u=t.val:=by cases d<;>first | exact hf | exact absurd ⟨_,rfl⟩ ha
    obtain ⟨t,rfl,rfl,rfl⟩:=TC
    have h1:=(cj _).1 hs t (by simp)
    have hp:qq b t.er=hM b t.er:=by
      cases he:t.er<;>first | rfl | exact absurd ⟨_,he⟩ ha
    rw [hp,← BW b t,← Ai b t]
    have h2:∀ cs,(sH b t).er≠.agg cs:=by
      intro cs
      rw [BW]
      cases he:t.er with
      | agg cs'=>exact absurd ⟨_,he⟩ ha
      | sl g s n cs'=>cases g<;>simp [hM]
      | _=>simp [hM]
    have h3:∀ d,(∀ cs,d≠.agg cs)→d=(sH b t).er→fB d (sH b t).val (gf b [t]):=fun d hn e=>by
      cases d<;>first | exact ⟨_,rfl,e,rfl⟩ | exact absurd rfl (hn _)
    exact h3 _ h2 rfl
theorem Fk {w:World} {X:Bool→Nat→Prop} {b:Bool}:∀ {ds:List D} {us:List Value} {ts:List T},sG ds us ts→bF w X ts→sG (ds.map (qq b)) us (gf b ts)
  | [],us,ts,h,_=>by obtain ⟨rfl,rfl⟩:=h; exact ⟨rfl,rfl⟩
  | d::ds,us,ts,h,hs=>by
    obtain ⟨u,j9,t1,t2,rfl,rfl,h1,h2⟩:=h
    rw [dL] at hs
    exact ⟨u,j9,_,_,rfl,BX b t1 t2,Aj h1 hs.1,Fk h2 hs.2⟩
theorem JF {b:Bool} {d:D} (h1:∀ cs,d≠.bf cs) (h2:∀ cs,d≠.aL cs):gB b d=qq b d:=by
  cases d<;>first | rfl | exact absurd rfl (h1 _) | exact absurd rfl (h2 _)
theorem Zq {w:World} {X:Bool→Nat→Prop} {b:Bool} {r:D} {v:Value} {ts:List T} (hr:JE r v ts) (hs:bF w X ts):JE (gB b r) v (gf b ts):=by
  by_cases hp:∃ cs,r=.bf cs
  · obtain ⟨cs,rfl⟩:=hp
    obtain ⟨bk,Qi,rfl,rfl,rfl⟩:=hr
    exact ⟨bk,gf b Qi,by simp [gf,rE,sH,ui],(uS b Qi).symm,rfl⟩
  by_cases jz:∃ ds,r=.aL ds
  · obtain ⟨ds,rfl⟩:=jz
    obtain ⟨us,rfl,hf⟩:=hr
    rw [DB]
    exact ⟨us,rfl,Fk hf hs⟩
  have hf:fB r v ts:=by cases r<;>first | exact hr | exact absurd ⟨_,rfl⟩ hp | exact absurd ⟨_,rfl⟩ jz
  rw [JF (fun cs e=>hp ⟨cs,e⟩) (fun cs e=>jz ⟨cs,e⟩)]
  have h2:=Aj (b:=b) hf hs
  have h3:(∀ cs,qq b r≠.bf cs)∧∀ cs,qq b r≠.aL cs:=by
    cases r with
    | bf cs=>exact absurd ⟨_,rfl⟩ hp
    | aL cs=>exact absurd ⟨_,rfl⟩ jz
    | sl g s n cs=>cases g<;>simp [qq,hM]
    | _=>simp [qq,hM]
  have:∀ d,(∀ cs,d≠.bf cs)→(∀ cs,d≠.aL cs)→fB d v (gf b ts)→JE d v (gf b ts):=fun d h4 h5 h6=>by
    cases d<;>first | exact h6 | exact absurd rfl (h4 _) | exact absurd rfl (h5 _)
  exact this _ h3.1 h3.2 h2
theorem VY {w:World} {X:Bool→Nat→Prop} {b c:Bool} {o:D} {a a':Arg} (h:oz w c o a a') (hs:bF w X a'.2):oz w c (gB b o) a (a'.1,gf b a'.2):=by
  cases c with
  | false=>
    simp only [oz] at h ⊢
    rw [h]; rfl
  | true=>
    cases o with
    | bf cs=>
      obtain ⟨h1,⟨bk,h2,h3⟩,h4⟩:=h
      exact ⟨h1,⟨bk,h2,by simp only [ui,rG]; exact h3⟩,by rw [h4]; exact (uS b _).symm⟩
    | agg cs=>
      obtain ⟨h1,h2,h3,h4⟩:=h
      exact ⟨h1,h2,by rw [h3]; exact (uS b _).symm,by simp only [rG]; exact h4⟩
    | aL vs=>
      obtain ⟨h1,h2,h3⟩:=h
      rw [DB]
      refine ⟨h1,h2,?_⟩
      rcases h3 with ⟨h3,_⟩ | ⟨t,h3,h4,_⟩
      · exact .inl ⟨by rw [h3]; rfl,by simp⟩
      · rw [h3] at hs
        exact absurd h4.symm ((rD ((cj _).1 hs t (by simp))).2.2 vs)
    | sl g s n cs=>
      obtain ⟨h1,h2,h3⟩:=h
      cases g with
      | none=>
        refine ⟨h1,h2,?_⟩
        rcases h3 with ⟨_,h3⟩ | ⟨t,h3,h4,h5⟩
        · exact absurd rfl (h3 s n cs)
        · exact .inr ⟨sH b t,by rw [h3]; rfl,by rw [BW,← h4]; rfl,by simp only [aC,Ai] at h5 ⊢; exact h5⟩
      | some g=>
        refine ⟨h1,h2,?_⟩
        rcases h3 with ⟨h3,_⟩ | ⟨t,h3,h4,h5⟩
        · exact .inl ⟨by rw [h3]; rfl,by simp [gB,hM]⟩
        · exact .inr ⟨sH b t,by rw [h3]; rfl,by rw [BW,← h4]; rfl,by simp only [aC,Ai] at h5 ⊢; exact h5⟩
    | _=>
      obtain ⟨h1,h2,h3⟩:=h
      refine ⟨h1,h2,?_⟩
      rcases h3 with ⟨h3,_⟩ | ⟨t,h3,h4,h5⟩
      · exact .inl ⟨by rw [h3]; rfl,by simp [gB,hM]⟩
      · exact .inr ⟨sH b t,by rw [h3]; rfl,by rw [BW,← h4]; rfl,by simp only [aC,Ai] at h5 ⊢; exact h5⟩
theorem Zr {w:World} {X X':Bool→Nat→Prop} {b:Bool} {d:D} {u:Value} {a:Arg} (h:JD w X true d u a) (hs:bF w X a.2):JD w X' true (gB b d) u (a.1,gf b a.2):=by
  by_cases hp:∃ cs,d=.bf cs
  · obtain ⟨cs,rfl⟩:=hp
    obtain ⟨bk,h1,h2,h3,h4,h5⟩:=h
    refine ⟨bk,h1,fun e=>h2 ?_,by rw [h3]; exact (uS b _).symm,h4,by simp only [ui,rG]; exact h5⟩
    have:=congrArg List.length e
    simp only [ui,List.length_nil] at this
    exact List.length_eq_zero_iff.1 this
  · have hf:a.1=none∧fB d u a.2:=by cases d<;>first | exact h | exact absurd ⟨_,rfl⟩ hp
    have jz:∀ vs,d≠.aL vs:=by
      rintro vs rfl
      obtain ⟨t,e1,e2,_⟩:=hf.2
      rw [e1] at hs
      exact (rD ((cj _).1 hs t (by simp))).2.2 vs e2.symm
    rw [JF (fun cs e=>hp ⟨cs,e⟩) jz]
    have h2:=Aj (b:=b) hf.2 hs
    have h3:∀ cs,qq b d≠.bf cs:=by
      cases d with
      | bf cs=>exact absurd ⟨_,rfl⟩ hp
      | sl g s n cs=>cases g<;>simp [qq,hM]
      | _=>simp [qq,hM]
    have:∀ d,(∀ cs,d≠.bf cs)→fB d u (gf b a.2)→JD w X' true d u (a.1,gf b a.2):=fun d h4 h6=>by
      cases d<;>first | exact ⟨hf.1,h6⟩ | exact absurd rfl (h4 _)
    exact this _ h3 h2
end Go.Proofs.YtockoilcnmljiaaGreat
namespace Go.Proofs.YtockoilcnmljiaaGreat
theorem jr:∀ as9:List Arg,(bt as9).Perm (as9.filterMap Prod.fst++ah (cY as9))
  | []=>.refl _
  | (bx,ts)::as9=>by
    have ih:=jr as9
    have h1:cY ((bx,ts)::as9)=ts++cY as9:=by simp [cY]
    rw [h1,bg]
    simp only [bt,BV]
    refine List.perm_iff_count.2 fun a=>?_
    have:=List.perm_iff_count.1 ih a
    cases bx<;>simp only [List.filterMap_cons,Option.toList,List.count_append,List.count_cons,List.count_nil] at this ⊢<;>omega
theorem nB (as9:List Arg):(ah (cR as9)).Perm (ah (cY as9)):=by
  refine Du ?_
  induction as9 with
  | nil=>exact .refl _
  | cons a as9 ih=>
    rw [qo]
    have:cY (a::as9)=a.2++cY as9:=by simp [cY]
    rw [this]
    exact (List.perm_append_comm).trans (List.Perm.append_left _ ih)
theorem kv {as9:List Arg} {k:Nat}:k∈bt as9↔k∈as9.filterMap Prod.fst∨k∈ah (cR as9):=by
  rw [(jr as9).mem_iff,List.mem_append,(nB as9).mem_iff]
def sJ (b:Bool) (a:Arg):Arg:=(a.1,gf b a.2)
theorem pN (b:Bool):∀ as9:List Arg,bt (as9.map (sJ b))=bt as9
  | []=>rfl
  | a::as9=>by simp only [List.map_cons,bt,pN b as9,BV,sJ,uT]
theorem JG (b:Bool):∀ as9:List Arg,cY (as9.map (sJ b))=gf b (cY as9)
  | []=>rfl
  | a::as9=>by
    have h1:cY (a::as9)=a.2++cY as9:=by simp [cY]
    have h2:cY ((a::as9).map (sJ b))=(gf b a.2)++cY (as9.map (sJ b)):=by simp [cY,sJ]
    rw [h1,h2,BX,JG b as9]
theorem wu {w:World} {X:Bool→Nat→Prop} {as9:List Arg}:bF w X (cY as9)↔∀ a∈as9,bF w X a.2:=by
  rw [cj]
  simp only [cY,List.mem_flatten,List.mem_map]
  constructor
  · intro h a ha
    rw [cj]
    exact fun t ht=>h t ⟨_,⟨a,ha,rfl⟩,ht⟩
  · rintro h t ⟨l,⟨a,ha,rfl⟩,ht⟩
    exact (cj _).1 (h a ha) t ht
theorem uU {w:World} {X:Bool→Nat→Prop} {as9:List Arg}:bF w X (cR as9)↔∀ a∈as9,bF w X a.2:=by
  rw [cj]
  simp only [cR,List.mem_flatten,List.mem_reverse,List.mem_map]
  constructor
  · intro h a ha
    rw [cj]
    exact fun t ht=>h t ⟨_,⟨a,ha,rfl⟩,ht⟩
  · rintro h t ⟨l,⟨a,ha,rfl⟩,ht⟩
    exact (cj _).1 (h a ha) t ht
theorem M4 {w':World} {c b:Bool} {o:D} {a a':Arg} (h:oz w' c o (sJ b a) a'):oz w' c o a a':=by
  cases c with
  | false=>exact h
  | true=>
    cases o<;>(simp only [oz,sJ,rG] at h ⊢; exact h)
theorem tU {w:World} {S:List (Nat × RT)}:∀ {b:List Bool} {ds gl:List D} {us:List Value} {as9:List Arg},sF w S b ds gl us as9→∀ bk∈as9.filterMap Prod.fst,∃ r R,lk S r=some R∧R.box=some bk∧R.cs=[]
  | _,[],_,_,_,h,bk,hb=>by obtain ⟨_,_,rfl⟩:=h; simp at hb
  | b,d::ds,gl,us,as9,h,bk,hb=>by
    obtain ⟨d1,ym,u,j9,a,cq,rfl,rfl,rfl,h1,h2⟩:=h
    obtain ⟨bx,ts⟩:=a
    cases bx with
    | none=>simp only [List.filterMap_cons] at hb; exact tU h2 bk hb
    | some MV=>
      simp only [List.filterMap_cons,List.mem_cons] at hb
      rcases hb with rfl | hb
      · cases sE:b.headD false with
        | false=>rw [sE] at h1; simp [qn] at h1
        | true=>
          rw [sE] at h1
          cases d1 with
          | bf cs=>
            obtain ⟨r,b2,_,e2,e3,_⟩:=h1
            simp only [Option.some.injEq] at e2
            subst e2
            exact ⟨r,_,e3,rfl,rfl⟩
          | _=>simp [qn] at h1
      · exact tU h2 bk hb
theorem CX (b:List Bool) (d:D) (ds:List D):fu b (d::ds)=((b.headD false&&!((bZ d).all bY))||fu b.tail ds):=rfl
theorem TF {w:World} {S:List (Nat × RT)} {X:Bool→Nat→Prop} {d d1:D} {u:Value} {a:Arg} (h:qn w S true d d1 u a):JD w X true d1 u a:=by
  cases d1 with
  | bf cs=>obtain ⟨r,b,_,e2,e3,e4,e5,e6,e7⟩:=h; exact ⟨b,e2,e4,e5,e6,e7⟩
  | _=>exact ⟨h.1,h.2.1⟩
theorem JH {w:World} {X X1:Bool→Nat→Prop} {d:D} {u:Value} {a:Arg} (h:JD w X true d u a) (hs:bF w X1 a.2):bZ d=bh a.2:=by
  by_cases hp:∃ cs,d=.bf cs
  · obtain ⟨cs,rfl⟩:=hp
    obtain ⟨b,_,_,e,_⟩:=h
    exact e
  · have hf:fB d u a.2:=by cases d<;>first | exact h.2 | exact absurd ⟨_,rfl⟩ hp
    have:bZ d=dj d:=by cases d<;>first | rfl | exact absurd ⟨_,rfl⟩ hp
    rw [this,rF hs hf,pk hf]
section
variable {C:Ctx} {w:World} {st aN:St} {aE:List (Array Value)} {S S1:List (Nat × RT)}
theorem M5 {Hs:List T} (h:Rel C Hs w aN aE S1) {X':Bool→Nat→Prop} (hX:∀ b k,af C w S1 Hs b k→X' b k) (hF:∀ r R k,lk S1 r=some R→R.cs≠[]→k∈R.ft→X' true k):
    ∀ {b:List Bool} {ds gl tA:List D} {us:List Value} {as9:List Arg},sF w S1 b ds gl us as9→cb (cr w (af C w S1 Hs) S1) ds us→uB aN b gl=some tA→(∀ a∈as9,bF w (af C w S1 Hs) a.2)→tt w X' b (j5 b tA) us (as9.map (sJ false))∧(fu b tA=false→j5 b tA=tA∧∀ a∈as9,cd (bh a.2)=true)
  | b,[],gl,tA,us,as9,h1,h2,h3,_=>by
    obtain ⟨rfl,rfl,rfl⟩:=h1
    simp only [uB,Option.some.injEq] at h3
    subst h3
    exact ⟨⟨rfl,rfl⟩,fun _=>⟨rfl,by simp⟩⟩
  | b,d::ds,gl,tA,us,as9,h1,h2,h3,h4=>by
    obtain ⟨d1,ym,u,j9,a,cq,rfl,rfl,rfl,g1,g2⟩:=h1
    cases h2 with
    | cons JI h22=>
    simp only [uB] at h3
    split at h3
    case h_2=>simp at h3
    rename_i d2 mI
    split at h3
    case h_2=>simp at h3
    rename_i Hu agl
    simp only [Option.some.injEq] at h3
    subst h3
    obtain ⟨k1,k2⟩:=M5 h hX hF g2 h22 agl (fun a ha=>h4 a (by simp [ha]))
    have hs:=h4 a (by simp)
    cases hb:b.headD false with
    | false=>
      rw [hb] at g1 mI
      obtain ⟨rfl,rfl⟩:=g1
      simp only [Bool.false_eq_true,if_false] at mI
      refine ⟨⟨u,j9,(none,[]),_,rfl,rfl,?_,k1⟩,fun hl=>?_⟩
      · rw [hb]
        simp only [Bool.false_eq_true,if_false]
        exact ⟨rfl,fun S'=>abm h hX hF JI mI S'⟩
      · rw [CX,hb] at hl
        simp only [Bool.false_and,Bool.false_or] at hl
        obtain ⟨e1,e2⟩:=k2 hl
        refine ⟨by simp only [j5,hb,Bool.false_eq_true,if_false]; rw [e1],fun x hx=>?_⟩
        simp only [List.mem_cons] at hx
        rcases hx with rfl | hx
        · rfl
        · exact e2 x hx
    | true=>
      rw [hb] at g1 mI
      simp only [if_true,Option.some.injEq] at mI
      subst mI
      have lK:=TF (X:=af C w S1 Hs) g1
      refine ⟨⟨u,j9,sJ false a,_,rfl,rfl,?_,k1⟩,fun hl=>?_⟩
      · rw [hb]
        simp only [if_true]
        exact Zr lK hs
      · rw [CX,hb] at hl
        simp only [Bool.true_and,Bool.or_eq_false_iff,Bool.not_eq_false'] at hl
        obtain ⟨e1,e2⟩:=k2 hl.2
        refine ⟨by simp only [j5,hb,if_true]; rw [e1,Ht _ hl.1],fun x hx=>?_⟩
        simp only [List.mem_cons] at hx
        rcases hx with rfl | hx
        · rw [eb,← JH lK hs]; exact hl.1
        · exact e2 x hx
theorem VZ {w':World} {b:Bool} {d d1 o:D} {u:Value} {a a':Arg} (g1:qn w S1 b d d1 u a) (g3:oz w' b o a a'):(a'.1=a.1)∧∀ bk,a.1=some bk→lh w' bk 0 0 []:=by
  cases b with
  | false=>
    obtain ⟨rfl,_⟩:=g1
    simp only [oz] at g3
    rw [g3]
    exact ⟨rfl,by simp⟩
  | true=>
    have eP:∀ {bk n us},lh w' bk 0 n us→lh w' bk 0 0 []:=fun ⟨c,e,fz,q1,q2,q3,q4⟩=>⟨c,e,fz,q1,q2,by omega,by simp⟩
    cases o with
    | bf cs=>
      obtain ⟨e1,⟨bk,e2,e3⟩,_⟩:=g3
      refine ⟨e1,fun MV e=>?_⟩
      rw [e2,Option.some.injEq] at e
      subst e
      exact eP e3
    | _=>exact ⟨g3.2.1.trans g3.1.symm,fun bk e=>by rw [g3.1] at e; simp at e⟩
theorem M6 {w':World}:∀ {b:List Bool} {ds gl:List D} {us:List Value} {as9 cq:List Arg} {os:List D},sF w S1 b ds gl us as9→mm w' b os (as9.map (sJ false)) cq→
    cq.filterMap Prod.fst=as9.filterMap Prod.fst∧∀ bk∈as9.filterMap Prod.fst,lh w' bk 0 0 []
  | b,[],gl,us,as9,cq,os,h1,h3=>by
    obtain ⟨rfl,rfl,rfl⟩:=h1
    simp only [List.map_nil,mm] at h3
    obtain ⟨rfl,rfl⟩:=h3
    exact ⟨rfl,by simp⟩
  | b,d::ds,gl,us,as9,cq,os,h1,h3=>by
    obtain ⟨d1,ym,u,j9,a,Af,rfl,rfl,rfl,g1,g2⟩:=h1
    simp only [List.map_cons,mm] at h3
    obtain ⟨o,wP,a',MX,rfl,rfl,g3,g4⟩:=h3
    obtain ⟨k2,k3⟩:=M6 g2 g4
    have abu:=VZ g1 (M4 g3)
    refine ⟨by simp only [List.filterMap_cons,abu.1,k2],fun bk uV=>?_⟩
    simp only [List.filterMap_cons] at uV
    cases ha:a.1 with
    | none=>rw [ha] at uV; exact k3 bk uV
    | some b2=>
      rw [ha] at uV
      simp only [List.mem_cons] at uV
      rcases uV with rfl | uV
      · exact abu.2 _ ha
      · exact k3 bk uV
theorem JJ {w':World} {X:Bool→Nat→Prop} {t:Bool} {Xo:Bool→Nat→Prop}:∀ {b:List Bool} {ds gl:List D} {us:List Value} {as9 cq:List Arg} {os:List D},sF w S1 b ds gl us as9→cb (cr w' X S1) ds us→mm w' b os (as9.map (sJ false)) cq→(∀ a∈cq,bF w' Xo a.2)→
    wQ w' X S1 id b ds us (os.map (gB t)) as9 (cq.map (sJ t))
  | b,[],gl,us,as9,cq,os,h1,h2,h3,_=>by
    obtain ⟨rfl,rfl,rfl⟩:=h1
    simp only [List.map_nil,mm] at h3
    obtain ⟨rfl,rfl⟩:=h3
    exact ⟨rfl,rfl,rfl,rfl⟩
  | b,d::ds,gl,us,as9,cq,os,h1,h2,h3,h4=>by
    obtain ⟨d1,ym,u,j9,a,Af,rfl,rfl,rfl,g1,g2⟩:=h1
    cases h2 with
    | cons JI h22=>
    simp only [List.map_cons,mm] at h3
    obtain ⟨o,wP,a',MX,rfl,rfl,g3,g4⟩:=h3
    have g3:=M4 g3
    have k1:=JJ (t:=t) g2 h22 g4 (fun a ha=>h4 a (by simp [ha]))
    have hs:=h4 a' (by simp)
    refine ⟨u,j9,gB t o,_,a,Af,sJ t a',_,rfl,rfl,rfl,rfl,?_,k1⟩
    · cases hb:b.headD false with
      | false=>
        rw [hb] at g3
        simp only [oz] at g3
        simp only [Bool.false_eq_true,if_false]
        rw [g3]; rfl
      | true=>
        rw [hb] at g1 g3
        simp only [if_true]
        have cM:cb (fun x v=>bj w' X S1 (id x) v) (cellsOf d) (gF d u):=by
          by_cases eo:∃ cs,d=.agg cs
          · obtain ⟨cs,rfl⟩:=eo
            obtain ⟨vs,rfl,hv⟩:=JI
            exact hv
          · have hnf:(∀ f cs,d≠.fn f cs)∧∀ ds,d≠.aL ds:=by
              cases d1 with
              | bf cs=>obtain ⟨r,_,e,_⟩:=g1; subst e; simp
              | _=>exact g1.2.2.2.2.2
            have h1:cellsOf d=[d]:=by cases d<;>first | rfl | exact absurd ⟨_,rfl⟩ eo
            have h2:gF d u=[u]:=by cases d<;>first | rfl | exact absurd ⟨_,rfl⟩ eo
            rw [h1,h2]
            refine .cons ?_ .nil
            rcases vO JI with ⟨ds,_,e,_⟩ | ⟨_,JI⟩
            · exact absurd e (hnf.2 ds)
            · rcases sw JI with ⟨cs,_,e,_⟩ | ⟨f,cs,_,e,_⟩ | ⟨_,_,JI⟩
              · exact absurd ⟨cs,e⟩ eo
              · exact absurd e (hnf.1 f cs)
              · exact JI
        refine ⟨cM,VY g3 hs,fun e=>?_,fun bx e=>?_⟩
        · cases d1 with
          | bf cs=>obtain ⟨r,b2,_,e2,_⟩:=g1; rw [e] at e2; simp at e2
          | _=>exact ⟨g1.2.2.1,g1.2.2.2.1⟩
        · cases d1 with
          | bf cs=>
            obtain ⟨r,b2,e1,e2,e3,_⟩:=g1
            rw [e,Option.some.injEq] at e2
            subst e2
            exact ⟨r,_,e1,e3,rfl⟩
          | _=>rw [g1.1] at e; simp at e
end
end Go.Proofs.YtockoilcnmljiaaGreat
