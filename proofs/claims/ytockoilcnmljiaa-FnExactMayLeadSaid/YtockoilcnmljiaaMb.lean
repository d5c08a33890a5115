/- What the proof of FnExactMayLead stands on, part 2: an abstract machine on plain data, its soundness, and the contracts of functions. -/
import Derived.Lib.AppendZerosOnto
import Derived.Laws.BytesString
import Derived.Laws.Small
import Derived.Laws.Runes
import Derived.Test.YtockoilcnmljiaaMa
set_option linter.all false
set_option linter.unusedSimpArgs false
set_option linter.unusedVariables false
set_option linter.unnecessarySimpa false
set_option linter.unusedSectionVars false
namespace Go.Proofs.Ytockoilcnmljiaa
def fW (d:D) (u:Value):List Value:=
  match d with
  | .agg _=>u.cells.toList
  | _=>[u]
section
variable {C:Ctx} {Hx:List T} {w:World} {ay:List (Array Value)}
theorem Mp {w':World} {S S':List (Nat × RT)} {H H':List T} (h:gl C w w' S S' H H' id) {d:D} {u:Value} (hd:bR w (ab C w S H) S d u):bR w' (ab C w' S' H') S' d u:=nD h hd
theorem oo {H:List T} {st st':St} {S:List (Nat × RT)} {d:D} {u:Value} {ds':List D} (h:Rel C H w st ay S) (hd:bR w (ab C w S H) S d u) (ht:oU st (cellsOf d)=some (ds',st')):
    ∃ ts S',Rel C (ts++H) w st' ay S'∧aL ts=ds'∧av ts=fW d u∧gl C w w S S' H (ts++H) id∧nF S S'∧kf st st':=by
  by_cases ha:∃ cs,d=.agg cs
  · obtain ⟨cs,rfl⟩:=ha
    obtain ⟨us,rfl,hu⟩:=hd
    exact Bl h hu ht
  · have hc:cellsOf d=[d]:=by cases d<;>first | rfl | exact absurd ⟨_,rfl⟩ ha
    have hv:fW d u=[u]:=by cases d<;>first | rfl | exact absurd ⟨_,rfl⟩ ha
    rw [hc] at ht
    rw [hv]
    have pY:aN w (ab C w S H) S d u:=by
      cases d<;>first | exact hd | (simp [oU,hI] at ht; done) | exact absurd ⟨_,rfl⟩ ha
    exact Bl h (.cons pY .nil) ht
theorem Bo:∀ {ps:List (Nat × D)} {us:List (Nat × Value)} {H:List T} {st st':St} {S:List (Nat × RT)} {QE:List (Nat × List D)},Rel C H w st ay S→bC (fun p q=>q.1=p.1∧bR w (ab C w S H) S p.2 q.2) ps us→o7 st ps=some (QE,st')→
    ∃ (nG:List (Nat × List T)) (S':List (Nat × RT)),Rel C (nG.flatMap (·.2)++H) w st' ay S'∧nG.map (fun p=>(p.1,p.2.map T.er))=QE∧bC (fun (p:Nat × D) (q:(Nat × List T) × (Nat × Value))=>q.2.1=q.1.1∧q.1.2.map T.val=fW p.2 q.2.2) ps (nG.zip us)∧nG.length=us.length∧gl C w w S S' H (nG.flatMap (·.2)++H) id∧nF S S'∧kf st st':=by
  intro ps
  induction ps with
  | nil=>
    intro us H st st' S QE h hu ht
    cases hu
    simp only [o7,Option.some.injEq,Prod.mk.injEq] at ht
    obtain ⟨rfl,rfl⟩:=ht
    exact ⟨[],S,h,rfl,.nil,rfl,fun _ _ h=>h,nF.refl _,kf.refl _⟩
  | cons p ps ih=>
    intro us H st st' S QE h hu ht
    cases hu with
    | cons p8 zm=>
    rename_i q qs
    obtain ⟨i,d⟩:=p
    obtain ⟨j,u⟩:=q
    obtain ⟨rfl,p8⟩:=p8
    simp only [o7] at ht
    split at ht
    case h_2=>simp at ht
    rename_i d1 aC h1
    split at ht
    case h_2=>simp at ht
    rename_i fA bK h2
    simp only [Option.some.injEq,Prod.mk.injEq] at ht
    obtain ⟨rfl,rfl⟩:=ht
    obtain ⟨ts,S1,a1,rfl,a3,a4,a5,a6⟩:=oo h p8 h1
    obtain ⟨nG,S2,b1,rfl,b3,b4,b5,b6,b7⟩:=ih a1 (zm.mono (fun _ _ hh=>⟨hh.1,Mp a4 hh.2⟩)) h2
    have hp:(nG.flatMap (·.2)++(ts++H)).Perm (((j,ts)::nG).flatMap (·.2)++H):=by
      simp only [List.flatMap_cons]
      rw [← List.append_assoc]
      exact List.Perm.append_right _ List.perm_append_comm
    refine ⟨(j,ts)::nG,S2,b1.perm hp,by simp [dT],.cons ⟨rfl,by rw [← cu]; exact a3⟩ b3,by simp [b4],fun d u hd=>?_,a5.trans b6,kf.trans a6 b7⟩
    have:=b5 _ _ (a4 d u hd)
    rwa [wY hp] at this
end
theorem K0 {w:World} {X:Bool→Nat→Prop}:∀ {nG:List (Nat × List T)} {ps:List (Nat × D)} {us:List (Nat × Value)},bC (fun (p:Nat × D) (q:(Nat × List T) × (Nat × Value))=>q.2.1=q.1.1∧q.1.2.map T.val=fW p.2 q.2.2) ps (nG.zip us)→nG.length=us.length→
    (∀ p∈nG,∀ t∈p.2,aT w X t∧cI t.er=true)→bC (fun p q=>q.1=p.1∧q.2.cells.toList=p.2.map T.val) nG us:=by
  intro nG
  induction nG with
  | nil=>
    intro ps us h hl _
    cases us with
    | nil=>exact .nil
    | cons u us=>simp at hl
  | cons p nG ih=>
    intro ps us h hl hs
    cases us with
    | nil=>simp at hl
    | cons u us=>
      simp only [List.zip_cons_cons] at h
      cases h with
      | cons h1 h2=>
      rename_i d ds
      obtain ⟨e1,e2⟩:=h1
      refine .cons ⟨e1,?_⟩ (ih h2 (by simpa using hl) (fun q hq=>hs q (by simp [hq])))
      simp only at e2
      rw [e2]
      obtain ⟨j,d⟩:=d
      by_cases ha:∃ cs,d=.agg cs
      · obtain ⟨cs,rfl⟩:=ha
        rfl
      · have hv:fW d u.2=[u.2]:=by cases d<;>first | rfl | exact absurd ⟨_,rfl⟩ ha
        simp only at hv ⊢
        simp only [hv] at e2 ⊢
        cases hp:p.2 with
        | nil=>rw [hp] at e2; simp at e2
        | cons t ts=>
          rw [hp] at e2
          simp only [List.map_cons,List.cons.injEq,List.map_eq_nil_iff] at e2
          obtain ⟨e3,rfl⟩:=e2
          obtain ⟨g1,g2⟩:=hs p (by simp) t (by simp [hp])
          have:=(kG g1 g2).2
          rw [e3] at this
          rw [this]
section
variable {P:Program} {c:bU} (ah:dG c P) {C:Ctx} {Hx:List T} {w:World} {st st':St} {a:Act} {ay:List (Array Value)} {S:List (Nat × RT)} (h:Rel C Hx w st (a.tmps::ay) S)
include ah h
theorem Fa {t e:TypeId} {ti ei:TI} (jo:c.ty t=some ti) (QD:ti.ty=.slice e) (he:c.ty e=some ei) {n:Nat} {ps:Array (Nat × Operand)} (hn:n*ei.size≤16777216) {XO:List (Nat × List D)} {aC:St}
    (hp:o7 st (ps.toList.map fun p=>(p.1,bN c st e p.2))=some (XO,aC)) {cs:List D} (hf:lu cI (fun i=>some (i*ei.size,ei.size)) (fD n ei.zero) XO=some cs)
    {d:Nat} (ht:d < a.tmps.size) (hP:∀ p∈C.P0,p.1≠st.of+d) (hr:aC.root (some d) [.sl none ei.size n cs] (fun d=>.ref d [] 0 none)=some st'):
    ∃ v w',(Instr.buildSlice t n (ps.map fun (i,x)=>(i,a.eval x))).run P w=.ok v w'∧cY w w'∧∃ S',Rel C Hx w' st' (a.tmps.setIfInBounds d v::ay) S':=by
  have fh:ku w (ab C w S Hx) S st.tm a.tmps:=by cases h.mO with | cons a _=>exact a
  obtain ⟨inf,h1,h2,h3,z,h4,h5⟩:=(ah.ty _ _ he).info
  have zo:=(ah.ty _ _ he).len
  obtain ⟨dd,g1,g2⟩:=(ah.ty _ _ jo).desc
  rw [QD] at g2
  simp only [jl] at g2
  subst g2
  have dt:bC (fun p q=>q.1=p.1∧bR w (ab C w S Hx) S p.2 q.2) (ps.toList.map fun p=>(p.1,bN c st e p.2)) (ps.toList.map fun p=>(p.1,a.eval p.2)):=by
    refine cL (by simp) (fun i x y hx hy=>?_)
    simp only [List.getElem?_map] at hx hy
    cases hq:ps.toList[i]? with
    | none=>simp [hq] at hx
    | some q=>
      simp only [hq,Option.map_some,Option.some.injEq] at hx hy
      subst hx; subst hy
      exact ⟨rfl,tn (c:=c) fh e q.2⟩
  obtain ⟨nG,S1,b1,rfl,b3,b4,b5,b6,b7⟩:=Bo h dt hp
  have OJ:=Ec hf
  obtain ⟨zt,f1,f2,f3,f4⟩:=tu h5 n
  rw [← f1,dT] at hf
  obtain ⟨cs',k1,k2⟩:=JV T.er hf
  have du:=((da _ _).1 b1.mem.hand).1
  rw [bL] at du
  have fV:=K0 (X:=ab C w S1 (nG.flatMap (·.2)++Hx)) b3 b4 (fun p hp t ht=>⟨du t (List.mem_flatMap.2 ⟨p,hp,ht⟩),OJ (p.1,p.2.map T.er) (List.mem_map.2 ⟨p,hp,rfl⟩) t.er (List.mem_map.2 ⟨t,ht,rfl⟩)⟩)
  have jV:z.cells.size=ei.size:=by rw [← zo,h5.len]; simp
  have Y9:((Array.range (n*inf.size)).map (z.cells[· % z.cells.size]!)).toList=zt.map T.val:=by
    rw [← cu,f2,h2,← jV,← wZ]
    simp
  obtain ⟨arr,m1,m2⟩:=Bm T.val (arr:=(Array.range (n*inf.size)).map (z.cells[· % z.cells.size]!)) fV k1 Y9
  have dB:(Instr.buildSlice t n (ps.map fun (i,x)=>(i,a.eval x))).run P w=.ok (.slice (some ⟨w.heap.size,0,none⟩) n n) (w.alloc (.cells arr e)):=by
    have hl:(ps.map fun (i,x)=>(i,a.eval x)).toList=ps.toList.map fun p=>(p.1,a.eval p.2):=by simp
    by_cases h0:n*inf.size=0
    · have mN:=m1
      rw [h0] at mN
      rw [← hl,← h2] at mN
      simp only [Array.range_zero',Array.map_empty] at mN
      simp [Instr.buildSlice,run_underlying g1,sizeOf,typeInfo,h1,h0,newRow,Array.range_zero']
      simp at mN
      rw [mN]
      simp
    · rw [← hl,← h2] at m1
      exact run_buildSlice w t e n _ arr inf z g1 h1 h4 (by rw [h2]; omega) h0 m1
  refine ⟨_,_,dB,(Grown.alloc w _).bQ,?_⟩
  have oV:aC.of=st.of:=b7.2.2
  obtain ⟨q1,q2⟩:=Ed k1
  have hlen:cs'.length=n*ei.size:=by
    rw [q2]
    have:=congrArg List.length f2
    rw [bd] at this
    rw [this,List.length_flatten,List.map_replicate,List.sum_replicate_nat,Array.length_toList,jV]
  have K1:=KZ k1 (by
    rw [f3,List.nil_append]
    have h9:=(List.nodup_append.1 b1.mem.nd).2.1
    rw [aK] at h9
    exact (List.nodup_append.1 h9).1)
  rw [f3] at K1
  rw [← k2,← dT] at hr
  refine yD (Hs:=nG.flatMap (·.2)) (H:=Hx) b1 (Grown.alloc w _) (ts:=cs') ⟨Nat.le_refl _,by rw [im]; omega⟩ ?_ (fun k hk=>by simpa using K1.2 k hk) K1.1 (Nat.le_refl _) hlen ?_ ht (by rw [oV]; exact hP) hr
  · rw [bL]
    intro x hx
    rcases q1 x hx with h6 | ⟨p,h6,h7⟩
    · exact (bL _).1 (f4 _ _) x h6
    · exact du x (List.mem_flatMap.2 ⟨p,h6,h7⟩)
  · have cr:arr.size=cs'.length:=by have:=congrArg List.length m2; simpa using this
    refine jq w _ _ (by rw [cr,hlen]; exact Nat.le_refl _) (fun j u hj=>?_)
    rw [← Array.getElem?_toList,m2,← cu]
    exact hj
theorem Tz {e:TypeId} {x:Operand} {i:TI} (hlen:(cellsOf (bN c st e x)).length=i.size) (ck:(cellsOf (bN c st e x)).all (eW st)=true) {t:Nat} (ht:t < a.tmps.size) (hP:∀ p∈C.P0,p.1≠st.of+t)
    (hr:st.root (some t) (cellsOf (mM (bW (st.of+t)) (bN c st e x))) (fun d=>.ptr d [] 0)=some st'):
    ∃ v w',(Instr.box e (a.eval x)).run P w=.ok v w'∧cY w w'∧∃ S',Rel C Hx w' st' (a.tmps.setIfInBounds t v::ay) S':=by
  have _:=ah
  have fh:ku w (ab C w S Hx) S st.tm a.tmps:=by cases h.mO with | cons a _=>exact a
  have hd:=tn (c:=c) fh e x
  have dt:=Af h.rt h.mem hd (List.all_eq_true.1 ck)
  have dB:(Instr.box e (a.eval x)).run P w=.ok (.pointer (some ⟨w.heap.size,0,none⟩)) (w.alloc (.cells (a.eval x).cells e)):=by
    simp [Instr.box,newVar,newRow]
  refine ⟨_,_,dB,(Grown.alloc w _).bQ,?_⟩
  have dU:cellsOf (mM (bW (st.of+t)) (bN c st e x))=(cellsOf (bN c st e x)).map (bW (st.of+t)):=by
    by_cases ha:∃ cs,bN c st e x=.agg cs
    · obtain ⟨cs,ha⟩:=ha
      rw [ha]; rfl
    · have hc:cellsOf (bN c st e x)=[bN c st e x]:=by cases hx:bN c st e x<;>first | rfl | exact absurd ⟨_,hx⟩ ha
      have ho:=List.all_eq_true.1 ck (bN c st e x) (by rw [hc]; simp)
      rw [hc]
      cases hx:bN c st e x with
      | agg cs=>exact absurd ⟨_,hx⟩ ha
      | aQ cs=>rw [hx] at ho; simp [eW,cI] at ho
      | fn f cs=>rw [hx] at ho; simp [eW,cI] at ho
      | aJ cs=>rw [hx] at ho; simp [eW,cI] at ho
      | ref r q o y=>simp only [mM,eB,List.map_cons,List.map_nil,bW]; split<;>rfl
      | ptr r q o=>simp only [mM,eB,List.map_cons,List.map_nil,bW]; split<;>rfl
      | _=>rfl
  obtain ⟨l,e1,e2,e3⟩:=vl dt
  let ts:List T:=l.map fun p=>.v (bW (st.of+t) p.1) p.2
  have iZ:∀ p∈l,aZ (bW (st.of+t) p.1)=bW (st.of+t) p.1:=by
    intro p hp
    have h2:=e3 p hp
    obtain ⟨d,u⟩:=p
    simp only at h2 ⊢
    cases d with
    | sl g s n cs=>
      cases g with
      | none=>simp [aN,Ext] at h2
      | some g=>rfl
    | ref r q o y=>simp only [bW]; split<;>rfl
    | ptr r q o=>simp only [bW]; split<;>rfl
    | _=>rfl
  have Za:aL ts=(cellsOf (bN c st e x)).map (bW (st.of+t)):=by
    rw [← e1,dT]
    simp only [ts,List.map_map]
    refine List.map_congr_left (fun p hp=>?_)
    simp only [Function.comp_apply,T.er]
    exact iZ p hp
  have fV:av ts=(a.eval x).cells.toList:=by
    rw [← e2,cu]
    simp only [ts,List.map_map]
    rfl
  have ea:ad ts=[]:=by
    rw [lK]
    simp only [ts,List.map_map]
    rw [List.flatten_eq_nil_iff]
    intro y hy
    simp only [List.mem_map,Function.comp_apply] at hy
    obtain ⟨p,_,rfl⟩:=hy
    rfl
  rw [dU,← Za] at hr
  refine CB (Hs:=[]) h (Grown.alloc w _) (ts:=ts) ⟨Nat.le_refl _,by rw [im]; omega⟩ (fun y hy=>.inr ?_) (by rw [ea]; simp) (by rw [ea]; simp) ?_ ht hP hr
  · simp only [ts,List.mem_map] at hy
    obtain ⟨p,hp,rfl⟩:=hy
    exact ⟨p.1,p.2,rfl,e3 p hp⟩
  · refine jq w _ _ ?_ (fun j u hj=>?_)
    · have:=congrArg List.length fV
      rw [bd] at this
      rw [this]; simp
    · rw [fV] at hj
      simpa using hj
theorem Mq {e:TypeId} {x:Operand} {i:TI} (hlen:(cellsOf (bN c st e x)).length=i.size) {ds:List D} {aC:St} (cS:oU st (cellsOf (bN c st e x))=some (ds,aC)) (ck:ds.all cI=true) {t:Nat} (ht:t < a.tmps.size) (hP:∀ p∈C.P0,p.1≠st.of+t)
    (hr:aC.root (some t) ds (fun d=>.ptr d [] 0)=some st'):
    ∃ v w',(Instr.box e (a.eval x)).run P w=.ok v w'∧cY w w'∧∃ S',Rel C Hx w' st' (a.tmps.setIfInBounds t v::ay) S':=by
  have _:=ah
  have fh:ku w (ab C w S Hx) S st.tm a.tmps:=by cases h.mO with | cons a _=>exact a
  have hd:=tn (c:=c) fh e x
  obtain ⟨ts,S1,b1,rfl,b3,b4,b5,b6⟩:=oo h hd cS
  have dB:(Instr.box e (a.eval x)).run P w=.ok (.pointer (some ⟨w.heap.size,0,none⟩)) (w.alloc (.cells (a.eval x).cells e)):=by
    simp [Instr.box,newVar,newRow]
  refine ⟨_,_,dB,(Grown.alloc w _).bQ,?_⟩
  have du:=((da _ _).1 b1.mem.hand).1
  rw [bL] at du
  have fV:av ts=(a.eval x).cells.toList:=by
    by_cases ha:∃ cs,bN c st e x=.agg cs
    · obtain ⟨cs,ha⟩:=ha
      rw [b3,ha]; rfl
    · have hv:fW (bN c st e x) (a.eval x)=[a.eval x]:=by cases hx:bN c st e x<;>first | rfl | exact absurd ⟨_,hx⟩ ha
      rw [hv] at b3
      rw [b3]
      cases ts with
      | nil=>simp [av] at b3
      | cons y ys=>
        simp only [av,List.cons.injEq] at b3
        have:=kG (du y (by simp)) (List.all_eq_true.1 ck y.er (by simp [aL]))
        rw [b3.1] at this
        rw [this.2]
  refine CB (Hs:=ts) b1 (Grown.alloc w _) (ts:=ts) ⟨Nat.le_refl _,by rw [im]; omega⟩ (fun y hy=>.inl (du y hy)) (fun _ h=>h) (by
    have h9:=(List.nodup_append.1 b1.mem.nd).2.1
    rw [aK] at h9
    exact (List.nodup_append.1 h9).1) ?_ ht (by rw [b6.2.2]; exact hP) hr
  refine jq w _ _ ?_ (fun j u hj=>?_)
  · have:=congrArg List.length fV
    rw [bd] at this
    rw [this]; simp
  · rw [fV] at hj
    simpa using hj
end
end Go.Proofs.Ytockoilcnmljiaa
namespace Go.Proofs.Ytockoilcnmljiaa
theorem K2 {q:List Nat}:∀ {p:Nat} {cs l:List T} {bx:Option Nat} {b off:Nat},bw bx cs (p::q)=some (b,off)→ao cs (p::q)=some l→(ad cs).Nodup→b∉ad l:=by
  induction q with
  | nil=>
    intro p cs l bx b off ha hc hn
    rw [bw] at ha
    rw [ao] at hc
    cases hp:cs[p]? with
    | none=>simp [hp] at hc
    | some x=>
      cases x with
      | v d u=>simp [hp] at hc
      | own s n cap a xs=>
        simp only [hp,ao,Option.some.injEq] at hc ha
        subst hc; subst ha
        obtain ⟨A,B,e,_⟩:=df cs p _ hp
        rw [e] at hn
        have:=(List.nodup_append.1 (List.nodup_append.1 hn).1).2.1
        simp only [T.ft,hL,List.cons_append,List.nil_append,List.nodup_cons] at this
        exact this.1
  | cons p' q ih=>
    intro p cs l bx b off ha hc hn
    rw [bw] at ha
    rw [ao] at hc
    cases hp:cs[p]? with
    | none=>simp [hp] at hc
    | some x=>
      cases x with
      | v d u=>simp [hp] at hc
      | own s n cap a xs=>
        simp only [hp] at hc ha
        refine ih ha hc ?_
        obtain ⟨A,B,e,_⟩:=df cs p _ hp
        rw [e] at hn
        have:=(List.nodup_append.1 (List.nodup_append.1 hn).1).2.1
        simp only [T.ft] at this
        exact (List.nodup_append.1 this).2.1
theorem RG {q:List Nat} {o:Nat} {t':T} {d:D} {u:Value}:∀ {cs cs':List T} {q':List Nat} {o':Nat} {l:List T},cX (fun l=>l.set o t') cs q=some cs'→under (q++[o]) (q'++[o'])=none→ao cs q'=some l→l[o']?=some (.v d u)→
    ∃ l',ao cs' q'=some l'∧l'[o']?=some (.v d u):=by
  induction q with
  | nil=>
    intro cs cs' q' o' l hm hu hc ho
    simp only [cX,Option.some.injEq] at hm
    subst hm
    cases q' with
    | nil=>
      simp only [ao,Option.some.injEq] at hc
      subst hc
      simp only [List.nil_append,under] at hu
      split at hu
      · simp at hu
      · rename_i cA
        exact ⟨_,rfl,by rw [List.getElem?_set_ne cA]; exact ho⟩
    | cons p q'=>
      simp only [List.nil_append,List.cons_append,under] at hu
      split at hu
      · simp at hu
      · rename_i cA
        exact ⟨l,by rw [ao,List.getElem?_set_ne cA]; rw [ao] at hc; exact hc,ho⟩
  | cons p q ih=>
    intro cs cs' q' o' l hm hu hc ho
    rw [cX] at hm
    cases hp:cs[p]? with
    | none=>simp [hp] at hm
    | some x=>
      cases x with
      | v d u=>simp [hp] at hm
      | own s n cap a xs=>
        simp only [hp] at hm
        cases hx:cX (fun l=>l.set o t') xs q with
        | none=>simp [hx] at hm
        | some jg=>
          simp only [hx,Option.some.injEq] at hm
          subst hm
          obtain ⟨cJ,_⟩:=List.getElem?_eq_some_iff.1 hp
          cases q' with
          | nil=>
            simp only [ao,Option.some.injEq] at hc
            subst hc
            have cA:p≠o':=fun e=>by subst e; rw [hp] at ho; simp at ho
            exact ⟨_,rfl,by rw [List.getElem?_set_ne cA]; exact ho⟩
          | cons p' q'=>
            by_cases Bg:p=p'
            · subst Bg
              simp only [List.cons_append,under,if_true] at hu
              rw [ao,hp] at hc
              obtain ⟨l',h1,h2⟩:=ih hx hu hc ho
              exact ⟨l',by rw [ao,List.getElem?_set_self cJ]; exact h1,h2⟩
            · exact ⟨l,by rw [ao,List.getElem?_set_ne Bg]; rw [ao] at hc; exact hc,ho⟩
theorem jn.He {S S':List (Nat × RT)} {r:Nat} {q:List Nat} {o:Nat} {t t':T} (hc:jn S S' r q o t t') {r':Nat} {q':List Nat} {o':Nat} (hf:r'≠r∨under (q++[o]) (q'++[o'])=none) {d:D} {u:Value} (h:bT S r' q' o'=some (.v d u)):bT S' r' q' o'=some (.v d u):=by
  by_cases he:r'=r
  · subst he
    have hf:under (q++[o]) (q'++[o'])=none:=by rcases hf with hf | hf<;>first | exact absurd rfl hf | exact hf
    obtain ⟨R,cs',l,h1,h2,h3,h4,rfl⟩:=hc.ex
    unfold bT at h ⊢
    rw [bX]
    rw [h1] at h
    simp only at h ⊢
    cases hx:ao R.cs q' with
    | none=>simp [hx] at h
    | some l'=>
      simp only [hx] at h
      obtain ⟨l1,h5,h6⟩:=RG h4 hf hx h
      rw [h5]
      exact h6
  · unfold bT at h ⊢
    rw [hc.Gw he]
    exact h
theorem yE {g:D→D} {S:List (Nat × RT)} {r:Nat} {q:List Nat} {o:Nat} {t:T} (h:bT S r q o=some t):bT (fS g S) r q o=some (if q=[] then fT g t else t):=by
  unfold bT at h ⊢
  rw [jY]
  cases hr:lk S r with
  | none=>simp [hr] at h
  | some R=>
    simp only [hr,Option.map_some] at h ⊢
    cases q with
    | nil=>
      simp only [ao,if_true] at h ⊢
      rw [List.getElem?_map,h]; rfl
    | cons p q=>
      rw [Aa]
      simpa using h
section
variable {C:Ctx} {H Hs:List T} {w w':World} {st aC bK:St} {ay:List (Array Value)} {S S1 S':List (Nat × RT)}
theorem JW (h:Rel C H w st ay S) {g:D→D} (hg:jS g) (dq:∀ d u,aN w (ab C w S H) S d u→aN w (ab C w S H) (fS g S) (g d) u) (wT:∀ d u,Ext w (ab C w S H) d u→Ext w (ab C w S H) (eB g d) u) (mz:∀ d u,aN w (ab C w S H) S d u→eB g d=g d):
    Rel C H w (st.ej g) ay (fS g S)∧gl C w w S (fS g S) H H g:=by
  have zr:ab C w (fS g S) H=ab C w S H:=by
    funext b k
    simp only [ab,qX]
  refine ⟨?_,fun d u hd=>by rw [zr]; exact dq d u hd⟩
  refine h.step (f:=g) ?_ rfl rfl (fun d u hd=>by rw [zr]; exact dq d u hd) ⟨by rw [qX]; exact h.mem.nd,?_,by rw [zr]; exact h.mem.hand,by rw [qX]; exact h.mem.lt⟩
    ⟨h.kept.os,h.kept.tape,h.kept.output,h.kept.size,h.kept.block,by rw [qX]; exact h.kept.gJ,?_⟩
  · exact np hg h.rt
  · intro r R' dC
    rw [jY] at dC
    cases hx:lk S r with
    | none=>simp [hx] at dC
    | some R=>
      simp only [hx,Option.map_some,Option.some.injEq] at dC
      subst dC
      obtain ⟨k1,k2⟩:=h.mem.root r R hx
      have hv:av (R.cs.map (fT g))=av R.cs:=by
        rw [cu,cu,List.map_map]
        congr 1
        funext t
        cases t<;>rfl
      refine ⟨?_,fun t ht=>?_⟩
      · simp only [List.length_map]
        rw [hv]; exact k1
      · simp only [List.mem_map] at ht
        obtain ⟨t0,jo,rfl⟩:=ht
        have:=k2 t0 jo
        rw [zr]
        cases t0 with
        | own s n cap a xs=>exact this
        | v d u=>
          simp only [fT,hM] at this ⊢
          rw [hg.leaf]
          rcases this with this | ⟨hb,this⟩
          · exact .inl (wT _ _ this)
          · exact .inr ⟨hb,by rw [mz _ _ this]; exact dq _ _ this⟩
  · intro r b vs hm R' dC
    rw [jY] at dC
    cases hx:lk S r with
    | none=>simp [hx] at dC
    | some R=>
      simp only [hx,Option.map_some,Option.some.injEq] at dC
      subst dC
      have hv:av (R.cs.map (fT g))=av R.cs:=by
        rw [cu,cu,List.map_map]
        congr 1
        funext t
        cases t<;>rfl
      have:=h.kept.par r b vs hm R hx
      simp only
      rw [hv]; exact this
end
end Go.Proofs.Ytockoilcnmljiaa
namespace Go.Proofs.Ytockoilcnmljiaa
section
variable {C:Ctx} {H Hs:List T} {w w':World} {st aC bK:St} {ay:List (Array Value)} {S S1 S':List (Nat × RT)}
theorem yF {k:Nat} {ts:List T} {t:T} (ht:t∈ts) (hk:k∈t.ft):k∈ad ts:=by
  obtain ⟨i,hi⟩:=List.mem_iff_getElem?.1 ht
  obtain ⟨A,B,e,_⟩:=df ts i _ hi
  rw [e]; simp [hk]
theorem Ef {q:List Nat} {k:Nat} {cs l:List T} (hc:ao cs q=some l) (hk:k∈ad l):k∈ad cs:=by
  obtain ⟨A,B,e,_⟩:=A4 hc
  rw [e]; simp [hk]
theorem zu {r k:Nat} {R:RT} (h:lk S r=some R) (hk:k∈R.ft):k∈cf S:=by
  obtain ⟨A,B,e,_⟩:=ka h
  rw [e]; simp [hk]
theorem K3 (hn:(cf S).Nodup) {r:Nat} {R:RT} (h:lk S r=some R):R.ft.Nodup:=by
  obtain ⟨A,B,e,_⟩:=ka h
  rw [e] at hn
  exact (List.nodup_append.1 (List.nodup_append.1 hn).1).2.1
structure Wr (C:Ctx) (w w':World) (S S':List (Nat × RT)) (H H':List T) (t1:T):Prop where
  stays:il w w' (ab C w S H) (ab C w' S' H')
  sub:∀ k∈cf S'++ad H',k∈cf S++ad H
  nd:(cf S'++ad H').Nodup
  bQ:∀ k∈t1.ft,ab C w' S' H' false k∧w'.heap[k]?=w.heap[k]?
  new:∀ k∈ad H,w'.heap[k]?=w.heap[k]?
  kept:Kept C w' S' H'
theorem Jd (h:Rel C (Hs++H) w st ay S) {g:D→D} (hS:SR g S S1) {r:Nat} {q:List Nat} {o:Nat} {t0 t1 t':T} (hc:jn S1 S' r q o t1 t') (TA:t1.ft=t0.ft) {R:RT} {l:List T} (hR:lk S r=some R) (hl:ao R.cs q=some l) (ho:l[o]?=some t0) {b off:Nat} (ha:bw R.box R.cs q=some (b,off))
    (QF:ad Hs=t'.ft) {u:Value} (hu:JN w w' b (off+o) u) (cr:w'.heap.size=w.heap.size) (lv:w'.os=w.os) (qY:w'.tape=w.tape) (rM:w'.output=w.output):Wr C w w' S S' (Hs++H) H t1:=by
  obtain ⟨A,B,e1,e2⟩:=hc.Tk
  rw [hS.gJ] at e1
  have eG:=h.mem.nd
  have cJ:=h.mem.lt
  have QG:b∈R.ft:=by
    cases q with
    | nil=>simp only [bw] at ha; cases hb:R.box with
      | none=>simp [hb] at ha
      | some b'=>simp only [hb,Option.map_some,Option.some.injEq,Prod.mk.injEq] at ha; simp [RT.ft,hb,ha.1]
    | cons p q=>simp [RT.ft,pc ha]
  have zk:b∈cf S:=zu hR QG
  have dP:∀ k∈cf S'++ad H,k∈cf S++ad (Hs++H):=by
    intro k hk
    rw [e2] at hk
    rw [e1,aK,QF]
    simp only [List.mem_append] at hk ⊢
    rcases hk with ((hk | hk) | hk) | hk
    · exact .inl (.inl (.inl hk))
    · exact .inr (.inl hk)
    · exact .inl (.inr hk)
    · exact .inr (.inr hk)
  have TB:=eG
  rw [e1,aK,QF] at TB
  have p1:(A++t1.ft++B++(t'.ft++ad H)).Perm (t1.ft++(A++t'.ft++B++ad H)):=by
    refine List.perm_iff_count.2 fun a=>?_
    simp only [List.count_append]
    omega
  have Zb:=p1.nodup_iff.1 TB
  obtain ⟨_,Zc,QH⟩:=List.nodup_append.1 Zb
  have hbt:b∉t1.ft:=by
    rw [TA]
    intro hb
    have Mr:=K3 (List.nodup_append.1 eG).1 hR
    have QI:t0∈l:=List.mem_of_getElem? ho
    have Qz:b∈ad l:=yF QI hb
    cases q with
    | nil=>
      simp only [bw] at ha
      simp only [ao,Option.some.injEq] at hl
      subst hl
      cases hx:R.box with
      | none=>simp [hx] at ha
      | some b'=>
        simp only [hx,Option.map_some,Option.some.injEq,Prod.mk.injEq] at ha
        rw [RT.ft,hx] at Mr
        simp only [Option.toList,List.cons_append,List.nil_append,List.nodup_cons] at Mr
        exact Mr.1 (ha.1▸Qz)
    | cons p q=>
      rw [RT.ft] at Mr
      exact K2 ha hl (List.nodup_append.1 Mr).2.1 Qz
  have cA:∀ k,k≠b→w'.heap[k]?=w.heap[k]?:=by obtain ⟨_,_,_,_,_,h3⟩:=hu; exact h3
  have bV:il w w' (ab C w S (Hs++H)) (ab C w' S' H):=by
    intro bb k hk
    have hkb:k≠b:=fun e=>hk.2.1 (e▸zk)
    refine ⟨⟨by rw [cr]; exact hk.1,fun hx=>?_,fun hx=>?_,hk.2.2.2⟩,cA k hkb⟩
    · rcases List.mem_append.1 (dP k (List.mem_append.2 (.inl hx))) with h3 | h3
      · exact hk.2.1 h3
      · exact hk.2.2.1 h3
    · rcases List.mem_append.1 (dP k (List.mem_append.2 (.inr hx))) with h3 | h3
      · exact hk.2.1 h3
      · exact hk.2.2.1 h3
  refine ⟨bV,dP,by rw [e2]; exact Zc,fun k hk=>?_,fun k hk=>?_,?_⟩
  · have Eg:k∈cf S++ad (Hs++H):=by rw [e1]; simp [hk]
    refine ⟨⟨by rw [cr]; exact cJ k Eg,fun hx=>?_,fun hx=>?_,fun _=>.inr (h.kept.gJ k Eg)⟩,cA k (fun e=>hbt (e▸hk))⟩
    · rw [e2] at hx; exact QH k hk k (List.mem_append.2 (.inl hx)) rfl
    · exact QH k hk k (List.mem_append.2 (.inr hx)) rfl
  · exact cA k (fun e=>by subst e; exact (List.nodup_append.1 eG).2.2 k zk k hk rfl)
  · refine ⟨by rw [lv]; exact h.kept.os,by rw [qY]; exact h.kept.tape,by rw [rM]; exact h.kept.output,by rw [cr]; exact h.kept.size,fun k h1 h2=>?_,fun k hk=>h.kept.gJ k (dP k hk),fun r1 bx vs hm R1 Bp=>?_⟩
    · rw [cA k (fun e=>?_)]
      · exact h.kept.block k h1 h2
      · subst e
        rcases h.kept.gJ k (List.mem_append.2 (.inl zk)) with h3 | h3
        · exact h2 h3
        · omega
    · obtain ⟨R2,cs',l2,g1,g2,g3,g4,rfl⟩:=hc.ex
      by_cases he:r1=r
      · subst he
        rw [bX,Option.some.injEq] at Bp
        subst Bp
        obtain ⟨R3,k1,k2,k3,k4,k5⟩:=hS.pf g1
        rw [hR,Option.some.injEq] at k1
        subst k1
        obtain ⟨m1,m2⟩:=h.kept.par r1 bx vs hm R hR
        refine ⟨by simp only; rw [k2,m1],fun hb=>?_⟩
        cases q with
        | nil=>
          simp only [bw] at ha
          rw [m1,hb] at ha
          simp at ha
        | cons p q=>
          simp only
          rw [(kC g4).1,k4]
          exact m2 hb
      · rw [cU _ _ he] at Bp
        obtain ⟨R3,k1,k2,k3,k4,k5⟩:=hS.pf Bp
        obtain ⟨m1,m2⟩:=h.kept.par r1 bx vs hm R3 k1
        exact ⟨by rw [k2,m1],fun hb=>by rw [k4]; exact m2 hb⟩
end
end Go.Proofs.Ytockoilcnmljiaa
namespace Go.Proofs.Ytockoilcnmljiaa
theorem Bq (q:List Nat) (o:Nat):under (q++[o]) q=none:=by
  induction q with
  | nil=>rfl
  | cons p q ih=>simp only [List.cons_append,under,if_true]; exact ih
theorem Eh (r:Nat) (q:List Nat) (o:Nat) (e:Bool) (i:Nat):bS r q o e (.ptr r q i)=.ptr r q i:=by
  simp only [bS,if_true,Bq]
theorem CD:jS id:=⟨fun _ _ _ _=>rfl,fun _ _=>rfl,fun _ h=>h⟩
theorem TC (d:D):eB id d=d:=by cases d<;>simp [eB]
theorem JX {α:Type} (f:α→α) (hf:∀ a,f a=a):∀ l:List (Nat × α),fm f l=l
  | []=>rfl
  | (k,v)::t=>by simp [fm,hf,JX f hf t]
theorem RH {l:List (Nat × List D)} {S:List (Nat × RT)} (h:gj l S):gj l (fS id S):=by
  have:=np CD h
  rwa [JX] at this
  intro l
  have:eB id=id:=funext TC
  rw [this]; simp
theorem QJ {g:D→D} {S:List (Nat × RT)} {r:Nat} {q:List Nat} {o:Nat} {R:RT} {l:List T} {t0:T} (hR:lk S r=some R) (hl:ao R.cs q=some l) (ho:l[o]?=some t0):
    ∃ R1 l1 t1,lk (fS g S) r=some R1∧R1.box=R.box∧ao R1.cs q=some l1∧l1[o]?=some t1∧(t1=t0∨(q=[]∧t1=fT g t0))∧l1.length=l.length∧bw R1.box R1.cs q=bw R.box R.cs q∧R1.cs.length=R.cs.length:=by
  cases q with
  | nil=>
    simp only [ao,Option.some.injEq] at hl
    subst hl
    exact ⟨⟨R.box,R.cs.map (fT g)⟩,R.cs.map (fT g),fT g t0,by rw [jY,hR]; rfl,rfl,rfl,by simp [ho],.inr ⟨rfl,rfl⟩,by simp,rfl,by simp⟩
  | cons p q=>
    exact ⟨⟨R.box,R.cs.map (fT g)⟩,l,t0,by rw [jY,hR]; rfl,rfl,by simp only [Aa]; exact hl,ho,.inl rfl,rfl,JS g,by simp⟩
theorem jn.Zd {S S':List (Nat × RT)} {r:Nat} {q:List Nat} {o:Nat} {t t':T} (hc:jn S S' r q o t t') {l:List T} {R:RT} (hR:lk S r=some R) (hl:ao R.cs q=some l):
    ∃ R' l',lk S' r=some R'∧R'.box=R.box∧ao R'.cs q=some l'∧l'.length=l.length∧bw R'.box R'.cs q=bw R.box R.cs q:=by
  obtain ⟨R0,cs',l0,h1,h2,h3,h4,rfl⟩:=hc.ex
  rw [h1,Option.some.injEq] at hR
  subst hR
  rw [h2,Option.some.injEq] at hl
  subst hl
  obtain ⟨l1,h5,h6⟩:=lL h4
  rw [h2,Option.some.injEq] at h5
  subst h5
  exact ⟨⟨R0.box,cs'⟩,l0.set o t',bX _ _ _,rfl,h6,by simp,Go.Proofs.Ytockoilcnmljiaa.pd h4 (Bq q o)⟩
structure XP (S S':List (Nat × RT)) (r:Nat) (q:List Nat) (o:Nat) (t':T) (f:D→D):Prop where
  new:bT S' r q o=some t'
  ptr:∀ i,f (.ptr r q i)=.ptr r q i
  hole:∀ r' q' o' d0 u,(sn d0).isSome=true→aZ d0=d0→bT S r' q' o'=some (.v d0 u)→(r'≠r∨under (q++[o]) (q'++[o'])=none)→bT S' r' q' o'=some (.v d0 u)
  path:∀ {R l},lk S r=some R→ao R.cs q=some l→∃ R' l',lk S' r=some R'∧R'.box=R.box∧ao R'.cs q=some l'∧l'.length=l.length∧bw R'.box R'.cs q=bw R.box R.cs q
section
variable {C:Ctx} {H Hs:List T} {w:World} {st aC bK:St} {ay:List (Array Value)} {S:List (Nat × RT)}
theorem w7 (h:Rel C (Hs++H) w st ay S) {r:Nat} {q:List Nat} {o:Nat} {d:D} {t' t0:T} {R:RT} {l:List T} {f:D→D} (hR:lk S r=some R) (hl:ao R.cs q=some l) (ho:l[o]?=some t0) {b off:Nat} (ha:bw R.box R.cs q=some (b,off))
    (dm:st.pT r q o d=some (aC,f)) (hC:aC.gw r q o t'.er=some bK) (cn:cI d=true)
    (vm:(Hs=[t']∧d=t'.er)∨(Hs=[]∧q=[]∧∃ u,t'=.v (f d) u∧aN w (ab C w S (Hs++H)) S d u)):
    ∃ S',Rel C H (w.setCell ⟨b,off+o,none⟩ t'.val) bK ay S'∧gl C w (w.setCell ⟨b,off+o,none⟩ t'.val) S S' (Hs++H) H f∧XP S S' r q o t' f∧bK.of=st.of:=by
  have hold:st.cell r q o=some t0.er:=by rw [Cz st S h.rt,z1 hR hl,ho]; rfl
  have QF:ad Hs=t'.ft:=by
    rcases vm with ⟨rfl,_⟩ | ⟨rfl,_,u,rfl,_⟩
    · simp [ad]
    · rfl
  have hq0:q=[]→R.box.isSome=true:=fun e=>by
    subst e
    simp only [bw] at ha
    cases hb:R.box with
    | none=>simp [hb] at ha
    | some b=>rfl
  obtain ⟨b',z7,eE,dV,ef,Oo,_⟩:=nZ h.mem hR hl (fun e=>by subst e; simp at ho) hq0
  rw [ha] at dV
  simp only [Option.some.injEq,Prod.mk.injEq] at dV
  obtain ⟨rfl,rfl⟩:=dV
  have Mt:o < l.length:=(List.getElem?_eq_some_iff.1 ho).1
  have OK:=RF ef (o:=o) (by omega) t'.val
  generalize p9:w.setCell ⟨b,off+o,none⟩ t'.val=w' at OK ⊢
  have cr:w'.heap.size=w.heap.size:=by rw [← p9]; simp [World.setCell]
  have lv:w'.os=w.os:=by rw [← p9]; rfl
  have qY:w'.tape=w.tape:=by rw [← p9]; rfl
  have rM:w'.output=w.output:=by rw [← p9]; rfl
  have fin:∀ g:D→D,jS g→(∀ d,g d=d∨(∃ r q o x,d=.ref r q o x)∨∃ r q o,d=.ptr r q o)→gj aC.rt (fS g S)→((aC.tm=fm (mM f) st.tm∧aC.up=st.up.map (fm (mM f)))∨(f=id∧aC.tm=st.tm∧aC.up=st.up))→aC.of=st.of→(∀ i,f (.ptr r q i)=.ptr r q i)→
      (∀ S' t1,jn (fS g S) S' r q o t1 t'→(t1=t0∨(q=[]∧t1=fT g t0))→Wr C w w' S S' (Hs++H) H t1→(∀ d u,aN w (ab C w S (Hs++H)) S d u→aN w' (ab C w' S' H) S' (f d) u)∧(∀ d u,aN w (ab C w S (Hs++H)) S d u→aN w' (ab C w' S' H) S' (g d) u))→
      ∃ S',Rel C H w' bK ay S'∧gl C w w' S S' (Hs++H) H f∧XP S S' r q o t' f∧bK.of=st.of:=by
    intro g hg Br OL Ze Ag Zf Wc
    obtain ⟨R1,l1,t1,e1,e2,e3,e4,e5,e6,e7,_⟩:=QJ (g:=g) hR hl ho
    obtain ⟨S',hc,K4,K5,K6,Ah⟩:=Ab OL e1 e3 e4 hC
    have TA:t1.ft=t0.ft:=by
      rcases e5 with rfl | ⟨_,rfl⟩
      · rfl
      · exact Qx g t0
    have lx:=Jd h (KU hg S) hc TA hR hl ho ha QF OK cr lv qY rM
    obtain ⟨QK,oq⟩:=Wc S' t1 hc e5 lx
    have cP:=h.mem.hand
    rw [da] at cP
    have cF:Mem C w' S' H:=by
      refine Ml h.mem (g:=eB g) (KU hg S) hc hR (fun e=>?_) (fun _=>ha) OK ?_ lx.stays lx.nd lx.sub (fG lx.stays _ cP.2 (fun k hk=>lx.new k (by rw [aK]; simp [hk]))) (fun d u hd=>by rw [ri hd]; exact oq d u hd) (fun d u hd=>?_) cr
      · subst e
        simp only [bw] at ha
        cases hb:R.box with
        | none=>simp [hb] at ha
        | some b'=>simp only [hb,Option.map_some,Option.some.injEq,Prod.mk.injEq] at ha; exact ⟨by rw [ha.1],ha.2.symm⟩
      · rcases vm with ⟨rfl,_⟩ | ⟨rfl,rfl,u,rfl,hd⟩
        · left
          have h1:=cP.1
          simp only [aU] at h1
          exact c9 lx.stays _ h1.1 (fun k hk=>lx.new k (by rw [aK]; simp [ad,hk]))
        · right
          have h2:=QK d u hd
          have h3:aZ (f d)=f d:=by
            cases hx:f d with
            | sl g s n cs=>
              rw [hx] at h2
              cases g with
              | none=>simp [aN,Ext] at h2
              | some g=>rfl
            | _=>rfl
          exact ⟨f d,u,rfl,rfl,by rw [h3]; exact h2⟩
      · exact pg hg Br hd
    refine ⟨S',?_,QK,⟨hc.z8,Zf,?_,?_⟩,Ah.trans Ag⟩
    · rcases Ze with ⟨h1,h2⟩ | ⟨rfl,h1,h2⟩
      · exact h.step (f:=f) K4 (by rw [K5,h1]) (by rw [K6,h2]) QK cF lx.kept
      · exact h.pe K4 (by rw [K5,h1]) (by rw [K6,h2]) QK cF lx.kept
    · intro r' q' o' d0 u h3 h4 h1 h2
      refine hc.He h2 ?_
      rw [yE h1]
      split
      · simp only [fT,h4]
        cases d0<;>first | (simp [sn] at h3; done) | simp [eB,hg.hole,hg.sl]
      · rfl
    · intro R2 l2 h1 h2
      rw [hR,Option.some.injEq] at h1
      subst h1
      rw [hl,Option.some.injEq] at h2
      subst h2
      obtain ⟨R',l',k1,k2,k3,k4,k5⟩:=hc.Zd e1 e3
      exact ⟨R',l',k1,k2.trans e2,k3,k4.trans e6,k5.trans e7⟩
  unfold St.pT at dm
  rw [hold] at dm
  simp only [Option.some.injEq] at dm
  have XQ:=vj r q o true
  have cS:=kF r q o true
  have K7:∀ S' t1,jn (fS (bS r q o true) S) S' r q o t1 t'→Wr C w w' S S' (Hs++H) H t1→∀ d u,aN w (ab C w S (Hs++H)) S d u→aN w' (ab C w' S' H) S' (bS r q o true d) u:=
    fun S' t1 hc lx d u hd=>vg lx.stays hc (by simp) (oc cS hd)
  split at dm
  · rename_i hs
    simp only [Prod.mk.injEq] at dm
    obtain ⟨rfl,rfl⟩:=dm
    refine fin (bS r q o true) cS XQ ?_ (.inl ⟨rfl,rfl⟩) rfl (fun i=>?_) (fun S' t1 hc w8 lx=>⟨fun d u hd=>?_,K7 S' t1 hc lx⟩)
    · exact np cS h.rt
    · simp only [rz]; exact Eh _ _ _ _ _
    · have he:t1.er=t0.er:=by
        rcases w8 with rfl | ⟨_,rfl⟩
        · rfl
        · rw [Gx cS]
          cases hx:t0.er<;>simp [hx,fR] at hs
          simp [eB,cS.sl]
      rw [← he]
      obtain ⟨g0,s0,n0,XN,fI⟩:∃ g s n cs,t0.er=.sl g s n cs:=by
        cases hx:t0.er<;>simp [hx,fR] at hs
        exact ⟨_,_,_,_,rfl⟩
      have du:=pX h.mem hR hl ho fI
      have Wd:aT w (ab C w S (Hs++H)) t1:=by
        rcases w8 with rfl | ⟨_,rfl⟩
        · exact du
        · cases t0 with
          | own s n cap a xs=>exact du
          | v d0 u0=>
            simp only [T.er] at fI
            simp only [aT,fT] at du ⊢
            rw [cS.leaf,fI]
            rw [fI] at du
            simpa [eB,cS.sl] using du
      exact RE lx.stays hc Wd lx.bQ (oc cS hd)
  · rename_i hs
    split at dm
    · simp only [Prod.mk.injEq] at dm
      obtain ⟨rfl,rfl⟩:=dm
      refine fin (bS r q o true) cS XQ ?_ (.inl ⟨rfl,rfl⟩) rfl (fun i=>Eh _ _ _ _ _) (fun S' t1 hc w8 lx=>⟨K7 S' t1 hc lx,K7 S' t1 hc lx⟩)
      exact np cS h.rt
    · rename_i oW
      simp only [Prod.mk.injEq] at dm
      obtain ⟨rfl,rfl⟩:=dm
      have dq:∀ S' t1,jn (fS id S) S' r q o t1 t'→Wr C w w' S S' (Hs++H) H t1→∀ d u,aN w (ab C w S (Hs++H)) S d u→aN w' (ab C w' S' H) S' (id d) u:=by
        intro S' t1 hc lx d' u' pY
        have iZ:∃ d0 u0,t'=.v d0 u0∧sn (aZ d0)=none:=by
          have Hf:∀ x:D,cI x=true→fR x=false→sn (aZ x)=none:=by
            intro x h1 h2
            cases x<;>first | rfl | (exfalso; simp [cI] at h1; done) | (exfalso; simp [fR] at h2; done)
          rcases vm with ⟨_,rfl⟩ | ⟨_,_,u,rfl,_⟩
          · cases t' with
            | own s n cap a xs=>simp [T.er,fR] at oW
            | v d0 u0=>
              refine ⟨d0,u0,rfl,?_⟩
              simp only [T.er] at oW cn
              have:=Hf (aZ d0) cn (by simpa using oW)
              rwa [zj] at this
          · exact ⟨_,_,rfl,Hf _ cn (by simpa using oW)⟩
        obtain ⟨d0,u0,rfl,hn⟩:=iZ
        exact G4 lx.stays hc (.inl hn) (oc CD pY)
      refine fin id CD (fun _=>.inl rfl) (RH h.rt) (.inr ⟨rfl,rfl,rfl⟩) rfl (fun _=>rfl) (fun S' t1 hc w8 lx=>⟨dq S' t1 hc lx,dq S' t1 hc lx⟩)
end
end Go.Proofs.Ytockoilcnmljiaa
namespace Go.Proofs.Ytockoilcnmljiaa
section
variable {P:Program} {w:World}
theorem mv {b off eE:Nat} {us:List Value} (hb:jU w b off eE us) {o:Nat} (ho:o < eE) {v:Value} (h1:v.oneCell'=true):(store ⟨b,off+o,none⟩ v).run P w=.ok () (w.setCell ⟨b,off+o,none⟩ v):=by
  obtain ⟨u,hu⟩:=A8 hb ho
  rw [run_store P w _ v _ h1,hu]
  simp [A7 hb ho]
theorem Hg {b off:Nat} {v:Value} (h:w.cell? ⟨b,off,none⟩=some v):w.setCell ⟨b,off,none⟩ v=w:=by
  have hh:(w.setCell ⟨b,off,none⟩ v).heap=w.heap:=by
    apply Array.ext_getElem?
    intro k
    simp only [World.setCell,Array.getElem?_modify]
    split
    · rename_i hk
      subst hk
      cases hx:w.heap[b]? with
      | none=>rfl
      | some ob=>
        cases ob with
        | cells c e fz=>
          simp only [World.cell?,hx] at h
          simp only [Option.map_some,Option.isSome_none,Bool.false_eq_true,if_false]
          congr 2
          simp at h
          apply Array.ext_getElem?
          intro j
          rw [Array.getElem?_setIfInBounds]
          split
          · rename_i hj
            subst hj
            split
            · exact h.symm
            · rename_i cJ
              rw [Array.getElem?_eq_none (by omega)] at h
              simp at h
          · rfl
        | _=>rfl
    · rfl
  have:w.setCell ⟨b,off,none⟩ v={ w with heap:=(w.setCell ⟨b,off,none⟩ v).heap }:=rfl
  rw [this,hh]
end
theorem Hh {S:List (Nat × RT)} {r':Nat} {q':List Nat} {o':Nat} {d0:D} {u0:Value} (h0:bT S r' q' o'=some (.v d0 u0)) {r:Nat} {q:List Nat} {o:Nat} {t:T} (h1:bT S r q o=some t) (r1:Nat) (q1:List Nat) (o1 i:Nat):
    o5 r' q' o' r1 q1 o1 (.ptr r q i)=.ptr r q i∧bS r' q' o' true (.ptr r q i)=.ptr r q i:=by
  have vn:r=r'→under (q'++[o']) q=none:=by
    intro e
    subst e
    cases hu:under (q'++[o']) q with
    | none=>rfl
    | some y=>
      have:=ik hu
      unfold bT at h0 h1
      cases hr:lk S r with
      | none=>simp [hr] at h0
      | some R=>
        simp only [hr] at h0 h1
        cases hc:ao R.cs q' with
        | none=>simp [hc] at h0
        | some l=>
          simp only [hc] at h0
          rw [this,List.append_assoc,List.singleton_append,Bh hc h0] at h1
          simp at h1
  simp only [o5,bS]
  by_cases e:r=r'
  · simp only [if_pos e,vn e]
    exact ⟨trivial,trivial⟩
  · simp only [if_neg e]
    exact ⟨trivial,trivial⟩
section
variable {C:Ctx} {Hx:List T} {H:List T} {w:World} {st:St} {ay:List (Array Value)} {S:List (Nat × RT)}
theorem CE (h:Rel C H w st ay S) (r:Nat) (q:List Nat) (o:Nat) (e:Bool):Rel C H w (st.ej (bS r q o e)) ay (fS (bS r q o e) S)∧gl C w w S (fS (bS r q o e) S) H H (bS r q o e):=by
  refine JW h (kF r q o e) (fun d u hd=>?_) (fun d u hd=>pg (kF r q o e) (vj r q o e) hd) (fun d u hd=>ri hd)
  have h1:=oc (kF r q o e) hd
  cases d with
  | ref r' q' o' x=>
    simp only [bS]
    split
    · split
      · exact h1
      · split
        · simp [aN,Ext]
        · exact h1
      · simp [aN,Ext]
    · exact h1
  | ptr r' q' o'=>
    simp only [bS]
    split
    · split
      · exact h1
      · simp [aN,Ext]
    · exact h1
  | _=>exact h1
theorem Mu (r:Nat) (q:List Nat) (o r1:Nat) (q1:List Nat) (o1:Nat) (d:D):o5 r q o r1 q1 o1 d=d∨(∃ r q o x,d=.ref r q o x)∨∃ r q o,d=.ptr r q o:=by
  cases d<;>first | exact .inl rfl | exact .inr (.inl ⟨_,_,_,_,rfl⟩) | exact .inr (.inr ⟨_,_,_,rfl⟩)
theorem Hi (h:Rel C H w st ay S) {r':Nat} {q':List Nat} {o':Nat} {d0:D} {u0:Value} (h0:bT S r' q' o'=some (.v d0 u0)) {r:Nat} {q:List Nat} {o:Nat} {t:T} (h1:bT S r q o=some t) (hl:jR (.v d0 u0) t):
    Rel C H w (st.ej (o5 r' q' o' r q o)) ay (fS (o5 r' q' o' r q o) S)∧gl C w w S (fS (o5 r' q' o' r q o) S) H H (o5 r' q' o' r q o):=by
  have fh:=wV r' q' o' r q o
  refine JW h fh (fun d u hd=>?_) (fun d u hd=>pg fh (Mu r' q' o' r q o) hd) (fun d u hd=>ri hd)
  have h2:=oc fh hd
  cases d with
  | ref r2 q2 o2 x=>
    simp only [o5]
    split
    · rename_i e
      subst e
      split
      · exact h2
      · rename_i hu
        have e1:=ik hu
        simp only [List.append_nil] at e1
        obtain ⟨rfl,e2⟩:=List.append_inj' e1 rfl
        simp only [List.cons.injEq,and_true] at e2
        subst e2
        refine oc fh ?_
        intro t2 JY
        rw [h1,Option.some.injEq] at JY
        subst JY
        exact jm hl (hd _ h0)
      · simp [aN,Ext]
    · exact h2
  | ptr r2 q2 o2=>
    simp only [o5]
    split
    · split
      · exact h2
      · simp [aN,Ext]
    · exact h2
  | _=>exact h2
theorem Mv (fp:gj st.rt S) (hm:Mem C w S Hx) {d:D} {u:Value} (hd:bR w (ab C w S Hx) S d u) (ck:(∀ cs,d≠.agg cs)→eW st d=true):bC (aN w (ab C w S Hx) S) (cellsOf d) u.cells.toList:=by
  by_cases ha:∃ cs,d=.agg cs
  · obtain ⟨cs,rfl⟩:=ha
    obtain ⟨us,rfl,h⟩:=hd
    exact h
  · refine Af fp hm hd (fun x hx=>?_)
    have hc:cellsOf d=[d]:=by cases d<;>first | rfl | exact absurd ⟨_,rfl⟩ ha
    rw [hc] at hx
    simp only [List.mem_singleton] at hx
    subst hx
    exact ck (fun cs e=>ha ⟨cs,e⟩)
end
theorem uj {st:St} {d:D} (h:eW st d=true):cI d=true:=by
  cases d<;>first | rfl | exact h
section
variable {P:Program} {C:Ctx} {Hx:List T} {ay:List (Array Value)}
theorem Je:∀ {ds:List D} {us:List Value} {w:World} {st st':St} {S:List (Nat × RT)} {r o:Nat} {h:D→D} {b off i:Nat},Rel C Hx w st ay S→(∃ R,lk S r=some R∧R.box=some b)→bC (fun d u=>aN w (ab C w S Hx) S (h d) u) ds us→o=off+i→lG st r o h ds=some st'→
    ∃ w' S',(storeCells ⟨b,off,none⟩ us i).run P w=.ok () w'∧Rel C Hx w' st' ay S'∧st'.of=st.of:=by
  intro ds
  induction ds with
  | nil=>
    intro us w st st' S r o h b off i hr _ hu _ hs
    cases hu
    simp only [lG,Option.some.injEq] at hs
    subst hs
    exact ⟨w,S,rfl,hr,rfl⟩
  | cons d ds ih=>
    intro us w st st' S r o h b off i hr rN hu w9 hs
    cases hu with
    | cons p8 zm=>
    rename_i u us
    simp only [lG] at hs
    split at hs
    · simp at hs
    rename_i ck
    simp only [Bool.not_eq_true',Bool.not_eq_false] at ck
    split at hs
    case h_2=>simp at hs
    rename_i aC f dm
    split at hs
    case h_2=>simp at hs
    rename_i bK hC
    obtain ⟨R,hR,hb⟩:=rN
    obtain ⟨h1,_⟩:=Hd hr.rt hr.mem p8 ck
    have cn:∃ t0,R.cs[o]?=some t0:=by
      unfold St.pT at dm
      cases hx:st.cell r [] o with
      | none=>simp [hx] at dm
      | some bQ=>
        obtain ⟨R',l,t,g1,g2,g3,_⟩:=gR hr.rt hx
        rw [hR,Option.some.injEq] at g1
        subst g1
        simp only [ao,Option.some.injEq] at g2
        subst g2
        exact ⟨t,g3⟩
    obtain ⟨t0,ho⟩:=cn
    have ha:bw R.box R.cs []=some (b,0):=by simp [bw,hb]
    obtain ⟨b',z7,eE,dV,ef,Oo,_⟩:=nZ hr.mem hR (q:=[]) rfl (fun e=>by rw [e] at ho; simp at ho) (fun _=>by rw [hb]; rfl)
    rw [ha] at dV
    simp only [Option.some.injEq,Prod.mk.injEq] at dV
    obtain ⟨rfl,rfl⟩:=dV
    have Mt:o < R.cs.length:=(List.getElem?_eq_some_iff.1 ho).1
    have dB:=mv (P:=P) ef (o:=o) (by omega) h1
    have hfd:aZ (f (h d))=f (h d):=by
      have key:∀ x:D,cI x=true→aZ x=x→aZ (f x)=f x:=by
        intro x hx QL
        unfold St.pT at dm
        cases hy:st.cell r [] o with
        | none=>simp [hy] at dm
        | some bQ=>
          simp only [hy,Option.some.injEq] at dm
          have hk:aZ (bS r [] o true x)=bS r [] o true x:=by
            cases x with
            | ref r' q' o' y=>simp only [bS]; split<;>(try split)<;>(try split)<;>rfl
            | ptr r' q' o'=>simp only [bS]; split<;>(try split)<;>rfl
            | _=>exact QL
          split at dm
          · simp only [Prod.mk.injEq] at dm
            obtain ⟨_,rfl⟩:=dm
            cases x with
            | ref r' q' o' y=>
              simp only [rz]
              split
              · split
                · rfl
                · split
                  · exact (by rename_i g _ _ _ _; cases g<;>rfl)
                  · rfl
              · rfl
            | _=>exact hk
          · split at dm
            · simp only [Prod.mk.injEq] at dm
              obtain ⟨_,rfl⟩:=dm
              exact hk
            · simp only [Prod.mk.injEq] at dm
              obtain ⟨_,rfl⟩:=dm
              exact QL
      refine key _ (uj ck) ?_
      cases hx:h d with
      | sl g s n cs=>
        rw [hx] at p8
        cases g with
        | none=>simp [aN,Ext] at p8
        | some g=>rfl
      | _=>rfl
    obtain ⟨S',a1,a2,a3,a4⟩:=w7 (Hs:=[]) (H:=Hx) (t':=.v (f (h d)) u) hr hR rfl ho ha dm (by simp only [T.er]; rw [hfd]; exact hC) (uj ck) (.inr ⟨rfl,rfl,u,rfl,p8⟩)
    simp only [T.val,Nat.zero_add] at a1 a2
    simp only [Nat.zero_add] at dB
    obtain ⟨R',l',k1,k2,_⟩:=a3.path hR (q:=[]) rfl
    obtain ⟨w',vX,c1,c2,c3⟩:=ih (i:=i+1) (o:=o+1) (off:=off) (h:=fun x=>f (h x)) a1 ⟨R',k1,k2.trans hb⟩ (zm.mono (fun _ _ hh=>a2 _ _ hh)) (by omega) hs
    refine ⟨w',vX,?_,c2,c3.trans a4⟩
    rw [storeCells]
    simp only [Sem.run_bind,ek]
    rw [← w9,dB]
    exact c1
theorem Hj:∀ {ts:List T} {w:World} {st st':St} {S:List (Nat × RT)} {r o:Nat} {b off i:Nat},Rel C (ts++Hx) w st ay S→(∃ R,lk S r=some R∧R.box=some b)→o=off+i→lH st r o (aL ts)=some st'→
    ∃ w' S',(storeCells ⟨b,off,none⟩ (av ts) i).run P w=.ok () w'∧Rel C Hx w' st' ay S'∧st'.of=st.of:=by
  intro ts
  induction ts with
  | nil=>
    intro w st st' S r o b off i hr _ _ hs
    simp only [aL,lH,Option.some.injEq] at hs
    subst hs
    exact ⟨w,S,rfl,hr,rfl⟩
  | cons t ts ih=>
    intro w st st' S r o b off i hr rN w9 hs
    simp only [aL,lH] at hs
    split at hs
    · simp at hs
    rename_i ck
    simp only [Bool.not_eq_true',Bool.not_eq_false] at ck
    split at hs
    case h_2=>simp at hs
    rename_i aC f dm
    split at hs
    case h_2=>simp at hs
    rename_i bK hC
    obtain ⟨R,hR,hb⟩:=rN
    have cP:=hr.mem.hand
    simp only [List.cons_append,aU] at cP
    obtain ⟨h1,_⟩:=kG cP.1 ck
    have cn:∃ t0,R.cs[o]?=some t0:=by
      unfold St.pT at dm
      cases hx:st.cell r [] o with
      | none=>simp [hx] at dm
      | some bQ=>
        obtain ⟨R',l,t,g1,g2,g3,_⟩:=gR hr.rt hx
        rw [hR,Option.some.injEq] at g1
        subst g1
        simp only [ao,Option.some.injEq] at g2
        subst g2
        exact ⟨t,g3⟩
    obtain ⟨t0,ho⟩:=cn
    have ha:bw R.box R.cs []=some (b,0):=by simp [bw,hb]
    obtain ⟨b',z7,eE,dV,ef,Oo,_⟩:=nZ hr.mem hR (q:=[]) rfl (fun e=>by rw [e] at ho; simp at ho) (fun _=>by rw [hb]; rfl)
    rw [ha] at dV
    simp only [Option.some.injEq,Prod.mk.injEq] at dV
    obtain ⟨rfl,rfl⟩:=dV
    have Mt:o < R.cs.length:=(List.getElem?_eq_some_iff.1 ho).1
    have dB:=mv (P:=P) ef (o:=o) (by omega) h1
    obtain ⟨S',a1,a2,a3,a4⟩:=w7 (Hs:=[t]) (H:=ts++Hx) (t':=t) hr hR rfl ho ha dm hC ck (.inl ⟨rfl,rfl⟩)
    simp only [Nat.zero_add] at a1 a2
    simp only [Nat.zero_add] at dB
    obtain ⟨R',l',k1,k2,_⟩:=a3.path hR (q:=[]) rfl
    obtain ⟨w',vX,c1,c2,c3⟩:=ih (i:=i+1) (o:=o+1) (off:=off) a1 ⟨R',k1,k2.trans hb⟩ (by omega) hs
    refine ⟨w',vX,?_,c2,c3.trans a4⟩
    rw [av,storeCells]
    simp only [Sem.run_bind,ek]
    rw [← w9,dB]
    exact c1
end
end Go.Proofs.Ytockoilcnmljiaa
namespace Go.Proofs.Ytockoilcnmljiaa
theorem xd {r:Nat} {q:List Nat} {o:Nat} {x:D} {r':Nat} {q':List Nat} {o':Nat} {y:Option (Nat × Nat)} (h:bS r q o true x=.ref r' q' o' y):x=.ref r' q' o' y∧(r'≠r∨under (q++[o]) (q'++[o'])=none):=by
  cases x with
  | ref r2 q2 o2 x2=>
    simp only [bS] at h
    split at h
    · split at h
      · rename_i hu
        simp only [D.ref.injEq] at h
        obtain ⟨rfl,rfl,rfl,rfl⟩:=h
        exact ⟨rfl,.inr hu⟩
      · simp at h
      · simp at h
    · rename_i cA
      simp only [D.ref.injEq] at h
      obtain ⟨rfl,rfl,rfl,rfl⟩:=h
      exact ⟨rfl,.inl cA⟩
  | ptr r2 q2 o2=>
    simp only [bS] at h
    split at h
    · split at h<;>simp at h
    · simp at h
  | _=>simp [bS] at h
theorem Hk {r:Nat} {q:List Nat} {o:Nat} {bQ x:D} {r':Nat} {q':List Nat} {o':Nat} {y:Option (Nat × Nat)} (h:rz r q o bQ x=.ref r' q' o' y):x=.ref r' q' o' y∧(r'≠r∨under (q++[o]) (q'++[o'])=none):=by
  cases x with
  | ref r2 q2 o2 x2=>
    simp only [rz] at h
    split at h
    · split at h
      · rename_i hu
        simp only [D.ref.injEq] at h
        obtain ⟨rfl,rfl,rfl,rfl⟩:=h
        exact ⟨rfl,.inr hu⟩
      · split at h
        · rename_i g s n cs _
          cases g<;>simp [gI] at h
        · simp at h
    · rename_i cA
      simp only [D.ref.injEq] at h
      obtain ⟨rfl,rfl,rfl,rfl⟩:=h
      exact ⟨rfl,.inl cA⟩
  | _=>exact xd h
theorem RI {st aC:St} {r:Nat} {q:List Nat} {o:Nat} {d:D} {f:D→D} (h:st.pT r q o d=some (aC,f)) (hd:fR d=true) {x:D} {r':Nat} {q':List Nat} {o':Nat} {y:Option (Nat × Nat)} (hx:f x=.ref r' q' o' y):x=.ref r' q' o' y∧(r'≠r∨under (q++[o]) (q'++[o'])=none):=by
  unfold St.pT at h
  split at h
  case h_2=>simp at h
  simp only [Option.some.injEq] at h
  split at h
  · simp only [Prod.mk.injEq] at h
    obtain ⟨_,rfl⟩:=h
    exact Hk hx
  · try rw [if_pos hd] at h
    simp only [hd,if_true,Prod.mk.injEq] at h
    obtain ⟨_,rfl⟩:=h
    exact xd hx
theorem Mw {st st':St} {r:Nat} {q:List Nat} {o:Nat} {x:Option (Nat × Nat)} {d:D} (h:hI st (.ref r q o x)=some (d,st')):fR d=true:=by
  simp only [hI] at h
  split at h
  · split at h
    · simp only [Option.some.injEq,Prod.mk.injEq] at h
      rw [← h.1]; rfl
    · simp at h
  · simp only [Option.some.injEq,Prod.mk.injEq] at h
    rw [← h.1]; rfl
  · simp at h
section
variable {P:Program} {C:Ctx} {Hx:List T} {ay:List (Array Value)}
theorem Jf:∀ {ds:List D} {us:List Value} {w:World} {st st':St} {S:List (Nat × RT)} {r:Nat} {q:List Nat} {o:Nat} {h:D→D} {b off0 off i:Nat},Rel C Hx w st ay S→aN w (ab C w S Hx) S (.ptr r q 0) (.pointer (some ⟨b,off0,none⟩))→bC (fun d u=>aN w (ab C w S Hx) S (h d) u) ds us→off+i=off0+o→gZ st r q o h ds=some st'→
    ∃ w' S',(storeCells ⟨b,off,none⟩ us i).run P w=.ok () w'∧Rel C Hx w' st' ay S'∧st'.of=st.of:=by
  intro ds
  induction ds with
  | nil=>
    intro us w st st' S r q o h b off0 off i hr _ hu _ hs
    cases hu
    simp only [gZ,Option.some.injEq] at hs
    subst hs
    exact ⟨w,S,rfl,hr,rfl⟩
  | cons d ds ih=>
    intro us w st st' S r q o h b off0 off i hr hp hu w9 hs
    cases hu with
    | cons p8 zm=>
    rename_i u us
    have place:∀ {H:List T} {QM:St} {S0:List (Nat × RT)},Rel C H w QM ay S0→aN w (ab C w S0 H) S0 (.ptr r q 0) (.pointer (some ⟨b,off0,none⟩))→∀ {bQ:D},QM.cell r q o=some bQ→
        ∃ R l t0 eE,lk S0 r=some R∧ao R.cs q=some l∧l[o]?=some t0∧t0.er=bQ∧bw R.box R.cs q=some (b,off0)∧jU w b off0 eE (av l)∧o < eE:=by
      intro H QM S0 JZ Hl bQ hc
      obtain ⟨R,l,t0,g1,g2,g3,g4,g5⟩:=gR JZ.rt hc
      obtain ⟨zl,wO⟩:=Hl R g1
      obtain ⟨b',z7,eE,k1,k2,k3,_⟩:=nZ JZ.mem g1 g2 (fun e=>by subst e; simp at g3) zl
      have:=wO b' z7 k1
      simp only [Value.pointer.injEq,Option.some.injEq,Addr.mk.injEq,Nat.add_zero,and_true] at this
      obtain ⟨rfl,rfl⟩:=this
      exact ⟨R,l,t0,eE,g1,g2,g3,g5.symm,k1,k2,by have:=(List.getElem?_eq_some_iff.1 g3).1; omega⟩
    simp only [gZ] at hs
    split at hs
    · rename_i uk
      simp only [Bool.and_eq_true] at uk
      obtain ⟨uk,ck⟩:=uk
      have hd:h d=.ref r q o none:=by
        cases hx:h d with
        | ref r2 q2 o2 x2=>
          rw [hx] at uk
          cases x2 with
          | none=>
            simp only [zX,Bool.and_eq_true,decide_eq_true_eq] at uk
            obtain ⟨⟨rfl,rfl⟩,rfl⟩:=uk
            rfl
          | some p=>simp [zX] at uk
        | _=>rw [hx] at uk; simp [zX] at uk
      rw [hd] at ck p8
      obtain ⟨h1,_⟩:=Hd hr.rt hr.mem p8 ck
      simp only [eW] at ck
      split at ck
      case h_2=>simp at ck
      rename_i g s n cs hc
      obtain ⟨R,l,t0,eE,g1,g2,g3,g4,g5,g6,g7⟩:=place hr hp hc
      have xe:u=t0.val:=by
        have:=p8 t0 (by rw [z1 g1 g2]; exact g3)
        unfold dZ at this
        rw [g4] at this
        exact this
      have dB:=mv (P:=P) g6 g7 h1
      rw [Hg (by rw [xe]; exact rI g6 (by rw [eD,g3]; rfl))] at dB
      obtain ⟨w',S',c1,c2,c3⟩:=ih (i:=i+1) (o:=o+1) (off:=off) hr hp zm (by omega) hs
      refine ⟨w',S',?_,c2,c3⟩
      rw [storeCells]
      simp only [Sem.run_bind,ek]
      rw [w9,dB]
      exact c1
    · split at hs
      case h_2=>simp at hs
      rename_i d' aC cS
      split at hs
      · simp at hs
      rename_i fO
      simp only [Bool.not_eq_true',Bool.not_eq_false] at fO
      split at hs
      case h_2=>simp at hs
      rename_i bK f dm
      split at hs
      case h_2=>simp at hs
      rename_i zh hC
      obtain ⟨t,S1,a1,rfl,a3,a4,a5,a6,a7⟩:=rh hr p8 cS
      have XR:=a4 _ _ hp
      have cn:∃ bQ,aC.cell r q o=some bQ:=by
        unfold St.pT at dm
        cases hx:aC.cell r q o with
        | none=>simp [hx] at dm
        | some bQ=>exact ⟨bQ,rfl⟩
      obtain ⟨bQ,cn⟩:=cn
      obtain ⟨R,l,t0,eE,g1,g2,g3,g4,g5,g6,g7⟩:=place a1 XR cn
      have cP:=a1.mem.hand
      simp only [aU] at cP
      obtain ⟨h1,_⟩:=kG cP.1 fO
      have dB:=mv (P:=P) g6 g7 h1
      obtain ⟨S2,b1,b2,b3,b4⟩:=w7 (Hs:=[t]) (H:=Hx) (t':=t) a1 g1 g2 g3 g5 dm hC fO (.inl ⟨rfl,rfl⟩)
      rw [a3] at dB b1 b2
      generalize p9:w.setCell ⟨b,off0+o,none⟩ u=w1 at dB b1 b2
      have J0:=b2 _ _ XR
      rw [b3.ptr] at J0
      have TD:∃ S3,Rel C Hx w1 (zh.qU (f (h d)) r q o) ay S3∧gl C w1 w1 S2 S3 Hx Hx (ue (f (h d)) r q o)∧ue (f (h d)) r q o (.ptr r q 0)=.ptr r q 0∧(zh.qU (f (h d)) r q o).of=zh.of:=by
        cases hx:f (h d) with
        | ref r' q' o' y=>
          have hh:fR t.er=true:=by
            cases hd:h d with
            | ref r2 q2 o2 x2=>rw [hd] at cS; exact Mw cS
            | _=>
              exfalso
              rw [hd] at hx
              unfold St.pT at dm
              rw [cn] at dm
              simp only [Option.some.injEq] at dm
              split at dm
              · simp only [Prod.mk.injEq] at dm
                obtain ⟨_,rfl⟩:=dm
                have:=(Hk hx).1
                simp at this
              · split at dm
                · simp only [Prod.mk.injEq] at dm
                  obtain ⟨_,rfl⟩:=dm
                  have:=(xd hx).1
                  simp at this
                · simp only [Prod.mk.injEq] at dm
                  obtain ⟨_,rfl⟩:=dm
                  simp at hx
          obtain ⟨hd,zY⟩:=RI dm hh hx
          obtain ⟨d0,u0,k1,k2,k3,k4⟩:=a7 r' q' o' y hd
          have vo:=b3.hole r' q' o' d0 u0 k1 k2 k3 zY
          cases y with
          | none=>
            obtain ⟨m1,m2⟩:=Hi b1 vo b3.new (k4 rfl)
            exact ⟨_,m1,m2,(Hh vo b3.new r q o 0).1,rfl⟩
          | some y=>
            obtain ⟨m1,m2⟩:=CE b1 r' q' o' true
            exact ⟨_,m1,m2,(Hh vo b3.new r q o 0).2,rfl⟩
        | _=>exact ⟨S2,b1,fun _ _ hh=>hh,rfl,rfl⟩
      obtain ⟨S3,c1,c2,c3,c4⟩:=TD
      have XS:=c2 _ _ J0
      rw [c3] at XS
      obtain ⟨w',S',e1,e2,e3⟩:=ih (i:=i+1) (o:=o+1) (off:=off) (h:=fun x=>ue (f (h d)) r q o (f (h x))) c1 XS (zm.mono (fun _ _ hh=>c2 _ _ (b2 _ _ (a4 _ _ hh)))) (by omega) hs
      refine ⟨w',S',?_,e2,e3.trans (c4.trans (b4.trans a6.2.2))⟩
      rw [storeCells]
      simp only [Sem.run_bind,ek]
      rw [w9,dB]
      exact e1
theorem Fb {st st':St} {r:Nat}:∀ {ds:List D} {st st':St} {o:Nat},lH st r o ds=some st'→∀ d∈ds,cI d=true:=by
  intro ds
  induction ds with
  | nil=>intro st st' o _ d hd; simp at hd
  | cons d ds ih=>
    intro st st' o hs x hx
    simp only [lH] at hs
    split at hs
    · simp at hs
    rename_i ck
    simp only [Bool.not_eq_true',Bool.not_eq_false] at ck
    split at hs
    case h_2=>simp at hs
    split at hs
    case h_2=>simp at hs
    rcases List.mem_cons.1 hx with rfl | hx
    · exact ck
    · exact ih hs x hx
theorem Mx {c:bU} (ah:dG c P) {w:World} {st st':St} {S:List (Nat × RT)} (h:Rel C Hx w st ay S) {t:TypeId} {i:TI} (ht:c.ty t=some i) {a v:D} {ua uv:Value} (ha:bR w (ab C w S Hx) S a ua) (hv:bR w (ab C w S Hx) S v uv) {nV:Nat→Bool} (hs:rA st nV i.size a v=some st'):
    ∃ w' S',(Instr.storeAt t ua uv).run P w=.ok () w'∧Rel C Hx w' st' ay S'∧st'.of=st.of:=by
  cases a with
  | ptr r q o=>
    simp only [rA] at hs
    split at hs
    case isFalse=>simp at hs
    rename_i hc
    obtain ⟨hlen,tv⟩:=hc
    obtain ⟨R,b,off,hR,yG,rfl⟩:=rf h.rt h.mem tv ha
    have cr:=(ah.ty _ _ ht).sz w
    have hp:aN w (ab C w S Hx) S (.ptr r q 0) (.pointer (some ⟨b,off,none⟩)):=by
      intro R' dC
      rw [hR,Option.some.injEq] at dC
      subst dC
      refine ⟨(ha R hR).1,fun b' z7 e=>?_⟩
      rw [yG,Option.some.injEq,Prod.mk.injEq] at e
      obtain ⟨rfl,rfl⟩:=e
      rfl
    have hsa:∀ A:Addr,(Instr.sureAddr (.pointer (some A))).run P w=.ok A w:=fun A=>rfl
    have run:∀ {us:List Value} {w':World},uv.cells.toList=us→us.length=i.size→(storeCells ⟨b,off+o,none⟩ us 0).run P w=.ok () w'→(Instr.storeAt t (.pointer (some ⟨b,off+o,none⟩)) uv).run P w=.ok () w':=by
      intro us w' e1 e2 e3
      have e4:uv.cells.size=i.size:=by rw [← e2,← e1]; simp
      simp only [Instr.storeAt,Sem.run_bind,hsa,Result.andThen_ok,storeVar,cr]
      simp only [e4,ne_eq,not_true_eq_false,if_false,Sem.run_bind,Sem.run_pure,Result.andThen_ok,e1]
      exact e3
    have iZ:∀ {ds:List D},lG st r o id ds=some st'∨gZ st r q o id ds=some st'→ds=cellsOf v→(∀ cs,v≠.agg cs)→eW st v=true∨∃ d' aC,hI st v=some (d',aC)∧cI d'=true:=by
      intro ds h1 h2 h3
      have hc:cellsOf v=[v]:=by cases v<;>first | rfl | exact absurd rfl (h3 _)
      rw [hc] at h2
      subst h2
      rcases h1 with h1 | h1
      · simp only [lG,id] at h1
        split at h1
        · simp at h1
        rename_i ck
        simp only [Bool.not_eq_true',Bool.not_eq_false] at ck
        exact .inl ck
      · simp only [gZ,id] at h1
        split at h1
        · rename_i hh
          simp only [Bool.and_eq_true] at hh
          exact .inl hh.2
        split at h1
        case h_2=>simp at h1
        rename_i d' aC cS
        split at h1
        · simp at h1
        rename_i fO
        simp only [Bool.not_eq_true',Bool.not_eq_false] at fO
        exact .inr ⟨d',aC,cS,fO⟩
    have mR:∀ {ds:List D},lG st r o id ds=some st'∨gZ st r q o id ds=some st'→ds=cellsOf v→bC (aN w (ab C w S Hx) S) (cellsOf v) uv.cells.toList:=by
      intro ds h1 h2
      by_cases dH:∃ cs,v=.agg cs
      · obtain ⟨cs,rfl⟩:=dH
        obtain ⟨us,rfl,hh⟩:=hv
        exact hh
      · have h3:∀ cs,v≠.agg cs:=fun cs e=>dH ⟨cs,e⟩
        rcases iZ h1 h2 h3 with h4 | ⟨d',aC,h4,h5⟩
        · exact Mv h.rt h.mem hv (fun _=>h4)
        · have hc:cellsOf v=[v]:=by cases v<;>first | rfl | exact absurd rfl (h3 _)
          have ky:aN w (ab C w S Hx) S v uv:=by
            cases v<;>first | exact hv | (simp [hI] at h4; done) | exact absurd rfl (h3 _)
          obtain ⟨t',S1,a1,rfl,a3,_⟩:=rh h ky h4
          have cP:=a1.mem.hand
          simp only [aU] at cP
          have:=(kG cP.1 h5).2
          rw [a3] at this
          rw [hc,this]
          exact .cons ky .nil
    cases q with
    | nil=>
      have hb:∃ b',R.box=some b'∧b'=b∧off=0:=by
        simp only [bw] at yG
        cases hx:R.box with
        | none=>simp [hx] at yG
        | some b'=>simp only [hx,Option.map_some,Option.some.injEq,Prod.mk.injEq] at yG; exact ⟨b',rfl,yG.1,yG.2.symm⟩
      obtain ⟨b',hb,rfl,rfl⟩:=hb
      simp only at hs
      split at hs
      · split at hs
        case h_2=>simp at hs
        rename_i cs aC cS
        obtain ⟨ts,S1,b1,rfl,b3,b4,b5,b6⟩:=oo h hv cS
        have OJ:=Fb (st:=aC) (st':=st') hs
        obtain ⟨R1,k1,k2,_⟩:=b5.fwd r R hR
        have du:=((da _ _).1 b1.mem.hand).1
        rw [bL] at du
        have fV:av ts=uv.cells.toList:=by
          by_cases dH:∃ cs,v=.agg cs
          · obtain ⟨cs,rfl⟩:=dH
            exact b3
          · have xj:fW v uv=[uv]:=by cases v<;>first | rfl | exact absurd ⟨_,rfl⟩ dH
            rw [xj] at b3
            rw [b3]
            cases ts with
            | nil=>simp [av] at b3
            | cons y ys=>
              simp only [av,List.cons.injEq] at b3
              have:=kG (du y (by simp)) (OJ y.er (by simp [aL]))
              rw [b3.1] at this
              rw [this.2]
        have QN:(aL ts).length=i.size:=by
          rw [← hlen]
          have h1:=congrArg List.length fV
          rw [bd] at h1
          rw [eF,h1]
          by_cases dH:∃ cs,v=.agg cs
          · obtain ⟨cs,rfl⟩:=dH
            obtain ⟨us,rfl,hh⟩:=hv
            have:=hh.len
            simp only [cellsOf,Value.cells]
            exact this.symm
          · have xj:fW v uv=[uv]:=by cases v<;>first | rfl | exact absurd ⟨_,rfl⟩ dH
            have kR:cellsOf v=[v]:=by cases v<;>first | rfl | exact absurd ⟨_,rfl⟩ dH
            rw [xj] at b3
            rw [← fV,b3,kR]; rfl
        obtain ⟨w',S',c1,c2,c3⟩:=Hj (P:=P) (b:=b') (off:=0+o) (i:=0) b1 ⟨R1,k1,k2.trans hb⟩ (by omega) hs
        refine ⟨w',S',?_,c2,c3.trans b6.2.2⟩
        exact run fV.symm (by rw [bd]; rw [eF] at QN; exact QN) c1
      · have dt:=mR (.inl hs) rfl
        obtain ⟨w',S',c1,c2,c3⟩:=Je (P:=P) (b:=b') (off:=0+o) (i:=0) h ⟨R,hR,hb⟩ dt (by omega) hs
        exact ⟨w',S',run rfl (by rw [← dt.len]; exact hlen) c1,c2,c3⟩
    | cons p q=>
      simp only at hs
      have dt:=mR (.inr hs) rfl
      obtain ⟨w',S',c1,c2,c3⟩:=Jf (P:=P) (b:=b) (off0:=off) (off:=off+o) (i:=0) h hp dt (by omega) hs
      exact ⟨w',S',run rfl (by rw [← dt.len]; exact hlen) c1,c2,c3⟩
  | _=>simp [rA] at hs
end
end Go.Proofs.Ytockoilcnmljiaa
namespace Go.Proofs.Ytockoilcnmljiaa
theorem rP {b:Nat}:∀ (vs:List Value) (o:Nat) (w:World) {c:Array Value} {e:TypeId} {fz:Nat × Nat},w.heap[b]?=some (.cells c e fz)→o+vs.length≤c.size→
    ∃ c':Array Value,(w.setCells b o vs).heap[b]?=some (.cells c' e fz)∧c'.size=c.size∧(∀ (j:Nat) (u:Value),vs[j]?=some u→c'[o+j]?=some u)∧(∀ i,i < o∨o+vs.length≤i→c'[i]?=c[i]?)∧(∀ k,k≠b→(w.setCells b o vs).heap[k]?=w.heap[k]?)∧
      (w.setCells b o vs).heap.size=w.heap.size∧(w.setCells b o vs).os=w.os∧(w.setCells b o vs).tape=w.tape∧(w.setCells b o vs).output=w.output
  | [],o,w,c,e,fz,h,_=>⟨c,h,rfl,by simp,fun _ _=>rfl,fun _ _=>rfl,rfl,rfl,rfl,rfl⟩
  | v::vs,o,w,c,e,fz,h,hl=>by
    have h1:(w.setCell ⟨b,o,none⟩ v).heap[b]?=some (.cells (c.setIfInBounds o v) e fz):=by
      simp [World.setCell,Array.getElem?_modify,h]
    simp only [List.length_cons] at hl
    obtain ⟨c',g1,g2,g3,g4,g5,g6,g7,g8,g9⟩:=rP vs (o+1) (w.setCell ⟨b,o,none⟩ v) h1 (by simp; omega)
    refine ⟨c',g1,by rw [g2]; simp,?_,?_,?_,?_,g7,g8,g9⟩
    · intro j u hj
      cases j with
      | zero=>
        simp only [List.getElem?_cons_zero,Option.some.injEq] at hj
        subst hj
        rw [Nat.add_zero,g4 o (.inl (by omega)),Array.getElem?_setIfInBounds_self_of_lt (by omega)]
      | succ j=>
        simp only [List.getElem?_cons_succ] at hj
        have:=g3 j u hj
        rw [show o+(j+1)=o+1+j by omega]; exact this
    · intro i hi
      rw [g4 i (by simp only [List.length_cons] at hi; omega),Array.getElem?_setIfInBounds_ne (by simp only [List.length_cons] at hi; omega)]
    · intro k hk
      rw [World.setCells,g5 k hk]
      simp only [World.setCell,Array.getElem?_modify]
      rw [if_neg (by simpa using Ne.symm hk)]
    · rw [World.setCells,g6]; simp [World.setCell]
section
variable {C:Ctx} {H:List T} {w:World} {st st':St} {ay:List (Array Value)} {S:List (Nat × RT)}
theorem My {Ys:List T} {s n cap m b off:Nat} {ts:List T} (h:Rel C (Ys++.own s n cap (some (b,off)) ts::H) w st ay S) (hm:Ys.length=m*s) (hc:n+m≤cap):
    Rel C (.own s (n+m) cap (some (b,off)) (ts++Ys)::H) (w.setCells b (off+n*s) (av Ys)) st ay S∧
    gl C w (w.setCells b (off+n*s) (av Ys)) S S (Ys++.own s n cap (some (b,off)) ts::H) (.own s (n+m) cap (some (b,off)) (ts++Ys)::H) id:=by
  have cP:=h.mem.hand
  rw [da] at cP
  obtain ⟨hY,hT⟩:=cP
  simp only [aU,aT] at hT
  obtain ⟨⟨h1,h2,ef,h4⟩,hH⟩:=hT
  obtain ⟨c,e,fz,g1,g2,g3,g4⟩:=ef
  have hmul:n*s+m*s≤cap*s:=by rw [← Nat.add_mul]; exact Nat.mul_le_mul_right _ hc
  obtain ⟨c',k1,k2,k3,k4,k5,k6,k7,k8,k9⟩:=rP (av Ys) (off+n*s) w g1 (by rw [bd,hm]; omega)
  generalize w.setCells b (off+n*s) (av Ys)=w' at k1 k5 k6 k7 k8 k9 ⊢
  have QO:(ad (.own s (n+m) cap (some (b,off)) (ts++Ys)::H)).Perm (ad (Ys++.own s n cap (some (b,off)) ts::H)):=by
    refine List.perm_iff_count.2 fun a=>?_
    simp only [ad,aK,T.ft,hL,List.count_append]
    omega
  have cF:∀ k,k∈ad (.own s (n+m) cap (some (b,off)) (ts++Ys)::H)↔k∈ad (Ys++.own s n cap (some (b,off)) ts::H):=fun k=>QO.mem_iff
  have hb:b∈ad (Ys++.own s n cap (some (b,off)) ts::H):=by simp [aK,ad,T.ft,hL]
  have eG:=h.mem.nd
  have bV:il w w' (ab C w S (Ys++.own s n cap (some (b,off)) ts::H)) (ab C w' S (.own s (n+m) cap (some (b,off)) (ts++Ys)::H)):=by
    intro bb k hk
    exact ⟨⟨by rw [k6]; exact hk.1,hk.2.1,fun hx=>hk.2.2.1 ((cF k).1 hx),hk.2.2.2⟩,k5 k (fun e=>hk.2.2.1 (e▸hb))⟩
  have dq:∀ d u,aN w (ab C w S (Ys++.own s n cap (some (b,off)) ts::H)) S d u→aN w' (ab C w' S (.own s (n+m) cap (some (b,off)) (ts++Ys)::H)) S d u:=fun d u hd=>p7 bV (fun _ _ h=>h) hd
  have Mz:∀ k,k∈cf S∨k∈ad ts∨k∈ad Ys∨k∈ad H→k≠b:=by
    intro k hk e
    subst e
    have hn2:(cf S++(ad Ys++(k::ad ts++ad H))).Nodup:=by
      have:=eG
      rw [aK,ad,T.ft,hL] at this
      simpa using this
    have p1:(cf S++(ad Ys++(k::ad ts++ad H))).Perm (k::(cf S++(ad Ys++(ad ts++ad H)))):=by
      refine List.perm_iff_count.2 fun a=>?_
      simp only [List.count_append,List.count_cons]
      omega
    have MA:=p1.nodup_iff.1 hn2
    simp only [List.nodup_cons,List.mem_append] at MA
    rcases hk with hk | hk | hk | hk
    · exact MA.1 (.inl hk)
    · exact MA.1 (.inr (.inr (.inl hk)))
    · exact MA.1 (.inr (.inl hk))
    · exact MA.1 (.inr (.inr (.inr hk)))
  refine ⟨h.pe h.rt rfl rfl dq ⟨(List.Perm.append_left _ QO).nodup_iff.2 eG,?_,?_,fun k hk=>?_⟩ ?_,dq⟩
  · intro r R hR
    obtain ⟨q1,q2⟩:=h.mem.root r R hR
    have XT:∀ k∈R.ft,k∈cf S:=fun k hk=>zu hR hk
    refine ⟨?_,fun t ht=>?_⟩
    · cases hx:R.box with
      | none=>trivial
      | some b0=>
        simp only [hx] at q1 ⊢
        obtain ⟨c0,e0,TE,r1,r2⟩:=q1
        exact ⟨c0,e0,TE,by rw [k5 b0 (Mz b0 (.inl (XT b0 (by simp [RT.ft,hx]))))]; exact r1,r2⟩
    · have:=q2 t ht
      cases t with
      | v d u=>
        rcases this with this | ⟨hb,this⟩
        · exact .inl (fE bV _ _ this)
        · exact .inr ⟨hb,dq _ _ this⟩
      | own s' n' qG a' xs=>exact c9 bV _ this (fun k hk=>k5 k (Mz k (.inl (XT k (by simp [RT.ft,yF ht hk])))))
  · simp only [aU,aT]
    refine ⟨⟨hc,by rw [List.length_append,h2,hm,Nat.add_mul],⟨c',e,fz,k1,by rw [k2]; exact g2,by rw [k2]; exact g3,fun j u hj=>?_⟩,?_⟩,fG bV _ hH (fun k hk=>k5 k (Mz k (.inr (.inr (.inr hk)))))⟩
    · rw [wL] at hj
      by_cases TF:j < (av ts).length
      · rw [List.getElem?_append_left TF] at hj
        rw [k4 _ (.inl (by rw [bd,h2] at TF; omega))]
        exact g4 j u hj
      · rw [List.getElem?_append_right (by omega)] at hj
        have:=k3 _ u hj
        rw [bd,h2] at this TF
        rw [show off+j=off+n*s+(j - n*s) by omega]
        exact this
    · rw [da]
      exact ⟨fG bV _ h4 (fun k hk=>k5 k (Mz k (.inr (.inl hk)))),fG bV _ hY (fun k hk=>k5 k (Mz k (.inr (.inr (.inl hk)))))⟩
  · rw [k6]
    refine h.mem.lt k ?_
    rcases List.mem_append.1 hk with hk | hk
    · exact List.mem_append.2 (.inl hk)
    · exact List.mem_append.2 (.inr ((cF k).1 hk))
  · refine ⟨by rw [k7]; exact h.kept.os,by rw [k8]; exact h.kept.tape,by rw [k9]; exact h.kept.output,by rw [k6]; exact h.kept.size,fun k q1 q2=>?_,fun k hk=>?_,h.kept.par⟩
    · rw [k5 k (fun e=>?_)]
      · exact h.kept.block k q1 q2
      · subst e
        rcases h.kept.gJ k (List.mem_append.2 (.inr hb)) with h3 | h3
        · exact q2 h3
        · omega
    · refine h.kept.gJ k ?_
      rcases List.mem_append.1 hk with hk | hk
      · exact List.mem_append.2 (.inl hk)
      · exact List.mem_append.2 (.inr ((cF k).1 hk))
theorem pK (h:Rel C H w st ay S):∀ {ds:List D} {us:List Value},bC (Ext w (ab C w S H)) ds us→∃ Ys,Rel C (Ys++H) w st ay S∧aL Ys=ds∧av Ys=us∧ad Ys=[]:=by
  intro ds
  induction ds with
  | nil=>intro us hu; cases hu; exact ⟨[],h,rfl,rfl,rfl⟩
  | cons d ds ih=>
    intro us hu
    cases hu with
    | cons h1 h2=>
    obtain ⟨Ys,a1,a2,a3,a4⟩:=ih h2
    rename_i u us
    have iZ:aZ d=d:=by
      cases d with
      | sl g s n cs=>cases g with
        | none=>simp [Ext] at h1
        | some g=>rfl
      | _=>rfl
    have zr:ab C w S (Ys++H)=ab C w S H:=by
      funext b k
      simp only [ab,aK,a4,List.nil_append]
    exact ⟨.v d u::Ys,Bj a1 (by rw [zr]; exact h1) iZ,by simp [aL,T.er,iZ,a2],by simp [av,T.val,a3],by simp [ad,T.ft,a4]⟩
end
end Go.Proofs.Ytockoilcnmljiaa
namespace Go.Proofs.Ytockoilcnmljiaa
structure OM (P:Program) (t tx ty e:TypeId) (inf:TypeInfo) (z:Value) (w:World) (ux:Value) (m:Nat) (news:List Value):Prop where
  nil:m=0→news=[]→(Builtin.append_ #[t,tx] ty #[.slice none 0 0,ux]).run P w=.ok (.slice none 0 0) w
  room:∀ b off n cap,n+m≤cap→(n+m)*inf.bytes≤140737488355328→0 < inf.bytes→(∀ j,j < news.length→(w.cell? ⟨b,off+n*inf.size+j,none⟩).isSome=true)→(∀ j,j < news.length→w.frozen? ⟨b,off+n*inf.size+j,none⟩=false)→
    (Builtin.append_ #[t,tx] ty #[.slice (some ⟨b,off,none⟩) n cap,ux]).run P w=.ok (.slice (some ⟨b,off,none⟩) (n+m) cap) (w.setCells b (off+n*inf.size) news)
  grow:∀ base n cap CF,(Builtin.firstCells inf.size n (.slice base n cap)).run P w.drew=.ok (List.toArray CF) w.drew→cap < n+m→(n+m)*inf.bytes≤140737488355328→0 < inf.bytes→
    (Builtin.append_ #[t,tx] ty #[.slice base n cap,ux]).run P w=.ok (.slice (some ⟨w.heap.size,0,none⟩) (n+m) (grownCap w (n+m) cap e)) (w.drew.alloc (.cells ((CF++news).toArray++Builtin.zeroCells z.cells (grownCap w (n+m) cap e - (n+m))) e))
section
variable {P:Program} {w:World} {t tx ty e:TypeId} {inf:TypeInfo} {z:Value} (ht:P.underlying t=some (.slice e)) (hi:P.info? e=some inf) (hz:inf.zero=some z)
include ht hi hz
theorem ON {ux:Value} {m:Nat} {news:List Value} (hs:Src P inf.size tx ux m news w):OM P t tx ty e inf z w ux m news:=by
  refine ⟨fun hm hn=>?_,fun b off n cap h1 _ _ h2 h3=>run_append_room_src w t tx ty e inf ht hi b off n cap ux m news hs h1 h2 h3,fun base n cap CF h1 h2 h3 h4=>?_⟩
  · subst hm; subst hn
    have hc:=hs.cells
    rcases hs.kind with ⟨e',hk⟩ | hk<;>simp [Builtin.append_,run_underlying ht,run_underlying hk,sizeOf,typeInfo,hi,hs.len,hc]
  · have TG:(n+m)*1≤(n+m)*inf.bytes:=Nat.mul_le_mul_left _ h4
    exact run_append_grow_src w t tx ty e inf z ht hi hz base n cap CF h1 ux m news hs h2 (by omega) (growslice_fits h2 h3)
theorem K8 {k kx:IntKind} (lO:P.underlying tx=some (.int k)) (jV:z.cells.size=inf.size) (cr:0 < inf.size) (m:Nat) (h1:∀ u∈z.cells.toList,u.oneCell'=true):OM P t tx ty e inf z w (.int kx m) m (List.replicate m z.cells.toList).flatten:=by
  have XU:Builtin.zeroCells z.cells m=(List.replicate m z.cells.toList).flatten.toArray:=by
    apply Array.ext'
    simp only [Builtin.zeroCells,Array.toList_map,Array.toList_range]
    exact wZ z.cells m
  have tT:∀ u∈(List.replicate m z.cells.toList).flatten,u.oneCell'=true:=by
    intro u hu
    simp only [List.mem_flatten,List.mem_replicate] at hu
    obtain ⟨l,⟨_,rfl⟩,hu⟩:=hu
    exact h1 u hu
  refine ⟨fun hm _=>?_,fun b off n cap h2 h3 Hm h4 h5=>?_,fun base n cap CF h2 h3 h4 h5=>?_⟩
  · subst hm
    have Ei:IntKind.i64.wrap 0=0:=by rw [IntKind.wrap_i64]; rfl
    simp [Builtin.append_,run_underlying ht,run_underlying lO,sizeOf,typeInfo,hi,asInt,asIntOf,Ei]
  · have TG:(n+m)*1≤(n+m)*inf.bytes:=Nat.mul_le_mul_left _ Hm
    have hw:IntKind.i64.wrap (m:Int)=m:=by rw [IntKind.wrap_i64]; omega
    have Zg:¬ ((m:Int) < 0):=by omega
    have hmb:m*inf.bytes≤140737488355328:=Nat.le_trans (Nat.mul_le_mul_right _ (Nat.le_add_left m n)) h3
    have Zh:¬ (281474976710656 < (m:Int)*(inf.bytes:Int)):=by
      rw [← Int.natCast_mul]
      omega
    have bV:=run_storeCells_cells (P:=P) b (off+n*inf.size) (List.replicate m z.cells.toList).flatten 0 w (by simpa using h4) (by simpa using h5) tT
    simp only [Nat.add_zero] at bV
    by_cases hm:m=0
    · subst hm
      simp only [List.replicate_zero,List.flatten_nil] at bV ⊢
      have Ei:IntKind.i64.wrap 0=0:=by rw [IntKind.wrap_i64]; rfl
      simp at h2
      simp [Builtin.append_,run_underlying ht,run_underlying lO,sizeOf,typeInfo,hi,asInt,asIntOf,Ei,h2,storeCells]
      rfl
    · have hns:¬ (m*inf.size=0):=Nat.mul_ne_zero hm (by omega)
      simp [Builtin.append_,run_underlying ht,run_underlying lO,sizeOf,typeInfo,zeroValue,hi,hz,asInt,asIntOf,hw,Zg,Zh,h2,hns,XU,Addr.add_lit,bV]
  · have TG:(n+m)*1≤(n+m)*inf.bytes:=Nat.mul_le_mul_left _ h5
    have kg:=growslice_fits h3 h4
    have hmb:m*inf.bytes≤140737488355328:=Nat.le_trans (Nat.mul_le_mul_right _ (Nat.le_add_left m n)) h4
    by_cases hm:m=0
    · subst hm
      have Ei:IntKind.i64.wrap 0=0:=by rw [IntKind.wrap_i64]; rfl
      simp only [Nat.add_zero] at kg h3 TG h4
      have Zi:¬ (281474976710656 < Builtin.nextslicecap n cap*inf.bytes):=by omega
      have h63:¬ (9223372036854775807 < (n:Int)):=by omega
      have hn:¬ (n≤cap):=by omega
      simp [Builtin.append_,run_underlying ht,run_underlying lO,sizeOf,typeInfo,zeroValue,hi,hz,asInt,asIntOf,Ei,hn,h63,Zi,Question.forced,h2,newRow,grownCap]
    · have:=Lib.run_append_grow_zeros w t tx ty e inf z kx k ht lO hi hz base n cap CF h2 m (by omega) cr h3 (by omega) (by omega) kg
      rw [this,XU]
      congr 3
      apply Array.ext'
      simp
end
end Go.Proofs.Ytockoilcnmljiaa
namespace Go.Proofs.Ytockoilcnmljiaa
def ni (x:Option (Nat × Nat)) (s:Nat) (ts:List T):List T:=
  match x with
  | none=>ts
  | some (l,m)=>(ts.drop (l*s)).take (m*s)
theorem MB (x:Option (Nat × Nat)) (s n:Nat) (ts:List T):aL (ni x s ts)=(trim x s n (aL ts)).2:=by
  cases x with
  | none=>rfl
  | some p=>simp only [ni,trim,wM,wN]
theorem OO {w:World} {X:Bool→Nat→Prop} {s n cap:Nat} {a:Option (Nat × Nat)} {ts:List T} (hs:aT w X (.own s n cap a ts)) {x:Option (Nat × Nat)} {u:Value} (hr:dZ x (.own s n cap a ts) u):
    ∃ qG a',u=tk a' (trim x s n (aL ts)).1 qG∧aT w X (.own s (trim x s n (aL ts)).1 qG a' (ni x s ts)):=by
  cases x with
  | none=>
    simp only [dZ,sn,T.er] at hr
    exact ⟨cap,a,hr,hs⟩
  | some p=>
    obtain ⟨l,m⟩:=p
    simp only [dZ,sn,T.er,T.val,tk,Value.slice.injEq] at hr
    obtain ⟨h1,base,C,k,⟨h2,_,h3⟩,h4,rfl,h5⟩:=hr
    subst h2; subst h3
    simp only [aT] at hs
    obtain ⟨g1,g2,g3,g4⟩:=hs
    refine ⟨cap - l,a.map fun p=>(p.1,p.2+k*s),?_,?_⟩
    · simp only [tk,Option.map_map,trim]
      congr 1
      cases a<;>simp [ek]
    · simp only [aT,trim,ni]
      refine ⟨by omega,?_,?_,?_⟩
      · rw [List.length_take,List.length_drop,g2]
        have:l*s+m*s≤n*s:=by rw [← Nat.add_mul]; exact Nat.mul_le_mul_right _ h1
        omega
      · cases a with
        | none=>simp only at g3; simp only [Option.map_none]; omega
        | some p=>
          obtain ⟨b,off⟩:=p
          simp only [Option.map_some]
          obtain ⟨c,e,fz,k1,k2,k3,k4⟩:=g3
          refine ⟨c,e,fz,k1,k2,?_,?_⟩
          · rcases h5 with h5 | h5
            · rw [h5]
              have:k*s≤cap*s:=Nat.mul_le_mul_right _ h4
              omega
            · subst h5
              have:k*s+(cap - k)*s=cap*s:=by rw [← Nat.add_mul]; congr 1; omega
              omega
          · intro j u hj
            rw [cu,List.map_take,List.map_drop,← cu,List.getElem?_take] at hj
            split at hj
            · rename_i cJ
              rw [List.getElem?_drop] at hj
              have hm:m≠0:=fun e=>by simp [e] at cJ
              have:k=l:=by omega
              subst this
              rw [Nat.add_assoc]
              exact k4 _ _ hj
            · simp at hj
      · rw [bL] at g4 ⊢
        exact fun t ht=>g4 t (List.mem_of_mem_drop (List.mem_of_mem_take ht))
theorem Jg {w:World} {X:Bool→Nat→Prop}:∀ {ts:List T},aU w X ts→(aL ts).all jh=true→bC (Ext w X) (aL ts) (av ts):=by
  intro ts
  induction ts with
  | nil=>intro _ _; exact .nil
  | cons t ts ih=>
    intro hs hf
    simp only [aU] at hs
    simp only [aL,List.all_cons,Bool.and_eq_true] at hf
    refine .cons ?_ (ih hs.2 hf.2)
    cases t with
    | v d u=>exact hs.1
    | own s n cap a cs=>simp [T.er,jh] at hf
theorem Hn {d:D} (h:jh d=true):cI d=true:=by
  cases d<;>first | rfl | simp [jh] at h
section
variable {P:Program} {w:World}
theorem xm {sz:Nat} {tx e':TypeId} (hk:P.underlying tx=some (.slice e')) {base:Option Addr} {n cap:Nat} {news:List Value} (hl:news.length=n*sz) (cr:0 < sz)
    (hm:news=[]∨∃ b off,base=some ⟨b,off,none⟩∧∀ (j:Nat) (v:Value),news[j]?=some v→w.cell? ⟨b,off+j,none⟩=some v) (h1:∀ v∈news,v.oneCell'=true):Src P sz tx (.slice base n cap) n news w:=by
  by_cases hn:n=0
  · subst hn
    have:news=[]:=List.length_eq_zero_iff.1 (by rw [hl]; simp)
    subst this
    cases base with
    | none=>exact Src.ofNil w hk cap
    | some a=>exact Src.ofSlice w hk a 0 cap [] (by simp) (by simp) (by simp)
  · rcases hm with rfl | ⟨b,off,rfl,hm⟩
    · have:n*sz=0:=by rw [← hl]; rfl
      rcases Nat.mul_eq_zero.1 this with h | h<;>omega
    · exact Src.ofSlice w hk _ n cap news hl (fun j u hj=>by rw [ek]; exact hm j u hj) h1
theorem rQ {c:bU} (ah:dG c P) {tx:TypeId} (h:(match c.ty tx with | some ⟨.slice _,_,_,_⟩=>true | _=>false)=true):∃ e',P.underlying tx=some (.slice e'):=by
  split at h
  · rename_i e _ _ _ heq
    obtain ⟨d,h1,h2⟩:=(ah.ty _ _ heq).desc
    simp only [jl] at h2
    subst h2
    exact ⟨e,h1⟩
  · simp at h
end
section
variable {P:Program} {c:bU} (ah:dG c P) {C:Ctx} {H:List T} {w:World} {st st':St} {ay:List (Array Value)} {S:List (Nat × RT)}
include ah
theorem MC (h:Rel C H w st ay S) {d:D} {u:Value} (hd:bR w (ab C w S H) S d u) {flat:Bool} {sz:Nat} (cr:0 < sz) {zs:List D} (hint:∀ k n,d≠.int k n) {ys:List D} {m:Nat} (he:elems st flat zs sz d=some (ys,m,st')) {tx:TypeId} (lO:Cx c tx d=true):
    ∃ Ys S',Rel C (Ys++H) w st' ay S'∧aL Ys=ys∧Ys.length=m*sz∧Src P sz tx u m (av Ys) w∧st'.of=st.of∧st'.tm=st.tm∧st'.up=st.up:=by
  have ext:∀ {g:Bool} {s n:Nat} {cs:List D},Ext w (ab C w S H) (.sl (some g) s n cs) u→s=sz→cs.all cI=true→(∃ e',P.underlying tx=some (.slice e'))→
      ∃ Ys S',Rel C (Ys++H) w st ay S'∧aL Ys=cs∧Ys.length=n*sz∧Src P sz tx u n (av Ys) w:=by
    intro g s n cs hx hs hc ⟨e',hk⟩
    subst hs
    simp only [Ext] at hx
    obtain ⟨base,cap,us,rfl,h1,h2,h3,h4⟩:=hx
    have dt:=(gg _ _).1 h3
    obtain ⟨Ys,a1,a2,a3,a4⟩:=pK h dt
    have tT:∀ v∈us,v.oneCell'=true:=by
      intro v hv
      obtain ⟨i,hi⟩:=List.mem_iff_getElem?.1 hv
      have cJ:i < cs.length:=by rw [dt.len]; exact (List.getElem?_eq_some_iff.1 hi).1
      obtain ⟨v',g1,g2⟩:=dt.get (List.getElem?_eq_getElem cJ)
      rw [hi,Option.some.injEq] at g1
      subst g1
      exact (CC g2 (List.all_eq_true.1 hc _ (List.getElem_mem cJ))).1
    refine ⟨Ys,S,a1,a2,by rw [← eF,a2,h2],?_⟩
    rw [a3]
    refine xm hk (by rw [← dt.len,h2]) cr ?_ tT
    rcases h4 with h4 | ⟨k,off,c0,e0,fz,rfl,_,g1,g2⟩
    · left
      subst h4
      cases dt
      rfl
    · exact .inr ⟨k,off,rfl,fun j v hj=>by simp [World.cell?,g1,g2 j v hj]⟩
  cases d with
  | int k n=>exact absurd rfl (hint k n)
  | str s=>
    simp only [elems] at he
    split at he
    case isFalse=>simp at he
    rename_i tw
    subst tw
    simp only [Option.some.injEq,Prod.mk.injEq] at he
    obtain ⟨rfl,rfl,rfl⟩:=he
    have hu:u=.string s:=hd
    subst hu
    have dt:bC (Ext w (ab C w S H)) (s.data.toList.map ec) (byteCells s):=by
      refine cL (by simp [byteCells]) (fun i a b ha hb=>?_)
      simp only [byteCells,List.getElem?_map] at ha hb
      cases hx:s.data.toList[i]? with
      | none=>simp [hx] at ha
      | some y=>
        simp only [hx,Option.map_some,Option.some.injEq] at ha hb
        subst ha; subst hb
        rfl
    obtain ⟨Ys,a1,a2,a3,a4⟩:=pK h dt
    refine ⟨Ys,S,a1,a2,?_,?_,rfl,rfl,rfl⟩
    · rw [← bd,a3,byteCells_length,Nat.mul_one]
    · rw [a3]
      refine Src.ofString w ?_ s
      simp only [Cx] at lO
      split at lO
      · rename_i heq
        obtain ⟨d,h1,h2⟩:=(ah.ty _ _ heq).desc
        simp only [jl] at h2
        subst h2
        exact h1
      · simp at lO
  | nil s=>
    simp only [elems,Option.some.injEq,Prod.mk.injEq] at he
    obtain ⟨rfl,rfl,rfl⟩:=he
    have hu:u=.slice none 0 0:=hd
    subst hu
    obtain ⟨e',hk⟩:=rQ ah lO
    exact ⟨[],S,h,rfl,by simp,by simp only [av]; exact Src.ofNil w hk 0,rfl,rfl,rfl⟩
  | sl g s n cs=>
    cases g with
    | none=>simp [elems] at he
    | some g=>
      simp only [elems] at he
      split at he
      case isFalse=>simp at he
      rename_i hc
      simp only [Option.some.injEq,Prod.mk.injEq] at he
      obtain ⟨rfl,rfl,rfl⟩:=he
      obtain ⟨Ys,S',a1,a2,a3,a4⟩:=ext hd hc.1 hc.2 (rQ ah lO)
      exact ⟨Ys,S',a1,a2,a3,a4,rfl,rfl,rfl⟩
  | ref r q o x=>
    simp only [elems] at he
    split at he
    · rename_i s n cs hc
      obtain ⟨R,l,t0,g1,g2,g3,g4,g5⟩:=gR h.rt hc
      obtain ⟨cap,a,ts,rfl,rfl⟩:=A3 g5.symm
      have du:=pX h.mem g1 g2 g3 (g:=none) (s:=s) (n:=n) (cs:=aL ts) rfl
      obtain ⟨qG,a',hu,Gy⟩:=OO du (hd _ g4)
      simp only [aT] at Gy
      obtain ⟨k1,k2,k3,k4⟩:=Gy
      split at he
      · simp at he
      rename_i XV
      simp only [ne_eq,Decidable.not_not] at XV
      subst XV
      have cF:av (ni x s ts)=[]∨∃ b off,a'.map (fun p=>(⟨p.1,p.2,none⟩:Addr))=some ⟨b,off,none⟩∧∀ (j:Nat) (v:Value),(av (ni x s ts))[j]?=some v→w.cell? ⟨b,off+j,none⟩=some v:=by
        cases a' with
        | none=>
          left
          have:(ni x s ts).length=0:=by rw [k2]; simp only at k3; rw [k3.1]; simp
          rw [List.length_eq_zero_iff.1 this]; rfl
        | some p=>exact .inr ⟨p.1,p.2,rfl,fun j v hj=>rI k3 hj⟩
      rw [← MB] at he
      split at he
      · rename_i pL
        split at he
        case isFalse=>simp at he
        rename_i hf
        simp only [Option.some.injEq,Prod.mk.injEq] at he
        obtain ⟨rfl,rfl,rfl⟩:=he
        obtain ⟨Ys,b1,b2,b3,b4⟩:=pK h (Jg k4 hf)
        obtain ⟨e',hk⟩:=rQ ah lO
        refine ⟨Ys,S,b1,b2,by rw [← eF,b2,eF,k2],?_,rfl,rfl,rfl⟩
        rw [b3,hu]
        refine xm hk (by rw [bd,k2]) cr cF (fun v hv=>?_)
        rw [cu] at hv
        obtain ⟨t,ht,rfl⟩:=List.mem_map.1 hv
        exact (kG ((bL _).1 k4 t ht) (Hn (List.all_eq_true.1 hf t.er (by rw [dT]; exact List.mem_map.2 ⟨t,ht,rfl⟩)))).1
      · split at he
        case h_2=>simp at he
        rename_i ys1 aC cS
        split at he
        case isFalse=>simp at he
        rename_i fO
        simp only [Option.some.injEq,Prod.mk.injEq] at he
        obtain ⟨rfl,rfl,rfl⟩:=he
        have mR:ao R.cs (q++[o])=some ts:=(GX (bx:=R.box) g2 g3).2
        have dt:bC (aN w (ab C w S H) S) (jX r (q++[o]) (off x*s) (aL (ni x s ts))) (av (ni x s ts)):=by
          refine cL (by rw [nB,eF,bd]) (fun i y v hy hv=>?_)
          rw [lM,gA] at hy
          rw [eD] at hv
          cases hx:(ni x s ts)[i]? with
          | none=>simp [hx] at hy
          | some t=>
            simp only [hx,Option.map_some,Option.some.injEq] at hy hv
            subst hy; subst hv
            refine nA h.mem g1 mR ?_
            cases x with
            | none=>simp only [ni] at hx; simp only [off]; rw [Nat.zero_mul,Nat.zero_add]; exact hx
            | some p=>
              simp only [ni] at hx
              rw [List.getElem?_take] at hx
              split at hx
              · rw [List.getElem?_drop] at hx; exact hx
              · simp at hx
        obtain ⟨Ys,S',b1,b2,b3,b4,b5,b6⟩:=Bl h dt cS
        obtain ⟨e',hk⟩:=rQ ah lO
        have cP:=b1.mem.hand
        rw [da] at cP
        refine ⟨Ys,S',b1,b2,by rw [← bd,b3,bd,k2],?_,b6.2.2,b6.1,b6.2.1⟩
        rw [b3,hu]
        refine xm hk (by rw [bd,k2]) cr cF (fun v hv=>?_)
        rw [← b3,cu] at hv
        obtain ⟨t,ht,rfl⟩:=List.mem_map.1 hv
        exact (kG ((bL _).1 cP.1 t ht) (List.all_eq_true.1 fO t.er (by rw [← b2,dT]; exact List.mem_map.2 ⟨t,ht,rfl⟩))).1
    · rename_i g s n cs hc
      split at he
      case isFalse=>simp at he
      rename_i kR
      simp only [Option.some.injEq,Prod.mk.injEq] at he
      obtain ⟨rfl,rfl,rfl⟩:=he
      obtain ⟨R,l,t0,g1,g2,g3,g4,g5⟩:=gR h.rt hc
      have du:=pX h.mem g1 g2 g3 g5.symm
      have iZ:t0.ft=[]:=by
        cases t0 with
        | v d u=>rfl
        | own s' n' cap a ts=>simp [T.er] at g5
      have hx:=yC (X':=ab C w S H) (fun _ _ h=>h) false g5.symm du (by simp [iZ]) (hd _ g4)
      obtain ⟨Ys,S',a1,a2,a3,a4⟩:=ext hx kR.1 kR.2 (rQ ah lO)
      exact ⟨Ys,S',a1,a2,a3,a4,rfl,rfl,rfl⟩
    · simp at he
  | _=>simp [elems] at he
theorem OP (h:Rel C H w st ay S) {d:D} {u:Value} (hd:bR w (ab C w S H) S d u) {t ty e:TypeId} {inf:TypeInfo} {z:Value} (ht:P.underlying t=some (.slice e)) (hi:P.info? e=some inf) (hz:inf.zero=some z) {zs:List D} (jV:bC JQ zs z.cells.toList) (zo:zs.length=inf.size)
    (cr:0 < inf.size) {flat:Bool} {ys:List D} {m:Nat} (he:elems st flat zs inf.size d=some (ys,m,st')) {tx:TypeId} (lO:Cx c tx d=true):
    ∃ Ys S',Rel C (Ys++H) w st' ay S'∧aL Ys=ys∧Ys.length=m*inf.size∧OM P t tx ty e inf z w u m (av Ys)∧st'.of=st.of∧st'.tm=st.tm∧st'.up=st.up:=by
  by_cases hint:∃ k n,d=.int k n
  · obtain ⟨k,n,rfl⟩:=hint
    have hu:u=.int k n:=hd
    subst hu
    unfold elems at he
    split at he
    all_goals (try (rename_i heq; simp at heq; done))
    all_goals (try (simp at he; done))
    rename_i n0 heq
    simp only [D.int.injEq] at heq
    obtain ⟨rfl,rfl⟩:=heq
    split at he
    case isFalse=>simp at he
    rename_i hc
    simp only [Option.some.injEq,Prod.mk.injEq] at he
    obtain ⟨rfl,rfl,rfl⟩:=he
    have TH:z.cells.size=inf.size:=by rw [← zo,jV.len]; simp
    obtain ⟨ts,f1,f2,f3,f4⟩:=tu jV n.toNat
    obtain ⟨t0,e1,e2,e3,e4⟩:=G8 jV
    have hlen:ts.length=n.toNat*inf.size:=by
      have:=congrArg List.length f2
      rw [bd] at this
      rw [this,List.length_flatten,List.map_replicate,List.sum_replicate_nat,Array.length_toList,TH]
    have tT:∀ u∈z.cells.toList,u.oneCell'=true:=by
      intro u hu
      rw [← e2,cu] at hu
      obtain ⟨t1,w8,rfl⟩:=List.mem_map.1 hu
      refine (kG ((bL _).1 (e4 w (fun _ _=>False)) t1 w8) (List.all_eq_true.1 hc.2 t1.er ?_)).1
      rw [← e1,dT]
      exact List.mem_map.2 ⟨t1,w8,rfl⟩
    have Zj:∃ k',P.underlying tx=some (.int k'):=by
      simp only [Cx] at lO
      split at lO
      · rename_i heq
        obtain ⟨d,h1,h2⟩:=(ah.ty _ _ heq).desc
        simp only [jl] at h2
        subst h2
        exact ⟨_,h1⟩
      · simp at lO
    obtain ⟨k',hk'⟩:=Zj
    have gB:∀ l:List T,ad l=[]→(∀ w X,aU w X l)→Rel C (l++H) w st ay S:=by
      intro l QP QN
      have zr:ab C w S (l++H)=ab C w S H:=by
        funext b k
        simp only [ab,aK,QP,List.nil_append]
      obtain ⟨q1,⟨m1,m2,m3,m4⟩,q3,q4⟩:=h
      refine ⟨q1,⟨by rw [aK,QP]; exact m1,by rw [zr]; exact m2,?_,by rw [aK,QP]; exact m4⟩,by rw [zr]; exact q3,⟨q4.os,q4.tape,q4.output,q4.size,q4.block,by rw [aK,QP]; exact q4.gJ,q4.par⟩⟩
      rw [da,zr]
      exact ⟨QN _ _,m3⟩
    refine ⟨ts,S,gB ts f3 f4,f1,hlen,?_,rfl,rfl,rfl⟩
    rw [f2]
    have:=K8 (w:=w) (ty:=ty) ht hi hz hk' TH cr n.toNat tT (kx:=.i64)
    rwa [show ((n.toNat:Nat):Int)=n from Int.toNat_of_nonneg hc.1] at this
  · obtain ⟨Ys,S',a1,a2,a3,a4,a5⟩:=MC ah h hd cr (fun k n e=>hint ⟨k,n,e⟩) he lO
    exact ⟨Ys,S',a1,a2,a3,ON ht hi hz a4,a5⟩
end
end Go.Proofs.Ytockoilcnmljiaa
namespace Go.Proofs.Ytockoilcnmljiaa
section
variable {P:Program} {c:bU} (ah:dG c P) {C:Ctx} {Hx:List T} {w:World} {st st':St} {vs:Array Value} {ay:List (Array Value)} {S:List (Nat × RT)} (h:Rel C Hx w st (vs::ay) S)
include ah h
theorem MD {t tx ty:TypeId} {s x:D} {us ux:Value} (hs:bR w (ab C w S Hx) S s us) (hx:bR w (ab C w S Hx) S x ux) {d:Nat} (ht:d < vs.size) (hP:∀ p∈C.P0,p.1≠st.of+d) (ha:o8 c st t tx (some d) s x=some st'):
    ∃ v w',(Builtin.append_ #[t,tx] ty #[us,ux]).run P w=.ok v w'∧(∀ r' R' b',lk S r'=some R'→R'.box=some b'→w'.heap[b']?=w.heap[b']?)∧∃ S',Rel C Hx w' st' (vs.setIfInBounds d v::ay) S':=by
  unfold o8 at ha
  split at ha
  case h_2=>simp at ha
  rename_i e tsz tby tz fB
  split at ha
  case h_2=>simp at ha
  rename_i ei hZ
  split at ha
  case isFalse=>simp at ha
  rename_i lO
  split at ha
  case h_2=>simp at ha
  rename_i n cs aC oq
  split at ha
  case h_2=>simp at ha
  rename_i ys m bK fP
  split at ha
  case isFalse=>simp at ha
  rename_i hb
  obtain ⟨cr,TJ,kg⟩:=hb
  obtain ⟨inf,h1,h2,h3,z,h4,h5⟩:=(ah.ty _ _ hZ).info
  have zo:=(ah.ty _ _ hZ).len
  obtain ⟨dd,g1,g2⟩:=(ah.ty _ _ fB).desc
  simp only [jl] at g2
  subst g2
  have jV:z.cells.size=ei.size:=by rw [← zo,h5.len]; simp
  unfold target at oq
  split at oq
  case h_2=>simp at oq
  rename_i s0 n0 XN QM cS
  split at oq
  case isFalse=>simp at oq
  rename_i Qv
  subst Qv
  simp only [Option.some.injEq,Prod.mk.injEq] at oq
  obtain ⟨rfl,rfl,rfl⟩:=oq
  have rJ:aN w (ab C w S Hx) S s us:=by cases s<;>first | exact hs | (simp [hI] at cS; done)
  obtain ⟨T1,S1,a1,a2,a3,a4,a5,a6,_⟩:=rh h rJ cS
  obtain ⟨cap,a,ts,rfl,rfl⟩:=A3 a2
  have rN:∀ r' R' b',lk S r'=some R'→R'.box=some b'→b' < w.heap.size∧∀ p,a=some p→b'≠p.1:=by
    intro r' R' b' dN fg
    obtain ⟨R1,e1,e2,_⟩:=a5.fwd r' R' dN
    have ke:b'∈cf S1:=by
      obtain ⟨A,B,e3,_⟩:=ka e1
      rw [e3]
      simp [RT.ft,e2.trans fg]
    refine ⟨a1.mem.lt b' (List.mem_append.2 (.inl ke)),fun p hp e=>?_⟩
    subst hp
    exact (List.nodup_append.1 a1.mem.nd).2.2 b' ke p.1 (by simp [ad,T.ft,hL]) e
  obtain ⟨Ys,S2,b1,rfl,b3,b4,b5,b6,b7⟩:=OP (ty:=ty) ah a1 (nD a4 hx) g1 h1 h4 h5 (zo.trans h2.symm) (by rw [h2]; exact cr) (by rw [h2]; exact fP) lO
  rw [h2] at b3
  have oV:bK.of=st.of:=b5.trans a6.2.2
  have cP:=b1.mem.hand
  rw [da] at cP
  obtain ⟨hY,hT⟩:=cP
  simp only [aU] at hT
  have hT:=hT.1
  have hT0:=hT
  simp only [aT] at hT
  obtain ⟨k1,k2,k3,k4⟩:=hT
  have Bs:n0+m≤140737488355328:=by
    have:(n0+m)*1≤(n0+m)*ei.bytes:=Nat.mul_le_mul_left _ TJ
    omega
  have GZ:us=.slice (a.map fun p=>⟨p.1,p.2,none⟩) n0 cap:=a3.symm
  have eG:(ad (Ys++[T.own ei.size n0 cap a ts])).Nodup:=by
    have h9:=(List.nodup_append.1 b1.mem.nd).2.1
    rw [show Ys++T.own ei.size n0 cap a ts::Hx=(Ys++[T.own ei.size n0 cap a ts])++Hx by simp,aK] at h9
    exact (List.nodup_append.1 h9).1
  by_cases K9:n0+m≤cap
  ·
    cases a with
    | none=>
      simp only at k3
      obtain ⟨rfl,rfl⟩:=k3
      have Bi:m=0:=by omega
      subst Bi
      have xq:ts=[]:=List.length_eq_zero_iff.1 (by rw [k2]; simp)
      have hYs:Ys=[]:=List.length_eq_zero_iff.1 (by rw [b3]; simp)
      subst xq; subst hYs
      have dB:(Builtin.append_ #[t,tx] ty #[us,ux]).run P w=.ok (.slice none 0 0) w:=by
        rw [GZ]
        exact b4.nil rfl rfl
      refine ⟨_,_,dB,fun _ _ _ _ _=>rfl,?_⟩
      simp only [List.nil_append,aL,List.append_nil,Nat.add_zero] at b1 ha
      refine pj (Hs:=[T.own ei.size 0 0 none []]) (H:=Hx) (R:=⟨none,[T.own ei.size 0 0 none []]⟩) b1 (Grown.refl w) (by simp [RT.ft,ad,T.ft,hL]) (by simp [RT.ft,ad,T.ft,hL]) (fun S' bV dq=>⟨trivial,fun y hy=>?_⟩) ht (by rw [oV]; exact hP) (d:=fun d=>.ref d [] 0 none) ?_ (by simpa [aL,T.er] using ha)
      · simp only [List.mem_singleton] at hy
        subst hy
        simp [hM,aT,aU]
      · intro S' X nE
        simp only [bR,fN,aN]
        intro y hy
        simp only [bT,nE,ao,List.getElem?_cons_zero,Option.some.injEq] at hy
        subst hy
        simp [dZ,sn,T.er,T.val,tk]
    | some p=>
      obtain ⟨b,off⟩:=p
      have hmul:n0*ei.size+m*ei.size≤cap*ei.size:=by rw [← Nat.add_mul]; exact Nat.mul_le_mul_right _ K9
      obtain ⟨c1,_⟩:=My (H:=Hx) b1 b3 K9
      have dB:(Builtin.append_ #[t,tx] ty #[us,ux]).run P w=.ok (.slice (some ⟨b,off,none⟩) (n0+m) cap) (w.setCells b (off+n0*ei.size) (av Ys)):=by
        rw [GZ]
        rw [← h2]
        refine b4.room b off n0 cap K9 (by rw [h3]; exact kg) (by rw [h3]; exact TJ) (fun j hj=>?_) (fun j hj=>?_)
        · rw [bd,b3] at hj
          rw [h2,Nat.add_assoc]
          obtain ⟨u,hu⟩:=A8 (j:=n0*ei.size+j) k3 (by omega)
          rw [hu]; rfl
        · rw [bd,b3] at hj
          rw [h2,Nat.add_assoc]
          exact A7 k3 (by omega)
      refine ⟨_,_,dB,fun r' R' b' dN fg=>?_,?_⟩
      · obtain ⟨c0,e0,TE,g1,g2,g3,g4⟩:=k3
        exact (rP (av Ys) (off+n0*ei.size) w g1 (by rw [bd,b3]; omega)).choose_spec.2.2.2.2.1 b' ((rN r' R' b' dN fg).2 _ rfl)
      rw [← rG] at ha
      refine pj (Hs:=[T.own ei.size (n0+m) cap (some (b,off)) (ts++Ys)]) (H:=Hx) (R:=⟨none,[T.own ei.size (n0+m) cap (some (b,off)) (ts++Ys)]⟩) c1 (Grown.refl _) (fun k hk=>.inl (by simpa [RT.ft] using hk)) ?_ (fun S' bV dq=>⟨trivial,fun y hy=>?_⟩) ht (by rw [oV]; exact hP) (d:=fun d=>.ref d [] 0 none) ?_ (by simpa [aL,T.er] using ha)
      · have:=(List.nodup_append.1 c1.mem.nd).2.1
        rw [← List.singleton_append,aK] at this
        simpa [RT.ft] using (List.nodup_append.1 this).1
      · simp only [List.mem_singleton] at hy
        subst hy
        have:=c1.mem.hand
        simp only [aU] at this
        exact c9 bV _ this.1 (fun _ _=>rfl)
      · intro S' X nE
        simp only [bR,fN,aN]
        intro y hy
        simp only [bT,nE,ao,List.getElem?_cons_zero,Option.some.injEq] at hy
        subst hy
        simp [dZ,sn,T.er,T.val,tk]
  ·
    have hold:(Builtin.firstCells inf.size n0 (.slice (a.map fun p=>(⟨p.1,p.2,none⟩:Addr)) n0 cap)).run P w.drew=.ok (av ts).toArray w.drew:=by
      cases a with
      | none=>
        simp only at k3
        have xq:ts=[]:=List.length_eq_zero_iff.1 (by rw [k2,k3.1]; simp)
        subst xq
        exact run_firstCells_none _ _ _ _ _
      | some p=>
        exact run_firstCells_some w.drew inf.size n0 _ _ _ (av ts) (by rw [bd,k2,h2]) (fun j v hj=>by
          rw [ek]
          have:=rI k3 hj
          simpa using this)
    have dB:=b4.grow (a.map fun p=>(⟨p.1,p.2,none⟩:Addr)) n0 cap (av ts) hold (by omega) (by rw [h3]; exact kg) (by rw [h3]; exact TJ)
    rw [← GZ] at dB
    refine ⟨_,_,dB,fun r' R' b' dN fg=>((Grown.drew w).trans (Grown.alloc _ _)).bQ b' (rN r' R' b' dN fg).1,?_⟩
    have wT:=grownCap_ge w (n0+m) cap e
    rw [← rG] at ha
    have hlen:(ts++Ys).length=(n0+m)*ei.size:=by rw [List.length_append,k2,b3,Nat.add_mul]
    refine yD (Hs:=Ys++[T.own ei.size n0 cap a ts]) (H:=Hx) (by simpa using b1) ((Grown.drew w).trans (Grown.alloc _ _)) (ts:=ts++Ys) (b:=w.heap.size) ⟨Nat.le_refl _,by rw [im]; exact Nat.lt_succ_self _⟩ ?_ ?_ ?_ wT hlen ?_ ht (by rw [oV]; exact hP) ha
    · rw [da,List.append_assoc]
      exact ⟨k4,hY⟩
    · intro k hk
      rw [aK] at hk
      simp only [aK,ad,T.ft,List.append_nil,List.mem_append]
      rcases List.mem_append.1 hk with hk | hk
      · exact .inr (.inr hk)
      · exact .inl hk
    · have p1:(ad (Ys++[T.own ei.size n0 cap a ts])).Perm (hL a++ad (ts++Ys)):=by
        refine List.perm_iff_count.2 fun a=>?_
        simp only [aK,ad,T.ft,List.count_append,List.count_nil]
        omega
      exact (List.nodup_append.1 (p1.nodup_iff.1 eG)).2.1
    · refine jq w.drew _ e ?_ (fun j u hj=>?_)
      · simp only [Array.size_append,List.size_toArray,List.length_append,bd,k2,b3,size_zeroCells,jV,← Nat.add_mul]
        refine Nat.mul_le_mul_right _ ?_
        omega
      · rw [wL] at hj
        have cJ:=(List.getElem?_eq_some_iff.1 hj).1
        rw [Array.getElem?_append_left (by simpa using cJ)]
        simpa using hj
end
end Go.Proofs.Ytockoilcnmljiaa
namespace Go.Proofs.Ytockoilcnmljiaa
theorem fold_push:∀ (ns:List Int) (s:ByteArray),(ns.foldl (fun r n=>r.push (UInt8.ofNat n.toNat)) s).data.toList=s.data.toList++ns.map (fun n=>UInt8.ofNat n.toNat)
  | [],s=>by simp
  | n::ns,s=>by
    rw [List.foldl_cons,fold_push ns]
    simp [ByteArray.push]
theorem OQ {w:World} {X:Bool→Nat→Prop}:∀ {cs:List D} {us:List Value} {bs:List UInt8},bC (Tg w X) cs us→jQ byteOf cs=some bs→∃ ns:List Int,us=ns.map (Value.int .u8)∧bs=ns.map (fun n=>UInt8.ofNat n.toNat):=by
  intro cs
  induction cs with
  | nil=>
    intro us bs h hm
    cases h
    simp only [jQ,Option.some.injEq] at hm
    subst hm
    exact ⟨[],rfl,rfl⟩
  | cons d cs ih=>
    intro us bs h hm
    cases h with
    | cons h1 h2=>
    simp only [jQ] at hm
    split at hm
    case h_2=>simp at hm
    rename_i b hb
    split at hm
    case h_2=>simp at hm
    rename_i Qt Ej
    simp only [Option.some.injEq] at hm
    subst hm
    obtain ⟨ns,rfl,rfl⟩:=ih h2 Ej
    unfold byteOf at hb
    split at hb
    case h_2=>simp at hb
    rename_i n
    simp only [Option.some.injEq] at hb
    subst hb
    refine ⟨n::ns,?_,rfl⟩
    simp only [List.map_cons,List.cons.injEq,and_true]
    rcases h1 with h1 | ⟨t,he,rfl,h1⟩
    · exact h1
    · cases t with
      | own s n cap a cs=>simp [T.er] at he
      | v d u=>
        simp only [T.er] at he
        simp only [aT,← he] at h1
        exact h1
section
variable {P:Program} {c:bU} (ah:dG c P) {C:Ctx} {Hx:List T} {w:World} {st st':St} {vs:Array Value} {ay:List (Array Value)} {S:List (Nat × RT)} (h:Rel C Hx w st (vs::ay) S)
include ah
theorem rj {t:TypeId} {ti:TI} (ht:c.ty t=some ti):∃ d,P.underlying t=some d∧jl P ti.ty d:=(ah.ty _ _ ht).desc
include h
theorem Jh {src dst e:TypeId} (hs:P.underlying src=some (.slice e)) (he:P.underlying e=some (.int .u8)) (hd:P.underlying dst=some .string) {x:D} {u:Value} (hx:bR w (ab C w S Hx) S x u) {g:Option Bool} {n:Nat} {cs:List D} (fI:st.ny x=some (g,1,n,cs)) {bs:List UInt8} (hm:jQ byteOf cs=some bs):
    ∀ w2,cY w w2→(convert src dst u).run P w2=.ok (.string ⟨bs.toArray⟩) w2:=by
  have _:=ah
  intro w2 mQ
  obtain ⟨base,cap,rfl,h1,h2,h3⟩:=(Gv h.rt h.mem hx fI).ok
  rw [run_convert_bytes_string w2 src dst e base n cap hs he hd]
  rcases h3 with rfl | ⟨b,off,cc,ee,fz,us,rfl,g1,g2,g3⟩
  · simp only [jQ,Option.some.injEq] at hm
    subst hm
    have hn:n=0:=by simpa using h2.symm
    subst hn
    cases base with
    | none=>rfl
    | some a=>exact run_bytesToString w2 a 0 cap [] rfl
  · obtain ⟨ns,rfl,rfl⟩:=OQ g2 hm
    have hl:ns.length=n:=by have:=g2.len; rw [h2] at this; simpa using this.symm
    have vp:=run_loadCells_list (P:=P) w2 ⟨b,off,none⟩ (ns.map (Value.int .u8)) (fun j v hj=>by
      rw [ek]
      refine mQ.cell ?_
      simp [World.cell?,g1,g3 j v hj])
    rw [List.length_map,hl] at vp
    rw [run_bytesToString w2 _ n cap ns vp]
    congr 2
    have:=fold_push ns ByteArray.empty
    have h4:(ns.foldl (fun r n=>r.push (UInt8.ofNat n.toNat)) ByteArray.empty).data=(ns.map (fun n=>UInt8.ofNat n.toNat)).toArray:=by
      apply Array.ext'
      rw [this]
      simp
    generalize ns.foldl (fun r n=>r.push (UInt8.ofNat n.toNat)) ByteArray.empty=z at h4 ⊢
    cases z
    simp only at h4
    rw [h4]
theorem Ji {src dst e:TypeId} (hs:P.underlying src=some .string) (hd:P.underlying dst=some (.slice e)) (he:P.underlying e=some (.int .u8)) {s:ByteArray} {t:Nat} (ht:t < vs.size) (hP:∀ p∈C.P0,p.1≠st.of+t)
    (hr:st.root (some t) [.sl none 1 s.size (s.data.toList.map ec)] (fun d=>.ref d [] 0 none)=some st'):
    ∃ v w',(convert src dst (.string s)).run P w=.ok v w'∧∃ S',Rel C Hx w' st' (vs.setIfInBounds t v::ay) S':=by
  have _:=ah
  have dt:bC (Ext w (ab C w S Hx)) (s.data.toList.map ec) (byteCells s):=by
    refine cL (by simp [byteCells]) (fun i a b ha hb=>?_)
    simp only [byteCells,List.getElem?_map] at ha hb
    cases hx:s.data.toList[i]? with
    | none=>simp [hx] at ha
    | some y=>
      simp only [hx,Option.map_some,Option.some.injEq] at ha hb
      subst ha; subst hb
      rfl
  obtain ⟨Ys,a1,a2,a3,a4⟩:=pK h dt
  have vf:s.size≤grownCap w s.size 0 e:=grownCap_ge w s.size 0 e
  let cells:Array Value:=(s.data.map fun b=>Value.int .u8 b.toNat)++Array.replicate (grownCap w s.size 0 e - s.size) (.int .u8 0)
  have dU:cells.size=grownCap w s.size 0 e:=by
    simp only [cells,Array.size_append,Array.size_map,Array.size_replicate]
    have:s.data.size=s.size:=rfl
    omega
  let w1:=(w.drew.alloc (.cells cells e)).freeze ⟨w.heap.size,cells.size,none⟩ 1
  have vm:(w.drew.alloc (.cells cells e)).heap[w.heap.size]?=some (.cells cells e (0,0)):=D9 w.drew _
  have dB:(convert src dst (.string s)).run P w=.ok (.slice (some ⟨w.heap.size,0,none⟩) s.size (grownCap w s.size 0 e)) w1:=by
    have hsh:(w.drew.alloc (.cells cells e)).shape? w.heap.size=some (e,cells.size):=by
      simp only [World.shape?,vm]
    simp only [convert,Sem.run_bind,run_underlying hs,run_underlying hd,run_underlying he,Result.andThen_ok]
    simp only [Conv.stringToBytes,Sem.run_bind,run_choose,Question.forced,Bool.false_eq_true,if_false,Result.andThen_ok,newRow,run_newObj,Sem.run_pure,markStringish,run_shape]
    have TK:World.shape? { os:=w.os,heap:=w.heap.push (.cells cells e),tape:=w.tape,drawn:=w.drawn+1,output:=w.output } w.heap.size=some (e,cells.size):=hsh
    simp only [cells,grownCap] at TK
    rw [TK]
    simp only [run_freeze,Result.andThen_ok]
    rfl
  refine ⟨_,_,dB,?_⟩
  have cr:w1.heap.size=w.heap.size+1:=by
    show (World.freeze _ _ 1).heap.size=_
    simp only [World.freeze,Nat.one_ne_zero,if_false,Array.size_modify]
    exact im w.drew _
  have hg:Grown w w1:=by
    refine ⟨by omega,fun k hk=>?_,rfl,rfl,rfl⟩
    show (World.freeze _ _ 1).heap[k]?=_
    simp only [World.freeze,Nat.one_ne_zero,if_false,Array.getElem?_modify]
    rw [if_neg (by omega)]
    exact (Grown.alloc w.drew _).bQ k hk
  have ef:jU w1 w.heap.size 0 (grownCap w s.size 0 e*1) (av Ys):=by
    refine ⟨cells,e,(cells.size,cells.size+1),?_,fun o ho=>by simp only; omega,by rw [dU]; omega,fun j u hj=>?_⟩
    · show (World.freeze _ _ 1).heap[w.heap.size]?=_
      simp only [World.freeze,Nat.one_ne_zero,if_false,Array.getElem?_modify,if_true]
      rw [vm]
      rfl
    · rw [a3] at hj
      have cJ:=(List.getElem?_eq_some_iff.1 hj).1
      rw [byteCells_length] at cJ
      simp only [cells,Nat.zero_add]
      rw [Array.getElem?_append_left (by simpa using cJ)]
      simp only [byteCells,List.getElem?_map] at hj
      simpa using hj
  rw [← a2] at hr
  exact yD (Hs:=Ys) (H:=Hx) a1 hg ⟨Nat.le_refl _,by omega⟩ ((da _ _).1 a1.mem.hand).1 (fun _ h=>h) (by rw [a4]; simp) vf (by rw [← bd,a3,byteCells_length,Nat.mul_one]) ef ht hP hr
end
end Go.Proofs.Ytockoilcnmljiaa
namespace Go.Proofs.Ytockoilcnmljiaa
section
variable {P:Program} {c:bU} (ah:dG c P) {C:Ctx} {w:World} {st:St} {S:List (Nat × RT)} {X:Bool→Nat→Prop}
include ah
theorem Ho {t:TypeId} {x d':D} {u:Value} {k:IntKind} {i:Int} (hx:bR w X S x u) (h:ud c t x i=some d'):∃ r,(∀ w:World,(Instr.index t u (.int k i)).run P w=.ok r w)∧bR w X S d' r:=by
  unfold ud at h
  split at h
  · rename_i _ _ _ s ht
    obtain ⟨d,h1,h2⟩:=(ah.ty _ _ ht).desc
    simp only [jl] at h2
    subst h2
    have hu:u=.string s:=hx
    subst hu
    obtain ⟨g1,g2,g3⟩:=kE h
    cases hb:s.data.toList[i.toNat]? with
    | none=>simp [hb] at g3
    | some b=>
      simp only [hb,Option.map_some,Option.some.injEq] at g3
      subst g3
      have cJ:i.toNat < s.size:=by omega
      have lp:s[i.toNat]?=some b:=by
        have h5:s.data[i.toNat]?=some b:=by rw [← Array.getElem?_toList]; exact hb
        rw [getElem?_pos s i.toNat cJ]
        rw [Array.getElem?_eq_getElem cJ] at h5
        exact h5
      refine ⟨.int .u8 b.toNat,?_,rfl⟩
      intro w
      simp only [Instr.index,asIntOf,Sem.run_bind,Sem.run_pure,Result.andThen_ok,run_underlying h1,if_pos g1,lp]
  · rename_i n e _ _ _ cs ht
    split at h
    case h_2=>simp at h
    rename_i ei he
    obtain ⟨d,h1,h2⟩:=(ah.ty _ _ ht).desc
    simp only [jl] at h2
    subst h2
    obtain ⟨us,rfl,hu⟩:=hx
    obtain ⟨g1,g2,g3⟩:=kE h
    have cr:=fun w=>(ah.ty _ _ he).sz w
    have zw:=fun w=>(ah.ty _ _ he).agg w
    have XW:(0≤i∧i < (n:Int)):=⟨g1,g2⟩
    split at g3
    · rename_i dH
      simp only [Option.some.injEq] at g3
      subst g3
      refine ⟨.agg (us.extract (i.toNat*ei.size) (i.toNat*ei.size+ei.size)),?_,?_⟩
      · intro w; simp [Instr.index,asIntOf,run_underlying h1,XW,cr,part,zw,dH]
      · refine ⟨_,rfl,?_⟩
        have:=(hu.drop (i.toNat*ei.size)).take ei.size
        simpa [Array.toList_extract,List.extract] using this
    · rename_i dH
      obtain ⟨v,g4,g5⟩:=hu.get g3
      refine ⟨v,?_,kD g5⟩
      rw [Array.getElem?_toList] at g4
      simp only [Bool.not_eq_true] at dH
      intro w; simp [Instr.index,asIntOf,run_underlying h1,XW,cr,part,zw,dH,g4]
  · simp at h
end
theorem Rel.xr {C:Ctx} {H:List T} {w:World} {st:St} {a:Act} {ay:List (Array Value)} {S:List (Nat × RT)} (h:Rel C H w st (a.tmps::ay) S) {dst:Option Nat} (ht:∀ t,dst=some t→t < a.tmps.size) {d:D} {v:Value} (hv:bR w (ab C w S H) S d v):
    Rel C H w (st.put dst d) ((a.put dst v).tmps::ay) S:=by
  cases dst with
  | none=>exact h
  | some t=>exact h.put (ht t rfl) hv
theorem ia (st:St) (dst:Option Nat) (d:D):(st.put dst d).of=st.of:=by cases dst<;>rfl
theorem rk {st st':St} {dst:Option Nat} {cs:List D} {d:Nat→D} (h:st.root dst cs d=some st'):st'.of=st.of∧∃ t,dst=some t:=by
  cases dst with
  | none=>simp [St.root] at h
  | some t=>
    simp only [St.root,Option.some.injEq] at h
    subst h
    exact ⟨rfl,t,rfl⟩
theorem cw (a:Act) (dst:Option Nat) (v:Value):(a.put dst v).tmps.size=a.tmps.size∧(a.put dst v).defers=a.defers:=by
  cases dst<;>simp [Act.put]
end Go.Proofs.Ytockoilcnmljiaa
namespace Go.Proofs.Ytockoilcnmljiaa
section
variable {P:Program} {c:bU} (ah:dG c P) {C:Ctx} {Hx:List T} {w:World} {st st':St} {vs:Array Value} {ay:List (Array Value)} {S:List (Nat × RT)} (h:Rel C Hx w st (vs::ay) S)
include ah h
theorem Hp {src dst:TypeId} {x d:D} {u:Value} (hx:bR w (ab C w S Hx) S x u) (hc:tj c st src dst x=some (d,none)):∃ r,(∀ w2,cY w w2→(convert src dst u).run P w2=.ok r w2)∧bR w (ab C w S Hx) S d r:=by
  unfold tj at hc
  split at hc
  case h_2=>simp at hc
  rename_i si di QQ ME
  obtain ⟨ds,tw,oW⟩:=rj ah QQ
  obtain ⟨dd,xx,kS⟩:=rj ah ME
  split at hc
  · rename_i k _ n hk
    rw [hk] at kS
    simp only [jl] at kS
    subst kS
    simp only [Option.some.injEq,Prod.mk.injEq,and_true] at hc
    subst hc
    have hu:=fH hx
    subst hu
    refine ⟨.int k (k.wrap n),?_,Mc _ _⟩
    intro w2 _; simp [convert,run_underlying tw,run_underlying xx,Conv.intToInt]
  · rename_i n hk
    rw [hk] at kS
    simp only [jl] at kS
    subst kS
    simp only [Option.some.injEq,Prod.mk.injEq,and_true] at hc
    subst hc
    have hu:=fH hx
    subst hu
    refine ⟨.string (Utf8.encode n),?_,Tf _⟩
    intro w2 _; simp [convert,run_underlying tw,run_underlying xx,Conv.intToString]
  · rename_i s hk
    rw [hk] at kS
    simp only [jl] at kS
    subst kS
    simp only [Option.some.injEq,Prod.mk.injEq,and_true] at hc
    subst hc
    have hu:=ui hx
    subst hu
    refine ⟨.string s,?_,Tf _⟩
    intro w2 _; simp [convert,run_underlying tw,run_underlying xx]
  · rename_i e hk vY _ _
    rw [hk] at kS
    rw [vY] at oW
    simp only [jl] at kS oW
    subst kS; subst oW
    split at hc
    case h_2=>simp at hc
    rename_i he
    obtain ⟨de,TL,MF⟩:=rj ah he
    simp only [jl] at MF
    subst MF
    split at hc
    case h_2=>simp at hc
    rename_i g s n cs fI
    split at hc
    case isFalse=>simp at hc
    rename_i hs
    subst hs
    split at hc
    case h_2=>simp at hc
    rename_i bs hm
    simp only [Option.some.injEq,Prod.mk.injEq,and_true] at hc
    subst hc
    exact ⟨_,Jh ah h tw TL xx hx fI hm,Tf _⟩
  · split at hc<;>simp at hc
  · simp at hc
theorem MG {src dst:TypeId} {x d:D} {cs:List D} {u:Value} (hx:bR w (ab C w S Hx) S x u) (hc:tj c st src dst x=some (d,some cs)) {t:Nat} (ht:t < vs.size) (hP:∀ p∈C.P0,p.1≠st.of+t)
    (hr:st.root (some t) cs (fun d=>.ref d [] 0 none)=some st'):∃ v w',(convert src dst u).run P w=.ok v w'∧∃ S',Rel C Hx w' st' (vs.setIfInBounds t v::ay) S':=by
  unfold tj at hc
  split at hc
  case h_2=>simp at hc
  rename_i si di QQ ME
  obtain ⟨ds,tw,oW⟩:=rj ah QQ
  obtain ⟨dd,xx,kS⟩:=rj ah ME
  split at hc
  · simp at hc
  · simp at hc
  · simp at hc
  · split at hc
    · split at hc
      · split at hc
        · split at hc<;>simp at hc
        · simp at hc
      · simp at hc
    · simp at hc
  · rename_i e s hk vY
    rw [hk] at kS
    rw [vY] at oW
    simp only [jl] at kS oW
    subst kS; subst oW
    split at hc
    case h_2=>simp at hc
    rename_i he
    obtain ⟨de,TL,MF⟩:=rj ah he
    simp only [jl] at MF
    subst MF
    simp only [Option.some.injEq,Prod.mk.injEq] at hc
    obtain ⟨_,rfl⟩:=hc
    have hu:=ui hx
    subst hu
    exact Ji ah h tw xx TL ht hP hr
  · simp at hc
end
end Go.Proofs.Ytockoilcnmljiaa
namespace Go.Proofs.Ytockoilcnmljiaa
theorem MH {st st':St} {d d':D} (h:hI st d=some (d',st')):st'.of=st.of:=by
  unfold hI at h
  split at h<;>try (simp only [Option.some.injEq,Prod.mk.injEq] at h; obtain ⟨_,rfl⟩:=h; rfl)
  · split at h
    · split at h
      · rename_i aC hs
        simp only [Option.some.injEq,Prod.mk.injEq] at h
        obtain ⟨_,rfl⟩:=h
        unfold St.gw at hs
        split at hs
        · split at hs
          · simp only [Option.some.injEq] at hs
            subst hs; rfl
          · simp at hs
        · simp at hs
      · simp at h
    · simp only [Option.some.injEq,Prod.mk.injEq] at h; obtain ⟨_,rfl⟩:=h; rfl
    · simp at h
  · simp at h
theorem Hq:∀ {ds ds':List D} {st st':St},oU st ds=some (ds',st')→st'.of=st.of
  | [],ds',st,st',h=>by simp only [oU,Option.some.injEq,Prod.mk.injEq] at h; obtain ⟨_,rfl⟩:=h; rfl
  | d::ds,ds',st,st',h=>by
    simp only [oU] at h
    split at h
    case h_2=>simp at h
    rename_i d1 aC h1
    split at h
    case h_2=>simp at h
    rename_i fA bK h2
    simp only [Option.some.injEq,Prod.mk.injEq] at h
    obtain ⟨_,rfl⟩:=h
    exact (Hq h2).trans (MH h1)
theorem MI {c:bU} {st st':St} {t tx:TypeId} {dst:Option Nat} {s x:D} (h:o8 c st t tx dst s x=some st'):∃ bK:St,∃ cs:List D,bK.of=st.of∧bK.root dst cs (fun d=>.ref d [] 0 none)=some st':=by
  unfold o8 at h
  split at h
  case h_2=>simp at h
  split at h
  case h_2=>simp at h
  split at h
  case isFalse=>simp at h
  split at h
  case h_2=>simp at h
  rename_i n cs aC oq
  split at h
  case h_2=>simp at h
  rename_i ys m bK fP
  split at h
  case isFalse=>simp at h
  refine ⟨bK,_,?_,h⟩
  have h1:aC.of=st.of:=by
    unfold target at oq
    split at oq
    · rename_i s' n' cs' zh cS
      split at oq
      · simp only [Option.some.injEq,Prod.mk.injEq] at oq
        obtain ⟨_,_,rfl⟩:=oq
        exact MH cS
      · simp at oq
    · simp at oq
  have h2:bK.of=aC.of:=by
    unfold elems at fP
    split at fP<;>try (simp at fP; done)
    · split at fP<;>simp only [Option.some.injEq,Prod.mk.injEq,reduceCtorEq] at fP
      obtain ⟨_,_,rfl⟩:=fP; rfl
    · split at fP<;>simp only [Option.some.injEq,Prod.mk.injEq,reduceCtorEq] at fP
      obtain ⟨_,_,rfl⟩:=fP; rfl
    · simp only [Option.some.injEq,Prod.mk.injEq] at fP
      obtain ⟨_,_,rfl⟩:=fP; rfl
    · split at fP<;>simp only [Option.some.injEq,Prod.mk.injEq,reduceCtorEq] at fP
      obtain ⟨_,_,rfl⟩:=fP; rfl
    · split at fP
      · split at fP
        · simp at fP
        · split at fP
          · split at fP<;>simp only [Option.some.injEq,Prod.mk.injEq,reduceCtorEq] at fP
            obtain ⟨_,_,rfl⟩:=fP; rfl
          · split at fP
            · rename_i ys' st4 cS
              split at fP<;>simp only [Option.some.injEq,Prod.mk.injEq,reduceCtorEq] at fP
              obtain ⟨_,_,rfl⟩:=fP
              exact Hq cS
            · simp at fP
      · split at fP<;>simp only [Option.some.injEq,Prod.mk.injEq,reduceCtorEq] at fP
        obtain ⟨_,_,rfl⟩:=fP; rfl
      · simp at fP
  exact h2.trans h1
theorem MJ (A:Addr) (i:Nat):(A.add i).block=A.block:=by
  obtain ⟨b,o,s⟩:=A
  cases s<;>first | rfl | (simp only [Addr.add]; split<;>rfl)
theorem Fc (w:World) (a:Addr) (v:Value) {k:Nat} (hk:k≠a.block):(w.setCell a v).heap[k]?=w.heap[k]?:=by
  simp [World.setCell,Array.getElem?_modify,Ne.symm hk]
theorem rR {P:Program} {b:Nat}:∀ {us:List Value} {w w':World} {i:Nat},∀ A:Addr,A.block=b→(∃ c e fz,w.heap[b]?=some (.cells c e fz))→(storeCells A us i).run P w=.ok () w'→∀ k,k≠b→w'.heap[k]?=w.heap[k]?
  | [],w,w',i,A,hA,_,h,k,hk=>by
    simp only [storeCells,Sem.run_pure,Result.ok.injEq,true_and] at h
    rw [h]
  | u::us,w,w',i,A0,MK,⟨c,e,fz,hb⟩,h,k,hk=>by
    have step:∀ w1:World,(store (Addr.add A0 i) u).run P w=.ok () w1→(∃ c e fz,w1.heap[b]?=some (.cells c e fz))∧w1.heap[k]?=w.heap[k]?:=by
      intro w1 h1
      have ef:(Addr.add A0 i).block=b:=by rw [MJ,MK]
      generalize Addr.add A0 i=A at h1 ef
      have QB:∀ v m,∀ r,w.farStore P A v m≠.ok r:=by
        intro v m r
        unfold World.farStore
        rw [ef,hb]
        simp
      have main:u.oneCell'=true→(∃ c e fz,w1.heap[b]?=some (.cells c e fz))∧w1.heap[k]?=w.heap[k]?:=by
        intro h1c
        rw [run_store P w A u _ h1c] at h1
        split at h1
        · split at h1
          · simp at h1
          · simp only [Result.ok.injEq,true_and] at h1
            subst h1
            refine ⟨?_,Fc w A u (by rw [ef]; exact hk)⟩
            simp only [World.setCell,Array.getElem?_modify,ef,if_true,hb,Option.map_some]
            exact ⟨_,_,_,rfl⟩
        · split at h1
          · rename_i r hr
            exact absurd hr (QB _ _ _)
          · simp at h1
      cases u with
      | agg us=>simp [store,Sem.run] at h1
      | tuple us=>simp [store,Sem.run] at h1
      | _=>exact main rfl
    rw [storeCells,Sem.run_bind] at h
    cases hs:(store (Addr.add A0 i) u).run P w with
    | ok _ w1=>
      rw [hs,Result.andThen_ok] at h
      obtain ⟨h2,h3⟩:=step w1 hs
      rw [rR A0 MK h2 h k hk,h3]
    | halt x w1=>
      rw [hs] at h
      simp [Result.andThen] at h
structure vZ (o:Oper) (a:Act) (S:List (Nat × RT)) (w w':World):Prop where
  al:pV o=true→cY w w'
  ap:∀ cc,o.op=.call cc→cc.callee=.builtin .append→∀ r R b,lk S r=some R→R.box=some b→w'.heap[b]?=w.heap[b]?
  st:∀ t x y,o.op=.store t x y→∀ A,a.eval x=.pointer (some A)→(∃ c e fz,w.heap[A.block]?=some (.cells c e fz))→∀ k,k≠A.block→w'.heap[k]?=w.heap[k]?
theorem vZ.refl (o:Oper) (a:Act) (S:List (Nat × RT)) (w:World):vZ o a S w w:=⟨fun _=>cY.refl w,fun _ _ _ _ _ _ _ _=>rfl,fun _ _ _ _ _ _ _ _ _=>rfl⟩
theorem vZ.alloc {o:Oper} {a:Act} {S:List (Nat × RT)} {w w':World} (h:cY w w') (h2:pV o=true):vZ o a S w w':=⟨fun _=>h,fun cc e=>by simp [pV,e] at h2,fun t x y e=>by simp [pV,e] at h2⟩
section
variable {P:Program} {c:bU} (ah:dG c P) {C:Ctx} {Hx:List T} {w:World} {st st':St} {o:Oper} {a:Act} {ay:List (Array Value)} {S:List (Nat × RT)} {K:Act→World→Prop} {Q:Exit→Act→World→Prop}
  {cl:FuncId→List D→Option (D × List D)} {ci:FuncId→List D→Nat→St→Option (D × St)} {au:FuncId}
include ah
theorem ML (h:Rel C Hx w st (a.tmps::ay) S) (fF:∀ t,o.dst=some t→t < a.tmps.size∧∀ p∈C.P0,p.1≠st.of+t) (mz:∀ cc f,o.op=.call cc→cc.callee≠.value f) (ae:eC c cl ci au st o=some st')
    (hK:∀ a' w' S',Rel C Hx w' st' (a'.tmps::ay) S'→a'.tmps.size=a.tmps.size→a'.defers=a.defers→st'.of=st.of→vZ o a S w w'→K a' w'):o.wp P a w K Q:=by
  have fh:ku w (ab C w S Hx) S st.tm a.tmps:=by cases h.mO with | cons a _=>exact a
  have ev:=fun t x=>tn (c:=c) fh t x
  have xx:∀ t,o.dst=some t→t < a.tmps.size:=fun t ht=>(fF t ht).1
  have cj:∀ {d:D} {v:Value},(execOp a.eval o).run P w=.ok (.value v) w→bR w (ab C w S Hx) S d v→st'=st.put o.dst d→o.wp P a w K Q:=by
    intro d v dB hv bV
    subst bV
    refine nn dB (hK _ _ S (h.xr xx hv) (cw a o.dst v).1 (cw a o.dst v).2 (ia st o.dst d) (vZ.refl o a S w))
  have vq:∀ {aC:St} {cs:List D} {dd:Nat→D},aC.of=st.of→aC.root o.dst cs dd=some st'→(∀ t,o.dst=some t→t < a.tmps.size→(∀ p∈C.P0,p.1≠st.of+t)→aC.root (some t) cs dd=some st'→∃ v w',(execOp a.eval o).run P w=.ok (.value v) w'∧vZ o a S w w'∧∃ S',Rel C Hx w' st' (a.tmps.setIfInBounds t v::ay) S')→o.wp P a w K Q:=by
    intro aC cs dd oV hr hk
    obtain ⟨h1,t,ht⟩:=rk hr
    rw [ht] at hr
    obtain ⟨v,w',dB,xz,S',gB⟩:=hk t ht (fF t ht).1 (fF t ht).2 hr
    refine nn dB (hK _ _ S' ?_ (cw a o.dst v).1 (cw a o.dst v).2 (h1.trans oV) xz)
    rw [ht]
    exact gB
  unfold eC at ae
  cases ho:o.op with
  | move x=>
    simp only [ho,Option.some.injEq] at ae
    exact cj (by unfold execOp; simp only [ho]; rfl) (ev o.type x) ae.symm
  | assign x=>
    simp only [ho,Option.some.injEq] at ae
    exact cj (by unfold execOp; simp only [ho]; rfl) (ev o.type x) ae.symm
  | pick b x y=>
    simp only [ho] at ae
    split at ae
    case h_2=>simp at ae
    rename_i t hb
    simp only [Option.some.injEq] at ae
    have Bt:=ev o.type b
    rw [hb] at Bt
    have Bt:a.eval b=.bool t:=Bt
    refine cj (v:=if t then a.eval x else a.eval y) (d:=if t then bN c st o.type x else bN c st o.type y) ?_ ?_ ae.symm
    · unfold execOp
      simp only [ho,Bt,asBool,Sem.run_bind,Sem.run_pure,Result.andThen_ok]
    · cases t
      · exact ev o.type y
      · exact ev o.type x
  | alloc e=>
    simp only [ho] at ae
    split at ae
    case h_2=>simp at ae
    rename_i i hi
    refine vq rfl ae (fun t ht h1 h2 h3=>?_)
    obtain ⟨v,w',hr,hG,hS⟩:=OF ah h hi h1 h2 h3
    exact ⟨v,w',by unfold execOp; simp only [ho,Sem.run_bind,hr,Result.andThen_ok,Sem.run_pure],.alloc hG (by simp [pV,ho]),hS⟩
  | box e x=>
    simp only [ho] at ae
    split at ae
    case h_2=>simp at ae
    rename_i i hi
    by_cases bV:c.nV au (o.dst.getD 0)=true
    · simp only [bV,if_true,and_true] at ae
      split at ae
      case isFalse=>simp at ae
      rename_i hc
      split at ae
      case h_2=>simp at ae
      rename_i t ht
      rw [ht] at bV
      simp only [Option.getD_some] at bV
      simp only [bV,if_true] at ae
      split at ae
      case h_2=>simp at ae
      rename_i cs aC cS
      split at ae
      case isFalse=>simp at ae
      rename_i dU
      obtain ⟨v,w',hr,hG,S',gB⟩:=Mq ah h hc cS dU (fF t ht).1 (fF t ht).2 ae
      refine nn (v:=v) (w':=w') (by unfold execOp; simp only [ho,Sem.run_bind,hr,Result.andThen_ok,Sem.run_pure]) (hK _ _ S' (by rw [ht]; exact gB) (cw a o.dst v).1 (cw a o.dst v).2 ((rk ae).1.trans (Hq cS)) (.alloc hG (by simp [pV,ho])))
    · simp only [bV,Bool.false_eq_true,if_false] at ae
      split at ae
      case isFalse=>simp at ae
      rename_i hc
      split at ae
      case h_2=>simp at ae
      rename_i t ht
      rw [ht] at bV
      simp only [Option.getD_some] at bV
      simp only [bV,Bool.false_eq_true,if_false] at ae
      obtain ⟨v,w',hr,hG,S',gB⟩:=Tz ah h hc.1 hc.2 (fF t ht).1 (fF t ht).2 ae
      refine nn (v:=v) (w':=w') (by unfold execOp; simp only [ho,Sem.run_bind,hr,Result.andThen_ok,Sem.run_pure]) (hK _ _ S' (by rw [ht]; exact gB) (cw a o.dst v).1 (cw a o.dst v).2 (rk ae).1 (.alloc hG (by simp [pV,ho])))
  | build t ps=>
    simp only [ho] at ae
    split at ae
    · rename_i j8 szs sz nC z fB
      split at ae
      case h_2=>simp at ae
      rename_i cs hf
      simp only [Option.some.injEq] at ae
      obtain ⟨v,hr,hv⟩:=w6 ah h fB hf
      exact cj (by unfold execOp; simp only [ho,Sem.run_bind,hr,Result.andThen_ok,Sem.run_pure]) hv ae.symm
    · rename_i n e sz nC z fB
      split at ae
      case h_2=>simp at ae
      rename_i ei hZ
      split at ae
      case h_2=>simp at ae
      rename_i cs hf
      simp only [Option.some.injEq] at ae
      obtain ⟨v,hr,hv⟩:=zq ah h fB hZ hf
      exact cj (by unfold execOp; simp only [ho,Sem.run_bind,hr,Result.andThen_ok,Sem.run_pure]) hv ae.symm
    · simp at ae
  | buildSlice t n ps=>
    simp only [ho] at ae
    split at ae
    case h_2=>simp at ae
    rename_i e sz nC z fB
    split at ae
    case h_2=>simp at ae
    rename_i ei hZ
    split at ae
    case isFalse=>simp at ae
    rename_i hn
    split at ae
    case h_2=>simp at ae
    rename_i vs aC hp
    split at ae
    case h_2=>simp at ae
    rename_i cs hf
    have oV:aC.of=st.of:=by
      have dt:bC (fun p q=>q.1=p.1∧bR w (ab C w S Hx) S p.2 q.2) (ps.toList.map fun p=>(p.1,bN c st e p.2)) (ps.toList.map fun p=>(p.1,a.eval p.2)):=by
        refine cL (by simp) (fun i x y hx hy=>?_)
        simp only [List.getElem?_map] at hx hy
        cases hq:ps.toList[i]? with
        | none=>simp [hq] at hx
        | some q=>
          simp only [hq,Option.map_some,Option.some.injEq] at hx hy
          subst hx; subst hy
          exact ⟨rfl,ev e q.2⟩
      obtain ⟨_,_,_,_,_,_,_,_,b7⟩:=Bo h dt hp
      exact b7.2.2
    refine vq oV ae (fun t' ht h1 h2 h3=>?_)
    obtain ⟨v,w',hr,hG,hS⟩:=Fa ah h fB rfl hZ hn hp hf h1 h2 h3
    exact ⟨v,w',by unfold execOp; simp only [ho,Sem.run_bind,hr,Result.andThen_ok,Sem.run_pure],.alloc hG (by simp [pV,ho]),hS⟩
  | load t x=>
    simp only [ho] at ae
    split at ae
    case h_2=>simp at ae
    rename_i i hi
    split at ae
    case h_2=>simp at ae
    rename_i d hl
    simp only [Option.some.injEq] at ae
    obtain ⟨v,hr,hv⟩:=CA ah h.rt h.mem hi (ev o.type x) hl
    replace hr:=hr w (wP.refl _ w)
    exact cj (by unfold execOp; simp only [ho,Sem.run_bind,hr,Result.andThen_ok,Sem.run_pure]) hv ae.symm
  | store t x y=>
    simp only [ho] at ae
    split at ae
    case h_2=>simp at ae
    rename_i i hi
    split at ae
    case h_2=>simp at ae
    rename_i aC hs
    simp only [Option.some.injEq] at ae
    subst ae
    obtain ⟨w',S',hr,gB,oV⟩:=Mx ah h hi (ev o.type x) (ev t y) hs
    refine KR (w':=w') (by unfold execOp; simp only [ho,Sem.run_bind,hr,Result.andThen_ok,Sem.run_pure]) (hK _ _ S' (gB.xr xx (d:=.aQ []) ?_) (cw a o.dst undef).1 (cw a o.dst undef).2 ((ia aC o.dst _).trans oV) ?_)
    · exact ⟨#[],rfl,.nil⟩
    · refine ⟨fun e=>by simp [pV,ho] at e,fun cc e=>by simp [ho] at e,fun t0 x0 y0 e A hA cn k hk=>?_⟩
      rw [ho,Op.store.injEq] at e
      obtain ⟨rfl,rfl,rfl⟩:=e
      rw [hA] at hr
      have zx:(storeVar t A (a.eval y)).run P w=.ok () w':=by simpa [Instr.storeAt,Instr.sureAddr] using hr
      simp only [storeVar,Sem.run_bind,(ah.ty _ _ hi).sz w,Result.andThen_ok] at zx
      split at zx
      · simp at zx
      · exact rR A rfl cn (by simpa using zx) k hk
  | nilCheck x=>
    simp only [ho] at ae
    have hx:=ev o.type x
    have hd:∃ A,a.eval x=.pointer (some A)∧st'=st.put o.dst (bN c st o.type x):=by
      split at ae
      · rename_i r q i heq
        split at ae
        · rename_i hl
          simp only [Option.some.injEq] at ae
          rw [heq] at hx
          obtain ⟨A,hA,_⟩:=pJ h.rt h.mem hx (by simp only [hl,if_true]; rfl)
          exact ⟨A,hA,by rw [heq]; exact ae.symm⟩
        · simp at ae
      · rename_i cs i heq
        simp only [Option.some.injEq] at ae
        rw [heq] at hx
        obtain ⟨A,hA,_⟩:=pJ h.rt h.mem hx rfl
        exact ⟨A,hA,by rw [heq]; exact ae.symm⟩
      · simp at ae
    obtain ⟨A,hA,bV⟩:=hd
    refine cj (v:=a.eval x) ?_ hx bV
    unfold execOp
    simp only [ho,hA]
    rfl
  | binOp op t x y z=>
    simp only [ho] at ae
    split at ae
    case h_2=>simp at ae
    rename_i d hb
    simp only [Option.some.injEq] at ae
    obtain ⟨v,hr,hv⟩:=Md ah (x:=x) (y:=y) (ev t x) (ev t y) hb
    exact cj (by unfold execOp; simp only [ho,Sem.run_bind] at hr ⊢; rw [hr]; rfl) hv ae.symm
  | unOp op t x=>
    simp only [ho] at ae
    split at ae
    case h_2=>simp at ae
    rename_i d hb
    simp only [Option.some.injEq] at ae
    obtain ⟨v,hr,hv⟩:=Qu (P:=P) (ev o.type x) hb
    exact cj (by unfold execOp; simp only [ho,Sem.run_bind,hr,Result.andThen_ok,Sem.run_pure]) hv ae.symm
  | makeFunc fn first fQ=>
    cases fn with
    | func f=>
      simp only [ho] at ae
      split at ae
      case isFalse=>simp at ae
      rename_i hf
      simp only [Option.some.injEq] at ae
      have Hr:first=#[]:=Array.eq_empty_of_size_eq_zero hf.1
      subst Hr
      refine cj (v:=.func (.func f) #[] (fQ.map a.eval)) (by simp [execOp,ho,Instr.makeFunc]) ?_ ae.symm
      refine ⟨_,rfl,?_⟩
      refine cL (by simp) (fun i x y hx hy=>?_)
      have hs:single x=true:=List.all_eq_true.1 hf.2 x (List.mem_of_getElem? hx)
      simp only [Array.toList_map,List.getElem?_map] at hx hy
      cases hq:fQ.toList[i]? with
      | none=>simp [hq] at hx
      | some q=>
        simp only [hq,Option.map_some,Option.some.injEq] at hx hy
        subst hy
        have hv:=ev o.type q
        rw [hx] at hv
        cases x<;>first | exact hv | simp [single] at hs
    | _=>simp [ho] at ae
  | makeSlice t l cp=>
    simp only [ho] at ae
    split at ae
    case h_2=>simp at ae
    rename_i e sz nC z fB
    split at ae
    case h_2=>simp at ae
    rename_i ei kl li kc ci hZ hl hc
    split at ae
    case isFalse=>simp at ae
    rename_i h0
    split at ae
    case isFalse=>simp at ae
    rename_i w5
    split at ae
    case isFalse=>simp at ae
    rename_i hb
    have QR:=ev o.type l
    rw [hl] at QR
    have xj:=ev o.type cp
    rw [hc] at xj
    have QR:=fH QR
    have xj:=fH xj
    refine vq rfl ae (fun t' ht h1 h2 h3=>?_)
    obtain ⟨v,w',hr,hG,hS⟩:=Ha ah h fB rfl hZ (kl:=kl) (kc:=kc) h0 w5 hb h1 h2 h3
    exact ⟨v,w',by unfold execOp; simp only [ho,QR,xj,Sem.run_bind,hr,Result.andThen_ok,Sem.run_pure],.alloc hG (by simp [pV,ho]),hS⟩
  | convert src dst x=>
    simp only [ho] at ae
    split at ae
    · rename_i d hc
      simp only [Option.some.injEq] at ae
      obtain ⟨v,hr,hv⟩:=Hp ah h (ev src x) hc
      replace hr:=hr w (cY.refl w)
      exact cj (by unfold execOp; simp only [ho,Sem.run_bind,hr,Result.andThen_ok,Sem.run_pure]) hv ae.symm
    · rename_i d cs hc
      refine vq rfl ae (fun t' ht h1 h2 h3=>?_)
      obtain ⟨v,w',hr,hS⟩:=MG ah h (ev src x) hc h1 h2 h3
      exact ⟨v,w',by unfold execOp; simp only [ho,Sem.run_bind,hr,Result.andThen_ok,Sem.run_pure],⟨fun e=>by simp [pV,ho] at e,fun cc e=>by simp [ho] at e,fun t0 x0 y0 e=>by simp [ho] at e⟩,hS⟩
    · simp at ae
  | slice t x lo hi mx=>
    cases mx with
    | some _=>simp [ho] at ae
    | none=>
      simp only [ho] at ae
      split at ae
      case h_2=>simp at ae
      rename_i d hs
      simp only [Option.some.injEq] at ae
      have Ht:∀ y:Option Operand,D4 w (ab C w S Hx) S (y.map (bN c st o.type)) (y.map a.eval):=by
        intro y
        cases y with
        | none=>exact .inl ⟨rfl,rfl⟩
        | some y=>exact .inr ⟨_,_,rfl,rfl,ev o.type y⟩
      obtain ⟨v,hr,hv⟩:=G2 ah h.rt h.mem (ev t x) (Ht lo) (Ht hi) hs
      exact cj (by unfold execOp; simp only [ho,Option.map_none,Sem.run_bind,hr,Result.andThen_ok,Sem.run_pure]) hv ae.symm
  | fieldAddr s x f=>
    simp only [ho] at ae
    split at ae
    case h_2=>simp at ae
    rename_i j8 szs sz nC z fB
    split at ae
    case h_2=>simp at ae
    rename_i k hk
    split at ae
    case h_2=>simp at ae
    rename_i d hs
    simp only [Option.some.injEq] at ae
    obtain ⟨v,hr,hv⟩:=wQ ah h.rt h.mem fB hk (ev o.type x) hs
    exact cj (by unfold execOp; simp only [ho,Sem.run_bind,hr,Result.andThen_ok,Sem.run_pure]) hv ae.symm
  | indexAddr t x i=>
    simp only [ho] at ae
    split at ae
    case h_2=>simp at ae
    rename_i k i' hi
    split at ae
    case h_2=>simp at ae
    rename_i d hs
    simp only [Option.some.injEq] at ae
    have ot:=ev o.type i
    rw [hi] at ot
    have ot:=fH ot
    obtain ⟨v,hr,hv⟩:=wS ah h.rt h.mem (k:=k) (ev t x) hs
    exact cj (by unfold execOp; simp only [ho,ot,Sem.run_bind,hr,Result.andThen_ok,Sem.run_pure]) hv ae.symm
  | index t x i=>
    simp only [ho] at ae
    split at ae
    case h_2=>simp at ae
    rename_i k i' hi
    split at ae
    case h_2=>simp at ae
    rename_i d hs
    simp only [Option.some.injEq] at ae
    have ot:=ev o.type i
    rw [hi] at ot
    have ot:=fH ot
    obtain ⟨v,hr,hv⟩:=Ho ah (k:=k) (ev o.type x) hs
    exact cj (by unfold execOp; simp only [ho,ot,Sem.run_bind,hr,Result.andThen_ok,Sem.run_pure]) hv ae.symm
  | extract x i=>
    simp only [ho] at ae
    split at ae
    case h_2=>simp at ae
    rename_i vs hx
    split at ae
    case h_2=>simp at ae
    rename_i d hs
    simp only [Option.some.injEq] at ae
    have MM:=ev o.type x
    rw [hx] at MM
    obtain ⟨v,hr,hv⟩:=Bb (P:=P) MM hs
    exact cj (by unfold execOp; simp only [ho,Sem.run_bind,hr,Result.andThen_ok,Sem.run_pure]) hv ae.symm
  | call cc=>
    simp only [ho] at ae
    split at ae
    · simp at ae
    rename_i cr
    simp only [ne_eq,Decidable.not_not] at cr
    have tA:∀ {ds:List D},((cc.args.toList.zip cc.argTypes.toList).map fun p=>bN c st p.2 p.1)=ds→bC (bR w (ab C w S Hx) S) ds (cc.args.map a.eval).toList:=by
      intro ds Hu
      subst Hu
      refine cL (by simp [cr]) (fun i x y hx hy=>?_)
      simp only [Array.toList_map,List.getElem?_map] at hx hy
      cases hq:(cc.args.toList.zip cc.argTypes.toList)[i]? with
      | none=>simp [hq] at hx
      | some q=>
        simp only [hq,Option.map_some,Option.some.injEq] at hx
        rw [List.getElem?_zip_eq_some] at hq
        simp only [hq.1,Option.map_some,Option.some.injEq] at hy
        subst hx; subst hy
        exact ev q.2 q.1
    split at ae
    · rename_i f hf
      exact absurd hf (mz cc f ho)
    · rename_i hb
      split at ae
      case h_2=>simp at ae
      rename_i x t hx ht
      split at ae
      case h_2=>simp at ae
      rename_i d hl
      simp only [Option.some.injEq] at ae
      have ha:=tA hx
      have gn:cc.args.map a.eval=#[(cc.args.map a.eval).toList.headD undef]:=by
        cases dV:(cc.args.map a.eval).toList with
        | nil=>rw [dV] at ha; cases ha
        | cons y ys=>rw [dV] at ha; cases ha with
          | cons _ h2=>cases h2; rw [← Array.toArray_toList (xs:=cc.args.map a.eval),dV]; rfl
      have xq:cc.argTypes=#[t]:=by rw [← Array.toArray_toList (xs:=cc.argTypes),ht]
      have Hv:bR w (ab C w S Hx) S x ((cc.args.map a.eval).toList.headD undef):=by
        cases dV:(cc.args.map a.eval).toList with
        | nil=>rw [dV] at ha; cases ha
        | cons y ys=>rw [dV] at ha; cases ha with
          | cons h1 _=>exact h1
      obtain ⟨v,hr,hv⟩:=Mf ah h.rt h.mem Hv hl o.type
      exact cj (by unfold execOp; simp only [ho,resolve,hb,invoke,builtin,Sem.run_bind,Sem.run_pure,Result.andThen_ok]; rw [gn,xq,hr]; rfl) hv ae.symm
    · rename_i hb
      split at ae
      case h_2=>simp at ae
      rename_i k x k' y hx
      simp only [Option.some.injEq] at ae
      have ha:=tA hx
      have gn:cc.args.map a.eval=#[.int k x,.int k' y]:=by
        cases dV:(cc.args.map a.eval).toList with
        | nil=>rw [dV] at ha; cases ha
        | cons y ys=>rw [dV] at ha; cases ha with
          | cons h1 h2=>
            cases h2 with
            | cons h3 h4=>
              cases h4
              rw [← Array.toArray_toList (xs:=cc.args.map a.eval),dV,fH h1,fH h3]
      refine cj (v:=.int k (if y < x then y else x)) ?_ (Mc _ _) ae.symm
      unfold execOp
      simp only [ho,resolve,hb,invoke,builtin,Sem.run_bind,Sem.run_pure,Result.andThen_ok]
      rw [gn]
      simp [Builtin.min_,Builtin.min2]
    · rename_i hb
      split at ae
      case h_2=>simp at ae
      rename_i k x k' y hx
      simp only [Option.some.injEq] at ae
      have ha:=tA hx
      have gn:cc.args.map a.eval=#[.int k x,.int k' y]:=by
        cases dV:(cc.args.map a.eval).toList with
        | nil=>rw [dV] at ha; cases ha
        | cons y ys=>rw [dV] at ha; cases ha with
          | cons h1 h2=>
            cases h2 with
            | cons h3 h4=>
              cases h4
              rw [← Array.toArray_toList (xs:=cc.args.map a.eval),dV,fH h1,fH h3]
      refine cj (v:=.int k (if y>x then y else x)) ?_ (Mc _ _) ae.symm
      unfold execOp
      simp only [ho,resolve,hb,invoke,builtin,Sem.run_bind,Sem.run_pure,Result.andThen_ok]
      rw [gn]
      simp [Builtin.max_,Builtin.max2]
    · rename_i hb
      split at ae
      case h_2=>simp at ae
      rename_i s x t tx hx ht
      have ha:=tA hx
      obtain ⟨us,ux,gn,tw,Hv⟩:∃ us ux,cc.args.map a.eval=#[us,ux]∧bR w (ab C w S Hx) S s us∧bR w (ab C w S Hx) S x ux:=by
        cases dV:(cc.args.map a.eval).toList with
        | nil=>rw [dV] at ha; cases ha
        | cons y ys=>rw [dV] at ha; cases ha with
          | cons h1 h2=>
            cases h2 with
            | cons h3 h4=>
              cases h4
              exact ⟨_,_,by rw [← Array.toArray_toList (xs:=cc.args.map a.eval),dV],h1,h3⟩
      have xq:cc.argTypes=#[t,tx]:=by rw [← Array.toArray_toList (xs:=cc.argTypes),ht]
      obtain ⟨bK,dd,oV,Gz⟩:∃ bK:St,∃ cs:List D,bK.of=st.of∧bK.root o.dst cs (fun d=>.ref d [] 0 none)=some st':=MI ae
      obtain ⟨_,t',mP⟩:=rk Gz
      rw [mP] at ae
      obtain ⟨v,w',hr,hG,S',gB⟩:=MD ah h tw Hv (ty:=o.type) (fF t' mP).1 (fF t' mP).2 ae
      refine nn (v:=v) (w':=w') (by unfold execOp; simp only [ho,resolve,hb,invoke,builtin,Sem.run_bind,Sem.run_pure,Result.andThen_ok]; rw [gn,xq,hr]; rfl) (hK _ _ S' (by rw [mP]; exact gB) (cw a o.dst v).1 (cw a o.dst v).2 ((rk Gz).1.trans oV) ⟨fun e=>by simp [pV,ho] at e,fun _ _ _=>hG,fun t0 x0 y0 e=>by simp [ho] at e⟩)
    · simp at ae
  | _=>simp [ho] at ae
end
end Go.Proofs.Ytockoilcnmljiaa
namespace Go.Proofs.Ytockoilcnmljiaa
def Rd (o:Oper) (a:Act) (w w2:World):Prop:=
  match o.op with
  | .load _ x=>wP (a.eval x) w w2
  | _=>cY w w2
theorem cY.rd {w w2:World} (h:cY w w2) (o:Oper) (a:Act):Rd o a w w2:=by
  unfold Rd
  split
  · exact h.Y6 _
  · exact h
section
variable {P:Program} {c:bU} (ah:dG c P) {C:Ctx} {Hx:List T} {w:World} {st st':St} {o:Oper} {a:Act} {ay:List (Array Value)} {S:List (Nat × RT)}
  {cl:FuncId→List D→Option (D × List D)} {ci:FuncId→List D→Nat→St→Option (D × St)} {au:FuncId}
include ah
theorem Hw (h:Rel C Hx w st (a.tmps::ay) S) {b:Bool} (kh:my c o=some b) (ae:eC c cl ci au st o=some st'):
    ∃ v d,(∀ w2,(b=true∨Rd o a w w2)→(execOp a.eval o).run P w2=.ok (.value v) w2)∧bR w (ab C w S Hx) S d v∧st'=st.put o.dst d:=by
  have fh:ku w (ab C w S Hx) S st.tm a.tmps:=by cases h.mO with | cons a _=>exact a
  have ev:=fun t x=>tn (c:=c) fh t x
  have cj:∀ {d:D} {v:Value},(∀ w2,(b=true∨Rd o a w w2)→(execOp a.eval o).run P w2=.ok (.value v) w2)→bR w (ab C w S Hx) S d v→st'=st.put o.dst d→∃ v d,(∀ w2,(b=true∨Rd o a w w2)→(execOp a.eval o).run P w2=.ok (.value v) w2)∧bR w (ab C w S Hx) S d v∧st'=st.put o.dst d:=
    fun h1 h2 h3=>⟨_,_,h1,h2,h3⟩
  unfold eC at ae
  cases ho:o.op with
  | move x=>
    simp only [ho,Option.some.injEq] at ae
    exact cj (fun w2 _=>by unfold execOp; simp only [ho]; rfl) (ev o.type x) ae.symm
  | assign x=>
    simp only [ho,Option.some.injEq] at ae
    exact cj (fun w2 _=>by unfold execOp; simp only [ho]; rfl) (ev o.type x) ae.symm
  | pick b x y=>
    simp only [ho] at ae
    split at ae
    case h_2=>simp at ae
    rename_i t hb
    simp only [Option.some.injEq] at ae
    have Bt:=ev o.type b
    rw [hb] at Bt
    have Bt:a.eval b=.bool t:=Bt
    refine cj (v:=if t then a.eval x else a.eval y) (d:=if t then bN c st o.type x else bN c st o.type y) ?_ ?_ ae.symm
    · intro w2 _
      unfold execOp
      simp only [ho,Bt,asBool,Sem.run_bind,Sem.run_pure,Result.andThen_ok]
    · cases t
      · exact ev o.type y
      · exact ev o.type x
  | alloc e=>simp [my,ho] at kh
  | box e x=>simp [my,ho] at kh
  | build t ps=>
    simp only [ho] at ae
    split at ae
    · rename_i j8 szs sz nC z fB
      split at ae
      case h_2=>simp at ae
      rename_i cs hf
      simp only [Option.some.injEq] at ae
      obtain ⟨v,hr,hv⟩:=w6 ah h fB hf
      exact cj (fun w2 _=>by unfold execOp; simp only [ho,Sem.run_bind,hr,Result.andThen_ok,Sem.run_pure]) hv ae.symm
    · rename_i n e sz nC z fB
      split at ae
      case h_2=>simp at ae
      rename_i ei hZ
      split at ae
      case h_2=>simp at ae
      rename_i cs hf
      simp only [Option.some.injEq] at ae
      obtain ⟨v,hr,hv⟩:=zq ah h fB hZ hf
      exact cj (fun w2 _=>by unfold execOp; simp only [ho,Sem.run_bind,hr,Result.andThen_ok,Sem.run_pure]) hv ae.symm
    · simp at ae
  | buildSlice t n ps=>simp [my,ho] at kh
  | load t x=>
    simp only [ho] at ae
    split at ae
    case h_2=>simp at ae
    rename_i i hi
    split at ae
    case h_2=>simp at ae
    rename_i d hl
    simp only [Option.some.injEq] at ae
    obtain ⟨v,hr,hv⟩:=CA ah h.rt h.mem hi (ev o.type x) hl
    exact cj (fun w2 mQ=>by have hr:=hr w2 (by have h9:=mQ.resolve_left (by simp only [my,ho,Option.some.injEq] at kh; rw [← kh]; simp); simpa only [Rd,ho] using h9); unfold execOp; simp only [ho,Sem.run_bind,hr,Result.andThen_ok,Sem.run_pure]) hv ae.symm
  | store t x y=>simp [my,ho] at kh
  | nilCheck x=>
    simp only [ho] at ae
    have hx:=ev o.type x
    have hd:∃ A,a.eval x=.pointer (some A)∧st'=st.put o.dst (bN c st o.type x):=by
      split at ae
      · rename_i r q i heq
        split at ae
        · rename_i hl
          simp only [Option.some.injEq] at ae
          rw [heq] at hx
          obtain ⟨A,hA,_⟩:=pJ h.rt h.mem hx (by simp only [hl,if_true]; rfl)
          exact ⟨A,hA,by rw [heq]; exact ae.symm⟩
        · simp at ae
      · rename_i cs i heq
        simp only [Option.some.injEq] at ae
        rw [heq] at hx
        obtain ⟨A,hA,_⟩:=pJ h.rt h.mem hx rfl
        exact ⟨A,hA,by rw [heq]; exact ae.symm⟩
      · simp at ae
    obtain ⟨A,hA,bV⟩:=hd
    refine cj (v:=a.eval x) ?_ hx bV
    intro w2 _
    unfold execOp
    simp only [ho,hA]
    rfl
  | binOp op t x y z=>
    simp only [ho] at ae
    split at ae
    case h_2=>simp at ae
    rename_i d hb
    simp only [Option.some.injEq] at ae
    obtain ⟨v,hr,hv⟩:=Md ah (x:=x) (y:=y) (ev t x) (ev t y) hb
    exact cj (fun w2 _=>by unfold execOp; simp only [ho,Sem.run_bind] at hr ⊢; rw [hr]; rfl) hv ae.symm
  | unOp op t x=>
    simp only [ho] at ae
    split at ae
    case h_2=>simp at ae
    rename_i d hb
    simp only [Option.some.injEq] at ae
    obtain ⟨v,hr,hv⟩:=Qu (P:=P) (ev o.type x) hb
    exact cj (fun w2 _=>by unfold execOp; simp only [ho,Sem.run_bind,hr,Result.andThen_ok,Sem.run_pure]) hv ae.symm
  | makeFunc fn first fQ=>
    cases fn with
    | func f=>
      simp only [ho] at ae
      split at ae
      case isFalse=>simp at ae
      rename_i hf
      simp only [Option.some.injEq] at ae
      have Hr:first=#[]:=Array.eq_empty_of_size_eq_zero hf.1
      subst Hr
      refine cj (v:=.func (.func f) #[] (fQ.map a.eval)) (by simp [execOp,ho,Instr.makeFunc]) ?_ ae.symm
      refine ⟨_,rfl,?_⟩
      refine cL (by simp) (fun i x y hx hy=>?_)
      have hs:single x=true:=List.all_eq_true.1 hf.2 x (List.mem_of_getElem? hx)
      simp only [Array.toList_map,List.getElem?_map] at hx hy
      cases hq:fQ.toList[i]? with
      | none=>simp [hq] at hx
      | some q=>
        simp only [hq,Option.map_some,Option.some.injEq] at hx hy
        subst hy
        have hv:=ev o.type q
        rw [hx] at hv
        cases x<;>first | exact hv | simp [single] at hs
    | _=>simp [ho] at ae
  | makeSlice t l cp=>simp [my,ho] at kh
  | convert src dst x=>
    simp only [ho] at ae
    split at ae
    · rename_i d hc
      simp only [Option.some.injEq] at ae
      obtain ⟨v,hr,hv⟩:=Hp ah h (ev src x) hc
      exact cj (fun w2 mQ=>by have hr:=hr w2 (by have h9:=mQ.resolve_left (by simp only [my,ho] at kh; split at kh<;>simp at kh; rw [kh]; simp); simpa only [Rd,ho] using h9); unfold execOp; simp only [ho,Sem.run_bind,hr,Result.andThen_ok,Sem.run_pure]) hv ae.symm
    · rename_i d cs hc
      exfalso
      simp only [my,ho] at kh
      unfold tj at hc
      split at hc
      case h_2=>simp at hc
      rename_i si di QQ ME
      rw [ME] at kh
      split at hc
      · simp at hc
      · simp at hc
      · simp at hc
      · split at hc
        · split at hc
          · split at hc
            · split at hc<;>simp at hc
            · simp at hc
          · simp at hc
        · simp at hc
      · rename_i QS hk vY
        obtain ⟨ty,a1,a2,a3⟩:=di
        simp only at QS
        subst QS
        simp at kh
      · simp at hc
    · simp at ae
  | slice t x lo hi mx=>
    cases mx with
    | some _=>simp [ho] at ae
    | none=>
      simp only [ho] at ae
      split at ae
      case h_2=>simp at ae
      rename_i d hs
      simp only [Option.some.injEq] at ae
      have Ht:∀ y:Option Operand,D4 w (ab C w S Hx) S (y.map (bN c st o.type)) (y.map a.eval):=by
        intro y
        cases y with
        | none=>exact .inl ⟨rfl,rfl⟩
        | some y=>exact .inr ⟨_,_,rfl,rfl,ev o.type y⟩
      obtain ⟨v,hr,hv⟩:=G2 ah h.rt h.mem (ev t x) (Ht lo) (Ht hi) hs
      exact cj (fun w2 _=>by unfold execOp; simp only [ho,Option.map_none,Sem.run_bind,hr,Result.andThen_ok,Sem.run_pure]) hv ae.symm
  | fieldAddr s x f=>
    simp only [ho] at ae
    split at ae
    case h_2=>simp at ae
    rename_i j8 szs sz nC z fB
    split at ae
    case h_2=>simp at ae
    rename_i k hk
    split at ae
    case h_2=>simp at ae
    rename_i d hs
    simp only [Option.some.injEq] at ae
    obtain ⟨v,hr,hv⟩:=wQ ah h.rt h.mem fB hk (ev o.type x) hs
    exact cj (fun w2 _=>by unfold execOp; simp only [ho,Sem.run_bind,hr,Result.andThen_ok,Sem.run_pure]) hv ae.symm
  | indexAddr t x i=>
    simp only [ho] at ae
    split at ae
    case h_2=>simp at ae
    rename_i k i' hi
    split at ae
    case h_2=>simp at ae
    rename_i d hs
    simp only [Option.some.injEq] at ae
    have ot:=ev o.type i
    rw [hi] at ot
    have ot:=fH ot
    obtain ⟨v,hr,hv⟩:=wS ah h.rt h.mem (k:=k) (ev t x) hs
    exact cj (fun w2 _=>by unfold execOp; simp only [ho,ot,Sem.run_bind,hr,Result.andThen_ok,Sem.run_pure]) hv ae.symm
  | index t x i=>
    simp only [ho] at ae
    split at ae
    case h_2=>simp at ae
    rename_i k i' hi
    split at ae
    case h_2=>simp at ae
    rename_i d hs
    simp only [Option.some.injEq] at ae
    have ot:=ev o.type i
    rw [hi] at ot
    have ot:=fH ot
    obtain ⟨v,hr,hv⟩:=Ho ah (k:=k) (ev o.type x) hs
    exact cj (fun w2 _=>by unfold execOp; simp only [ho,ot,Sem.run_bind,hr,Result.andThen_ok,Sem.run_pure]) hv ae.symm
  | extract x i=>
    simp only [ho] at ae
    split at ae
    case h_2=>simp at ae
    rename_i vs hx
    split at ae
    case h_2=>simp at ae
    rename_i d hs
    simp only [Option.some.injEq] at ae
    have MM:=ev o.type x
    rw [hx] at MM
    obtain ⟨v,hr,hv⟩:=Bb (P:=P) MM hs
    exact cj (fun w2 _=>by unfold execOp; simp only [ho,Sem.run_bind,hr,Result.andThen_ok,Sem.run_pure]) hv ae.symm
  | call cc=>
    simp only [ho] at ae
    split at ae
    · simp at ae
    rename_i cr
    simp only [ne_eq,Decidable.not_not] at cr
    have tA:∀ {ds:List D},((cc.args.toList.zip cc.argTypes.toList).map fun p=>bN c st p.2 p.1)=ds→bC (bR w (ab C w S Hx) S) ds (cc.args.map a.eval).toList:=by
      intro ds Hu
      subst Hu
      refine cL (by simp [cr]) (fun i x y hx hy=>?_)
      simp only [Array.toList_map,List.getElem?_map] at hx hy
      cases hq:(cc.args.toList.zip cc.argTypes.toList)[i]? with
      | none=>simp [hq] at hx
      | some q=>
        simp only [hq,Option.map_some,Option.some.injEq] at hx
        rw [List.getElem?_zip_eq_some] at hq
        simp only [hq.1,Option.map_some,Option.some.injEq] at hy
        subst hx; subst hy
        exact ev q.2 q.1
    split at ae
    · rename_i f hf
      simp [my,ho,hf] at kh
    · rename_i hb
      split at ae
      case h_2=>simp at ae
      rename_i x t hx ht
      split at ae
      case h_2=>simp at ae
      rename_i d hl
      simp only [Option.some.injEq] at ae
      have ha:=tA hx
      have gn:cc.args.map a.eval=#[(cc.args.map a.eval).toList.headD undef]:=by
        cases dV:(cc.args.map a.eval).toList with
        | nil=>rw [dV] at ha; cases ha
        | cons y ys=>rw [dV] at ha; cases ha with
          | cons _ h2=>cases h2; rw [← Array.toArray_toList (xs:=cc.args.map a.eval),dV]; rfl
      have xq:cc.argTypes=#[t]:=by rw [← Array.toArray_toList (xs:=cc.argTypes),ht]
      have Hv:bR w (ab C w S Hx) S x ((cc.args.map a.eval).toList.headD undef):=by
        cases dV:(cc.args.map a.eval).toList with
        | nil=>rw [dV] at ha; cases ha
        | cons y ys=>rw [dV] at ha; cases ha with
          | cons h1 _=>exact h1
      obtain ⟨v,hr,hv⟩:=Mf ah h.rt h.mem Hv hl o.type
      exact cj (fun w2 _=>by unfold execOp; simp only [ho,resolve,hb,invoke,builtin,Sem.run_bind,Sem.run_pure,Result.andThen_ok]; rw [gn,xq,hr]; rfl) hv ae.symm
    · rename_i hb
      split at ae
      case h_2=>simp at ae
      rename_i k x k' y hx
      simp only [Option.some.injEq] at ae
      have ha:=tA hx
      have gn:cc.args.map a.eval=#[.int k x,.int k' y]:=by
        cases dV:(cc.args.map a.eval).toList with
        | nil=>rw [dV] at ha; cases ha
        | cons y ys=>rw [dV] at ha; cases ha with
          | cons h1 h2=>
            cases h2 with
            | cons h3 h4=>
              cases h4
              rw [← Array.toArray_toList (xs:=cc.args.map a.eval),dV,fH h1,fH h3]
      refine cj (v:=.int k (if y < x then y else x)) ?_ (Mc _ _) ae.symm
      intro w2 _
      unfold execOp
      simp only [ho,resolve,hb,invoke,builtin,Sem.run_bind,Sem.run_pure,Result.andThen_ok]
      rw [gn]
      simp [Builtin.min_,Builtin.min2]
    · rename_i hb
      split at ae
      case h_2=>simp at ae
      rename_i k x k' y hx
      simp only [Option.some.injEq] at ae
      have ha:=tA hx
      have gn:cc.args.map a.eval=#[.int k x,.int k' y]:=by
        cases dV:(cc.args.map a.eval).toList with
        | nil=>rw [dV] at ha; cases ha
        | cons y ys=>rw [dV] at ha; cases ha with
          | cons h1 h2=>
            cases h2 with
            | cons h3 h4=>
              cases h4
              rw [← Array.toArray_toList (xs:=cc.args.map a.eval),dV,fH h1,fH h3]
      refine cj (v:=.int k (if y>x then y else x)) ?_ (Mc _ _) ae.symm
      intro w2 _
      unfold execOp
      simp only [ho,resolve,hb,invoke,builtin,Sem.run_bind,Sem.run_pure,Result.andThen_ok]
      rw [gn]
      simp [Builtin.max_,Builtin.max2]
    · rename_i hb
      simp [my,ho,hb] at kh
    · simp at ae
  | _=>simp [ho] at ae
end
end Go.Proofs.Ytockoilcnmljiaa
namespace Go.Proofs.Ytockoilcnmljiaa
mutual
theorem rl {w:World} {X X':Bool→Nat→Prop} (h:∀ b k,X b k→X' b k):∀ (d:D) (u:Value),Ext w X d u→Ext w X' d u
  | d,u,hu=>fE (fun b k hk=>⟨h b k hk,rfl⟩) d u hu
end
theorem fc {w:World} {X X':Bool→Nat→Prop} (h:∀ b k,X b k→X' b k) (ts:List T) (hs:aU w X ts):aU w X' ts:=
  fG (fun b k hk=>⟨h b k hk,rfl⟩) ts hs (fun _ _=>rfl)
theorem lP {w w':World} {X X':Bool→Nat→Prop} (bV:il w w' X X') {S:List (Nat × RT)} {d:D} {u:Value} (h:aN w X S d u):aN w' X' S d u:=by
  have he:∀ d u,Ext w X d u→Ext w' X' d u:=fE bV
  cases d with
  | ref r q o x=>exact h
  | ptr r q o=>exact h
  | cZ cs o=>
    obtain ⟨b,off,c,e,fz,us,h1,h2,h3,h4,h5⟩:=h
    exact ⟨b,off,c,e,fz,us,h1,(bV true b h2).1,by rw [(bV true b h2).2]; exact h3,pW bV cs us h4,h5⟩
  | _=>exact he _ _ h
theorem MN {w w':World} {X X':Bool→Nat→Prop} (bV:il w w' X X') {S:List (Nat × RT)} {d:D} {u:Value} (h:fN w X S d u):fN w' X' S d u:=by
  rcases pZ h with ⟨cs,us,rfl,rfl,h1⟩ | ⟨f,cs,us,rfl,rfl,h1⟩ | ⟨_,_,h1⟩
  · exact ⟨us,rfl,h1.mono (fun _ _=>lP bV)⟩
  · exact ⟨us,rfl,h1.mono (fun _ _=>lP bV)⟩
  · exact dF (lP bV h1)
theorem RJ {ts:List T} {k:Nat}:k∈ad ts↔∃ t∈ts,k∈t.ft:=by
  rw [lK]
  simp only [List.mem_flatten,List.mem_map]
  constructor
  · rintro ⟨l,⟨t,h1,rfl⟩,h2⟩
    exact ⟨t,h1,h2⟩
  · rintro ⟨t,h1,h2⟩
    exact ⟨_,⟨t,h1,rfl⟩,h2⟩
theorem ki {S:List (Nat × RT)} {r:Nat} {R:RT} (h:lk S r=some R) {k:Nat} (hk:k∈R.ft):k∈cf S:=by
  obtain ⟨A,B,h1,_⟩:=ka h
  rw [h1]; simp [hk]
theorem vr {S:List (Nat × RT)} (hn:(cf S).Nodup) {r r':Nat} {R R':RT} {b:Nat} (h:lk S r=some R) (hb:R.box=some b) (h':lk S r'=some R') (hk:b∈R'.ft):r'=r:=by
  by_cases he:r'=r
  · exact he
  obtain ⟨A,B,h1,h2⟩:=ka h
  have h3:lk (pt S r ⟨none,[]⟩) r'=some R':=by rw [cU _ _ he]; exact h'
  have h4:=ki h3 hk
  rw [h2] at h4
  rw [h1] at hn
  have QG:b∈R.ft:=by simp [RT.ft,hb]
  simp only [RT.ft,Option.toList,ad,List.append_nil,List.mem_append] at h4
  rw [List.nodup_append,List.nodup_append] at hn
  rcases h4 with h4 | h4
  · exact absurd rfl (hn.1.2.2 b h4 b QG)
  · exact absurd rfl (hn.2.2 b (by simp [QG]) b h4)
section
variable {C:Ctx} {w w':World} {st:St} {ay:List (Array Value)} {S:List (Nat × RT)} {Hs H Os:List T} {bxs:List Nat}
theorem Ai (h:Rel C (Hs++H) w st ay S) (rN:∀ b∈bxs,∃ r R,lk S r=some R∧R.box=some b∧R.cs=[])
    (cr:w.heap.size≤w'.heap.size) (hold:∀ k,k < w.heap.size→k∉ad Hs→k∉bxs→w'.heap[k]?=w.heap[k]?) (lv:w'.os=w.os) (qY:w'.tape=w.tape) (rM:w'.output=w.output)
    (hO:aU w' (fun b k=>k < w'.heap.size∧k∉ad Os∧k∉bxs∧(ab C w S (Hs++H) b k∨k∈ad Hs∨w.heap.size≤k)) Os)
    (eG:(ad Os).Nodup) (adt:∀ k∈ad Os,k∉bxs) (ea:∀ k∈ad Os,k < w'.heap.size∧(k∈ad Hs∨w.heap.size≤k)) (ef:∀ b∈bxs,jU w' b 0 0 []):
    Rel C (Os++H) w' st ay S∧gl C w w' S S (Hs++H) (Os++H) id:=by
  have zk:∀ b∈bxs,b∈cf S:=fun b hb=>by
    obtain ⟨r,R,h1,h2,_⟩:=rN b hb
    exact ki h1 (by simp [RT.ft,h2])
  have TM:=h.mem.nd
  rw [List.nodup_append,aK,List.nodup_append] at TM
  obtain ⟨nS,⟨nHs,nH,dHs⟩,dS⟩:=TM
  have cJ:=h.mem.lt
  have MO:∀ k∈cf S,k < w.heap.size:=fun k hk=>cJ k (List.mem_append.2 (.inl hk))
  have QT:∀ k∈ad H,k < w.heap.size:=fun k hk=>cJ k (by simp [aK,hk])
  have QU:∀ k∈cf S,k∉ad Hs:=fun k hk h2=>dS k hk k (by simp [h2]) rfl
  have SH:∀ k∈cf S,k∉ad H:=fun k hk h2=>dS k hk k (by simp [h2]) rfl
  have TN:∀ k∈ad H,k∉ad Hs:=fun k hk h2=>dHs k h2 k hk rfl
  have OS:∀ k∈ad Os,k∉cf S:=fun k hk h2=>by
    rcases (ea k hk).2 with h3 | h3
    · exact QU k h2 h3
    · have:=MO k h2; omega
  have OH:∀ k∈ad Os,k∉ad H:=fun k hk h2=>by
    rcases (ea k hk).2 with h3 | h3
    · exact TN k h2 h3
    · have:=QT k h2; omega
  have bV:il w w' (ab C w S (Hs++H)) (ab C w' S (Os++H)):=by
    intro b k hk
    obtain ⟨k1,k2,k3,k4⟩:=hk
    rw [aK,List.mem_append,not_or] at k3
    refine ⟨⟨by omega,k2,?_,k4⟩,hold k k1 k3.1 (fun hb=>k2 (zk k hb))⟩
    rw [aK,List.mem_append,not_or]
    refine ⟨fun hk=>?_,k3.2⟩
    rcases (ea k hk).2 with h3 | h3
    · exact k3.1 h3
    · omega
  have QI:gl C w w' S S (Hs++H) (Os++H) id:=fun d u hd=>lP bV hd
  have tB:∀ b k,(k < w'.heap.size∧k∉ad Os∧k∉bxs∧(ab C w S (Hs++H) b k∨k∈ad Hs∨w.heap.size≤k))→ab C w' S (Os++H) b k:=by
    rintro b k ⟨k1,k2,k3,k4⟩
    have hFA:k∈ad Hs→k∈C.FA∨C.w0.heap.size≤k:=fun hk=>h.kept.gJ k (by simp [aK,hk])
    refine ⟨k1,?_,?_,?_⟩
    · rcases k4 with k4 | k4 | k4
      · exact k4.2.1
      · exact fun h2=>QU k h2 k4
      · exact fun h2=>by have:=MO k h2; omega
    · rw [aK,List.mem_append,not_or]
      refine ⟨k2,?_⟩
      rcases k4 with k4 | k4 | k4
      · have:=k4.2.2.1
        rw [aK,List.mem_append,not_or] at this
        exact this.2
      · exact fun h2=>TN k h2 k4
      · exact fun h2=>by have:=QT k h2; omega
    · intro hb
      rcases k4 with k4 | k4 | k4
      · exact k4.2.2.2 hb
      · exact .inr (hFA k4)
      · exact .inr (.inr (Nat.le_trans h.kept.size k4))
  refine ⟨⟨h.rt,⟨?_,?_,?_,?_⟩,?_,?_⟩,QI⟩
  · rw [List.nodup_append,aK,List.nodup_append]
    refine ⟨nS,⟨eG,nH,fun a ha b hb e=>OH a ha (e▸hb)⟩,fun a ha b hb e=>?_⟩
    subst e
    rcases List.mem_append.1 hb with hb | hb
    · exact OS a hb ha
    · exact SH a ha hb
  · intro r R hr
    obtain ⟨h1,h2⟩:=h.mem.root r R hr
    have hb:∀ b∈bxs,b∈R.ft→R.box=some b∧R.cs=[]:=by
      intro b hb hR
      obtain ⟨r',R',e1,e2,e3⟩:=rN b hb
      have:=vr nS e1 e2 hr hR
      subst this
      rw [e1,Option.some.injEq] at hr
      subst hr
      exact ⟨e2,e3⟩
    refine ⟨?_,fun t ht=>?_⟩
    · cases hx:R.box with
      | none=>trivial
      | some b=>
        rw [hx] at h1
        by_cases qc:b∈bxs
        · have:=(hb b qc (by simp [RT.ft,hx])).2
          rw [this]
          exact ef b qc
        · have TO:=ki hr (show b∈R.ft by simp [RT.ft,hx])
          obtain ⟨c,e,fz,g1,g2⟩:=h1
          exact ⟨c,e,fz,by rw [hold b (MO b TO) (QU b TO) qc]; exact g1,g2⟩
    · have h3:=h2 t ht
      cases t with
      | v d u=>
        rcases h3 with h3 | ⟨e,h3⟩
        · exact .inl (fE bV _ _ h3)
        · exact .inr ⟨e,lP bV h3⟩
      | own s n cap a cs=>
        refine c9 bV _ h3 (fun k hk=>?_)
        have XX:k∈R.ft:=by simp only [RT.ft,List.mem_append]; exact .inr (RJ.2 ⟨_,ht,hk⟩)
        have Eg:=ki hr XX
        refine hold k (MO k Eg) (QU k Eg) (fun qc=>?_)
        have:=(hb k qc XX).2
        rw [this] at ht
        simp at ht
  · rw [da]
    refine ⟨fc tB _ hO,?_⟩
    have hH:=((da _ _).1 h.mem.hand).2
    exact fG bV _ hH (fun k hk=>hold k (QT k hk) (TN k hk) (fun hb=>SH k (zk k hb) hk))
  · intro k hk
    rcases List.mem_append.1 hk with hk | hk
    · have:=MO k hk; omega
    · rw [aK] at hk
      rcases List.mem_append.1 hk with hk | hk
      · exact (ea k hk).1
      · have:=QT k hk; omega
  · exact h.mO.mono (fun _ _ ht=>tS QI ht)
  · have hk:=h.kept
    refine ⟨lv.trans hk.os,qY.trans hk.tape,rM.trans hk.output,Nat.le_trans hk.size cr,fun k h1 h2=>?_,fun k h1=>?_,hk.par⟩
    · have h3:k∉cf S++ad (Hs++H):=fun h3=>by
        rcases hk.gJ k h3 with h4 | h4
        · exact h2 h4
        · omega
      simp only [aK,List.mem_append,not_or] at h3
      rw [hold k (Nat.lt_of_lt_of_le h1 hk.size) h3.2.1 (fun hb=>h3.1 (zk k hb))]
      exact hk.block k h1 h2
    · rcases List.mem_append.1 h1 with h1 | h1
      · exact hk.gJ k (by simp [h1])
      · rw [aK] at h1
        rcases List.mem_append.1 h1 with h1 | h1
        · rcases (ea k h1).2 with h2 | h2
          · exact hk.gJ k (by simp [aK,h2])
          · exact .inr (Nat.le_trans hk.size h2)
        · exact hk.gJ k (by simp [aK,h1])
end
end Go.Proofs.Ytockoilcnmljiaa
namespace Go.Proofs.Ytockoilcnmljiaa
def lq (S S':List (Nat × RT)):Prop:=∀ r R,lk S r=some R→∃ R',lk S' r=some R'∧R'.box=R.box
theorem lq.refl (S:List (Nat × RT)):lq S S:=fun _ R h=>⟨R,h,rfl⟩
theorem lq.trans {S S' vX:List (Nat × RT)} (h:lq S S') (h':lq S' vX):lq S vX:=fun r R hr=>by
  obtain ⟨R1,h1,h2⟩:=h r R hr
  obtain ⟨R2,h4,h5⟩:=h' r R1 h1
  exact ⟨R2,h4,h5.trans h2⟩
theorem nF.b {S S':List (Nat × RT)} (h:nF S S'):lq S S':=fun r R hr=>by
  obtain ⟨R1,h1,h2,_⟩:=h.fwd r R hr
  exact ⟨R1,h1,h2⟩
theorem J1 (g:D→D) (S:List (Nat × RT)):lq S (fS g S):=fun r R hr=>⟨⟨R.box,R.cs.map (fT g)⟩,by rw [jY,hr]; rfl,rfl⟩
theorem Aj {S:List (Nat × RT)} {r:Nat} {q:List Nat} {o:Nat} {t:T} (h:bT S r q o=some t):∃ R l,lk S r=some R∧ao R.cs q=some l∧l[o]?=some t:=by
  unfold bT at h
  cases hr:lk S r with
  | none=>simp [hr] at h
  | some R=>
    simp only [hr] at h
    cases hl:ao R.cs q with
    | none=>simp [hl] at h
    | some l=>simp only [hl] at h; exact ⟨R,l,rfl,hl,h⟩
section
variable {C:Ctx} {H:List T} {w:World} {st st':St} {ay:List (Array Value)} {S:List (Nat × RT)}
theorem Hy {t' t0:T} (h:Rel C (t'::H) w st ay S) {r:Nat} {q:List Nat} {o:Nat} {ex:Bool} (hc0:bT S r q o=some t0) (jo:∃ d0 u0,t0=.v d0 u0∧(ex=false→eB (bS r q o ex) (aZ d0)=aZ d0)) (hl:jR t0 t'∨(ex=true∧t'.val=t0.val))
    (hC:(st.ej (bS r q o ex)).gw r q o t'.er=some st'):
    ∃ S',Rel C H w st' ay S'∧gl C w w S S' (t'::H) H (bS r q o ex)∧st'.of=st.of∧lq S S'∧bT S' r q o=some t'∧
      ∀ r' q' o' d0 u,(sn d0).isSome=true→aZ d0=d0→bT S r' q' o'=some (.v d0 u)→(r'≠r∨under (q++[o]) (q'++[o'])=none)→bT S' r' q' o'=some (.v d0 u):=by
  obtain ⟨d0,u0,rfl,Tr⟩:=jo
  have hv:t'.val=(T.v d0 u0).val:=by
    rcases hl with hl | hl
    · exact hl.1
    · exact hl.2
  obtain ⟨R,l,hR,hl0,ho⟩:=Aj hc0
  have hg:=kF r q o ex
  have Br:=vj r q o ex
  have OL:gj (st.ej (bS r q o ex)).rt (fS (bS r q o ex) S):=by
    exact np hg h.rt
  obtain ⟨R1,l1,t1,e1,e2,e3,e4,e5,e6,e7,e8⟩:=QJ (g:=bS r q o ex) hR hl0 ho
  have w8:t1=.v (eB (bS r q o ex) (aZ d0)) u0∨t1=.v d0 u0:=by
    rcases e5 with rfl | ⟨_,rfl⟩
    · exact .inr rfl
    · exact .inl rfl
  have OR:t1.val=u0:=by rcases w8 with rfl | rfl<;>rfl
  have Zk:t1.ft=[]:=by rcases w8 with rfl | rfl<;>rfl
  have Zl:ex=false→sn t1.er=sn (aZ d0):=fun e=>by
    rcases w8 with rfl | rfl
    · rw [Tr e]; simp [T.er,zj]
    · simp [T.er]
  obtain ⟨S',hc,K4,K5,K6,Ah⟩:=Ab (t':=t') OL e1 e3 e4 hC
  obtain ⟨A,B,f1,f2⟩:=hc.Tk
  rw [qX] at f1
  rw [Zk,List.append_nil] at f1
  have pk:∀ k,k∈cf S'++ad H↔k∈cf S++ad (t'::H):=by
    intro k
    rw [f1,f2]
    simp only [ad,List.mem_append]
    constructor
    · rintro (((h | h) | h) | h)
      · exact .inl (.inl h)
      · exact .inr (.inl h)
      · exact .inl (.inr h)
      · exact .inr (.inr h)
    · rintro ((h | h) | (h | h))
      · exact .inl (.inl (.inl h))
      · exact .inl (.inr h)
      · exact .inl (.inl (.inr h))
      · exact .inr h
  have eG:(cf S'++ad H).Nodup:=by
    have h0:=h.mem.nd
    rw [f1] at h0
    rw [f2]
    refine (List.Perm.nodup_iff ?_).1 h0
    refine List.perm_iff_count.2 fun a=>?_
    simp only [ad,List.count_append]
    omega
  have hX:∀ b k,ab C w S (t'::H) b k→ab C w S' H b k:=iC (fun k hk=>(pk k).1 hk)
  have bV:il w w (ab C w S (t'::H)) (ab C w S' H):=fun b k hk=>⟨hX b k hk,rfl⟩
  have We:ex=false→jR t1 t':=fun e=>by
    rcases hl with hl | hl
    · exact ⟨by rw [OR]; exact hl.1,fun p hp=>by rw [Zl e]; exact hl.2 p hp⟩
    · exact absurd (hl.1.symm.trans e) (by simp)
  have dq:∀ d u,aN w (ab C w S (t'::H)) S d u→aN w (ab C w S' H) S' (bS r q o ex d) u:=
    fun d u hd=>vg bV hc We (oc hg hd)
  have cP:=h.mem.hand
  simp only [aU] at cP
  have cF:Mem C w S' H:=JT h.mem (g:=eB (bS r q o ex)) (KU hg S) hc (by rw [hv,OR]; rfl)
    (.inl (c9 bV _ cP.1 (fun _ _=>rfl))) eG (fun k hk=>(pk k).1 hk) (fc hX _ cP.2)
    (fun d u hd=>by rw [ri hd]; exact dq d u hd) (fun d u hd=>pg hg Br (rl hX _ _ hd))
  refine ⟨S',?_,dq,Ah,?_,hc.z8,fun r' q' o' d1 u1 h3 h4 h1 h2=>?_⟩
  · refine h.step (f:=bS r q o ex) K4 K5 K6 dq cF (vi h.kept (fun k hk=>(pk k).1 hk) (fun r' R' dN=>?_))
    obtain ⟨R2,g1,g2,g3⟩:=hc.par (by rw [hv,OR]; rfl) dN
    rw [jY] at g1
    cases hx:lk S r' with
    | none=>simp [hx] at g1
    | some R0=>
      simp only [hx,Option.map_some,Option.some.injEq] at g1
      subst g1
      refine ⟨R0,rfl,g2,g3.trans ?_⟩
      simp only [cu,List.map_map]
      congr 1
      funext t
      cases t<;>rfl
  · refine lq.trans (S':=fS (bS r q o ex) S) (J1 _ S) (fun r' R' dN=>?_)
    obtain ⟨R2,g1,g2,_⟩:=hc.D8 dN
    exact ⟨R2,g1,g2⟩
  · refine hc.He h2 ?_
    rw [yE h1]
    split
    · simp only [fT,h4]
      cases d1<;>first | (simp [sn] at h3; done) | simp [eB,hg.hole,hg.sl]
    · rfl
theorem OT {ts:List T} (h:Rel C (ts++H) w st ay S) {r b:Nat} (h0:lk S r=some ⟨some b,[]⟩) (ef:jU w b 0 ts.length (av ts)):
    Rel C H w { st.ej (dL r) with rt:=pz (st.ej (dL r)).rt r (aL ts) } ay (pt (fS (dL r) S) r ⟨some b,ts⟩)∧gl C w w S (pt (fS (dL r) S) r ⟨some b,ts⟩) (ts++H) H (dL r)∧lq S (pt (fS (dL r) S) r ⟨some b,ts⟩):=by
  have hg:=KV r
  have Br:=KX r
  have h1:lk (fS (dL r) S) r=some ⟨some b,[]⟩:=by rw [jY,h0]; rfl
  obtain ⟨A,B,f1,f2⟩:=ka h1
  rw [qX] at f1
  have f3:=f2 ⟨some b,ts⟩
  simp only [RT.ft,Option.toList,ad,List.append_nil] at f1
  simp only [RT.ft,Option.toList] at f3
  have pk:∀ k,k∈cf (pt (fS (dL r) S) r ⟨some b,ts⟩)++ad H↔k∈cf S++ad (ts++H):=by
    intro k
    rw [f1,f3,aK]
    simp only [List.mem_append,List.mem_singleton]
    constructor
    · rintro (((h | (h | h)) | h) | h)<;>simp [h]
    · rintro (((h | h) | h) | (h | h))<;>simp [h]
  have eG:(cf (pt (fS (dL r) S) r ⟨some b,ts⟩)++ad H).Nodup:=by
    have h0:=h.mem.nd
    rw [f1] at h0
    rw [f3]
    refine (List.Perm.nodup_iff ?_).1 h0
    refine List.perm_iff_count.2 fun a=>?_
    simp only [aK,List.count_append]
    omega
  have hX:∀ b' k,ab C w S (ts++H) b' k→ab C w (pt (fS (dL r) S) r ⟨some b,ts⟩) H b' k:=iC (fun k hk=>(pk k).1 hk)
  have bV:il w w (ab C w S (ts++H)) (ab C w (pt (fS (dL r) S) r ⟨some b,ts⟩) H):=fun b k hk=>⟨hX b k hk,rfl⟩
  have dq:∀ d u,aN w (ab C w S (ts++H)) S d u→aN w (ab C w (pt (fS (dL r) S) r ⟨some b,ts⟩) H) (pt (fS (dL r) S) r ⟨some b,ts⟩) (dL r d) u:=
    fun d u hd=>Ry bV (R:=⟨some b,ts⟩) h1 rfl rfl (oc hg hd)
  have cP:=h.mem.hand
  rw [da] at cP
  refine ⟨?_,dq,?_⟩
  · refine h.step (f:=dL r) ?_ rfl rfl dq ⟨eG,?_,fc hX _ cP.2,fun k hk=>h.mem.lt k ((pk k).1 hk)⟩ ⟨h.kept.os,h.kept.tape,h.kept.output,h.kept.size,h.kept.block,fun k hk=>h.kept.gJ k ((pk k).1 hk),?_⟩
    · exact yB (np hg h.rt) r ⟨some b,ts⟩
    · intro r' R' dN
      by_cases he:r'=r
      · subst he
        rw [bX,Option.some.injEq] at dN
        subst dN
        refine ⟨ef,fun t ht=>?_⟩
        have:=(bL _).1 (fc hX _ cP.1) t ht
        cases t with
        | v d u=>exact .inl this
        | own s n cap a cs=>exact this
      · rw [cU _ _ he,jY] at dN
        cases hx:lk S r' with
        | none=>simp [hx] at dN
        | some R0=>
          simp only [hx,Option.map_some,Option.some.injEq] at dN
          subst dN
          obtain ⟨k1,k2⟩:=h.mem.root r' R0 hx
          refine ⟨?_,?_⟩
          · simp only [List.length_map]
            have hv:av (R0.cs.map (fT (dL r)))=av R0.cs:=by
              rw [cu,cu,List.map_map]
              congr 1
              funext t
              cases t<;>rfl
            rw [hv]
            exact k1
          · intro t ht
            simp only [List.mem_map] at ht
            obtain ⟨t0,jo,rfl⟩:=ht
            have:=k2 t0 jo
            cases t0 with
            | v d u=>
              simp only [fT,hM] at this ⊢
              rw [hg.leaf]
              rcases this with this | ⟨hb,this⟩
              · exact .inl (pg hg Br (rl hX _ _ this))
              · exact .inr ⟨hb,by rw [ri this]; exact dq _ _ this⟩
            | own s n cap a xs=>
              simp only [fT]
              exact c9 bV _ this (fun _ _=>rfl)
    · intro r' b' vs hm R' dN
      by_cases he:r'=r
      · subst he
        rw [bX,Option.some.injEq] at dN
        subst dN
        obtain ⟨g1,g2⟩:=h.kept.par r' b' vs hm _ h0
        refine ⟨g1,fun hb=>?_⟩
        rw [hb] at g1
        simp at g1
      · rw [cU _ _ he,jY] at dN
        cases hx:lk S r' with
        | none=>simp [hx] at dN
        | some R0=>
          simp only [hx,Option.map_some,Option.some.injEq] at dN
          subst dN
          obtain ⟨g1,g2⟩:=h.kept.par r' b' vs hm R0 hx
          refine ⟨g1,fun hb=>?_⟩
          rw [← g2 hb]
          simp only [cu,List.map_map]
          congr 1
          funext t
          cases t<;>rfl
  · refine lq.trans (S':=fS (dL r) S) (J1 _ S) (fun r' R' dN=>?_)
    by_cases he:r'=r
    · subst he
      rw [h1,Option.some.injEq] at dN
      subst dN
      exact ⟨_,bX _ _ _,rfl⟩
    · exact ⟨R',by rw [cU _ _ he]; exact dN,rfl⟩
end
end Go.Proofs.Ytockoilcnmljiaa
namespace Go.Proofs.Ytockoilcnmljiaa
def iq (S S':List (Nat × RT)):Prop:=∀ r R,lk S r=some R→∃ R',lk S' r=some R'∧R'.box=R.box∧(R.cs=[]→R'.cs=[])
theorem iq.refl (S:List (Nat × RT)):iq S S:=fun _ R h=>⟨R,h,rfl,fun h=>h⟩
theorem iq.trans {S S' vX:List (Nat × RT)} (h:iq S S') (h':iq S' vX):iq S vX:=fun r R hr=>by
  obtain ⟨R1,h1,h2,h3⟩:=h r R hr
  obtain ⟨R2,h4,h5,h6⟩:=h' r R1 h1
  exact ⟨R2,h4,h5.trans h2,fun e=>h6 (h3 e)⟩
theorem nF.e {S S':List (Nat × RT)} (h:nF S S'):iq S S':=fun r R hr=>by
  obtain ⟨R1,h1,h2,h3⟩:=h.fwd r R hr
  exact ⟨R1,h1,h2,fun e=>by
    have h4:=congrArg List.length h3
    rw [e] at h4
    simp only [bd,List.length_nil] at h4
    exact List.length_eq_zero_iff.1 h4⟩
theorem iq.b {S S':List (Nat × RT)} (h:iq S S'):lq S S':=fun r R hr=>by
  obtain ⟨R1,h1,h2,_⟩:=h r R hr
  exact ⟨R1,h1,h2⟩
theorem iq.empty {S S':List (Nat × RT)} (h:iq S S') {r:Nat} {b:Option Nat} (hr:lk S r=some ⟨b,[]⟩):lk S' r=some ⟨b,[]⟩:=by
  obtain ⟨R1,h1,h2,h3⟩:=h r _ hr
  have:=h3 rfl
  cases R1
  simp only at h2 this
  rw [h1,h2,this]
section
variable {C:Ctx} {H:List T} {w:World} {st st':St} {ay:List (Array Value)} {S:List (Nat × RT)}
theorem Lb (h:Rel C H w st ay S) {r b:Nat} {R:RT} (hR:lk S r=some R) (hb:R.box=some b):
    Rel C H w { st with rt:=pz st.rt r [] } ay (pt S r ⟨some b,[]⟩)∧gl C w w S (pt S r ⟨some b,[]⟩) H H id∧iq S (pt S r ⟨some b,[]⟩):=by
  obtain ⟨A,B,f1,f2⟩:=ka hR
  have f3:=f2 ⟨some b,[]⟩
  simp only [RT.ft,hb,Option.toList,ad,List.append_nil] at f1 f3
  have dP:∀ k∈cf (pt S r ⟨some b,[]⟩)++ad H,k∈cf S++ad H:=by
    intro k hk
    rw [f3] at hk
    rw [f1]
    simp only [List.mem_append,List.mem_singleton] at hk ⊢
    rcases hk with ((hk | hk) | hk) | hk<;>simp [hk]
  have eG:(cf (pt S r ⟨some b,[]⟩)++ad H).Nodup:=by
    have h0:=h.mem.nd
    rw [f1] at h0
    rw [f3]
    refine List.Nodup.sublist ?_ h0
    refine List.Sublist.append (List.Sublist.append (List.Sublist.append (List.Sublist.refl _) ?_) (List.Sublist.refl _)) (List.Sublist.refl _)
    simp
  have hX:∀ b' k,ab C w S H b' k→ab C w (pt S r ⟨some b,[]⟩) H b' k:=iC dP
  have bV:il w w (ab C w S H) (ab C w (pt S r ⟨some b,[]⟩) H):=fun b k hk=>⟨hX b k hk,rfl⟩
  have dq:∀ d u,aN w (ab C w S H) S d u→aN w (ab C w (pt S r ⟨some b,[]⟩) H) (pt S r ⟨some b,[]⟩) d u:=by
    intro d u hd
    cases d with
    | ref r' q' o' x=>
      intro t ht
      by_cases he:r'=r
      · subst he
        obtain ⟨R',l,e1,e2,e3⟩:=Aj ht
        rw [bX,Option.some.injEq] at e1
        subst e1
        cases q' with
        | nil=>simp only [ao,Option.some.injEq] at e2; subst e2; simp at e3
        | cons p q=>simp [ao] at e2
      · refine hd t ?_
        rw [← ht]
        simp only [bT,cU _ _ he]
    | ptr r' q' o'=>
      intro R' dC
      by_cases he:r'=r
      · subst he
        rw [bX,Option.some.injEq] at dC
        subst dC
        refine ⟨fun _=>rfl,fun b' off ha=>?_⟩
        cases q' with
        | nil=>
          refine (hd R hR).2 b' off ?_
          simp only [bw,hb] at ha ⊢
          exact ha
        | cons p q=>simp [bw] at ha
      · rw [cU _ _ he] at dC
        exact hd R' dC
    | cZ cs o=>exact lP (S:=S) (d:=.cZ cs o) bV hd
    | _=>exact fE bV _ _ hd
  refine ⟨h.pe ?_ rfl rfl dq ⟨eG,?_,fc hX _ h.mem.hand,fun k hk=>h.mem.lt k (dP k hk)⟩ ⟨h.kept.os,h.kept.tape,h.kept.output,h.kept.size,h.kept.block,fun k hk=>h.kept.gJ k (dP k hk),?_⟩,dq,?_⟩
  · exact yB h.rt r ⟨some b,[]⟩
  · intro r' R' dN
    by_cases he:r'=r
    · subst he
      rw [bX,Option.some.injEq] at dN
      subst dN
      refine ⟨?_,by simp⟩
      have:=(h.mem.root _ R hR).1
      rw [hb] at this
      obtain ⟨c,e,fz,g1,g2,g3,g4⟩:=this
      exact ⟨c,e,fz,g1,g2,by simp,by simp [av]⟩
    · rw [cU _ _ he] at dN
      obtain ⟨k1,k2⟩:=h.mem.root r' R' dN
      refine ⟨k1,fun t ht=>?_⟩
      have:=k2 t ht
      cases t with
      | v d u=>
        rcases this with this | ⟨hb,this⟩
        · exact .inl (rl hX _ _ this)
        · exact .inr ⟨hb,dq _ _ this⟩
      | own s n cap a xs=>exact c9 bV _ this (fun _ _=>rfl)
  · intro r' b' vs hm R' dN
    by_cases he:r'=r
    · subst he
      rw [bX,Option.some.injEq] at dN
      subst dN
      obtain ⟨g1,_⟩:=h.kept.par r' b' vs hm _ hR
      rw [hb] at g1
      exact ⟨g1,fun e=>by rw [e] at g1; simp at g1⟩
    · rw [cU _ _ he] at dN
      exact h.kept.par r' b' vs hm R' dN
  · intro r' R' dN
    by_cases he:r'=r
    · subst he
      rw [hR,Option.some.injEq] at dN
      subst dN
      exact ⟨_,bX _ _ _,hb.symm,fun _=>rfl⟩
    · exact ⟨R',by rw [cU _ _ he]; exact dN,rfl,fun h=>h⟩
theorem TP (h:Rel C H w st ay S) {r b:Nat} {R:RT} (hR:lk S r=some R) (hb:R.box=some b) {cs':List D} (ht:L7 st r=some (cs',st')):
    ∃ ts S',Rel C (ts++H) w st' ay S'∧aL ts=cs'∧ts≠[]∧lk S' r=some ⟨some b,[]⟩∧jU w b 0 ts.length (av ts)∧gl C w w S S' H (ts++H) id∧iq S S'∧kf st st':=by
  unfold L7 at ht
  rw [h.rt,hR] at ht
  simp only [Option.map_some] at ht
  split at ht
  case h_2=>simp at ht
  rename_i c cs dU
  simp only [Option.some.injEq] at dU
  split at ht
  case h_2=>simp at ht
  rename_i TQ aC cS
  simp only [Option.some.injEq,Prod.mk.injEq] at ht
  obtain ⟨rfl,rfl⟩:=ht
  have dt:bC (aN w (ab C w S H) S) (jX r [] 0 (c::cs)) (av R.cs):=by
    rw [← dU]
    refine cL (by rw [nB,eF,bd]) (fun i x y hx hy=>?_)
    rw [lM,gA] at hx
    rw [eD] at hy
    cases hi:R.cs[i]? with
    | none=>simp [hi] at hx
    | some t=>
      simp only [hi,Option.map_some,Option.some.injEq,Nat.zero_add] at hx hy
      subst hx; subst hy
      exact nA h.mem hR rfl hi
  obtain ⟨ts,S1,a1,a2,a3,a4,a5,a6⟩:=Bl h dt cS
  obtain ⟨R1,b1,b2,_⟩:=a5.fwd r R hR
  obtain ⟨c1,c2,c3⟩:=Lb a1 b1 (b2.trans hb)
  refine ⟨ts,_,c1,a2,?_,bX _ _ _,?_,fun d u hd=>c2 d u (a4 d u hd),a5.e.trans c3,a6⟩
  · intro e
    have h1:=congrArg List.length dU
    have h2:=congrArg List.length a3
    rw [e] at h2
    rw [eF] at h1
    simp only [bd,List.length_cons,List.length_nil] at h1 h2
    omega
  · have h1:=(h.mem.root r R hR).1
    rw [hb] at h1
    have h2:=congrArg List.length a3
    simp only [bd] at h2
    rw [h2,a3]
    exact h1
end
def eR:D→Value→List T→Prop
  | .agg cs,u,ts=>cs=aL ts∧∃ us,u=.agg us∧us.toList=av ts
  | d,u,ts=>∃ t,ts=[t]∧d=t.er∧u=t.val
abbrev Arg:=Option Nat × List T
def Ek (w:World) (X:Bool→Nat→Prop):Bool→D→Value→Arg→Prop
  | false,d,u,a=>a=(none,[])∧∀ S,fN w X S d u
  | true,.aJ cs,u,a=>∃ b,a.1=some b∧a.2≠[]∧cs=aL a.2∧u=.pointer (some ⟨b,0,none⟩)∧jU w b 0 a.2.length (av a.2)
  | true,d,u,a=>a.1=none∧eR d u a.2
def ou (w:World) (S:List (Nat × RT)):Bool→D→D→Value→Arg→Prop
  | false,d,d1,_,a=>a=(none,[])∧d1=d
  | true,d,.aJ cs,u,a=>∃ r b,d=.ptr r [] 0∧a.1=some b∧lk S r=some ⟨some b,[]⟩∧a.2≠[]∧cs=aL a.2∧u=.pointer (some ⟨b,0,none⟩)∧jU w b 0 a.2.length (av a.2)
  | true,d,d1,u,a=>a.1=none∧eR d1 u a.2∧av a.2=fW d u∧(∀ r,d≠.ptr r [] 0)∧((∃ cs,d1=.agg cs)↔∃ cs,d=.agg cs)∧(∀ f cs,d≠.fn f cs)∧∀ ds,d≠.aQ ds
def qd (w:World) (S:List (Nat × RT)):List Bool→List D→List D→List Value→List Arg→Prop
  | _,[],fA,us,as9=>fA=[]∧us=[]∧as9=[]
  | b,d::ds,fA,us,as9=>∃ d1 vt u jb a bP,fA=d1::vt∧us=u::jb∧as9=a::bP∧ou w S (b.headD false) d d1 u a∧qd w S b.tail ds vt jb bP
def cq (as9:List Arg):List T:=(as9.map Prod.snd).reverse.flatten
theorem ov (a:Arg) (as9:List Arg):cq (a::as9)=cq as9++a.2:=by simp [cq]
theorem ou.D8 {w:World} {S S':List (Nat × RT)} (h:iq S S') {b:Bool} {d d1:D} {u:Value} {a:Arg} (hg:ou w S b d d1 u a):ou w S' b d d1 u a:=by
  cases b with
  | false=>exact hg
  | true=>
    cases d1 with
    | aJ cs=>
      obtain ⟨r,b,h1,h2,h3,h4⟩:=hg
      exact ⟨r,b,h1,h2,h.empty h3,h4⟩
    | _=>exact hg
theorem zy {w:World} {S:List (Nat × RT)} {d d1:D} {u:Value} {a:Arg} (hn:∀ cs,d1≠.aJ cs) (h1:a.1=none) (h2:eR d1 u a.2) (h3:av a.2=fW d u) (h4:∀ r,d≠.ptr r [] 0) (h5:(∃ cs,d1=.agg cs)↔∃ cs,d=.agg cs) (h6:(∀ f cs,d≠.fn f cs)∧∀ ds,d≠.aQ ds):ou w S true d d1 u a:=by
  cases d1<;>first | exact ⟨h1,h2,h3,h4,h5,h6⟩ | exact absurd rfl (hn _)
theorem pn {t:T} {w:World} {X:Bool→Nat→Prop} (hs:aT w X t):(∀ cs,t.er≠.aJ cs)∧(∀ cs,t.er≠.agg cs)∧(∀ cs,t.er≠.aQ cs):=by
  cases t with
  | own s n cap a xs=>simp [T.er]
  | v d u=>
    simp only [aT] at hs
    simp only [T.er]
    refine ⟨fun cs e=>?_,fun cs e=>?_,fun cs e=>?_⟩<;>(rw [e] at hs; simp [Ext] at hs)
section
variable {C:Ctx} {w:World} {ay:List (Array Value)}
theorem Hz {H:List T} {st st':St} {S:List (Nat × RT)} {d d':D} {u:Value} (h:Rel C H w st ay S) (hd:bR w (ab C w S H) S d u) (ht:zg st d=some (d',st')):
    ∃ (a:Arg) (S':List (Nat × RT)),Rel C (a.2++H) w st' ay S'∧ou w S' true d d' u a∧gl C w w S S' H (a.2++H) id∧iq S S'∧kf st st'∧∀ b,a.1=some b→∀ r0,lk S r0≠some ⟨some b,[]⟩:=by
  by_cases hp:∃ r,d=.ptr r [] 0
  · obtain ⟨r,rfl⟩:=hp
    simp only [zg] at ht
    split at ht
    case h_2=>simp at ht
    rename_i TQ aC cS
    simp only [Option.some.injEq,Prod.mk.injEq] at ht
    obtain ⟨rfl,rfl⟩:=ht
    cases hR:lk S r with
    | none=>simp [L7,h.rt r,hR] at cS
    | some R=>
      have pY:∀ R,lk S r=some R→(([]:List Nat)=[]→R.box.isSome)∧∀ b off,bw R.box R.cs []=some (b,off)→u=.pointer (some ⟨b,off+0,none⟩):=hd
      obtain ⟨h1,h2⟩:=pY R hR
      obtain ⟨b,hb⟩:=Option.isSome_iff_exists.1 (h1 rfl)
      obtain ⟨ts,S',a1,a2,a3,a4,a5,a6,a7,a8⟩:=TP h hR hb cS
      refine ⟨(some b,ts),S',a1,⟨r,b,rfl,rfl,a4,a3,a2.symm,by have:=h2 b 0 (by simp [bw,hb]); simpa using this,a5⟩,a6,a7,a8,fun b' e r0 JZ=>?_⟩
      simp only [Option.some.injEq] at e
      subst e
      have:=vr (List.nodup_append.1 h.mem.nd).1 hR hb JZ (by simp [RT.ft])
      subst this
      rw [hR,Option.some.injEq] at JZ
      subst JZ
      simp [L7,h.rt _,hR,aL] at cS
  · have hp:∀ r,d≠.ptr r [] 0:=fun r e=>hp ⟨r,e⟩
    by_cases ha:∃ cs,d=.agg cs
    · obtain ⟨cs,rfl⟩:=ha
      simp only [zg] at ht
      split at ht
      case h_2=>simp at ht
      rename_i TQ aC cS
      simp only [Option.some.injEq,Prod.mk.injEq] at ht
      obtain ⟨rfl,rfl⟩:=ht
      obtain ⟨ts,S',a1,a2,a3,a4,a5,a6⟩:=oo h hd (d:=.agg cs) cS
      obtain ⟨us,rfl,_⟩:=hd
      exact ⟨(none,ts),S',a1,zy (by simp) rfl ⟨a2.symm,us,rfl,by rw [a3]; rfl⟩ a3 hp (by simp) (by simp),a4,a5.e,a6,by simp⟩
    · have cS:hI st d=some (d',st'):=by
        unfold zg at ht
        split at ht
        · exact absurd ⟨_,rfl⟩ ha
        · exact absurd rfl (hp _)
        · exact ht
      have cn:cellsOf d=[d]:=by cases d<;>first | rfl | exact absurd ⟨_,rfl⟩ ha
      obtain ⟨ts,S',a1,a2,a3,a4,a5,a6⟩:=oo h hd (ds':=[d']) (st':=st') (by rw [cn]; simp only [oU,cS])
      have hv:fW d u=[u]:=by cases d<;>first | rfl | exact absurd ⟨_,rfl⟩ ha
      rw [hv] at a3
      obtain ⟨t,rfl⟩:∃ t,ts=[t]:=by
        match ts,a2 with
        | [t],_=>exact ⟨t,rfl⟩
      simp only [aL,List.cons.injEq,and_true] at a2
      simp only [av,List.cons.injEq,and_true] at a3
      subst a2
      have hs:=pn (fb (o:=0) a1.mem.hand (t:=t) rfl)
      refine ⟨(none,[t]),S',a1,zy hs.1 rfl ?_ (by rw [hv]; simp [av,a3]) hp ?_ ⟨fun f cs e=>by rw [e] at cS; simp [hI] at cS,fun ds e=>by rw [e] at cS; simp [hI] at cS⟩,a4,a5.e,a6,by simp⟩
      · have:∀ d1,(∀ cs,d1≠.agg cs)→d1=t.er→eR d1 u [t]:=fun d1 hn e=>by
          cases d1<;>first | exact ⟨t,rfl,e,a3.symm⟩ | exact absurd rfl (hn _)
        exact this _ hs.2.1 rfl
      · exact ⟨fun ⟨cs,e⟩=>absurd e (hs.2.1 cs),fun ⟨cs,e⟩=>absurd ⟨cs,e⟩ ha⟩
theorem Bu:∀ {b:List Bool} {ds fA:List D} {us:List Value} {H:List T} {st st':St} {S:List (Nat × RT)},Rel C H w st ay S→bC (bR w (ab C w S H) S) ds us→kZ st b ds=some (fA,st')→
    ∃ (as9:List Arg) (S':List (Nat × RT)),Rel C (cq as9++H) w st' ay S'∧qd w S' b ds fA us as9∧gl C w w S S' H (cq as9++H) id∧iq S S'∧kf st st'∧(as9.filterMap Prod.fst).Nodup∧∀ r bk,lk S r=some ⟨some bk,[]⟩→bk∉as9.filterMap Prod.fst:=by
  intro b ds
  induction ds generalizing b with
  | nil=>
    intro fA us H st st' S h hu hc
    cases hu
    simp only [kZ,Option.some.injEq,Prod.mk.injEq] at hc
    obtain ⟨rfl,rfl⟩:=hc
    exact ⟨[],S,h,⟨rfl,rfl,rfl⟩,fun _ _ h=>h,iq.refl _,kf.refl _,by simp,by simp⟩
  | cons d ds ih=>
    intro fA us H st st' S h hu hc
    cases hu with
    | cons p8 zm=>
    rename_i u us
    simp only [kZ] at hc
    split at hc
    case h_2=>simp at hc
    rename_i d1 aC h1
    split at hc
    case h_2=>simp at hc
    rename_i pU bK h2
    simp only [Option.some.injEq,Prod.mk.injEq] at hc
    obtain ⟨rfl,rfl⟩:=hc
    obtain ⟨a,S1,a1,a2,a3,a4,a5,a6⟩:∃ (a:Arg) (S':List (Nat × RT)),Rel C (a.2++H) w aC ay S'∧ou w S' (b.headD false) d d1 u a∧gl C w w S S' H (a.2++H) id∧iq S S'∧kf st aC∧∀ b,a.1=some b→∀ r0,lk S r0≠some ⟨some b,[]⟩:=by
      cases hb:b.headD false with
      | false=>
        rw [hb] at h1
        simp only [Bool.false_eq_true,if_false,Option.some.injEq,Prod.mk.injEq] at h1
        obtain ⟨rfl,rfl⟩:=h1
        exact ⟨(none,[]),S,h,⟨rfl,rfl⟩,fun _ _ h=>h,iq.refl _,kf.refl _,by simp⟩
      | true=>
        rw [hb] at h1
        exact Hz h p8 (by simpa using h1)
    obtain ⟨as9,S2,b1,b2,b3,b4,b5,b6,b7⟩:=ih a1 (zm.mono (fun _ _ hh=>nD a3 hh)) h2
    refine ⟨a::as9,S2,?_,⟨_,_,_,_,_,_,rfl,rfl,rfl,a2.D8 b4,b2⟩,fun d u hd=>?_,a4.trans b4,kf.trans a5 b5,?_,fun r bk hr=>?_⟩
    · rw [ov,List.append_assoc]; exact b1
    · rw [ov,List.append_assoc]; exact b3 d u (a3 d u hd)
    · cases ha:a.1 with
      | none=>simpa [ha] using b6
      | some bk=>
        simp only [List.filterMap_cons,ha,List.nodup_cons]
        refine ⟨?_,b6⟩
        cases hb:b.headD false with
        | false=>rw [hb] at a2; obtain ⟨rfl,_⟩:=a2; simp at ha
        | true=>
          rw [hb] at a2
          cases d1 with
          | aJ cs=>
            obtain ⟨r,HA,_,e2,e3,_⟩:=a2
            rw [ha,Option.some.injEq] at e2
            subst e2
            exact b7 r bk e3
          | _=>rw [a2.1] at ha; simp at ha
    · cases ha:a.1 with
      | none=>simp only [List.filterMap_cons,ha]; exact b7 r bk (a4.empty hr)
      | some HA=>
        simp only [List.filterMap_cons,ha,List.mem_cons,not_or]
        exact ⟨fun e=>a6 HA ha r (e▸hr),b7 r bk (a4.empty hr)⟩
end
end Go.Proofs.Ytockoilcnmljiaa
namespace Go.Proofs.Ytockoilcnmljiaa
theorem tC {α β γ:Type} {f:α→Option β} {R:α→γ→Prop} {R':β→γ→Prop}:∀ {as9:List α} {bs:List β} {cs:List γ},bC R as9 cs→jQ f as9=some bs→(∀ a b c,R a c→f a=some b→R' b c)→bC R' bs cs
  | [],bs,cs,h,hm,_=>by
    cases h
    simp only [jQ,Option.some.injEq] at hm
    subst hm
    exact .nil
  | a::as9,bs,cs,h,hm,hr=>by
    cases h with
    | cons h1 h2=>
    simp only [jQ] at hm
    split at hm
    case h_2=>simp at hm
    rename_i b hb
    split at hm
    case h_2=>simp at hm
    rename_i Qt Ej
    simp only [Option.some.injEq] at hm
    subst hm
    exact .cons (hr _ _ _ h1 hb) (tC h2 Ej hr)
section
variable {C:Ctx} {H:List T} {w:World} {st:St} {ay:List (Array Value)} {S:List (Nat × RT)} (h:Rel C H w st ay S) {X':Bool→Nat→Prop} (hX:∀ b k,ab C w S H b k→X' b k)
  (hF:∀ r R k,lk S r=some R→R.cs≠[]→k∈R.ft→X' true k)
include h hX hF
theorem HB {d d':D} {u:Value} (hd:aN w (ab C w S H) S d u) (he:qM st d=some d'):Ext w X' d' u:=by
  cases d with
  | int k n=>simp only [qM,Option.some.injEq] at he; subst he; exact hd
  | bool b=>simp only [qM,Option.some.injEq] at he; subst he; exact hd
  | str s=>simp only [qM,Option.some.injEq] at he; subst he; exact hd
  | nil s=>simp only [qM,Option.some.injEq] at he; subst he; exact hd
  | undef=>simp only [qM,Option.some.injEq] at he; subst he; simp [Ext]
  | hole s n=>simp only [qM,Option.some.injEq] at he; subst he; simp [Ext]
  | sl g s n cs=>
    simp only [qM,Option.some.injEq] at he
    subst he
    cases g with
    | none=>simp [aN,Ext] at hd
    | some g=>exact rl hX _ _ hd
  | ref r q o x=>
    simp only [qM] at he
    split at he
    case h_2=>simp at he
    rename_i g s n cs hc
    simp only [Option.some.injEq] at he
    subst he
    obtain ⟨R,l,t,h1,h2,h3,h4,h5⟩:=gR h.rt hc
    refine yC hX true h5.symm (pX h.mem h1 h2 h3 h5.symm) (fun k hk=>hF r R k h1 ?_ ?_) (hd t h4)
    · intro e
      rw [e] at h2
      cases q with
      | nil=>simp only [ao,Option.some.injEq] at h2; subst h2; simp at h3
      | cons p q=>simp [ao] at h2
    · have:k∈ad l:=yF (List.mem_of_getElem? h3) hk
      have:=Ef h2 this
      simp [RT.ft,this]
  | _=>simp [qM] at he
theorem MP {b:Bool} {t:T} {d':D} (hc:hM w (ab C w S H) S b t) (hf:∀ k∈t.ft,X' true k) (he:qM st t.er=some d'):Ext w X' d' t.val:=by
  cases t with
  | v d u=>
    have:aN w (ab C w S H) S (aZ d) u:=by
      rcases hc with hc | ⟨_,hc⟩
      · exact eQ hc
      · exact hc
    exact HB h hX hF this he
  | own s n cap a cs=>
    simp only [T.er,qM,Option.some.injEq] at he
    subst he
    exact vh hX true (.own s n cap a cs) hc hf
theorem kT {d d':D} {u:Value} (hd:aN w (ab C w S H) S d u) (he:JM st d=some d') (S':List (Nat × RT)):aN w X' S' d' u:=by
  cases d with
  | cZ cs o=>
    simp only [JM,Option.some.injEq] at he
    subst he
    obtain ⟨b,off,c,e,fz,us,h1,h2,h3,h4,h5⟩:=hd
    exact ⟨b,off,c,e,fz,us,h1,hX true b h2,h3,pW (fun b k hk=>⟨hX b k hk,rfl⟩) cs us h4,h5⟩
  | ptr r q o=>
    simp only [JM] at he
    split at he
    case h_2=>simp at he
    rename_i c cs dU
    split at he
    case h_2=>simp at he
    rename_i cs' hm
    simp only [Option.some.injEq] at he
    subst he
    obtain ⟨R,l,h1,h2,h3⟩:=rH st S h.rt dU
    have hl:l≠[]:=fun e=>by rw [e] at h3; simp [aL] at h3
    obtain ⟨p1,p2⟩:=hd R h1
    obtain ⟨b,off,eE,a1,a2,a3,a4⟩:=nZ h.mem h1 h2 hl p1
    have hR:R.cs≠[]:=fun e=>by
      rw [e] at h2
      cases q with
      | nil=>simp only [ao,Option.some.injEq] at h2; exact hl h2.symm
      | cons p q=>simp [ao] at h2
    have hb:b∈R.ft:=by
      cases q with
      | nil=>
        simp only [bw] at a1
        cases hx:R.box with
        | none=>simp [hx] at a1
        | some b'=>simp only [hx,Option.map_some,Option.some.injEq,Prod.mk.injEq] at a1; simp [RT.ft,hx,a1.1]
      | cons p q=>simp [RT.ft,pc a1]
    obtain ⟨cc,e,fz,b1,b2,b3,b4⟩:=a2
    refine ⟨b,off,cc,e,fz,av l,p2 b off a1,hF r R b h1 hR hb,b1,(gg _ _).2 ?_,b4⟩
    have dt:bC (fun d u=>∃ t bx,d=t.er∧u=t.val∧hM w (ab C w S H) S bx t∧∀ k∈t.ft,X' true k) (c::cs) (av l):=by
      rw [h3]
      refine cL (by simp [eF,bd]) (fun i x y hx hy=>?_)
      rw [gA] at hx
      rw [eD] at hy
      cases hi:l[i]? with
      | none=>simp [hi] at hx
      | some t=>
        simp only [hi,Option.map_some,Option.some.injEq] at hx hy
        have cF:∀ k∈t.ft,X' true k:=fun k hk=>hF r R k h1 hR (by
          have:=Ef h2 (yF (List.mem_of_getElem? hi) hk)
          simp [RT.ft,this])
        cases q with
        | nil=>
          simp only [ao,Option.some.injEq] at h2
          subst h2
          exact ⟨t,R.box.isSome,hx.symm,hy.symm,(h.mem.root r R h1).2 t (List.mem_of_getElem? hi),cF⟩
        | cons p q=>
          have:=fb (a4 (by simp)) hi
          refine ⟨t,true,hx.symm,hy.symm,?_,cF⟩
          cases t with
          | v d u=>exact .inl this
          | own s n cap a cs=>exact this
    exact tC dt hm (fun a b c ⟨t,bx,e1,e2,e3,e4⟩ he=>by
      subst e1; subst e2
      exact MP h hX hF e3 e4 he)
  | _=>exact eQ (HB h hX hF hd he)
theorem TR {d d':D} {u:Value} (hd:bR w (ab C w S H) S d u) (he:L6 st d=some d') (S':List (Nat × RT)):fN w X' S' d' u:=by
  cases d with
  | agg cs=>
    simp only [L6] at he
    split at he
    case h_2=>simp at he
    rename_i cs' hm
    simp only [Option.some.injEq] at he
    subst he
    obtain ⟨us,rfl,hu⟩:=hd
    exact ⟨us,rfl,tC hu hm (fun a b c h1 h2=>eQ (HB h hX hF h1 h2))⟩
  | fn f cs=>
    simp only [L6] at he
    split at he
    case h_2=>simp at he
    rename_i cs' hm
    simp only [Option.some.injEq] at he
    subst he
    obtain ⟨us,rfl,hu⟩:=hd
    exact ⟨us,rfl,tC hu hm (fun a b c h1 h2=>kT h hX hF h1 h2 S')⟩
  | aQ ds=>simp [L6,JM,qM] at he
  | int k n=>exact dF (kT h hX hF (d:=.int k n) hd he S')
  | bool b=>exact dF (kT h hX hF (d:=.bool b) hd he S')
  | str s=>exact dF (kT h hX hF (d:=.str s) hd he S')
  | sl g s n cs=>exact dF (kT h hX hF (d:=.sl g s n cs) hd he S')
  | ref r q o x=>exact dF (kT h hX hF (d:=.ref r q o x) hd he S')
  | nil s=>exact dF (kT h hX hF (d:=.nil s) hd he S')
  | ptr r q o=>exact dF (kT h hX hF (d:=.ptr r q o) hd he S')
  | cZ cs o=>exact dF (kT h hX hF (d:=.cZ cs o) hd he S')
  | aJ cs=>exact dF (kT h hX hF (d:=.aJ cs) hd he S')
  | hole s n=>exact dF (kT h hX hF (d:=.hole s n) hd he S')
  | undef =>exact dF (kT h hX hF (d:=.undef) hd he S')
end
end Go.Proofs.Ytockoilcnmljiaa
namespace Go.Proofs.Ytockoilcnmljiaa
def yH (a:Arg):List Nat:=a.1.toList++ad a.2
def aS:List Arg→List Nat
  | []=>[]
  | a::as9=>yH a++aS as9
def qH (w:World) (X:Bool→Nat→Prop):List Bool→List D→List Value→List Arg→Prop
  | _,[],us,as9=>us=[]∧as9=[]
  | b,d::ds,us,as9=>∃ u jb a bP,us=u::jb∧as9=a::bP∧Ek w X (b.headD false) d u a∧qH w X b.tail ds jb bP
def Lk (w:World) (F:List Nat) (Y:Nat→Prop) (b:Bool) (k:Nat):Prop:=k < w.heap.size∧k∉F∧(b=false→Y k)
structure kj (w:World) (Y:Nat→Prop) (own:List Bool) (ds:List D) (us:List Value) (as9:List Arg):Prop where
  args:qH w (Lk w (aS as9) Y) own ds us as9
  nd:(aS as9).Nodup
  lt:∀ k∈aS as9,k < w.heap.size
  sat:∀ a∈as9,aU w (Lk w (aS as9) Y) a.2
def po (b:Nat) (ts:List T):T:=.own ts.length 1 1 (some (b,0)) ts
def qe:List D→List Value→List T→Prop
  | [],us,ts=>us=[]∧ts=[]
  | d::ds,us,ts=>∃ u jb t1 t2,us=u::jb∧ts=t1++t2∧eR d u t1∧qe ds jb t2
def El:D→Value→List T→Prop
  | .aJ cs,v,ts=>∃ b J2,ts=[po b J2]∧cs=aL J2∧v=.pointer (some ⟨b,0,none⟩)
  | .aQ ds,v,ts=>∃ us,v=.tuple us∧qe ds us.toList ts
  | d,v,ts=>eR d v ts
def mB (w':World):Bool→D→Arg→Arg→Prop
  | false,_,_,a'=>a'=(none,[])
  | true,.aJ cs,a,a'=>a'.1=a.1∧(∃ b,a.1=some b∧jU w' b 0 a'.2.length (av a'.2))∧cs=aL a'.2
  | true,.agg cs,a,a'=>a.1=none∧a'.1=none∧cs=aL a'.2∧av a'.2=av a.2
  | true,d,a,a'=>a.1=none∧a'.1=none∧((a'.2=[]∧∀ s n cs,d≠.sl none s n cs)∨∃ t,a'.2=[t]∧d=t.er∧av [t]=av a.2)
def kH (w':World):List Bool→List D→List Arg→List Arg→Prop
  | _,os,[],bP=>os=[]∧bP=[]
  | b,os,a::as9,bP=>∃ o um a' HC,os=o::um∧bP=a'::HC∧mB w' (b.headD false) o a a'∧kH w' b.tail um as9 HC
structure gC (w w':World) (Y:Nat→Prop) (own:List Bool) (as9:List Arg) (r:D) (outs:List D) (v:Value):Prop where
  sz:w.heap.size≤w'.heap.size
  bQ:∀ k,k < w.heap.size→k∉aS as9→w'.heap[k]?=w.heap[k]?
  os:w'.os=w.os
  tape:w'.tape=w.tape
  out:w'.output=w.output
  res:∃ (eo:List T) (bP:List Arg),El r v eo∧kH w' own outs as9 bP∧(ad eo++aS bP).Nodup∧(∀ k∈ad eo++aS bP,k < w'.heap.size∧(k∈aS as9∨w.heap.size≤k))∧
    aU w' (fun b k=>Lk w' (ad eo++aS bP) (fun k=>Y k∨k∈aS as9∨w.heap.size≤k) b k) eo∧
    ∀ a∈bP,aU w' (fun b k=>Lk w' (ad eo++aS bP) (fun k=>Y k∨k∈aS as9∨w.heap.size≤k) b k) a.2
def qI (P : Program) (f : FuncId) : Prop := ∃ fn, P.funcs[f]? = some fn ∧ (fn.name == "runtime.NumGoroutine") = false ∧ fn.body.isNone = false
def jT (P:Program) (own:FuncId→List Bool) (cl:FuncId→List D→Option (D × List D)):Prop:=
  ∀ f ds r outs,cl f ds=some (r,outs)→qI P f∧∀ (w:World) (Y:Nat→Prop) (us:Array Value) (as9:List Arg),kj w Y (own f) ds us.toList as9→dc r=true→(∀ o∈outs,dc o=true)→
    Calls P f us w fun e w'=>∃ v,e=.returned v∧gC w w' Y (own f) as9 r outs v
def jZ (h:D→D):Prop:=∀ x,h x=x∨h x=.undef
theorem OU:jZ id:=fun _=>.inl rfl
theorem Jj (r:Nat) (q:List Nat) (o:Nat) (e:Bool):jZ (bS r q o e):=fun x=>by
  unfold bS
  split
  · split
    · split
      · exact .inl rfl
      · split
        · exact .inr rfl
        · exact .inl rfl
      · exact .inr rfl
    · exact .inl rfl
  · split
    · split
      · exact .inl rfl
      · exact .inr rfl
    · exact .inl rfl
  · exact .inl rfl
theorem Jk (r:Nat):jZ (dL r):=fun x=>by
  unfold dL
  split
  · split
    · exact .inr rfl
    · exact .inl rfl
  · split
    · exact .inr rfl
    · exact .inl rfl
  · exact .inl rfl
theorem jZ.comp {f g:D→D} (hf:jZ f) (hg:jZ g) (h0:f .undef=.undef):jZ (fun x=>f (g x)):=fun x=>by
  rcases hg x with e | e
  · show f (g x)=x∨f (g x)=.undef
    rw [e]; exact hf x
  · right; show f (g x)=_; rw [e,h0]
section
variable {C:Ctx} {w:World} {ay:List (Array Value)}
theorem nI {H Hs:List T} {st:St} {S:List (Nat × RT)} (h:Rel C (Hs++H) w st ay S):Rel C H w st ay S∧gl C w w S S (Hs++H) H id:=by
  have dP:∀ k∈cf S++ad H,k∈cf S++ad (Hs++H):=fun k hk=>by
    rw [aK]
    rcases List.mem_append.1 hk with h | h<;>simp [h]
  have hX:∀ b k,ab C w S (Hs++H) b k→ab C w S H b k:=iC dP
  have bV:il w w (ab C w S (Hs++H)) (ab C w S H):=fun b k hk=>⟨hX b k hk,rfl⟩
  have dq:gl C w w S S (Hs++H) H id:=fun d u hd=>lP bV hd
  refine ⟨h.pe h.rt rfl rfl dq ⟨?_,?_,fc hX _ ((da _ _).1 h.mem.hand).2,fun k hk=>h.mem.lt k (dP k hk)⟩ ⟨h.kept.os,h.kept.tape,h.kept.output,h.kept.size,h.kept.block,fun k hk=>h.kept.gJ k (dP k hk),h.kept.par⟩,dq⟩
  · refine List.Nodup.sublist ?_ h.mem.nd
    rw [aK]
    exact List.Sublist.append (List.Sublist.refl _) (List.sublist_append_right _ _)
  · intro r R hr
    obtain ⟨k1,k2⟩:=h.mem.root r R hr
    refine ⟨k1,fun t ht=>?_⟩
    have:=k2 t ht
    cases t with
    | v d u=>
      rcases this with this | ⟨hb,this⟩
      · exact .inl (rl hX _ _ this)
      · exact .inr ⟨hb,dq _ _ this⟩
    | own s n cap a xs=>exact c9 bV _ this (fun _ _=>rfl)
structure jr (C:Ctx) (w:World) (st st':St) (S S':List (Nat × RT)) (H H':List T) (h0 h1:D→D):Prop where
  Lc:∀ d u,aN w (ab C w S H) S (h0 d) u→aN w (ab C w S' H') S' (h1 d) u
  QV:jZ h1
  D8:lq S S'
  of:st'.of=st.of
theorem jr.trans {st aC bK:St} {S S1 S2:List (Nat × RT)} {H H1 H2:List T} {h0 h1 h2:D→D} (a:jr C w st aC S S1 H H1 h0 h1) (b:jr C w aC bK S1 S2 H1 H2 h1 h2):jr C w st bK S S2 H H2 h0 h2:=
  ⟨fun d u hd=>b.Lc d u (a.Lc d u hd),b.QV,a.D8.trans b.D8,b.of.trans a.of⟩
theorem jr.drop {st:St} {S:List (Nat × RT)} {H Hs:List T} {h0:D→D} (h:Rel C (Hs++H) w st ay S) (hk:jZ h0):jr C w st st S S (Hs++H) H h0 h0:=
  ⟨fun d u hd=>(nI h).2 _ _ hd,hk,lq.refl _,rfl⟩
theorem HD:∀ {as9:List D} {ts:List T} {H:List T} {st st':St} {S:List (Nat × RT)} {h0 h1:D→D},Rel C (ts++H) w st ay S→jZ h0→bC (fun a u=>aN w (ab C w S (ts++H)) S (h0 a) u) as9 (av ts)→nf st h0 as9 (aL ts)=some (st',h1)→
    ∃ S',Rel C H w st' ay S'∧jr C w st st' S S' (ts++H) H h0 h1:=by
  intro as9
  induction as9 with
  | nil=>
    intro ts H st st' S h0 h1 h hk ha hb
    have xq:ts=[]:=by
      cases ts with
      | nil=>rfl
      | cons t ts=>simp only [av] at ha; cases ha
    subst xq
    simp only [nf,Option.some.injEq,Prod.mk.injEq] at hb
    obtain ⟨rfl,rfl⟩:=hb
    exact ⟨S,h,⟨fun _ _ h=>h,hk,lq.refl _,rfl⟩⟩
  | cons a as9 ih=>
    intro ts H st st' S h0 h1 h hk ha hb
    cases ts with
    | nil=>simp only [av] at ha; cases ha
    | cons t ts=>
      simp only [av] at ha
      cases ha with
      | cons Bc Ti=>
      simp only [aL,nf] at hb
      split at hb
      · rename_i r q o s n cs e1 e2
        split at hb
        case h_2=>simp at hb
        rename_i s0 n0 cn
        split at hb
        case isFalse=>simp at hb
        rename_i Hf
        split at hb
        case h_2=>simp at hb
        rename_i aC hC
        rw [e1] at Bc
        rw [← e2] at hC
        obtain ⟨R,l,t0,g1,g2,g3,g4,g5⟩:=gR h.rt cn
        obtain ⟨d0,u0,rfl⟩:∃ d0 u0,t0=.v d0 u0:=by
          cases t0 with
          | v d0 u0=>exact ⟨d0,u0,rfl⟩
          | own s n cap a cs=>simp [T.er] at g5
        simp only [T.er] at g5
        have hu:=Bc _ g4
        simp only [dZ,T.er,← g5,sn] at hu
        obtain ⟨S1,b1,b2,b3,b4,_,_⟩:=Hy (ex:=false) h g4 ⟨d0,u0,rfl,fun _=>by rw [← g5]; simp [eB,bS]⟩ (.inl ⟨hu,fun p hp=>by
          rw [e2] at hp
          simp only [sn,Option.some.injEq] at hp
          simp only [T.er,← g5,sn,Option.some.injEq]
          rw [Hf.1,Hf.2]; exact hp⟩) hC
        have XY:jZ (fun x=>bS r q o false (h0 x)):=jZ.comp (Jj r q o false) hk rfl
        obtain ⟨S2,c1,c2⟩:=ih b1 XY (Ti.mono (fun x u hx=>b2 _ _ hx)) hb
        exact ⟨S2,c1,jr.trans ⟨fun d u hd=>b2 _ _ hd,XY,b4,b3⟩ c2⟩
      · have hd:=nI (Hs:=[t]) h
        obtain ⟨S2,c1,c2⟩:=ih hd.1 hk (Ti.mono (fun x u hx=>hd.2 _ _ hx)) hb
        exact ⟨S2,c1,jr.trans (jr.drop (Hs:=[t]) h hk) c2⟩
def QW (w:World) (X:Bool→Nat→Prop) (S:List (Nat × RT)) (h0:D→D) (d:D) (u:Value) (o:D) (a a':Arg):Prop:=
  bC (fun x v=>aN w X S (h0 x) v) (cellsOf d) (fW d u)∧mB w true o a a'∧(a.1=none→av a.2=fW d u∧∀ r,d≠.ptr r [] 0)∧∀ bx,a.1=some bx→∃ r R,d=.ptr r [] 0∧lk S r=some R∧R.box=some bx
theorem zA {H:List T} {st st':St} {S:List (Nat × RT)} {h0 h1:D→D} {ts:List T} {d o:D} (h:Rel C (ts++H) w st ay S) (hk:jZ h0) (hn:∀ r q o' x s n cs,¬ (h0 d=.ref r q o' x∧o=.sl none s n cs)) (hb:nf st h0 [d] [o]=some (st',h1)):∃ S',Rel C H w st' ay S'∧jr C w st st' S S' (ts++H) H h0 h1:=by
  simp only [nf] at hb
  split at hb
  · rename_i r q o' s n cs e1
    exact absurd ⟨e1,rfl⟩ (hn r q o' none s n cs)
  · simp only [Option.some.injEq,Prod.mk.injEq] at hb
    obtain ⟨rfl,rfl⟩:=hb
    exact ⟨S,(nI h).1,jr.drop h hk⟩
theorem OV {H:List T} {st st':St} {S:List (Nat × RT)} {h0 h1:D→D} {d o:D} {u:Value} {a a':Arg} (h:Rel C (a'.2++H) w st ay S) (hk:jZ h0) (ha:QW w (ab C w S (a'.2++H)) S h0 d u o a a') (hb:yx st h0 d o=some (st',h1)):
    ∃ S',Rel C H w st' ay S'∧jr C w st st' S S' (a'.2++H) H h0 h1:=by
  obtain ⟨mN,h2,h3,h4⟩:=ha
  unfold yx at hb
  split at hb
  · rename_i cs ds
    obtain ⟨e1,e2,e3,e4⟩:=h2
    subst e3
    exact HD h hk (by rw [e4,(h3 e1).1]; exact mN) hb
  · rename_i r ds
    obtain ⟨e1,⟨b,e2,e3⟩,e4⟩:=h2
    split at hb
    case h_2=>simp at hb
    rename_i fp
    simp only [Option.some.injEq,Prod.mk.injEq] at hb
    obtain ⟨rfl,rfl⟩:=hb
    obtain ⟨r',R,g1,g2,g3⟩:=h4 b e2
    simp only [D.ptr.injEq,and_true] at g1
    subst g1
    rw [h.rt,g2] at fp
    simp only [Option.map_some,Option.some.injEq] at fp
    have dU:R.cs=[]:=List.length_eq_zero_iff.1 (by rw [← eF,fp]; rfl)
    obtain ⟨c1,c2,c3⟩:=OT h (r:=r) (b:=b) (by rw [g2]; cases R; simp only at g3 dU; rw [g3,dU]) e3
    subst e4
    exact ⟨_,c1,⟨fun d u hd=>c2 _ _ hd,jZ.comp (Jk r) hk rfl,c3,rfl⟩⟩
  · rename_i TS XZ
    by_cases dH:∃ cs,d=.agg cs
    · obtain ⟨cs,rfl⟩:=dH
      refine zA h hk (fun r q o' x s n cs' hh=>?_) hb
      rcases hk (.agg cs) with e | e<;>rw [e] at hh<;>simp at hh
    have cn:cellsOf d=[d]:=by cases d<;>first | rfl | exact absurd ⟨_,rfl⟩ dH
    have xj:fW d u=[u]:=by cases d<;>first | rfl | exact absurd ⟨_,rfl⟩ dH
    by_cases fI:∃ s n cs,o=.sl none s n cs
    · obtain ⟨s,n,cs,rfl⟩:=fI
      obtain ⟨e1,e2,e3⟩:=h2
      rcases e3 with ⟨_,e3⟩ | ⟨t,e3,e4,e5⟩
      · exact absurd rfl (e3 s n cs)
      · rw [e3] at h mN ⊢
        rw [e4] at hb
        refine HD (as9:=[d]) (ts:=[t]) h hk ?_ (by simpa [aL] using hb)
        rw [e5,(h3 e1).1,xj]
        rw [cn,xj] at mN
        exact mN
    · exact zA h hk (fun r q o' x s n cs' hh=>fI ⟨s,n,cs',hh.2⟩) hb
def uo (w:World) (X:Bool→Nat→Prop) (S:List (Nat × RT)) (h0:D→D):List Bool→List D→List Value→List D→List Arg→List Arg→Prop
  | _,[],us,os,as9,bP=>us=[]∧os=[]∧as9=[]∧bP=[]
  | b,d::ds,us,os,as9,bP=>∃ u Em o nJ a xA a' xB,us=u::Em∧os=o::nJ∧as9=a::xA∧bP=a'::xB∧(if b.headD false then QW w X S h0 d u o a a' else a'=(none,[]))∧uo w X S h0 b.tail ds Em nJ xA xB
theorem uo.step {X X':Bool→Nat→Prop} {S S':List (Nat × RT)} {h0 h1:D→D} (ht:∀ d u,aN w X S (h0 d) u→aN w X' S' (h1 d) u) (hd:lq S S'):∀ {b:List Bool} {ds:List D} {us:List Value} {os:List D} {as9 bP:List Arg},uo w X S h0 b ds us os as9 bP→uo w X' S' h1 b ds us os as9 bP
  | _,[],_,_,_,_,h=>h
  | b,d::ds,us,os,as9,bP,h=>by
    obtain ⟨u,Em,o,nJ,a,xA,a',xB,e1,e2,e3,e4,e5,e6⟩:=h
    refine ⟨u,Em,o,nJ,a,xA,a',xB,e1,e2,e3,e4,?_,e6.step ht hd⟩
    split
    · rename_i hb
      rw [if_pos hb] at e5
      obtain ⟨k1,k2,k3,k4⟩:=e5
      refine ⟨k1.mono (fun x v hx=>ht _ _ hx),k2,k3,fun bx rN=>?_⟩
      obtain ⟨r,R,g1,g2,g3⟩:=k4 bx rN
      obtain ⟨R',g4,g5⟩:=hd r R g2
      exact ⟨r,R',g1,g4,g5.trans g3⟩
    · rename_i hb
      rw [if_neg hb] at e5
      exact e5
def cz (as9:List Arg):List T:=(as9.map Prod.snd).flatten
theorem Jl:∀ {ds:List D} {b:List Bool} {us:List Value} {os:List D} {as9 bP:List Arg} {H:List T} {st st':St} {S:List (Nat × RT)} {h0:D→D},Rel C (cz bP++H) w st ay S→jZ h0→uo w (ab C w S (cz bP++H)) S h0 b ds us os as9 bP→gy st h0 b ds os=some st'→
    ∃ S' h1,Rel C H w st' ay S'∧jr C w st st' S S' (cz bP++H) H h0 h1:=by
  intro ds
  induction ds with
  | nil=>
    intro b us os as9 bP H st st' S h0 h hk ha hb
    obtain ⟨rfl,rfl,rfl,rfl⟩:=ha
    simp only [gy,Option.some.injEq] at hb
    subst hb
    exact ⟨S,h0,h,⟨fun _ _ h=>h,hk,lq.refl _,rfl⟩⟩
  | cons d ds ih=>
    intro b us os as9 bP H st st' S h0 h hk ha hb
    obtain ⟨u,Em,o,nJ,a,xA,a',xB,rfl,rfl,rfl,rfl,e5,e6⟩:=ha
    have hh:cz (a'::xB)++H=a'.2++(cz xB++H):=by simp [cz]
    rw [hh] at h e5 e6 ⊢
    simp only [gy] at hb
    split at hb
    · rename_i qc
      rw [if_pos qc] at e5
      split at hb
      case h_2=>simp at hb
      rename_i aC h1 zl
      obtain ⟨S1,c1,c2⟩:=OV h hk e5 zl
      obtain ⟨S2,h2,d1,d2⟩:=ih c1 c2.QV (e6.step c2.Lc c2.D8) hb
      exact ⟨S2,h2,d1,c2.trans d2⟩
    · rename_i qc
      rw [if_neg qc] at e5
      subst e5
      have hd:=nI (Hs:=[]) (H:=cz xB++H) h
      obtain ⟨S2,h2,d1,d2⟩:=ih hd.1 hk e6 hb
      exact ⟨S2,h2,d1,d2⟩
end
end Go.Proofs.Ytockoilcnmljiaa
namespace Go.Proofs.Ytockoilcnmljiaa
def v7:D→List D
  | .agg cs=>cs
  | d=>[d]
theorem tD (ds:List D):cK (.aQ ds)=ds.flatMap v7:=rfl
theorem nq {d:D} {v:Value} {ts:List T} (h:eR d v ts):aL ts=v7 d:=by
  cases d<;>first | exact h.1.symm | (obtain ⟨t,rfl,h1,_⟩:=h; rw [h1]; simp [aL,v7,← h1])
theorem xC:∀ {ds:List D} {us:List Value} {ts:List T},qe ds us ts→aL ts=ds.flatMap v7
  | [],us,ts,h=>by obtain ⟨rfl,rfl⟩:=h; rfl
  | d::ds,us,ts,h=>by
    obtain ⟨u,jb,t1,t2,rfl,rfl,h1,h2⟩:=h
    rw [rG,nq h1,xC h2,List.flatMap_cons]
theorem pq {w:World} {X:Bool→Nat→Prop} {d:D} {v:Value} {ts:List T} (hs:aU w X ts) (h:eR d v ts):cK d=v7 d:=by
  cases d with
  | aQ ds=>
    obtain ⟨t,rfl,h1,_⟩:=h
    exact absurd h1.symm ((pn ((bL _).1 hs t (by simp))).2.2 ds)
  | _=>rfl
section
variable {C:Ctx} {w:World} {ay:List (Array Value)} {H:List T} {S:List (Nat × RT)}
theorem vu (hm:Mem C w S H) {r:Nat} {R:RT} (hR:lk S r=some R) {d:D} {v:Value} {ts A B:List T} (hf:eR d v ts) (dU:R.cs=A++ts++B):fN w (ab C w S H) S (yu r A.length d) v:=by
  have lp:∀ (i:Nat) (t:T),ts[i]?=some t→R.cs[A.length+i]?=some t:=fun i t hi=>by
    have cJ:=(List.getElem?_eq_some_iff.1 hi).1
    rw [dU,List.append_assoc,List.getElem?_append_right (by omega),List.getElem?_append_left (by omega)]
    rw [← hi]; congr 1; omega
  by_cases ha:∃ cs,d=.agg cs
  · obtain ⟨cs,rfl⟩:=ha
    obtain ⟨rfl,us,rfl,hu⟩:=hf
    refine ⟨us,rfl,cL (by rw [nB,eF,hu,bd]) (fun i x y hx hy=>?_)⟩
    rw [lM,gA] at hx
    rw [hu,eD] at hy
    cases hi:ts[i]? with
    | none=>simp [hi] at hx
    | some t=>
      simp only [hi,Option.map_some,Option.some.injEq] at hx hy
      subst hx; subst hy
      exact nA hm hR rfl (lp i t hi)
  · have hv:yu r A.length d=fL r [] A.length d:=by cases d<;>first | rfl | exact absurd ⟨_,rfl⟩ ha
    have MQ:∃ t,ts=[t]∧d=t.er∧v=t.val:=by cases d<;>first | exact hf | exact absurd ⟨_,rfl⟩ ha
    obtain ⟨t,rfl,rfl,rfl⟩:=MQ
    rw [hv]
    exact dF (nA hm hR rfl (lp 0 t rfl))
theorem zB (hm:Mem C w S H) {r:Nat} {R:RT} (hR:lk S r=some R) {X:Bool→Nat→Prop}:∀ {ds:List D} {us:List Value} {ts A B:List T},qe ds us ts→aU w X ts→R.cs=A++ts++B→bC (fN w (ab C w S H) S) (AW r A.length ds) us
  | [],us,ts,A,B,h,_,_=>by obtain ⟨rfl,rfl⟩:=h; exact .nil
  | d::ds,us,ts,A,B,h,hs,dU=>by
    obtain ⟨u,jb,t1,t2,rfl,rfl,h1,h2⟩:=h
    rw [da] at hs
    simp only [AW]
    refine .cons (vu hm hR (B:=t2++B) h1 (by rw [dU]; simp)) ?_
    have hl:A.length+(cK d).length=(A++t1).length:=by rw [pq hs.1 h1,← nq h1,eF,List.length_append]
    rw [hl]
    exact zB hm hR (B:=B) h2 hs.2 (by rw [dU]; simp)
theorem vv {X:Bool→Nat→Prop} {d:D} {v:Value} {ts:List T} (hf:eR d v ts) (hs:aU w X ts) (mz:(v7 d).any gQ=false):fN w X S d v:=by
  have hl:∀ t∈ts,Ext w X t.er t.val:=fun t ht=>by
    have h1:=(bL _).1 hs t ht
    cases t with
    | v d u=>exact h1
    | own s n cap a cs=>
      rw [← nq hf] at mz
      have:=List.any_eq_false.1 mz (T.own s n cap a cs).er (by rw [dT]; exact List.mem_map.2 ⟨_,ht,rfl⟩)
      simp [T.er,gQ] at this
  by_cases ha:∃ cs,d=.agg cs
  · obtain ⟨cs,rfl⟩:=ha
    obtain ⟨rfl,us,rfl,hu⟩:=hf
    refine ⟨us,rfl,cL (by rw [eF,hu,bd]) (fun i x y hx hy=>?_)⟩
    rw [gA] at hx
    rw [hu,eD] at hy
    cases hi:ts[i]? with
    | none=>simp [hi] at hx
    | some t=>
      simp only [hi,Option.map_some,Option.some.injEq] at hx hy
      subst hx; subst hy
      exact eQ (hl t (List.mem_of_getElem? hi))
  · have MQ:∃ t,ts=[t]∧d=t.er∧v=t.val:=by cases d<;>first | exact hf | exact absurd ⟨_,rfl⟩ ha
    obtain ⟨t,rfl,rfl,rfl⟩:=MQ
    exact dF (eQ (hl t (by simp)))
theorem zC {X:Bool→Nat→Prop}:∀ {ds:List D} {us:List Value} {ts:List T},qe ds us ts→aU w X ts→(ds.flatMap v7).any gQ=false→bC (fN w X S) ds us
  | [],us,ts,h,_,_=>by obtain ⟨rfl,rfl⟩:=h; exact .nil
  | d::ds,us,ts,h,hs,mz=>by
    obtain ⟨u,jb,t1,t2,rfl,rfl,h1,h2⟩:=h
    rw [da] at hs
    rw [List.flatMap_cons,List.any_append,Bool.or_eq_false_iff] at mz
    exact .cons (vv h1 hs.1 mz.1) (zC h2 hs.2 mz.2)
theorem OW {eo:List T} {st:St} {vs:Array Value} (h:Rel C (eo++H) w st (vs::ay) S) {r:D} {v:Value} (hr:El r v eo) {t:Nat} (ht:t < vs.size) (hP:∀ p∈C.P0,p.1≠st.of+t):
    ∃ S',Rel C H w ((st.nW (st.of+t) r).1.put (some t) (st.nW (st.of+t) r).2) (vs.setIfInBounds t v::ay) S':=by
  have cP:=((da _ _).1 h.mem.hand).1
  have TT:(ad eo).Nodup:=by
    have:=h.mem.nd
    rw [aK,List.nodup_append,List.nodup_append] at this
    exact this.2.1.1
  have TU:∀ k∈ad eo,k < w.heap.size:=fun k hk=>h.mem.lt k (by rw [aK]; simp [hk])
  by_cases hp:∃ cs,r=.aJ cs
  · obtain ⟨cs,rfl⟩:=hp
    obtain ⟨b,ts,rfl,rfl,rfl⟩:=hr
    have hb:aT w (ab C w S ([po b ts]++H)) (po b ts):=(bL _).1 cP _ (by simp)
    simp only [po,aT,Nat.one_mul] at hb
    obtain ⟨_,_,ef,fI⟩:=hb
    have ea:∀ k∈(RT.mk (some b) ts).ft,k∈ad [po b ts]∨w.heap.size≤k:=fun k hk=>.inl (by simpa [RT.ft,ad,po,T.ft,hL] using hk)
    have bV:=mu (r:=st.of+t) (R:=⟨some b,ts⟩) h ea (Nat.le_refl _) (fun _ _=>rfl)
    obtain ⟨h1,_⟩:=vk (r:=st.of+t) (R:=⟨some b,ts⟩) h ⟨ef,fun x hx=>by
        have:=(bL _).1 fI x hx
        have:=c9 bV x this (fun _ _=>rfl)
        cases x with
        | v d u=>exact .inl this
        | own s n cap a cs=>exact this⟩
      ⟨by simpa [RT.ft,ad,po,T.ft,hL] using TT,ea⟩ (fun k hk=>TU k (by simpa [RT.ft,ad,po,T.ft,hL] using hk)) (Nat.le_refl _) (fun _ _=>rfl) rfl rfl rfl hP
    refine ⟨_,h1.put ht ?_⟩
    intro R hR
    rw [bX,Option.some.injEq] at hR
    subst hR
    exact ⟨fun _=>rfl,fun b' off ha=>by simp only [bw,Option.map_some,Option.some.injEq,Prod.mk.injEq] at ha; obtain ⟨rfl,rfl⟩:=ha; rfl⟩
  · have pL:aL eo=cK r:=by
      by_cases iD:∃ ds,r=.aQ ds
      · obtain ⟨ds,rfl⟩:=iD
        obtain ⟨us,rfl,hf⟩:=hr
        rw [tD]; exact xC hf
      · have hf:eR r v eo:=by cases r<;>first | exact hr | exact absurd ⟨_,rfl⟩ hp | exact absurd ⟨_,rfl⟩ iD
        rw [pq cP hf]; exact nq hf
    have had:st.nW (st.of+t) r=if (cK r).any gQ then ({ st.ej (bW (st.of+t)) with rt:=pz (st.ej (bW (st.of+t))).rt (st.of+t) (cK r) },yv (st.of+t) r) else (st,r):=by
      cases r<;>first | rfl | exact absurd ⟨_,rfl⟩ hp
    rw [had]
    by_cases ir:(cK r).any gQ=true
    · rw [if_pos ir]
      have ea:∀ k∈(RT.mk none eo).ft,k∈ad eo∨w.heap.size≤k:=fun k hk=>.inl (by simpa [RT.ft] using hk)
      have bV:=mu (r:=st.of+t) (R:=⟨none,eo⟩) h ea (Nat.le_refl _) (fun _ _=>rfl)
      obtain ⟨h1,_⟩:=vk (r:=st.of+t) (R:=⟨none,eo⟩) h ⟨trivial,fun x hx=>by
          have:=(bL _).1 cP x hx
          have:=c9 bV x this (fun _ _=>rfl)
          cases x with
          | v d u=>exact .inl this
          | own s n cap a cs=>exact this⟩
        ⟨by simpa [RT.ft] using TT,ea⟩ (fun k hk=>TU k (by simpa [RT.ft] using hk)) (Nat.le_refl _) (fun _ _=>rfl) rfl rfl rfl hP
      rw [← pL]
      refine ⟨_,h1.put ht ?_⟩
      have v8:lk (pt (fS (bW (st.of+t)) S) (st.of+t) ⟨none,eo⟩) (st.of+t)=some ⟨none,eo⟩:=bX _ _ _
      by_cases iD:∃ ds,r=.aQ ds
      · obtain ⟨ds,rfl⟩:=iD
        obtain ⟨us,rfl,hf⟩:=hr
        refine ⟨us,rfl,?_⟩
        exact zB h1.mem v8 (A:=[]) (B:=[]) hf cP (by simp)
      · have hf:eR r v eo:=by cases r<;>first | exact hr | exact absurd ⟨_,rfl⟩ hp | exact absurd ⟨_,rfl⟩ iD
        have hv:yv (st.of+t) r=yu (st.of+t) 0 r:=by cases r<;>first | rfl | exact absurd ⟨_,rfl⟩ iD
        rw [hv]
        exact jk (vu h1.mem v8 (A:=[]) (B:=[]) hf (by simp))
    · rw [if_neg ir]
      have ir:(cK r).any gQ=false:=by simpa using ir
      obtain ⟨h1,_⟩:=nI h
      have hX:∀ b k,ab C w S (eo++H) b k→ab C w S H b k:=iC (fun k hk=>by
        rw [aK]
        rcases List.mem_append.1 hk with h | h<;>simp [h])
      have hs:=fc hX _ cP
      refine ⟨S,h1.put ht ?_⟩
      by_cases iD:∃ ds,r=.aQ ds
      · obtain ⟨ds,rfl⟩:=iD
        obtain ⟨us,rfl,hf⟩:=hr
        exact ⟨us,rfl,zC hf hs ir⟩
      · have hf:eR r v eo:=by cases r<;>first | exact hr | exact absurd ⟨_,rfl⟩ hp | exact absurd ⟨_,rfl⟩ iD
        rw [pq cP hf] at ir
        exact jk (vv hf hs ir)
end
end Go.Proofs.Ytockoilcnmljiaa
namespace Go.Proofs.Ytockoilcnmljiaa
mutual
def qf (b:Bool):T→T
  | .v d u=>.v (gx b (aZ d)) u
  | .own s n cap a cs=>.own s n cap a (fC b cs)
def fC (b:Bool):List T→List T
  | []=>[]
  | t::ts=>qf b t::fC b ts
end
theorem OX {d:D} (h:∀ s n cs,d≠.sl none s n cs):aZ d=d:=by
  cases d with
  | sl g s n cs=>cases g with
    | none=>exact absurd rfl (h s n cs)
    | some g=>rfl
  | _=>rfl
theorem MR (d:D) (s n:Nat) (cs:List D):aZ d≠.sl none s n cs:=by
  cases d with
  | sl g s n cs=>cases g<;>simp [aZ]
  | _=>simp [aZ]
theorem HE (b:Bool) (d:D):aZ (gx b (aZ d))=gx b (aZ d):=by
  refine OX (fun s n cs=>?_)
  have:=MR d
  cases h:aZ d with
  | sl g s' n' cs'=>
    cases g with
    | none=>exact absurd h (this _ _ _)
    | some g=>simp [gx]
  | _=>simp [gx]
mutual
theorem yI (b:Bool):∀ t:T,(qf b t).er=gx b t.er
  | .v d u=>by simp only [qf,T.er]; exact HE b d
  | .own s n cap a cs=>by simp only [qf,T.er,gx]; rw [rS b cs]
theorem rS (b:Bool):∀ ts:List T,aL (fC b ts)=dA b (aL ts)
  | []=>rfl
  | t::ts=>by simp only [fC,aL,dA]; rw [yI b t,rS b ts]
end
theorem xD (b:Bool) (t:T):(qf b t).val=t.val:=by cases t<;>rfl
theorem pv (b:Bool):∀ ts:List T,av (fC b ts)=av ts
  | []=>rfl
  | t::ts=>by simp only [fC,av]; rw [xD,pv b ts]
mutual
theorem Wf (b:Bool):∀ t:T,(qf b t).ft=t.ft
  | .v _ _=>rfl
  | .own s n cap a cs=>by simp only [qf,T.ft]; rw [rT b cs]
theorem rT (b:Bool):∀ ts:List T,ad (fC b ts)=ad ts
  | []=>rfl
  | t::ts=>by simp only [fC,ad]; rw [Wf b t,rT b ts]
end
theorem rm (b:Bool):∀ ts:List T,(fC b ts).length=ts.length
  | []=>rfl
  | t::ts=>by simp [fC,rm b ts]
theorem yJ (b:Bool):∀ x y:List T,fC b (x++y)=fC b x++fC b y
  | [],_=>rfl
  | t::ts,y=>by simp [fC,yJ b ts y]
theorem HF (b:Bool):∀ cs:List D,(dA b cs).length=cs.length
  | []=>rfl
  | d::ds=>by simp [dA,HF b ds]
section
variable {w:World} {X X':Bool→Nat→Prop} {b:Bool} (hX:∀ g k,X g k→X' b k)
include hX
mutual
theorem J3:∀ (d:D) (u:Value),Ext w X d u→Ext w X' (gx b d) u
  | .int _ _,_,hu=>hu
  | .bool _,_,hu=>hu
  | .str _,_,hu=>hu
  | .nil _,_,hu=>hu
  | .undef,_,_=>trivial
  | .hole _ _,_,_=>trivial
  | .sl (some g) s n cs,u,hu=>by
    simp only [Ext,gx] at hu ⊢
    obtain ⟨base,cap,us,h1,mN,h2,h3,h4⟩:=hu
    refine ⟨base,cap,us,h1,mN,by rw [HF]; exact h2,HG cs us h3,?_⟩
    rcases h4 with h4 | ⟨k,off,c,e,fz,h5,h6,h7,h8⟩
    · left; rw [h4]; rfl
    · exact .inr ⟨k,off,c,e,fz,h5,hX g k h6,h7,h8⟩
  | .sl none _ _ _,_,hu=>by simp [Ext] at hu
  | .ref ..,_,hu=>by simp [Ext] at hu
  | .agg _,_,hu=>by simp [Ext] at hu
  | .aQ _,_,hu=>by simp [Ext] at hu
  | .fn ..,_,hu=>by simp [Ext] at hu
  | .ptr ..,_,hu=>by simp [Ext] at hu
  | .cZ ..,_,hu=>by simp [Ext] at hu
  | .aJ _,_,hu=>by simp [Ext] at hu
theorem HG:∀ (ds:List D) (us:List Value),fo w X ds us→fo w X' (dA b ds) us
  | [],_,hu=>by have _:=hX; exact hu
  | d::ds,us,hu=>by
    simp only [fo,dA] at hu ⊢
    obtain ⟨v,vs,h1,h2,h3⟩:=hu
    exact ⟨v,vs,h1,J3 d v h2,HG ds vs h3⟩
end
mutual
theorem TV:∀ (t:T),aT w X t→aT w X' (qf b t)
  | .v d u,hs=>by
    simp only [aT,qf] at hs ⊢
    rw [HE]
    exact J3 hX _ _ hs
  | .own s n cap a cs,hs=>by
    simp only [aT,qf] at hs ⊢
    obtain ⟨h1,h2,h3,h4⟩:=hs
    rw [pv,rm]
    exact ⟨h1,h2,h3,uq cs h4⟩
theorem uq:∀ (ts:List T),aU w X ts→aU w X' (fC b ts)
  | [],_=>by have _:=hX; simp [aU,fC]
  | t::ts,hs=>by
    simp only [aU,fC] at hs ⊢
    exact ⟨TV t hs.1,uq ts hs.2⟩
end
end
section
variable {w:World} {X:Bool→Nat→Prop}
mutual
theorem MS:∀ (d:D) (u:Value),Ext w X d u→bz d=true→Ext w (fun g k=>g=false∧X false k) d u
  | .int _ _,_,hu,_=>hu
  | .bool _,_,hu,_=>hu
  | .str _,_,hu,_=>hu
  | .nil _,_,hu,_=>hu
  | .undef,_,_,_=>trivial
  | .hole _ _,_,_,_=>trivial
  | .sl (some g) s n cs,u,hu,hn=>by
    simp only [Ext] at hu ⊢
    simp only [bz,Bool.and_eq_true] at hn
    have hg:g=false:=by cases g with
      | false=>rfl
      | true=>exact absurd hn.1 (by decide)
    subst hg
    obtain ⟨base,cap,us,h1,mN,h2,h3,h4⟩:=hu
    refine ⟨base,cap,us,h1,mN,h2,J4 cs us h3 hn.2,?_⟩
    rcases h4 with h4 | ⟨k,off,c,e,fz,h5,h6,h7,h8⟩
    · exact .inl h4
    · exact .inr ⟨k,off,c,e,fz,h5,⟨rfl,h6⟩,h7,h8⟩
  | .sl none _ _ _,_,hu,_=>by simp [Ext] at hu
  | .ref ..,_,hu,_=>by simp [Ext] at hu
  | .agg _,_,hu,_=>by simp [Ext] at hu
  | .aQ _,_,hu,_=>by simp [Ext] at hu
  | .fn ..,_,hu,_=>by simp [Ext] at hu
  | .ptr ..,_,hu,_=>by simp [Ext] at hu
  | .cZ ..,_,hu,_=>by simp [Ext] at hu
  | .aJ _,_,hu,_=>by simp [Ext] at hu
theorem J4:∀ (ds:List D) (us:List Value),fo w X ds us→bD ds=true→fo w (fun g k=>g=false∧X false k) ds us
  | [],_,hu,_=>hu
  | d::ds,us,hu,hn=>by
    simp only [fo] at hu ⊢
    simp only [bD,Bool.and_eq_true] at hn
    obtain ⟨v,vs,h1,h2,h3⟩:=hu
    exact ⟨v,vs,h1,MS d v h2 hn.1,J4 ds vs h3 hn.2⟩
end
mutual
theorem TW:∀ (t:T),aT w X t→bz t.er=true→aT w (fun g k=>g=false∧X false k) t
  | .v d u,hs,hn=>by
    simp only [aT] at hs ⊢
    exact MS _ _ hs hn
  | .own s n cap a cs,hs,hn=>by
    simp only [aT] at hs ⊢
    simp only [T.er,bz,Bool.and_eq_true] at hn
    exact ⟨hs.1,hs.2.1,hs.2.2.1,yK cs hs.2.2.2 hn.2⟩
theorem yK:∀ (ts:List T),aU w X ts→bD (aL ts)=true→aU w (fun g k=>g=false∧X false k) ts
  | [],_,_=>by simp [aU]
  | t::ts,hs,hn=>by
    simp only [aU] at hs ⊢
    simp only [aL,bD,Bool.and_eq_true] at hn
    exact ⟨TW t hs.1 hn.1,yK ts hs.2 hn.2⟩
end
end
theorem dz:∀ ds:List D,bD ds=ds.all bz
  | []=>rfl
  | d::ds=>by simp [bD,dz ds]
mutual
theorem HH:∀ d:D,bz d=true→gx false d=d
  | .sl none s n cs,h=>by
    simp only [bz,Bool.and_eq_true] at h
    simp only [gx]
    rw [rn cs h.2]
  | .sl (some g) s n cs,h=>by
    simp only [bz,Bool.and_eq_true] at h
    have hg:g=false:=by cases g with
      | false=>rfl
      | true=>exact absurd h.1 (by decide)
    subst hg
    simp only [gx]
    rw [rn cs h.2]
  | .int _ _,_=>rfl
  | .bool _,_=>rfl
  | .str _,_=>rfl
  | .nil _,_=>rfl
  | .undef,_=>rfl
  | .hole _ _,_=>rfl
  | .ref ..,_=>rfl
  | .agg _,_=>rfl
  | .aQ _,_=>rfl
  | .fn ..,_=>rfl
  | .ptr ..,_=>rfl
  | .cZ ..,_=>rfl
  | .aJ _,_=>rfl
theorem rn:∀ ds:List D,bD ds=true→dA false ds=ds
  | [],_=>rfl
  | d::ds,h=>by
    simp only [bD,Bool.and_eq_true] at h
    simp only [dA]
    rw [HH d h.1,rn ds h.2]
end
def ow (b:Bool):D→D
  | .agg cs=>.agg (dA b cs)
  | d=>gx b d
theorem Ak (b:Bool) (vs:List D):fU b (.aQ vs)=.aQ (vs.map (ow b)):=by
  simp only [fU]
  congr 1
theorem CG (d:D) (h:(bB d).all bz=true):fU false d=d:=by
  cases d with
  | agg cs=>simp only [fU]; rw [rn cs (by rw [dz]; exact h)]
  | aJ cs=>simp only [fU]; rw [rn cs (by rw [dz]; exact h)]
  | aQ vs=>
    rw [Ak]
    have hx:∀ x∈vs,ow false x=id x:=by
      intro x hx
      have hh:∀ y∈v7 x,bz y=true:=fun y hy=>by
        refine List.all_eq_true.1 h y ?_
        simp only [bB,tD,List.mem_flatMap]
        exact ⟨x,hx,hy⟩
      cases x with
      | agg cs=>simp only [ow]; rw [rn cs (by rw [dz]; exact List.all_eq_true.2 hh)]; rfl
      | _=>exact HH _ (hh _ (by simp [v7]))
    rw [List.map_congr_left hx,List.map_id]
  | _=>
    simp only [bB,cK,List.all_cons,List.all_nil,Bool.and_true] at h
    exact HH _ h
theorem xE {w:World} {X:Bool→Nat→Prop} {b:Bool} {d:D} {u:Value} {ts:List T} (hf:eR d u ts) (hs:aU w X ts):eR (ow b d) u (fC b ts):=by
  by_cases ha:∃ cs,d=.agg cs
  · obtain ⟨cs,rfl⟩:=ha
    obtain ⟨rfl,us,rfl,hu⟩:=hf
    exact ⟨(rS b ts).symm,us,rfl,by rw [pv]; exact hu⟩
  · have MQ:∃ t,ts=[t]∧d=t.er∧u=t.val:=by cases d<;>first | exact hf | exact absurd ⟨_,rfl⟩ ha
    obtain ⟨t,rfl,rfl,rfl⟩:=MQ
    have h1:=(bL _).1 hs t (by simp)
    have hp:ow b t.er=gx b t.er:=by
      cases he:t.er<;>first | rfl | exact absurd ⟨_,he⟩ ha
    rw [hp,← yI b t,← xD b t]
    have h2:∀ cs,(qf b t).er≠.agg cs:=by
      intro cs
      rw [yI]
      cases he:t.er with
      | agg cs'=>exact absurd ⟨_,he⟩ ha
      | sl g s n cs'=>cases g<;>simp [gx]
      | _=>simp [gx]
    have h3:∀ d,(∀ cs,d≠.agg cs)→d=(qf b t).er→eR d (qf b t).val (fC b [t]):=fun d hn e=>by
      cases d<;>first | exact ⟨_,rfl,e,rfl⟩ | exact absurd rfl (hn _)
    exact h3 _ h2 rfl
theorem Bv {w:World} {X:Bool→Nat→Prop} {b:Bool}:∀ {ds:List D} {us:List Value} {ts:List T},qe ds us ts→aU w X ts→qe (ds.map (ow b)) us (fC b ts)
  | [],us,ts,h,_=>by obtain ⟨rfl,rfl⟩:=h; exact ⟨rfl,rfl⟩
  | d::ds,us,ts,h,hs=>by
    obtain ⟨u,jb,t1,t2,rfl,rfl,h1,h2⟩:=h
    rw [da] at hs
    exact ⟨u,jb,_,_,rfl,yJ b t1 t2,xE h1 hs.1,Bv h2 hs.2⟩
theorem En {b:Bool} {d:D} (h1:∀ cs,d≠.aJ cs) (h2:∀ cs,d≠.aQ cs):fU b d=ow b d:=by
  cases d<;>first | rfl | exact absurd rfl (h1 _) | exact absurd rfl (h2 _)
theorem RK {w:World} {X:Bool→Nat→Prop} {b:Bool} {r:D} {v:Value} {ts:List T} (hr:El r v ts) (hs:aU w X ts):El (fU b r) v (fC b ts):=by
  by_cases hp:∃ cs,r=.aJ cs
  · obtain ⟨cs,rfl⟩:=hp
    obtain ⟨bk,J2,rfl,rfl,rfl⟩:=hr
    exact ⟨bk,fC b J2,by simp [fC,po,qf,rm],(rS b J2).symm,rfl⟩
  by_cases iD:∃ ds,r=.aQ ds
  · obtain ⟨ds,rfl⟩:=iD
    obtain ⟨us,rfl,hf⟩:=hr
    rw [Ak]
    exact ⟨us,rfl,Bv hf hs⟩
  have hf:eR r v ts:=by cases r<;>first | exact hr | exact absurd ⟨_,rfl⟩ hp | exact absurd ⟨_,rfl⟩ iD
  rw [En (fun cs e=>hp ⟨cs,e⟩) (fun cs e=>iD ⟨cs,e⟩)]
  have h2:=xE (b:=b) hf hs
  have h3:(∀ cs,ow b r≠.aJ cs)∧∀ cs,ow b r≠.aQ cs:=by
    cases r with
    | aJ cs=>exact absurd ⟨_,rfl⟩ hp
    | aQ cs=>exact absurd ⟨_,rfl⟩ iD
    | sl g s n cs=>cases g<;>simp [ow,gx]
    | _=>simp [ow,gx]
  have:∀ d,(∀ cs,d≠.aJ cs)→(∀ cs,d≠.aQ cs)→eR d v (fC b ts)→El d v (fC b ts):=fun d h4 h5 h6=>by
    cases d<;>first | exact h6 | exact absurd rfl (h4 _) | exact absurd rfl (h5 _)
  exact this _ h3.1 h3.2 h2
theorem OY {w:World} {X:Bool→Nat→Prop} {b c:Bool} {o:D} {a a':Arg} (h:mB w c o a a') (hs:aU w X a'.2):mB w c (fU b o) a (a'.1,fC b a'.2):=by
  cases c with
  | false=>
    simp only [mB] at h ⊢
    rw [h]; rfl
  | true=>
    cases o with
    | aJ cs=>
      obtain ⟨h1,⟨bk,h2,h3⟩,h4⟩:=h
      exact ⟨h1,⟨bk,h2,by simp only [rm,pv]; exact h3⟩,by rw [h4]; exact (rS b _).symm⟩
    | agg cs=>
      obtain ⟨h1,h2,h3,h4⟩:=h
      exact ⟨h1,h2,by rw [h3]; exact (rS b _).symm,by simp only [pv]; exact h4⟩
    | aQ vs=>
      obtain ⟨h1,h2,h3⟩:=h
      rw [Ak]
      refine ⟨h1,h2,?_⟩
      rcases h3 with ⟨h3,_⟩ | ⟨t,h3,h4,_⟩
      · exact .inl ⟨by rw [h3]; rfl,by simp⟩
      · rw [h3] at hs
        exact absurd h4.symm ((pn ((bL _).1 hs t (by simp))).2.2 vs)
    | sl g s n cs=>
      obtain ⟨h1,h2,h3⟩:=h
      cases g with
      | none=>
        refine ⟨h1,h2,?_⟩
        rcases h3 with ⟨_,h3⟩ | ⟨t,h3,h4,h5⟩
        · exact absurd rfl (h3 s n cs)
        · exact .inr ⟨qf b t,by rw [h3]; rfl,by rw [yI,← h4]; rfl,by simp only [av,xD] at h5 ⊢; exact h5⟩
      | some g=>
        refine ⟨h1,h2,?_⟩
        rcases h3 with ⟨h3,_⟩ | ⟨t,h3,h4,h5⟩
        · exact .inl ⟨by rw [h3]; rfl,by simp [fU,gx]⟩
        · exact .inr ⟨qf b t,by rw [h3]; rfl,by rw [yI,← h4]; rfl,by simp only [av,xD] at h5 ⊢; exact h5⟩
    | _=>
      obtain ⟨h1,h2,h3⟩:=h
      refine ⟨h1,h2,?_⟩
      rcases h3 with ⟨h3,_⟩ | ⟨t,h3,h4,h5⟩
      · exact .inl ⟨by rw [h3]; rfl,by simp [fU,gx]⟩
      · exact .inr ⟨qf b t,by rw [h3]; rfl,by rw [yI,← h4]; rfl,by simp only [av,xD] at h5 ⊢; exact h5⟩
theorem RL {w:World} {X X':Bool→Nat→Prop} {b:Bool} {d:D} {u:Value} {a:Arg} (h:Ek w X true d u a) (hs:aU w X a.2):Ek w X' true (fU b d) u (a.1,fC b a.2):=by
  by_cases hp:∃ cs,d=.aJ cs
  · obtain ⟨cs,rfl⟩:=hp
    obtain ⟨bk,h1,h2,h3,h4,h5⟩:=h
    refine ⟨bk,h1,fun e=>h2 ?_,by rw [h3]; exact (rS b _).symm,h4,by simp only [rm,pv]; exact h5⟩
    have:=congrArg List.length e
    simp only [rm,List.length_nil] at this
    exact List.length_eq_zero_iff.1 this
  · have hf:a.1=none∧eR d u a.2:=by cases d<;>first | exact h | exact absurd ⟨_,rfl⟩ hp
    have iD:∀ vs,d≠.aQ vs:=by
      rintro vs rfl
      obtain ⟨t,e1,e2,_⟩:=hf.2
      rw [e1] at hs
      exact (pn ((bL _).1 hs t (by simp))).2.2 vs e2.symm
    rw [En (fun cs e=>hp ⟨cs,e⟩) iD]
    have h2:=xE (b:=b) hf.2 hs
    have h3:∀ cs,ow b d≠.aJ cs:=by
      cases d with
      | aJ cs=>exact absurd ⟨_,rfl⟩ hp
      | sl g s n cs=>cases g<;>simp [ow,gx]
      | _=>simp [ow,gx]
    have:∀ d,(∀ cs,d≠.aJ cs)→eR d u (fC b a.2)→Ek w X' true d u (a.1,fC b a.2):=fun d h4 h6=>by
      cases d<;>first | exact ⟨hf.1,h6⟩ | exact absurd rfl (h4 _)
    exact this _ h3 h2
end Go.Proofs.Ytockoilcnmljiaa
namespace Go.Proofs.Ytockoilcnmljiaa
theorem iv:∀ as9:List Arg,(aS as9).Perm (as9.filterMap Prod.fst++ad (cz as9))
  | []=>.refl _
  | (bx,ts)::as9=>by
    have ih:=iv as9
    have h1:cz ((bx,ts)::as9)=ts++cz as9:=by simp [cz]
    rw [h1,aK]
    simp only [aS,yH]
    refine List.perm_iff_count.2 fun a=>?_
    have:=List.perm_iff_count.1 ih a
    cases bx<;>simp only [List.filterMap_cons,Option.toList,List.count_append,List.count_cons,List.count_nil] at this ⊢<;>omega
theorem lQ (as9:List Arg):(ad (cq as9)).Perm (ad (cz as9)):=by
  refine Ad ?_
  induction as9 with
  | nil=>exact .refl _
  | cons a as9 ih=>
    rw [ov]
    have:cz (a::as9)=a.2++cz as9:=by simp [cz]
    rw [this]
    exact (List.perm_append_comm).trans (List.Perm.append_left _ ih)
theorem js {as9:List Arg} {k:Nat}:k∈aS as9↔k∈as9.filterMap Prod.fst∨k∈ad (cq as9):=by
  rw [(iv as9).mem_iff,List.mem_append,(lQ as9).mem_iff]
def qg (b:Bool) (a:Arg):Arg:=(a.1,fC b a.2)
theorem nK (b:Bool):∀ as9:List Arg,aS (as9.map (qg b))=aS as9
  | []=>rfl
  | a::as9=>by simp only [List.map_cons,aS,nK b as9,yH,qg,rT]
theorem Eo (b:Bool):∀ as9:List Arg,cz (as9.map (qg b))=fC b (cz as9)
  | []=>rfl
  | a::as9=>by
    have h1:cz (a::as9)=a.2++cz as9:=by simp [cz]
    have h2:cz ((a::as9).map (qg b))=(fC b a.2)++cz (as9.map (qg b)):=by simp [cz,qg]
    rw [h1,h2,yJ,Eo b as9]
theorem tU {w:World} {X:Bool→Nat→Prop} {as9:List Arg}:aU w X (cz as9)↔∀ a∈as9,aU w X a.2:=by
  rw [bL]
  simp only [cz,List.mem_flatten,List.mem_map]
  constructor
  · intro h a ha
    rw [bL]
    exact fun t ht=>h t ⟨_,⟨a,ha,rfl⟩,ht⟩
  · rintro h t ⟨l,⟨a,ha,rfl⟩,ht⟩
    exact (bL _).1 (h a ha) t ht
theorem rU {w:World} {X:Bool→Nat→Prop} {as9:List Arg}:aU w X (cq as9)↔∀ a∈as9,aU w X a.2:=by
  rw [bL]
  simp only [cq,List.mem_flatten,List.mem_reverse,List.mem_map]
  constructor
  · intro h a ha
    rw [bL]
    exact fun t ht=>h t ⟨_,⟨a,ha,rfl⟩,ht⟩
  · rintro h t ⟨l,⟨a,ha,rfl⟩,ht⟩
    exact (bL _).1 (h a ha) t ht
theorem HI {w':World} {c b:Bool} {o:D} {a a':Arg} (h:mB w' c o (qg b a) a'):mB w' c o a a':=by
  cases c with
  | false=>exact h
  | true=>
    cases o<;>(simp only [mB,qg,pv] at h ⊢; exact h)
theorem qZ {w:World} {S:List (Nat × RT)}:∀ {b:List Bool} {ds fA:List D} {us:List Value} {as9:List Arg},qd w S b ds fA us as9→∀ bk∈as9.filterMap Prod.fst,∃ r R,lk S r=some R∧R.box=some bk∧R.cs=[]
  | _,[],_,_,_,h,bk,hb=>by obtain ⟨_,_,rfl⟩:=h; simp at hb
  | b,d::ds,fA,us,as9,h,bk,hb=>by
    obtain ⟨d1,vt,u,jb,a,bP,rfl,rfl,rfl,h1,h2⟩:=h
    obtain ⟨bx,ts⟩:=a
    cases bx with
    | none=>simp only [List.filterMap_cons] at hb; exact qZ h2 bk hb
    | some HA=>
      simp only [List.filterMap_cons,List.mem_cons] at hb
      rcases hb with rfl | hb
      · cases qc:b.headD false with
        | false=>rw [qc] at h1; simp [ou] at h1
        | true=>
          rw [qc] at h1
          cases d1 with
          | aJ cs=>
            obtain ⟨r,b2,_,e2,e3,_⟩:=h1
            simp only [Option.some.injEq] at e2
            subst e2
            exact ⟨r,_,e3,rfl,rfl⟩
          | _=>simp [ou] at h1
      · exact qZ h2 bk hb
theorem zD (b:List Bool) (d:D) (ds:List D):eN b (d::ds)=((b.headD false&&!((bB d).all bz))||eN b.tail ds):=rfl
theorem MT {w:World} {S:List (Nat × RT)} {X:Bool→Nat→Prop} {d d1:D} {u:Value} {a:Arg} (h:ou w S true d d1 u a):Ek w X true d1 u a:=by
  cases d1 with
  | aJ cs=>obtain ⟨r,b,_,e2,e3,e4,e5,e6,e7⟩:=h; exact ⟨b,e2,e4,e5,e6,e7⟩
  | _=>exact ⟨h.1,h.2.1⟩
theorem Ep {w:World} {X X1:Bool→Nat→Prop} {d:D} {u:Value} {a:Arg} (h:Ek w X true d u a) (hs:aU w X1 a.2):bB d=aL a.2:=by
  by_cases hp:∃ cs,d=.aJ cs
  · obtain ⟨cs,rfl⟩:=hp
    obtain ⟨b,_,_,e,_⟩:=h
    exact e
  · have hf:eR d u a.2:=by cases d<;>first | exact h.2 | exact absurd ⟨_,rfl⟩ hp
    have:bB d=cK d:=by cases d<;>first | rfl | exact absurd ⟨_,rfl⟩ hp
    rw [this,pq hs hf,nq hf]
section
variable {C:Ctx} {w:World} {st aC:St} {ay:List (Array Value)} {S S1:List (Nat × RT)}
theorem HJ {Hs:List T} (h:Rel C Hs w aC ay S1) {X':Bool→Nat→Prop} (hX:∀ b k,ab C w S1 Hs b k→X' b k) (hF:∀ r R k,lk S1 r=some R→R.cs≠[]→k∈R.ft→X' true k):
    ∀ {b:List Bool} {ds fA pU:List D} {us:List Value} {as9:List Arg},qd w S1 b ds fA us as9→bC (bR w (ab C w S1 Hs) S1) ds us→rB aC b fA=some pU→(∀ a∈as9,aU w (ab C w S1 Hs) a.2)→qH w X' b (iY b pU) us (as9.map (qg false))∧(eN b pU=false→iY b pU=pU∧∀ a∈as9,bD (aL a.2)=true)
  | b,[],fA,pU,us,as9,h1,h2,h3,_=>by
    obtain ⟨rfl,rfl,rfl⟩:=h1
    simp only [rB,Option.some.injEq] at h3
    subst h3
    exact ⟨⟨rfl,rfl⟩,fun _=>⟨rfl,by simp⟩⟩
  | b,d::ds,fA,pU,us,as9,h1,h2,h3,h4=>by
    obtain ⟨d1,vt,u,jb,a,bP,rfl,rfl,rfl,g1,g2⟩:=h1
    cases h2 with
    | cons Er TX=>
    simp only [rB] at h3
    split at h3
    case h_2=>simp at h3
    rename_i d2 kS
    split at h3
    case h_2=>simp at h3
    rename_i CH Zm
    simp only [Option.some.injEq] at h3
    subst h3
    obtain ⟨k1,k2⟩:=HJ h hX hF g2 TX Zm (fun a ha=>h4 a (by simp [ha]))
    have hs:=h4 a (by simp)
    cases hb:b.headD false with
    | false=>
      rw [hb] at g1 kS
      obtain ⟨rfl,rfl⟩:=g1
      simp only [Bool.false_eq_true,if_false] at kS
      refine ⟨⟨u,jb,(none,[]),_,rfl,rfl,?_,k1⟩,fun hl=>?_⟩
      · rw [hb]
        simp only [Bool.false_eq_true,if_false]
        exact ⟨rfl,fun S'=>TR h hX hF Er kS S'⟩
      · rw [zD,hb] at hl
        simp only [Bool.false_and,Bool.false_or] at hl
        obtain ⟨e1,e2⟩:=k2 hl
        refine ⟨by simp only [iY,hb,Bool.false_eq_true,if_false]; rw [e1],fun x hx=>?_⟩
        simp only [List.mem_cons] at hx
        rcases hx with rfl | hx
        · rfl
        · exact e2 x hx
    | true=>
      rw [hb] at g1 kS
      simp only [if_true,Option.some.injEq] at kS
      subst kS
      have ke:=MT (X:=ab C w S1 Hs) g1
      refine ⟨⟨u,jb,qg false a,_,rfl,rfl,?_,k1⟩,fun hl=>?_⟩
      · rw [hb]
        simp only [if_true]
        exact RL ke hs
      · rw [zD,hb] at hl
        simp only [Bool.true_and,Bool.or_eq_false_iff,Bool.not_eq_false'] at hl
        obtain ⟨e1,e2⟩:=k2 hl.2
        refine ⟨by simp only [iY,hb,if_true]; rw [e1,CG _ hl.1],fun x hx=>?_⟩
        simp only [List.mem_cons] at hx
        rcases hx with rfl | hx
        · rw [dz,← Ep ke hs]; exact hl.1
        · exact e2 x hx
theorem OZ {w':World} {b:Bool} {d d1 o:D} {u:Value} {a a':Arg} (g1:ou w S1 b d d1 u a) (g3:mB w' b o a a'):(a'.1=a.1)∧∀ bk,a.1=some bk→jU w' bk 0 0 []:=by
  cases b with
  | false=>
    obtain ⟨rfl,_⟩:=g1
    simp only [mB] at g3
    rw [g3]
    exact ⟨rfl,by simp⟩
  | true=>
    have ef:∀ {bk n us},jU w' bk 0 n us→jU w' bk 0 0 []:=fun ⟨c,e,fz,q1,q2,q3,q4⟩=>⟨c,e,fz,q1,q2,by omega,by simp⟩
    cases o with
    | aJ cs=>
      obtain ⟨e1,⟨bk,e2,e3⟩,_⟩:=g3
      refine ⟨e1,fun HA e=>?_⟩
      rw [e2,Option.some.injEq] at e
      subst e
      exact ef e3
    | _=>exact ⟨g3.2.1.trans g3.1.symm,fun bk e=>by rw [g3.1] at e; simp at e⟩
theorem HK {w':World}:∀ {b:List Bool} {ds fA:List D} {us:List Value} {as9 bP:List Arg} {os:List D},qd w S1 b ds fA us as9→kH w' b os (as9.map (qg false)) bP→
    bP.filterMap Prod.fst=as9.filterMap Prod.fst∧∀ bk∈as9.filterMap Prod.fst,jU w' bk 0 0 []
  | b,[],fA,us,as9,bP,os,h1,h3=>by
    obtain ⟨rfl,rfl,rfl⟩:=h1
    simp only [List.map_nil,kH] at h3
    obtain ⟨rfl,rfl⟩:=h3
    exact ⟨rfl,by simp⟩
  | b,d::ds,fA,us,as9,bP,os,h1,h3=>by
    obtain ⟨d1,vt,u,jb,a,xA,rfl,rfl,rfl,g1,g2⟩:=h1
    simp only [List.map_cons,kH] at h3
    obtain ⟨o,um,a',HC,rfl,rfl,g3,g4⟩:=h3
    obtain ⟨k2,k3⟩:=HK g2 g4
    have TY:=OZ g1 (HI g3)
    refine ⟨by simp only [List.filterMap_cons,TY.1,k2],fun bk rV=>?_⟩
    simp only [List.filterMap_cons] at rV
    cases ha:a.1 with
    | none=>rw [ha] at rV; exact k3 bk rV
    | some b2=>
      rw [ha] at rV
      simp only [List.mem_cons] at rV
      rcases rV with rfl | rV
      · exact TY.2 _ ha
      · exact k3 bk rV
theorem Es {w':World} {X:Bool→Nat→Prop} {t:Bool} {Xo:Bool→Nat→Prop}:∀ {b:List Bool} {ds fA:List D} {us:List Value} {as9 bP:List Arg} {os:List D},qd w S1 b ds fA us as9→bC (bR w' X S1) ds us→kH w' b os (as9.map (qg false)) bP→(∀ a∈bP,aU w' Xo a.2)→
    uo w' X S1 id b ds us (os.map (fU t)) as9 (bP.map (qg t))
  | b,[],fA,us,as9,bP,os,h1,h2,h3,_=>by
    obtain ⟨rfl,rfl,rfl⟩:=h1
    simp only [List.map_nil,kH] at h3
    obtain ⟨rfl,rfl⟩:=h3
    exact ⟨rfl,rfl,rfl,rfl⟩
  | b,d::ds,fA,us,as9,bP,os,h1,h2,h3,h4=>by
    obtain ⟨d1,vt,u,jb,a,xA,rfl,rfl,rfl,g1,g2⟩:=h1
    cases h2 with
    | cons Er TX=>
    simp only [List.map_cons,kH] at h3
    obtain ⟨o,um,a',HC,rfl,rfl,g3,g4⟩:=h3
    have g3:=HI g3
    have k1:=Es (t:=t) g2 TX g4 (fun a ha=>h4 a (by simp [ha]))
    have hs:=h4 a' (by simp)
    refine ⟨u,jb,fU t o,_,a,xA,qg t a',_,rfl,rfl,rfl,rfl,?_,k1⟩
    · cases hb:b.headD false with
      | false=>
        rw [hb] at g3
        simp only [mB] at g3
        simp only [Bool.false_eq_true,if_false]
        rw [g3]; rfl
      | true=>
        rw [hb] at g1 g3
        simp only [if_true]
        have cn:bC (fun x v=>aN w' X S1 (id x) v) (cellsOf d) (fW d u):=by
          by_cases dH:∃ cs,d=.agg cs
          · obtain ⟨cs,rfl⟩:=dH
            obtain ⟨vs,rfl,hv⟩:=Er
            exact hv
          · have X0:(∀ f cs,d≠.fn f cs)∧∀ ds,d≠.aQ ds:=by
              cases d1 with
              | aJ cs=>obtain ⟨r,_,e,_⟩:=g1; subst e; simp
              | _=>exact g1.2.2.2.2.2
            have h1:cellsOf d=[d]:=by cases d<;>first | rfl | exact absurd ⟨_,rfl⟩ dH
            have h2:fW d u=[u]:=by cases d<;>first | rfl | exact absurd ⟨_,rfl⟩ dH
            rw [h1,h2]
            refine .cons ?_ .nil
            rcases tq Er with ⟨ds,_,e,_⟩ | ⟨_,Er⟩
            · exact absurd e (X0.2 ds)
            · rcases pZ Er with ⟨cs,_,e,_⟩ | ⟨f,cs,_,e,_⟩ | ⟨_,_,Er⟩
              · exact absurd ⟨cs,e⟩ dH
              · exact absurd e (X0.1 f cs)
              · exact Er
        refine ⟨cn,OY g3 hs,fun e=>?_,fun bx e=>?_⟩
        · cases d1 with
          | aJ cs=>obtain ⟨r,b2,_,e2,_⟩:=g1; rw [e] at e2; simp at e2
          | _=>exact ⟨g1.2.2.1,g1.2.2.2.1⟩
        · cases d1 with
          | aJ cs=>
            obtain ⟨r,b2,e1,e2,e3,_⟩:=g1
            rw [e,Option.some.injEq] at e2
            subst e2
            exact ⟨r,_,e1,e3,rfl⟩
          | _=>rw [g1.1] at e; simp at e
end
end Go.Proofs.Ytockoilcnmljiaa
