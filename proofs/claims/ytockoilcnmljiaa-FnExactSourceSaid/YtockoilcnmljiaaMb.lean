/- What the proof of FnExactSource stands on, part 2: an abstract machine on plain data, its soundness, and the contracts of functions. -/
import Derived.Lib.AppendZerosOnto
import Derived.Laws.BytesString
import Derived.Laws.Small
import Derived.Laws.Runes
import Derived.Test.YtockoilcnmljiaaMa
set_option linter.all false
set_option linter.unusedSimpArgs false
set_option linter.unusedVariables false
set_option linter.unnecessarySimpa false
set_option linter.unusedSectionVars false
namespace Go.Proofs.Ytockoilcnmljiaa
def gi (d:D) (u:Value):List Value:=
  match d with
  | .agg _=>u.cells.toList
  | _=>[u]
section
variable {C:Ctx} {Hx:List T} {w:World} {aB:List (Array Value)}
theorem Ot {w':World} {S S':List (Nat × RT)} {H H':List T} (h:gB C w w' S S' H H' id) {d:D} {u:Value} (hd:bZ w (ad C w S H) S d u):bZ w' (ad C w' S' H') S' d u:=nV h hd
theorem oK {H:List T} {st st':St} {S:List (Nat × RT)} {d:D} {u:Value} {ds':List D} (h:Rel C H w st aB S) (hd:bZ w (ad C w S H) S d u) (ht:pd st (cellsOf d)=some (ds',st')):
    ∃ ts S',Rel C (ts++H) w st' aB S'∧aP ts=ds'∧ay ts=gi d u∧gB C w w S S' H (ts++H) id∧nX S S'∧ky st st':=by
  by_cases ha:∃ cs,d=.agg cs
  · obtain ⟨cs,rfl⟩:=ha
    obtain ⟨us,rfl,hu⟩:=hd
    exact Cq h hu ht
  · have hc:cellsOf d=[d]:=by cases d<;>first | rfl | exact absurd ⟨_,rfl⟩ ha
    have hv:gi d u=[u]:=by cases d<;>first | rfl | exact absurd ⟨_,rfl⟩ ha
    rw [hc] at ht
    rw [hv]
    have qv:aQ w (ad C w S H) S d u:=by
      cases d<;>first | exact hd | (simp [pd,iv] at ht; done) | exact absurd ⟨_,rfl⟩ ha
    exact Cq h (.cons qv .nil) ht
theorem Ct:∀ {ps:List (Nat × D)} {us:List (Nat × Value)} {H:List T} {st st':St} {S:List (Nat × RT)} {TW:List (Nat × List D)},Rel C H w st aB S→bO (fun p q=>q.1=p.1∧bZ w (ad C w S H) S p.2 q.2) ps us→pB st ps=some (TW,st')→
    ∃ (nY:List (Nat × List T)) (S':List (Nat × RT)),Rel C (nY.flatMap (·.2)++H) w st' aB S'∧nY.map (fun p=>(p.1,p.2.map T.er))=TW∧bO (fun (p:Nat × D) (q:(Nat × List T) × (Nat × Value))=>q.2.1=q.1.1∧q.1.2.map T.val=gi p.2 q.2.2) ps (nY.zip us)∧nY.length=us.length∧gB C w w S S' H (nY.flatMap (·.2)++H) id∧nX S S'∧ky st st':=by
  intro ps
  induction ps with
  | nil=>
    intro us H st st' S TW h hu ht
    cases hu
    simp only [pB,Option.some.injEq,Prod.mk.injEq] at ht
    obtain ⟨rfl,rfl⟩:=ht
    exact ⟨[],S,h,rfl,.nil,rfl,fun _ _ h=>h,nX.refl _,ky.refl _⟩
  | cons p ps ih=>
    intro us H st st' S TW h hu ht
    cases hu with
    | cons qy Al=>
    rename_i q qs
    obtain ⟨i,d⟩:=p
    obtain ⟨j,u⟩:=q
    obtain ⟨rfl,qy⟩:=qy
    simp only [pB] at ht
    split at ht
    case h_2=>simp at ht
    rename_i d1 aE h1
    split at ht
    case h_2=>simp at ht
    rename_i fJ bS h2
    simp only [Option.some.injEq,Prod.mk.injEq] at ht
    obtain ⟨rfl,rfl⟩:=ht
    obtain ⟨ts,S1,a1,rfl,a3,a4,a5,a6⟩:=oK h qy h1
    obtain ⟨nY,S2,b1,rfl,b3,b4,b5,b6,b7⟩:=ih a1 (Al.mono (fun _ _ hh=>⟨hh.1,Ot a4 hh.2⟩)) h2
    have hp:(nY.flatMap (·.2)++(ts++H)).Perm (((j,ts)::nY).flatMap (·.2)++H):=by
      simp only [List.flatMap_cons]
      rw [← List.append_assoc]
      exact List.Perm.append_right _ List.perm_append_comm
    refine ⟨(j,ts)::nY,S2,b1.perm hp,by simp [eg],.cons ⟨rfl,by rw [← cD]; exact a3⟩ b3,by simp [b4],fun d u hd=>?_,a5.trans b6,ky.trans a6 b7⟩
    have:=b5 _ _ (a4 d u hd)
    rwa [x5 hp] at this
end
theorem MO {w:World} {X:Bool→Nat→Prop}:∀ {nY:List (Nat × List T)} {ps:List (Nat × D)} {us:List (Nat × Value)},bO (fun (p:Nat × D) (q:(Nat × List T) × (Nat × Value))=>q.2.1=q.1.1∧q.1.2.map T.val=gi p.2 q.2.2) ps (nY.zip us)→nY.length=us.length→
    (∀ p∈nY,∀ t∈p.2,aZ w X t∧cy t.er=true)→bO (fun p q=>q.1=p.1∧q.2.cells.toList=p.2.map T.val) nY us:=by
  intro nY
  induction nY with
  | nil=>
    intro ps us h hl _
    cases us with
    | nil=>exact .nil
    | cons u us=>simp at hl
  | cons p nY ih=>
    intro ps us h hl hs
    cases us with
    | nil=>simp at hl
    | cons u us=>
      simp only [List.zip_cons_cons] at h
      cases h with
      | cons h1 h2=>
      rename_i d ds
      obtain ⟨e1,e2⟩:=h1
      refine .cons ⟨e1,?_⟩ (ih h2 (by simpa using hl) (fun q hq=>hs q (by simp [hq])))
      simp only at e2
      rw [e2]
      obtain ⟨j,d⟩:=d
      by_cases ha:∃ cs,d=.agg cs
      · obtain ⟨cs,rfl⟩:=ha
        rfl
      · have hv:gi d u.2=[u.2]:=by cases d<;>first | rfl | exact absurd ⟨_,rfl⟩ ha
        simp only at hv ⊢
        simp only [hv] at e2 ⊢
        cases hp:p.2 with
        | nil=>rw [hp] at e2; simp at e2
        | cons t ts=>
          rw [hp] at e2
          simp only [List.map_cons,List.cons.injEq,List.map_eq_nil_iff] at e2
          obtain ⟨e3,rfl⟩:=e2
          obtain ⟨g1,g2⟩:=hs p (by simp) t (by simp [hp])
          have:=(kU g1 g2).2
          rw [e3] at this
          rw [this]
section
variable {P:Program} {c:cf} (ao:dU c P) {C:Ctx} {Hx:List T} {w:World} {st st':St} {a:Act} {aB:List (Array Value)} {S:List (Nat × RT)} (h:Rel C Hx w st (a.tmps::aB) S)
include ao h
theorem Gq {t e:TypeId} {ti ei:TI} (jD:c.ty t=some ti) (TV:ti.ty=.slice e) (he:c.ty e=some ei) {n:Nat} {ps:Array (Nat × Operand)} (hn:n*ei.size≤16777216) {pvs:List (Nat × List D)} {aE:St}
    (hp:pB st (ps.toList.map fun p=>(p.1,bW c st e p.2))=some (pvs,aE)) {cs:List D} (hf:lJ cy (fun i=>some (i*ei.size,ei.size)) (fm n ei.zero) pvs=some cs)
    {d:Nat} (ht:d < a.tmps.size) (hP:∀ p∈C.P0,p.1≠st.of+d) (hr:aE.root (some d) [.sl none ei.size n cs] (fun d=>.ref d [] 0 none)=some st'):
    ∃ v w',(Instr.buildSlice t n (ps.map fun (i,x)=>(i,a.eval x))).run P w=.ok v w'∧dp w w'∧∃ S',Rel C Hx w' st' (a.tmps.setIfInBounds d v::aB) S':=by
  have fv:kJ w (ad C w S Hx) S st.tm a.tmps:=by cases h.mZ with | cons a _=>exact a
  obtain ⟨inf,h1,h2,h3,z,h4,h5⟩:=(ao.ty _ _ he).info
  have An:=(ao.ty _ _ he).len
  obtain ⟨dd,g1,g2⟩:=(ao.ty _ _ jD).desc
  rw [TV] at g2
  simp only [jA] at g2
  subst g2
  have dJ:bO (fun p q=>q.1=p.1∧bZ w (ad C w S Hx) S p.2 q.2) (ps.toList.map fun p=>(p.1,bW c st e p.2)) (ps.toList.map fun p=>(p.1,a.eval p.2)):=by
    refine cV (by simp) (fun i x y hx hy=>?_)
    simp only [List.getElem?_map] at hx hy
    cases hq:ps.toList[i]? with
    | none=>simp [hq] at hx
    | some q=>
      simp only [hq,Option.map_some,Option.some.injEq] at hx hy
      subst hx; subst hy
      exact ⟨rfl,tX (c:=c) fv e q.2⟩
  obtain ⟨nY,S1,b1,rfl,b3,b4,b5,b6,b7⟩:=Ct h dJ hp
  have Ru:=Fs hf
  obtain ⟨zt,f1,f2,f3,f4⟩:=uc h5 n
  rw [← f1,eg] at hf
  obtain ⟨cs',k1,k2⟩:=LB T.er hf
  have dK:=((dv _ _).1 b1.mem.hand).1
  rw [bU] at dK
  have gh:=MO (X:=ad C w S1 (nY.flatMap (·.2)++Hx)) b3 b4 (fun p hp t ht=>⟨dK t (List.mem_flatMap.2 ⟨p,hp,ht⟩),Ru (p.1,p.2.map T.er) (List.mem_map.2 ⟨p,hp,rfl⟩) t.er (List.mem_map.2 ⟨t,ht,rfl⟩)⟩)
  have kd:z.cells.size=ei.size:=by rw [← An,h5.len]; simp
  have acs:((Array.range (n*inf.size)).map (z.cells[· % z.cells.size]!)).toList=zt.map T.val:=by
    rw [← cD,f2,h2,← kd,← x6]
    simp
  obtain ⟨arr,m1,m2⟩:=Cr T.val (arr:=(Array.range (n*inf.size)).map (z.cells[· % z.cells.size]!)) gh k1 acs
  have dP:(Instr.buildSlice t n (ps.map fun (i,x)=>(i,a.eval x))).run P w=.ok (.slice (some ⟨w.heap.size,0,none⟩) n n) (w.alloc (.cells arr e)):=by
    have hl:(ps.map fun (i,x)=>(i,a.eval x)).toList=ps.toList.map fun p=>(p.1,a.eval p.2):=by simp
    by_cases h0:n*inf.size=0
    · have mY:=m1
      rw [h0] at mY
      rw [← hl,← h2] at mY
      simp only [Array.range_zero',Array.map_empty] at mY
      simp [Instr.buildSlice,run_underlying g1,sizeOf,typeInfo,h1,h0,newRow,Array.range_zero']
      simp at mY
      rw [mY]
      simp
    · rw [← hl,← h2] at m1
      exact run_buildSlice w t e n _ arr inf z g1 h1 h4 (by rw [h2]; omega) h0 m1
  refine ⟨_,_,dP,(Grown.alloc w _).bQ,?_⟩
  have pe:aE.of=st.of:=b7.2.2
  obtain ⟨q1,q2⟩:=Ft k1
  have hlen:cs'.length=n*ei.size:=by
    rw [q2]
    have:=congrArg List.length f2
    rw [bw] at this
    rw [this,List.length_flatten,List.map_replicate,List.sum_replicate_nat,Array.length_toList,kd]
  have MP:=MN k1 (by
    rw [f3,List.nil_append]
    have h9:=(List.nodup_append.1 b1.mem.nd).2.1
    rw [aO] at h9
    exact (List.nodup_append.1 h9).1)
  rw [f3] at MP
  rw [← k2,← eg] at hr
  refine zu (Hs:=nY.flatMap (·.2)) (H:=Hx) b1 (Grown.alloc w _) (ts:=cs') ⟨Nat.le_refl _,by rw [iF]; omega⟩ ?_ (fun k hk=>by simpa using MP.2 k hk) MP.1 (Nat.le_refl _) hlen ?_ ht (by rw [pe]; exact hP) hr
  · rw [bU]
    intro x hx
    rcases q1 x hx with h6 | ⟨p,h6,h7⟩
    · exact (bU _).1 (f4 _ _) x h6
    · exact dK x (List.mem_flatMap.2 ⟨p,h6,h7⟩)
  · have cE:arr.size=cs'.length:=by have:=congrArg List.length m2; simpa using this
    refine jE w _ _ (by rw [cE,hlen]; exact Nat.le_refl _) (fun j u hj=>?_)
    rw [← Array.getElem?_toList,m2,← cD]
    exact hj
theorem XA {e:TypeId} {x:Operand} {i:TI} (hlen:(cellsOf (bW c st e x)).length=i.size) (cw:(cellsOf (bW c st e x)).all (fe st)=true) {t:Nat} (ht:t < a.tmps.size) (hP:∀ p∈C.P0,p.1≠st.of+t)
    (hr:st.root (some t) (cellsOf (mX (cj (st.of+t)) (bW c st e x))) (fun d=>.ptr d [] 0)=some st'):
    ∃ v w',(Instr.box e (a.eval x)).run P w=.ok v w'∧dp w w'∧∃ S',Rel C Hx w' st' (a.tmps.setIfInBounds t v::aB) S':=by
  have _:=ao
  have fv:kJ w (ad C w S Hx) S st.tm a.tmps:=by cases h.mZ with | cons a _=>exact a
  have hd:=tX (c:=c) fv e x
  have dJ:=Ba h.rt h.mem hd (List.all_eq_true.1 cw)
  have dP:(Instr.box e (a.eval x)).run P w=.ok (.pointer (some ⟨w.heap.size,0,none⟩)) (w.alloc (.cells (a.eval x).cells e)):=by
    simp [Instr.box,newVar,newRow]
  refine ⟨_,_,dP,(Grown.alloc w _).bQ,?_⟩
  have eh:cellsOf (mX (cj (st.of+t)) (bW c st e x))=(cellsOf (bW c st e x)).map (cj (st.of+t)):=by
    by_cases ha:∃ cs,bW c st e x=.agg cs
    · obtain ⟨cs,ha⟩:=ha
      rw [ha]; rfl
    · have hc:cellsOf (bW c st e x)=[bW c st e x]:=by cases hx:bW c st e x<;>first | rfl | exact absurd ⟨_,hx⟩ ha
      have ho:=List.all_eq_true.1 cw (bW c st e x) (by rw [hc]; simp)
      rw [hc]
      cases hx:bW c st e x with
      | agg cs=>exact absurd ⟨_,hx⟩ ha
      | aR cs=>rw [hx] at ho; simp [fe,cy] at ho
      | fn f cs=>rw [hx] at ho; simp [fe,cy] at ho
      | aM cs=>rw [hx] at ho; simp [fe,cy] at ho
      | ref r q o y=>simp only [mX,eO,List.map_cons,List.map_nil,cj]; split<;>rfl
      | ptr r q o=>simp only [mX,eO,List.map_cons,List.map_nil,cj]; split<;>rfl
      | _=>rfl
  obtain ⟨l,e1,e2,e3⟩:=vS dJ
  let ts:List T:=l.map fun p=>.v (cj (st.of+t) p.1) p.2
  have jn:∀ p∈l,bj (cj (st.of+t) p.1)=cj (st.of+t) p.1:=by
    intro p hp
    have h2:=e3 p hp
    obtain ⟨d,u⟩:=p
    simp only at h2 ⊢
    cases d with
    | sl g s n cs=>
      cases g with
      | none=>simp [aQ,Ext] at h2
      | some g=>rfl
    | ref r q o y=>simp only [cj]; split<;>rfl
    | ptr r q o=>simp only [cj]; split<;>rfl
    | _=>rfl
  have acu:aP ts=(cellsOf (bW c st e x)).map (cj (st.of+t)):=by
    rw [← e1,eg]
    simp only [ts,List.map_map]
    refine List.map_congr_left (fun p hp=>?_)
    simp only [Function.comp_apply,T.er]
    exact jn p hp
  have gh:ay ts=(a.eval x).cells.toList:=by
    rw [← e2,cD]
    simp only [ts,List.map_map]
    rfl
  have ez:ae ts=[]:=by
    rw [lX]
    simp only [ts,List.map_map]
    rw [List.flatten_eq_nil_iff]
    intro y hy
    simp only [List.mem_map,Function.comp_apply] at hy
    obtain ⟨p,_,rfl⟩:=hy
    rfl
  rw [eh,← acu] at hr
  refine DM (Hs:=[]) h (Grown.alloc w _) (ts:=ts) ⟨Nat.le_refl _,by rw [iF]; omega⟩ (fun y hy=>.inr ?_) (by rw [ez]; simp) (by rw [ez]; simp) ?_ ht hP hr
  · simp only [ts,List.mem_map] at hy
    obtain ⟨p,hp,rfl⟩:=hy
    exact ⟨p.1,p.2,rfl,e3 p hp⟩
  · refine jE w _ _ ?_ (fun j u hj=>?_)
    · have:=congrArg List.length gh
      rw [bw] at this
      rw [this]; simp
    · rw [gh] at hj
      simpa using hj
theorem Ou {e:TypeId} {x:Operand} {i:TI} (hlen:(cellsOf (bW c st e x)).length=i.size) {ds:List D} {aE:St} (df:pd st (cellsOf (bW c st e x))=some (ds,aE)) (cw:ds.all cy=true) {t:Nat} (ht:t < a.tmps.size) (hP:∀ p∈C.P0,p.1≠st.of+t)
    (hr:aE.root (some t) ds (fun d=>.ptr d [] 0)=some st'):
    ∃ v w',(Instr.box e (a.eval x)).run P w=.ok v w'∧dp w w'∧∃ S',Rel C Hx w' st' (a.tmps.setIfInBounds t v::aB) S':=by
  have _:=ao
  have fv:kJ w (ad C w S Hx) S st.tm a.tmps:=by cases h.mZ with | cons a _=>exact a
  have hd:=tX (c:=c) fv e x
  obtain ⟨ts,S1,b1,rfl,b3,b4,b5,b6⟩:=oK h hd df
  have dP:(Instr.box e (a.eval x)).run P w=.ok (.pointer (some ⟨w.heap.size,0,none⟩)) (w.alloc (.cells (a.eval x).cells e)):=by
    simp [Instr.box,newVar,newRow]
  refine ⟨_,_,dP,(Grown.alloc w _).bQ,?_⟩
  have dK:=((dv _ _).1 b1.mem.hand).1
  rw [bU] at dK
  have gh:ay ts=(a.eval x).cells.toList:=by
    by_cases ha:∃ cs,bW c st e x=.agg cs
    · obtain ⟨cs,ha⟩:=ha
      rw [b3,ha]; rfl
    · have hv:gi (bW c st e x) (a.eval x)=[a.eval x]:=by cases hx:bW c st e x<;>first | rfl | exact absurd ⟨_,hx⟩ ha
      rw [hv] at b3
      rw [b3]
      cases ts with
      | nil=>simp [ay] at b3
      | cons y ys=>
        simp only [ay,List.cons.injEq] at b3
        have:=kU (dK y (by simp)) (List.all_eq_true.1 cw y.er (by simp [aP]))
        rw [b3.1] at this
        rw [this.2]
  refine DM (Hs:=ts) b1 (Grown.alloc w _) (ts:=ts) ⟨Nat.le_refl _,by rw [iF]; omega⟩ (fun y hy=>.inl (dK y hy)) (fun _ h=>h) (by
    have h9:=(List.nodup_append.1 b1.mem.nd).2.1
    rw [aO] at h9
    exact (List.nodup_append.1 h9).1) ?_ ht (by rw [b6.2.2]; exact hP) hr
  refine jE w _ _ ?_ (fun j u hj=>?_)
  · have:=congrArg List.length gh
    rw [bw] at this
    rw [this]; simp
  · rw [gh] at hj
    simpa using hj
end
end Go.Proofs.Ytockoilcnmljiaa
namespace Go.Proofs.Ytockoilcnmljiaa
theorem MQ {q:List Nat}:∀ {p:Nat} {cs l:List T} {bx:Option Nat} {b off:Nat},bI bx cs (p::q)=some (b,off)→au cs (p::q)=some l→(ae cs).Nodup→b∉ae l:=by
  induction q with
  | nil=>
    intro p cs l bx b off ha hc hn
    rw [bI] at ha
    rw [au] at hc
    cases hp:cs[p]? with
    | none=>simp [hp] at hc
    | some x=>
      cases x with
      | v d u=>simp [hp] at hc
      | own s n cap a xs=>
        simp only [hp,au,Option.some.injEq] at hc ha
        subst hc; subst ha
        obtain ⟨A,B,e,_⟩:=dB cs p _ hp
        rw [e] at hn
        have:=(List.nodup_append.1 (List.nodup_append.1 hn).1).2.1
        simp only [T.ft,iw,List.cons_append,List.nil_append,List.nodup_cons] at this
        exact this.1
  | cons p' q ih=>
    intro p cs l bx b off ha hc hn
    rw [bI] at ha
    rw [au] at hc
    cases hp:cs[p]? with
    | none=>simp [hp] at hc
    | some x=>
      cases x with
      | v d u=>simp [hp] at hc
      | own s n cap a xs=>
        simp only [hp] at hc ha
        refine ih ha hc ?_
        obtain ⟨A,B,e,_⟩:=dB cs p _ hp
        rw [e] at hn
        have:=(List.nodup_append.1 (List.nodup_append.1 hn).1).2.1
        simp only [T.ft] at this
        exact (List.nodup_append.1 this).2.1
theorem VO {q:List Nat} {o:Nat} {t':T} {d:D} {u:Value}:∀ {cs cs':List T} {q':List Nat} {o':Nat} {l:List T},dn (fun l=>l.set o t') cs q=some cs'→under (q++[o]) (q'++[o'])=none→au cs q'=some l→l[o']?=some (.v d u)→
    ∃ l',au cs' q'=some l'∧l'[o']?=some (.v d u):=by
  induction q with
  | nil=>
    intro cs cs' q' o' l hm hu hc ho
    simp only [dn,Option.some.injEq] at hm
    subst hm
    cases q' with
    | nil=>
      simp only [au,Option.some.injEq] at hc
      subst hc
      simp only [List.nil_append,under] at hu
      split at hu
      · simp at hu
      · rename_i cK
        exact ⟨_,rfl,by rw [List.getElem?_set_ne cK]; exact ho⟩
    | cons p q'=>
      simp only [List.nil_append,List.cons_append,under] at hu
      split at hu
      · simp at hu
      · rename_i cK
        exact ⟨l,by rw [au,List.getElem?_set_ne cK]; rw [au] at hc; exact hc,ho⟩
  | cons p q ih=>
    intro cs cs' q' o' l hm hu hc ho
    rw [dn] at hm
    cases hp:cs[p]? with
    | none=>simp [hp] at hm
    | some x=>
      cases x with
      | v d u=>simp [hp] at hm
      | own s n cap a xs=>
        simp only [hp] at hm
        cases hx:dn (fun l=>l.set o t') xs q with
        | none=>simp [hx] at hm
        | some jw=>
          simp only [hx,Option.some.injEq] at hm
          subst hm
          obtain ⟨cR,_⟩:=List.getElem?_eq_some_iff.1 hp
          cases q' with
          | nil=>
            simp only [au,Option.some.injEq] at hc
            subst hc
            have cK:p≠o':=fun e=>by subst e; rw [hp] at ho; simp at ho
            exact ⟨_,rfl,by rw [List.getElem?_set_ne cK]; exact ho⟩
          | cons p' q'=>
            by_cases Ck:p=p'
            · subst Ck
              simp only [List.cons_append,under,if_true] at hu
              rw [au,hp] at hc
              obtain ⟨l',h1,h2⟩:=ih hx hu hc ho
              exact ⟨l',by rw [au,List.getElem?_set_self cR]; exact h1,h2⟩
            · exact ⟨l,by rw [au,List.getElem?_set_ne Ck]; rw [au] at hc; exact hc,ho⟩
theorem jC.II {S S':List (Nat × RT)} {r:Nat} {q:List Nat} {o:Nat} {t t':T} (hc:jC S S' r q o t t') {r':Nat} {q':List Nat} {o':Nat} (hf:r'≠r∨under (q++[o]) (q'++[o'])=none) {d:D} {u:Value} (h:cd S r' q' o'=some (.v d u)):cd S' r' q' o'=some (.v d u):=by
  by_cases he:r'=r
  · subst he
    have hf:under (q++[o]) (q'++[o'])=none:=by rcases hf with hf | hf<;>first | exact absurd rfl hf | exact hf
    obtain ⟨R,cs',l,h1,h2,h3,h4,rfl⟩:=hc.ex
    unfold cd at h ⊢
    rw [cm]
    rw [h1] at h
    simp only at h ⊢
    cases hx:au R.cs q' with
    | none=>simp [hx] at h
    | some l'=>
      simp only [hx] at h
      obtain ⟨l1,h5,h6⟩:=VO h4 hf hx h
      rw [h5]
      exact h6
  · unfold cd at h ⊢
    rw [hc.HV he]
    exact h
theorem zw {g:D→D} {S:List (Nat × RT)} {r:Nat} {q:List Nat} {o:Nat} {t:T} (h:cd S r q o=some t):cd (fS g S) r q o=some (if q=[] then fT g t else t):=by
  unfold cd at h ⊢
  rw [kg]
  cases hr:lk S r with
  | none=>simp [hr] at h
  | some R=>
    simp only [hr,Option.map_some] at h ⊢
    cases q with
    | nil=>
      simp only [au,if_true] at h ⊢
      rw [List.getElem?_map,h]; rfl
    | cons p q=>
      rw [A5]
      simpa using h
section
variable {C:Ctx} {H Hs:List T} {w w':World} {st aE bS:St} {aB:List (Array Value)} {S S1 S':List (Nat × RT)}
theorem LC (h:Rel C H w st aB S) {g:D→D} (hg:j8 g) (dH:∀ d u,aQ w (ad C w S H) S d u→aQ w (ad C w S H) (fS g S) (g d) u) (xW:∀ d u,Ext w (ad C w S H) d u→Ext w (ad C w S H) (eO g d) u) (mM:∀ d u,aQ w (ad C w S H) S d u→eO g d=g d):
    Rel C H w (st.eG g) aB (fS g S)∧gB C w w S (fS g S) H H g:=by
  have Aq:ad C w (fS g S) H=ad C w S H:=by
    funext b k
    simp only [ad,rF]
  refine ⟨?_,fun d u hd=>by rw [Aq]; exact dH d u hd⟩
  refine h.step (f:=g) ?_ rfl rfl (fun d u hd=>by rw [Aq]; exact dH d u hd) ⟨by rw [rF]; exact h.mem.nd,?_,by rw [Aq]; exact h.mem.hand,by rw [rF]; exact h.mem.lt⟩
    ⟨h.kept.os,h.kept.tape,h.kept.output,h.kept.size,h.kept.block,by rw [rF]; exact h.kept.gT,?_⟩
  · exact nE hg h.rt
  · intro r R' dQ
    rw [kg] at dQ
    cases hx:lk S r with
    | none=>simp [hx] at dQ
    | some R=>
      simp only [hx,Option.map_some,Option.some.injEq] at dQ
      subst dQ
      obtain ⟨k1,k2⟩:=h.mem.root r R hx
      have hv:ay (R.cs.map (fT g))=ay R.cs:=by
        rw [cD,cD,List.map_map]
        congr 1
        funext t
        cases t<;>rfl
      refine ⟨?_,fun t ht=>?_⟩
      · simp only [List.length_map]
        rw [hv]; exact k1
      · simp only [List.mem_map] at ht
        obtain ⟨t0,jD,rfl⟩:=ht
        have:=k2 t0 jD
        rw [Aq]
        cases t0 with
        | own s n cap a xs=>exact this
        | v d u=>
          simp only [fT,ix] at this ⊢
          rw [hg.leaf]
          rcases this with this | ⟨hb,this⟩
          · exact .inl (xW _ _ this)
          · exact .inr ⟨hb,by rw [mM _ _ this]; exact dH _ _ this⟩
  · intro r b vs hm R' dQ
    rw [kg] at dQ
    cases hx:lk S r with
    | none=>simp [hx] at dQ
    | some R=>
      simp only [hx,Option.map_some,Option.some.injEq] at dQ
      subst dQ
      have hv:ay (R.cs.map (fT g))=ay R.cs:=by
        rw [cD,cD,List.map_map]
        congr 1
        funext t
        cases t<;>rfl
      have:=h.kept.par r b vs hm R hx
      simp only
      rw [hv]; exact this
end
end Go.Proofs.Ytockoilcnmljiaa
namespace Go.Proofs.Ytockoilcnmljiaa
section
variable {C:Ctx} {H Hs:List T} {w w':World} {st aE bS:St} {aB:List (Array Value)} {S S1 S':List (Nat × RT)}
theorem zx {k:Nat} {ts:List T} {t:T} (ht:t∈ts) (hk:k∈t.ft):k∈ae ts:=by
  obtain ⟨i,hi⟩:=List.mem_iff_getElem?.1 ht
  obtain ⟨A,B,e,_⟩:=dB ts i _ hi
  rw [e]; simp [hk]
theorem Fv {q:List Nat} {k:Nat} {cs l:List T} (hc:au cs q=some l) (hk:k∈ae l):k∈ae cs:=by
  obtain ⟨A,B,e,_⟩:=B8 hc
  rw [e]; simp [hk]
theorem Ar {r k:Nat} {R:RT} (h:lk S r=some R) (hk:k∈R.ft):k∈cr S:=by
  obtain ⟨A,B,e,_⟩:=kt h
  rw [e]; simp [hk]
theorem MR (hn:(cr S).Nodup) {r:Nat} {R:RT} (h:lk S r=some R):R.ft.Nodup:=by
  obtain ⟨A,B,e,_⟩:=kt h
  rw [e] at hn
  exact (List.nodup_append.1 (List.nodup_append.1 hn).1).2.1
structure Wr (C:Ctx) (w w':World) (S S':List (Nat × RT)) (H H':List T) (t1:T):Prop where
  stays:iE w w' (ad C w S H) (ad C w' S' H')
  sub:∀ k∈cr S'++ae H',k∈cr S++ae H
  nd:(cr S'++ae H').Nodup
  bQ:∀ k∈t1.ft,ad C w' S' H' false k∧w'.heap[k]?=w.heap[k]?
  new:∀ k∈ae H,w'.heap[k]?=w.heap[k]?
  kept:Kept C w' S' H'
theorem KQ (h:Rel C (Hs++H) w st aB S) {g:D→D} (hS:SR g S S1) {r:Nat} {q:List Nat} {o:Nat} {t0 t1 t':T} (hc:jC S1 S' r q o t1 t') (XB:t1.ft=t0.ft) {R:RT} {l:List T} (hR:lk S r=some R) (hl:au R.cs q=some l) (ho:l[o]?=some t0) {b off:Nat} (ha:bI R.box R.cs q=some (b,off))
    (TX:ae Hs=t'.ft) {u:Value} (hu:Lt w w' b (off+o) u) (cE:w'.heap.size=w.heap.size) (lK:w'.os=w.os) (rG:w'.tape=w.tape) (sv:w'.output=w.output):Wr C w w' S S' (Hs++H) H t1:=by
  obtain ⟨A,B,e1,e2⟩:=hc.Xl
  rw [hS.gT] at e1
  have eT:=h.mem.nd
  have cR:=h.mem.lt
  have TY:b∈R.ft:=by
    cases q with
    | nil=>simp only [bI] at ha; cases hb:R.box with
      | none=>simp [hb] at ha
      | some b'=>simp only [hb,Option.map_some,Option.some.injEq,Prod.mk.injEq] at ha; simp [RT.ft,hb,ha.1]
    | cons p q=>simp [RT.ft,pF ha]
  have Aj:b∈cr S:=Ar hR TY
  have ec:∀ k∈cr S'++ae H,k∈cr S++ae (Hs++H):=by
    intro k hk
    rw [e2] at hk
    rw [e1,aO,TX]
    simp only [List.mem_append] at hk ⊢
    rcases hk with ((hk | hk) | hk) | hk
    · exact .inl (.inl (.inl hk))
    · exact .inr (.inl hk)
    · exact .inl (.inr hk)
    · exact .inr (.inr hk)
  have XC:=eT
  rw [e1,aO,TX] at XC
  have p1:(A++t1.ft++B++(t'.ft++ae H)).Perm (t1.ft++(A++t'.ft++B++ae H)):=by
    refine List.perm_iff_count.2 fun a=>?_
    simp only [List.count_append]
    omega
  have acv:=p1.nodup_iff.1 XC
  obtain ⟨_,acw,TZ⟩:=List.nodup_append.1 acv
  have hbt:b∉t1.ft:=by
    rw [XB]
    intro hb
    have Ov:=MR (List.nodup_append.1 eT).1 hR
    have T0:t0∈l:=List.mem_of_getElem? ho
    have TR:b∈ae l:=zx T0 hb
    cases q with
    | nil=>
      simp only [bI] at ha
      simp only [au,Option.some.injEq] at hl
      subst hl
      cases hx:R.box with
      | none=>simp [hx] at ha
      | some b'=>
        simp only [hx,Option.map_some,Option.some.injEq,Prod.mk.injEq] at ha
        rw [RT.ft,hx] at Ov
        simp only [Option.toList,List.cons_append,List.nil_append,List.nodup_cons] at Ov
        exact Ov.1 (ha.1▸TR)
    | cons p q=>
      rw [RT.ft] at Ov
      exact MQ ha hl (List.nodup_append.1 Ov).2.1 TR
  have cK:∀ k,k≠b→w'.heap[k]?=w.heap[k]?:=by obtain ⟨_,_,_,_,_,h3⟩:=hu; exact h3
  have ch:iE w w' (ad C w S (Hs++H)) (ad C w' S' H):=by
    intro bb k hk
    have hkb:k≠b:=fun e=>hk.2.1 (e▸Aj)
    refine ⟨⟨by rw [cE]; exact hk.1,fun hx=>?_,fun hx=>?_,hk.2.2.2⟩,cK k hkb⟩
    · rcases List.mem_append.1 (ec k (List.mem_append.2 (.inl hx))) with h3 | h3
      · exact hk.2.1 h3
      · exact hk.2.2.1 h3
    · rcases List.mem_append.1 (ec k (List.mem_append.2 (.inr hx))) with h3 | h3
      · exact hk.2.1 h3
      · exact hk.2.2.1 h3
  refine ⟨ch,ec,by rw [e2]; exact acw,fun k hk=>?_,fun k hk=>?_,?_⟩
  · have Fw:k∈cr S++ae (Hs++H):=by rw [e1]; simp [hk]
    refine ⟨⟨by rw [cE]; exact cR k Fw,fun hx=>?_,fun hx=>?_,fun _=>.inr (h.kept.gT k Fw)⟩,cK k (fun e=>hbt (e▸hk))⟩
    · rw [e2] at hx; exact TZ k hk k (List.mem_append.2 (.inl hx)) rfl
    · exact TZ k hk k (List.mem_append.2 (.inr hx)) rfl
  · exact cK k (fun e=>by subst e; exact (List.nodup_append.1 eT).2.2 k Aj k hk rfl)
  · refine ⟨by rw [lK]; exact h.kept.os,by rw [rG]; exact h.kept.tape,by rw [sv]; exact h.kept.output,by rw [cE]; exact h.kept.size,fun k h1 h2=>?_,fun k hk=>h.kept.gT k (ec k hk),fun r1 bx vs hm R1 Cu=>?_⟩
    · rw [cK k (fun e=>?_)]
      · exact h.kept.block k h1 h2
      · subst e
        rcases h.kept.gT k (List.mem_append.2 (.inl Aj)) with h3 | h3
        · exact h2 h3
        · omega
    · obtain ⟨R2,cs',l2,g1,g2,g3,g4,rfl⟩:=hc.ex
      by_cases he:r1=r
      · subst he
        rw [cm,Option.some.injEq] at Cu
        subst Cu
        obtain ⟨R3,k1,k2,k3,k4,k5⟩:=hS.pI g1
        rw [hR,Option.some.injEq] at k1
        subst k1
        obtain ⟨m1,m2⟩:=h.kept.par r1 bx vs hm R hR
        refine ⟨by simp only; rw [k2,m1],fun hb=>?_⟩
        cases q with
        | nil=>
          simp only [bI] at ha
          rw [m1,hb] at ha
          simp at ha
        | cons p q=>
          simp only
          rw [(kQ g4).1,k4]
          exact m2 hb
      · rw [dk _ _ he] at Cu
        obtain ⟨R3,k1,k2,k3,k4,k5⟩:=hS.pI Cu
        obtain ⟨m1,m2⟩:=h.kept.par r1 bx vs hm R3 k1
        exact ⟨by rw [k2,m1],fun hb=>by rw [k4]; exact m2 hb⟩
end
end Go.Proofs.Ytockoilcnmljiaa
namespace Go.Proofs.Ytockoilcnmljiaa
theorem Cw (q:List Nat) (o:Nat):under (q++[o]) q=none:=by
  induction q with
  | nil=>rfl
  | cons p q ih=>simp only [List.cons_append,under,if_true]; exact ih
theorem Fx (r:Nat) (q:List Nat) (o:Nat) (e:Bool) (i:Nat):cb r q o e (.ptr r q i)=.ptr r q i:=by
  simp only [cb,if_true,Cw]
theorem DO:j8 id:=⟨fun _ _ _ _=>rfl,fun _ _=>rfl,fun _ h=>h⟩
theorem XD (d:D):eO id d=d:=by cases d<;>simp [eO]
theorem LD {α:Type} (f:α→α) (hf:∀ a,f a=a):∀ l:List (Nat × α),fy f l=l
  | []=>rfl
  | (k,v)::t=>by simp [fy,hf,LD f hf t]
theorem VP {l:List (Nat × List D)} {S:List (Nat × RT)} (h:gy l S):gy l (fS id S):=by
  have:=nE DO h
  rwa [LD] at this
  intro l
  have:eO id=id:=funext XD
  rw [this]; simp
theorem T2 {g:D→D} {S:List (Nat × RT)} {r:Nat} {q:List Nat} {o:Nat} {R:RT} {l:List T} {t0:T} (hR:lk S r=some R) (hl:au R.cs q=some l) (ho:l[o]?=some t0):
    ∃ R1 l1 t1,lk (fS g S) r=some R1∧R1.box=R.box∧au R1.cs q=some l1∧l1[o]?=some t1∧(t1=t0∨(q=[]∧t1=fT g t0))∧l1.length=l.length∧bI R1.box R1.cs q=bI R.box R.cs q∧R1.cs.length=R.cs.length:=by
  cases q with
  | nil=>
    simp only [au,Option.some.injEq] at hl
    subst hl
    exact ⟨⟨R.box,R.cs.map (fT g)⟩,R.cs.map (fT g),fT g t0,by rw [kg,hR]; rfl,rfl,rfl,by simp [ho],.inr ⟨rfl,rfl⟩,by simp,rfl,by simp⟩
  | cons p q=>
    exact ⟨⟨R.box,R.cs.map (fT g)⟩,l,t0,by rw [kg,hR]; rfl,rfl,by simp only [A5]; exact hl,ho,.inl rfl,rfl,Ly g,by simp⟩
theorem jC.acx {S S':List (Nat × RT)} {r:Nat} {q:List Nat} {o:Nat} {t t':T} (hc:jC S S' r q o t t') {l:List T} {R:RT} (hR:lk S r=some R) (hl:au R.cs q=some l):
    ∃ R' l',lk S' r=some R'∧R'.box=R.box∧au R'.cs q=some l'∧l'.length=l.length∧bI R'.box R'.cs q=bI R.box R.cs q:=by
  obtain ⟨R0,cs',l0,h1,h2,h3,h4,rfl⟩:=hc.ex
  rw [h1,Option.some.injEq] at hR
  subst hR
  rw [h2,Option.some.injEq] at hl
  subst hl
  obtain ⟨l1,h5,h6⟩:=lY h4
  rw [h2,Option.some.injEq] at h5
  subst h5
  exact ⟨⟨R0.box,cs'⟩,l0.set o t',cm _ _ _,rfl,h6,by simp,Go.Proofs.Ytockoilcnmljiaa.pG h4 (Cw q o)⟩
structure Sto (S S':List (Nat × RT)) (r:Nat) (q:List Nat) (o:Nat) (t':T) (f:D→D):Prop where
  new:cd S' r q o=some t'
  ptr:∀ i,f (.ptr r q i)=.ptr r q i
  hole:∀ r' q' o' d0 u,(sn d0).isSome=true→bj d0=d0→cd S r' q' o'=some (.v d0 u)→(r'≠r∨under (q++[o]) (q'++[o'])=none)→cd S' r' q' o'=some (.v d0 u)
  path:∀ {R l},lk S r=some R→au R.cs q=some l→∃ R' l',lk S' r=some R'∧R'.box=R.box∧au R'.cs q=some l'∧l'.length=l.length∧bI R'.box R'.cs q=bI R.box R.cs q
section
variable {C:Ctx} {H Hs:List T} {w:World} {st aE bS:St} {aB:List (Array Value)} {S:List (Nat × RT)}
theorem x9 (h:Rel C (Hs++H) w st aB S) {r:Nat} {q:List Nat} {o:Nat} {d:D} {t' t0:T} {R:RT} {l:List T} {f:D→D} (hR:lk S r=some R) (hl:au R.cs q=some l) (ho:l[o]?=some t0) {b off:Nat} (ha:bI R.box R.cs q=some (b,off))
    (dF:st.qp r q o d=some (aE,f)) (ir:aE.gH r q o t'.er=some bS) (cx:cy d=true)
    (vT:(Hs=[t']∧d=t'.er)∨(Hs=[]∧q=[]∧∃ u,t'=.v (f d) u∧aQ w (ad C w S (Hs++H)) S d u)):
    ∃ S',Rel C H (w.setCell ⟨b,off+o,none⟩ t'.val) bS aB S'∧gB C w (w.setCell ⟨b,off+o,none⟩ t'.val) S S' (Hs++H) H f∧Sto S S' r q o t' f∧bS.of=st.of:=by
  have hold:st.cell r q o=some t0.er:=by rw [DK st S h.rt,AY hR hl,ho]; rfl
  have TX:ae Hs=t'.ft:=by
    rcases vT with ⟨rfl,_⟩ | ⟨rfl,_,u,rfl,_⟩
    · simp [ae]
    · rfl
  have hq0:q=[]→R.box.isSome=true:=fun e=>by
    subst e
    simp only [bI] at ha
    cases hb:R.box with
    | none=>simp [hb] at ha
    | some b=>rfl
  obtain ⟨b',A3,eR,ej,eF,Rc,_⟩:=oD h.mem hR hl (fun e=>by subst e; simp at ho) hq0
  rw [ha] at ej
  simp only [Option.some.injEq,Prod.mk.injEq] at ej
  obtain ⟨rfl,rfl⟩:=ej
  have Ow:o < l.length:=(List.getElem?_eq_some_iff.1 ho).1
  have Rv:=VN eF (o:=o) (by omega) t'.val
  generalize qz:w.setCell ⟨b,off+o,none⟩ t'.val=w' at Rv ⊢
  have cE:w'.heap.size=w.heap.size:=by rw [← qz]; simp [World.setCell]
  have lK:w'.os=w.os:=by rw [← qz]; rfl
  have rG:w'.tape=w.tape:=by rw [← qz]; rfl
  have sv:w'.output=w.output:=by rw [← qz]; rfl
  have fin:∀ g:D→D,j8 g→(∀ d,g d=d∨(∃ r q o x,d=.ref r q o x)∨∃ r q o,d=.ptr r q o)→gy aE.rt (fS g S)→((aE.tm=fy (mX f) st.tm∧aE.up=st.up.map (fy (mX f)))∨(f=id∧aE.tm=st.tm∧aE.up=st.up))→aE.of=st.of→(∀ i,f (.ptr r q i)=.ptr r q i)→
      (∀ S' t1,jC (fS g S) S' r q o t1 t'→(t1=t0∨(q=[]∧t1=fT g t0))→Wr C w w' S S' (Hs++H) H t1→(∀ d u,aQ w (ad C w S (Hs++H)) S d u→aQ w' (ad C w' S' H) S' (f d) u)∧(∀ d u,aQ w (ad C w S (Hs++H)) S d u→aQ w' (ad C w' S' H) S' (g d) u))→
      ∃ S',Rel C H w' bS aB S'∧gB C w w' S S' (Hs++H) H f∧Sto S S' r q o t' f∧bS.of=st.of:=by
    intro g hg Cx Rw acy Bb acz aae
    obtain ⟨R1,l1,t1,e1,e2,e3,e4,e5,e6,e7,_⟩:=T2 (g:=g) hR hl ho
    obtain ⟨S',hc,MS,MT,MU,Bc⟩:=A6 Rw e1 e3 e4 ir
    have XB:t1.ft=t0.ft:=by
      rcases e5 with rfl | ⟨_,rfl⟩
      · rfl
      · exact TP g t0
    have lL:=KQ h (MI hg S) hc XB hR hl ho ha TX Rv cE lK rG sv
    obtain ⟨T3,oL⟩:=aae S' t1 hc e5 lL
    have cY:=h.mem.hand
    rw [dv] at cY
    have cQ:Mem C w' S' H:=by
      refine Om h.mem (g:=eO g) (MI hg S) hc hR (fun e=>?_) (fun _=>ha) Rv ?_ lL.stays lL.nd lL.sub (fP lL.stays _ cY.2 (fun k hk=>lL.new k (by rw [aO]; simp [hk]))) (fun d u hd=>by rw [rP hd]; exact oL d u hd) (fun d u hd=>?_) cE
      · subst e
        simp only [bI] at ha
        cases hb:R.box with
        | none=>simp [hb] at ha
        | some b'=>simp only [hb,Option.map_some,Option.some.injEq,Prod.mk.injEq] at ha; exact ⟨by rw [ha.1],ha.2.symm⟩
      · rcases vT with ⟨rfl,_⟩ | ⟨rfl,rfl,u,rfl,hd⟩
        · left
          have h1:=cY.1
          simp only [ba] at h1
          exact du lL.stays _ h1.1 (fun k hk=>lL.new k (by rw [aO]; simp [ae,hk]))
        · right
          have h2:=T3 d u hd
          have h3:bj (f d)=f d:=by
            cases hx:f d with
            | sl g s n cs=>
              rw [hx] at h2
              cases g with
              | none=>simp [aQ,Ext] at h2
              | some g=>rfl
            | _=>rfl
          exact ⟨f d,u,rfl,rfl,by rw [h3]; exact h2⟩
      · exact pJ hg Cx hd
    refine ⟨S',?_,T3,⟨hc.A4,acz,?_,?_⟩,Bc.trans Bb⟩
    · rcases acy with ⟨h1,h2⟩ | ⟨rfl,h1,h2⟩
      · exact h.step (f:=f) MS (by rw [MT,h1]) (by rw [MU,h2]) T3 cQ lL.kept
      · exact h.pH MS (by rw [MT,h1]) (by rw [MU,h2]) T3 cQ lL.kept
    · intro r' q' o' d0 u h3 h4 h1 h2
      refine hc.II h2 ?_
      rw [zw h1]
      split
      · simp only [fT,h4]
        cases d0<;>first | (simp [sn] at h3; done) | simp [eO,hg.hole,hg.sl]
      · rfl
    · intro R2 l2 h1 h2
      rw [hR,Option.some.injEq] at h1
      subst h1
      rw [hl,Option.some.injEq] at h2
      subst h2
      obtain ⟨R',l',k1,k2,k3,k4,k5⟩:=hc.acx e1 e3
      exact ⟨R',l',k1,k2.trans e2,k3,k4.trans e6,k5.trans e7⟩
  unfold St.qp at dF
  rw [hold] at dF
  simp only [Option.some.injEq] at dF
  have hko:=vQ r q o true
  have df:=kT r q o true
  have MV:∀ S' t1,jC (fS (cb r q o true) S) S' r q o t1 t'→Wr C w w' S S' (Hs++H) H t1→∀ d u,aQ w (ad C w S (Hs++H)) S d u→aQ w' (ad C w' S' H) S' (cb r q o true d) u:=
    fun S' t1 hc lL d u hd=>vN lL.stays hc (by simp) (oG df hd)
  split at dF
  · rename_i hs
    simp only [Prod.mk.injEq] at dF
    obtain ⟨rfl,rfl⟩:=dF
    refine fin (cb r q o true) df hko ?_ (.inl ⟨rfl,rfl⟩) rfl (fun i=>?_) (fun S' t1 hc ya lL=>⟨fun d u hd=>?_,MV S' t1 hc lL⟩)
    · exact nE df h.rt
    · simp only [r8]; exact Fx _ _ _ _ _
    · have he:t1.er=t0.er:=by
        rcases ya with rfl | ⟨_,rfl⟩
        · rfl
        · rw [HW df]
          cases hx:t0.er<;>simp [hx,gd] at hs
          simp [eO,df.sl]
      rw [← he]
      obtain ⟨g0,s0,n0,cs0,fR⟩:∃ g s n cs,t0.er=.sl g s n cs:=by
        cases hx:t0.er<;>simp [hx,gd] at hs
        exact ⟨_,_,_,_,rfl⟩
      have dK:=qu h.mem hR hl ho fR
      have aaf:aZ w (ad C w S (Hs++H)) t1:=by
        rcases ya with rfl | ⟨_,rfl⟩
        · exact dK
        · cases t0 with
          | own s n cap a xs=>exact dK
          | v d0 u0=>
            simp only [T.er] at fR
            simp only [aZ,fT] at dK ⊢
            rw [df.leaf,fR]
            rw [fR] at dK
            simpa [eO,df.sl] using dK
      exact VM lL.stays hc aaf lL.bQ (oG df hd)
  · rename_i hs
    split at dF
    · simp only [Prod.mk.injEq] at dF
      obtain ⟨rfl,rfl⟩:=dF
      refine fin (cb r q o true) df hko ?_ (.inl ⟨rfl,rfl⟩) rfl (fun i=>Fx _ _ _ _ _) (fun S' t1 hc ya lL=>⟨MV S' t1 hc lL,MV S' t1 hc lL⟩)
      exact nE df h.rt
    · rename_i pf
      simp only [Prod.mk.injEq] at dF
      obtain ⟨rfl,rfl⟩:=dF
      have dH:∀ S' t1,jC (fS id S) S' r q o t1 t'→Wr C w w' S S' (Hs++H) H t1→∀ d u,aQ w (ad C w S (Hs++H)) S d u→aQ w' (ad C w' S' H) S' (id d) u:=by
        intro S' t1 hc lL d' u' qv
        have jn:∃ d0 u0,t'=.v d0 u0∧sn (bj d0)=none:=by
          have IJ:∀ x:D,cy x=true→gd x=false→sn (bj x)=none:=by
            intro x h1 h2
            cases x<;>first | rfl | (exfalso; simp [cy] at h1; done) | (exfalso; simp [gd] at h2; done)
          rcases vT with ⟨_,rfl⟩ | ⟨_,_,u,rfl,_⟩
          · cases t' with
            | own s n cap a xs=>simp [T.er,gd] at pf
            | v d0 u0=>
              refine ⟨d0,u0,rfl,?_⟩
              simp only [T.er] at pf cx
              have:=IJ (bj d0) cx (by simpa using pf)
              rwa [Ai] at this
          · exact ⟨_,_,rfl,IJ _ cx (by simpa using pf)⟩
        obtain ⟨d0,u0,rfl,hn⟩:=jn
        exact Iy lL.stays hc (.inl hn) (oG DO qv)
      refine fin id DO (fun _=>.inl rfl) (VP h.rt) (.inr ⟨rfl,rfl,rfl⟩) rfl (fun _=>rfl) (fun S' t1 hc ya lL=>⟨dH S' t1 hc lL,dH S' t1 hc lL⟩)
end
end Go.Proofs.Ytockoilcnmljiaa
namespace Go.Proofs.Ytockoilcnmljiaa
section
variable {P:Program} {w:World}
theorem mJ {b off eR:Nat} {us:List Value} (hb:ka w b off eR us) {o:Nat} (ho:o < eR) {v:Value} (h1:v.oneCell'=true):(store ⟨b,off+o,none⟩ v).run P w=.ok () (w.setCell ⟨b,off+o,none⟩ v):=by
  obtain ⟨u,hu⟩:=Cc hb ho
  rw [run_store P w _ v _ h1,hu]
  simp [Cb hb ho]
theorem IK {b off:Nat} {v:Value} (h:w.cell? ⟨b,off,none⟩=some v):w.setCell ⟨b,off,none⟩ v=w:=by
  have hh:(w.setCell ⟨b,off,none⟩ v).heap=w.heap:=by
    apply Array.ext_getElem?
    intro k
    simp only [World.setCell,Array.getElem?_modify]
    split
    · rename_i hk
      subst hk
      cases hx:w.heap[b]? with
      | none=>rfl
      | some ob=>
        cases ob with
        | cells c e fz=>
          simp only [World.cell?,hx] at h
          simp only [Option.map_some,Option.isSome_none,Bool.false_eq_true,if_false]
          congr 2
          simp at h
          apply Array.ext_getElem?
          intro j
          rw [Array.getElem?_setIfInBounds]
          split
          · rename_i hj
            subst hj
            split
            · exact h.symm
            · rename_i cR
              rw [Array.getElem?_eq_none (by omega)] at h
              simp at h
          · rfl
        | _=>rfl
    · rfl
  have:w.setCell ⟨b,off,none⟩ v={ w with heap:=(w.setCell ⟨b,off,none⟩ v).heap }:=rfl
  rw [this,hh]
end
theorem IL {S:List (Nat × RT)} {r':Nat} {q':List Nat} {o':Nat} {d0:D} {u0:Value} (h0:cd S r' q' o'=some (.v d0 u0)) {r:Nat} {q:List Nat} {o:Nat} {t:T} (h1:cd S r q o=some t) (r1:Nat) (q1:List Nat) (o1 i:Nat):
    py r' q' o' r1 q1 o1 (.ptr r q i)=.ptr r q i∧cb r' q' o' true (.ptr r q i)=.ptr r q i:=by
  have vU:r=r'→under (q'++[o']) q=none:=by
    intro e
    subst e
    cases hu:under (q'++[o']) q with
    | none=>rfl
    | some y=>
      have:=iD hu
      unfold cd at h0 h1
      cases hr:lk S r with
      | none=>simp [hr] at h0
      | some R=>
        simp only [hr] at h0 h1
        cases hc:au R.cs q' with
        | none=>simp [hc] at h0
        | some l=>
          simp only [hc] at h0
          rw [this,List.append_assoc,List.singleton_append,Cl hc h0] at h1
          simp at h1
  simp only [py,cb]
  by_cases e:r=r'
  · simp only [if_pos e,vU e]
    exact ⟨trivial,trivial⟩
  · simp only [if_neg e]
    exact ⟨trivial,trivial⟩
section
variable {C:Ctx} {Hx:List T} {H:List T} {w:World} {st:St} {aB:List (Array Value)} {S:List (Nat × RT)}
theorem DP (h:Rel C H w st aB S) (r:Nat) (q:List Nat) (o:Nat) (e:Bool):Rel C H w (st.eG (cb r q o e)) aB (fS (cb r q o e) S)∧gB C w w S (fS (cb r q o e) S) H H (cb r q o e):=by
  refine LC h (kT r q o e) (fun d u hd=>?_) (fun d u hd=>pJ (kT r q o e) (vQ r q o e) hd) (fun d u hd=>rP hd)
  have h1:=oG (kT r q o e) hd
  cases d with
  | ref r' q' o' x=>
    simp only [cb]
    split
    · split
      · exact h1
      · split
        · simp [aQ,Ext]
        · exact h1
      · simp [aQ,Ext]
    · exact h1
  | ptr r' q' o'=>
    simp only [cb]
    split
    · split
      · exact h1
      · simp [aQ,Ext]
    · exact h1
  | _=>exact h1
theorem Ox (r:Nat) (q:List Nat) (o r1:Nat) (q1:List Nat) (o1:Nat) (d:D):py r q o r1 q1 o1 d=d∨(∃ r q o x,d=.ref r q o x)∨∃ r q o,d=.ptr r q o:=by
  cases d<;>first | exact .inl rfl | exact .inr (.inl ⟨_,_,_,_,rfl⟩) | exact .inr (.inr ⟨_,_,_,rfl⟩)
theorem IM (h:Rel C H w st aB S) {r':Nat} {q':List Nat} {o':Nat} {d0:D} {u0:Value} (h0:cd S r' q' o'=some (.v d0 u0)) {r:Nat} {q:List Nat} {o:Nat} {t:T} (h1:cd S r q o=some t) (hl:j7 (.v d0 u0) t):
    Rel C H w (st.eG (py r' q' o' r q o)) aB (fS (py r' q' o' r q o) S)∧gB C w w S (fS (py r' q' o' r q o) S) H H (py r' q' o' r q o):=by
  have fv:=xY r' q' o' r q o
  refine LC h fv (fun d u hd=>?_) (fun d u hd=>pJ fv (Ox r' q' o' r q o) hd) (fun d u hd=>rP hd)
  have h2:=oG fv hd
  cases d with
  | ref r2 q2 o2 x=>
    simp only [py]
    split
    · rename_i e
      subst e
      split
      · exact h2
      · rename_i hu
        have e1:=iD hu
        simp only [List.append_nil] at e1
        obtain ⟨rfl,e2⟩:=List.append_inj' e1 rfl
        simp only [List.cons.injEq,and_true] at e2
        subst e2
        refine oG fv ?_
        intro t2 LF
        rw [h1,Option.some.injEq] at LF
        subst LF
        exact jB hl (hd _ h0)
      · simp [aQ,Ext]
    · exact h2
  | ptr r2 q2 o2=>
    simp only [py]
    split
    · split
      · exact h2
      · simp [aQ,Ext]
    · exact h2
  | _=>exact h2
theorem Oy (fA:gy st.rt S) (hm:Mem C w S Hx) {d:D} {u:Value} (hd:bZ w (ad C w S Hx) S d u) (cw:(∀ cs,d≠.agg cs)→fe st d=true):bO (aQ w (ad C w S Hx) S) (cellsOf d) u.cells.toList:=by
  by_cases ha:∃ cs,d=.agg cs
  · obtain ⟨cs,rfl⟩:=ha
    obtain ⟨us,rfl,h⟩:=hd
    exact h
  · refine Ba fA hm hd (fun x hx=>?_)
    have hc:cellsOf d=[d]:=by cases d<;>first | rfl | exact absurd ⟨_,rfl⟩ ha
    rw [hc] at hx
    simp only [List.mem_singleton] at hx
    subst hx
    exact cw (fun cs e=>ha ⟨cs,e⟩)
end
theorem uY {st:St} {d:D} (h:fe st d=true):cy d=true:=by
  cases d<;>first | rfl | exact h
section
variable {P:Program} {C:Ctx} {Hx:List T} {aB:List (Array Value)}
theorem KR:∀ {ds:List D} {us:List Value} {w:World} {st st':St} {S:List (Nat × RT)} {r o:Nat} {h:D→D} {b off i:Nat},Rel C Hx w st aB S→(∃ R,lk S r=some R∧R.box=some b)→bO (fun d u=>aQ w (ad C w S Hx) S (h d) u) ds us→o=off+i→lT st r o h ds=some st'→
    ∃ w' S',(storeCells ⟨b,off,none⟩ us i).run P w=.ok () w'∧Rel C Hx w' st' aB S'∧st'.of=st.of:=by
  intro ds
  induction ds with
  | nil=>
    intro us w st st' S r o h b off i hr _ hu _ hs
    cases hu
    simp only [lT,Option.some.injEq] at hs
    subst hs
    exact ⟨w,S,rfl,hr,rfl⟩
  | cons d ds ih=>
    intro us w st st' S r o h b off i hr sw hu yb hs
    cases hu with
    | cons qy Al=>
    rename_i u us
    simp only [lT] at hs
    split at hs
    · simp at hs
    rename_i cw
    simp only [Bool.not_eq_true',Bool.not_eq_false] at cw
    split at hs
    case h_2=>simp at hs
    rename_i aE f dF
    split at hs
    case h_2=>simp at hs
    rename_i bS ir
    obtain ⟨R,hR,hb⟩:=sw
    obtain ⟨h1,_⟩:=IH hr.rt hr.mem qy cw
    have cx:∃ t0,R.cs[o]?=some t0:=by
      unfold St.qp at dF
      cases hx:st.cell r [] o with
      | none=>simp [hx] at dF
      | some bQ=>
        obtain ⟨R',l,t,g1,g2,g3,_⟩:=hM hr.rt hx
        rw [hR,Option.some.injEq] at g1
        subst g1
        simp only [au,Option.some.injEq] at g2
        subst g2
        exact ⟨t,g3⟩
    obtain ⟨t0,ho⟩:=cx
    have ha:bI R.box R.cs []=some (b,0):=by simp [bI,hb]
    obtain ⟨b',A3,eR,ej,eF,Rc,_⟩:=oD hr.mem hR (q:=[]) rfl (fun e=>by rw [e] at ho; simp at ho) (fun _=>by rw [hb]; rfl)
    rw [ha] at ej
    simp only [Option.some.injEq,Prod.mk.injEq] at ej
    obtain ⟨rfl,rfl⟩:=ej
    have Ow:o < R.cs.length:=(List.getElem?_eq_some_iff.1 ho).1
    have dP:=mJ (P:=P) eF (o:=o) (by omega) h1
    have hfd:bj (f (h d))=f (h d):=by
      have key:∀ x:D,cy x=true→bj x=x→bj (f x)=f x:=by
        intro x hx T4
        unfold St.qp at dF
        cases hy:st.cell r [] o with
        | none=>simp [hy] at dF
        | some bQ=>
          simp only [hy,Option.some.injEq] at dF
          have hk:bj (cb r [] o true x)=cb r [] o true x:=by
            cases x with
            | ref r' q' o' y=>simp only [cb]; split<;>(try split)<;>(try split)<;>rfl
            | ptr r' q' o'=>simp only [cb]; split<;>(try split)<;>rfl
            | _=>exact T4
          split at dF
          · simp only [Prod.mk.injEq] at dF
            obtain ⟨_,rfl⟩:=dF
            cases x with
            | ref r' q' o' y=>
              simp only [r8]
              split
              · split
                · rfl
                · split
                  · exact (by rename_i g _ _ _ _; cases g<;>rfl)
                  · rfl
              · rfl
            | _=>exact hk
          · split at dF
            · simp only [Prod.mk.injEq] at dF
              obtain ⟨_,rfl⟩:=dF
              exact hk
            · simp only [Prod.mk.injEq] at dF
              obtain ⟨_,rfl⟩:=dF
              exact T4
      refine key _ (uY cw) ?_
      cases hx:h d with
      | sl g s n cs=>
        rw [hx] at qy
        cases g with
        | none=>simp [aQ,Ext] at qy
        | some g=>rfl
      | _=>rfl
    obtain ⟨S',a1,a2,a3,a4⟩:=x9 (Hs:=[]) (H:=Hx) (t':=.v (f (h d)) u) hr hR rfl ho ha dF (by simp only [T.er]; rw [hfd]; exact ir) (uY cw) (.inr ⟨rfl,rfl,u,rfl,qy⟩)
    simp only [T.val,Nat.zero_add] at a1 a2
    simp only [Nat.zero_add] at dP
    obtain ⟨R',l',k1,k2,_⟩:=a3.path hR (q:=[]) rfl
    obtain ⟨w',wP,c1,c2,c3⟩:=ih (i:=i+1) (o:=o+1) (off:=off) (h:=fun x=>f (h x)) a1 ⟨R',k1,k2.trans hb⟩ (Al.mono (fun _ _ hh=>a2 _ _ hh)) (by omega) hs
    refine ⟨w',wP,?_,c2,c3.trans a4⟩
    rw [storeCells]
    simp only [Sem.run_bind,eH]
    rw [← yb,dP]
    exact c1
theorem IN:∀ {ts:List T} {w:World} {st st':St} {S:List (Nat × RT)} {r o:Nat} {b off i:Nat},Rel C (ts++Hx) w st aB S→(∃ R,lk S r=some R∧R.box=some b)→o=off+i→lU st r o (aP ts)=some st'→
    ∃ w' S',(storeCells ⟨b,off,none⟩ (ay ts) i).run P w=.ok () w'∧Rel C Hx w' st' aB S'∧st'.of=st.of:=by
  intro ts
  induction ts with
  | nil=>
    intro w st st' S r o b off i hr _ _ hs
    simp only [aP,lU,Option.some.injEq] at hs
    subst hs
    exact ⟨w,S,rfl,hr,rfl⟩
  | cons t ts ih=>
    intro w st st' S r o b off i hr sw yb hs
    simp only [aP,lU] at hs
    split at hs
    · simp at hs
    rename_i cw
    simp only [Bool.not_eq_true',Bool.not_eq_false] at cw
    split at hs
    case h_2=>simp at hs
    rename_i aE f dF
    split at hs
    case h_2=>simp at hs
    rename_i bS ir
    obtain ⟨R,hR,hb⟩:=sw
    have cY:=hr.mem.hand
    simp only [List.cons_append,ba] at cY
    obtain ⟨h1,_⟩:=kU cY.1 cw
    have cx:∃ t0,R.cs[o]?=some t0:=by
      unfold St.qp at dF
      cases hx:st.cell r [] o with
      | none=>simp [hx] at dF
      | some bQ=>
        obtain ⟨R',l,t,g1,g2,g3,_⟩:=hM hr.rt hx
        rw [hR,Option.some.injEq] at g1
        subst g1
        simp only [au,Option.some.injEq] at g2
        subst g2
        exact ⟨t,g3⟩
    obtain ⟨t0,ho⟩:=cx
    have ha:bI R.box R.cs []=some (b,0):=by simp [bI,hb]
    obtain ⟨b',A3,eR,ej,eF,Rc,_⟩:=oD hr.mem hR (q:=[]) rfl (fun e=>by rw [e] at ho; simp at ho) (fun _=>by rw [hb]; rfl)
    rw [ha] at ej
    simp only [Option.some.injEq,Prod.mk.injEq] at ej
    obtain ⟨rfl,rfl⟩:=ej
    have Ow:o < R.cs.length:=(List.getElem?_eq_some_iff.1 ho).1
    have dP:=mJ (P:=P) eF (o:=o) (by omega) h1
    obtain ⟨S',a1,a2,a3,a4⟩:=x9 (Hs:=[t]) (H:=ts++Hx) (t':=t) hr hR rfl ho ha dF ir cw (.inl ⟨rfl,rfl⟩)
    simp only [Nat.zero_add] at a1 a2
    simp only [Nat.zero_add] at dP
    obtain ⟨R',l',k1,k2,_⟩:=a3.path hR (q:=[]) rfl
    obtain ⟨w',wP,c1,c2,c3⟩:=ih (i:=i+1) (o:=o+1) (off:=off) a1 ⟨R',k1,k2.trans hb⟩ (by omega) hs
    refine ⟨w',wP,?_,c2,c3.trans a4⟩
    rw [ay,storeCells]
    simp only [Sem.run_bind,eH]
    rw [← yb,dP]
    exact c1
end
end Go.Proofs.Ytockoilcnmljiaa
namespace Go.Proofs.Ytockoilcnmljiaa
theorem yc {r:Nat} {q:List Nat} {o:Nat} {x:D} {r':Nat} {q':List Nat} {o':Nat} {y:Option (Nat × Nat)} (h:cb r q o true x=.ref r' q' o' y):x=.ref r' q' o' y∧(r'≠r∨under (q++[o]) (q'++[o'])=none):=by
  cases x with
  | ref r2 q2 o2 x2=>
    simp only [cb] at h
    split at h
    · split at h
      · rename_i hu
        simp only [D.ref.injEq] at h
        obtain ⟨rfl,rfl,rfl,rfl⟩:=h
        exact ⟨rfl,.inr hu⟩
      · simp at h
      · simp at h
    · rename_i cK
      simp only [D.ref.injEq] at h
      obtain ⟨rfl,rfl,rfl,rfl⟩:=h
      exact ⟨rfl,.inl cK⟩
  | ptr r2 q2 o2=>
    simp only [cb] at h
    split at h
    · split at h<;>simp at h
    · simp at h
  | _=>simp [cb] at h
theorem IP {r:Nat} {q:List Nat} {o:Nat} {bQ x:D} {r':Nat} {q':List Nat} {o':Nat} {y:Option (Nat × Nat)} (h:r8 r q o bQ x=.ref r' q' o' y):x=.ref r' q' o' y∧(r'≠r∨under (q++[o]) (q'++[o'])=none):=by
  cases x with
  | ref r2 q2 o2 x2=>
    simp only [r8] at h
    split at h
    · split at h
      · rename_i hu
        simp only [D.ref.injEq] at h
        obtain ⟨rfl,rfl,rfl,rfl⟩:=h
        exact ⟨rfl,.inr hu⟩
      · split at h
        · rename_i g s n cs _
          cases g<;>simp [gS] at h
        · simp at h
    · rename_i cK
      simp only [D.ref.injEq] at h
      obtain ⟨rfl,rfl,rfl,rfl⟩:=h
      exact ⟨rfl,.inl cK⟩
  | _=>exact yc h
theorem VQ {st aE:St} {r:Nat} {q:List Nat} {o:Nat} {d:D} {f:D→D} (h:st.qp r q o d=some (aE,f)) (hd:gd d=true) {x:D} {r':Nat} {q':List Nat} {o':Nat} {y:Option (Nat × Nat)} (hx:f x=.ref r' q' o' y):x=.ref r' q' o' y∧(r'≠r∨under (q++[o]) (q'++[o'])=none):=by
  unfold St.qp at h
  split at h
  case h_2=>simp at h
  simp only [Option.some.injEq] at h
  split at h
  · simp only [Prod.mk.injEq] at h
    obtain ⟨_,rfl⟩:=h
    exact IP hx
  · try rw [if_pos hd] at h
    simp only [hd,if_true,Prod.mk.injEq] at h
    obtain ⟨_,rfl⟩:=h
    exact yc hx
theorem Oz {st st':St} {r:Nat} {q:List Nat} {o:Nat} {x:Option (Nat × Nat)} {d:D} (h:iv st (.ref r q o x)=some (d,st')):gd d=true:=by
  simp only [iv] at h
  split at h
  · split at h
    · simp only [Option.some.injEq,Prod.mk.injEq] at h
      rw [← h.1]; rfl
    · simp at h
  · simp only [Option.some.injEq,Prod.mk.injEq] at h
    rw [← h.1]; rfl
  · simp at h
section
variable {P:Program} {C:Ctx} {Hx:List T} {aB:List (Array Value)}
theorem KS:∀ {ds:List D} {us:List Value} {w:World} {st st':St} {S:List (Nat × RT)} {r:Nat} {q:List Nat} {o:Nat} {h:D→D} {b off0 off i:Nat},Rel C Hx w st aB S→aQ w (ad C w S Hx) S (.ptr r q 0) (.pointer (some ⟨b,off0,none⟩))→bO (fun d u=>aQ w (ad C w S Hx) S (h d) u) ds us→off+i=off0+o→iq st r q o h ds=some st'→
    ∃ w' S',(storeCells ⟨b,off,none⟩ us i).run P w=.ok () w'∧Rel C Hx w' st' aB S'∧st'.of=st.of:=by
  intro ds
  induction ds with
  | nil=>
    intro us w st st' S r q o h b off0 off i hr _ hu _ hs
    cases hu
    simp only [iq,Option.some.injEq] at hs
    subst hs
    exact ⟨w,S,rfl,hr,rfl⟩
  | cons d ds ih=>
    intro us w st st' S r q o h b off0 off i hr hp hu yb hs
    cases hu with
    | cons qy Al=>
    rename_i u us
    have place:∀ {H:List T} {T5:St} {S0:List (Nat × RT)},Rel C H w T5 aB S0→aQ w (ad C w S0 H) S0 (.ptr r q 0) (.pointer (some ⟨b,off0,none⟩))→∀ {bQ:D},T5.cell r q o=some bQ→
        ∃ R l t0 eR,lk S0 r=some R∧au R.cs q=some l∧l[o]?=some t0∧t0.er=bQ∧bI R.box R.cs q=some (b,off0)∧ka w b off0 eR (ay l)∧o < eR:=by
      intro H T5 S0 LG IQ bQ hc
      obtain ⟨R,l,t0,g1,g2,g3,g4,g5⟩:=hM LG.rt hc
      obtain ⟨Ak,xR⟩:=IQ R g1
      obtain ⟨b',A3,eR,k1,k2,k3,_⟩:=oD LG.mem g1 g2 (fun e=>by subst e; simp at g3) Ak
      have:=xR b' A3 k1
      simp only [Value.pointer.injEq,Option.some.injEq,Addr.mk.injEq,Nat.add_zero,and_true] at this
      obtain ⟨rfl,rfl⟩:=this
      exact ⟨R,l,t0,eR,g1,g2,g3,g5.symm,k1,k2,by have:=(List.getElem?_eq_some_iff.1 g3).1; omega⟩
    simp only [iq] at hs
    split at hs
    · rename_i uZ
      simp only [Bool.and_eq_true] at uZ
      obtain ⟨uZ,cw⟩:=uZ
      have hd:h d=.ref r q o none:=by
        cases hx:h d with
        | ref r2 q2 o2 x2=>
          rw [hx] at uZ
          cases x2 with
          | none=>
            simp only [AV,Bool.and_eq_true,decide_eq_true_eq] at uZ
            obtain ⟨⟨rfl,rfl⟩,rfl⟩:=uZ
            rfl
          | some p=>simp [AV] at uZ
        | _=>rw [hx] at uZ; simp [AV] at uZ
      rw [hd] at cw qy
      obtain ⟨h1,_⟩:=IH hr.rt hr.mem qy cw
      simp only [fe] at cw
      split at cw
      case h_2=>simp at cw
      rename_i g s n cs hc
      obtain ⟨R,l,t0,eR,g1,g2,g3,g4,g5,g6,g7⟩:=place hr hp hc
      have Bd:u=t0.val:=by
        have:=qy t0 (by rw [AY g1 g2]; exact g3)
        unfold ey at this
        rw [g4] at this
        exact this
      have dP:=mJ (P:=P) g6 g7 h1
      rw [IK (by rw [Bd]; exact so g6 (by rw [eQ,g3]; rfl))] at dP
      obtain ⟨w',S',c1,c2,c3⟩:=ih (i:=i+1) (o:=o+1) (off:=off) hr hp Al (by omega) hs
      refine ⟨w',S',?_,c2,c3⟩
      rw [storeCells]
      simp only [Sem.run_bind,eH]
      rw [yb,dP]
      exact c1
    · split at hs
      case h_2=>simp at hs
      rename_i d' aE df
      split at hs
      · simp at hs
      rename_i fY
      simp only [Bool.not_eq_true',Bool.not_eq_false] at fY
      split at hs
      case h_2=>simp at hs
      rename_i bS f dF
      split at hs
      case h_2=>simp at hs
      rename_i Ag ir
      obtain ⟨t,S1,a1,rfl,a3,a4,a5,a6,a7⟩:=rO hr qy df
      have hp1:=a4 _ _ hp
      have cx:∃ bQ,aE.cell r q o=some bQ:=by
        unfold St.qp at dF
        cases hx:aE.cell r q o with
        | none=>simp [hx] at dF
        | some bQ=>exact ⟨bQ,rfl⟩
      obtain ⟨bQ,cx⟩:=cx
      obtain ⟨R,l,t0,eR,g1,g2,g3,g4,g5,g6,g7⟩:=place a1 hp1 cx
      have cY:=a1.mem.hand
      simp only [ba] at cY
      obtain ⟨h1,_⟩:=kU cY.1 fY
      have dP:=mJ (P:=P) g6 g7 h1
      obtain ⟨S2,b1,b2,b3,b4⟩:=x9 (Hs:=[t]) (H:=Hx) (t':=t) a1 g1 g2 g3 g5 dF ir fY (.inl ⟨rfl,rfl⟩)
      rw [a3] at dP b1 b2
      generalize qz:w.setCell ⟨b,off0+o,none⟩ u=w1 at dP b1 b2
      have LH:=b2 _ _ hp1
      rw [b3.ptr] at LH
      have XE:∃ S3,Rel C Hx w1 (Ag.rC (f (h d)) r q o) aB S3∧gB C w1 w1 S2 S3 Hx Hx (uU (f (h d)) r q o)∧uU (f (h d)) r q o (.ptr r q 0)=.ptr r q 0∧(Ag.rC (f (h d)) r q o).of=Ag.of:=by
        cases hx:f (h d) with
        | ref r' q' o' y=>
          have hh:gd t.er=true:=by
            cases hd:h d with
            | ref r2 q2 o2 x2=>rw [hd] at df; exact Oz df
            | _=>
              exfalso
              rw [hd] at hx
              unfold St.qp at dF
              rw [cx] at dF
              simp only [Option.some.injEq] at dF
              split at dF
              · simp only [Prod.mk.injEq] at dF
                obtain ⟨_,rfl⟩:=dF
                have:=(IP hx).1
                simp at this
              · split at dF
                · simp only [Prod.mk.injEq] at dF
                  obtain ⟨_,rfl⟩:=dF
                  have:=(yc hx).1
                  simp at this
                · simp only [Prod.mk.injEq] at dF
                  obtain ⟨_,rfl⟩:=dF
                  simp at hx
          obtain ⟨hd,AW⟩:=VQ dF hh hx
          obtain ⟨d0,u0,k1,k2,k3,k4⟩:=a7 r' q' o' y hd
          have vV:=b3.hole r' q' o' d0 u0 k1 k2 k3 AW
          cases y with
          | none=>
            obtain ⟨m1,m2⟩:=IM b1 vV b3.new (k4 rfl)
            exact ⟨_,m1,m2,(IL vV b3.new r q o 0).1,rfl⟩
          | some y=>
            obtain ⟨m1,m2⟩:=DP b1 r' q' o' true
            exact ⟨_,m1,m2,(IL vV b3.new r q o 0).2,rfl⟩
        | _=>exact ⟨S2,b1,fun _ _ hh=>hh,rfl,rfl⟩
      obtain ⟨S3,c1,c2,c3,c4⟩:=XE
      have hp3:=c2 _ _ LH
      rw [c3] at hp3
      obtain ⟨w',S',e1,e2,e3⟩:=ih (i:=i+1) (o:=o+1) (off:=off) (h:=fun x=>uU (f (h d)) r q o (f (h x))) c1 hp3 (Al.mono (fun _ _ hh=>c2 _ _ (b2 _ _ (a4 _ _ hh)))) (by omega) hs
      refine ⟨w',S',?_,e2,e3.trans (c4.trans (b4.trans a6.2.2))⟩
      rw [storeCells]
      simp only [Sem.run_bind,eH]
      rw [yb,dP]
      exact e1
theorem Gr {st st':St} {r:Nat}:∀ {ds:List D} {st st':St} {o:Nat},lU st r o ds=some st'→∀ d∈ds,cy d=true:=by
  intro ds
  induction ds with
  | nil=>intro st st' o _ d hd; simp at hd
  | cons d ds ih=>
    intro st st' o hs x hx
    simp only [lU] at hs
    split at hs
    · simp at hs
    rename_i cw
    simp only [Bool.not_eq_true',Bool.not_eq_false] at cw
    split at hs
    case h_2=>simp at hs
    split at hs
    case h_2=>simp at hs
    rcases List.mem_cons.1 hx with rfl | hx
    · exact cw
    · exact ih hs x hx
theorem OA {c:cf} (ao:dU c P) {w:World} {st st':St} {S:List (Nat × RT)} (h:Rel C Hx w st aB S) {t:TypeId} {i:TI} (ht:c.ty t=some i) {a v:D} {ua uv:Value} (ha:bZ w (ad C w S Hx) S a ua) (hv:bZ w (ad C w S Hx) S v uv) {oz:Nat→Bool} (hs:r9 st oz i.size a v=some st'):
    ∃ w' S',(Instr.storeAt t ua uv).run P w=.ok () w'∧Rel C Hx w' st' aB S'∧st'.of=st.of:=by
  cases a with
  | ptr r q o=>
    simp only [r9] at hs
    split at hs
    case isFalse=>simp at hs
    rename_i hc
    obtain ⟨hlen,ud⟩:=hc
    obtain ⟨R,b,off,hR,zy,rfl⟩:=rN h.rt h.mem ud ha
    have cE:=(ao.ty _ _ ht).sz w
    have hp:aQ w (ad C w S Hx) S (.ptr r q 0) (.pointer (some ⟨b,off,none⟩)):=by
      intro R' dQ
      rw [hR,Option.some.injEq] at dQ
      subst dQ
      refine ⟨(ha R hR).1,fun b' A3 e=>?_⟩
      rw [zy,Option.some.injEq,Prod.mk.injEq] at e
      obtain ⟨rfl,rfl⟩:=e
      rfl
    have hsa:∀ A:Addr,(Instr.sureAddr (.pointer (some A))).run P w=.ok A w:=fun A=>rfl
    have run:∀ {us:List Value} {w':World},uv.cells.toList=us→us.length=i.size→(storeCells ⟨b,off+o,none⟩ us 0).run P w=.ok () w'→(Instr.storeAt t (.pointer (some ⟨b,off+o,none⟩)) uv).run P w=.ok () w':=by
      intro us w' e1 e2 e3
      have e4:uv.cells.size=i.size:=by rw [← e2,← e1]; simp
      simp only [Instr.storeAt,Sem.run_bind,hsa,Result.andThen_ok,storeVar,cE]
      simp only [e4,ne_eq,not_true_eq_false,if_false,Sem.run_bind,Sem.run_pure,Result.andThen_ok,e1]
      exact e3
    have jn:∀ {ds:List D},lT st r o id ds=some st'∨iq st r q o id ds=some st'→ds=cellsOf v→(∀ cs,v≠.agg cs)→fe st v=true∨∃ d' aE,iv st v=some (d',aE)∧cy d'=true:=by
      intro ds h1 h2 h3
      have hc:cellsOf v=[v]:=by cases v<;>first | rfl | exact absurd rfl (h3 _)
      rw [hc] at h2
      subst h2
      rcases h1 with h1 | h1
      · simp only [lT,id] at h1
        split at h1
        · simp at h1
        rename_i cw
        simp only [Bool.not_eq_true',Bool.not_eq_false] at cw
        exact .inl cw
      · simp only [iq,id] at h1
        split at h1
        · rename_i hh
          simp only [Bool.and_eq_true] at hh
          exact .inl hh.2
        split at h1
        case h_2=>simp at h1
        rename_i d' aE df
        split at h1
        · simp at h1
        rename_i fY
        simp only [Bool.not_eq_true',Bool.not_eq_false] at fY
        exact .inr ⟨d',aE,df,fY⟩
    have na:∀ {ds:List D},lT st r o id ds=some st'∨iq st r q o id ds=some st'→ds=cellsOf v→bO (aQ w (ad C w S Hx) S) (cellsOf v) uv.cells.toList:=by
      intro ds h1 h2
      by_cases dV:∃ cs,v=.agg cs
      · obtain ⟨cs,rfl⟩:=dV
        obtain ⟨us,rfl,hh⟩:=hv
        exact hh
      · have h3:∀ cs,v≠.agg cs:=fun cs e=>dV ⟨cs,e⟩
        rcases jn h1 h2 h3 with h4 | ⟨d',aE,h4,h5⟩
        · exact Oy h.rt h.mem hv (fun _=>h4)
        · have hc:cellsOf v=[v]:=by cases v<;>first | rfl | exact absurd rfl (h3 _)
          have kL:aQ w (ad C w S Hx) S v uv:=by
            cases v<;>first | exact hv | (simp [iv] at h4; done) | exact absurd rfl (h3 _)
          obtain ⟨t',S1,a1,rfl,a3,_⟩:=rO h kL h4
          have cY:=a1.mem.hand
          simp only [ba] at cY
          have:=(kU cY.1 h5).2
          rw [a3] at this
          rw [hc,this]
          exact .cons kL .nil
    cases q with
    | nil=>
      have hb:∃ b',R.box=some b'∧b'=b∧off=0:=by
        simp only [bI] at zy
        cases hx:R.box with
        | none=>simp [hx] at zy
        | some b'=>simp only [hx,Option.map_some,Option.some.injEq,Prod.mk.injEq] at zy; exact ⟨b',rfl,zy.1,zy.2.symm⟩
      obtain ⟨b',hb,rfl,rfl⟩:=hb
      simp only at hs
      split at hs
      · split at hs
        case h_2=>simp at hs
        rename_i cs aE df
        obtain ⟨ts,S1,b1,rfl,b3,b4,b5,b6⟩:=oK h hv df
        have Ru:=Gr (st:=aE) (st':=st') hs
        obtain ⟨R1,k1,k2,_⟩:=b5.fwd r R hR
        have dK:=((dv _ _).1 b1.mem.hand).1
        rw [bU] at dK
        have gh:ay ts=uv.cells.toList:=by
          by_cases dV:∃ cs,v=.agg cs
          · obtain ⟨cs,rfl⟩:=dV
            exact b3
          · have yd:gi v uv=[uv]:=by cases v<;>first | rfl | exact absurd ⟨_,rfl⟩ dV
            rw [yd] at b3
            rw [b3]
            cases ts with
            | nil=>simp [ay] at b3
            | cons y ys=>
              simp only [ay,List.cons.injEq] at b3
              have:=kU (dK y (by simp)) (Ru y.er (by simp [aP]))
              rw [b3.1] at this
              rw [this.2]
        have T6:(aP ts).length=i.size:=by
          rw [← hlen]
          have h1:=congrArg List.length gh
          rw [bw] at h1
          rw [eS,h1]
          by_cases dV:∃ cs,v=.agg cs
          · obtain ⟨cs,rfl⟩:=dV
            obtain ⟨us,rfl,hh⟩:=hv
            have:=hh.len
            simp only [cellsOf,Value.cells]
            exact this.symm
          · have yd:gi v uv=[uv]:=by cases v<;>first | rfl | exact absurd ⟨_,rfl⟩ dV
            have lj:cellsOf v=[v]:=by cases v<;>first | rfl | exact absurd ⟨_,rfl⟩ dV
            rw [yd] at b3
            rw [← gh,b3,lj]; rfl
        obtain ⟨w',S',c1,c2,c3⟩:=IN (P:=P) (b:=b') (off:=0+o) (i:=0) b1 ⟨R1,k1,k2.trans hb⟩ (by omega) hs
        refine ⟨w',S',?_,c2,c3.trans b6.2.2⟩
        exact run gh.symm (by rw [bw]; rw [eS] at T6; exact T6) c1
      · have dJ:=na (.inl hs) rfl
        obtain ⟨w',S',c1,c2,c3⟩:=KR (P:=P) (b:=b') (off:=0+o) (i:=0) h ⟨R,hR,hb⟩ dJ (by omega) hs
        exact ⟨w',S',run rfl (by rw [← dJ.len]; exact hlen) c1,c2,c3⟩
    | cons p q=>
      simp only at hs
      have dJ:=na (.inr hs) rfl
      obtain ⟨w',S',c1,c2,c3⟩:=KS (P:=P) (b:=b) (off0:=off) (off:=off+o) (i:=0) h hp dJ (by omega) hs
      exact ⟨w',S',run rfl (by rw [← dJ.len]; exact hlen) c1,c2,c3⟩
  | _=>simp [r9] at hs
end
end Go.Proofs.Ytockoilcnmljiaa
namespace Go.Proofs.Ytockoilcnmljiaa
theorem sA {b:Nat}:∀ (vs:List Value) (o:Nat) (w:World) {c:Array Value} {e:TypeId} {fz:Nat × Nat},w.heap[b]?=some (.cells c e fz)→o+vs.length≤c.size→
    ∃ c':Array Value,(w.setCells b o vs).heap[b]?=some (.cells c' e fz)∧c'.size=c.size∧(∀ (j:Nat) (u:Value),vs[j]?=some u→c'[o+j]?=some u)∧(∀ i,i < o∨o+vs.length≤i→c'[i]?=c[i]?)∧(∀ k,k≠b→(w.setCells b o vs).heap[k]?=w.heap[k]?)∧
      (w.setCells b o vs).heap.size=w.heap.size∧(w.setCells b o vs).os=w.os∧(w.setCells b o vs).tape=w.tape∧(w.setCells b o vs).output=w.output
  | [],o,w,c,e,fz,h,_=>⟨c,h,rfl,by simp,fun _ _=>rfl,fun _ _=>rfl,rfl,rfl,rfl,rfl⟩
  | v::vs,o,w,c,e,fz,h,hl=>by
    have h1:(w.setCell ⟨b,o,none⟩ v).heap[b]?=some (.cells (c.setIfInBounds o v) e fz):=by
      simp [World.setCell,Array.getElem?_modify,h]
    simp only [List.length_cons] at hl
    obtain ⟨c',g1,g2,g3,g4,g5,g6,g7,g8,g9⟩:=sA vs (o+1) (w.setCell ⟨b,o,none⟩ v) h1 (by simp; omega)
    refine ⟨c',g1,by rw [g2]; simp,?_,?_,?_,?_,g7,g8,g9⟩
    · intro j u hj
      cases j with
      | zero=>
        simp only [List.getElem?_cons_zero,Option.some.injEq] at hj
        subst hj
        rw [Nat.add_zero,g4 o (.inl (by omega)),Array.getElem?_setIfInBounds_self_of_lt (by omega)]
      | succ j=>
        simp only [List.getElem?_cons_succ] at hj
        have:=g3 j u hj
        rw [show o+(j+1)=o+1+j by omega]; exact this
    · intro i hi
      rw [g4 i (by simp only [List.length_cons] at hi; omega),Array.getElem?_setIfInBounds_ne (by simp only [List.length_cons] at hi; omega)]
    · intro k hk
      rw [World.setCells,g5 k hk]
      simp only [World.setCell,Array.getElem?_modify]
      rw [if_neg (by simpa using Ne.symm hk)]
    · rw [World.setCells,g6]; simp [World.setCell]
section
variable {C:Ctx} {H:List T} {w:World} {st st':St} {aB:List (Array Value)} {S:List (Nat × RT)}
theorem OB {Ys:List T} {s n cap m b off:Nat} {ts:List T} (h:Rel C (Ys++.own s n cap (some (b,off)) ts::H) w st aB S) (hm:Ys.length=m*s) (hc:n+m≤cap):
    Rel C (.own s (n+m) cap (some (b,off)) (ts++Ys)::H) (w.setCells b (off+n*s) (ay Ys)) st aB S∧
    gB C w (w.setCells b (off+n*s) (ay Ys)) S S (Ys++.own s n cap (some (b,off)) ts::H) (.own s (n+m) cap (some (b,off)) (ts++Ys)::H) id:=by
  have cY:=h.mem.hand
  rw [dv] at cY
  obtain ⟨hY,hT⟩:=cY
  simp only [ba,aZ] at hT
  obtain ⟨⟨h1,h2,eF,h4⟩,hH⟩:=hT
  obtain ⟨c,e,fz,g1,g2,g3,g4⟩:=eF
  have hmul:n*s+m*s≤cap*s:=by rw [← Nat.add_mul]; exact Nat.mul_le_mul_right _ hc
  obtain ⟨c',k1,k2,k3,k4,k5,k6,k7,k8,k9⟩:=sA (ay Ys) (off+n*s) w g1 (by rw [bw,hm]; omega)
  generalize w.setCells b (off+n*s) (ay Ys)=w' at k1 k5 k6 k7 k8 k9 ⊢
  have T7:(ae (.own s (n+m) cap (some (b,off)) (ts++Ys)::H)).Perm (ae (Ys++.own s n cap (some (b,off)) ts::H)):=by
    refine List.perm_iff_count.2 fun a=>?_
    simp only [ae,aO,T.ft,iw,List.count_append]
    omega
  have cQ:∀ k,k∈ae (.own s (n+m) cap (some (b,off)) (ts++Ys)::H)↔k∈ae (Ys++.own s n cap (some (b,off)) ts::H):=fun k=>T7.mem_iff
  have hb:b∈ae (Ys++.own s n cap (some (b,off)) ts::H):=by simp [aO,ae,T.ft,iw]
  have eT:=h.mem.nd
  have ch:iE w w' (ad C w S (Ys++.own s n cap (some (b,off)) ts::H)) (ad C w' S (.own s (n+m) cap (some (b,off)) (ts++Ys)::H)):=by
    intro bb k hk
    exact ⟨⟨by rw [k6]; exact hk.1,hk.2.1,fun hx=>hk.2.2.1 ((cQ k).1 hx),hk.2.2.2⟩,k5 k (fun e=>hk.2.2.1 (e▸hb))⟩
  have dH:∀ d u,aQ w (ad C w S (Ys++.own s n cap (some (b,off)) ts::H)) S d u→aQ w' (ad C w' S (.own s (n+m) cap (some (b,off)) (ts++Ys)::H)) S d u:=fun d u hd=>qx ch (fun _ _ h=>h) hd
  have OC:∀ k,k∈cr S∨k∈ae ts∨k∈ae Ys∨k∈ae H→k≠b:=by
    intro k hk e
    subst e
    have hn2:(cr S++(ae Ys++(k::ae ts++ae H))).Nodup:=by
      have:=eT
      rw [aO,ae,T.ft,iw] at this
      simpa using this
    have p1:(cr S++(ae Ys++(k::ae ts++ae H))).Perm (k::(cr S++(ae Ys++(ae ts++ae H)))):=by
      refine List.perm_iff_count.2 fun a=>?_
      simp only [List.count_append,List.count_cons]
      omega
    have OD:=p1.nodup_iff.1 hn2
    simp only [List.nodup_cons,List.mem_append] at OD
    rcases hk with hk | hk | hk | hk
    · exact OD.1 (.inl hk)
    · exact OD.1 (.inr (.inr (.inl hk)))
    · exact OD.1 (.inr (.inl hk))
    · exact OD.1 (.inr (.inr (.inr hk)))
  refine ⟨h.pH h.rt rfl rfl dH ⟨(List.Perm.append_left _ T7).nodup_iff.2 eT,?_,?_,fun k hk=>?_⟩ ?_,dH⟩
  · intro r R hR
    obtain ⟨q1,q2⟩:=h.mem.root r R hR
    have hRS:∀ k∈R.ft,k∈cr S:=fun k hk=>Ar hR hk
    refine ⟨?_,fun t ht=>?_⟩
    · cases hx:R.box with
      | none=>trivial
      | some b0=>
        simp only [hx] at q1 ⊢
        obtain ⟨c0,e0,XF,r1,r2⟩:=q1
        exact ⟨c0,e0,XF,by rw [k5 b0 (OC b0 (.inl (hRS b0 (by simp [RT.ft,hx]))))]; exact r1,r2⟩
    · have:=q2 t ht
      cases t with
      | v d u=>
        rcases this with this | ⟨hb,this⟩
        · exact .inl (fN ch _ _ this)
        · exact .inr ⟨hb,dH _ _ this⟩
      | own s' n' rb a' xs=>exact du ch _ this (fun k hk=>k5 k (OC k (.inl (hRS k (by simp [RT.ft,zx ht hk])))))
  · simp only [ba,aZ]
    refine ⟨⟨hc,by rw [List.length_append,h2,hm,Nat.add_mul],⟨c',e,fz,k1,by rw [k2]; exact g2,by rw [k2]; exact g3,fun j u hj=>?_⟩,?_⟩,fP ch _ hH (fun k hk=>k5 k (OC k (.inr (.inr (.inr hk)))))⟩
    · rw [xO] at hj
      by_cases XG:j < (ay ts).length
      · rw [List.getElem?_append_left XG] at hj
        rw [k4 _ (.inl (by rw [bw,h2] at XG; omega))]
        exact g4 j u hj
      · rw [List.getElem?_append_right (by omega)] at hj
        have:=k3 _ u hj
        rw [bw,h2] at this XG
        rw [show off+j=off+n*s+(j - n*s) by omega]
        exact this
    · rw [dv]
      exact ⟨fP ch _ h4 (fun k hk=>k5 k (OC k (.inr (.inl hk)))),fP ch _ hY (fun k hk=>k5 k (OC k (.inr (.inr (.inl hk)))))⟩
  · rw [k6]
    refine h.mem.lt k ?_
    rcases List.mem_append.1 hk with hk | hk
    · exact List.mem_append.2 (.inl hk)
    · exact List.mem_append.2 (.inr ((cQ k).1 hk))
  · refine ⟨by rw [k7]; exact h.kept.os,by rw [k8]; exact h.kept.tape,by rw [k9]; exact h.kept.output,by rw [k6]; exact h.kept.size,fun k q1 q2=>?_,fun k hk=>?_,h.kept.par⟩
    · rw [k5 k (fun e=>?_)]
      · exact h.kept.block k q1 q2
      · subst e
        rcases h.kept.gT k (List.mem_append.2 (.inr hb)) with h3 | h3
        · exact q2 h3
        · omega
    · refine h.kept.gT k ?_
      rcases List.mem_append.1 hk with hk | hk
      · exact List.mem_append.2 (.inl hk)
      · exact List.mem_append.2 (.inr ((cQ k).1 hk))
theorem qf (h:Rel C H w st aB S):∀ {ds:List D} {us:List Value},bO (Ext w (ad C w S H)) ds us→∃ Ys,Rel C (Ys++H) w st aB S∧aP Ys=ds∧ay Ys=us∧ae Ys=[]:=by
  intro ds
  induction ds with
  | nil=>intro us hu; cases hu; exact ⟨[],h,rfl,rfl,rfl⟩
  | cons d ds ih=>
    intro us hu
    cases hu with
    | cons h1 h2=>
    obtain ⟨Ys,a1,a2,a3,a4⟩:=ih h2
    rename_i u us
    have jn:bj d=d:=by
      cases d with
      | sl g s n cs=>cases g with
        | none=>simp [Ext] at h1
        | some g=>rfl
      | _=>rfl
    have Aq:ad C w S (Ys++H)=ad C w S H:=by
      funext b k
      simp only [ad,aO,a4,List.nil_append]
    exact ⟨.v d u::Ys,Co a1 (by rw [Aq]; exact h1) jn,by simp [aP,T.er,jn,a2],by simp [ay,T.val,a3],by simp [ae,T.ft,a4]⟩
end
end Go.Proofs.Ytockoilcnmljiaa
namespace Go.Proofs.Ytockoilcnmljiaa
structure Rx (P:Program) (t tx ty e:TypeId) (inf:TypeInfo) (z:Value) (w:World) (ux:Value) (m:Nat) (news:List Value):Prop where
  nil:m=0→news=[]→(Builtin.append_ #[t,tx] ty #[.slice none 0 0,ux]).run P w=.ok (.slice none 0 0) w
  room:∀ b off n cap,n+m≤cap→(n+m)*inf.bytes≤140737488355328→0 < inf.bytes→(∀ j,j < news.length→(w.cell? ⟨b,off+n*inf.size+j,none⟩).isSome=true)→(∀ j,j < news.length→w.frozen? ⟨b,off+n*inf.size+j,none⟩=false)→
    (Builtin.append_ #[t,tx] ty #[.slice (some ⟨b,off,none⟩) n cap,ux]).run P w=.ok (.slice (some ⟨b,off,none⟩) (n+m) cap) (w.setCells b (off+n*inf.size) news)
  grow:∀ base n cap DQ,(Builtin.firstCells inf.size n (.slice base n cap)).run P w.drew=.ok (List.toArray DQ) w.drew→cap < n+m→(n+m)*inf.bytes≤140737488355328→0 < inf.bytes→
    (Builtin.append_ #[t,tx] ty #[.slice base n cap,ux]).run P w=.ok (.slice (some ⟨w.heap.size,0,none⟩) (n+m) (grownCap w (n+m) cap e)) (w.drew.alloc (.cells ((DQ++news).toArray++Builtin.zeroCells z.cells (grownCap w (n+m) cap e - (n+m))) e))
section
variable {P:Program} {w:World} {t tx ty e:TypeId} {inf:TypeInfo} {z:Value} (ht:P.underlying t=some (.slice e)) (hi:P.info? e=some inf) (hz:inf.zero=some z)
include ht hi hz
theorem Ry {ux:Value} {m:Nat} {news:List Value} (hs:Src P inf.size tx ux m news w):Rx P t tx ty e inf z w ux m news:=by
  refine ⟨fun hm hn=>?_,fun b off n cap h1 _ _ h2 h3=>run_append_room_src w t tx ty e inf ht hi b off n cap ux m news hs h1 h2 h3,fun base n cap DQ h1 h2 h3 h4=>?_⟩
  · subst hm; subst hn
    have hc:=hs.cells
    rcases hs.kind with ⟨e',hk⟩ | hk<;>simp [Builtin.append_,run_underlying ht,run_underlying hk,sizeOf,typeInfo,hi,hs.len,hc]
  · have XH:(n+m)*1≤(n+m)*inf.bytes:=Nat.mul_le_mul_left _ h4
    exact run_append_grow_src w t tx ty e inf z ht hi hz base n cap DQ h1 ux m news hs h2 (by omega) (growslice_fits h2 h3)
theorem MW {k kx:IntKind} (mb:P.underlying tx=some (.int k)) (kd:z.cells.size=inf.size) (cE:0 < inf.size) (m:Nat) (h1:∀ u∈z.cells.toList,u.oneCell'=true):Rx P t tx ty e inf z w (.int kx m) m (List.replicate m z.cells.toList).flatten:=by
  have hzc:Builtin.zeroCells z.cells m=(List.replicate m z.cells.toList).flatten.toArray:=by
    apply Array.ext'
    simp only [Builtin.zeroCells,Array.toList_map,Array.toList_range]
    exact x6 z.cells m
  have uI:∀ u∈(List.replicate m z.cells.toList).flatten,u.oneCell'=true:=by
    intro u hu
    simp only [List.mem_flatten,List.mem_replicate] at hu
    obtain ⟨l,⟨_,rfl⟩,hu⟩:=hu
    exact h1 u hu
  refine ⟨fun hm _=>?_,fun b off n cap h2 h3 IS h4 h5=>?_,fun base n cap DQ h2 h3 h4 h5=>?_⟩
  · subst hm
    have Fy:IntKind.i64.wrap 0=0:=by rw [IntKind.wrap_i64]; rfl
    simp [Builtin.append_,run_underlying ht,run_underlying mb,sizeOf,typeInfo,hi,asInt,asIntOf,Fy]
  · have XH:(n+m)*1≤(n+m)*inf.bytes:=Nat.mul_le_mul_left _ IS
    have hw:IntKind.i64.wrap (m:Int)=m:=by rw [IntKind.wrap_i64]; omega
    have acA:¬ ((m:Int) < 0):=by omega
    have hmb:m*inf.bytes≤140737488355328:=Nat.le_trans (Nat.mul_le_mul_right _ (Nat.le_add_left m n)) h3
    have acB:¬ (281474976710656 < (m:Int)*(inf.bytes:Int)):=by
      rw [← Int.natCast_mul]
      omega
    have ch:=run_storeCells_cells (P:=P) b (off+n*inf.size) (List.replicate m z.cells.toList).flatten 0 w (by simpa using h4) (by simpa using h5) uI
    simp only [Nat.add_zero] at ch
    by_cases hm:m=0
    · subst hm
      simp only [List.replicate_zero,List.flatten_nil] at ch ⊢
      have Fy:IntKind.i64.wrap 0=0:=by rw [IntKind.wrap_i64]; rfl
      simp at h2
      simp [Builtin.append_,run_underlying ht,run_underlying mb,sizeOf,typeInfo,hi,asInt,asIntOf,Fy,h2,storeCells]
      rfl
    · have hns:¬ (m*inf.size=0):=Nat.mul_ne_zero hm (by omega)
      simp [Builtin.append_,run_underlying ht,run_underlying mb,sizeOf,typeInfo,zeroValue,hi,hz,asInt,asIntOf,hw,acA,acB,h2,hns,hzc,Addr.add_lit,ch]
  · have XH:(n+m)*1≤(n+m)*inf.bytes:=Nat.mul_le_mul_left _ h5
    have kz:=growslice_fits h3 h4
    have hmb:m*inf.bytes≤140737488355328:=Nat.le_trans (Nat.mul_le_mul_right _ (Nat.le_add_left m n)) h4
    by_cases hm:m=0
    · subst hm
      have Fy:IntKind.i64.wrap 0=0:=by rw [IntKind.wrap_i64]; rfl
      simp only [Nat.add_zero] at kz h3 XH h4
      have acC:¬ (281474976710656 < Builtin.nextslicecap n cap*inf.bytes):=by omega
      have h63:¬ (9223372036854775807 < (n:Int)):=by omega
      have hn:¬ (n≤cap):=by omega
      simp [Builtin.append_,run_underlying ht,run_underlying mb,sizeOf,typeInfo,zeroValue,hi,hz,asInt,asIntOf,Fy,hn,h63,acC,Question.forced,h2,newRow,grownCap]
    · have:=Lib.run_append_grow_zeros w t tx ty e inf z kx k ht mb hi hz base n cap DQ h2 m (by omega) cE h3 (by omega) (by omega) kz
      rw [this,hzc]
      congr 3
      apply Array.ext'
      simp
end
end Go.Proofs.Ytockoilcnmljiaa
namespace Go.Proofs.Ytockoilcnmljiaa
def nA (x:Option (Nat × Nat)) (s:Nat) (ts:List T):List T:=
  match x with
  | none=>ts
  | some (l,m)=>(ts.drop (l*s)).take (m*s)
theorem OE (x:Option (Nat × Nat)) (s n:Nat) (ts:List T):aP (nA x s ts)=(trim x s n (aP ts)).2:=by
  cases x with
  | none=>rfl
  | some p=>simp only [nA,trim,xP,xQ]
theorem RA {w:World} {X:Bool→Nat→Prop} {s n cap:Nat} {a:Option (Nat × Nat)} {ts:List T} (hs:aZ w X (.own s n cap a ts)) {x:Option (Nat × Nat)} {u:Value} (hr:ey x (.own s n cap a ts) u):
    ∃ rb a',u=tV a' (trim x s n (aP ts)).1 rb∧aZ w X (.own s (trim x s n (aP ts)).1 rb a' (nA x s ts)):=by
  cases x with
  | none=>
    simp only [ey,sn,T.er] at hr
    exact ⟨cap,a,hr,hs⟩
  | some p=>
    obtain ⟨l,m⟩:=p
    simp only [ey,sn,T.er,T.val,tV,Value.slice.injEq] at hr
    obtain ⟨h1,base,C,k,⟨h2,_,h3⟩,h4,rfl,h5⟩:=hr
    subst h2; subst h3
    simp only [aZ] at hs
    obtain ⟨g1,g2,g3,g4⟩:=hs
    refine ⟨cap - l,a.map fun p=>(p.1,p.2+k*s),?_,?_⟩
    · simp only [tV,Option.map_map,trim]
      congr 1
      cases a<;>simp [eH]
    · simp only [aZ,trim,nA]
      refine ⟨by omega,?_,?_,?_⟩
      · rw [List.length_take,List.length_drop,g2]
        have:l*s+m*s≤n*s:=by rw [← Nat.add_mul]; exact Nat.mul_le_mul_right _ h1
        omega
      · cases a with
        | none=>simp only at g3; simp only [Option.map_none]; omega
        | some p=>
          obtain ⟨b,off⟩:=p
          simp only [Option.map_some]
          obtain ⟨c,e,fz,k1,k2,k3,k4⟩:=g3
          refine ⟨c,e,fz,k1,k2,?_,?_⟩
          · rcases h5 with h5 | h5
            · rw [h5]
              have:k*s≤cap*s:=Nat.mul_le_mul_right _ h4
              omega
            · subst h5
              have:k*s+(cap - k)*s=cap*s:=by rw [← Nat.add_mul]; congr 1; omega
              omega
          · intro j u hj
            rw [cD,List.map_take,List.map_drop,← cD,List.getElem?_take] at hj
            split at hj
            · rename_i cR
              rw [List.getElem?_drop] at hj
              have hm:m≠0:=fun e=>by simp [e] at cR
              have:k=l:=by omega
              subst this
              rw [Nat.add_assoc]
              exact k4 _ _ hj
            · simp at hj
      · rw [bU] at g4 ⊢
        exact fun t ht=>g4 t (List.mem_of_mem_drop (List.mem_of_mem_take ht))
theorem KT {w:World} {X:Bool→Nat→Prop}:∀ {ts:List T},ba w X ts→(aP ts).all hL=true→bO (Ext w X) (aP ts) (ay ts):=by
  intro ts
  induction ts with
  | nil=>intro _ _; exact .nil
  | cons t ts ih=>
    intro hs hf
    simp only [ba] at hs
    simp only [aP,List.all_cons,Bool.and_eq_true] at hf
    refine .cons ?_ (ih hs.2 hf.2)
    cases t with
    | v d u=>exact hs.1
    | own s n cap a cs=>simp [T.er,hL] at hf
theorem IT {d:D} (h:hL d=true):cy d=true:=by
  cases d<;>first | rfl | simp [hL] at h
section
variable {P:Program} {w:World}
theorem ye {sz:Nat} {tx e':TypeId} (hk:P.underlying tx=some (.slice e')) {base:Option Addr} {n cap:Nat} {news:List Value} (hl:news.length=n*sz) (cE:0 < sz)
    (hm:news=[]∨∃ b off,base=some ⟨b,off,none⟩∧∀ (j:Nat) (v:Value),news[j]?=some v→w.cell? ⟨b,off+j,none⟩=some v) (h1:∀ v∈news,v.oneCell'=true):Src P sz tx (.slice base n cap) n news w:=by
  by_cases hn:n=0
  · subst hn
    have:news=[]:=List.length_eq_zero_iff.1 (by rw [hl]; simp)
    subst this
    cases base with
    | none=>exact Src.ofNil w hk cap
    | some a=>exact Src.ofSlice w hk a 0 cap [] (by simp) (by simp) (by simp)
  · rcases hm with rfl | ⟨b,off,rfl,hm⟩
    · have:n*sz=0:=by rw [← hl]; rfl
      rcases Nat.mul_eq_zero.1 this with h | h<;>omega
    · exact Src.ofSlice w hk _ n cap news hl (fun j u hj=>by rw [eH]; exact hm j u hj) h1
theorem sC {c:cf} (ao:dU c P) {tx:TypeId} (h:(match c.ty tx with | some ⟨.slice _,_,_,_⟩=>true | _=>false)=true):∃ e',P.underlying tx=some (.slice e'):=by
  split at h
  · rename_i e _ _ _ heq
    obtain ⟨d,h1,h2⟩:=(ao.ty _ _ heq).desc
    simp only [jA] at h2
    subst h2
    exact ⟨e,h1⟩
  · simp at h
end
section
variable {P:Program} {c:cf} (ao:dU c P) {C:Ctx} {H:List T} {w:World} {st st':St} {aB:List (Array Value)} {S:List (Nat × RT)}
include ao
theorem OF (h:Rel C H w st aB S) {d:D} {u:Value} (hd:bZ w (ad C w S H) S d u) {flat:Bool} {sz:Nat} (cE:0 < sz) {zs:List D} (hint:∀ k n,d≠.int k n) {ys:List D} {m:Nat} (he:elems st flat zs sz d=some (ys,m,st')) {tx:TypeId} (mb:DI c tx d=true):
    ∃ Ys S',Rel C (Ys++H) w st' aB S'∧aP Ys=ys∧Ys.length=m*sz∧Src P sz tx u m (ay Ys) w∧st'.of=st.of∧st'.tm=st.tm∧st'.up=st.up:=by
  have ext:∀ {g:Bool} {s n:Nat} {cs:List D},Ext w (ad C w S H) (.sl (some g) s n cs) u→s=sz→cs.all cy=true→(∃ e',P.underlying tx=some (.slice e'))→
      ∃ Ys S',Rel C (Ys++H) w st aB S'∧aP Ys=cs∧Ys.length=n*sz∧Src P sz tx u n (ay Ys) w:=by
    intro g s n cs hx hs hc ⟨e',hk⟩
    subst hs
    simp only [Ext] at hx
    obtain ⟨base,cap,us,rfl,h1,h2,h3,h4⟩:=hx
    have dJ:=(gu _ _).1 h3
    obtain ⟨Ys,a1,a2,a3,a4⟩:=qf h dJ
    have uI:∀ v∈us,v.oneCell'=true:=by
      intro v hv
      obtain ⟨i,hi⟩:=List.mem_iff_getElem?.1 hv
      have cR:i < cs.length:=by rw [dJ.len]; exact (List.getElem?_eq_some_iff.1 hi).1
      obtain ⟨v',g1,g2⟩:=dJ.get (List.getElem?_eq_getElem cR)
      rw [hi,Option.some.injEq] at g1
      subst g1
      exact (DN g2 (List.all_eq_true.1 hc _ (List.getElem_mem cR))).1
    refine ⟨Ys,S,a1,a2,by rw [← eS,a2,h2],?_⟩
    rw [a3]
    refine ye hk (by rw [← dJ.len,h2]) cE ?_ uI
    rcases h4 with h4 | ⟨k,off,c0,e0,fz,rfl,_,g1,g2⟩
    · left
      subst h4
      cases dJ
      rfl
    · exact .inr ⟨k,off,rfl,fun j v hj=>by simp [World.cell?,g1,g2 j v hj]⟩
  cases d with
  | int k n=>exact absurd rfl (hint k n)
  | str s=>
    simp only [elems] at he
    split at he
    case isFalse=>simp at he
    rename_i ue
    subst ue
    simp only [Option.some.injEq,Prod.mk.injEq] at he
    obtain ⟨rfl,rfl,rfl⟩:=he
    have hu:u=.string s:=hd
    subst hu
    have dJ:bO (Ext w (ad C w S H)) (s.data.toList.map ef) (byteCells s):=by
      refine cV (by simp [byteCells]) (fun i a b ha hb=>?_)
      simp only [byteCells,List.getElem?_map] at ha hb
      cases hx:s.data.toList[i]? with
      | none=>simp [hx] at ha
      | some y=>
        simp only [hx,Option.map_some,Option.some.injEq] at ha hb
        subst ha; subst hb
        rfl
    obtain ⟨Ys,a1,a2,a3,a4⟩:=qf h dJ
    refine ⟨Ys,S,a1,a2,?_,?_,rfl,rfl,rfl⟩
    · rw [← bw,a3,byteCells_length,Nat.mul_one]
    · rw [a3]
      refine Src.ofString w ?_ s
      simp only [DI] at mb
      split at mb
      · rename_i heq
        obtain ⟨d,h1,h2⟩:=(ao.ty _ _ heq).desc
        simp only [jA] at h2
        subst h2
        exact h1
      · simp at mb
  | nil s=>
    simp only [elems,Option.some.injEq,Prod.mk.injEq] at he
    obtain ⟨rfl,rfl,rfl⟩:=he
    have hu:u=.slice none 0 0:=hd
    subst hu
    obtain ⟨e',hk⟩:=sC ao mb
    exact ⟨[],S,h,rfl,by simp,by simp only [ay]; exact Src.ofNil w hk 0,rfl,rfl,rfl⟩
  | sl g s n cs=>
    cases g with
    | none=>simp [elems] at he
    | some g=>
      simp only [elems] at he
      split at he
      case isFalse=>simp at he
      rename_i hc
      simp only [Option.some.injEq,Prod.mk.injEq] at he
      obtain ⟨rfl,rfl,rfl⟩:=he
      obtain ⟨Ys,S',a1,a2,a3,a4⟩:=ext hd hc.1 hc.2 (sC ao mb)
      exact ⟨Ys,S',a1,a2,a3,a4,rfl,rfl,rfl⟩
  | ref r q o x=>
    simp only [elems] at he
    split at he
    · rename_i s n cs hc
      obtain ⟨R,l,t0,g1,g2,g3,g4,g5⟩:=hM h.rt hc
      obtain ⟨cap,a,ts,rfl,rfl⟩:=B7 g5.symm
      have dK:=qu h.mem g1 g2 g3 (g:=none) (s:=s) (n:=n) (cs:=aP ts) rfl
      obtain ⟨rb,a',hu,HX⟩:=RA dK (hd _ g4)
      simp only [aZ] at HX
      obtain ⟨k1,k2,k3,k4⟩:=HX
      split at he
      · simp at he
      rename_i hss
      simp only [ne_eq,Decidable.not_not] at hss
      subst hss
      have cQ:ay (nA x s ts)=[]∨∃ b off,a'.map (fun p=>(⟨p.1,p.2,none⟩:Addr))=some ⟨b,off,none⟩∧∀ (j:Nat) (v:Value),(ay (nA x s ts))[j]?=some v→w.cell? ⟨b,off+j,none⟩=some v:=by
        cases a' with
        | none=>
          left
          have:(nA x s ts).length=0:=by rw [k2]; simp only at k3; rw [k3.1]; simp
          rw [List.length_eq_zero_iff.1 this]; rfl
        | some p=>exact .inr ⟨p.1,p.2,rfl,fun j v hj=>so k3 hj⟩
      rw [← OE] at he
      split at he
      · rename_i qg
        split at he
        case isFalse=>simp at he
        rename_i hf
        simp only [Option.some.injEq,Prod.mk.injEq] at he
        obtain ⟨rfl,rfl,rfl⟩:=he
        obtain ⟨Ys,b1,b2,b3,b4⟩:=qf h (KT k4 hf)
        obtain ⟨e',hk⟩:=sC ao mb
        refine ⟨Ys,S,b1,b2,by rw [← eS,b2,eS,k2],?_,rfl,rfl,rfl⟩
        rw [b3,hu]
        refine ye hk (by rw [bw,k2]) cE cQ (fun v hv=>?_)
        rw [cD] at hv
        obtain ⟨t,ht,rfl⟩:=List.mem_map.1 hv
        exact (kU ((bU _).1 k4 t ht) (IT (List.all_eq_true.1 hf t.er (by rw [eg]; exact List.mem_map.2 ⟨t,ht,rfl⟩)))).1
      · split at he
        case h_2=>simp at he
        rename_i ys1 aE df
        split at he
        case isFalse=>simp at he
        rename_i fY
        simp only [Option.some.injEq,Prod.mk.injEq] at he
        obtain ⟨rfl,rfl,rfl⟩:=he
        have na:au R.cs (q++[o])=some ts:=(Ir (bx:=R.box) g2 g3).2
        have dJ:bO (aQ w (ad C w S H) S) (kf r (q++[o]) (off x*s) (aP (nA x s ts))) (ay (nA x s ts)):=by
          refine cV (by rw [nT,eS,bw]) (fun i y v hy hv=>?_)
          rw [lZ,gL] at hy
          rw [eQ] at hv
          cases hx:(nA x s ts)[i]? with
          | none=>simp [hx] at hy
          | some t=>
            simp only [hx,Option.map_some,Option.some.injEq] at hy hv
            subst hy; subst hv
            refine nR h.mem g1 na ?_
            cases x with
            | none=>simp only [nA] at hx; simp only [off]; rw [Nat.zero_mul,Nat.zero_add]; exact hx
            | some p=>
              simp only [nA] at hx
              rw [List.getElem?_take] at hx
              split at hx
              · rw [List.getElem?_drop] at hx; exact hx
              · simp at hx
        obtain ⟨Ys,S',b1,b2,b3,b4,b5,b6⟩:=Cq h dJ df
        obtain ⟨e',hk⟩:=sC ao mb
        have cY:=b1.mem.hand
        rw [dv] at cY
        refine ⟨Ys,S',b1,b2,by rw [← bw,b3,bw,k2],?_,b6.2.2,b6.1,b6.2.1⟩
        rw [b3,hu]
        refine ye hk (by rw [bw,k2]) cE cQ (fun v hv=>?_)
        rw [← b3,cD] at hv
        obtain ⟨t,ht,rfl⟩:=List.mem_map.1 hv
        exact (kU ((bU _).1 cY.1 t ht) (List.all_eq_true.1 fY t.er (by rw [← b2,eg]; exact List.mem_map.2 ⟨t,ht,rfl⟩))).1
    · rename_i g s n cs hc
      split at he
      case isFalse=>simp at he
      rename_i lj
      simp only [Option.some.injEq,Prod.mk.injEq] at he
      obtain ⟨rfl,rfl,rfl⟩:=he
      obtain ⟨R,l,t0,g1,g2,g3,g4,g5⟩:=hM h.rt hc
      have dK:=qu h.mem g1 g2 g3 g5.symm
      have jn:t0.ft=[]:=by
        cases t0 with
        | v d u=>rfl
        | own s' n' cap a ts=>simp [T.er] at g5
      have hx:=zr (X':=ad C w S H) (fun _ _ h=>h) false g5.symm dK (by simp [jn]) (hd _ g4)
      obtain ⟨Ys,S',a1,a2,a3,a4⟩:=ext hx lj.1 lj.2 (sC ao mb)
      exact ⟨Ys,S',a1,a2,a3,a4,rfl,rfl,rfl⟩
    · simp at he
  | _=>simp [elems] at he
theorem RB (h:Rel C H w st aB S) {d:D} {u:Value} (hd:bZ w (ad C w S H) S d u) {t ty e:TypeId} {inf:TypeInfo} {z:Value} (ht:P.underlying t=some (.slice e)) (hi:P.info? e=some inf) (hz:inf.zero=some z) {zs:List D} (kd:bO Lw zs z.cells.toList) (An:zs.length=inf.size)
    (cE:0 < inf.size) {flat:Bool} {ys:List D} {m:Nat} (he:elems st flat zs inf.size d=some (ys,m,st')) {tx:TypeId} (mb:DI c tx d=true):
    ∃ Ys S',Rel C (Ys++H) w st' aB S'∧aP Ys=ys∧Ys.length=m*inf.size∧Rx P t tx ty e inf z w u m (ay Ys)∧st'.of=st.of∧st'.tm=st.tm∧st'.up=st.up:=by
  by_cases hint:∃ k n,d=.int k n
  · obtain ⟨k,n,rfl⟩:=hint
    have hu:u=.int k n:=hd
    subst hu
    unfold elems at he
    split at he
    all_goals (try (rename_i heq; simp at heq; done))
    all_goals (try (simp at he; done))
    rename_i n0 heq
    simp only [D.int.injEq] at heq
    obtain ⟨rfl,rfl⟩:=heq
    split at he
    case isFalse=>simp at he
    rename_i hc
    simp only [Option.some.injEq,Prod.mk.injEq] at he
    obtain ⟨rfl,rfl,rfl⟩:=he
    have XI:z.cells.size=inf.size:=by rw [← An,kd.len]; simp
    obtain ⟨ts,f1,f2,f3,f4⟩:=uc kd n.toNat
    obtain ⟨t0,e1,e2,e3,e4⟩:=IC kd
    have hlen:ts.length=n.toNat*inf.size:=by
      have:=congrArg List.length f2
      rw [bw] at this
      rw [this,List.length_flatten,List.map_replicate,List.sum_replicate_nat,Array.length_toList,XI]
    have uI:∀ u∈z.cells.toList,u.oneCell'=true:=by
      intro u hu
      rw [← e2,cD] at hu
      obtain ⟨t1,ya,rfl⟩:=List.mem_map.1 hu
      refine (kU ((bU _).1 (e4 w (fun _ _=>False)) t1 ya) (List.all_eq_true.1 hc.2 t1.er ?_)).1
      rw [← e1,eg]
      exact List.mem_map.2 ⟨t1,ya,rfl⟩
    have acD:∃ k',P.underlying tx=some (.int k'):=by
      simp only [DI] at mb
      split at mb
      · rename_i heq
        obtain ⟨d,h1,h2⟩:=(ao.ty _ _ heq).desc
        simp only [jA] at h2
        subst h2
        exact ⟨_,h1⟩
      · simp at mb
    obtain ⟨k',hk'⟩:=acD
    have gM:∀ l:List T,ae l=[]→(∀ w X,ba w X l)→Rel C (l++H) w st aB S:=by
      intro l T8 T6
      have Aq:ad C w S (l++H)=ad C w S H:=by
        funext b k
        simp only [ad,aO,T8,List.nil_append]
      obtain ⟨q1,⟨m1,m2,m3,m4⟩,q3,q4⟩:=h
      refine ⟨q1,⟨by rw [aO,T8]; exact m1,by rw [Aq]; exact m2,?_,by rw [aO,T8]; exact m4⟩,by rw [Aq]; exact q3,⟨q4.os,q4.tape,q4.output,q4.size,q4.block,by rw [aO,T8]; exact q4.gT,q4.par⟩⟩
      rw [dv,Aq]
      exact ⟨T6 _ _,m3⟩
    refine ⟨ts,S,gM ts f3 f4,f1,hlen,?_,rfl,rfl,rfl⟩
    rw [f2]
    have:=MW (w:=w) (ty:=ty) ht hi hz hk' XI cE n.toNat uI (kx:=.i64)
    rwa [show ((n.toNat:Nat):Int)=n from Int.toNat_of_nonneg hc.1] at this
  · obtain ⟨Ys,S',a1,a2,a3,a4,a5⟩:=OF ao h hd cE (fun k n e=>hint ⟨k,n,e⟩) he mb
    exact ⟨Ys,S',a1,a2,a3,Ry ht hi hz a4,a5⟩
end
end Go.Proofs.Ytockoilcnmljiaa
namespace Go.Proofs.Ytockoilcnmljiaa
section
variable {P:Program} {c:cf} (ao:dU c P) {C:Ctx} {Hx:List T} {w:World} {st st':St} {vs:Array Value} {aB:List (Array Value)} {S:List (Nat × RT)} (h:Rel C Hx w st (vs::aB) S)
include ao h
theorem OG {t tx ty:TypeId} {s x:D} {us ux:Value} (hs:bZ w (ad C w S Hx) S s us) (hx:bZ w (ad C w S Hx) S x ux) {d:Nat} (ht:d < vs.size) (hP:∀ p∈C.P0,p.1≠st.of+d) (ha:pC c st t tx (some d) s x=some st'):
    ∃ v w',(Builtin.append_ #[t,tx] ty #[us,ux]).run P w=.ok v w'∧(∀ r' R' b',lk S r'=some R'→R'.box=some b'→w'.heap[b']?=w.heap[b']?)∧∃ S',Rel C Hx w' st' (vs.setIfInBounds d v::aB) S':=by
  unfold pC at ha
  split at ha
  case h_2=>simp at ha
  rename_i e tsz tby tz fK
  split at ha
  case h_2=>simp at ha
  rename_i ei iy
  split at ha
  case isFalse=>simp at ha
  rename_i mb
  split at ha
  case h_2=>simp at ha
  rename_i n cs aE oL
  split at ha
  case h_2=>simp at ha
  rename_i ys m bS fZ
  split at ha
  case isFalse=>simp at ha
  rename_i hb
  obtain ⟨cE,XJ,kz⟩:=hb
  obtain ⟨inf,h1,h2,h3,z,h4,h5⟩:=(ao.ty _ _ iy).info
  have An:=(ao.ty _ _ iy).len
  obtain ⟨dd,g1,g2⟩:=(ao.ty _ _ fK).desc
  simp only [jA] at g2
  subst g2
  have kd:z.cells.size=ei.size:=by rw [← An,h5.len]; simp
  unfold target at oL
  split at oL
  case h_2=>simp at oL
  rename_i s0 n0 cs0 T5 df
  split at oL
  case isFalse=>simp at oL
  rename_i TN
  subst TN
  simp only [Option.some.injEq,Prod.mk.injEq] at oL
  obtain ⟨rfl,rfl,rfl⟩:=oL
  have sq:aQ w (ad C w S Hx) S s us:=by cases s<;>first | exact hs | (simp [iv] at df; done)
  obtain ⟨T1,S1,a1,a2,a3,a4,a5,a6,_⟩:=rO h sq df
  obtain ⟨cap,a,ts,rfl,rfl⟩:=B7 a2
  have sw:∀ r' R' b',lk S r'=some R'→R'.box=some b'→b' < w.heap.size∧∀ p,a=some p→b'≠p.1:=by
    intro r' R' b' eb fu
    obtain ⟨R1,e1,e2,_⟩:=a5.fwd r' R' eb
    have kv:b'∈cr S1:=by
      obtain ⟨A,B,e3,_⟩:=kt e1
      rw [e3]
      simp [RT.ft,e2.trans fu]
    refine ⟨a1.mem.lt b' (List.mem_append.2 (.inl kv)),fun p hp e=>?_⟩
    subst hp
    exact (List.nodup_append.1 a1.mem.nd).2.2 b' kv p.1 (by simp [ae,T.ft,iw]) e
  obtain ⟨Ys,S2,b1,rfl,b3,b4,b5,b6,b7⟩:=RB (ty:=ty) ao a1 (nV a4 hx) g1 h1 h4 h5 (An.trans h2.symm) (by rw [h2]; exact cE) (by rw [h2]; exact fZ) mb
  rw [h2] at b3
  have pe:bS.of=st.of:=b5.trans a6.2.2
  have cY:=b1.mem.hand
  rw [dv] at cY
  obtain ⟨hY,hT⟩:=cY
  simp only [ba] at hT
  have hT:=hT.1
  have hT0:=hT
  simp only [aZ] at hT
  obtain ⟨k1,k2,k3,k4⟩:=hT
  have Cy:n0+m≤140737488355328:=by
    have:(n0+m)*1≤(n0+m)*ei.bytes:=Nat.mul_le_mul_left _ XJ
    omega
  have It:us=.slice (a.map fun p=>⟨p.1,p.2,none⟩) n0 cap:=a3.symm
  have eT:(ae (Ys++[T.own ei.size n0 cap a ts])).Nodup:=by
    have h9:=(List.nodup_append.1 b1.mem.nd).2.1
    rw [show Ys++T.own ei.size n0 cap a ts::Hx=(Ys++[T.own ei.size n0 cap a ts])++Hx by simp,aO] at h9
    exact (List.nodup_append.1 h9).1
  by_cases MX:n0+m≤cap
  ·
    cases a with
    | none=>
      simp only at k3
      obtain ⟨rfl,rfl⟩:=k3
      have Cn:m=0:=by omega
      subst Cn
      have yf:ts=[]:=List.length_eq_zero_iff.1 (by rw [k2]; simp)
      have hYs:Ys=[]:=List.length_eq_zero_iff.1 (by rw [b3]; simp)
      subst yf; subst hYs
      have dP:(Builtin.append_ #[t,tx] ty #[us,ux]).run P w=.ok (.slice none 0 0) w:=by
        rw [It]
        exact b4.nil rfl rfl
      refine ⟨_,_,dP,fun _ _ _ _ _=>rfl,?_⟩
      simp only [List.nil_append,aP,List.append_nil,Nat.add_zero] at b1 ha
      refine pL (Hs:=[T.own ei.size 0 0 none []]) (H:=Hx) (R:=⟨none,[T.own ei.size 0 0 none []]⟩) b1 (Grown.refl w) (by simp [RT.ft,ae,T.ft,iw]) (by simp [RT.ft,ae,T.ft,iw]) (fun S' ch dH=>⟨trivial,fun y hy=>?_⟩) ht (by rw [pe]; exact hP) (d:=fun d=>.ref d [] 0 none) ?_ (by simpa [aP,T.er] using ha)
      · simp only [List.mem_singleton] at hy
        subst hy
        simp [ix,aZ,ba]
      · intro S' X nW
        simp only [bZ,gg,aQ]
        intro y hy
        simp only [cd,nW,au,List.getElem?_cons_zero,Option.some.injEq] at hy
        subst hy
        simp [ey,sn,T.er,T.val,tV]
    | some p=>
      obtain ⟨b,off⟩:=p
      have hmul:n0*ei.size+m*ei.size≤cap*ei.size:=by rw [← Nat.add_mul]; exact Nat.mul_le_mul_right _ MX
      obtain ⟨c1,_⟩:=OB (H:=Hx) b1 b3 MX
      have dP:(Builtin.append_ #[t,tx] ty #[us,ux]).run P w=.ok (.slice (some ⟨b,off,none⟩) (n0+m) cap) (w.setCells b (off+n0*ei.size) (ay Ys)):=by
        rw [It]
        rw [← h2]
        refine b4.room b off n0 cap MX (by rw [h3]; exact kz) (by rw [h3]; exact XJ) (fun j hj=>?_) (fun j hj=>?_)
        · rw [bw,b3] at hj
          rw [h2,Nat.add_assoc]
          obtain ⟨u,hu⟩:=Cc (j:=n0*ei.size+j) k3 (by omega)
          rw [hu]; rfl
        · rw [bw,b3] at hj
          rw [h2,Nat.add_assoc]
          exact Cb k3 (by omega)
      refine ⟨_,_,dP,fun r' R' b' eb fu=>?_,?_⟩
      · obtain ⟨c0,e0,XF,g1,g2,g3,g4⟩:=k3
        exact (sA (ay Ys) (off+n0*ei.size) w g1 (by rw [bw,b3]; omega)).choose_spec.2.2.2.2.1 b' ((sw r' R' b' eb fu).2 _ rfl)
      rw [← sj] at ha
      refine pL (Hs:=[T.own ei.size (n0+m) cap (some (b,off)) (ts++Ys)]) (H:=Hx) (R:=⟨none,[T.own ei.size (n0+m) cap (some (b,off)) (ts++Ys)]⟩) c1 (Grown.refl _) (fun k hk=>.inl (by simpa [RT.ft] using hk)) ?_ (fun S' ch dH=>⟨trivial,fun y hy=>?_⟩) ht (by rw [pe]; exact hP) (d:=fun d=>.ref d [] 0 none) ?_ (by simpa [aP,T.er] using ha)
      · have:=(List.nodup_append.1 c1.mem.nd).2.1
        rw [← List.singleton_append,aO] at this
        simpa [RT.ft] using (List.nodup_append.1 this).1
      · simp only [List.mem_singleton] at hy
        subst hy
        have:=c1.mem.hand
        simp only [ba] at this
        exact du ch _ this.1 (fun _ _=>rfl)
      · intro S' X nW
        simp only [bZ,gg,aQ]
        intro y hy
        simp only [cd,nW,au,List.getElem?_cons_zero,Option.some.injEq] at hy
        subst hy
        simp [ey,sn,T.er,T.val,tV]
  ·
    have hold:(Builtin.firstCells inf.size n0 (.slice (a.map fun p=>(⟨p.1,p.2,none⟩:Addr)) n0 cap)).run P w.drew=.ok (ay ts).toArray w.drew:=by
      cases a with
      | none=>
        simp only at k3
        have yf:ts=[]:=List.length_eq_zero_iff.1 (by rw [k2,k3.1]; simp)
        subst yf
        exact run_firstCells_none _ _ _ _ _
      | some p=>
        exact run_firstCells_some w.drew inf.size n0 _ _ _ (ay ts) (by rw [bw,k2,h2]) (fun j v hj=>by
          rw [eH]
          have:=so k3 hj
          simpa using this)
    have dP:=b4.grow (a.map fun p=>(⟨p.1,p.2,none⟩:Addr)) n0 cap (ay ts) hold (by omega) (by rw [h3]; exact kz) (by rw [h3]; exact XJ)
    rw [← It] at dP
    refine ⟨_,_,dP,fun r' R' b' eb fu=>((Grown.drew w).trans (Grown.alloc _ _)).bQ b' (sw r' R' b' eb fu).1,?_⟩
    have xW:=grownCap_ge w (n0+m) cap e
    rw [← sj] at ha
    have hlen:(ts++Ys).length=(n0+m)*ei.size:=by rw [List.length_append,k2,b3,Nat.add_mul]
    refine zu (Hs:=Ys++[T.own ei.size n0 cap a ts]) (H:=Hx) (by simpa using b1) ((Grown.drew w).trans (Grown.alloc _ _)) (ts:=ts++Ys) (b:=w.heap.size) ⟨Nat.le_refl _,by rw [iF]; exact Nat.lt_succ_self _⟩ ?_ ?_ ?_ xW hlen ?_ ht (by rw [pe]; exact hP) ha
    · rw [dv,List.append_assoc]
      exact ⟨k4,hY⟩
    · intro k hk
      rw [aO] at hk
      simp only [aO,ae,T.ft,List.append_nil,List.mem_append]
      rcases List.mem_append.1 hk with hk | hk
      · exact .inr (.inr hk)
      · exact .inl hk
    · have p1:(ae (Ys++[T.own ei.size n0 cap a ts])).Perm (iw a++ae (ts++Ys)):=by
        refine List.perm_iff_count.2 fun a=>?_
        simp only [aO,ae,T.ft,List.count_append,List.count_nil]
        omega
      exact (List.nodup_append.1 (p1.nodup_iff.1 eT)).2.1
    · refine jE w.drew _ e ?_ (fun j u hj=>?_)
      · simp only [Array.size_append,List.size_toArray,List.length_append,bw,k2,b3,size_zeroCells,kd,← Nat.add_mul]
        refine Nat.mul_le_mul_right _ ?_
        omega
      · rw [xO] at hj
        have cR:=(List.getElem?_eq_some_iff.1 hj).1
        rw [Array.getElem?_append_left (by simpa using cR)]
        simpa using hj
end
end Go.Proofs.Ytockoilcnmljiaa
namespace Go.Proofs.Ytockoilcnmljiaa
theorem fold_push:∀ (ns:List Int) (s:ByteArray),(ns.foldl (fun r n=>r.push (UInt8.ofNat n.toNat)) s).data.toList=s.data.toList++ns.map (fun n=>UInt8.ofNat n.toNat)
  | [],s=>by simp
  | n::ns,s=>by
    rw [List.foldl_cons,fold_push ns]
    simp [ByteArray.push]
theorem RC {w:World} {X:Bool→Nat→Prop}:∀ {cs:List D} {us:List Value} {bs:List UInt8},bO (Xh w X) cs us→j6 byteOf cs=some bs→∃ ns:List Int,us=ns.map (Value.int .u8)∧bs=ns.map (fun n=>UInt8.ofNat n.toNat):=by
  intro cs
  induction cs with
  | nil=>
    intro us bs h hm
    cases h
    simp only [j6,Option.some.injEq] at hm
    subst hm
    exact ⟨[],rfl,rfl⟩
  | cons d cs ih=>
    intro us bs h hm
    cases h with
    | cons h1 h2=>
    simp only [j6] at hm
    split at hm
    case h_2=>simp at hm
    rename_i b hb
    split at hm
    case h_2=>simp at hm
    rename_i TL Fz
    simp only [Option.some.injEq] at hm
    subst hm
    obtain ⟨ns,rfl,rfl⟩:=ih h2 Fz
    unfold byteOf at hb
    split at hb
    case h_2=>simp at hb
    rename_i n
    simp only [Option.some.injEq] at hb
    subst hb
    refine ⟨n::ns,?_,rfl⟩
    simp only [List.map_cons,List.cons.injEq,and_true]
    rcases h1 with h1 | ⟨t,he,rfl,h1⟩
    · exact h1
    · cases t with
      | own s n cap a cs=>simp [T.er] at he
      | v d u=>
        simp only [T.er] at he
        simp only [aZ,← he] at h1
        exact h1
section
variable {P:Program} {c:cf} (ao:dU c P) {C:Ctx} {Hx:List T} {w:World} {st st':St} {vs:Array Value} {aB:List (Array Value)} {S:List (Nat × RT)} (h:Rel C Hx w st (vs::aB) S)
include ao
theorem rQ {t:TypeId} {ti:TI} (ht:c.ty t=some ti):∃ d,P.underlying t=some d∧jA P ti.ty d:=(ao.ty _ _ ht).desc
include h
theorem KU {src dst e:TypeId} (hs:P.underlying src=some (.slice e)) (he:P.underlying e=some (.int .u8)) (hd:P.underlying dst=some .string) {x:D} {u:Value} (hx:bZ w (ad C w S Hx) S x u) {g:Option Bool} {n:Nat} {cs:List D} (fR:st.nP x=some (g,1,n,cs)) {bs:List UInt8} (hm:j6 byteOf cs=some bs):
    ∀ w2,dp w w2→(convert src dst u).run P w2=.ok (.string ⟨bs.toArray⟩) w2:=by
  have _:=ao
  intro w2 m9
  obtain ⟨base,cap,rfl,h1,h2,h3⟩:=(HU h.rt h.mem hx fR).ok
  rw [run_convert_bytes_string w2 src dst e base n cap hs he hd]
  rcases h3 with rfl | ⟨b,off,cc,ee,fz,us,rfl,g1,g2,g3⟩
  · simp only [j6,Option.some.injEq] at hm
    subst hm
    have hn:n=0:=by simpa using h2.symm
    subst hn
    cases base with
    | none=>rfl
    | some a=>exact run_bytesToString w2 a 0 cap [] rfl
  · obtain ⟨ns,rfl,rfl⟩:=RC g2 hm
    have hl:ns.length=n:=by have:=g2.len; rw [h2] at this; simpa using this.symm
    have vW:=run_loadCells_list (P:=P) w2 ⟨b,off,none⟩ (ns.map (Value.int .u8)) (fun j v hj=>by
      rw [eH]
      refine m9.cell ?_
      simp [World.cell?,g1,g3 j v hj])
    rw [List.length_map,hl] at vW
    rw [run_bytesToString w2 _ n cap ns vW]
    congr 2
    have:=fold_push ns ByteArray.empty
    have h4:(ns.foldl (fun r n=>r.push (UInt8.ofNat n.toNat)) ByteArray.empty).data=(ns.map (fun n=>UInt8.ofNat n.toNat)).toArray:=by
      apply Array.ext'
      rw [this]
      simp
    generalize ns.foldl (fun r n=>r.push (UInt8.ofNat n.toNat)) ByteArray.empty=z at h4 ⊢
    cases z
    simp only at h4
    rw [h4]
theorem KV {src dst e:TypeId} (hs:P.underlying src=some .string) (hd:P.underlying dst=some (.slice e)) (he:P.underlying e=some (.int .u8)) {s:ByteArray} {t:Nat} (ht:t < vs.size) (hP:∀ p∈C.P0,p.1≠st.of+t)
    (hr:st.root (some t) [.sl none 1 s.size (s.data.toList.map ef)] (fun d=>.ref d [] 0 none)=some st'):
    ∃ v w',(convert src dst (.string s)).run P w=.ok v w'∧∃ S',Rel C Hx w' st' (vs.setIfInBounds t v::aB) S':=by
  have _:=ao
  have dJ:bO (Ext w (ad C w S Hx)) (s.data.toList.map ef) (byteCells s):=by
    refine cV (by simp [byteCells]) (fun i a b ha hb=>?_)
    simp only [byteCells,List.getElem?_map] at ha hb
    cases hx:s.data.toList[i]? with
    | none=>simp [hx] at ha
    | some y=>
      simp only [hx,Option.map_some,Option.some.injEq] at ha hb
      subst ha; subst hb
      rfl
  obtain ⟨Ys,a1,a2,a3,a4⟩:=qf h dJ
  have vM:s.size≤grownCap w s.size 0 e:=grownCap_ge w s.size 0 e
  let cells:Array Value:=(s.data.map fun b=>Value.int .u8 b.toNat)++Array.replicate (grownCap w s.size 0 e - s.size) (.int .u8 0)
  have eh:cells.size=grownCap w s.size 0 e:=by
    simp only [cells,Array.size_append,Array.size_map,Array.size_replicate]
    have:s.data.size=s.size:=rfl
    omega
  let w1:=(w.drew.alloc (.cells cells e)).freeze ⟨w.heap.size,cells.size,none⟩ 1
  have vT:(w.drew.alloc (.cells cells e)).heap[w.heap.size]?=some (.cells cells e (0,0)):=Fp w.drew _
  have dP:(convert src dst (.string s)).run P w=.ok (.slice (some ⟨w.heap.size,0,none⟩) s.size (grownCap w s.size 0 e)) w1:=by
    have hsh:(w.drew.alloc (.cells cells e)).shape? w.heap.size=some (e,cells.size):=by
      simp only [World.shape?,vT]
    simp only [convert,Sem.run_bind,run_underlying hs,run_underlying hd,run_underlying he,Result.andThen_ok]
    simp only [Conv.stringToBytes,Sem.run_bind,run_choose,Question.forced,Bool.false_eq_true,if_false,Result.andThen_ok,newRow,run_newObj,Sem.run_pure,markStringish,run_shape]
    have XK:World.shape? { os:=w.os,heap:=w.heap.push (.cells cells e),tape:=w.tape,drawn:=w.drawn+1,output:=w.output } w.heap.size=some (e,cells.size):=hsh
    simp only [cells,grownCap] at XK
    rw [XK]
    simp only [run_freeze,Result.andThen_ok]
    rfl
  refine ⟨_,_,dP,?_⟩
  have cE:w1.heap.size=w.heap.size+1:=by
    show (World.freeze _ _ 1).heap.size=_
    simp only [World.freeze,Nat.one_ne_zero,if_false,Array.size_modify]
    exact iF w.drew _
  have hg:Grown w w1:=by
    refine ⟨by omega,fun k hk=>?_,rfl,rfl,rfl⟩
    show (World.freeze _ _ 1).heap[k]?=_
    simp only [World.freeze,Nat.one_ne_zero,if_false,Array.getElem?_modify]
    rw [if_neg (by omega)]
    exact (Grown.alloc w.drew _).bQ k hk
  have eF:ka w1 w.heap.size 0 (grownCap w s.size 0 e*1) (ay Ys):=by
    refine ⟨cells,e,(cells.size,cells.size+1),?_,fun o ho=>by simp only; omega,by rw [eh]; omega,fun j u hj=>?_⟩
    · show (World.freeze _ _ 1).heap[w.heap.size]?=_
      simp only [World.freeze,Nat.one_ne_zero,if_false,Array.getElem?_modify,if_true]
      rw [vT]
      rfl
    · rw [a3] at hj
      have cR:=(List.getElem?_eq_some_iff.1 hj).1
      rw [byteCells_length] at cR
      simp only [cells,Nat.zero_add]
      rw [Array.getElem?_append_left (by simpa using cR)]
      simp only [byteCells,List.getElem?_map] at hj
      simpa using hj
  rw [← a2] at hr
  exact zu (Hs:=Ys) (H:=Hx) a1 hg ⟨Nat.le_refl _,by omega⟩ ((dv _ _).1 a1.mem.hand).1 (fun _ h=>h) (by rw [a4]; simp) vM (by rw [← bw,a3,byteCells_length,Nat.mul_one]) eF ht hP hr
end
end Go.Proofs.Ytockoilcnmljiaa
namespace Go.Proofs.Ytockoilcnmljiaa
section
variable {P:Program} {c:cf} (ao:dU c P) {C:Ctx} {w:World} {st:St} {S:List (Nat × RT)} {X:Bool→Nat→Prop}
include ao
theorem IU {t:TypeId} {x d':D} {u:Value} {k:IntKind} {i:Int} (hx:bZ w X S x u) (h:uT c t x i=some d'):∃ r,(∀ w:World,(Instr.index t u (.int k i)).run P w=.ok r w)∧bZ w X S d' r:=by
  unfold uT at h
  split at h
  · rename_i _ _ _ s ht
    obtain ⟨d,h1,h2⟩:=(ao.ty _ _ ht).desc
    simp only [jA] at h2
    subst h2
    have hu:u=.string s:=hx
    subst hu
    obtain ⟨g1,g2,g3⟩:=kS h
    cases hb:s.data.toList[i.toNat]? with
    | none=>simp [hb] at g3
    | some b=>
      simp only [hb,Option.map_some,Option.some.injEq] at g3
      subst g3
      have cR:i.toNat < s.size:=by omega
      have lG:s[i.toNat]?=some b:=by
        have h5:s.data[i.toNat]?=some b:=by rw [← Array.getElem?_toList]; exact hb
        rw [getElem?_pos s i.toNat cR]
        rw [Array.getElem?_eq_getElem cR] at h5
        exact h5
      refine ⟨.int .u8 b.toNat,?_,rfl⟩
      intro w
      simp only [Instr.index,asIntOf,Sem.run_bind,Sem.run_pure,Result.andThen_ok,run_underlying h1,if_pos g1,lG]
  · rename_i n e _ _ _ cs ht
    split at h
    case h_2=>simp at h
    rename_i ei he
    obtain ⟨d,h1,h2⟩:=(ao.ty _ _ ht).desc
    simp only [jA] at h2
    subst h2
    obtain ⟨us,rfl,hu⟩:=hx
    obtain ⟨g1,g2,g3⟩:=kS h
    have cE:=fun w=>(ao.ty _ _ he).sz w
    have As:=fun w=>(ao.ty _ _ he).agg w
    have hir:(0≤i∧i < (n:Int)):=⟨g1,g2⟩
    split at g3
    · rename_i dV
      simp only [Option.some.injEq] at g3
      subst g3
      refine ⟨.agg (us.extract (i.toNat*ei.size) (i.toNat*ei.size+ei.size)),?_,?_⟩
      · intro w; simp [Instr.index,asIntOf,run_underlying h1,hir,cE,part,As,dV]
      · refine ⟨_,rfl,?_⟩
        have:=(hu.drop (i.toNat*ei.size)).take ei.size
        simpa [Array.toList_extract,List.extract] using this
    · rename_i dV
      obtain ⟨v,g4,g5⟩:=hu.get g3
      refine ⟨v,?_,kR g5⟩
      rw [Array.getElem?_toList] at g4
      simp only [Bool.not_eq_true] at dV
      intro w; simp [Instr.index,asIntOf,run_underlying h1,hir,cE,part,As,dV,g4]
  · simp at h
end
theorem Rel.yg {C:Ctx} {H:List T} {w:World} {st:St} {a:Act} {aB:List (Array Value)} {S:List (Nat × RT)} (h:Rel C H w st (a.tmps::aB) S) {dst:Option Nat} (ht:∀ t,dst=some t→t < a.tmps.size) {d:D} {v:Value} (hv:bZ w (ad C w S H) S d v):
    Rel C H w (st.put dst d) ((a.put dst v).tmps::aB) S:=by
  cases dst with
  | none=>exact h
  | some t=>exact h.put (ht t rfl) hv
theorem iz (st:St) (dst:Option Nat) (d:D):(st.put dst d).of=st.of:=by cases dst<;>rfl
theorem rR {st st':St} {dst:Option Nat} {cs:List D} {d:Nat→D} (h:st.root dst cs d=some st'):st'.of=st.of∧∃ t,dst=some t:=by
  cases dst with
  | none=>simp [St.root] at h
  | some t=>
    simp only [St.root,Option.some.injEq] at h
    subst h
    exact ⟨rfl,t,rfl⟩
theorem cF (a:Act) (dst:Option Nat) (v:Value):(a.put dst v).tmps.size=a.tmps.size∧(a.put dst v).defers=a.defers:=by
  cases dst<;>simp [Act.put]
end Go.Proofs.Ytockoilcnmljiaa
namespace Go.Proofs.Ytockoilcnmljiaa
section
variable {P:Program} {c:cf} (ao:dU c P) {C:Ctx} {Hx:List T} {w:World} {st st':St} {vs:Array Value} {aB:List (Array Value)} {S:List (Nat × RT)} (h:Rel C Hx w st (vs::aB) S)
include ao h
theorem IV {src dst:TypeId} {x d:D} {u:Value} (hx:bZ w (ad C w S Hx) S x u) (hc:tU c st src dst x=some (d,none)):∃ r,(∀ w2,dp w w2→(convert src dst u).run P w2=.ok r w2)∧bZ w (ad C w S Hx) S d r:=by
  unfold tU at hc
  split at hc
  case h_2=>simp at hc
  rename_i si di T9 OI
  obtain ⟨ds,ue,pf⟩:=rQ ao T9
  obtain ⟨dd,yi,ll⟩:=rQ ao OI
  split at hc
  · rename_i k _ n hk
    rw [hk] at ll
    simp only [jA] at ll
    subst ll
    simp only [Option.some.injEq,Prod.mk.injEq,and_true] at hc
    subst hc
    have hu:=fQ hx
    subst hu
    refine ⟨.int k (k.wrap n),?_,Od _ _⟩
    intro w2 _; simp [convert,run_underlying ue,run_underlying yi,Conv.intToInt]
  · rename_i n hk
    rw [hk] at ll
    simp only [jA] at ll
    subst ll
    simp only [Option.some.injEq,Prod.mk.injEq,and_true] at hc
    subst hc
    have hu:=fQ hx
    subst hu
    refine ⟨.string (Utf8.encode n),?_,Xg _⟩
    intro w2 _; simp [convert,run_underlying ue,run_underlying yi,Conv.intToString]
  · rename_i s hk
    rw [hk] at ll
    simp only [jA] at ll
    subst ll
    simp only [Option.some.injEq,Prod.mk.injEq,and_true] at hc
    subst hc
    have hu:=uX hx
    subst hu
    refine ⟨.string s,?_,Xg _⟩
    intro w2 _; simp [convert,run_underlying ue,run_underlying yi]
  · rename_i e hk wQ _ _
    rw [hk] at ll
    rw [wQ] at pf
    simp only [jA] at ll pf
    subst ll; subst pf
    split at hc
    case h_2=>simp at hc
    rename_i he
    obtain ⟨de,XL,OJ⟩:=rQ ao he
    simp only [jA] at OJ
    subst OJ
    split at hc
    case h_2=>simp at hc
    rename_i g s n cs fR
    split at hc
    case isFalse=>simp at hc
    rename_i hs
    subst hs
    split at hc
    case h_2=>simp at hc
    rename_i bs hm
    simp only [Option.some.injEq,Prod.mk.injEq,and_true] at hc
    subst hc
    exact ⟨_,KU ao h ue XL yi hx fR hm,Xg _⟩
  · split at hc<;>simp at hc
  · simp at hc
theorem OK {src dst:TypeId} {x d:D} {cs:List D} {u:Value} (hx:bZ w (ad C w S Hx) S x u) (hc:tU c st src dst x=some (d,some cs)) {t:Nat} (ht:t < vs.size) (hP:∀ p∈C.P0,p.1≠st.of+t)
    (hr:st.root (some t) cs (fun d=>.ref d [] 0 none)=some st'):∃ v w',(convert src dst u).run P w=.ok v w'∧∃ S',Rel C Hx w' st' (vs.setIfInBounds t v::aB) S':=by
  unfold tU at hc
  split at hc
  case h_2=>simp at hc
  rename_i si di T9 OI
  obtain ⟨ds,ue,pf⟩:=rQ ao T9
  obtain ⟨dd,yi,ll⟩:=rQ ao OI
  split at hc
  · simp at hc
  · simp at hc
  · simp at hc
  · split at hc
    · split at hc
      · split at hc
        · split at hc<;>simp at hc
        · simp at hc
      · simp at hc
    · simp at hc
  · rename_i e s hk wQ
    rw [hk] at ll
    rw [wQ] at pf
    simp only [jA] at ll pf
    subst ll; subst pf
    split at hc
    case h_2=>simp at hc
    rename_i he
    obtain ⟨de,XL,OJ⟩:=rQ ao he
    simp only [jA] at OJ
    subst OJ
    simp only [Option.some.injEq,Prod.mk.injEq] at hc
    obtain ⟨_,rfl⟩:=hc
    have hu:=uX hx
    subst hu
    exact KV ao h ue yi XL ht hP hr
  · simp at hc
end
end Go.Proofs.Ytockoilcnmljiaa
namespace Go.Proofs.Ytockoilcnmljiaa
theorem OL {st st':St} {d d':D} (h:iv st d=some (d',st')):st'.of=st.of:=by
  unfold iv at h
  split at h<;>try (simp only [Option.some.injEq,Prod.mk.injEq] at h; obtain ⟨_,rfl⟩:=h; rfl)
  · split at h
    · split at h
      · rename_i aE hs
        simp only [Option.some.injEq,Prod.mk.injEq] at h
        obtain ⟨_,rfl⟩:=h
        unfold St.gH at hs
        split at hs
        · split at hs
          · simp only [Option.some.injEq] at hs
            subst hs; rfl
          · simp at hs
        · simp at hs
      · simp at h
    · simp only [Option.some.injEq,Prod.mk.injEq] at h; obtain ⟨_,rfl⟩:=h; rfl
    · simp at h
  · simp at h
theorem IW:∀ {ds ds':List D} {st st':St},pd st ds=some (ds',st')→st'.of=st.of
  | [],ds',st,st',h=>by simp only [pd,Option.some.injEq,Prod.mk.injEq] at h; obtain ⟨_,rfl⟩:=h; rfl
  | d::ds,ds',st,st',h=>by
    simp only [pd] at h
    split at h
    case h_2=>simp at h
    rename_i d1 aE h1
    split at h
    case h_2=>simp at h
    rename_i fJ bS h2
    simp only [Option.some.injEq,Prod.mk.injEq] at h
    obtain ⟨_,rfl⟩:=h
    exact (IW h2).trans (OL h1)
theorem OM {c:cf} {st st':St} {t tx:TypeId} {dst:Option Nat} {s x:D} (h:pC c st t tx dst s x=some st'):∃ bS:St,∃ cs:List D,bS.of=st.of∧bS.root dst cs (fun d=>.ref d [] 0 none)=some st':=by
  unfold pC at h
  split at h
  case h_2=>simp at h
  split at h
  case h_2=>simp at h
  split at h
  case isFalse=>simp at h
  split at h
  case h_2=>simp at h
  rename_i n cs aE oL
  split at h
  case h_2=>simp at h
  rename_i ys m bS fZ
  split at h
  case isFalse=>simp at h
  refine ⟨bS,_,?_,h⟩
  have h1:aE.of=st.of:=by
    unfold target at oL
    split at oL
    · rename_i s' n' cs' Ag df
      split at oL
      · simp only [Option.some.injEq,Prod.mk.injEq] at oL
        obtain ⟨_,_,rfl⟩:=oL
        exact OL df
      · simp at oL
    · simp at oL
  have h2:bS.of=aE.of:=by
    unfold elems at fZ
    split at fZ<;>try (simp at fZ; done)
    · split at fZ<;>simp only [Option.some.injEq,Prod.mk.injEq,reduceCtorEq] at fZ
      obtain ⟨_,_,rfl⟩:=fZ; rfl
    · split at fZ<;>simp only [Option.some.injEq,Prod.mk.injEq,reduceCtorEq] at fZ
      obtain ⟨_,_,rfl⟩:=fZ; rfl
    · simp only [Option.some.injEq,Prod.mk.injEq] at fZ
      obtain ⟨_,_,rfl⟩:=fZ; rfl
    · split at fZ<;>simp only [Option.some.injEq,Prod.mk.injEq,reduceCtorEq] at fZ
      obtain ⟨_,_,rfl⟩:=fZ; rfl
    · split at fZ
      · split at fZ
        · simp at fZ
        · split at fZ
          · split at fZ<;>simp only [Option.some.injEq,Prod.mk.injEq,reduceCtorEq] at fZ
            obtain ⟨_,_,rfl⟩:=fZ; rfl
          · split at fZ
            · rename_i ys' st4 df
              split at fZ<;>simp only [Option.some.injEq,Prod.mk.injEq,reduceCtorEq] at fZ
              obtain ⟨_,_,rfl⟩:=fZ
              exact IW df
            · simp at fZ
      · split at fZ<;>simp only [Option.some.injEq,Prod.mk.injEq,reduceCtorEq] at fZ
        obtain ⟨_,_,rfl⟩:=fZ; rfl
      · simp at fZ
  exact h2.trans h1
theorem ON (A:Addr) (i:Nat):(A.add i).block=A.block:=by
  obtain ⟨b,o,s⟩:=A
  cases s<;>first | rfl | (simp only [Addr.add]; split<;>rfl)
theorem Gs (w:World) (a:Addr) (v:Value) {k:Nat} (hk:k≠a.block):(w.setCell a v).heap[k]?=w.heap[k]?:=by
  simp [World.setCell,Array.getElem?_modify,Ne.symm hk]
theorem sE {P:Program} {b:Nat}:∀ {us:List Value} {w w':World} {i:Nat},∀ A:Addr,A.block=b→(∃ c e fz,w.heap[b]?=some (.cells c e fz))→(storeCells A us i).run P w=.ok () w'→∀ k,k≠b→w'.heap[k]?=w.heap[k]?
  | [],w,w',i,A,hA,_,h,k,hk=>by
    simp only [storeCells,Sem.run_pure,Result.ok.injEq,true_and] at h
    rw [h]
  | u::us,w,w',i,A0,OO,⟨c,e,fz,hb⟩,h,k,hk=>by
    have step:∀ w1:World,(store (Addr.add A0 i) u).run P w=.ok () w1→(∃ c e fz,w1.heap[b]?=some (.cells c e fz))∧w1.heap[k]?=w.heap[k]?:=by
      intro w1 h1
      have eF:(Addr.add A0 i).block=b:=by rw [ON,OO]
      generalize Addr.add A0 i=A at h1 eF
      have TT:∀ v m,∀ r,w.farStore P A v m≠.ok r:=by
        intro v m r
        unfold World.farStore
        rw [eF,hb]
        simp
      have main:u.oneCell'=true→(∃ c e fz,w1.heap[b]?=some (.cells c e fz))∧w1.heap[k]?=w.heap[k]?:=by
        intro h1c
        rw [run_store P w A u _ h1c] at h1
        split at h1
        · split at h1
          · simp at h1
          · simp only [Result.ok.injEq,true_and] at h1
            subst h1
            refine ⟨?_,Gs w A u (by rw [eF]; exact hk)⟩
            simp only [World.setCell,Array.getElem?_modify,eF,if_true,hb,Option.map_some]
            exact ⟨_,_,_,rfl⟩
        · split at h1
          · rename_i r hr
            exact absurd hr (TT _ _ _)
          · simp at h1
      cases u with
      | agg us=>simp [store,Sem.run] at h1
      | tuple us=>simp [store,Sem.run] at h1
      | _=>exact main rfl
    rw [storeCells,Sem.run_bind] at h
    cases hs:(store (Addr.add A0 i) u).run P w with
    | ok _ w1=>
      rw [hs,Result.andThen_ok] at h
      obtain ⟨h2,h3⟩:=step w1 hs
      rw [sE A0 OO h2 h k hk,h3]
    | halt x w1=>
      rw [hs] at h
      simp [Result.andThen] at h
structure wR (o:Oper) (a:Act) (S:List (Nat × RT)) (w w':World):Prop where
  al:qq o=true→dp w w'
  ap:∀ cc,o.op=.call cc→cc.callee=.builtin .append→∀ r R b,lk S r=some R→R.box=some b→w'.heap[b]?=w.heap[b]?
  st:∀ t x y,o.op=.store t x y→∀ A,a.eval x=.pointer (some A)→(∃ c e fz,w.heap[A.block]?=some (.cells c e fz))→∀ k,k≠A.block→w'.heap[k]?=w.heap[k]?
theorem wR.refl (o:Oper) (a:Act) (S:List (Nat × RT)) (w:World):wR o a S w w:=⟨fun _=>dp.refl w,fun _ _ _ _ _ _ _ _=>rfl,fun _ _ _ _ _ _ _ _ _=>rfl⟩
theorem wR.alloc {o:Oper} {a:Act} {S:List (Nat × RT)} {w w':World} (h:dp w w') (h2:qq o=true):wR o a S w w':=⟨fun _=>h,fun cc e=>by simp [qq,e] at h2,fun t x y e=>by simp [qq,e] at h2⟩
section
variable {P:Program} {c:cf} (ao:dU c P) {C:Ctx} {Hx:List T} {w:World} {st st':St} {o:Oper} {a:Act} {aB:List (Array Value)} {S:List (Nat × RT)} {K:Act→World→Prop} {Q:Exit→Act→World→Prop}
  {cl:FuncId→List D→Option (D × List D)} {ci:FuncId→List D→Nat→St→Option (D × St)} {ax:FuncId}
include ao
theorem OP (h:Rel C Hx w st (a.tmps::aB) S) (fO:∀ t,o.dst=some t→t < a.tmps.size∧∀ p∈C.P0,p.1≠st.of+t) (mM:∀ cc f,o.op=.call cc→cc.callee≠.value f) (aj:eP c cl ci ax st o=some st')
    (hK:∀ a' w' S',Rel C Hx w' st' (a'.tmps::aB) S'→a'.tmps.size=a.tmps.size→a'.defers=a.defers→st'.of=st.of→wR o a S w w'→K a' w'):o.wp P a w K Q:=by
  have fv:kJ w (ad C w S Hx) S st.tm a.tmps:=by cases h.mZ with | cons a _=>exact a
  have ev:=fun t x=>tX (c:=c) fv t x
  have yi:∀ t,o.dst=some t→t < a.tmps.size:=fun t ht=>(fO t ht).1
  have cu:∀ {d:D} {v:Value},(execOp a.eval o).run P w=.ok (.value v) w→bZ w (ad C w S Hx) S d v→st'=st.put o.dst d→o.wp P a w K Q:=by
    intro d v dP hv ch
    subst ch
    refine nD dP (hK _ _ S (h.yg yi hv) (cF a o.dst v).1 (cF a o.dst v).2 (iz st o.dst d) (wR.refl o a S w))
  have vX:∀ {aE:St} {cs:List D} {dd:Nat→D},aE.of=st.of→aE.root o.dst cs dd=some st'→(∀ t,o.dst=some t→t < a.tmps.size→(∀ p∈C.P0,p.1≠st.of+t)→aE.root (some t) cs dd=some st'→∃ v w',(execOp a.eval o).run P w=.ok (.value v) w'∧wR o a S w w'∧∃ S',Rel C Hx w' st' (a.tmps.setIfInBounds t v::aB) S')→o.wp P a w K Q:=by
    intro aE cs dd pe hr hk
    obtain ⟨h1,t,ht⟩:=rR hr
    rw [ht] at hr
    obtain ⟨v,w',dP,yj,S',gM⟩:=hk t ht (fO t ht).1 (fO t ht).2 hr
    refine nD dP (hK _ _ S' ?_ (cF a o.dst v).1 (cF a o.dst v).2 (h1.trans pe) yj)
    rw [ht]
    exact gM
  unfold eP at aj
  cases ho:o.op with
  | move x=>
    simp only [ho,Option.some.injEq] at aj
    exact cu (by unfold execOp; simp only [ho]; rfl) (ev o.type x) aj.symm
  | assign x=>
    simp only [ho,Option.some.injEq] at aj
    exact cu (by unfold execOp; simp only [ho]; rfl) (ev o.type x) aj.symm
  | pick b x y=>
    simp only [ho] at aj
    split at aj
    case h_2=>simp at aj
    rename_i t hb
    simp only [Option.some.injEq] at aj
    have Cz:=ev o.type b
    rw [hb] at Cz
    have Cz:a.eval b=.bool t:=Cz
    refine cu (v:=if t then a.eval x else a.eval y) (d:=if t then bW c st o.type x else bW c st o.type y) ?_ ?_ aj.symm
    · unfold execOp
      simp only [ho,Cz,asBool,Sem.run_bind,Sem.run_pure,Result.andThen_ok]
    · cases t
      · exact ev o.type y
      · exact ev o.type x
  | alloc e=>
    simp only [ho] at aj
    split at aj
    case h_2=>simp at aj
    rename_i i hi
    refine vX rfl aj (fun t ht h1 h2 h3=>?_)
    obtain ⟨v,w',hr,hG,hS⟩:=Rr ao h hi h1 h2 h3
    exact ⟨v,w',by unfold execOp; simp only [ho,Sem.run_bind,hr,Result.andThen_ok,Sem.run_pure],.alloc hG (by simp [qq,ho]),hS⟩
  | box e x=>
    simp only [ho] at aj
    split at aj
    case h_2=>simp at aj
    rename_i i hi
    by_cases ch:c.oz ax (o.dst.getD 0)=true
    · simp only [ch,if_true,and_true] at aj
      split at aj
      case isFalse=>simp at aj
      rename_i hc
      split at aj
      case h_2=>simp at aj
      rename_i t ht
      rw [ht] at ch
      simp only [Option.getD_some] at ch
      simp only [ch,if_true] at aj
      split at aj
      case h_2=>simp at aj
      rename_i cs aE df
      split at aj
      case isFalse=>simp at aj
      rename_i eh
      obtain ⟨v,w',hr,hG,S',gM⟩:=Ou ao h hc df eh (fO t ht).1 (fO t ht).2 aj
      refine nD (v:=v) (w':=w') (by unfold execOp; simp only [ho,Sem.run_bind,hr,Result.andThen_ok,Sem.run_pure]) (hK _ _ S' (by rw [ht]; exact gM) (cF a o.dst v).1 (cF a o.dst v).2 ((rR aj).1.trans (IW df)) (.alloc hG (by simp [qq,ho])))
    · simp only [ch,Bool.false_eq_true,if_false] at aj
      split at aj
      case isFalse=>simp at aj
      rename_i hc
      split at aj
      case h_2=>simp at aj
      rename_i t ht
      rw [ht] at ch
      simp only [Option.getD_some] at ch
      simp only [ch,Bool.false_eq_true,if_false] at aj
      obtain ⟨v,w',hr,hG,S',gM⟩:=XA ao h hc.1 hc.2 (fO t ht).1 (fO t ht).2 aj
      refine nD (v:=v) (w':=w') (by unfold execOp; simp only [ho,Sem.run_bind,hr,Result.andThen_ok,Sem.run_pure]) (hK _ _ S' (by rw [ht]; exact gM) (cF a o.dst v).1 (cF a o.dst v).2 (rR aj).1 (.alloc hG (by simp [qq,ho])))
  | build t ps=>
    simp only [ho] at aj
    split at aj
    · rename_i kr szs sz nU z fK
      split at aj
      case h_2=>simp at aj
      rename_i cs hf
      simp only [Option.some.injEq] at aj
      obtain ⟨v,hr,hv⟩:=x8 ao h fK hf
      exact cu (by unfold execOp; simp only [ho,Sem.run_bind,hr,Result.andThen_ok,Sem.run_pure]) hv aj.symm
    · rename_i n e sz nU z fK
      split at aj
      case h_2=>simp at aj
      rename_i ei iy
      split at aj
      case h_2=>simp at aj
      rename_i cs hf
      simp only [Option.some.injEq] at aj
      obtain ⟨v,hr,hv⟩:=Ap ao h fK iy hf
      exact cu (by unfold execOp; simp only [ho,Sem.run_bind,hr,Result.andThen_ok,Sem.run_pure]) hv aj.symm
    · simp at aj
  | buildSlice t n ps=>
    simp only [ho] at aj
    split at aj
    case h_2=>simp at aj
    rename_i e sz nU z fK
    split at aj
    case h_2=>simp at aj
    rename_i ei iy
    split at aj
    case isFalse=>simp at aj
    rename_i hn
    split at aj
    case h_2=>simp at aj
    rename_i vs aE hp
    split at aj
    case h_2=>simp at aj
    rename_i cs hf
    have pe:aE.of=st.of:=by
      have dJ:bO (fun p q=>q.1=p.1∧bZ w (ad C w S Hx) S p.2 q.2) (ps.toList.map fun p=>(p.1,bW c st e p.2)) (ps.toList.map fun p=>(p.1,a.eval p.2)):=by
        refine cV (by simp) (fun i x y hx hy=>?_)
        simp only [List.getElem?_map] at hx hy
        cases hq:ps.toList[i]? with
        | none=>simp [hq] at hx
        | some q=>
          simp only [hq,Option.map_some,Option.some.injEq] at hx hy
          subst hx; subst hy
          exact ⟨rfl,ev e q.2⟩
      obtain ⟨_,_,_,_,_,_,_,_,b7⟩:=Ct h dJ hp
      exact b7.2.2
    refine vX pe aj (fun t' ht h1 h2 h3=>?_)
    obtain ⟨v,w',hr,hG,hS⟩:=Gq ao h fK rfl iy hn hp hf h1 h2 h3
    exact ⟨v,w',by unfold execOp; simp only [ho,Sem.run_bind,hr,Result.andThen_ok,Sem.run_pure],.alloc hG (by simp [qq,ho]),hS⟩
  | load t x=>
    simp only [ho] at aj
    split at aj
    case h_2=>simp at aj
    rename_i i hi
    split at aj
    case h_2=>simp at aj
    rename_i d hl
    simp only [Option.some.injEq] at aj
    obtain ⟨v,hr,hv⟩:=DL ao h.rt h.mem hi (ev o.type x) hl
    replace hr:=hr w (xS.refl _ w)
    exact cu (by unfold execOp; simp only [ho,Sem.run_bind,hr,Result.andThen_ok,Sem.run_pure]) hv aj.symm
  | store t x y=>
    simp only [ho] at aj
    split at aj
    case h_2=>simp at aj
    rename_i i hi
    split at aj
    case h_2=>simp at aj
    rename_i aE hs
    simp only [Option.some.injEq] at aj
    subst aj
    obtain ⟨w',S',hr,gM,pe⟩:=OA ao h hi (ev o.type x) (ev t y) hs
    refine MF (w':=w') (by unfold execOp; simp only [ho,Sem.run_bind,hr,Result.andThen_ok,Sem.run_pure]) (hK _ _ S' (gM.yg yi (d:=.aR []) ?_) (cF a o.dst undef).1 (cF a o.dst undef).2 ((iz aE o.dst _).trans pe) ?_)
    · exact ⟨#[],rfl,.nil⟩
    · refine ⟨fun e=>by simp [qq,ho] at e,fun cc e=>by simp [ho] at e,fun t0 x0 y0 e A hA cx k hk=>?_⟩
      rw [ho,Op.store.injEq] at e
      obtain ⟨rfl,rfl,rfl⟩:=e
      rw [hA] at hr
      have At:(storeVar t A (a.eval y)).run P w=.ok () w':=by simpa [Instr.storeAt,Instr.sureAddr] using hr
      simp only [storeVar,Sem.run_bind,(ao.ty _ _ hi).sz w,Result.andThen_ok] at At
      split at At
      · simp at At
      · exact sE A rfl cx (by simpa using At) k hk
  | nilCheck x=>
    simp only [ho] at aj
    have hx:=ev o.type x
    have hd:∃ A,a.eval x=.pointer (some A)∧st'=st.put o.dst (bW c st o.type x):=by
      split at aj
      · rename_i r q i heq
        split at aj
        · rename_i hl
          simp only [Option.some.injEq] at aj
          rw [heq] at hx
          obtain ⟨A,hA,_⟩:=qe h.rt h.mem hx (by simp only [hl,if_true]; rfl)
          exact ⟨A,hA,by rw [heq]; exact aj.symm⟩
        · simp at aj
      · rename_i cs i heq
        simp only [Option.some.injEq] at aj
        rw [heq] at hx
        obtain ⟨A,hA,_⟩:=qe h.rt h.mem hx rfl
        exact ⟨A,hA,by rw [heq]; exact aj.symm⟩
      · simp at aj
    obtain ⟨A,hA,ch⟩:=hd
    refine cu (v:=a.eval x) ?_ hx ch
    unfold execOp
    simp only [ho,hA]
    rfl
  | binOp op t x y z=>
    simp only [ho] at aj
    split at aj
    case h_2=>simp at aj
    rename_i d hb
    simp only [Option.some.injEq] at aj
    obtain ⟨v,hr,hv⟩:=Oe ao (x:=x) (y:=y) (ev t x) (ev t y) hb
    exact cu (by unfold execOp; simp only [ho,Sem.run_bind] at hr ⊢; rw [hr]; rfl) hv aj.symm
  | unOp op t x=>
    simp only [ho] at aj
    split at aj
    case h_2=>simp at aj
    rename_i d hb
    simp only [Option.some.injEq] at aj
    obtain ⟨v,hr,hv⟩:=TM (P:=P) (ev o.type x) hb
    exact cu (by unfold execOp; simp only [ho,Sem.run_bind,hr,Result.andThen_ok,Sem.run_pure]) hv aj.symm
  | makeFunc fn first gb=>
    cases fn with
    | func f=>
      simp only [ho] at aj
      split at aj
      case isFalse=>simp at aj
      rename_i hf
      simp only [Option.some.injEq] at aj
      have IX:first=#[]:=Array.eq_empty_of_size_eq_zero hf.1
      subst IX
      refine cu (v:=.func (.func f) #[] (gb.map a.eval)) (by simp [execOp,ho,Instr.makeFunc]) ?_ aj.symm
      refine ⟨_,rfl,?_⟩
      refine cV (by simp) (fun i x y hx hy=>?_)
      have hs:single x=true:=List.all_eq_true.1 hf.2 x (List.mem_of_getElem? hx)
      simp only [Array.toList_map,List.getElem?_map] at hx hy
      cases hq:gb.toList[i]? with
      | none=>simp [hq] at hx
      | some q=>
        simp only [hq,Option.map_some,Option.some.injEq] at hx hy
        subst hy
        have hv:=ev o.type q
        rw [hx] at hv
        cases x<;>first | exact hv | simp [single] at hs
    | _=>simp [ho] at aj
  | makeSlice t l cp=>
    simp only [ho] at aj
    split at aj
    case h_2=>simp at aj
    rename_i e sz nU z fK
    split at aj
    case h_2=>simp at aj
    rename_i ei kl li kc ci iy hl hc
    split at aj
    case isFalse=>simp at aj
    rename_i h0
    split at aj
    case isFalse=>simp at aj
    rename_i x7
    split at aj
    case isFalse=>simp at aj
    rename_i hb
    have Ua:=ev o.type l
    rw [hl] at Ua
    have yd:=ev o.type cp
    rw [hc] at yd
    have Ua:=fQ Ua
    have yd:=fQ yd
    refine vX rfl aj (fun t' ht h1 h2 h3=>?_)
    obtain ⟨v,w',hr,hG,hS⟩:=IE ao h fK rfl iy (kl:=kl) (kc:=kc) h0 x7 hb h1 h2 h3
    exact ⟨v,w',by unfold execOp; simp only [ho,Ua,yd,Sem.run_bind,hr,Result.andThen_ok,Sem.run_pure],.alloc hG (by simp [qq,ho]),hS⟩
  | convert src dst x=>
    simp only [ho] at aj
    split at aj
    · rename_i d hc
      simp only [Option.some.injEq] at aj
      obtain ⟨v,hr,hv⟩:=IV ao h (ev src x) hc
      replace hr:=hr w (dp.refl w)
      exact cu (by unfold execOp; simp only [ho,Sem.run_bind,hr,Result.andThen_ok,Sem.run_pure]) hv aj.symm
    · rename_i d cs hc
      refine vX rfl aj (fun t' ht h1 h2 h3=>?_)
      obtain ⟨v,w',hr,hS⟩:=OK ao h (ev src x) hc h1 h2 h3
      exact ⟨v,w',by unfold execOp; simp only [ho,Sem.run_bind,hr,Result.andThen_ok,Sem.run_pure],⟨fun e=>by simp [qq,ho] at e,fun cc e=>by simp [ho] at e,fun t0 x0 y0 e=>by simp [ho] at e⟩,hS⟩
    · simp at aj
  | slice t x lo hi mx=>
    cases mx with
    | some _=>simp [ho] at aj
    | none=>
      simp only [ho] at aj
      split at aj
      case h_2=>simp at aj
      rename_i d hs
      simp only [Option.some.injEq] at aj
      have IY:∀ y:Option Operand,Fj w (ad C w S Hx) S (y.map (bW c st o.type)) (y.map a.eval):=by
        intro y
        cases y with
        | none=>exact .inl ⟨rfl,rfl⟩
        | some y=>exact .inr ⟨_,_,rfl,rfl,ev o.type y⟩
      obtain ⟨v,hr,hv⟩:=Iw ao h.rt h.mem (ev t x) (IY lo) (IY hi) hs
      exact cu (by unfold execOp; simp only [ho,Option.map_none,Sem.run_bind,hr,Result.andThen_ok,Sem.run_pure]) hv aj.symm
  | fieldAddr s x f=>
    simp only [ho] at aj
    split at aj
    case h_2=>simp at aj
    rename_i kr szs sz nU z fK
    split at aj
    case h_2=>simp at aj
    rename_i k hk
    split at aj
    case h_2=>simp at aj
    rename_i d hs
    simp only [Option.some.injEq] at aj
    obtain ⟨v,hr,hv⟩:=xT ao h.rt h.mem fK hk (ev o.type x) hs
    exact cu (by unfold execOp; simp only [ho,Sem.run_bind,hr,Result.andThen_ok,Sem.run_pure]) hv aj.symm
  | indexAddr t x i=>
    simp only [ho] at aj
    split at aj
    case h_2=>simp at aj
    rename_i k i' hi
    split at aj
    case h_2=>simp at aj
    rename_i d hs
    simp only [Option.some.injEq] at aj
    have oM:=ev o.type i
    rw [hi] at oM
    have oM:=fQ oM
    obtain ⟨v,hr,hv⟩:=xV ao h.rt h.mem (k:=k) (ev t x) hs
    exact cu (by unfold execOp; simp only [ho,oM,Sem.run_bind,hr,Result.andThen_ok,Sem.run_pure]) hv aj.symm
  | index t x i=>
    simp only [ho] at aj
    split at aj
    case h_2=>simp at aj
    rename_i k i' hi
    split at aj
    case h_2=>simp at aj
    rename_i d hs
    simp only [Option.some.injEq] at aj
    have oM:=ev o.type i
    rw [hi] at oM
    have oM:=fQ oM
    obtain ⟨v,hr,hv⟩:=IU ao (k:=k) (ev o.type x) hs
    exact cu (by unfold execOp; simp only [ho,oM,Sem.run_bind,hr,Result.andThen_ok,Sem.run_pure]) hv aj.symm
  | extract x i=>
    simp only [ho] at aj
    split at aj
    case h_2=>simp at aj
    rename_i vs hx
    split at aj
    case h_2=>simp at aj
    rename_i d hs
    simp only [Option.some.injEq] at aj
    have OQ:=ev o.type x
    rw [hx] at OQ
    obtain ⟨v,hr,hv⟩:=Cf (P:=P) OQ hs
    exact cu (by unfold execOp; simp only [ho,Sem.run_bind,hr,Result.andThen_ok,Sem.run_pure]) hv aj.symm
  | call cc=>
    simp only [ho] at aj
    split at aj
    · simp at aj
    rename_i cE
    simp only [ne_eq,Decidable.not_not] at cE
    have uf:∀ {ds:List D},((cc.args.toList.zip cc.argTypes.toList).map fun p=>bW c st p.2 p.1)=ds→bO (bZ w (ad C w S Hx) S) ds (cc.args.map a.eval).toList:=by
      intro ds IZ
      subst IZ
      refine cV (by simp [cE]) (fun i x y hx hy=>?_)
      simp only [Array.toList_map,List.getElem?_map] at hx hy
      cases hq:(cc.args.toList.zip cc.argTypes.toList)[i]? with
      | none=>simp [hq] at hx
      | some q=>
        simp only [hq,Option.map_some,Option.some.injEq] at hx
        rw [List.getElem?_zip_eq_some] at hq
        simp only [hq.1,Option.map_some,Option.some.injEq] at hy
        subst hx; subst hy
        exact ev q.2 q.1
    split at aj
    · rename_i f hf
      exact absurd hf (mM cc f ho)
    · rename_i hb
      split at aj
      case h_2=>simp at aj
      rename_i x t hx ht
      split at aj
      case h_2=>simp at aj
      rename_i d hl
      simp only [Option.some.injEq] at aj
      have ha:=uf hx
      have gC:cc.args.map a.eval=#[(cc.args.map a.eval).toList.headD undef]:=by
        cases ej:(cc.args.map a.eval).toList with
        | nil=>rw [ej] at ha; cases ha
        | cons y ys=>rw [ej] at ha; cases ha with
          | cons _ h2=>cases h2; rw [← Array.toArray_toList (xs:=cc.args.map a.eval),ej]; rfl
      have yf:cc.argTypes=#[t]:=by rw [← Array.toArray_toList (xs:=cc.argTypes),ht]
      have I0:bZ w (ad C w S Hx) S x ((cc.args.map a.eval).toList.headD undef):=by
        cases ej:(cc.args.map a.eval).toList with
        | nil=>rw [ej] at ha; cases ha
        | cons y ys=>rw [ej] at ha; cases ha with
          | cons h1 _=>exact h1
      obtain ⟨v,hr,hv⟩:=Og ao h.rt h.mem I0 hl o.type
      exact cu (by unfold execOp; simp only [ho,resolve,hb,invoke,builtin,Sem.run_bind,Sem.run_pure,Result.andThen_ok]; rw [gC,yf,hr]; rfl) hv aj.symm
    · rename_i hb
      split at aj
      case h_2=>simp at aj
      rename_i k x k' y hx
      simp only [Option.some.injEq] at aj
      have ha:=uf hx
      have gC:cc.args.map a.eval=#[.int k x,.int k' y]:=by
        cases ej:(cc.args.map a.eval).toList with
        | nil=>rw [ej] at ha; cases ha
        | cons y ys=>rw [ej] at ha; cases ha with
          | cons h1 h2=>
            cases h2 with
            | cons h3 h4=>
              cases h4
              rw [← Array.toArray_toList (xs:=cc.args.map a.eval),ej,fQ h1,fQ h3]
      refine cu (v:=.int k (if y < x then y else x)) ?_ (Od _ _) aj.symm
      unfold execOp
      simp only [ho,resolve,hb,invoke,builtin,Sem.run_bind,Sem.run_pure,Result.andThen_ok]
      rw [gC]
      simp [Builtin.min_,Builtin.min2]
    · rename_i hb
      split at aj
      case h_2=>simp at aj
      rename_i k x k' y hx
      simp only [Option.some.injEq] at aj
      have ha:=uf hx
      have gC:cc.args.map a.eval=#[.int k x,.int k' y]:=by
        cases ej:(cc.args.map a.eval).toList with
        | nil=>rw [ej] at ha; cases ha
        | cons y ys=>rw [ej] at ha; cases ha with
          | cons h1 h2=>
            cases h2 with
            | cons h3 h4=>
              cases h4
              rw [← Array.toArray_toList (xs:=cc.args.map a.eval),ej,fQ h1,fQ h3]
      refine cu (v:=.int k (if y>x then y else x)) ?_ (Od _ _) aj.symm
      unfold execOp
      simp only [ho,resolve,hb,invoke,builtin,Sem.run_bind,Sem.run_pure,Result.andThen_ok]
      rw [gC]
      simp [Builtin.max_,Builtin.max2]
    · rename_i hb
      split at aj
      case h_2=>simp at aj
      rename_i s x t tx hx ht
      have ha:=uf hx
      obtain ⟨us,ux,gC,ue,I0⟩:∃ us ux,cc.args.map a.eval=#[us,ux]∧bZ w (ad C w S Hx) S s us∧bZ w (ad C w S Hx) S x ux:=by
        cases ej:(cc.args.map a.eval).toList with
        | nil=>rw [ej] at ha; cases ha
        | cons y ys=>rw [ej] at ha; cases ha with
          | cons h1 h2=>
            cases h2 with
            | cons h3 h4=>
              cases h4
              exact ⟨_,_,by rw [← Array.toArray_toList (xs:=cc.args.map a.eval),ej],h1,h3⟩
      have yf:cc.argTypes=#[t,tx]:=by rw [← Array.toArray_toList (xs:=cc.argTypes),ht]
      obtain ⟨bS,dd,pe,HY⟩:∃ bS:St,∃ cs:List D,bS.of=st.of∧bS.root o.dst cs (fun d=>.ref d [] 0 none)=some st':=OM aj
      obtain ⟨_,t',m8⟩:=rR HY
      rw [m8] at aj
      obtain ⟨v,w',hr,hG,S',gM⟩:=OG ao h ue I0 (ty:=o.type) (fO t' m8).1 (fO t' m8).2 aj
      refine nD (v:=v) (w':=w') (by unfold execOp; simp only [ho,resolve,hb,invoke,builtin,Sem.run_bind,Sem.run_pure,Result.andThen_ok]; rw [gC,yf,hr]; rfl) (hK _ _ S' (by rw [m8]; exact gM) (cF a o.dst v).1 (cF a o.dst v).2 ((rR HY).1.trans pe) ⟨fun e=>by simp [qq,ho] at e,fun _ _ _=>hG,fun t0 x0 y0 e=>by simp [ho] at e⟩)
    · simp at aj
  | _=>simp [ho] at aj
end
end Go.Proofs.Ytockoilcnmljiaa
namespace Go.Proofs.Ytockoilcnmljiaa
def Rd (o:Oper) (a:Act) (w w2:World):Prop:=
  match o.op with
  | .load _ x=>xS (a.eval x) w w2
  | _=>dp w w2
theorem dp.rd {w w2:World} (h:dp w w2) (o:Oper) (a:Act):Rd o a w w2:=by
  unfold Rd
  split
  · exact h.acp _
  · exact h
section
variable {P:Program} {c:cf} (ao:dU c P) {C:Ctx} {Hx:List T} {w:World} {st st':St} {o:Oper} {a:Act} {aB:List (Array Value)} {S:List (Nat × RT)}
  {cl:FuncId→List D→Option (D × List D)} {ci:FuncId→List D→Nat→St→Option (D × St)} {ax:FuncId}
include ao
theorem I1 (h:Rel C Hx w st (a.tmps::aB) S) {b:Bool} (kA:mL c o=some b) (aj:eP c cl ci ax st o=some st'):
    ∃ v d,(∀ w2,(b=true∨Rd o a w w2)→(execOp a.eval o).run P w2=.ok (.value v) w2)∧bZ w (ad C w S Hx) S d v∧st'=st.put o.dst d:=by
  have fv:kJ w (ad C w S Hx) S st.tm a.tmps:=by cases h.mZ with | cons a _=>exact a
  have ev:=fun t x=>tX (c:=c) fv t x
  have cu:∀ {d:D} {v:Value},(∀ w2,(b=true∨Rd o a w w2)→(execOp a.eval o).run P w2=.ok (.value v) w2)→bZ w (ad C w S Hx) S d v→st'=st.put o.dst d→∃ v d,(∀ w2,(b=true∨Rd o a w w2)→(execOp a.eval o).run P w2=.ok (.value v) w2)∧bZ w (ad C w S Hx) S d v∧st'=st.put o.dst d:=
    fun h1 h2 h3=>⟨_,_,h1,h2,h3⟩
  unfold eP at aj
  cases ho:o.op with
  | move x=>
    simp only [ho,Option.some.injEq] at aj
    exact cu (fun w2 _=>by unfold execOp; simp only [ho]; rfl) (ev o.type x) aj.symm
  | assign x=>
    simp only [ho,Option.some.injEq] at aj
    exact cu (fun w2 _=>by unfold execOp; simp only [ho]; rfl) (ev o.type x) aj.symm
  | pick b x y=>
    simp only [ho] at aj
    split at aj
    case h_2=>simp at aj
    rename_i t hb
    simp only [Option.some.injEq] at aj
    have Cz:=ev o.type b
    rw [hb] at Cz
    have Cz:a.eval b=.bool t:=Cz
    refine cu (v:=if t then a.eval x else a.eval y) (d:=if t then bW c st o.type x else bW c st o.type y) ?_ ?_ aj.symm
    · intro w2 _
      unfold execOp
      simp only [ho,Cz,asBool,Sem.run_bind,Sem.run_pure,Result.andThen_ok]
    · cases t
      · exact ev o.type y
      · exact ev o.type x
  | alloc e=>simp [mL,ho] at kA
  | box e x=>simp [mL,ho] at kA
  | build t ps=>
    simp only [ho] at aj
    split at aj
    · rename_i kr szs sz nU z fK
      split at aj
      case h_2=>simp at aj
      rename_i cs hf
      simp only [Option.some.injEq] at aj
      obtain ⟨v,hr,hv⟩:=x8 ao h fK hf
      exact cu (fun w2 _=>by unfold execOp; simp only [ho,Sem.run_bind,hr,Result.andThen_ok,Sem.run_pure]) hv aj.symm
    · rename_i n e sz nU z fK
      split at aj
      case h_2=>simp at aj
      rename_i ei iy
      split at aj
      case h_2=>simp at aj
      rename_i cs hf
      simp only [Option.some.injEq] at aj
      obtain ⟨v,hr,hv⟩:=Ap ao h fK iy hf
      exact cu (fun w2 _=>by unfold execOp; simp only [ho,Sem.run_bind,hr,Result.andThen_ok,Sem.run_pure]) hv aj.symm
    · simp at aj
  | buildSlice t n ps=>simp [mL,ho] at kA
  | load t x=>
    simp only [ho] at aj
    split at aj
    case h_2=>simp at aj
    rename_i i hi
    split at aj
    case h_2=>simp at aj
    rename_i d hl
    simp only [Option.some.injEq] at aj
    obtain ⟨v,hr,hv⟩:=DL ao h.rt h.mem hi (ev o.type x) hl
    exact cu (fun w2 m9=>by have hr:=hr w2 (by have h9:=m9.resolve_left (by simp only [mL,ho,Option.some.injEq] at kA; rw [← kA]; simp); simpa only [Rd,ho] using h9); unfold execOp; simp only [ho,Sem.run_bind,hr,Result.andThen_ok,Sem.run_pure]) hv aj.symm
  | store t x y=>simp [mL,ho] at kA
  | nilCheck x=>
    simp only [ho] at aj
    have hx:=ev o.type x
    have hd:∃ A,a.eval x=.pointer (some A)∧st'=st.put o.dst (bW c st o.type x):=by
      split at aj
      · rename_i r q i heq
        split at aj
        · rename_i hl
          simp only [Option.some.injEq] at aj
          rw [heq] at hx
          obtain ⟨A,hA,_⟩:=qe h.rt h.mem hx (by simp only [hl,if_true]; rfl)
          exact ⟨A,hA,by rw [heq]; exact aj.symm⟩
        · simp at aj
      · rename_i cs i heq
        simp only [Option.some.injEq] at aj
        rw [heq] at hx
        obtain ⟨A,hA,_⟩:=qe h.rt h.mem hx rfl
        exact ⟨A,hA,by rw [heq]; exact aj.symm⟩
      · simp at aj
    obtain ⟨A,hA,ch⟩:=hd
    refine cu (v:=a.eval x) ?_ hx ch
    intro w2 _
    unfold execOp
    simp only [ho,hA]
    rfl
  | binOp op t x y z=>
    simp only [ho] at aj
    split at aj
    case h_2=>simp at aj
    rename_i d hb
    simp only [Option.some.injEq] at aj
    obtain ⟨v,hr,hv⟩:=Oe ao (x:=x) (y:=y) (ev t x) (ev t y) hb
    exact cu (fun w2 _=>by unfold execOp; simp only [ho,Sem.run_bind] at hr ⊢; rw [hr]; rfl) hv aj.symm
  | unOp op t x=>
    simp only [ho] at aj
    split at aj
    case h_2=>simp at aj
    rename_i d hb
    simp only [Option.some.injEq] at aj
    obtain ⟨v,hr,hv⟩:=TM (P:=P) (ev o.type x) hb
    exact cu (fun w2 _=>by unfold execOp; simp only [ho,Sem.run_bind,hr,Result.andThen_ok,Sem.run_pure]) hv aj.symm
  | makeFunc fn first gb=>
    cases fn with
    | func f=>
      simp only [ho] at aj
      split at aj
      case isFalse=>simp at aj
      rename_i hf
      simp only [Option.some.injEq] at aj
      have IX:first=#[]:=Array.eq_empty_of_size_eq_zero hf.1
      subst IX
      refine cu (v:=.func (.func f) #[] (gb.map a.eval)) (by simp [execOp,ho,Instr.makeFunc]) ?_ aj.symm
      refine ⟨_,rfl,?_⟩
      refine cV (by simp) (fun i x y hx hy=>?_)
      have hs:single x=true:=List.all_eq_true.1 hf.2 x (List.mem_of_getElem? hx)
      simp only [Array.toList_map,List.getElem?_map] at hx hy
      cases hq:gb.toList[i]? with
      | none=>simp [hq] at hx
      | some q=>
        simp only [hq,Option.map_some,Option.some.injEq] at hx hy
        subst hy
        have hv:=ev o.type q
        rw [hx] at hv
        cases x<;>first | exact hv | simp [single] at hs
    | _=>simp [ho] at aj
  | makeSlice t l cp=>simp [mL,ho] at kA
  | convert src dst x=>
    simp only [ho] at aj
    split at aj
    · rename_i d hc
      simp only [Option.some.injEq] at aj
      obtain ⟨v,hr,hv⟩:=IV ao h (ev src x) hc
      exact cu (fun w2 m9=>by have hr:=hr w2 (by have h9:=m9.resolve_left (by simp only [mL,ho] at kA; split at kA<;>simp at kA; rw [kA]; simp); simpa only [Rd,ho] using h9); unfold execOp; simp only [ho,Sem.run_bind,hr,Result.andThen_ok,Sem.run_pure]) hv aj.symm
    · rename_i d cs hc
      exfalso
      simp only [mL,ho] at kA
      unfold tU at hc
      split at hc
      case h_2=>simp at hc
      rename_i si di T9 OI
      rw [OI] at kA
      split at hc
      · simp at hc
      · simp at hc
      · simp at hc
      · split at hc
        · split at hc
          · split at hc
            · split at hc<;>simp at hc
            · simp at hc
          · simp at hc
        · simp at hc
      · rename_i Ub hk wQ
        obtain ⟨ty,a1,a2,a3⟩:=di
        simp only at Ub
        subst Ub
        simp at kA
      · simp at hc
    · simp at aj
  | slice t x lo hi mx=>
    cases mx with
    | some _=>simp [ho] at aj
    | none=>
      simp only [ho] at aj
      split at aj
      case h_2=>simp at aj
      rename_i d hs
      simp only [Option.some.injEq] at aj
      have IY:∀ y:Option Operand,Fj w (ad C w S Hx) S (y.map (bW c st o.type)) (y.map a.eval):=by
        intro y
        cases y with
        | none=>exact .inl ⟨rfl,rfl⟩
        | some y=>exact .inr ⟨_,_,rfl,rfl,ev o.type y⟩
      obtain ⟨v,hr,hv⟩:=Iw ao h.rt h.mem (ev t x) (IY lo) (IY hi) hs
      exact cu (fun w2 _=>by unfold execOp; simp only [ho,Option.map_none,Sem.run_bind,hr,Result.andThen_ok,Sem.run_pure]) hv aj.symm
  | fieldAddr s x f=>
    simp only [ho] at aj
    split at aj
    case h_2=>simp at aj
    rename_i kr szs sz nU z fK
    split at aj
    case h_2=>simp at aj
    rename_i k hk
    split at aj
    case h_2=>simp at aj
    rename_i d hs
    simp only [Option.some.injEq] at aj
    obtain ⟨v,hr,hv⟩:=xT ao h.rt h.mem fK hk (ev o.type x) hs
    exact cu (fun w2 _=>by unfold execOp; simp only [ho,Sem.run_bind,hr,Result.andThen_ok,Sem.run_pure]) hv aj.symm
  | indexAddr t x i=>
    simp only [ho] at aj
    split at aj
    case h_2=>simp at aj
    rename_i k i' hi
    split at aj
    case h_2=>simp at aj
    rename_i d hs
    simp only [Option.some.injEq] at aj
    have oM:=ev o.type i
    rw [hi] at oM
    have oM:=fQ oM
    obtain ⟨v,hr,hv⟩:=xV ao h.rt h.mem (k:=k) (ev t x) hs
    exact cu (fun w2 _=>by unfold execOp; simp only [ho,oM,Sem.run_bind,hr,Result.andThen_ok,Sem.run_pure]) hv aj.symm
  | index t x i=>
    simp only [ho] at aj
    split at aj
    case h_2=>simp at aj
    rename_i k i' hi
    split at aj
    case h_2=>simp at aj
    rename_i d hs
    simp only [Option.some.injEq] at aj
    have oM:=ev o.type i
    rw [hi] at oM
    have oM:=fQ oM
    obtain ⟨v,hr,hv⟩:=IU ao (k:=k) (ev o.type x) hs
    exact cu (fun w2 _=>by unfold execOp; simp only [ho,oM,Sem.run_bind,hr,Result.andThen_ok,Sem.run_pure]) hv aj.symm
  | extract x i=>
    simp only [ho] at aj
    split at aj
    case h_2=>simp at aj
    rename_i vs hx
    split at aj
    case h_2=>simp at aj
    rename_i d hs
    simp only [Option.some.injEq] at aj
    have OQ:=ev o.type x
    rw [hx] at OQ
    obtain ⟨v,hr,hv⟩:=Cf (P:=P) OQ hs
    exact cu (fun w2 _=>by unfold execOp; simp only [ho,Sem.run_bind,hr,Result.andThen_ok,Sem.run_pure]) hv aj.symm
  | call cc=>
    simp only [ho] at aj
    split at aj
    · simp at aj
    rename_i cE
    simp only [ne_eq,Decidable.not_not] at cE
    have uf:∀ {ds:List D},((cc.args.toList.zip cc.argTypes.toList).map fun p=>bW c st p.2 p.1)=ds→bO (bZ w (ad C w S Hx) S) ds (cc.args.map a.eval).toList:=by
      intro ds IZ
      subst IZ
      refine cV (by simp [cE]) (fun i x y hx hy=>?_)
      simp only [Array.toList_map,List.getElem?_map] at hx hy
      cases hq:(cc.args.toList.zip cc.argTypes.toList)[i]? with
      | none=>simp [hq] at hx
      | some q=>
        simp only [hq,Option.map_some,Option.some.injEq] at hx
        rw [List.getElem?_zip_eq_some] at hq
        simp only [hq.1,Option.map_some,Option.some.injEq] at hy
        subst hx; subst hy
        exact ev q.2 q.1
    split at aj
    · rename_i f hf
      simp [mL,ho,hf] at kA
    · rename_i hb
      split at aj
      case h_2=>simp at aj
      rename_i x t hx ht
      split at aj
      case h_2=>simp at aj
      rename_i d hl
      simp only [Option.some.injEq] at aj
      have ha:=uf hx
      have gC:cc.args.map a.eval=#[(cc.args.map a.eval).toList.headD undef]:=by
        cases ej:(cc.args.map a.eval).toList with
        | nil=>rw [ej] at ha; cases ha
        | cons y ys=>rw [ej] at ha; cases ha with
          | cons _ h2=>cases h2; rw [← Array.toArray_toList (xs:=cc.args.map a.eval),ej]; rfl
      have yf:cc.argTypes=#[t]:=by rw [← Array.toArray_toList (xs:=cc.argTypes),ht]
      have I0:bZ w (ad C w S Hx) S x ((cc.args.map a.eval).toList.headD undef):=by
        cases ej:(cc.args.map a.eval).toList with
        | nil=>rw [ej] at ha; cases ha
        | cons y ys=>rw [ej] at ha; cases ha with
          | cons h1 _=>exact h1
      obtain ⟨v,hr,hv⟩:=Og ao h.rt h.mem I0 hl o.type
      exact cu (fun w2 _=>by unfold execOp; simp only [ho,resolve,hb,invoke,builtin,Sem.run_bind,Sem.run_pure,Result.andThen_ok]; rw [gC,yf,hr]; rfl) hv aj.symm
    · rename_i hb
      split at aj
      case h_2=>simp at aj
      rename_i k x k' y hx
      simp only [Option.some.injEq] at aj
      have ha:=uf hx
      have gC:cc.args.map a.eval=#[.int k x,.int k' y]:=by
        cases ej:(cc.args.map a.eval).toList with
        | nil=>rw [ej] at ha; cases ha
        | cons y ys=>rw [ej] at ha; cases ha with
          | cons h1 h2=>
            cases h2 with
            | cons h3 h4=>
              cases h4
              rw [← Array.toArray_toList (xs:=cc.args.map a.eval),ej,fQ h1,fQ h3]
      refine cu (v:=.int k (if y < x then y else x)) ?_ (Od _ _) aj.symm
      intro w2 _
      unfold execOp
      simp only [ho,resolve,hb,invoke,builtin,Sem.run_bind,Sem.run_pure,Result.andThen_ok]
      rw [gC]
      simp [Builtin.min_,Builtin.min2]
    · rename_i hb
      split at aj
      case h_2=>simp at aj
      rename_i k x k' y hx
      simp only [Option.some.injEq] at aj
      have ha:=uf hx
      have gC:cc.args.map a.eval=#[.int k x,.int k' y]:=by
        cases ej:(cc.args.map a.eval).toList with
        | nil=>rw [ej] at ha; cases ha
        | cons y ys=>rw [ej] at ha; cases ha with
          | cons h1 h2=>
            cases h2 with
            | cons h3 h4=>
              cases h4
              rw [← Array.toArray_toList (xs:=cc.args.map a.eval),ej,fQ h1,fQ h3]
      refine cu (v:=.int k (if y>x then y else x)) ?_ (Od _ _) aj.symm
      intro w2 _
      unfold execOp
      simp only [ho,resolve,hb,invoke,builtin,Sem.run_bind,Sem.run_pure,Result.andThen_ok]
      rw [gC]
      simp [Builtin.max_,Builtin.max2]
    · rename_i hb
      simp [mL,ho,hb] at kA
    · simp at aj
  | _=>simp [ho] at aj
end
end Go.Proofs.Ytockoilcnmljiaa
namespace Go.Proofs.Ytockoilcnmljiaa
mutual
theorem rS {w:World} {X X':Bool→Nat→Prop} (h:∀ b k,X b k→X' b k):∀ (d:D) (u:Value),Ext w X d u→Ext w X' d u
  | d,u,hu=>fN (fun b k hk=>⟨h b k hk,rfl⟩) d u hu
end
theorem fp {w:World} {X X':Bool→Nat→Prop} (h:∀ b k,X b k→X' b k) (ts:List T) (hs:ba w X ts):ba w X' ts:=
  fP (fun b k hk=>⟨h b k hk,rfl⟩) ts hs (fun _ _=>rfl)
theorem mc {w w':World} {X X':Bool→Nat→Prop} (ch:iE w w' X X') {S:List (Nat × RT)} {d:D} {u:Value} (h:aQ w X S d u):aQ w' X' S d u:=by
  have he:∀ d u,Ext w X d u→Ext w' X' d u:=fN ch
  cases d with
  | ref r q o x=>exact h
  | ptr r q o=>exact h
  | dt cs o=>
    obtain ⟨b,off,c,e,fz,us,h1,h2,h3,h4,h5⟩:=h
    exact ⟨b,off,c,e,fz,us,h1,(ch true b h2).1,by rw [(ch true b h2).2]; exact h3,qt ch cs us h4,h5⟩
  | _=>exact he _ _ h
theorem OR {w w':World} {X X':Bool→Nat→Prop} (ch:iE w w' X X') {S:List (Nat × RT)} {d:D} {u:Value} (h:gg w X S d u):gg w' X' S d u:=by
  rcases qw h with ⟨cs,us,rfl,rfl,h1⟩ | ⟨f,cs,us,rfl,rfl,h1⟩ | ⟨_,_,h1⟩
  · exact ⟨us,rfl,h1.mono (fun _ _=>mc ch)⟩
  · exact ⟨us,rfl,h1.mono (fun _ _=>mc ch)⟩
  · exact dT (mc ch h1)
theorem VR {ts:List T} {k:Nat}:k∈ae ts↔∃ t∈ts,k∈t.ft:=by
  rw [lX]
  simp only [List.mem_flatten,List.mem_map]
  constructor
  · rintro ⟨l,⟨t,h1,rfl⟩,h2⟩
    exact ⟨t,h1,h2⟩
  · rintro ⟨t,h1,h2⟩
    exact ⟨_,⟨t,h1,rfl⟩,h2⟩
theorem kB {S:List (Nat × RT)} {r:Nat} {R:RT} (h:lk S r=some R) {k:Nat} (hk:k∈R.ft):k∈cr S:=by
  obtain ⟨A,B,h1,_⟩:=kt h
  rw [h1]; simp [hk]
theorem vY {S:List (Nat × RT)} (hn:(cr S).Nodup) {r r':Nat} {R R':RT} {b:Nat} (h:lk S r=some R) (hb:R.box=some b) (h':lk S r'=some R') (hk:b∈R'.ft):r'=r:=by
  by_cases he:r'=r
  · exact he
  obtain ⟨A,B,h1,h2⟩:=kt h
  have h3:lk (pt S r ⟨none,[]⟩) r'=some R':=by rw [dk _ _ he]; exact h'
  have h4:=kB h3 hk
  rw [h2] at h4
  rw [h1] at hn
  have TY:b∈R.ft:=by simp [RT.ft,hb]
  simp only [RT.ft,Option.toList,ae,List.append_nil,List.mem_append] at h4
  rw [List.nodup_append,List.nodup_append] at hn
  rcases h4 with h4 | h4
  · exact absurd rfl (hn.1.2.2 b h4 b TY)
  · exact absurd rfl (hn.2.2 b (by simp [TY]) b h4)
section
variable {C:Ctx} {w w':World} {st:St} {aB:List (Array Value)} {S:List (Nat × RT)} {Hs H Os:List T} {bxs:List Nat}
theorem Be (h:Rel C (Hs++H) w st aB S) (sw:∀ b∈bxs,∃ r R,lk S r=some R∧R.box=some b∧R.cs=[])
    (cE:w.heap.size≤w'.heap.size) (hold:∀ k,k < w.heap.size→k∉ae Hs→k∉bxs→w'.heap[k]?=w.heap[k]?) (lK:w'.os=w.os) (rG:w'.tape=w.tape) (sv:w'.output=w.output)
    (hO:ba w' (fun b k=>k < w'.heap.size∧k∉ae Os∧k∉bxs∧(ad C w S (Hs++H) b k∨k∈ae Hs∨w.heap.size≤k)) Os)
    (eT:(ae Os).Nodup) (ajT:∀ k∈ae Os,k∉bxs) (ez:∀ k∈ae Os,k < w'.heap.size∧(k∈ae Hs∨w.heap.size≤k)) (eF:∀ b∈bxs,ka w' b 0 0 []):
    Rel C (Os++H) w' st aB S∧gB C w w' S S (Hs++H) (Os++H) id:=by
  have Aj:∀ b∈bxs,b∈cr S:=fun b hb=>by
    obtain ⟨r,R,h1,h2,_⟩:=sw b hb
    exact kB h1 (by simp [RT.ft,h2])
  have XM:=h.mem.nd
  rw [List.nodup_append,aO,List.nodup_append] at XM
  obtain ⟨nS,⟨nHs,nH,dHs⟩,dS⟩:=XM
  have cR:=h.mem.lt
  have OT:∀ k∈cr S,k < w.heap.size:=fun k hk=>cR k (List.mem_append.2 (.inl hk))
  have Uc:∀ k∈ae H,k < w.heap.size:=fun k hk=>cR k (by simp [aO,hk])
  have Ud:∀ k∈cr S,k∉ae Hs:=fun k hk h2=>dS k hk k (by simp [h2]) rfl
  have SH:∀ k∈cr S,k∉ae H:=fun k hk h2=>dS k hk k (by simp [h2]) rfl
  have XN:∀ k∈ae H,k∉ae Hs:=fun k hk h2=>dHs k h2 k hk rfl
  have OS:∀ k∈ae Os,k∉cr S:=fun k hk h2=>by
    rcases (ez k hk).2 with h3 | h3
    · exact Ud k h2 h3
    · have:=OT k h2; omega
  have OH:∀ k∈ae Os,k∉ae H:=fun k hk h2=>by
    rcases (ez k hk).2 with h3 | h3
    · exact XN k h2 h3
    · have:=Uc k h2; omega
  have ch:iE w w' (ad C w S (Hs++H)) (ad C w' S (Os++H)):=by
    intro b k hk
    obtain ⟨k1,k2,k3,k4⟩:=hk
    rw [aO,List.mem_append,not_or] at k3
    refine ⟨⟨by omega,k2,?_,k4⟩,hold k k1 k3.1 (fun hb=>k2 (Aj k hb))⟩
    rw [aO,List.mem_append,not_or]
    refine ⟨fun hk=>?_,k3.2⟩
    rcases (ez k hk).2 with h3 | h3
    · exact k3.1 h3
    · omega
  have T0:gB C w w' S S (Hs++H) (Os++H) id:=fun d u hd=>mc ch hd
  have ug:∀ b k,(k < w'.heap.size∧k∉ae Os∧k∉bxs∧(ad C w S (Hs++H) b k∨k∈ae Hs∨w.heap.size≤k))→ad C w' S (Os++H) b k:=by
    rintro b k ⟨k1,k2,k3,k4⟩
    have hFA:k∈ae Hs→k∈C.FA∨C.w0.heap.size≤k:=fun hk=>h.kept.gT k (by simp [aO,hk])
    refine ⟨k1,?_,?_,?_⟩
    · rcases k4 with k4 | k4 | k4
      · exact k4.2.1
      · exact fun h2=>Ud k h2 k4
      · exact fun h2=>by have:=OT k h2; omega
    · rw [aO,List.mem_append,not_or]
      refine ⟨k2,?_⟩
      rcases k4 with k4 | k4 | k4
      · have:=k4.2.2.1
        rw [aO,List.mem_append,not_or] at this
        exact this.2
      · exact fun h2=>XN k h2 k4
      · exact fun h2=>by have:=Uc k h2; omega
    · intro hb
      rcases k4 with k4 | k4 | k4
      · exact k4.2.2.2 hb
      · exact .inr (hFA k4)
      · exact .inr (.inr (Nat.le_trans h.kept.size k4))
  refine ⟨⟨h.rt,⟨?_,?_,?_,?_⟩,?_,?_⟩,T0⟩
  · rw [List.nodup_append,aO,List.nodup_append]
    refine ⟨nS,⟨eT,nH,fun a ha b hb e=>OH a ha (e▸hb)⟩,fun a ha b hb e=>?_⟩
    subst e
    rcases List.mem_append.1 hb with hb | hb
    · exact OS a hb ha
    · exact SH a ha hb
  · intro r R hr
    obtain ⟨h1,h2⟩:=h.mem.root r R hr
    have hb:∀ b∈bxs,b∈R.ft→R.box=some b∧R.cs=[]:=by
      intro b hb hR
      obtain ⟨r',R',e1,e2,e3⟩:=sw b hb
      have:=vY nS e1 e2 hr hR
      subst this
      rw [e1,Option.some.injEq] at hr
      subst hr
      exact ⟨e2,e3⟩
    refine ⟨?_,fun t ht=>?_⟩
    · cases hx:R.box with
      | none=>trivial
      | some b=>
        rw [hx] at h1
        by_cases qA:b∈bxs
        · have:=(hb b qA (by simp [RT.ft,hx])).2
          rw [this]
          exact eF b qA
        · have XO:=kB hr (show b∈R.ft by simp [RT.ft,hx])
          obtain ⟨c,e,fz,g1,g2⟩:=h1
          exact ⟨c,e,fz,by rw [hold b (OT b XO) (Ud b XO) qA]; exact g1,g2⟩
    · have h3:=h2 t ht
      cases t with
      | v d u=>
        rcases h3 with h3 | ⟨e,h3⟩
        · exact .inl (fN ch _ _ h3)
        · exact .inr ⟨e,mc ch h3⟩
      | own s n cap a cs=>
        refine du ch _ h3 (fun k hk=>?_)
        have hkR:k∈R.ft:=by simp only [RT.ft,List.mem_append]; exact .inr (VR.2 ⟨_,ht,hk⟩)
        have Fw:=kB hr hkR
        refine hold k (OT k Fw) (Ud k Fw) (fun qA=>?_)
        have:=(hb k qA hkR).2
        rw [this] at ht
        simp at ht
  · rw [dv]
    refine ⟨fp ug _ hO,?_⟩
    have hH:=((dv _ _).1 h.mem.hand).2
    exact fP ch _ hH (fun k hk=>hold k (Uc k hk) (XN k hk) (fun hb=>SH k (Aj k hb) hk))
  · intro k hk
    rcases List.mem_append.1 hk with hk | hk
    · have:=OT k hk; omega
    · rw [aO] at hk
      rcases List.mem_append.1 hk with hk | hk
      · exact (ez k hk).1
      · have:=Uc k hk; omega
  · exact h.mZ.mono (fun _ _ ht=>uH T0 ht)
  · have hk:=h.kept
    refine ⟨lK.trans hk.os,rG.trans hk.tape,sv.trans hk.output,Nat.le_trans hk.size cE,fun k h1 h2=>?_,fun k h1=>?_,hk.par⟩
    · have h3:k∉cr S++ae (Hs++H):=fun h3=>by
        rcases hk.gT k h3 with h4 | h4
        · exact h2 h4
        · omega
      simp only [aO,List.mem_append,not_or] at h3
      rw [hold k (Nat.lt_of_lt_of_le h1 hk.size) h3.2.1 (fun hb=>h3.1 (Aj k hb))]
      exact hk.block k h1 h2
    · rcases List.mem_append.1 h1 with h1 | h1
      · exact hk.gT k (by simp [h1])
      · rw [aO] at h1
        rcases List.mem_append.1 h1 with h1 | h1
        · rcases (ez k h1).2 with h2 | h2
          · exact hk.gT k (by simp [aO,h2])
          · exact .inr (Nat.le_trans hk.size h2)
        · exact hk.gT k (by simp [aO,h1])
end
end Go.Proofs.Ytockoilcnmljiaa
namespace Go.Proofs.Ytockoilcnmljiaa
def lH (S S':List (Nat × RT)):Prop:=∀ r R,lk S r=some R→∃ R',lk S' r=some R'∧R'.box=R.box
theorem lH.refl (S:List (Nat × RT)):lH S S:=fun _ R h=>⟨R,h,rfl⟩
theorem lH.trans {S S' wP:List (Nat × RT)} (h:lH S S') (h':lH S' wP):lH S wP:=fun r R hr=>by
  obtain ⟨R1,h1,h2⟩:=h r R hr
  obtain ⟨R2,h4,h5⟩:=h' r R1 h1
  exact ⟨R2,h4,h5.trans h2⟩
theorem nX.b {S S':List (Nat × RT)} (h:nX S S'):lH S S':=fun r R hr=>by
  obtain ⟨R1,h1,h2,_⟩:=h.fwd r R hr
  exact ⟨R1,h1,h2⟩
theorem LI (g:D→D) (S:List (Nat × RT)):lH S (fS g S):=fun r R hr=>⟨⟨R.box,R.cs.map (fT g)⟩,by rw [kg,hr]; rfl,rfl⟩
theorem Bf {S:List (Nat × RT)} {r:Nat} {q:List Nat} {o:Nat} {t:T} (h:cd S r q o=some t):∃ R l,lk S r=some R∧au R.cs q=some l∧l[o]?=some t:=by
  unfold cd at h
  cases hr:lk S r with
  | none=>simp [hr] at h
  | some R=>
    simp only [hr] at h
    cases hl:au R.cs q with
    | none=>simp [hl] at h
    | some l=>simp only [hl] at h; exact ⟨R,l,rfl,hl,h⟩
section
variable {C:Ctx} {H:List T} {w:World} {st st':St} {aB:List (Array Value)} {S:List (Nat × RT)}
theorem I2 {t' t0:T} (h:Rel C (t'::H) w st aB S) {r:Nat} {q:List Nat} {o:Nat} {ex:Bool} (hc0:cd S r q o=some t0) (jD:∃ d0 u0,t0=.v d0 u0∧(ex=false→eO (cb r q o ex) (bj d0)=bj d0)) (hl:j7 t0 t'∨(ex=true∧t'.val=t0.val))
    (ir:(st.eG (cb r q o ex)).gH r q o t'.er=some st'):
    ∃ S',Rel C H w st' aB S'∧gB C w w S S' (t'::H) H (cb r q o ex)∧st'.of=st.of∧lH S S'∧cd S' r q o=some t'∧
      ∀ r' q' o' d0 u,(sn d0).isSome=true→bj d0=d0→cd S r' q' o'=some (.v d0 u)→(r'≠r∨under (q++[o]) (q'++[o'])=none)→cd S' r' q' o'=some (.v d0 u):=by
  obtain ⟨d0,u0,rfl,Xt⟩:=jD
  have hv:t'.val=(T.v d0 u0).val:=by
    rcases hl with hl | hl
    · exact hl.1
    · exact hl.2
  obtain ⟨R,l,hR,hl0,ho⟩:=Bf hc0
  have hg:=kT r q o ex
  have Cx:=vQ r q o ex
  have Rw:gy (st.eG (cb r q o ex)).rt (fS (cb r q o ex) S):=by
    exact nE hg h.rt
  obtain ⟨R1,l1,t1,e1,e2,e3,e4,e5,e6,e7,e8⟩:=T2 (g:=cb r q o ex) hR hl0 ho
  have ya:t1=.v (eO (cb r q o ex) (bj d0)) u0∨t1=.v d0 u0:=by
    rcases e5 with rfl | ⟨_,rfl⟩
    · exact .inr rfl
    · exact .inl rfl
  have RD:t1.val=u0:=by rcases ya with rfl | rfl<;>rfl
  have acE:t1.ft=[]:=by rcases ya with rfl | rfl<;>rfl
  have acF:ex=false→sn t1.er=sn (bj d0):=fun e=>by
    rcases ya with rfl | rfl
    · rw [Xt e]; simp [T.er,Ai]
    · simp [T.er]
  obtain ⟨S',hc,MS,MT,MU,Bc⟩:=A6 (t':=t') Rw e1 e3 e4 ir
  obtain ⟨A,B,f1,f2⟩:=hc.Xl
  rw [rF] at f1
  rw [acE,List.append_nil] at f1
  have pM:∀ k,k∈cr S'++ae H↔k∈cr S++ae (t'::H):=by
    intro k
    rw [f1,f2]
    simp only [ae,List.mem_append]
    constructor
    · rintro (((h | h) | h) | h)
      · exact .inl (.inl h)
      · exact .inr (.inl h)
      · exact .inl (.inr h)
      · exact .inr (.inr h)
    · rintro ((h | h) | (h | h))
      · exact .inl (.inl (.inl h))
      · exact .inl (.inr h)
      · exact .inl (.inl (.inr h))
      · exact .inr h
  have eT:(cr S'++ae H).Nodup:=by
    have h0:=h.mem.nd
    rw [f1] at h0
    rw [f2]
    refine (List.Perm.nodup_iff ?_).1 h0
    refine List.perm_iff_count.2 fun a=>?_
    simp only [ae,List.count_append]
    omega
  have hX:∀ b k,ad C w S (t'::H) b k→ad C w S' H b k:=iP (fun k hk=>(pM k).1 hk)
  have ch:iE w w (ad C w S (t'::H)) (ad C w S' H):=fun b k hk=>⟨hX b k hk,rfl⟩
  have aag:ex=false→j7 t1 t':=fun e=>by
    rcases hl with hl | hl
    · exact ⟨by rw [RD]; exact hl.1,fun p hp=>by rw [acF e]; exact hl.2 p hp⟩
    · exact absurd (hl.1.symm.trans e) (by simp)
  have dH:∀ d u,aQ w (ad C w S (t'::H)) S d u→aQ w (ad C w S' H) S' (cb r q o ex d) u:=
    fun d u hd=>vN ch hc aag (oG hg hd)
  have cY:=h.mem.hand
  simp only [ba] at cY
  have cQ:Mem C w S' H:=Lz h.mem (g:=eO (cb r q o ex)) (MI hg S) hc (by rw [hv,RD]; rfl)
    (.inl (du ch _ cY.1 (fun _ _=>rfl))) eT (fun k hk=>(pM k).1 hk) (fp hX _ cY.2)
    (fun d u hd=>by rw [rP hd]; exact dH d u hd) (fun d u hd=>pJ hg Cx (rS hX _ _ hd))
  refine ⟨S',?_,dH,Bc,?_,hc.A4,fun r' q' o' d1 u1 h3 h4 h1 h2=>?_⟩
  · refine h.step (f:=cb r q o ex) MS MT MU dH cQ (vP h.kept (fun k hk=>(pM k).1 hk) (fun r' R' eb=>?_))
    obtain ⟨R2,g1,g2,g3⟩:=hc.par (by rw [hv,RD]; rfl) eb
    rw [kg] at g1
    cases hx:lk S r' with
    | none=>simp [hx] at g1
    | some R0=>
      simp only [hx,Option.map_some,Option.some.injEq] at g1
      subst g1
      refine ⟨R0,rfl,g2,g3.trans ?_⟩
      simp only [cD,List.map_map]
      congr 1
      funext t
      cases t<;>rfl
  · refine lH.trans (S':=fS (cb r q o ex) S) (LI _ S) (fun r' R' eb=>?_)
    obtain ⟨R2,g1,g2,_⟩:=hc.Fo eb
    exact ⟨R2,g1,g2⟩
  · refine hc.II h2 ?_
    rw [zw h1]
    split
    · simp only [fT,h4]
      cases d1<;>first | (simp [sn] at h3; done) | simp [eO,hg.hole,hg.sl]
    · rfl
theorem RE {ts:List T} (h:Rel C (ts++H) w st aB S) {r b:Nat} (h0:lk S r=some ⟨some b,[]⟩) (eF:ka w b 0 ts.length (ay ts)):
    Rel C H w { st.eG (dY r) with rt:=pz (st.eG (dY r)).rt r (aP ts) } aB (pt (fS (dY r) S) r ⟨some b,ts⟩)∧gB C w w S (pt (fS (dY r) S) r ⟨some b,ts⟩) (ts++H) H (dY r)∧lH S (pt (fS (dY r) S) r ⟨some b,ts⟩):=by
  have hg:=MJ r
  have Cx:=ML r
  have h1:lk (fS (dY r) S) r=some ⟨some b,[]⟩:=by rw [kg,h0]; rfl
  obtain ⟨A,B,f1,f2⟩:=kt h1
  rw [rF] at f1
  have f3:=f2 ⟨some b,ts⟩
  simp only [RT.ft,Option.toList,ae,List.append_nil] at f1
  simp only [RT.ft,Option.toList] at f3
  have pM:∀ k,k∈cr (pt (fS (dY r) S) r ⟨some b,ts⟩)++ae H↔k∈cr S++ae (ts++H):=by
    intro k
    rw [f1,f3,aO]
    simp only [List.mem_append,List.mem_singleton]
    constructor
    · rintro (((h | (h | h)) | h) | h)<;>simp [h]
    · rintro (((h | h) | h) | (h | h))<;>simp [h]
  have eT:(cr (pt (fS (dY r) S) r ⟨some b,ts⟩)++ae H).Nodup:=by
    have h0:=h.mem.nd
    rw [f1] at h0
    rw [f3]
    refine (List.Perm.nodup_iff ?_).1 h0
    refine List.perm_iff_count.2 fun a=>?_
    simp only [aO,List.count_append]
    omega
  have hX:∀ b' k,ad C w S (ts++H) b' k→ad C w (pt (fS (dY r) S) r ⟨some b,ts⟩) H b' k:=iP (fun k hk=>(pM k).1 hk)
  have ch:iE w w (ad C w S (ts++H)) (ad C w (pt (fS (dY r) S) r ⟨some b,ts⟩) H):=fun b k hk=>⟨hX b k hk,rfl⟩
  have dH:∀ d u,aQ w (ad C w S (ts++H)) S d u→aQ w (ad C w (pt (fS (dY r) S) r ⟨some b,ts⟩) H) (pt (fS (dY r) S) r ⟨some b,ts⟩) (dY r d) u:=
    fun d u hd=>VH ch (R:=⟨some b,ts⟩) h1 rfl rfl (oG hg hd)
  have cY:=h.mem.hand
  rw [dv] at cY
  refine ⟨?_,dH,?_⟩
  · refine h.step (f:=dY r) ?_ rfl rfl dH ⟨eT,?_,fp hX _ cY.2,fun k hk=>h.mem.lt k ((pM k).1 hk)⟩ ⟨h.kept.os,h.kept.tape,h.kept.output,h.kept.size,h.kept.block,fun k hk=>h.kept.gT k ((pM k).1 hk),?_⟩
    · exact zq (nE hg h.rt) r ⟨some b,ts⟩
    · intro r' R' eb
      by_cases he:r'=r
      · subst he
        rw [cm,Option.some.injEq] at eb
        subst eb
        refine ⟨eF,fun t ht=>?_⟩
        have:=(bU _).1 (fp hX _ cY.1) t ht
        cases t with
        | v d u=>exact .inl this
        | own s n cap a cs=>exact this
      · rw [dk _ _ he,kg] at eb
        cases hx:lk S r' with
        | none=>simp [hx] at eb
        | some R0=>
          simp only [hx,Option.map_some,Option.some.injEq] at eb
          subst eb
          obtain ⟨k1,k2⟩:=h.mem.root r' R0 hx
          refine ⟨?_,?_⟩
          · simp only [List.length_map]
            have hv:ay (R0.cs.map (fT (dY r)))=ay R0.cs:=by
              rw [cD,cD,List.map_map]
              congr 1
              funext t
              cases t<;>rfl
            rw [hv]
            exact k1
          · intro t ht
            simp only [List.mem_map] at ht
            obtain ⟨t0,jD,rfl⟩:=ht
            have:=k2 t0 jD
            cases t0 with
            | v d u=>
              simp only [fT,ix] at this ⊢
              rw [hg.leaf]
              rcases this with this | ⟨hb,this⟩
              · exact .inl (pJ hg Cx (rS hX _ _ this))
              · exact .inr ⟨hb,by rw [rP this]; exact dH _ _ this⟩
            | own s n cap a xs=>
              simp only [fT]
              exact du ch _ this (fun _ _=>rfl)
    · intro r' b' vs hm R' eb
      by_cases he:r'=r
      · subst he
        rw [cm,Option.some.injEq] at eb
        subst eb
        obtain ⟨g1,g2⟩:=h.kept.par r' b' vs hm _ h0
        refine ⟨g1,fun hb=>?_⟩
        rw [hb] at g1
        simp at g1
      · rw [dk _ _ he,kg] at eb
        cases hx:lk S r' with
        | none=>simp [hx] at eb
        | some R0=>
          simp only [hx,Option.map_some,Option.some.injEq] at eb
          subst eb
          obtain ⟨g1,g2⟩:=h.kept.par r' b' vs hm R0 hx
          refine ⟨g1,fun hb=>?_⟩
          rw [← g2 hb]
          simp only [cD,List.map_map]
          congr 1
          funext t
          cases t<;>rfl
  · refine lH.trans (S':=fS (dY r) S) (LI _ S) (fun r' R' eb=>?_)
    by_cases he:r'=r
    · subst he
      rw [h1,Option.some.injEq] at eb
      subst eb
      exact ⟨_,cm _ _ _,rfl⟩
    · exact ⟨R',by rw [dk _ _ he]; exact eb,rfl⟩
end
end Go.Proofs.Ytockoilcnmljiaa
namespace Go.Proofs.Ytockoilcnmljiaa
def iG (S S':List (Nat × RT)):Prop:=∀ r R,lk S r=some R→∃ R',lk S' r=some R'∧R'.box=R.box∧(R.cs=[]→R'.cs=[])
theorem iG.refl (S:List (Nat × RT)):iG S S:=fun _ R h=>⟨R,h,rfl,fun h=>h⟩
theorem iG.trans {S S' wP:List (Nat × RT)} (h:iG S S') (h':iG S' wP):iG S wP:=fun r R hr=>by
  obtain ⟨R1,h1,h2,h3⟩:=h r R hr
  obtain ⟨R2,h4,h5,h6⟩:=h' r R1 h1
  exact ⟨R2,h4,h5.trans h2,fun e=>h6 (h3 e)⟩
theorem nX.e {S S':List (Nat × RT)} (h:nX S S'):iG S S':=fun r R hr=>by
  obtain ⟨R1,h1,h2,h3⟩:=h.fwd r R hr
  exact ⟨R1,h1,h2,fun e=>by
    have h4:=congrArg List.length h3
    rw [e] at h4
    simp only [bw,List.length_nil] at h4
    exact List.length_eq_zero_iff.1 h4⟩
theorem iG.b {S S':List (Nat × RT)} (h:iG S S'):lH S S':=fun r R hr=>by
  obtain ⟨R1,h1,h2,_⟩:=h r R hr
  exact ⟨R1,h1,h2⟩
theorem iG.empty {S S':List (Nat × RT)} (h:iG S S') {r:Nat} {b:Option Nat} (hr:lk S r=some ⟨b,[]⟩):lk S' r=some ⟨b,[]⟩:=by
  obtain ⟨R1,h1,h2,h3⟩:=h r _ hr
  have:=h3 rfl
  cases R1
  simp only at h2 this
  rw [h1,h2,this]
section
variable {C:Ctx} {H:List T} {w:World} {st st':St} {aB:List (Array Value)} {S:List (Nat × RT)}
theorem MY (h:Rel C H w st aB S) {r b:Nat} {R:RT} (hR:lk S r=some R) (hb:R.box=some b):
    Rel C H w { st with rt:=pz st.rt r [] } aB (pt S r ⟨some b,[]⟩)∧gB C w w S (pt S r ⟨some b,[]⟩) H H id∧iG S (pt S r ⟨some b,[]⟩):=by
  obtain ⟨A,B,f1,f2⟩:=kt hR
  have f3:=f2 ⟨some b,[]⟩
  simp only [RT.ft,hb,Option.toList,ae,List.append_nil] at f1 f3
  have ec:∀ k∈cr (pt S r ⟨some b,[]⟩)++ae H,k∈cr S++ae H:=by
    intro k hk
    rw [f3] at hk
    rw [f1]
    simp only [List.mem_append,List.mem_singleton] at hk ⊢
    rcases hk with ((hk | hk) | hk) | hk<;>simp [hk]
  have eT:(cr (pt S r ⟨some b,[]⟩)++ae H).Nodup:=by
    have h0:=h.mem.nd
    rw [f1] at h0
    rw [f3]
    refine List.Nodup.sublist ?_ h0
    refine List.Sublist.append (List.Sublist.append (List.Sublist.append (List.Sublist.refl _) ?_) (List.Sublist.refl _)) (List.Sublist.refl _)
    simp
  have hX:∀ b' k,ad C w S H b' k→ad C w (pt S r ⟨some b,[]⟩) H b' k:=iP ec
  have ch:iE w w (ad C w S H) (ad C w (pt S r ⟨some b,[]⟩) H):=fun b k hk=>⟨hX b k hk,rfl⟩
  have dH:∀ d u,aQ w (ad C w S H) S d u→aQ w (ad C w (pt S r ⟨some b,[]⟩) H) (pt S r ⟨some b,[]⟩) d u:=by
    intro d u hd
    cases d with
    | ref r' q' o' x=>
      intro t ht
      by_cases he:r'=r
      · subst he
        obtain ⟨R',l,e1,e2,e3⟩:=Bf ht
        rw [cm,Option.some.injEq] at e1
        subst e1
        cases q' with
        | nil=>simp only [au,Option.some.injEq] at e2; subst e2; simp at e3
        | cons p q=>simp [au] at e2
      · refine hd t ?_
        rw [← ht]
        simp only [cd,dk _ _ he]
    | ptr r' q' o'=>
      intro R' dQ
      by_cases he:r'=r
      · subst he
        rw [cm,Option.some.injEq] at dQ
        subst dQ
        refine ⟨fun _=>rfl,fun b' off ha=>?_⟩
        cases q' with
        | nil=>
          refine (hd R hR).2 b' off ?_
          simp only [bI,hb] at ha ⊢
          exact ha
        | cons p q=>simp [bI] at ha
      · rw [dk _ _ he] at dQ
        exact hd R' dQ
    | dt cs o=>exact mc (S:=S) (d:=.dt cs o) ch hd
    | _=>exact fN ch _ _ hd
  refine ⟨h.pH ?_ rfl rfl dH ⟨eT,?_,fp hX _ h.mem.hand,fun k hk=>h.mem.lt k (ec k hk)⟩ ⟨h.kept.os,h.kept.tape,h.kept.output,h.kept.size,h.kept.block,fun k hk=>h.kept.gT k (ec k hk),?_⟩,dH,?_⟩
  · exact zq h.rt r ⟨some b,[]⟩
  · intro r' R' eb
    by_cases he:r'=r
    · subst he
      rw [cm,Option.some.injEq] at eb
      subst eb
      refine ⟨?_,by simp⟩
      have:=(h.mem.root _ R hR).1
      rw [hb] at this
      obtain ⟨c,e,fz,g1,g2,g3,g4⟩:=this
      exact ⟨c,e,fz,g1,g2,by simp,by simp [ay]⟩
    · rw [dk _ _ he] at eb
      obtain ⟨k1,k2⟩:=h.mem.root r' R' eb
      refine ⟨k1,fun t ht=>?_⟩
      have:=k2 t ht
      cases t with
      | v d u=>
        rcases this with this | ⟨hb,this⟩
        · exact .inl (rS hX _ _ this)
        · exact .inr ⟨hb,dH _ _ this⟩
      | own s n cap a xs=>exact du ch _ this (fun _ _=>rfl)
  · intro r' b' vs hm R' eb
    by_cases he:r'=r
    · subst he
      rw [cm,Option.some.injEq] at eb
      subst eb
      obtain ⟨g1,_⟩:=h.kept.par r' b' vs hm _ hR
      rw [hb] at g1
      exact ⟨g1,fun e=>by rw [e] at g1; simp at g1⟩
    · rw [dk _ _ he] at eb
      exact h.kept.par r' b' vs hm R' eb
  · intro r' R' eb
    by_cases he:r'=r
    · subst he
      rw [hR,Option.some.injEq] at eb
      subst eb
      exact ⟨_,cm _ _ _,hb.symm,fun _=>rfl⟩
    · exact ⟨R',by rw [dk _ _ he]; exact eb,rfl,fun h=>h⟩
theorem XP (h:Rel C H w st aB S) {r b:Nat} {R:RT} (hR:lk S r=some R) (hb:R.box=some b) {cs':List D} (ht:N8 st r=some (cs',st')):
    ∃ ts S',Rel C (ts++H) w st' aB S'∧aP ts=cs'∧ts≠[]∧lk S' r=some ⟨some b,[]⟩∧ka w b 0 ts.length (ay ts)∧gB C w w S S' H (ts++H) id∧iG S S'∧ky st st':=by
  unfold N8 at ht
  rw [h.rt,hR] at ht
  simp only [Option.map_some] at ht
  split at ht
  case h_2=>simp at ht
  rename_i c cs eh
  simp only [Option.some.injEq] at eh
  split at ht
  case h_2=>simp at ht
  rename_i XQ aE df
  simp only [Option.some.injEq,Prod.mk.injEq] at ht
  obtain ⟨rfl,rfl⟩:=ht
  have dJ:bO (aQ w (ad C w S H) S) (kf r [] 0 (c::cs)) (ay R.cs):=by
    rw [← eh]
    refine cV (by rw [nT,eS,bw]) (fun i x y hx hy=>?_)
    rw [lZ,gL] at hx
    rw [eQ] at hy
    cases hi:R.cs[i]? with
    | none=>simp [hi] at hx
    | some t=>
      simp only [hi,Option.map_some,Option.some.injEq,Nat.zero_add] at hx hy
      subst hx; subst hy
      exact nR h.mem hR rfl hi
  obtain ⟨ts,S1,a1,a2,a3,a4,a5,a6⟩:=Cq h dJ df
  obtain ⟨R1,b1,b2,_⟩:=a5.fwd r R hR
  obtain ⟨c1,c2,c3⟩:=MY a1 b1 (b2.trans hb)
  refine ⟨ts,_,c1,a2,?_,cm _ _ _,?_,fun d u hd=>c2 d u (a4 d u hd),a5.e.trans c3,a6⟩
  · intro e
    have h1:=congrArg List.length eh
    have h2:=congrArg List.length a3
    rw [e] at h2
    rw [eS] at h1
    simp only [bw,List.length_cons,List.length_nil] at h1 h2
    omega
  · have h1:=(h.mem.root r R hR).1
    rw [hb] at h1
    have h2:=congrArg List.length a3
    simp only [bw] at h2
    rw [h2,a3]
    exact h1
end
def fb:D→Value→List T→Prop
  | .agg cs,u,ts=>cs=aP ts∧∃ us,u=.agg us∧us.toList=ay ts
  | d,u,ts=>∃ t,ts=[t]∧d=t.er∧u=t.val
abbrev Arg:=Option Nat × List T
def FB (w:World) (X:Bool→Nat→Prop):Bool→D→Value→Arg→Prop
  | false,d,u,a=>a=(none,[])∧∀ S,gg w X S d u
  | true,.aM cs,u,a=>∃ b,a.1=some b∧a.2≠[]∧cs=aP a.2∧u=.pointer (some ⟨b,0,none⟩)∧ka w b 0 a.2.length (ay a.2)
  | true,d,u,a=>a.1=none∧fb d u a.2
def oN (w:World) (S:List (Nat × RT)):Bool→D→D→Value→Arg→Prop
  | false,d,d1,_,a=>a=(none,[])∧d1=d
  | true,d,.aM cs,u,a=>∃ r b,d=.ptr r [] 0∧a.1=some b∧lk S r=some ⟨some b,[]⟩∧a.2≠[]∧cs=aP a.2∧u=.pointer (some ⟨b,0,none⟩)∧ka w b 0 a.2.length (ay a.2)
  | true,d,d1,u,a=>a.1=none∧fb d1 u a.2∧ay a.2=gi d u∧(∀ r,d≠.ptr r [] 0)∧((∃ cs,d1=.agg cs)↔∃ cs,d=.agg cs)∧(∀ f cs,d≠.fn f cs)∧∀ ds,d≠.aR ds
def qB (w:World) (S:List (Nat × RT)):List Bool→List D→List D→List Value→List Arg→Prop
  | _,[],fJ,us,as9=>fJ=[]∧us=[]∧as9=[]
  | b,d::ds,fJ,us,as9=>∃ d1 vZ u jq a bX,fJ=d1::vZ∧us=u::jq∧as9=a::bX∧oN w S (b.headD false) d d1 u a∧qB w S b.tail ds vZ jq bX
def cz (as9:List Arg):List T:=(as9.map Prod.snd).reverse.flatten
theorem oO (a:Arg) (as9:List Arg):cz (a::as9)=cz as9++a.2:=by simp [cz]
theorem oN.Fo {w:World} {S S':List (Nat × RT)} (h:iG S S') {b:Bool} {d d1:D} {u:Value} {a:Arg} (hg:oN w S b d d1 u a):oN w S' b d d1 u a:=by
  cases b with
  | false=>exact hg
  | true=>
    cases d1 with
    | aM cs=>
      obtain ⟨r,b,h1,h2,h3,h4⟩:=hg
      exact ⟨r,b,h1,h2,h.empty h3,h4⟩
    | _=>exact hg
theorem Au {w:World} {S:List (Nat × RT)} {d d1:D} {u:Value} {a:Arg} (hn:∀ cs,d1≠.aM cs) (h1:a.1=none) (h2:fb d1 u a.2) (h3:ay a.2=gi d u) (h4:∀ r,d≠.ptr r [] 0) (h5:(∃ cs,d1=.agg cs)↔∃ cs,d=.agg cs) (h6:(∀ f cs,d≠.fn f cs)∧∀ ds,d≠.aR ds):oN w S true d d1 u a:=by
  cases d1<;>first | exact ⟨h1,h2,h3,h4,h5,h6⟩ | exact absurd rfl (hn _)
theorem pN {t:T} {w:World} {X:Bool→Nat→Prop} (hs:aZ w X t):(∀ cs,t.er≠.aM cs)∧(∀ cs,t.er≠.agg cs)∧(∀ cs,t.er≠.aR cs):=by
  cases t with
  | own s n cap a xs=>simp [T.er]
  | v d u=>
    simp only [aZ] at hs
    simp only [T.er]
    refine ⟨fun cs e=>?_,fun cs e=>?_,fun cs e=>?_⟩<;>(rw [e] at hs; simp [Ext] at hs)
section
variable {C:Ctx} {w:World} {aB:List (Array Value)}
theorem I3 {H:List T} {st st':St} {S:List (Nat × RT)} {d d':D} {u:Value} (h:Rel C H w st aB S) (hd:bZ w (ad C w S H) S d u) (ht:Af st d=some (d',st')):
    ∃ (a:Arg) (S':List (Nat × RT)),Rel C (a.2++H) w st' aB S'∧oN w S' true d d' u a∧gB C w w S S' H (a.2++H) id∧iG S S'∧ky st st'∧∀ b,a.1=some b→∀ r0,lk S r0≠some ⟨some b,[]⟩:=by
  by_cases hp:∃ r,d=.ptr r [] 0
  · obtain ⟨r,rfl⟩:=hp
    simp only [Af] at ht
    split at ht
    case h_2=>simp at ht
    rename_i XQ aE df
    simp only [Option.some.injEq,Prod.mk.injEq] at ht
    obtain ⟨rfl,rfl⟩:=ht
    cases hR:lk S r with
    | none=>simp [N8,h.rt r,hR] at df
    | some R=>
      have qv:∀ R,lk S r=some R→(([]:List Nat)=[]→R.box.isSome)∧∀ b off,bI R.box R.cs []=some (b,off)→u=.pointer (some ⟨b,off+0,none⟩):=hd
      obtain ⟨h1,h2⟩:=qv R hR
      obtain ⟨b,hb⟩:=Option.isSome_iff_exists.1 (h1 rfl)
      obtain ⟨ts,S',a1,a2,a3,a4,a5,a6,a7,a8⟩:=XP h hR hb df
      refine ⟨(some b,ts),S',a1,⟨r,b,rfl,rfl,a4,a3,a2.symm,by have:=h2 b 0 (by simp [bI,hb]); simpa using this,a5⟩,a6,a7,a8,fun b' e r0 LG=>?_⟩
      simp only [Option.some.injEq] at e
      subst e
      have:=vY (List.nodup_append.1 h.mem.nd).1 hR hb LG (by simp [RT.ft])
      subst this
      rw [hR,Option.some.injEq] at LG
      subst LG
      simp [N8,h.rt _,hR,aP] at df
  · have hp:∀ r,d≠.ptr r [] 0:=fun r e=>hp ⟨r,e⟩
    by_cases ha:∃ cs,d=.agg cs
    · obtain ⟨cs,rfl⟩:=ha
      simp only [Af] at ht
      split at ht
      case h_2=>simp at ht
      rename_i XQ aE df
      simp only [Option.some.injEq,Prod.mk.injEq] at ht
      obtain ⟨rfl,rfl⟩:=ht
      obtain ⟨ts,S',a1,a2,a3,a4,a5,a6⟩:=oK h hd (d:=.agg cs) df
      obtain ⟨us,rfl,_⟩:=hd
      exact ⟨(none,ts),S',a1,Au (by simp) rfl ⟨a2.symm,us,rfl,by rw [a3]; rfl⟩ a3 hp (by simp) (by simp),a4,a5.e,a6,by simp⟩
    · have df:iv st d=some (d',st'):=by
        unfold Af at ht
        split at ht
        · exact absurd ⟨_,rfl⟩ ha
        · exact absurd rfl (hp _)
        · exact ht
      have cx:cellsOf d=[d]:=by cases d<;>first | rfl | exact absurd ⟨_,rfl⟩ ha
      obtain ⟨ts,S',a1,a2,a3,a4,a5,a6⟩:=oK h hd (ds':=[d']) (st':=st') (by rw [cx]; simp only [pd,df])
      have hv:gi d u=[u]:=by cases d<;>first | rfl | exact absurd ⟨_,rfl⟩ ha
      rw [hv] at a3
      obtain ⟨t,rfl⟩:∃ t,ts=[t]:=by
        match ts,a2 with
        | [t],_=>exact ⟨t,rfl⟩
      simp only [aP,List.cons.injEq,and_true] at a2
      simp only [ay,List.cons.injEq,and_true] at a3
      subst a2
      have hs:=pN (fo (o:=0) a1.mem.hand (t:=t) rfl)
      refine ⟨(none,[t]),S',a1,Au hs.1 rfl ?_ (by rw [hv]; simp [ay,a3]) hp ?_ ⟨fun f cs e=>by rw [e] at df; simp [iv] at df,fun ds e=>by rw [e] at df; simp [iv] at df⟩,a4,a5.e,a6,by simp⟩
      · have:∀ d1,(∀ cs,d1≠.agg cs)→d1=t.er→fb d1 u [t]:=fun d1 hn e=>by
          cases d1<;>first | exact ⟨t,rfl,e,a3.symm⟩ | exact absurd rfl (hn _)
        exact this _ hs.2.1 rfl
      · exact ⟨fun ⟨cs,e⟩=>absurd e (hs.2.1 cs),fun ⟨cs,e⟩=>absurd ⟨cs,e⟩ ha⟩
theorem CA:∀ {b:List Bool} {ds fJ:List D} {us:List Value} {H:List T} {st st':St} {S:List (Nat × RT)},Rel C H w st aB S→bO (bZ w (ad C w S H) S) ds us→lx st b ds=some (fJ,st')→
    ∃ (as9:List Arg) (S':List (Nat × RT)),Rel C (cz as9++H) w st' aB S'∧qB w S' b ds fJ us as9∧gB C w w S S' H (cz as9++H) id∧iG S S'∧ky st st'∧(as9.filterMap Prod.fst).Nodup∧∀ r bk,lk S r=some ⟨some bk,[]⟩→bk∉as9.filterMap Prod.fst:=by
  intro b ds
  induction ds generalizing b with
  | nil=>
    intro fJ us H st st' S h hu hc
    cases hu
    simp only [lx,Option.some.injEq,Prod.mk.injEq] at hc
    obtain ⟨rfl,rfl⟩:=hc
    exact ⟨[],S,h,⟨rfl,rfl,rfl⟩,fun _ _ h=>h,iG.refl _,ky.refl _,by simp,by simp⟩
  | cons d ds ih=>
    intro fJ us H st st' S h hu hc
    cases hu with
    | cons qy Al=>
    rename_i u us
    simp only [lx] at hc
    split at hc
    case h_2=>simp at hc
    rename_i d1 aE h1
    split at hc
    case h_2=>simp at hc
    rename_i rn bS h2
    simp only [Option.some.injEq,Prod.mk.injEq] at hc
    obtain ⟨rfl,rfl⟩:=hc
    obtain ⟨a,S1,a1,a2,a3,a4,a5,a6⟩:∃ (a:Arg) (S':List (Nat × RT)),Rel C (a.2++H) w aE aB S'∧oN w S' (b.headD false) d d1 u a∧gB C w w S S' H (a.2++H) id∧iG S S'∧ky st aE∧∀ b,a.1=some b→∀ r0,lk S r0≠some ⟨some b,[]⟩:=by
      cases hb:b.headD false with
      | false=>
        rw [hb] at h1
        simp only [Bool.false_eq_true,if_false,Option.some.injEq,Prod.mk.injEq] at h1
        obtain ⟨rfl,rfl⟩:=h1
        exact ⟨(none,[]),S,h,⟨rfl,rfl⟩,fun _ _ h=>h,iG.refl _,ky.refl _,by simp⟩
      | true=>
        rw [hb] at h1
        exact I3 h qy (by simpa using h1)
    obtain ⟨as9,S2,b1,b2,b3,b4,b5,b6,b7⟩:=ih a1 (Al.mono (fun _ _ hh=>nV a3 hh)) h2
    refine ⟨a::as9,S2,?_,⟨_,_,_,_,_,_,rfl,rfl,rfl,a2.Fo b4,b2⟩,fun d u hd=>?_,a4.trans b4,ky.trans a5 b5,?_,fun r bk hr=>?_⟩
    · rw [oO,List.append_assoc]; exact b1
    · rw [oO,List.append_assoc]; exact b3 d u (a3 d u hd)
    · cases ha:a.1 with
      | none=>simpa [ha] using b6
      | some bk=>
        simp only [List.filterMap_cons,ha,List.nodup_cons]
        refine ⟨?_,b6⟩
        cases hb:b.headD false with
        | false=>rw [hb] at a2; obtain ⟨rfl,_⟩:=a2; simp at ha
        | true=>
          rw [hb] at a2
          cases d1 with
          | aM cs=>
            obtain ⟨r,I4,_,e2,e3,_⟩:=a2
            rw [ha,Option.some.injEq] at e2
            subst e2
            exact b7 r bk e3
          | _=>rw [a2.1] at ha; simp at ha
    · cases ha:a.1 with
      | none=>simp only [List.filterMap_cons,ha]; exact b7 r bk (a4.empty hr)
      | some I4=>
        simp only [List.filterMap_cons,ha,List.mem_cons,not_or]
        exact ⟨fun e=>a6 I4 ha r (e▸hr),b7 r bk (a4.empty hr)⟩
end
end Go.Proofs.Ytockoilcnmljiaa
namespace Go.Proofs.Ytockoilcnmljiaa
theorem ui {α β γ:Type} {f:α→Option β} {R:α→γ→Prop} {R':β→γ→Prop}:∀ {as9:List α} {bs:List β} {cs:List γ},bO R as9 cs→j6 f as9=some bs→(∀ a b c,R a c→f a=some b→R' b c)→bO R' bs cs
  | [],bs,cs,h,hm,_=>by
    cases h
    simp only [j6,Option.some.injEq] at hm
    subst hm
    exact .nil
  | a::as9,bs,cs,h,hm,hr=>by
    cases h with
    | cons h1 h2=>
    simp only [j6] at hm
    split at hm
    case h_2=>simp at hm
    rename_i b hb
    split at hm
    case h_2=>simp at hm
    rename_i TL Fz
    simp only [Option.some.injEq] at hm
    subst hm
    exact .cons (hr _ _ _ h1 hb) (ui h2 Fz hr)
section
variable {C:Ctx} {H:List T} {w:World} {st:St} {aB:List (Array Value)} {S:List (Nat × RT)} (h:Rel C H w st aB S) {X':Bool→Nat→Prop} (hX:∀ b k,ad C w S H b k→X' b k)
  (hF:∀ r R k,lk S r=some R→R.cs≠[]→k∈R.ft→X' true k)
include h hX hF
theorem I5 {d d':D} {u:Value} (hd:aQ w (ad C w S H) S d u) (he:rm st d=some d'):Ext w X' d' u:=by
  cases d with
  | int k n=>simp only [rm,Option.some.injEq] at he; subst he; exact hd
  | bool b=>simp only [rm,Option.some.injEq] at he; subst he; exact hd
  | str s=>simp only [rm,Option.some.injEq] at he; subst he; exact hd
  | nil s=>simp only [rm,Option.some.injEq] at he; subst he; exact hd
  | undef=>simp only [rm,Option.some.injEq] at he; subst he; simp [Ext]
  | hole s n=>simp only [rm,Option.some.injEq] at he; subst he; simp [Ext]
  | sl g s n cs=>
    simp only [rm,Option.some.injEq] at he
    subst he
    cases g with
    | none=>simp [aQ,Ext] at hd
    | some g=>exact rS hX _ _ hd
  | ref r q o x=>
    simp only [rm] at he
    split at he
    case h_2=>simp at he
    rename_i g s n cs hc
    simp only [Option.some.injEq] at he
    subst he
    obtain ⟨R,l,t,h1,h2,h3,h4,h5⟩:=hM h.rt hc
    refine zr hX true h5.symm (qu h.mem h1 h2 h3 h5.symm) (fun k hk=>hF r R k h1 ?_ ?_) (hd t h4)
    · intro e
      rw [e] at h2
      cases q with
      | nil=>simp only [au,Option.some.injEq] at h2; subst h2; simp at h3
      | cons p q=>simp [au] at h2
    · have:k∈ae l:=zx (List.mem_of_getElem? h3) hk
      have:=Fv h2 this
      simp [RT.ft,this]
  | _=>simp [rm] at he
theorem OU {b:Bool} {t:T} {d':D} (hc:ix w (ad C w S H) S b t) (hf:∀ k∈t.ft,X' true k) (he:rm st t.er=some d'):Ext w X' d' t.val:=by
  cases t with
  | v d u=>
    have:aQ w (ad C w S H) S (bj d) u:=by
      rcases hc with hc | ⟨_,hc⟩
      · exact fF hc
      · exact hc
    exact I5 h hX hF this he
  | own s n cap a cs=>
    simp only [T.er,rm,Option.some.injEq] at he
    subst he
    exact vO hX true (.own s n cap a cs) hc hf
theorem lp {d d':D} {u:Value} (hd:aQ w (ad C w S H) S d u) (he:Ls st d=some d') (S':List (Nat × RT)):aQ w X' S' d' u:=by
  cases d with
  | dt cs o=>
    simp only [Ls,Option.some.injEq] at he
    subst he
    obtain ⟨b,off,c,e,fz,us,h1,h2,h3,h4,h5⟩:=hd
    exact ⟨b,off,c,e,fz,us,h1,hX true b h2,h3,qt (fun b k hk=>⟨hX b k hk,rfl⟩) cs us h4,h5⟩
  | ptr r q o=>
    simp only [Ls] at he
    split at he
    case h_2=>simp at he
    rename_i c cs eh
    split at he
    case h_2=>simp at he
    rename_i cs' hm
    simp only [Option.some.injEq] at he
    subst he
    obtain ⟨R,l,h1,h2,h3⟩:=sm st S h.rt eh
    have hl:l≠[]:=fun e=>by rw [e] at h3; simp [aP] at h3
    obtain ⟨p1,p2⟩:=hd R h1
    obtain ⟨b,off,eR,a1,a2,a3,a4⟩:=oD h.mem h1 h2 hl p1
    have hR:R.cs≠[]:=fun e=>by
      rw [e] at h2
      cases q with
      | nil=>simp only [au,Option.some.injEq] at h2; exact hl h2.symm
      | cons p q=>simp [au] at h2
    have hb:b∈R.ft:=by
      cases q with
      | nil=>
        simp only [bI] at a1
        cases hx:R.box with
        | none=>simp [hx] at a1
        | some b'=>simp only [hx,Option.map_some,Option.some.injEq,Prod.mk.injEq] at a1; simp [RT.ft,hx,a1.1]
      | cons p q=>simp [RT.ft,pF a1]
    obtain ⟨cc,e,fz,b1,b2,b3,b4⟩:=a2
    refine ⟨b,off,cc,e,fz,ay l,p2 b off a1,hF r R b h1 hR hb,b1,(gu _ _).2 ?_,b4⟩
    have dJ:bO (fun d u=>∃ t bx,d=t.er∧u=t.val∧ix w (ad C w S H) S bx t∧∀ k∈t.ft,X' true k) (c::cs) (ay l):=by
      rw [h3]
      refine cV (by simp [eS,bw]) (fun i x y hx hy=>?_)
      rw [gL] at hx
      rw [eQ] at hy
      cases hi:l[i]? with
      | none=>simp [hi] at hx
      | some t=>
        simp only [hi,Option.map_some,Option.some.injEq] at hx hy
        have cQ:∀ k∈t.ft,X' true k:=fun k hk=>hF r R k h1 hR (by
          have:=Fv h2 (zx (List.mem_of_getElem? hi) hk)
          simp [RT.ft,this])
        cases q with
        | nil=>
          simp only [au,Option.some.injEq] at h2
          subst h2
          exact ⟨t,R.box.isSome,hx.symm,hy.symm,(h.mem.root r R h1).2 t (List.mem_of_getElem? hi),cQ⟩
        | cons p q=>
          have:=fo (a4 (by simp)) hi
          refine ⟨t,true,hx.symm,hy.symm,?_,cQ⟩
          cases t with
          | v d u=>exact .inl this
          | own s n cap a cs=>exact this
    exact ui dJ hm (fun a b c ⟨t,bx,e1,e2,e3,e4⟩ he=>by
      subst e1; subst e2
      exact OU h hX hF e3 e4 he)
  | _=>exact fF (I5 h hX hF hd he)
theorem XR {d d':D} {u:Value} (hd:bZ w (ad C w S H) S d u) (he:N7 st d=some d') (S':List (Nat × RT)):gg w X' S' d' u:=by
  cases d with
  | agg cs=>
    simp only [N7] at he
    split at he
    case h_2=>simp at he
    rename_i cs' hm
    simp only [Option.some.injEq] at he
    subst he
    obtain ⟨us,rfl,hu⟩:=hd
    exact ⟨us,rfl,ui hu hm (fun a b c h1 h2=>fF (I5 h hX hF h1 h2))⟩
  | fn f cs=>
    simp only [N7] at he
    split at he
    case h_2=>simp at he
    rename_i cs' hm
    simp only [Option.some.injEq] at he
    subst he
    obtain ⟨us,rfl,hu⟩:=hd
    exact ⟨us,rfl,ui hu hm (fun a b c h1 h2=>lp h hX hF h1 h2 S')⟩
  | aR ds=>simp [N7,Ls,rm] at he
  | int k n=>exact dT (lp h hX hF (d:=.int k n) hd he S')
  | bool b=>exact dT (lp h hX hF (d:=.bool b) hd he S')
  | str s=>exact dT (lp h hX hF (d:=.str s) hd he S')
  | sl g s n cs=>exact dT (lp h hX hF (d:=.sl g s n cs) hd he S')
  | ref r q o x=>exact dT (lp h hX hF (d:=.ref r q o x) hd he S')
  | nil s=>exact dT (lp h hX hF (d:=.nil s) hd he S')
  | ptr r q o=>exact dT (lp h hX hF (d:=.ptr r q o) hd he S')
  | dt cs o=>exact dT (lp h hX hF (d:=.dt cs o) hd he S')
  | aM cs=>exact dT (lp h hX hF (d:=.aM cs) hd he S')
  | hole s n=>exact dT (lp h hX hF (d:=.hole s n) hd he S')
  | undef =>exact dT (lp h hX hF (d:=.undef) hd he S')
end
end Go.Proofs.Ytockoilcnmljiaa
namespace Go.Proofs.Ytockoilcnmljiaa
def zA (a:Arg):List Nat:=a.1.toList++ae a.2
def aX:List Arg→List Nat
  | []=>[]
  | a::as9=>zA a++aX as9
def re (w:World) (X:Bool→Nat→Prop):List Bool→List D→List Value→List Arg→Prop
  | _,[],us,as9=>us=[]∧as9=[]
  | b,d::ds,us,as9=>∃ u jq a bX,us=u::jq∧as9=a::bX∧FB w X (b.headD false) d u a∧re w X b.tail ds jq bX
def Lk (w:World) (F:List Nat) (Y:Nat→Prop) (b:Bool) (k:Nat):Prop:=k < w.heap.size∧k∉F∧(b=false→Y k)
structure kC (w:World) (Y:Nat→Prop) (own:List Bool) (ds:List D) (us:List Value) (as9:List Arg):Prop where
  args:re w (Lk w (aX as9) Y) own ds us as9
  nd:(aX as9).Nodup
  lt:∀ k∈aX as9,k < w.heap.size
  sat:∀ a∈as9,ba w (Lk w (aX as9) Y) a.2
def pO (b:Nat) (ts:List T):T:=.own ts.length 1 1 (some (b,0)) ts
def qC:List D→List Value→List T→Prop
  | [],us,ts=>us=[]∧ts=[]
  | d::ds,us,ts=>∃ u jq t1 t2,us=u::jq∧ts=t1++t2∧fb d u t1∧qC ds jq t2
def FC:D→Value→List T→Prop
  | .aM cs,v,ts=>∃ b LJ,ts=[pO b LJ]∧cs=aP LJ∧v=.pointer (some ⟨b,0,none⟩)
  | .aR ds,v,ts=>∃ us,v=.tuple us∧qC ds us.toList ts
  | d,v,ts=>fb d v ts
def mN (w':World):Bool→D→Arg→Arg→Prop
  | false,_,_,a'=>a'=(none,[])
  | true,.aM cs,a,a'=>a'.1=a.1∧(∃ b,a.1=some b∧ka w' b 0 a'.2.length (ay a'.2))∧cs=aP a'.2
  | true,.agg cs,a,a'=>a.1=none∧a'.1=none∧cs=aP a'.2∧ay a'.2=ay a.2
  | true,d,a,a'=>a.1=none∧a'.1=none∧((a'.2=[]∧∀ s n cs,d≠.sl none s n cs)∨∃ t,a'.2=[t]∧d=t.er∧ay [t]=ay a.2)
def kV (w':World):List Bool→List D→List Arg→List Arg→Prop
  | _,os,[],bX=>os=[]∧bX=[]
  | b,os,a::as9,bX=>∃ o u3 a' I6,os=o::u3∧bX=a'::I6∧mN w' (b.headD false) o a a'∧kV w' b.tail u3 as9 I6
structure gN (w w':World) (Y:Nat→Prop) (own:List Bool) (as9:List Arg) (r:D) (outs:List D) (v:Value):Prop where
  sz:w.heap.size≤w'.heap.size
  bQ:∀ k,k < w.heap.size→k∉aX as9→w'.heap[k]?=w.heap[k]?
  os:w'.os=w.os
  tape:w'.tape=w.tape
  out:w'.output=w.output
  res:∃ (eI:List T) (bX:List Arg),FC r v eI∧kV w' own outs as9 bX∧(ae eI++aX bX).Nodup∧(∀ k∈ae eI++aX bX,k < w'.heap.size∧(k∈aX as9∨w.heap.size≤k))∧
    ba w' (fun b k=>Lk w' (ae eI++aX bX) (fun k=>Y k∨k∈aX as9∨w.heap.size≤k) b k) eI∧
    ∀ a∈bX,ba w' (fun b k=>Lk w' (ae eI++aX bX) (fun k=>Y k∨k∈aX as9∨w.heap.size≤k) b k) a.2
def rf (P : Program) (f : FuncId) : Prop := ∃ fn, P.funcs[f]? = some fn ∧ (fn.name == "runtime.NumGoroutine") = false ∧ fn.body.isNone = false
def j9 (P:Program) (own:FuncId→List Bool) (cl:FuncId→List D→Option (D × List D)):Prop:=
  ∀ f ds r outs,cl f ds=some (r,outs)→rf P f∧∀ (w:World) (Y:Nat→Prop) (us:Array Value) (as9:List Arg),kC w Y (own f) ds us.toList as9→dA r=true→(∀ o∈outs,dA o=true)→
    Calls P f us w fun e w'=>∃ v,e=.returned v∧gN w w' Y (own f) as9 r outs v
def kh (h:D→D):Prop:=∀ x,h x=x∨h x=.undef
theorem RF:kh id:=fun _=>.inl rfl
theorem KW (r:Nat) (q:List Nat) (o:Nat) (e:Bool):kh (cb r q o e):=fun x=>by
  unfold cb
  split
  · split
    · split
      · exact .inl rfl
      · split
        · exact .inr rfl
        · exact .inl rfl
      · exact .inr rfl
    · exact .inl rfl
  · split
    · split
      · exact .inl rfl
      · exact .inr rfl
    · exact .inl rfl
  · exact .inl rfl
theorem KX (r:Nat):kh (dY r):=fun x=>by
  unfold dY
  split
  · split
    · exact .inr rfl
    · exact .inl rfl
  · split
    · exact .inr rfl
    · exact .inl rfl
  · exact .inl rfl
theorem kh.comp {f g:D→D} (hf:kh f) (hg:kh g) (h0:f .undef=.undef):kh (fun x=>f (g x)):=fun x=>by
  rcases hg x with e | e
  · show f (g x)=x∨f (g x)=.undef
    rw [e]; exact hf x
  · right; show f (g x)=_; rw [e,h0]
section
variable {C:Ctx} {w:World} {aB:List (Array Value)}
theorem nZ {H Hs:List T} {st:St} {S:List (Nat × RT)} (h:Rel C (Hs++H) w st aB S):Rel C H w st aB S∧gB C w w S S (Hs++H) H id:=by
  have ec:∀ k∈cr S++ae H,k∈cr S++ae (Hs++H):=fun k hk=>by
    rw [aO]
    rcases List.mem_append.1 hk with h | h<;>simp [h]
  have hX:∀ b k,ad C w S (Hs++H) b k→ad C w S H b k:=iP ec
  have ch:iE w w (ad C w S (Hs++H)) (ad C w S H):=fun b k hk=>⟨hX b k hk,rfl⟩
  have dH:gB C w w S S (Hs++H) H id:=fun d u hd=>mc ch hd
  refine ⟨h.pH h.rt rfl rfl dH ⟨?_,?_,fp hX _ ((dv _ _).1 h.mem.hand).2,fun k hk=>h.mem.lt k (ec k hk)⟩ ⟨h.kept.os,h.kept.tape,h.kept.output,h.kept.size,h.kept.block,fun k hk=>h.kept.gT k (ec k hk),h.kept.par⟩,dH⟩
  · refine List.Nodup.sublist ?_ h.mem.nd
    rw [aO]
    exact List.Sublist.append (List.Sublist.refl _) (List.sublist_append_right _ _)
  · intro r R hr
    obtain ⟨k1,k2⟩:=h.mem.root r R hr
    refine ⟨k1,fun t ht=>?_⟩
    have:=k2 t ht
    cases t with
    | v d u=>
      rcases this with this | ⟨hb,this⟩
      · exact .inl (rS hX _ _ this)
      · exact .inr ⟨hb,dH _ _ this⟩
    | own s n cap a xs=>exact du ch _ this (fun _ _=>rfl)
structure jF (C:Ctx) (w:World) (st st':St) (S S':List (Nat × RT)) (H H':List T) (h0 h1:D→D):Prop where
  MZ:∀ d u,aQ w (ad C w S H) S (h0 d) u→aQ w (ad C w S' H') S' (h1 d) u
  Ue:kh h1
  Fo:lH S S'
  of:st'.of=st.of
theorem jF.trans {st aE bS:St} {S S1 S2:List (Nat × RT)} {H H1 H2:List T} {h0 h1 h2:D→D} (a:jF C w st aE S S1 H H1 h0 h1) (b:jF C w aE bS S1 S2 H1 H2 h1 h2):jF C w st bS S S2 H H2 h0 h2:=
  ⟨fun d u hd=>b.MZ d u (a.MZ d u hd),b.Ue,a.Fo.trans b.Fo,b.of.trans a.of⟩
theorem jF.drop {st:St} {S:List (Nat × RT)} {H Hs:List T} {h0:D→D} (h:Rel C (Hs++H) w st aB S) (hk:kh h0):jF C w st st S S (Hs++H) H h0 h0:=
  ⟨fun d u hd=>(nZ h).2 _ _ hd,hk,lH.refl _,rfl⟩
theorem I7:∀ {as9:List D} {ts:List T} {H:List T} {st st':St} {S:List (Nat × RT)} {h0 h1:D→D},Rel C (ts++H) w st aB S→kh h0→bO (fun a u=>aQ w (ad C w S (ts++H)) S (h0 a) u) as9 (ay ts)→nx st h0 as9 (aP ts)=some (st',h1)→
    ∃ S',Rel C H w st' aB S'∧jF C w st st' S S' (ts++H) H h0 h1:=by
  intro as9
  induction as9 with
  | nil=>
    intro ts H st st' S h0 h1 h hk ha hb
    have yf:ts=[]:=by
      cases ts with
      | nil=>rfl
      | cons t ts=>simp only [ay] at ha; cases ha
    subst yf
    simp only [nx,Option.some.injEq,Prod.mk.injEq] at hb
    obtain ⟨rfl,rfl⟩:=hb
    exact ⟨S,h,⟨fun _ _ h=>h,hk,lH.refl _,rfl⟩⟩
  | cons a as9 ih=>
    intro ts H st st' S h0 h1 h hk ha hb
    cases ts with
    | nil=>simp only [ay] at ha; cases ha
    | cons t ts=>
      simp only [ay] at ha
      cases ha with
      | cons Cg Xj=>
      simp only [aP,nx] at hb
      split at hb
      · rename_i r q o s n cs e1 e2
        split at hb
        case h_2=>simp at hb
        rename_i s0 n0 cx
        split at hb
        case isFalse=>simp at hb
        rename_i IJ
        split at hb
        case h_2=>simp at hb
        rename_i aE ir
        rw [e1] at Cg
        rw [← e2] at ir
        obtain ⟨R,l,t0,g1,g2,g3,g4,g5⟩:=hM h.rt cx
        obtain ⟨d0,u0,rfl⟩:∃ d0 u0,t0=.v d0 u0:=by
          cases t0 with
          | v d0 u0=>exact ⟨d0,u0,rfl⟩
          | own s n cap a cs=>simp [T.er] at g5
        simp only [T.er] at g5
        have hu:=Cg _ g4
        simp only [ey,T.er,← g5,sn] at hu
        obtain ⟨S1,b1,b2,b3,b4,_,_⟩:=I2 (ex:=false) h g4 ⟨d0,u0,rfl,fun _=>by rw [← g5]; simp [eO,cb]⟩ (.inl ⟨hu,fun p hp=>by
          rw [e2] at hp
          simp only [sn,Option.some.injEq] at hp
          simp only [T.er,← g5,sn,Option.some.injEq]
          rw [IJ.1,IJ.2]; exact hp⟩) ir
        have hk1:kh (fun x=>cb r q o false (h0 x)):=kh.comp (KW r q o false) hk rfl
        obtain ⟨S2,c1,c2⟩:=ih b1 hk1 (Xj.mono (fun x u hx=>b2 _ _ hx)) hb
        exact ⟨S2,c1,jF.trans ⟨fun d u hd=>b2 _ _ hd,hk1,b4,b3⟩ c2⟩
      · have hd:=nZ (Hs:=[t]) h
        obtain ⟨S2,c1,c2⟩:=ih hd.1 hk (Xj.mono (fun x u hx=>hd.2 _ _ hx)) hb
        exact ⟨S2,c1,jF.trans (jF.drop (Hs:=[t]) h hk) c2⟩
def Uf (w:World) (X:Bool→Nat→Prop) (S:List (Nat × RT)) (h0:D→D) (d:D) (u:Value) (o:D) (a a':Arg):Prop:=
  bO (fun x v=>aQ w X S (h0 x) v) (cellsOf d) (gi d u)∧mN w true o a a'∧(a.1=none→ay a.2=gi d u∧∀ r,d≠.ptr r [] 0)∧∀ bx,a.1=some bx→∃ r R,d=.ptr r [] 0∧lk S r=some R∧R.box=some bx
theorem Av {H:List T} {st st':St} {S:List (Nat × RT)} {h0 h1:D→D} {ts:List T} {d o:D} (h:Rel C (ts++H) w st aB S) (hk:kh h0) (hn:∀ r q o' x s n cs,¬ (h0 d=.ref r q o' x∧o=.sl none s n cs)) (hb:nx st h0 [d] [o]=some (st',h1)):∃ S',Rel C H w st' aB S'∧jF C w st st' S S' (ts++H) H h0 h1:=by
  simp only [nx] at hb
  split at hb
  · rename_i r q o' s n cs e1
    exact absurd ⟨e1,rfl⟩ (hn r q o' none s n cs)
  · simp only [Option.some.injEq,Prod.mk.injEq] at hb
    obtain ⟨rfl,rfl⟩:=hb
    exact ⟨S,(nZ h).1,jF.drop h hk⟩
theorem RG {H:List T} {st st':St} {S:List (Nat × RT)} {h0 h1:D→D} {d o:D} {u:Value} {a a':Arg} (h:Rel C (a'.2++H) w st aB S) (hk:kh h0) (ha:Uf w (ad C w S (a'.2++H)) S h0 d u o a a') (hb:zm st h0 d o=some (st',h1)):
    ∃ S',Rel C H w st' aB S'∧jF C w st st' S S' (a'.2++H) H h0 h1:=by
  obtain ⟨mY,h2,h3,h4⟩:=ha
  unfold zm at hb
  split at hb
  · rename_i cs ds
    obtain ⟨e1,e2,e3,e4⟩:=h2
    subst e3
    exact I7 h hk (by rw [e4,(h3 e1).1]; exact mY) hb
  · rename_i r ds
    obtain ⟨e1,⟨b,e2,e3⟩,e4⟩:=h2
    split at hb
    case h_2=>simp at hb
    rename_i fA
    simp only [Option.some.injEq,Prod.mk.injEq] at hb
    obtain ⟨rfl,rfl⟩:=hb
    obtain ⟨r',R,g1,g2,g3⟩:=h4 b e2
    simp only [D.ptr.injEq,and_true] at g1
    subst g1
    rw [h.rt,g2] at fA
    simp only [Option.map_some,Option.some.injEq] at fA
    have eh:R.cs=[]:=List.length_eq_zero_iff.1 (by rw [← eS,fA]; rfl)
    obtain ⟨c1,c2,c3⟩:=RE h (r:=r) (b:=b) (by rw [g2]; cases R; simp only at g3 eh; rw [g3,eh]) e3
    subst e4
    exact ⟨_,c1,⟨fun d u hd=>c2 _ _ hd,kh.comp (KX r) hk rfl,c3,rfl⟩⟩
  · rename_i XS hnp
    by_cases dV:∃ cs,d=.agg cs
    · obtain ⟨cs,rfl⟩:=dV
      refine Av h hk (fun r q o' x s n cs' hh=>?_) hb
      rcases hk (.agg cs) with e | e<;>rw [e] at hh<;>simp at hh
    have cx:cellsOf d=[d]:=by cases d<;>first | rfl | exact absurd ⟨_,rfl⟩ dV
    have yd:gi d u=[u]:=by cases d<;>first | rfl | exact absurd ⟨_,rfl⟩ dV
    by_cases fR:∃ s n cs,o=.sl none s n cs
    · obtain ⟨s,n,cs,rfl⟩:=fR
      obtain ⟨e1,e2,e3⟩:=h2
      rcases e3 with ⟨_,e3⟩ | ⟨t,e3,e4,e5⟩
      · exact absurd rfl (e3 s n cs)
      · rw [e3] at h mY ⊢
        rw [e4] at hb
        refine I7 (as9:=[d]) (ts:=[t]) h hk ?_ (by simpa [aP] using hb)
        rw [e5,(h3 e1).1,yd]
        rw [cx,yd] at mY
        exact mY
    · exact Av h hk (fun r q o' x s n cs' hh=>fR ⟨s,n,cs',hh.2⟩) hb
def u4 (w:World) (X:Bool→Nat→Prop) (S:List (Nat × RT)) (h0:D→D):List Bool→List D→List Value→List D→List Arg→List Arg→Prop
  | _,[],us,os,as9,bX=>us=[]∧os=[]∧as9=[]∧bX=[]
  | b,d::ds,us,os,as9,bX=>∃ u FD o oa a yk a' ym,us=u::FD∧os=o::oa∧as9=a::yk∧bX=a'::ym∧(if b.headD false then Uf w X S h0 d u o a a' else a'=(none,[]))∧u4 w X S h0 b.tail ds FD oa yk ym
theorem u4.step {X X':Bool→Nat→Prop} {S S':List (Nat × RT)} {h0 h1:D→D} (ht:∀ d u,aQ w X S (h0 d) u→aQ w X' S' (h1 d) u) (hd:lH S S'):∀ {b:List Bool} {ds:List D} {us:List Value} {os:List D} {as9 bX:List Arg},u4 w X S h0 b ds us os as9 bX→u4 w X' S' h1 b ds us os as9 bX
  | _,[],_,_,_,_,h=>h
  | b,d::ds,us,os,as9,bX,h=>by
    obtain ⟨u,FD,o,oa,a,yk,a',ym,e1,e2,e3,e4,e5,e6⟩:=h
    refine ⟨u,FD,o,oa,a,yk,a',ym,e1,e2,e3,e4,?_,e6.step ht hd⟩
    split
    · rename_i hb
      rw [if_pos hb] at e5
      obtain ⟨k1,k2,k3,k4⟩:=e5
      refine ⟨k1.mono (fun x v hx=>ht _ _ hx),k2,k3,fun bx sw=>?_⟩
      obtain ⟨r,R,g1,g2,g3⟩:=k4 bx sw
      obtain ⟨R',g4,g5⟩:=hd r R g2
      exact ⟨r,R',g1,g4,g5.trans g3⟩
    · rename_i hb
      rw [if_neg hb] at e5
      exact e5
def cI (as9:List Arg):List T:=(as9.map Prod.snd).flatten
theorem KY:∀ {ds:List D} {b:List Bool} {us:List Value} {os:List D} {as9 bX:List Arg} {H:List T} {st st':St} {S:List (Nat × RT)} {h0:D→D},Rel C (cI bX++H) w st aB S→kh h0→u4 w (ad C w S (cI bX++H)) S h0 b ds us os as9 bX→gJ st h0 b ds os=some st'→
    ∃ S' h1,Rel C H w st' aB S'∧jF C w st st' S S' (cI bX++H) H h0 h1:=by
  intro ds
  induction ds with
  | nil=>
    intro b us os as9 bX H st st' S h0 h hk ha hb
    obtain ⟨rfl,rfl,rfl,rfl⟩:=ha
    simp only [gJ,Option.some.injEq] at hb
    subst hb
    exact ⟨S,h0,h,⟨fun _ _ h=>h,hk,lH.refl _,rfl⟩⟩
  | cons d ds ih=>
    intro b us os as9 bX H st st' S h0 h hk ha hb
    obtain ⟨u,FD,o,oa,a,yk,a',ym,rfl,rfl,rfl,rfl,e5,e6⟩:=ha
    have hh:cI (a'::ym)++H=a'.2++(cI ym++H):=by simp [cI]
    rw [hh] at h e5 e6 ⊢
    simp only [gJ] at hb
    split at hb
    · rename_i qA
      rw [if_pos qA] at e5
      split at hb
      case h_2=>simp at hb
      rename_i aE h1 Ak
      obtain ⟨S1,c1,c2⟩:=RG h hk e5 Ak
      obtain ⟨S2,h2,d1,d2⟩:=ih c1 c2.Ue (e6.step c2.MZ c2.Fo) hb
      exact ⟨S2,h2,d1,c2.trans d2⟩
    · rename_i qA
      rw [if_neg qA] at e5
      subst e5
      have hd:=nZ (Hs:=[]) (H:=cI ym++H) h
      obtain ⟨S2,h2,d1,d2⟩:=ih hd.1 hk e6 hb
      exact ⟨S2,h2,d1,d2⟩
end
end Go.Proofs.Ytockoilcnmljiaa
namespace Go.Proofs.Ytockoilcnmljiaa
def wS:D→List D
  | .agg cs=>cs
  | d=>[d]
theorem uj (ds:List D):cS (.aR ds)=ds.flatMap wS:=rfl
theorem nF {d:D} {v:Value} {ts:List T} (h:fb d v ts):aP ts=wS d:=by
  cases d<;>first | exact h.1.symm | (obtain ⟨t,rfl,h1,_⟩:=h; rw [h1]; simp [aP,wS,← h1])
theorem yn:∀ {ds:List D} {us:List Value} {ts:List T},qC ds us ts→aP ts=ds.flatMap wS
  | [],us,ts,h=>by obtain ⟨rfl,rfl⟩:=h; rfl
  | d::ds,us,ts,h=>by
    obtain ⟨u,jq,t1,t2,rfl,rfl,h1,h2⟩:=h
    rw [sj,nF h1,yn h2,List.flatMap_cons]
theorem pP {w:World} {X:Bool→Nat→Prop} {d:D} {v:Value} {ts:List T} (hs:ba w X ts) (h:fb d v ts):cS d=wS d:=by
  cases d with
  | aR ds=>
    obtain ⟨t,rfl,h1,_⟩:=h
    exact absurd h1.symm ((pN ((bU _).1 hs t (by simp))).2.2 ds)
  | _=>rfl
section
variable {C:Ctx} {w:World} {aB:List (Array Value)} {H:List T} {S:List (Nat × RT)}
theorem v7 (hm:Mem C w S H) {r:Nat} {R:RT} (hR:lk S r=some R) {d:D} {v:Value} {ts A B:List T} (hf:fb d v ts) (eh:R.cs=A++ts++B):gg w (ad C w S H) S (zj r A.length d) v:=by
  have lG:∀ (i:Nat) (t:T),ts[i]?=some t→R.cs[A.length+i]?=some t:=fun i t hi=>by
    have cR:=(List.getElem?_eq_some_iff.1 hi).1
    rw [eh,List.append_assoc,List.getElem?_append_right (by omega),List.getElem?_append_left (by omega)]
    rw [← hi]; congr 1; omega
  by_cases ha:∃ cs,d=.agg cs
  · obtain ⟨cs,rfl⟩:=ha
    obtain ⟨rfl,us,rfl,hu⟩:=hf
    refine ⟨us,rfl,cV (by rw [nT,eS,hu,bw]) (fun i x y hx hy=>?_)⟩
    rw [lZ,gL] at hx
    rw [hu,eQ] at hy
    cases hi:ts[i]? with
    | none=>simp [hi] at hx
    | some t=>
      simp only [hi,Option.map_some,Option.some.injEq] at hx hy
      subst hx; subst hy
      exact nR hm hR rfl (lG i t hi)
  · have hv:zj r A.length d=fW r [] A.length d:=by cases d<;>first | rfl | exact absurd ⟨_,rfl⟩ ha
    have OV:∃ t,ts=[t]∧d=t.er∧v=t.val:=by cases d<;>first | exact hf | exact absurd ⟨_,rfl⟩ ha
    obtain ⟨t,rfl,rfl,rfl⟩:=OV
    rw [hv]
    exact dT (nR hm hR rfl (lG 0 t rfl))
theorem Aw (hm:Mem C w S H) {r:Nat} {R:RT} (hR:lk S r=some R) {X:Bool→Nat→Prop}:∀ {ds:List D} {us:List Value} {ts A B:List T},qC ds us ts→ba w X ts→R.cs=A++ts++B→bO (gg w (ad C w S H) S) (B4 r A.length ds) us
  | [],us,ts,A,B,h,_,_=>by obtain ⟨rfl,rfl⟩:=h; exact .nil
  | d::ds,us,ts,A,B,h,hs,eh=>by
    obtain ⟨u,jq,t1,t2,rfl,rfl,h1,h2⟩:=h
    rw [dv] at hs
    simp only [B4]
    refine .cons (v7 hm hR (B:=t2++B) h1 (by rw [eh]; simp)) ?_
    have hl:A.length+(cS d).length=(A++t1).length:=by rw [pP hs.1 h1,← nF h1,eS,List.length_append]
    rw [hl]
    exact Aw hm hR (B:=B) h2 hs.2 (by rw [eh]; simp)
theorem v8 {X:Bool→Nat→Prop} {d:D} {v:Value} {ts:List T} (hf:fb d v ts) (hs:ba w X ts) (mM:(wS d).any hI=false):gg w X S d v:=by
  have hl:∀ t∈ts,Ext w X t.er t.val:=fun t ht=>by
    have h1:=(bU _).1 hs t ht
    cases t with
    | v d u=>exact h1
    | own s n cap a cs=>
      rw [← nF hf] at mM
      have:=List.any_eq_false.1 mM (T.own s n cap a cs).er (by rw [eg]; exact List.mem_map.2 ⟨_,ht,rfl⟩)
      simp [T.er,hI] at this
  by_cases ha:∃ cs,d=.agg cs
  · obtain ⟨cs,rfl⟩:=ha
    obtain ⟨rfl,us,rfl,hu⟩:=hf
    refine ⟨us,rfl,cV (by rw [eS,hu,bw]) (fun i x y hx hy=>?_)⟩
    rw [gL] at hx
    rw [hu,eQ] at hy
    cases hi:ts[i]? with
    | none=>simp [hi] at hx
    | some t=>
      simp only [hi,Option.map_some,Option.some.injEq] at hx hy
      subst hx; subst hy
      exact fF (hl t (List.mem_of_getElem? hi))
  · have OV:∃ t,ts=[t]∧d=t.er∧v=t.val:=by cases d<;>first | exact hf | exact absurd ⟨_,rfl⟩ ha
    obtain ⟨t,rfl,rfl,rfl⟩:=OV
    exact dT (fF (hl t (by simp)))
theorem Ax {X:Bool→Nat→Prop}:∀ {ds:List D} {us:List Value} {ts:List T},qC ds us ts→ba w X ts→(ds.flatMap wS).any hI=false→bO (gg w X S) ds us
  | [],us,ts,h,_,_=>by obtain ⟨rfl,rfl⟩:=h; exact .nil
  | d::ds,us,ts,h,hs,mM=>by
    obtain ⟨u,jq,t1,t2,rfl,rfl,h1,h2⟩:=h
    rw [dv] at hs
    rw [List.flatMap_cons,List.any_append,Bool.or_eq_false_iff] at mM
    exact .cons (v8 h1 hs.1 mM.1) (Ax h2 hs.2 mM.2)
theorem RH {eI:List T} {st:St} {vs:Array Value} (h:Rel C (eI++H) w st (vs::aB) S) {r:D} {v:Value} (hr:FC r v eI) {t:Nat} (ht:t < vs.size) (hP:∀ p∈C.P0,p.1≠st.of+t):
    ∃ S',Rel C H w ((st.oA (st.of+t) r).1.put (some t) (st.oA (st.of+t) r).2) (vs.setIfInBounds t v::aB) S':=by
  have cY:=((dv _ _).1 h.mem.hand).1
  have XT:(ae eI).Nodup:=by
    have:=h.mem.nd
    rw [aO,List.nodup_append,List.nodup_append] at this
    exact this.2.1.1
  have XU:∀ k∈ae eI,k < w.heap.size:=fun k hk=>h.mem.lt k (by rw [aO]; simp [hk])
  by_cases hp:∃ cs,r=.aM cs
  · obtain ⟨cs,rfl⟩:=hp
    obtain ⟨b,ts,rfl,rfl,rfl⟩:=hr
    have hb:aZ w (ad C w S ([pO b ts]++H)) (pO b ts):=(bU _).1 cY _ (by simp)
    simp only [pO,aZ,Nat.one_mul] at hb
    obtain ⟨_,_,eF,fR⟩:=hb
    have ez:∀ k∈(RT.mk (some b) ts).ft,k∈ae [pO b ts]∨w.heap.size≤k:=fun k hk=>.inl (by simpa [RT.ft,ae,pO,T.ft,iw] using hk)
    have ch:=mI (r:=st.of+t) (R:=⟨some b,ts⟩) h ez (Nat.le_refl _) (fun _ _=>rfl)
    obtain ⟨h1,_⟩:=vR (r:=st.of+t) (R:=⟨some b,ts⟩) h ⟨eF,fun x hx=>by
        have:=(bU _).1 fR x hx
        have:=du ch x this (fun _ _=>rfl)
        cases x with
        | v d u=>exact .inl this
        | own s n cap a cs=>exact this⟩
      ⟨by simpa [RT.ft,ae,pO,T.ft,iw] using XT,ez⟩ (fun k hk=>XU k (by simpa [RT.ft,ae,pO,T.ft,iw] using hk)) (Nat.le_refl _) (fun _ _=>rfl) rfl rfl rfl hP
    refine ⟨_,h1.put ht ?_⟩
    intro R hR
    rw [cm,Option.some.injEq] at hR
    subst hR
    exact ⟨fun _=>rfl,fun b' off ha=>by simp only [bI,Option.map_some,Option.some.injEq,Prod.mk.injEq] at ha; obtain ⟨rfl,rfl⟩:=ha; rfl⟩
  · have qg:aP eI=cS r:=by
      by_cases iQ:∃ ds,r=.aR ds
      · obtain ⟨ds,rfl⟩:=iQ
        obtain ⟨us,rfl,hf⟩:=hr
        rw [uj]; exact yn hf
      · have hf:fb r v eI:=by cases r<;>first | exact hr | exact absurd ⟨_,rfl⟩ hp | exact absurd ⟨_,rfl⟩ iQ
        rw [pP cY hf]; exact nF hf
    have had:st.oA (st.of+t) r=if (cS r).any hI then ({ st.eG (cj (st.of+t)) with rt:=pz (st.eG (cj (st.of+t))).rt (st.of+t) (cS r) },zk (st.of+t) r) else (st,r):=by
      cases r<;>first | rfl | exact absurd ⟨_,rfl⟩ hp
    rw [had]
    by_cases iH:(cS r).any hI=true
    · rw [if_pos iH]
      have ez:∀ k∈(RT.mk none eI).ft,k∈ae eI∨w.heap.size≤k:=fun k hk=>.inl (by simpa [RT.ft] using hk)
      have ch:=mI (r:=st.of+t) (R:=⟨none,eI⟩) h ez (Nat.le_refl _) (fun _ _=>rfl)
      obtain ⟨h1,_⟩:=vR (r:=st.of+t) (R:=⟨none,eI⟩) h ⟨trivial,fun x hx=>by
          have:=(bU _).1 cY x hx
          have:=du ch x this (fun _ _=>rfl)
          cases x with
          | v d u=>exact .inl this
          | own s n cap a cs=>exact this⟩
        ⟨by simpa [RT.ft] using XT,ez⟩ (fun k hk=>XU k (by simpa [RT.ft] using hk)) (Nat.le_refl _) (fun _ _=>rfl) rfl rfl rfl hP
      rw [← qg]
      refine ⟨_,h1.put ht ?_⟩
      have wT:lk (pt (fS (cj (st.of+t)) S) (st.of+t) ⟨none,eI⟩) (st.of+t)=some ⟨none,eI⟩:=cm _ _ _
      by_cases iQ:∃ ds,r=.aR ds
      · obtain ⟨ds,rfl⟩:=iQ
        obtain ⟨us,rfl,hf⟩:=hr
        refine ⟨us,rfl,?_⟩
        exact Aw h1.mem wT (A:=[]) (B:=[]) hf cY (by simp)
      · have hf:fb r v eI:=by cases r<;>first | exact hr | exact absurd ⟨_,rfl⟩ hp | exact absurd ⟨_,rfl⟩ iQ
        have hv:zk (st.of+t) r=zj (st.of+t) 0 r:=by cases r<;>first | rfl | exact absurd ⟨_,rfl⟩ iQ
        rw [hv]
        exact jz (v7 h1.mem wT (A:=[]) (B:=[]) hf (by simp))
    · rw [if_neg iH]
      have iH:(cS r).any hI=false:=by simpa using iH
      obtain ⟨h1,_⟩:=nZ h
      have hX:∀ b k,ad C w S (eI++H) b k→ad C w S H b k:=iP (fun k hk=>by
        rw [aO]
        rcases List.mem_append.1 hk with h | h<;>simp [h])
      have hs:=fp hX _ cY
      refine ⟨S,h1.put ht ?_⟩
      by_cases iQ:∃ ds,r=.aR ds
      · obtain ⟨ds,rfl⟩:=iQ
        obtain ⟨us,rfl,hf⟩:=hr
        exact ⟨us,rfl,Ax hf hs iH⟩
      · have hf:fb r v eI:=by cases r<;>first | exact hr | exact absurd ⟨_,rfl⟩ hp | exact absurd ⟨_,rfl⟩ iQ
        rw [pP cY hf] at iH
        exact jz (v8 hf hs iH)
end
end Go.Proofs.Ytockoilcnmljiaa
namespace Go.Proofs.Ytockoilcnmljiaa
mutual
def qD (b:Bool):T→T
  | .v d u=>.v (gI b (bj d)) u
  | .own s n cap a cs=>.own s n cap a (fL b cs)
def fL (b:Bool):List T→List T
  | []=>[]
  | t::ts=>qD b t::fL b ts
end
theorem RI {d:D} (h:∀ s n cs,d≠.sl none s n cs):bj d=d:=by
  cases d with
  | sl g s n cs=>cases g with
    | none=>exact absurd rfl (h s n cs)
    | some g=>rfl
  | _=>rfl
theorem OW (d:D) (s n:Nat) (cs:List D):bj d≠.sl none s n cs:=by
  cases d with
  | sl g s n cs=>cases g<;>simp [bj]
  | _=>simp [bj]
theorem I8 (b:Bool) (d:D):bj (gI b (bj d))=gI b (bj d):=by
  refine RI (fun s n cs=>?_)
  have:=OW d
  cases h:bj d with
  | sl g s' n' cs'=>
    cases g with
    | none=>exact absurd h (this _ _ _)
    | some g=>simp [gI]
  | _=>simp [gI]
mutual
theorem zB (b:Bool):∀ t:T,(qD b t).er=gI b t.er
  | .v d u=>by simp only [qD,T.er]; exact I8 b d
  | .own s n cap a cs=>by simp only [qD,T.er,gI]; rw [sF b cs]
theorem sF (b:Bool):∀ ts:List T,aP (fL b ts)=dO b (aP ts)
  | []=>rfl
  | t::ts=>by simp only [fL,aP,dO]; rw [zB b t,sF b ts]
end
theorem yo (b:Bool) (t:T):(qD b t).val=t.val:=by cases t<;>rfl
theorem pQ (b:Bool):∀ ts:List T,ay (fL b ts)=ay ts
  | []=>rfl
  | t::ts=>by simp only [fL,ay]; rw [yo,pQ b ts]
mutual
theorem aah (b:Bool):∀ t:T,(qD b t).ft=t.ft
  | .v _ _=>rfl
  | .own s n cap a cs=>by simp only [qD,T.ft]; rw [sG b cs]
theorem sG (b:Bool):∀ ts:List T,ae (fL b ts)=ae ts
  | []=>rfl
  | t::ts=>by simp only [fL,ae]; rw [aah b t,sG b ts]
end
theorem rT (b:Bool):∀ ts:List T,(fL b ts).length=ts.length
  | []=>rfl
  | t::ts=>by simp [fL,rT b ts]
theorem zC (b:Bool):∀ x y:List T,fL b (x++y)=fL b x++fL b y
  | [],_=>rfl
  | t::ts,y=>by simp [fL,zC b ts y]
theorem I9 (b:Bool):∀ cs:List D,(dO b cs).length=cs.length
  | []=>rfl
  | d::ds=>by simp [dO,I9 b ds]
section
variable {w:World} {X X':Bool→Nat→Prop} {b:Bool} (hX:∀ g k,X g k→X' b k)
include hX
mutual
theorem LK:∀ (d:D) (u:Value),Ext w X d u→Ext w X' (gI b d) u
  | .int _ _,_,hu=>hu
  | .bool _,_,hu=>hu
  | .str _,_,hu=>hu
  | .nil _,_,hu=>hu
  | .undef,_,_=>trivial
  | .hole _ _,_,_=>trivial
  | .sl (some g) s n cs,u,hu=>by
    simp only [Ext,gI] at hu ⊢
    obtain ⟨base,cap,us,h1,mY,h2,h3,h4⟩:=hu
    refine ⟨base,cap,us,h1,mY,by rw [I9]; exact h2,Ja cs us h3,?_⟩
    rcases h4 with h4 | ⟨k,off,c,e,fz,h5,h6,h7,h8⟩
    · left; rw [h4]; rfl
    · exact .inr ⟨k,off,c,e,fz,h5,hX g k h6,h7,h8⟩
  | .sl none _ _ _,_,hu=>by simp [Ext] at hu
  | .ref ..,_,hu=>by simp [Ext] at hu
  | .agg _,_,hu=>by simp [Ext] at hu
  | .aR _,_,hu=>by simp [Ext] at hu
  | .fn ..,_,hu=>by simp [Ext] at hu
  | .ptr ..,_,hu=>by simp [Ext] at hu
  | .dt ..,_,hu=>by simp [Ext] at hu
  | .aM _,_,hu=>by simp [Ext] at hu
theorem Ja:∀ (ds:List D) (us:List Value),fM w X ds us→fM w X' (dO b ds) us
  | [],_,hu=>by have _:=hX; exact hu
  | d::ds,us,hu=>by
    simp only [fM,dO] at hu ⊢
    obtain ⟨v,vs,h1,h2,h3⟩:=hu
    exact ⟨v,vs,h1,LK d v h2,Ja ds vs h3⟩
end
mutual
theorem XV:∀ (t:T),aZ w X t→aZ w X' (qD b t)
  | .v d u,hs=>by
    simp only [aZ,qD] at hs ⊢
    rw [I8]
    exact LK hX _ _ hs
  | .own s n cap a cs,hs=>by
    simp only [aZ,qD] at hs ⊢
    obtain ⟨h1,h2,h3,h4⟩:=hs
    rw [pQ,rT]
    exact ⟨h1,h2,h3,u5 cs h4⟩
theorem u5:∀ (ts:List T),ba w X ts→ba w X' (fL b ts)
  | [],_=>by have _:=hX; simp [ba,fL]
  | t::ts,hs=>by
    simp only [ba,fL] at hs ⊢
    exact ⟨XV t hs.1,u5 ts hs.2⟩
end
end
section
variable {w:World} {X:Bool→Nat→Prop}
mutual
theorem OX:∀ (d:D) (u:Value),Ext w X d u→bL d=true→Ext w (fun g k=>g=false∧X false k) d u
  | .int _ _,_,hu,_=>hu
  | .bool _,_,hu,_=>hu
  | .str _,_,hu,_=>hu
  | .nil _,_,hu,_=>hu
  | .undef,_,_,_=>trivial
  | .hole _ _,_,_,_=>trivial
  | .sl (some g) s n cs,u,hu,hn=>by
    simp only [Ext] at hu ⊢
    simp only [bL,Bool.and_eq_true] at hn
    have hg:g=false:=by cases g with
      | false=>rfl
      | true=>exact absurd hn.1 (by decide)
    subst hg
    obtain ⟨base,cap,us,h1,mY,h2,h3,h4⟩:=hu
    refine ⟨base,cap,us,h1,mY,h2,LL cs us h3 hn.2,?_⟩
    rcases h4 with h4 | ⟨k,off,c,e,fz,h5,h6,h7,h8⟩
    · exact .inl h4
    · exact .inr ⟨k,off,c,e,fz,h5,⟨rfl,h6⟩,h7,h8⟩
  | .sl none _ _ _,_,hu,_=>by simp [Ext] at hu
  | .ref ..,_,hu,_=>by simp [Ext] at hu
  | .agg _,_,hu,_=>by simp [Ext] at hu
  | .aR _,_,hu,_=>by simp [Ext] at hu
  | .fn ..,_,hu,_=>by simp [Ext] at hu
  | .ptr ..,_,hu,_=>by simp [Ext] at hu
  | .dt ..,_,hu,_=>by simp [Ext] at hu
  | .aM _,_,hu,_=>by simp [Ext] at hu
theorem LL:∀ (ds:List D) (us:List Value),fM w X ds us→bP ds=true→fM w (fun g k=>g=false∧X false k) ds us
  | [],_,hu,_=>hu
  | d::ds,us,hu,hn=>by
    simp only [fM] at hu ⊢
    simp only [bP,Bool.and_eq_true] at hn
    obtain ⟨v,vs,h1,h2,h3⟩:=hu
    exact ⟨v,vs,h1,OX d v h2 hn.1,LL ds vs h3 hn.2⟩
end
mutual
theorem XW:∀ (t:T),aZ w X t→bL t.er=true→aZ w (fun g k=>g=false∧X false k) t
  | .v d u,hs,hn=>by
    simp only [aZ] at hs ⊢
    exact OX _ _ hs hn
  | .own s n cap a cs,hs,hn=>by
    simp only [aZ] at hs ⊢
    simp only [T.er,bL,Bool.and_eq_true] at hn
    exact ⟨hs.1,hs.2.1,hs.2.2.1,zD cs hs.2.2.2 hn.2⟩
theorem zD:∀ (ts:List T),ba w X ts→bP (aP ts)=true→ba w (fun g k=>g=false∧X false k) ts
  | [],_,_=>by simp [ba]
  | t::ts,hs,hn=>by
    simp only [ba] at hs ⊢
    simp only [aP,bP,Bool.and_eq_true] at hn
    exact ⟨XW t hs.1 hn.1,zD ts hs.2 hn.2⟩
end
end
theorem dN:∀ ds:List D,bP ds=ds.all bL
  | []=>rfl
  | d::ds=>by simp [bP,dN ds]
mutual
theorem Jb:∀ d:D,bL d=true→gI false d=d
  | .sl none s n cs,h=>by
    simp only [bL,Bool.and_eq_true] at h
    simp only [gI]
    rw [rU cs h.2]
  | .sl (some g) s n cs,h=>by
    simp only [bL,Bool.and_eq_true] at h
    have hg:g=false:=by cases g with
      | false=>rfl
      | true=>exact absurd h.1 (by decide)
    subst hg
    simp only [gI]
    rw [rU cs h.2]
  | .int _ _,_=>rfl
  | .bool _,_=>rfl
  | .str _,_=>rfl
  | .nil _,_=>rfl
  | .undef,_=>rfl
  | .hole _ _,_=>rfl
  | .ref ..,_=>rfl
  | .agg _,_=>rfl
  | .aR _,_=>rfl
  | .fn ..,_=>rfl
  | .ptr ..,_=>rfl
  | .dt ..,_=>rfl
  | .aM _,_=>rfl
theorem rU:∀ ds:List D,bP ds=true→dO false ds=ds
  | [],_=>rfl
  | d::ds,h=>by
    simp only [bP,Bool.and_eq_true] at h
    simp only [dO]
    rw [Jb d h.1,rU ds h.2]
end
def oP (b:Bool):D→D
  | .agg cs=>.agg (dO b cs)
  | d=>gI b d
theorem Bg (b:Bool) (vs:List D):gf b (.aR vs)=.aR (vs.map (oP b)):=by
  simp only [gf]
  congr 1
theorem DR (d:D) (h:(bN d).all bL=true):gf false d=d:=by
  cases d with
  | agg cs=>simp only [gf]; rw [rU cs (by rw [dN]; exact h)]
  | aM cs=>simp only [gf]; rw [rU cs (by rw [dN]; exact h)]
  | aR vs=>
    rw [Bg]
    have hx:∀ x∈vs,oP false x=id x:=by
      intro x hx
      have hh:∀ y∈wS x,bL y=true:=fun y hy=>by
        refine List.all_eq_true.1 h y ?_
        simp only [bN,uj,List.mem_flatMap]
        exact ⟨x,hx,hy⟩
      cases x with
      | agg cs=>simp only [oP]; rw [rU cs (by rw [dN]; exact List.all_eq_true.2 hh)]; rfl
      | _=>exact Jb _ (hh _ (by simp [wS]))
    rw [List.map_congr_left hx,List.map_id]
  | _=>
    simp only [bN,cS,List.all_cons,List.all_nil,Bool.and_true] at h
    exact Jb _ h
theorem yp {w:World} {X:Bool→Nat→Prop} {b:Bool} {d:D} {u:Value} {ts:List T} (hf:fb d u ts) (hs:ba w X ts):fb (oP b d) u (fL b ts):=by
  by_cases ha:∃ cs,d=.agg cs
  · obtain ⟨cs,rfl⟩:=ha
    obtain ⟨rfl,us,rfl,hu⟩:=hf
    exact ⟨(sF b ts).symm,us,rfl,by rw [pQ]; exact hu⟩
  · have OV:∃ t,ts=[t]∧d=t.er∧u=t.val:=by cases d<;>first | exact hf | exact absurd ⟨_,rfl⟩ ha
    obtain ⟨t,rfl,rfl,rfl⟩:=OV
    have h1:=(bU _).1 hs t (by simp)
    have hp:oP b t.er=gI b t.er:=by
      cases he:t.er<;>first | rfl | exact absurd ⟨_,he⟩ ha
    rw [hp,← zB b t,← yo b t]
    have h2:∀ cs,(qD b t).er≠.agg cs:=by
      intro cs
      rw [zB]
      cases he:t.er with
      | agg cs'=>exact absurd ⟨_,he⟩ ha
      | sl g s n cs'=>cases g<;>simp [gI]
      | _=>simp [gI]
    have h3:∀ d,(∀ cs,d≠.agg cs)→d=(qD b t).er→fb d (qD b t).val (fL b [t]):=fun d hn e=>by
      cases d<;>first | exact ⟨_,rfl,e,rfl⟩ | exact absurd rfl (hn _)
    exact h3 _ h2 rfl
theorem CB {w:World} {X:Bool→Nat→Prop} {b:Bool}:∀ {ds:List D} {us:List Value} {ts:List T},qC ds us ts→ba w X ts→qC (ds.map (oP b)) us (fL b ts)
  | [],us,ts,h,_=>by obtain ⟨rfl,rfl⟩:=h; exact ⟨rfl,rfl⟩
  | d::ds,us,ts,h,hs=>by
    obtain ⟨u,jq,t1,t2,rfl,rfl,h1,h2⟩:=h
    rw [dv] at hs
    exact ⟨u,jq,_,_,rfl,zC b t1 t2,yp h1 hs.1,CB h2 hs.2⟩
theorem FE {b:Bool} {d:D} (h1:∀ cs,d≠.aM cs) (h2:∀ cs,d≠.aR cs):gf b d=oP b d:=by
  cases d<;>first | rfl | exact absurd rfl (h1 _) | exact absurd rfl (h2 _)
theorem VS {w:World} {X:Bool→Nat→Prop} {b:Bool} {r:D} {v:Value} {ts:List T} (hr:FC r v ts) (hs:ba w X ts):FC (gf b r) v (fL b ts):=by
  by_cases hp:∃ cs,r=.aM cs
  · obtain ⟨cs,rfl⟩:=hp
    obtain ⟨bk,LJ,rfl,rfl,rfl⟩:=hr
    exact ⟨bk,fL b LJ,by simp [fL,pO,qD,rT],(sF b LJ).symm,rfl⟩
  by_cases iQ:∃ ds,r=.aR ds
  · obtain ⟨ds,rfl⟩:=iQ
    obtain ⟨us,rfl,hf⟩:=hr
    rw [Bg]
    exact ⟨us,rfl,CB hf hs⟩
  have hf:fb r v ts:=by cases r<;>first | exact hr | exact absurd ⟨_,rfl⟩ hp | exact absurd ⟨_,rfl⟩ iQ
  rw [FE (fun cs e=>hp ⟨cs,e⟩) (fun cs e=>iQ ⟨cs,e⟩)]
  have h2:=yp (b:=b) hf hs
  have h3:(∀ cs,oP b r≠.aM cs)∧∀ cs,oP b r≠.aR cs:=by
    cases r with
    | aM cs=>exact absurd ⟨_,rfl⟩ hp
    | aR cs=>exact absurd ⟨_,rfl⟩ iQ
    | sl g s n cs=>cases g<;>simp [oP,gI]
    | _=>simp [oP,gI]
  have:∀ d,(∀ cs,d≠.aM cs)→(∀ cs,d≠.aR cs)→fb d v (fL b ts)→FC d v (fL b ts):=fun d h4 h5 h6=>by
    cases d<;>first | exact h6 | exact absurd rfl (h4 _) | exact absurd rfl (h5 _)
  exact this _ h3.1 h3.2 h2
theorem RJ {w:World} {X:Bool→Nat→Prop} {b c:Bool} {o:D} {a a':Arg} (h:mN w c o a a') (hs:ba w X a'.2):mN w c (gf b o) a (a'.1,fL b a'.2):=by
  cases c with
  | false=>
    simp only [mN] at h ⊢
    rw [h]; rfl
  | true=>
    cases o with
    | aM cs=>
      obtain ⟨h1,⟨bk,h2,h3⟩,h4⟩:=h
      exact ⟨h1,⟨bk,h2,by simp only [rT,pQ]; exact h3⟩,by rw [h4]; exact (sF b _).symm⟩
    | agg cs=>
      obtain ⟨h1,h2,h3,h4⟩:=h
      exact ⟨h1,h2,by rw [h3]; exact (sF b _).symm,by simp only [pQ]; exact h4⟩
    | aR vs=>
      obtain ⟨h1,h2,h3⟩:=h
      rw [Bg]
      refine ⟨h1,h2,?_⟩
      rcases h3 with ⟨h3,_⟩ | ⟨t,h3,h4,_⟩
      · exact .inl ⟨by rw [h3]; rfl,by simp⟩
      · rw [h3] at hs
        exact absurd h4.symm ((pN ((bU _).1 hs t (by simp))).2.2 vs)
    | sl g s n cs=>
      obtain ⟨h1,h2,h3⟩:=h
      cases g with
      | none=>
        refine ⟨h1,h2,?_⟩
        rcases h3 with ⟨_,h3⟩ | ⟨t,h3,h4,h5⟩
        · exact absurd rfl (h3 s n cs)
        · exact .inr ⟨qD b t,by rw [h3]; rfl,by rw [zB,← h4]; rfl,by simp only [ay,yo] at h5 ⊢; exact h5⟩
      | some g=>
        refine ⟨h1,h2,?_⟩
        rcases h3 with ⟨h3,_⟩ | ⟨t,h3,h4,h5⟩
        · exact .inl ⟨by rw [h3]; rfl,by simp [gf,gI]⟩
        · exact .inr ⟨qD b t,by rw [h3]; rfl,by rw [zB,← h4]; rfl,by simp only [ay,yo] at h5 ⊢; exact h5⟩
    | _=>
      obtain ⟨h1,h2,h3⟩:=h
      refine ⟨h1,h2,?_⟩
      rcases h3 with ⟨h3,_⟩ | ⟨t,h3,h4,h5⟩
      · exact .inl ⟨by rw [h3]; rfl,by simp [gf,gI]⟩
      · exact .inr ⟨qD b t,by rw [h3]; rfl,by rw [zB,← h4]; rfl,by simp only [ay,yo] at h5 ⊢; exact h5⟩
theorem VT {w:World} {X X':Bool→Nat→Prop} {b:Bool} {d:D} {u:Value} {a:Arg} (h:FB w X true d u a) (hs:ba w X a.2):FB w X' true (gf b d) u (a.1,fL b a.2):=by
  by_cases hp:∃ cs,d=.aM cs
  · obtain ⟨cs,rfl⟩:=hp
    obtain ⟨bk,h1,h2,h3,h4,h5⟩:=h
    refine ⟨bk,h1,fun e=>h2 ?_,by rw [h3]; exact (sF b _).symm,h4,by simp only [rT,pQ]; exact h5⟩
    have:=congrArg List.length e
    simp only [rT,List.length_nil] at this
    exact List.length_eq_zero_iff.1 this
  · have hf:a.1=none∧fb d u a.2:=by cases d<;>first | exact h | exact absurd ⟨_,rfl⟩ hp
    have iQ:∀ vs,d≠.aR vs:=by
      rintro vs rfl
      obtain ⟨t,e1,e2,_⟩:=hf.2
      rw [e1] at hs
      exact (pN ((bU _).1 hs t (by simp))).2.2 vs e2.symm
    rw [FE (fun cs e=>hp ⟨cs,e⟩) iQ]
    have h2:=yp (b:=b) hf.2 hs
    have h3:∀ cs,oP b d≠.aM cs:=by
      cases d with
      | aM cs=>exact absurd ⟨_,rfl⟩ hp
      | sl g s n cs=>cases g<;>simp [oP,gI]
      | _=>simp [oP,gI]
    have:∀ d,(∀ cs,d≠.aM cs)→fb d u (fL b a.2)→FB w X' true d u (a.1,fL b a.2):=fun d h4 h6=>by
      cases d<;>first | exact ⟨hf.1,h6⟩ | exact absurd rfl (h4 _)
    exact this _ h3 h2
end Go.Proofs.Ytockoilcnmljiaa
namespace Go.Proofs.Ytockoilcnmljiaa
theorem iK:∀ as9:List Arg,(aX as9).Perm (as9.filterMap Prod.fst++ae (cI as9))
  | []=>.refl _
  | (bx,ts)::as9=>by
    have ih:=iK as9
    have h1:cI ((bx,ts)::as9)=ts++cI as9:=by simp [cI]
    rw [h1,aO]
    simp only [aX,zA]
    refine List.perm_iff_count.2 fun a=>?_
    have:=List.perm_iff_count.1 ih a
    cases bx<;>simp only [List.filterMap_cons,Option.toList,List.count_append,List.count_cons,List.count_nil] at this ⊢<;>omega
theorem me (as9:List Arg):(ae (cz as9)).Perm (ae (cI as9)):=by
  refine A8 ?_
  induction as9 with
  | nil=>exact .refl _
  | cons a as9 ih=>
    rw [oO]
    have:cI (a::as9)=a.2++cI as9:=by simp [cI]
    rw [this]
    exact (List.perm_append_comm).trans (List.Perm.append_left _ ih)
theorem jG {as9:List Arg} {k:Nat}:k∈aX as9↔k∈as9.filterMap Prod.fst∨k∈ae (cz as9):=by
  rw [(iK as9).mem_iff,List.mem_append,(me as9).mem_iff]
def qE (b:Bool) (a:Arg):Arg:=(a.1,fL b a.2)
theorem oc (b:Bool):∀ as9:List Arg,aX (as9.map (qE b))=aX as9
  | []=>rfl
  | a::as9=>by simp only [List.map_cons,aX,oc b as9,zA,qE,sG]
theorem FF (b:Bool):∀ as9:List Arg,cI (as9.map (qE b))=fL b (cI as9)
  | []=>rfl
  | a::as9=>by
    have h1:cI (a::as9)=a.2++cI as9:=by simp [cI]
    have h2:cI ((a::as9).map (qE b))=(fL b a.2)++cI (as9.map (qE b)):=by simp [cI,qE]
    rw [h1,h2,zC,FF b as9]
theorem uJ {w:World} {X:Bool→Nat→Prop} {as9:List Arg}:ba w X (cI as9)↔∀ a∈as9,ba w X a.2:=by
  rw [bU]
  simp only [cI,List.mem_flatten,List.mem_map]
  constructor
  · intro h a ha
    rw [bU]
    exact fun t ht=>h t ⟨_,⟨a,ha,rfl⟩,ht⟩
  · rintro h t ⟨l,⟨a,ha,rfl⟩,ht⟩
    exact (bU _).1 (h a ha) t ht
theorem sH {w:World} {X:Bool→Nat→Prop} {as9:List Arg}:ba w X (cz as9)↔∀ a∈as9,ba w X a.2:=by
  rw [bU]
  simp only [cz,List.mem_flatten,List.mem_reverse,List.mem_map]
  constructor
  · intro h a ha
    rw [bU]
    exact fun t ht=>h t ⟨_,⟨a,ha,rfl⟩,ht⟩
  · rintro h t ⟨l,⟨a,ha,rfl⟩,ht⟩
    exact (bU _).1 (h a ha) t ht
theorem Jc {w':World} {c b:Bool} {o:D} {a a':Arg} (h:mN w' c o (qE b a) a'):mN w' c o a a':=by
  cases c with
  | false=>exact h
  | true=>
    cases o<;>(simp only [mN,qE,pQ] at h ⊢; exact h)
theorem rH {w:World} {S:List (Nat × RT)}:∀ {b:List Bool} {ds fJ:List D} {us:List Value} {as9:List Arg},qB w S b ds fJ us as9→∀ bk∈as9.filterMap Prod.fst,∃ r R,lk S r=some R∧R.box=some bk∧R.cs=[]
  | _,[],_,_,_,h,bk,hb=>by obtain ⟨_,_,rfl⟩:=h; simp at hb
  | b,d::ds,fJ,us,as9,h,bk,hb=>by
    obtain ⟨d1,vZ,u,jq,a,bX,rfl,rfl,rfl,h1,h2⟩:=h
    obtain ⟨bx,ts⟩:=a
    cases bx with
    | none=>simp only [List.filterMap_cons] at hb; exact rH h2 bk hb
    | some I4=>
      simp only [List.filterMap_cons,List.mem_cons] at hb
      rcases hb with rfl | hb
      · cases qA:b.headD false with
        | false=>rw [qA] at h1; simp [oN] at h1
        | true=>
          rw [qA] at h1
          cases d1 with
          | aM cs=>
            obtain ⟨r,b2,_,e2,e3,_⟩:=h1
            simp only [Option.some.injEq] at e2
            subst e2
            exact ⟨r,_,e3,rfl,rfl⟩
          | _=>simp [oN] at h1
      · exact rH h2 bk hb
theorem Ay (b:List Bool) (d:D) (ds:List D):eY b (d::ds)=((b.headD false&&!((bN d).all bL))||eY b.tail ds):=rfl
theorem OY {w:World} {S:List (Nat × RT)} {X:Bool→Nat→Prop} {d d1:D} {u:Value} {a:Arg} (h:oN w S true d d1 u a):FB w X true d1 u a:=by
  cases d1 with
  | aM cs=>obtain ⟨r,b,_,e2,e3,e4,e5,e6,e7⟩:=h; exact ⟨b,e2,e4,e5,e6,e7⟩
  | _=>exact ⟨h.1,h.2.1⟩
theorem FH {w:World} {X X1:Bool→Nat→Prop} {d:D} {u:Value} {a:Arg} (h:FB w X true d u a) (hs:ba w X1 a.2):bN d=aP a.2:=by
  by_cases hp:∃ cs,d=.aM cs
  · obtain ⟨cs,rfl⟩:=hp
    obtain ⟨b,_,_,e,_⟩:=h
    exact e
  · have hf:fb d u a.2:=by cases d<;>first | exact h.2 | exact absurd ⟨_,rfl⟩ hp
    have:bN d=cS d:=by cases d<;>first | rfl | exact absurd ⟨_,rfl⟩ hp
    rw [this,pP hs hf,nF hf]
section
variable {C:Ctx} {w:World} {st aE:St} {aB:List (Array Value)} {S S1:List (Nat × RT)}
theorem Jd {Hs:List T} (h:Rel C Hs w aE aB S1) {X':Bool→Nat→Prop} (hX:∀ b k,ad C w S1 Hs b k→X' b k) (hF:∀ r R k,lk S1 r=some R→R.cs≠[]→k∈R.ft→X' true k):
    ∀ {b:List Bool} {ds fJ rn:List D} {us:List Value} {as9:List Arg},qB w S1 b ds fJ us as9→bO (bZ w (ad C w S1 Hs) S1) ds us→sa aE b fJ=some rn→(∀ a∈as9,ba w (ad C w S1 Hs) a.2)→re w X' b (jm b rn) us (as9.map (qE false))∧(eY b rn=false→jm b rn=rn∧∀ a∈as9,bP (aP a.2)=true)
  | b,[],fJ,rn,us,as9,h1,h2,h3,_=>by
    obtain ⟨rfl,rfl,rfl⟩:=h1
    simp only [sa,Option.some.injEq] at h3
    subst h3
    exact ⟨⟨rfl,rfl⟩,fun _=>⟨rfl,by simp⟩⟩
  | b,d::ds,fJ,rn,us,as9,h1,h2,h3,h4=>by
    obtain ⟨d1,vZ,u,jq,a,bX,rfl,rfl,rfl,g1,g2⟩:=h1
    cases h2 with
    | cons FI XX=>
    simp only [sa] at h3
    split at h3
    case h_2=>simp at h3
    rename_i d2 ll
    split at h3
    case h_2=>simp at h3
    rename_i DS acG
    simp only [Option.some.injEq] at h3
    subst h3
    obtain ⟨k1,k2⟩:=Jd h hX hF g2 XX acG (fun a ha=>h4 a (by simp [ha]))
    have hs:=h4 a (by simp)
    cases hb:b.headD false with
    | false=>
      rw [hb] at g1 ll
      obtain ⟨rfl,rfl⟩:=g1
      simp only [Bool.false_eq_true,if_false] at ll
      refine ⟨⟨u,jq,(none,[]),_,rfl,rfl,?_,k1⟩,fun hl=>?_⟩
      · rw [hb]
        simp only [Bool.false_eq_true,if_false]
        exact ⟨rfl,fun S'=>XR h hX hF FI ll S'⟩
      · rw [Ay,hb] at hl
        simp only [Bool.false_and,Bool.false_or] at hl
        obtain ⟨e1,e2⟩:=k2 hl
        refine ⟨by simp only [jm,hb,Bool.false_eq_true,if_false]; rw [e1],fun x hx=>?_⟩
        simp only [List.mem_cons] at hx
        rcases hx with rfl | hx
        · rfl
        · exact e2 x hx
    | true=>
      rw [hb] at g1 ll
      simp only [if_true,Option.some.injEq] at ll
      subst ll
      have kv:=OY (X:=ad C w S1 Hs) g1
      refine ⟨⟨u,jq,qE false a,_,rfl,rfl,?_,k1⟩,fun hl=>?_⟩
      · rw [hb]
        simp only [if_true]
        exact VT kv hs
      · rw [Ay,hb] at hl
        simp only [Bool.true_and,Bool.or_eq_false_iff,Bool.not_eq_false'] at hl
        obtain ⟨e1,e2⟩:=k2 hl.2
        refine ⟨by simp only [jm,hb,if_true]; rw [e1,DR _ hl.1],fun x hx=>?_⟩
        simp only [List.mem_cons] at hx
        rcases hx with rfl | hx
        · rw [dN,← FH kv hs]; exact hl.1
        · exact e2 x hx
theorem RK {w':World} {b:Bool} {d d1 o:D} {u:Value} {a a':Arg} (g1:oN w S1 b d d1 u a) (g3:mN w' b o a a'):(a'.1=a.1)∧∀ bk,a.1=some bk→ka w' bk 0 0 []:=by
  cases b with
  | false=>
    obtain ⟨rfl,_⟩:=g1
    simp only [mN] at g3
    rw [g3]
    exact ⟨rfl,by simp⟩
  | true=>
    have eF:∀ {bk n us},ka w' bk 0 n us→ka w' bk 0 0 []:=fun ⟨c,e,fz,q1,q2,q3,q4⟩=>⟨c,e,fz,q1,q2,by omega,by simp⟩
    cases o with
    | aM cs=>
      obtain ⟨e1,⟨bk,e2,e3⟩,_⟩:=g3
      refine ⟨e1,fun I4 e=>?_⟩
      rw [e2,Option.some.injEq] at e
      subst e
      exact eF e3
    | _=>exact ⟨g3.2.1.trans g3.1.symm,fun bk e=>by rw [g3.1] at e; simp at e⟩
theorem Je {w':World}:∀ {b:List Bool} {ds fJ:List D} {us:List Value} {as9 bX:List Arg} {os:List D},qB w S1 b ds fJ us as9→kV w' b os (as9.map (qE false)) bX→
    bX.filterMap Prod.fst=as9.filterMap Prod.fst∧∀ bk∈as9.filterMap Prod.fst,ka w' bk 0 0 []
  | b,[],fJ,us,as9,bX,os,h1,h3=>by
    obtain ⟨rfl,rfl,rfl⟩:=h1
    simp only [List.map_nil,kV] at h3
    obtain ⟨rfl,rfl⟩:=h3
    exact ⟨rfl,by simp⟩
  | b,d::ds,fJ,us,as9,bX,os,h1,h3=>by
    obtain ⟨d1,vZ,u,jq,a,yk,rfl,rfl,rfl,g1,g2⟩:=h1
    simp only [List.map_cons,kV] at h3
    obtain ⟨o,u3,a',I6,rfl,rfl,g3,g4⟩:=h3
    obtain ⟨k2,k3⟩:=Je g2 g4
    have XY:=RK g1 (Jc g3)
    refine ⟨by simp only [List.filterMap_cons,XY.1,k2],fun bk sJ=>?_⟩
    simp only [List.filterMap_cons] at sJ
    cases ha:a.1 with
    | none=>rw [ha] at sJ; exact k3 bk sJ
    | some b2=>
      rw [ha] at sJ
      simp only [List.mem_cons] at sJ
      rcases sJ with rfl | sJ
      · exact XY.2 _ ha
      · exact k3 bk sJ
theorem FJ {w':World} {X:Bool→Nat→Prop} {t:Bool} {Xo:Bool→Nat→Prop}:∀ {b:List Bool} {ds fJ:List D} {us:List Value} {as9 bX:List Arg} {os:List D},qB w S1 b ds fJ us as9→bO (bZ w' X S1) ds us→kV w' b os (as9.map (qE false)) bX→(∀ a∈bX,ba w' Xo a.2)→
    u4 w' X S1 id b ds us (os.map (gf t)) as9 (bX.map (qE t))
  | b,[],fJ,us,as9,bX,os,h1,h2,h3,_=>by
    obtain ⟨rfl,rfl,rfl⟩:=h1
    simp only [List.map_nil,kV] at h3
    obtain ⟨rfl,rfl⟩:=h3
    exact ⟨rfl,rfl,rfl,rfl⟩
  | b,d::ds,fJ,us,as9,bX,os,h1,h2,h3,h4=>by
    obtain ⟨d1,vZ,u,jq,a,yk,rfl,rfl,rfl,g1,g2⟩:=h1
    cases h2 with
    | cons FI XX=>
    simp only [List.map_cons,kV] at h3
    obtain ⟨o,u3,a',I6,rfl,rfl,g3,g4⟩:=h3
    have g3:=Jc g3
    have k1:=FJ (t:=t) g2 XX g4 (fun a ha=>h4 a (by simp [ha]))
    have hs:=h4 a' (by simp)
    refine ⟨u,jq,gf t o,_,a,yk,qE t a',_,rfl,rfl,rfl,rfl,?_,k1⟩
    · cases hb:b.headD false with
      | false=>
        rw [hb] at g3
        simp only [mN] at g3
        simp only [Bool.false_eq_true,if_false]
        rw [g3]; rfl
      | true=>
        rw [hb] at g1 g3
        simp only [if_true]
        have cx:bO (fun x v=>aQ w' X S1 (id x) v) (cellsOf d) (gi d u):=by
          by_cases dV:∃ cs,d=.agg cs
          · obtain ⟨cs,rfl⟩:=dV
            obtain ⟨vs,rfl,hv⟩:=FI
            exact hv
          · have hnf:(∀ f cs,d≠.fn f cs)∧∀ ds,d≠.aR ds:=by
              cases d1 with
              | aM cs=>obtain ⟨r,_,e,_⟩:=g1; subst e; simp
              | _=>exact g1.2.2.2.2.2
            have h1:cellsOf d=[d]:=by cases d<;>first | rfl | exact absurd ⟨_,rfl⟩ dV
            have h2:gi d u=[u]:=by cases d<;>first | rfl | exact absurd ⟨_,rfl⟩ dV
            rw [h1,h2]
            refine .cons ?_ .nil
            rcases tZ FI with ⟨ds,_,e,_⟩ | ⟨_,FI⟩
            · exact absurd e (hnf.2 ds)
            · rcases qw FI with ⟨cs,_,e,_⟩ | ⟨f,cs,_,e,_⟩ | ⟨_,_,FI⟩
              · exact absurd ⟨cs,e⟩ dV
              · exact absurd e (hnf.1 f cs)
              · exact FI
        refine ⟨cx,RJ g3 hs,fun e=>?_,fun bx e=>?_⟩
        · cases d1 with
          | aM cs=>obtain ⟨r,b2,_,e2,_⟩:=g1; rw [e] at e2; simp at e2
          | _=>exact ⟨g1.2.2.1,g1.2.2.2.1⟩
        · cases d1 with
          | aM cs=>
            obtain ⟨r,b2,e1,e2,e3,_⟩:=g1
            rw [e,Option.some.injEq] at e2
            subst e2
            exact ⟨r,_,e1,e3,rfl⟩
          | _=>rw [g1.1] at e; simp at e
end
end Go.Proofs.Ytockoilcnmljiaa
