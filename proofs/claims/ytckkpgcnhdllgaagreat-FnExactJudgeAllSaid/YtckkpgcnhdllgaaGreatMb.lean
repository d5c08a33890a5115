/- What the proof of FnExactJudgeAll stands on, part 2: an abstract machine on plain data, its soundness, and the contracts of functions. -/
import Derived.Lib.AppendZerosOnto
import Derived.Laws.BytesString
import Derived.Laws.Small
import Derived.Laws.Runes
import Derived.Test.YtckkpgcnhdllgaaGreatMa
set_option linter.all false
set_option linter.unusedSimpArgs false
set_option linter.unusedVariables false
set_option linter.unnecessarySimpa false
set_option linter.unusedSectionVars false
namespace Go.Proofs.YtckkpgcnhdllgaaGreat
def hL (d:D) (u:Value):List Value:=
 match d with
 | .agg _=>u.cells.toList
 | _=>[u]
section
variable {C:Ctx} {Hx:List T} {w:World} {aI:List (Array Value)}
theorem U6 {w':World} {S S':List (Nat × RT)} {H H':List T} (h:iB C w w' S S' H H' id) {d:D} {u:Value} (hd:cx w (ah C w S H) S d u):cx w' (ah C w' S' H') S' d u:=qC h hd
theorem rm {H:List T} {st st':St} {S:List (Nat × RT)} {d:D} {u:Value} {ds':List D} (h:Rel C H w st aI S) (hd:cx w (ah C w S H) S d u) (ht:r8 st (cellsOf d)=some (ds',st')):
  ∃ ts S',Rel C (ts++H) w st' aI S'/\ba ts=ds'/\ax ts=hL d u/\iB C w w S S' H (ts++H) id/\qE S S'/\mr st st':=by
 by_cases ha:∃ cs,d=.agg cs
 ·obtain ⟨cs,rfl⟩:=ha;obtain ⟨us,rfl,hu⟩:=hd;exact GN h hu ht
 ·have hc:cellsOf d=[d]:=by cases d<;>first | rfl | exact absurd ⟨_,rfl⟩ ha
  have hv:hL d u=[u]:=by cases d<;>first | rfl | exact absurd ⟨_,rfl⟩ ha
  rw [hc] at ht;rw [hv];have tH:bD w (ah C w S H) S d u:=by
   cases d<;>first | exact hd | (simp [r8,jh] at ht; done) | exact absurd ⟨_,rfl⟩ ha
  exact GN h (.cons tH .nil) ht
theorem GQ:∀ {ps:List (Nat × D)} {us:List (Nat × Value)} {H:List T} {st st':St} {S:List (Nat × RT)} {ps':List (Nat × List D)},Rel C H w st aI S->cm (fun p q=>q.1=p.1/\cx w (ah C w S H) S p.2 q.2) ps us->sr st ps=some (ps',st')->
  ∃ (qF:List (Nat × List T)) (S':List (Nat × RT)),Rel C (qF.flatMap (·.2)++H) w st' aI S'/\qF.map (fun p=>(p.1,p.2.map T.er))=ps'/\cm (fun (p:Nat × D) (q:(Nat × List T) × (Nat × Value))=>q.2.1=q.1.1/\q.1.2.map T.val=hL p.2 q.2.2) ps (qF.zip us)/\qF.length=us.length/\iB C w w S S' H (qF.flatMap (·.2)++H) id/\qE S S'/\mr st st':=by
 intro ps
 induction ps with
 | nil=>
  intro us H st st' S ps' h hu ht;cases hu;simp only [sr,jf,tE] at ht;obtain ⟨rfl,rfl⟩:=ht;exact ⟨[],S,h,rfl,.nil,rfl,fun _ _ h=>h,qE.refl _,mr.refl _⟩
 | cons p ps ih=>
  intro us H st st' S ps' h hu ht;cases hu with
  | cons tK Et=>
  rename_i q qs;obtain ⟨i,d⟩:=p;obtain ⟨j,u⟩:=q;obtain ⟨rfl,tK⟩:=tK;simp only [sr] at ht;split at ht
  case h_2=>simp at ht
  rename_i d1 aQ h1;split at ht
  case h_2=>simp at ht
  rename_i gG cu h2;simp only [jf,tE] at ht;obtain ⟨rfl,rfl⟩:=ht;obtain ⟨ts,S1,a1,rfl,a3,a4,a5,a6⟩:=rm h tK h1;obtain ⟨qF,S2,b1,rfl,b3,b4,b5,b6,b7⟩:=ih a1 (Et.mono (fun _ _ hh=>⟨hh.1,U6 a4 hh.2⟩)) h2;have hp:(qF.flatMap (·.2)++(ts++H)).Perm (((j,ts)::qF).flatMap (·.2)++H):=by
   simp only [abo];rw [<- aay];exact List.Perm.append_right _ ae0
  refine ⟨(j,ts)::qF,S2,b1.perm hp,by simp [eO],.cons ⟨rfl,by rw [<- cK]; exact a3⟩ b3,by simp [b4],fun d u hd=>?_,a5.trans b6,mr.trans a6 b7⟩
  have:=b5 _ _ (a4 d u hd)
  rwa [Bw hp] at this
end
theorem Ts {w:World} {X:Bool->Nat->Prop}:∀ {qF:List (Nat × List T)} {ps:List (Nat × D)} {us:List (Nat × Value)},cm (fun (p:Nat × D) (q:(Nat × List T) × (Nat × Value))=>q.2.1=q.1.1/\q.1.2.map T.val=hL p.2 q.2.2) ps (qF.zip us)->qF.length=us.length->
  (∀ p∈qF,∀ t∈p.2,bI w X t/\da t.er=true)->cm (fun p q=>q.1=p.1/\q.2.cells.toList=p.2.map T.val) qF us:=by
 intro qF
 induction qF with
 | nil=>
  intro ps us h hl _;cases us with
  | nil=>exact .nil
  | cons u us=>simp at hl
 | cons p qF ih=>
  intro ps us h hl hs;cases us with
  | nil=>simp at hl
  | cons u us=>
   simp only [List.zip_cons_cons] at h;cases h with
   | cons h1 h2=>
   rename_i d ds;obtain ⟨e1,e2⟩:=h1;refine .cons ⟨e1,?_⟩ (ih h2 (by simpa using hl) (fun q hq=>hs q (by simp [hq])))
   simp only at e2;rw [e2];obtain ⟨j,d⟩:=d;by_cases ha:∃ cs,d=.agg cs
   ·obtain ⟨cs,rfl⟩:=ha;rfl
   ·have hv:hL d u.2=[u.2]:=by cases d<;>first | rfl | exact absurd ⟨_,rfl⟩ ha
    simp only at hv ⊢;simp only [hv] at e2 ⊢;cases hp:p.2 with
    | nil=>rw [hp] at e2; simp at e2
    | cons t ts=>
     rw [hp] at e2;simp only [aaM,aaF,List.map_eq_nil_iff] at e2;obtain ⟨e3,rfl⟩:=e2;obtain ⟨g1,g2⟩:=hs p (by simp) t (by simp [hp])
     have:=(mR g1 g2).2;rw [e3] at this;rw [this]
section
variable {P:Program} {c:cA} (aw:eu c P) {C:Ctx} {Hx:List T} {w:World} {st st':St} {a:Act} {aI:List (Array Value)} {S:List (Nat × RT)} (h:Rel C Hx w st (a.tmps::aI) S)
include aw h
theorem Mv {t e:TypeId} {ti ei:TI} (kY:c.ty t=some ti) (hti:ti.ty=.slice e) (he:c.ty e=some ei) {n:Nat} {ps:Array (Nat × Operand)} (U7:n*ei.size<=16777216/\n<=16777216) {pvs:List (Nat × List D)} {aQ:St}
  (hp:sr st (ps.toList.map fun p=>(p.1,ct c st e p.2))=some (pvs,aQ)) {cs:List D} (hf:nI da (fun i=>some (i*ei.size,ei.size)) (fa n ei.zero) pvs=some cs)
  {d:Nat} (ht:d < a.tmps.size) (hP:∀ p∈C.P0,p.1≠st.of+d) (hr:aQ.root (some d) [.sl none ei.size n cs] (fun d=>.ref d [] 0 none)=some st'):
  ∃ v w',(Instr.buildSlice t n (ps.map fun (i,x)=>(i,a.eval x))).run P w=.ok v w'/\dM w w'/\∃ S',Rel C Hx w' st' (a.tmps.setIfInBounds d v::aI) S':=by
 have hn:=U7.1;have fX:mF w (ah C w S Hx) S st.tm a.tmps:=by cases h.pd with | cons a _=>exact a
 obtain ⟨inf,h1,h2,h3,z,h4,h5⟩:=(aw.ty _ _ he).info;have AB:=(aw.ty _ _ he).len;obtain ⟨dd,g1,g2⟩:=(aw.ty _ _ kY).desc;rw [hti] at g2;simp only [lS] at g2;subst g2;have dR:cm (fun p q=>q.1=p.1/\cx w (ah C w S Hx) S p.2 q.2) (ps.toList.map fun p=>(p.1,ct c st e p.2)) (ps.toList.map fun p=>(p.1,a.eval p.2)):=by
  refine du (by simp) (fun i x y hx hy=>?_)
  simp only [aa5] at hx hy;cases hq:ps.toList[i]? with
  | none=>simp [hq] at hx
  | some q=>
   simp only [hq,OB,jf] at hx hy;subst hx; subst hy;exact ⟨rfl,xe (c:=c) fX e q.2⟩
 obtain ⟨qF,S1,b1,rfl,b3,b4,b5,b6,b7⟩:=GQ h dR hp;have X9:=Lu hf;obtain ⟨zt,f1,f2,f3,f4⟩:=xx h5 n;rw [<- f1,eO] at hf;obtain ⟨cs',k1,k2⟩:=Se T.er hf;have dF:=((ea _ _).1 b1.mem.hand).1;rw [cj] at dF;have hI:=Ts (X:=ah C w S1 (qF.flatMap (·.2)++Hx)) b3 b4 (fun p hp t ht=>⟨dF t (List.mem_flatMap.2 ⟨p,hp,ht⟩),X9 (p.1,p.2.map T.er) (aam.2 ⟨p,hp,rfl⟩) t.er (aam.2 ⟨t,ht,rfl⟩)⟩);have kF:z.cells.size=ei.size:=by rw [<- AB,h5.len]; simp
 have ai1:((Array.range (n*inf.size)).map (z.cells[· % z.cells.size]!)).toList=zt.map T.val:=by
  rw [<- cK,f2,h2,<- kF,<- xz];simp
 obtain ⟨arr,m1,m2⟩:=GO T.val (arr:=(Array.range (n*inf.size)).map (z.cells[· % z.cells.size]!)) hI k1 ai1;have eB:(Instr.buildSlice t n (ps.map fun (i,x)=>(i,a.eval x))).run P w=.ok (.slice (some ⟨w.heap.size,0,none⟩) n n) (w.alloc (.cells arr e)):=by
  have hl:(ps.map fun (i,x)=>(i,a.eval x)).toList=ps.toList.map fun p=>(p.1,a.eval p.2):=by simp
  by_cases h0:n*inf.size=0
  ·have pJ:=m1;rw [h0] at pJ;rw [<- hl,<- h2] at pJ;simp only [Array.range_zero',Array.map_empty] at pJ;simp [Instr.buildSlice,run_underlying g1,sizeOf,typeInfo,h1,h0,newRow,Array.range_zero'];simp at pJ;rw [pJ];simp
  ·rw [<- hl,<- h2] at m1;exact run_buildSlice w t e n _ arr inf z g1 h1 h4 (by rw [h2]; omega) h0 m1
 refine ⟨_,_,eB,(Grown.alloc w _).bY,?_⟩;have qG:aQ.of=st.of:=b7.2.2;obtain ⟨q1,q2⟩:=Lv k1;have hlen:cs'.length=n*ei.size:=by
  rw [q2];have:=congrArg List.length f2;rw [bV] at this;rw [this,aeM,aeX,ad7,adW,kF]
 have Tt:=Tr k1 (by
  rw [f3,aaq];have h9:=(yq.1 b1.mem.nd).2.1;rw [bd] at h9;exact (yq.1 h9).1)
 rw [f3] at Tt;rw [<- k2,<- eO] at hr;refine Jk (Hs:=qF.flatMap (·.2)) (H:=Hx) b1 (Grown.alloc w _) (ts:=cs') ⟨aav _,by rw [iP]; omega⟩ ?_ (fun k hk=>by simpa using Tt.2 k hk) Tt.1 ⟨aav _,by have:=U7.2; omega⟩ hlen ?_ ht (by rw [qG]; exact hP) hr
 ·rw [cj];intro x hx;rcases q1 x hx with h6 | ⟨p,h6,h7⟩
  ·exact (cj _).1 (f4 _ _) x h6
  ·exact dF x (List.mem_flatMap.2 ⟨p,h6,h7⟩)
 ·have cU:arr.size=cs'.length:=by have:=congrArg List.length m2; simpa using this
  refine jM w _ _ (by rw [cU,hlen]; exact aav _) (fun j u hj=>?_)
  rw [<- adr,m2,<- cK];exact hj
theorem aea {e:TypeId} {x:Operand} {i:TI} (hlen:(cellsOf (ct c st e x)).length=i.size) (cS:(cellsOf (ct c st e x)).all (fW st)=true) {t:Nat} (ht:t < a.tmps.size) (hP:∀ p∈C.P0,p.1≠st.of+t)
  (hr:st.root (some t) (cellsOf (pI (cH (st.of+t)) (ct c st e x))) (fun d=>.ptr d [] 0)=some st'):
  ∃ v w',(Instr.box e (a.eval x)).run P w=.ok v w'/\dM w w'/\∃ S',Rel C Hx w' st' (a.tmps.setIfInBounds t v::aI) S':=by
 have _:=aw;have fX:mF w (ah C w S Hx) S st.tm a.tmps:=by cases h.pd with | cons a _=>exact a
 have hd:=xe (c:=c) fX e x;have dR:=Ft h.rt h.mem hd (aac.1 cS);have eB:(Instr.box e (a.eval x)).run P w=.ok (.pointer (some ⟨w.heap.size,0,none⟩)) (w.alloc (.cells (a.eval x).cells e)):=by
  simp [Instr.box,newVar,newRow]
 refine ⟨_,_,eB,(Grown.alloc w _).bY,?_⟩;have ed:cellsOf (pI (cH (st.of+t)) (ct c st e x))=(cellsOf (ct c st e x)).map (cH (st.of+t)):=by
  by_cases ha:∃ cs,ct c st e x=.agg cs
  ·obtain ⟨cs,ha⟩:=ha;rw [ha]; rfl
  ·have hc:cellsOf (ct c st e x)=[ct c st e x]:=by cases hx:ct c st e x<;>first | rfl | exact absurd ⟨_,hx⟩ ha
   have ho:=aac.1 cS (ct c st e x) (by rw [hc]; simp)
   rw [hc];cases hx:ct c st e x with
   | agg cs=>exact absurd ⟨_,hx⟩ ha
   | aM cs=>rw [hx] at ho; simp [fW,da] at ho
   | fn f cs=>rw [hx] at ho; simp [fW,da] at ho
   | aZ cs=>rw [hx] at ho; simp [fW,da] at ho
   | ref r q o y=>simp only [pI,fp,aaM,List.map_nil,cH]; split<;>rfl
   | ptr r q o=>simp only [pI,fp,aaM,List.map_nil,cH]; split<;>rfl
   | _=>rfl
 obtain ⟨l,e1,e2,e3⟩:=zI dR
 let ts:List T:=l.map fun p=>.v (cH (st.of+t) p.1) p.2
 have ku:∀ p∈l,bS (cH (st.of+t) p.1)=cH (st.of+t) p.1:=by
  intro p hp;have h2:=e3 p hp;obtain ⟨d,u⟩:=p;simp only at h2 ⊢;cases d with
  | sl g s n cs=>
   cases g with
   | none=>simp [bD,Ext] at h2
   | some g=>rfl
  | ref r q o y=>simp only [cH]; split<;>rfl
  | ptr r q o=>simp only [cH]; split<;>rfl
  | _=>rfl
 have ai2:ba ts=(cellsOf (ct c st e x)).map (cH (st.of+t)):=by
  rw [<- e1,eO];simp only [ts,abH];refine afb (fun p hp=>?_);simp only [Function.comp_apply,T.er];exact ku p hp
 have hI:ax ts=(a.eval x).cells.toList:=by
  rw [<- e2,cK];simp only [ts,abH];rfl
 have eG:ai ts=[]:=by
  rw [og];simp only [ts,abH];rw [List.flatten_eq_nil_iff];intro y hy;simp only [aam,Function.comp_apply] at hy;obtain ⟨p,_,rfl⟩:=hy;rfl
 rw [ed,<- ai2] at hr;refine Jl (Hs:=[]) h (Grown.alloc w _) (ts:=ts) ⟨aav _,by rw [iP]; omega⟩ (fun y hy=>.inr ?_) (by rw [eG]; simp) (by rw [eG]; simp) ?_ ht hP hr
 ·simp only [ts,aam] at hy;obtain ⟨p,hp,rfl⟩:=hy;exact ⟨p.1,p.2,rfl,e3 p hp⟩
 ·refine jM w _ _ ?_ (fun j u hj=>?_)
  ·have:=congrArg List.length hI;rw [bV] at this;rw [this]; simp
  ·rw [hI] at hj
   simpa using hj
theorem U8 {e:TypeId} {x:Operand} {i:TI} (hlen:(cellsOf (ct c st e x)).length=i.size) {ds:List D} {aQ:St} (dH:r8 st (cellsOf (ct c st e x))=some (ds,aQ)) (cS:ds.all da=true) {t:Nat} (ht:t < a.tmps.size) (hP:∀ p∈C.P0,p.1≠st.of+t)
  (hr:aQ.root (some t) ds (fun d=>.ptr d [] 0)=some st'):
  ∃ v w',(Instr.box e (a.eval x)).run P w=.ok v w'/\dM w w'/\∃ S',Rel C Hx w' st' (a.tmps.setIfInBounds t v::aI) S':=by
 have _:=aw;have fX:mF w (ah C w S Hx) S st.tm a.tmps:=by cases h.pd with | cons a _=>exact a
 have hd:=xe (c:=c) fX e x;obtain ⟨ts,S1,b1,rfl,b3,b4,b5,b6⟩:=rm h hd dH;have eB:(Instr.box e (a.eval x)).run P w=.ok (.pointer (some ⟨w.heap.size,0,none⟩)) (w.alloc (.cells (a.eval x).cells e)):=by
  simp [Instr.box,newVar,newRow]
 refine ⟨_,_,eB,(Grown.alloc w _).bY,?_⟩;have dF:=((ea _ _).1 b1.mem.hand).1;rw [cj] at dF;have hI:ax ts=(a.eval x).cells.toList:=by
  by_cases ha:∃ cs,ct c st e x=.agg cs
  ·obtain ⟨cs,ha⟩:=ha;rw [b3,ha]; rfl
  ·have hv:hL (ct c st e x) (a.eval x)=[a.eval x]:=by cases hx:ct c st e x<;>first | rfl | exact absurd ⟨_,hx⟩ ha
   rw [hv] at b3;rw [b3];cases ts with
   | nil=>simp [ax] at b3
   | cons y ys=>
    simp only [ax,aaF] at b3;have:=mR (dF y (by simp)) (aac.1 cS y.er (by simp [ba]))
    rw [b3.1] at this;rw [this.2]
 refine Jl (Hs:=ts) b1 (Grown.alloc w _) (ts:=ts) ⟨aav _,by rw [iP]; omega⟩ (fun y hy=>.inl (dF y hy)) (fun _ h=>h) (by
  have h9:=(yq.1 b1.mem.nd).2.1;rw [bd] at h9;exact (yq.1 h9).1) ?_ ht (by rw [b6.2.2]; exact hP) hr
 refine jM w _ _ ?_ (fun j u hj=>?_)
 ·have:=congrArg List.length hI;rw [bV] at this;rw [this]; simp
 ·rw [hI] at hj
  simpa using hj
end
theorem Tu {q:List Nat}:∀ {p:Nat} {cs l:List T} {bx:Option Nat} {b off:Nat},bZ bx cs (p::q)=some (b,off)->ay cs (p::q)=some l->(ai cs).Nodup->b∉ai l:=by
 induction q with
 | nil=>
  intro p cs l bx b off ha hc hn;rw [bZ] at ha;rw [ay] at hc;cases hp:cs[p]? with
  | none=>simp [hp] at hc
  | some x=>
   cases x with
   | v d u=>simp [hp] at hc
   | own s n cap a xs=>
    simp only [hp,ay,jf] at hc ha;subst hc; subst ha;obtain ⟨A,B,e,_⟩:=dU cs p _ hp;rw [e] at hn;have:=(yq.1 (yq.1 hn).1).2.1;simp only [T.ft,fG,aao,aaq,abm] at this;exact this.1
 | cons p' q ih=>
  intro p cs l bx b off ha hc hn;rw [bZ] at ha;rw [ay] at hc;cases hp:cs[p]? with
  | none=>simp [hp] at hc
  | some x=>
   cases x with
   | v d u=>simp [hp] at hc
   | own s n cap a xs=>
    simp only [hp] at hc ha;refine ih ha hc ?_;obtain ⟨A,B,e,_⟩:=dU cs p _ hp;rw [e] at hn;have:=(yq.1 (yq.1 hn).1).2.1;simp only [T.ft] at this;exact (yq.1 this).2.1
theorem ace {q:List Nat} {o:Nat} {t':T} {d:D} {u:Value}:∀ {cs cs':List T} {q':List Nat} {o':Nat} {l:List T},dL (fun l=>l.set o t') cs q=some cs'->under (q++[o]) (q'++[o'])=none->ay cs q'=some l->l[o']?=some (.v d u)->
  ∃ l',ay cs' q'=some l'/\l'[o']?=some (.v d u):=by
 induction q with
 | nil=>
  intro cs cs' q' o' l hm hu hc ho;simp only [dL,jf] at hm;subst hm;cases q' with
  | nil=>
   simp only [ay,jf] at hc;subst hc;simp only [aaq,under] at hu;split at hu
   ·simp at hu
   ·rename_i cX;exact ⟨_,rfl,by rw [aal cX]; exact ho⟩
  | cons p q'=>
   simp only [aaq,aao,under] at hu;split at hu
   ·simp at hu
   ·rename_i cX;exact ⟨l,by rw [ay,aal cX]; rw [ay] at hc; exact hc,ho⟩
 | cons p q ih=>
  intro cs cs' q' o' l hm hu hc ho;rw [dL] at hm;cases hp:cs[p]? with
  | none=>simp [hp] at hm
  | some x=>
   cases x with
   | v d u=>simp [hp] at hm
   | own s n cap a xs=>
    simp only [hp] at hm;cases hx:dL (fun l=>l.set o t') xs q with
    | none=>simp [hx] at hm
    | some kS=>
     simp only [hx,jf] at hm;subst hm;obtain ⟨dg,_⟩:=aaa.1 hp;cases q' with
     | nil=>
      simp only [ay,jf] at hc;subst hc;have cX:p≠o':=fun e=>by subst e; rw [hp] at ho; simp at ho
      exact ⟨_,rfl,by rw [aal cX]; exact ho⟩
     | cons p' q'=>
      by_cases GJ:p=p'
      ·subst GJ;simp only [aao,under,if_true] at hu;rw [ay,hp] at hc;obtain ⟨l',h1,h2⟩:=ih hx hu hc ho;exact ⟨l',by rw [ay,aaE dg]; exact h1,h2⟩
      ·exact ⟨l,by rw [ay,aal GJ]; rw [ay] at hc; exact hc,ho⟩
theorem kX.O3 {S S':List (Nat × RT)} {r:Nat} {q:List Nat} {o:Nat} {t t':T} (hc:kX S S' r q o t t') {r':Nat} {q':List Nat} {o':Nat} (hf:r'≠r∨under (q++[o]) (q'++[o'])=none) {d:D} {u:Value} (h:cD S r' q' o'=some (.v d u)):cD S' r' q' o'=some (.v d u):=by
 by_cases he:r'=r
 ·subst he;have hf:under (q++[o]) (q'++[o'])=none:=by rcases hf with hf | hf<;>first | exact absurd rfl hf | exact hf
  obtain ⟨R,cs',l,h1,h2,h3,h4,rfl⟩:=hc.ex;unfold cD at h ⊢;rw [cJ];rw [h1] at h;simp only at h ⊢;cases hx:ay R.cs q' with
  | none=>simp [hx] at h
  | some l'=>
   simp only [hx] at h;obtain ⟨l1,h5,h6⟩:=ace h4 hf hx h;rw [h5];exact h6
 ·unfold cD at h ⊢;rw [hc.Oj he];exact h
theorem Dn {g:D->D} {S:List (Nat × RT)} {r:Nat} {q:List Nat} {o:Nat} {t:T} (h:cD S r q o=some t):cD (fS g S) r q o=some (if q=[] then fT g t else t):=by
 unfold cD at h ⊢;rw [lX];cases hr:lk S r with
 | none=>simp [hr] at h
 | some R=>
  simp only [hr,OB] at h ⊢;cases q with
  | nil=>
   simp only [ay,if_true] at h ⊢;rw [aa5,h]; rfl
  | cons p q=>
   rw [Fm]
   simpa using h
section
variable {C:Ctx} {H Hs:List T} {w w':World} {st aQ cu:St} {aI:List (Array Value)} {S S1 S':List (Nat × RT)}
theorem Sf (h:Rel C H w st aI S) {g:D->D} (hg:lO g) (dZ:∀ d u,bD w (ah C w S H) S d u->bD w (ah C w S H) (fS g S) (g d) u) (Bs:∀ d u,Ext w (ah C w S H) d u->Ext w (ah C w S H) (fp g d) u) (pe:∀ d u,bD w (ah C w S H) S d u->fp g d=g d):
  Rel C H w (st.eZ g) aI (fS g S)/\iB C w w S (fS g S) H H g:=by
 have Ez:ah C w (fS g S) H=ah C w S H:=by
  funext b k;simp only [ah,uU]
 refine ⟨?_,fun d u hd=>by rw [Ez]; exact dZ d u hd⟩
 refine h.step (f:=g) ?_ rfl rfl (fun d u hd=>by rw [Ez]; exact dZ d u hd) ⟨by rw [uU]; exact h.mem.nd,?_,by rw [Ez]; exact h.mem.hand,by rw [uU]; exact h.mem.lt⟩
  ⟨h.kept.os,h.kept.tape,h.kept.output,h.kept.size,h.kept.block,by rw [uU]; exact h.kept.iQ,?_⟩
 ·exact qi hg h.rt
 ·intro r R' dV;rw [lX] at dV;cases hx:lk S r with
  | none=>simp [hx] at dV
  | some R=>
   simp only [hx,OB,jf] at dV;subst dV;obtain ⟨k1,k2⟩:=h.mem.root r R hx;have hv:ax (R.cs.map (fT g))=ax R.cs:=by
    rw [cK,cK,abH]
    congr 1
    funext t;cases t<;>rfl
   refine ⟨?_,fun t ht=>?_⟩
   ·simp only [abu];rw [hv]; exact k1
   ·simp only [aam] at ht;obtain ⟨t0,kY,rfl⟩:=ht;have:=k2 t0 kY;rw [Ez];cases t0 with
    | own s n cap a xs=>exact this
    | v d u=>
     simp only [fT,jw] at this ⊢;rw [hg.leaf];rcases this with this | ⟨hb,this⟩
     ·exact .inl (Bs _ _ this)
     ·exact .inr ⟨hb,by rw [pe _ _ this]; exact dZ _ _ this⟩
 ·intro r b vs hm R' dV;rw [lX] at dV;cases hx:lk S r with
  | none=>simp [hx] at dV
  | some R=>
   simp only [hx,OB,jf] at dV;subst dV;have hv:ax (R.cs.map (fT g))=ax R.cs:=by
    rw [cK,cK,abH]
    congr 1
    funext t;cases t<;>rfl
   have:=h.kept.par r b vs hm R hx;simp only;rw [hv]; exact this
end
section
variable {C:Ctx} {H Hs:List T} {w w':World} {st aQ cu:St} {aI:List (Array Value)} {S S1 S':List (Nat × RT)}
theorem Dp {k:Nat} {ts:List T} {t:T} (ht:t∈ts) (hk:k∈t.ft):k∈ai ts:=by
 obtain ⟨i,hi⟩:=abe.1 ht;obtain ⟨A,B,e,_⟩:=dU ts i _ hi;rw [e]; simp [hk]
theorem Lx {q:List Nat} {k:Nat} {cs l:List T} (hc:ay cs q=some l) (hk:k∈ai l):k∈ai cs:=by
 obtain ⟨A,B,e,_⟩:=Gx hc;rw [e]; simp [hk]
theorem EA {r k:Nat} {R:RT} (h:lk S r=some R) (hk:k∈R.ft):k∈cM S:=by
 obtain ⟨A,B,e,_⟩:=kU h;rw [e]; simp [hk]
theorem Tv (hn:(cM S).Nodup) {r:Nat} {R:RT} (h:lk S r=some R):R.ft.Nodup:=by
 obtain ⟨A,B,e,_⟩:=kU h;rw [e] at hn;exact (yq.1 (yq.1 hn).1).2.1
structure Wr (C:Ctx) (w w':World) (S S':List (Nat × RT)) (H H':List T) (t1:T):Prop where
 stays:jF w w' (ah C w S H) (ah C w' S' H')
 sub:∀ k∈cM S'++ai H',k∈cM S++ai H
 nd:(cM S'++ai H').Nodup
 bY:∀ k∈t1.ft,ah C w' S' H' false k/\w'.heap[k]?=w.heap[k]?
 new:∀ k∈ai H,w'.heap[k]?=w.heap[k]?
 kept:Kept C w' S' H'
theorem Rr (h:Rel C (Hs++H) w st aI S) {g:D->D} (hS:SR g S S1) {r:Nat} {q:List Nat} {o:Nat} {t0 t1 t':T} (hc:kX S1 S' r q o t1 t') (hgt:t1.ft=t0.ft) {R:RT} {l:List T} (hR:lk S r=some R) (hl:ay R.cs q=some l) (ho:l[o]?=some t0) {b off:Nat} (ha:bZ R.box R.cs q=some (b,off))
  (hHs:ai Hs=t'.ft) {u:Value} (hu:R7 w w' b (off+o) u) (cU:w'.heap.size=w.heap.size) (mH:w'.os=w.os) (ri:w'.tape=w.tape) (sF:w'.output=w.output):Wr C w w' S S' (Hs++H) H t1:=by
 obtain ⟨A,B,e1,e2⟩:=hc.fts;rw [hS.iQ] at e1;have eT:=h.mem.nd;have dg:=h.mem.lt;have hbR:b∈R.ft:=by
  cases q with
  | nil=>simp only [bZ] at ha; cases hb:R.box with
   | none=>simp [hb] at ha
   | some b'=>simp only [hb,OB,jf,tE] at ha; simp [RT.ft,hb,ha.1]
  | cons p q=>simp [RT.ft,qh ha]
 have Es:b∈cM S:=EA hR hbR;have eI:∀ k∈cM S'++ai H,k∈cM S++ai (Hs++H):=by
  intro k hk;rw [e2] at hk;rw [e1,bd,hHs];simp only [tD] at hk ⊢;rcases hk with ((hk | hk) | hk) | hk
  ·exact .inl (.inl (.inl hk))
  ·exact .inr (.inl hk)
  ·exact .inl (.inr hk)
  ·exact .inr (.inr hk)
 have aec:=eT;rw [e1,bd,hHs] at aec;have p1:(A++t1.ft++B++(t'.ft++ai H)).Perm (t1.ft++(A++t'.ft++B++ai H)):=by
  refine abl.2 fun a=>?_;simp only [abD];omega
 have ai3:=p1.nodup_iff.1 aec;obtain ⟨_,ai4,aae⟩:=yq.1 ai3;have hbt:b∉t1.ft:=by
  rw [hgt];intro hb;have U9:=Tv (yq.1 eT).1 hR;have htl:t0∈l:=aak ho;have Z7:b∈ai l:=Dp htl hb;cases q with
  | nil=>
   simp only [bZ] at ha;simp only [ay,jf] at hl;subst hl;cases hx:R.box with
   | none=>simp [hx] at ha
   | some b'=>
    simp only [hx,OB,jf,tE] at ha;rw [RT.ft,hx] at U9;simp only [Option.toList,aao,aaq,abm] at U9;exact U9.1 (ha.1▸Z7)
  | cons p q=>
   rw [RT.ft] at U9;exact Tu ha hl (yq.1 U9).2.1 Z7
 have cX:∀ k,k≠b->w'.heap[k]?=w.heap[k]?:=by obtain ⟨_,_,_,_,_,h3⟩:=hu; exact h3
 have cF:jF w w' (ah C w S (Hs++H)) (ah C w' S' H):=by
  intro bb k hk;have O4:k≠b:=fun e=>hk.2.1 (e▸Es);refine ⟨⟨by rw [cU]; exact hk.1,fun hx=>?_,fun hx=>?_,hk.2.2.2⟩,cX k O4⟩
  ·rcases tD.1 (eI k (tD.2 (.inl hx))) with h3 | h3
   ·exact hk.2.1 h3
   ·exact hk.2.2.1 h3
  ·rcases tD.1 (eI k (tD.2 (.inr hx))) with h3 | h3
   ·exact hk.2.1 h3
   ·exact hk.2.2.1 h3
 refine ⟨cF,eI,by rw [e2]; exact ai4,fun k hk=>?_,fun k hk=>?_,?_⟩
 ·have Ly:k∈cM S++ai (Hs++H):=by rw [e1]; simp [hk]
  refine ⟨⟨by rw [cU]; exact dg k Ly,fun hx=>?_,fun hx=>?_,fun _=>.inr (h.kept.iQ k Ly)⟩,cX k (fun e=>hbt (e▸hk))⟩
  ·rw [e2] at hx; exact aae k hk k (tD.2 (.inl hx)) rfl
  ·exact aae k hk k (tD.2 (.inr hx)) rfl
 ·exact cX k (fun e=>by subst e; exact (yq.1 eT).2.2 k Es k hk rfl)
 ·refine ⟨by rw [mH]; exact h.kept.os,by rw [ri]; exact h.kept.tape,by rw [sF]; exact h.kept.output,by rw [cU]; exact h.kept.size,fun k h1 h2=>?_,fun k hk=>h.kept.iQ k (eI k hk),fun r1 bx vs hm R1 GR=>?_⟩
  ·rw [cX k (fun e=>?_)]
   ·exact h.kept.block k h1 h2
   ·subst e;rcases h.kept.iQ k (tD.2 (.inl Es)) with h3 | h3
    ·exact h2 h3
    ·omega
  ·obtain ⟨R2,cs',l2,g1,g2,g3,g4,rfl⟩:=hc.ex;by_cases he:r1=r
   ·subst he;rw [cJ,jf] at GR;subst GR;obtain ⟨R3,k1,k2,k3,k4,k5⟩:=hS.sC g1;rw [hR,jf] at k1;subst k1;obtain ⟨m1,m2⟩:=h.kept.par r1 bx vs hm R hR;refine ⟨by simp only; rw [k2,m1],fun hb=>?_⟩
    cases q with
    | nil=>
     simp only [bZ] at ha;rw [m1,hb] at ha;simp at ha
    | cons p q=>
     simp only;rw [(mM g4).1,k4];exact m2 hb
   ·rw [dJ _ _ he] at GR;obtain ⟨R3,k1,k2,k3,k4,k5⟩:=hS.sC GR;obtain ⟨m1,m2⟩:=h.kept.par r1 bx vs hm R3 k1;exact ⟨by rw [k2,m1],fun hb=>by rw [k4]; exact m2 hb⟩
end
theorem GS (q:List Nat) (o:Nat):under (q++[o]) q=none:=by
 induction q with
 | nil=>rfl
 | cons p q ih=>simp only [aao,under,if_true]; exact ih
theorem LA (r:Nat) (q:List Nat) (o:Nat) (e:Bool) (i:Nat):cB r q o e (.ptr r q i)=.ptr r q i:=by
 simp only [cB,if_true,GS]
theorem Jo:lO id:=⟨fun _ _ _ _=>rfl,fun _ _=>rfl,fun _ h=>h⟩
theorem aed (d:D):fp id d=d:=by cases d<;>simp [fp]
theorem Si {α:Type} (f:α->α) (hf:∀ a,f a=a):∀ l:List (Nat × α),gn f l=l
 | []=>rfl
 | (k,v)::t=>by simp [gn,hf,Si f hf t]
theorem acf {l:List (Nat × List D)} {S:List (Nat × RT)} (h:gS l S):gS l (fS id S):=by
 have:=qi Jo h
 rwa [Si] at this
 intro l;have:fp id=id:=funext aed;rw [this]; simp
theorem aag {g:D->D} {S:List (Nat × RT)} {r:Nat} {q:List Nat} {o:Nat} {R:RT} {l:List T} {t0:T} (hR:lk S r=some R) (hl:ay R.cs q=some l) (ho:l[o]?=some t0):
  ∃ R1 l1 t1,lk (fS g S) r=some R1/\R1.box=R.box/\ay R1.cs q=some l1/\l1[o]?=some t1/\(t1=t0∨(q=[]/\t1=fT g t0))/\l1.length=l.length/\bZ R1.box R1.cs q=bZ R.box R.cs q/\R1.cs.length=R.cs.length:=by
 cases q with
 | nil=>
  simp only [ay,jf] at hl;subst hl;exact ⟨⟨R.box,R.cs.map (fT g)⟩,R.cs.map (fT g),fT g t0,by rw [lX,hR]; rfl,rfl,rfl,by simp [ho],.inr ⟨rfl,rfl⟩,by simp,rfl,by simp⟩
 | cons p q=>
  exact ⟨⟨R.box,R.cs.map (fT g)⟩,l,t0,by rw [lX,hR]; rfl,rfl,by simp only [Fm]; exact hl,ho,.inl rfl,rfl,Sa g,by simp⟩
theorem kX.ai5 {S S':List (Nat × RT)} {r:Nat} {q:List Nat} {o:Nat} {t t':T} (hc:kX S S' r q o t t') {l:List T} {R:RT} (hR:lk S r=some R) (hl:ay R.cs q=some l):
  ∃ R' l',lk S' r=some R'/\R'.box=R.box/\ay R'.cs q=some l'/\l'.length=l.length/\bZ R'.box R'.cs q=bZ R.box R.cs q:=by
 obtain ⟨R0,cs',l0,h1,h2,h3,h4,rfl⟩:=hc.ex;rw [h1,jf] at hR;subst hR;rw [h2,jf] at hl;subst hl;obtain ⟨l1,h5,h6⟩:=om h4;rw [h2,jf] at h5;subst h5;exact ⟨⟨R0.box,cs'⟩,l0.set o t',cJ _ _ _,rfl,h6,by simp,Go.Proofs.YtckkpgcnhdllgaaGreat.sx h4 (GS q o)⟩
structure Sto (S S':List (Nat × RT)) (r:Nat) (q:List Nat) (o:Nat) (t':T) (f:D->D):Prop where
 new:cD S' r q o=some t'
 ptr:∀ i,f (.ptr r q i)=.ptr r q i
 hole:∀ r' q' o' d0 u,(sn d0).isSome=true->bS d0=d0->cD S r' q' o'=some (.v d0 u)->(r'≠r∨under (q++[o]) (q'++[o'])=none)->cD S' r' q' o'=some (.v d0 u)
 path:∀ {R l},lk S r=some R->ay R.cs q=some l->∃ R' l',lk S' r=some R'/\R'.box=R.box/\ay R'.cs q=some l'/\l'.length=l.length/\bZ R'.box R'.cs q=bZ R.box R.cs q
section
variable {C:Ctx} {H Hs:List T} {w:World} {st aQ cu:St} {aI:List (Array Value)} {S:List (Nat × RT)}
theorem Bz (h:Rel C (Hs++H) w st aI S) {r:Nat} {q:List Nat} {o:Nat} {d:D} {t' t0:T} {R:RT} {l:List T} {f:D->D} (hR:lk S r=some R) (hl:ay R.cs q=some l) (ho:l[o]?=some t0) {b off:Nat} (ha:bZ R.box R.cs q=some (b,off))
  (dX:st.r9 r q o d=some (aQ,f)) (iN:aQ.gZ r q o t'.er=some cu) (cO:da d=true)
  (Jp:(Hs=[t']/\d=t'.er)∨(Hs=[]/\q=[]/\∃ u,t'=.v (f d) u/\bD w (ah C w S (Hs++H)) S d u)):
  ∃ S',Rel C H (w.setCell ⟨b,off+o,none⟩ t'.val) cu aI S'/\iB C w (w.setCell ⟨b,off+o,none⟩ t'.val) S S' (Hs++H) H f/\Sto S S' r q o t' f/\cu.of=st.of:=by
 have hold:st.cell r q o=some t0.er:=by rw [Jh st S h.rt,Fh hR hl,ho]; rfl
 have hHs:ai Hs=t'.ft:=by
  rcases Jp with ⟨rfl,_⟩ | ⟨rfl,_,u,rfl,_⟩
  ·simp [ai]
  ·rfl
 have hq0:q=[]->R.box.isSome=true:=fun e=>by
  subst e;simp only [bZ] at ha;cases hb:R.box with
  | none=>simp [hb] at ha
  | some b=>rfl
 obtain ⟨b',off',fr,ey,fv,XQ,_⟩:=ra h.mem hR hl (fun e=>by subst e; simp at ho) hq0
 rw [ha] at ey;simp only [jf,tE] at ey;obtain ⟨rfl,rfl⟩:=ey;have Va:o < l.length:=(aaa.1 ho).1;have Ya:=acd fv (o:=o) (by omega) t'.val
 generalize tL:w.setCell ⟨b,off+o,none⟩ t'.val=w' at Ya ⊢;have cU:w'.heap.size=w.heap.size:=by rw [<- tL]; simp [World.setCell]
 have mH:w'.os=w.os:=by rw [<- tL]; rfl
 have ri:w'.tape=w.tape:=by rw [<- tL]; rfl
 have sF:w'.output=w.output:=by rw [<- tL]; rfl
 have fin:∀ g:D->D,lO g->(∀ d,g d=d∨(∃ r q o x,d=.ref r q o x)∨∃ r q o,d=.ptr r q o)->gS aQ.rt (fS g S)->((aQ.tm=gn (pI f) st.tm/\aQ.up=st.up.map (gn (pI f)))∨(f=id/\aQ.tm=st.tm/\aQ.up=st.up))->aQ.of=st.of->(∀ i,f (.ptr r q i)=.ptr r q i)->
   (∀ S' t1,kX (fS g S) S' r q o t1 t'->(t1=t0∨(q=[]/\t1=fT g t0))->Wr C w w' S S' (Hs++H) H t1->(∀ d u,bD w (ah C w S (Hs++H)) S d u->bD w' (ah C w' S' H) S' (f d) u)/\(∀ d u,bD w (ah C w S (Hs++H)) S d u->bD w' (ah C w' S' H) S' (g d) u))->
   ∃ S',Rel C H w' cu aI S'/\iB C w w' S S' (Hs++H) H f/\Sto S S' r q o t' f/\cu.of=st.of:=by
  intro g hg GU Yb ai6 Fu ai7 agC;obtain ⟨R1,l1,t1,e1,e2,e3,e4,e5,e6,e7,_⟩:=aag (g:=g) hR hl ho;obtain ⟨S',hc,Tw,Tx,Tz,Fv⟩:=Fo Yb e1 e3 e4 iN;have hgt:t1.ft=t0.ft:=by
   rcases e5 with rfl | ⟨_,rfl⟩
   ·rfl
   ·exact Z5 g t0
  have nK:=Rr h (Tm hg S) hc hgt hR hl ho ha hHs Ya cU mH ri sF;obtain ⟨htf,rn⟩:=agC S' t1 hc e5 nK;have dv:=h.mem.hand;rw [ea] at dv;have db:Mem C w' S' H:=by
   refine U3 h.mem (g:=fp g) (Tm hg S) hc hR (fun e=>?_) (fun _=>ha) Ya ?_ nK.stays nK.nd nK.sub (gH nK.stays _ dv.2 (fun k hk=>nK.new k (by rw [bd]; simp [hk]))) (fun d u hd=>by rw [vl hd]; exact rn d u hd) (fun d u hd=>?_) cU
   ·subst e;simp only [bZ] at ha;cases hb:R.box with
    | none=>simp [hb] at ha
    | some b'=>simp only [hb,OB,jf,tE] at ha; exact ⟨by rw [ha.1],ha.2.symm⟩
   ·rcases Jp with ⟨rfl,_⟩ | ⟨rfl,rfl,u,rfl,hd⟩
    ·left
     have h1:=dv.1;simp only [bJ] at h1;exact dQ nK.stays _ h1.1 (fun k hk=>nK.new k (by rw [bd]; simp [ai,hk]))
    ·right
     have h2:=htf d u hd;have h3:bS (f d)=f d:=by
      cases hx:f d with
      | sl g s n cs=>
       rw [hx] at h2;cases g with
       | none=>simp [bD,Ext] at h2
       | some g=>rfl
      | _=>rfl
     exact ⟨f d,u,rfl,rfl,by rw [h3]; exact h2⟩
   ·exact sE hg GU hd
  refine ⟨S',?_,htf,⟨hc.Fl,ai7,?_,?_⟩,Fv.trans Fu⟩
  ·rcases ai6 with ⟨h1,h2⟩ | ⟨rfl,h1,h2⟩
   ·exact h.step (f:=f) Tw (by rw [Tx,h1]) (by rw [Tz,h2]) htf db nK.kept
   ·exact h.sA Tw (by rw [Tx,h1]) (by rw [Tz,h2]) htf db nK.kept
  ·intro r' q' o' d0 u h3 h4 h1 h2;refine hc.O3 h2 ?_;rw [Dn h1];split
   ·simp only [fT,h4];cases d0<;>first | (simp [sn] at h3; done) | simp [fp,hg.hole,hg.sl]
   ·rfl
  ·intro R2 l2 h1 h2;rw [hR,jf] at h1;subst h1;rw [hl,jf] at h2;subst h2;obtain ⟨R',l',k1,k2,k3,k4,k5⟩:=hc.ai5 e1 e3;exact ⟨R',l',k1,k2.trans e2,k3,k4.trans e6,k5.trans e7⟩
 unfold St.r9 at dX;rw [hold] at dX;simp only [jf] at dX;have hko:=zG r q o true;have dH:=mQ r q o true;have TA:∀ S' t1,kX (fS (cB r q o true) S) S' r q o t1 t'->Wr C w w' S S' (Hs++H) H t1->∀ d u,bD w (ah C w S (Hs++H)) S d u->bD w' (ah C w' S' H) S' (cB r q o true d) u:=
  fun S' t1 hc nK d u hd=>zD nK.stays hc (by simp) (rf dH hd)
 split at dX
 ·rename_i hs;simp only [tE] at dX;obtain ⟨rfl,rfl⟩:=dX;refine fin (cB r q o true) dH hko ?_ (.inl ⟨rfl,rfl⟩) rfl (fun i=>?_) (fun S' t1 hc BA nK=>⟨fun d u hd=>?_,TA S' t1 hc nK⟩)
  ·exact qi dH h.rt
  ·simp only [vx]; exact LA _ _ _ _ _
  ·have he:t1.er=t0.er:=by
    rcases BA with rfl | ⟨_,rfl⟩
    ·rfl
    ·rw [Ok dH];cases hx:t0.er<;>simp [hx,gE] at hs
     simp [fp,dH.sl]
   rw [<- he];obtain ⟨g0,s0,n0,cs0,gK⟩:∃ g s n cs,t0.er=.sl g s n cs:=by
    cases hx:t0.er<;>simp [hx,gE] at hs
    exact ⟨_,_,_,_,rfl⟩
   have dF:=rb h.mem hR hl ho gK;have agD:bI w (ah C w S (Hs++H)) t1:=by
    rcases BA with rfl | ⟨_,rfl⟩
    ·exact dF
    ·cases t0 with
     | own s n cap a xs=>exact dF
     | v d0 u0=>
      simp only [T.er] at gK;simp only [bI,fT] at dF ⊢;rw [dH.leaf,gK];rw [gK] at dF
      simpa [fp,dH.sl] using dF
   exact acb nK.stays hc agD nK.bY (rf dH hd)
 ·rename_i hs;split at dX
  ·simp only [tE] at dX;obtain ⟨rfl,rfl⟩:=dX;refine fin (cB r q o true) dH hko ?_ (.inl ⟨rfl,rfl⟩) rfl (fun i=>LA _ _ _ _ _) (fun S' t1 hc BA nK=>⟨TA S' t1 hc nK,TA S' t1 hc nK⟩);exact qi dH h.rt
  ·rename_i tM;simp only [tE] at dX;obtain ⟨rfl,rfl⟩:=dX;have dZ:∀ S' t1,kX (fS id S) S' r q o t1 t'->Wr C w w' S S' (Hs++H) H t1->∀ d u,bD w (ah C w S (Hs++H)) S d u->bD w' (ah C w' S' H) S' (id d) u:=by
    intro S' t1 hc nK d' u' tH;have ku:∃ d0 u0,t'=.v d0 u0/\sn (bS d0)=none:=by
     have O5:∀ x:D,da x=true->gE x=false->sn (bS x)=none:=by
      intro x h1 h2;cases x<;>first | rfl | (exfalso; simp [da] at h1; done) | (exfalso; simp [gE] at h2; done)
     rcases Jp with ⟨_,rfl⟩ | ⟨_,_,u,rfl,_⟩
     ·cases t' with
      | own s n cap a xs=>simp [T.er,gE] at tM
      | v d0 u0=>
       refine ⟨d0,u0,rfl,?_⟩;simp only [T.er] at tM cO;have:=O5 (bS d0) cO (by simpa using tM)
       rwa [Er] at this
     ·exact ⟨_,_,rfl,O5 _ cO (by simpa using tM)⟩
    obtain ⟨d0,u0,rfl,hn⟩:=ku;exact OT nK.stays hc (.inl hn) (rf Jo tH)
   refine fin id Jo (fun _=>.inl rfl) (acf h.rt) (.inr ⟨rfl,rfl,rfl⟩) rfl (fun _=>rfl) (fun S' t1 hc BA nK=>⟨dZ S' t1 hc nK,dZ S' t1 hc nK⟩)
end
section
variable {P:Program} {w:World}
theorem o5 {b off fr:Nat} {us:List Value} (hb:lR w b off fr us) {o:Nat} (ho:o < fr) {v:Value} (h1:v.oneCell'=true):(store ⟨b,off+o,none⟩ v).run P w=.ok () (w.setCell ⟨b,off+o,none⟩ v):=by
 obtain ⟨u,hu⟩:=GB hb ho;rw [run_store P w _ v _ h1,hu];simp [GA hb ho]
theorem O6 {b off:Nat} {v:Value} (h:w.cell? ⟨b,off,none⟩=some v):w.setCell ⟨b,off,none⟩ v=w:=by
 have hh:(w.setCell ⟨b,off,none⟩ v).heap=w.heap:=by
  apply Array.ext_getElem?;intro k;simp only [World.setCell,abR];split
  ·rename_i hk;subst hk;cases hx:w.heap[b]? with
   | none=>rfl
   | some ob=>
    cases ob with
    | cells c e fz=>
     simp only [World.cell?,hx] at h;simp only [OB,Option.isSome_none,aai,if_false]
     congr 2
     simp at h;apply Array.ext_getElem?;intro j;rw [ad3];split
     ·rename_i hj;subst hj;split
      ·exact h.symm
      ·rename_i dg;rw [abT (by omega)] at h
       simp at h
     ·rfl
    | _=>rfl
  ·rfl
 have:w.setCell ⟨b,off,none⟩ v={ w with heap:=(w.setCell ⟨b,off,none⟩ v).heap }:=rfl
 rw [this,hh]
end
theorem O7 {S:List (Nat × RT)} {r':Nat} {q':List Nat} {o':Nat} {d0:D} {u0:Value} (h0:cD S r' q' o'=some (.v d0 u0)) {r:Nat} {q:List Nat} {o:Nat} {t:T} (h1:cD S r q o=some t) (r1:Nat) (q1:List Nat) (o1 i:Nat):
  sm r' q' o' r1 q1 o1 (.ptr r q i)=.ptr r q i/\cB r' q' o' true (.ptr r q i)=.ptr r q i:=by
 have zJ:r=r'->under (q'++[o']) q=none:=by
  intro e;subst e;cases hu:under (q'++[o']) q with
  | none=>rfl
  | some y=>
   have:=jE hu;unfold cD at h0 h1;cases hr:lk S r with
   | none=>simp [hr] at h0
   | some R=>
    simp only [hr] at h0 h1;cases hc:ay R.cs q' with
    | none=>simp [hc] at h0
    | some l=>
     simp only [hc] at h0;rw [this,aay,abp,GK hc h0] at h1;simp at h1
 simp only [sm,cB];by_cases e:r=r'
 ·simp only [if_pos e,zJ e];exact ⟨trivial,trivial⟩
 ·simp only [if_neg e];exact ⟨trivial,trivial⟩
section
variable {C:Ctx} {Hx:List T} {H:List T} {w:World} {st:St} {aI:List (Array Value)} {S:List (Nat × RT)}
theorem Jq (h:Rel C H w st aI S) (r:Nat) (q:List Nat) (o:Nat) (e:Bool):Rel C H w (st.eZ (cB r q o e)) aI (fS (cB r q o e) S)/\iB C w w S (fS (cB r q o e) S) H H (cB r q o e):=by
 refine Sf h (mQ r q o e) (fun d u hd=>?_) (fun d u hd=>sE (mQ r q o e) (zG r q o e) hd) (fun d u hd=>vl hd);have h1:=rf (mQ r q o e) hd;cases d with
 | ref r' q' o' x=>
  simp only [cB];split
  ·split
   ·exact h1
   ·split
    ·simp [bD,Ext]
    ·exact h1
   ·simp [bD,Ext]
  ·exact h1
 | ptr r' q' o'=>
  simp only [cB];split
  ·split
   ·exact h1
   ·simp [bD,Ext]
  ·exact h1
 | _=>exact h1
theorem Vb (r:Nat) (q:List Nat) (o r1:Nat) (q1:List Nat) (o1:Nat) (d:D):sm r q o r1 q1 o1 d=d∨(∃ r q o x,d=.ref r q o x)∨∃ r q o,d=.ptr r q o:=by
 cases d<;>first | exact .inl rfl | exact .inr (.inl ⟨_,_,_,_,rfl⟩) | exact .inr (.inr ⟨_,_,_,rfl⟩)
theorem O8 (h:Rel C H w st aI S) {r':Nat} {q':List Nat} {o':Nat} {d0:D} {u0:Value} (h0:cD S r' q' o'=some (.v d0 u0)) {r:Nat} {q:List Nat} {o:Nat} {t:T} (h1:cD S r q o=some t) (hl:lN (.v d0 u0) t):
  Rel C H w (st.eZ (sm r' q' o' r q o)) aI (fS (sm r' q' o' r q o) S)/\iB C w w S (fS (sm r' q' o' r q o) S) H H (sm r' q' o' r q o):=by
 have fX:=Bu r' q' o' r q o;refine Sf h fX (fun d u hd=>?_) (fun d u hd=>sE fX (Vb r' q' o' r q o) hd) (fun d u hd=>vl hd);have h2:=rf fX hd;cases d with
 | ref r2 q2 o2 x=>
  simp only [sm];split
  ·rename_i e;subst e;split
   ·exact h2
   ·rename_i hu;have e1:=jE hu;simp only [aah] at e1;obtain ⟨rfl,e2⟩:=List.append_inj' e1 rfl;simp only [aaF,and_true] at e2;subst e2;refine rf fX ?_;intro t2 Sj;rw [h1,jf] at Sj;subst Sj;exact kW hl (hd _ h0)
   ·simp [bD,Ext]
  ·exact h2
 | ptr r2 q2 o2=>
  simp only [sm];split
  ·split
   ·exact h2
   ·simp [bD,Ext]
  ·exact h2
 | _=>exact h2
theorem Vc (gq:gS st.rt S) (hm:Mem C w S Hx) {d:D} {u:Value} (hd:cx w (ah C w S Hx) S d u) (cS:(∀ cs,d≠.agg cs)->fW st d=true):cm (bD w (ah C w S Hx) S) (cellsOf d) u.cells.toList:=by
 by_cases ha:∃ cs,d=.agg cs
 ·obtain ⟨cs,rfl⟩:=ha;obtain ⟨us,rfl,h⟩:=hd;exact h
 ·refine Ft gq hm hd (fun x hx=>?_);have hc:cellsOf d=[d]:=by cases d<;>first | rfl | exact absurd ⟨_,rfl⟩ ha
  rw [hc] at hx;simp only [abk] at hx;subst hx;exact cS (fun cs e=>ha ⟨cs,e⟩)
end
theorem yy {st:St} {d:D} (h:fW st d=true):da d=true:=by
 cases d<;>first | rfl | exact h
section
variable {P:Program} {C:Ctx} {Hx:List T} {aI:List (Array Value)}
theorem Rs:∀ {ds:List D} {us:List Value} {w:World} {st st':St} {S:List (Nat × RT)} {r o:Nat} {h:D->D} {b off i:Nat},Rel C Hx w st aI S->(∃ R,lk S r=some R/\R.box=some b)->cm (fun d u=>bD w (ah C w S Hx) S (h d) u) ds us->o=off+i->nZ st r o h ds=some st'->
  ∃ w' S',(storeCells ⟨b,off,none⟩ us i).run P w=.ok () w'/\Rel C Hx w' st' aI S'/\st'.of=st.of:=by
 intro ds
 induction ds with
 | nil=>
  intro us w st st' S r o h b off i hr _ hu _ hs;cases hu;simp only [nZ,jf] at hs;subst hs;exact ⟨w,S,rfl,hr,rfl⟩
 | cons d ds ih=>
  intro us w st st' S r o h b off i hr rk hu BB hs;cases hu with
  | cons tK Et=>
  rename_i u us;simp only [nZ] at hs;split at hs
  ·simp at hs
  rename_i cS;simp only [abb,aeg] at cS;split at hs
  case h_2=>simp at hs
  rename_i aQ f dX;split at hs
  case h_2=>simp at hs
  rename_i cu iN;obtain ⟨R,hR,hb⟩:=rk;obtain ⟨h1,_⟩:=O2 hr.rt hr.mem tK cS;have cO:∃ t0,R.cs[o]?=some t0:=by
   unfold St.r9 at dX;cases hx:st.cell r [] o with
   | none=>simp [hx] at dX
   | some bY=>
    obtain ⟨R',l,t,g1,g2,g3,_⟩:=iM hr.rt hx;rw [hR,jf] at g1;subst g1;simp only [ay,jf] at g2;subst g2;exact ⟨t,g3⟩
  obtain ⟨t0,ho⟩:=cO;have ha:bZ R.box R.cs []=some (b,0):=by simp [bZ,hb]
  obtain ⟨b',off',fr,ey,fv,XQ,_⟩:=ra hr.mem hR (q:=[]) rfl (fun e=>by rw [e] at ho; simp at ho) (fun _=>by rw [hb]; rfl)
  rw [ha] at ey;simp only [jf,tE] at ey;obtain ⟨rfl,rfl⟩:=ey;have Va:o < R.cs.length:=(aaa.1 ho).1;have eB:=o5 (P:=P) fv (o:=o) (by omega) h1
  have hfd:bS (f (h d))=f (h d):=by
   have key:∀ x:D,da x=true->bS x=x->bS (f x)=f x:=by
    intro x hx GV;unfold St.r9 at dX;cases hy:st.cell r [] o with
    | none=>simp [hy] at dX
    | some bY=>
     simp only [hy,jf] at dX;have hk:bS (cB r [] o true x)=cB r [] o true x:=by
      cases x with
      | ref r' q' o' y=>simp only [cB]; split<;>(try split)<;>(try split)<;>rfl
      | ptr r' q' o'=>simp only [cB]; split<;>(try split)<;>rfl
      | _=>exact GV
     split at dX
     ·simp only [tE] at dX;obtain ⟨_,rfl⟩:=dX;cases x with
      | ref r' q' o' y=>
       simp only [vx];split
       ·split
        ·rfl
        ·split
         ·exact (by rename_i g _ _ _ _; cases g<;>rfl)
         ·rfl
       ·rfl
      | _=>exact hk
     ·split at dX
      ·simp only [tE] at dX;obtain ⟨_,rfl⟩:=dX;exact hk
      ·simp only [tE] at dX;obtain ⟨_,rfl⟩:=dX;exact GV
   refine key _ (yy cS) ?_;cases hx:h d with
   | sl g s n cs=>
    rw [hx] at tK;cases g with
    | none=>simp [bD,Ext] at tK
    | some g=>rfl
   | _=>rfl
  obtain ⟨S',a1,a2,a3,a4⟩:=Bz (Hs:=[]) (H:=Hx) (t':=.v (f (h d)) u) hr hR rfl ho ha dX (by simp only [T.er]; rw [hfd]; exact iN) (yy cS) (.inr ⟨rfl,rfl,u,rfl,tK⟩)
  simp only [T.val,abn] at a1 a2;simp only [abn] at eB;obtain ⟨R',l',k1,k2,_⟩:=a3.path hR (q:=[]) rfl;obtain ⟨w',AA,c1,c2,c3⟩:=ih (i:=i+1) (o:=o+1) (off:=off) (h:=fun x=>f (h x)) a1 ⟨R',k1,k2.trans hb⟩ (Et.mono (fun _ _ hh=>a2 _ _ hh)) (by omega) hs
  refine ⟨w',AA,?_,c2,c3.trans a4⟩;rw [storeCells];simp only [Sem.run_bind,eV];rw [<- BB,eB];exact c1
theorem O9:∀ {ts:List T} {w:World} {st st':St} {S:List (Nat × RT)} {r o:Nat} {b off i:Nat},Rel C (ts++Hx) w st aI S->(∃ R,lk S r=some R/\R.box=some b)->o=off+i->oa st r o (ba ts)=some st'->
  ∃ w' S',(storeCells ⟨b,off,none⟩ (ax ts) i).run P w=.ok () w'/\Rel C Hx w' st' aI S'/\st'.of=st.of:=by
 intro ts
 induction ts with
 | nil=>
  intro w st st' S r o b off i hr _ _ hs;simp only [ba,oa,jf] at hs;subst hs;exact ⟨w,S,rfl,hr,rfl⟩
 | cons t ts ih=>
  intro w st st' S r o b off i hr rk BB hs;simp only [ba,oa] at hs;split at hs
  ·simp at hs
  rename_i cS;simp only [abb,aeg] at cS;split at hs
  case h_2=>simp at hs
  rename_i aQ f dX;split at hs
  case h_2=>simp at hs
  rename_i cu iN;obtain ⟨R,hR,hb⟩:=rk;have dv:=hr.mem.hand;simp only [aao,bJ] at dv;obtain ⟨h1,_⟩:=mR dv.1 cS;have cO:∃ t0,R.cs[o]?=some t0:=by
   unfold St.r9 at dX;cases hx:st.cell r [] o with
   | none=>simp [hx] at dX
   | some bY=>
    obtain ⟨R',l,t,g1,g2,g3,_⟩:=iM hr.rt hx;rw [hR,jf] at g1;subst g1;simp only [ay,jf] at g2;subst g2;exact ⟨t,g3⟩
  obtain ⟨t0,ho⟩:=cO;have ha:bZ R.box R.cs []=some (b,0):=by simp [bZ,hb]
  obtain ⟨b',off',fr,ey,fv,XQ,_⟩:=ra hr.mem hR (q:=[]) rfl (fun e=>by rw [e] at ho; simp at ho) (fun _=>by rw [hb]; rfl)
  rw [ha] at ey;simp only [jf,tE] at ey;obtain ⟨rfl,rfl⟩:=ey;have Va:o < R.cs.length:=(aaa.1 ho).1;have eB:=o5 (P:=P) fv (o:=o) (by omega) h1
  obtain ⟨S',a1,a2,a3,a4⟩:=Bz (Hs:=[t]) (H:=ts++Hx) (t':=t) hr hR rfl ho ha dX iN cS (.inl ⟨rfl,rfl⟩);simp only [abn] at a1 a2;simp only [abn] at eB;obtain ⟨R',l',k1,k2,_⟩:=a3.path hR (q:=[]) rfl;obtain ⟨w',AA,c1,c2,c3⟩:=ih (i:=i+1) (o:=o+1) (off:=off) a1 ⟨R',k1,k2.trans hb⟩ (by omega) hs
  refine ⟨w',AA,?_,c2,c3.trans a4⟩;rw [ax,storeCells];simp only [Sem.run_bind,eV];rw [<- BB,eB];exact c1
end
theorem BC {r:Nat} {q:List Nat} {o:Nat} {x:D} {r':Nat} {q':List Nat} {o':Nat} {y:Option (Nat × Nat)} (h:cB r q o true x=.ref r' q' o' y):x=.ref r' q' o' y/\(r'≠r∨under (q++[o]) (q'++[o'])=none):=by
 cases x with
 | ref r2 q2 o2 x2=>
  simp only [cB] at h;split at h
  ·split at h
   ·rename_i hu;simp only [D.ref.injEq] at h;obtain ⟨rfl,rfl,rfl,rfl⟩:=h;exact ⟨rfl,.inr hu⟩
   ·simp at h
   ·simp at h
  ·rename_i cX;simp only [D.ref.injEq] at h;obtain ⟨rfl,rfl,rfl,rfl⟩:=h;exact ⟨rfl,.inl cX⟩
 | ptr r2 q2 o2=>
  simp only [cB] at h;split at h
  ·split at h<;>simp at h
  ·simp at h
 | _=>simp [cB] at h
theorem Pb {r:Nat} {q:List Nat} {o:Nat} {bY x:D} {r':Nat} {q':List Nat} {o':Nat} {y:Option (Nat × Nat)} (h:vx r q o bY x=.ref r' q' o' y):x=.ref r' q' o' y/\(r'≠r∨under (q++[o]) (q'++[o'])=none):=by
 cases x with
 | ref r2 q2 o2 x2=>
  simp only [vx] at h;split at h
  ·split at h
   ·rename_i hu;simp only [D.ref.injEq] at h;obtain ⟨rfl,rfl,rfl,rfl⟩:=h;exact ⟨rfl,.inr hu⟩
   ·split at h
    ·rename_i g s n cs _;cases g<;>simp [fC] at h
    ·simp at h
  ·rename_i cX;simp only [D.ref.injEq] at h;obtain ⟨rfl,rfl,rfl,rfl⟩:=h;exact ⟨rfl,.inl cX⟩
 | _=>exact BC h
theorem acg {st aQ:St} {r:Nat} {q:List Nat} {o:Nat} {d:D} {f:D->D} (h:st.r9 r q o d=some (aQ,f)) (hd:gE d=true) {x:D} {r':Nat} {q':List Nat} {o':Nat} {y:Option (Nat × Nat)} (hx:f x=.ref r' q' o' y):x=.ref r' q' o' y/\(r'≠r∨under (q++[o]) (q'++[o'])=none):=by
 unfold St.r9 at h;split at h
 case h_2=>simp at h
 simp only [jf] at h;split at h
 ·simp only [tE] at h;obtain ⟨_,rfl⟩:=h;exact Pb hx
 ·try rw [if_pos hd] at h
  simp only [hd,if_true,tE] at h;obtain ⟨_,rfl⟩:=h;exact BC hx
theorem Vd {st st':St} {r:Nat} {q:List Nat} {o:Nat} {x:Option (Nat × Nat)} {d:D} (h:jh st (.ref r q o x)=some (d,st')):gE d=true:=by
 simp only [jh] at h;split at h
 ·split at h
  ·simp only [jf,tE] at h;rw [<- h.1]; rfl
  ·simp at h
 ·simp only [jf,tE] at h;rw [<- h.1]; rfl
 ·simp at h
section
variable {P:Program} {C:Ctx} {Hx:List T} {aI:List (Array Value)}
theorem EB:∀ {ds:List D} {us:List Value} {w:World} {st st':St} {S:List (Nat × RT)} {r:Nat} {q:List Nat} {o:Nat} {h:D->D} {b off0 off i:Nat},Rel C Hx w st aI S->bD w (ah C w S Hx) S (.ptr r q 0) (.pointer (some ⟨b,off0,none⟩))->cm (fun d u=>bD w (ah C w S Hx) S (h d) u) ds us->off+i=off0+o->fE st r q o h ds=some st'->
  ∃ w' S',(storeCells ⟨b,off,none⟩ us i).run P w=.ok () w'/\Rel C Hx w' st' aI S'/\st'.of=st.of:=by
 intro ds
 induction ds with
 | nil=>
  intro us w st st' S r q o h b off0 off i hr _ hu _ hs;cases hu;simp only [fE,jf] at hs;subst hs;exact ⟨w,S,rfl,hr,rfl⟩
 | cons d ds ih=>
  intro us w st st' S r q o h b off0 off i hr hp hu BB hs;cases hu with
  | cons tK Et=>
  rename_i u us;have place:∀ {H:List T} {st0:St} {S0:List (Nat × RT)},Rel C H w st0 aI S0->bD w (ah C w S0 H) S0 (.ptr r q 0) (.pointer (some ⟨b,off0,none⟩))->∀ {bY:D},st0.cell r q o=some bY->
    ∃ R l t0 fr,lk S0 r=some R/\ay R.cs q=some l/\l[o]?=some t0/\t0.er=bY/\bZ R.box R.cs q=some (b,off0)/\lR w b off0 fr (ax l)/\o < fr:=by
   intro H st0 S0 Sk Pc bY hc;obtain ⟨R,l,t0,g1,g2,g3,g4,g5⟩:=iM Sk.rt hc;obtain ⟨xq,xd⟩:=Pc R g1;obtain ⟨b',off',fr,k1,k2,k3,_⟩:=ra Sk.mem g1 g2 (fun e=>by subst e; simp at g3) xq
   have:=xd b' off' k1;simp only [Value.pointer.injEq,jf,Addr.mk.injEq,aeH,and_true] at this;obtain ⟨rfl,rfl⟩:=this;exact ⟨R,l,t0,fr,g1,g2,g3,g5.symm,k1,k2,by have:=(aaa.1 g3).1; omega⟩
  simp only [fE] at hs;split at hs
  ·rename_i yz;simp only [Bh] at yz;obtain ⟨yz,cS⟩:=yz;have hd:h d=.ref r q o none:=by
    cases hx:h d with
    | ref r2 q2 o2 x2=>
     rw [hx] at yz;cases x2 with
     | none=>
      simp only [Bk,Bh,decide_eq_true_eq] at yz;obtain ⟨⟨rfl,rfl⟩,rfl⟩:=yz;rfl
     | some p=>simp [Bk] at yz
    | _=>rw [hx] at yz; simp [Bk] at yz
   rw [hd] at cS tK;obtain ⟨h1,_⟩:=O2 hr.rt hr.mem tK cS;simp only [fW] at cS;split at cS
   case h_2=>simp at cS
   rename_i g s n cs hc;obtain ⟨R,l,t0,fr,g1,g2,g3,g4,g5,g6,g7⟩:=place hr hp hc;have BD:u=t0.val:=by
    have:=tK t0 (by rw [Fh g1 g2]; exact g3)
    unfold eM at this;rw [g4] at this;exact this
   have eB:=o5 (P:=P) g6 g7 h1;rw [O6 (by rw [BD]; exact mO g6 (by rw [fq,g3]; rfl))] at eB
   obtain ⟨w',S',c1,c2,c3⟩:=ih (i:=i+1) (o:=o+1) (off:=off) hr hp Et (by omega) hs
   refine ⟨w',S',?_,c2,c3⟩;rw [storeCells];simp only [Sem.run_bind,eV];rw [BB,eB];exact c1
  ·split at hs
   case h_2=>simp at hs
   rename_i d' aQ dH;split at hs
   ·simp at hs
   rename_i gU;simp only [abb,aeg] at gU;split at hs
   case h_2=>simp at hs
   rename_i cu f dX;split at hs
   case h_2=>simp at hs
   rename_i Eo iN;obtain ⟨t,S1,a1,rfl,a3,a4,a5,a6,a7⟩:=vk hr tK dH;have hp1:=a4 _ _ hp;have cO:∃ bY,aQ.cell r q o=some bY:=by
    unfold St.r9 at dX;cases hx:aQ.cell r q o with
    | none=>simp [hx] at dX
    | some bY=>exact ⟨bY,rfl⟩
   obtain ⟨bY,cO⟩:=cO;obtain ⟨R,l,t0,fr,g1,g2,g3,g4,g5,g6,g7⟩:=place a1 hp1 cO;have dv:=a1.mem.hand;simp only [bJ] at dv;obtain ⟨h1,_⟩:=mR dv.1 gU;have eB:=o5 (P:=P) g6 g7 h1;obtain ⟨S2,b1,b2,b3,b4⟩:=Bz (Hs:=[t]) (H:=Hx) (t':=t) a1 g1 g2 g3 g5 dX iN gU (.inl ⟨rfl,rfl⟩);rw [a3] at eB b1 b2;generalize tL:w.setCell ⟨b,off0+o,none⟩ u=w1 at eB b1 b2;have Sl:=b2 _ _ hp1;rw [b3.ptr] at Sl;have aee:∃ S3,Rel C Hx w1 (Eo.tj (f (h d)) r q o) aI S3/\iB C w1 w1 S2 S3 Hx Hx (vy (f (h d)) r q o)/\vy (f (h d)) r q o (.ptr r q 0)=.ptr r q 0/\(Eo.tj (f (h d)) r q o).of=Eo.of:=by
    cases hx:f (h d) with
    | ref r' q' o' y=>
     have hh:gE t.er=true:=by
      cases hd:h d with
      | ref r2 q2 o2 x2=>rw [hd] at dH; exact Vd dH
      | _=>
       exfalso;rw [hd] at hx;unfold St.r9 at dX;rw [cO] at dX;simp only [jf] at dX;split at dX
       ·simp only [tE] at dX;obtain ⟨_,rfl⟩:=dX;have:=(Pb hx).1;simp at this
       ·split at dX
        ·simp only [tE] at dX;obtain ⟨_,rfl⟩:=dX;have:=(BC hx).1;simp at this
        ·simp only [tE] at dX;obtain ⟨_,rfl⟩:=dX;simp at hx
     obtain ⟨hd,Fc⟩:=acg dX hh hx;obtain ⟨d0,u0,k1,k2,k3,k4⟩:=a7 r' q' o' y hd;have zK:=b3.hole r' q' o' d0 u0 k1 k2 k3 Fc;cases y with
     | none=>
      obtain ⟨m1,m2⟩:=O8 b1 zK b3.new (k4 rfl);exact ⟨_,m1,m2,(O7 zK b3.new r q o 0).1,rfl⟩
     | some y=>
      obtain ⟨m1,m2⟩:=Jq b1 r' q' o' true;exact ⟨_,m1,m2,(O7 zK b3.new r q o 0).2,rfl⟩
    | _=>exact ⟨S2,b1,fun _ _ hh=>hh,rfl,rfl⟩
   obtain ⟨S3,c1,c2,c3,c4⟩:=aee;have hp3:=c2 _ _ Sl;rw [c3] at hp3;obtain ⟨w',S',e1,e2,e3⟩:=ih (i:=i+1) (o:=o+1) (off:=off) (h:=fun x=>vy (f (h d)) r q o (f (h x))) c1 hp3 (Et.mono (fun _ _ hh=>c2 _ _ (b2 _ _ (a4 _ _ hh)))) (by omega) hs
   refine ⟨w',S',?_,e2,e3.trans (c4.trans (b4.trans a6.2.2))⟩;rw [storeCells];simp only [Sem.run_bind,eV];rw [BB,eB];exact e1
theorem Mw {st st':St} {r:Nat}:∀ {ds:List D} {st st':St} {o:Nat},oa st r o ds=some st'->∀ d∈ds,da d=true:=by
 intro ds
 induction ds with
 | nil=>intro st st' o _ d hd; simp at hd
 | cons d ds ih=>
  intro st st' o hs x hx;simp only [oa] at hs;split at hs
  ·simp at hs
  rename_i cS;simp only [abb,aeg] at cS;split at hs
  case h_2=>simp at hs
  split at hs
  case h_2=>simp at hs
  rcases aap.1 hx with rfl | hx
  ·exact cS
  ·exact ih hs x hx
theorem Ve {c:cA} (aw:eu c P) {w:World} {st st':St} {S:List (Nat × RT)} (h:Rel C Hx w st aI S) {t:TypeId} {i:TI} (ht:c.ty t=some i) {a v:D} {ua uv:Value} (ha:cx w (ah C w S Hx) S a ua) (hv:cx w (ah C w S Hx) S v uv) {qY:Nat->Bool} (hs:vz st qY i.size a v=some st'):
  ∃ w' S',(Instr.storeAt t ua uv).run P w=.ok () w'/\Rel C Hx w' st' aI S'/\st'.of=st.of:=by
 cases a with
 | ptr r q o=>
  simp only [vz] at hs;split at hs
  case isFalse=>simp at hs
  rename_i hc;obtain ⟨hlen,nL⟩:=hc;obtain ⟨R,b,off,hR,Dq,rfl⟩:=sw h.rt h.mem nL ha;have cU:=(aw.ty _ _ ht).sz w;have hp:bD w (ah C w S Hx) S (.ptr r q 0) (.pointer (some ⟨b,off,none⟩)):=by
   intro R' dV;rw [hR,jf] at dV;subst dV;refine ⟨(ha R hR).1,fun b' off' e=>?_⟩;rw [Dq,jf,tE] at e;obtain ⟨rfl,rfl⟩:=e;rfl
  have hsa:∀ A:Addr,(Instr.sureAddr (.pointer (some A))).run P w=.ok A w:=fun A=>rfl;have run:∀ {us:List Value} {w':World},uv.cells.toList=us->us.length=i.size->(storeCells ⟨b,off+o,none⟩ us 0).run P w=.ok () w'->(Instr.storeAt t (.pointer (some ⟨b,off+o,none⟩)) uv).run P w=.ok () w':=by
   intro us w' e1 e2 e3;have e4:uv.cells.size=i.size:=by rw [<- e2,<- e1]; simp
   simp only [Instr.storeAt,Sem.run_bind,hsa,Result.andThen_ok,storeVar,cU];simp only [e4,ne_eq,not_true_eq_false,if_false,Sem.run_bind,Sem.run_pure,Result.andThen_ok,e1];exact e3
  have ku:∀ {ds:List D},nZ st r o id ds=some st'∨fE st r q o id ds=some st'->ds=cellsOf v->(∀ cs,v≠.agg cs)->fW st v=true∨∃ d' aQ,jh st v=some (d',aQ)/\da d'=true:=by
   intro ds h1 h2 h3;have hc:cellsOf v=[v]:=by cases v<;>first | rfl | exact absurd rfl (h3 _)
   rw [hc] at h2;subst h2;rcases h1 with h1 | h1
   ·simp only [nZ,id] at h1;split at h1
    ·simp at h1
    rename_i cS;simp only [abb,aeg] at cS;exact .inl cS
   ·simp only [fE,id] at h1;split at h1
    ·rename_i hh;simp only [Bh] at hh;exact .inl hh.2
    split at h1
    case h_2=>simp at h1
    rename_i d' aQ dH;split at h1
    ·simp at h1
    rename_i gU;simp only [abb,aeg] at gU;exact .inr ⟨d',aQ,dH,gU⟩
  have pL:∀ {ds:List D},nZ st r o id ds=some st'∨fE st r q o id ds=some st'->ds=cellsOf v->cm (bD w (ah C w S Hx) S) (cellsOf v) uv.cells.toList:=by
   intro ds h1 h2;by_cases ew:∃ cs,v=.agg cs
   ·obtain ⟨cs,rfl⟩:=ew;obtain ⟨us,rfl,hh⟩:=hv;exact hh
   ·have h3:∀ cs,v≠.agg cs:=fun cs e=>ew ⟨cs,e⟩;rcases ku h1 h2 h3 with h4 | ⟨d',aQ,h4,h5⟩
    ·exact Vc h.rt h.mem hv (fun _=>h4)
    ·have hc:cellsOf v=[v]:=by cases v<;>first | rfl | exact absurd rfl (h3 _)
     have lV:bD w (ah C w S Hx) S v uv:=by
      cases v<;>first | exact hv | (simp [jh] at h4; done) | exact absurd rfl (h3 _)
     obtain ⟨t',S1,a1,rfl,a3,_⟩:=vk h lV h4;have dv:=a1.mem.hand;simp only [bJ] at dv;have:=(mR dv.1 h5).2;rw [a3] at this;rw [hc,this];exact .cons lV .nil
  cases q with
  | nil=>
   have hb:∃ b',R.box=some b'/\b'=b/\off=0:=by
    simp only [bZ] at Dq;cases hx:R.box with
    | none=>simp [hx] at Dq
    | some b'=>simp only [hx,OB,jf,tE] at Dq; exact ⟨b',rfl,Dq.1,Dq.2.symm⟩
   obtain ⟨b',hb,rfl,rfl⟩:=hb;simp only at hs;split at hs
   ·split at hs
    case h_2=>simp at hs
    rename_i cs aQ dH;obtain ⟨ts,S1,b1,rfl,b3,b4,b5,b6⟩:=rm h hv dH;have X9:=Mw (st:=aQ) (st':=st') hs;obtain ⟨R1,k1,k2,_⟩:=b5.fwd r R hR;have dF:=((ea _ _).1 b1.mem.hand).1;rw [cj] at dF;have hI:ax ts=uv.cells.toList:=by
     by_cases ew:∃ cs,v=.agg cs
     ·obtain ⟨cs,rfl⟩:=ew;exact b3
     ·have BE:hL v uv=[uv]:=by cases v<;>first | rfl | exact absurd ⟨_,rfl⟩ ew
      rw [BE] at b3;rw [b3];cases ts with
      | nil=>simp [ax] at b3
      | cons y ys=>
       simp only [ax,aaF] at b3;have:=mR (dF y (by simp)) (X9 y.er (by simp [ba]))
       rw [b3.1] at this;rw [this.2]
    have GW:(ba ts).length=i.size:=by
     rw [<- hlen];have h1:=congrArg List.length hI;rw [bV] at h1;rw [fu,h1];by_cases ew:∃ cs,v=.agg cs
     ·obtain ⟨cs,rfl⟩:=ew;obtain ⟨us,rfl,hh⟩:=hv;have:=hh.len;simp only [cellsOf,Value.cells];exact this.symm
     ·have BE:hL v uv=[uv]:=by cases v<;>first | rfl | exact absurd ⟨_,rfl⟩ ew
      have mI:cellsOf v=[v]:=by cases v<;>first | rfl | exact absurd ⟨_,rfl⟩ ew
      rw [BE] at b3;rw [<- hI,b3,mI]; rfl
    obtain ⟨w',S',c1,c2,c3⟩:=O9 (P:=P) (b:=b') (off:=0+o) (i:=0) b1 ⟨R1,k1,k2.trans hb⟩ (by omega) hs
    refine ⟨w',S',?_,c2,c3.trans b6.2.2⟩;exact run hI.symm (by rw [bV]; rw [fu] at GW; exact GW) c1
   ·have dR:=pL (.inl hs) rfl;obtain ⟨w',S',c1,c2,c3⟩:=Rs (P:=P) (b:=b') (off:=0+o) (i:=0) h ⟨R,hR,hb⟩ dR (by omega) hs
    exact ⟨w',S',run rfl (by rw [<- dR.len]; exact hlen) c1,c2,c3⟩
  | cons p q=>
   simp only at hs;have dR:=pL (.inr hs) rfl;obtain ⟨w',S',c1,c2,c3⟩:=EB (P:=P) (b:=b) (off0:=off) (off:=off+o) (i:=0) h hp dR (by omega) hs
   exact ⟨w',S',run rfl (by rw [<- dR.len]; exact hlen) c1,c2,c3⟩
 | _=>simp [vz] at hs
end
theorem iR {b:Nat}:∀ (vs:List Value) (o:Nat) (w:World) {c:Array Value} {e:TypeId} {fz:Nat × Nat},w.heap[b]?=some (.cells c e fz)->o+vs.length<=c.size->
  ∃ c':Array Value,(w.setCells b o vs).heap[b]?=some (.cells c' e fz)/\c'.size=c.size/\(∀ (j:Nat) (u:Value),vs[j]?=some u->c'[o+j]?=some u)/\(∀ i,i < o∨o+vs.length<=i->c'[i]?=c[i]?)/\(∀ k,k≠b->(w.setCells b o vs).heap[k]?=w.heap[k]?)/\
   (w.setCells b o vs).heap.size=w.heap.size/\(w.setCells b o vs).os=w.os/\(w.setCells b o vs).tape=w.tape/\(w.setCells b o vs).output=w.output
 | [],o,w,c,e,fz,h,_=>⟨c,h,rfl,by simp,fun _ _=>rfl,fun _ _=>rfl,rfl,rfl,rfl,rfl⟩
 | v::vs,o,w,c,e,fz,h,hl=>by
  have h1:(w.setCell ⟨b,o,none⟩ v).heap[b]?=some (.cells (c.setIfInBounds o v) e fz):=by
   simp [World.setCell,abR,h]
  simp only [aa7] at hl;obtain ⟨c',g1,g2,g3,g4,g5,g6,g7,g8,g9⟩:=iR vs (o+1) (w.setCell ⟨b,o,none⟩ v) h1 (by simp; omega)
  refine ⟨c',g1,by rw [g2]; simp,?_,?_,?_,?_,g7,g8,g9⟩
  ·intro j u hj;cases j with
   | zero=>
    simp only [aaz,jf] at hj;subst hj;rw [aeH,g4 o (.inl (by omega)),Array.getElem?_setIfInBounds_self_of_lt (by omega)]
   | succ j=>
    simp only [aaZ] at hj;have:=g3 j u hj;rw [show o+(j+1)=o+1+j by omega]; exact this
  ·intro i hi;rw [g4 i (by simp only [aa7] at hi; omega),Array.getElem?_setIfInBounds_ne (by simp only [aa7] at hi; omega)]
  ·intro k hk;rw [World.setCells,g5 k hk];simp only [World.setCell,abR];rw [if_neg (by simpa using aeR hk)]
  ·rw [World.setCells,g6]; simp [World.setCell]
section
variable {C:Ctx} {H:List T} {w:World} {st st':St} {aI:List (Array Value)} {S:List (Nat × RT)}
theorem Vf {Ys:List T} {s n cap m b off:Nat} {ts:List T} (h:Rel C (Ys++.own s n cap (some (b,off)) ts::H) w st aI S) (hm:Ys.length=m*s) (hc:n+m<=cap):
  Rel C (.own s (n+m) cap (some (b,off)) (ts++Ys)::H) (w.setCells b (off+n*s) (ax Ys)) st aI S/\
  iB C w (w.setCells b (off+n*s) (ax Ys)) S S (Ys++.own s n cap (some (b,off)) ts::H) (.own s (n+m) cap (some (b,off)) (ts++Ys)::H) id:=by
 have dv:=h.mem.hand;rw [ea] at dv;obtain ⟨hY,hT⟩:=dv;simp only [bJ,bI] at hT;obtain ⟨⟨h1,h2,fv,h4⟩,hH⟩:=hT;obtain ⟨c,e,fz,g1,g2,g3,g4⟩:=fv;have hmul:n*s+m*s<=cap*s:=by rw [<- abw]; exact aaQ _ hc
 obtain ⟨c',k1,k2,k3,k4,k5,k6,k7,k8,k9⟩:=iR (ax Ys) (off+n*s) w g1 (by rw [bV,hm]; omega)
 generalize w.setCells b (off+n*s) (ax Ys)=w' at k1 k5 k6 k7 k8 k9 ⊢;have aaj:(ai (.own s (n+m) cap (some (b,off)) (ts++Ys)::H)).Perm (ai (Ys++.own s n cap (some (b,off)) ts::H)):=by
  refine abl.2 fun a=>?_;simp only [ai,bd,T.ft,fG,abD];omega
 have db:∀ k,k∈ai (.own s (n+m) cap (some (b,off)) (ts++Ys)::H)↔k∈ai (Ys++.own s n cap (some (b,off)) ts::H):=fun k=>aaj.mem_iff;have hb:b∈ai (Ys++.own s n cap (some (b,off)) ts::H):=by simp [bd,ai,T.ft,fG]
 have eT:=h.mem.nd;have cF:jF w w' (ah C w S (Ys++.own s n cap (some (b,off)) ts::H)) (ah C w' S (.own s (n+m) cap (some (b,off)) (ts++Ys)::H)):=by
  intro bb k hk;exact ⟨⟨by rw [k6]; exact hk.1,hk.2.1,fun hx=>hk.2.2.1 ((db k).1 hx),hk.2.2.2⟩,k5 k (fun e=>hk.2.2.1 (e▸hb))⟩
 have dZ:∀ d u,bD w (ah C w S (Ys++.own s n cap (some (b,off)) ts::H)) S d u->bD w' (ah C w' S (.own s (n+m) cap (some (b,off)) (ts++Ys)::H)) S d u:=fun d u hd=>tJ cF (fun _ _ h=>h) hd;have Vg:∀ k,k∈cM S∨k∈ai ts∨k∈ai Ys∨k∈ai H->k≠b:=by
  intro k hk e;subst e;have hn2:(cM S++(ai Ys++(k::ai ts++ai H))).Nodup:=by
   have:=eT;rw [bd,ai,T.ft,fG] at this
   simpa using this
  have p1:(cM S++(ai Ys++(k::ai ts++ai H))).Perm (k::(cM S++(ai Ys++(ai ts++ai H)))):=by
   refine abl.2 fun a=>?_;simp only [abD,List.count_cons];omega
  have LB:=p1.nodup_iff.1 hn2;simp only [abm,tD] at LB;rcases hk with hk | hk | hk | hk
  ·exact LB.1 (.inl hk)
  ·exact LB.1 (.inr (.inr (.inl hk)))
  ·exact LB.1 (.inr (.inl hk))
  ·exact LB.1 (.inr (.inr (.inr hk)))
 refine ⟨h.sA h.rt rfl rfl dZ ⟨(abQ _ aaj).nodup_iff.2 eT,?_,?_,fun k hk=>?_⟩ ?_,dZ⟩
 ·intro r R hR;obtain ⟨q1,q2⟩:=h.mem.root r R hR;have hRS:∀ k∈R.ft,k∈cM S:=fun k hk=>EA hR hk;refine ⟨?_,fun t ht=>?_⟩
  ·cases hx:R.box with
   | none=>trivial
   | some b0=>
    simp only [hx] at q1 ⊢;obtain ⟨c0,e0,fz0,r1,r2⟩:=q1;exact ⟨c0,e0,fz0,by rw [k5 b0 (Vg b0 (.inl (hRS b0 (by simp [RT.ft,hx]))))]; exact r1,r2⟩
  ·have:=q2 t ht;cases t with
   | v d u=>
    rcases this with this | ⟨hb,this⟩
    ·exact .inl (gF cF _ _ this)
    ·exact .inr ⟨hb,dZ _ _ this⟩
   | own s' n' cap' a' xs=>exact dQ cF _ this (fun k hk=>k5 k (Vg k (.inl (hRS k (by simp [RT.ft,Dp ht hk])))))
 ·simp only [bJ,bI];refine ⟨⟨⟨hc,h1.2⟩,by rw [aad,h2,hm,abw],⟨c',e,fz,k1,by rw [k2]; exact g2,by rw [k2]; exact g3,fun j u hj=>?_⟩,?_⟩,gH cF _ hH (fun k hk=>k5 k (Vg k (.inr (.inr (.inr hk)))))⟩
  ·rw [tF] at hj;by_cases Vh:j < (ax ts).length
   ·rw [abc Vh] at hj;rw [k4 _ (.inl (by rw [bV,h2] at Vh; omega))]
    exact g4 j u hj
   ·rw [aa6 (by omega)] at hj
    have:=k3 _ u hj;rw [bV,h2] at this Vh;rw [show off+j=off+n*s+(j - n*s) by omega]
    exact this
  ·rw [ea];exact ⟨gH cF _ h4 (fun k hk=>k5 k (Vg k (.inr (.inl hk)))),gH cF _ hY (fun k hk=>k5 k (Vg k (.inr (.inr (.inl hk)))))⟩
 ·rw [k6];refine h.mem.lt k ?_;rcases tD.1 hk with hk | hk
  ·exact tD.2 (.inl hk)
  ·exact tD.2 (.inr ((db k).1 hk))
 ·refine ⟨by rw [k7]; exact h.kept.os,by rw [k8]; exact h.kept.tape,by rw [k9]; exact h.kept.output,by rw [k6]; exact h.kept.size,fun k q1 q2=>?_,fun k hk=>?_,h.kept.par⟩
  ·rw [k5 k (fun e=>?_)]
   ·exact h.kept.block k q1 q2
   ·subst e;rcases h.kept.iQ k (tD.2 (.inr hb)) with h3 | h3
    ·exact q2 h3
    ·omega
  ·refine h.kept.iQ k ?_;rcases tD.1 hk with hk | hk
   ·exact tD.2 (.inl hk)
   ·exact tD.2 (.inr ((db k).1 hk))
theorem ya (h:Rel C H w st aI S):∀ {ds:List D} {us:List Value},cm (Ext w (ah C w S H)) ds us->∃ Ys,Rel C (Ys++H) w st aI S/\ba Ys=ds/\ax Ys=us/\ai Ys=[]:=by
 intro ds
 induction ds with
 | nil=>intro us hu; cases hu; exact ⟨[],h,rfl,rfl,rfl⟩
 | cons d ds ih=>
  intro us hu;cases hu with
  | cons h1 h2=>
  obtain ⟨Ys,a1,a2,a3,a4⟩:=ih h2;rename_i u us;have ku:bS d=d:=by
   cases d with
   | sl g s n cs=>cases g with
    | none=>simp [Ext] at h1
    | some g=>rfl
   | _=>rfl
  have Ez:ah C w S (Ys++H)=ah C w S H:=by
   funext b k;simp only [ah,bd,a4,aaq]
  exact ⟨.v d u::Ys,GL a1 (by rw [Ez]; exact h1) ku,by simp [ba,T.er,ku,a2],by simp [ax,T.val,a3],by simp [ai,T.ft,a4]⟩
end
structure Yc (P:Program) (t tx ty e:TypeId) (inf:TypeInfo) (z:Value) (w:World) (ux:Value) (m:Nat) (news:List Value):Prop where
 nil:m=0->news=[]->(Builtin.append_ #[t,tx] ty #[.slice none 0 0,ux]).run P w=.ok (.slice none 0 0) w
 room:∀ b off n cap,n+m<=cap->(n+m)*inf.bytes<=140737488355328->0 < inf.bytes->(∀ j,j < news.length->(w.cell? ⟨b,off+n*inf.size+j,none⟩).isSome=true)->(∀ j,j < news.length->w.frozen? ⟨b,off+n*inf.size+j,none⟩=false)->
  (Builtin.append_ #[t,tx] ty #[.slice (some ⟨b,off,none⟩) n cap,ux]).run P w=.ok (.slice (some ⟨b,off,none⟩) (n+m) cap) (w.setCells b (off+n*inf.size) news)
 grow:∀ base n cap Jr,(Builtin.firstCells inf.size n (.slice base n cap)).run P w.drew=.ok (List.toArray Jr) w.drew->cap < n+m->(n+m)*inf.bytes<=140737488355328->0 < inf.bytes->
  (Builtin.append_ #[t,tx] ty #[.slice base n cap,ux]).run P w=.ok (.slice (some ⟨w.heap.size,0,none⟩) (n+m) (grownCap w (n+m) cap e)) (w.drew.alloc (.cells ((Jr++news).toArray++Builtin.zeroCells z.cells (grownCap w (n+m) cap e - (n+m))) e))
section
variable {P:Program} {w:World} {t tx ty e:TypeId} {inf:TypeInfo} {z:Value} (ht:P.underlying t=some (.slice e)) (hi:P.info? e=some inf) (hz:inf.zero=some z)
include ht hi hz
theorem Yd {ux:Value} {m:Nat} {news:List Value} (hs:Src P inf.size tx ux m news w):Yc P t tx ty e inf z w ux m news:=by
 refine ⟨fun hm hn=>?_,fun b off n cap h1 _ _ h2 h3=>run_append_room_src w t tx ty e inf ht hi b off n cap ux m news hs h1 h2 h3,fun base n cap Jr h1 h2 h3 h4=>?_⟩
 ·subst hm; subst hn;have hc:=hs.cells;rcases hs.kind with ⟨e',hk⟩ | hk<;>simp [Builtin.append_,run_underlying ht,run_underlying hk,sizeOf,typeInfo,hi,hs.len,hc]
 ·have hsm:(n+m)*1<=(n+m)*inf.bytes:=aeN _ h4;exact run_append_grow_src w t tx ty e inf z ht hi hz base n cap Jr h1 ux m news hs h2 (by omega) (growslice_fits h2 h3)
theorem TB {k kx:IntKind} (ov:P.underlying tx=some (.int k)) (kF:z.cells.size=inf.size) (cU:0 < inf.size) (m:Nat) (h1:∀ u∈z.cells.toList,u.oneCell'=true):Yc P t tx ty e inf z w (.int kx m) m (List.replicate m z.cells.toList).flatten:=by
 have hzc:Builtin.zeroCells z.cells m=(List.replicate m z.cells.toList).flatten.toArray:=by
  apply Array.ext';simp only [Builtin.zeroCells,ad6,Array.toList_range];exact xz z.cells m
 have yb:∀ u∈(List.replicate m z.cells.toList).flatten,u.oneCell'=true:=by
  intro u hu;simp only [aeJ,List.mem_replicate] at hu;obtain ⟨l,⟨_,rfl⟩,hu⟩:=hu;exact h1 u hu
 refine ⟨fun hm _=>?_,fun b off n cap h2 h3 GX h4 h5=>?_,fun base n cap Jr h2 h3 h4 h5=>?_⟩
 ·subst hm;have LC:IntKind.i64.wrap 0=0:=by rw [IntKind.wrap_i64]; rfl
  simp [Builtin.append_,run_underlying ht,run_underlying ov,sizeOf,typeInfo,hi,asInt,asIntOf,LC]
 ·have hsm:(n+m)*1<=(n+m)*inf.bytes:=aeN _ GX;have hw:IntKind.i64.wrap (m:Int)=m:=by rw [IntKind.wrap_i64]; omega
  have ai8:¬ ((m:Int) < 0):=by omega
  have hmb:m*inf.bytes<=140737488355328:=abI (aaQ _ (Nat.le_add_left m n)) h3;have TC:¬ (281474976710656 < (m:Int)*(inf.bytes:Int)):=by
   rw [<- Int.natCast_mul];omega
  have cF:=run_storeCells_cells (P:=P) b (off+n*inf.size) (List.replicate m z.cells.toList).flatten 0 w (by simpa using h4) (by simpa using h5) yb
  simp only [aeH] at cF;by_cases hm:m=0
  ·subst hm;simp only [abA,List.flatten_nil] at cF ⊢;have LC:IntKind.i64.wrap 0=0:=by rw [IntKind.wrap_i64]; rfl
   simp at h2;simp [Builtin.append_,run_underlying ht,run_underlying ov,sizeOf,typeInfo,hi,asInt,asIntOf,LC,h2,storeCells];rfl
  ·have hns:¬ (m*inf.size=0):=Nat.mul_ne_zero hm (by omega)
   simp [Builtin.append_,run_underlying ht,run_underlying ov,sizeOf,typeInfo,zeroValue,hi,hz,asInt,asIntOf,hw,ai8,TC,h2,hns,hzc,Addr.add_lit,cF]
 ·have hsm:(n+m)*1<=(n+m)*inf.bytes:=aeN _ h5;have mu:=growslice_fits h3 h4;have hmb:m*inf.bytes<=140737488355328:=abI (aaQ _ (Nat.le_add_left m n)) h4;by_cases hm:m=0
  ·subst hm;have LC:IntKind.i64.wrap 0=0:=by rw [IntKind.wrap_i64]; rfl
   simp only [aeH] at mu h3 hsm h4;have ai9:¬ (281474976710656 < Builtin.nextslicecap n cap*inf.bytes):=by omega
   have h63:¬ (9223372036854775807 < (n:Int)):=by omega
   have hn:¬ (n<=cap):=by omega
   simp [Builtin.append_,run_underlying ht,run_underlying ov,sizeOf,typeInfo,zeroValue,hi,hz,asInt,asIntOf,LC,hn,h63,ai9,Question.forced,h2,newRow,grownCap]
  ·have:=Lib.run_append_grow_zeros w t tx ty e inf z kx k ht ov hi hz base n cap Jr h2 m (by omega) cU h3 (by omega) (by omega) mu
   rw [this,hzc]
   congr 3
   apply Array.ext';simp
end
def p7 (x:Option (Nat × Nat)) (s:Nat) (ts:List T):List T:=
 match x with
 | none=>ts
 | some (l,m)=>(ts.drop (l*s)).take (m*s)
theorem Vi (x:Option (Nat × Nat)) (s n:Nat) (ts:List T):ba (p7 x s ts)=(trim x s n (ba ts)).2:=by
 cases x with
 | none=>rfl
 | some p=>simp only [p7,trim,w7,w8]
theorem Pd {w:World} {X:Bool->Nat->Prop} {s n cap:Nat} {a:Option (Nat × Nat)} {ts:List T} (hs:bI w X (.own s n cap a ts)) {x:Option (Nat × Nat)} {u:Value} (hr:eM x (.own s n cap a ts) u):
  ∃ cap' a',u=uF a' (trim x s n (ba ts)).1 cap'/\bI w X (.own s (trim x s n (ba ts)).1 cap' a' (p7 x s ts)):=by
 cases x with
 | none=>
  simp only [eM,sn,T.er] at hr;exact ⟨cap,a,hr,hs⟩
 | some p=>
  obtain ⟨l,m⟩:=p;simp only [eM,sn,T.er,T.val,uF,Value.slice.injEq] at hr;obtain ⟨h1,base,C,k,⟨h2,_,h3⟩,h4,rfl,h5⟩:=hr;subst h2; subst h3;simp only [bI] at hs;obtain ⟨g1,g2,g3,g4⟩:=hs;refine ⟨cap - l,a.map fun p=>(p.1,p.2+k*s),?_,?_⟩
  ·simp only [uF,Option.map_map,trim]
   congr 1
   cases a<;>simp [eV]
  ·simp only [bI,trim,p7];refine ⟨by omega,?_,?_,?_⟩
   ·rw [aaB,abE,g2];have:l*s+m*s<=n*s:=by rw [<- abw]; exact aaQ _ h1
    omega
   ·cases a with
    | none=>simp only at g3; simp only [afe]; omega
    | some p=>
     obtain ⟨b,off⟩:=p;simp only [OB];obtain ⟨c,e,fz,k1,k2,k3,k4⟩:=g3;refine ⟨c,e,fz,k1,k2,?_,?_⟩
     ·rcases h5 with h5 | h5
      ·rw [h5];have:k*s<=cap*s:=aaQ _ h4;omega
      ·subst h5;have:k*s+(cap - k)*s=cap*s:=by rw [<- abw]; congr 1; omega
       omega
     ·intro j u hj;rw [cK,ae7,ae4,<- cK,abr] at hj;split at hj
      ·rename_i dg;rw [abt] at hj;have hm:m≠0:=fun e=>by simp [e] at dg
       have:k=l:=by omega
       subst this;rw [abh];exact k4 _ _ hj
      ·simp at hj
   ·rw [cj] at g4 ⊢;exact fun t ht=>g4 t (List.mem_of_mem_drop (ael ht))
theorem Rt {w:World} {X:Bool->Nat->Prop}:∀ {ts:List T},bJ w X ts->(ba ts).all eD=true->cm (Ext w X) (ba ts) (ax ts):=by
 intro ts
 induction ts with
 | nil=>intro _ _; exact .nil
 | cons t ts ih=>
  intro hs hf;simp only [bJ] at hs;simp only [ba,UL,Bh] at hf;refine .cons ?_ (ih hs.2 hf.2);cases t with
  | v d u=>exact hs.1
  | own s n cap a cs=>simp [T.er,eD] at hf
theorem Pe {d:D} (h:eD d=true):da d=true:=by
 cases d<;>first | rfl | simp [eD] at h
section
variable {P:Program} {w:World}
theorem BF {sz:Nat} {tx e':TypeId} (hk:P.underlying tx=some (.slice e')) {base:Option Addr} {n cap:Nat} {news:List Value} (hl:news.length=n*sz) (cU:0 < sz)
  (hm:news=[]∨∃ b off,base=some ⟨b,off,none⟩/\∀ (j:Nat) (v:Value),news[j]?=some v->w.cell? ⟨b,off+j,none⟩=some v) (h1:∀ v∈news,v.oneCell'=true):Src P sz tx (.slice base n cap) n news w:=by
 by_cases hn:n=0
 ·subst hn;have:news=[]:=aa8.1 (by rw [hl]; simp)
  subst this;cases base with
  | none=>exact Src.ofNil w hk cap
  | some a=>exact Src.ofSlice w hk a 0 cap [] (by simp) (by simp) (by simp)
 ·rcases hm with rfl | ⟨b,off,rfl,hm⟩
  ·have:n*sz=0:=by rw [<- hl]; rfl
   rcases Nat.mul_eq_zero.1 this with h | h<;>omega
  ·exact Src.ofSlice w hk _ n cap news hl (fun j u hj=>by rw [eV]; exact hm j u hj) h1
theorem vL {c:cA} (aw:eu c P) {tx:TypeId} (h:(match c.ty tx with | some ⟨.slice _,_,_,_⟩=>true | _=>false)=true):∃ e',P.underlying tx=some (.slice e'):=by
 split at h
 ·rename_i e _ _ _ heq;obtain ⟨d,h1,h2⟩:=(aw.ty _ _ heq).desc;simp only [lS] at h2;subst h2;exact ⟨e,h1⟩
 ·simp at h
end
section
variable {P:Program} {c:cA} (aw:eu c P) {C:Ctx} {H:List T} {w:World} {st st':St} {aI:List (Array Value)} {S:List (Nat × RT)}
include aw
theorem Vj (h:Rel C H w st aI S) {d:D} {u:Value} (hd:cx w (ah C w S H) S d u) {flat:Bool} {sz:Nat} (cU:0 < sz) {zs:List D} (hint:∀ k n,d≠.int k n) {ys:List D} {m:Nat} (he:elems st flat zs sz d=some (ys,m,st')) {tx:TypeId} (ov:Je c tx d=true):
  ∃ Ys S',Rel C (Ys++H) w st' aI S'/\ba Ys=ys/\Ys.length=m*sz/\Src P sz tx u m (ax Ys) w/\st'.of=st.of/\st'.tm=st.tm/\st'.up=st.up:=by
 have ext:∀ {g:Bool} {s n:Nat} {cs:List D},Ext w (ah C w S H) (.sl (some g) s n cs) u->s=sz->cs.all da=true->(∃ e',P.underlying tx=some (.slice e'))->
   ∃ Ys S',Rel C (Ys++H) w st aI S'/\ba Ys=cs/\Ys.length=n*sz/\Src P sz tx u n (ax Ys) w:=by
  intro g s n cs hx hs hc ⟨e',hk⟩;subst hs;simp only [Ext] at hx;obtain ⟨base,cap,us,rfl,h1,h2,h3,h4⟩:=hx;have dR:=(ir _ _).1 h3;obtain ⟨Ys,a1,a2,a3,a4⟩:=ya h dR;have yb:∀ v∈us,v.oneCell'=true:=by
   intro v hv;obtain ⟨i,hi⟩:=abe.1 hv;have dg:i < cs.length:=by rw [dR.len]; exact (aaa.1 hi).1
   obtain ⟨v',g1,g2⟩:=dR.get (aaf dg);rw [hi,jf] at g1;subst g1;exact (Jm g2 (aac.1 hc _ (aan dg))).1
  refine ⟨Ys,S,a1,a2,by rw [<- fu,a2,h2],?_⟩
  rw [a3];refine BF hk (by rw [<- dR.len,h2]) cU ?_ yb
  rcases h4 with h4 | ⟨k,off,c0,e0,fz,rfl,_,g1,g2⟩
  ·left
   subst h4;cases dR;rfl
  ·exact .inr ⟨k,off,rfl,fun j v hj=>by simp [World.cell?,g1,g2 j v hj]⟩
 cases d with
 | int k n=>exact absurd rfl (hint k n)
 | str s=>
  simp only [elems] at he;split at he
  case isFalse=>simp at he
  rename_i rp;subst rp;simp only [jf,tE] at he;obtain ⟨rfl,rfl,rfl⟩:=he;have hu:u=.string s:=hd;subst hu;have dR:cm (Ext w (ah C w S H)) (s.data.toList.map dP) (byteCells s):=by
   refine du (by simp [byteCells]) (fun i a b ha hb=>?_)
   simp only [byteCells,aa5] at ha hb;cases hx:s.data.toList[i]? with
   | none=>simp [hx] at ha
   | some y=>
    simp only [hx,OB,jf] at ha hb;subst ha; subst hb;rfl
  obtain ⟨Ys,a1,a2,a3,a4⟩:=ya h dR;refine ⟨Ys,S,a1,a2,?_,?_,rfl,rfl,rfl⟩
  ·rw [<- bV,a3,byteCells_length,Nat.mul_one]
  ·rw [a3];refine Src.ofString w ?_ s;simp only [Je] at ov;split at ov
   ·rename_i heq;obtain ⟨d,h1,h2⟩:=(aw.ty _ _ heq).desc;simp only [lS] at h2;subst h2;exact h1
   ·simp at ov
 | nil s=>
  simp only [elems,jf,tE] at he;obtain ⟨rfl,rfl,rfl⟩:=he;have hu:u=.slice none 0 0:=hd;subst hu;obtain ⟨e',hk⟩:=vL aw ov;exact ⟨[],S,h,rfl,by simp,by simp only [ax]; exact Src.ofNil w hk 0,rfl,rfl,rfl⟩
 | sl g s n cs=>
  cases g with
  | none=>simp [elems] at he
  | some g=>
   simp only [elems] at he;split at he
   case isFalse=>simp at he
   rename_i hc;simp only [jf,tE] at he;obtain ⟨rfl,rfl,rfl⟩:=he;obtain ⟨Ys,S',a1,a2,a3,a4⟩:=ext hd hc.1 hc.2 (vL aw ov);exact ⟨Ys,S',a1,a2,a3,a4,rfl,rfl,rfl⟩
 | ref r q o x=>
  simp only [elems] at he;split at he
  ·rename_i s n cs hc;obtain ⟨R,l,t0,g1,g2,g3,g4,g5⟩:=iM h.rt hc;obtain ⟨cap,a,ts,rfl,rfl⟩:=vG g5.symm;have dF:=rb h.mem g1 g2 g3 (g:=none) (s:=s) (n:=n) (cs:=ba ts) rfl;obtain ⟨cap',a',hu,Ol⟩:=Pd dF (hd _ g4);simp only [bI] at Ol;obtain ⟨k1,k2,k3,k4⟩:=Ol;split at he
   ·simp at he
   rename_i hss;simp only [ne_eq,af2] at hss;subst hss;have db:ax (p7 x s ts)=[]∨∃ b off,a'.map (fun p=>(⟨p.1,p.2,none⟩:Addr))=some ⟨b,off,none⟩/\∀ (j:Nat) (v:Value),(ax (p7 x s ts))[j]?=some v->w.cell? ⟨b,off+j,none⟩=some v:=by
    cases a' with
    | none=>
     left
     have:(p7 x s ts).length=0:=by rw [k2]; simp only at k3; rw [k3.1]; simp
     rw [aa8.1 this]; rfl
    | some p=>exact .inr ⟨p.1,p.2,rfl,fun j v hj=>mO k3 hj⟩
   rw [<- Vi] at he;split at he
   ·rename_i p8;split at he
    case isFalse=>simp at he
    rename_i hf;simp only [jf,tE] at he;obtain ⟨rfl,rfl,rfl⟩:=he;obtain ⟨Ys,b1,b2,b3,b4⟩:=ya h (Rt k4 hf);obtain ⟨e',hk⟩:=vL aw ov;refine ⟨Ys,S,b1,b2,by rw [<- fu,b2,fu,k2],?_,rfl,rfl,rfl⟩
    rw [b3,hu];refine BF hk (by rw [bV,k2]) cU db (fun v hv=>?_)
    rw [cK] at hv;obtain ⟨t,ht,rfl⟩:=aam.1 hv;exact (mR ((cj _).1 k4 t ht) (Pe (aac.1 hf t.er (by rw [eO]; exact aam.2 ⟨t,ht,rfl⟩)))).1
   ·split at he
    case h_2=>simp at he
    rename_i ys1 aQ dH;split at he
    case isFalse=>simp at he
    rename_i gU;simp only [jf,tE] at he;obtain ⟨rfl,rfl,rfl⟩:=he;have pL:ay R.cs (q++[o])=some ts:=(Fg (bx:=R.box) g2 g3).2;have dR:cm (bD w (ah C w S H) S) (lW r (q++[o]) (off x*s) (ba (p7 x s ts))) (ax (p7 x s ts)):=by
     refine du (by rw [qA,fu,bV]) (fun i y v hy hv=>?_)
     rw [oq,iL] at hy;rw [fq] at hv;cases hx:(p7 x s ts)[i]? with
     | none=>simp [hx] at hy
     | some t=>
      simp only [hx,OB,jf] at hy hv;subst hy; subst hv;refine qz h.mem g1 pL ?_;cases x with
      | none=>simp only [p7] at hx; simp only [off]; rw [Nat.zero_mul,abn]; exact hx
      | some p=>
       simp only [p7] at hx;rw [abr] at hx;split at hx
       ·rw [abt] at hx; exact hx
       ·simp at hx
    obtain ⟨Ys,S',b1,b2,b3,b4,b5,b6⟩:=GN h dR dH;obtain ⟨e',hk⟩:=vL aw ov;have dv:=b1.mem.hand;rw [ea] at dv;refine ⟨Ys,S',b1,b2,by rw [<- bV,b3,bV,k2],?_,b6.2.2,b6.1,b6.2.1⟩
    rw [b3,hu];refine BF hk (by rw [bV,k2]) cU db (fun v hv=>?_)
    rw [<- b3,cK] at hv;obtain ⟨t,ht,rfl⟩:=aam.1 hv;exact (mR ((cj _).1 dv.1 t ht) (aac.1 gU t.er (by rw [<- b2,eO]; exact aam.2 ⟨t,ht,rfl⟩))).1
  ·rename_i g s n cs hc;split at he
   case isFalse=>simp at he
   rename_i mI;simp only [jf,tE] at he;obtain ⟨rfl,rfl,rfl⟩:=he;obtain ⟨R,l,t0,g1,g2,g3,g4,g5⟩:=iM h.rt hc;have dF:=rb h.mem g1 g2 g3 g5.symm;have ku:t0.ft=[]:=by
    cases t0 with
    | v d u=>rfl
    | own s' n' cap a ts=>simp [T.er] at g5
   have hx:=Dm (X':=ah C w S H) (fun _ _ h=>h) false g5.symm dF (by simp [ku]) (hd _ g4)
   obtain ⟨Ys,S',a1,a2,a3,a4⟩:=ext hx mI.1 mI.2 (vL aw ov);exact ⟨Ys,S',a1,a2,a3,a4,rfl,rfl,rfl⟩
  ·simp at he
 | _=>simp [elems] at he
theorem Ye (h:Rel C H w st aI S) {d:D} {u:Value} (hd:cx w (ah C w S H) S d u) {t ty e:TypeId} {inf:TypeInfo} {z:Value} (ht:P.underlying t=some (.slice e)) (hi:P.info? e=some inf) (hz:inf.zero=some z) {zs:List D} (kF:cm R9 zs z.cells.toList) (AB:zs.length=inf.size)
  (cU:0 < inf.size) {flat:Bool} {ys:List D} {m:Nat} (he:elems st flat zs inf.size d=some (ys,m,st')) {tx:TypeId} (ov:Je c tx d=true):
  ∃ Ys S',Rel C (Ys++H) w st' aI S'/\ba Ys=ys/\Ys.length=m*inf.size/\Yc P t tx ty e inf z w u m (ax Ys)/\st'.of=st.of/\st'.tm=st.tm/\st'.up=st.up:=by
 by_cases hint:∃ k n,d=.int k n
 ·obtain ⟨k,n,rfl⟩:=hint;have hu:u=.int k n:=hd;subst hu;unfold elems at he;split at he
  all_goals (try (rename_i heq; simp at heq; done))
  all_goals (try (simp at he; done))
  rename_i n0 heq;simp only [D.int.injEq] at heq;obtain ⟨rfl,rfl⟩:=heq;split at he
  case isFalse=>simp at he
  rename_i hc;simp only [jf,tE] at he;obtain ⟨rfl,rfl,rfl⟩:=he;have aeh:z.cells.size=inf.size:=by rw [<- AB,kF.len]; simp
  obtain ⟨ts,f1,f2,f3,f4⟩:=xx kF n.toNat;obtain ⟨t0,e1,e2,e3,e4⟩:=OX kF;have hlen:ts.length=n.toNat*inf.size:=by
   have:=congrArg List.length f2;rw [bV] at this;rw [this,aeM,aeX,ad7,adW,aeh]
  have yb:∀ u∈z.cells.toList,u.oneCell'=true:=by
   intro u hu;rw [<- e2,cK] at hu;obtain ⟨t1,BA,rfl⟩:=aam.1 hu;refine (mR ((cj _).1 (e4 w (fun _ _=>False)) t1 BA) (aac.1 hc.2 t1.er ?_)).1;rw [<- e1,eO];exact aam.2 ⟨t1,BA,rfl⟩
  have aja:∃ k',P.underlying tx=some (.int k'):=by
   simp only [Je] at ov;split at ov
   ·rename_i heq;obtain ⟨d,h1,h2⟩:=(aw.ty _ _ heq).desc;simp only [lS] at h2;subst h2;exact ⟨_,h1⟩
   ·simp at ov
  obtain ⟨k',Pf⟩:=aja;have hM:∀ l:List T,ai l=[]->(∀ w X,bJ w X l)->Rel C (l++H) w st aI S:=by
   intro l hl1 GW;have Ez:ah C w S (l++H)=ah C w S H:=by
    funext b k;simp only [ah,bd,hl1,aaq]
   obtain ⟨q1,⟨m1,m2,m3,m4⟩,q3,q4⟩:=h;refine ⟨q1,⟨by rw [bd,hl1]; exact m1,by rw [Ez]; exact m2,?_,by rw [bd,hl1]; exact m4⟩,by rw [Ez]; exact q3,⟨q4.os,q4.tape,q4.output,q4.size,q4.block,by rw [bd,hl1]; exact q4.iQ,q4.par⟩⟩
   rw [ea,Ez];exact ⟨GW _ _,m3⟩
  refine ⟨ts,S,hM ts f3 f4,f1,hlen,?_,rfl,rfl,rfl⟩;rw [f2];have:=TB (w:=w) (ty:=ty) ht hi hz Pf aeh cU n.toNat yb (kx:=.i64)
  rwa [show ((n.toNat:Nat):Int)=n from Int.toNat_of_nonneg hc.1] at this
 ·obtain ⟨Ys,S',a1,a2,a3,a4,a5⟩:=Vj aw h hd cU (fun k n e=>hint ⟨k,n,e⟩) he ov;exact ⟨Ys,S',a1,a2,a3,Yd ht hi hz a4,a5⟩
end
section
variable {P:Program} {c:cA} (aw:eu c P) {C:Ctx} {Hx:List T} {w:World} {st st':St} {vs:Array Value} {aI:List (Array Value)} {S:List (Nat × RT)} (h:Rel C Hx w st (vs::aI) S)
include aw h
theorem Vk {t tx ty:TypeId} {s x:D} {us ux:Value} (hs:cx w (ah C w S Hx) S s us) (hx:cx w (ah C w S Hx) S x ux) {d:Nat} (ht:d < vs.size) (hP:∀ p∈C.P0,p.1≠st.of+d) (ha:su c st t tx (some d) s x=some st'):
  ∃ v w',(Builtin.append_ #[t,tx] ty #[us,ux]).run P w=.ok v w'/\(∀ r' R' b',lk S r'=some R'->R'.box=some b'->w'.heap[b']?=w.heap[b']?)/\∃ S',Rel C Hx w' st' (vs.setIfInBounds d v::aI) S':=by
 unfold su at ha;split at ha
 case h_2=>simp at ha
 rename_i e tsz tby tz fO;split at ha
 case h_2=>simp at ha
 rename_i ei iu;split at ha
 case isFalse=>simp at ha
 rename_i ov;split at ha
 case h_2=>simp at ha
 rename_i n cs aQ rn;split at ha
 case h_2=>simp at ha
 rename_i ys m cu gV;split at ha
 case isFalse=>simp at ha
 rename_i hb;obtain ⟨cU,hby,mu⟩:=hb;obtain ⟨inf,h1,h2,h3,z,h4,h5⟩:=(aw.ty _ _ iu).info;have AB:=(aw.ty _ _ iu).len;obtain ⟨dd,g1,g2⟩:=(aw.ty _ _ fO).desc;simp only [lS] at g2;subst g2;have kF:z.cells.size=ei.size:=by rw [<- AB,h5.len]; simp
 unfold target at rn;split at rn
 case h_2=>simp at rn
 rename_i s0 n0 cs0 st0 dH;split at rn
 case isFalse=>simp at rn
 rename_i UX;subst UX;simp only [jf,tE] at rn;obtain ⟨rfl,rfl,rfl⟩:=rn;have sb:bD w (ah C w S Hx) S s us:=by cases s<;>first | exact hs | (simp [jh] at dH; done)
 obtain ⟨T1,S1,a1,a2,a3,a4,a5,a6,_⟩:=vk h sb dH;obtain ⟨cap,a,ts,rfl,rfl⟩:=vG a2;have rk:∀ r' R' b',lk S r'=some R'->R'.box=some b'->b' < w.heap.size/\∀ p,a=some p->b'≠p.1:=by
  intro r' R' b' eF fH;obtain ⟨R1,e1,e2,_⟩:=a5.fwd r' R' eF;have lU:b'∈cM S1:=by
   obtain ⟨A,B,e3,_⟩:=kU e1;rw [e3];simp [RT.ft,e2.trans fH]
  refine ⟨a1.mem.lt b' (tD.2 (.inl lU)),fun p hp e=>?_⟩;subst hp;exact (yq.1 a1.mem.nd).2.2 b' lU p.1 (by simp [ai,T.ft,fG]) e
 obtain ⟨Ys,S2,b1,rfl,b3,b4,b5,b6,b7⟩:=Ye (ty:=ty) aw a1 (qC a4 hx) g1 h1 h4 h5 (AB.trans h2.symm) (by rw [h2]; exact cU) (by rw [h2]; exact gV) ov
 rw [h2] at b3;have qG:cu.of=st.of:=b5.trans a6.2.2;have dv:=b1.mem.hand;rw [ea] at dv;obtain ⟨hY,hT⟩:=dv;simp only [bJ] at hT;have hT:=hT.1;have hT0:=hT;simp only [bI] at hT;obtain ⟨k1,k2,k3,k4⟩:=hT;have GY:n0+m<=140737488355328:=by
  have:(n0+m)*1<=(n0+m)*ei.bytes:=aeN _ hby;omega
 have ON:us=.slice (a.map fun p=>⟨p.1,p.2,none⟩) n0 cap:=a3.symm;have eT:(ai (Ys++[T.own ei.size n0 cap a ts])).Nodup:=by
  have h9:=(yq.1 b1.mem.nd).2.1;rw [show Ys++T.own ei.size n0 cap a ts::Hx=(Ys++[T.own ei.size n0 cap a ts])++Hx by simp,bd] at h9
  exact (yq.1 h9).1
 by_cases tp:n0+m<=cap
 ·
  cases a with
  | none=>
   simp only at k3;obtain ⟨rfl,rfl⟩:=k3;have yx:m=0:=by omega
   subst yx;have yA:ts=[]:=aa8.1 (by rw [k2]; simp)
   have hYs:Ys=[]:=aa8.1 (by rw [b3]; simp)
   subst yA; subst hYs;have eB:(Builtin.append_ #[t,tx] ty #[us,ux]).run P w=.ok (.slice none 0 0) w:=by
    rw [ON];exact b4.nil rfl rfl
   refine ⟨_,_,eB,fun _ _ _ _ _=>rfl,?_⟩;simp only [aaq,ba,aah,aeH] at b1 ha;refine sH (Hs:=[T.own ei.size 0 0 none []]) (H:=Hx) (R:=⟨none,[T.own ei.size 0 0 none []]⟩) b1 (Grown.refl w) (by simp [RT.ft,ai,T.ft,fG]) (by simp [RT.ft,ai,T.ft,fG]) (fun S' cF dZ=>⟨trivial,fun y hy=>?_⟩) ht (by rw [qG]; exact hP) (d:=fun d=>.ref d [] 0 none) ?_ (by simpa [ba,T.er] using ha)
   ·simp only [abk] at hy;subst hy;simp [jw,bI,bJ]
   ·intro S' X qD;simp only [cx,gI,bD];intro y hy;simp only [cD,qD,ay,aaz,jf] at hy;subst hy;simp [eM,sn,T.er,T.val,uF]
  | some p=>
   obtain ⟨b,off⟩:=p;have hmul:n0*ei.size+m*ei.size<=cap*ei.size:=by rw [<- abw]; exact aaQ _ tp
   obtain ⟨c1,_⟩:=Vf (H:=Hx) b1 b3 tp;have eB:(Builtin.append_ #[t,tx] ty #[us,ux]).run P w=.ok (.slice (some ⟨b,off,none⟩) (n0+m) cap) (w.setCells b (off+n0*ei.size) (ax Ys)):=by
    rw [ON];rw [<- h2];refine b4.room b off n0 cap tp (by rw [h3]; exact mu) (by rw [h3]; exact hby) (fun j hj=>?_) (fun j hj=>?_)
    ·rw [bV,b3] at hj;rw [h2,abh];obtain ⟨u,hu⟩:=GB (j:=n0*ei.size+j) k3 (by omega)
     rw [hu]; rfl
    ·rw [bV,b3] at hj;rw [h2,abh];exact GA k3 (by omega)
   refine ⟨_,_,eB,fun r' R' b' eF fH=>?_,?_⟩
   ·obtain ⟨c0,e0,fz0,g1,g2,g3,g4⟩:=k3;exact (iR (ax Ys) (off+n0*ei.size) w g1 (by rw [bV,b3]; omega)).choose_spec.2.2.2.2.1 b' ((rk r' R' b' eF fH).2 _ rfl)
   rw [<- qf] at ha;refine sH (Hs:=[T.own ei.size (n0+m) cap (some (b,off)) (ts++Ys)]) (H:=Hx) (R:=⟨none,[T.own ei.size (n0+m) cap (some (b,off)) (ts++Ys)]⟩) c1 (Grown.refl _) (fun k hk=>.inl (by simpa [RT.ft] using hk)) ?_ (fun S' cF dZ=>⟨trivial,fun y hy=>?_⟩) ht (by rw [qG]; exact hP) (d:=fun d=>.ref d [] 0 none) ?_ (by simpa [ba,T.er] using ha)
   ·have:=(yq.1 c1.mem.nd).2.1;rw [<- abp,bd] at this
    simpa [RT.ft] using (yq.1 this).1
   ·simp only [abk] at hy;subst hy;have:=c1.mem.hand;simp only [bJ] at this;exact dQ cF _ this.1 (fun _ _=>rfl)
   ·intro S' X qD;simp only [cx,gI,bD];intro y hy;simp only [cD,qD,ay,aaz,jf] at hy;subst hy;simp [eM,sn,T.er,T.val,uF]
 ·
  have hold:(Builtin.firstCells inf.size n0 (.slice (a.map fun p=>(⟨p.1,p.2,none⟩:Addr)) n0 cap)).run P w.drew=.ok (ax ts).toArray w.drew:=by
   cases a with
   | none=>
    simp only at k3;have yA:ts=[]:=aa8.1 (by rw [k2,k3.1]; simp)
    subst yA;exact run_firstCells_none _ _ _ _ _
   | some p=>
    exact run_firstCells_some w.drew inf.size n0 _ _ _ (ax ts) (by rw [bV,k2,h2]) (fun j v hj=>by
     rw [eV];have:=mO k3 hj
     simpa using this)
  have eB:=b4.grow (a.map fun p=>(⟨p.1,p.2,none⟩:Addr)) n0 cap (ax ts) hold (by omega) (by rw [h3]; exact mu) (by rw [h3]; exact hby)
  rw [<- ON] at eB;refine ⟨_,_,eB,fun r' R' b' eF fH=>((Grown.drew w).trans (Grown.alloc _ _)).bY b' (rk r' R' b' eF fH).1,?_⟩;have agE:n0+m<=maxLen:=by
   have:(n0+m)*1<=(n0+m)*ei.bytes:=aeN _ hby;unfold maxLen;omega
  have Bs:n0+m<=grownCap w (n0+m) cap e/\grownCap w (n0+m) cap e<=9223372036854775807:=⟨grownCap_ge w (n0+m) cap e,by have:=grownCap_le_maxLen w (n0+m) cap e agE; unfold maxLen at this; omega⟩
  rw [<- qf] at ha;have hlen:(ts++Ys).length=(n0+m)*ei.size:=by rw [aad,k2,b3,abw]
  refine Jk (Hs:=Ys++[T.own ei.size n0 cap a ts]) (H:=Hx) (by simpa using b1) ((Grown.drew w).trans (Grown.alloc _ _)) (ts:=ts++Ys) (b:=w.heap.size) ⟨aav _,by rw [iP]; exact Nat.lt_succ_self _⟩ ?_ ?_ ?_ Bs hlen ?_ ht (by rw [qG]; exact hP) ha
  ·rw [ea,aay];exact ⟨k4,hY⟩
  ·intro k hk;rw [bd] at hk;simp only [bd,ai,T.ft,aah,tD];rcases tD.1 hk with hk | hk
   ·exact .inr (.inr hk)
   ·exact .inl hk
  ·have p1:(ai (Ys++[T.own ei.size n0 cap a ts])).Perm (fG a++ai (ts++Ys)):=by
    refine abl.2 fun a=>?_;simp only [bd,ai,T.ft,abD,List.count_nil];omega
   exact (yq.1 (p1.nodup_iff.1 eT)).2.1
  ·refine jM w.drew _ e ?_ (fun j u hj=>?_)
   ·simp only [aei,aej,aad,bV,k2,b3,size_zeroCells,kF,<- abw];refine aaQ _ ?_;omega
   ·rw [tF] at hj;have dg:=(aaa.1 hj).1;rw [abJ (by simpa using dg)]
    simpa using hj
end
theorem fold_push:∀ (ns:List Int) (s:ByteArray),(ns.foldl (fun r n=>r.push (UInt8.ofNat n.toNat)) s).data.toList=s.data.toList++ns.map (fun n=>UInt8.ofNat n.toNat)
 | [],s=>by simp
 | n::ns,s=>by
  rw [List.foldl_cons,fold_push ns];simp [ByteArray.push]
theorem Yf {w:World} {X:Bool->Nat->Prop}:∀ {cs:List D} {us:List Value} {bs:List UInt8},cm (adU w X) cs us->lM byteOf cs=some bs->∃ ns:List Int,us=ns.map (Value.int .u8)/\bs=ns.map (fun n=>UInt8.ofNat n.toNat):=by
 intro cs
 induction cs with
 | nil=>
  intro us bs h hm;cases h;simp only [lM,jf] at hm;subst hm;exact ⟨[],rfl,rfl⟩
 | cons d cs ih=>
  intro us bs h hm;cases h with
  | cons h1 h2=>
  simp only [lM] at hm;split at hm
  case h_2=>simp at hm
  rename_i b hb;split at hm
  case h_2=>simp at hm
  rename_i Z1 xA;simp only [jf] at hm;subst hm;obtain ⟨ns,rfl,rfl⟩:=ih h2 xA;unfold byteOf at hb;split at hb
  case h_2=>simp at hb
  rename_i n;simp only [jf] at hb;subst hb;refine ⟨n::ns,?_,rfl⟩;simp only [aaM,aaF,and_true];rcases h1 with h1 | ⟨t,he,rfl,h1⟩
  ·exact h1
  ·cases t with
   | own s n cap a cs=>simp [T.er] at he
   | v d u=>
    simp only [T.er] at he;simp only [bI,<- he] at h1;exact h1
section
variable {P:Program} {c:cA} (aw:eu c P) {C:Ctx} {Hx:List T} {w:World} {st st':St} {vs:Array Value} {aI:List (Array Value)} {S:List (Nat × RT)} (h:Rel C Hx w st (vs::aI) S)
include aw
theorem yB {t:TypeId} {ti:TI} (ht:c.ty t=some ti):∃ d,P.underlying t=some d/\lS P ti.ty d:=(aw.ty _ _ ht).desc
include h
theorem Ru {src dst e:TypeId} (hs:P.underlying src=some (.slice e)) (he:P.underlying e=some (.int .u8)) (hd:P.underlying dst=some .string) {x:D} {u:Value} (hx:cx w (ah C w S Hx) S x u) {g:Option Bool} {n:Nat} {cs:List D} (gK:st.qx x=some (g,1,n,cs)) {bs:List UInt8} (hm:lM byteOf cs=some bs):
  ∀ w2,dM w w2->(convert src dst u).run P w2=.ok (.string ⟨bs.toArray⟩) w2:=by
 have _:=aw;intro w2 ot;obtain ⟨base,cap,rfl,h1,h2,h3⟩:=(Oi h.rt h.mem hx gK).ok;rw [run_convert_bytes_string w2 src dst e base n cap hs he hd];rcases h3 with rfl | ⟨b,off,cc,ee,fz,us,rfl,g1,g2,g3⟩
 ·simp only [lM,jf] at hm;subst hm;have hn:n=0:=by simpa using h2.symm
  subst hn;cases base with
  | none=>rfl
  | some a=>exact run_bytesToString w2 a 0 cap [] rfl
 ·obtain ⟨ns,rfl,rfl⟩:=Yf g2 hm;have hl:ns.length=n:=by have:=g2.len; rw [h2] at this; simpa using this.symm
  have zL:=run_loadCells_list (P:=P) w2 ⟨b,off,none⟩ (ns.map (Value.int .u8)) (fun j v hj=>by
   rw [eV];refine ot.cell ?_;simp [World.cell?,g1,g3 j v hj])
  rw [abu,hl] at zL;rw [run_bytesToString w2 _ n cap ns zL]
  congr 2
  have:=fold_push ns ByteArray.empty;have h4:(ns.foldl (fun r n=>r.push (UInt8.ofNat n.toNat)) ByteArray.empty).data=(ns.map (fun n=>UInt8.ofNat n.toNat)).toArray:=by
   apply Array.ext';rw [this];simp
  generalize ns.foldl (fun r n=>r.push (UInt8.ofNat n.toNat)) ByteArray.empty=z at h4 ⊢;cases z;simp only at h4;rw [h4]
end
section
variable {P:Program} {c:cA} (aw:eu c P) {C:Ctx} {w:World} {st:St} {S:List (Nat × RT)} {X:Bool->Nat->Prop}
include aw
theorem Pg {t:TypeId} {x d':D} {u:Value} {k:IntKind} {i:Int} (hx:cx w X S x u) (h:yt c t x i=some d'):∃ r,(∀ w:World,(Instr.index t u (.int k i)).run P w=.ok r w)/\cx w X S d' r:=by
 unfold yt at h;split at h
 ·rename_i _ _ _ s ht;obtain ⟨d,h1,h2⟩:=(aw.ty _ _ ht).desc;simp only [lS] at h2;subst h2;have hu:u=.string s:=hx;subst hu;obtain ⟨g1,g2,g3⟩:=mP h;cases hb:s.data.toList[i.toNat]? with
  | none=>simp [hb] at g3
  | some b=>
   simp only [hb,OB,jf] at g3;subst g3;have dg:i.toNat < s.size:=by omega
   have jG:s[i.toNat]?=some b:=by
    have h5:s.data[i.toNat]?=some b:=by rw [<- adr]; exact hb
    rw [getElem?_pos s i.toNat dg];rw [adN dg] at h5;exact h5
   refine ⟨.int .u8 b.toNat,?_,rfl⟩;intro w;simp only [Instr.index,asIntOf,Sem.run_bind,Sem.run_pure,Result.andThen_ok,run_underlying h1,if_pos g1,jG]
 ·rename_i n e _ _ _ cs ht;split at h
  case h_2=>simp at h
  rename_i ei he;obtain ⟨d,h1,h2⟩:=(aw.ty _ _ ht).desc;simp only [lS] at h2;subst h2;obtain ⟨us,rfl,hu⟩:=hx;obtain ⟨g1,g2,g3⟩:=mP h;have cU:=fun w=>(aw.ty _ _ he).sz w;have EC:=fun w=>(aw.ty _ _ he).agg w;have hir:(0<=i/\i < (n:Int)):=⟨g1,g2⟩;split at g3
  ·rename_i ew;simp only [jf] at g3;subst g3;refine ⟨.agg (us.extract (i.toNat*ei.size) (i.toNat*ei.size+ei.size)),?_,?_⟩
   ·intro w; simp [Instr.index,asIntOf,run_underlying h1,hir,cU,part,EC,ew]
   ·refine ⟨_,rfl,?_⟩;have:=(hu.drop (i.toNat*ei.size)).take ei.size
    simpa [Array.toList_extract,List.extract] using this
  ·rename_i ew;obtain ⟨v,g4,g5⟩:=hu.get g3;refine ⟨v,?_,mN g5⟩;rw [adr] at g4;simp only [Bool.not_eq_true] at ew;intro w; simp [Instr.index,asIntOf,run_underlying h1,hir,cU,part,EC,ew,g4]
 ·simp at h
end
theorem Rel.zM {C:Ctx} {H:List T} {w:World} {st:St} {a:Act} {aI:List (Array Value)} {S:List (Nat × RT)} (h:Rel C H w st (a.tmps::aI) S) {dst:Option Nat} (ht:∀ t,dst=some t->t < a.tmps.size) {d:D} {v:Value} (hv:cx w (ah C w S H) S d v):
  Rel C H w (st.put dst d) ((a.put dst v).tmps::aI) S:=by
 cases dst with
 | none=>exact h
 | some t=>exact h.put (ht t rfl) hv
theorem iS (st:St) (dst:Option Nat) (d:D):(st.put dst d).of=st.of:=by cases dst<;>rfl
theorem vm {st st':St} {dst:Option Nat} {cs:List D} {d:Nat->D} (h:st.root dst cs d=some st'):st'.of=st.of/\∃ t,dst=some t:=by
 cases dst with
 | none=>simp [St.root] at h
 | some t=>
  simp only [St.root,jf] at h;subst h;exact ⟨rfl,t,rfl⟩
theorem cT (a:Act) (dst:Option Nat) (v:Value):(a.put dst v).tmps.size=a.tmps.size/\(a.put dst v).defers=a.defers:=by
 cases dst<;>simp [Act.put]
section
variable {P:Program} {c:cA} (aw:eu c P) {C:Ctx} {Hx:List T} {w:World} {st st':St} {vs:Array Value} {aI:List (Array Value)} {S:List (Nat × RT)} (h:Rel C Hx w st (vs::aI) S)
include aw h
theorem Ph {src dst:TypeId} {x d:D} {u:Value} (hx:cx w (ah C w S Hx) S x u) (hc:wZ c st src dst x=some (d,none)):∃ r,(∀ w2,dM w w2->(convert src dst u).run P w2=.ok r w2)/\cx w (ah C w S Hx) S d r:=by
 unfold wZ at hc;split at hc
 case h_2=>simp at hc
 rename_i si di hsi Vl;obtain ⟨ds,rp,tM⟩:=yB aw hsi;obtain ⟨dd,BG,pf⟩:=yB aw Vl;split at hc
 ·rename_i k _ n hk;rw [hk] at pf;simp only [lS] at pf;subst pf;simp only [jf,tE,and_true] at hc;subst hc;have hu:=gJ hx;subst hu;refine ⟨.int k (k.wrap n),?_,US _ _⟩;intro w2 _; simp [convert,run_underlying rp,run_underlying BG,Conv.intToInt]
 ·rename_i n hk;rw [hk] at pf;simp only [lS] at pf;subst pf;simp only [jf,tE,and_true] at hc;subst hc;have hu:=gJ hx;subst hu;refine ⟨.string (Utf8.encode n),?_,tvs _⟩;intro w2 _; simp [convert,run_underlying rp,run_underlying BG,Conv.intToString]
 ·rename_i s hk;rw [hk] at pf;simp only [lS] at pf;subst pf;simp only [jf,tE,and_true] at hc;subst hc;have hu:=Bn hx;subst hu;refine ⟨.string s,?_,tvs _⟩;intro w2 _; simp [convert,run_underlying rp,run_underlying BG]
 ·rename_i e hk Pj _ _;rw [hk] at pf;rw [Pj] at tM;simp only [lS] at pf tM;subst pf; subst tM;split at hc
  case h_2=>simp at hc
  rename_i he;obtain ⟨de,he1,he2⟩:=yB aw he;simp only [lS] at he2;subst he2;split at hc
  case h_2=>simp at hc
  rename_i g s n cs gK;split at hc
  case isFalse=>simp at hc
  rename_i hs;subst hs;split at hc
  case h_2=>simp at hc
  rename_i bs hm;simp only [jf,tE,and_true] at hc;subst hc;exact ⟨_,Ru aw h rp he1 BG hx gK hm,tvs _⟩
 ·simp at hc
theorem Vm {src dst:TypeId} {x d:D} {cs:List D} {u:Value} (hx:cx w (ah C w S Hx) S x u) (hc:wZ c st src dst x=some (d,some cs)) {t:Nat} (ht:t < vs.size) (hP:∀ p∈C.P0,p.1≠st.of+t)
  (hr:st.root (some t) cs (fun d=>.ref d [] 0 none)=some st'):∃ v w',(convert src dst u).run P w=.ok v w'/\∃ S',Rel C Hx w' st' (vs.setIfInBounds t v::aI) S':=by
 unfold wZ at hc;split at hc
 case h_2=>simp at hc
 rename_i si di hsi Vl;obtain ⟨ds,rp,tM⟩:=yB aw hsi;obtain ⟨dd,BG,pf⟩:=yB aw Vl;split at hc
 ·simp at hc
 ·simp at hc
 ·simp at hc
 ·split at hc
  ·split at hc
   ·split at hc
    ·split at hc<;>simp at hc
    ·simp at hc
   ·simp at hc
  ·simp at hc
 ·simp at hc
end
theorem Vn {st st':St} {d d':D} (h:jh st d=some (d',st')):st'.of=st.of:=by
 unfold jh at h;split at h<;>try (simp only [jf,tE] at h; obtain ⟨_,rfl⟩:=h; rfl)
 ·split at h
  ·split at h
   ·rename_i aQ hs;simp only [jf,tE] at h;obtain ⟨_,rfl⟩:=h;unfold St.gZ at hs;split at hs
    ·split at hs
     ·simp only [jf] at hs;subst hs; rfl
     ·simp at hs
    ·simp at hs
   ·simp at h
  ·simp only [jf,tE] at h; obtain ⟨_,rfl⟩:=h; rfl
  ·simp at h
 ·simp at h
theorem Pk:∀ {ds ds':List D} {st st':St},r8 st ds=some (ds',st')->st'.of=st.of
 | [],ds',st,st',h=>by simp only [r8,jf,tE] at h; obtain ⟨_,rfl⟩:=h; rfl
 | d::ds,ds',st,st',h=>by
  simp only [r8] at h;split at h
  case h_2=>simp at h
  rename_i d1 aQ h1;split at h
  case h_2=>simp at h
  rename_i gG cu h2;simp only [jf,tE] at h;obtain ⟨_,rfl⟩:=h;exact (Pk h2).trans (Vn h1)
theorem Vo {c:cA} {st st':St} {t tx:TypeId} {dst:Option Nat} {s x:D} (h:su c st t tx dst s x=some st'):∃ cu:St,∃ cs:List D,cu.of=st.of/\cu.root dst cs (fun d=>.ref d [] 0 none)=some st':=by
 unfold su at h;split at h
 case h_2=>simp at h
 split at h
 case h_2=>simp at h
 split at h
 case isFalse=>simp at h
 split at h
 case h_2=>simp at h
 rename_i n cs aQ rn;split at h
 case h_2=>simp at h
 rename_i ys m cu gV;split at h
 case isFalse=>simp at h
 refine ⟨cu,_,?_,h⟩;have h1:aQ.of=st.of:=by
  unfold target at rn;split at rn
  ·rename_i s' n' cs' Eo dH;split at rn
   ·simp only [jf,tE] at rn;obtain ⟨_,_,rfl⟩:=rn;exact Vn dH
   ·simp at rn
  ·simp at rn
 have h2:cu.of=aQ.of:=by
  unfold elems at gV;split at gV<;>try (simp at gV; done)
  ·split at gV<;>simp only [jf,tE,reduceCtorEq] at gV
   obtain ⟨_,_,rfl⟩:=gV; rfl
  ·split at gV<;>simp only [jf,tE,reduceCtorEq] at gV
   obtain ⟨_,_,rfl⟩:=gV; rfl
  ·simp only [jf,tE] at gV;obtain ⟨_,_,rfl⟩:=gV; rfl
  ·split at gV<;>simp only [jf,tE,reduceCtorEq] at gV
   obtain ⟨_,_,rfl⟩:=gV; rfl
  ·split at gV
   ·split at gV
    ·simp at gV
    ·split at gV
     ·split at gV<;>simp only [jf,tE,reduceCtorEq] at gV
      obtain ⟨_,_,rfl⟩:=gV; rfl
     ·split at gV
      ·rename_i ys' st4 dH;split at gV<;>simp only [jf,tE,reduceCtorEq] at gV
       obtain ⟨_,_,rfl⟩:=gV;exact Pk dH
      ·simp at gV
   ·split at gV<;>simp only [jf,tE,reduceCtorEq] at gV
    obtain ⟨_,_,rfl⟩:=gV; rfl
   ·simp at gV
 exact h2.trans h1
theorem Vp (A:Addr) (i:Nat):(A.add i).block=A.block:=by
 obtain ⟨b,o,s⟩:=A;cases s<;>first | rfl | (simp only [Addr.add]; split<;>rfl)
theorem Mx (w:World) (a:Addr) (v:Value) {k:Nat} (hk:k≠a.block):(w.setCell a v).heap[k]?=w.heap[k]?:=by
 simp [World.setCell,abR,aeR hk]
theorem vM {P:Program} {b:Nat}:∀ {us:List Value} {w w':World} {i:Nat},∀ A:Addr,A.block=b->(∃ c e fz,w.heap[b]?=some (.cells c e fz))->(storeCells A us i).run P w=.ok () w'->∀ k,k≠b->w'.heap[k]?=w.heap[k]?
 | [],w,w',i,A,hA,_,h,k,hk=>by
  simp only [storeCells,Sem.run_pure,Result.ok.injEq,true_and] at h;rw [h]
 | u::us,w,w',i,A0,Vq,⟨c,e,fz,hb⟩,h,k,hk=>by
  have step:∀ w1:World,(store (Addr.add A0 i) u).run P w=.ok () w1->(∃ c e fz,w1.heap[b]?=some (.cells c e fz))/\w1.heap[k]?=w.heap[k]?:=by
   intro w1 h1;have fv:(Addr.add A0 i).block=b:=by rw [Vp,Vq]
   generalize Addr.add A0 i=A at h1 fv;have Z8:∀ v m,∀ r,w.farStore P A v m≠.ok r:=by
    intro v m r;unfold World.farStore;rw [fv,hb];simp
   have main:u.oneCell'=true->(∃ c e fz,w1.heap[b]?=some (.cells c e fz))/\w1.heap[k]?=w.heap[k]?:=by
    intro h1c;rw [run_store P w A u _ h1c] at h1;split at h1
    ·split at h1
     ·simp at h1
     ·simp only [Result.ok.injEq,true_and] at h1;subst h1;refine ⟨?_,Mx w A u (by rw [fv]; exact hk)⟩
      simp only [World.setCell,abR,fv,if_true,hb,OB];exact ⟨_,_,_,rfl⟩
    ·split at h1
     ·rename_i r hr;exact absurd hr (Z8 _ _ _)
     ·simp at h1
   cases u with
   | agg us=>simp [store,Sem.run] at h1
   | tuple us=>simp [store,Sem.run] at h1
   | _=>exact main rfl
  rw [storeCells,Sem.run_bind] at h;cases hs:(store (Addr.add A0 i) u).run P w with
  | ok _ w1=>
   rw [hs,Result.andThen_ok] at h;obtain ⟨h2,h3⟩:=step w1 hs;rw [vM A0 Vq h2 h k hk,h3]
  | halt x w1=>
   rw [hs] at h;simp [Result.andThen] at h
structure yC (o:Oper) (a:Act) (S:List (Nat × RT)) (w w':World):Prop where
 al:sa o=true->dM w w'
 ap:∀ cc,o.op=.call cc->cc.callee=.builtin .append->∀ r R b,lk S r=some R->R.box=some b->w'.heap[b]?=w.heap[b]?
 st:∀ t x y,o.op=.store t x y->∀ A,a.eval x=.pointer (some A)->(∃ c e fz,w.heap[A.block]?=some (.cells c e fz))->∀ k,k≠A.block->w'.heap[k]?=w.heap[k]?
theorem yC.refl (o:Oper) (a:Act) (S:List (Nat × RT)) (w:World):yC o a S w w:=⟨fun _=>dM.refl w,fun _ _ _ _ _ _ _ _=>rfl,fun _ _ _ _ _ _ _ _ _=>rfl⟩
theorem yC.alloc {o:Oper} {a:Act} {S:List (Nat × RT)} {w w':World} (h:dM w w') (h2:sa o=true):yC o a S w w':=⟨fun _=>h,fun cc e=>by simp [sa,e] at h2,fun t x y e=>by simp [sa,e] at h2⟩
theorem Vr {l:List (Nat × List D)} {S:List (Nat × RT)} (h:gS l S) {r:Nat} {R:List D} (hR:lk l r=some R):gS (pz l r R) S:=by
 intro j;by_cases hj:j=r
 ·subst hj; rw [hD,<- hR]; exact h j
 ·rw [qg _ _ hj]; exact h j
theorem Js (z:Array Value) (m:Nat):(Builtin.zeroCells z m).toList=(List.replicate m z.toList).flatten:=by
 simp only [Builtin.zeroCells,ad6,Array.toList_range];exact xz z m
section
variable {P:Program} {c:cA} (aw:eu c P) {C:Ctx} {Hx:List T} {w:World} {st st':St} {o:Oper} {a:Act} {aI:List (Array Value)} {S:List (Nat × RT)} {K:Act->World->Prop} {Q:Exit->Act->World->Prop}
 {cl:FuncId->List D->Option (D × List D)} {ci:FuncId->List D->Nat->St->Option (D × St)} {aA:FuncId}
include aw
theorem Yg {aI:List (Array Value)} (h:Rel C Hx w st aI S) {t ty:TypeId} {x:D} {u:Value} (hx:cx w (ah C w S Hx) S x u) (hc:Bl c st t x=some st'):∃ w' S',(Builtin.clear_ #[t] ty #[u]).run P w=.ok (.tuple #[]) w'/\Rel C Hx w' st' aI S'/\st'.of=st.of:=by
 unfold Bl at hc;split at hc
 case h_2=>simp at hc
 rename_i e tsz tby tz fO;obtain ⟨dd,h1,h2⟩:=(aw.ty t _ fO).desc;simp only [lS] at h2;subst h2;split at hc
 case h_2=>simp at hc
 rename_i ei iu;split at hc
 case h_2=>simp at hc
 rename_i r q o y;split at hc
 case h_2=>simp at hc
 rename_i R0 Sd;split at hc
 case h_2=>simp at hc
 rename_i s n cs cO;split at hc
 case isFalse=>simp at hc
 rename_i hs;obtain ⟨hs,UX⟩:=hs;subst hs;obtain ⟨R,l,t',h6,h7,h8,h9,lT⟩:=iM h.rt cO;obtain ⟨cap,a,ts,rfl,rfl⟩:=vG lT.symm;have dF:=rb h.mem h6 h7 h8 lT.symm;have hr:=hx _ h9;have pN:(underlying t).run P w=.ok (.slice e) w:=run_underlying h1 w;have h':Rel C Hx w { st with rt:=pz st.rt r R0 } aI S:=⟨Vr h.rt Sd,h.mem,h.pd,h.kept⟩
 by_cases hz:(trim y ei.size n (ba ts)).1=0
 ·rw [hz] at hc;simp only [abA,List.flatten_nil,fE,jf] at hc;subst hc;obtain ⟨cap',a',hu,_⟩:=Pd dF hr;refine ⟨w,S,?_,h',rfl⟩;rw [hu,hz];cases a'<;>simp [Builtin.clear_,uF,pN,Result.andThen]
 ·obtain ⟨b,off0,n',c',rfl,rfl,Ll⟩:=Lm dF hr (by omega)
  obtain ⟨i,hi1,hi2,Vs,z,Pl,ED⟩:=(aw.ty e ei iu).info;obtain ⟨Br,Z3⟩:=Fg (bx:=R.box) h7 h8;have hp:bD w (ah C w S Hx) S (.ptr r (q++[o]) 0) (.pointer (some ⟨b,off0,none⟩)):=by
   intro R' dV;rw [h6,jf] at dV;subst dV;refine ⟨fun e=>by simp at e,fun b' off' fH=>?_⟩
   rw [Br,jf,tE] at fH;obtain ⟨rfl,rfl⟩:=fH;rfl
  have dR:∀ m:Nat,cm (fun d u=>bD w (ah C w S Hx) S (id d) u) (List.replicate m ei.zero).flatten (List.replicate m z.cells.toList).flatten:=fun m=>by
   induction m with
   | zero=>exact .nil
   | succ m ih=>
    rw [abq,abq,abB,abB];exact (ED.mono fun a b hab=>fP (hab _ _)).app ih
  obtain ⟨w',S',c1,c2,c3⟩:=EB (P:=P) (b:=b) (off0:=off0) (off:=off0+off y*ei.size) (i:=0) h' hp (dR _) (by omega) hc
  refine ⟨w',S',?_,c2,c3⟩;have hzv:∀ w,(zeroValue e).run P w=.ok z w:=fun w=>Ff hi1 Pl w;rw [<- Ll] at hz c1;rw [<- Js] at c1;obtain ⟨m,rfl⟩:∃ m,n'=m+1:=⟨n' - 1,by omega⟩
  simp [Builtin.clear_,pN,hzv,Result.andThen,c1]
theorem Vt (h:Rel C Hx w st (a.tmps::aI) S) (fQ:∀ t,o.dst=some t->t < a.tmps.size/\∀ p∈C.P0,p.1≠st.of+t) (pe:∀ cc f,o.op=.call cc->cc.callee≠.value f) (aq:fb c cl ci aA st o=some st')
  (hK:∀ a' w' S',Rel C Hx w' st' (a'.tmps::aI) S'->a'.tmps.size=a.tmps.size->a'.defers=a.defers->st'.of=st.of->yC o a S w w'->K a' w'):o.wp P a w K Q:=by
 have fX:mF w (ah C w S Hx) S st.tm a.tmps:=by cases h.pd with | cons a _=>exact a
 have ev:=fun t x=>xe (c:=c) fX t x;have BG:∀ t,o.dst=some t->t < a.tmps.size:=fun t ht=>(fQ t ht).1;have cR:∀ {d:D} {v:Value},(execOp a.eval o).run P w=.ok (.value v) w->cx w (ah C w S Hx) S d v->st'=st.put o.dst d->o.wp P a w K Q:=by
  intro d v eB hv cF;subst cF;refine oo eB (hK _ _ S (h.zM BG hv) (cT a o.dst v).1 (cT a o.dst v).2 (iS st o.dst d) (yC.refl o a S w))
 have zN:∀ {aQ:St} {cs:List D} {dd:Nat->D},aQ.of=st.of->aQ.root o.dst cs dd=some st'->(∀ t,o.dst=some t->t < a.tmps.size->(∀ p∈C.P0,p.1≠st.of+t)->aQ.root (some t) cs dd=some st'->∃ v w',(execOp a.eval o).run P w=.ok (.value v) w'/\yC o a S w w'/\∃ S',Rel C Hx w' st' (a.tmps.setIfInBounds t v::aI) S')->o.wp P a w K Q:=by
  intro aQ cs dd qG hr hk;obtain ⟨h1,t,ht⟩:=vm hr;rw [ht] at hr;obtain ⟨v,w',eB,vN,S',hM⟩:=hk t ht (fQ t ht).1 (fQ t ht).2 hr;refine oo eB (hK _ _ S' ?_ (cT a o.dst v).1 (cT a o.dst v).2 (h1.trans qG) vN);rw [ht];exact hM
 unfold fb at aq;cases ho:o.op with
 | move x=>
  simp only [ho,jf] at aq;exact cR (by unfold execOp; simp only [ho]; rfl) (ev o.type x) aq.symm
 | assign x=>
  simp only [ho,jf] at aq;exact cR (by unfold execOp; simp only [ho]; rfl) (ev o.type x) aq.symm
 | pick b x y=>
  simp only [ho] at aq;split at aq
  case h_2=>simp at aq
  rename_i t hb;simp only [jf] at aq;have GZ:=ev o.type b;rw [hb] at GZ;have GZ:a.eval b=.bool t:=GZ;refine cR (v:=if t then a.eval x else a.eval y) (d:=if t then ct c st o.type x else ct c st o.type y) ?_ ?_ aq.symm
  ·unfold execOp;simp only [ho,GZ,asBool,Sem.run_bind,Sem.run_pure,Result.andThen_ok]
  ·cases t
   ·exact ev o.type y
   ·exact ev o.type x
 | alloc e=>
  simp only [ho] at aq;split at aq
  case h_2=>simp at aq
  rename_i i hi;refine zN rfl aq (fun t ht h1 h2 h3=>?_);obtain ⟨v,w',hr,hG,hS⟩:=X6 aw h hi h1 h2 h3;exact ⟨v,w',by unfold execOp; simp only [ho,Sem.run_bind,hr,Result.andThen_ok,Sem.run_pure],.alloc hG (by simp [sa,ho]),hS⟩
 | box e x=>
  simp only [ho] at aq;split at aq
  case h_2=>simp at aq
  rename_i i hi;by_cases cF:c.qY aA (o.dst.getD 0)=true
  ·simp only [cF,if_true,and_true] at aq;split at aq
   case isFalse=>simp at aq
   rename_i hc;split at aq
   case h_2=>simp at aq
   rename_i t ht;rw [ht] at cF;simp only [abV] at cF;simp only [cF,if_true] at aq;split at aq
   case h_2=>simp at aq
   rename_i cs aQ dH;split at aq
   case isFalse=>simp at aq
   rename_i ed;obtain ⟨v,w',hr,hG,S',hM⟩:=U8 aw h hc dH ed (fQ t ht).1 (fQ t ht).2 aq;refine oo (v:=v) (w':=w') (by unfold execOp; simp only [ho,Sem.run_bind,hr,Result.andThen_ok,Sem.run_pure]) (hK _ _ S' (by rw [ht]; exact hM) (cT a o.dst v).1 (cT a o.dst v).2 ((vm aq).1.trans (Pk dH)) (.alloc hG (by simp [sa,ho])))
  ·simp only [cF,aai,if_false] at aq;split at aq
   case isFalse=>simp at aq
   rename_i hc;split at aq
   case h_2=>simp at aq
   rename_i t ht;rw [ht] at cF;simp only [abV] at cF;simp only [cF,aai,if_false] at aq;obtain ⟨v,w',hr,hG,S',hM⟩:=aea aw h hc.1 hc.2 (fQ t ht).1 (fQ t ht).2 aq;refine oo (v:=v) (w':=w') (by unfold execOp; simp only [ho,Sem.run_bind,hr,Result.andThen_ok,Sem.run_pure]) (hK _ _ S' (by rw [ht]; exact hM) (cT a o.dst v).1 (cT a o.dst v).2 (vm aq).1 (.alloc hG (by simp [sa,ho])))
 | build t ps=>
  simp only [ho] at aq;split at aq
  ·rename_i mo szs sz qB z fO;split at aq
   case h_2=>simp at aq
   rename_i cs hf;simp only [jf] at aq;obtain ⟨v,hr,hv⟩:=By aw h fO hf;exact cR (by unfold execOp; simp only [ho,Sem.run_bind,hr,Result.andThen_ok,Sem.run_pure]) hv aq.symm
  ·rename_i n e sz qB z fO;split at aq
   case h_2=>simp at aq
   rename_i ei iu;split at aq
   case h_2=>simp at aq
   rename_i cs hf;simp only [jf] at aq;obtain ⟨v,hr,hv⟩:=Ey aw h fO iu hf;exact cR (by unfold execOp; simp only [ho,Sem.run_bind,hr,Result.andThen_ok,Sem.run_pure]) hv aq.symm
  ·simp at aq
 | buildSlice t n ps=>
  simp only [ho] at aq;split at aq
  case h_2=>simp at aq
  rename_i e sz qB z fO;split at aq
  case h_2=>simp at aq
  rename_i ei iu;split at aq
  case isFalse=>simp at aq
  rename_i hn;split at aq
  case h_2=>simp at aq
  rename_i vs aQ hp;split at aq
  case h_2=>simp at aq
  rename_i cs hf;have qG:aQ.of=st.of:=by
   have dR:cm (fun p q=>q.1=p.1/\cx w (ah C w S Hx) S p.2 q.2) (ps.toList.map fun p=>(p.1,ct c st e p.2)) (ps.toList.map fun p=>(p.1,a.eval p.2)):=by
    refine du (by simp) (fun i x y hx hy=>?_)
    simp only [aa5] at hx hy;cases hq:ps.toList[i]? with
    | none=>simp [hq] at hx
    | some q=>
     simp only [hq,OB,jf] at hx hy;subst hx; subst hy;exact ⟨rfl,ev e q.2⟩
   obtain ⟨_,_,_,_,_,_,_,_,b7⟩:=GQ h dR hp;exact b7.2.2
  refine zN qG aq (fun t' ht h1 h2 h3=>?_);obtain ⟨v,w',hr,hG,hS⟩:=Mv aw h fO rfl iu hn hp hf h1 h2 h3;exact ⟨v,w',by unfold execOp; simp only [ho,Sem.run_bind,hr,Result.andThen_ok,Sem.run_pure],.alloc hG (by simp [sa,ho]),hS⟩
 | load t x=>
  simp only [ho] at aq;split at aq
  case h_2=>simp at aq
  rename_i i hi;split at aq
  case h_2=>simp at aq
  rename_i d hl;simp only [jf] at aq;obtain ⟨v,hr,hv⟩:=Jj aw h.rt h.mem hi (ev o.type x) hl
  replace hr:=hr w (Bm.refl _ w)
  exact cR (by unfold execOp; simp only [ho,Sem.run_bind,hr,Result.andThen_ok,Sem.run_pure]) hv aq.symm
 | store t x y=>
  simp only [ho] at aq;split at aq
  case h_2=>simp at aq
  rename_i i hi;split at aq
  case h_2=>simp at aq
  rename_i aQ hs;simp only [jf] at aq;subst aq;obtain ⟨w',S',hr,hM,qG⟩:=Ve aw h hi (ev o.type x) (ev t y) hs;refine Tj (w':=w') (by unfold execOp; simp only [ho,Sem.run_bind,hr,Result.andThen_ok,Sem.run_pure]) (hK _ _ S' (hM.zM BG (d:=.aM []) ?_) (cT a o.dst undef).1 (cT a o.dst undef).2 ((iS aQ o.dst _).trans qG) ?_)
  ·exact ⟨#[],rfl,.nil⟩
  ·refine ⟨fun e=>by simp [sa,ho] at e,fun cc e=>by simp [ho] at e,fun t0 x0 y0 e A hA cO k hk=>?_⟩
   rw [ho,Op.store.injEq] at e;obtain ⟨rfl,rfl,rfl⟩:=e;rw [hA] at hr;have EE:(storeVar t A (a.eval y)).run P w=.ok () w':=by simpa [Instr.storeAt,Instr.sureAddr] using hr
   simp only [storeVar,Sem.run_bind,(aw.ty _ _ hi).sz w,Result.andThen_ok] at EE;split at EE
   ·simp at EE
   ·exact vM A rfl cO (by simpa using EE) k hk
 | nilCheck x=>
  simp only [ho] at aq;have hx:=ev o.type x;have hd:∃ A,a.eval x=.pointer (some A)/\st'=st.put o.dst (ct c st o.type x):=by
   split at aq
   ·rename_i r q i heq;split at aq
    ·rename_i hl;simp only [jf] at aq;rw [heq] at hx;obtain ⟨A,hA,_⟩:=tn h.rt h.mem hx (by simp only [hl,if_true]; rfl)
     exact ⟨A,hA,by rw [heq]; exact aq.symm⟩
    ·simp at aq
   ·rename_i cs i heq;simp only [jf] at aq;rw [heq] at hx;obtain ⟨A,hA,_⟩:=tn h.rt h.mem hx rfl;exact ⟨A,hA,by rw [heq]; exact aq.symm⟩
   ·simp at aq
  obtain ⟨A,hA,cF⟩:=hd;refine cR (v:=a.eval x) ?_ hx cF;unfold execOp;simp only [ho,hA];rfl
 | binOp op t x y z=>
  simp only [ho] at aq;split at aq
  case h_2=>simp at aq
  rename_i d hb;simp only [jf] at aq;obtain ⟨v,hr,hv⟩:=UT aw (x:=x) (y:=y) (ev t x) (ev t y) hb;exact cR (by unfold execOp; simp only [ho,Sem.run_bind] at hr ⊢; rw [hr]; rfl) hv aq.symm
 | unOp op t x=>
  simp only [ho] at aq;split at aq
  case h_2=>simp at aq
  rename_i d hb;simp only [jf] at aq;obtain ⟨v,hr,hv⟩:=Z2 (P:=P) (ev o.type x) hb;exact cR (by unfold execOp; simp only [ho,Sem.run_bind,hr,Result.andThen_ok,Sem.run_pure]) hv aq.symm
 | makeFunc fn first gY=>
  cases fn with
  | func f=>
   simp only [ho] at aq;split at aq
   case isFalse=>simp at aq
   rename_i hf;simp only [jf] at aq;have Pm:first=#[]:=abC hf.1
   subst Pm;refine cR (v:=.func (.func f) #[] (gY.map a.eval)) (by simp [execOp,ho,Instr.makeFunc]) ?_ aq.symm
   refine ⟨_,rfl,?_⟩;refine du (by simp) (fun i x y hx hy=>?_)
   have hs:single x=true:=aac.1 hf.2 x (aak hx);simp only [ad6,aa5] at hx hy;cases hq:gY.toList[i]? with
   | none=>simp [hq] at hx
   | some q=>
    simp only [hq,OB,jf] at hx hy;subst hy;have hv:=ev o.type q;rw [hx] at hv;cases x<;>first | exact hv | simp [single] at hs
  | _=>simp [ho] at aq
 | makeSlice t l cp=>
  simp only [ho] at aq;split at aq
  case h_2=>simp at aq
  rename_i e sz qB z fO;split at aq
  case h_2=>simp at aq
  rename_i ei kl li kc ci iu hl hc;split at aq
  case isFalse=>simp at aq
  rename_i h0;split at aq
  case isFalse=>simp at aq
  rename_i Bx;split at aq
  case isFalse=>simp at aq
  rename_i hb;have hlv:=ev o.type l;rw [hl] at hlv;have BE:=ev o.type cp;rw [hc] at BE;have hlv:=gJ hlv;have BE:=gJ BE;refine zN rfl aq (fun t' ht h1 h2 h3=>?_);obtain ⟨v,w',hr,hG,hS⟩:=OZ aw h fO rfl iu (kl:=kl) (kc:=kc) h0 Bx hb h1 h2 h3;exact ⟨v,w',by unfold execOp; simp only [ho,hlv,BE,Sem.run_bind,hr,Result.andThen_ok,Sem.run_pure],.alloc hG (by simp [sa,ho]),hS⟩
 | convert src dst x=>
  simp only [ho] at aq;split at aq
  ·rename_i d hc;simp only [jf] at aq;obtain ⟨v,hr,hv⟩:=Ph aw h (ev src x) hc
   replace hr:=hr w (dM.refl w)
   exact cR (by unfold execOp; simp only [ho,Sem.run_bind,hr,Result.andThen_ok,Sem.run_pure]) hv aq.symm
  ·rename_i d cs hc;refine zN rfl aq (fun t' ht h1 h2 h3=>?_);obtain ⟨v,w',hr,hS⟩:=Vm aw h (ev src x) hc h1 h2 h3;exact ⟨v,w',by unfold execOp; simp only [ho,Sem.run_bind,hr,Result.andThen_ok,Sem.run_pure],⟨fun e=>by simp [sa,ho] at e,fun cc e=>by simp [ho] at e,fun t0 x0 y0 e=>by simp [ho] at e⟩,hS⟩
  ·simp at aq
 | slice t x lo hi mx=>
  cases mx with
  | some _=>simp [ho] at aq
  | none=>
   simp only [ho] at aq;split at aq
   case h_2=>simp at aq
   rename_i d hs;simp only [jf] at aq;have Pn:∀ y:Option Operand,Ln w (ah C w S Hx) S (y.map (ct c st o.type)) (y.map a.eval):=by
    intro y;cases y with
    | none=>exact .inl ⟨rfl,rfl⟩
    | some y=>exact .inr ⟨_,_,rfl,rfl,ev o.type y⟩
   obtain ⟨v,hr,hv⟩:=OQ aw h.rt h.mem (ev t x) (Pn lo) (Pn hi) hs;exact cR (by unfold execOp; simp only [ho,afe,Sem.run_bind,hr,Result.andThen_ok,Sem.run_pure]) hv aq.symm
 | fieldAddr s x f=>
  simp only [ho] at aq;split at aq
  case h_2=>simp at aq
  rename_i mo szs sz qB z fO;split at aq
  case h_2=>simp at aq
  rename_i k hk;split at aq
  case h_2=>simp at aq
  rename_i d hs;simp only [jf] at aq;obtain ⟨v,hr,hv⟩:=Bo aw h.rt h.mem fO hk (ev o.type x) hs;exact cR (by unfold execOp; simp only [ho,Sem.run_bind,hr,Result.andThen_ok,Sem.run_pure]) hv aq.symm
 | indexAddr t x i=>
  simp only [ho] at aq;split at aq
  case h_2=>simp at aq
  rename_i k i' hi;split at aq
  case h_2=>simp at aq
  rename_i d hs;simp only [jf] at aq;have rq:=ev o.type i;rw [hi] at rq;have rq:=gJ rq;obtain ⟨v,hr,hv⟩:=Bq aw h.rt h.mem (k:=k) (ev t x) hs;exact cR (by unfold execOp; simp only [ho,rq,Sem.run_bind,hr,Result.andThen_ok,Sem.run_pure]) hv aq.symm
 | index t x i=>
  simp only [ho] at aq;split at aq
  case h_2=>simp at aq
  rename_i k i' hi;split at aq
  case h_2=>simp at aq
  rename_i d hs;simp only [jf] at aq;have rq:=ev o.type i;rw [hi] at rq;have rq:=gJ rq;obtain ⟨v,hr,hv⟩:=Pg aw (k:=k) (ev o.type x) hs;exact cR (by unfold execOp; simp only [ho,rq,Sem.run_bind,hr,Result.andThen_ok,Sem.run_pure]) hv aq.symm
 | extract x i=>
  simp only [ho] at aq;split at aq
  case h_2=>simp at aq
  rename_i vs hx;split at aq
  case h_2=>simp at aq
  rename_i d hs;simp only [jf] at aq;have Vu:=ev o.type x;rw [hx] at Vu;obtain ⟨v,hr,hv⟩:=GF (P:=P) Vu hs;exact cR (by unfold execOp; simp only [ho,Sem.run_bind,hr,Result.andThen_ok,Sem.run_pure]) hv aq.symm
 | call cc=>
  simp only [ho] at aq;split at aq
  ·simp at aq
  rename_i cU;simp only [ne_eq,af2] at cU;have uV:∀ {ds:List D},((cc.args.toList.zip cc.argTypes.toList).map fun p=>ct c st p.2 p.1)=ds->cm (cx w (ah C w S Hx) S) ds (cc.args.map a.eval).toList:=by
   intro ds Po;subst Po;refine du (by simp [cU]) (fun i x y hx hy=>?_)
   simp only [ad6,aa5] at hx hy;cases hq:(cc.args.toList.zip cc.argTypes.toList)[i]? with
   | none=>simp [hq] at hx
   | some q=>
    simp only [hq,OB,jf] at hx;rw [afh] at hq;simp only [hq.1,OB,jf] at hy;subst hx; subst hy;exact ev q.2 q.1
  split at aq
  ·rename_i f hf;exact absurd hf (pe cc f ho)
  ·rename_i hb;split at aq
   case h_2=>simp at aq
   rename_i x t hx ht;split at aq
   case h_2=>simp at aq
   rename_i d hl;simp only [jf] at aq;have ha:=uV hx;have gQ:cc.args.map a.eval=#[(cc.args.map a.eval).toList.headD undef]:=by
    cases ey:(cc.args.map a.eval).toList with
    | nil=>rw [ey] at ha; cases ha
    | cons y ys=>rw [ey] at ha; cases ha with
     | cons _ h2=>cases h2; rw [<- abd (xs:=cc.args.map a.eval),ey]; rfl
   have yA:cc.argTypes=#[t]:=by rw [<- abd (xs:=cc.argTypes),ht]
   have BH:cx w (ah C w S Hx) S x ((cc.args.map a.eval).toList.headD undef):=by
    cases ey:(cc.args.map a.eval).toList with
    | nil=>rw [ey] at ha; cases ha
    | cons y ys=>rw [ey] at ha; cases ha with
     | cons h1 _=>exact h1
   obtain ⟨v,hr,hv⟩:=UW aw h.rt h.mem BH hl o.type;exact cR (by unfold execOp; simp only [ho,resolve,hb,invoke,builtin,Sem.run_bind,Sem.run_pure,Result.andThen_ok]; rw [gQ,yA,hr]; rfl) hv aq.symm
  ·rename_i hb;split at aq
   case h_2=>simp at aq
   rename_i k x k' y hx;simp only [jf] at aq;have ha:=uV hx;have gQ:cc.args.map a.eval=#[.int k x,.int k' y]:=by
    cases ey:(cc.args.map a.eval).toList with
    | nil=>rw [ey] at ha; cases ha
    | cons y ys=>rw [ey] at ha; cases ha with
     | cons h1 h2=>
      cases h2 with
      | cons h3 h4=>
       cases h4;rw [<- abd (xs:=cc.args.map a.eval),ey,gJ h1,gJ h3]
   refine cR (v:=.int k (if y < x then y else x)) ?_ (US _ _) aq.symm
   unfold execOp;simp only [ho,resolve,hb,invoke,builtin,Sem.run_bind,Sem.run_pure,Result.andThen_ok];rw [gQ];simp [Builtin.min_,Builtin.min2]
  ·rename_i hb;split at aq
   case h_2=>simp at aq
   rename_i k x k' y hx;simp only [jf] at aq;have ha:=uV hx;have gQ:cc.args.map a.eval=#[.int k x,.int k' y]:=by
    cases ey:(cc.args.map a.eval).toList with
    | nil=>rw [ey] at ha; cases ha
    | cons y ys=>rw [ey] at ha; cases ha with
     | cons h1 h2=>
      cases h2 with
      | cons h3 h4=>
       cases h4;rw [<- abd (xs:=cc.args.map a.eval),ey,gJ h1,gJ h3]
   refine cR (v:=.int k (if y>x then y else x)) ?_ (US _ _) aq.symm
   unfold execOp;simp only [ho,resolve,hb,invoke,builtin,Sem.run_bind,Sem.run_pure,Result.andThen_ok];rw [gQ];simp [Builtin.max_,Builtin.max2]
  ·rename_i hb;split at aq
   case h_2=>simp at aq
   rename_i s x t tx hx ht;have ha:=uV hx;obtain ⟨us,ux,gQ,rp,BH⟩:∃ us ux,cc.args.map a.eval=#[us,ux]/\cx w (ah C w S Hx) S s us/\cx w (ah C w S Hx) S x ux:=by
    cases ey:(cc.args.map a.eval).toList with
    | nil=>rw [ey] at ha; cases ha
    | cons y ys=>rw [ey] at ha; cases ha with
     | cons h1 h2=>
      cases h2 with
      | cons h3 h4=>
       cases h4;exact ⟨_,_,by rw [<- abd (xs:=cc.args.map a.eval),ey],h1,h3⟩
   have yA:cc.argTypes=#[t,tx]:=by rw [<- abd (xs:=cc.argTypes),ht]
   obtain ⟨cu,dd,qG,Om⟩:∃ cu:St,∃ cs:List D,cu.of=st.of/\cu.root o.dst cs (fun d=>.ref d [] 0 none)=some st':=Vo aq;obtain ⟨_,t',pK⟩:=vm Om;rw [pK] at aq;obtain ⟨v,w',hr,hG,S',hM⟩:=Vk aw h rp BH (ty:=o.type) (fQ t' pK).1 (fQ t' pK).2 aq;refine oo (v:=v) (w':=w') (by unfold execOp; simp only [ho,resolve,hb,invoke,builtin,Sem.run_bind,Sem.run_pure,Result.andThen_ok]; rw [gQ,yA,hr]; rfl) (hK _ _ S' (by rw [pK]; exact hM) (cT a o.dst v).1 (cT a o.dst v).2 ((vm Om).1.trans qG) ⟨fun e=>by simp [sa,ho] at e,fun _ _ _=>hG,fun t0 x0 y0 e=>by simp [ho] at e⟩)
  ·rename_i hb;split at aq
   case h_2=>simp at aq
   rename_i x t hx ht;split at aq
   case h_2=>simp at aq
   rename_i aQ hc;simp only [jf] at aq;subst aq;have ha:=uV hx;obtain ⟨ux,gQ,BH⟩:∃ ux,cc.args.map a.eval=#[ux]/\cx w (ah C w S Hx) S x ux:=by
    cases ey:(cc.args.map a.eval).toList with
    | nil=>rw [ey] at ha; cases ha
    | cons y ys=>rw [ey] at ha; cases ha with
     | cons h1 h2=>
      cases h2;exact ⟨_,by rw [<- abd (xs:=cc.args.map a.eval),ey],h1⟩
   have yA:cc.argTypes=#[t]:=by rw [<- abd (xs:=cc.argTypes),ht]
   obtain ⟨w',S',hr,hM,qG⟩:=Yg aw h BH (ty:=o.type) hc;refine oo (v:=.tuple #[]) (w':=w') (by unfold execOp; simp only [ho,resolve,hb,invoke,builtin,Sem.run_bind,Sem.run_pure,Result.andThen_ok]; rw [gQ,yA,hr]; rfl) (hK _ _ S' (hM.zM BG (d:=.aM []) ⟨#[],rfl,.nil⟩) (cT a o.dst _).1 (cT a o.dst _).2 ((iS aQ o.dst _).trans qG) ⟨fun e=>by simp [sa,ho] at e,fun cc' e1 e2=>?_,fun t x y e=>by simp [ho] at e⟩)
   rw [ho] at e1;simp only [Op.call.injEq] at e1;subst e1;rw [hb] at e2;simp at e2
  ·simp at aq
 | _=>simp [ho] at aq
end
def Rd (o:Oper) (a:Act) (w w2:World):Prop:=
 match o.op with
 | .load _ x=>Bm (a.eval x) w w2
 | _=>dM w w2
theorem dM.rd {w w2:World} (h:dM w w2) (o:Oper) (a:Act):Rd o a w w2:=by
 unfold Rd;split
 ·exact h.aiY _
 ·exact h
section
variable {P:Program} {c:cA} (aw:eu c P) {C:Ctx} {Hx:List T} {w:World} {st st':St} {o:Oper} {a:Act} {aI:List (Array Value)} {S:List (Nat × RT)}
 {cl:FuncId->List D->Option (D × List D)} {ci:FuncId->List D->Nat->St->Option (D × St)} {aA:FuncId}
include aw
theorem Pp (h:Rel C Hx w st (a.tmps::aI) S) {b:Bool} (kZ:nJ c o=some b) (aq:fb c cl ci aA st o=some st'):
  ∃ v d,(∀ w2,(b=true∨Rd o a w w2)->(execOp a.eval o).run P w2=.ok (.value v) w2)/\cx w (ah C w S Hx) S d v/\st'=st.put o.dst d:=by
 have fX:mF w (ah C w S Hx) S st.tm a.tmps:=by cases h.pd with | cons a _=>exact a
 have ev:=fun t x=>xe (c:=c) fX t x;have cR:∀ {d:D} {v:Value},(∀ w2,(b=true∨Rd o a w w2)->(execOp a.eval o).run P w2=.ok (.value v) w2)->cx w (ah C w S Hx) S d v->st'=st.put o.dst d->∃ v d,(∀ w2,(b=true∨Rd o a w w2)->(execOp a.eval o).run P w2=.ok (.value v) w2)/\cx w (ah C w S Hx) S d v/\st'=st.put o.dst d:=
  fun h1 h2 h3=>⟨_,_,h1,h2,h3⟩
 unfold fb at aq;cases ho:o.op with
 | move x=>
  simp only [ho,jf] at aq;exact cR (fun w2 _=>by unfold execOp; simp only [ho]; rfl) (ev o.type x) aq.symm
 | assign x=>
  simp only [ho,jf] at aq;exact cR (fun w2 _=>by unfold execOp; simp only [ho]; rfl) (ev o.type x) aq.symm
 | pick b x y=>
  simp only [ho] at aq;split at aq
  case h_2=>simp at aq
  rename_i t hb;simp only [jf] at aq;have GZ:=ev o.type b;rw [hb] at GZ;have GZ:a.eval b=.bool t:=GZ;refine cR (v:=if t then a.eval x else a.eval y) (d:=if t then ct c st o.type x else ct c st o.type y) ?_ ?_ aq.symm
  ·intro w2 _;unfold execOp;simp only [ho,GZ,asBool,Sem.run_bind,Sem.run_pure,Result.andThen_ok]
  ·cases t
   ·exact ev o.type y
   ·exact ev o.type x
 | alloc e=>simp [nJ,ho] at kZ
 | box e x=>simp [nJ,ho] at kZ
 | build t ps=>
  simp only [ho] at aq;split at aq
  ·rename_i mo szs sz qB z fO;split at aq
   case h_2=>simp at aq
   rename_i cs hf;simp only [jf] at aq;obtain ⟨v,hr,hv⟩:=By aw h fO hf;exact cR (fun w2 _=>by unfold execOp; simp only [ho,Sem.run_bind,hr,Result.andThen_ok,Sem.run_pure]) hv aq.symm
  ·rename_i n e sz qB z fO;split at aq
   case h_2=>simp at aq
   rename_i ei iu;split at aq
   case h_2=>simp at aq
   rename_i cs hf;simp only [jf] at aq;obtain ⟨v,hr,hv⟩:=Ey aw h fO iu hf;exact cR (fun w2 _=>by unfold execOp; simp only [ho,Sem.run_bind,hr,Result.andThen_ok,Sem.run_pure]) hv aq.symm
  ·simp at aq
 | buildSlice t n ps=>simp [nJ,ho] at kZ
 | load t x=>
  simp only [ho] at aq;split at aq
  case h_2=>simp at aq
  rename_i i hi;split at aq
  case h_2=>simp at aq
  rename_i d hl;simp only [jf] at aq;obtain ⟨v,hr,hv⟩:=Jj aw h.rt h.mem hi (ev o.type x) hl;exact cR (fun w2 ot=>by have hr:=hr w2 (by have h9:=ot.resolve_left (by simp only [nJ,ho,jf] at kZ; rw [<- kZ]; simp); simpa only [Rd,ho] using h9); unfold execOp; simp only [ho,Sem.run_bind,hr,Result.andThen_ok,Sem.run_pure]) hv aq.symm
 | store t x y=>simp [nJ,ho] at kZ
 | nilCheck x=>
  simp only [ho] at aq;have hx:=ev o.type x;have hd:∃ A,a.eval x=.pointer (some A)/\st'=st.put o.dst (ct c st o.type x):=by
   split at aq
   ·rename_i r q i heq;split at aq
    ·rename_i hl;simp only [jf] at aq;rw [heq] at hx;obtain ⟨A,hA,_⟩:=tn h.rt h.mem hx (by simp only [hl,if_true]; rfl)
     exact ⟨A,hA,by rw [heq]; exact aq.symm⟩
    ·simp at aq
   ·rename_i cs i heq;simp only [jf] at aq;rw [heq] at hx;obtain ⟨A,hA,_⟩:=tn h.rt h.mem hx rfl;exact ⟨A,hA,by rw [heq]; exact aq.symm⟩
   ·simp at aq
  obtain ⟨A,hA,cF⟩:=hd;refine cR (v:=a.eval x) ?_ hx cF;intro w2 _;unfold execOp;simp only [ho,hA];rfl
 | binOp op t x y z=>
  simp only [ho] at aq;split at aq
  case h_2=>simp at aq
  rename_i d hb;simp only [jf] at aq;obtain ⟨v,hr,hv⟩:=UT aw (x:=x) (y:=y) (ev t x) (ev t y) hb;exact cR (fun w2 _=>by unfold execOp; simp only [ho,Sem.run_bind] at hr ⊢; rw [hr]; rfl) hv aq.symm
 | unOp op t x=>
  simp only [ho] at aq;split at aq
  case h_2=>simp at aq
  rename_i d hb;simp only [jf] at aq;obtain ⟨v,hr,hv⟩:=Z2 (P:=P) (ev o.type x) hb;exact cR (fun w2 _=>by unfold execOp; simp only [ho,Sem.run_bind,hr,Result.andThen_ok,Sem.run_pure]) hv aq.symm
 | makeFunc fn first gY=>
  cases fn with
  | func f=>
   simp only [ho] at aq;split at aq
   case isFalse=>simp at aq
   rename_i hf;simp only [jf] at aq;have Pm:first=#[]:=abC hf.1
   subst Pm;refine cR (v:=.func (.func f) #[] (gY.map a.eval)) (by simp [execOp,ho,Instr.makeFunc]) ?_ aq.symm
   refine ⟨_,rfl,?_⟩;refine du (by simp) (fun i x y hx hy=>?_)
   have hs:single x=true:=aac.1 hf.2 x (aak hx);simp only [ad6,aa5] at hx hy;cases hq:gY.toList[i]? with
   | none=>simp [hq] at hx
   | some q=>
    simp only [hq,OB,jf] at hx hy;subst hy;have hv:=ev o.type q;rw [hx] at hv;cases x<;>first | exact hv | simp [single] at hs
  | _=>simp [ho] at aq
 | makeSlice t l cp=>simp [nJ,ho] at kZ
 | convert src dst x=>
  simp only [ho] at aq;split at aq
  ·rename_i d hc;simp only [jf] at aq;obtain ⟨v,hr,hv⟩:=Ph aw h (ev src x) hc;exact cR (fun w2 ot=>by have hr:=hr w2 (by have h9:=ot.resolve_left (by simp only [nJ,ho] at kZ; split at kZ<;>simp at kZ; rw [kZ]; simp); simpa only [Rd,ho] using h9); unfold execOp; simp only [ho,Sem.run_bind,hr,Result.andThen_ok,Sem.run_pure]) hv aq.symm
  ·rename_i d cs hc;exfalso;simp only [nJ,ho] at kZ;unfold wZ at hc;split at hc
   case h_2=>simp at hc
   rename_i si di hsi Vl;rw [Vl] at kZ;split at hc
   ·simp at hc
   ·simp at hc
   ·simp at hc
   ·split at hc
    ·split at hc
     ·split at hc
      ·split at hc<;>simp at hc
      ·simp at hc
     ·simp at hc
    ·simp at hc
   ·simp at hc
  ·simp at aq
 | slice t x lo hi mx=>
  cases mx with
  | some _=>simp [ho] at aq
  | none=>
   simp only [ho] at aq;split at aq
   case h_2=>simp at aq
   rename_i d hs;simp only [jf] at aq;have Pn:∀ y:Option Operand,Ln w (ah C w S Hx) S (y.map (ct c st o.type)) (y.map a.eval):=by
    intro y;cases y with
    | none=>exact .inl ⟨rfl,rfl⟩
    | some y=>exact .inr ⟨_,_,rfl,rfl,ev o.type y⟩
   obtain ⟨v,hr,hv⟩:=OQ aw h.rt h.mem (ev t x) (Pn lo) (Pn hi) hs;exact cR (fun w2 _=>by unfold execOp; simp only [ho,afe,Sem.run_bind,hr,Result.andThen_ok,Sem.run_pure]) hv aq.symm
 | fieldAddr s x f=>
  simp only [ho] at aq;split at aq
  case h_2=>simp at aq
  rename_i mo szs sz qB z fO;split at aq
  case h_2=>simp at aq
  rename_i k hk;split at aq
  case h_2=>simp at aq
  rename_i d hs;simp only [jf] at aq;obtain ⟨v,hr,hv⟩:=Bo aw h.rt h.mem fO hk (ev o.type x) hs;exact cR (fun w2 _=>by unfold execOp; simp only [ho,Sem.run_bind,hr,Result.andThen_ok,Sem.run_pure]) hv aq.symm
 | indexAddr t x i=>
  simp only [ho] at aq;split at aq
  case h_2=>simp at aq
  rename_i k i' hi;split at aq
  case h_2=>simp at aq
  rename_i d hs;simp only [jf] at aq;have rq:=ev o.type i;rw [hi] at rq;have rq:=gJ rq;obtain ⟨v,hr,hv⟩:=Bq aw h.rt h.mem (k:=k) (ev t x) hs;exact cR (fun w2 _=>by unfold execOp; simp only [ho,rq,Sem.run_bind,hr,Result.andThen_ok,Sem.run_pure]) hv aq.symm
 | index t x i=>
  simp only [ho] at aq;split at aq
  case h_2=>simp at aq
  rename_i k i' hi;split at aq
  case h_2=>simp at aq
  rename_i d hs;simp only [jf] at aq;have rq:=ev o.type i;rw [hi] at rq;have rq:=gJ rq;obtain ⟨v,hr,hv⟩:=Pg aw (k:=k) (ev o.type x) hs;exact cR (fun w2 _=>by unfold execOp; simp only [ho,rq,Sem.run_bind,hr,Result.andThen_ok,Sem.run_pure]) hv aq.symm
 | extract x i=>
  simp only [ho] at aq;split at aq
  case h_2=>simp at aq
  rename_i vs hx;split at aq
  case h_2=>simp at aq
  rename_i d hs;simp only [jf] at aq;have Vu:=ev o.type x;rw [hx] at Vu;obtain ⟨v,hr,hv⟩:=GF (P:=P) Vu hs;exact cR (fun w2 _=>by unfold execOp; simp only [ho,Sem.run_bind,hr,Result.andThen_ok,Sem.run_pure]) hv aq.symm
 | call cc=>
  simp only [ho] at aq;split at aq
  ·simp at aq
  rename_i cU;simp only [ne_eq,af2] at cU;have uV:∀ {ds:List D},((cc.args.toList.zip cc.argTypes.toList).map fun p=>ct c st p.2 p.1)=ds->cm (cx w (ah C w S Hx) S) ds (cc.args.map a.eval).toList:=by
   intro ds Po;subst Po;refine du (by simp [cU]) (fun i x y hx hy=>?_)
   simp only [ad6,aa5] at hx hy;cases hq:(cc.args.toList.zip cc.argTypes.toList)[i]? with
   | none=>simp [hq] at hx
   | some q=>
    simp only [hq,OB,jf] at hx;rw [afh] at hq;simp only [hq.1,OB,jf] at hy;subst hx; subst hy;exact ev q.2 q.1
  split at aq
  ·rename_i f hf;simp [nJ,ho,hf] at kZ
  ·rename_i hb;split at aq
   case h_2=>simp at aq
   rename_i x t hx ht;split at aq
   case h_2=>simp at aq
   rename_i d hl;simp only [jf] at aq;have ha:=uV hx;have gQ:cc.args.map a.eval=#[(cc.args.map a.eval).toList.headD undef]:=by
    cases ey:(cc.args.map a.eval).toList with
    | nil=>rw [ey] at ha; cases ha
    | cons y ys=>rw [ey] at ha; cases ha with
     | cons _ h2=>cases h2; rw [<- abd (xs:=cc.args.map a.eval),ey]; rfl
   have yA:cc.argTypes=#[t]:=by rw [<- abd (xs:=cc.argTypes),ht]
   have BH:cx w (ah C w S Hx) S x ((cc.args.map a.eval).toList.headD undef):=by
    cases ey:(cc.args.map a.eval).toList with
    | nil=>rw [ey] at ha; cases ha
    | cons y ys=>rw [ey] at ha; cases ha with
     | cons h1 _=>exact h1
   obtain ⟨v,hr,hv⟩:=UW aw h.rt h.mem BH hl o.type;exact cR (fun w2 _=>by unfold execOp; simp only [ho,resolve,hb,invoke,builtin,Sem.run_bind,Sem.run_pure,Result.andThen_ok]; rw [gQ,yA,hr]; rfl) hv aq.symm
  ·rename_i hb;split at aq
   case h_2=>simp at aq
   rename_i k x k' y hx;simp only [jf] at aq;have ha:=uV hx;have gQ:cc.args.map a.eval=#[.int k x,.int k' y]:=by
    cases ey:(cc.args.map a.eval).toList with
    | nil=>rw [ey] at ha; cases ha
    | cons y ys=>rw [ey] at ha; cases ha with
     | cons h1 h2=>
      cases h2 with
      | cons h3 h4=>
       cases h4;rw [<- abd (xs:=cc.args.map a.eval),ey,gJ h1,gJ h3]
   refine cR (v:=.int k (if y < x then y else x)) ?_ (US _ _) aq.symm
   intro w2 _;unfold execOp;simp only [ho,resolve,hb,invoke,builtin,Sem.run_bind,Sem.run_pure,Result.andThen_ok];rw [gQ];simp [Builtin.min_,Builtin.min2]
  ·rename_i hb;split at aq
   case h_2=>simp at aq
   rename_i k x k' y hx;simp only [jf] at aq;have ha:=uV hx;have gQ:cc.args.map a.eval=#[.int k x,.int k' y]:=by
    cases ey:(cc.args.map a.eval).toList with
    | nil=>rw [ey] at ha; cases ha
    | cons y ys=>rw [ey] at ha; cases ha with
     | cons h1 h2=>
      cases h2 with
      | cons h3 h4=>
       cases h4;rw [<- abd (xs:=cc.args.map a.eval),ey,gJ h1,gJ h3]
   refine cR (v:=.int k (if y>x then y else x)) ?_ (US _ _) aq.symm
   intro w2 _;unfold execOp;simp only [ho,resolve,hb,invoke,builtin,Sem.run_bind,Sem.run_pure,Result.andThen_ok];rw [gQ];simp [Builtin.max_,Builtin.max2]
  ·rename_i hb;simp [nJ,ho,hb] at kZ
  ·rename_i hb;simp [nJ,ho,hb] at kZ
  ·simp at aq
 | _=>simp [ho] at aq
end
mutual
theorem vn {w:World} {X X':Bool->Nat->Prop} (h:∀ b k,X b k->X' b k):∀ (d:D) (u:Value),Ext w X d u->Ext w X' d u
 | d,u,hu=>gF (fun b k hk=>⟨h b k hk,rfl⟩) d u hu
end
theorem gd {w:World} {X X':Bool->Nat->Prop} (h:∀ b k,X b k->X' b k) (ts:List T) (hs:bJ w X ts):bJ w X' ts:=
 gH (fun b k hk=>⟨h b k hk,rfl⟩) ts hs (fun _ _=>rfl)
theorem oz {w w':World} {X X':Bool->Nat->Prop} (cF:jF w w' X X') {S:List (Nat × RT)} {d:D} {u:Value} (h:bD w X S d u):bD w' X' S d u:=by
 have he:∀ d u,Ext w X d u->Ext w' X' d u:=gF cF;cases d with
 | ref r q o x=>exact h
 | ptr r q o=>exact h
 | cr cs o=>
  obtain ⟨b,off,c,e,fz,us,h1,h2,h3,h4,h5⟩:=h;exact ⟨b,off,c,e,fz,us,h1,(cF true b h2).1,by rw [(cF true b h2).2]; exact h3,tG cF cs us h4,h5⟩
 | _=>exact he _ _ h
theorem Vv {w w':World} {X X':Bool->Nat->Prop} (cF:jF w w' X X') {S:List (Nat × RT)} {d:D} {u:Value} (h:gI w X S d u):gI w' X' S d u:=by
 rcases tI h with ⟨cs,us,rfl,rfl,h1⟩ | ⟨f,cs,us,rfl,rfl,h1⟩ | ⟨_,_,h1⟩
 ·exact ⟨us,rfl,h1.mono (fun _ _=>oz cF)⟩
 ·exact ⟨us,rfl,h1.mono (fun _ _=>oz cF)⟩
 ·exact eo (oz cF h1)
theorem ach {ts:List T} {k:Nat}:k∈ai ts↔∃ t∈ts,k∈t.ft:=by
 rw [og];simp only [aeJ,aam];constructor
 ·rintro ⟨l,⟨t,h1,rfl⟩,h2⟩;exact ⟨t,h1,h2⟩
 ·rintro ⟨t,h1,h2⟩;exact ⟨_,⟨t,h1,rfl⟩,h2⟩
theorem kP {S:List (Nat × RT)} {r:Nat} {R:RT} (h:lk S r=some R) {k:Nat} (hk:k∈R.ft):k∈cM S:=by
 obtain ⟨A,B,h1,_⟩:=kU h;rw [h1]; simp [hk]
theorem vO {S:List (Nat × RT)} (hn:(cM S).Nodup) {r r':Nat} {R R':RT} {b:Nat} (h:lk S r=some R) (hb:R.box=some b) (h':lk S r'=some R') (hk:b∈R'.ft):r'=r:=by
 by_cases he:r'=r
 ·exact he
 obtain ⟨A,B,h1,h2⟩:=kU h;have h3:lk (pt S r ⟨none,[]⟩) r'=some R':=by rw [dJ _ _ he]; exact h'
 have h4:=kP h3 hk;rw [h2] at h4;rw [h1] at hn;have hbR:b∈R.ft:=by simp [RT.ft,hb]
 simp only [RT.ft,Option.toList,ai,aah,tD] at h4;rw [yq,yq] at hn;rcases h4 with h4 | h4
 ·exact absurd rfl (hn.1.2.2 b h4 b hbR)
 ·exact absurd rfl (hn.2.2 b (by simp [hbR]) b h4)
section
variable {C:Ctx} {w w':World} {st:St} {aI:List (Array Value)} {S:List (Nat × RT)} {Hs H Os:List T} {bxs:List Nat}
theorem Fw (h:Rel C (Hs++H) w st aI S) (rk:∀ b∈bxs,∃ r R,lk S r=some R/\R.box=some b/\R.cs=[])
  (cU:w.heap.size<=w'.heap.size) (hold:∀ k,k < w.heap.size->k∉ai Hs->k∉bxs->w'.heap[k]?=w.heap[k]?) (mH:w'.os=w.os) (ri:w'.tape=w.tape) (sF:w'.output=w.output)
  (hO:bJ w' (fun b k=>k < w'.heap.size/\k∉ai Os/\k∉bxs/\(ah C w S (Hs++H) b k∨k∈ai Hs∨w.heap.size<=k)) Os)
  (eT:(ai Os).Nodup) (aoB:∀ k∈ai Os,k∉bxs) (eG:∀ k∈ai Os,k < w'.heap.size/\(k∈ai Hs∨w.heap.size<=k)) (fv:∀ b∈bxs,lR w' b 0 0 []):
  Rel C (Os++H) w' st aI S/\iB C w w' S S (Hs++H) (Os++H) id:=by
 have Es:∀ b∈bxs,b∈cM S:=fun b hb=>by
  obtain ⟨r,R,h1,h2,_⟩:=rk b hb;exact kP h1 (by simp [RT.ft,h2])
 have hnS:=h.mem.nd;rw [yq,bd,yq] at hnS;obtain ⟨nS,⟨nHs,nH,dHs⟩,dS⟩:=hnS;have dg:=h.mem.lt;have Vw:∀ k∈cM S,k < w.heap.size:=fun k hk=>dg k (tD.2 (.inl hk));have ltH:∀ k∈ai H,k < w.heap.size:=fun k hk=>dg k (by simp [bd,hk])
 have SHs:∀ k∈cM S,k∉ai Hs:=fun k hk h2=>dS k hk k (by simp [h2]) rfl
 have SH:∀ k∈cM S,k∉ai H:=fun k hk h2=>dS k hk k (by simp [h2]) rfl
 have HHs:∀ k∈ai H,k∉ai Hs:=fun k hk h2=>dHs k h2 k hk rfl;have OS:∀ k∈ai Os,k∉cM S:=fun k hk h2=>by
  rcases (eG k hk).2 with h3 | h3
  ·exact SHs k h2 h3
  ·have:=Vw k h2; omega
 have OH:∀ k∈ai Os,k∉ai H:=fun k hk h2=>by
  rcases (eG k hk).2 with h3 | h3
  ·exact HHs k h2 h3
  ·have:=ltH k h2; omega
 have cF:jF w w' (ah C w S (Hs++H)) (ah C w' S (Os++H)):=by
  intro b k hk;obtain ⟨k1,k2,k3,k4⟩:=hk;rw [bd,tD,not_or] at k3;refine ⟨⟨by omega,k2,?_,k4⟩,hold k k1 k3.1 (fun hb=>k2 (Es k hb))⟩
  rw [bd,tD,not_or];refine ⟨fun hk=>?_,k3.2⟩;rcases (eG k hk).2 with h3 | h3
  ·exact k3.1 h3
  ·omega
 have htl:iB C w w' S S (Hs++H) (Os++H) id:=fun d u hd=>oz cF hd;have xB:∀ b k,(k < w'.heap.size/\k∉ai Os/\k∉bxs/\(ah C w S (Hs++H) b k∨k∈ai Hs∨w.heap.size<=k))->ah C w' S (Os++H) b k:=by
  rintro b k ⟨k1,k2,k3,k4⟩;have hFA:k∈ai Hs->k∈C.FA∨C.w0.heap.size<=k:=fun hk=>h.kept.iQ k (by simp [bd,hk])
  refine ⟨k1,?_,?_,?_⟩
  ·rcases k4 with k4 | k4 | k4
   ·exact k4.2.1
   ·exact fun h2=>SHs k h2 k4
   ·exact fun h2=>by have:=Vw k h2; omega
  ·rw [bd,tD,not_or];refine ⟨k2,?_⟩;rcases k4 with k4 | k4 | k4
   ·have:=k4.2.2.1;rw [bd,tD,not_or] at this;exact this.2
   ·exact fun h2=>HHs k h2 k4
   ·exact fun h2=>by have:=ltH k h2; omega
  ·intro hb;rcases k4 with k4 | k4 | k4
   ·exact k4.2.2.2 hb
   ·exact .inr (hFA k4)
   ·exact .inr (.inr (abI h.kept.size k4))
 refine ⟨⟨h.rt,⟨?_,?_,?_,?_⟩,?_,?_⟩,htl⟩
 ·rw [yq,bd,yq];refine ⟨nS,⟨eT,nH,fun a ha b hb e=>OH a ha (e▸hb)⟩,fun a ha b hb e=>?_⟩;subst e;rcases tD.1 hb with hb | hb
  ·exact OS a hb ha
  ·exact SH a ha hb
 ·intro r R hr;obtain ⟨h1,h2⟩:=h.mem.root r R hr;have hb:∀ b∈bxs,b∈R.ft->R.box=some b/\R.cs=[]:=by
   intro b hb hR;obtain ⟨r',R',e1,e2,e3⟩:=rk b hb;have:=vO nS e1 e2 hr hR;subst this;rw [e1,jf] at hr;subst hr;exact ⟨e2,e3⟩
  refine ⟨?_,fun t ht=>?_⟩
  ·cases hx:R.box with
   | none=>trivial
   | some b=>
    rw [hx] at h1;by_cases tN:b∈bxs
    ·have:=(hb b tN (by simp [RT.ft,hx])).2
     rw [this];exact fv b tN
    ·have aem:=kP hr (show b∈R.ft by simp [RT.ft,hx])
     obtain ⟨c,e,fz,g1,g2⟩:=h1;exact ⟨c,e,fz,by rw [hold b (Vw b aem) (SHs b aem) tN]; exact g1,g2⟩
  ·have h3:=h2 t ht;cases t with
   | v d u=>
    rcases h3 with h3 | ⟨e,h3⟩
    ·exact .inl (gF cF _ _ h3)
    ·exact .inr ⟨e,oz cF h3⟩
   | own s n cap a cs=>
    refine dQ cF _ h3 (fun k hk=>?_);have hkR:k∈R.ft:=by simp only [RT.ft,tD]; exact .inr (ach.2 ⟨_,ht,hk⟩)
    have Ly:=kP hr hkR;refine hold k (Vw k Ly) (SHs k Ly) (fun tN=>?_);have:=(hb k tN hkR).2;rw [this] at ht;simp at ht
 ·rw [ea];refine ⟨gd xB _ hO,?_⟩;have hH:=((ea _ _).1 h.mem.hand).2;exact gH cF _ hH (fun k hk=>hold k (ltH k hk) (HHs k hk) (fun hb=>SH k (Es k hb) hk))
 ·intro k hk;rcases tD.1 hk with hk | hk
  ·have:=Vw k hk; omega
  ·rw [bd] at hk;rcases tD.1 hk with hk | hk
   ·exact (eG k hk).1
   ·have:=ltH k hk; omega
 ·exact h.pd.mono (fun _ _ ht=>xY htl ht)
 ·have hk:=h.kept;refine ⟨mH.trans hk.os,ri.trans hk.tape,sF.trans hk.output,abI hk.size cU,fun k h1 h2=>?_,fun k h1=>?_,hk.par⟩
  ·have h3:k∉cM S++ai (Hs++H):=fun h3=>by
    rcases hk.iQ k h3 with h4 | h4
    ·exact h2 h4
    ·omega
   simp only [bd,tD,not_or] at h3;rw [hold k (aef h1 hk.size) h3.2.1 (fun hb=>h3.1 (Es k hb))];exact hk.block k h1 h2
  ·rcases tD.1 h1 with h1 | h1
   ·exact hk.iQ k (by simp [h1])
   ·rw [bd] at h1;rcases tD.1 h1 with h1 | h1
    ·rcases (eG k h1).2 with h2 | h2
     ·exact hk.iQ k (by simp [bd,h2])
     ·exact .inr (abI hk.size h2)
    ·exact hk.iQ k (by simp [bd,h1])
end
def nD (S S':List (Nat × RT)):Prop:=∀ r R,lk S r=some R->∃ R',lk S' r=some R'/\R'.box=R.box
theorem nD.refl (S:List (Nat × RT)):nD S S:=fun _ R h=>⟨R,h,rfl⟩
theorem nD.trans {S S' AA:List (Nat × RT)} (h:nD S S') (h':nD S' AA):nD S AA:=fun r R hr=>by
 obtain ⟨R1,h1,h2⟩:=h r R hr;obtain ⟨R2,h4,h5⟩:=h' r R1 h1;exact ⟨R2,h4,h5.trans h2⟩
theorem qE.b {S S':List (Nat × RT)} (h:qE S S'):nD S S':=fun r R hr=>by
 obtain ⟨R1,h1,h2,_⟩:=h.fwd r R hr;exact ⟨R1,h1,h2⟩
theorem Sm (g:D->D) (S:List (Nat × RT)):nD S (fS g S):=fun r R hr=>⟨⟨R.box,R.cs.map (fT g)⟩,by rw [lX,hr]; rfl,rfl⟩
theorem Fx {S:List (Nat × RT)} {r:Nat} {q:List Nat} {o:Nat} {t:T} (h:cD S r q o=some t):∃ R l,lk S r=some R/\ay R.cs q=some l/\l[o]?=some t:=by
 unfold cD at h;cases hr:lk S r with
 | none=>simp [hr] at h
 | some R=>
  simp only [hr] at h;cases hl:ay R.cs q with
  | none=>simp [hl] at h
  | some l=>simp only [hl] at h; exact ⟨R,l,rfl,hl,h⟩
section
variable {C:Ctx} {H:List T} {w:World} {st st':St} {aI:List (Array Value)} {S:List (Nat × RT)}
theorem Pq {t' t0:T} (h:Rel C (t'::H) w st aI S) {r:Nat} {q:List Nat} {o:Nat} {ex:Bool} (hc0:cD S r q o=some t0) (kY:∃ d0 u0,t0=.v d0 u0/\(ex=false->fp (cB r q o ex) (bS d0)=bS d0)) (hl:lN t0 t'∨(ex=true/\t'.val=t0.val))
  (iN:(st.eZ (cB r q o ex)).gZ r q o t'.er=some st'):
  ∃ S',Rel C H w st' aI S'/\iB C w w S S' (t'::H) H (cB r q o ex)/\st'.of=st.of/\nD S S'/\cD S' r q o=some t'/\
   ∀ r' q' o' d0 u,(sn d0).isSome=true->bS d0=d0->cD S r' q' o'=some (.v d0 u)->(r'≠r∨under (q++[o]) (q'++[o'])=none)->cD S' r' q' o'=some (.v d0 u):=by
 obtain ⟨d0,u0,rfl,hd0⟩:=kY;have hv:t'.val=(T.v d0 u0).val:=by
  rcases hl with hl | hl
  ·exact hl.1
  ·exact hl.2
 obtain ⟨R,l,hR,hl0,ho⟩:=Fx hc0;have hg:=mQ r q o ex;have GU:=zG r q o ex;have Yb:gS (st.eZ (cB r q o ex)).rt (fS (cB r q o ex) S):=by
  exact qi hg h.rt
 obtain ⟨R1,l1,t1,e1,e2,e3,e4,e5,e6,e7,e8⟩:=aag (g:=cB r q o ex) hR hl0 ho;have BA:t1=.v (fp (cB r q o ex) (bS d0)) u0∨t1=.v d0 u0:=by
  rcases e5 with rfl | ⟨_,rfl⟩
  ·exact .inr rfl
  ·exact .inl rfl
 have Yh:t1.val=u0:=by rcases BA with rfl | rfl<;>rfl
 have ajb:t1.ft=[]:=by rcases BA with rfl | rfl<;>rfl
 have ajc:ex=false->sn t1.er=sn (bS d0):=fun e=>by
  rcases BA with rfl | rfl
  ·rw [hd0 e]; simp [T.er,Er]
  ·simp [T.er]
 obtain ⟨S',hc,Tw,Tx,Tz,Fv⟩:=Fo (t':=t') Yb e1 e3 e4 iN;obtain ⟨A,B,f1,f2⟩:=hc.fts;rw [uU] at f1;rw [ajb,aah] at f1;have sJ:∀ k,k∈cM S'++ai H↔k∈cM S++ai (t'::H):=by
  intro k;rw [f1,f2];simp only [ai,tD];constructor
  ·rintro (((h | h) | h) | h)
   ·exact .inl (.inl h)
   ·exact .inr (.inl h)
   ·exact .inl (.inr h)
   ·exact .inr (.inr h)
  ·rintro ((h | h) | (h | h))
   ·exact .inl (.inl (.inl h))
   ·exact .inl (.inr h)
   ·exact .inl (.inl (.inr h))
   ·exact .inr h
 have eT:(cM S'++ai H).Nodup:=by
  have h0:=h.mem.nd;rw [f1] at h0;rw [f2];refine (List.Perm.nodup_iff ?_).1 h0;refine abl.2 fun a=>?_;simp only [ai,abD];omega
 have hX:∀ b k,ah C w S (t'::H) b k->ah C w S' H b k:=jV (fun k hk=>(sJ k).1 hk);have cF:jF w w (ah C w S (t'::H)) (ah C w S' H):=fun b k hk=>⟨hX b k hk,rfl⟩;have agF:ex=false->lN t1 t':=fun e=>by
  rcases hl with hl | hl
  ·exact ⟨by rw [Yh]; exact hl.1,fun p hp=>by rw [ajc e]; exact hl.2 p hp⟩
  ·exact absurd (hl.1.symm.trans e) (by simp)
 have dZ:∀ d u,bD w (ah C w S (t'::H)) S d u->bD w (ah C w S' H) S' (cB r q o ex d) u:=
  fun d u hd=>zD cF hc agF (rf hg hd)
 have dv:=h.mem.hand;simp only [bJ] at dv;have db:Mem C w S' H:=Sb h.mem (g:=fp (cB r q o ex)) (Tm hg S) hc (by rw [hv,Yh]; rfl)
  (.inl (dQ cF _ dv.1 (fun _ _=>rfl))) eT (fun k hk=>(sJ k).1 hk) (gd hX _ dv.2)
  (fun d u hd=>by rw [vl hd]; exact dZ d u hd) (fun d u hd=>sE hg GU (vn hX _ _ hd))
 refine ⟨S',?_,dZ,Fv,?_,hc.Fl,fun r' q' o' d1 u1 h3 h4 h1 h2=>?_⟩
 ·refine h.step (f:=cB r q o ex) Tw Tx Tz dZ db (zF h.kept (fun k hk=>(sJ k).1 hk) (fun r' R' eF=>?_));obtain ⟨R2,g1,g2,g3⟩:=hc.par (by rw [hv,Yh]; rfl) eF
  rw [lX] at g1;cases hx:lk S r' with
  | none=>simp [hx] at g1
  | some R0=>
   simp only [hx,OB,jf] at g1;subst g1;refine ⟨R0,rfl,g2,g3.trans ?_⟩;simp only [cK,abH]
   congr 1
   funext t;cases t<;>rfl
 ·refine nD.trans (S':=fS (cB r q o ex) S) (Sm _ S) (fun r' R' eF=>?_);obtain ⟨R2,g1,g2,_⟩:=hc.Lr eF;exact ⟨R2,g1,g2⟩
 ·refine hc.O3 h2 ?_;rw [Dn h1];split
  ·simp only [fT,h4];cases d1<;>first | (simp [sn] at h3; done) | simp [fp,hg.hole,hg.sl]
  ·rfl
theorem Yi {ts:List T} (h:Rel C (ts++H) w st aI S) {r b:Nat} (h0:lk S r=some ⟨some b,[]⟩) (fv:lR w b 0 ts.length (ax ts)):
  Rel C H w { st.eZ (eC r) with rt:=pz (st.eZ (eC r)).rt r (ba ts) } aI (pt (fS (eC r) S) r ⟨some b,ts⟩)/\iB C w w S (pt (fS (eC r) S) r ⟨some b,ts⟩) (ts++H) H (eC r)/\nD S (pt (fS (eC r) S) r ⟨some b,ts⟩):=by
 have hg:=Tn r;have GU:=Tp r;have h1:lk (fS (eC r) S) r=some ⟨some b,[]⟩:=by rw [lX,h0]; rfl
 obtain ⟨A,B,f1,f2⟩:=kU h1;rw [uU] at f1;have f3:=f2 ⟨some b,ts⟩;simp only [RT.ft,Option.toList,ai,aah] at f1;simp only [RT.ft,Option.toList] at f3;have sJ:∀ k,k∈cM (pt (fS (eC r) S) r ⟨some b,ts⟩)++ai H↔k∈cM S++ai (ts++H):=by
  intro k;rw [f1,f3,bd];simp only [tD,abk];constructor
  ·rintro (((h | (h | h)) | h) | h)<;>simp [h]
  ·rintro (((h | h) | h) | (h | h))<;>simp [h]
 have eT:(cM (pt (fS (eC r) S) r ⟨some b,ts⟩)++ai H).Nodup:=by
  have h0:=h.mem.nd;rw [f1] at h0;rw [f3];refine (List.Perm.nodup_iff ?_).1 h0;refine abl.2 fun a=>?_;simp only [bd,abD];omega
 have hX:∀ b' k,ah C w S (ts++H) b' k->ah C w (pt (fS (eC r) S) r ⟨some b,ts⟩) H b' k:=jV (fun k hk=>(sJ k).1 hk);have cF:jF w w (ah C w S (ts++H)) (ah C w (pt (fS (eC r) S) r ⟨some b,ts⟩) H):=fun b k hk=>⟨hX b k hk,rfl⟩;have dZ:∀ d u,bD w (ah C w S (ts++H)) S d u->bD w (ah C w (pt (fS (eC r) S) r ⟨some b,ts⟩) H) (pt (fS (eC r) S) r ⟨some b,ts⟩) (eC r d) u:=
  fun d u hd=>ab6 cF (R:=⟨some b,ts⟩) h1 rfl rfl (rf hg hd)
 have dv:=h.mem.hand;rw [ea] at dv;refine ⟨?_,dZ,?_⟩
 ·refine h.step (f:=eC r) ?_ rfl rfl dZ ⟨eT,?_,gd hX _ dv.2,fun k hk=>h.mem.lt k ((sJ k).1 hk)⟩ ⟨h.kept.os,h.kept.tape,h.kept.output,h.kept.size,h.kept.block,fun k hk=>h.kept.iQ k ((sJ k).1 hk),?_⟩
  ·exact Dl (qi hg h.rt) r ⟨some b,ts⟩
  ·intro r' R' eF;by_cases he:r'=r
   ·subst he;rw [cJ,jf] at eF;subst eF;refine ⟨fv,fun t ht=>?_⟩;have:=(cj _).1 (gd hX _ dv.1) t ht;cases t with
    | v d u=>exact .inl this
    | own s n cap a cs=>exact this
   ·rw [dJ _ _ he,lX] at eF;cases hx:lk S r' with
    | none=>simp [hx] at eF
    | some R0=>
     simp only [hx,OB,jf] at eF;subst eF;obtain ⟨k1,k2⟩:=h.mem.root r' R0 hx;refine ⟨?_,?_⟩
     ·simp only [abu];have hv:ax (R0.cs.map (fT (eC r)))=ax R0.cs:=by
       rw [cK,cK,abH]
       congr 1
       funext t;cases t<;>rfl
      rw [hv];exact k1
     ·intro t ht;simp only [aam] at ht;obtain ⟨t0,kY,rfl⟩:=ht;have:=k2 t0 kY;cases t0 with
      | v d u=>
       simp only [fT,jw] at this ⊢;rw [hg.leaf];rcases this with this | ⟨hb,this⟩
       ·exact .inl (sE hg GU (vn hX _ _ this))
       ·exact .inr ⟨hb,by rw [vl this]; exact dZ _ _ this⟩
      | own s n cap a xs=>
       simp only [fT];exact dQ cF _ this (fun _ _=>rfl)
  ·intro r' b' vs hm R' eF;by_cases he:r'=r
   ·subst he;rw [cJ,jf] at eF;subst eF;obtain ⟨g1,g2⟩:=h.kept.par r' b' vs hm _ h0;refine ⟨g1,fun hb=>?_⟩;rw [hb] at g1;simp at g1
   ·rw [dJ _ _ he,lX] at eF;cases hx:lk S r' with
    | none=>simp [hx] at eF
    | some R0=>
     simp only [hx,OB,jf] at eF;subst eF;obtain ⟨g1,g2⟩:=h.kept.par r' b' vs hm R0 hx;refine ⟨g1,fun hb=>?_⟩;rw [<- g2 hb];simp only [cK,abH]
     congr 1
     funext t;cases t<;>rfl
 ·refine nD.trans (S':=fS (eC r) S) (Sm _ S) (fun r' R' eF=>?_);by_cases he:r'=r
  ·subst he;rw [h1,jf] at eF;subst eF;exact ⟨_,cJ _ _ _,rfl⟩
  ·exact ⟨R',by rw [dJ _ _ he]; exact eF,rfl⟩
end
def jH (S S':List (Nat × RT)):Prop:=∀ r R,lk S r=some R->∃ R',lk S' r=some R'/\R'.box=R.box/\(R.cs=[]->R'.cs=[])
theorem jH.refl (S:List (Nat × RT)):jH S S:=fun _ R h=>⟨R,h,rfl,fun h=>h⟩
theorem jH.trans {S S' AA:List (Nat × RT)} (h:jH S S') (h':jH S' AA):jH S AA:=fun r R hr=>by
 obtain ⟨R1,h1,h2,h3⟩:=h r R hr;obtain ⟨R2,h4,h5,h6⟩:=h' r R1 h1;exact ⟨R2,h4,h5.trans h2,fun e=>h6 (h3 e)⟩
theorem qE.e {S S':List (Nat × RT)} (h:qE S S'):jH S S':=fun r R hr=>by
 obtain ⟨R1,h1,h2,h3⟩:=h.fwd r R hr;exact ⟨R1,h1,h2,fun e=>by
  have h4:=congrArg List.length h3;rw [e] at h4;simp only [bV,abx] at h4;exact aa8.1 h4⟩
theorem jH.b {S S':List (Nat × RT)} (h:jH S S'):nD S S':=fun r R hr=>by
 obtain ⟨R1,h1,h2,_⟩:=h r R hr;exact ⟨R1,h1,h2⟩
theorem jH.empty {S S':List (Nat × RT)} (h:jH S S') {r:Nat} {b:Option Nat} (hr:lk S r=some ⟨b,[]⟩):lk S' r=some ⟨b,[]⟩:=by
 obtain ⟨R1,h1,h2,h3⟩:=h r _ hr;have:=h3 rfl;cases R1;simp only at h2 this;rw [h1,h2,this]
section
variable {C:Ctx} {H:List T} {w:World} {st st':St} {aI:List (Array Value)} {S:List (Nat × RT)}
theorem TD (h:Rel C H w st aI S) {r b:Nat} {R:RT} (hR:lk S r=some R) (hb:R.box=some b):
  Rel C H w { st with rt:=pz st.rt r [] } aI (pt S r ⟨some b,[]⟩)/\iB C w w S (pt S r ⟨some b,[]⟩) H H id/\jH S (pt S r ⟨some b,[]⟩):=by
 obtain ⟨A,B,f1,f2⟩:=kU hR;have f3:=f2 ⟨some b,[]⟩;simp only [RT.ft,hb,Option.toList,ai,aah] at f1 f3;have eI:∀ k∈cM (pt S r ⟨some b,[]⟩)++ai H,k∈cM S++ai H:=by
  intro k hk;rw [f3] at hk;rw [f1];simp only [tD,abk] at hk ⊢;rcases hk with ((hk | hk) | hk) | hk<;>simp [hk]
 have eT:(cM (pt S r ⟨some b,[]⟩)++ai H).Nodup:=by
  have h0:=h.mem.nd;rw [f1] at h0;rw [f3];refine afp ?_ h0;refine abz (abz (abz (abj _) ?_) (abj _)) (abj _);simp
 have hX:∀ b' k,ah C w S H b' k->ah C w (pt S r ⟨some b,[]⟩) H b' k:=jV eI;have cF:jF w w (ah C w S H) (ah C w (pt S r ⟨some b,[]⟩) H):=fun b k hk=>⟨hX b k hk,rfl⟩;have dZ:∀ d u,bD w (ah C w S H) S d u->bD w (ah C w (pt S r ⟨some b,[]⟩) H) (pt S r ⟨some b,[]⟩) d u:=by
  intro d u hd;cases d with
  | ref r' q' o' x=>
   intro t ht;by_cases he:r'=r
   ·subst he;obtain ⟨R',l,e1,e2,e3⟩:=Fx ht;rw [cJ,jf] at e1;subst e1;cases q' with
    | nil=>simp only [ay,jf] at e2; subst e2; simp at e3
    | cons p q=>simp [ay] at e2
   ·refine hd t ?_;rw [<- ht];simp only [cD,dJ _ _ he]
  | ptr r' q' o'=>
   intro R' dV;by_cases he:r'=r
   ·subst he;rw [cJ,jf] at dV;subst dV;refine ⟨fun _=>rfl,fun b' off ha=>?_⟩;cases q' with
    | nil=>
     refine (hd R hR).2 b' off ?_;simp only [bZ,hb] at ha ⊢;exact ha
    | cons p q=>simp [bZ] at ha
   ·rw [dJ _ _ he] at dV;exact hd R' dV
  | cr cs o=>exact oz (S:=S) (d:=.cr cs o) cF hd
  | _=>exact gF cF _ _ hd
 refine ⟨h.sA ?_ rfl rfl dZ ⟨eT,?_,gd hX _ h.mem.hand,fun k hk=>h.mem.lt k (eI k hk)⟩ ⟨h.kept.os,h.kept.tape,h.kept.output,h.kept.size,h.kept.block,fun k hk=>h.kept.iQ k (eI k hk),?_⟩,dZ,?_⟩
 ·exact Dl h.rt r ⟨some b,[]⟩
 ·intro r' R' eF;by_cases he:r'=r
  ·subst he;rw [cJ,jf] at eF;subst eF;refine ⟨?_,by simp⟩
   have:=(h.mem.root _ R hR).1;rw [hb] at this;obtain ⟨c,e,fz,g1,g2,g3,g4⟩:=this;exact ⟨c,e,fz,g1,g2,by simp,by simp [ax]⟩
  ·rw [dJ _ _ he] at eF;obtain ⟨k1,k2⟩:=h.mem.root r' R' eF;refine ⟨k1,fun t ht=>?_⟩;have:=k2 t ht;cases t with
   | v d u=>
    rcases this with this | ⟨hb,this⟩
    ·exact .inl (vn hX _ _ this)
    ·exact .inr ⟨hb,dZ _ _ this⟩
   | own s n cap a xs=>exact dQ cF _ this (fun _ _=>rfl)
 ·intro r' b' vs hm R' eF;by_cases he:r'=r
  ·subst he;rw [cJ,jf] at eF;subst eF;obtain ⟨g1,_⟩:=h.kept.par r' b' vs hm _ hR;rw [hb] at g1;exact ⟨g1,fun e=>by rw [e] at g1; simp at g1⟩
  ·rw [dJ _ _ he] at eF;exact h.kept.par r' b' vs hm R' eF
 ·intro r' R' eF;by_cases he:r'=r
  ·subst he;rw [hR,jf] at eF;subst eF;exact ⟨_,cJ _ _ _,hb.symm,fun _=>rfl⟩
  ·exact ⟨R',by rw [dJ _ _ he]; exact eF,rfl,fun h=>h⟩
theorem aen (h:Rel C H w st aI S) {r b:Nat} {R:RT} (hR:lk S r=some R) (hb:R.box=some b) {cs':List D} (ht:UN st r=some (cs',st')):
  ∃ ts S',Rel C (ts++H) w st' aI S'/\ba ts=cs'/\ts≠[]/\lk S' r=some ⟨some b,[]⟩/\lR w b 0 ts.length (ax ts)/\iB C w w S S' H (ts++H) id/\jH S S'/\mr st st':=by
 unfold UN at ht;rw [h.rt,hR] at ht;simp only [OB] at ht;split at ht
 case h_2=>simp at ht
 rename_i c cs ed;simp only [jf] at ed;split at ht
 case h_2=>simp at ht
 rename_i cs1 aQ dH;simp only [jf,tE] at ht;obtain ⟨rfl,rfl⟩:=ht;have dR:cm (bD w (ah C w S H) S) (lW r [] 0 (c::cs)) (ax R.cs):=by
  rw [<- ed];refine du (by rw [qA,fu,bV]) (fun i x y hx hy=>?_)
  rw [oq,iL] at hx;rw [fq] at hy;cases hi:R.cs[i]? with
  | none=>simp [hi] at hx
  | some t=>
   simp only [hi,OB,jf,abn] at hx hy;subst hx; subst hy;exact qz h.mem hR rfl hi
 obtain ⟨ts,S1,a1,a2,a3,a4,a5,a6⟩:=GN h dR dH;obtain ⟨R1,b1,b2,_⟩:=a5.fwd r R hR;obtain ⟨c1,c2,c3⟩:=TD a1 b1 (b2.trans hb);refine ⟨ts,_,c1,a2,?_,cJ _ _ _,?_,fun d u hd=>c2 d u (a4 d u hd),a5.e.trans c3,a6⟩
 ·intro e;have h1:=congrArg List.length ed;have h2:=congrArg List.length a3;rw [e] at h2;rw [fu] at h1;simp only [bV,aa7,abx] at h1 h2;omega
 ·have h1:=(h.mem.root r R hR).1;rw [hb] at h1;have h2:=congrArg List.length a3;simp only [bV] at h2;rw [h2,a3];exact h1
end
def fR:D->Value->List T->Prop
 | .agg cs,u,ts=>cs=ba ts/\∃ us,u=.agg us/\us.toList=ax ts
 | d,u,ts=>∃ t,ts=[t]/\d=t.er/\u=t.val
abbrev Arg:=Option Nat × List T
def LD (w:World) (X:Bool->Nat->Prop):Bool->D->Value->Arg->Prop
 | false,d,u,a=>a=(none,[])/\∀ S,gI w X S d u
 | true,.aZ cs,u,a=>∃ b,a.1=some b/\a.2≠[]/\cs=ba a.2/\u=.pointer (some ⟨b,0,none⟩)/\lR w b 0 a.2.length (ax a.2)
 | true,d,u,a=>a.1=none/\fR d u a.2
def ru (w:World) (S:List (Nat × RT)):Bool->D->D->Value->Arg->Prop
 | false,d,d1,_,a=>a=(none,[])/\d1=d
 | true,d,.aZ cs,u,a=>∃ r b,d=.ptr r [] 0/\a.1=some b/\lk S r=some ⟨some b,[]⟩/\a.2≠[]/\cs=ba a.2/\u=.pointer (some ⟨b,0,none⟩)/\lR w b 0 a.2.length (ax a.2)
 | true,d,d1,u,a=>a.1=none/\fR d1 u a.2/\ax a.2=hL d u/\(∀ r,d≠.ptr r [] 0)/\((∃ cs,d1=.agg cs)↔∃ cs,d=.agg cs)/\(∀ f cs,d≠.fn f cs)/\∀ ds,d≠.aM ds
def tO (w:World) (S:List (Nat × RT)):List Bool->List D->List D->List Value->List Arg->Prop
 | _,[],gG,us,as9=>gG=[]/\us=[]/\as9=[]
 | b,d::ds,gG,us,as9=>∃ d1 zO u kG a cy,gG=d1::zO/\us=u::kG/\as9=a::cy/\ru w S (b.headD false) d d1 u a/\tO w S b.tail ds zO kG cy
def cW (as9:List Arg):List T:=(as9.map Prod.snd).reverse.flatten
theorem ry (a:Arg) (as9:List Arg):cW (a::as9)=cW as9++a.2:=by simp [cW]
theorem ru.Lr {w:World} {S S':List (Nat × RT)} (h:jH S S') {b:Bool} {d d1:D} {u:Value} {a:Arg} (hg:ru w S b d d1 u a):ru w S' b d d1 u a:=by
 cases b with
 | false=>exact hg
 | true=>
  cases d1 with
  | aZ cs=>
   obtain ⟨r,b,h1,h2,h3,h4⟩:=hg;exact ⟨r,b,h1,h2,h.empty h3,h4⟩
  | _=>exact hg
theorem EF {w:World} {S:List (Nat × RT)} {d d1:D} {u:Value} {a:Arg} (hn:∀ cs,d1≠.aZ cs) (h1:a.1=none) (h2:fR d1 u a.2) (h3:ax a.2=hL d u) (h4:∀ r,d≠.ptr r [] 0) (h5:(∃ cs,d1=.agg cs)↔∃ cs,d=.agg cs) (h6:(∀ f cs,d≠.fn f cs)/\∀ ds,d≠.aM ds):ru w S true d d1 u a:=by
 cases d1<;>first | exact ⟨h1,h2,h3,h4,h5,h6⟩ | exact absurd rfl (hn _)
theorem sL {t:T} {w:World} {X:Bool->Nat->Prop} (hs:bI w X t):(∀ cs,t.er≠.aZ cs)/\(∀ cs,t.er≠.agg cs)/\(∀ cs,t.er≠.aM cs):=by
 cases t with
 | own s n cap a xs=>simp [T.er]
 | v d u=>
  simp only [bI] at hs;simp only [T.er];refine ⟨fun cs e=>?_,fun cs e=>?_,fun cs e=>?_⟩<;>(rw [e] at hs; simp [Ext] at hs)
section
variable {C:Ctx} {w:World} {aI:List (Array Value)}
theorem Pr {H:List T} {st st':St} {S:List (Nat × RT)} {d d':D} {u:Value} (h:Rel C H w st aI S) (hd:cx w (ah C w S H) S d u) (ht:En st d=some (d',st')):
  ∃ (a:Arg) (S':List (Nat × RT)),Rel C (a.2++H) w st' aI S'/\ru w S' true d d' u a/\iB C w w S S' H (a.2++H) id/\jH S S'/\mr st st'/\∀ b,a.1=some b->∀ r0,lk S r0≠some ⟨some b,[]⟩:=by
 by_cases hp:∃ r,d=.ptr r [] 0
 ·obtain ⟨r,rfl⟩:=hp;simp only [En] at ht;split at ht
  case h_2=>simp at ht
  rename_i cs1 aQ dH;simp only [jf,tE] at ht;obtain ⟨rfl,rfl⟩:=ht;cases hR:lk S r with
  | none=>simp [UN,h.rt r,hR] at dH
  | some R=>
   have tH:∀ R,lk S r=some R->(([]:List Nat)=[]->R.box.isSome)/\∀ b off,bZ R.box R.cs []=some (b,off)->u=.pointer (some ⟨b,off+0,none⟩):=hd;obtain ⟨h1,h2⟩:=tH R hR;obtain ⟨b,hb⟩:=aby.1 (h1 rfl);obtain ⟨ts,S',a1,a2,a3,a4,a5,a6,a7,a8⟩:=aen h hR hb dH;refine ⟨(some b,ts),S',a1,⟨r,b,rfl,rfl,a4,a3,a2.symm,by have:=h2 b 0 (by simp [bZ,hb]); simpa using this,a5⟩,a6,a7,a8,fun b' e r0 Sk=>?_⟩
   simp only [jf] at e;subst e;have:=vO (yq.1 h.mem.nd).1 hR hb Sk (by simp [RT.ft])
   subst this;rw [hR,jf] at Sk;subst Sk;simp [UN,h.rt _,hR,ba] at dH
 ·have hp:∀ r,d≠.ptr r [] 0:=fun r e=>hp ⟨r,e⟩;by_cases ha:∃ cs,d=.agg cs
  ·obtain ⟨cs,rfl⟩:=ha;simp only [En] at ht;split at ht
   case h_2=>simp at ht
   rename_i cs1 aQ dH;simp only [jf,tE] at ht;obtain ⟨rfl,rfl⟩:=ht;obtain ⟨ts,S',a1,a2,a3,a4,a5,a6⟩:=rm h hd (d:=.agg cs) dH;obtain ⟨us,rfl,_⟩:=hd;exact ⟨(none,ts),S',a1,EF (by simp) rfl ⟨a2.symm,us,rfl,by rw [a3]; rfl⟩ a3 hp (by simp) (by simp),a4,a5.e,a6,by simp⟩
  ·have dH:jh st d=some (d',st'):=by
    unfold En at ht;split at ht
    ·exact absurd ⟨_,rfl⟩ ha
    ·exact absurd rfl (hp _)
    ·exact ht
   have cO:cellsOf d=[d]:=by cases d<;>first | rfl | exact absurd ⟨_,rfl⟩ ha
   obtain ⟨ts,S',a1,a2,a3,a4,a5,a6⟩:=rm h hd (ds':=[d']) (st':=st') (by rw [cO]; simp only [r8,dH])
   have hv:hL d u=[u]:=by cases d<;>first | rfl | exact absurd ⟨_,rfl⟩ ha
   rw [hv] at a3;obtain ⟨t,rfl⟩:∃ t,ts=[t]:=by
    match ts,a2 with
    | [t],_=>exact ⟨t,rfl⟩
   simp only [ba,aaF,and_true] at a2;simp only [ax,aaF,and_true] at a3;subst a2;have hs:=sL (gb (o:=0) a1.mem.hand (t:=t) rfl);refine ⟨(none,[t]),S',a1,EF hs.1 rfl ?_ (by rw [hv]; simp [ax,a3]) hp ?_ ⟨fun f cs e=>by rw [e] at dH; simp [jh] at dH,fun ds e=>by rw [e] at dH; simp [jh] at dH⟩,a4,a5.e,a6,by simp⟩
   ·have:∀ d1,(∀ cs,d1≠.agg cs)->d1=t.er->fR d1 u [t]:=fun d1 hn e=>by
     cases d1<;>first | exact ⟨t,rfl,e,a3.symm⟩ | exact absurd rfl (hn _)
    exact this _ hs.2.1 rfl
   ·exact ⟨fun ⟨cs,e⟩=>absurd e (hs.2.1 cs),fun ⟨cs,e⟩=>absurd ⟨cs,e⟩ ha⟩
theorem G0:∀ {b:List Bool} {ds gG:List D} {us:List Value} {H:List T} {st st':St} {S:List (Nat × RT)},Rel C H w st aI S->cm (cx w (ah C w S H) S) ds us->nt st b ds=some (gG,st')->
  ∃ (as9:List Arg) (S':List (Nat × RT)),Rel C (cW as9++H) w st' aI S'/\tO w S' b ds gG us as9/\iB C w w S S' H (cW as9++H) id/\jH S S'/\mr st st'/\(as9.filterMap Prod.fst).Nodup/\∀ r bk,lk S r=some ⟨some bk,[]⟩->bk∉as9.filterMap Prod.fst:=by
 intro b ds
 induction ds generalizing b with
 | nil=>
  intro gG us H st st' S h hu hc;cases hu;simp only [nt,jf,tE] at hc;obtain ⟨rfl,rfl⟩:=hc;exact ⟨[],S,h,⟨rfl,rfl,rfl⟩,fun _ _ h=>h,jH.refl _,mr.refl _,by simp,by simp⟩
 | cons d ds ih=>
  intro gG us H st st' S h hu hc;cases hu with
  | cons tK Et=>
  rename_i u us;simp only [nt] at hc;split at hc
  case h_2=>simp at hc
  rename_i d1 aQ h1;split at hc
  case h_2=>simp at hc
  rename_i uE cu h2;simp only [jf,tE] at hc;obtain ⟨rfl,rfl⟩:=hc;obtain ⟨a,S1,a1,a2,a3,a4,a5,a6⟩:∃ (a:Arg) (S':List (Nat × RT)),Rel C (a.2++H) w aQ aI S'/\ru w S' (b.headD false) d d1 u a/\iB C w w S S' H (a.2++H) id/\jH S S'/\mr st aQ/\∀ b,a.1=some b->∀ r0,lk S r0≠some ⟨some b,[]⟩:=by
   cases hb:b.headD false with
   | false=>
    rw [hb] at h1;simp only [aai,if_false,jf,tE] at h1;obtain ⟨rfl,rfl⟩:=h1;exact ⟨(none,[]),S,h,⟨rfl,rfl⟩,fun _ _ h=>h,jH.refl _,mr.refl _,by simp⟩
   | true=>
    rw [hb] at h1;exact Pr h tK (by simpa using h1)
  obtain ⟨as9,S2,b1,b2,b3,b4,b5,b6,b7⟩:=ih a1 (Et.mono (fun _ _ hh=>qC a3 hh)) h2;refine ⟨a::as9,S2,?_,⟨_,_,_,_,_,_,rfl,rfl,rfl,a2.Lr b4,b2⟩,fun d u hd=>?_,a4.trans b4,mr.trans a5 b5,?_,fun r bk hr=>?_⟩
  ·rw [ry,aay]; exact b1
  ·rw [ry,aay]; exact b3 d u (a3 d u hd)
  ·cases ha:a.1 with
   | none=>simpa [ha] using b6
   | some bk=>
    simp only [abf,ha,abm];refine ⟨?_,b6⟩;cases hb:b.headD false with
    | false=>rw [hb] at a2; obtain ⟨rfl,_⟩:=a2; simp at ha
    | true=>
     rw [hb] at a2;cases d1 with
     | aZ cs=>
      obtain ⟨r,Pt,_,e2,e3,_⟩:=a2;rw [ha,jf] at e2;subst e2;exact b7 r bk e3
     | _=>rw [a2.1] at ha; simp at ha
  ·cases ha:a.1 with
   | none=>simp only [abf,ha]; exact b7 r bk (a4.empty hr)
   | some Pt=>
    simp only [abf,ha,aap,not_or];exact ⟨fun e=>a6 Pt ha r (e▸hr),b7 r bk (a4.empty hr)⟩
end
theorem xC {α β γ:Type} {f:α->Option β} {R:α->γ->Prop} {R':β->γ->Prop}:∀ {as9:List α} {bs:List β} {cs:List γ},cm R as9 cs->lM f as9=some bs->(∀ a b c,R a c->f a=some b->R' b c)->cm R' bs cs
 | [],bs,cs,h,hm,_=>by
  cases h;simp only [lM,jf] at hm;subst hm;exact .nil
 | a::as9,bs,cs,h,hm,hr=>by
  cases h with
  | cons h1 h2=>
  simp only [lM] at hm;split at hm
  case h_2=>simp at hm
  rename_i b hb;split at hm
  case h_2=>simp at hm
  rename_i Z1 xA;simp only [jf] at hm;subst hm;exact .cons (hr _ _ _ h1 hb) (xC h2 xA hr)
section
variable {C:Ctx} {H:List T} {w:World} {st:St} {aI:List (Array Value)} {S:List (Nat × RT)} (h:Rel C H w st aI S) {X':Bool->Nat->Prop} (hX:∀ b k,ah C w S H b k->X' b k)
 (hF:∀ r R k,lk S r=some R->R.cs≠[]->k∈R.ft->X' true k)
include h hX hF
theorem G1 {d d':D} {u:Value} (hd:bD w (ah C w S H) S d u) (he:uD st d=some d'):Ext w X' d' u:=by
 cases d with
 | int k n=>simp only [uD,jf] at he; subst he; exact hd
 | bool b=>simp only [uD,jf] at he; subst he; exact hd
 | str s=>simp only [uD,jf] at he; subst he; exact hd
 | nil s=>simp only [uD,jf] at he; subst he; exact hd
 | undef=>simp only [uD,jf] at he; subst he; simp [Ext]
 | hole s n=>simp only [uD,jf] at he; subst he; simp [Ext]
 | sl g s n cs=>
  simp only [uD,jf] at he;subst he;cases g with
  | none=>simp [bD,Ext] at hd
  | some g=>exact vn hX _ _ hd
 | ref r q o x=>
  simp only [uD] at he;split at he
  case h_2=>simp at he
  rename_i g s n cs hc;simp only [jf] at he;subst he;obtain ⟨R,l,t,h1,h2,h3,h4,h5⟩:=iM h.rt hc;refine Dm hX true h5.symm (rb h.mem h1 h2 h3 h5.symm) (fun k hk=>hF r R k h1 ?_ ?_) (hd t h4)
  ·intro e;rw [e] at h2;cases q with
   | nil=>simp only [ay,jf] at h2; subst h2; simp at h3
   | cons p q=>simp [ay] at h2
  ·have:k∈ai l:=Dp (aak h3) hk;have:=Lx h2 this;simp [RT.ft,this]
 | _=>simp [uD] at he
theorem aep {d d':D} {u:Value} (hd:bD w (ah C w S H) S d u) (he:exN st d=some d'):Ext w X' d' u:=by
 unfold exN at he;split at he
 ·rename_i s e;simp only [jf] at he;subst he;have e1:Ext w X' (.nil s) u:=G1 h hX hF hd e;simp only [Ext] at e1;subst e1;simp only [Ext,gp];exact ⟨none,0,[],rfl,aav 0,by simp,rfl,.inl trivial⟩
 ·exact G1 h hX hF hd he
theorem Vx {b:Bool} {t:T} {d':D} (hc:jw w (ah C w S H) S b t) (hf:∀ k∈t.ft,X' true k) (he:uD st t.er=some d'):Ext w X' d' t.val:=by
 cases t with
 | v d u=>
  have:bD w (ah C w S H) S (bS d) u:=by
   rcases hc with hc | ⟨_,hc⟩
   ·exact fP hc
   ·exact hc
  exact G1 h hX hF this he
 | own s n cap a cs=>
  simp only [T.er,uD,jf] at he;subst he;exact zE hX true (.own s n cap a cs) hc hf
theorem ng {d d':D} {u:Value} (hd:bD w (ah C w S H) S d u) (he:R6 st d=some d') (S':List (Nat × RT)):bD w X' S' d' u:=by
 cases d with
 | cr cs o=>
  simp only [R6,jf] at he;subst he;obtain ⟨b,off,c,e,fz,us,h1,h2,h3,h4,h5⟩:=hd;exact ⟨b,off,c,e,fz,us,h1,hX true b h2,h3,tG (fun b k hk=>⟨hX b k hk,rfl⟩) cs us h4,h5⟩
 | ptr r q o=>
  simp only [R6] at he;split at he
  case h_2=>simp at he
  rename_i c cs ed;split at he
  case h_2=>simp at he
  rename_i cs' hm;simp only [jf] at he;subst he;obtain ⟨R,l,h1,h2,h3⟩:=vH st S h.rt ed;have hl:l≠[]:=fun e=>by rw [e] at h3; simp [ba] at h3
  obtain ⟨p1,p2⟩:=hd R h1;obtain ⟨b,off,fr,a1,a2,a3,a4⟩:=ra h.mem h1 h2 hl p1;have hR:R.cs≠[]:=fun e=>by
   rw [e] at h2;cases q with
   | nil=>simp only [ay,jf] at h2; exact hl h2.symm
   | cons p q=>simp [ay] at h2
  have hb:b∈R.ft:=by
   cases q with
   | nil=>
    simp only [bZ] at a1;cases hx:R.box with
    | none=>simp [hx] at a1
    | some b'=>simp only [hx,OB,jf,tE] at a1; simp [RT.ft,hx,a1.1]
   | cons p q=>simp [RT.ft,qh a1]
  obtain ⟨cc,e,fz,b1,b2,b3,b4⟩:=a2;refine ⟨b,off,cc,e,fz,ax l,p2 b off a1,hF r R b h1 hR hb,b1,(ir _ _).2 ?_,b4⟩;have dR:cm (fun d u=>∃ t bx,d=t.er/\u=t.val/\jw w (ah C w S H) S bx t/\∀ k∈t.ft,X' true k) (c::cs) (ax l):=by
   rw [h3];refine du (by simp [fu,bV]) (fun i x y hx hy=>?_)
   rw [iL] at hx;rw [fq] at hy;cases hi:l[i]? with
   | none=>simp [hi] at hx
   | some t=>
    simp only [hi,OB,jf] at hx hy;have db:∀ k∈t.ft,X' true k:=fun k hk=>hF r R k h1 hR (by
     have:=Lx h2 (Dp (aak hi) hk);simp [RT.ft,this])
    cases q with
    | nil=>
     simp only [ay,jf] at h2;subst h2;exact ⟨t,R.box.isSome,hx.symm,hy.symm,(h.mem.root r R h1).2 t (aak hi),db⟩
    | cons p q=>
     have:=gb (a4 (by simp)) hi
     refine ⟨t,true,hx.symm,hy.symm,?_,db⟩;cases t with
     | v d u=>exact .inl this
     | own s n cap a cs=>exact this
  exact xC dR hm (fun a b c ⟨t,bx,e1,e2,e3,e4⟩ he=>by
   subst e1; subst e2;exact Vx h hX hF e3 e4 he)
 | _=>exact fP (G1 h hX hF hd he)
theorem aeq {d d':D} {u:Value} (hd:cx w (ah C w S H) S d u) (he:UM st d=some d') (S':List (Nat × RT)):gI w X' S' d' u:=by
 cases d with
 | agg cs=>
  simp only [UM] at he;split at he
  case h_2=>simp at he
  rename_i cs' hm;simp only [jf] at he;subst he;obtain ⟨us,rfl,hu⟩:=hd;exact ⟨us,rfl,xC hu hm (fun a b c h1 h2=>fP (aep h hX hF h1 h2))⟩
 | fn f cs=>
  simp only [UM] at he;split at he
  case h_2=>simp at he
  rename_i cs' hm;simp only [jf] at he;subst he;obtain ⟨us,rfl,hu⟩:=hd;exact ⟨us,rfl,xC hu hm (fun a b c h1 h2=>ng h hX hF h1 h2 S')⟩
 | aM ds=>simp [UM,R6,uD] at he
 | int k n=>exact eo (ng h hX hF (d:=.int k n) hd he S')
 | bool b=>exact eo (ng h hX hF (d:=.bool b) hd he S')
 | str s=>exact eo (ng h hX hF (d:=.str s) hd he S')
 | sl g s n cs=>exact eo (ng h hX hF (d:=.sl g s n cs) hd he S')
 | ref r q o x=>exact eo (ng h hX hF (d:=.ref r q o x) hd he S')
 | nil s=>exact eo (ng h hX hF (d:=.nil s) hd he S')
 | ptr r q o=>exact eo (ng h hX hF (d:=.ptr r q o) hd he S')
 | cr cs o=>exact eo (ng h hX hF (d:=.cr cs o) hd he S')
 | aZ cs=>exact eo (ng h hX hF (d:=.aZ cs) hd he S')
 | hole s n=>exact eo (ng h hX hF (d:=.hole s n) hd he S')
 | undef =>exact eo (ng h hX hF (d:=.undef) hd he S')
end
def uW (a:Arg):List Nat:=a.1.toList++ai a.2
def bE:List Arg->List Nat
 | []=>[]
 | a::as9=>uW a++bE as9
def uB (w:World) (X:Bool->Nat->Prop):List Bool->List D->List Value->List Arg->Prop
 | _,[],us,as9=>us=[]/\as9=[]
 | b,d::ds,us,as9=>∃ u kG a cy,us=u::kG/\as9=a::cy/\LD w X (b.headD false) d u a/\uB w X b.tail ds kG cy
def Lk (w:World) (F:List Nat) (Y:Nat->Prop) (b:Bool) (k:Nat):Prop:=k < w.heap.size/\k∉F/\(b=false->Y k)
structure jT (w:World) (Y:Nat->Prop) (own:List Bool) (ds:List D) (us:List Value) (as9:List Arg):Prop where
 args:uB w (Lk w (bE as9) Y) own ds us as9
 nd:(bE as9).Nodup
 lt:∀ k∈bE as9,k < w.heap.size
 sat:∀ a∈as9,bJ w (Lk w (bE as9) Y) a.2
def sO (b:Nat) (ts:List T):T:=.own ts.length 1 1 (some (b,0)) ts
def tP:List D->List Value->List T->Prop
 | [],us,ts=>us=[]/\ts=[]
 | d::ds,us,ts=>∃ u kG t1 t2,us=u::kG/\ts=t1++t2/\fR d u t1/\tP ds kG t2
def LF:D->Value->List T->Prop
 | .aZ cs,v,ts=>∃ b Sn,ts=[sO b Sn]/\cs=ba Sn/\v=.pointer (some ⟨b,0,none⟩)
 | .aM ds,v,ts=>∃ us,v=.tuple us/\tP ds us.toList ts
 | d,v,ts=>fR d v ts
def pk (w':World):Bool->D->Arg->Arg->Prop
 | false,_,_,a'=>a'=(none,[])
 | true,.aZ cs,a,a'=>a'.1=a.1/\(∃ b,a.1=some b/\lR w' b 0 a'.2.length (ax a'.2))/\cs=ba a'.2
 | true,.agg cs,a,a'=>a.1=none/\a'.1=none/\cs=ba a'.2/\ax a'.2=ax a.2
 | true,d,a,a'=>a.1=none/\a'.1=none/\((a'.2=[]/\∀ s n cs,d≠.sl none s n cs)∨∃ t,a'.2=[t]/\d=t.er/\ax [t]=ax a.2)
def mS (w':World):List Bool->List D->List Arg->List Arg->Prop
 | _,os,[],cy=>os=[]/\cy=[]
 | b,os,a::as9,cy=>∃ o yD a' Pu,os=o::yD/\cy=a'::Pu/\pk w' (b.headD false) o a a'/\mS w' b.tail yD as9 Pu
structure fw (w w':World) (Y:Nat->Prop) (own:List Bool) (as9:List Arg) (r:D) (outs:List D) (v:Value):Prop where
 sz:w.heap.size<=w'.heap.size
 bY:∀ k,k < w.heap.size->k∉bE as9->w'.heap[k]?=w.heap[k]?
 os:w'.os=w.os
 tape:w'.tape=w.tape
 out:w'.output=w.output
 res:∃ (fc:List T) (cy:List Arg),LF r v fc/\mS w' own outs as9 cy/\(ai fc++bE cy).Nodup/\(∀ k∈ai fc++bE cy,k < w'.heap.size/\(k∈bE as9∨w.heap.size<=k))/\
  bJ w' (fun b k=>Lk w' (ai fc++bE cy) (fun k=>Y k∨k∈bE as9∨w.heap.size<=k) b k) fc/\
  ∀ a∈cy,bJ w' (fun b k=>Lk w' (ai fc++bE cy) (fun k=>Y k∨k∈bE as9∨w.heap.size<=k) b k) a.2
def kK (P : Program) (f : FuncId) : Prop := ∃ fn, P.funcs[f]? = some fn ∧ (fn.name == "runtime.NumGoroutine") = false ∧ fn.body.isNone = false
def lP (P:Program) (own:FuncId->List Bool) (cl:FuncId->List D->Option (D × List D)):Prop:=
 ∀ f ds r outs,cl f ds=some (r,outs)->kK P f/\∀ (w:World) (Y:Nat->Prop) (us:Array Value) (as9:List Arg),jT w Y (own f) ds us.toList as9->dG r=true->(∀ o∈outs,dG o=true)->
  Calls P f us w fun e w'=>∃ v,e=.returned v/\fw w w' Y (own f) as9 r outs v
def lY (h:D->D):Prop:=∀ x,h x=x∨h x=.undef
theorem Yj:lY id:=fun _=>.inl rfl
theorem Rv (r:Nat) (q:List Nat) (o:Nat) (e:Bool):lY (cB r q o e):=fun x=>by
 unfold cB;split
 ·split
  ·split
   ·exact .inl rfl
   ·split
    ·exact .inr rfl
    ·exact .inl rfl
   ·exact .inr rfl
  ·exact .inl rfl
 ·split
  ·split
   ·exact .inl rfl
   ·exact .inr rfl
  ·exact .inl rfl
 ·exact .inl rfl
theorem Rw (r:Nat):lY (eC r):=fun x=>by
 unfold eC;split
 ·split
  ·exact .inr rfl
  ·exact .inl rfl
 ·split
  ·exact .inr rfl
  ·exact .inl rfl
 ·exact .inl rfl
theorem lY.comp {f g:D->D} (hf:lY f) (hg:lY g) (h0:f .undef=.undef):lY (fun x=>f (g x)):=fun x=>by
 rcases hg x with e | e
 ·show f (g x)=x∨f (g x)=.undef;rw [e]; exact hf x
 ·right; show f (g x)=_; rw [e,h0]
section
variable {C:Ctx} {w:World} {aI:List (Array Value)}
theorem qH {H Hs:List T} {st:St} {S:List (Nat × RT)} (h:Rel C (Hs++H) w st aI S):Rel C H w st aI S/\iB C w w S S (Hs++H) H id:=by
 have eI:∀ k∈cM S++ai H,k∈cM S++ai (Hs++H):=fun k hk=>by
  rw [bd];rcases tD.1 hk with h | h<;>simp [h]
 have hX:∀ b k,ah C w S (Hs++H) b k->ah C w S H b k:=jV eI;have cF:jF w w (ah C w S (Hs++H)) (ah C w S H):=fun b k hk=>⟨hX b k hk,rfl⟩;have dZ:iB C w w S S (Hs++H) H id:=fun d u hd=>oz cF hd;refine ⟨h.sA h.rt rfl rfl dZ ⟨?_,?_,gd hX _ ((ea _ _).1 h.mem.hand).2,fun k hk=>h.mem.lt k (eI k hk)⟩ ⟨h.kept.os,h.kept.tape,h.kept.output,h.kept.size,h.kept.block,fun k hk=>h.kept.iQ k (eI k hk),h.kept.par⟩,dZ⟩
 ·refine afp ?_ h.mem.nd;rw [bd];exact abz (abj _) (aek _ _)
 ·intro r R hr;obtain ⟨k1,k2⟩:=h.mem.root r R hr;refine ⟨k1,fun t ht=>?_⟩;have:=k2 t ht;cases t with
  | v d u=>
   rcases this with this | ⟨hb,this⟩
   ·exact .inl (vn hX _ _ this)
   ·exact .inr ⟨hb,dZ _ _ this⟩
  | own s n cap a xs=>exact dQ cF _ this (fun _ _=>rfl)
structure la (C:Ctx) (w:World) (st st':St) (S S':List (Nat × RT)) (H H':List T) (h0 h1:D->D):Prop where
 TE:∀ d u,bD w (ah C w S H) S (h0 d) u->bD w (ah C w S' H') S' (h1 d) u
 aar:lY h1
 Lr:nD S S'
 of:st'.of=st.of
theorem la.trans {st aQ cu:St} {S S1 S2:List (Nat × RT)} {H H1 H2:List T} {h0 h1 h2:D->D} (a:la C w st aQ S S1 H H1 h0 h1) (b:la C w aQ cu S1 S2 H1 H2 h1 h2):la C w st cu S S2 H H2 h0 h2:=
 ⟨fun d u hd=>b.TE d u (a.TE d u hd),b.aar,a.Lr.trans b.Lr,b.of.trans a.of⟩
theorem la.drop {st:St} {S:List (Nat × RT)} {H Hs:List T} {h0:D->D} (h:Rel C (Hs++H) w st aI S) (hk:lY h0):la C w st st S S (Hs++H) H h0 h0:=
 ⟨fun d u hd=>(qH h).2 _ _ hd,hk,nD.refl _,rfl⟩
theorem Pv:∀ {as9:List D} {ts:List T} {H:List T} {st st':St} {S:List (Nat × RT)} {h0 h1:D->D},Rel C (ts++H) w st aI S->lY h0->cm (fun a u=>bD w (ah C w S (ts++H)) S (h0 a) u) as9 (ax ts)->pX st h0 as9 (ba ts)=some (st',h1)->
  ∃ S',Rel C H w st' aI S'/\la C w st st' S S' (ts++H) H h0 h1:=by
 intro as9
 induction as9 with
 | nil=>
  intro ts H st st' S h0 h1 h hk ha hb;have yA:ts=[]:=by
   cases ts with
   | nil=>rfl
   | cons t ts=>simp only [ax] at ha; cases ha
  subst yA;simp only [pX,jf,tE] at hb;obtain ⟨rfl,rfl⟩:=hb;exact ⟨S,h,⟨fun _ _ h=>h,hk,nD.refl _,rfl⟩⟩
 | cons a as9 ih=>
  intro ts H st st' S h0 h1 h hk ha hb;cases ts with
  | nil=>simp only [ax] at ha; cases ha
  | cons t ts=>
   simp only [ax] at ha;cases ha with
   | cons Br Z3=>
   simp only [ba,pX] at hb;split at hb
   ·rename_i r q o s n cs e1 e2;split at hb
    case h_2=>simp at hb
    rename_i s0 n0 cO;split at hb
    case isFalse=>simp at hb
    rename_i O5;split at hb
    case h_2=>simp at hb
    rename_i aQ iN;rw [e1] at Br;rw [<- e2] at iN;obtain ⟨R,l,t0,g1,g2,g3,g4,g5⟩:=iM h.rt cO;obtain ⟨d0,u0,rfl⟩:∃ d0 u0,t0=.v d0 u0:=by
     cases t0 with
     | v d0 u0=>exact ⟨d0,u0,rfl⟩
     | own s n cap a cs=>simp [T.er] at g5
    simp only [T.er] at g5;have hu:=Br _ g4;simp only [eM,T.er,<- g5,sn] at hu;obtain ⟨S1,b1,b2,b3,b4,_,_⟩:=Pq (ex:=false) h g4 ⟨d0,u0,rfl,fun _=>by rw [<- g5]; simp [fp,cB]⟩ (.inl ⟨hu,fun p hp=>by
     rw [e2] at hp;simp only [sn,jf] at hp;simp only [T.er,<- g5,sn,jf];rw [O5.1,O5.2]; exact hp⟩) iN
    have hk1:lY (fun x=>cB r q o false (h0 x)):=lY.comp (Rv r q o false) hk rfl;obtain ⟨S2,c1,c2⟩:=ih b1 hk1 (Z3.mono (fun x u hx=>b2 _ _ hx)) hb;exact ⟨S2,c1,la.trans ⟨fun d u hd=>b2 _ _ hd,hk1,b4,b3⟩ c2⟩
   ·have hd:=qH (Hs:=[t]) h;obtain ⟨S2,c1,c2⟩:=ih hd.1 hk (Z3.mono (fun x u hx=>hd.2 _ _ hx)) hb;exact ⟨S2,c1,la.trans (la.drop (Hs:=[t]) h hk) c2⟩
def aas (w:World) (X:Bool->Nat->Prop) (S:List (Nat × RT)) (h0:D->D) (d:D) (u:Value) (o:D) (a a':Arg):Prop:=
 cm (fun x v=>bD w X S (h0 x) v) (cellsOf d) (hL d u)/\pk w true o a a'/\(a.1=none->ax a.2=hL d u/\∀ r,d≠.ptr r [] 0)/\∀ bx,a.1=some bx->∃ r R,d=.ptr r [] 0/\lk S r=some R/\R.box=some bx
theorem EG {H:List T} {st st':St} {S:List (Nat × RT)} {h0 h1:D->D} {ts:List T} {d o:D} (h:Rel C (ts++H) w st aI S) (hk:lY h0) (hn:∀ r q o' x s n cs,¬ (h0 d=.ref r q o' x/\o=.sl none s n cs)) (hb:pX st h0 [d] [o]=some (st',h1)):∃ S',Rel C H w st' aI S'/\la C w st st' S S' (ts++H) H h0 h1:=by
 simp only [pX] at hb;split at hb
 ·rename_i r q o' s n cs e1;exact absurd ⟨e1,rfl⟩ (hn r q o' none s n cs)
 ·simp only [jf,tE] at hb;obtain ⟨rfl,rfl⟩:=hb;exact ⟨S,(qH h).1,la.drop h hk⟩
theorem Yk {H:List T} {st st':St} {S:List (Nat × RT)} {h0 h1:D->D} {d o:D} {u:Value} {a a':Arg} (h:Rel C (a'.2++H) w st aI S) (hk:lY h0) (ha:aas w (ah C w S (a'.2++H)) S h0 d u o a a') (hb:Dh st h0 d o=some (st',h1)):
  ∃ S',Rel C H w st' aI S'/\la C w st st' S S' (a'.2++H) H h0 h1:=by
 obtain ⟨pJ,h2,h3,h4⟩:=ha;unfold Dh at hb;split at hb
 ·rename_i cs ds;obtain ⟨e1,e2,e3,e4⟩:=h2;subst e3;exact Pv h hk (by rw [e4,(h3 e1).1]; exact pJ) hb
 ·rename_i r ds;obtain ⟨e1,⟨b,e2,e3⟩,e4⟩:=h2;split at hb
  case h_2=>simp at hb
  rename_i gq;simp only [jf,tE] at hb;obtain ⟨rfl,rfl⟩:=hb;obtain ⟨r',R,g1,g2,g3⟩:=h4 b e2;simp only [D.ptr.injEq,and_true] at g1;subst g1;rw [h.rt,g2] at gq;simp only [OB,jf] at gq;have ed:R.cs=[]:=aa8.1 (by rw [<- fu,gq]; rfl)
  obtain ⟨c1,c2,c3⟩:=Yi h (r:=r) (b:=b) (by rw [g2]; cases R; simp only at g3 ed; rw [g3,ed]) e3
  subst e4;exact ⟨_,c1,⟨fun d u hd=>c2 _ _ hd,lY.comp (Rw r) hk rfl,c3,rfl⟩⟩
 ·rename_i hna hnp;by_cases ew:∃ cs,d=.agg cs
  ·obtain ⟨cs,rfl⟩:=ew;refine EG h hk (fun r q o' x s n cs' hh=>?_) hb;rcases hk (.agg cs) with e | e<;>rw [e] at hh<;>simp at hh
  have cO:cellsOf d=[d]:=by cases d<;>first | rfl | exact absurd ⟨_,rfl⟩ ew
  have BE:hL d u=[u]:=by cases d<;>first | rfl | exact absurd ⟨_,rfl⟩ ew
  by_cases gK:∃ s n cs,o=.sl none s n cs
  ·obtain ⟨s,n,cs,rfl⟩:=gK;obtain ⟨e1,e2,e3⟩:=h2;rcases e3 with ⟨_,e3⟩ | ⟨t,e3,e4,e5⟩
   ·exact absurd rfl (e3 s n cs)
   ·rw [e3] at h pJ ⊢;rw [e4] at hb;refine Pv (as9:=[d]) (ts:=[t]) h hk ?_ (by simpa [ba] using hb)
    rw [e5,(h3 e1).1,BE];rw [cO,BE] at pJ;exact pJ
  ·exact EG h hk (fun r q o' x s n cs' hh=>gK ⟨s,n,cs',hh.2⟩) hb
def yE (w:World) (X:Bool->Nat->Prop) (S:List (Nat × RT)) (h0:D->D):List Bool->List D->List Value->List D->List Arg->List Arg->Prop
 | _,[],us,os,as9,cy=>us=[]/\os=[]/\as9=[]/\cy=[]
 | b,d::ds,us,os,as9,cy=>∃ u Pw o qI a BI a' BJ,us=u::Pw/\os=o::qI/\as9=a::BI/\cy=a'::BJ/\(if b.headD false then aas w X S h0 d u o a a' else a'=(none,[]))/\yE w X S h0 b.tail ds Pw qI BI BJ
theorem yE.step {X X':Bool->Nat->Prop} {S S':List (Nat × RT)} {h0 h1:D->D} (ht:∀ d u,bD w X S (h0 d) u->bD w X' S' (h1 d) u) (hd:nD S S'):∀ {b:List Bool} {ds:List D} {us:List Value} {os:List D} {as9 cy:List Arg},yE w X S h0 b ds us os as9 cy->yE w X' S' h1 b ds us os as9 cy
 | _,[],_,_,_,_,h=>h
 | b,d::ds,us,os,as9,cy,h=>by
  obtain ⟨u,Pw,o,qI,a,BI,a',BJ,e1,e2,e3,e4,e5,e6⟩:=h;refine ⟨u,Pw,o,qI,a,BI,a',BJ,e1,e2,e3,e4,?_,e6.step ht hd⟩;split
  ·rename_i hb;rw [if_pos hb] at e5;obtain ⟨k1,k2,k3,k4⟩:=e5;refine ⟨k1.mono (fun x v hx=>ht _ _ hx),k2,k3,fun bx rk=>?_⟩;obtain ⟨r,R,g1,g2,g3⟩:=k4 bx rk;obtain ⟨R',g4,g5⟩:=hd r R g2;exact ⟨r,R',g1,g4,g5.trans g3⟩
  ·rename_i hb;rw [if_neg hb] at e5;exact e5
def cZ (as9:List Arg):List T:=(as9.map Prod.snd).flatten
theorem Rx:∀ {ds:List D} {b:List Bool} {us:List Value} {os:List D} {as9 cy:List Arg} {H:List T} {st st':St} {S:List (Nat × RT)} {h0:D->D},Rel C (cZ cy++H) w st aI S->lY h0->yE w (ah C w S (cZ cy++H)) S h0 b ds us os as9 cy->iJ st h0 b ds os=some st'->
  ∃ S' h1,Rel C H w st' aI S'/\la C w st st' S S' (cZ cy++H) H h0 h1:=by
 intro ds
 induction ds with
 | nil=>
  intro b us os as9 cy H st st' S h0 h hk ha hb;obtain ⟨rfl,rfl,rfl,rfl⟩:=ha;simp only [iJ,jf] at hb;subst hb;exact ⟨S,h0,h,⟨fun _ _ h=>h,hk,nD.refl _,rfl⟩⟩
 | cons d ds ih=>
  intro b us os as9 cy H st st' S h0 h hk ha hb;obtain ⟨u,Pw,o,qI,a,BI,a',BJ,rfl,rfl,rfl,rfl,e5,e6⟩:=ha;have hh:cZ (a'::BJ)++H=a'.2++(cZ BJ++H):=by simp [cZ]
  rw [hh] at h e5 e6 ⊢;simp only [iJ] at hb;split at hb
  ·rename_i tN;rw [if_pos tN] at e5;split at hb
   case h_2=>simp at hb
   rename_i aQ h1 xq;obtain ⟨S1,c1,c2⟩:=Yk h hk e5 xq;obtain ⟨S2,h2,d1,d2⟩:=ih c1 c2.aar (e6.step c2.TE c2.Lr) hb;exact ⟨S2,h2,d1,c2.trans d2⟩
  ·rename_i tN;rw [if_neg tN] at e5;subst e5;have hd:=qH (Hs:=[]) (H:=cZ BJ++H) h;obtain ⟨S2,h2,d1,d2⟩:=ih hd.1 hk e6 hb;exact ⟨S2,h2,d1,d2⟩
end
def AD:D->List D
 | .agg cs=>cs
 | d=>[d]
theorem xD (ds:List D):dq (.aM ds)=ds.flatMap AD:=rfl
theorem qj {d:D} {v:Value} {ts:List T} (h:fR d v ts):ba ts=AD d:=by
 cases d<;>first | exact h.1.symm | (obtain ⟨t,rfl,h1,_⟩:=h; rw [h1]; simp [ba,AD,<- h1])
theorem BK:∀ {ds:List D} {us:List Value} {ts:List T},tP ds us ts->ba ts=ds.flatMap AD
 | [],us,ts,h=>by obtain ⟨rfl,rfl⟩:=h; rfl
 | d::ds,us,ts,h=>by
  obtain ⟨u,kG,t1,t2,rfl,rfl,h1,h2⟩:=h;rw [qf,qj h1,BK h2,abo]
theorem sQ {w:World} {X:Bool->Nat->Prop} {d:D} {v:Value} {ts:List T} (hs:bJ w X ts) (h:fR d v ts):dq d=AD d:=by
 cases d with
 | aM ds=>
  obtain ⟨t,rfl,h1,_⟩:=h;exact absurd h1.symm ((sL ((cj _).1 hs t (by simp))).2.2 ds)
 | _=>rfl
section
variable {C:Ctx} {w:World} {aI:List (Array Value)} {H:List T} {S:List (Nat × RT)}
theorem zP (hm:Mem C w S H) {r:Nat} {R:RT} (hR:lk S r=some R) {d:D} {v:Value} {ts A B:List T} (hf:fR d v ts) (ed:R.cs=A++ts++B):gI w (ah C w S H) S (De r A.length d) v:=by
 have jG:∀ (i:Nat) (t:T),ts[i]?=some t->R.cs[A.length+i]?=some t:=fun i t hi=>by
  have dg:=(aaa.1 hi).1;rw [ed,aay,aa6 (by omega),abc (by omega)]
  rw [<- hi]; congr 1; omega
 by_cases ha:∃ cs,d=.agg cs
 ·obtain ⟨cs,rfl⟩:=ha;obtain ⟨rfl,us,rfl,hu⟩:=hf;refine ⟨us,rfl,du (by rw [qA,fu,hu,bV]) (fun i x y hx hy=>?_)⟩
  rw [oq,iL] at hx;rw [hu,fq] at hy;cases hi:ts[i]? with
  | none=>simp [hi] at hx
  | some t=>
   simp only [hi,OB,jf] at hx hy;subst hx; subst hy;exact qz hm hR rfl (jG i t hi)
 ·have hv:De r A.length d=gP r [] A.length d:=by cases d<;>first | rfl | exact absurd ⟨_,rfl⟩ ha
  have Vy:∃ t,ts=[t]/\d=t.er/\v=t.val:=by cases d<;>first | exact hf | exact absurd ⟨_,rfl⟩ ha
  obtain ⟨t,rfl,rfl,rfl⟩:=Vy;rw [hv];exact eo (qz hm hR rfl (jG 0 t rfl))
theorem EH (hm:Mem C w S H) {r:Nat} {R:RT} (hR:lk S r=some R) {X:Bool->Nat->Prop}:∀ {ds:List D} {us:List Value} {ts A B:List T},tP ds us ts->bJ w X ts->R.cs=A++ts++B->cm (gI w (ah C w S H) S) (Gu r A.length ds) us
 | [],us,ts,A,B,h,_,_=>by obtain ⟨rfl,rfl⟩:=h; exact .nil
 | d::ds,us,ts,A,B,h,hs,ed=>by
  obtain ⟨u,kG,t1,t2,rfl,rfl,h1,h2⟩:=h;rw [ea] at hs;simp only [Gu];refine .cons (zP hm hR (B:=t2++B) h1 (by rw [ed]; simp)) ?_
  have hl:A.length+(dq d).length=(A++t1).length:=by rw [sQ hs.1 h1,<- qj h1,fu,aad]
  rw [hl];exact EH hm hR (B:=B) h2 hs.2 (by rw [ed]; simp)
theorem zQ {X:Bool->Nat->Prop} {d:D} {v:Value} {ts:List T} (hf:fR d v ts) (hs:bJ w X ts) (pe:(AD d).any jg=false):gI w X S d v:=by
 have hl:∀ t∈ts,Ext w X t.er t.val:=fun t ht=>by
  have h1:=(cj _).1 hs t ht;cases t with
  | v d u=>exact h1
  | own s n cap a cs=>
   rw [<- qj hf] at pe;have:=List.any_eq_false.1 pe (T.own s n cap a cs).er (by rw [eO]; exact aam.2 ⟨_,ht,rfl⟩)
   simp [T.er,jg] at this
 by_cases ha:∃ cs,d=.agg cs
 ·obtain ⟨cs,rfl⟩:=ha;obtain ⟨rfl,us,rfl,hu⟩:=hf;refine ⟨us,rfl,du (by rw [fu,hu,bV]) (fun i x y hx hy=>?_)⟩
  rw [iL] at hx;rw [hu,fq] at hy;cases hi:ts[i]? with
  | none=>simp [hi] at hx
  | some t=>
   simp only [hi,OB,jf] at hx hy;subst hx; subst hy;exact fP (hl t (aak hi))
 ·have Vy:∃ t,ts=[t]/\d=t.er/\v=t.val:=by cases d<;>first | exact hf | exact absurd ⟨_,rfl⟩ ha
  obtain ⟨t,rfl,rfl,rfl⟩:=Vy;exact eo (fP (hl t (by simp)))
theorem EI {X:Bool->Nat->Prop}:∀ {ds:List D} {us:List Value} {ts:List T},tP ds us ts->bJ w X ts->(ds.flatMap AD).any jg=false->cm (gI w X S) ds us
 | [],us,ts,h,_,_=>by obtain ⟨rfl,rfl⟩:=h; exact .nil
 | d::ds,us,ts,h,hs,pe=>by
  obtain ⟨u,kG,t1,t2,rfl,rfl,h1,h2⟩:=h;rw [ea] at hs;rw [abo,List.any_append,abF] at pe;exact .cons (zQ h1 hs.1 pe.1) (EI h2 hs.2 pe.2)
theorem Yl {fc:List T} {st:St} {vs:Array Value} (h:Rel C (fc++H) w st (vs::aI) S) {r:D} {v:Value} (hr:LF r v fc) {t:Nat} (ht:t < vs.size) (hP:∀ p∈C.P0,p.1≠st.of+t):
  ∃ S',Rel C H w ((st.qZ (st.of+t) r).1.put (some t) (st.qZ (st.of+t) r).2) (vs.setIfInBounds t v::aI) S':=by
 have dv:=((ea _ _).1 h.mem.hand).1;have aes:(ai fc).Nodup:=by
  have:=h.mem.nd;rw [bd,yq,yq] at this;exact this.2.1.1
 have aet:∀ k∈ai fc,k < w.heap.size:=fun k hk=>h.mem.lt k (by rw [bd]; simp [hk])
 by_cases hp:∃ cs,r=.aZ cs
 ·obtain ⟨cs,rfl⟩:=hp;obtain ⟨b,ts,rfl,rfl,rfl⟩:=hr;have hb:bI w (ah C w S ([sO b ts]++H)) (sO b ts):=(cj _).1 dv _ (by simp)
  simp only [sO,bI,Nat.one_mul] at hb;obtain ⟨_,_,fv,gK⟩:=hb;have eG:∀ k∈(RT.mk (some b) ts).ft,k∈ai [sO b ts]∨w.heap.size<=k:=fun k hk=>.inl (by simpa [RT.ft,ai,sO,T.ft,fG] using hk)
  have cF:=o4 (r:=st.of+t) (R:=⟨some b,ts⟩) h eG (aav _) (fun _ _=>rfl);obtain ⟨h1,_⟩:=zH (r:=st.of+t) (R:=⟨some b,ts⟩) h ⟨fv,fun x hx=>by
    have:=(cj _).1 gK x hx;have:=dQ cF x this (fun _ _=>rfl);cases x with
    | v d u=>exact .inl this
    | own s n cap a cs=>exact this⟩
   ⟨by simpa [RT.ft,ai,sO,T.ft,fG] using aes,eG⟩ (fun k hk=>aet k (by simpa [RT.ft,ai,sO,T.ft,fG] using hk)) (aav _) (fun _ _=>rfl) rfl rfl rfl hP
  refine ⟨_,h1.put ht ?_⟩;intro R hR;rw [cJ,jf] at hR;subst hR;exact ⟨fun _=>rfl,fun b' off ha=>by simp only [bZ,OB,jf,tE] at ha; obtain ⟨rfl,rfl⟩:=ha; rfl⟩
 ·have p8:ba fc=dq r:=by
   by_cases jW:∃ ds,r=.aM ds
   ·obtain ⟨ds,rfl⟩:=jW;obtain ⟨us,rfl,hf⟩:=hr;rw [xD]; exact BK hf
   ·have hf:fR r v fc:=by cases r<;>first | exact hr | exact absurd ⟨_,rfl⟩ hp | exact absurd ⟨_,rfl⟩ jW
    rw [sQ dv hf]; exact qj hf
  have had:st.qZ (st.of+t) r=if (dq r).any jg then ({ st.eZ (cH (st.of+t)) with rt:=pz (st.eZ (cH (st.of+t))).rt (st.of+t) (dq r) },Df (st.of+t) r) else (st,r):=by
   cases r<;>first | rfl | exact absurd ⟨_,rfl⟩ hp
  rw [had];by_cases jI:(dq r).any jg=true
  ·rw [if_pos jI];have eG:∀ k∈(RT.mk none fc).ft,k∈ai fc∨w.heap.size<=k:=fun k hk=>.inl (by simpa [RT.ft] using hk)
   have cF:=o4 (r:=st.of+t) (R:=⟨none,fc⟩) h eG (aav _) (fun _ _=>rfl);obtain ⟨h1,_⟩:=zH (r:=st.of+t) (R:=⟨none,fc⟩) h ⟨trivial,fun x hx=>by
     have:=(cj _).1 dv x hx;have:=dQ cF x this (fun _ _=>rfl);cases x with
     | v d u=>exact .inl this
     | own s n cap a cs=>exact this⟩
    ⟨by simpa [RT.ft] using aes,eG⟩ (fun k hk=>aet k (by simpa [RT.ft] using hk)) (aav _) (fun _ _=>rfl) rfl rfl rfl hP
   rw [<- p8];refine ⟨_,h1.put ht ?_⟩;have AE:lk (pt (fS (cH (st.of+t)) S) (st.of+t) ⟨none,fc⟩) (st.of+t)=some ⟨none,fc⟩:=cJ _ _ _;by_cases jW:∃ ds,r=.aM ds
   ·obtain ⟨ds,rfl⟩:=jW;obtain ⟨us,rfl,hf⟩:=hr;refine ⟨us,rfl,?_⟩;exact EH h1.mem AE (A:=[]) (B:=[]) hf dv (by simp)
   ·have hf:fR r v fc:=by cases r<;>first | exact hr | exact absurd ⟨_,rfl⟩ hp | exact absurd ⟨_,rfl⟩ jW
    have hv:Df (st.of+t) r=De (st.of+t) 0 r:=by cases r<;>first | rfl | exact absurd ⟨_,rfl⟩ jW
    rw [hv];exact kV (zP h1.mem AE (A:=[]) (B:=[]) hf (by simp))
  ·rw [if_neg jI];have jI:(dq r).any jg=false:=by simpa using jI
   obtain ⟨h1,_⟩:=qH h;have hX:∀ b k,ah C w S (fc++H) b k->ah C w S H b k:=jV (fun k hk=>by
    rw [bd];rcases tD.1 hk with h | h<;>simp [h])
   have hs:=gd hX _ dv;refine ⟨S,h1.put ht ?_⟩;by_cases jW:∃ ds,r=.aM ds
   ·obtain ⟨ds,rfl⟩:=jW;obtain ⟨us,rfl,hf⟩:=hr;exact ⟨us,rfl,EI hf hs jI⟩
   ·have hf:fR r v fc:=by cases r<;>first | exact hr | exact absurd ⟨_,rfl⟩ hp | exact absurd ⟨_,rfl⟩ jW
    rw [sQ dv hf] at jI;exact kV (zQ hf hs jI)
end
mutual
def tQ (b:Bool):T->T
 | .v d u=>.v (iI b (bS d)) u
 | .own s n cap a cs=>.own s n cap a (gD b cs)
def gD (b:Bool):List T->List T
 | []=>[]
 | t::ts=>tQ b t::gD b ts
end
theorem Ym {d:D} (h:∀ s n cs,d≠.sl none s n cs):bS d=d:=by
 cases d with
 | sl g s n cs=>cases g with
  | none=>exact absurd rfl (h s n cs)
  | some g=>rfl
 | _=>rfl
theorem Vz (d:D) (s n:Nat) (cs:List D):bS d≠.sl none s n cs:=by
 cases d with
 | sl g s n cs=>cases g<;>simp [bS]
 | _=>simp [bS]
theorem Px (b:Bool) (d:D):bS (iI b (bS d))=iI b (bS d):=by
 refine Ym (fun s n cs=>?_);have:=Vz d;cases h:bS d with
 | sl g s' n' cs'=>
  cases g with
  | none=>exact absurd h (this _ _ _)
  | some g=>simp [iI]
 | _=>simp [iI]
mutual
theorem Dr (b:Bool):∀ t:T,(tQ b t).er=iI b t.er
 | .v d u=>by simp only [tQ,T.er]; exact Px b d
 | .own s n cap a cs=>by simp only [tQ,T.er,iI]; rw [vP b cs]
theorem vP (b:Bool):∀ ts:List T,ba (gD b ts)=ej b (ba ts)
 | []=>rfl
 | t::ts=>by simp only [gD,ba,ej]; rw [Dr b t,vP b ts]
end
theorem BL (b:Bool) (t:T):(tQ b t).val=t.val:=by cases t<;>rfl
theorem sS (b:Bool):∀ ts:List T,ax (gD b ts)=ax ts
 | []=>rfl
 | t::ts=>by simp only [gD,ax]; rw [BL,sS b ts]
mutual
theorem agG (b:Bool):∀ t:T,(tQ b t).ft=t.ft
 | .v _ _=>rfl
 | .own s n cap a cs=>by simp only [tQ,T.ft]; rw [vQ b cs]
theorem vQ (b:Bool):∀ ts:List T,ai (gD b ts)=ai ts
 | []=>rfl
 | t::ts=>by simp only [gD,ai]; rw [agG b t,vQ b ts]
end
theorem vo (b:Bool):∀ ts:List T,(gD b ts).length=ts.length
 | []=>rfl
 | t::ts=>by simp [gD,vo b ts]
theorem Dt (b:Bool):∀ x y:List T,gD b (x++y)=gD b x++gD b y
 | [],_=>rfl
 | t::ts,y=>by simp [gD,Dt b ts y]
theorem Py (b:Bool):∀ cs:List D,(ej b cs).length=cs.length
 | []=>rfl
 | d::ds=>by simp [ej,Py b ds]
section
variable {w:World} {X X':Bool->Nat->Prop} {b:Bool} (hX:∀ g k,X g k->X' b k)
include hX
mutual
theorem So:∀ (d:D) (u:Value),Ext w X d u->Ext w X' (iI b d) u
 | .int _ _,_,hu=>hu
 | .bool _,_,hu=>hu
 | .str _,_,hu=>hu
 | .nil _,_,hu=>hu
 | .undef,_,_=>trivial
 | .hole _ _,_,_=>trivial
 | .sl (some g) s n cs,u,hu=>by
  simp only [Ext,iI] at hu ⊢;obtain ⟨base,cap,us,h1,pJ,h2,h3,h4⟩:=hu;refine ⟨base,cap,us,h1,pJ,by rw [Py]; exact h2,Pz cs us h3,?_⟩
  rcases h4 with h4 | ⟨k,off,c,e,fz,h5,h6,h7,h8⟩
  ·left; rw [h4]; rfl
  ·exact .inr ⟨k,off,c,e,fz,h5,hX g k h6,h7,h8⟩
 | .sl none _ _ _,_,hu=>by simp [Ext] at hu
 | .ref ..,_,hu=>by simp [Ext] at hu
 | .agg _,_,hu=>by simp [Ext] at hu
 | .aM _,_,hu=>by simp [Ext] at hu
 | .fn ..,_,hu=>by simp [Ext] at hu
 | .ptr ..,_,hu=>by simp [Ext] at hu
 | .cr ..,_,hu=>by simp [Ext] at hu
 | .aZ _,_,hu=>by simp [Ext] at hu
theorem Pz:∀ (ds:List D) (us:List Value),gp w X ds us->gp w X' (ej b ds) us
 | [],_,hu=>by have _:=hX; exact hu
 | d::ds,us,hu=>by
  simp only [gp,ej] at hu ⊢;obtain ⟨v,vs,h1,h2,h3⟩:=hu;exact ⟨v,vs,h1,So d v h2,Pz ds vs h3⟩
end
mutual
theorem aeu:∀ (t:T),bI w X t->bI w X' (tQ b t)
 | .v d u,hs=>by
  simp only [bI,tQ] at hs ⊢;rw [Px];exact So hX _ _ hs
 | .own s n cap a cs,hs=>by
  simp only [bI,tQ] at hs ⊢;obtain ⟨h1,h2,h3,h4⟩:=hs;rw [sS,vo];exact ⟨h1,h2,h3,yF cs h4⟩
theorem yF:∀ (ts:List T),bJ w X ts->bJ w X' (gD b ts)
 | [],_=>by have _:=hX; simp [bJ,gD]
 | t::ts,hs=>by
  simp only [bJ,gD] at hs ⊢;exact ⟨aeu t hs.1,yF ts hs.2⟩
end
end
section
variable {w:World} {X:Bool->Nat->Prop}
mutual
theorem VA:∀ (d:D) (u:Value),Ext w X d u->cg d=true->Ext w (fun g k=>g=false/\X false k) d u
 | .int _ _,_,hu,_=>hu
 | .bool _,_,hu,_=>hu
 | .str _,_,hu,_=>hu
 | .nil _,_,hu,_=>hu
 | .undef,_,_,_=>trivial
 | .hole _ _,_,_,_=>trivial
 | .sl (some g) s n cs,u,hu,hn=>by
  simp only [Ext] at hu ⊢;simp only [cg,Bh] at hn;have hg:g=false:=by cases g with
   | false=>rfl
   | true=>exact absurd hn.1 (by decide)
  subst hg;obtain ⟨base,cap,us,h1,pJ,h2,h3,h4⟩:=hu;refine ⟨base,cap,us,h1,pJ,h2,Sp cs us h3 hn.2,?_⟩;rcases h4 with h4 | ⟨k,off,c,e,fz,h5,h6,h7,h8⟩
  ·exact .inl h4
  ·exact .inr ⟨k,off,c,e,fz,h5,⟨rfl,h6⟩,h7,h8⟩
 | .sl none _ _ _,_,hu,_=>by simp [Ext] at hu
 | .ref ..,_,hu,_=>by simp [Ext] at hu
 | .agg _,_,hu,_=>by simp [Ext] at hu
 | .aM _,_,hu,_=>by simp [Ext] at hu
 | .fn ..,_,hu,_=>by simp [Ext] at hu
 | .ptr ..,_,hu,_=>by simp [Ext] at hu
 | .cr ..,_,hu,_=>by simp [Ext] at hu
 | .aZ _,_,hu,_=>by simp [Ext] at hu
theorem Sp:∀ (ds:List D) (us:List Value),gp w X ds us->cq ds=true->gp w (fun g k=>g=false/\X false k) ds us
 | [],_,hu,_=>hu
 | d::ds,us,hu,hn=>by
  simp only [gp] at hu ⊢;simp only [cq,Bh] at hn;obtain ⟨v,vs,h1,h2,h3⟩:=hu;exact ⟨v,vs,h1,VA d v h2 hn.1,Sp ds vs h3 hn.2⟩
end
mutual
theorem aev:∀ (t:T),bI w X t->cg t.er=true->bI w (fun g k=>g=false/\X false k) t
 | .v d u,hs,hn=>by
  simp only [bI] at hs ⊢;exact VA _ _ hs hn
 | .own s n cap a cs,hs,hn=>by
  simp only [bI] at hs ⊢;simp only [T.er,cg,Bh] at hn;exact ⟨hs.1,hs.2.1,hs.2.2.1,Du cs hs.2.2.2 hn.2⟩
theorem Du:∀ (ts:List T),bJ w X ts->cq (ba ts)=true->bJ w (fun g k=>g=false/\X false k) ts
 | [],_,_=>by simp [bJ]
 | t::ts,hs,hn=>by
  simp only [bJ] at hs ⊢;simp only [ba,cq,Bh] at hn;exact ⟨aev t hs.1 hn.1,Du ts hs.2 hn.2⟩
end
end
theorem eh:∀ ds:List D,cq ds=ds.all cg
 | []=>rfl
 | d::ds=>by simp [cq,eh ds]
mutual
theorem PA:∀ d:D,cg d=true->iI false d=d
 | .sl none s n cs,h=>by
  simp only [cg,Bh] at h;simp only [iI];rw [vq cs h.2]
 | .sl (some g) s n cs,h=>by
  simp only [cg,Bh] at h;have hg:g=false:=by cases g with
   | false=>rfl
   | true=>exact absurd h.1 (by decide)
  subst hg;simp only [iI];rw [vq cs h.2]
 | .int _ _,_=>rfl
 | .bool _,_=>rfl
 | .str _,_=>rfl
 | .nil _,_=>rfl
 | .undef,_=>rfl
 | .hole _ _,_=>rfl
 | .ref ..,_=>rfl
 | .agg _,_=>rfl
 | .aM _,_=>rfl
 | .fn ..,_=>rfl
 | .ptr ..,_=>rfl
 | .cr ..,_=>rfl
 | .aZ _,_=>rfl
theorem vq:∀ ds:List D,cq ds=true->ej false ds=ds
 | [],_=>rfl
 | d::ds,h=>by
  simp only [cq,Bh] at h;simp only [ej];rw [PA d h.1,vq ds h.2]
end
def rz (b:Bool):D->D
 | .agg cs=>.agg (ej b cs)
 | d=>iI b d
theorem Fy (b:Bool) (vs:List D):hC b (.aM vs)=.aM (vs.map (rz b)):=by
 simp only [hC]
 congr 1
theorem Jt (d:D) (h:(ch d).all cg=true):hC false d=d:=by
 cases d with
 | agg cs=>simp only [hC]; rw [vq cs (by rw [eh]; exact h)]
 | aZ cs=>simp only [hC]; rw [vq cs (by rw [eh]; exact h)]
 | aM vs=>
  rw [Fy];have hx:∀ x∈vs,rz false x=id x:=by
   intro x hx;have hh:∀ y∈AD x,cg y=true:=fun y hy=>by
    refine aac.1 h y ?_;simp only [ch,xD,List.mem_flatMap];exact ⟨x,hx,hy⟩
   cases x with
   | agg cs=>simp only [rz]; rw [vq cs (by rw [eh]; exact aac.2 hh)]; rfl
   | _=>exact PA _ (hh _ (by simp [AD]))
  rw [afb hx,List.map_id]
 | _=>
  simp only [ch,dq,UL,aab,ae9] at h;exact PA _ h
theorem BM {w:World} {X:Bool->Nat->Prop} {b:Bool} {d:D} {u:Value} {ts:List T} (hf:fR d u ts) (hs:bJ w X ts):fR (rz b d) u (gD b ts):=by
 by_cases ha:∃ cs,d=.agg cs
 ·obtain ⟨cs,rfl⟩:=ha;obtain ⟨rfl,us,rfl,hu⟩:=hf;exact ⟨(vP b ts).symm,us,rfl,by rw [sS]; exact hu⟩
 ·have Vy:∃ t,ts=[t]/\d=t.er/\u=t.val:=by cases d<;>first | exact hf | exact absurd ⟨_,rfl⟩ ha
  obtain ⟨t,rfl,rfl,rfl⟩:=Vy;have h1:=(cj _).1 hs t (by simp)
  have hp:rz b t.er=iI b t.er:=by
   cases he:t.er<;>first | rfl | exact absurd ⟨_,he⟩ ha
  rw [hp,<- Dr b t,<- BL b t];have h2:∀ cs,(tQ b t).er≠.agg cs:=by
   intro cs;rw [Dr];cases he:t.er with
   | agg cs'=>exact absurd ⟨_,he⟩ ha
   | sl g s n cs'=>cases g<;>simp [iI]
   | _=>simp [iI]
  have h3:∀ d,(∀ cs,d≠.agg cs)->d=(tQ b t).er->fR d (tQ b t).val (gD b [t]):=fun d hn e=>by
   cases d<;>first | exact ⟨_,rfl,e,rfl⟩ | exact absurd rfl (hn _)
  exact h3 _ h2 rfl
theorem G2 {w:World} {X:Bool->Nat->Prop} {b:Bool}:∀ {ds:List D} {us:List Value} {ts:List T},tP ds us ts->bJ w X ts->tP (ds.map (rz b)) us (gD b ts)
 | [],us,ts,h,_=>by obtain ⟨rfl,rfl⟩:=h; exact ⟨rfl,rfl⟩
 | d::ds,us,ts,h,hs=>by
  obtain ⟨u,kG,t1,t2,rfl,rfl,h1,h2⟩:=h;rw [ea] at hs;exact ⟨u,kG,_,_,rfl,Dt b t1 t2,BM h1 hs.1,G2 h2 hs.2⟩
theorem LG {b:Bool} {d:D} (h1:∀ cs,d≠.aZ cs) (h2:∀ cs,d≠.aM cs):hC b d=rz b d:=by
 cases d<;>first | rfl | exact absurd rfl (h1 _) | exact absurd rfl (h2 _)
theorem aci {w:World} {X:Bool->Nat->Prop} {b:Bool} {r:D} {v:Value} {ts:List T} (hr:LF r v ts) (hs:bJ w X ts):LF (hC b r) v (gD b ts):=by
 by_cases hp:∃ cs,r=.aZ cs
 ·obtain ⟨cs,rfl⟩:=hp;obtain ⟨bk,Sn,rfl,rfl,rfl⟩:=hr;exact ⟨bk,gD b Sn,by simp [gD,sO,tQ,vo],(vP b Sn).symm,rfl⟩
 by_cases jW:∃ ds,r=.aM ds
 ·obtain ⟨ds,rfl⟩:=jW;obtain ⟨us,rfl,hf⟩:=hr;rw [Fy];exact ⟨us,rfl,G2 hf hs⟩
 have hf:fR r v ts:=by cases r<;>first | exact hr | exact absurd ⟨_,rfl⟩ hp | exact absurd ⟨_,rfl⟩ jW
 rw [LG (fun cs e=>hp ⟨cs,e⟩) (fun cs e=>jW ⟨cs,e⟩)];have h2:=BM (b:=b) hf hs;have h3:(∀ cs,rz b r≠.aZ cs)/\∀ cs,rz b r≠.aM cs:=by
  cases r with
  | aZ cs=>exact absurd ⟨_,rfl⟩ hp
  | aM cs=>exact absurd ⟨_,rfl⟩ jW
  | sl g s n cs=>cases g<;>simp [rz,iI]
  | _=>simp [rz,iI]
 have:∀ d,(∀ cs,d≠.aZ cs)->(∀ cs,d≠.aM cs)->fR d v (gD b ts)->LF d v (gD b ts):=fun d h4 h5 h6=>by
  cases d<;>first | exact h6 | exact absurd rfl (h4 _) | exact absurd rfl (h5 _)
 exact this _ h3.1 h3.2 h2
theorem Yn {w:World} {X:Bool->Nat->Prop} {b c:Bool} {o:D} {a a':Arg} (h:pk w c o a a') (hs:bJ w X a'.2):pk w c (hC b o) a (a'.1,gD b a'.2):=by
 cases c with
 | false=>
  simp only [pk] at h ⊢;rw [h]; rfl
 | true=>
  cases o with
  | aZ cs=>
   obtain ⟨h1,⟨bk,h2,h3⟩,h4⟩:=h;exact ⟨h1,⟨bk,h2,by simp only [vo,sS]; exact h3⟩,by rw [h4]; exact (vP b _).symm⟩
  | agg cs=>
   obtain ⟨h1,h2,h3,h4⟩:=h;exact ⟨h1,h2,by rw [h3]; exact (vP b _).symm,by simp only [sS]; exact h4⟩
  | aM vs=>
   obtain ⟨h1,h2,h3⟩:=h;rw [Fy];refine ⟨h1,h2,?_⟩;rcases h3 with ⟨h3,_⟩ | ⟨t,h3,h4,_⟩
   ·exact .inl ⟨by rw [h3]; rfl,by simp⟩
   ·rw [h3] at hs;exact absurd h4.symm ((sL ((cj _).1 hs t (by simp))).2.2 vs)
  | sl g s n cs=>
   obtain ⟨h1,h2,h3⟩:=h;cases g with
   | none=>
    refine ⟨h1,h2,?_⟩;rcases h3 with ⟨_,h3⟩ | ⟨t,h3,h4,h5⟩
    ·exact absurd rfl (h3 s n cs)
    ·exact .inr ⟨tQ b t,by rw [h3]; rfl,by rw [Dr,<- h4]; rfl,by simp only [ax,BL] at h5 ⊢; exact h5⟩
   | some g=>
    refine ⟨h1,h2,?_⟩;rcases h3 with ⟨h3,_⟩ | ⟨t,h3,h4,h5⟩
    ·exact .inl ⟨by rw [h3]; rfl,by simp [hC,iI]⟩
    ·exact .inr ⟨tQ b t,by rw [h3]; rfl,by rw [Dr,<- h4]; rfl,by simp only [ax,BL] at h5 ⊢; exact h5⟩
  | _=>
   obtain ⟨h1,h2,h3⟩:=h;refine ⟨h1,h2,?_⟩;rcases h3 with ⟨h3,_⟩ | ⟨t,h3,h4,h5⟩
   ·exact .inl ⟨by rw [h3]; rfl,by simp [hC,iI]⟩
   ·exact .inr ⟨tQ b t,by rw [h3]; rfl,by rw [Dr,<- h4]; rfl,by simp only [ax,BL] at h5 ⊢; exact h5⟩
theorem acj {w:World} {X X':Bool->Nat->Prop} {b:Bool} {d:D} {u:Value} {a:Arg} (h:LD w X true d u a) (hs:bJ w X a.2):LD w X' true (hC b d) u (a.1,gD b a.2):=by
 by_cases hp:∃ cs,d=.aZ cs
 ·obtain ⟨cs,rfl⟩:=hp;obtain ⟨bk,h1,h2,h3,h4,h5⟩:=h;refine ⟨bk,h1,fun e=>h2 ?_,by rw [h3]; exact (vP b _).symm,h4,by simp only [vo,sS]; exact h5⟩
  have:=congrArg List.length e;simp only [vo,abx] at this;exact aa8.1 this
 ·have hf:a.1=none/\fR d u a.2:=by cases d<;>first | exact h | exact absurd ⟨_,rfl⟩ hp
  have jW:∀ vs,d≠.aM vs:=by
   rintro vs rfl;obtain ⟨t,e1,e2,_⟩:=hf.2;rw [e1] at hs;exact (sL ((cj _).1 hs t (by simp))).2.2 vs e2.symm
  rw [LG (fun cs e=>hp ⟨cs,e⟩) jW];have h2:=BM (b:=b) hf.2 hs;have h3:∀ cs,rz b d≠.aZ cs:=by
   cases d with
   | aZ cs=>exact absurd ⟨_,rfl⟩ hp
   | sl g s n cs=>cases g<;>simp [rz,iI]
   | _=>simp [rz,iI]
  have:∀ d,(∀ cs,d≠.aZ cs)->fR d u (gD b a.2)->LD w X' true d u (a.1,gD b a.2):=fun d h4 h6=>by
   cases d<;>first | exact ⟨hf.1,h6⟩ | exact absurd rfl (h4 _)
  exact this _ h3 h2
theorem jN:∀ as9:List Arg,(bE as9).Perm (as9.filterMap Prod.fst++ai (cZ as9))
 | []=>.refl _
 | (bx,ts)::as9=>by
  have ih:=jN as9;have h1:cZ ((bx,ts)::as9)=ts++cZ as9:=by simp [cZ]
  rw [h1,bd];simp only [bE,uW];refine abl.2 fun a=>?_;have:=abl.1 ih a;cases bx<;>simp only [abf,Option.toList,abD,List.count_cons,List.count_nil] at this ⊢<;>omega
theorem oA (as9:List Arg):(ai (cW as9)).Perm (ai (cZ as9)):=by
 refine Fq ?_
 induction as9 with
 | nil=>exact .refl _
 | cons a as9 ih=>
  rw [ry];have:cZ (a::as9)=a.2++cZ as9:=by simp [cZ]
  rw [this];exact (ae0).trans (abQ _ ih)
theorem ld {as9:List Arg} {k:Nat}:k∈bE as9↔k∈as9.filterMap Prod.fst∨k∈ai (cW as9):=by
 rw [(jN as9).mem_iff,tD,(oA as9).mem_iff]
def tR (b:Bool) (a:Arg):Arg:=(a.1,gD b a.2)
theorem qJ (b:Bool):∀ as9:List Arg,bE (as9.map (tR b))=bE as9
 | []=>rfl
 | a::as9=>by simp only [aaM,bE,qJ b as9,uW,tR,vQ]
theorem LH (b:Bool):∀ as9:List Arg,cZ (as9.map (tR b))=gD b (cZ as9)
 | []=>rfl
 | a::as9=>by
  have h1:cZ (a::as9)=a.2++cZ as9:=by simp [cZ]
  have h2:cZ ((a::as9).map (tR b))=(gD b a.2)++cZ (as9.map (tR b)):=by simp [cZ,tR]
  rw [h1,h2,Dt,LH b as9]
theorem yc {w:World} {X:Bool->Nat->Prop} {as9:List Arg}:bJ w X (cZ as9)↔∀ a∈as9,bJ w X a.2:=by
 rw [cj];simp only [cZ,aeJ,aam];constructor
 ·intro h a ha;rw [cj];exact fun t ht=>h t ⟨_,⟨a,ha,rfl⟩,ht⟩
 ·rintro h t ⟨l,⟨a,ha,rfl⟩,ht⟩;exact (cj _).1 (h a ha) t ht
theorem vR {w:World} {X:Bool->Nat->Prop} {as9:List Arg}:bJ w X (cW as9)↔∀ a∈as9,bJ w X a.2:=by
 rw [cj];simp only [cW,aeJ,List.mem_reverse,aam];constructor
 ·intro h a ha;rw [cj];exact fun t ht=>h t ⟨_,⟨a,ha,rfl⟩,ht⟩
 ·rintro h t ⟨l,⟨a,ha,rfl⟩,ht⟩;exact (cj _).1 (h a ha) t ht
theorem PB {w':World} {c b:Bool} {o:D} {a a':Arg} (h:pk w' c o (tR b a) a'):pk w' c o a a':=by
 cases c with
 | false=>exact h
 | true=>
  cases o<;>(simp only [pk,tR,sS] at h ⊢; exact h)
theorem uX {w:World} {S:List (Nat × RT)}:∀ {b:List Bool} {ds gG:List D} {us:List Value} {as9:List Arg},tO w S b ds gG us as9->∀ bk∈as9.filterMap Prod.fst,∃ r R,lk S r=some R/\R.box=some bk/\R.cs=[]
 | _,[],_,_,_,h,bk,hb=>by obtain ⟨_,_,rfl⟩:=h; simp at hb
 | b,d::ds,gG,us,as9,h,bk,hb=>by
  obtain ⟨d1,zO,u,kG,a,cy,rfl,rfl,rfl,h1,h2⟩:=h;obtain ⟨bx,ts⟩:=a;cases bx with
  | none=>simp only [abf] at hb; exact uX h2 bk hb
  | some Pt=>
   simp only [abf,aap] at hb;rcases hb with rfl | hb
   ·cases tN:b.headD false with
    | false=>rw [tN] at h1; simp [ru] at h1
    | true=>
     rw [tN] at h1;cases d1 with
     | aZ cs=>
      obtain ⟨r,b2,_,e2,e3,_⟩:=h1;simp only [jf] at e2;subst e2;exact ⟨r,_,e3,rfl,rfl⟩
     | _=>simp [ru] at h1
   ·exact uX h2 bk hb
theorem EJ (b:List Bool) (d:D) (ds:List D):fF b (d::ds)=((b.headD false&&!((ch d).all cg))||fF b.tail ds):=rfl
theorem VB {w:World} {S:List (Nat × RT)} {X:Bool->Nat->Prop} {d d1:D} {u:Value} {a:Arg} (h:ru w S true d d1 u a):LD w X true d1 u a:=by
 cases d1 with
 | aZ cs=>obtain ⟨r,b,_,e2,e3,e4,e5,e6,e7⟩:=h; exact ⟨b,e2,e4,e5,e6,e7⟩
 | _=>exact ⟨h.1,h.2.1⟩
theorem LI {w:World} {X X1:Bool->Nat->Prop} {d:D} {u:Value} {a:Arg} (h:LD w X true d u a) (hs:bJ w X1 a.2):ch d=ba a.2:=by
 by_cases hp:∃ cs,d=.aZ cs
 ·obtain ⟨cs,rfl⟩:=hp;obtain ⟨b,_,_,e,_⟩:=h;exact e
 ·have hf:fR d u a.2:=by cases d<;>first | exact h.2 | exact absurd ⟨_,rfl⟩ hp
  have:ch d=dq d:=by cases d<;>first | rfl | exact absurd ⟨_,rfl⟩ hp
  rw [this,sQ hs hf,qj hf]
section
variable {C:Ctx} {w:World} {st aQ:St} {aI:List (Array Value)} {S S1:List (Nat × RT)}
theorem PC {Hs:List T} (h:Rel C Hs w aQ aI S1) {X':Bool->Nat->Prop} (hX:∀ b k,ah C w S1 Hs b k->X' b k) (hF:∀ r R k,lk S1 r=some R->R.cs≠[]->k∈R.ft->X' true k):
  ∀ {b:List Bool} {ds gG uE:List D} {us:List Value} {as9:List Arg},tO w S1 b ds gG us as9->cm (cx w (ah C w S1 Hs) S1) ds us->vA aQ b gG=some uE->(∀ a∈as9,bJ w (ah C w S1 Hs) a.2)->uB w X' b (kt b uE) us (as9.map (tR false))/\(fF b uE=false->kt b uE=uE/\∀ a∈as9,cq (ba a.2)=true)
 | b,[],gG,uE,us,as9,h1,h2,h3,_=>by
  obtain ⟨rfl,rfl,rfl⟩:=h1;simp only [vA,jf] at h3;subst h3;exact ⟨⟨rfl,rfl⟩,fun _=>⟨rfl,by simp⟩⟩
 | b,d::ds,gG,uE,us,as9,h1,h2,h3,h4=>by
  obtain ⟨d1,zO,u,kG,a,cy,rfl,rfl,rfl,g1,g2⟩:=h1;cases h2 with
  | cons LJ h22=>
  simp only [vA] at h3;split at h3
  case h_2=>simp at h3
  rename_i d2 pf;split at h3
  case h_2=>simp at h3
  rename_i Ju ajd;simp only [jf] at h3;subst h3;obtain ⟨k1,k2⟩:=PC h hX hF g2 h22 ajd (fun a ha=>h4 a (by simp [ha]))
  have hs:=h4 a (by simp)
  cases hb:b.headD false with
  | false=>
   rw [hb] at g1 pf;obtain ⟨rfl,rfl⟩:=g1;simp only [aai,if_false] at pf;refine ⟨⟨u,kG,(none,[]),_,rfl,rfl,?_,k1⟩,fun hl=>?_⟩
   ·rw [hb];simp only [aai,if_false];exact ⟨rfl,fun S'=>aeq h hX hF LJ pf S'⟩
   ·rw [EJ,hb] at hl;simp only [abL,Bool.false_or] at hl;obtain ⟨e1,e2⟩:=k2 hl;refine ⟨by simp only [kt,hb,aai,if_false]; rw [e1],fun x hx=>?_⟩
    simp only [aap] at hx;rcases hx with rfl | hx
    ·rfl
    ·exact e2 x hx
  | true=>
   rw [hb] at g1 pf;simp only [if_true,jf] at pf;subst pf;have lU:=VB (X:=ah C w S1 Hs) g1;refine ⟨⟨u,kG,tR false a,_,rfl,rfl,?_,k1⟩,fun hl=>?_⟩
   ·rw [hb];simp only [if_true];exact acj lU hs
   ·rw [EJ,hb] at hl;simp only [abU,abF,afq] at hl;obtain ⟨e1,e2⟩:=k2 hl.2;refine ⟨by simp only [kt,hb,if_true]; rw [e1,Jt _ hl.1],fun x hx=>?_⟩
    simp only [aap] at hx;rcases hx with rfl | hx
    ·rw [eh,<- LI lU hs]; exact hl.1
    ·exact e2 x hx
theorem Yo {w':World} {b:Bool} {d d1 o:D} {u:Value} {a a':Arg} (g1:ru w S1 b d d1 u a) (g3:pk w' b o a a'):(a'.1=a.1)/\∀ bk,a.1=some bk->lR w' bk 0 0 []:=by
 cases b with
 | false=>
  obtain ⟨rfl,_⟩:=g1;simp only [pk] at g3;rw [g3];exact ⟨rfl,by simp⟩
 | true=>
  have fv:∀ {bk n us},lR w' bk 0 n us->lR w' bk 0 0 []:=fun ⟨c,e,fz,q1,q2,q3,q4⟩=>⟨c,e,fz,q1,q2,by omega,by simp⟩
  cases o with
  | aZ cs=>
   obtain ⟨e1,⟨bk,e2,e3⟩,_⟩:=g3;refine ⟨e1,fun Pt e=>?_⟩;rw [e2,jf] at e;subst e;exact fv e3
  | _=>exact ⟨g3.2.1.trans g3.1.symm,fun bk e=>by rw [g3.1] at e; simp at e⟩
theorem PD {w':World}:∀ {b:List Bool} {ds gG:List D} {us:List Value} {as9 cy:List Arg} {os:List D},tO w S1 b ds gG us as9->mS w' b os (as9.map (tR false)) cy->
  cy.filterMap Prod.fst=as9.filterMap Prod.fst/\∀ bk∈as9.filterMap Prod.fst,lR w' bk 0 0 []
 | b,[],gG,us,as9,cy,os,h1,h3=>by
  obtain ⟨rfl,rfl,rfl⟩:=h1;simp only [List.map_nil,mS] at h3;obtain ⟨rfl,rfl⟩:=h3;exact ⟨rfl,by simp⟩
 | b,d::ds,gG,us,as9,cy,os,h1,h3=>by
  obtain ⟨d1,zO,u,kG,a,BI,rfl,rfl,rfl,g1,g2⟩:=h1;simp only [aaM,mS] at h3;obtain ⟨o,yD,a',Pu,rfl,rfl,g3,g4⟩:=h3;obtain ⟨k2,k3⟩:=PD g2 g4;have aex:=Yo g1 (PB g3);refine ⟨by simp only [abf,aex.1,k2],fun bk vS=>?_⟩
  simp only [abf] at vS;cases ha:a.1 with
  | none=>rw [ha] at vS; exact k3 bk vS
  | some b2=>
   rw [ha] at vS;simp only [aap] at vS;rcases vS with rfl | vS
   ·exact aex.2 _ ha
   ·exact k3 bk vS
theorem LK {w':World} {X:Bool->Nat->Prop} {t:Bool} {Xo:Bool->Nat->Prop}:∀ {b:List Bool} {ds gG:List D} {us:List Value} {as9 cy:List Arg} {os:List D},tO w S1 b ds gG us as9->cm (cx w' X S1) ds us->mS w' b os (as9.map (tR false)) cy->(∀ a∈cy,bJ w' Xo a.2)->
  yE w' X S1 id b ds us (os.map (hC t)) as9 (cy.map (tR t))
 | b,[],gG,us,as9,cy,os,h1,h2,h3,_=>by
  obtain ⟨rfl,rfl,rfl⟩:=h1;simp only [List.map_nil,mS] at h3;obtain ⟨rfl,rfl⟩:=h3;exact ⟨rfl,rfl,rfl,rfl⟩
 | b,d::ds,gG,us,as9,cy,os,h1,h2,h3,h4=>by
  obtain ⟨d1,zO,u,kG,a,BI,rfl,rfl,rfl,g1,g2⟩:=h1;cases h2 with
  | cons LJ h22=>
  simp only [aaM,mS] at h3;obtain ⟨o,yD,a',Pu,rfl,rfl,g3,g4⟩:=h3;have g3:=PB g3;have k1:=LK (t:=t) g2 h22 g4 (fun a ha=>h4 a (by simp [ha]))
  have hs:=h4 a' (by simp)
  refine ⟨u,kG,hC t o,_,a,BI,tR t a',_,rfl,rfl,rfl,rfl,?_,k1⟩
  ·cases hb:b.headD false with
   | false=>
    rw [hb] at g3;simp only [pk] at g3;simp only [aai,if_false];rw [g3]; rfl
   | true=>
    rw [hb] at g1 g3;simp only [if_true];have cO:cm (fun x v=>bD w' X S1 (id x) v) (cellsOf d) (hL d u):=by
     by_cases ew:∃ cs,d=.agg cs
     ·obtain ⟨cs,rfl⟩:=ew;obtain ⟨vs,rfl,hv⟩:=LJ;exact hv
     ·have hnf:(∀ f cs,d≠.fn f cs)/\∀ ds,d≠.aM ds:=by
       cases d1 with
       | aZ cs=>obtain ⟨r,_,e,_⟩:=g1; subst e; simp
       | _=>exact g1.2.2.2.2.2
      have h1:cellsOf d=[d]:=by cases d<;>first | rfl | exact absurd ⟨_,rfl⟩ ew
      have h2:hL d u=[u]:=by cases d<;>first | rfl | exact absurd ⟨_,rfl⟩ ew
      rw [h1,h2];refine .cons ?_ .nil;rcases xm LJ with ⟨ds,_,e,_⟩ | ⟨_,LJ⟩
      ·exact absurd e (hnf.2 ds)
      ·rcases tI LJ with ⟨cs,_,e,_⟩ | ⟨f,cs,_,e,_⟩ | ⟨_,_,LJ⟩
       ·exact absurd ⟨cs,e⟩ ew
       ·exact absurd e (hnf.1 f cs)
       ·exact LJ
    refine ⟨cO,Yn g3 hs,fun e=>?_,fun bx e=>?_⟩
    ·cases d1 with
     | aZ cs=>obtain ⟨r,b2,_,e2,_⟩:=g1; rw [e] at e2; simp at e2
     | _=>exact ⟨g1.2.2.1,g1.2.2.2.1⟩
    ·cases d1 with
     | aZ cs=>
      obtain ⟨r,b2,e1,e2,e3,_⟩:=g1;rw [e,jf] at e2;subst e2;exact ⟨r,_,e1,e3,rfl⟩
     | _=>rw [g1.1] at e; simp at e
end
end Go.Proofs.YtckkpgcnhdllgaaGreat
