/- What the proof of FnExactHold stands on, part 2: an abstract machine on plain data, its soundness, and the contracts of functions. -/
import Derived.Lib.AppendZerosOnto
import Derived.Laws.BytesString
import Derived.Laws.Small
import Derived.Laws.Runes
import Derived.Test.YtckkpgcnhdllgaaGreatMa
set_option linter.all false
set_option linter.unusedSimpArgs false
set_option linter.unusedVariables false
set_option linter.unnecessarySimpa false
set_option linter.unusedSectionVars false
namespace Go.Proofs.YtckkpgcnhdllgaaGreat
def gM (d:D) (u:Value):List Value:=
 match d with
 | .agg _=>u.cells.toList
 | _=>[u]
section
variable {C:Ctx} {Hx:List T} {w:World} {aJ:List (Array Value)}
theorem Ua {w':World} {S S':List (Nat × RT)} {H H':List T} (h:hM C w w' S S' H H' id) {d:D} {u:Value} (hd:ck w (af C w S H) S d u):ck w' (af C w' S' H') S' d u:=pS h hd
theorem qB {H:List T} {st st':St} {S:List (Nat × RT)} {d:D} {u:Value} {ds':List D} (h:Rel C H w st aJ S) (hd:ck w (af C w S H) S d u) (ht:re st (cellsOf d)=some (ds',st')):
  ∃ ts S',Rel C (ts++H) w st' aJ S'/\aX ts=ds'/\ax ts=gM d u/\hM C w w S S' H (ts++H) id/\pU S S'/\lP st st':=by
 by_cases ha:∃ cs,d=.agg cs
 ·obtain ⟨cs,rfl⟩:=ha;obtain ⟨us,rfl,hu⟩:=hd;exact EN h hu ht
 ·have hc:cellsOf d=[d]:=by cases d<;>first | rfl | exact absurd ⟨_,rfl⟩ ha
  have hv:gM d u=[u]:=by cases d<;>first | rfl | exact absurd ⟨_,rfl⟩ ha
  rw [hc] at ht;rw [hv];have sL:bp w (af C w S H) S d u:=by
   cases d<;>first | exact hd | (simp [re,iS] at ht; done) | exact absurd ⟨_,rfl⟩ ha
  exact EN h (.cons sL .nil) ht
theorem ER:∀ {ps:List (Nat × D)} {us:List (Nat × Value)} {H:List T} {st st':St} {S:List (Nat × RT)} {Zq:List (Nat × List D)},Rel C H w st aJ S->bZ (fun p q=>q.1=p.1/\ck w (af C w S H) S p.2 q.2) ps us->rE st ps=some (Zq,st')->
  ∃ (pV:List (Nat × List T)) (S':List (Nat × RT)),Rel C (pV.flatMap (·.2)++H) w st' aJ S'/\pV.map (fun p=>(p.1,p.2.map T.er))=Zq/\bZ (fun (p:Nat × D) (q:(Nat × List T) × (Nat × Value))=>q.2.1=q.1.1/\q.1.2.map T.val=gM p.2 q.2.2) ps (pV.zip us)/\pV.length=us.length/\hM C w w S S' H (pV.flatMap (·.2)++H) id/\pU S S'/\lP st st':=by
 intro ps
 induction ps with
 | nil=>
  intro us H st st' S Zq h hu ht;cases hu;simp only [rE,mN,sF] at ht;obtain ⟨rfl,rfl⟩:=ht;exact ⟨[],S,h,rfl,.nil,rfl,fun _ _ h=>h,pU.refl _,lP.refl _⟩
 | cons p ps ih=>
  intro us H st st' S Zq h hu ht;cases hu with
  | cons sS Cp=>
  rename_i q qs;obtain ⟨i,d⟩:=p;obtain ⟨j,u⟩:=q;obtain ⟨rfl,sS⟩:=sS;simp only [rE] at ht;split at ht
  case h_2=>simp at ht
  rename_i d1 aP h1;split at ht
  case h_2=>simp at ht
  rename_i gn cj h2;simp only [mN,sF] at ht;obtain ⟨rfl,rfl⟩:=ht;obtain ⟨ts,S1,a1,rfl,a3,a4,a5,a6⟩:=qB h sS h1;obtain ⟨pV,S2,b1,rfl,b3,b4,b5,b6,b7⟩:=ih a1 (Cp.mono (fun _ _ hh=>⟨hh.1,Ua a4 hh.2⟩)) h2;have hp:(pV.flatMap (·.2)++(ts++H)).Perm (((j,ts)::pV).flatMap (·.2)++H):=by
   simp only [adL];rw [<- acz];exact List.Perm.append_right _ agY
  refine ⟨(j,ts)::pV,S2,b1.perm hp,by simp [eO],.cons ⟨rfl,by rw [<- cz]; exact a3⟩ b3,by simp [b4],fun d u hd=>?_,a5.trans b6,lP.trans a6 b7⟩
  have:=b5 _ _ (a4 d u hd)
  rwa [Aj hp] at this
end
theorem RV {w:World} {X:Bool->Nat->Prop}:∀ {pV:List (Nat × List T)} {ps:List (Nat × D)} {us:List (Nat × Value)},bZ (fun (p:Nat × D) (q:(Nat × List T) × (Nat × Value))=>q.2.1=q.1.1/\q.1.2.map T.val=gM p.2 q.2.2) ps (pV.zip us)->pV.length=us.length->
  (∀ p∈pV,∀ t∈p.2,bA w X t/\cM t.er=true)->bZ (fun p q=>q.1=p.1/\q.2.cells.toList=p.2.map T.val) pV us:=by
 intro pV
 induction pV with
 | nil=>
  intro ps us h hl _;cases us with
  | nil=>exact .nil
  | cons u us=>simp at hl
 | cons p pV ih=>
  intro ps us h hl hs;cases us with
  | nil=>simp at hl
  | cons u us=>
   simp only [List.zip_cons_cons] at h;cases h with
   | cons h1 h2=>
   rename_i d ds;obtain ⟨e1,e2⟩:=h1;refine .cons ⟨e1,?_⟩ (ih h2 (by simpa using hl) (fun q hq=>hs q (by simp [hq])))
   simp only at e2;rw [e2];obtain ⟨j,d⟩:=d;by_cases ha:∃ cs,d=.agg cs
   ·obtain ⟨cs,rfl⟩:=ha;rfl
   ·have hv:gM d u.2=[u.2]:=by cases d<;>first | rfl | exact absurd ⟨_,rfl⟩ ha
    simp only at hv ⊢;simp only [hv] at e2 ⊢;cases hp:p.2 with
    | nil=>rw [hp] at e2; simp at e2
    | cons t ts=>
     rw [hp] at e2;simp only [ac6,acS,List.map_eq_nil_iff] at e2;obtain ⟨e3,rfl⟩:=e2;obtain ⟨g1,g2⟩:=hs p (by simp) t (by simp [hp])
     have:=(mu g1 g2).2;rw [e3] at this;rw [this]
section
variable {P:Program} {c:cn} (aw:ey c P) {C:Ctx} {Hx:List T} {w:World} {st st':St} {a:Act} {aJ:List (Array Value)} {S:List (Nat × RT)} (h:Rel C Hx w st (a.tmps::aJ) S)
include aw h
theorem Ka {t e:TypeId} {ti ei:TI} (kB:c.ty t=some ti) (Zp:ti.ty=.slice e) (he:c.ty e=some ei) {n:Nat} {ps:Array (Nat × Operand)} (Ub:n*ei.size<=16777216/\n<=16777216) {pvs:List (Nat × List D)} {aP:St}
  (hp:rE st (ps.toList.map fun p=>(p.1,ch c st e p.2))=some (pvs,aP)) {cs:List D} (hf:mY cM (fun i=>some (i*ei.size,ei.size)) (fu n ei.zero) pvs=some cs)
  {d:Nat} (ht:d < a.tmps.size) (hP:∀ p∈C.P0,p.1≠st.of+d) (hr:aP.root (some d) [.sl none ei.size n cs] (fun d=>.ref d [] 0 none)=some st'):
  ∃ v w',(Instr.buildSlice t n (ps.map fun (i,x)=>(i,a.eval x))).run P w=.ok v w'/\dH w w'/\∃ S',Rel C Hx w' st' (a.tmps.setIfInBounds d v::aJ) S':=by
 have hn:=Ub.1;have fP:mb w (af C w S Hx) S st.tm a.tmps:=by cases h.ov with | cons a _=>exact a
 obtain ⟨inf,h1,h2,h3,z,h4,h5⟩:=(aw.ty _ _ he).info;have zp:=(aw.ty _ _ he).len;obtain ⟨dd,g1,g2⟩:=(aw.ty _ _ kB).desc;rw [Zp] at g2;simp only [ly] at g2;subst g2;have dM:bZ (fun p q=>q.1=p.1/\ck w (af C w S Hx) S p.2 q.2) (ps.toList.map fun p=>(p.1,ch c st e p.2)) (ps.toList.map fun p=>(p.1,a.eval p.2)):=by
  refine dk (by simp) (fun i x y hx hy=>?_)
  simp only [adp] at hx hy;cases hq:ps.toList[i]? with
  | none=>simp [hq] at hx
  | some q=>
   simp only [hq,MD,mN] at hx hy;subst hx; subst hy;exact ⟨rfl,vV (c:=c) fP e q.2⟩
 obtain ⟨pV,S1,b1,rfl,b3,b4,b5,b6,b7⟩:=ER h dM hp;have W5:=Jd hf;obtain ⟨zt,f1,f2,f3,f4⟩:=v7 h5 n;rw [<- f1,eO] at hf;obtain ⟨cs',k1,k2⟩:=QP T.er hf;have du:=((dV _ _).1 b1.mem.hand).1;rw [bY] at du;have gL:=RV (X:=af C w S1 (pV.flatMap (·.2)++Hx)) b3 b4 (fun p hp t ht=>⟨du t (List.mem_flatMap.2 ⟨p,hp,ht⟩),W5 (p.1,p.2.map T.er) (acv.2 ⟨p,hp,rfl⟩) t.er (acv.2 ⟨t,ht,rfl⟩)⟩);have ke:z.cells.size=ei.size:=by rw [<- zp,h5.len]; simp
 have ahg:((Array.range (n*inf.size)).map (z.cells[· % z.cells.size]!)).toList=zt.map T.val:=by
  rw [<- cz,f2,h2,<- ke,<- v8];simp
 obtain ⟨arr,m1,m2⟩:=EO T.val (arr:=(Array.range (n*inf.size)).map (z.cells[· % z.cells.size]!)) gL k1 ahg;have eD:(Instr.buildSlice t n (ps.map fun (i,x)=>(i,a.eval x))).run P w=.ok (.slice (some ⟨w.heap.size,0,none⟩) n n) (w.alloc (.cells arr e)):=by
  have hl:(ps.map fun (i,x)=>(i,a.eval x)).toList=ps.toList.map fun p=>(p.1,a.eval p.2):=by simp
  by_cases h0:n*inf.size=0
  ·have oS:=m1;rw [h0] at oS;rw [<- hl,<- h2] at oS;simp only [Array.range_zero',Array.map_empty] at oS;simp [Instr.buildSlice,run_underlying g1,sizeOf,typeInfo,h1,h0,newRow,Array.range_zero'];simp at oS;rw [oS];simp
  ·rw [<- hl,<- h2] at m1;exact run_buildSlice w t e n _ arr inf z g1 h1 h4 (by rw [h2]; omega) h0 m1
 refine ⟨_,_,eD,(Grown.alloc w _).bB,?_⟩;have pW:aP.of=st.of:=b7.2.2;obtain ⟨q1,q2⟩:=Je k1;have hlen:cs'.length=n*ei.size:=by
  rw [q2];have:=congrArg List.length f2;rw [bK] at this;rw [this,agS,agV,agB,agy,ke]
 have RW:=RU k1 (by
  rw [f3,acw];have h9:=(zX.1 b1.mem.nd).2.1;rw [aY] at h9;exact (zX.1 h9).1)
 rw [f3] at RW;rw [<- k2,<- eO] at hr;refine G0 (Hs:=pV.flatMap (·.2)) (H:=Hx) b1 (Grown.alloc w _) (ts:=cs') ⟨acD _,by rw [iz]; omega⟩ ?_ (fun k hk=>by simpa using RW.2 k hk) RW.1 ⟨acD _,by have:=Ub.2; omega⟩ hlen ?_ ht (by rw [pW]; exact hP) hr
 ·rw [bY];intro x hx;rcases q1 x hx with h6 | ⟨p,h6,h7⟩
  ·exact (bY _).1 (f4 _ _) x h6
  ·exact du x (List.mem_flatMap.2 ⟨p,h6,h7⟩)
 ·have cI:arr.size=cs'.length:=by have:=congrArg List.length m2; simpa using this
  refine jy w _ _ (by rw [cI,hlen]; exact acD _) (fun j u hj=>?_)
  rw [<- agt,m2,<- cz];exact hj
theorem acy {e:TypeId} {x:Operand} {i:TI} (hlen:(cellsOf (ch c st e x)).length=i.size) (cF:(cellsOf (ch c st e x)).all (fO st)=true) {t:Nat} (ht:t < a.tmps.size) (hP:∀ p∈C.P0,p.1≠st.of+t)
  (hr:st.root (some t) (cellsOf (oR (cw (st.of+t)) (ch c st e x))) (fun d=>.ptr d [] 0)=some st'):
  ∃ v w',(Instr.box e (a.eval x)).run P w=.ok v w'/\dH w w'/\∃ S',Rel C Hx w' st' (a.tmps.setIfInBounds t v::aJ) S':=by
 have _:=aw;have fP:mb w (af C w S Hx) S st.tm a.tmps:=by cases h.ov with | cons a _=>exact a
 have hd:=vV (c:=c) fP e x;have dM:=Dh h.rt h.mem hd (ab9.1 cF);have eD:(Instr.box e (a.eval x)).run P w=.ok (.pointer (some ⟨w.heap.size,0,none⟩)) (w.alloc (.cells (a.eval x).cells e)):=by
  simp [Instr.box,newVar,newRow]
 refine ⟨_,_,eD,(Grown.alloc w _).bB,?_⟩;have ec:cellsOf (oR (cw (st.of+t)) (ch c st e x))=(cellsOf (ch c st e x)).map (cw (st.of+t)):=by
  by_cases ha:∃ cs,ch c st e x=.agg cs
  ·obtain ⟨cs,ha⟩:=ha;rw [ha]; rfl
  ·have hc:cellsOf (ch c st e x)=[ch c st e x]:=by cases hx:ch c st e x<;>first | rfl | exact absurd ⟨_,hx⟩ ha
   have ho:=ab9.1 cF (ch c st e x) (by rw [hc]; simp)
   rw [hc];cases hx:ch c st e x with
   | agg cs=>exact absurd ⟨_,hx⟩ ha
   | aG cs=>rw [hx] at ho; simp [fO,cM] at ho
   | fn f cs=>rw [hx] at ho; simp [fO,cM] at ho
   | aW cs=>rw [hx] at ho; simp [fO,cM] at ho
   | ref r q o y=>simp only [oR,fg,ac6,agZ,cw]; split<;>rfl
   | ptr r q o=>simp only [oR,fg,ac6,agZ,cw]; split<;>rfl
   | _=>rfl
 obtain ⟨l,e1,e2,e3⟩:=yD dM
 let ts:List T:=l.map fun p=>.v (cw (st.of+t) p.1) p.2
 have j9:∀ p∈l,bH (cw (st.of+t) p.1)=cw (st.of+t) p.1:=by
  intro p hp;have h2:=e3 p hp;obtain ⟨d,u⟩:=p;simp only at h2 ⊢;cases d with
  | sl g s n cs=>
   cases g with
   | none=>simp [bp,Ext] at h2
   | some g=>rfl
  | ref r q o y=>simp only [cw]; split<;>rfl
  | ptr r q o=>simp only [cw]; split<;>rfl
  | _=>rfl
 have ahh:aX ts=(cellsOf (ch c st e x)).map (cw (st.of+t)):=by
  rw [<- e1,eO];simp only [ts,age];refine ajw (fun p hp=>?_);simp only [Function.comp_apply,T.er];exact j9 p hp
 have gL:ax ts=(a.eval x).cells.toList:=by
  rw [<- e2,cz];simp only [ts,age];rfl
 have eG:ah ts=[]:=by
  rw [nr];simp only [ts,age];rw [List.flatten_eq_nil_iff];intro y hy;simp only [acv,Function.comp_apply] at hy;obtain ⟨p,_,rfl⟩:=hy;rfl
 rw [ec,<- ahh] at hr;refine G1 (Hs:=[]) h (Grown.alloc w _) (ts:=ts) ⟨acD _,by rw [iz]; omega⟩ (fun y hy=>.inr ?_) (by rw [eG]; simp) (by rw [eG]; simp) ?_ ht hP hr
 ·simp only [ts,acv] at hy;obtain ⟨p,hp,rfl⟩:=hy;exact ⟨p.1,p.2,rfl,e3 p hp⟩
 ·refine jy w _ _ ?_ (fun j u hj=>?_)
  ·have:=congrArg List.length gL;rw [bK] at this;rw [this]; simp
  ·rw [gL] at hj
   simpa using hj
theorem Uc {e:TypeId} {x:Operand} {i:TI} (hlen:(cellsOf (ch c st e x)).length=i.size) {ds:List D} {aP:St} (dA:re st (cellsOf (ch c st e x))=some (ds,aP)) (cF:ds.all cM=true) {t:Nat} (ht:t < a.tmps.size) (hP:∀ p∈C.P0,p.1≠st.of+t)
  (hr:aP.root (some t) ds (fun d=>.ptr d [] 0)=some st'):
  ∃ v w',(Instr.box e (a.eval x)).run P w=.ok v w'/\dH w w'/\∃ S',Rel C Hx w' st' (a.tmps.setIfInBounds t v::aJ) S':=by
 have _:=aw;have fP:mb w (af C w S Hx) S st.tm a.tmps:=by cases h.ov with | cons a _=>exact a
 have hd:=vV (c:=c) fP e x;obtain ⟨ts,S1,b1,rfl,b3,b4,b5,b6⟩:=qB h hd dA;have eD:(Instr.box e (a.eval x)).run P w=.ok (.pointer (some ⟨w.heap.size,0,none⟩)) (w.alloc (.cells (a.eval x).cells e)):=by
  simp [Instr.box,newVar,newRow]
 refine ⟨_,_,eD,(Grown.alloc w _).bB,?_⟩;have du:=((dV _ _).1 b1.mem.hand).1;rw [bY] at du;have gL:ax ts=(a.eval x).cells.toList:=by
  by_cases ha:∃ cs,ch c st e x=.agg cs
  ·obtain ⟨cs,ha⟩:=ha;rw [b3,ha]; rfl
  ·have hv:gM (ch c st e x) (a.eval x)=[a.eval x]:=by cases hx:ch c st e x<;>first | rfl | exact absurd ⟨_,hx⟩ ha
   rw [hv] at b3;rw [b3];cases ts with
   | nil=>simp [ax] at b3
   | cons y ys=>
    simp only [ax,acS] at b3;have:=mu (du y (by simp)) (ab9.1 cF y.er (by simp [aX]))
    rw [b3.1] at this;rw [this.2]
 refine G1 (Hs:=ts) b1 (Grown.alloc w _) (ts:=ts) ⟨acD _,by rw [iz]; omega⟩ (fun y hy=>.inl (du y hy)) (fun _ h=>h) (by
  have h9:=(zX.1 b1.mem.nd).2.1;rw [aY] at h9;exact (zX.1 h9).1) ?_ ht (by rw [b6.2.2]; exact hP) hr
 refine jy w _ _ ?_ (fun j u hj=>?_)
 ·have:=congrArg List.length gL;rw [bK] at this;rw [this]; simp
 ·rw [gL] at hj
  simpa using hj
end
theorem RX {q:List Nat}:∀ {p:Nat} {cs l:List T} {bx:Option Nat} {b off:Nat},bN bx cs (p::q)=some (b,off)->ay cs (p::q)=some l->(ah cs).Nodup->b∉ah l:=by
 induction q with
 | nil=>
  intro p cs l bx b off ha hc hn;rw [bN] at ha;rw [ay] at hc;cases hp:cs[p]? with
  | none=>simp [hp] at hc
  | some x=>
   cases x with
   | v d u=>simp [hp] at hc
   | own s n cap a xs=>
    simp only [hp,ay,mN] at hc ha;subst hc; subst ha;obtain ⟨A,B,e,_⟩:=dN cs p _ hp;rw [e] at hn;have:=(zX.1 (zX.1 hn).1).2.1;simp only [T.ft,fC,acE,acw,adW] at this;exact this.1
 | cons p' q ih=>
  intro p cs l bx b off ha hc hn;rw [bN] at ha;rw [ay] at hc;cases hp:cs[p]? with
  | none=>simp [hp] at hc
  | some x=>
   cases x with
   | v d u=>simp [hp] at hc
   | own s n cap a xs=>
    simp only [hp] at hc ha;refine ih ha hc ?_;obtain ⟨A,B,e,_⟩:=dN cs p _ hp;rw [e] at hn;have:=(zX.1 (zX.1 hn).1).2.1;simp only [T.ft] at this;exact (zX.1 this).2.1
theorem aaE {q:List Nat} {o:Nat} {t':T} {d:D} {u:Value}:∀ {cs cs':List T} {q':List Nat} {o':Nat} {l:List T},dG (fun l=>l.set o t') cs q=some cs'->under (q++[o]) (q'++[o'])=none->ay cs q'=some l->l[o']?=some (.v d u)->
  ∃ l',ay cs' q'=some l'/\l'[o']?=some (.v d u):=by
 induction q with
 | nil=>
  intro cs cs' q' o' l hm hu hc ho;simp only [dG,mN] at hm;subst hm;cases q' with
  | nil=>
   simp only [ay,mN] at hc;subst hc;simp only [acw,under] at hu;split at hu
   ·simp at hu
   ·rename_i cQ;exact ⟨_,rfl,by rw [acu cQ]; exact ho⟩
  | cons p q'=>
   simp only [acw,acE,under] at hu;split at hu
   ·simp at hu
   ·rename_i cQ;exact ⟨l,by rw [ay,acu cQ]; rw [ay] at hc; exact hc,ho⟩
 | cons p q ih=>
  intro cs cs' q' o' l hm hu hc ho;rw [dG] at hm;cases hp:cs[p]? with
  | none=>simp [hp] at hm
  | some x=>
   cases x with
   | v d u=>simp [hp] at hm
   | own s n cap a xs=>
    simp only [hp] at hm;cases hx:dG (fun l=>l.set o t') xs q with
    | none=>simp [hx] at hm
    | some kt=>
     simp only [hx,mN] at hm;subst hm;obtain ⟨cK,_⟩:=aaa.1 hp;cases q' with
     | nil=>
      simp only [ay,mN] at hc;subst hc;have cQ:p≠o':=fun e=>by subst e; rw [hp] at ho; simp at ho
      exact ⟨_,rfl,by rw [acu cQ]; exact ho⟩
     | cons p' q'=>
      by_cases EJ:p=p'
      ·subst EJ;simp only [acE,under,if_true] at hu;rw [ay,hp] at hc;obtain ⟨l',h1,h2⟩:=ih hx hu hc ho;exact ⟨l',by rw [ay,ac5 cK]; exact h1,h2⟩
      ·exact ⟨l,by rw [ay,acu EJ]; rw [ay] at hc; exact hc,ho⟩
theorem kA.M4 {S S':List (Nat × RT)} {r:Nat} {q:List Nat} {o:Nat} {t t':T} (hc:kA S S' r q o t t') {r':Nat} {q':List Nat} {o':Nat} (hf:r'≠r∨under (q++[o]) (q'++[o'])=none) {d:D} {u:Value} (h:cr S r' q' o'=some (.v d u)):cr S' r' q' o'=some (.v d u):=by
 by_cases he:r'=r
 ·subst he;have hf:under (q++[o]) (q'++[o'])=none:=by rcases hf with hf | hf<;>first | exact absurd rfl hf | exact hf
  obtain ⟨R,cs',l,h1,h2,h3,h4,rfl⟩:=hc.ex;unfold cr at h ⊢;rw [cx];rw [h1] at h;simp only at h ⊢;cases hx:ay R.cs q' with
  | none=>simp [hx] at h
  | some l'=>
   simp only [hx] at h;obtain ⟨l1,h5,h6⟩:=aaE h4 hf hx h;rw [h5];exact h6
 ·unfold cr at h ⊢;rw [hc.LQ he];exact h
theorem BH {g:D->D} {S:List (Nat × RT)} {r:Nat} {q:List Nat} {o:Nat} {t:T} (h:cr S r q o=some t):cr (fS g S) r q o=some (if q=[] then fT g t else t):=by
 unfold cr at h ⊢;rw [lD];cases hr:lk S r with
 | none=>simp [hr] at h
 | some R=>
  simp only [hr,MD] at h ⊢;cases q with
  | nil=>
   simp only [ay,if_true] at h ⊢;rw [adp,h]; rfl
  | cons p q=>
   rw [Dc]
   simpa using h
section
variable {C:Ctx} {H Hs:List T} {w w':World} {st aP cj:St} {aJ:List (Array Value)} {S S1 S':List (Nat × RT)}
theorem QQ (h:Rel C H w st aJ S) {g:D->D} (hg:lr g) (dT:∀ d u,bp w (af C w S H) S d u->bp w (af C w S H) (fS g S) (g d) u) (qv:∀ d u,Ext w (af C w S H) d u->Ext w (af C w S H) (fg g d) u) (ow:∀ d u,bp w (af C w S H) S d u->fg g d=g d):
  Rel C H w (st.eX g) aJ (fS g S)/\hM C w w S (fS g S) H H g:=by
 have Cu:af C w (fS g S) H=af C w S H:=by
  funext b k;simp only [af,tX]
 refine ⟨?_,fun d u hd=>by rw [Cu]; exact dT d u hd⟩
 refine h.step (f:=g) ?_ rfl rfl (fun d u hd=>by rw [Cu]; exact dT d u hd) ⟨by rw [tX]; exact h.mem.nd,?_,by rw [Cu]; exact h.mem.hand,by rw [tX]; exact h.mem.lt⟩
  ⟨h.kept.os,h.kept.tape,h.kept.output,h.kept.size,h.kept.block,by rw [tX]; exact h.kept.iD,?_⟩
 ·exact pD hg h.rt
 ·intro r R' dO;rw [lD] at dO;cases hx:lk S r with
  | none=>simp [hx] at dO
  | some R=>
   simp only [hx,MD,mN] at dO;subst dO;obtain ⟨k1,k2⟩:=h.mem.root r R hx;have hv:ax (R.cs.map (fT g))=ax R.cs:=by
    rw [cz,cz,age]
    congr 1
    funext t;cases t<;>rfl
   refine ⟨?_,fun t ht=>?_⟩
   ·simp only [aeR];rw [hv]; exact k1
   ·simp only [acv] at ht;obtain ⟨t0,kB,rfl⟩:=ht;have:=k2 t0 kB;rw [Cu];cases t0 with
    | own s n cap a xs=>exact this
    | v d u=>
     simp only [fT,jg] at this ⊢;rw [hg.leaf];rcases this with this | ⟨hb,this⟩
     ·exact .inl (qv _ _ this)
     ·exact .inr ⟨hb,by rw [ow _ _ this]; exact dT _ _ this⟩
 ·intro r b vs hm R' dO;rw [lD] at dO;cases hx:lk S r with
  | none=>simp [hx] at dO
  | some R=>
   simp only [hx,MD,mN] at dO;subst dO;have hv:ax (R.cs.map (fT g))=ax R.cs:=by
    rw [cz,cz,age]
    congr 1
    funext t;cases t<;>rfl
   have:=h.kept.par r b vs hm R hx;simp only;rw [hv]; exact this
end
section
variable {C:Ctx} {H Hs:List T} {w w':World} {st aP cj:St} {aJ:List (Array Value)} {S S1 S':List (Nat × RT)}
theorem BI {k:Nat} {ts:List T} {t:T} (ht:t∈ts) (hk:k∈t.ft):k∈ah ts:=by
 obtain ⟨i,hi⟩:=adA.1 ht;obtain ⟨A,B,e,_⟩:=dN ts i _ hi;rw [e]; simp [hk]
theorem Jg {q:List Nat} {k:Nat} {cs l:List T} (hc:ay cs q=some l) (hk:k∈ah l):k∈ah cs:=by
 obtain ⟨A,B,e,_⟩:=Ew hc;rw [e]; simp [hk]
theorem Cw {r k:Nat} {R:RT} (h:lk S r=some R) (hk:k∈R.ft):k∈cA S:=by
 obtain ⟨A,B,e,_⟩:=kv h;rw [e]; simp [hk]
theorem RY (hn:(cA S).Nodup) {r:Nat} {R:RT} (h:lk S r=some R):R.ft.Nodup:=by
 obtain ⟨A,B,e,_⟩:=kv h;rw [e] at hn;exact (zX.1 (zX.1 hn).1).2.1
structure Wr (C:Ctx) (w w':World) (S S':List (Nat × RT)) (H H':List T) (t1:T):Prop where
 stays:jo w w' (af C w S H) (af C w' S' H')
 sub:∀ k∈cA S'++ah H',k∈cA S++ah H
 nd:(cA S'++ah H').Nodup
 bB:∀ k∈t1.ft,af C w' S' H' false k/\w'.heap[k]?=w.heap[k]?
 new:∀ k∈ah H,w'.heap[k]?=w.heap[k]?
 kept:Kept C w' S' H'
theorem PE (h:Rel C (Hs++H) w st aJ S) {g:D->D} (hS:SR g S S1) {r:Nat} {q:List Nat} {o:Nat} {t0 t1 t':T} (hc:kA S1 S' r q o t1 t') (hgt:t1.ft=t0.ft) {R:RT} {l:List T} (hR:lk S r=some R) (hl:ay R.cs q=some l) (ho:l[o]?=some t0) {b off:Nat} (ha:bN R.box R.cs q=some (b,off))
  (Zr:ah Hs=t'.ft) {u:Value} (hu:QI w w' b (off+o) u) (cI:w'.heap.size=w.heap.size) (me:w'.os=w.os) (qx:w'.tape=w.tape) (rM:w'.output=w.output):Wr C w w' S S' (Hs++H) H t1:=by
 obtain ⟨A,B,e1,e2⟩:=hc.fts;rw [hS.iD] at e1;have eR:=h.mem.nd;have cK:=h.mem.lt;have Zs:b∈R.ft:=by
  cases q with
  | nil=>simp only [bN] at ha; cases hb:R.box with
   | none=>simp [hb] at ha
   | some b'=>simp only [hb,MD,mN,sF] at ha; simp [RT.ft,hb,ha.1]
  | cons p q=>simp [RT.ft,pC ha]
 have Co:b∈cA S:=Cw hR Zs;have eI:∀ k∈cA S'++ah H,k∈cA S++ah (Hs++H):=by
  intro k hk;rw [e2] at hk;rw [e1,aY,Zr];simp only [sE] at hk ⊢;rcases hk with ((hk | hk) | hk) | hk
  ·exact .inl (.inl (.inl hk))
  ·exact .inr (.inl hk)
  ·exact .inl (.inr hk)
  ·exact .inr (.inr hk)
 have acA:=eR;rw [e1,aY,Zr] at acA;have p1:(A++t1.ft++B++(t'.ft++ah H)).Perm (t1.ft++(A++t'.ft++B++ah H)):=by
  refine adV.2 fun a=>?_;simp only [agb];omega
 have ahi:=p1.nodup_iff.1 acA;obtain ⟨_,ahj,Zt⟩:=zX.1 ahi;have hbt:b∉t1.ft:=by
  rw [hgt];intro hb;have Ud:=RY (zX.1 eR).1 hR;have Zu:t0∈l:=aci ho;have Zm:b∈ah l:=BI Zu hb;cases q with
  | nil=>
   simp only [bN] at ha;simp only [ay,mN] at hl;subst hl;cases hx:R.box with
   | none=>simp [hx] at ha
   | some b'=>
    simp only [hx,MD,mN,sF] at ha;rw [RT.ft,hx] at Ud;simp only [Option.toList,acE,acw,adW] at Ud;exact Ud.1 (ha.1▸Zm)
  | cons p q=>
   rw [RT.ft] at Ud;exact RX ha hl (zX.1 Ud).2.1 Zm
 have cQ:∀ k,k≠b->w'.heap[k]?=w.heap[k]?:=by obtain ⟨_,_,_,_,_,h3⟩:=hu; exact h3
 have cu:jo w w' (af C w S (Hs++H)) (af C w' S' H):=by
  intro bb k hk;have M5:k≠b:=fun e=>hk.2.1 (e▸Co);refine ⟨⟨by rw [cI]; exact hk.1,fun hx=>?_,fun hx=>?_,hk.2.2.2⟩,cQ k M5⟩
  ·rcases sE.1 (eI k (sE.2 (.inl hx))) with h3 | h3
   ·exact hk.2.1 h3
   ·exact hk.2.2.1 h3
  ·rcases sE.1 (eI k (sE.2 (.inr hx))) with h3 | h3
   ·exact hk.2.1 h3
   ·exact hk.2.2.1 h3
 refine ⟨cu,eI,by rw [e2]; exact ahj,fun k hk=>?_,fun k hk=>?_,?_⟩
 ·have Jh:k∈cA S++ah (Hs++H):=by rw [e1]; simp [hk]
  refine ⟨⟨by rw [cI]; exact cK k Jh,fun hx=>?_,fun hx=>?_,fun _=>.inr (h.kept.iD k Jh)⟩,cQ k (fun e=>hbt (e▸hk))⟩
  ·rw [e2] at hx; exact Zt k hk k (sE.2 (.inl hx)) rfl
  ·exact Zt k hk k (sE.2 (.inr hx)) rfl
 ·exact cQ k (fun e=>by subst e; exact (zX.1 eR).2.2 k Co k hk rfl)
 ·refine ⟨by rw [me]; exact h.kept.os,by rw [qx]; exact h.kept.tape,by rw [rM]; exact h.kept.output,by rw [cI]; exact h.kept.size,fun k h1 h2=>?_,fun k hk=>h.kept.iD k (eI k hk),fun r1 bx vs hm R1 ES=>?_⟩
  ·rw [cQ k (fun e=>?_)]
   ·exact h.kept.block k h1 h2
   ·subst e;rcases h.kept.iD k (sE.2 (.inl Co)) with h3 | h3
    ·exact h2 h3
    ·omega
  ·obtain ⟨R2,cs',l2,g1,g2,g3,g4,rfl⟩:=hc.ex;by_cases he:r1=r
   ·subst he;rw [cx,mN] at ES;subst ES;obtain ⟨R3,k1,k2,k3,k4,k5⟩:=hS.rK g1;rw [hR,mN] at k1;subst k1;obtain ⟨m1,m2⟩:=h.kept.par r1 bx vs hm R hR;refine ⟨by simp only; rw [k2,m1],fun hb=>?_⟩
    cases q with
    | nil=>
     simp only [bN] at ha;rw [m1,hb] at ha;simp at ha
    | cons p q=>
     simp only;rw [(mj g4).1,k4];exact m2 hb
   ·rw [dE _ _ he] at ES;obtain ⟨R3,k1,k2,k3,k4,k5⟩:=hS.rK ES;obtain ⟨m1,m2⟩:=h.kept.par r1 bx vs hm R3 k1;exact ⟨by rw [k2,m1],fun hb=>by rw [k4]; exact m2 hb⟩
end
theorem ET (q:List Nat) (o:Nat):under (q++[o]) q=none:=by
 induction q with
 | nil=>rfl
 | cons p q ih=>simp only [acE,under,if_true]; exact ih
theorem Ji (r:Nat) (q:List Nat) (o:Nat) (e:Bool) (i:Nat):cq r q o e (.ptr r q i)=.ptr r q i:=by
 simp only [cq,if_true,ET]
theorem G3:lr id:=⟨fun _ _ _ _=>rfl,fun _ _=>rfl,fun _ h=>h⟩
theorem acB (d:D):fg id d=d:=by cases d<;>simp [fg]
theorem QR {α:Type} (f:α->α) (hf:∀ a,f a=a):∀ l:List (Nat × α),gd f l=l
 | []=>rfl
 | (k,v)::t=>by simp [gd,hf,QR f hf t]
theorem aaF {l:List (Nat × List D)} {S:List (Nat × RT)} (h:gC l S):gC l (fS id S):=by
 have:=pD G3 h
 rwa [QR] at this
 intro l;have:fg id=id:=funext acB;rw [this]; simp
theorem Zv {g:D->D} {S:List (Nat × RT)} {r:Nat} {q:List Nat} {o:Nat} {R:RT} {l:List T} {t0:T} (hR:lk S r=some R) (hl:ay R.cs q=some l) (ho:l[o]?=some t0):
  ∃ R1 l1 t1,lk (fS g S) r=some R1/\R1.box=R.box/\ay R1.cs q=some l1/\l1[o]?=some t1/\(t1=t0∨(q=[]/\t1=fT g t0))/\l1.length=l.length/\bN R1.box R1.cs q=bN R.box R.cs q/\R1.cs.length=R.cs.length:=by
 cases q with
 | nil=>
  simp only [ay,mN] at hl;subst hl;exact ⟨⟨R.box,R.cs.map (fT g)⟩,R.cs.map (fT g),fT g t0,by rw [lD,hR]; rfl,rfl,rfl,by simp [ho],.inr ⟨rfl,rfl⟩,by simp,rfl,by simp⟩
 | cons p q=>
  exact ⟨⟨R.box,R.cs.map (fT g)⟩,l,t0,by rw [lD,hR]; rfl,rfl,by simp only [Dc]; exact hl,ho,.inl rfl,rfl,QL g,by simp⟩
theorem kA.ahk {S S':List (Nat × RT)} {r:Nat} {q:List Nat} {o:Nat} {t t':T} (hc:kA S S' r q o t t') {l:List T} {R:RT} (hR:lk S r=some R) (hl:ay R.cs q=some l):
  ∃ R' l',lk S' r=some R'/\R'.box=R.box/\ay R'.cs q=some l'/\l'.length=l.length/\bN R'.box R'.cs q=bN R.box R.cs q:=by
 obtain ⟨R0,cs',l0,h1,h2,h3,h4,rfl⟩:=hc.ex;rw [h1,mN] at hR;subst hR;rw [h2,mN] at hl;subst hl;obtain ⟨l1,h5,h6⟩:=nt h4;rw [h2,mN] at h5;subst h5;exact ⟨⟨R0.box,cs'⟩,l0.set o t',cx _ _ _,rfl,h6,by simp,Go.Proofs.YtckkpgcnhdllgaaGreat.rI h4 (ET q o)⟩
structure Sto (S S':List (Nat × RT)) (r:Nat) (q:List Nat) (o:Nat) (t':T) (f:D->D):Prop where
 new:cr S' r q o=some t'
 ptr:∀ i,f (.ptr r q i)=.ptr r q i
 hole:∀ r' q' o' d0 u,(sn d0).isSome=true->bH d0=d0->cr S r' q' o'=some (.v d0 u)->(r'≠r∨under (q++[o]) (q'++[o'])=none)->cr S' r' q' o'=some (.v d0 u)
 path:∀ {R l},lk S r=some R->ay R.cs q=some l->∃ R' l',lk S' r=some R'/\R'.box=R.box/\ay R'.cs q=some l'/\l'.length=l.length/\bN R'.box R'.cs q=bN R.box R.cs q
section
variable {C:Ctx} {H Hs:List T} {w:World} {st aP cj:St} {aJ:List (Array Value)} {S:List (Nat × RT)}
theorem Am (h:Rel C (Hs++H) w st aJ S) {r:Nat} {q:List Nat} {o:Nat} {d:D} {t' t0:T} {R:RT} {l:List T} {f:D->D} (hR:lk S r=some R) (hl:ay R.cs q=some l) (ho:l[o]?=some t0) {b off:Nat} (ha:bN R.box R.cs q=some (b,off))
  (dQ:st.rf r q o d=some (aP,f)) (iv:aP.gI r q o t'.er=some cj) (cB:cM d=true)
  (G4:(Hs=[t']/\d=t'.er)∨(Hs=[]/\q=[]/\∃ u,t'=.v (f d) u/\bp w (af C w S (Hs++H)) S d u)):
  ∃ S',Rel C H (w.setCell ⟨b,off+o,none⟩ t'.val) cj aJ S'/\hM C w (w.setCell ⟨b,off+o,none⟩ t'.val) S S' (Hs++H) H f/\Sto S S' r q o t' f/\cj.of=st.of:=by
 have hold:st.cell r q o=some t0.er:=by rw [GX st S h.rt,C7 hR hl,ho]; rfl
 have Zr:ah Hs=t'.ft:=by
  rcases G4 with ⟨rfl,_⟩ | ⟨rfl,_,u,rfl,_⟩
  ·simp [ah]
  ·rfl
 have hq0:q=[]->R.box.isSome=true:=fun e=>by
  subst e;simp only [bN] at ha;cases hb:R.box with
  | none=>simp [hb] at ha
  | some b=>rfl
 obtain ⟨b',off',fj,eA,fo,WM,_⟩:=qp h.mem hR hl (fun e=>by subst e; simp at ho) hq0
 rw [ha] at eA;simp only [mN,sF] at eA;obtain ⟨rfl,rfl⟩:=eA;have Ue:o < l.length:=(aaa.1 ho).1;have W6:=aaD fo (o:=o) (by omega) t'.val
 generalize sT:w.setCell ⟨b,off+o,none⟩ t'.val=w' at W6 ⊢;have cI:w'.heap.size=w.heap.size:=by rw [<- sT]; simp [World.setCell]
 have me:w'.os=w.os:=by rw [<- sT]; rfl
 have qx:w'.tape=w.tape:=by rw [<- sT]; rfl
 have rM:w'.output=w.output:=by rw [<- sT]; rfl
 have fin:∀ g:D->D,lr g->(∀ d,g d=d∨(∃ r q o x,d=.ref r q o x)∨∃ r q o,d=.ptr r q o)->gC aP.rt (fS g S)->((aP.tm=gd (oR f) st.tm/\aP.up=st.up.map (gd (oR f)))∨(f=id/\aP.tm=st.tm/\aP.up=st.up))->aP.of=st.of->(∀ i,f (.ptr r q i)=.ptr r q i)->
   (∀ S' t1,kA (fS g S) S' r q o t1 t'->(t1=t0∨(q=[]/\t1=fT g t0))->Wr C w w' S S' (Hs++H) H t1->(∀ d u,bp w (af C w S (Hs++H)) S d u->bp w' (af C w' S' H) S' (f d) u)/\(∀ d u,bp w (af C w S (Hs++H)) S d u->bp w' (af C w' S' H) S' (g d) u))->
   ∃ S',Rel C H w' cj aJ S'/\hM C w w' S S' (Hs++H) H f/\Sto S S' r q o t' f/\cj.of=st.of:=by
  intro g hg EU W7 ahl Di ahm aeY;obtain ⟨R1,l1,t1,e1,e2,e3,e4,e5,e6,e7,_⟩:=Zv (g:=g) hR hl ho;obtain ⟨S',hc,RZ,R4,R5,Dj⟩:=Dd W7 e1 e3 e4 iv;have hgt:t1.ft=t0.ft:=by
   rcases e5 with rfl | ⟨_,rfl⟩
   ·rfl
   ·exact Zk g t0
  have m8:=PE h (RN hg S) hc hgt hR hl ho ha Zr W6 cI me qx rM;obtain ⟨Zw,qC⟩:=aeY S' t1 hc e5 m8;have dm:=h.mem.hand;rw [dV] at dm;have cW:Mem C w' S' H:=by
   refine T7 h.mem (g:=fg g) (RN hg S) hc hR (fun e=>?_) (fun _=>ha) W6 ?_ m8.stays m8.nd m8.sub (gv m8.stays _ dm.2 (fun k hk=>m8.new k (by rw [aY]; simp [hk]))) (fun d u hd=>by rw [uj hd]; exact qC d u hd) (fun d u hd=>?_) cI
   ·subst e;simp only [bN] at ha;cases hb:R.box with
    | none=>simp [hb] at ha
    | some b'=>simp only [hb,MD,mN,sF] at ha; exact ⟨by rw [ha.1],ha.2.symm⟩
   ·rcases G4 with ⟨rfl,_⟩ | ⟨rfl,rfl,u,rfl,hd⟩
    ·left
     have h1:=dm.1;simp only [bC] at h1;exact dL m8.stays _ h1.1 (fun k hk=>m8.new k (by rw [aY]; simp [ah,hk]))
    ·right
     have h2:=Zw d u hd;have h3:bH (f d)=f d:=by
      cases hx:f d with
      | sl g s n cs=>
       rw [hx] at h2;cases g with
       | none=>simp [bp,Ext] at h2
       | some g=>rfl
      | _=>rfl
     exact ⟨f d,u,rfl,rfl,by rw [h3]; exact h2⟩
   ·exact rL hg EU hd
  refine ⟨S',?_,Zw,⟨hc.Db,ahm,?_,?_⟩,Dj.trans Di⟩
  ·rcases ahl with ⟨h1,h2⟩ | ⟨rfl,h1,h2⟩
   ·exact h.step (f:=f) RZ (by rw [R4,h1]) (by rw [R5,h2]) Zw cW m8.kept
   ·exact h.rJ RZ (by rw [R4,h1]) (by rw [R5,h2]) Zw cW m8.kept
  ·intro r' q' o' d0 u h3 h4 h1 h2;refine hc.M4 h2 ?_;rw [BH h1];split
   ·simp only [fT,h4];cases d0<;>first | (simp [sn] at h3; done) | simp [fg,hg.hole,hg.sl]
   ·rfl
  ·intro R2 l2 h1 h2;rw [hR,mN] at h1;subst h1;rw [hl,mN] at h2;subst h2;obtain ⟨R',l',k1,k2,k3,k4,k5⟩:=hc.ahk e1 e3;exact ⟨R',l',k1,k2.trans e2,k3,k4.trans e6,k5.trans e7⟩
 unfold St.rf at dQ;rw [hold] at dQ;simp only [mN] at dQ;have hko:=yB r q o true;have dA:=mr r q o true;have R6:∀ S' t1,kA (fS (cq r q o true) S) S' r q o t1 t'->Wr C w w' S S' (Hs++H) H t1->∀ d u,bp w (af C w S (Hs++H)) S d u->bp w' (af C w' S' H) S' (cq r q o true d) u:=
  fun S' t1 hc m8 d u hd=>yy m8.stays hc (by simp) (qu dA hd)
 split at dQ
 ·rename_i hs;simp only [sF] at dQ;obtain ⟨rfl,rfl⟩:=dQ;refine fin (cq r q o true) dA hko ?_ (.inl ⟨rfl,rfl⟩) rfl (fun i=>?_) (fun S' t1 hc An m8=>⟨fun d u hd=>?_,R6 S' t1 hc m8⟩)
  ·exact pD dA h.rt
  ·simp only [uD]; exact Ji _ _ _ _ _
  ·have he:t1.er=t0.er:=by
    rcases An with rfl | ⟨_,rfl⟩
    ·rfl
    ·rw [LR dA];cases hx:t0.er<;>simp [hx,gr] at hs
     simp [fg,dA.sl]
   rw [<- he];obtain ⟨g0,s0,n0,cs0,gx⟩:∃ g s n cs,t0.er=.sl g s n cs:=by
    cases hx:t0.er<;>simp [hx,gr] at hs
    exact ⟨_,_,_,_,rfl⟩
   have du:=qq h.mem hR hl ho gx;have aeZ:bA w (af C w S (Hs++H)) t1:=by
    rcases An with rfl | ⟨_,rfl⟩
    ·exact du
    ·cases t0 with
     | own s n cap a xs=>exact du
     | v d0 u0=>
      simp only [T.er] at gx;simp only [bA,fT] at du ⊢;rw [dA.leaf,gx];rw [gx] at du
      simpa [fg,dA.sl] using du
   exact aaC m8.stays hc aeZ m8.bB (qu dA hd)
 ·rename_i hs;split at dQ
  ·simp only [sF] at dQ;obtain ⟨rfl,rfl⟩:=dQ;refine fin (cq r q o true) dA hko ?_ (.inl ⟨rfl,rfl⟩) rfl (fun i=>Ji _ _ _ _ _) (fun S' t1 hc An m8=>⟨R6 S' t1 hc m8,R6 S' t1 hc m8⟩);exact pD dA h.rt
  ·rename_i sU;simp only [sF] at dQ;obtain ⟨rfl,rfl⟩:=dQ;have dT:∀ S' t1,kA (fS id S) S' r q o t1 t'->Wr C w w' S S' (Hs++H) H t1->∀ d u,bp w (af C w S (Hs++H)) S d u->bp w' (af C w' S' H) S' (id d) u:=by
    intro S' t1 hc m8 d' u' sL;have j9:∃ d0 u0,t'=.v d0 u0/\sn (bH d0)=none:=by
     have M6:∀ x:D,cM x=true->gr x=false->sn (bH x)=none:=by
      intro x h1 h2;cases x<;>first | rfl | (exfalso; simp [cM] at h1; done) | (exfalso; simp [gr] at h2; done)
     rcases G4 with ⟨_,rfl⟩ | ⟨_,_,u,rfl,_⟩
     ·cases t' with
      | own s n cap a xs=>simp [T.er,gr] at sU
      | v d0 u0=>
       refine ⟨d0,u0,rfl,?_⟩;simp only [T.er] at sU cB;have:=M6 (bH d0) cB (by simpa using sU)
       rwa [Cn] at this
     ·exact ⟨_,_,rfl,M6 _ cB (by simpa using sU)⟩
    obtain ⟨d0,u0,rfl,hn⟩:=j9;exact MT m8.stays hc (.inl hn) (qu G3 sL)
   refine fin id G3 (fun _=>.inl rfl) (aaF h.rt) (.inr ⟨rfl,rfl,rfl⟩) rfl (fun _=>rfl) (fun S' t1 hc An m8=>⟨dT S' t1 hc m8,dT S' t1 hc m8⟩)
end
section
variable {P:Program} {w:World}
theorem oo {b off fj:Nat} {us:List Value} (hb:lx w b off fj us) {o:Nat} (ho:o < fj) {v:Value} (h1:v.oneCell'=true):(store ⟨b,off+o,none⟩ v).run P w=.ok () (w.setCell ⟨b,off+o,none⟩ v):=by
 obtain ⟨u,hu⟩:=EB hb ho;rw [run_store P w _ v _ h1,hu];simp [EA hb ho]
theorem M7 {b off:Nat} {v:Value} (h:w.cell? ⟨b,off,none⟩=some v):w.setCell ⟨b,off,none⟩ v=w:=by
 have hh:(w.setCell ⟨b,off,none⟩ v).heap=w.heap:=by
  apply Array.ext_getElem?;intro k;simp only [World.setCell,ago];split
  ·rename_i hk;subst hk;cases hx:w.heap[b]? with
   | none=>rfl
   | some ob=>
    cases ob with
    | cells c e fz=>
     simp only [World.cell?,hx] at h;simp only [MD,Option.isSome_none,acq,if_false]
     congr 2
     simp at h;apply Array.ext_getElem?;intro j;rw [agz];split
     ·rename_i hj;subst hj;split
      ·exact h.symm
      ·rename_i cK;rw [agr (by omega)] at h
       simp at h
     ·rfl
    | _=>rfl
  ·rfl
 have:w.setCell ⟨b,off,none⟩ v={ w with heap:=(w.setCell ⟨b,off,none⟩ v).heap }:=rfl
 rw [this,hh]
end
theorem M8 {S:List (Nat × RT)} {r':Nat} {q':List Nat} {o':Nat} {d0:D} {u0:Value} (h0:cr S r' q' o'=some (.v d0 u0)) {r:Nat} {q:List Nat} {o:Nat} {t:T} (h1:cr S r q o=some t) (r1:Nat) (q1:List Nat) (o1 i:Nat):
  rB r' q' o' r1 q1 o1 (.ptr r q i)=.ptr r q i/\cq r' q' o' true (.ptr r q i)=.ptr r q i:=by
 have yE:r=r'->under (q'++[o']) q=none:=by
  intro e;subst e;cases hu:under (q'++[o']) q with
  | none=>rfl
  | some y=>
   have:=jn hu;unfold cr at h0 h1;cases hr:lk S r with
   | none=>simp [hr] at h0
   | some R=>
    simp only [hr] at h0 h1;cases hc:ay R.cs q' with
    | none=>simp [hc] at h0
    | some l=>
     simp only [hc] at h0;rw [this,acz,aeg,EK hc h0] at h1;simp at h1
 simp only [rB,cq];by_cases e:r=r'
 ·simp only [if_pos e,yE e];exact ⟨trivial,trivial⟩
 ·simp only [if_neg e];exact ⟨trivial,trivial⟩
section
variable {C:Ctx} {Hx:List T} {H:List T} {w:World} {st:St} {aJ:List (Array Value)} {S:List (Nat × RT)}
theorem G5 (h:Rel C H w st aJ S) (r:Nat) (q:List Nat) (o:Nat) (e:Bool):Rel C H w (st.eX (cq r q o e)) aJ (fS (cq r q o e) S)/\hM C w w S (fS (cq r q o e) S) H H (cq r q o e):=by
 refine QQ h (mr r q o e) (fun d u hd=>?_) (fun d u hd=>rL (mr r q o e) (yB r q o e) hd) (fun d u hd=>uj hd);have h1:=qu (mr r q o e) hd;cases d with
 | ref r' q' o' x=>
  simp only [cq];split
  ·split
   ·exact h1
   ·split
    ·simp [bp,Ext]
    ·exact h1
   ·simp [bp,Ext]
  ·exact h1
 | ptr r' q' o'=>
  simp only [cq];split
  ·split
   ·exact h1
   ·simp [bp,Ext]
  ·exact h1
 | _=>exact h1
theorem Uf (r:Nat) (q:List Nat) (o r1:Nat) (q1:List Nat) (o1:Nat) (d:D):rB r q o r1 q1 o1 d=d∨(∃ r q o x,d=.ref r q o x)∨∃ r q o,d=.ptr r q o:=by
 cases d<;>first | exact .inl rfl | exact .inr (.inl ⟨_,_,_,_,rfl⟩) | exact .inr (.inr ⟨_,_,_,rfl⟩)
theorem M9 (h:Rel C H w st aJ S) {r':Nat} {q':List Nat} {o':Nat} {d0:D} {u0:Value} (h0:cr S r' q' o'=some (.v d0 u0)) {r:Nat} {q:List Nat} {o:Nat} {t:T} (h1:cr S r q o=some t) (hl:lq (.v d0 u0) t):
  Rel C H w (st.eX (rB r' q' o' r q o)) aJ (fS (rB r' q' o' r q o) S)/\hM C w w S (fS (rB r' q' o' r q o) S) H H (rB r' q' o' r q o):=by
 have fP:=Ah r' q' o' r q o;refine QQ h fP (fun d u hd=>?_) (fun d u hd=>rL fP (Uf r' q' o' r q o) hd) (fun d u hd=>uj hd);have h2:=qu fP hd;cases d with
 | ref r2 q2 o2 x=>
  simp only [rB];split
  ·rename_i e;subst e;split
   ·exact h2
   ·rename_i hu;have e1:=jn hu;simp only [acg] at e1;obtain ⟨rfl,e2⟩:=List.append_inj' e1 rfl;simp only [acS,and_true] at e2;subst e2;refine qu fP ?_;intro t2 QS;rw [h1,mN] at QS;subst QS;exact kz hl (hd _ h0)
   ·simp [bp,Ext]
  ·exact h2
 | ptr r2 q2 o2=>
  simp only [rB];split
  ·split
   ·exact h2
   ·simp [bp,Ext]
  ·exact h2
 | _=>exact h2
theorem Ug (gf:gC st.rt S) (hm:Mem C w S Hx) {d:D} {u:Value} (hd:ck w (af C w S Hx) S d u) (cF:(∀ cs,d≠.agg cs)->fO st d=true):bZ (bp w (af C w S Hx) S) (cellsOf d) u.cells.toList:=by
 by_cases ha:∃ cs,d=.agg cs
 ·obtain ⟨cs,rfl⟩:=ha;obtain ⟨us,rfl,h⟩:=hd;exact h
 ·refine Dh gf hm hd (fun x hx=>?_);have hc:cellsOf d=[d]:=by cases d<;>first | rfl | exact absurd ⟨_,rfl⟩ ha
  rw [hc] at hx;simp only [adU] at hx;subst hx;exact cF (fun cs e=>ha ⟨cs,e⟩)
end
theorem w8 {st:St} {d:D} (h:fO st d=true):cM d=true:=by
 cases d<;>first | rfl | exact h
section
variable {P:Program} {C:Ctx} {Hx:List T} {aJ:List (Array Value)}
theorem PF:∀ {ds:List D} {us:List Value} {w:World} {st st':St} {S:List (Nat × RT)} {r o:Nat} {h:D->D} {b off i:Nat},Rel C Hx w st aJ S->(∃ R,lk S r=some R/\R.box=some b)->bZ (fun d u=>bp w (af C w S Hx) S (h d) u) ds us->o=off+i->nk st r o h ds=some st'->
  ∃ w' S',(storeCells ⟨b,off,none⟩ us i).run P w=.ok () w'/\Rel C Hx w' st' aJ S'/\st'.of=st.of:=by
 intro ds
 induction ds with
 | nil=>
  intro us w st st' S r o h b off i hr _ hu _ hs;cases hu;simp only [nk,mN] at hs;subst hs;exact ⟨w,S,rfl,hr,rfl⟩
 | cons d ds ih=>
  intro us w st st' S r o h b off i hr qz hu Ao hs;cases hu with
  | cons sS Cp=>
  rename_i u us;simp only [nk] at hs;split at hs
  ·simp at hs
  rename_i cF;simp only [adv,agJ] at cF;split at hs
  case h_2=>simp at hs
  rename_i aP f dQ;split at hs
  case h_2=>simp at hs
  rename_i cj iv;obtain ⟨R,hR,hb⟩:=qz;obtain ⟨h1,_⟩:=M3 hr.rt hr.mem sS cF;have cB:∃ t0,R.cs[o]?=some t0:=by
   unfold St.rf at dQ;cases hx:st.cell r [] o with
   | none=>simp [hx] at dQ
   | some bB=>
    obtain ⟨R',l,t,g1,g2,g3,_⟩:=iu hr.rt hx;rw [hR,mN] at g1;subst g1;simp only [ay,mN] at g2;subst g2;exact ⟨t,g3⟩
  obtain ⟨t0,ho⟩:=cB;have ha:bN R.box R.cs []=some (b,0):=by simp [bN,hb]
  obtain ⟨b',off',fj,eA,fo,WM,_⟩:=qp hr.mem hR (q:=[]) rfl (fun e=>by rw [e] at ho; simp at ho) (fun _=>by rw [hb]; rfl)
  rw [ha] at eA;simp only [mN,sF] at eA;obtain ⟨rfl,rfl⟩:=eA;have Ue:o < R.cs.length:=(aaa.1 ho).1;have eD:=oo (P:=P) fo (o:=o) (by omega) h1
  have hfd:bH (f (h d))=f (h d):=by
   have key:∀ x:D,cM x=true->bH x=x->bH (f x)=f x:=by
    intro x hx Na;unfold St.rf at dQ;cases hy:st.cell r [] o with
    | none=>simp [hy] at dQ
    | some bB=>
     simp only [hy,mN] at dQ;have hk:bH (cq r [] o true x)=cq r [] o true x:=by
      cases x with
      | ref r' q' o' y=>simp only [cq]; split<;>(try split)<;>(try split)<;>rfl
      | ptr r' q' o'=>simp only [cq]; split<;>(try split)<;>rfl
      | _=>exact Na
     split at dQ
     ·simp only [sF] at dQ;obtain ⟨_,rfl⟩:=dQ;cases x with
      | ref r' q' o' y=>
       simp only [uD];split
       ·split
        ·rfl
        ·split
         ·exact (by rename_i g _ _ _ _; cases g<;>rfl)
         ·rfl
       ·rfl
      | _=>exact hk
     ·split at dQ
      ·simp only [sF] at dQ;obtain ⟨_,rfl⟩:=dQ;exact hk
      ·simp only [sF] at dQ;obtain ⟨_,rfl⟩:=dQ;exact Na
   refine key _ (w8 cF) ?_;cases hx:h d with
   | sl g s n cs=>
    rw [hx] at sS;cases g with
    | none=>simp [bp,Ext] at sS
    | some g=>rfl
   | _=>rfl
  obtain ⟨S',a1,a2,a3,a4⟩:=Am (Hs:=[]) (H:=Hx) (t':=.v (f (h d)) u) hr hR rfl ho ha dQ (by simp only [T.er]; rw [hfd]; exact iv) (w8 cF) (.inr ⟨rfl,rfl,u,rfl,sS⟩)
  simp only [T.val,aef] at a1 a2;simp only [aef] at eD;obtain ⟨R',l',k1,k2,_⟩:=a3.path hR (q:=[]) rfl;obtain ⟨w',zo,c1,c2,c3⟩:=ih (i:=i+1) (o:=o+1) (off:=off) (h:=fun x=>f (h x)) a1 ⟨R',k1,k2.trans hb⟩ (Cp.mono (fun _ _ hh=>a2 _ _ hh)) (by omega) hs
  refine ⟨w',zo,?_,c2,c3.trans a4⟩;rw [storeCells];simp only [Sem.run_bind,eS];rw [<- Ao,eD];exact c1
theorem Nb:∀ {ts:List T} {w:World} {st st':St} {S:List (Nat × RT)} {r o:Nat} {b off i:Nat},Rel C (ts++Hx) w st aJ S->(∃ R,lk S r=some R/\R.box=some b)->o=off+i->nn st r o (aX ts)=some st'->
  ∃ w' S',(storeCells ⟨b,off,none⟩ (ax ts) i).run P w=.ok () w'/\Rel C Hx w' st' aJ S'/\st'.of=st.of:=by
 intro ts
 induction ts with
 | nil=>
  intro w st st' S r o b off i hr _ _ hs;simp only [aX,nn,mN] at hs;subst hs;exact ⟨w,S,rfl,hr,rfl⟩
 | cons t ts ih=>
  intro w st st' S r o b off i hr qz Ao hs;simp only [aX,nn] at hs;split at hs
  ·simp at hs
  rename_i cF;simp only [adv,agJ] at cF;split at hs
  case h_2=>simp at hs
  rename_i aP f dQ;split at hs
  case h_2=>simp at hs
  rename_i cj iv;obtain ⟨R,hR,hb⟩:=qz;have dm:=hr.mem.hand;simp only [acE,bC] at dm;obtain ⟨h1,_⟩:=mu dm.1 cF;have cB:∃ t0,R.cs[o]?=some t0:=by
   unfold St.rf at dQ;cases hx:st.cell r [] o with
   | none=>simp [hx] at dQ
   | some bB=>
    obtain ⟨R',l,t,g1,g2,g3,_⟩:=iu hr.rt hx;rw [hR,mN] at g1;subst g1;simp only [ay,mN] at g2;subst g2;exact ⟨t,g3⟩
  obtain ⟨t0,ho⟩:=cB;have ha:bN R.box R.cs []=some (b,0):=by simp [bN,hb]
  obtain ⟨b',off',fj,eA,fo,WM,_⟩:=qp hr.mem hR (q:=[]) rfl (fun e=>by rw [e] at ho; simp at ho) (fun _=>by rw [hb]; rfl)
  rw [ha] at eA;simp only [mN,sF] at eA;obtain ⟨rfl,rfl⟩:=eA;have Ue:o < R.cs.length:=(aaa.1 ho).1;have eD:=oo (P:=P) fo (o:=o) (by omega) h1
  obtain ⟨S',a1,a2,a3,a4⟩:=Am (Hs:=[t]) (H:=ts++Hx) (t':=t) hr hR rfl ho ha dQ iv cF (.inl ⟨rfl,rfl⟩);simp only [aef] at a1 a2;simp only [aef] at eD;obtain ⟨R',l',k1,k2,_⟩:=a3.path hR (q:=[]) rfl;obtain ⟨w',zo,c1,c2,c3⟩:=ih (i:=i+1) (o:=o+1) (off:=off) a1 ⟨R',k1,k2.trans hb⟩ (by omega) hs
  refine ⟨w',zo,?_,c2,c3.trans a4⟩;rw [ax,storeCells];simp only [Sem.run_bind,eS];rw [<- Ao,eD];exact c1
end
theorem Ap {r:Nat} {q:List Nat} {o:Nat} {x:D} {r':Nat} {q':List Nat} {o':Nat} {y:Option (Nat × Nat)} (h:cq r q o true x=.ref r' q' o' y):x=.ref r' q' o' y/\(r'≠r∨under (q++[o]) (q'++[o'])=none):=by
 cases x with
 | ref r2 q2 o2 x2=>
  simp only [cq] at h;split at h
  ·split at h
   ·rename_i hu;simp only [D.ref.injEq] at h;obtain ⟨rfl,rfl,rfl,rfl⟩:=h;exact ⟨rfl,.inr hu⟩
   ·simp at h
   ·simp at h
  ·rename_i cQ;simp only [D.ref.injEq] at h;obtain ⟨rfl,rfl,rfl,rfl⟩:=h;exact ⟨rfl,.inl cQ⟩
 | ptr r2 q2 o2=>
  simp only [cq] at h;split at h
  ·split at h<;>simp at h
  ·simp at h
 | _=>simp [cq] at h
theorem Nc {r:Nat} {q:List Nat} {o:Nat} {bB x:D} {r':Nat} {q':List Nat} {o':Nat} {y:Option (Nat × Nat)} (h:uD r q o bB x=.ref r' q' o' y):x=.ref r' q' o' y/\(r'≠r∨under (q++[o]) (q'++[o'])=none):=by
 cases x with
 | ref r2 q2 o2 x2=>
  simp only [uD] at h;split at h
  ·split at h
   ·rename_i hu;simp only [D.ref.injEq] at h;obtain ⟨rfl,rfl,rfl,rfl⟩:=h;exact ⟨rfl,.inr hu⟩
   ·split at h
    ·rename_i g s n cs _;cases g<;>simp [eb] at h
    ·simp at h
  ·rename_i cQ;simp only [D.ref.injEq] at h;obtain ⟨rfl,rfl,rfl,rfl⟩:=h;exact ⟨rfl,.inl cQ⟩
 | _=>exact Ap h
theorem aaG {st aP:St} {r:Nat} {q:List Nat} {o:Nat} {d:D} {f:D->D} (h:st.rf r q o d=some (aP,f)) (hd:gr d=true) {x:D} {r':Nat} {q':List Nat} {o':Nat} {y:Option (Nat × Nat)} (hx:f x=.ref r' q' o' y):x=.ref r' q' o' y/\(r'≠r∨under (q++[o]) (q'++[o'])=none):=by
 unfold St.rf at h;split at h
 case h_2=>simp at h
 simp only [mN] at h;split at h
 ·simp only [sF] at h;obtain ⟨_,rfl⟩:=h;exact Nc hx
 ·try rw [if_pos hd] at h
  simp only [hd,if_true,sF] at h;obtain ⟨_,rfl⟩:=h;exact Ap hx
theorem Uh {st st':St} {r:Nat} {q:List Nat} {o:Nat} {x:Option (Nat × Nat)} {d:D} (h:iS st (.ref r q o x)=some (d,st')):gr d=true:=by
 simp only [iS] at h;split at h
 ·split at h
  ·simp only [mN,sF] at h;rw [<- h.1]; rfl
  ·simp at h
 ·simp only [mN,sF] at h;rw [<- h.1]; rfl
 ·simp at h
section
variable {P:Program} {C:Ctx} {Hx:List T} {aJ:List (Array Value)}
theorem Cx:∀ {ds:List D} {us:List Value} {w:World} {st st':St} {S:List (Nat × RT)} {r:Nat} {q:List Nat} {o:Nat} {h:D->D} {b off0 off i:Nat},Rel C Hx w st aJ S->bp w (af C w S Hx) S (.ptr r q 0) (.pointer (some ⟨b,off0,none⟩))->bZ (fun d u=>bp w (af C w S Hx) S (h d) u) ds us->off+i=off0+o->fA st r q o h ds=some st'->
  ∃ w' S',(storeCells ⟨b,off,none⟩ us i).run P w=.ok () w'/\Rel C Hx w' st' aJ S'/\st'.of=st.of:=by
 intro ds
 induction ds with
 | nil=>
  intro us w st st' S r q o h b off0 off i hr _ hu _ hs;cases hu;simp only [fA,mN] at hs;subst hs;exact ⟨w,S,rfl,hr,rfl⟩
 | cons d ds ih=>
  intro us w st st' S r q o h b off0 off i hr hp hu Ao hs;cases hu with
  | cons sS Cp=>
  rename_i u us;have place:∀ {H:List T} {Zx:St} {S0:List (Nat × RT)},Rel C H w Zx aJ S0->bp w (af C w S0 H) S0 (.ptr r q 0) (.pointer (some ⟨b,off0,none⟩))->∀ {bB:D},Zx.cell r q o=some bB->
    ∃ R l t0 fj,lk S0 r=some R/\ay R.cs q=some l/\l[o]?=some t0/\t0.er=bB/\bN R.box R.cs q=some (b,off0)/\lx w b off0 fj (ax l)/\o < fj:=by
   intro H Zx S0 QT Nd bB hc;obtain ⟨R,l,t0,g1,g2,g3,g4,g5⟩:=iu QT.rt hc;obtain ⟨vY,vU⟩:=Nd R g1;obtain ⟨b',off',fj,k1,k2,k3,_⟩:=qp QT.mem g1 g2 (fun e=>by subst e; simp at g3) vY
   have:=vU b' off' k1;simp only [Value.pointer.injEq,mN,Addr.mk.injEq,agF,and_true] at this;obtain ⟨rfl,rfl⟩:=this;exact ⟨R,l,t0,fj,g1,g2,g3,g5.symm,k1,k2,by have:=(aaa.1 g3).1; omega⟩
  simp only [fA] at hs;split at hs
  ·rename_i w9;simp only [wX] at w9;obtain ⟨w9,cF⟩:=w9;have hd:h d=.ref r q o none:=by
    cases hx:h d with
    | ref r2 q2 o2 x2=>
     rw [hx] at w9;cases x2 with
     | none=>
      simp only [z7,wX,decide_eq_true_eq] at w9;obtain ⟨⟨rfl,rfl⟩,rfl⟩:=w9;rfl
     | some p=>simp [z7] at w9
    | _=>rw [hx] at w9; simp [z7] at w9
   rw [hd] at cF sS;obtain ⟨h1,_⟩:=M3 hr.rt hr.mem sS cF;simp only [fO] at cF;split at cF
   case h_2=>simp at cF
   rename_i g s n cs hc;obtain ⟨R,l,t0,fj,g1,g2,g3,g4,g5,g6,g7⟩:=place hr hp hc;have wJ:u=t0.val:=by
    have:=sS t0 (by rw [C7 g1 g2]; exact g3)
    unfold eL at this;rw [g4] at this;exact this
   have eD:=oo (P:=P) g6 g7 h1;rw [M7 (by rw [wJ]; exact mo g6 (by rw [fh,g3]; rfl))] at eD
   obtain ⟨w',S',c1,c2,c3⟩:=ih (i:=i+1) (o:=o+1) (off:=off) hr hp Cp (by omega) hs
   refine ⟨w',S',?_,c2,c3⟩;rw [storeCells];simp only [Sem.run_bind,eS];rw [Ao,eD];exact c1
  ·split at hs
   case h_2=>simp at hs
   rename_i d' aP dA;split at hs
   ·simp at hs
   rename_i gE;simp only [adv,agJ] at gE;split at hs
   case h_2=>simp at hs
   rename_i cj f dQ;split at hs
   case h_2=>simp at hs
   rename_i Ck iv;obtain ⟨t,S1,a1,rfl,a3,a4,a5,a6,a7⟩:=ui hr sS dA;have hp1:=a4 _ _ hp;have cB:∃ bB,aP.cell r q o=some bB:=by
    unfold St.rf at dQ;cases hx:aP.cell r q o with
    | none=>simp [hx] at dQ
    | some bB=>exact ⟨bB,rfl⟩
   obtain ⟨bB,cB⟩:=cB;obtain ⟨R,l,t0,fj,g1,g2,g3,g4,g5,g6,g7⟩:=place a1 hp1 cB;have dm:=a1.mem.hand;simp only [bC] at dm;obtain ⟨h1,_⟩:=mu dm.1 gE;have eD:=oo (P:=P) g6 g7 h1;obtain ⟨S2,b1,b2,b3,b4⟩:=Am (Hs:=[t]) (H:=Hx) (t':=t) a1 g1 g2 g3 g5 dQ iv gE (.inl ⟨rfl,rfl⟩);rw [a3] at eD b1 b2;generalize sT:w.setCell ⟨b,off0+o,none⟩ u=w1 at eD b1 b2;have QU:=b2 _ _ hp1;rw [b3.ptr] at QU;have acC:∃ S3,Rel C Hx w1 (Ck.sj (f (h d)) r q o) aJ S3/\hM C w1 w1 S2 S3 Hx Hx (uE (f (h d)) r q o)/\uE (f (h d)) r q o (.ptr r q 0)=.ptr r q 0/\(Ck.sj (f (h d)) r q o).of=Ck.of:=by
    cases hx:f (h d) with
    | ref r' q' o' y=>
     have hh:gr t.er=true:=by
      cases hd:h d with
      | ref r2 q2 o2 x2=>rw [hd] at dA; exact Uh dA
      | _=>
       exfalso;rw [hd] at hx;unfold St.rf at dQ;rw [cB] at dQ;simp only [mN] at dQ;split at dQ
       ·simp only [sF] at dQ;obtain ⟨_,rfl⟩:=dQ;have:=(Nc hx).1;simp at this
       ·split at dQ
        ·simp only [sF] at dQ;obtain ⟨_,rfl⟩:=dQ;have:=(Ap hx).1;simp at this
        ·simp only [sF] at dQ;obtain ⟨_,rfl⟩:=dQ;simp at hx
     obtain ⟨hd,C3⟩:=aaG dQ hh hx;obtain ⟨d0,u0,k1,k2,k3,k4⟩:=a7 r' q' o' y hd;have yF:=b3.hole r' q' o' d0 u0 k1 k2 k3 C3;cases y with
     | none=>
      obtain ⟨m1,m2⟩:=M9 b1 yF b3.new (k4 rfl);exact ⟨_,m1,m2,(M8 yF b3.new r q o 0).1,rfl⟩
     | some y=>
      obtain ⟨m1,m2⟩:=G5 b1 r' q' o' true;exact ⟨_,m1,m2,(M8 yF b3.new r q o 0).2,rfl⟩
    | _=>exact ⟨S2,b1,fun _ _ hh=>hh,rfl,rfl⟩
   obtain ⟨S3,c1,c2,c3,c4⟩:=acC;have hp3:=c2 _ _ QU;rw [c3] at hp3;obtain ⟨w',S',e1,e2,e3⟩:=ih (i:=i+1) (o:=o+1) (off:=off) (h:=fun x=>uE (f (h d)) r q o (f (h x))) c1 hp3 (Cp.mono (fun _ _ hh=>c2 _ _ (b2 _ _ (a4 _ _ hh)))) (by omega) hs
   refine ⟨w',S',?_,e2,e3.trans (c4.trans (b4.trans a6.2.2))⟩;rw [storeCells];simp only [Sem.run_bind,eS];rw [Ao,eD];exact e1
theorem Kb {st st':St} {r:Nat}:∀ {ds:List D} {st st':St} {o:Nat},nn st r o ds=some st'->∀ d∈ds,cM d=true:=by
 intro ds
 induction ds with
 | nil=>intro st st' o _ d hd; simp at hd
 | cons d ds ih=>
  intro st st' o hs x hx;simp only [nn] at hs;split at hs
  ·simp at hs
  rename_i cF;simp only [adv,agJ] at cF;split at hs
  case h_2=>simp at hs
  split at hs
  case h_2=>simp at hs
  rcases acK.1 hx with rfl | hx
  ·exact cF
  ·exact ih hs x hx
theorem Ui {c:cn} (aw:ey c P) {w:World} {st st':St} {S:List (Nat × RT)} (h:Rel C Hx w st aJ S) {t:TypeId} {i:TI} (ht:c.ty t=some i) {a v:D} {ua uv:Value} (ha:ck w (af C w S Hx) S a ua) (hv:ck w (af C w S Hx) S v uv) {ql:Nat->Bool} (hs:uF st ql i.size a v=some st'):
  ∃ w' S',(Instr.storeAt t ua uv).run P w=.ok () w'/\Rel C Hx w' st' aJ S'/\st'.of=st.of:=by
 cases a with
 | ptr r q o=>
  simp only [uF] at hs;split at hs
  case isFalse=>simp at hs
  rename_i hc;obtain ⟨hlen,m9⟩:=hc;obtain ⟨R,b,off,hR,BJ,rfl⟩:=rH h.rt h.mem m9 ha;have cI:=(aw.ty _ _ ht).sz w;have hp:bp w (af C w S Hx) S (.ptr r q 0) (.pointer (some ⟨b,off,none⟩)):=by
   intro R' dO;rw [hR,mN] at dO;subst dO;refine ⟨(ha R hR).1,fun b' off' e=>?_⟩;rw [BJ,mN,sF] at e;obtain ⟨rfl,rfl⟩:=e;rfl
  have hsa:∀ A:Addr,(Instr.sureAddr (.pointer (some A))).run P w=.ok A w:=fun A=>rfl;have run:∀ {us:List Value} {w':World},uv.cells.toList=us->us.length=i.size->(storeCells ⟨b,off+o,none⟩ us 0).run P w=.ok () w'->(Instr.storeAt t (.pointer (some ⟨b,off+o,none⟩)) uv).run P w=.ok () w':=by
   intro us w' e1 e2 e3;have e4:uv.cells.size=i.size:=by rw [<- e2,<- e1]; simp
   simp only [Instr.storeAt,Sem.run_bind,hsa,Result.andThen_ok,storeVar,cI];simp only [e4,ne_eq,not_true_eq_false,if_false,Sem.run_bind,Sem.run_pure,Result.andThen_ok,e1];exact e3
  have j9:∀ {ds:List D},nk st r o id ds=some st'∨fA st r q o id ds=some st'->ds=cellsOf v->(∀ cs,v≠.agg cs)->fO st v=true∨∃ d' aP,iS st v=some (d',aP)/\cM d'=true:=by
   intro ds h1 h2 h3;have hc:cellsOf v=[v]:=by cases v<;>first | rfl | exact absurd rfl (h3 _)
   rw [hc] at h2;subst h2;rcases h1 with h1 | h1
   ·simp only [nk,id] at h1;split at h1
    ·simp at h1
    rename_i cF;simp only [adv,agJ] at cF;exact .inl cF
   ·simp only [fA,id] at h1;split at h1
    ·rename_i hh;simp only [wX] at hh;exact .inl hh.2
    split at h1
    case h_2=>simp at h1
    rename_i d' aP dA;split at h1
    ·simp at h1
    rename_i gE;simp only [adv,agJ] at gE;exact .inr ⟨d',aP,dA,gE⟩
  have oU:∀ {ds:List D},nk st r o id ds=some st'∨fA st r q o id ds=some st'->ds=cellsOf v->bZ (bp w (af C w S Hx) S) (cellsOf v) uv.cells.toList:=by
   intro ds h1 h2;by_cases ez:∃ cs,v=.agg cs
   ·obtain ⟨cs,rfl⟩:=ez;obtain ⟨us,rfl,hh⟩:=hv;exact hh
   ·have h3:∀ cs,v≠.agg cs:=fun cs e=>ez ⟨cs,e⟩;rcases j9 h1 h2 h3 with h4 | ⟨d',aP,h4,h5⟩
    ·exact Ug h.rt h.mem hv (fun _=>h4)
    ·have hc:cellsOf v=[v]:=by cases v<;>first | rfl | exact absurd rfl (h3 _)
     have lB:bp w (af C w S Hx) S v uv:=by
      cases v<;>first | exact hv | (simp [iS] at h4; done) | exact absurd rfl (h3 _)
     obtain ⟨t',S1,a1,rfl,a3,_⟩:=ui h lB h4;have dm:=a1.mem.hand;simp only [bC] at dm;have:=(mu dm.1 h5).2;rw [a3] at this;rw [hc,this];exact .cons lB .nil
  cases q with
  | nil=>
   have hb:∃ b',R.box=some b'/\b'=b/\off=0:=by
    simp only [bN] at BJ;cases hx:R.box with
    | none=>simp [hx] at BJ
    | some b'=>simp only [hx,MD,mN,sF] at BJ; exact ⟨b',rfl,BJ.1,BJ.2.symm⟩
   obtain ⟨b',hb,rfl,rfl⟩:=hb;simp only at hs;split at hs
   ·split at hs
    case h_2=>simp at hs
    rename_i cs aP dA;obtain ⟨ts,S1,b1,rfl,b3,b4,b5,b6⟩:=qB h hv dA;have W5:=Kb (st:=aP) (st':=st') hs;obtain ⟨R1,k1,k2,_⟩:=b5.fwd r R hR;have du:=((dV _ _).1 b1.mem.hand).1;rw [bY] at du;have gL:ax ts=uv.cells.toList:=by
     by_cases ez:∃ cs,v=.agg cs
     ·obtain ⟨cs,rfl⟩:=ez;exact b3
     ·have Aq:gM v uv=[uv]:=by cases v<;>first | rfl | exact absurd ⟨_,rfl⟩ ez
      rw [Aq] at b3;rw [b3];cases ts with
      | nil=>simp [ax] at b3
      | cons y ys=>
       simp only [ax,acS] at b3;have:=mu (du y (by simp)) (W5 y.er (by simp [aX]))
       rw [b3.1] at this;rw [this.2]
    have EV:(aX ts).length=i.size:=by
     rw [<- hlen];have h1:=congrArg List.length gL;rw [bK] at h1;rw [fm,h1];by_cases ez:∃ cs,v=.agg cs
     ·obtain ⟨cs,rfl⟩:=ez;obtain ⟨us,rfl,hh⟩:=hv;have:=hh.len;simp only [cellsOf,Value.cells];exact this.symm
     ·have Aq:gM v uv=[uv]:=by cases v<;>first | rfl | exact absurd ⟨_,rfl⟩ ez
      have mf:cellsOf v=[v]:=by cases v<;>first | rfl | exact absurd ⟨_,rfl⟩ ez
      rw [Aq] at b3;rw [<- gL,b3,mf]; rfl
    obtain ⟨w',S',c1,c2,c3⟩:=Nb (P:=P) (b:=b') (off:=0+o) (i:=0) b1 ⟨R1,k1,k2.trans hb⟩ (by omega) hs
    refine ⟨w',S',?_,c2,c3.trans b6.2.2⟩;exact run gL.symm (by rw [bK]; rw [fm] at EV; exact EV) c1
   ·have dM:=oU (.inl hs) rfl;obtain ⟨w',S',c1,c2,c3⟩:=PF (P:=P) (b:=b') (off:=0+o) (i:=0) h ⟨R,hR,hb⟩ dM (by omega) hs
    exact ⟨w',S',run rfl (by rw [<- dM.len]; exact hlen) c1,c2,c3⟩
  | cons p q=>
   simp only at hs;have dM:=oU (.inr hs) rfl;obtain ⟨w',S',c1,c2,c3⟩:=Cx (P:=P) (b:=b) (off0:=off) (off:=off+o) (i:=0) h hp dM (by omega) hs
   exact ⟨w',S',run rfl (by rw [<- dM.len]; exact hlen) c1,c2,c3⟩
 | _=>simp [uF] at hs
end
theorem iE {b:Nat}:∀ (vs:List Value) (o:Nat) (w:World) {c:Array Value} {e:TypeId} {fz:Nat × Nat},w.heap[b]?=some (.cells c e fz)->o+vs.length<=c.size->
  ∃ c':Array Value,(w.setCells b o vs).heap[b]?=some (.cells c' e fz)/\c'.size=c.size/\(∀ (j:Nat) (u:Value),vs[j]?=some u->c'[o+j]?=some u)/\(∀ i,i < o∨o+vs.length<=i->c'[i]?=c[i]?)/\(∀ k,k≠b->(w.setCells b o vs).heap[k]?=w.heap[k]?)/\
   (w.setCells b o vs).heap.size=w.heap.size/\(w.setCells b o vs).os=w.os/\(w.setCells b o vs).tape=w.tape/\(w.setCells b o vs).output=w.output
 | [],o,w,c,e,fz,h,_=>⟨c,h,rfl,by simp,fun _ _=>rfl,fun _ _=>rfl,rfl,rfl,rfl,rfl⟩
 | v::vs,o,w,c,e,fz,h,hl=>by
  have h1:(w.setCell ⟨b,o,none⟩ v).heap[b]?=some (.cells (c.setIfInBounds o v) e fz):=by
   simp [World.setCell,ago,h]
  simp only [adj] at hl;obtain ⟨c',g1,g2,g3,g4,g5,g6,g7,g8,g9⟩:=iE vs (o+1) (w.setCell ⟨b,o,none⟩ v) h1 (by simp; omega)
  refine ⟨c',g1,by rw [g2]; simp,?_,?_,?_,?_,g7,g8,g9⟩
  ·intro j u hj;cases j with
   | zero=>
    simp only [acH,mN] at hj;subst hj;rw [agF,g4 o (.inl (by omega)),Array.getElem?_setIfInBounds_self_of_lt (by omega)]
   | succ j=>
    simp only [adn] at hj;have:=g3 j u hj;rw [show o+(j+1)=o+1+j by omega]; exact this
  ·intro i hi;rw [g4 i (by simp only [adj] at hi; omega),Array.getElem?_setIfInBounds_ne (by simp only [adj] at hi; omega)]
  ·intro k hk;rw [World.setCells,g5 k hk];simp only [World.setCell,ago];rw [if_neg (by simpa using agU hk)]
  ·rw [World.setCells,g6]; simp [World.setCell]
section
variable {C:Ctx} {H:List T} {w:World} {st st':St} {aJ:List (Array Value)} {S:List (Nat × RT)}
theorem Uj {Ys:List T} {s n cap m b off:Nat} {ts:List T} (h:Rel C (Ys++.own s n cap (some (b,off)) ts::H) w st aJ S) (hm:Ys.length=m*s) (hc:n+m<=cap):
  Rel C (.own s (n+m) cap (some (b,off)) (ts++Ys)::H) (w.setCells b (off+n*s) (ax Ys)) st aJ S/\
  hM C w (w.setCells b (off+n*s) (ax Ys)) S S (Ys++.own s n cap (some (b,off)) ts::H) (.own s (n+m) cap (some (b,off)) (ts++Ys)::H) id:=by
 have dm:=h.mem.hand;rw [dV] at dm;obtain ⟨hY,hT⟩:=dm;simp only [bC,bA] at hT;obtain ⟨⟨h1,h2,fo,h4⟩,hH⟩:=hT;obtain ⟨c,e,fz,g1,g2,g3,g4⟩:=fo;have hmul:n*s+m*s<=cap*s:=by rw [<- af2]; exact adl _ hc
 obtain ⟨c',k1,k2,k3,k4,k5,k6,k7,k8,k9⟩:=iE (ax Ys) (off+n*s) w g1 (by rw [bK,hm]; omega)
 generalize w.setCells b (off+n*s) (ax Ys)=w' at k1 k5 k6 k7 k8 k9 ⊢;have Zy:(ah (.own s (n+m) cap (some (b,off)) (ts++Ys)::H)).Perm (ah (Ys++.own s n cap (some (b,off)) ts::H)):=by
  refine adV.2 fun a=>?_;simp only [ah,aY,T.ft,fC,agb];omega
 have cW:∀ k,k∈ah (.own s (n+m) cap (some (b,off)) (ts++Ys)::H)↔k∈ah (Ys++.own s n cap (some (b,off)) ts::H):=fun k=>Zy.mem_iff;have hb:b∈ah (Ys++.own s n cap (some (b,off)) ts::H):=by simp [aY,ah,T.ft,fC]
 have eR:=h.mem.nd;have cu:jo w w' (af C w S (Ys++.own s n cap (some (b,off)) ts::H)) (af C w' S (.own s (n+m) cap (some (b,off)) (ts++Ys)::H)):=by
  intro bb k hk;exact ⟨⟨by rw [k6]; exact hk.1,hk.2.1,fun hx=>hk.2.2.1 ((cW k).1 hx),hk.2.2.2⟩,k5 k (fun e=>hk.2.2.1 (e▸hb))⟩
 have dT:∀ d u,bp w (af C w S (Ys++.own s n cap (some (b,off)) ts::H)) S d u->bp w' (af C w' S (.own s (n+m) cap (some (b,off)) (ts++Ys)::H)) S d u:=fun d u hd=>sQ cu (fun _ _ h=>h) hd;have Uk:∀ k,k∈cA S∨k∈ah ts∨k∈ah Ys∨k∈ah H->k≠b:=by
  intro k hk e;subst e;have hn2:(cA S++(ah Ys++(k::ah ts++ah H))).Nodup:=by
   have:=eR;rw [aY,ah,T.ft,fC] at this
   simpa using this
  have p1:(cA S++(ah Ys++(k::ah ts++ah H))).Perm (k::(cA S++(ah Ys++(ah ts++ah H)))):=by
   refine adV.2 fun a=>?_;simp only [agb,List.count_cons];omega
  have Jj:=p1.nodup_iff.1 hn2;simp only [adW,sE] at Jj;rcases hk with hk | hk | hk | hk
  ·exact Jj.1 (.inl hk)
  ·exact Jj.1 (.inr (.inr (.inl hk)))
  ·exact Jj.1 (.inr (.inl hk))
  ·exact Jj.1 (.inr (.inr (.inr hk)))
 refine ⟨h.rJ h.rt rfl rfl dT ⟨(agn _ Zy).nodup_iff.2 eR,?_,?_,fun k hk=>?_⟩ ?_,dT⟩
 ·intro r R hR;obtain ⟨q1,q2⟩:=h.mem.root r R hR;have hRS:∀ k∈R.ft,k∈cA S:=fun k hk=>Cw hR hk;refine ⟨?_,fun t ht=>?_⟩
  ·cases hx:R.box with
   | none=>trivial
   | some b0=>
    simp only [hx] at q1 ⊢;obtain ⟨c0,e0,fz0,r1,r2⟩:=q1;exact ⟨c0,e0,fz0,by rw [k5 b0 (Uk b0 (.inl (hRS b0 (by simp [RT.ft,hx]))))]; exact r1,r2⟩
  ·have:=q2 t ht;cases t with
   | v d u=>
    rcases this with this | ⟨hb,this⟩
    ·exact .inl (gu cu _ _ this)
    ·exact .inr ⟨hb,dT _ _ this⟩
   | own s' n' cap' a' xs=>exact dL cu _ this (fun k hk=>k5 k (Uk k (.inl (hRS k (by simp [RT.ft,BI ht hk])))))
 ·simp only [bC,bA];refine ⟨⟨⟨hc,h1.2⟩,by rw [aap,h2,hm,af2],⟨c',e,fz,k1,by rw [k2]; exact g2,by rw [k2]; exact g3,fun j u hj=>?_⟩,?_⟩,gv cu _ hH (fun k hk=>k5 k (Uk k (.inr (.inr (.inr hk)))))⟩
  ·rw [sH] at hj;by_cases Ul:j < (ax ts).length
   ·rw [adx Ul] at hj;rw [k4 _ (.inl (by rw [bK,h2] at Ul; omega))]
    exact g4 j u hj
   ·rw [adr (by omega)] at hj
    have:=k3 _ u hj;rw [bK,h2] at this Ul;rw [show off+j=off+n*s+(j - n*s) by omega]
    exact this
  ·rw [dV];exact ⟨gv cu _ h4 (fun k hk=>k5 k (Uk k (.inr (.inl hk)))),gv cu _ hY (fun k hk=>k5 k (Uk k (.inr (.inr (.inl hk)))))⟩
 ·rw [k6];refine h.mem.lt k ?_;rcases sE.1 hk with hk | hk
  ·exact sE.2 (.inl hk)
  ·exact sE.2 (.inr ((cW k).1 hk))
 ·refine ⟨by rw [k7]; exact h.kept.os,by rw [k8]; exact h.kept.tape,by rw [k9]; exact h.kept.output,by rw [k6]; exact h.kept.size,fun k q1 q2=>?_,fun k hk=>?_,h.kept.par⟩
  ·rw [k5 k (fun e=>?_)]
   ·exact h.kept.block k q1 q2
   ·subst e;rcases h.kept.iD k (sE.2 (.inr hb)) with h3 | h3
    ·exact q2 h3
    ·omega
  ·refine h.kept.iD k ?_;rcases sE.1 hk with hk | hk
   ·exact sE.2 (.inl hk)
   ·exact sE.2 (.inr ((cW k).1 hk))
theorem wK (h:Rel C H w st aJ S):∀ {ds:List D} {us:List Value},bZ (Ext w (af C w S H)) ds us->∃ Ys,Rel C (Ys++H) w st aJ S/\aX Ys=ds/\ax Ys=us/\ah Ys=[]:=by
 intro ds
 induction ds with
 | nil=>intro us hu; cases hu; exact ⟨[],h,rfl,rfl,rfl⟩
 | cons d ds ih=>
  intro us hu;cases hu with
  | cons h1 h2=>
  obtain ⟨Ys,a1,a2,a3,a4⟩:=ih h2;rename_i u us;have j9:bH d=d:=by
   cases d with
   | sl g s n cs=>cases g with
    | none=>simp [Ext] at h1
    | some g=>rfl
   | _=>rfl
  have Cu:af C w S (Ys++H)=af C w S H:=by
   funext b k;simp only [af,aY,a4,acw]
  exact ⟨.v d u::Ys,EL a1 (by rw [Cu]; exact h1) j9,by simp [aX,T.er,j9,a2],by simp [ax,T.val,a3],by simp [ah,T.ft,a4]⟩
end
structure W8 (P:Program) (t tx ty e:TypeId) (inf:TypeInfo) (z:Value) (w:World) (ux:Value) (m:Nat) (news:List Value):Prop where
 nil:m=0->news=[]->(Builtin.append_ #[t,tx] ty #[.slice none 0 0,ux]).run P w=.ok (.slice none 0 0) w
 room:∀ b off n cap,n+m<=cap->(n+m)*inf.bytes<=140737488355328->0 < inf.bytes->(∀ j,j < news.length->(w.cell? ⟨b,off+n*inf.size+j,none⟩).isSome=true)->(∀ j,j < news.length->w.frozen? ⟨b,off+n*inf.size+j,none⟩=false)->
  (Builtin.append_ #[t,tx] ty #[.slice (some ⟨b,off,none⟩) n cap,ux]).run P w=.ok (.slice (some ⟨b,off,none⟩) (n+m) cap) (w.setCells b (off+n*inf.size) news)
 grow:∀ base n cap G6,(Builtin.firstCells inf.size n (.slice base n cap)).run P w.drew=.ok (List.toArray G6) w.drew->cap < n+m->(n+m)*inf.bytes<=140737488355328->0 < inf.bytes->
  (Builtin.append_ #[t,tx] ty #[.slice base n cap,ux]).run P w=.ok (.slice (some ⟨w.heap.size,0,none⟩) (n+m) (grownCap w (n+m) cap e)) (w.drew.alloc (.cells ((G6++news).toArray++Builtin.zeroCells z.cells (grownCap w (n+m) cap e - (n+m))) e))
section
variable {P:Program} {w:World} {t tx ty e:TypeId} {inf:TypeInfo} {z:Value} (ht:P.underlying t=some (.slice e)) (hi:P.info? e=some inf) (hz:inf.zero=some z)
include ht hi hz
theorem W9 {ux:Value} {m:Nat} {news:List Value} (hs:Src P inf.size tx ux m news w):W8 P t tx ty e inf z w ux m news:=by
 refine ⟨fun hm hn=>?_,fun b off n cap h1 _ _ h2 h3=>run_append_room_src w t tx ty e inf ht hi b off n cap ux m news hs h1 h2 h3,fun base n cap G6 h1 h2 h3 h4=>?_⟩
 ·subst hm; subst hn;have hc:=hs.cells;rcases hs.kind with ⟨e',hk⟩ | hk<;>simp [Builtin.append_,run_underlying ht,run_underlying hk,sizeOf,typeInfo,hi,hs.len,hc]
 ·have hsm:(n+m)*1<=(n+m)*inf.bytes:=agT _ h4;exact run_append_grow_src w t tx ty e inf z ht hi hz base n cap G6 h1 ux m news hs h2 (by omega) (growslice_fits h2 h3)
theorem R7 {k kx:IntKind} (ny:P.underlying tx=some (.int k)) (ke:z.cells.size=inf.size) (cI:0 < inf.size) (m:Nat) (h1:∀ u∈z.cells.toList,u.oneCell'=true):W8 P t tx ty e inf z w (.int kx m) m (List.replicate m z.cells.toList).flatten:=by
 have hzc:Builtin.zeroCells z.cells m=(List.replicate m z.cells.toList).flatten.toArray:=by
  apply Array.ext';simp only [Builtin.zeroCells,agA,Array.toList_range];exact v8 z.cells m
 have wL:∀ u∈(List.replicate m z.cells.toList).flatten,u.oneCell'=true:=by
  intro u hu;simp only [agR,List.mem_replicate] at hu;obtain ⟨l,⟨_,rfl⟩,hu⟩:=hu;exact h1 u hu
 refine ⟨fun hm _=>?_,fun b off n cap h2 h3 Nf h4 h5=>?_,fun base n cap G6 h2 h3 h4 h5=>?_⟩
 ·subst hm;have Jk:IntKind.i64.wrap 0=0:=by rw [IntKind.wrap_i64]; rfl
  simp [Builtin.append_,run_underlying ht,run_underlying ny,sizeOf,typeInfo,hi,asInt,asIntOf,Jk]
 ·have hsm:(n+m)*1<=(n+m)*inf.bytes:=agT _ Nf;have hw:IntKind.i64.wrap (m:Int)=m:=by rw [IntKind.wrap_i64]; omega
  have ahn:¬ ((m:Int) < 0):=by omega
  have hmb:m*inf.bytes<=140737488355328:=agf (adl _ (Nat.le_add_left m n)) h3;have R8:¬ (281474976710656 < (m:Int)*(inf.bytes:Int)):=by
   rw [<- Int.natCast_mul];omega
  have cu:=run_storeCells_cells (P:=P) b (off+n*inf.size) (List.replicate m z.cells.toList).flatten 0 w (by simpa using h4) (by simpa using h5) wL
  simp only [agF] at cu;by_cases hm:m=0
  ·subst hm;simp only [af5,List.flatten_nil] at cu ⊢;have Jk:IntKind.i64.wrap 0=0:=by rw [IntKind.wrap_i64]; rfl
   simp at h2;simp [Builtin.append_,run_underlying ht,run_underlying ny,sizeOf,typeInfo,hi,asInt,asIntOf,Jk,h2,storeCells];rfl
  ·have hns:¬ (m*inf.size=0):=Nat.mul_ne_zero hm (by omega)
   simp [Builtin.append_,run_underlying ht,run_underlying ny,sizeOf,typeInfo,zeroValue,hi,hz,asInt,asIntOf,hw,ahn,R8,h2,hns,hzc,Addr.add_lit,cu]
 ·have hsm:(n+m)*1<=(n+m)*inf.bytes:=agT _ h5;have lQ:=growslice_fits h3 h4;have hmb:m*inf.bytes<=140737488355328:=agf (adl _ (Nat.le_add_left m n)) h4;by_cases hm:m=0
  ·subst hm;have Jk:IntKind.i64.wrap 0=0:=by rw [IntKind.wrap_i64]; rfl
   simp only [agF] at lQ h3 hsm h4;have aho:¬ (281474976710656 < Builtin.nextslicecap n cap*inf.bytes):=by omega
   have h63:¬ (9223372036854775807 < (n:Int)):=by omega
   have hn:¬ (n<=cap):=by omega
   simp [Builtin.append_,run_underlying ht,run_underlying ny,sizeOf,typeInfo,zeroValue,hi,hz,asInt,asIntOf,Jk,hn,h63,aho,Question.forced,h2,newRow,grownCap]
  ·have:=Lib.run_append_grow_zeros w t tx ty e inf z kx k ht ny hi hz base n cap G6 h2 m (by omega) cI h3 (by omega) (by omega) lQ
   rw [this,hzc]
   congr 3
   apply Array.ext';simp
end
def pv (x:Option (Nat × Nat)) (s:Nat) (ts:List T):List T:=
 match x with
 | none=>ts
 | some (l,m)=>(ts.drop (l*s)).take (m*s)
theorem Um (x:Option (Nat × Nat)) (s n:Nat) (ts:List T):aX (pv x s ts)=(trim x s n (aX ts)).2:=by
 cases x with
 | none=>rfl
 | some p=>simp only [pv,trim,vR,vS]
theorem Ng {w:World} {X:Bool->Nat->Prop} {s n cap:Nat} {a:Option (Nat × Nat)} {ts:List T} (hs:bA w X (.own s n cap a ts)) {x:Option (Nat × Nat)} {u:Value} (hr:eL x (.own s n cap a ts) u):
  ∃ cap' a',u=tK a' (trim x s n (aX ts)).1 cap'/\bA w X (.own s (trim x s n (aX ts)).1 cap' a' (pv x s ts)):=by
 cases x with
 | none=>
  simp only [eL,sn,T.er] at hr;exact ⟨cap,a,hr,hs⟩
 | some p=>
  obtain ⟨l,m⟩:=p;simp only [eL,sn,T.er,T.val,tK,Value.slice.injEq] at hr;obtain ⟨h1,base,C,k,⟨h2,_,h3⟩,h4,rfl,h5⟩:=hr;subst h2; subst h3;simp only [bA] at hs;obtain ⟨g1,g2,g3,g4⟩:=hs;refine ⟨cap - l,a.map fun p=>(p.1,p.2+k*s),?_,?_⟩
  ·simp only [tK,Option.map_map,trim]
   congr 1
   cases a<;>simp [eS]
  ·simp only [bA,trim,pv];refine ⟨by omega,?_,?_,?_⟩
   ·rw [acG,af1,g2];have:l*s+m*s<=n*s:=by rw [<- af2]; exact adl _ h1
    omega
   ·cases a with
    | none=>simp only at g3; simp only [ajz]; omega
    | some p=>
     obtain ⟨b,off⟩:=p;simp only [MD];obtain ⟨c,e,fz,k1,k2,k3,k4⟩:=g3;refine ⟨c,e,fz,k1,k2,?_,?_⟩
     ·rcases h5 with h5 | h5
      ·rw [h5];have:k*s<=cap*s:=adl _ h4;omega
      ·subst h5;have:k*s+(cap - k)*s=cap*s:=by rw [<- af2]; congr 1; omega
       omega
     ·intro j u hj;rw [cz,ag6,ag5,<- cz,ael] at hj;split at hj
      ·rename_i cK;rw [aen] at hj;have hm:m≠0:=fun e=>by simp [e] at cK
       have:k=l:=by omega
       subst this;rw [adJ];exact k4 _ _ hj
      ·simp at hj
   ·rw [bY] at g4 ⊢;exact fun t ht=>g4 t (List.mem_of_mem_drop (agN ht))
theorem PG {w:World} {X:Bool->Nat->Prop}:∀ {ts:List T},bC w X ts->(aX ts).all dY=true->bZ (Ext w X) (aX ts) (ax ts):=by
 intro ts
 induction ts with
 | nil=>intro _ _; exact .nil
 | cons t ts ih=>
  intro hs hf;simp only [bC] at hs;simp only [aX,TO,wX] at hf;refine .cons ?_ (ih hs.2 hf.2);cases t with
  | v d u=>exact hs.1
  | own s n cap a cs=>simp [T.er,dY] at hf
theorem Nh {d:D} (h:dY d=true):cM d=true:=by
 cases d<;>first | rfl | simp [dY] at h
section
variable {P:Program} {w:World}
theorem Ar {sz:Nat} {tx e':TypeId} (hk:P.underlying tx=some (.slice e')) {base:Option Addr} {n cap:Nat} {news:List Value} (hl:news.length=n*sz) (cI:0 < sz)
  (hm:news=[]∨∃ b off,base=some ⟨b,off,none⟩/\∀ (j:Nat) (v:Value),news[j]?=some v->w.cell? ⟨b,off+j,none⟩=some v) (h1:∀ v∈news,v.oneCell'=true):Src P sz tx (.slice base n cap) n news w:=by
 by_cases hn:n=0
 ·subst hn;have:news=[]:=ac9.1 (by rw [hl]; simp)
  subst this;cases base with
  | none=>exact Src.ofNil w hk cap
  | some a=>exact Src.ofSlice w hk a 0 cap [] (by simp) (by simp) (by simp)
 ·rcases hm with rfl | ⟨b,off,rfl,hm⟩
  ·have:n*sz=0:=by rw [<- hl]; rfl
   rcases Nat.mul_eq_zero.1 this with h | h<;>omega
  ·exact Src.ofSlice w hk _ n cap news hl (fun j u hj=>by rw [eS]; exact hm j u hj) h1
theorem uR {c:cn} (aw:ey c P) {tx:TypeId} (h:(match c.ty tx with | some ⟨.slice _,_,_,_⟩=>true | _=>false)=true):∃ e',P.underlying tx=some (.slice e'):=by
 split at h
 ·rename_i e _ _ _ heq;obtain ⟨d,h1,h2⟩:=(aw.ty _ _ heq).desc;simp only [ly] at h2;subst h2;exact ⟨e,h1⟩
 ·simp at h
end
section
variable {P:Program} {c:cn} (aw:ey c P) {C:Ctx} {H:List T} {w:World} {st st':St} {aJ:List (Array Value)} {S:List (Nat × RT)}
include aw
theorem Un (h:Rel C H w st aJ S) {d:D} {u:Value} (hd:ck w (af C w S H) S d u) {flat:Bool} {sz:Nat} (cI:0 < sz) {zs:List D} (hint:∀ k n,d≠.int k n) {ys:List D} {m:Nat} (he:elems st flat zs sz d=some (ys,m,st')) {tx:TypeId} (ny:GU c tx d=true):
  ∃ Ys S',Rel C (Ys++H) w st' aJ S'/\aX Ys=ys/\Ys.length=m*sz/\Src P sz tx u m (ax Ys) w/\st'.of=st.of/\st'.tm=st.tm/\st'.up=st.up:=by
 have ext:∀ {g:Bool} {s n:Nat} {cs:List D},Ext w (af C w S H) (.sl (some g) s n cs) u->s=sz->cs.all cM=true->(∃ e',P.underlying tx=some (.slice e'))->
   ∃ Ys S',Rel C (Ys++H) w st aJ S'/\aX Ys=cs/\Ys.length=n*sz/\Src P sz tx u n (ax Ys) w:=by
  intro g s n cs hx hs hc ⟨e',hk⟩;subst hs;simp only [Ext] at hx;obtain ⟨base,cap,us,rfl,h1,h2,h3,h4⟩:=hx;have dM:=(gY _ _).1 h3;obtain ⟨Ys,a1,a2,a3,a4⟩:=wK h dM;have wL:∀ v∈us,v.oneCell'=true:=by
   intro v hv;obtain ⟨i,hi⟩:=adA.1 hv;have cK:i < cs.length:=by rw [dM.len]; exact (aaa.1 hi).1
   obtain ⟨v',g1,g2⟩:=dM.get (ace cK);rw [hi,mN] at g1;subst g1;exact (G2 g2 (ab9.1 hc _ (acN cK))).1
  refine ⟨Ys,S,a1,a2,by rw [<- fm,a2,h2],?_⟩
  rw [a3];refine Ar hk (by rw [<- dM.len,h2]) cI ?_ wL
  rcases h4 with h4 | ⟨k,off,c0,e0,fz,rfl,_,g1,g2⟩
  ·left
   subst h4;cases dM;rfl
  ·exact .inr ⟨k,off,rfl,fun j v hj=>by simp [World.cell?,g1,g2 j v hj]⟩
 cases d with
 | int k n=>exact absurd rfl (hint k n)
 | str s=>
  simp only [elems] at he;split at he
  case isFalse=>simp at he
  rename_i qD;subst qD;simp only [mN,sF] at he;obtain ⟨rfl,rfl,rfl⟩:=he;have hu:u=.string s:=hd;subst hu;have dM:bZ (Ext w (af C w S H)) (s.data.toList.map dz) (byteCells s):=by
   refine dk (by simp [byteCells]) (fun i a b ha hb=>?_)
   simp only [byteCells,adp] at ha hb;cases hx:s.data.toList[i]? with
   | none=>simp [hx] at ha
   | some y=>
    simp only [hx,MD,mN] at ha hb;subst ha; subst hb;rfl
  obtain ⟨Ys,a1,a2,a3,a4⟩:=wK h dM;refine ⟨Ys,S,a1,a2,?_,?_,rfl,rfl,rfl⟩
  ·rw [<- bK,a3,byteCells_length,Nat.mul_one]
  ·rw [a3];refine Src.ofString w ?_ s;simp only [GU] at ny;split at ny
   ·rename_i heq;obtain ⟨d,h1,h2⟩:=(aw.ty _ _ heq).desc;simp only [ly] at h2;subst h2;exact h1
   ·simp at ny
 | nil s=>
  simp only [elems,mN,sF] at he;obtain ⟨rfl,rfl,rfl⟩:=he;have hu:u=.slice none 0 0:=hd;subst hu;obtain ⟨e',hk⟩:=uR aw ny;exact ⟨[],S,h,rfl,by simp,by simp only [ax]; exact Src.ofNil w hk 0,rfl,rfl,rfl⟩
 | sl g s n cs=>
  cases g with
  | none=>simp [elems] at he
  | some g=>
   simp only [elems] at he;split at he
   case isFalse=>simp at he
   rename_i hc;simp only [mN,sF] at he;obtain ⟨rfl,rfl,rfl⟩:=he;obtain ⟨Ys,S',a1,a2,a3,a4⟩:=ext hd hc.1 hc.2 (uR aw ny);exact ⟨Ys,S',a1,a2,a3,a4,rfl,rfl,rfl⟩
 | ref r q o x=>
  simp only [elems] at he;split at he
  ·rename_i s n cs hc;obtain ⟨R,l,t0,g1,g2,g3,g4,g5⟩:=iu h.rt hc;obtain ⟨cap,a,ts,rfl,rfl⟩:=uM g5.symm;have du:=qq h.mem g1 g2 g3 (g:=none) (s:=s) (n:=n) (cs:=aX ts) rfl;obtain ⟨cap',a',hu,LS⟩:=Ng du (hd _ g4);simp only [bA] at LS;obtain ⟨k1,k2,k3,k4⟩:=LS;split at he
   ·simp at he
   rename_i hss;simp only [ne_eq,ajI] at hss;subst hss;have cW:ax (pv x s ts)=[]∨∃ b off,a'.map (fun p=>(⟨p.1,p.2,none⟩:Addr))=some ⟨b,off,none⟩/\∀ (j:Nat) (v:Value),(ax (pv x s ts))[j]?=some v->w.cell? ⟨b,off+j,none⟩=some v:=by
    cases a' with
    | none=>
     left
     have:(pv x s ts).length=0:=by rw [k2]; simp only at k3; rw [k3.1]; simp
     rw [ac9.1 this]; rfl
    | some p=>exact .inr ⟨p.1,p.2,rfl,fun j v hj=>mo k3 hj⟩
   rw [<- Um] at he;split at he
   ·rename_i pw;split at he
    case isFalse=>simp at he
    rename_i hf;simp only [mN,sF] at he;obtain ⟨rfl,rfl,rfl⟩:=he;obtain ⟨Ys,b1,b2,b3,b4⟩:=wK h (PG k4 hf);obtain ⟨e',hk⟩:=uR aw ny;refine ⟨Ys,S,b1,b2,by rw [<- fm,b2,fm,k2],?_,rfl,rfl,rfl⟩
    rw [b3,hu];refine Ar hk (by rw [bK,k2]) cI cW (fun v hv=>?_)
    rw [cz] at hv;obtain ⟨t,ht,rfl⟩:=acv.1 hv;exact (mu ((bY _).1 k4 t ht) (Nh (ab9.1 hf t.er (by rw [eO]; exact acv.2 ⟨t,ht,rfl⟩)))).1
   ·split at he
    case h_2=>simp at he
    rename_i ys1 aP dA;split at he
    case isFalse=>simp at he
    rename_i gE;simp only [mN,sF] at he;obtain ⟨rfl,rfl,rfl⟩:=he;have oU:ay R.cs (q++[o])=some ts:=(C6 (bx:=R.box) g2 g3).2;have dM:bZ (bp w (af C w S H) S) (lC r (q++[o]) (off x*s) (aX (pv x s ts))) (ax (pv x s ts)):=by
     refine dk (by rw [pQ,fm,bK]) (fun i y v hy hv=>?_)
     rw [nv,ir] at hy;rw [fh] at hv;cases hx:(pv x s ts)[i]? with
     | none=>simp [hx] at hy
     | some t=>
      simp only [hx,MD,mN] at hy hv;subst hy; subst hv;refine pP h.mem g1 oU ?_;cases x with
      | none=>simp only [pv] at hx; simp only [off]; rw [Nat.zero_mul,aef]; exact hx
      | some p=>
       simp only [pv] at hx;rw [ael] at hx;split at hx
       ·rw [aen] at hx; exact hx
       ·simp at hx
    obtain ⟨Ys,S',b1,b2,b3,b4,b5,b6⟩:=EN h dM dA;obtain ⟨e',hk⟩:=uR aw ny;have dm:=b1.mem.hand;rw [dV] at dm;refine ⟨Ys,S',b1,b2,by rw [<- bK,b3,bK,k2],?_,b6.2.2,b6.1,b6.2.1⟩
    rw [b3,hu];refine Ar hk (by rw [bK,k2]) cI cW (fun v hv=>?_)
    rw [<- b3,cz] at hv;obtain ⟨t,ht,rfl⟩:=acv.1 hv;exact (mu ((bY _).1 dm.1 t ht) (ab9.1 gE t.er (by rw [<- b2,eO]; exact acv.2 ⟨t,ht,rfl⟩))).1
  ·rename_i g s n cs hc;split at he
   case isFalse=>simp at he
   rename_i mf;simp only [mN,sF] at he;obtain ⟨rfl,rfl,rfl⟩:=he;obtain ⟨R,l,t0,g1,g2,g3,g4,g5⟩:=iu h.rt hc;have du:=qq h.mem g1 g2 g3 g5.symm;have j9:t0.ft=[]:=by
    cases t0 with
    | v d u=>rfl
    | own s' n' cap a ts=>simp [T.er] at g5
   have hx:=BG (X':=af C w S H) (fun _ _ h=>h) false g5.symm du (by simp [j9]) (hd _ g4)
   obtain ⟨Ys,S',a1,a2,a3,a4⟩:=ext hx mf.1 mf.2 (uR aw ny);exact ⟨Ys,S',a1,a2,a3,a4,rfl,rfl,rfl⟩
  ·simp at he
 | _=>simp [elems] at he
theorem Xa (h:Rel C H w st aJ S) {d:D} {u:Value} (hd:ck w (af C w S H) S d u) {t ty e:TypeId} {inf:TypeInfo} {z:Value} (ht:P.underlying t=some (.slice e)) (hi:P.info? e=some inf) (hz:inf.zero=some z) {zs:List D} (ke:bZ QK zs z.cells.toList) (zp:zs.length=inf.size)
  (cI:0 < inf.size) {flat:Bool} {ys:List D} {m:Nat} (he:elems st flat zs inf.size d=some (ys,m,st')) {tx:TypeId} (ny:GU c tx d=true):
  ∃ Ys S',Rel C (Ys++H) w st' aJ S'/\aX Ys=ys/\Ys.length=m*inf.size/\W8 P t tx ty e inf z w u m (ax Ys)/\st'.of=st.of/\st'.tm=st.tm/\st'.up=st.up:=by
 by_cases hint:∃ k n,d=.int k n
 ·obtain ⟨k,n,rfl⟩:=hint;have hu:u=.int k n:=hd;subst hu;unfold elems at he;split at he
  all_goals (try (rename_i heq; simp at heq; done))
  all_goals (try (simp at he; done))
  rename_i n0 heq;simp only [D.int.injEq] at heq;obtain ⟨rfl,rfl⟩:=heq;split at he
  case isFalse=>simp at he
  rename_i hc;simp only [mN,sF] at he;obtain ⟨rfl,rfl,rfl⟩:=he;have acF:z.cells.size=inf.size:=by rw [<- zp,ke.len]; simp
  obtain ⟨ts,f1,f2,f3,f4⟩:=v7 ke n.toNat;obtain ⟨t0,e1,e2,e3,e4⟩:=MX ke;have hlen:ts.length=n.toNat*inf.size:=by
   have:=congrArg List.length f2;rw [bK] at this;rw [this,agS,agV,agB,agy,acF]
  have wL:∀ u∈z.cells.toList,u.oneCell'=true:=by
   intro u hu;rw [<- e2,cz] at hu;obtain ⟨t1,An,rfl⟩:=acv.1 hu;refine (mu ((bY _).1 (e4 w (fun _ _=>False)) t1 An) (ab9.1 hc.2 t1.er ?_)).1;rw [<- e1,eO];exact acv.2 ⟨t1,An,rfl⟩
  have ahp:∃ k',P.underlying tx=some (.int k'):=by
   simp only [GU] at ny;split at ny
   ·rename_i heq;obtain ⟨d,h1,h2⟩:=(aw.ty _ _ heq).desc;simp only [ly] at h2;subst h2;exact ⟨_,h1⟩
   ·simp at ny
  obtain ⟨k',Ni⟩:=ahp;have gN:∀ l:List T,ah l=[]->(∀ w X,bC w X l)->Rel C (l++H) w st aJ S:=by
   intro l Zz EV;have Cu:af C w S (l++H)=af C w S H:=by
    funext b k;simp only [af,aY,Zz,acw]
   obtain ⟨q1,⟨m1,m2,m3,m4⟩,q3,q4⟩:=h;refine ⟨q1,⟨by rw [aY,Zz]; exact m1,by rw [Cu]; exact m2,?_,by rw [aY,Zz]; exact m4⟩,by rw [Cu]; exact q3,⟨q4.os,q4.tape,q4.output,q4.size,q4.block,by rw [aY,Zz]; exact q4.iD,q4.par⟩⟩
   rw [dV,Cu];exact ⟨EV _ _,m3⟩
  refine ⟨ts,S,gN ts f3 f4,f1,hlen,?_,rfl,rfl,rfl⟩;rw [f2];have:=R7 (w:=w) (ty:=ty) ht hi hz Ni acF cI n.toNat wL (kx:=.i64)
  rwa [show ((n.toNat:Nat):Int)=n from Int.toNat_of_nonneg hc.1] at this
 ·obtain ⟨Ys,S',a1,a2,a3,a4,a5⟩:=Un aw h hd cI (fun k n e=>hint ⟨k,n,e⟩) he ny;exact ⟨Ys,S',a1,a2,a3,W9 ht hi hz a4,a5⟩
end
section
variable {P:Program} {c:cn} (aw:ey c P) {C:Ctx} {Hx:List T} {w:World} {st st':St} {vs:Array Value} {aJ:List (Array Value)} {S:List (Nat × RT)} (h:Rel C Hx w st (vs::aJ) S)
include aw h
theorem Uo {t tx ty:TypeId} {s x:D} {us ux:Value} (hs:ck w (af C w S Hx) S s us) (hx:ck w (af C w S Hx) S x ux) {d:Nat} (ht:d < vs.size) (hP:∀ p∈C.P0,p.1≠st.of+d) (ha:rF c st t tx (some d) s x=some st'):
  ∃ v w',(Builtin.append_ #[t,tx] ty #[us,ux]).run P w=.ok v w'/\(∀ r' R' b',lk S r'=some R'->R'.box=some b'->w'.heap[b']?=w.heap[b']?)/\∃ S',Rel C Hx w' st' (vs.setIfInBounds d v::aJ) S':=by
 unfold rF at ha;split at ha
 case h_2=>simp at ha
 rename_i e tsz tby tz fK;split at ha
 case h_2=>simp at ha
 rename_i ei gZ;split at ha
 case isFalse=>simp at ha
 rename_i ny;split at ha
 case h_2=>simp at ha
 rename_i n cs aP qC;split at ha
 case h_2=>simp at ha
 rename_i ys m cj fr;split at ha
 case isFalse=>simp at ha
 rename_i hb;obtain ⟨cI,ZA,lQ⟩:=hb;obtain ⟨inf,h1,h2,h3,z,h4,h5⟩:=(aw.ty _ _ gZ).info;have zp:=(aw.ty _ _ gZ).len;obtain ⟨dd,g1,g2⟩:=(aw.ty _ _ fK).desc;simp only [ly] at g2;subst g2;have ke:z.cells.size=ei.size:=by rw [<- zp,h5.len]; simp
 unfold target at qC;split at qC
 case h_2=>simp at qC
 rename_i s0 n0 cs0 Zx dA;split at qC
 case isFalse=>simp at qC
 rename_i T0;subst T0;simp only [mN,sF] at qC;obtain ⟨rfl,rfl,rfl⟩:=qC;have ri:bp w (af C w S Hx) S s us:=by cases s<;>first | exact hs | (simp [iS] at dA; done)
 obtain ⟨T1,S1,a1,a2,a3,a4,a5,a6,_⟩:=ui h ri dA;obtain ⟨cap,a,ts,rfl,rfl⟩:=uM a2;have qz:∀ r' R' b',lk S r'=some R'->R'.box=some b'->b' < w.heap.size/\∀ p,a=some p->b'≠p.1:=by
  intro r' R' b' eF fD;obtain ⟨R1,e1,e2,_⟩:=a5.fwd r' R' eF;have lA:b'∈cA S1:=by
   obtain ⟨A,B,e3,_⟩:=kv e1;rw [e3];simp [RT.ft,e2.trans fD]
  refine ⟨a1.mem.lt b' (sE.2 (.inl lA)),fun p hp e=>?_⟩;subst hp;exact (zX.1 a1.mem.nd).2.2 b' lA p.1 (by simp [ah,T.ft,fC]) e
 obtain ⟨Ys,S2,b1,rfl,b3,b4,b5,b6,b7⟩:=Xa (ty:=ty) aw a1 (pS a4 hx) g1 h1 h4 h5 (zp.trans h2.symm) (by rw [h2]; exact cI) (by rw [h2]; exact fr) ny
 rw [h2] at b3;have pW:cj.of=st.of:=b5.trans a6.2.2;have dm:=b1.mem.hand;rw [dV] at dm;obtain ⟨hY,hT⟩:=dm;simp only [bC] at hT;have hT:=hT.1;have hT0:=hT;simp only [bA] at hT;obtain ⟨k1,k2,k3,k4⟩:=hT;have EW:n0+m<=140737488355328:=by
  have:(n0+m)*1<=(n0+m)*ei.bytes:=agT _ ZA;omega
 have MO:us=.slice (a.map fun p=>⟨p.1,p.2,none⟩) n0 cap:=a3.symm;have eR:(ah (Ys++[T.own ei.size n0 cap a ts])).Nodup:=by
  have h9:=(zX.1 b1.mem.nd).2.1;rw [show Ys++T.own ei.size n0 cap a ts::Hx=(Ys++[T.own ei.size n0 cap a ts])++Hx by simp,aY] at h9
  exact (zX.1 h9).1
 by_cases sq:n0+m<=cap
 ·
  cases a with
  | none=>
   simp only at k3;obtain ⟨rfl,rfl⟩:=k3;have w7:m=0:=by omega
   subst w7;have xd:ts=[]:=ac9.1 (by rw [k2]; simp)
   have hYs:Ys=[]:=ac9.1 (by rw [b3]; simp)
   subst xd; subst hYs;have eD:(Builtin.append_ #[t,tx] ty #[us,ux]).run P w=.ok (.slice none 0 0) w:=by
    rw [MO];exact b4.nil rfl rfl
   refine ⟨_,_,eD,fun _ _ _ _ _=>rfl,?_⟩;simp only [acw,aX,acg,agF] at b1 ha;refine rO (Hs:=[T.own ei.size 0 0 none []]) (H:=Hx) (R:=⟨none,[T.own ei.size 0 0 none []]⟩) b1 (Grown.refl w) (by simp [RT.ft,ah,T.ft,fC]) (by simp [RT.ft,ah,T.ft,fC]) (fun S' cu dT=>⟨trivial,fun y hy=>?_⟩) ht (by rw [pW]; exact hP) (d:=fun d=>.ref d [] 0 none) ?_ (by simpa [aX,T.er] using ha)
   ·simp only [adU] at hy;subst hy;simp [jg,bA,bC]
   ·intro S' X pT;simp only [ck,gp,bp];intro y hy;simp only [cr,pT,ay,acH,mN] at hy;subst hy;simp [eL,sn,T.er,T.val,tK]
  | some p=>
   obtain ⟨b,off⟩:=p;have hmul:n0*ei.size+m*ei.size<=cap*ei.size:=by rw [<- af2]; exact adl _ sq
   obtain ⟨c1,_⟩:=Uj (H:=Hx) b1 b3 sq;have eD:(Builtin.append_ #[t,tx] ty #[us,ux]).run P w=.ok (.slice (some ⟨b,off,none⟩) (n0+m) cap) (w.setCells b (off+n0*ei.size) (ax Ys)):=by
    rw [MO];rw [<- h2];refine b4.room b off n0 cap sq (by rw [h3]; exact lQ) (by rw [h3]; exact ZA) (fun j hj=>?_) (fun j hj=>?_)
    ·rw [bK,b3] at hj;rw [h2,adJ];obtain ⟨u,hu⟩:=EB (j:=n0*ei.size+j) k3 (by omega)
     rw [hu]; rfl
    ·rw [bK,b3] at hj;rw [h2,adJ];exact EA k3 (by omega)
   refine ⟨_,_,eD,fun r' R' b' eF fD=>?_,?_⟩
   ·obtain ⟨c0,e0,fz0,g1,g2,g3,g4⟩:=k3;exact (iE (ax Ys) (off+n0*ei.size) w g1 (by rw [bK,b3]; omega)).choose_spec.2.2.2.2.1 b' ((qz r' R' b' eF fD).2 _ rfl)
   rw [<- pA] at ha;refine rO (Hs:=[T.own ei.size (n0+m) cap (some (b,off)) (ts++Ys)]) (H:=Hx) (R:=⟨none,[T.own ei.size (n0+m) cap (some (b,off)) (ts++Ys)]⟩) c1 (Grown.refl _) (fun k hk=>.inl (by simpa [RT.ft] using hk)) ?_ (fun S' cu dT=>⟨trivial,fun y hy=>?_⟩) ht (by rw [pW]; exact hP) (d:=fun d=>.ref d [] 0 none) ?_ (by simpa [aX,T.er] using ha)
   ·have:=(zX.1 c1.mem.nd).2.1;rw [<- aeg,aY] at this
    simpa [RT.ft] using (zX.1 this).1
   ·simp only [adU] at hy;subst hy;have:=c1.mem.hand;simp only [bC] at this;exact dL cu _ this.1 (fun _ _=>rfl)
   ·intro S' X pT;simp only [ck,gp,bp];intro y hy;simp only [cr,pT,ay,acH,mN] at hy;subst hy;simp [eL,sn,T.er,T.val,tK]
 ·
  have hold:(Builtin.firstCells inf.size n0 (.slice (a.map fun p=>(⟨p.1,p.2,none⟩:Addr)) n0 cap)).run P w.drew=.ok (ax ts).toArray w.drew:=by
   cases a with
   | none=>
    simp only at k3;have xd:ts=[]:=ac9.1 (by rw [k2,k3.1]; simp)
    subst xd;exact run_firstCells_none _ _ _ _ _
   | some p=>
    exact run_firstCells_some w.drew inf.size n0 _ _ _ (ax ts) (by rw [bK,k2,h2]) (fun j v hj=>by
     rw [eS];have:=mo k3 hj
     simpa using this)
  have eD:=b4.grow (a.map fun p=>(⟨p.1,p.2,none⟩:Addr)) n0 cap (ax ts) hold (by omega) (by rw [h3]; exact lQ) (by rw [h3]; exact ZA)
  rw [<- MO] at eD;refine ⟨_,_,eD,fun r' R' b' eF fD=>((Grown.drew w).trans (Grown.alloc _ _)).bB b' (qz r' R' b' eF fD).1,?_⟩;have ae0:n0+m<=maxLen:=by
   have:(n0+m)*1<=(n0+m)*ei.bytes:=agT _ ZA;unfold maxLen;omega
  have qv:n0+m<=grownCap w (n0+m) cap e/\grownCap w (n0+m) cap e<=9223372036854775807:=⟨grownCap_ge w (n0+m) cap e,by have:=grownCap_le_maxLen w (n0+m) cap e ae0; unfold maxLen at this; omega⟩
  rw [<- pA] at ha;have hlen:(ts++Ys).length=(n0+m)*ei.size:=by rw [aap,k2,b3,af2]
  refine G0 (Hs:=Ys++[T.own ei.size n0 cap a ts]) (H:=Hx) (by simpa using b1) ((Grown.drew w).trans (Grown.alloc _ _)) (ts:=ts++Ys) (b:=w.heap.size) ⟨acD _,by rw [iz]; exact Nat.lt_succ_self _⟩ ?_ ?_ ?_ qv hlen ?_ ht (by rw [pW]; exact hP) ha
  ·rw [dV,acz];exact ⟨k4,hY⟩
  ·intro k hk;rw [aY] at hk;simp only [aY,ah,T.ft,acg,sE];rcases sE.1 hk with hk | hk
   ·exact .inr (.inr hk)
   ·exact .inl hk
  ·have p1:(ah (Ys++[T.own ei.size n0 cap a ts])).Perm (fC a++ah (ts++Ys)):=by
    refine adV.2 fun a=>?_;simp only [aY,ah,T.ft,agb,List.count_nil];omega
   exact (zX.1 (p1.nodup_iff.1 eR)).2.1
  ·refine jy w.drew _ e ?_ (fun j u hj=>?_)
   ·simp only [agK,agL,aap,bK,k2,b3,size_zeroCells,ke,<- af2];refine adl _ ?_;omega
   ·rw [sH] at hj;have cK:=(aaa.1 hj).1;rw [agh (by simpa using cK)]
    simpa using hj
end
theorem fold_push:∀ (ns:List Int) (s:ByteArray),(ns.foldl (fun r n=>r.push (UInt8.ofNat n.toNat)) s).data.toList=s.data.toList++ns.map (fun n=>UInt8.ofNat n.toNat)
 | [],s=>by simp
 | n::ns,s=>by
  rw [List.foldl_cons,fold_push ns];simp [ByteArray.push]
theorem Xb {w:World} {X:Bool->Nat->Prop}:∀ {cs:List D} {us:List Value} {bs:List UInt8},bZ (ach w X) cs us->lp byteOf cs=some bs->∃ ns:List Int,us=ns.map (Value.int .u8)/\bs=ns.map (fun n=>UInt8.ofNat n.toNat):=by
 intro cs
 induction cs with
 | nil=>
  intro us bs h hm;cases h;simp only [lp,mN] at hm;subst hm;exact ⟨[],rfl,rfl⟩
 | cons d cs ih=>
  intro us bs h hm;cases h with
  | cons h1 h2=>
  simp only [lp] at hm;split at hm
  case h_2=>simp at hm
  rename_i b hb;split at hm
  case h_2=>simp at hm
  rename_i Zg wa;simp only [mN] at hm;subst hm;obtain ⟨ns,rfl,rfl⟩:=ih h2 wa;unfold byteOf at hb;split at hb
  case h_2=>simp at hb
  rename_i n;simp only [mN] at hb;subst hb;refine ⟨n::ns,?_,rfl⟩;simp only [ac6,acS,and_true];rcases h1 with h1 | ⟨t,he,rfl,h1⟩
  ·exact h1
  ·cases t with
   | own s n cap a cs=>simp [T.er] at he
   | v d u=>
    simp only [T.er] at he;simp only [bA,<- he] at h1;exact h1
section
variable {P:Program} {c:cn} (aw:ey c P) {C:Ctx} {Hx:List T} {w:World} {st st':St} {vs:Array Value} {aJ:List (Array Value)} {S:List (Nat × RT)} (h:Rel C Hx w st (vs::aJ) S)
include aw
theorem xe {t:TypeId} {ti:TI} (ht:c.ty t=some ti):∃ d,P.underlying t=some d/\ly P ti.ty d:=(aw.ty _ _ ht).desc
include h
theorem PH {src dst e:TypeId} (hs:P.underlying src=some (.slice e)) (he:P.underlying e=some (.int .u8)) (hd:P.underlying dst=some .string) {x:D} {u:Value} (hx:ck w (af C w S Hx) S x u) {g:Option Bool} {n:Nat} {cs:List D} (gx:st.pN x=some (g,1,n,cs)) {bs:List UInt8} (hm:lp byteOf cs=some bs):
  ∀ w2,dH w w2->(convert src dst u).run P w2=.ok (.string ⟨bs.toArray⟩) w2:=by
 have _:=aw;intro w2 nw;obtain ⟨base,cap,rfl,h1,h2,h3⟩:=(LP h.rt h.mem hx gx).ok;rw [run_convert_bytes_string w2 src dst e base n cap hs he hd];rcases h3 with rfl | ⟨b,off,cc,ee,fz,us,rfl,g1,g2,g3⟩
 ·simp only [lp,mN] at hm;subst hm;have hn:n=0:=by simpa using h2.symm
  subst hn;cases base with
  | none=>rfl
  | some a=>exact run_bytesToString w2 a 0 cap [] rfl
 ·obtain ⟨ns,rfl,rfl⟩:=Xb g2 hm;have hl:ns.length=n:=by have:=g2.len; rw [h2] at this; simpa using this.symm
  have yG:=run_loadCells_list (P:=P) w2 ⟨b,off,none⟩ (ns.map (Value.int .u8)) (fun j v hj=>by
   rw [eS];refine nw.cell ?_;simp [World.cell?,g1,g3 j v hj])
  rw [aeR,hl] at yG;rw [run_bytesToString w2 _ n cap ns yG]
  congr 2
  have:=fold_push ns ByteArray.empty;have h4:(ns.foldl (fun r n=>r.push (UInt8.ofNat n.toNat)) ByteArray.empty).data=(ns.map (fun n=>UInt8.ofNat n.toNat)).toArray:=by
   apply Array.ext';rw [this];simp
  generalize ns.foldl (fun r n=>r.push (UInt8.ofNat n.toNat)) ByteArray.empty=z at h4 ⊢;cases z;simp only at h4;rw [h4]
end
section
variable {P:Program} {c:cn} (aw:ey c P) {C:Ctx} {w:World} {st:St} {S:List (Nat × RT)} {X:Bool->Nat->Prop}
include aw
theorem Nj {t:TypeId} {x d':D} {u:Value} {k:IntKind} {i:Int} (hx:ck w X S x u) (h:wZ c t x i=some d'):∃ r,(∀ w:World,(Instr.index t u (.int k i)).run P w=.ok r w)/\ck w X S d' r:=by
 unfold wZ at h;split at h
 ·rename_i _ _ _ s ht;obtain ⟨d,h1,h2⟩:=(aw.ty _ _ ht).desc;simp only [ly] at h2;subst h2;have hu:u=.string s:=hx;subst hu;obtain ⟨g1,g2,g3⟩:=mq h;cases hb:s.data.toList[i.toNat]? with
  | none=>simp [hb] at g3
  | some b=>
   simp only [hb,MD,mN] at g3;subst g3;have cK:i.toNat < s.size:=by omega
   have iF:s[i.toNat]?=some b:=by
    have h5:s.data[i.toNat]?=some b:=by rw [<- agt]; exact hb
    rw [getElem?_pos s i.toNat cK];rw [agu cK] at h5;exact h5
   refine ⟨.int .u8 b.toNat,?_,rfl⟩;intro w;simp only [Instr.index,asIntOf,Sem.run_bind,Sem.run_pure,Result.andThen_ok,run_underlying h1,if_pos g1,iF]
 ·rename_i n e _ _ _ cs ht;split at h
  case h_2=>simp at h
  rename_i ei he;obtain ⟨d,h1,h2⟩:=(aw.ty _ _ ht).desc;simp only [ly] at h2;subst h2;obtain ⟨us,rfl,hu⟩:=hx;obtain ⟨g1,g2,g3⟩:=mq h;have cI:=fun w=>(aw.ty _ _ he).sz w;have Cy:=fun w=>(aw.ty _ _ he).agg w;have hir:(0<=i/\i < (n:Int)):=⟨g1,g2⟩;split at g3
  ·rename_i ez;simp only [mN] at g3;subst g3;refine ⟨.agg (us.extract (i.toNat*ei.size) (i.toNat*ei.size+ei.size)),?_,?_⟩
   ·intro w; simp [Instr.index,asIntOf,run_underlying h1,hir,cI,part,Cy,ez]
   ·refine ⟨_,rfl,?_⟩;have:=(hu.drop (i.toNat*ei.size)).take ei.size
    simpa [Array.toList_extract,List.extract] using this
  ·rename_i ez;obtain ⟨v,g4,g5⟩:=hu.get g3;refine ⟨v,?_,mm g5⟩;rw [agt] at g4;simp only [Bool.not_eq_true] at ez;intro w; simp [Instr.index,asIntOf,run_underlying h1,hir,cI,part,Cy,ez,g4]
 ·simp at h
end
theorem Rel.yH {C:Ctx} {H:List T} {w:World} {st:St} {a:Act} {aJ:List (Array Value)} {S:List (Nat × RT)} (h:Rel C H w st (a.tmps::aJ) S) {dst:Option Nat} (ht:∀ t,dst=some t->t < a.tmps.size) {d:D} {v:Value} (hv:ck w (af C w S H) S d v):
  Rel C H w (st.put dst d) ((a.put dst v).tmps::aJ) S:=by
 cases dst with
 | none=>exact h
 | some t=>exact h.put (ht t rfl) hv
theorem iG (st:St) (dst:Option Nat) (d:D):(st.put dst d).of=st.of:=by cases dst<;>rfl
theorem uk {st st':St} {dst:Option Nat} {cs:List D} {d:Nat->D} (h:st.root dst cs d=some st'):st'.of=st.of/\∃ t,dst=some t:=by
 cases dst with
 | none=>simp [St.root] at h
 | some t=>
  simp only [St.root,mN] at h;subst h;exact ⟨rfl,t,rfl⟩
theorem cH (a:Act) (dst:Option Nat) (v:Value):(a.put dst v).tmps.size=a.tmps.size/\(a.put dst v).defers=a.defers:=by
 cases dst<;>simp [Act.put]
section
variable {P:Program} {c:cn} (aw:ey c P) {C:Ctx} {Hx:List T} {w:World} {st st':St} {vs:Array Value} {aJ:List (Array Value)} {S:List (Nat × RT)} (h:Rel C Hx w st (vs::aJ) S)
include aw h
theorem Nk {src dst:TypeId} {x d:D} {u:Value} (hx:ck w (af C w S Hx) S x u) (hc:vO c st src dst x=some (d,none)):∃ r,(∀ w2,dH w w2->(convert src dst u).run P w2=.ok r w2)/\ck w (af C w S Hx) S d r:=by
 unfold vO at hc;split at hc
 case h_2=>simp at hc
 rename_i si di ZB Up;obtain ⟨ds,qD,sU⟩:=xe aw ZB;obtain ⟨dd,As,oz⟩:=xe aw Up;split at hc
 ·rename_i k _ n hk;rw [hk] at oz;simp only [ly] at oz;subst oz;simp only [mN,sF,and_true] at hc;subst hc;have hu:=gw hx;subst hu;refine ⟨.int k (k.wrap n),?_,TV _ _⟩;intro w2 _; simp [convert,run_underlying qD,run_underlying As,Conv.intToInt]
 ·rename_i n hk;rw [hk] at oz;simp only [ly] at oz;subst oz;simp only [mN,sF,and_true] at hc;subst hc;have hu:=gw hx;subst hu;refine ⟨.string (Utf8.encode n),?_,tvs _⟩;intro w2 _; simp [convert,run_underlying qD,run_underlying As,Conv.intToString]
 ·rename_i s hk;rw [hk] at oz;simp only [ly] at oz;subst oz;simp only [mN,sF,and_true] at hc;subst hc;have hu:=Ab hx;subst hu;refine ⟨.string s,?_,tvs _⟩;intro w2 _; simp [convert,run_underlying qD,run_underlying As]
 ·rename_i e hk Nl _ _;rw [hk] at oz;rw [Nl] at sU;simp only [ly] at oz sU;subst oz; subst sU;split at hc
  case h_2=>simp at hc
  rename_i he;obtain ⟨de,he1,he2⟩:=xe aw he;simp only [ly] at he2;subst he2;split at hc
  case h_2=>simp at hc
  rename_i g s n cs gx;split at hc
  case isFalse=>simp at hc
  rename_i hs;subst hs;split at hc
  case h_2=>simp at hc
  rename_i bs hm;simp only [mN,sF,and_true] at hc;subst hc;exact ⟨_,PH aw h qD he1 As hx gx hm,tvs _⟩
 ·simp at hc
theorem Uq {src dst:TypeId} {x d:D} {cs:List D} {u:Value} (hx:ck w (af C w S Hx) S x u) (hc:vO c st src dst x=some (d,some cs)) {t:Nat} (ht:t < vs.size) (hP:∀ p∈C.P0,p.1≠st.of+t)
  (hr:st.root (some t) cs (fun d=>.ref d [] 0 none)=some st'):∃ v w',(convert src dst u).run P w=.ok v w'/\∃ S',Rel C Hx w' st' (vs.setIfInBounds t v::aJ) S':=by
 unfold vO at hc;split at hc
 case h_2=>simp at hc
 rename_i si di ZB Up;obtain ⟨ds,qD,sU⟩:=xe aw ZB;obtain ⟨dd,As,oz⟩:=xe aw Up;split at hc
 ·simp at hc
 ·simp at hc
 ·simp at hc
 ·split at hc
  ·split at hc
   ·split at hc
    ·split at hc<;>simp at hc
    ·simp at hc
   ·simp at hc
  ·simp at hc
 ·simp at hc
end
theorem Ur {st st':St} {d d':D} (h:iS st d=some (d',st')):st'.of=st.of:=by
 unfold iS at h;split at h<;>try (simp only [mN,sF] at h; obtain ⟨_,rfl⟩:=h; rfl)
 ·split at h
  ·split at h
   ·rename_i aP hs;simp only [mN,sF] at h;obtain ⟨_,rfl⟩:=h;unfold St.gI at hs;split at hs
    ·split at hs
     ·simp only [mN] at hs;subst hs; rfl
     ·simp at hs
    ·simp at hs
   ·simp at h
  ·simp only [mN,sF] at h; obtain ⟨_,rfl⟩:=h; rfl
  ·simp at h
 ·simp at h
theorem Nn:∀ {ds ds':List D} {st st':St},re st ds=some (ds',st')->st'.of=st.of
 | [],ds',st,st',h=>by simp only [re,mN,sF] at h; obtain ⟨_,rfl⟩:=h; rfl
 | d::ds,ds',st,st',h=>by
  simp only [re] at h;split at h
  case h_2=>simp at h
  rename_i d1 aP h1;split at h
  case h_2=>simp at h
  rename_i gn cj h2;simp only [mN,sF] at h;obtain ⟨_,rfl⟩:=h;exact (Nn h2).trans (Ur h1)
theorem Us {c:cn} {st st':St} {t tx:TypeId} {dst:Option Nat} {s x:D} (h:rF c st t tx dst s x=some st'):∃ cj:St,∃ cs:List D,cj.of=st.of/\cj.root dst cs (fun d=>.ref d [] 0 none)=some st':=by
 unfold rF at h;split at h
 case h_2=>simp at h
 split at h
 case h_2=>simp at h
 split at h
 case isFalse=>simp at h
 split at h
 case h_2=>simp at h
 rename_i n cs aP qC;split at h
 case h_2=>simp at h
 rename_i ys m cj fr;split at h
 case isFalse=>simp at h
 refine ⟨cj,_,?_,h⟩;have h1:aP.of=st.of:=by
  unfold target at qC;split at qC
  ·rename_i s' n' cs' Ck dA;split at qC
   ·simp only [mN,sF] at qC;obtain ⟨_,_,rfl⟩:=qC;exact Ur dA
   ·simp at qC
  ·simp at qC
 have h2:cj.of=aP.of:=by
  unfold elems at fr;split at fr<;>try (simp at fr; done)
  ·split at fr<;>simp only [mN,sF,reduceCtorEq] at fr
   obtain ⟨_,_,rfl⟩:=fr; rfl
  ·split at fr<;>simp only [mN,sF,reduceCtorEq] at fr
   obtain ⟨_,_,rfl⟩:=fr; rfl
  ·simp only [mN,sF] at fr;obtain ⟨_,_,rfl⟩:=fr; rfl
  ·split at fr<;>simp only [mN,sF,reduceCtorEq] at fr
   obtain ⟨_,_,rfl⟩:=fr; rfl
  ·split at fr
   ·split at fr
    ·simp at fr
    ·split at fr
     ·split at fr<;>simp only [mN,sF,reduceCtorEq] at fr
      obtain ⟨_,_,rfl⟩:=fr; rfl
     ·split at fr
      ·rename_i ys' st4 dA;split at fr<;>simp only [mN,sF,reduceCtorEq] at fr
       obtain ⟨_,_,rfl⟩:=fr;exact Nn dA
      ·simp at fr
   ·split at fr<;>simp only [mN,sF,reduceCtorEq] at fr
    obtain ⟨_,_,rfl⟩:=fr; rfl
   ·simp at fr
 exact h2.trans h1
theorem Ut (A:Addr) (i:Nat):(A.add i).block=A.block:=by
 obtain ⟨b,o,s⟩:=A;cases s<;>first | rfl | (simp only [Addr.add]; split<;>rfl)
theorem Kc (w:World) (a:Addr) (v:Value) {k:Nat} (hk:k≠a.block):(w.setCell a v).heap[k]?=w.heap[k]?:=by
 simp [World.setCell,ago,agU hk]
theorem uS {P:Program} {b:Nat}:∀ {us:List Value} {w w':World} {i:Nat},∀ A:Addr,A.block=b->(∃ c e fz,w.heap[b]?=some (.cells c e fz))->(storeCells A us i).run P w=.ok () w'->∀ k,k≠b->w'.heap[k]?=w.heap[k]?
 | [],w,w',i,A,hA,_,h,k,hk=>by
  simp only [storeCells,Sem.run_pure,Result.ok.injEq,true_and] at h;rw [h]
 | u::us,w,w',i,A0,Uu,⟨c,e,fz,hb⟩,h,k,hk=>by
  have step:∀ w1:World,(store (Addr.add A0 i) u).run P w=.ok () w1->(∃ c e fz,w1.heap[b]?=some (.cells c e fz))/\w1.heap[k]?=w.heap[k]?:=by
   intro w1 h1;have fo:(Addr.add A0 i).block=b:=by rw [Ut,Uu]
   generalize Addr.add A0 i=A at h1 fo;have Zn:∀ v m,∀ r,w.farStore P A v m≠.ok r:=by
    intro v m r;unfold World.farStore;rw [fo,hb];simp
   have main:u.oneCell'=true->(∃ c e fz,w1.heap[b]?=some (.cells c e fz))/\w1.heap[k]?=w.heap[k]?:=by
    intro h1c;rw [run_store P w A u _ h1c] at h1;split at h1
    ·split at h1
     ·simp at h1
     ·simp only [Result.ok.injEq,true_and] at h1;subst h1;refine ⟨?_,Kc w A u (by rw [fo]; exact hk)⟩
      simp only [World.setCell,ago,fo,if_true,hb,MD];exact ⟨_,_,_,rfl⟩
    ·split at h1
     ·rename_i r hr;exact absurd hr (Zn _ _ _)
     ·simp at h1
   cases u with
   | agg us=>simp [store,Sem.run] at h1
   | tuple us=>simp [store,Sem.run] at h1
   | _=>exact main rfl
  rw [storeCells,Sem.run_bind] at h;cases hs:(store (Addr.add A0 i) u).run P w with
  | ok _ w1=>
   rw [hs,Result.andThen_ok] at h;obtain ⟨h2,h3⟩:=step w1 hs;rw [uS A0 Uu h2 h k hk,h3]
  | halt x w1=>
   rw [hs] at h;simp [Result.andThen] at h
structure xj (o:Oper) (a:Act) (S:List (Nat × RT)) (w w':World):Prop where
 al:rh o=true->dH w w'
 ap:∀ cc,o.op=.call cc->cc.callee=.builtin .append->∀ r R b,lk S r=some R->R.box=some b->w'.heap[b]?=w.heap[b]?
 st:∀ t x y,o.op=.store t x y->∀ A,a.eval x=.pointer (some A)->(∃ c e fz,w.heap[A.block]?=some (.cells c e fz))->∀ k,k≠A.block->w'.heap[k]?=w.heap[k]?
theorem xj.refl (o:Oper) (a:Act) (S:List (Nat × RT)) (w:World):xj o a S w w:=⟨fun _=>dH.refl w,fun _ _ _ _ _ _ _ _=>rfl,fun _ _ _ _ _ _ _ _ _=>rfl⟩
theorem xj.alloc {o:Oper} {a:Act} {S:List (Nat × RT)} {w w':World} (h:dH w w') (h2:rh o=true):xj o a S w w':=⟨fun _=>h,fun cc e=>by simp [rh,e] at h2,fun t x y e=>by simp [rh,e] at h2⟩
theorem Uv {l:List (Nat × List D)} {S:List (Nat × RT)} (h:gC l S) {r:Nat} {R:List D} (hR:lk l r=some R):gC (pz l r R) S:=by
 intro j;by_cases hj:j=r
 ·subst hj; rw [gK,<- hR]; exact h j
 ·rw [pB _ _ hj]; exact h j
theorem G7 (z:Array Value) (m:Nat):(Builtin.zeroCells z m).toList=(List.replicate m z.toList).flatten:=by
 simp only [Builtin.zeroCells,agA,Array.toList_range];exact v8 z m
section
variable {P:Program} {c:cn} (aw:ey c P) {C:Ctx} {Hx:List T} {w:World} {st st':St} {o:Oper} {a:Act} {aJ:List (Array Value)} {S:List (Nat × RT)} {K:Act->World->Prop} {Q:Exit->Act->World->Prop}
 {cl:FuncId->List D->Option (D × List D)} {ci:FuncId->List D->Nat->St->Option (D × St)} {aC:FuncId}
include aw
theorem Xc {aJ:List (Array Value)} (h:Rel C Hx w st aJ S) {t ty:TypeId} {x:D} {u:Value} (hx:ck w (af C w S Hx) S x u) (hc:z8 c st t x=some st'):∃ w' S',(Builtin.clear_ #[t] ty #[u]).run P w=.ok (.tuple #[]) w'/\Rel C Hx w' st' aJ S'/\st'.of=st.of:=by
 unfold z8 at hc;split at hc
 case h_2=>simp at hc
 rename_i e tsz tby tz fK;obtain ⟨dd,h1,h2⟩:=(aw.ty t _ fK).desc;simp only [ly] at h2;subst h2;split at hc
 case h_2=>simp at hc
 rename_i ei gZ;split at hc
 case h_2=>simp at hc
 rename_i r q o y;split at hc
 case h_2=>simp at hc
 rename_i R0 QO;split at hc
 case h_2=>simp at hc
 rename_i s n cs cB;split at hc
 case isFalse=>simp at hc
 rename_i hs;obtain ⟨hs,T0⟩:=hs;subst hs;obtain ⟨R,l,t',h6,h7,h8,h9,lz⟩:=iu h.rt cB;obtain ⟨cap,a,ts,rfl,rfl⟩:=uM lz.symm;have du:=qq h.mem h6 h7 h8 lz.symm;have hr:=hx _ h9;have oW:(underlying t).run P w=.ok (.slice e) w:=run_underlying h1 w;have h':Rel C Hx w { st with rt:=pz st.rt r R0 } aJ S:=⟨Uv h.rt QO,h.mem,h.ov,h.kept⟩
 by_cases hz:(trim y ei.size n (aX ts)).1=0
 ·rw [hz] at hc;simp only [af5,List.flatten_nil,fA,mN] at hc;subst hc;obtain ⟨cap',a',hu,_⟩:=Ng du hr;refine ⟨w,S,?_,h',rfl⟩;rw [hu,hz];cases a'<;>simp [Builtin.clear_,tK,oW,Result.andThen]
 ·obtain ⟨b,off0,n',c',rfl,rfl,Ex⟩:=I5 du hr (by omega)
  obtain ⟨i,hi1,QV,Uw,z,EX,zq⟩:=(aw.ty e ei gZ).info;obtain ⟨Af,Zi⟩:=C6 (bx:=R.box) h7 h8;have hp:bp w (af C w S Hx) S (.ptr r (q++[o]) 0) (.pointer (some ⟨b,off0,none⟩)):=by
   intro R' dO;rw [h6,mN] at dO;subst dO;refine ⟨fun e=>by simp at e,fun b' off' fD=>?_⟩
   rw [Af,mN,sF] at fD;obtain ⟨rfl,rfl⟩:=fD;rfl
  have dM:∀ m:Nat,bZ (fun d u=>bp w (af C w S Hx) S (id d) u) (List.replicate m ei.zero).flatten (List.replicate m z.cells.toList).flatten:=fun m=>by
   induction m with
   | zero=>exact .nil
   | succ m ih=>
    rw [aeh,aeh,aga,aga];exact (zq.mono fun a b hab=>fq (hab _ _)).app ih
  obtain ⟨w',S',c1,c2,c3⟩:=Cx (P:=P) (b:=b) (off0:=off0) (off:=off0+off y*ei.size) (i:=0) h' hp (dM _) (by omega) hc
  refine ⟨w',S',?_,c2,c3⟩;have hzv:∀ w,(zeroValue e).run P w=.ok z w:=fun w=>C5 hi1 EX w;rw [<- Ex] at hz c1;rw [<- G7] at c1;obtain ⟨m,rfl⟩:∃ m,n'=m+1:=⟨n' - 1,by omega⟩
  simp [Builtin.clear_,oW,hzv,Result.andThen,c1]
theorem Ux (h:Rel C Hx w st (a.tmps::aJ) S) (fL:∀ t,o.dst=some t->t < a.tmps.size/\∀ p∈C.P0,p.1≠st.of+t) (ow:∀ cc f,o.op=.call cc->cc.callee≠.value f) (aj:eY c cl ci aC st o=some st')
  (hK:∀ a' w' S',Rel C Hx w' st' (a'.tmps::aJ) S'->a'.tmps.size=a.tmps.size->a'.defers=a.defers->st'.of=st.of->xj o a S w w'->K a' w'):o.wp P a w K Q:=by
 have fP:mb w (af C w S Hx) S st.tm a.tmps:=by cases h.ov with | cons a _=>exact a
 have ev:=fun t x=>vV (c:=c) fP t x;have As:∀ t,o.dst=some t->t < a.tmps.size:=fun t ht=>(fL t ht).1;have cE:∀ {d:D} {v:Value},(execOp a.eval o).run P w=.ok (.value v) w->ck w (af C w S Hx) S d v->st'=st.put o.dst d->o.wp P a w K Q:=by
  intro d v eD hv cu;subst cu;refine nu eD (hK _ _ S (h.yH As hv) (cH a o.dst v).1 (cH a o.dst v).2 (iG st o.dst d) (xj.refl o a S w))
 have yI:∀ {aP:St} {cs:List D} {dd:Nat->D},aP.of=st.of->aP.root o.dst cs dd=some st'->(∀ t,o.dst=some t->t < a.tmps.size->(∀ p∈C.P0,p.1≠st.of+t)->aP.root (some t) cs dd=some st'->∃ v w',(execOp a.eval o).run P w=.ok (.value v) w'/\xj o a S w w'/\∃ S',Rel C Hx w' st' (a.tmps.setIfInBounds t v::aJ) S')->o.wp P a w K Q:=by
  intro aP cs dd pW hr hk;obtain ⟨h1,t,ht⟩:=uk hr;rw [ht] at hr;obtain ⟨v,w',eD,uT,S',gN⟩:=hk t ht (fL t ht).1 (fL t ht).2 hr;refine nu eD (hK _ _ S' ?_ (cH a o.dst v).1 (cH a o.dst v).2 (h1.trans pW) uT);rw [ht];exact gN
 unfold eY at aj;cases ho:o.op with
 | move x=>
  simp only [ho,mN] at aj;exact cE (by unfold execOp; simp only [ho]; rfl) (ev o.type x) aj.symm
 | assign x=>
  simp only [ho,mN] at aj;exact cE (by unfold execOp; simp only [ho]; rfl) (ev o.type x) aj.symm
 | pick b x y=>
  simp only [ho] at aj;split at aj
  case h_2=>simp at aj
  rename_i t hb;simp only [mN] at aj;have EY:=ev o.type b;rw [hb] at EY;have EY:a.eval b=.bool t:=EY;refine cE (v:=if t then a.eval x else a.eval y) (d:=if t then ch c st o.type x else ch c st o.type y) ?_ ?_ aj.symm
  ·unfold execOp;simp only [ho,EY,asBool,Sem.run_bind,Sem.run_pure,Result.andThen_ok]
  ·cases t
   ·exact ev o.type y
   ·exact ev o.type x
 | alloc e=>
  simp only [ho] at aj;split at aj
  case h_2=>simp at aj
  rename_i i hi;refine yI rfl aj (fun t ht h1 h2 h3=>?_);obtain ⟨v,w',hr,hG,hS⟩:=W2 aw h hi h1 h2 h3;exact ⟨v,w',by unfold execOp; simp only [ho,Sem.run_bind,hr,Result.andThen_ok,Sem.run_pure],.alloc hG (by simp [rh,ho]),hS⟩
 | box e x=>
  simp only [ho] at aj;split at aj
  case h_2=>simp at aj
  rename_i i hi;by_cases cu:c.ql aC (o.dst.getD 0)=true
  ·simp only [cu,if_true,and_true] at aj;split at aj
   case isFalse=>simp at aj
   rename_i hc;split at aj
   case h_2=>simp at aj
   rename_i t ht;rw [ht] at cu;simp only [ags] at cu;simp only [cu,if_true] at aj;split at aj
   case h_2=>simp at aj
   rename_i cs aP dA;split at aj
   case isFalse=>simp at aj
   rename_i ec;obtain ⟨v,w',hr,hG,S',gN⟩:=Uc aw h hc dA ec (fL t ht).1 (fL t ht).2 aj;refine nu (v:=v) (w':=w') (by unfold execOp; simp only [ho,Sem.run_bind,hr,Result.andThen_ok,Sem.run_pure]) (hK _ _ S' (by rw [ht]; exact gN) (cH a o.dst v).1 (cH a o.dst v).2 ((uk aj).1.trans (Nn dA)) (.alloc hG (by simp [rh,ho])))
  ·simp only [cu,acq,if_false] at aj;split at aj
   case isFalse=>simp at aj
   rename_i hc;split at aj
   case h_2=>simp at aj
   rename_i t ht;rw [ht] at cu;simp only [ags] at cu;simp only [cu,acq,if_false] at aj;obtain ⟨v,w',hr,hG,S',gN⟩:=acy aw h hc.1 hc.2 (fL t ht).1 (fL t ht).2 aj;refine nu (v:=v) (w':=w') (by unfold execOp; simp only [ho,Sem.run_bind,hr,Result.andThen_ok,Sem.run_pure]) (hK _ _ S' (by rw [ht]; exact gN) (cH a o.dst v).1 (cH a o.dst v).2 (uk aj).1 (.alloc hG (by simp [rh,ho])))
 | build t ps=>
  simp only [ho] at aj;split at aj
  ·rename_i lN szs sz pR z fK;split at aj
   case h_2=>simp at aj
   rename_i cs hf;simp only [mN] at aj;obtain ⟨v,hr,hv⟩:=Al aw h fK hf;exact cE (by unfold execOp; simp only [ho,Sem.run_bind,hr,Result.andThen_ok,Sem.run_pure]) hv aj.symm
  ·rename_i n e sz pR z fK;split at aj
   case h_2=>simp at aj
   rename_i ei gZ;split at aj
   case h_2=>simp at aj
   rename_i cs hf;simp only [mN] at aj;obtain ⟨v,hr,hv⟩:=Ct aw h fK gZ hf;exact cE (by unfold execOp; simp only [ho,Sem.run_bind,hr,Result.andThen_ok,Sem.run_pure]) hv aj.symm
  ·simp at aj
 | buildSlice t n ps=>
  simp only [ho] at aj;split at aj
  case h_2=>simp at aj
  rename_i e sz pR z fK;split at aj
  case h_2=>simp at aj
  rename_i ei gZ;split at aj
  case isFalse=>simp at aj
  rename_i hn;split at aj
  case h_2=>simp at aj
  rename_i vs aP hp;split at aj
  case h_2=>simp at aj
  rename_i cs hf;have pW:aP.of=st.of:=by
   have dM:bZ (fun p q=>q.1=p.1/\ck w (af C w S Hx) S p.2 q.2) (ps.toList.map fun p=>(p.1,ch c st e p.2)) (ps.toList.map fun p=>(p.1,a.eval p.2)):=by
    refine dk (by simp) (fun i x y hx hy=>?_)
    simp only [adp] at hx hy;cases hq:ps.toList[i]? with
    | none=>simp [hq] at hx
    | some q=>
     simp only [hq,MD,mN] at hx hy;subst hx; subst hy;exact ⟨rfl,ev e q.2⟩
   obtain ⟨_,_,_,_,_,_,_,_,b7⟩:=ER h dM hp;exact b7.2.2
  refine yI pW aj (fun t' ht h1 h2 h3=>?_);obtain ⟨v,w',hr,hG,hS⟩:=Ka aw h fK rfl gZ hn hp hf h1 h2 h3;exact ⟨v,w',by unfold execOp; simp only [ho,Sem.run_bind,hr,Result.andThen_ok,Sem.run_pure],.alloc hG (by simp [rh,ho]),hS⟩
 | load t x=>
  simp only [ho] at aj;split at aj
  case h_2=>simp at aj
  rename_i i hi;split at aj
  case h_2=>simp at aj
  rename_i d hl;simp only [mN] at aj;obtain ⟨v,hr,hv⟩:=GZ aw h.rt h.mem hi (ev o.type x) hl
  replace hr:=hr w (Aa.refl _ w)
  exact cE (by unfold execOp; simp only [ho,Sem.run_bind,hr,Result.andThen_ok,Sem.run_pure]) hv aj.symm
 | store t x y=>
  simp only [ho] at aj;split at aj
  case h_2=>simp at aj
  rename_i i hi;split at aj
  case h_2=>simp at aj
  rename_i aP hs;simp only [mN] at aj;subst aj;obtain ⟨w',S',hr,gN,pW⟩:=Ui aw h hi (ev o.type x) (ev t y) hs;refine RK (w':=w') (by unfold execOp; simp only [ho,Sem.run_bind,hr,Result.andThen_ok,Sem.run_pure]) (hK _ _ S' (gN.yH As (d:=.aG []) ?_) (cH a o.dst undef).1 (cH a o.dst undef).2 ((iG aP o.dst _).trans pW) ?_)
  ·exact ⟨#[],rfl,.nil⟩
  ·refine ⟨fun e=>by simp [rh,ho] at e,fun cc e=>by simp [ho] at e,fun t0 x0 y0 e A hA cB k hk=>?_⟩
   rw [ho,Op.store.injEq] at e;obtain ⟨rfl,rfl,rfl⟩:=e;rw [hA] at hr;have Cz:(storeVar t A (a.eval y)).run P w=.ok () w':=by simpa [Instr.storeAt,Instr.sureAddr] using hr
   simp only [storeVar,Sem.run_bind,(aw.ty _ _ hi).sz w,Result.andThen_ok] at Cz;split at Cz
   ·simp at Cz
   ·exact uS A rfl cB (by simpa using Cz) k hk
 | nilCheck x=>
  simp only [ho] at aj;have hx:=ev o.type x;have hd:∃ A,a.eval x=.pointer (some A)/\st'=st.put o.dst (ch c st o.type x):=by
   split at aj
   ·rename_i r q i heq;split at aj
    ·rename_i hl;simp only [mN] at aj;rw [heq] at hx;obtain ⟨A,hA,_⟩:=so h.rt h.mem hx (by simp only [hl,if_true]; rfl)
     exact ⟨A,hA,by rw [heq]; exact aj.symm⟩
    ·simp at aj
   ·rename_i cs i heq;simp only [mN] at aj;rw [heq] at hx;obtain ⟨A,hA,_⟩:=so h.rt h.mem hx rfl;exact ⟨A,hA,by rw [heq]; exact aj.symm⟩
   ·simp at aj
  obtain ⟨A,hA,cu⟩:=hd;refine cE (v:=a.eval x) ?_ hx cu;unfold execOp;simp only [ho,hA];rfl
 | binOp op t x y z=>
  simp only [ho] at aj;split at aj
  case h_2=>simp at aj
  rename_i d hb;simp only [mN] at aj;obtain ⟨v,hr,hv⟩:=TW aw (x:=x) (y:=y) (ev t x) (ev t y) hb;exact cE (by unfold execOp; simp only [ho,Sem.run_bind] at hr ⊢; rw [hr]; rfl) hv aj.symm
 | unOp op t x=>
  simp only [ho] at aj;split at aj
  case h_2=>simp at aj
  rename_i d hb;simp only [mN] at aj;obtain ⟨v,hr,hv⟩:=Zh (P:=P) (ev o.type x) hb;exact cE (by unfold execOp; simp only [ho,Sem.run_bind,hr,Result.andThen_ok,Sem.run_pure]) hv aj.symm
 | makeFunc fn first gH=>
  cases fn with
  | func f=>
   simp only [ho] at aj;split at aj
   case isFalse=>simp at aj
   rename_i hf;simp only [mN] at aj;have Np:first=#[]:=af8 hf.1
   subst Np;refine cE (v:=.func (.func f) #[] (gH.map a.eval)) (by simp [execOp,ho,Instr.makeFunc]) ?_ aj.symm
   refine ⟨_,rfl,?_⟩;refine dk (by simp) (fun i x y hx hy=>?_)
   have hs:single x=true:=ab9.1 hf.2 x (aci hx);simp only [agA,adp] at hx hy;cases hq:gH.toList[i]? with
   | none=>simp [hq] at hx
   | some q=>
    simp only [hq,MD,mN] at hx hy;subst hy;have hv:=ev o.type q;rw [hx] at hv;cases x<;>first | exact hv | simp [single] at hs
  | _=>simp [ho] at aj
 | makeSlice t l cp=>
  simp only [ho] at aj;split at aj
  case h_2=>simp at aj
  rename_i e sz pR z fK;split at aj
  case h_2=>simp at aj
  rename_i ei kl li kc ci gZ hl hc;split at aj
  case isFalse=>simp at aj
  rename_i h0;split at aj
  case isFalse=>simp at aj
  rename_i Ak;split at aj
  case isFalse=>simp at aj
  rename_i hb;have ZC:=ev o.type l;rw [hl] at ZC;have Aq:=ev o.type cp;rw [hc] at Aq;have ZC:=gw ZC;have Aq:=gw Aq;refine yI rfl aj (fun t' ht h1 h2 h3=>?_);obtain ⟨v,w',hr,hG,hS⟩:=MZ aw h fK rfl gZ (kl:=kl) (kc:=kc) h0 Ak hb h1 h2 h3;exact ⟨v,w',by unfold execOp; simp only [ho,ZC,Aq,Sem.run_bind,hr,Result.andThen_ok,Sem.run_pure],.alloc hG (by simp [rh,ho]),hS⟩
 | convert src dst x=>
  simp only [ho] at aj;split at aj
  ·rename_i d hc;simp only [mN] at aj;obtain ⟨v,hr,hv⟩:=Nk aw h (ev src x) hc
   replace hr:=hr w (dH.refl w)
   exact cE (by unfold execOp; simp only [ho,Sem.run_bind,hr,Result.andThen_ok,Sem.run_pure]) hv aj.symm
  ·rename_i d cs hc;refine yI rfl aj (fun t' ht h1 h2 h3=>?_);obtain ⟨v,w',hr,hS⟩:=Uq aw h (ev src x) hc h1 h2 h3;exact ⟨v,w',by unfold execOp; simp only [ho,Sem.run_bind,hr,Result.andThen_ok,Sem.run_pure],⟨fun e=>by simp [rh,ho] at e,fun cc e=>by simp [ho] at e,fun t0 x0 y0 e=>by simp [ho] at e⟩,hS⟩
  ·simp at aj
 | slice t x lo hi mx=>
  cases mx with
  | some _=>simp [ho] at aj
  | none=>
   simp only [ho] at aj;split at aj
   case h_2=>simp at aj
   rename_i d hs;simp only [mN] at aj;have Nq:∀ y:Option Operand,I6 w (af C w S Hx) S (y.map (ch c st o.type)) (y.map a.eval):=by
    intro y;cases y with
    | none=>exact .inl ⟨rfl,rfl⟩
    | some y=>exact .inr ⟨_,_,rfl,rfl,ev o.type y⟩
   obtain ⟨v,hr,hv⟩:=MR aw h.rt h.mem (ev t x) (Nq lo) (Nq hi) hs;exact cE (by unfold execOp; simp only [ho,ajz,Sem.run_bind,hr,Result.andThen_ok,Sem.run_pure]) hv aj.symm
 | fieldAddr s x f=>
  simp only [ho] at aj;split at aj
  case h_2=>simp at aj
  rename_i lN szs sz pR z fK;split at aj
  case h_2=>simp at aj
  rename_i k hk;split at aj
  case h_2=>simp at aj
  rename_i d hs;simp only [mN] at aj;obtain ⟨v,hr,hv⟩:=Ac aw h.rt h.mem fK hk (ev o.type x) hs;exact cE (by unfold execOp; simp only [ho,Sem.run_bind,hr,Result.andThen_ok,Sem.run_pure]) hv aj.symm
 | indexAddr t x i=>
  simp only [ho] at aj;split at aj
  case h_2=>simp at aj
  rename_i k i' hi;split at aj
  case h_2=>simp at aj
  rename_i d hs;simp only [mN] at aj;have qE:=ev o.type i;rw [hi] at qE;have qE:=gw qE;obtain ⟨v,hr,hv⟩:=Ae aw h.rt h.mem (k:=k) (ev t x) hs;exact cE (by unfold execOp; simp only [ho,qE,Sem.run_bind,hr,Result.andThen_ok,Sem.run_pure]) hv aj.symm
 | index t x i=>
  simp only [ho] at aj;split at aj
  case h_2=>simp at aj
  rename_i k i' hi;split at aj
  case h_2=>simp at aj
  rename_i d hs;simp only [mN] at aj;have qE:=ev o.type i;rw [hi] at qE;have qE:=gw qE;obtain ⟨v,hr,hv⟩:=Nj aw (k:=k) (ev o.type x) hs;exact cE (by unfold execOp; simp only [ho,qE,Sem.run_bind,hr,Result.andThen_ok,Sem.run_pure]) hv aj.symm
 | extract x i=>
  simp only [ho] at aj;split at aj
  case h_2=>simp at aj
  rename_i vs hx;split at aj
  case h_2=>simp at aj
  rename_i d hs;simp only [mN] at aj;have Uy:=ev o.type x;rw [hx] at Uy;obtain ⟨v,hr,hv⟩:=EF (P:=P) Uy hs;exact cE (by unfold execOp; simp only [ho,Sem.run_bind,hr,Result.andThen_ok,Sem.run_pure]) hv aj.symm
 | call cc=>
  simp only [ho] at aj;split at aj
  ·simp at aj
  rename_i cI;simp only [ne_eq,ajI] at cI;have tY:∀ {ds:List D},((cc.args.toList.zip cc.argTypes.toList).map fun p=>ch c st p.2 p.1)=ds->bZ (ck w (af C w S Hx) S) ds (cc.args.map a.eval).toList:=by
   intro ds Nr;subst Nr;refine dk (by simp [cI]) (fun i x y hx hy=>?_)
   simp only [agA,adp] at hx hy;cases hq:(cc.args.toList.zip cc.argTypes.toList)[i]? with
   | none=>simp [hq] at hx
   | some q=>
    simp only [hq,MD,mN] at hx;rw [ajA] at hq;simp only [hq.1,MD,mN] at hy;subst hx; subst hy;exact ev q.2 q.1
  split at aj
  ·rename_i f hf;exact absurd hf (ow cc f ho)
  ·rename_i hb;split at aj
   case h_2=>simp at aj
   rename_i x t hx ht;split at aj
   case h_2=>simp at aj
   rename_i d hl;simp only [mN] at aj;have ha:=tY hx;have gB:cc.args.map a.eval=#[(cc.args.map a.eval).toList.headD undef]:=by
    cases eA:(cc.args.map a.eval).toList with
    | nil=>rw [eA] at ha; cases ha
    | cons y ys=>rw [eA] at ha; cases ha with
     | cons _ h2=>cases h2; rw [<- adz (xs:=cc.args.map a.eval),eA]; rfl
   have xd:cc.argTypes=#[t]:=by rw [<- adz (xs:=cc.argTypes),ht]
   have EZ:ck w (af C w S Hx) S x ((cc.args.map a.eval).toList.headD undef):=by
    cases eA:(cc.args.map a.eval).toList with
    | nil=>rw [eA] at ha; cases ha
    | cons y ys=>rw [eA] at ha; cases ha with
     | cons h1 _=>exact h1
   obtain ⟨v,hr,hv⟩:=TZ aw h.rt h.mem EZ hl o.type;exact cE (by unfold execOp; simp only [ho,resolve,hb,invoke,builtin,Sem.run_bind,Sem.run_pure,Result.andThen_ok]; rw [gB,xd,hr]; rfl) hv aj.symm
  ·rename_i hb;split at aj
   case h_2=>simp at aj
   rename_i k x k' y hx;simp only [mN] at aj;have ha:=tY hx;have gB:cc.args.map a.eval=#[.int k x,.int k' y]:=by
    cases eA:(cc.args.map a.eval).toList with
    | nil=>rw [eA] at ha; cases ha
    | cons y ys=>rw [eA] at ha; cases ha with
     | cons h1 h2=>
      cases h2 with
      | cons h3 h4=>
       cases h4;rw [<- adz (xs:=cc.args.map a.eval),eA,gw h1,gw h3]
   refine cE (v:=.int k (if y < x then y else x)) ?_ (TV _ _) aj.symm
   unfold execOp;simp only [ho,resolve,hb,invoke,builtin,Sem.run_bind,Sem.run_pure,Result.andThen_ok];rw [gB];simp [Builtin.min_,Builtin.min2]
  ·rename_i hb;split at aj
   case h_2=>simp at aj
   rename_i k x k' y hx;simp only [mN] at aj;have ha:=tY hx;have gB:cc.args.map a.eval=#[.int k x,.int k' y]:=by
    cases eA:(cc.args.map a.eval).toList with
    | nil=>rw [eA] at ha; cases ha
    | cons y ys=>rw [eA] at ha; cases ha with
     | cons h1 h2=>
      cases h2 with
      | cons h3 h4=>
       cases h4;rw [<- adz (xs:=cc.args.map a.eval),eA,gw h1,gw h3]
   refine cE (v:=.int k (if y>x then y else x)) ?_ (TV _ _) aj.symm
   unfold execOp;simp only [ho,resolve,hb,invoke,builtin,Sem.run_bind,Sem.run_pure,Result.andThen_ok];rw [gB];simp [Builtin.max_,Builtin.max2]
  ·rename_i hb;split at aj
   case h_2=>simp at aj
   rename_i s x t tx hx ht;have ha:=tY hx;obtain ⟨us,ux,gB,qD,EZ⟩:∃ us ux,cc.args.map a.eval=#[us,ux]/\ck w (af C w S Hx) S s us/\ck w (af C w S Hx) S x ux:=by
    cases eA:(cc.args.map a.eval).toList with
    | nil=>rw [eA] at ha; cases ha
    | cons y ys=>rw [eA] at ha; cases ha with
     | cons h1 h2=>
      cases h2 with
      | cons h3 h4=>
       cases h4;exact ⟨_,_,by rw [<- adz (xs:=cc.args.map a.eval),eA],h1,h3⟩
   have xd:cc.argTypes=#[t,tx]:=by rw [<- adz (xs:=cc.argTypes),ht]
   obtain ⟨cj,dd,pW,LU⟩:∃ cj:St,∃ cs:List D,cj.of=st.of/\cj.root o.dst cs (fun d=>.ref d [] 0 none)=some st':=Us aj;obtain ⟨_,t',oT⟩:=uk LU;rw [oT] at aj;obtain ⟨v,w',hr,hG,S',gN⟩:=Uo aw h qD EZ (ty:=o.type) (fL t' oT).1 (fL t' oT).2 aj;refine nu (v:=v) (w':=w') (by unfold execOp; simp only [ho,resolve,hb,invoke,builtin,Sem.run_bind,Sem.run_pure,Result.andThen_ok]; rw [gB,xd,hr]; rfl) (hK _ _ S' (by rw [oT]; exact gN) (cH a o.dst v).1 (cH a o.dst v).2 ((uk LU).1.trans pW) ⟨fun e=>by simp [rh,ho] at e,fun _ _ _=>hG,fun t0 x0 y0 e=>by simp [ho] at e⟩)
  ·rename_i hb;split at aj
   case h_2=>simp at aj
   rename_i x t hx ht;split at aj
   case h_2=>simp at aj
   rename_i aP hc;simp only [mN] at aj;subst aj;have ha:=tY hx;obtain ⟨ux,gB,EZ⟩:∃ ux,cc.args.map a.eval=#[ux]/\ck w (af C w S Hx) S x ux:=by
    cases eA:(cc.args.map a.eval).toList with
    | nil=>rw [eA] at ha; cases ha
    | cons y ys=>rw [eA] at ha; cases ha with
     | cons h1 h2=>
      cases h2;exact ⟨_,by rw [<- adz (xs:=cc.args.map a.eval),eA],h1⟩
   have xd:cc.argTypes=#[t]:=by rw [<- adz (xs:=cc.argTypes),ht]
   obtain ⟨w',S',hr,gN,pW⟩:=Xc aw h EZ (ty:=o.type) hc;refine nu (v:=.tuple #[]) (w':=w') (by unfold execOp; simp only [ho,resolve,hb,invoke,builtin,Sem.run_bind,Sem.run_pure,Result.andThen_ok]; rw [gB,xd,hr]; rfl) (hK _ _ S' (gN.yH As (d:=.aG []) ⟨#[],rfl,.nil⟩) (cH a o.dst _).1 (cH a o.dst _).2 ((iG aP o.dst _).trans pW) ⟨fun e=>by simp [rh,ho] at e,fun ZD e1 e2=>?_,fun t x y e=>by simp [ho] at e⟩)
   rw [ho] at e1;simp only [Op.call.injEq] at e1;subst e1;rw [hb] at e2;simp at e2
  ·simp at aj
 | _=>simp [ho] at aj
end
def Rd (o:Oper) (a:Act) (w w2:World):Prop:=
 match o.op with
 | .load _ x=>Aa (a.eval x) w w2
 | _=>dH w w2
theorem dH.rd {w w2:World} (h:dH w w2) (o:Oper) (a:Act):Rd o a w w2:=by
 unfold Rd;split
 ·exact h.ahd _
 ·exact h
section
variable {P:Program} {c:cn} (aw:ey c P) {C:Ctx} {Hx:List T} {w:World} {st st':St} {o:Oper} {a:Act} {aJ:List (Array Value)} {S:List (Nat × RT)}
 {cl:FuncId->List D->Option (D × List D)} {ci:FuncId->List D->Nat->St->Option (D × St)} {aC:FuncId}
include aw
theorem Nt (h:Rel C Hx w st (a.tmps::aJ) S) {b:Bool} (kC:mZ c o=some b) (aj:eY c cl ci aC st o=some st'):
  ∃ v d,(∀ w2,(b=true∨Rd o a w w2)->(execOp a.eval o).run P w2=.ok (.value v) w2)/\ck w (af C w S Hx) S d v/\st'=st.put o.dst d:=by
 have fP:mb w (af C w S Hx) S st.tm a.tmps:=by cases h.ov with | cons a _=>exact a
 have ev:=fun t x=>vV (c:=c) fP t x;have cE:∀ {d:D} {v:Value},(∀ w2,(b=true∨Rd o a w w2)->(execOp a.eval o).run P w2=.ok (.value v) w2)->ck w (af C w S Hx) S d v->st'=st.put o.dst d->∃ v d,(∀ w2,(b=true∨Rd o a w w2)->(execOp a.eval o).run P w2=.ok (.value v) w2)/\ck w (af C w S Hx) S d v/\st'=st.put o.dst d:=
  fun h1 h2 h3=>⟨_,_,h1,h2,h3⟩
 unfold eY at aj;cases ho:o.op with
 | move x=>
  simp only [ho,mN] at aj;exact cE (fun w2 _=>by unfold execOp; simp only [ho]; rfl) (ev o.type x) aj.symm
 | assign x=>
  simp only [ho,mN] at aj;exact cE (fun w2 _=>by unfold execOp; simp only [ho]; rfl) (ev o.type x) aj.symm
 | pick b x y=>
  simp only [ho] at aj;split at aj
  case h_2=>simp at aj
  rename_i t hb;simp only [mN] at aj;have EY:=ev o.type b;rw [hb] at EY;have EY:a.eval b=.bool t:=EY;refine cE (v:=if t then a.eval x else a.eval y) (d:=if t then ch c st o.type x else ch c st o.type y) ?_ ?_ aj.symm
  ·intro w2 _;unfold execOp;simp only [ho,EY,asBool,Sem.run_bind,Sem.run_pure,Result.andThen_ok]
  ·cases t
   ·exact ev o.type y
   ·exact ev o.type x
 | alloc e=>simp [mZ,ho] at kC
 | box e x=>simp [mZ,ho] at kC
 | build t ps=>
  simp only [ho] at aj;split at aj
  ·rename_i lN szs sz pR z fK;split at aj
   case h_2=>simp at aj
   rename_i cs hf;simp only [mN] at aj;obtain ⟨v,hr,hv⟩:=Al aw h fK hf;exact cE (fun w2 _=>by unfold execOp; simp only [ho,Sem.run_bind,hr,Result.andThen_ok,Sem.run_pure]) hv aj.symm
  ·rename_i n e sz pR z fK;split at aj
   case h_2=>simp at aj
   rename_i ei gZ;split at aj
   case h_2=>simp at aj
   rename_i cs hf;simp only [mN] at aj;obtain ⟨v,hr,hv⟩:=Ct aw h fK gZ hf;exact cE (fun w2 _=>by unfold execOp; simp only [ho,Sem.run_bind,hr,Result.andThen_ok,Sem.run_pure]) hv aj.symm
  ·simp at aj
 | buildSlice t n ps=>simp [mZ,ho] at kC
 | load t x=>
  simp only [ho] at aj;split at aj
  case h_2=>simp at aj
  rename_i i hi;split at aj
  case h_2=>simp at aj
  rename_i d hl;simp only [mN] at aj;obtain ⟨v,hr,hv⟩:=GZ aw h.rt h.mem hi (ev o.type x) hl;exact cE (fun w2 nw=>by have hr:=hr w2 (by have h9:=nw.resolve_left (by simp only [mZ,ho,mN] at kC; rw [<- kC]; simp); simpa only [Rd,ho] using h9); unfold execOp; simp only [ho,Sem.run_bind,hr,Result.andThen_ok,Sem.run_pure]) hv aj.symm
 | store t x y=>simp [mZ,ho] at kC
 | nilCheck x=>
  simp only [ho] at aj;have hx:=ev o.type x;have hd:∃ A,a.eval x=.pointer (some A)/\st'=st.put o.dst (ch c st o.type x):=by
   split at aj
   ·rename_i r q i heq;split at aj
    ·rename_i hl;simp only [mN] at aj;rw [heq] at hx;obtain ⟨A,hA,_⟩:=so h.rt h.mem hx (by simp only [hl,if_true]; rfl)
     exact ⟨A,hA,by rw [heq]; exact aj.symm⟩
    ·simp at aj
   ·rename_i cs i heq;simp only [mN] at aj;rw [heq] at hx;obtain ⟨A,hA,_⟩:=so h.rt h.mem hx rfl;exact ⟨A,hA,by rw [heq]; exact aj.symm⟩
   ·simp at aj
  obtain ⟨A,hA,cu⟩:=hd;refine cE (v:=a.eval x) ?_ hx cu;intro w2 _;unfold execOp;simp only [ho,hA];rfl
 | binOp op t x y z=>
  simp only [ho] at aj;split at aj
  case h_2=>simp at aj
  rename_i d hb;simp only [mN] at aj;obtain ⟨v,hr,hv⟩:=TW aw (x:=x) (y:=y) (ev t x) (ev t y) hb;exact cE (fun w2 _=>by unfold execOp; simp only [ho,Sem.run_bind] at hr ⊢; rw [hr]; rfl) hv aj.symm
 | unOp op t x=>
  simp only [ho] at aj;split at aj
  case h_2=>simp at aj
  rename_i d hb;simp only [mN] at aj;obtain ⟨v,hr,hv⟩:=Zh (P:=P) (ev o.type x) hb;exact cE (fun w2 _=>by unfold execOp; simp only [ho,Sem.run_bind,hr,Result.andThen_ok,Sem.run_pure]) hv aj.symm
 | makeFunc fn first gH=>
  cases fn with
  | func f=>
   simp only [ho] at aj;split at aj
   case isFalse=>simp at aj
   rename_i hf;simp only [mN] at aj;have Np:first=#[]:=af8 hf.1
   subst Np;refine cE (v:=.func (.func f) #[] (gH.map a.eval)) (by simp [execOp,ho,Instr.makeFunc]) ?_ aj.symm
   refine ⟨_,rfl,?_⟩;refine dk (by simp) (fun i x y hx hy=>?_)
   have hs:single x=true:=ab9.1 hf.2 x (aci hx);simp only [agA,adp] at hx hy;cases hq:gH.toList[i]? with
   | none=>simp [hq] at hx
   | some q=>
    simp only [hq,MD,mN] at hx hy;subst hy;have hv:=ev o.type q;rw [hx] at hv;cases x<;>first | exact hv | simp [single] at hs
  | _=>simp [ho] at aj
 | makeSlice t l cp=>simp [mZ,ho] at kC
 | convert src dst x=>
  simp only [ho] at aj;split at aj
  ·rename_i d hc;simp only [mN] at aj;obtain ⟨v,hr,hv⟩:=Nk aw h (ev src x) hc;exact cE (fun w2 nw=>by have hr:=hr w2 (by have h9:=nw.resolve_left (by simp only [mZ,ho] at kC; split at kC<;>simp at kC; rw [kC]; simp); simpa only [Rd,ho] using h9); unfold execOp; simp only [ho,Sem.run_bind,hr,Result.andThen_ok,Sem.run_pure]) hv aj.symm
  ·rename_i d cs hc;exfalso;simp only [mZ,ho] at kC;unfold vO at hc;split at hc
   case h_2=>simp at hc
   rename_i si di ZB Up;rw [Up] at kC;split at hc
   ·simp at hc
   ·simp at hc
   ·simp at hc
   ·split at hc
    ·split at hc
     ·split at hc
      ·split at hc<;>simp at hc
      ·simp at hc
     ·simp at hc
    ·simp at hc
   ·simp at hc
  ·simp at aj
 | slice t x lo hi mx=>
  cases mx with
  | some _=>simp [ho] at aj
  | none=>
   simp only [ho] at aj;split at aj
   case h_2=>simp at aj
   rename_i d hs;simp only [mN] at aj;have Nq:∀ y:Option Operand,I6 w (af C w S Hx) S (y.map (ch c st o.type)) (y.map a.eval):=by
    intro y;cases y with
    | none=>exact .inl ⟨rfl,rfl⟩
    | some y=>exact .inr ⟨_,_,rfl,rfl,ev o.type y⟩
   obtain ⟨v,hr,hv⟩:=MR aw h.rt h.mem (ev t x) (Nq lo) (Nq hi) hs;exact cE (fun w2 _=>by unfold execOp; simp only [ho,ajz,Sem.run_bind,hr,Result.andThen_ok,Sem.run_pure]) hv aj.symm
 | fieldAddr s x f=>
  simp only [ho] at aj;split at aj
  case h_2=>simp at aj
  rename_i lN szs sz pR z fK;split at aj
  case h_2=>simp at aj
  rename_i k hk;split at aj
  case h_2=>simp at aj
  rename_i d hs;simp only [mN] at aj;obtain ⟨v,hr,hv⟩:=Ac aw h.rt h.mem fK hk (ev o.type x) hs;exact cE (fun w2 _=>by unfold execOp; simp only [ho,Sem.run_bind,hr,Result.andThen_ok,Sem.run_pure]) hv aj.symm
 | indexAddr t x i=>
  simp only [ho] at aj;split at aj
  case h_2=>simp at aj
  rename_i k i' hi;split at aj
  case h_2=>simp at aj
  rename_i d hs;simp only [mN] at aj;have qE:=ev o.type i;rw [hi] at qE;have qE:=gw qE;obtain ⟨v,hr,hv⟩:=Ae aw h.rt h.mem (k:=k) (ev t x) hs;exact cE (fun w2 _=>by unfold execOp; simp only [ho,qE,Sem.run_bind,hr,Result.andThen_ok,Sem.run_pure]) hv aj.symm
 | index t x i=>
  simp only [ho] at aj;split at aj
  case h_2=>simp at aj
  rename_i k i' hi;split at aj
  case h_2=>simp at aj
  rename_i d hs;simp only [mN] at aj;have qE:=ev o.type i;rw [hi] at qE;have qE:=gw qE;obtain ⟨v,hr,hv⟩:=Nj aw (k:=k) (ev o.type x) hs;exact cE (fun w2 _=>by unfold execOp; simp only [ho,qE,Sem.run_bind,hr,Result.andThen_ok,Sem.run_pure]) hv aj.symm
 | extract x i=>
  simp only [ho] at aj;split at aj
  case h_2=>simp at aj
  rename_i vs hx;split at aj
  case h_2=>simp at aj
  rename_i d hs;simp only [mN] at aj;have Uy:=ev o.type x;rw [hx] at Uy;obtain ⟨v,hr,hv⟩:=EF (P:=P) Uy hs;exact cE (fun w2 _=>by unfold execOp; simp only [ho,Sem.run_bind,hr,Result.andThen_ok,Sem.run_pure]) hv aj.symm
 | call cc=>
  simp only [ho] at aj;split at aj
  ·simp at aj
  rename_i cI;simp only [ne_eq,ajI] at cI;have tY:∀ {ds:List D},((cc.args.toList.zip cc.argTypes.toList).map fun p=>ch c st p.2 p.1)=ds->bZ (ck w (af C w S Hx) S) ds (cc.args.map a.eval).toList:=by
   intro ds Nr;subst Nr;refine dk (by simp [cI]) (fun i x y hx hy=>?_)
   simp only [agA,adp] at hx hy;cases hq:(cc.args.toList.zip cc.argTypes.toList)[i]? with
   | none=>simp [hq] at hx
   | some q=>
    simp only [hq,MD,mN] at hx;rw [ajA] at hq;simp only [hq.1,MD,mN] at hy;subst hx; subst hy;exact ev q.2 q.1
  split at aj
  ·rename_i f hf;simp [mZ,ho,hf] at kC
  ·rename_i hb;split at aj
   case h_2=>simp at aj
   rename_i x t hx ht;split at aj
   case h_2=>simp at aj
   rename_i d hl;simp only [mN] at aj;have ha:=tY hx;have gB:cc.args.map a.eval=#[(cc.args.map a.eval).toList.headD undef]:=by
    cases eA:(cc.args.map a.eval).toList with
    | nil=>rw [eA] at ha; cases ha
    | cons y ys=>rw [eA] at ha; cases ha with
     | cons _ h2=>cases h2; rw [<- adz (xs:=cc.args.map a.eval),eA]; rfl
   have xd:cc.argTypes=#[t]:=by rw [<- adz (xs:=cc.argTypes),ht]
   have EZ:ck w (af C w S Hx) S x ((cc.args.map a.eval).toList.headD undef):=by
    cases eA:(cc.args.map a.eval).toList with
    | nil=>rw [eA] at ha; cases ha
    | cons y ys=>rw [eA] at ha; cases ha with
     | cons h1 _=>exact h1
   obtain ⟨v,hr,hv⟩:=TZ aw h.rt h.mem EZ hl o.type;exact cE (fun w2 _=>by unfold execOp; simp only [ho,resolve,hb,invoke,builtin,Sem.run_bind,Sem.run_pure,Result.andThen_ok]; rw [gB,xd,hr]; rfl) hv aj.symm
  ·rename_i hb;split at aj
   case h_2=>simp at aj
   rename_i k x k' y hx;simp only [mN] at aj;have ha:=tY hx;have gB:cc.args.map a.eval=#[.int k x,.int k' y]:=by
    cases eA:(cc.args.map a.eval).toList with
    | nil=>rw [eA] at ha; cases ha
    | cons y ys=>rw [eA] at ha; cases ha with
     | cons h1 h2=>
      cases h2 with
      | cons h3 h4=>
       cases h4;rw [<- adz (xs:=cc.args.map a.eval),eA,gw h1,gw h3]
   refine cE (v:=.int k (if y < x then y else x)) ?_ (TV _ _) aj.symm
   intro w2 _;unfold execOp;simp only [ho,resolve,hb,invoke,builtin,Sem.run_bind,Sem.run_pure,Result.andThen_ok];rw [gB];simp [Builtin.min_,Builtin.min2]
  ·rename_i hb;split at aj
   case h_2=>simp at aj
   rename_i k x k' y hx;simp only [mN] at aj;have ha:=tY hx;have gB:cc.args.map a.eval=#[.int k x,.int k' y]:=by
    cases eA:(cc.args.map a.eval).toList with
    | nil=>rw [eA] at ha; cases ha
    | cons y ys=>rw [eA] at ha; cases ha with
     | cons h1 h2=>
      cases h2 with
      | cons h3 h4=>
       cases h4;rw [<- adz (xs:=cc.args.map a.eval),eA,gw h1,gw h3]
   refine cE (v:=.int k (if y>x then y else x)) ?_ (TV _ _) aj.symm
   intro w2 _;unfold execOp;simp only [ho,resolve,hb,invoke,builtin,Sem.run_bind,Sem.run_pure,Result.andThen_ok];rw [gB];simp [Builtin.max_,Builtin.max2]
  ·rename_i hb;simp [mZ,ho,hb] at kC
  ·rename_i hb;simp [mZ,ho,hb] at kC
  ·simp at aj
 | _=>simp [ho] at aj
end
mutual
theorem um {w:World} {X X':Bool->Nat->Prop} (h:∀ b k,X b k->X' b k):∀ (d:D) (u:Value),Ext w X d u->Ext w X' d u
 | d,u,hu=>gu (fun b k hk=>⟨h b k hk,rfl⟩) d u hu
end
theorem fX {w:World} {X X':Bool->Nat->Prop} (h:∀ b k,X b k->X' b k) (ts:List T) (hs:bC w X ts):bC w X' ts:=
 gv (fun b k hk=>⟨h b k hk,rfl⟩) ts hs (fun _ _=>rfl)
theorem nz {w w':World} {X X':Bool->Nat->Prop} (cu:jo w w' X X') {S:List (Nat × RT)} {d:D} {u:Value} (h:bp w X S d u):bp w' X' S d u:=by
 have he:∀ d u,Ext w X d u->Ext w' X' d u:=gu cu;cases d with
 | ref r q o x=>exact h
 | ptr r q o=>exact h
 | dK cs o=>
  obtain ⟨b,off,c,e,fz,us,h1,h2,h3,h4,h5⟩:=h;exact ⟨b,off,c,e,fz,us,h1,(cu true b h2).1,by rw [(cu true b h2).2]; exact h3,sJ cu cs us h4,h5⟩
 | _=>exact he _ _ h
theorem Uz {w w':World} {X X':Bool->Nat->Prop} (cu:jo w w' X X') {S:List (Nat × RT)} {d:D} {u:Value} (h:gp w X S d u):gp w' X' S d u:=by
 rcases sO h with ⟨cs,us,rfl,rfl,h1⟩ | ⟨f,cs,us,rfl,rfl,h1⟩ | ⟨_,_,h1⟩
 ·exact ⟨us,rfl,h1.mono (fun _ _=>nz cu)⟩
 ·exact ⟨us,rfl,h1.mono (fun _ _=>nz cu)⟩
 ·exact ew (nz cu h1)
theorem aaH {ts:List T} {k:Nat}:k∈ah ts↔∃ t∈ts,k∈t.ft:=by
 rw [nr];simp only [agR,acv];constructor
 ·rintro ⟨l,⟨t,h1,rfl⟩,h2⟩;exact ⟨t,h1,h2⟩
 ·rintro ⟨t,h1,h2⟩;exact ⟨_,⟨t,h1,rfl⟩,h2⟩
theorem kn {S:List (Nat × RT)} {r:Nat} {R:RT} (h:lk S r=some R) {k:Nat} (hk:k∈R.ft):k∈cA S:=by
 obtain ⟨A,B,h1,_⟩:=kv h;rw [h1]; simp [hk]
theorem uU {S:List (Nat × RT)} (hn:(cA S).Nodup) {r r':Nat} {R R':RT} {b:Nat} (h:lk S r=some R) (hb:R.box=some b) (h':lk S r'=some R') (hk:b∈R'.ft):r'=r:=by
 by_cases he:r'=r
 ·exact he
 obtain ⟨A,B,h1,h2⟩:=kv h;have h3:lk (pt S r ⟨none,[]⟩) r'=some R':=by rw [dE _ _ he]; exact h'
 have h4:=kn h3 hk;rw [h2] at h4;rw [h1] at hn;have Zs:b∈R.ft:=by simp [RT.ft,hb]
 simp only [RT.ft,Option.toList,ah,acg,sE] at h4;rw [zX,zX] at hn;rcases h4 with h4 | h4
 ·exact absurd rfl (hn.1.2.2 b h4 b Zs)
 ·exact absurd rfl (hn.2.2 b (by simp [Zs]) b h4)
section
variable {C:Ctx} {w w':World} {st:St} {aJ:List (Array Value)} {S:List (Nat × RT)} {Hs H Os:List T} {bxs:List Nat}
theorem Dk (h:Rel C (Hs++H) w st aJ S) (qz:∀ b∈bxs,∃ r R,lk S r=some R/\R.box=some b/\R.cs=[])
  (cI:w.heap.size<=w'.heap.size) (hold:∀ k,k < w.heap.size->k∉ah Hs->k∉bxs->w'.heap[k]?=w.heap[k]?) (me:w'.os=w.os) (qx:w'.tape=w.tape) (rM:w'.output=w.output)
  (hO:bC w' (fun b k=>k < w'.heap.size/\k∉ah Os/\k∉bxs/\(af C w S (Hs++H) b k∨k∈ah Hs∨w.heap.size<=k)) Os)
  (eR:(ah Os).Nodup) (amq:∀ k∈ah Os,k∉bxs) (eG:∀ k∈ah Os,k < w'.heap.size/\(k∈ah Hs∨w.heap.size<=k)) (fo:∀ b∈bxs,lx w' b 0 0 []):
  Rel C (Os++H) w' st aJ S/\hM C w w' S S (Hs++H) (Os++H) id:=by
 have Co:∀ b∈bxs,b∈cA S:=fun b hb=>by
  obtain ⟨r,R,h1,h2,_⟩:=qz b hb;exact kn h1 (by simp [RT.ft,h2])
 have hnS:=h.mem.nd;rw [zX,aY,zX] at hnS;obtain ⟨nS,⟨nHs,nH,dHs⟩,dS⟩:=hnS;have cK:=h.mem.lt;have UA:∀ k∈cA S,k < w.heap.size:=fun k hk=>cK k (sE.2 (.inl hk));have ZE:∀ k∈ah H,k < w.heap.size:=fun k hk=>cK k (by simp [aY,hk])
 have ZF:∀ k∈cA S,k∉ah Hs:=fun k hk h2=>dS k hk k (by simp [h2]) rfl
 have SH:∀ k∈cA S,k∉ah H:=fun k hk h2=>dS k hk k (by simp [h2]) rfl
 have HHs:∀ k∈ah H,k∉ah Hs:=fun k hk h2=>dHs k h2 k hk rfl;have OS:∀ k∈ah Os,k∉cA S:=fun k hk h2=>by
  rcases (eG k hk).2 with h3 | h3
  ·exact ZF k h2 h3
  ·have:=UA k h2; omega
 have OH:∀ k∈ah Os,k∉ah H:=fun k hk h2=>by
  rcases (eG k hk).2 with h3 | h3
  ·exact HHs k h2 h3
  ·have:=ZE k h2; omega
 have cu:jo w w' (af C w S (Hs++H)) (af C w' S (Os++H)):=by
  intro b k hk;obtain ⟨k1,k2,k3,k4⟩:=hk;rw [aY,sE,not_or] at k3;refine ⟨⟨by omega,k2,?_,k4⟩,hold k k1 k3.1 (fun hb=>k2 (Co k hb))⟩
  rw [aY,sE,not_or];refine ⟨fun hk=>?_,k3.2⟩;rcases (eG k hk).2 with h3 | h3
  ·exact k3.1 h3
  ·omega
 have Zu:hM C w w' S S (Hs++H) (Os++H) id:=fun d u hd=>nz cu hd;have wb:∀ b k,(k < w'.heap.size/\k∉ah Os/\k∉bxs/\(af C w S (Hs++H) b k∨k∈ah Hs∨w.heap.size<=k))->af C w' S (Os++H) b k:=by
  rintro b k ⟨k1,k2,k3,k4⟩;have hFA:k∈ah Hs->k∈C.FA∨C.w0.heap.size<=k:=fun hk=>h.kept.iD k (by simp [aY,hk])
  refine ⟨k1,?_,?_,?_⟩
  ·rcases k4 with k4 | k4 | k4
   ·exact k4.2.1
   ·exact fun h2=>ZF k h2 k4
   ·exact fun h2=>by have:=UA k h2; omega
  ·rw [aY,sE,not_or];refine ⟨k2,?_⟩;rcases k4 with k4 | k4 | k4
   ·have:=k4.2.2.1;rw [aY,sE,not_or] at this;exact this.2
   ·exact fun h2=>HHs k h2 k4
   ·exact fun h2=>by have:=ZE k h2; omega
  ·intro hb;rcases k4 with k4 | k4 | k4
   ·exact k4.2.2.2 hb
   ·exact .inr (hFA k4)
   ·exact .inr (.inr (agf h.kept.size k4))
 refine ⟨⟨h.rt,⟨?_,?_,?_,?_⟩,?_,?_⟩,Zu⟩
 ·rw [zX,aY,zX];refine ⟨nS,⟨eR,nH,fun a ha b hb e=>OH a ha (e▸hb)⟩,fun a ha b hb e=>?_⟩;subst e;rcases sE.1 hb with hb | hb
  ·exact OS a hb ha
  ·exact SH a ha hb
 ·intro r R hr;obtain ⟨h1,h2⟩:=h.mem.root r R hr;have hb:∀ b∈bxs,b∈R.ft->R.box=some b/\R.cs=[]:=by
   intro b hb hR;obtain ⟨r',R',e1,e2,e3⟩:=qz b hb;have:=uU nS e1 e2 hr hR;subst this;rw [e1,mN] at hr;subst hr;exact ⟨e2,e3⟩
  refine ⟨?_,fun t ht=>?_⟩
  ·cases hx:R.box with
   | none=>trivial
   | some b=>
    rw [hx] at h1;by_cases sV:b∈bxs
    ·have:=(hb b sV (by simp [RT.ft,hx])).2
     rw [this];exact fo b sV
    ·have acI:=kn hr (show b∈R.ft by simp [RT.ft,hx])
     obtain ⟨c,e,fz,g1,g2⟩:=h1;exact ⟨c,e,fz,by rw [hold b (UA b acI) (ZF b acI) sV]; exact g1,g2⟩
  ·have h3:=h2 t ht;cases t with
   | v d u=>
    rcases h3 with h3 | ⟨e,h3⟩
    ·exact .inl (gu cu _ _ h3)
    ·exact .inr ⟨e,nz cu h3⟩
   | own s n cap a cs=>
    refine dL cu _ h3 (fun k hk=>?_);have hkR:k∈R.ft:=by simp only [RT.ft,sE]; exact .inr (aaH.2 ⟨_,ht,hk⟩)
    have Jh:=kn hr hkR;refine hold k (UA k Jh) (ZF k Jh) (fun sV=>?_);have:=(hb k sV hkR).2;rw [this] at ht;simp at ht
 ·rw [dV];refine ⟨fX wb _ hO,?_⟩;have hH:=((dV _ _).1 h.mem.hand).2;exact gv cu _ hH (fun k hk=>hold k (ZE k hk) (HHs k hk) (fun hb=>SH k (Co k hb) hk))
 ·intro k hk;rcases sE.1 hk with hk | hk
  ·have:=UA k hk; omega
  ·rw [aY] at hk;rcases sE.1 hk with hk | hk
   ·exact (eG k hk).1
   ·have:=ZE k hk; omega
 ·exact h.ov.mono (fun _ _ ht=>wH Zu ht)
 ·have hk:=h.kept;refine ⟨me.trans hk.os,qx.trans hk.tape,rM.trans hk.output,agf hk.size cI,fun k h1 h2=>?_,fun k h1=>?_,hk.par⟩
  ·have h3:k∉cA S++ah (Hs++H):=fun h3=>by
    rcases hk.iD k h3 with h4 | h4
    ·exact h2 h4
    ·omega
   simp only [aY,sE,not_or] at h3;rw [hold k (agD h1 hk.size) h3.2.1 (fun hb=>h3.1 (Co k hb))];exact hk.block k h1 h2
  ·rcases sE.1 h1 with h1 | h1
   ·exact hk.iD k (by simp [h1])
   ·rw [aY] at h1;rcases sE.1 h1 with h1 | h1
    ·rcases (eG k h1).2 with h2 | h2
     ·exact hk.iD k (by simp [aY,h2])
     ·exact .inr (agf hk.size h2)
    ·exact hk.iD k (by simp [aY,h1])
end
def mW (S S':List (Nat × RT)):Prop:=∀ r R,lk S r=some R->∃ R',lk S' r=some R'/\R'.box=R.box
theorem mW.refl (S:List (Nat × RT)):mW S S:=fun _ R h=>⟨R,h,rfl⟩
theorem mW.trans {S S' zo:List (Nat × RT)} (h:mW S S') (h':mW S' zo):mW S zo:=fun r R hr=>by
 obtain ⟨R1,h1,h2⟩:=h r R hr;obtain ⟨R2,h4,h5⟩:=h' r R1 h1;exact ⟨R2,h4,h5.trans h2⟩
theorem pU.b {S S':List (Nat × RT)} (h:pU S S'):mW S S':=fun r R hr=>by
 obtain ⟨R1,h1,h2,_⟩:=h.fwd r R hr;exact ⟨R1,h1,h2⟩
theorem QW (g:D->D) (S:List (Nat × RT)):mW S (fS g S):=fun r R hr=>⟨⟨R.box,R.cs.map (fT g)⟩,by rw [lD,hr]; rfl,rfl⟩
theorem Dl {S:List (Nat × RT)} {r:Nat} {q:List Nat} {o:Nat} {t:T} (h:cr S r q o=some t):∃ R l,lk S r=some R/\ay R.cs q=some l/\l[o]?=some t:=by
 unfold cr at h;cases hr:lk S r with
 | none=>simp [hr] at h
 | some R=>
  simp only [hr] at h;cases hl:ay R.cs q with
  | none=>simp [hl] at h
  | some l=>simp only [hl] at h; exact ⟨R,l,rfl,hl,h⟩
section
variable {C:Ctx} {H:List T} {w:World} {st st':St} {aJ:List (Array Value)} {S:List (Nat × RT)}
theorem Nu {t' t0:T} (h:Rel C (t'::H) w st aJ S) {r:Nat} {q:List Nat} {o:Nat} {ex:Bool} (hc0:cr S r q o=some t0) (kB:∃ d0 u0,t0=.v d0 u0/\(ex=false->fg (cq r q o ex) (bH d0)=bH d0)) (hl:lq t0 t'∨(ex=true/\t'.val=t0.val))
  (iv:(st.eX (cq r q o ex)).gI r q o t'.er=some st'):
  ∃ S',Rel C H w st' aJ S'/\hM C w w S S' (t'::H) H (cq r q o ex)/\st'.of=st.of/\mW S S'/\cr S' r q o=some t'/\
   ∀ r' q' o' d0 u,(sn d0).isSome=true->bH d0=d0->cr S r' q' o'=some (.v d0 u)->(r'≠r∨under (q++[o]) (q'++[o'])=none)->cr S' r' q' o'=some (.v d0 u):=by
 obtain ⟨d0,u0,rfl,hd0⟩:=kB;have hv:t'.val=(T.v d0 u0).val:=by
  rcases hl with hl | hl
  ·exact hl.1
  ·exact hl.2
 obtain ⟨R,l,hR,hl0,ho⟩:=Dl hc0;have hg:=mr r q o ex;have EU:=yB r q o ex;have W7:gC (st.eX (cq r q o ex)).rt (fS (cq r q o ex) S):=by
  exact pD hg h.rt
 obtain ⟨R1,l1,t1,e1,e2,e3,e4,e5,e6,e7,e8⟩:=Zv (g:=cq r q o ex) hR hl0 ho;have An:t1=.v (fg (cq r q o ex) (bH d0)) u0∨t1=.v d0 u0:=by
  rcases e5 with rfl | ⟨_,rfl⟩
  ·exact .inr rfl
  ·exact .inl rfl
 have Xd:t1.val=u0:=by rcases An with rfl | rfl<;>rfl
 have ahq:t1.ft=[]:=by rcases An with rfl | rfl<;>rfl
 have ahr:ex=false->sn t1.er=sn (bH d0):=fun e=>by
  rcases An with rfl | rfl
  ·rw [hd0 e]; simp [T.er,Cn]
  ·simp [T.er]
 obtain ⟨S',hc,RZ,R4,R5,Dj⟩:=Dd (t':=t') W7 e1 e3 e4 iv;obtain ⟨A,B,f1,f2⟩:=hc.fts;rw [tX] at f1;rw [ahq,acg] at f1;have rP:∀ k,k∈cA S'++ah H↔k∈cA S++ah (t'::H):=by
  intro k;rw [f1,f2];simp only [ah,sE];constructor
  ·rintro (((h | h) | h) | h)
   ·exact .inl (.inl h)
   ·exact .inr (.inl h)
   ·exact .inl (.inr h)
   ·exact .inr (.inr h)
  ·rintro ((h | h) | (h | h))
   ·exact .inl (.inl (.inl h))
   ·exact .inl (.inr h)
   ·exact .inl (.inl (.inr h))
   ·exact .inr h
 have eR:(cA S'++ah H).Nodup:=by
  have h0:=h.mem.nd;rw [f1] at h0;rw [f2];refine (List.Perm.nodup_iff ?_).1 h0;refine adV.2 fun a=>?_;simp only [ah,agb];omega
 have hX:∀ b k,af C w S (t'::H) b k->af C w S' H b k:=jH (fun k hk=>(rP k).1 hk);have cu:jo w w (af C w S (t'::H)) (af C w S' H):=fun b k hk=>⟨hX b k hk,rfl⟩;have ae1:ex=false->lq t1 t':=fun e=>by
  rcases hl with hl | hl
  ·exact ⟨by rw [Xd]; exact hl.1,fun p hp=>by rw [ahr e]; exact hl.2 p hp⟩
  ·exact absurd (hl.1.symm.trans e) (by simp)
 have dT:∀ d u,bp w (af C w S (t'::H)) S d u->bp w (af C w S' H) S' (cq r q o ex d) u:=
  fun d u hd=>yy cu hc ae1 (qu hg hd)
 have dm:=h.mem.hand;simp only [bC] at dm;have cW:Mem C w S' H:=QM h.mem (g:=fg (cq r q o ex)) (RN hg S) hc (by rw [hv,Xd]; rfl)
  (.inl (dL cu _ dm.1 (fun _ _=>rfl))) eR (fun k hk=>(rP k).1 hk) (fX hX _ dm.2)
  (fun d u hd=>by rw [uj hd]; exact dT d u hd) (fun d u hd=>rL hg EU (um hX _ _ hd))
 refine ⟨S',?_,dT,Dj,?_,hc.Db,fun r' q' o' d1 u1 h3 h4 h1 h2=>?_⟩
 ·refine h.step (f:=cq r q o ex) RZ R4 R5 dT cW (yA h.kept (fun k hk=>(rP k).1 hk) (fun r' R' eF=>?_));obtain ⟨R2,g1,g2,g3⟩:=hc.par (by rw [hv,Xd]; rfl) eF
  rw [lD] at g1;cases hx:lk S r' with
  | none=>simp [hx] at g1
  | some R0=>
   simp only [hx,MD,mN] at g1;subst g1;refine ⟨R0,rfl,g2,g3.trans ?_⟩;simp only [cz,age]
   congr 1
   funext t;cases t<;>rfl
 ·refine mW.trans (S':=fS (cq r q o ex) S) (QW _ S) (fun r' R' eF=>?_);obtain ⟨R2,g1,g2,_⟩:=hc.Ja eF;exact ⟨R2,g1,g2⟩
 ·refine hc.M4 h2 ?_;rw [BH h1];split
  ·simp only [fT,h4];cases d1<;>first | (simp [sn] at h3; done) | simp [fg,hg.hole,hg.sl]
  ·rfl
theorem Xe {ts:List T} (h:Rel C (ts++H) w st aJ S) {r b:Nat} (h0:lk S r=some ⟨some b,[]⟩) (fo:lx w b 0 ts.length (ax ts)):
  Rel C H w { st.eX (eE r) with rt:=pz (st.eX (eE r)).rt r (aX ts) } aJ (pt (fS (eE r) S) r ⟨some b,ts⟩)/\hM C w w S (pt (fS (eE r) S) r ⟨some b,ts⟩) (ts++H) H (eE r)/\mW S (pt (fS (eE r) S) r ⟨some b,ts⟩):=by
 have hg:=RO r;have EU:=RQ r;have h1:lk (fS (eE r) S) r=some ⟨some b,[]⟩:=by rw [lD,h0]; rfl
 obtain ⟨A,B,f1,f2⟩:=kv h1;rw [tX] at f1;have f3:=f2 ⟨some b,ts⟩;simp only [RT.ft,Option.toList,ah,acg] at f1;simp only [RT.ft,Option.toList] at f3;have rP:∀ k,k∈cA (pt (fS (eE r) S) r ⟨some b,ts⟩)++ah H↔k∈cA S++ah (ts++H):=by
  intro k;rw [f1,f3,aY];simp only [sE,adU];constructor
  ·rintro (((h | (h | h)) | h) | h)<;>simp [h]
  ·rintro (((h | h) | h) | (h | h))<;>simp [h]
 have eR:(cA (pt (fS (eE r) S) r ⟨some b,ts⟩)++ah H).Nodup:=by
  have h0:=h.mem.nd;rw [f1] at h0;rw [f3];refine (List.Perm.nodup_iff ?_).1 h0;refine adV.2 fun a=>?_;simp only [aY,agb];omega
 have hX:∀ b' k,af C w S (ts++H) b' k->af C w (pt (fS (eE r) S) r ⟨some b,ts⟩) H b' k:=jH (fun k hk=>(rP k).1 hk);have cu:jo w w (af C w S (ts++H)) (af C w (pt (fS (eE r) S) r ⟨some b,ts⟩) H):=fun b k hk=>⟨hX b k hk,rfl⟩;have dT:∀ d u,bp w (af C w S (ts++H)) S d u->bp w (af C w (pt (fS (eE r) S) r ⟨some b,ts⟩) H) (pt (fS (eE r) S) r ⟨some b,ts⟩) (eE r d) u:=
  fun d u hd=>aax cu (R:=⟨some b,ts⟩) h1 rfl rfl (qu hg hd)
 have dm:=h.mem.hand;rw [dV] at dm;refine ⟨?_,dT,?_⟩
 ·refine h.step (f:=eE r) ?_ rfl rfl dT ⟨eR,?_,fX hX _ dm.2,fun k hk=>h.mem.lt k ((rP k).1 hk)⟩ ⟨h.kept.os,h.kept.tape,h.kept.output,h.kept.size,h.kept.block,fun k hk=>h.kept.iD k ((rP k).1 hk),?_⟩
  ·exact BF (pD hg h.rt) r ⟨some b,ts⟩
  ·intro r' R' eF;by_cases he:r'=r
   ·subst he;rw [cx,mN] at eF;subst eF;refine ⟨fo,fun t ht=>?_⟩;have:=(bY _).1 (fX hX _ dm.1) t ht;cases t with
    | v d u=>exact .inl this
    | own s n cap a cs=>exact this
   ·rw [dE _ _ he,lD] at eF;cases hx:lk S r' with
    | none=>simp [hx] at eF
    | some R0=>
     simp only [hx,MD,mN] at eF;subst eF;obtain ⟨k1,k2⟩:=h.mem.root r' R0 hx;refine ⟨?_,?_⟩
     ·simp only [aeR];have hv:ax (R0.cs.map (fT (eE r)))=ax R0.cs:=by
       rw [cz,cz,age]
       congr 1
       funext t;cases t<;>rfl
      rw [hv];exact k1
     ·intro t ht;simp only [acv] at ht;obtain ⟨t0,kB,rfl⟩:=ht;have:=k2 t0 kB;cases t0 with
      | v d u=>
       simp only [fT,jg] at this ⊢;rw [hg.leaf];rcases this with this | ⟨hb,this⟩
       ·exact .inl (rL hg EU (um hX _ _ this))
       ·exact .inr ⟨hb,by rw [uj this]; exact dT _ _ this⟩
      | own s n cap a xs=>
       simp only [fT];exact dL cu _ this (fun _ _=>rfl)
  ·intro r' b' vs hm R' eF;by_cases he:r'=r
   ·subst he;rw [cx,mN] at eF;subst eF;obtain ⟨g1,g2⟩:=h.kept.par r' b' vs hm _ h0;refine ⟨g1,fun hb=>?_⟩;rw [hb] at g1;simp at g1
   ·rw [dE _ _ he,lD] at eF;cases hx:lk S r' with
    | none=>simp [hx] at eF
    | some R0=>
     simp only [hx,MD,mN] at eF;subst eF;obtain ⟨g1,g2⟩:=h.kept.par r' b' vs hm R0 hx;refine ⟨g1,fun hb=>?_⟩;rw [<- g2 hb];simp only [cz,age]
     congr 1
     funext t;cases t<;>rfl
 ·refine mW.trans (S':=fS (eE r) S) (QW _ S) (fun r' R' eF=>?_);by_cases he:r'=r
  ·subst he;rw [h1,mN] at eF;subst eF;exact ⟨_,cx _ _ _,rfl⟩
  ·exact ⟨R',by rw [dE _ _ he]; exact eF,rfl⟩
end
def jq (S S':List (Nat × RT)):Prop:=∀ r R,lk S r=some R->∃ R',lk S' r=some R'/\R'.box=R.box/\(R.cs=[]->R'.cs=[])
theorem jq.refl (S:List (Nat × RT)):jq S S:=fun _ R h=>⟨R,h,rfl,fun h=>h⟩
theorem jq.trans {S S' zo:List (Nat × RT)} (h:jq S S') (h':jq S' zo):jq S zo:=fun r R hr=>by
 obtain ⟨R1,h1,h2,h3⟩:=h r R hr;obtain ⟨R2,h4,h5,h6⟩:=h' r R1 h1;exact ⟨R2,h4,h5.trans h2,fun e=>h6 (h3 e)⟩
theorem pU.e {S S':List (Nat × RT)} (h:pU S S'):jq S S':=fun r R hr=>by
 obtain ⟨R1,h1,h2,h3⟩:=h.fwd r R hr;exact ⟨R1,h1,h2,fun e=>by
  have h4:=congrArg List.length h3;rw [e] at h4;simp only [bK,aei] at h4;exact ac9.1 h4⟩
theorem jq.b {S S':List (Nat × RT)} (h:jq S S'):mW S S':=fun r R hr=>by
 obtain ⟨R1,h1,h2,_⟩:=h r R hr;exact ⟨R1,h1,h2⟩
theorem jq.empty {S S':List (Nat × RT)} (h:jq S S') {r:Nat} {b:Option Nat} (hr:lk S r=some ⟨b,[]⟩):lk S' r=some ⟨b,[]⟩:=by
 obtain ⟨R1,h1,h2,h3⟩:=h r _ hr;have:=h3 rfl;cases R1;simp only at h2 this;rw [h1,h2,this]
section
variable {C:Ctx} {H:List T} {w:World} {st st':St} {aJ:List (Array Value)} {S:List (Nat × RT)}
theorem R9 (h:Rel C H w st aJ S) {r b:Nat} {R:RT} (hR:lk S r=some R) (hb:R.box=some b):
  Rel C H w { st with rt:=pz st.rt r [] } aJ (pt S r ⟨some b,[]⟩)/\hM C w w S (pt S r ⟨some b,[]⟩) H H id/\jq S (pt S r ⟨some b,[]⟩):=by
 obtain ⟨A,B,f1,f2⟩:=kv hR;have f3:=f2 ⟨some b,[]⟩;simp only [RT.ft,hb,Option.toList,ah,acg] at f1 f3;have eI:∀ k∈cA (pt S r ⟨some b,[]⟩)++ah H,k∈cA S++ah H:=by
  intro k hk;rw [f3] at hk;rw [f1];simp only [sE,adU] at hk ⊢;rcases hk with ((hk | hk) | hk) | hk<;>simp [hk]
 have eR:(cA (pt S r ⟨some b,[]⟩)++ah H).Nodup:=by
  have h0:=h.mem.nd;rw [f1] at h0;rw [f3];refine ajC ?_ h0;refine af4 (af4 (af4 (adK _) ?_) (adK _)) (adK _);simp
 have hX:∀ b' k,af C w S H b' k->af C w (pt S r ⟨some b,[]⟩) H b' k:=jH eI;have cu:jo w w (af C w S H) (af C w (pt S r ⟨some b,[]⟩) H):=fun b k hk=>⟨hX b k hk,rfl⟩;have dT:∀ d u,bp w (af C w S H) S d u->bp w (af C w (pt S r ⟨some b,[]⟩) H) (pt S r ⟨some b,[]⟩) d u:=by
  intro d u hd;cases d with
  | ref r' q' o' x=>
   intro t ht;by_cases he:r'=r
   ·subst he;obtain ⟨R',l,e1,e2,e3⟩:=Dl ht;rw [cx,mN] at e1;subst e1;cases q' with
    | nil=>simp only [ay,mN] at e2; subst e2; simp at e3
    | cons p q=>simp [ay] at e2
   ·refine hd t ?_;rw [<- ht];simp only [cr,dE _ _ he]
  | ptr r' q' o'=>
   intro R' dO;by_cases he:r'=r
   ·subst he;rw [cx,mN] at dO;subst dO;refine ⟨fun _=>rfl,fun b' off ha=>?_⟩;cases q' with
    | nil=>
     refine (hd R hR).2 b' off ?_;simp only [bN,hb] at ha ⊢;exact ha
    | cons p q=>simp [bN] at ha
   ·rw [dE _ _ he] at dO;exact hd R' dO
  | dK cs o=>exact nz (S:=S) (d:=.dK cs o) cu hd
  | _=>exact gu cu _ _ hd
 refine ⟨h.rJ ?_ rfl rfl dT ⟨eR,?_,fX hX _ h.mem.hand,fun k hk=>h.mem.lt k (eI k hk)⟩ ⟨h.kept.os,h.kept.tape,h.kept.output,h.kept.size,h.kept.block,fun k hk=>h.kept.iD k (eI k hk),?_⟩,dT,?_⟩
 ·exact BF h.rt r ⟨some b,[]⟩
 ·intro r' R' eF;by_cases he:r'=r
  ·subst he;rw [cx,mN] at eF;subst eF;refine ⟨?_,by simp⟩
   have:=(h.mem.root _ R hR).1;rw [hb] at this;obtain ⟨c,e,fz,g1,g2,g3,g4⟩:=this;exact ⟨c,e,fz,g1,g2,by simp,by simp [ax]⟩
  ·rw [dE _ _ he] at eF;obtain ⟨k1,k2⟩:=h.mem.root r' R' eF;refine ⟨k1,fun t ht=>?_⟩;have:=k2 t ht;cases t with
   | v d u=>
    rcases this with this | ⟨hb,this⟩
    ·exact .inl (um hX _ _ this)
    ·exact .inr ⟨hb,dT _ _ this⟩
   | own s n cap a xs=>exact dL cu _ this (fun _ _=>rfl)
 ·intro r' b' vs hm R' eF;by_cases he:r'=r
  ·subst he;rw [cx,mN] at eF;subst eF;obtain ⟨g1,_⟩:=h.kept.par r' b' vs hm _ hR;rw [hb] at g1;exact ⟨g1,fun e=>by rw [e] at g1; simp at g1⟩
  ·rw [dE _ _ he] at eF;exact h.kept.par r' b' vs hm R' eF
 ·intro r' R' eF;by_cases he:r'=r
  ·subst he;rw [hR,mN] at eF;subst eF;exact ⟨_,cx _ _ _,hb.symm,fun _=>rfl⟩
  ·exact ⟨R',by rw [dE _ _ he]; exact eF,rfl,fun h=>h⟩
theorem acJ (h:Rel C H w st aJ S) {r b:Nat} {R:RT} (hR:lk S r=some R) (hb:R.box=some b) {cs':List D} (ht:TQ st r=some (cs',st')):
  ∃ ts S',Rel C (ts++H) w st' aJ S'/\aX ts=cs'/\ts≠[]/\lk S' r=some ⟨some b,[]⟩/\lx w b 0 ts.length (ax ts)/\hM C w w S S' H (ts++H) id/\jq S S'/\lP st st':=by
 unfold TQ at ht;rw [h.rt,hR] at ht;simp only [MD] at ht;split at ht
 case h_2=>simp at ht
 rename_i c cs ec;simp only [mN] at ec;split at ht
 case h_2=>simp at ht
 rename_i cs1 aP dA;simp only [mN,sF] at ht;obtain ⟨rfl,rfl⟩:=ht;have dM:bZ (bp w (af C w S H) S) (lC r [] 0 (c::cs)) (ax R.cs):=by
  rw [<- ec];refine dk (by rw [pQ,fm,bK]) (fun i x y hx hy=>?_)
  rw [nv,ir] at hx;rw [fh] at hy;cases hi:R.cs[i]? with
  | none=>simp [hi] at hx
  | some t=>
   simp only [hi,MD,mN,aef] at hx hy;subst hx; subst hy;exact pP h.mem hR rfl hi
 obtain ⟨ts,S1,a1,a2,a3,a4,a5,a6⟩:=EN h dM dA;obtain ⟨R1,b1,b2,_⟩:=a5.fwd r R hR;obtain ⟨c1,c2,c3⟩:=R9 a1 b1 (b2.trans hb);refine ⟨ts,_,c1,a2,?_,cx _ _ _,?_,fun d u hd=>c2 d u (a4 d u hd),a5.e.trans c3,a6⟩
 ·intro e;have h1:=congrArg List.length ec;have h2:=congrArg List.length a3;rw [e] at h2;rw [fm] at h1;simp only [bK,adj,aei] at h1 h2;omega
 ·have h1:=(h.mem.root r R hR).1;rw [hb] at h1;have h2:=congrArg List.length a3;simp only [bK] at h2;rw [h2,a3];exact h1
end
def fM:D->Value->List T->Prop
 | .agg cs,u,ts=>cs=aX ts/\∃ us,u=.agg us/\us.toList=ax ts
 | d,u,ts=>∃ t,ts=[t]/\d=t.er/\u=t.val
abbrev Arg:=Option Nat × List T
def Jl (w:World) (X:Bool->Nat->Prop):Bool->D->Value->Arg->Prop
 | false,d,u,a=>a=(none,[])/\∀ S,gp w X S d u
 | true,.aW cs,u,a=>∃ b,a.1=some b/\a.2≠[]/\cs=aX a.2/\u=.pointer (some ⟨b,0,none⟩)/\lx w b 0 a.2.length (ax a.2)
 | true,d,u,a=>a.1=none/\fM d u a.2
def qF (w:World) (S:List (Nat × RT)):Bool->D->D->Value->Arg->Prop
 | false,d,d1,_,a=>a=(none,[])/\d1=d
 | true,d,.aW cs,u,a=>∃ r b,d=.ptr r [] 0/\a.1=some b/\lk S r=some ⟨some b,[]⟩/\a.2≠[]/\cs=aX a.2/\u=.pointer (some ⟨b,0,none⟩)/\lx w b 0 a.2.length (ax a.2)
 | true,d,d1,u,a=>a.1=none/\fM d1 u a.2/\ax a.2=gM d u/\(∀ r,d≠.ptr r [] 0)/\((∃ cs,d1=.agg cs)↔∃ cs,d=.agg cs)/\(∀ f cs,d≠.fn f cs)/\∀ ds,d≠.aG ds
def sX (w:World) (S:List (Nat × RT)):List Bool->List D->List D->List Value->List Arg->Prop
 | _,[],gn,us,as9=>gn=[]/\us=[]/\as9=[]
 | b,d::ds,gn,us,as9=>∃ d1 yJ u kf a cm,gn=d1::yJ/\us=u::kf/\as9=a::cm/\qF w S (b.headD false) d d1 u a/\sX w S b.tail ds yJ kf cm
def cO (as9:List Arg):List T:=(as9.map Prod.snd).reverse.flatten
theorem qG (a:Arg) (as9:List Arg):cO (a::as9)=cO as9++a.2:=by simp [cO]
theorem qF.Ja {w:World} {S S':List (Nat × RT)} (h:jq S S') {b:Bool} {d d1:D} {u:Value} {a:Arg} (hg:qF w S b d d1 u a):qF w S' b d d1 u a:=by
 cases b with
 | false=>exact hg
 | true=>
  cases d1 with
  | aW cs=>
   obtain ⟨r,b,h1,h2,h3,h4⟩:=hg;exact ⟨r,b,h1,h2,h.empty h3,h4⟩
  | _=>exact hg
theorem CA {w:World} {S:List (Nat × RT)} {d d1:D} {u:Value} {a:Arg} (hn:∀ cs,d1≠.aW cs) (h1:a.1=none) (h2:fM d1 u a.2) (h3:ax a.2=gM d u) (h4:∀ r,d≠.ptr r [] 0) (h5:(∃ cs,d1=.agg cs)↔∃ cs,d=.agg cs) (h6:(∀ f cs,d≠.fn f cs)/\∀ ds,d≠.aG ds):qF w S true d d1 u a:=by
 cases d1<;>first | exact ⟨h1,h2,h3,h4,h5,h6⟩ | exact absurd rfl (hn _)
theorem rQ {t:T} {w:World} {X:Bool->Nat->Prop} (hs:bA w X t):(∀ cs,t.er≠.aW cs)/\(∀ cs,t.er≠.agg cs)/\(∀ cs,t.er≠.aG cs):=by
 cases t with
 | own s n cap a xs=>simp [T.er]
 | v d u=>
  simp only [bA] at hs;simp only [T.er];refine ⟨fun cs e=>?_,fun cs e=>?_,fun cs e=>?_⟩<;>(rw [e] at hs; simp [Ext] at hs)
section
variable {C:Ctx} {w:World} {aJ:List (Array Value)}
theorem Nv {H:List T} {st st':St} {S:List (Nat × RT)} {d d':D} {u:Value} (h:Rel C H w st aJ S) (hd:ck w (af C w S H) S d u) (ht:Cj st d=some (d',st')):
  ∃ (a:Arg) (S':List (Nat × RT)),Rel C (a.2++H) w st' aJ S'/\qF w S' true d d' u a/\hM C w w S S' H (a.2++H) id/\jq S S'/\lP st st'/\∀ b,a.1=some b->∀ r0,lk S r0≠some ⟨some b,[]⟩:=by
 by_cases hp:∃ r,d=.ptr r [] 0
 ·obtain ⟨r,rfl⟩:=hp;simp only [Cj] at ht;split at ht
  case h_2=>simp at ht
  rename_i cs1 aP dA;simp only [mN,sF] at ht;obtain ⟨rfl,rfl⟩:=ht;cases hR:lk S r with
  | none=>simp [TQ,h.rt r,hR] at dA
  | some R=>
   have sL:∀ R,lk S r=some R->(([]:List Nat)=[]->R.box.isSome)/\∀ b off,bN R.box R.cs []=some (b,off)->u=.pointer (some ⟨b,off+0,none⟩):=hd;obtain ⟨h1,h2⟩:=sL R hR;obtain ⟨b,hb⟩:=af3.1 (h1 rfl);obtain ⟨ts,S',a1,a2,a3,a4,a5,a6,a7,a8⟩:=acJ h hR hb dA;refine ⟨(some b,ts),S',a1,⟨r,b,rfl,rfl,a4,a3,a2.symm,by have:=h2 b 0 (by simp [bN,hb]); simpa using this,a5⟩,a6,a7,a8,fun b' e r0 QT=>?_⟩
   simp only [mN] at e;subst e;have:=uU (zX.1 h.mem.nd).1 hR hb QT (by simp [RT.ft])
   subst this;rw [hR,mN] at QT;subst QT;simp [TQ,h.rt _,hR,aX] at dA
 ·have hp:∀ r,d≠.ptr r [] 0:=fun r e=>hp ⟨r,e⟩;by_cases ha:∃ cs,d=.agg cs
  ·obtain ⟨cs,rfl⟩:=ha;simp only [Cj] at ht;split at ht
   case h_2=>simp at ht
   rename_i cs1 aP dA;simp only [mN,sF] at ht;obtain ⟨rfl,rfl⟩:=ht;obtain ⟨ts,S',a1,a2,a3,a4,a5,a6⟩:=qB h hd (d:=.agg cs) dA;obtain ⟨us,rfl,_⟩:=hd;exact ⟨(none,ts),S',a1,CA (by simp) rfl ⟨a2.symm,us,rfl,by rw [a3]; rfl⟩ a3 hp (by simp) (by simp),a4,a5.e,a6,by simp⟩
  ·have dA:iS st d=some (d',st'):=by
    unfold Cj at ht;split at ht
    ·exact absurd ⟨_,rfl⟩ ha
    ·exact absurd rfl (hp _)
    ·exact ht
   have cB:cellsOf d=[d]:=by cases d<;>first | rfl | exact absurd ⟨_,rfl⟩ ha
   obtain ⟨ts,S',a1,a2,a3,a4,a5,a6⟩:=qB h hd (ds':=[d']) (st':=st') (by rw [cB]; simp only [re,dA])
   have hv:gM d u=[u]:=by cases d<;>first | rfl | exact absurd ⟨_,rfl⟩ ha
   rw [hv] at a3;obtain ⟨t,rfl⟩:∃ t,ts=[t]:=by
    match ts,a2 with
    | [t],_=>exact ⟨t,rfl⟩
   simp only [aX,acS,and_true] at a2;simp only [ax,acS,and_true] at a3;subst a2;have hs:=rQ (fW (o:=0) a1.mem.hand (t:=t) rfl);refine ⟨(none,[t]),S',a1,CA hs.1 rfl ?_ (by rw [hv]; simp [ax,a3]) hp ?_ ⟨fun f cs e=>by rw [e] at dA; simp [iS] at dA,fun ds e=>by rw [e] at dA; simp [iS] at dA⟩,a4,a5.e,a6,by simp⟩
   ·have:∀ d1,(∀ cs,d1≠.agg cs)->d1=t.er->fM d1 u [t]:=fun d1 hn e=>by
     cases d1<;>first | exact ⟨t,rfl,e,a3.symm⟩ | exact absurd rfl (hn _)
    exact this _ hs.2.1 rfl
   ·exact ⟨fun ⟨cs,e⟩=>absurd e (hs.2.1 cs),fun ⟨cs,e⟩=>absurd ⟨cs,e⟩ ha⟩
theorem E0:∀ {b:List Bool} {ds gn:List D} {us:List Value} {H:List T} {st st':St} {S:List (Nat × RT)},Rel C H w st aJ S->bZ (ck w (af C w S H) S) ds us->mO st b ds=some (gn,st')->
  ∃ (as9:List Arg) (S':List (Nat × RT)),Rel C (cO as9++H) w st' aJ S'/\sX w S' b ds gn us as9/\hM C w w S S' H (cO as9++H) id/\jq S S'/\lP st st'/\(as9.filterMap Prod.fst).Nodup/\∀ r bk,lk S r=some ⟨some bk,[]⟩->bk∉as9.filterMap Prod.fst:=by
 intro b ds
 induction ds generalizing b with
 | nil=>
  intro gn us H st st' S h hu hc;cases hu;simp only [mO,mN,sF] at hc;obtain ⟨rfl,rfl⟩:=hc;exact ⟨[],S,h,⟨rfl,rfl,rfl⟩,fun _ _ h=>h,jq.refl _,lP.refl _,by simp,by simp⟩
 | cons d ds ih=>
  intro gn us H st st' S h hu hc;cases hu with
  | cons sS Cp=>
  rename_i u us;simp only [mO] at hc;split at hc
  case h_2=>simp at hc
  rename_i d1 aP h1;split at hc
  case h_2=>simp at hc
  rename_i sG cj h2;simp only [mN,sF] at hc;obtain ⟨rfl,rfl⟩:=hc;obtain ⟨a,S1,a1,a2,a3,a4,a5,a6⟩:∃ (a:Arg) (S':List (Nat × RT)),Rel C (a.2++H) w aP aJ S'/\qF w S' (b.headD false) d d1 u a/\hM C w w S S' H (a.2++H) id/\jq S S'/\lP st aP/\∀ b,a.1=some b->∀ r0,lk S r0≠some ⟨some b,[]⟩:=by
   cases hb:b.headD false with
   | false=>
    rw [hb] at h1;simp only [acq,if_false,mN,sF] at h1;obtain ⟨rfl,rfl⟩:=h1;exact ⟨(none,[]),S,h,⟨rfl,rfl⟩,fun _ _ h=>h,jq.refl _,lP.refl _,by simp⟩
   | true=>
    rw [hb] at h1;exact Nv h sS (by simpa using h1)
  obtain ⟨as9,S2,b1,b2,b3,b4,b5,b6,b7⟩:=ih a1 (Cp.mono (fun _ _ hh=>pS a3 hh)) h2;refine ⟨a::as9,S2,?_,⟨_,_,_,_,_,_,rfl,rfl,rfl,a2.Ja b4,b2⟩,fun d u hd=>?_,a4.trans b4,lP.trans a5 b5,?_,fun r bk hr=>?_⟩
  ·rw [qG,acz]; exact b1
  ·rw [qG,acz]; exact b3 d u (a3 d u hd)
  ·cases ha:a.1 with
   | none=>simpa [ha] using b6
   | some bk=>
    simp only [adD,ha,adW];refine ⟨?_,b6⟩;cases hb:b.headD false with
    | false=>rw [hb] at a2; obtain ⟨rfl,_⟩:=a2; simp at ha
    | true=>
     rw [hb] at a2;cases d1 with
     | aW cs=>
      obtain ⟨r,Nw,_,e2,e3,_⟩:=a2;rw [ha,mN] at e2;subst e2;exact b7 r bk e3
     | _=>rw [a2.1] at ha; simp at ha
  ·cases ha:a.1 with
   | none=>simp only [adD,ha]; exact b7 r bk (a4.empty hr)
   | some Nw=>
    simp only [adD,ha,acK,not_or];exact ⟨fun e=>a6 Nw ha r (e▸hr),b7 r bk (a4.empty hr)⟩
end
theorem wc {α β γ:Type} {f:α->Option β} {R:α->γ->Prop} {R':β->γ->Prop}:∀ {as9:List α} {bs:List β} {cs:List γ},bZ R as9 cs->lp f as9=some bs->(∀ a b c,R a c->f a=some b->R' b c)->bZ R' bs cs
 | [],bs,cs,h,hm,_=>by
  cases h;simp only [lp,mN] at hm;subst hm;exact .nil
 | a::as9,bs,cs,h,hm,hr=>by
  cases h with
  | cons h1 h2=>
  simp only [lp] at hm;split at hm
  case h_2=>simp at hm
  rename_i b hb;split at hm
  case h_2=>simp at hm
  rename_i Zg wa;simp only [mN] at hm;subst hm;exact .cons (hr _ _ _ h1 hb) (wc h2 wa hr)
section
variable {C:Ctx} {H:List T} {w:World} {st:St} {aJ:List (Array Value)} {S:List (Nat × RT)} (h:Rel C H w st aJ S) {X':Bool->Nat->Prop} (hX:∀ b k,af C w S H b k->X' b k)
 (hF:∀ r R k,lk S r=some R->R.cs≠[]->k∈R.ft->X' true k)
include h hX hF
theorem E3 {d d':D} {u:Value} (hd:bp w (af C w S H) S d u) (he:tJ st d=some d'):Ext w X' d' u:=by
 cases d with
 | int k n=>simp only [tJ,mN] at he; subst he; exact hd
 | bool b=>simp only [tJ,mN] at he; subst he; exact hd
 | str s=>simp only [tJ,mN] at he; subst he; exact hd
 | nil s=>simp only [tJ,mN] at he; subst he; exact hd
 | undef=>simp only [tJ,mN] at he; subst he; simp [Ext]
 | hole s n=>simp only [tJ,mN] at he; subst he; simp [Ext]
 | sl g s n cs=>
  simp only [tJ,mN] at he;subst he;cases g with
  | none=>simp [bp,Ext] at hd
  | some g=>exact um hX _ _ hd
 | ref r q o x=>
  simp only [tJ] at he;split at he
  case h_2=>simp at he
  rename_i g s n cs hc;simp only [mN] at he;subst he;obtain ⟨R,l,t,h1,h2,h3,h4,h5⟩:=iu h.rt hc;refine BG hX true h5.symm (qq h.mem h1 h2 h3 h5.symm) (fun k hk=>hF r R k h1 ?_ ?_) (hd t h4)
  ·intro e;rw [e] at h2;cases q with
   | nil=>simp only [ay,mN] at h2; subst h2; simp at h3
   | cons p q=>simp [ay] at h2
  ·have:k∈ah l:=BI (aci h3) hk;have:=Jg h2 this;simp [RT.ft,this]
 | _=>simp [tJ] at he
theorem acL {d d':D} {u:Value} (hd:bp w (af C w S H) S d u) (he:exN st d=some d'):Ext w X' d' u:=by
 unfold exN at he;split at he
 ·rename_i s e;simp only [mN] at he;subst he;have e1:Ext w X' (.nil s) u:=E3 h hX hF hd e;simp only [Ext] at e1;subst e1;simp only [Ext,fV];exact ⟨none,0,[],rfl,acD 0,by simp,rfl,.inl trivial⟩
 ·exact E3 h hX hF hd he
theorem UB {b:Bool} {t:T} {d':D} (hc:jg w (af C w S H) S b t) (hf:∀ k∈t.ft,X' true k) (he:tJ st t.er=some d'):Ext w X' d' t.val:=by
 cases t with
 | v d u=>
  have:bp w (af C w S H) S (bH d) u:=by
   rcases hc with hc | ⟨_,hc⟩
   ·exact fq hc
   ·exact hc
  exact E3 h hX hF this he
 | own s n cap a cs=>
  simp only [T.er,tJ,mN] at he;subst he;exact yz hX true (.own s n cap a cs) hc hf
theorem mI {d d':D} {u:Value} (hd:bp w (af C w S H) S d u) (he:QH st d=some d') (S':List (Nat × RT)):bp w X' S' d' u:=by
 cases d with
 | dK cs o=>
  simp only [QH,mN] at he;subst he;obtain ⟨b,off,c,e,fz,us,h1,h2,h3,h4,h5⟩:=hd;exact ⟨b,off,c,e,fz,us,h1,hX true b h2,h3,sJ (fun b k hk=>⟨hX b k hk,rfl⟩) cs us h4,h5⟩
 | ptr r q o=>
  simp only [QH] at he;split at he
  case h_2=>simp at he
  rename_i c cs ec;split at he
  case h_2=>simp at he
  rename_i cs' hm;simp only [mN] at he;subst he;obtain ⟨R,l,h1,h2,h3⟩:=uN st S h.rt ec;have hl:l≠[]:=fun e=>by rw [e] at h3; simp [aX] at h3
  obtain ⟨p1,p2⟩:=hd R h1;obtain ⟨b,off,fj,a1,a2,a3,a4⟩:=qp h.mem h1 h2 hl p1;have hR:R.cs≠[]:=fun e=>by
   rw [e] at h2;cases q with
   | nil=>simp only [ay,mN] at h2; exact hl h2.symm
   | cons p q=>simp [ay] at h2
  have hb:b∈R.ft:=by
   cases q with
   | nil=>
    simp only [bN] at a1;cases hx:R.box with
    | none=>simp [hx] at a1
    | some b'=>simp only [hx,MD,mN,sF] at a1; simp [RT.ft,hx,a1.1]
   | cons p q=>simp [RT.ft,pC a1]
  obtain ⟨cc,e,fz,b1,b2,b3,b4⟩:=a2;refine ⟨b,off,cc,e,fz,ax l,p2 b off a1,hF r R b h1 hR hb,b1,(gY _ _).2 ?_,b4⟩;have dM:bZ (fun d u=>∃ t bx,d=t.er/\u=t.val/\jg w (af C w S H) S bx t/\∀ k∈t.ft,X' true k) (c::cs) (ax l):=by
   rw [h3];refine dk (by simp [fm,bK]) (fun i x y hx hy=>?_)
   rw [ir] at hx;rw [fh] at hy;cases hi:l[i]? with
   | none=>simp [hi] at hx
   | some t=>
    simp only [hi,MD,mN] at hx hy;have cW:∀ k∈t.ft,X' true k:=fun k hk=>hF r R k h1 hR (by
     have:=Jg h2 (BI (aci hi) hk);simp [RT.ft,this])
    cases q with
    | nil=>
     simp only [ay,mN] at h2;subst h2;exact ⟨t,R.box.isSome,hx.symm,hy.symm,(h.mem.root r R h1).2 t (aci hi),cW⟩
    | cons p q=>
     have:=fW (a4 (by simp)) hi
     refine ⟨t,true,hx.symm,hy.symm,?_,cW⟩;cases t with
     | v d u=>exact .inl this
     | own s n cap a cs=>exact this
  exact wc dM hm (fun a b c ⟨t,bx,e1,e2,e3,e4⟩ he=>by
   subst e1; subst e2;exact UB h hX hF e3 e4 he)
 | _=>exact fq (E3 h hX hF hd he)
theorem acM {d d':D} {u:Value} (hd:ck w (af C w S H) S d u) (he:TP st d=some d') (S':List (Nat × RT)):gp w X' S' d' u:=by
 cases d with
 | agg cs=>
  simp only [TP] at he;split at he
  case h_2=>simp at he
  rename_i cs' hm;simp only [mN] at he;subst he;obtain ⟨us,rfl,hu⟩:=hd;exact ⟨us,rfl,wc hu hm (fun a b c h1 h2=>fq (acL h hX hF h1 h2))⟩
 | fn f cs=>
  simp only [TP] at he;split at he
  case h_2=>simp at he
  rename_i cs' hm;simp only [mN] at he;subst he;obtain ⟨us,rfl,hu⟩:=hd;exact ⟨us,rfl,wc hu hm (fun a b c h1 h2=>mI h hX hF h1 h2 S')⟩
 | aG ds=>simp [TP,QH,tJ] at he
 | int k n=>exact ew (mI h hX hF (d:=.int k n) hd he S')
 | bool b=>exact ew (mI h hX hF (d:=.bool b) hd he S')
 | str s=>exact ew (mI h hX hF (d:=.str s) hd he S')
 | sl g s n cs=>exact ew (mI h hX hF (d:=.sl g s n cs) hd he S')
 | ref r q o x=>exact ew (mI h hX hF (d:=.ref r q o x) hd he S')
 | nil s=>exact ew (mI h hX hF (d:=.nil s) hd he S')
 | ptr r q o=>exact ew (mI h hX hF (d:=.ptr r q o) hd he S')
 | dK cs o=>exact ew (mI h hX hF (d:=.dK cs o) hd he S')
 | aW cs=>exact ew (mI h hX hF (d:=.aW cs) hd he S')
 | hole s n=>exact ew (mI h hX hF (d:=.hole s n) hd he S')
 | undef =>exact ew (mI h hX hF (d:=.undef) hd he S')
end
def tZ (a:Arg):List Nat:=a.1.toList++ah a.2
def bq:List Arg->List Nat
 | []=>[]
 | a::as9=>tZ a++bq as9
def tD (w:World) (X:Bool->Nat->Prop):List Bool->List D->List Value->List Arg->Prop
 | _,[],us,as9=>us=[]/\as9=[]
 | b,d::ds,us,as9=>∃ u kf a cm,us=u::kf/\as9=a::cm/\Jl w X (b.headD false) d u a/\tD w X b.tail ds kf cm
def Lk (w:World) (F:List Nat) (Y:Nat->Prop) (b:Bool) (k:Nat):Prop:=k < w.heap.size/\k∉F/\(b=false->Y k)
structure jG (w:World) (Y:Nat->Prop) (own:List Bool) (ds:List D) (us:List Value) (as9:List Arg):Prop where
 args:tD w (Lk w (bq as9) Y) own ds us as9
 nd:(bq as9).Nodup
 lt:∀ k∈bq as9,k < w.heap.size
 sat:∀ a∈as9,bC w (Lk w (bq as9) Y) a.2
def rR (b:Nat) (ts:List T):T:=.own ts.length 1 1 (some (b,0)) ts
def sY:List D->List Value->List T->Prop
 | [],us,ts=>us=[]/\ts=[]
 | d::ds,us,ts=>∃ u kf t1 t2,us=u::kf/\ts=t1++t2/\fM d u t1/\sY ds kf t2
def Jm:D->Value->List T->Prop
 | .aW cs,v,ts=>∃ b QX,ts=[rR b QX]/\cs=aX QX/\v=.pointer (some ⟨b,0,none⟩)
 | .aG ds,v,ts=>∃ us,v=.tuple us/\sY ds us.toList ts
 | d,v,ts=>fM d v ts
def oF (w':World):Bool->D->Arg->Arg->Prop
 | false,_,_,a'=>a'=(none,[])
 | true,.aW cs,a,a'=>a'.1=a.1/\(∃ b,a.1=some b/\lx w' b 0 a'.2.length (ax a'.2))/\cs=aX a'.2
 | true,.agg cs,a,a'=>a.1=none/\a'.1=none/\cs=aX a'.2/\ax a'.2=ax a.2
 | true,d,a,a'=>a.1=none/\a'.1=none/\((a'.2=[]/\∀ s n cs,d≠.sl none s n cs)∨∃ t,a'.2=[t]/\d=t.er/\ax [t]=ax a.2)
def mv (w':World):List Bool->List D->List Arg->List Arg->Prop
 | _,os,[],cm=>os=[]/\cm=[]
 | b,os,a::as9,cm=>∃ o xm a' Nx,os=o::xm/\cm=a'::Nx/\oF w' (b.headD false) o a a'/\mv w' b.tail xm as9 Nx
structure fp (w w':World) (Y:Nat->Prop) (own:List Bool) (as9:List Arg) (r:D) (outs:List D) (v:Value):Prop where
 sz:w.heap.size<=w'.heap.size
 bB:∀ k,k < w.heap.size->k∉bq as9->w'.heap[k]?=w.heap[k]?
 os:w'.os=w.os
 tape:w'.tape=w.tape
 out:w'.output=w.output
 res:∃ (eZ:List T) (cm:List Arg),Jm r v eZ/\mv w' own outs as9 cm/\(ah eZ++bq cm).Nodup/\(∀ k∈ah eZ++bq cm,k < w'.heap.size/\(k∈bq as9∨w.heap.size<=k))/\
  bC w' (fun b k=>Lk w' (ah eZ++bq cm) (fun k=>Y k∨k∈bq as9∨w.heap.size<=k) b k) eZ/\
  ∀ a∈cm,bC w' (fun b k=>Lk w' (ah eZ++bq cm) (fun k=>Y k∨k∈bq as9∨w.heap.size<=k) b k) a.2
def kh (P : Program) (f : FuncId) : Prop := ∃ fn, P.funcs[f]? = some fn ∧ (fn.name == "runtime.NumGoroutine") = false ∧ fn.body.isNone = false
def lu (P:Program) (own:FuncId->List Bool) (cl:FuncId->List D->Option (D × List D)):Prop:=
 ∀ f ds r outs,cl f ds=some (r,outs)->kh P f/\∀ (w:World) (Y:Nat->Prop) (us:Array Value) (as9:List Arg),jG w Y (own f) ds us.toList as9->dw r=true->(∀ o∈outs,dw o=true)->
  Calls P f us w fun e w'=>∃ v,e=.returned v/\fp w w' Y (own f) as9 r outs v
def lE (h:D->D):Prop:=∀ x,h x=x∨h x=.undef
theorem Xf:lE id:=fun _=>.inl rfl
theorem PI (r:Nat) (q:List Nat) (o:Nat) (e:Bool):lE (cq r q o e):=fun x=>by
 unfold cq;split
 ·split
  ·split
   ·exact .inl rfl
   ·split
    ·exact .inr rfl
    ·exact .inl rfl
   ·exact .inr rfl
  ·exact .inl rfl
 ·split
  ·split
   ·exact .inl rfl
   ·exact .inr rfl
  ·exact .inl rfl
 ·exact .inl rfl
theorem PJ (r:Nat):lE (eE r):=fun x=>by
 unfold eE;split
 ·split
  ·exact .inr rfl
  ·exact .inl rfl
 ·split
  ·exact .inr rfl
  ·exact .inl rfl
 ·exact .inl rfl
theorem lE.comp {f g:D->D} (hf:lE f) (hg:lE g) (h0:f .undef=.undef):lE (fun x=>f (g x)):=fun x=>by
 rcases hg x with e | e
 ·show f (g x)=x∨f (g x)=.undef;rw [e]; exact hf x
 ·right; show f (g x)=_; rw [e,h0]
section
variable {C:Ctx} {w:World} {aJ:List (Array Value)}
theorem pX {H Hs:List T} {st:St} {S:List (Nat × RT)} (h:Rel C (Hs++H) w st aJ S):Rel C H w st aJ S/\hM C w w S S (Hs++H) H id:=by
 have eI:∀ k∈cA S++ah H,k∈cA S++ah (Hs++H):=fun k hk=>by
  rw [aY];rcases sE.1 hk with h | h<;>simp [h]
 have hX:∀ b k,af C w S (Hs++H) b k->af C w S H b k:=jH eI;have cu:jo w w (af C w S (Hs++H)) (af C w S H):=fun b k hk=>⟨hX b k hk,rfl⟩;have dT:hM C w w S S (Hs++H) H id:=fun d u hd=>nz cu hd;refine ⟨h.rJ h.rt rfl rfl dT ⟨?_,?_,fX hX _ ((dV _ _).1 h.mem.hand).2,fun k hk=>h.mem.lt k (eI k hk)⟩ ⟨h.kept.os,h.kept.tape,h.kept.output,h.kept.size,h.kept.block,fun k hk=>h.kept.iD k (eI k hk),h.kept.par⟩,dT⟩
 ·refine ajC ?_ h.mem.nd;rw [aY];exact af4 (adK _) (agM _ _)
 ·intro r R hr;obtain ⟨k1,k2⟩:=h.mem.root r R hr;refine ⟨k1,fun t ht=>?_⟩;have:=k2 t ht;cases t with
  | v d u=>
   rcases this with this | ⟨hb,this⟩
   ·exact .inl (um hX _ _ this)
   ·exact .inr ⟨hb,dT _ _ this⟩
  | own s n cap a xs=>exact dL cu _ this (fun _ _=>rfl)
structure kD (C:Ctx) (w:World) (st st':St) (S S':List (Nat × RT)) (H H':List T) (h0 h1:D->D):Prop where
 Sa:∀ d u,bp w (af C w S H) S (h0 d) u->bp w (af C w S' H') S' (h1 d) u
 ZG:lE h1
 Ja:mW S S'
 of:st'.of=st.of
theorem kD.trans {st aP cj:St} {S S1 S2:List (Nat × RT)} {H H1 H2:List T} {h0 h1 h2:D->D} (a:kD C w st aP S S1 H H1 h0 h1) (b:kD C w aP cj S1 S2 H1 H2 h1 h2):kD C w st cj S S2 H H2 h0 h2:=
 ⟨fun d u hd=>b.Sa d u (a.Sa d u hd),b.ZG,a.Ja.trans b.Ja,b.of.trans a.of⟩
theorem kD.drop {st:St} {S:List (Nat × RT)} {H Hs:List T} {h0:D->D} (h:Rel C (Hs++H) w st aJ S) (hk:lE h0):kD C w st st S S (Hs++H) H h0 h0:=
 ⟨fun d u hd=>(pX h).2 _ _ hd,hk,mW.refl _,rfl⟩
theorem Ny:∀ {as9:List D} {ts:List T} {H:List T} {st st':St} {S:List (Nat × RT)} {h0 h1:D->D},Rel C (ts++H) w st aJ S->lE h0->bZ (fun a u=>bp w (af C w S (ts++H)) S (h0 a) u) as9 (ax ts)->pn st h0 as9 (aX ts)=some (st',h1)->
  ∃ S',Rel C H w st' aJ S'/\kD C w st st' S S' (ts++H) H h0 h1:=by
 intro as9
 induction as9 with
 | nil=>
  intro ts H st st' S h0 h1 h hk ha hb;have xd:ts=[]:=by
   cases ts with
   | nil=>rfl
   | cons t ts=>simp only [ax] at ha; cases ha
  subst xd;simp only [pn,mN,sF] at hb;obtain ⟨rfl,rfl⟩:=hb;exact ⟨S,h,⟨fun _ _ h=>h,hk,mW.refl _,rfl⟩⟩
 | cons a as9 ih=>
  intro ts H st st' S h0 h1 h hk ha hb;cases ts with
  | nil=>simp only [ax] at ha; cases ha
  | cons t ts=>
   simp only [ax] at ha;cases ha with
   | cons Af Zi=>
   simp only [aX,pn] at hb;split at hb
   ·rename_i r q o s n cs e1 e2;split at hb
    case h_2=>simp at hb
    rename_i s0 n0 cB;split at hb
    case isFalse=>simp at hb
    rename_i M6;split at hb
    case h_2=>simp at hb
    rename_i aP iv;rw [e1] at Af;rw [<- e2] at iv;obtain ⟨R,l,t0,g1,g2,g3,g4,g5⟩:=iu h.rt cB;obtain ⟨d0,u0,rfl⟩:∃ d0 u0,t0=.v d0 u0:=by
     cases t0 with
     | v d0 u0=>exact ⟨d0,u0,rfl⟩
     | own s n cap a cs=>simp [T.er] at g5
    simp only [T.er] at g5;have hu:=Af _ g4;simp only [eL,T.er,<- g5,sn] at hu;obtain ⟨S1,b1,b2,b3,b4,_,_⟩:=Nu (ex:=false) h g4 ⟨d0,u0,rfl,fun _=>by rw [<- g5]; simp [fg,cq]⟩ (.inl ⟨hu,fun p hp=>by
     rw [e2] at hp;simp only [sn,mN] at hp;simp only [T.er,<- g5,sn,mN];rw [M6.1,M6.2]; exact hp⟩) iv
    have hk1:lE (fun x=>cq r q o false (h0 x)):=lE.comp (PI r q o false) hk rfl;obtain ⟨S2,c1,c2⟩:=ih b1 hk1 (Zi.mono (fun x u hx=>b2 _ _ hx)) hb;exact ⟨S2,c1,kD.trans ⟨fun d u hd=>b2 _ _ hd,hk1,b4,b3⟩ c2⟩
   ·have hd:=pX (Hs:=[t]) h;obtain ⟨S2,c1,c2⟩:=ih hd.1 hk (Zi.mono (fun x u hx=>hd.2 _ _ hx)) hb;exact ⟨S2,c1,kD.trans (kD.drop (Hs:=[t]) h hk) c2⟩
def ZH (w:World) (X:Bool->Nat->Prop) (S:List (Nat × RT)) (h0:D->D) (d:D) (u:Value) (o:D) (a a':Arg):Prop:=
 bZ (fun x v=>bp w X S (h0 x) v) (cellsOf d) (gM d u)/\oF w true o a a'/\(a.1=none->ax a.2=gM d u/\∀ r,d≠.ptr r [] 0)/\∀ bx,a.1=some bx->∃ r R,d=.ptr r [] 0/\lk S r=some R/\R.box=some bx
theorem CB {H:List T} {st st':St} {S:List (Nat × RT)} {h0 h1:D->D} {ts:List T} {d o:D} (h:Rel C (ts++H) w st aJ S) (hk:lE h0) (hn:∀ r q o' x s n cs,¬ (h0 d=.ref r q o' x/\o=.sl none s n cs)) (hb:pn st h0 [d] [o]=some (st',h1)):∃ S',Rel C H w st' aJ S'/\kD C w st st' S S' (ts++H) H h0 h1:=by
 simp only [pn] at hb;split at hb
 ·rename_i r q o' s n cs e1;exact absurd ⟨e1,rfl⟩ (hn r q o' none s n cs)
 ·simp only [mN,sF] at hb;obtain ⟨rfl,rfl⟩:=hb;exact ⟨S,(pX h).1,kD.drop h hk⟩
theorem Xg {H:List T} {st st':St} {S:List (Nat × RT)} {h0 h1:D->D} {d o:D} {u:Value} {a a':Arg} (h:Rel C (a'.2++H) w st aJ S) (hk:lE h0) (ha:ZH w (af C w S (a'.2++H)) S h0 d u o a a') (hb:BB st h0 d o=some (st',h1)):
  ∃ S',Rel C H w st' aJ S'/\kD C w st st' S S' (a'.2++H) H h0 h1:=by
 obtain ⟨oS,h2,h3,h4⟩:=ha;unfold BB at hb;split at hb
 ·rename_i cs ds;obtain ⟨e1,e2,e3,e4⟩:=h2;subst e3;exact Ny h hk (by rw [e4,(h3 e1).1]; exact oS) hb
 ·rename_i r ds;obtain ⟨e1,⟨b,e2,e3⟩,e4⟩:=h2;split at hb
  case h_2=>simp at hb
  rename_i gf;simp only [mN,sF] at hb;obtain ⟨rfl,rfl⟩:=hb;obtain ⟨r',R,g1,g2,g3⟩:=h4 b e2;simp only [D.ptr.injEq,and_true] at g1;subst g1;rw [h.rt,g2] at gf;simp only [MD,mN] at gf;have ec:R.cs=[]:=ac9.1 (by rw [<- fm,gf]; rfl)
  obtain ⟨c1,c2,c3⟩:=Xe h (r:=r) (b:=b) (by rw [g2]; cases R; simp only at g3 ec; rw [g3,ec]) e3
  subst e4;exact ⟨_,c1,⟨fun d u hd=>c2 _ _ hd,lE.comp (PJ r) hk rfl,c3,rfl⟩⟩
 ·rename_i hna hnp;by_cases ez:∃ cs,d=.agg cs
  ·obtain ⟨cs,rfl⟩:=ez;refine CB h hk (fun r q o' x s n cs' hh=>?_) hb;rcases hk (.agg cs) with e | e<;>rw [e] at hh<;>simp at hh
  have cB:cellsOf d=[d]:=by cases d<;>first | rfl | exact absurd ⟨_,rfl⟩ ez
  have Aq:gM d u=[u]:=by cases d<;>first | rfl | exact absurd ⟨_,rfl⟩ ez
  by_cases gx:∃ s n cs,o=.sl none s n cs
  ·obtain ⟨s,n,cs,rfl⟩:=gx;obtain ⟨e1,e2,e3⟩:=h2;rcases e3 with ⟨_,e3⟩ | ⟨t,e3,e4,e5⟩
   ·exact absurd rfl (e3 s n cs)
   ·rw [e3] at h oS ⊢;rw [e4] at hb;refine Ny (as9:=[d]) (ts:=[t]) h hk ?_ (by simpa [aX] using hb)
    rw [e5,(h3 e1).1,Aq];rw [cB,Aq] at oS;exact oS
  ·exact CB h hk (fun r q o' x s n cs' hh=>gx ⟨s,n,cs',hh.2⟩) hb
def xq (w:World) (X:Bool->Nat->Prop) (S:List (Nat × RT)) (h0:D->D):List Bool->List D->List Value->List D->List Arg->List Arg->Prop
 | _,[],us,os,as9,cm=>us=[]/\os=[]/\as9=[]/\cm=[]
 | b,d::ds,us,os,as9,cm=>∃ u E4 o pY a At a' Au,us=u::E4/\os=o::pY/\as9=a::At/\cm=a'::Au/\(if b.headD false then ZH w X S h0 d u o a a' else a'=(none,[]))/\xq w X S h0 b.tail ds E4 pY At Au
theorem xq.step {X X':Bool->Nat->Prop} {S S':List (Nat × RT)} {h0 h1:D->D} (ht:∀ d u,bp w X S (h0 d) u->bp w X' S' (h1 d) u) (hd:mW S S'):∀ {b:List Bool} {ds:List D} {us:List Value} {os:List D} {as9 cm:List Arg},xq w X S h0 b ds us os as9 cm->xq w X' S' h1 b ds us os as9 cm
 | _,[],_,_,_,_,h=>h
 | b,d::ds,us,os,as9,cm,h=>by
  obtain ⟨u,E4,o,pY,a,At,a',Au,e1,e2,e3,e4,e5,e6⟩:=h;refine ⟨u,E4,o,pY,a,At,a',Au,e1,e2,e3,e4,?_,e6.step ht hd⟩;split
  ·rename_i hb;rw [if_pos hb] at e5;obtain ⟨k1,k2,k3,k4⟩:=e5;refine ⟨k1.mono (fun x v hx=>ht _ _ hx),k2,k3,fun bx qz=>?_⟩;obtain ⟨r,R,g1,g2,g3⟩:=k4 bx qz;obtain ⟨R',g4,g5⟩:=hd r R g2;exact ⟨r,R',g1,g4,g5.trans g3⟩
  ·rename_i hb;rw [if_neg hb] at e5;exact e5
def cV (as9:List Arg):List T:=(as9.map Prod.snd).flatten
theorem PK:∀ {ds:List D} {b:List Bool} {us:List Value} {os:List D} {as9 cm:List Arg} {H:List T} {st st':St} {S:List (Nat × RT)} {h0:D->D},Rel C (cV cm++H) w st aJ S->lE h0->xq w (af C w S (cV cm++H)) S h0 b ds us os as9 cm->im st h0 b ds os=some st'->
  ∃ S' h1,Rel C H w st' aJ S'/\kD C w st st' S S' (cV cm++H) H h0 h1:=by
 intro ds
 induction ds with
 | nil=>
  intro b us os as9 cm H st st' S h0 h hk ha hb;obtain ⟨rfl,rfl,rfl,rfl⟩:=ha;simp only [im,mN] at hb;subst hb;exact ⟨S,h0,h,⟨fun _ _ h=>h,hk,mW.refl _,rfl⟩⟩
 | cons d ds ih=>
  intro b us os as9 cm H st st' S h0 h hk ha hb;obtain ⟨u,E4,o,pY,a,At,a',Au,rfl,rfl,rfl,rfl,e5,e6⟩:=ha;have hh:cV (a'::Au)++H=a'.2++(cV Au++H):=by simp [cV]
  rw [hh] at h e5 e6 ⊢;simp only [im] at hb;split at hb
  ·rename_i sV;rw [if_pos sV] at e5;split at hb
   case h_2=>simp at hb
   rename_i aP h1 vY;obtain ⟨S1,c1,c2⟩:=Xg h hk e5 vY;obtain ⟨S2,h2,d1,d2⟩:=ih c1 c2.ZG (e6.step c2.Sa c2.Ja) hb;exact ⟨S2,h2,d1,c2.trans d2⟩
  ·rename_i sV;rw [if_neg sV] at e5;subst e5;have hd:=pX (Hs:=[]) (H:=cV Au++H) h;obtain ⟨S2,h2,d1,d2⟩:=ih hd.1 hk e6 hb;exact ⟨S2,h2,d1,d2⟩
end
def zr:D->List D
 | .agg cs=>cs
 | d=>[d]
theorem we (ds:List D):dc (.aG ds)=ds.flatMap zr:=rfl
theorem pE {d:D} {v:Value} {ts:List T} (h:fM d v ts):aX ts=zr d:=by
 cases d<;>first | exact h.1.symm | (obtain ⟨t,rfl,h1,_⟩:=h; rw [h1]; simp [aX,zr,<- h1])
theorem Av:∀ {ds:List D} {us:List Value} {ts:List T},sY ds us ts->aX ts=ds.flatMap zr
 | [],us,ts,h=>by obtain ⟨rfl,rfl⟩:=h; rfl
 | d::ds,us,ts,h=>by
  obtain ⟨u,kf,t1,t2,rfl,rfl,h1,h2⟩:=h;rw [pA,pE h1,Av h2,adL]
theorem rS {w:World} {X:Bool->Nat->Prop} {d:D} {v:Value} {ts:List T} (hs:bC w X ts) (h:fM d v ts):dc d=zr d:=by
 cases d with
 | aG ds=>
  obtain ⟨t,rfl,h1,_⟩:=h;exact absurd h1.symm ((rQ ((bY _).1 hs t (by simp))).2.2 ds)
 | _=>rfl
section
variable {C:Ctx} {w:World} {aJ:List (Array Value)} {H:List T} {S:List (Nat × RT)}
theorem yK (hm:Mem C w S H) {r:Nat} {R:RT} (hR:lk S r=some R) {d:D} {v:Value} {ts A B:List T} (hf:fM d v ts) (ec:R.cs=A++ts++B):gp w (af C w S H) S (By r A.length d) v:=by
 have iF:∀ (i:Nat) (t:T),ts[i]?=some t->R.cs[A.length+i]?=some t:=fun i t hi=>by
  have cK:=(aaa.1 hi).1;rw [ec,acz,adr (by omega),adx (by omega)]
  rw [<- hi]; congr 1; omega
 by_cases ha:∃ cs,d=.agg cs
 ·obtain ⟨cs,rfl⟩:=ha;obtain ⟨rfl,us,rfl,hu⟩:=hf;refine ⟨us,rfl,dk (by rw [pQ,fm,hu,bK]) (fun i x y hx hy=>?_)⟩
  rw [nv,ir] at hx;rw [hu,fh] at hy;cases hi:ts[i]? with
  | none=>simp [hi] at hx
  | some t=>
   simp only [hi,MD,mN] at hx hy;subst hx; subst hy;exact pP hm hR rfl (iF i t hi)
 ·have hv:By r A.length d=gA r [] A.length d:=by cases d<;>first | rfl | exact absurd ⟨_,rfl⟩ ha
  have UC:∃ t,ts=[t]/\d=t.er/\v=t.val:=by cases d<;>first | exact hf | exact absurd ⟨_,rfl⟩ ha
  obtain ⟨t,rfl,rfl,rfl⟩:=UC;rw [hv];exact ew (pP hm hR rfl (iF 0 t rfl))
theorem CC (hm:Mem C w S H) {r:Nat} {R:RT} (hR:lk S r=some R) {X:Bool->Nat->Prop}:∀ {ds:List D} {us:List Value} {ts A B:List T},sY ds us ts->bC w X ts->R.cs=A++ts++B->bZ (gp w (af C w S H) S) (Es r A.length ds) us
 | [],us,ts,A,B,h,_,_=>by obtain ⟨rfl,rfl⟩:=h; exact .nil
 | d::ds,us,ts,A,B,h,hs,ec=>by
  obtain ⟨u,kf,t1,t2,rfl,rfl,h1,h2⟩:=h;rw [dV] at hs;simp only [Es];refine .cons (yK hm hR (B:=t2++B) h1 (by rw [ec]; simp)) ?_
  have hl:A.length+(dc d).length=(A++t1).length:=by rw [rS hs.1 h1,<- pE h1,fm,aap]
  rw [hl];exact CC hm hR (B:=B) h2 hs.2 (by rw [ec]; simp)
theorem yL {X:Bool->Nat->Prop} {d:D} {v:Value} {ts:List T} (hf:fM d v ts) (hs:bC w X ts) (ow:(zr d).any iR=false):gp w X S d v:=by
 have hl:∀ t∈ts,Ext w X t.er t.val:=fun t ht=>by
  have h1:=(bY _).1 hs t ht;cases t with
  | v d u=>exact h1
  | own s n cap a cs=>
   rw [<- pE hf] at ow;have:=List.any_eq_false.1 ow (T.own s n cap a cs).er (by rw [eO]; exact acv.2 ⟨_,ht,rfl⟩)
   simp [T.er,iR] at this
 by_cases ha:∃ cs,d=.agg cs
 ·obtain ⟨cs,rfl⟩:=ha;obtain ⟨rfl,us,rfl,hu⟩:=hf;refine ⟨us,rfl,dk (by rw [fm,hu,bK]) (fun i x y hx hy=>?_)⟩
  rw [ir] at hx;rw [hu,fh] at hy;cases hi:ts[i]? with
  | none=>simp [hi] at hx
  | some t=>
   simp only [hi,MD,mN] at hx hy;subst hx; subst hy;exact fq (hl t (aci hi))
 ·have UC:∃ t,ts=[t]/\d=t.er/\v=t.val:=by cases d<;>first | exact hf | exact absurd ⟨_,rfl⟩ ha
  obtain ⟨t,rfl,rfl,rfl⟩:=UC;exact ew (fq (hl t (by simp)))
theorem CD {X:Bool->Nat->Prop}:∀ {ds:List D} {us:List Value} {ts:List T},sY ds us ts->bC w X ts->(ds.flatMap zr).any iR=false->bZ (gp w X S) ds us
 | [],us,ts,h,_,_=>by obtain ⟨rfl,rfl⟩:=h; exact .nil
 | d::ds,us,ts,h,hs,ow=>by
  obtain ⟨u,kf,t1,t2,rfl,rfl,h1,h2⟩:=h;rw [dV] at hs;rw [adL,List.any_append,agc] at ow;exact .cons (yL h1 hs.1 ow.1) (CD h2 hs.2 ow.2)
theorem Xh {eZ:List T} {st:St} {vs:Array Value} (h:Rel C (eZ++H) w st (vs::aJ) S) {r:D} {v:Value} (hr:Jm r v eZ) {t:Nat} (ht:t < vs.size) (hP:∀ p∈C.P0,p.1≠st.of+t):
  ∃ S',Rel C H w ((st.qm (st.of+t) r).1.put (some t) (st.qm (st.of+t) r).2) (vs.setIfInBounds t v::aJ) S':=by
 have dm:=((dV _ _).1 h.mem.hand).1;have acO:(ah eZ).Nodup:=by
  have:=h.mem.nd;rw [aY,zX,zX] at this;exact this.2.1.1
 have acP:∀ k∈ah eZ,k < w.heap.size:=fun k hk=>h.mem.lt k (by rw [aY]; simp [hk])
 by_cases hp:∃ cs,r=.aW cs
 ·obtain ⟨cs,rfl⟩:=hp;obtain ⟨b,ts,rfl,rfl,rfl⟩:=hr;have hb:bA w (af C w S ([rR b ts]++H)) (rR b ts):=(bY _).1 dm _ (by simp)
  simp only [rR,bA,Nat.one_mul] at hb;obtain ⟨_,_,fo,gx⟩:=hb;have eG:∀ k∈(RT.mk (some b) ts).ft,k∈ah [rR b ts]∨w.heap.size<=k:=fun k hk=>.inl (by simpa [RT.ft,ah,rR,T.ft,fC] using hk)
  have cu:=og (r:=st.of+t) (R:=⟨some b,ts⟩) h eG (acD _) (fun _ _=>rfl);obtain ⟨h1,_⟩:=yC (r:=st.of+t) (R:=⟨some b,ts⟩) h ⟨fo,fun x hx=>by
    have:=(bY _).1 gx x hx;have:=dL cu x this (fun _ _=>rfl);cases x with
    | v d u=>exact .inl this
    | own s n cap a cs=>exact this⟩
   ⟨by simpa [RT.ft,ah,rR,T.ft,fC] using acO,eG⟩ (fun k hk=>acP k (by simpa [RT.ft,ah,rR,T.ft,fC] using hk)) (acD _) (fun _ _=>rfl) rfl rfl rfl hP
  refine ⟨_,h1.put ht ?_⟩;intro R hR;rw [cx,mN] at hR;subst hR;exact ⟨fun _=>rfl,fun b' off ha=>by simp only [bN,MD,mN,sF] at ha; obtain ⟨rfl,rfl⟩:=ha; rfl⟩
 ·have pw:aX eZ=dc r:=by
   by_cases jI:∃ ds,r=.aG ds
   ·obtain ⟨ds,rfl⟩:=jI;obtain ⟨us,rfl,hf⟩:=hr;rw [we]; exact Av hf
   ·have hf:fM r v eZ:=by cases r<;>first | exact hr | exact absurd ⟨_,rfl⟩ hp | exact absurd ⟨_,rfl⟩ jI
    rw [rS dm hf]; exact pE hf
  have had:st.qm (st.of+t) r=if (dc r).any iR then ({ st.eX (cw (st.of+t)) with rt:=pz (st.eX (cw (st.of+t))).rt (st.of+t) (dc r) },Bz (st.of+t) r) else (st,r):=by
   cases r<;>first | rfl | exact absurd ⟨_,rfl⟩ hp
  rw [had];by_cases jr:(dc r).any iR=true
  ·rw [if_pos jr];have eG:∀ k∈(RT.mk none eZ).ft,k∈ah eZ∨w.heap.size<=k:=fun k hk=>.inl (by simpa [RT.ft] using hk)
   have cu:=og (r:=st.of+t) (R:=⟨none,eZ⟩) h eG (acD _) (fun _ _=>rfl);obtain ⟨h1,_⟩:=yC (r:=st.of+t) (R:=⟨none,eZ⟩) h ⟨trivial,fun x hx=>by
     have:=(bY _).1 dm x hx;have:=dL cu x this (fun _ _=>rfl);cases x with
     | v d u=>exact .inl this
     | own s n cap a cs=>exact this⟩
    ⟨by simpa [RT.ft] using acO,eG⟩ (fun k hk=>acP k (by simpa [RT.ft] using hk)) (acD _) (fun _ _=>rfl) rfl rfl rfl hP
   rw [<- pw];refine ⟨_,h1.put ht ?_⟩;have zu:lk (pt (fS (cw (st.of+t)) S) (st.of+t) ⟨none,eZ⟩) (st.of+t)=some ⟨none,eZ⟩:=cx _ _ _;by_cases jI:∃ ds,r=.aG ds
   ·obtain ⟨ds,rfl⟩:=jI;obtain ⟨us,rfl,hf⟩:=hr;refine ⟨us,rfl,?_⟩;exact CC h1.mem zu (A:=[]) (B:=[]) hf dm (by simp)
   ·have hf:fM r v eZ:=by cases r<;>first | exact hr | exact absurd ⟨_,rfl⟩ hp | exact absurd ⟨_,rfl⟩ jI
    have hv:Bz (st.of+t) r=By (st.of+t) 0 r:=by cases r<;>first | rfl | exact absurd ⟨_,rfl⟩ jI
    rw [hv];exact ky (yK h1.mem zu (A:=[]) (B:=[]) hf (by simp))
  ·rw [if_neg jr];have jr:(dc r).any iR=false:=by simpa using jr
   obtain ⟨h1,_⟩:=pX h;have hX:∀ b k,af C w S (eZ++H) b k->af C w S H b k:=jH (fun k hk=>by
    rw [aY];rcases sE.1 hk with h | h<;>simp [h])
   have hs:=fX hX _ dm;refine ⟨S,h1.put ht ?_⟩;by_cases jI:∃ ds,r=.aG ds
   ·obtain ⟨ds,rfl⟩:=jI;obtain ⟨us,rfl,hf⟩:=hr;exact ⟨us,rfl,CD hf hs jr⟩
   ·have hf:fM r v eZ:=by cases r<;>first | exact hr | exact absurd ⟨_,rfl⟩ hp | exact absurd ⟨_,rfl⟩ jI
    rw [rS dm hf] at jr;exact ky (yL hf hs jr)
end
mutual
def sZ (b:Bool):T->T
 | .v d u=>.v (il b (bH d)) u
 | .own s n cap a cs=>.own s n cap a (gq b cs)
def gq (b:Bool):List T->List T
 | []=>[]
 | t::ts=>sZ b t::gq b ts
end
theorem Xi {d:D} (h:∀ s n cs,d≠.sl none s n cs):bH d=d:=by
 cases d with
 | sl g s n cs=>cases g with
  | none=>exact absurd rfl (h s n cs)
  | some g=>rfl
 | _=>rfl
theorem UD (d:D) (s n:Nat) (cs:List D):bH d≠.sl none s n cs:=by
 cases d with
 | sl g s n cs=>cases g<;>simp [bH]
 | _=>simp [bH]
theorem Nz (b:Bool) (d:D):bH (il b (bH d))=il b (bH d):=by
 refine Xi (fun s n cs=>?_);have:=UD d;cases h:bH d with
 | sl g s' n' cs'=>
  cases g with
  | none=>exact absurd h (this _ _ _)
  | some g=>simp [il]
 | _=>simp [il]
mutual
theorem BK (b:Bool):∀ t:T,(sZ b t).er=il b t.er
 | .v d u=>by simp only [sZ,T.er]; exact Nz b d
 | .own s n cap a cs=>by simp only [sZ,T.er,il]; rw [uV b cs]
theorem uV (b:Bool):∀ ts:List T,aX (gq b ts)=ek b (aX ts)
 | []=>rfl
 | t::ts=>by simp only [gq,aX,ek]; rw [BK b t,uV b ts]
end
theorem Aw (b:Bool) (t:T):(sZ b t).val=t.val:=by cases t<;>rfl
theorem rT (b:Bool):∀ ts:List T,ax (gq b ts)=ax ts
 | []=>rfl
 | t::ts=>by simp only [gq,ax]; rw [Aw,rT b ts]
mutual
theorem ae2 (b:Bool):∀ t:T,(sZ b t).ft=t.ft
 | .v _ _=>rfl
 | .own s n cap a cs=>by simp only [sZ,T.ft]; rw [uW b cs]
theorem uW (b:Bool):∀ ts:List T,ah (gq b ts)=ah ts
 | []=>rfl
 | t::ts=>by simp only [gq,ah]; rw [ae2 b t,uW b ts]
end
theorem uo (b:Bool):∀ ts:List T,(gq b ts).length=ts.length
 | []=>rfl
 | t::ts=>by simp [gq,uo b ts]
theorem BL (b:Bool):∀ x y:List T,gq b (x++y)=gq b x++gq b y
 | [],_=>rfl
 | t::ts,y=>by simp [gq,BL b ts y]
theorem NA (b:Bool):∀ cs:List D,(ek b cs).length=cs.length
 | []=>rfl
 | d::ds=>by simp [ek,NA b ds]
section
variable {w:World} {X X':Bool->Nat->Prop} {b:Bool} (hX:∀ g k,X g k->X' b k)
include hX
mutual
theorem QY:∀ (d:D) (u:Value),Ext w X d u->Ext w X' (il b d) u
 | .int _ _,_,hu=>hu
 | .bool _,_,hu=>hu
 | .str _,_,hu=>hu
 | .nil _,_,hu=>hu
 | .undef,_,_=>trivial
 | .hole _ _,_,_=>trivial
 | .sl (some g) s n cs,u,hu=>by
  simp only [Ext,il] at hu ⊢;obtain ⟨base,cap,us,h1,oS,h2,h3,h4⟩:=hu;refine ⟨base,cap,us,h1,oS,by rw [NA]; exact h2,NB cs us h3,?_⟩
  rcases h4 with h4 | ⟨k,off,c,e,fz,h5,h6,h7,h8⟩
  ·left; rw [h4]; rfl
  ·exact .inr ⟨k,off,c,e,fz,h5,hX g k h6,h7,h8⟩
 | .sl none _ _ _,_,hu=>by simp [Ext] at hu
 | .ref ..,_,hu=>by simp [Ext] at hu
 | .agg _,_,hu=>by simp [Ext] at hu
 | .aG _,_,hu=>by simp [Ext] at hu
 | .fn ..,_,hu=>by simp [Ext] at hu
 | .ptr ..,_,hu=>by simp [Ext] at hu
 | .dK ..,_,hu=>by simp [Ext] at hu
 | .aW _,_,hu=>by simp [Ext] at hu
theorem NB:∀ (ds:List D) (us:List Value),fV w X ds us->fV w X' (ek b ds) us
 | [],_,hu=>by have _:=hX; exact hu
 | d::ds,us,hu=>by
  simp only [fV,ek] at hu ⊢;obtain ⟨v,vs,h1,h2,h3⟩:=hu;exact ⟨v,vs,h1,QY d v h2,NB ds vs h3⟩
end
mutual
theorem acQ:∀ (t:T),bA w X t->bA w X' (sZ b t)
 | .v d u,hs=>by
  simp only [bA,sZ] at hs ⊢;rw [Nz];exact QY hX _ _ hs
 | .own s n cap a cs,hs=>by
  simp only [bA,sZ] at hs ⊢;obtain ⟨h1,h2,h3,h4⟩:=hs;rw [rT,uo];exact ⟨h1,h2,h3,xr cs h4⟩
theorem xr:∀ (ts:List T),bC w X ts->bC w X' (gq b ts)
 | [],_=>by have _:=hX; simp [bC,gq]
 | t::ts,hs=>by
  simp only [bC,gq] at hs ⊢;exact ⟨acQ t hs.1,xr ts hs.2⟩
end
end
section
variable {w:World} {X:Bool->Nat->Prop}
mutual
theorem UE:∀ (d:D) (u:Value),Ext w X d u->bW d=true->Ext w (fun g k=>g=false/\X false k) d u
 | .int _ _,_,hu,_=>hu
 | .bool _,_,hu,_=>hu
 | .str _,_,hu,_=>hu
 | .nil _,_,hu,_=>hu
 | .undef,_,_,_=>trivial
 | .hole _ _,_,_,_=>trivial
 | .sl (some g) s n cs,u,hu,hn=>by
  simp only [Ext] at hu ⊢;simp only [bW,wX] at hn;have hg:g=false:=by cases g with
   | false=>rfl
   | true=>exact absurd hn.1 (by decide)
  subst hg;obtain ⟨base,cap,us,h1,oS,h2,h3,h4⟩:=hu;refine ⟨base,cap,us,h1,oS,h2,QZ cs us h3 hn.2,?_⟩;rcases h4 with h4 | ⟨k,off,c,e,fz,h5,h6,h7,h8⟩
  ·exact .inl h4
  ·exact .inr ⟨k,off,c,e,fz,h5,⟨rfl,h6⟩,h7,h8⟩
 | .sl none _ _ _,_,hu,_=>by simp [Ext] at hu
 | .ref ..,_,hu,_=>by simp [Ext] at hu
 | .agg _,_,hu,_=>by simp [Ext] at hu
 | .aG _,_,hu,_=>by simp [Ext] at hu
 | .fn ..,_,hu,_=>by simp [Ext] at hu
 | .ptr ..,_,hu,_=>by simp [Ext] at hu
 | .dK ..,_,hu,_=>by simp [Ext] at hu
 | .aW _,_,hu,_=>by simp [Ext] at hu
theorem QZ:∀ (ds:List D) (us:List Value),fV w X ds us->cb ds=true->fV w (fun g k=>g=false/\X false k) ds us
 | [],_,hu,_=>hu
 | d::ds,us,hu,hn=>by
  simp only [fV] at hu ⊢;simp only [cb,wX] at hn;obtain ⟨v,vs,h1,h2,h3⟩:=hu;exact ⟨v,vs,h1,UE d v h2 hn.1,QZ ds vs h3 hn.2⟩
end
mutual
theorem acR:∀ (t:T),bA w X t->bW t.er=true->bA w (fun g k=>g=false/\X false k) t
 | .v d u,hs,hn=>by
  simp only [bA] at hs ⊢;exact UE _ _ hs hn
 | .own s n cap a cs,hs,hn=>by
  simp only [bA] at hs ⊢;simp only [T.er,bW,wX] at hn;exact ⟨hs.1,hs.2.1,hs.2.2.1,BM cs hs.2.2.2 hn.2⟩
theorem BM:∀ (ts:List T),bC w X ts->cb (aX ts)=true->bC w (fun g k=>g=false/\X false k) ts
 | [],_,_=>by simp [bC]
 | t::ts,hs,hn=>by
  simp only [bC] at hs ⊢;simp only [aX,cb,wX] at hn;exact ⟨acR t hs.1 hn.1,BM ts hs.2 hn.2⟩
end
end
theorem eg:∀ ds:List D,cb ds=ds.all bW
 | []=>rfl
 | d::ds=>by simp [cb,eg ds]
mutual
theorem NC:∀ d:D,bW d=true->il false d=d
 | .sl none s n cs,h=>by
  simp only [bW,wX] at h;simp only [il];rw [uq cs h.2]
 | .sl (some g) s n cs,h=>by
  simp only [bW,wX] at h;have hg:g=false:=by cases g with
   | false=>rfl
   | true=>exact absurd h.1 (by decide)
  subst hg;simp only [il];rw [uq cs h.2]
 | .int _ _,_=>rfl
 | .bool _,_=>rfl
 | .str _,_=>rfl
 | .nil _,_=>rfl
 | .undef,_=>rfl
 | .hole _ _,_=>rfl
 | .ref ..,_=>rfl
 | .agg _,_=>rfl
 | .aG _,_=>rfl
 | .fn ..,_=>rfl
 | .ptr ..,_=>rfl
 | .dK ..,_=>rfl
 | .aW _,_=>rfl
theorem uq:∀ ds:List D,cb ds=true->ek false ds=ds
 | [],_=>rfl
 | d::ds,h=>by
  simp only [cb,wX] at h;simp only [ek];rw [NC d h.1,uq ds h.2]
end
def qH (b:Bool):D->D
 | .agg cs=>.agg (ek b cs)
 | d=>il b d
theorem Dm (b:Bool) (vs:List D):gJ b (.aG vs)=.aG (vs.map (qH b)):=by
 simp only [gJ]
 congr 1
theorem G8 (d:D) (h:(bX d).all bW=true):gJ false d=d:=by
 cases d with
 | agg cs=>simp only [gJ]; rw [uq cs (by rw [eg]; exact h)]
 | aW cs=>simp only [gJ]; rw [uq cs (by rw [eg]; exact h)]
 | aG vs=>
  rw [Dm];have hx:∀ x∈vs,qH false x=id x:=by
   intro x hx;have hh:∀ y∈zr x,bW y=true:=fun y hy=>by
    refine ab9.1 h y ?_;simp only [bX,we,List.mem_flatMap];exact ⟨x,hx,hy⟩
   cases x with
   | agg cs=>simp only [qH]; rw [uq cs (by rw [eg]; exact ab9.2 hh)]; rfl
   | _=>exact NC _ (hh _ (by simp [zr]))
  rw [ajw hx,List.map_id]
 | _=>
  simp only [bX,dc,TO,acd,ag7] at h;exact NC _ h
theorem Ax {w:World} {X:Bool->Nat->Prop} {b:Bool} {d:D} {u:Value} {ts:List T} (hf:fM d u ts) (hs:bC w X ts):fM (qH b d) u (gq b ts):=by
 by_cases ha:∃ cs,d=.agg cs
 ·obtain ⟨cs,rfl⟩:=ha;obtain ⟨rfl,us,rfl,hu⟩:=hf;exact ⟨(uV b ts).symm,us,rfl,by rw [rT]; exact hu⟩
 ·have UC:∃ t,ts=[t]/\d=t.er/\u=t.val:=by cases d<;>first | exact hf | exact absurd ⟨_,rfl⟩ ha
  obtain ⟨t,rfl,rfl,rfl⟩:=UC;have h1:=(bY _).1 hs t (by simp)
  have hp:qH b t.er=il b t.er:=by
   cases he:t.er<;>first | rfl | exact absurd ⟨_,he⟩ ha
  rw [hp,<- BK b t,<- Aw b t];have h2:∀ cs,(sZ b t).er≠.agg cs:=by
   intro cs;rw [BK];cases he:t.er with
   | agg cs'=>exact absurd ⟨_,he⟩ ha
   | sl g s n cs'=>cases g<;>simp [il]
   | _=>simp [il]
  have h3:∀ d,(∀ cs,d≠.agg cs)->d=(sZ b t).er->fM d (sZ b t).val (gq b [t]):=fun d hn e=>by
   cases d<;>first | exact ⟨_,rfl,e,rfl⟩ | exact absurd rfl (hn _)
  exact h3 _ h2 rfl
theorem E5 {w:World} {X:Bool->Nat->Prop} {b:Bool}:∀ {ds:List D} {us:List Value} {ts:List T},sY ds us ts->bC w X ts->sY (ds.map (qH b)) us (gq b ts)
 | [],us,ts,h,_=>by obtain ⟨rfl,rfl⟩:=h; exact ⟨rfl,rfl⟩
 | d::ds,us,ts,h,hs=>by
  obtain ⟨u,kf,t1,t2,rfl,rfl,h1,h2⟩:=h;rw [dV] at hs;exact ⟨u,kf,_,_,rfl,BL b t1 t2,Ax h1 hs.1,E5 h2 hs.2⟩
theorem Jo {b:Bool} {d:D} (h1:∀ cs,d≠.aW cs) (h2:∀ cs,d≠.aG cs):gJ b d=qH b d:=by
 cases d<;>first | rfl | exact absurd rfl (h1 _) | exact absurd rfl (h2 _)
theorem aaI {w:World} {X:Bool->Nat->Prop} {b:Bool} {r:D} {v:Value} {ts:List T} (hr:Jm r v ts) (hs:bC w X ts):Jm (gJ b r) v (gq b ts):=by
 by_cases hp:∃ cs,r=.aW cs
 ·obtain ⟨cs,rfl⟩:=hp;obtain ⟨bk,QX,rfl,rfl,rfl⟩:=hr;exact ⟨bk,gq b QX,by simp [gq,rR,sZ,uo],(uV b QX).symm,rfl⟩
 by_cases jI:∃ ds,r=.aG ds
 ·obtain ⟨ds,rfl⟩:=jI;obtain ⟨us,rfl,hf⟩:=hr;rw [Dm];exact ⟨us,rfl,E5 hf hs⟩
 have hf:fM r v ts:=by cases r<;>first | exact hr | exact absurd ⟨_,rfl⟩ hp | exact absurd ⟨_,rfl⟩ jI
 rw [Jo (fun cs e=>hp ⟨cs,e⟩) (fun cs e=>jI ⟨cs,e⟩)];have h2:=Ax (b:=b) hf hs;have h3:(∀ cs,qH b r≠.aW cs)/\∀ cs,qH b r≠.aG cs:=by
  cases r with
  | aW cs=>exact absurd ⟨_,rfl⟩ hp
  | aG cs=>exact absurd ⟨_,rfl⟩ jI
  | sl g s n cs=>cases g<;>simp [qH,il]
  | _=>simp [qH,il]
 have:∀ d,(∀ cs,d≠.aW cs)->(∀ cs,d≠.aG cs)->fM d v (gq b ts)->Jm d v (gq b ts):=fun d h4 h5 h6=>by
  cases d<;>first | exact h6 | exact absurd rfl (h4 _) | exact absurd rfl (h5 _)
 exact this _ h3.1 h3.2 h2
theorem Xj {w:World} {X:Bool->Nat->Prop} {b c:Bool} {o:D} {a a':Arg} (h:oF w c o a a') (hs:bC w X a'.2):oF w c (gJ b o) a (a'.1,gq b a'.2):=by
 cases c with
 | false=>
  simp only [oF] at h ⊢;rw [h]; rfl
 | true=>
  cases o with
  | aW cs=>
   obtain ⟨h1,⟨bk,h2,h3⟩,h4⟩:=h;exact ⟨h1,⟨bk,h2,by simp only [uo,rT]; exact h3⟩,by rw [h4]; exact (uV b _).symm⟩
  | agg cs=>
   obtain ⟨h1,h2,h3,h4⟩:=h;exact ⟨h1,h2,by rw [h3]; exact (uV b _).symm,by simp only [rT]; exact h4⟩
  | aG vs=>
   obtain ⟨h1,h2,h3⟩:=h;rw [Dm];refine ⟨h1,h2,?_⟩;rcases h3 with ⟨h3,_⟩ | ⟨t,h3,h4,_⟩
   ·exact .inl ⟨by rw [h3]; rfl,by simp⟩
   ·rw [h3] at hs;exact absurd h4.symm ((rQ ((bY _).1 hs t (by simp))).2.2 vs)
  | sl g s n cs=>
   obtain ⟨h1,h2,h3⟩:=h;cases g with
   | none=>
    refine ⟨h1,h2,?_⟩;rcases h3 with ⟨_,h3⟩ | ⟨t,h3,h4,h5⟩
    ·exact absurd rfl (h3 s n cs)
    ·exact .inr ⟨sZ b t,by rw [h3]; rfl,by rw [BK,<- h4]; rfl,by simp only [ax,Aw] at h5 ⊢; exact h5⟩
   | some g=>
    refine ⟨h1,h2,?_⟩;rcases h3 with ⟨h3,_⟩ | ⟨t,h3,h4,h5⟩
    ·exact .inl ⟨by rw [h3]; rfl,by simp [gJ,il]⟩
    ·exact .inr ⟨sZ b t,by rw [h3]; rfl,by rw [BK,<- h4]; rfl,by simp only [ax,Aw] at h5 ⊢; exact h5⟩
  | _=>
   obtain ⟨h1,h2,h3⟩:=h;refine ⟨h1,h2,?_⟩;rcases h3 with ⟨h3,_⟩ | ⟨t,h3,h4,h5⟩
   ·exact .inl ⟨by rw [h3]; rfl,by simp [gJ,il]⟩
   ·exact .inr ⟨sZ b t,by rw [h3]; rfl,by rw [BK,<- h4]; rfl,by simp only [ax,Aw] at h5 ⊢; exact h5⟩
theorem aaJ {w:World} {X X':Bool->Nat->Prop} {b:Bool} {d:D} {u:Value} {a:Arg} (h:Jl w X true d u a) (hs:bC w X a.2):Jl w X' true (gJ b d) u (a.1,gq b a.2):=by
 by_cases hp:∃ cs,d=.aW cs
 ·obtain ⟨cs,rfl⟩:=hp;obtain ⟨bk,h1,h2,h3,h4,h5⟩:=h;refine ⟨bk,h1,fun e=>h2 ?_,by rw [h3]; exact (uV b _).symm,h4,by simp only [uo,rT]; exact h5⟩
  have:=congrArg List.length e;simp only [uo,aei] at this;exact ac9.1 this
 ·have hf:a.1=none/\fM d u a.2:=by cases d<;>first | exact h | exact absurd ⟨_,rfl⟩ hp
  have jI:∀ vs,d≠.aG vs:=by
   rintro vs rfl;obtain ⟨t,e1,e2,_⟩:=hf.2;rw [e1] at hs;exact (rQ ((bY _).1 hs t (by simp))).2.2 vs e2.symm
  rw [Jo (fun cs e=>hp ⟨cs,e⟩) jI];have h2:=Ax (b:=b) hf.2 hs;have h3:∀ cs,qH b d≠.aW cs:=by
   cases d with
   | aW cs=>exact absurd ⟨_,rfl⟩ hp
   | sl g s n cs=>cases g<;>simp [qH,il]
   | _=>simp [qH,il]
  have:∀ d,(∀ cs,d≠.aW cs)->fM d u (gq b a.2)->Jl w X' true d u (a.1,gq b a.2):=fun d h4 h6=>by
   cases d<;>first | exact ⟨hf.1,h6⟩ | exact absurd rfl (h4 _)
  exact this _ h3 h2
theorem jz:∀ as9:List Arg,(bq as9).Perm (as9.filterMap Prod.fst++ah (cV as9))
 | []=>.refl _
 | (bx,ts)::as9=>by
  have ih:=jz as9;have h1:cV ((bx,ts)::as9)=ts++cV as9:=by simp [cV]
  rw [h1,aY];simp only [bq,tZ];refine adV.2 fun a=>?_;have:=adV.1 ih a;cases bx<;>simp only [adD,Option.toList,agb,List.count_cons,List.count_nil] at this ⊢<;>omega
theorem nA (as9:List Arg):(ah (cO as9)).Perm (ah (cV as9)):=by
 refine Df ?_
 induction as9 with
 | nil=>exact .refl _
 | cons a as9 ih=>
  rw [qG];have:cV (a::as9)=a.2++cV as9:=by simp [cV]
  rw [this];exact (agY).trans (agn _ ih)
theorem kE {as9:List Arg} {k:Nat}:k∈bq as9↔k∈as9.filterMap Prod.fst∨k∈ah (cO as9):=by
 rw [(jz as9).mem_iff,sE,(nA as9).mem_iff]
def ta (b:Bool) (a:Arg):Arg:=(a.1,gq b a.2)
theorem pZ (b:Bool):∀ as9:List Arg,bq (as9.map (ta b))=bq as9
 | []=>rfl
 | a::as9=>by simp only [ac6,bq,pZ b as9,tZ,ta,uW]
theorem Jp (b:Bool):∀ as9:List Arg,cV (as9.map (ta b))=gq b (cV as9)
 | []=>rfl
 | a::as9=>by
  have h1:cV (a::as9)=a.2++cV as9:=by simp [cV]
  have h2:cV ((a::as9).map (ta b))=(gq b a.2)++cV (as9.map (ta b)):=by simp [cV,ta]
  rw [h1,h2,BL,Jp b as9]
theorem wM {w:World} {X:Bool->Nat->Prop} {as9:List Arg}:bC w X (cV as9)↔∀ a∈as9,bC w X a.2:=by
 rw [bY];simp only [cV,agR,acv];constructor
 ·intro h a ha;rw [bY];exact fun t ht=>h t ⟨_,⟨a,ha,rfl⟩,ht⟩
 ·rintro h t ⟨l,⟨a,ha,rfl⟩,ht⟩;exact (bY _).1 (h a ha) t ht
theorem uX {w:World} {X:Bool->Nat->Prop} {as9:List Arg}:bC w X (cO as9)↔∀ a∈as9,bC w X a.2:=by
 rw [bY];simp only [cO,agR,List.mem_reverse,acv];constructor
 ·intro h a ha;rw [bY];exact fun t ht=>h t ⟨_,⟨a,ha,rfl⟩,ht⟩
 ·rintro h t ⟨l,⟨a,ha,rfl⟩,ht⟩;exact (bY _).1 (h a ha) t ht
theorem ND {w':World} {c b:Bool} {o:D} {a a':Arg} (h:oF w' c o (ta b a) a'):oF w' c o a a':=by
 cases c with
 | false=>exact h
 | true=>
  cases o<;>(simp only [oF,ta,rT] at h ⊢; exact h)
theorem ub {w:World} {S:List (Nat × RT)}:∀ {b:List Bool} {ds gn:List D} {us:List Value} {as9:List Arg},sX w S b ds gn us as9->∀ bk∈as9.filterMap Prod.fst,∃ r R,lk S r=some R/\R.box=some bk/\R.cs=[]
 | _,[],_,_,_,h,bk,hb=>by obtain ⟨_,_,rfl⟩:=h; simp at hb
 | b,d::ds,gn,us,as9,h,bk,hb=>by
  obtain ⟨d1,yJ,u,kf,a,cm,rfl,rfl,rfl,h1,h2⟩:=h;obtain ⟨bx,ts⟩:=a;cases bx with
  | none=>simp only [adD] at hb; exact ub h2 bk hb
  | some Nw=>
   simp only [adD,acK] at hb;rcases hb with rfl | hb
   ·cases sV:b.headD false with
    | false=>rw [sV] at h1; simp [qF] at h1
    | true=>
     rw [sV] at h1;cases d1 with
     | aW cs=>
      obtain ⟨r,b2,_,e2,e3,_⟩:=h1;simp only [mN] at e2;subst e2;exact ⟨r,_,e3,rfl,rfl⟩
     | _=>simp [qF] at h1
   ·exact ub h2 bk hb
theorem CE (b:List Bool) (d:D) (ds:List D):fB b (d::ds)=((b.headD false&&!((bX d).all bW))||fB b.tail ds):=rfl
theorem UF {w:World} {S:List (Nat × RT)} {X:Bool->Nat->Prop} {d d1:D} {u:Value} {a:Arg} (h:qF w S true d d1 u a):Jl w X true d1 u a:=by
 cases d1 with
 | aW cs=>obtain ⟨r,b,_,e2,e3,e4,e5,e6,e7⟩:=h; exact ⟨b,e2,e4,e5,e6,e7⟩
 | _=>exact ⟨h.1,h.2.1⟩
theorem Jq {w:World} {X X1:Bool->Nat->Prop} {d:D} {u:Value} {a:Arg} (h:Jl w X true d u a) (hs:bC w X1 a.2):bX d=aX a.2:=by
 by_cases hp:∃ cs,d=.aW cs
 ·obtain ⟨cs,rfl⟩:=hp;obtain ⟨b,_,_,e,_⟩:=h;exact e
 ·have hf:fM d u a.2:=by cases d<;>first | exact h.2 | exact absurd ⟨_,rfl⟩ hp
  have:bX d=dc d:=by cases d<;>first | rfl | exact absurd ⟨_,rfl⟩ hp
  rw [this,rS hs hf,pE hf]
section
variable {C:Ctx} {w:World} {st aP:St} {aJ:List (Array Value)} {S S1:List (Nat × RT)}
theorem NF {Hs:List T} (h:Rel C Hs w aP aJ S1) {X':Bool->Nat->Prop} (hX:∀ b k,af C w S1 Hs b k->X' b k) (hF:∀ r R k,lk S1 r=some R->R.cs≠[]->k∈R.ft->X' true k):
  ∀ {b:List Bool} {ds gn sG:List D} {us:List Value} {as9:List Arg},sX w S1 b ds gn us as9->bZ (ck w (af C w S1 Hs) S1) ds us->uG aP b gn=some sG->(∀ a∈as9,bC w (af C w S1 Hs) a.2)->tD w X' b (j8 b sG) us (as9.map (ta false))/\(fB b sG=false->j8 b sG=sG/\∀ a∈as9,cb (aX a.2)=true)
 | b,[],gn,sG,us,as9,h1,h2,h3,_=>by
  obtain ⟨rfl,rfl,rfl⟩:=h1;simp only [uG,mN] at h3;subst h3;exact ⟨⟨rfl,rfl⟩,fun _=>⟨rfl,by simp⟩⟩
 | b,d::ds,gn,sG,us,as9,h1,h2,h3,h4=>by
  obtain ⟨d1,yJ,u,kf,a,cm,rfl,rfl,rfl,g1,g2⟩:=h1;cases h2 with
  | cons Jr h22=>
  simp only [uG] at h3;split at h3
  case h_2=>simp at h3
  rename_i d2 oz;split at h3
  case h_2=>simp at h3
  rename_i G9 ahs;simp only [mN] at h3;subst h3;obtain ⟨k1,k2⟩:=NF h hX hF g2 h22 ahs (fun a ha=>h4 a (by simp [ha]))
  have hs:=h4 a (by simp)
  cases hb:b.headD false with
  | false=>
   rw [hb] at g1 oz;obtain ⟨rfl,rfl⟩:=g1;simp only [acq,if_false] at oz;refine ⟨⟨u,kf,(none,[]),_,rfl,rfl,?_,k1⟩,fun hl=>?_⟩
   ·rw [hb];simp only [acq,if_false];exact ⟨rfl,fun S'=>acM h hX hF Jr oz S'⟩
   ·rw [CE,hb] at hl;simp only [agj,Bool.false_or] at hl;obtain ⟨e1,e2⟩:=k2 hl;refine ⟨by simp only [j8,hb,acq,if_false]; rw [e1],fun x hx=>?_⟩
    simp only [acK] at hx;rcases hx with rfl | hx
    ·rfl
    ·exact e2 x hx
  | true=>
   rw [hb] at g1 oz;simp only [if_true,mN] at oz;subst oz;have lA:=UF (X:=af C w S1 Hs) g1;refine ⟨⟨u,kf,ta false a,_,rfl,rfl,?_,k1⟩,fun hl=>?_⟩
   ·rw [hb];simp only [if_true];exact aaJ lA hs
   ·rw [CE,hb] at hl;simp only [agI,agc,Bool.not_eq_false'] at hl;obtain ⟨e1,e2⟩:=k2 hl.2;refine ⟨by simp only [j8,hb,if_true]; rw [e1,G8 _ hl.1],fun x hx=>?_⟩
    simp only [acK] at hx;rcases hx with rfl | hx
    ·rw [eg,<- Jq lA hs]; exact hl.1
    ·exact e2 x hx
theorem Xk {w':World} {b:Bool} {d d1 o:D} {u:Value} {a a':Arg} (g1:qF w S1 b d d1 u a) (g3:oF w' b o a a'):(a'.1=a.1)/\∀ bk,a.1=some bk->lx w' bk 0 0 []:=by
 cases b with
 | false=>
  obtain ⟨rfl,_⟩:=g1;simp only [oF] at g3;rw [g3];exact ⟨rfl,by simp⟩
 | true=>
  have fo:∀ {bk n us},lx w' bk 0 n us->lx w' bk 0 0 []:=fun ⟨c,e,fz,q1,q2,q3,q4⟩=>⟨c,e,fz,q1,q2,by omega,by simp⟩
  cases o with
  | aW cs=>
   obtain ⟨e1,⟨bk,e2,e3⟩,_⟩:=g3;refine ⟨e1,fun Nw e=>?_⟩;rw [e2,mN] at e;subst e;exact fo e3
  | _=>exact ⟨g3.2.1.trans g3.1.symm,fun bk e=>by rw [g3.1] at e; simp at e⟩
theorem NG {w':World}:∀ {b:List Bool} {ds gn:List D} {us:List Value} {as9 cm:List Arg} {os:List D},sX w S1 b ds gn us as9->mv w' b os (as9.map (ta false)) cm->
  cm.filterMap Prod.fst=as9.filterMap Prod.fst/\∀ bk∈as9.filterMap Prod.fst,lx w' bk 0 0 []
 | b,[],gn,us,as9,cm,os,h1,h3=>by
  obtain ⟨rfl,rfl,rfl⟩:=h1;simp only [agZ,mv] at h3;obtain ⟨rfl,rfl⟩:=h3;exact ⟨rfl,by simp⟩
 | b,d::ds,gn,us,as9,cm,os,h1,h3=>by
  obtain ⟨d1,yJ,u,kf,a,At,rfl,rfl,rfl,g1,g2⟩:=h1;simp only [ac6,mv] at h3;obtain ⟨o,xm,a',Nx,rfl,rfl,g3,g4⟩:=h3;obtain ⟨k2,k3⟩:=NG g2 g4;have acT:=Xk g1 (ND g3);refine ⟨by simp only [adD,acT.1,k2],fun bk uY=>?_⟩
  simp only [adD] at uY;cases ha:a.1 with
  | none=>rw [ha] at uY; exact k3 bk uY
  | some b2=>
   rw [ha] at uY;simp only [acK] at uY;rcases uY with rfl | uY
   ·exact acT.2 _ ha
   ·exact k3 bk uY
theorem Js {w':World} {X:Bool->Nat->Prop} {t:Bool} {Xo:Bool->Nat->Prop}:∀ {b:List Bool} {ds gn:List D} {us:List Value} {as9 cm:List Arg} {os:List D},sX w S1 b ds gn us as9->bZ (ck w' X S1) ds us->mv w' b os (as9.map (ta false)) cm->(∀ a∈cm,bC w' Xo a.2)->
  xq w' X S1 id b ds us (os.map (gJ t)) as9 (cm.map (ta t))
 | b,[],gn,us,as9,cm,os,h1,h2,h3,_=>by
  obtain ⟨rfl,rfl,rfl⟩:=h1;simp only [agZ,mv] at h3;obtain ⟨rfl,rfl⟩:=h3;exact ⟨rfl,rfl,rfl,rfl⟩
 | b,d::ds,gn,us,as9,cm,os,h1,h2,h3,h4=>by
  obtain ⟨d1,yJ,u,kf,a,At,rfl,rfl,rfl,g1,g2⟩:=h1;cases h2 with
  | cons Jr h22=>
  simp only [ac6,mv] at h3;obtain ⟨o,xm,a',Nx,rfl,rfl,g3,g4⟩:=h3;have g3:=ND g3;have k1:=Js (t:=t) g2 h22 g4 (fun a ha=>h4 a (by simp [ha]))
  have hs:=h4 a' (by simp)
  refine ⟨u,kf,gJ t o,_,a,At,ta t a',_,rfl,rfl,rfl,rfl,?_,k1⟩
  ·cases hb:b.headD false with
   | false=>
    rw [hb] at g3;simp only [oF] at g3;simp only [acq,if_false];rw [g3]; rfl
   | true=>
    rw [hb] at g1 g3;simp only [if_true];have cB:bZ (fun x v=>bp w' X S1 (id x) v) (cellsOf d) (gM d u):=by
     by_cases ez:∃ cs,d=.agg cs
     ·obtain ⟨cs,rfl⟩:=ez;obtain ⟨vs,rfl,hv⟩:=Jr;exact hv
     ·have hnf:(∀ f cs,d≠.fn f cs)/\∀ ds,d≠.aG ds:=by
       cases d1 with
       | aW cs=>obtain ⟨r,_,e,_⟩:=g1; subst e; simp
       | _=>exact g1.2.2.2.2.2
      have h1:cellsOf d=[d]:=by cases d<;>first | rfl | exact absurd ⟨_,rfl⟩ ez
      have h2:gM d u=[u]:=by cases d<;>first | rfl | exact absurd ⟨_,rfl⟩ ez
      rw [h1,h2];refine .cons ?_ .nil;rcases vX Jr with ⟨ds,_,e,_⟩ | ⟨_,Jr⟩
      ·exact absurd e (hnf.2 ds)
      ·rcases sO Jr with ⟨cs,_,e,_⟩ | ⟨f,cs,_,e,_⟩ | ⟨_,_,Jr⟩
       ·exact absurd ⟨cs,e⟩ ez
       ·exact absurd e (hnf.1 f cs)
       ·exact Jr
    refine ⟨cB,Xj g3 hs,fun e=>?_,fun bx e=>?_⟩
    ·cases d1 with
     | aW cs=>obtain ⟨r,b2,_,e2,_⟩:=g1; rw [e] at e2; simp at e2
     | _=>exact ⟨g1.2.2.1,g1.2.2.2.1⟩
    ·cases d1 with
     | aW cs=>
      obtain ⟨r,b2,e1,e2,e3,_⟩:=g1;rw [e,mN] at e2;subst e2;exact ⟨r,_,e1,e3,rfl⟩
     | _=>rw [g1.1] at e; simp at e
end
end Go.Proofs.YtckkpgcnhdllgaaGreat
