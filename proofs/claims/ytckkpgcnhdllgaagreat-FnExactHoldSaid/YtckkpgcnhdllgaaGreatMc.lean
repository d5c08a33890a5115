/- What the proof of FnExactHold stands on, part 3: an abstract machine on plain data, its soundness, and the contracts of functions. -/
import Derived.OrdersHeld
import Derived.Shelf.Strings.OnBuilder
import Derived.Shelf.SlicesE.Clone
import Derived.Shelf.Spec.SlicesGrow
import Derived.Test.YtckkpgcnhdllgaaGreatMb
set_option linter.all false
set_option linter.unusedSimpArgs false
set_option linter.unusedVariables false
set_option linter.unnecessarySimpa false
set_option linter.unusedSectionVars false
namespace Go.Proofs.YtckkpgcnhdllgaaGreat
theorem UG {d:D} (h:dw d=true):(bX d).all bW=true:=by
 simp only [dw,ab9,wX] at h;exact ab9.2 (fun x hx=>(h x hx).2)
theorem aaK {w':World} {X:Bool->Nat->Prop} {b:Bool} {o:D} {a a':Arg} (h:oF w' b o a a') (ho:dw o=true) (hs:bC w' X a'.2):cb (aX a'.2)=true:=by
 cases b with
 | false=>simp only [oF] at h; rw [h]; rfl
 | true=>
  have hn:=UG ho;cases o with
  | aW cs=>obtain ⟨_,_,e⟩:=h; rw [eg,<- e]; exact hn
  | agg cs=>obtain ⟨_,_,e,_⟩:=h; rw [eg,<- e]; exact hn
  | aG vs=>
   obtain ⟨_,_,h3⟩:=h;rcases h3 with ⟨h3,_⟩ | ⟨t,h3,h4,_⟩
   ·rw [h3]; rfl
   ·rw [h3] at hs;exact absurd h4.symm ((rQ ((bY _).1 hs t (by simp))).2.2 vs)
  | _=>
   obtain ⟨_,_,h3⟩:=h;rcases h3 with ⟨h3,_⟩ | ⟨t,h3,h4,_⟩
   ·rw [h3]; rfl
   ·rw [eg,h3];simp only [aX,<- h4];exact hn
theorem NH {w':World} {X:Bool->Nat->Prop}:∀ {b:List Bool} {os:List D} {as9 cm:List Arg},mv w' b os as9 cm->(∀ o∈os,dw o=true)->(∀ a∈cm,bC w' X a.2)->∀ a∈cm,cb (aX a.2)=true
 | _,os,[],cm,h,_,_=>by obtain ⟨_,rfl⟩:=h; simp
 | b,os,a::as9,cm,h,ho,hs=>by
  obtain ⟨o,xm,a',Nx,rfl,rfl,h1,h2⟩:=h;intro x hx;simp only [acK] at hx;rcases hx with rfl | hx
  ·exact aaK h1 (ho _ (by simp)) (hs _ (by simp))
  ·exact NH h2 (fun o NI=>ho o (by simp [NI])) (fun a ha=>hs a (by simp [ha])) x hx
theorem acU {w':World} {X:Bool->Nat->Prop} {r:D} {v:Value} {ts:List T} (h:Jm r v ts) (ho:dw r=true) (hs:bC w' X ts):cb (aX ts)=true:=by
 have hn:=UG ho;by_cases hp:∃ cs,r=.aW cs
 ·obtain ⟨cs,rfl⟩:=hp;obtain ⟨b,QX,rfl,rfl,_⟩:=h;simp only [rR,aX,T.er,cb,bW,ag7,agI];rw [eg]; exact hn
 by_cases jI:∃ ds,r=.aG ds
 ·obtain ⟨ds,rfl⟩:=jI;obtain ⟨us,rfl,hf⟩:=h;rw [eg,Av hf,<- we]; exact hn
 have hf:fM r v ts:=by cases r<;>first | exact h | exact absurd ⟨_,rfl⟩ hp | exact absurd ⟨_,rfl⟩ jI
 have:bX r=dc r:=by cases r<;>first | rfl | exact absurd ⟨_,rfl⟩ hp
 rw [eg,pE hf,<- rS hs hf,<- this]; exact hn
theorem CF {w:World} {S:List (Nat × RT)}:∀ {b:List Bool} {ds gn:List D} {us:List Value} {as9:List Arg},sX w S b ds gn us as9->b.any id=false->∀ a∈as9,a=(none,[])
 | _,[],_,_,_,h,_=>by obtain ⟨_,_,rfl⟩:=h; simp
 | b,d::ds,_,_,_,h,hn=>by
  obtain ⟨d1,yJ,u,kf,a,cm,rfl,rfl,rfl,h1,h2⟩:=h;have hb:b.headD false=false/\b.tail.any id=false:=by
   cases b with
   | nil=>simp
   | cons x xs=>simpa using hn
  rw [hb.1] at h1;intro x hx;simp only [acK] at hx;rcases hx with rfl | hx
  ·exact h1.1
  ·exact CF h2 hb.2 x hx
section
variable {P:Program} {c:cn} {C:Ctx} {Hx:List T} {w:World} {st st':St} {vs:Array Value} {aJ:List (Array Value)} {S:List (Nat × RT)} {cl:FuncId->List D->Option (D × List D)}
theorem Xl (st:St) (r:Nat) (d:D):(st.qm r d).1.of=st.of:=by
 cases d with
 | aW cs=>rfl
 | _=>simp only [St.qm]; split<;>rfl
structure acV (C:Ctx) (Hx:List T) (w w':World) (st st':St) (vs:Array Value) (aJ:List (Array Value)) (dst:Option Nat) (v:Value) (own:List Bool):Prop where
 rel:∃ S',Rel C Hx w' st' ((match dst with | some t=>vs.setIfInBounds t v | none=>vs)::aJ) S'
 of:st'.of=st.of
 nj:own.any id=false->dH w w'
theorem Xm (hg:lu P c.own cl) (h:Rel C Hx w st (vs::aJ) S) {args:List D} {us:Array Value} (ha:bZ (ck w (af C w S Hx) S) args us.toList) {dst:Option Nat} {f:FuncId} (hd:∀ t,dst=some t->t < vs.size/\∀ p∈C.P0,p.1≠st.of+t) (aj:ku c cl st dst f args=some st'):
  kh P f/\Calls P f us w fun e w'=>∃ v,e=.returned v/\acV C Hx w w' st st' vs aJ dst v (c.own f):=by
 unfold ku at aj;split at aj
 case h_2=>simp at aj
 rename_i sG aP mJ;unfold mH at mJ;split at mJ
 case h_2=>simp at mJ
 rename_i gn acW hco;split at mJ
 case h_2=>simp at mJ
 rename_i G9 hcr;simp only [mN,sF] at mJ;obtain ⟨rfl,rfl⟩:=mJ;obtain ⟨as9,S1,a1,a2,a3,a4,a5,a6,a7⟩:=E0 h ha hco;generalize ht:fB (c.own f) G9=t at aj;simp only at aj;split at aj
 case h_2=>simp at aj
 rename_i r outs gE;split at aj
 case isFalse=>simp at aj
 rename_i cF;simp only [wX] at cF;split at aj
 case h_2=>simp at aj
 rename_i cj hcb;have hnS:=h.mem.nd;have rN:(cA S1++ah (cO as9)).Nodup:=by
  have h9:=a1.mem.nd;rw [aY,<- acz] at h9;exact (zX.1 h9).1
 have eI:∀ k,k∈cA S1++ah (cO as9)->k∈cA S1++ah (cO as9++Hx):=fun k hk=>by
  rw [aY,<- acz];exact sE.2 (.inl hk)
 have Xn:∀ bk∈as9.filterMap Prod.fst,∃ r R,lk S1 r=some R/\R.box=some bk/\R.cs=[]:=ub a2;have ZI:∀ bk∈as9.filterMap Prod.fst,bk∈cA S1:=fun bk hb=>by
  obtain ⟨r,R,e1,e2,_⟩:=Xn bk hb;exact kn e1 (by simp [RT.ft,e2])
 have gB:∀ k,k∈bq as9->k∈cA S1++ah (cO as9):=fun k hk=>by
  rcases kE.1 hk with h1 | h1
  ·exact sE.2 (.inl (ZI k h1))
  ·exact sE.2 (.inr h1)
 have hX:∀ b k,af C w S1 (cO as9++Hx) b k->Lk w (bq as9) (af C w S1 (cO as9++Hx) t) b k:=by
  intro b k hk;refine ⟨hk.1,fun h1=>?_,fun hb=>⟨hk.1,hk.2.1,hk.2.2.1,fun _=>hk.2.2.2 hb⟩⟩;rcases sE.1 (gB k h1) with h2 | h2
  ·exact hk.2.1 h2
  ·exact hk.2.2.1 (by rw [aY]; exact sE.2 (.inl h2))
 have hF:∀ r R k,lk S1 r=some R->R.cs≠[]->k∈R.ft->Lk w (bq as9) (af C w S1 (cO as9++Hx) t) true k:=by
  intro r R k hr ec hk;have Jh:=kn hr hk;refine ⟨a1.mem.lt k (sE.2 (.inl Jh)),fun h1=>?_,by simp⟩
  rcases kE.1 h1 with h2 | h2
  ·obtain ⟨r',R',e1,e2,e3⟩:=Xn k h2;have:=uU (zX.1 rN).1 e1 e2 hr hk;subst this;rw [hr,mN] at e1;subst e1;exact ec e3
  ·exact (zX.1 rN).2.2 k Jh k h2 rfl
 have du:∀ a∈as9,bC w (af C w S1 (cO as9++Hx)) a.2:=uX.1 ((dV _ _).1 a1.mem.hand).1;obtain ⟨p1,p2⟩:=NF a1 hX hF a2 (ha.mono (fun _ _ hh=>pS a3 hh)) hcr du;have acX:(if t then j8 (c.own f) G9 else G9)=j8 (c.own f) G9:=by
  cases oT:t with
  | true=>rfl
  | false=>rw [oT] at ht; exact (p2 ht).1.symm
 rw [acX] at gE;have tE:jG w (af C w S1 (cO as9++Hx) t) (c.own f) (j8 (c.own f) G9) us.toList (as9.map (ta false)):=by
  refine ⟨by rw [pZ]; exact p1,?_,fun k hk=>a1.mem.lt k (eI k (gB k (by rwa [pZ] at hk))),fun a ha=>?_⟩
  ·rw [pZ];refine (jz as9).nodup_iff.2 ?_;rw [zX];refine ⟨a6,(nA as9).nodup_iff.1 (zX.1 rN).2.1,fun x hx y hy e=>?_⟩;subst e;exact (zX.1 rN).2.2 x (ZI x hx) x ((nA as9).mem_iff.2 hy) rfl
  ·rw [pZ];obtain ⟨a0,ha0,rfl⟩:=acv.1 ha;have hs:=du a0 ha0;show bC w _ (gq false a0.2);cases oT:t with
   | true=>
    exact xr (X:=af C w S1 (cO as9++Hx)) (fun g k hk=>⟨hk.1,(hX g k hk).2.1,fun _=>⟨hk.1,hk.2.1,hk.2.2.1,by simp⟩⟩) _ hs
   | false=>
    rw [oT] at ht;have sU:=BM _ hs ((p2 ht).2 a0 ha0);exact xr (fun g k hk=>⟨hk.2.1,(hX false k hk.2).2.1,fun _=>hk.2⟩) _ sU
 obtain ⟨uZ,Ay⟩:=hg f _ r outs gE;refine ⟨uZ,(Ay w _ us _ tE cF.1 (ab9.1 cF.2)).mono fun e w'=>?_⟩;rintro ⟨v,rfl,Sb⟩;refine ⟨v,rfl,?_⟩;obtain ⟨cI,hold,me,qx,rM,eZ,cm,q1,q2,q3,q4,q5,q6⟩:=Sb;rw [pZ] at hold q4 q5 q6;have ZJ:(c.own f).any id=false->dH w w':=fun hn k hk=>hold k hk (fun hm=>by
  have yE:=CF a2 hn;rw [kE] at hm;rcases hm with hm | hm
  ·rw [List.mem_filterMap] at hm;obtain ⟨a,ha,e⟩:=hm;rw [yE a ha] at e;simp at e
  ·have he:cO as9=[]:=by
    unfold cO;rw [List.flatten_eq_nil_iff];intro l hl;rw [List.mem_reverse,acv] at hl;obtain ⟨a,ha,rfl⟩:=hl;rw [yE a ha]
   rw [he] at hm;simp [ah] at hm)
 obtain ⟨r2,r3⟩:=NG a2 q2;have UH:∀ k,k∈bq cm↔k∈as9.filterMap Prod.fst∨k∈ah (cV cm):=fun k=>by rw [(jz cm).mem_iff,sE,r2]
 have wN:(ah eZ++(as9.filterMap Prod.fst++ah (cV cm))).Nodup:=by
  rw [<- r2];exact (agn _ (jz cm)).nodup_iff.1 q3
 have LS:bC w' (fun b k=>Lk w' (ah eZ++bq cm) (fun k=>af C w S1 (cO as9++Hx) t k∨k∈bq as9∨w.heap.size<=k) b k) (cV cm++eZ):=(dV _ _).2 ⟨wM.2 q6,q5⟩;have hX2:∀ k,Lk w' (ah eZ++bq cm) (fun k=>af C w S1 (cO as9++Hx) t k∨k∈bq as9∨w.heap.size<=k) false k->
   (fun b k=>k < w'.heap.size/\k∉ah (gq t (cV cm++eZ))/\k∉as9.filterMap Prod.fst/\(af C w S1 (cO as9++Hx) b k∨k∈ah (cO as9)∨w.heap.size<=k)) t k:=by
  rintro k ⟨k1,k2,k3⟩;rw [sE,not_or,UH,not_or] at k2;refine ⟨k1,?_,k2.2.1,?_⟩
  ·rw [uW,aY,sE,not_or];exact ⟨k2.2.2,k2.1⟩
  ·rcases k3 rfl with h1 | h1 | h1
   ·exact .inl h1
   ·rcases kE.1 h1 with h2 | h2
    ·exact absurd h2 k2.2.1
    ·exact .inr (.inl h2)
   ·exact .inr (.inr h1)
 have ZK:cb (aX (cV cm++eZ))=true:=by
  rw [pA,eg,List.all_append,<- eg,<- eg,acU q1 cF.1 q5,ag7,eg,ab9];have h1:=NH q2 (ab9.1 cF.2) q6;intro x hx;rw [eO] at hx;obtain ⟨t0,kB,rfl⟩:=acv.1 hx;simp only [cV,agR,acv] at kB;obtain ⟨l,⟨a,ha,rfl⟩,kB⟩:=kB;have h2:=h1 a ha;rw [eg,ab9] at h2;exact h2 _ (by rw [eO]; exact acv.2 ⟨_,kB,rfl⟩)
 have hO:=xr (b:=t) (X':=fun b k=>k < w'.heap.size/\k∉ah (gq t (cV cm++eZ))/\k∉as9.filterMap Prod.fst/\(af C w S1 (cO as9++Hx) b k∨k∈ah (cO as9)∨w.heap.size<=k)) (fun g k hk=>hX2 k hk.2) _ (BM _ LS ZK);have a1':Rel C (cO as9++Hx) w acW (vs::aJ) S1:=a1;have UI:(ah (gq t (cV cm++eZ))).Nodup:=by
  rw [uW,aY];rw [zX,zX] at wN;rw [zX];exact ⟨wN.2.1.2.1,wN.1,fun x hx y hy e=>wN.2.2 y hy x (sE.2 (.inr hx)) e.symm⟩
 have Jt:∀ k∈ah (gq t (cV cm++eZ)),k∉as9.filterMap Prod.fst:=by
  intro k hk EC;rw [uW,aY] at hk;rw [zX,zX] at wN;rcases sE.1 hk with h1 | h1
  ·exact wN.2.1.2.2 k EC k h1 rfl
  ·exact wN.2.2 k h1 k (sE.2 (.inl EC)) rfl
 have hc3:∀ k∈ah (gq t (cV cm++eZ)),k < w'.heap.size/\(k∈ah (cO as9)∨w.heap.size<=k):=by
  intro k hk;rw [uW,aY] at hk;have UJ:k∈ah eZ++bq cm:=by
   rcases sE.1 hk with h1 | h1
   ·exact sE.2 (.inr ((UH k).2 (.inr h1)))
   ·exact sE.2 (.inl h1)
  obtain ⟨h1,h2⟩:=q4 k UJ;refine ⟨h1,?_⟩;rcases h2 with h2 | h2
  ·rcases kE.1 h2 with h4 | h4
   ·exfalso;rw [zX,zX] at wN;rcases sE.1 hk with h5 | h5
    ·exact wN.2.1.2.2 k h4 k h5 rfl
    ·exact wN.2.2 k h5 k (sE.2 (.inl h4)) rfl
   ·exact .inl h4
  ·exact .inr h2
 obtain ⟨b1,b2⟩:=Dk (w':=w') a1' Xn cI (fun k hk h1 h2=>hold k hk (fun h3=>by
   rcases kE.1 h3 with h4 | h4
   ·exact h2 h4
   ·exact h1 h4)) me qx rM hO UI Jt hc3 r3
 have hOs:gq t (cV cm++eZ)++Hx=cV (cm.map (ta t))++(gq t eZ++Hx):=by
  rw [BL,Jp,acz]
 rw [hOs] at b1 b2;have acY:bZ (ck w' (af C w' S1 (cV (cm.map (ta t))++(gq t eZ++Hx))) S1) args us.toList:=by
  refine ha.mono (fun d u hh=>?_);have h1:=pS a3 hh;exact pS b2 h1
 have E6:=Js (t:=t) a2 acY q2 q6;have ae3:(if t then outs.map (gJ true) else outs)=outs.map (gJ t):=by
  cases oT:t with
  | true=>rfl
  | false=>
   simp only [acq,if_false];have:∀ o∈outs,gJ false o=id o:=fun o ho=>G8 o (by
    have:=ab9.1 cF.2 o ho;simp only [dw,ab9,wX] at this;exact ab9.2 (fun x hx=>(this x hx).2))
   rw [ajw this,List.map_id]
 rw [ae3] at hcb;obtain ⟨S2,h2,c1,c2⟩:=PK b1 Xf E6 hcb;have gf:(if t then gJ true r else r)=gJ t r:=by
  cases oT:t with
  | true=>rfl
  | false=>
   simp only [acq,if_false];refine (G8 r ?_).symm;have:=cF.1;simp only [dw,ab9,wX] at this;exact ab9.2 (fun x hx=>(this x hx).2)
 have Dj:cj.of=st.of:=c2.of.trans a5.2.2;have NJ:Jm (gJ t r) v (gq t eZ):=aaI q1 q5;cases fL:dst with
 | none=>
  rw [fL] at aj;simp only [mN] at aj;subst aj;exact ⟨⟨S2,(pX c1).1⟩,Dj,ZJ⟩
 | some i=>
  rw [fL] at aj;simp only [mN] at aj;subst aj;obtain ⟨d1,d2⟩:=hd i fL;rw [gf];obtain ⟨S3,e1⟩:=Xh c1 NJ d1 (by rw [Dj]; exact d2)
  exact ⟨⟨S3,e1⟩,(iG _ _ _).trans ((Xl _ _ _).trans Dj),ZJ⟩
end
def rU (P:Program) (ci:FuncId->List D->Nat->St->Option (D × St)):Prop:=
 ∀ f args CG st d st',ci f args CG st=some (d,st')->kh P f/\∀ (C:Ctx) (Hx:List T) (w:World) (aJ:List (Array Value)) (S:List (Nat × RT)) (us:Array Value),Rel C Hx w st aJ S->aJ≠[]->bZ (ck w (af C w S Hx) S) args us.toList->(∀ p∈C.P0,p.1 < 10000)->100000<=CG->
  Calls P f us w fun e w'=>∃ v,e=.returned v/\∃ S',Rel C Hx w' st' aJ S'/\ck w' (af C w' S' Hx) S' d v/\st'.of=st.of
section
variable {P:Program} {c:cn} (aw:ey c P) {C:Ctx} {Hx:List T} {w:World} {st st':St} {o:Oper} {a:Act} {aJ:List (Array Value)} {S:List (Nat × RT)} {K:Act->World->Prop} {Q:Exit->Act->World->Prop}
 {cl:FuncId->List D->Option (D × List D)} {ci:FuncId->List D->Nat->St->Option (D × St)} {aC:FuncId}
theorem NK {cc:Call} {f:Operand} {g:FuncId} {gH:Array Value} (ho:o.op=.call cc) (hc:cc.callee=.value f) (hf:a.eval f=.func (.func g) #[] gH) (uZ:kh P g):
    (execOp a.eval o).run P w=.ok (.enter g (cc.args.map a.eval++gH)) w:=by
  obtain ⟨fn,h1,h2,h3⟩:=uZ
  unfold execOp
  simp only [ho,resolve,hc,hf,Deferred.ofValue,Sem.run_bind,Sem.run_pure,Result.andThen_ok,invoke,callFunc,Array.empty_append]
  have hp:Sem.run P program w=.ok P w:=by simp
  rw [hp,Result.andThen_ok,h1]
  have UK : ¬ fn.name = "runtime.NumGoroutine" := by simpa using h2
  have Nf:¬ fn.body=none:=fun e=>by rw [e] at h3; simp at h3
  simp [UK,Nf]
include aw
theorem ZL (h:Rel C Hx w st (a.tmps::aJ) S) (fL:∀ t,o.dst=some t->t < a.tmps.size/\∀ p∈C.P0,p.1≠st.of+t) (hP:∀ p∈C.P0,p.1 < 10000) (ka:lu P c.own cl) (lR:rU P ci) (aj:eY c cl ci aC st o=some st')
  (hK:∀ a' w' S',Rel C Hx w' st' (a'.tmps::aJ) S'->a'.tmps.size=a.tmps.size->a'.defers=a.defers->st'.of=st.of->(vP c o=true->dH w w')->xj o a S w w'->K a' w'):o.wp P a w K Q:=by
 by_cases cR:∃ cc f,o.op=.call cc/\cc.callee=.value f
 ·obtain ⟨cc,f,ho,hc⟩:=cR;have fP:mb w (af C w S Hx) S st.tm a.tmps:=by cases h.ov with | cons a _=>exact a
  have ev:=fun t x=>vV (c:=c) fP t x;unfold eY at aj;simp only [ho,hc] at aj;split at aj
  ·simp at aj
  rename_i cI;simp only [ne_eq,ajI] at cI;split at aj
  case h_2=>simp at aj
  rename_i g gH hf;have hfv:=ev o.type f;rw [hf] at hfv;obtain ⟨us,hfu,MO⟩:=hfv;have gB:bZ (ck w (af C w S Hx) S) (((cc.args.toList.zip cc.argTypes.toList).map fun p=>ch c st p.2 p.1)++gH) (cc.args.map a.eval++us).toList:=by
   rw [Array.toList_append];refine bZ.app ?_ (MO.mono (fun _ _ hh=>mm hh));refine dk (by simp [cI]) (fun i x y hx hy=>?_)
   simp only [agA,adp] at hx hy;cases hq:(cc.args.toList.zip cc.argTypes.toList)[i]? with
   | none=>simp [hq] at hx
   | some q=>
    simp only [hq,MD,mN] at hx;rw [ajA] at hq;simp only [hq.1,MD,mN] at hy;subst hx; subst hy;exact ev q.2 q.1
  split at aj
  ·rename_i hig;split at aj
   case h_2=>simp at aj
   rename_i d aP mJ;simp only [mN] at aj;subst aj;obtain ⟨uZ,Ay⟩:=lR _ _ _ _ _ _ mJ;unfold Oper.wp;rw [NK ho hc hfu uZ];refine (Ay C Hx w _ S _ h (by simp) gB hP (by
    have:1*100000<=(st.of+o.dst.getD 0+1)*100000:=adl _ (by omega)
    omega)).mono fun e w'=>?_
   rintro ⟨v,rfl,S',h1,h2,h3⟩;have uT:xj o a S w w':=⟨fun e=>by simp [rh,ho] at e,fun ZD e1 e2=>by rw [ho,Op.call.injEq] at e1; subst e1; rw [hc] at e2; simp at e2,fun t x y e=>by simp [ho] at e⟩
   refine hK _ _ S' (h1.yH (fun t ht=>(fL t ht).1) h2) (cH a o.dst v).1 (cH a o.dst v).2 ((iG _ _ _).trans h3) (fun hk=>?_) uT;exfalso;simp only [vP,mZ,rh,ho,hc,Option.isSome_none,Bool.false_or] at hk;cases f with
   | func f'=>
    simp only [wX,adv] at hk;have hg:g=f':=by
     simp only [ch,D.fn.injEq] at hf;exact hf.1.symm
    subst hg;rw [hk.1] at hig;simp at hig
   | _=>simp at hk
  ·obtain ⟨uZ,Ay⟩:=Xm ka h gB fL aj;unfold Oper.wp;rw [NK ho hc hfu uZ];refine Ay.mono fun e w'=>?_;rintro ⟨v,rfl,⟨S',h1⟩,h2,h3⟩;have uT:xj o a S w w':=⟨fun e=>by simp [rh,ho] at e,fun ZD e1 e2=>by rw [ho,Op.call.injEq] at e1; subst e1; rw [hc] at e2; simp at e2,fun t x y e=>by simp [ho] at e⟩
   refine hK _ _ S' ?_ (cH a o.dst v).1 (cH a o.dst v).2 h2 (fun hk=>?_) uT
   ·cases ZM:o.dst with
    | none=>rw [ZM] at h1; exact h1
    | some t=>rw [ZM] at h1; exact h1
   ·simp only [vP,mZ,rh,ho,hc,Option.isSome_none,Bool.false_or] at hk;cases f with
    | func f'=>
     simp only [wX,adv] at hk;have hg:g=f':=by
      simp only [ch,D.fn.injEq] at hf;exact hf.1.symm
     subst hg;exact h3 hk.2
    | _=>simp at hk
 ·by_cases hk:(mZ c o).isSome=true
  ·obtain ⟨b,kC⟩:=af3.1 hk;obtain ⟨v,d,h1,h2,rfl⟩:=Nt aw h kC aj;exact nu (h1 w (.inr ((dH.refl w).rd o a))) (hK _ _ S (h.yH (fun t ht=>(fL t ht).1) h2) (cH a o.dst v).1 (cH a o.dst v).2 (iG st o.dst d) (fun _=>dH.refl w) (xj.refl o a S w))
  ·refine Ux aw h fL (fun cc f e1 e2=>cR ⟨cc,f,e1,e2⟩) aj (fun a' w' S' h1 h2 h3 h4 h5=>hK a' w' S' h1 h2 h3 h4 (fun Q0=>?_) h5);refine h5.al ?_;simp only [vP,aej] at Q0;rcases Q0 with (h6 | h6) | h6
   ·exact absurd h6 hk
   ·exact h6
   ·exfalso;split at h6
    ·rename_i cc mf;split at h6
     ·rename_i f hf;exact cR ⟨cc,.func f,mf,hf⟩
     ·simp at h6
    ·simp at h6
end
section
variable {C:Ctx} {H H':List T} {w w':World} {st st':St} {aJ Sc:List (Array Value)} {S S':List (Nat × RT)}
theorem UL (hp:H.Perm H'):(ah H).Perm (ah H'):=by
 rw [nr,nr];exact (hp.map T.ft).flatten
theorem Xp (h:Rel C H w st aJ S) (hp:H.Perm H'):Rel C H' w st aJ S:=by
 have hf:=UL hp;have e:af C w S H=af C w S H':=by
  funext b k;unfold af;rw [hf.mem_iff]
 obtain ⟨h1,⟨m1,m2,m3,m4⟩,h3,⟨k1,k2,k3,k4,k5,k6,k7⟩⟩:=h;rw [e] at m2 m3 h3;refine ⟨h1,⟨(agn _ hf).nodup_iff.1 m1,m2,?_,fun k hk=>m4 k ((agn _ hf).mem_iff.2 hk)⟩,h3,⟨k1,k2,k3,k4,k5,fun k hk=>k6 k ((agn _ hf).mem_iff.2 hk),k7⟩⟩;rw [bY] at m3 ⊢;exact fun t ht=>m3 t (hp.mem_iff.2 ht)
def Ctx.at (C:Ctx) (w:World) (S:List (Nat × RT)) (H:List T) (P1:List (Nat × Option Nat × List Value)):Ctx:=
 ⟨w,cA S++ah H,fun k=>C.Y k∨k∈C.FA∨C.w0.heap.size<=k,C.P0++P1⟩
theorem Q1 (hk:Kept C w S H) {P1:List (Nat × Option Nat × List Value)} (w':World) (S':List (Nat × RT)) (H':List T):af (C.at w S H P1) w' S' H'=af C w' S' H':=by
 funext b k;unfold af Ctx.at;have h1:=hk.size;have h2:=hk.iD k;apply propext;constructor
 ·rintro ⟨a,b,c,d⟩;refine ⟨a,b,c,fun e=>?_⟩;rcases d e with d | d | d
  ·exact d
  ·exact .inr (h2 d)
  ·exact .inr (.inr (agf h1 d))
 ·rintro ⟨a,b,c,d⟩;exact ⟨a,b,c,fun e=>.inl (d e)⟩
theorem acZ (h:Rel C H w st aJ S) {P1:List (Nat × Option Nat × List Value)} (hp:∀ r b vs,(r,b,vs)∈P1->∀ R,lk S r=some R->R.box=b/\(b=none->ax R.cs=vs)):Rel (C.at w S H P1) H w st aJ S:=by
 have e:=Q1 h.kept (P1:=P1) w S H;obtain ⟨h1,⟨m1,m2,m3,m4⟩,h3,hk⟩:=h;refine ⟨h1,⟨m1,?_,?_,m4⟩,?_,⟨rfl,rfl,rfl,acD _,fun _ _ _=>rfl,fun k hk=>.inl hk,fun r b vs hm=>?_⟩⟩
 ·rw [e]; exact m2
 ·rw [e]; exact m3
 ·rw [e]; exact h3
 ·rcases sE.1 hm with hm | hm
  ·exact hk.par r b vs hm
  ·exact hp r b vs hm
theorem aaL (hk:Kept C w S H) {P1:List (Nat × Option Nat × List Value)} (h:Rel (C.at w S H P1) H' w' st' Sc S'):Rel C H' w' st' Sc S':=by
 have e:=Q1 hk (P1:=P1) w' S' H';obtain ⟨h1,⟨m1,m2,m3,m4⟩,h3,⟨k1,k2,k3,k4,k5,k6,k7⟩⟩:=h;rw [e] at m2 m3 h3;refine ⟨h1,⟨m1,m2,m3,m4⟩,h3,⟨k1.trans hk.os,k2.trans hk.tape,k3.trans hk.output,agf hk.size k4,fun k a1 a2=>?_,fun k a1=>?_,fun r b vs hm=>k7 r b vs (sE.2 (.inl hm))⟩⟩
 ·refine (k5 k (agD a1 hk.size) fun a3=>?_).trans (hk.block k a1 a2);rcases hk.iD k a3 with a4 | a4
  ·exact a2 a4
  ·omega
 ·rcases k6 k a1 with a2 | a2
  ·exact hk.iD k a2
  ·exact .inr (agf hk.size a2)
end
section
variable {P:Program} {ops:Array Oper} {Q:Exit->Act->World->Prop} {KB:Nat->Nat->Prop}
def oX (P:Program) (ops:Array Oper) (Q:Exit->Act->World->Prop) (KB:Nat->Nat->Prop):Nat->Array Bool->Act->World->Prop
 | 0,bQ,a,w=>Region.ready .any ops bQ=[]/\Q .normal a w
 | fuel+1,bQ,a,w=>
  (Region.ready .any ops bQ=[]->Q .normal a w)/\
  ∀ i∈Region.ready .any ops bQ,wpOp P ops Q i (fun a' w'=>(∀ b,KB i b->w'.heap[b]?=w.heap[b]?)/\oX P ops Q KB fuel (bQ.setIfInBounds i true) a' w') a w
theorem E7:∀ (fuel:Nat) (bQ:Array Bool) (a:Act) (w:World),oX P ops Q KB fuel bQ a w->wpAny P .any ops Q fuel bQ a w
 | 0,_,_,_,h=>h
 | fuel+1,_,_,_,h=>⟨h.1,fun i hi=>wpOp_mono (fun a' w' h'=>E7 fuel _ a' w' h'.2) (h.2 i hi)⟩
theorem CH {CI:Nat->Nat->Prop} (hk:∀ i b,KB i b->CI i b):∀ (fuel:Nat) (bQ:Array Bool) (a:Act) (w:World),oX P ops Q CI fuel bQ a w->oX P ops Q KB fuel bQ a w
 | 0,_,_,_,h=>h
 | fuel+1,_,_,_,h=>⟨h.1,fun i hi=>wpOp_mono (fun a' w' h'=>⟨fun b hb=>h'.1 b (hk i b hb),CH hk fuel _ a' w' h'.2⟩) (h.2 i hi)⟩
def nB (ops:Array Oper) (bQ:Array Bool):Prop:=∀ k o,ops[k]?=some o->bQ.getD k false=true->∀ e∈o.after,Region.binds .any e=true->bQ.getD e.on false=true
theorem PL (n:Nat):nB ops (Array.replicate n false):=by
 intro k o _ h;rw [adm,Array.getElem?_replicate] at h;split at h<;>simp at h
theorem qI {bQ:Array Bool} (h:nB ops bQ) {j:Nat} (hj:j∈Region.ready .any ops bQ):nB ops (bQ.setIfInBounds j true):=by
 intro k o ho hk e he hb;by_cases ZN:k=j
 ·subst ZN;obtain ⟨_,o',NI,dM⟩:=mem_ready.1 hj;rw [ho,mN] at NI;subst NI;exact getD_set_true (dM e he hb)
 ·rw [getD_set_ne false (agU ZN)] at hk;exact getD_set_true (h k o ho hk e he hb)
theorem CJ {bQ:Array Bool} (hc:nB ops bQ) {i:Nat} (hi:bQ.getD i false=false):∀ (n j:Nat),(∀ o,ops[j]?=some o->∀ e∈o.after,Region.binds .any e=true->bQ.getD e.on false=true)->waits ops n j i=false
 | 0,_,_=>rfl
 | n+1,j,h=>by
  unfold waits;cases ho:ops[j]? with
  | none=>rfl
  | some o=>
   simp only;rw [List.any_eq_false];intro e he;simp only [wX,aej,beq_iff_eq,not_and,not_or];intro hb;have h1:=h o ho e (agd.1 he) hb;refine ⟨fun e1=>?_,fun e1=>?_⟩
   ·rw [e1,hi] at h1; simp at h1
   ·have:=CJ hc hi n e.on (fun o' NI e' he' fD=>hc e.on o' NI h1 e' he' fD);rw [this] at e1; simp at e1
theorem jJ {bQ:Array Bool} {i:Nat} (h:i∈Region.ready .any ops bQ):bQ.getD i true=false/\bQ.getD i false=false:=by
 have h0:=(mem_ready.1 h).1;refine ⟨h0,?_⟩;rw [adm] at h0 ⊢;cases hx:bQ[i]? with
 | none=>rw [hx] at h0; simp at h0
 | some y=>rw [hx] at h0; simpa using h0
theorem oY {bQ:Array Bool} (hc:nB ops bQ) {i j:Nat} (hi:bQ.getD i true=false) (hj:j∈Region.ready .any ops bQ):waits ops ops.size j i=false:=by
 have nC:bQ.getD i false=false:=by
  rw [adm] at hi ⊢;cases hx:bQ[i]? with
  | none=>rw [hx] at hi; simp at hi
  | some y=>rw [hx] at hi; simpa using hi
 obtain ⟨_,oj,UM,dM⟩:=mem_ready.1 hj;exact CJ hc nC _ _ (fun o ho e he hb=>by
  rw [UM,mN] at ho;subst ho;exact dM e he hb)
theorem Az {i:Nat} {oi:Oper} {v:Value} {B:Nat->Prop} {wr:World} (hi:ops[i]?=some oi) (mX:∀ (j:Nat) (o:Oper) cs b,ops[j]?=some o->o.op≠.select cs b)
  (hQ:∀ c a w,Q (.panic c) (a.put oi.dst v) w->Q (.panic c) a w):
  ∀ (fuel:Nat) (bQ:Array Bool) (a:Act) (w:World),nB ops bQ->
   (∀ j oj,ops[j]?=some oj->j≠i->bQ.getD j true=false->waits ops ops.size j i=false->oi.apart ops oj=true/\∀ b,B b->KB j b)->
   i∈Region.ready .any ops bQ->YieldsIf P ops (fun w2=>∀ b,B b->w2.heap[b]?=wr.heap[b]?) oi v a->(∀ b,B b->w.heap[b]?=wr.heap[b]?)->
   oX P ops Q KB fuel (bQ.setIfInBounds i true) (a.put oi.dst v) w->oX P ops Q KB (fuel+1) bQ a w:=by
 intro fuel
 induction fuel with
 | zero=>
  intro bQ a w gE wb hr hy hS H;refine ⟨fun h=>(by rw [h] at hr; cases hr),fun j hj=>?_⟩
  by_cases Ju:j=i
  ·subst Ju; exact hy.wpOp hi hS ⟨fun _ _=>rfl,H⟩
  ·have:=ready_mono hj Ju;rw [H.1] at this;cases this
 | succ fuel ih=>
  intro bQ a w gE wb hr hy hS H;refine ⟨fun h=>(by rw [h] at hr; cases hr),fun j hj=>?_⟩
  by_cases Ju:j=i
  ·subst Ju; exact hy.wpOp hi hS ⟨fun _ _=>rfl,H⟩
  ·have h1:=H.2 j (ready_mono hj Ju);obtain ⟨ac0,oj,UM,dM⟩:=mem_ready.1 hj;have aht:=oY gE (jJ hr).1 hj;obtain ⟨NL,Q0⟩:=wb j oj UM Ju ac0 aht;have h2:=wpOp_putIf UM NL (fun cs b=>mX i oi cs b hi) (fun cs b=>mX j oj cs b UM) hQ hy h1;have ac1:∀ k ok,ops[k]?=some ok->k≠i->(bQ.setIfInBounds j true).getD k true=false->
     waits ops ops.size k i=false->oi.apart ops ok=true/\∀ b,B b->KB k b:=fun k ok hk hki oW ow=>by
    refine wb k ok hk hki ?_ ow;by_cases hjk:j=k
    ·subst hjk; exact ac0
    ·rw [getD_set_ne true hjk] at oW; exact oW
   refine wpOp_mono (fun a' w' h3=>⟨h3.2.1,ih (bQ.setIfInBounds j true) a' w' (qI gE hj) ac1 (ready_mono hr (agU Ju)) h3.1 (fun b hb=>(h3.2.1 b (Q0 b hb)).trans (hS b hb)) ?_⟩) h2;rw [Array.setIfInBounds_comm _ _ Ju];exact h3.2.2
end
def Q2 (ib:Bool):Nat->D:=fun d=>if ib then .ptr d [] 0 else .ref d [] 0 none
def E8 (cs:List D) (ib:Bool) (t:T) (v:Value):Prop:=
 if ib then ∃ b ts,t=.own ts.length 1 1 (some (b,0)) ts/\cs=aX ts/\v=.pointer (some ⟨b,0,none⟩)
 else cs=[t.er]/\v=t.val/\∃ s n cap a ts,t=.own s n cap a ts
section
variable {P:Program} {c:cn} {C:Ctx} {H:List T} {w:World} {st st':St} {a:Act} {aJ:List (Array Value)} {S:List (Nat × RT)} {o:Oper} {cs:List D} {ib:Bool}
 {cl:FuncId->List D->Option (D × List D)} {ci:FuncId->List D->Nat->St->Option (D × St)} {aC:FuncId}
theorem ac2 (h:I2 c o=some (cs,ib)):eY c cl ci aC st o=st.root o.dst cs (Q2 ib):=by
 unfold I2 at h;unfold eY;split at h
 ·rename_i e ho;rw [ho];split at h
  ·rename_i i hi;simp only [mN,sF] at h;obtain ⟨rfl,rfl⟩:=h;simp only [hi];rfl
  ·simp at h
 ·rename_i t l cp ho;rw [ho];split at h
  case h_2=>simp at h
  rename_i e q1 q2 q3 fK;split at h
  case h_2=>simp at h
  rename_i ei k1 l1 k2 c1 gZ hl hc;split at h
  case isFalse=>simp at h
  rename_i hh;simp only [mN,sF] at h;obtain ⟨rfl,rfl⟩:=h;have e1:ch c st o.type (.const l)=.int k1 l1:=hl;have e2:ch c st o.type (.const cp)=.int k2 c1:=hc;simp only [fK,gZ,e1,e2,if_pos hh.1,if_pos hh.2.1,if_pos hh.2.2];rfl
 ·rename_i t n ps ho;rw [ho];split at h
  case h_2=>simp at h
  rename_i e q1 q2 q3 fK;split at h
  case h_2=>simp at h
  rename_i ei gZ;split at h
  case isFalse=>simp at h
  rename_i hh;simp only [mN,sF] at h;obtain ⟨rfl,rfl⟩:=h;obtain ⟨h1,h2⟩:=hh;have hps:ps=#[]:=af8 h2;subst hps;subst h1;simp [fK,gZ,rE,mY,fu];rfl
 ·simp at h
theorem Xq (aw:ey c P) (h:Rel C H w st aJ S) (he:I2 c o=some (cs,ib)):∃ v w' t,(execOp a.eval o).run P w=.ok (.value v) w'/\dH w w'/\Rel C (t::H) w' st aJ S/\E8 cs ib t v:=by
 have fin:∀ {obj:Obj} {t:T} {v:Value},(execOp a.eval o).run P w=.ok (.value v) (w.alloc obj)->bC (w.alloc obj) (fun _ _=>False) [t]->ah [t]=[w.heap.size]->E8 cs ib t v->∃ v w' t,(execOp a.eval o).run P w=.ok (.value v) w'/\dH w w'/\Rel C (t::H) w' st aJ S/\E8 cs ib t v:=by
  intro obj t v h1 h2 h3 h4;have hg:=Grown.alloc w obj;have h5:=Dk (Hs:=[]) (H:=H) (Os:=[t]) (bxs:=[]) (w':=w.alloc obj) h (by simp) hg.sz (fun k hk _ _=>hg.bB k hk) hg.os hg.tape hg.out (fX (fun b k hk=>hk.elim) _ h2) (by rw [h3]; simp) (by simp) (fun k hk=>by
   rw [h3,adU] at hk;subst hk;exact ⟨by rw [iz]; omega,.inr (acD _)⟩) (by simp)
  exact ⟨v,_,t,h1,hg.bB,h5.1,h4⟩
 unfold I2 at he;split at he
 ·rename_i e ho;split at he
  case h_2=>simp at he
  rename_i i hi;simp only [mN,sF] at he;obtain ⟨rfl,rfl⟩:=he;obtain ⟨inf,h1,h2,h3,z,h4,h5⟩:=(aw.ty _ _ hi).info;obtain ⟨e1,e2,e3,e4,e5⟩:=Jc h5 (fun _ _=>uQ);refine fin (obj:=.cells z.cells e) (t:=.own (leaves i.zero z.cells.toList).length 1 1 (some (w.heap.size,0)) (leaves i.zero z.cells.toList)) (v:=.pointer (some ⟨w.heap.size,0,none⟩)) ?_ ?_ ?_ ?_
  ·have eD:(Instr.alloc e true (.tuple #[])).run P w=.ok (.pointer (some ⟨w.heap.size,0,none⟩)) (w.alloc (.cells z.cells e)):=by
    simp [Instr.alloc,C5 h1 h4,newVar,newRow]
   unfold execOp;simp only [ho,Sem.run_bind,eD,Result.andThen_ok,Sem.run_pure]
  ·simp only [bC,bA,and_true];refine ⟨⟨acD _,by omega⟩,by simp,?_,?_⟩
   ·rw [Nat.one_mul];refine jy w _ _ (by rw [e4,h5.len]; simp) (fun j u hj=>?_)
    rw [e2] at hj
    simpa using hj
   ·rw [bY];intro x hx;obtain ⟨d,u,rfl,h6⟩:=e5 x hx;simp only [bA];rw [uQ h6];exact h6 _ _
  ·simp [ah,T.ft,fC,e3]
  ·unfold E8;rw [if_pos rfl];exact ⟨_,_,rfl,e1.symm,rfl⟩
 ·rename_i t l cp ho;split at he
  case h_2=>simp at he
  rename_i e q1 q2 q3 fK;split at he
  case h_2=>simp at he
  rename_i ei k1 l1 k2 c1 gZ hl hc;split at he
  case isFalse=>simp at he
  rename_i hh;simp only [mN,sF] at he;obtain ⟨rfl,rfl⟩:=he;obtain ⟨h0,Ak,hb⟩:=hh;obtain ⟨inf,h1,h2,h3,z,h4,h5⟩:=(aw.ty _ _ gZ).info;have zp:=(aw.ty _ _ gZ).len;obtain ⟨dd,g1,g2⟩:=(aw.ty _ _ fK).desc;simp only [ly] at g2;subst g2;have hcp:c1<=140737488355328:=by
   have:c1*1<=c1*ei.bytes:=Int.mul_le_mul_of_nonneg_left (by omega) (by omega)
   omega
  have hv:∀ {x:Value} {k:IntKind} {n:Int},BA c o.type x=.int k n->x=.int k n:=by
   intro x k n hx;unfold BA at hx;split at hx<;>simp at hx
   obtain ⟨rfl,rfl⟩:=hx;rfl
  have hl:=hv hl;have hc:=hv hc;subst hl;subst hc;have eD:=run_make (P:=P) w t e inf z g1 h1 h4 k1 k2 l1 c1 h0 Ak (by rw [h3,Int.mul_comm]; omega) (by omega)
  obtain ⟨ts,e1,e2,e3,e4⟩:=v7 h5 l1.toNat;have ke:z.cells.size=ei.size:=by rw [<- zp,h5.len]; simp
  have hlen:ts.length=l1.toNat*ei.size:=by
   have:=congrArg List.length e2;rw [bK] at this;simp only [agS,agV,agB,agy,ke] at this;exact this
  refine fin (obj:=.cells (madeCells z.cells (c1.toNat*inf.size)) e) (t:=.own ei.size l1.toNat c1.toNat (some (w.heap.size,0)) ts) (v:=.slice (some ⟨w.heap.size,0,none⟩) l1.toNat c1.toNat) ?_ ?_ ?_ ?_
  ·unfold execOp;simp only [ho,Act.eval,Sem.run_bind,eD,Result.andThen_ok,Sem.run_pure]
  ·simp only [bC,bA,and_true];refine ⟨by omega,hlen,?_,e4 _ _⟩
   refine jy w _ _ (by rw [size_madeCells,h2]; exact acD _) (fun j u hj=>?_)
   rw [e2] at hj;rw [h2,<- ke,MY];exact Cq _ (by omega) hj
  ·simp [ah,T.ft,fC,e3]
  ·unfold E8;rw [if_neg (by simp)]
   exact ⟨by simp [T.er,e1],rfl,_,_,_,_,_,rfl⟩
 ·rename_i t n ps ho;split at he
  case h_2=>simp at he
  rename_i e q1 q2 q3 fK;split at he
  case h_2=>simp at he
  rename_i ei gZ;split at he
  case isFalse=>simp at he
  rename_i hh;simp only [mN,sF] at he;obtain ⟨rfl,rfl⟩:=he;obtain ⟨hn,h2⟩:=hh;have hps:ps=#[]:=af8 h2;subst hps;subst hn;obtain ⟨inf,h1,h2,h3,z,h4,h5⟩:=(aw.ty _ _ gZ).info;obtain ⟨dd,g1,g2⟩:=(aw.ty _ _ fK).desc;simp only [ly] at g2;subst g2;refine fin (obj:=.cells #[] e) (t:=.own ei.size 0 0 (some (w.heap.size,0)) []) (v:=.slice (some ⟨w.heap.size,0,none⟩) 0 0) ?_ ?_ ?_ ?_
  ·have eD:(Instr.buildSlice t 0 #[]).run P w=.ok (.slice (some ⟨w.heap.size,0,none⟩) 0 0) (w.alloc (.cells #[] e)):=by
    simp [Instr.buildSlice,run_underlying g1,sizeOf,typeInfo,h1,newRow,Array.range_zero',Instr.fill]
   unfold execOp;simp only [ho];simp [eD]
  ·simp only [bC,bA,and_true];exact ⟨⟨acD _,by omega⟩,by simp,jy w _ _ (by simp) (by simp [ax])⟩
  ·simp [ah,T.ft,fC]
  ·unfold E8;rw [if_neg (by simp)]
   exact ⟨by simp [T.er,aX],rfl,_,_,_,_,_,rfl⟩
 ·simp at he
theorem aaM {t:T} {v:Value} {vs:Array Value} {d:Nat} (h:Rel C (t::H) w st (vs::aJ) S) (he:E8 cs ib t v) (ht:d < vs.size) (hP:∀ p∈C.P0,p.1≠st.of+d) (hr:st.root (some d) cs (Q2 ib)=some st'):∃ S',Rel C H w st' (vs.setIfInBounds d v::aJ) S':=by
 have dm:=h.mem.hand;simp only [bC] at dm;have eR:=(zX.1 h.mem.nd).2.1;rw [<- aeg,aY] at eR;have eR:=(zX.1 eR).1;unfold E8 at he;split at he
 ·rename_i Q3;obtain ⟨b,ts,rfl,rfl,rfl⟩:=he;have hs:=dm.1;simp only [bA] at hs;obtain ⟨_,_,k3,k4⟩:=hs;refine rO (Hs:=[T.own ts.length 1 1 (some (b,0)) ts]) (H:=H) (R:=⟨some b,ts⟩) h (Grown.refl w) (fun k hk=>.inl ?_) ?_ (fun S' cu dT=>?_) ht hP ?_ hr
  ·simpa [RT.ft,ah,T.ft,fC] using hk
  ·simpa [RT.ft,ah,T.ft,fC] using eR
  ·refine ⟨by simpa using k3,fun x hx=>?_⟩
   have h2:=dL cu x ((bY _).1 k4 x hx) (fun _ _=>rfl);cases x with
   | v d u=>exact .inl h2
   | own s n cap a cs=>exact h2
  ·intro S' X hl;rw [show Q2 ib (st.of+d)=.ptr (st.of+d) [] 0 by simp [Q2,Q3]]
   simp only [ck,gp,bp];intro R hR;rw [hl,mN] at hR;subst hR;exact ⟨fun _=>rfl,fun b' off ha=>by simp only [bN,MD,mN,sF] at ha; obtain ⟨rfl,rfl⟩:=ha; rfl⟩
 ·rename_i Q3;obtain ⟨rfl,rfl,s,n,cap,a,ts,rfl⟩:=he;refine rO (Hs:=[T.own s n cap a ts]) (H:=H) (R:=⟨none,[T.own s n cap a ts]⟩) h (Grown.refl w) (fun k hk=>.inl ?_) ?_ (fun S' cu dT=>?_) ht hP ?_ hr
  ·simpa [RT.ft] using hk
  ·simpa [RT.ft] using eR
  ·refine ⟨trivial,fun x hx=>?_⟩;simp only [adU] at hx;subst hx;exact dL cu _ dm.1 (fun _ _=>rfl)
  ·intro S' X hl;rw [show Q2 ib (st.of+d)=.ref (st.of+d) [] 0 none by simp [Q2,Q3]]
   simp only [ck,gp,bp];intro x hx;simp only [cr,hl,ay,acH,mN] at hx;subst hx;simp [eL,sn,T.er,T.val,tK]
end
structure Ea where
 idx:Nat
 tmp:Nat
 val:Value
 tree:T
def jK:List Ea->Act->Act
 | [],a=>a
 | e::E,a=>(jK E a).put (some e.tmp) e.val
def na:Array Bool->List Ea->Array Bool
 | L,[]=>L
 | L,e::E=>(na L E).setIfInBounds e.idx true
def E9 (L:Array Bool):Nat:=L.toList.countP (fun b=>!b)
theorem Ha {L:Array Bool} {i:Nat} (h:L.getD i true=false):E9 (L.setIfInBounds i true)+1=E9 L:=by
 have hi:i < L.size:=by
  rcases Nat.lt_or_ge i L.size with h1 | h1
  ·exact h1
  ·rw [adm,agr h1] at h; simp at h
 have hv:L[i]=false:=by
  rw [adm,agu hi] at h
  simpa using h
 unfold E9;rw [Array.toList_setIfInBounds];have key:∀ (l:List Bool) (i:Nat),l[i]?=some false->(l.set i true).countP (fun b=>!b)+1=l.countP (fun b=>!b):=by
  intro l
  induction l with
  | nil=>intro i h; simp at h
  | cons b l ih=>
   intro i h;cases i with
   | zero=>
    simp only [acH,mN] at h;subst h;simp
   | succ i=>
    simp only [adn] at h;have:=ih i h;simp only [ajD,List.countP_cons];omega
 exact key _ _ (by rw [agt,agu hi,hv])
theorem aaN {L:Array Bool} {i:Nat} (h:L.getD i true=false):0 < E9 L:=by have:=Ha h; omega
theorem p7 {i:Nat}:∀ (E:List Ea) (L:Array Bool),na (L.setIfInBounds i true) E=(na L E).setIfInBounds i true
 | [],L=>rfl
 | e::E,L=>by
  simp only [na,p7 E L];by_cases h:i=e.idx
  ·subst h; rfl
  ·rw [Array.setIfInBounds_comm _ _ h]
theorem NM {j:Nat} {d:Bool}:∀ (E:List Ea) (L:Array Bool),(∀ e∈E,e.idx≠j)->(na L E).getD j d=L.getD j d
 | [],L,_=>rfl
 | e::E,L,h=>by
  simp only [na];rw [getD_set_ne d (h e (by simp))]
  exact NM E L fun e' he=>h e' (by simp [he])
theorem Hb {e:Ea}:∀ (E1 E2:List Ea) (L:Array Bool),na L (E1++e::E2)=na (L.setIfInBounds e.idx true) (E1++E2)
 | [],E2,L=>(p7 E2 L).symm
 | x::E1,E2,L=>by simp only [acE,na,Hb E1 E2 L]
theorem Fa {j:Nat}:∀ (E:List Ea) (L:Array Bool),(na L E).getD j true=false->L.getD j true=false/\∀ e∈E,e.idx≠j
 | [],L,h=>⟨h,by simp⟩
 | e::E,L,h=>by
  simp only [na] at h;by_cases hj:e.idx=j
  ·exfalso;subst hj;rw [adm,agz] at h;simp only [if_true] at h;split at h<;>simp at h
  ·rw [getD_set_ne true hj] at h;obtain ⟨h1,h2⟩:=Fa E L h;refine ⟨h1,fun e' he=>?_⟩;rcases acK.1 he with rfl | he
   ·exact hj
   ·exact h2 e' he
theorem tb {x:Option Tmp} {v:Value}:∀ (E:List Ea) (a:Act),(∀ e∈E,x≠some e.tmp)->jK E (a.put x v)=(jK E a).put x v
 | [],a,_=>rfl
 | e::E,a,h=>by
  simp only [jK,tb E a fun e' he=>h e' (by simp [he])]
  exact Act.put_comm _ _ _ (fun d hd oz=>h e (by simp) (by rw [hd]; exact oz.symm))
theorem NN {e:Ea}:∀ (E1 E2:List Ea) (a:Act),(∀ x∈E1++E2,x.tmp≠e.tmp)->jK (E1++e::E2) a=jK (E1++E2) (a.put (some e.tmp) e.val)
 | [],E2,a,h=>by
  simp only [acw,jK];rw [tb E2 a fun x hx hh=>h x (by simpa using hx) (by simpa using hh.symm)]
 | x::E1,E2,a,h=>by
  simp only [acE,jK];rw [NN E1 E2 a fun y hy=>h y (by simp only [acE,acK]; exact .inr hy)]
section
variable {P:Program} {ops:Array Oper} {Q:Exit->Act->World->Prop}
theorem AA {o:Oper} (mX:∀ cs b,o.op≠.select cs b):∀ (E:List Ea) (a:Act),(∀ e∈E,e.tmp∉o.looksAt ops)->execOp (jK E a).eval o=execOp a.eval o/\Region.wanted o (yielded ops (jK E a).tmps)=Region.wanted o (yielded ops a.tmps)
 | [],a,_=>⟨rfl,rfl⟩
 | e::E,a,h=>by
  obtain ⟨h1,h2⟩:=AA mX E a fun x hx=>h x (by simp [hx])
  have h3:∀ d,some e.tmp=some d->d∉o.looksAt ops:=fun d hd=>by
   rw [mN] at hd;subst hd;exact h e (by simp)
  exact ⟨(execOp_put o mX _ (some e.tmp) e.val h3).trans h1,(wanted_put o _ (some e.tmp) e.val h3).trans h2⟩
theorem UN {j:Nat} {oj:Oper} {E:List Ea} (hj:ops[j]?=some oj) (mX:∀ cs b,oj.op≠.select cs b) (hE:∀ e∈E,e.tmp∉oj.looksAt ops/\oj.dst≠some e.tmp) (Q4:∀ c a w,¬ Q (.panic c) a w) {K K':Act->World->Prop} {a:Act} {w:World}
  (hK:∀ a' w',K a' w'->K' (jK E a') w') (h:wpOp P ops Q j K a w):wpOp P ops Q j K' (jK E a) w:=by
 obtain ⟨h1,h2⟩:=AA (ops:=ops) mX E a fun e he=>(hE e he).1;have h3:∀ (a:Act) (v:Value),jK E (a.put oj.dst v)=(jK E a).put oj.dst v:=fun a v=>tb E a fun e he=>(hE e he).2;have hd:∀ (a:Act) (d:Deferred),jK E { a with defers:=d::a.defers }={ jK E a with defers:=d::(jK E a).defers }:=by
  intro a d;clear h1 h2 hE h3 hK
  induction E with
  | nil=>rfl
  | cons e E ih=>
   simp only [jK,ih];rw [<- Act.put_defers]
 unfold wpOp at*;simp only [hj] at*;rw [h2];split at h
 ·rename_i hw;simp only [hw,if_true];rcases h with h | ⟨ae4,ae5⟩
  case inr=>exact .inr ⟨by unfold Oper.asks at*; rw [h1]; exact ae4,ae5⟩
  refine .inl ?_;unfold Oper.wp at*;rw [h1];generalize (execOp a.eval oj).run P w=r at*;cases r with
  | ok n w'=>
   cases n<;>simp only [Oper.upon] at h ⊢
   case value u=>rw [<- h3]; exact hK _ _ h
   case skip=>rw [<- h3]; exact hK _ _ h
   case defer d=>
    rw [<- hd,<- h3];exact hK _ _ h
   case enter f args=>
    refine Calls.mono h fun e w'' he=>?_;cases e with
    | returned u=>
     have h9:=hK _ _ he;rw [h3] at h9;exact h9
    | panicked c=>exact absurd he (Q4 _ _ _)
    | outgrown=>exact he
   case row row args=>exact Rows.mono h fun u w'' he=>by rw [<- h3]; exact hK _ _ he
  | halt x w'=>
   cases x<;>simp only [Oper.upon] at h ⊢
   case panic u=>exact absurd h (Q4 _ _ _)
 ·rename_i hw;rw [if_neg hw,<- h3];exact hK _ _ h
structure tc (c:cn) (ops:Array Oper) (L:Array Bool) (E:List Ea):Prop where
 ok:∀ e∈E,∃ o cs ib,ops[e.idx]?=some o/\o.guard=none/\o.dst=some e.tmp/\I2 c o=some (cs,ib)/\E8 cs ib e.tree e.val/\e.idx∈Region.ready .any ops L/\
  ∀ k ok,ops[k]?=some ok->k≠e.idx->L.getD k true=false->waits ops ops.size k e.idx=false->o.apart ops ok=true
 nd:(E.map Ea.idx).Nodup
theorem tc.nil (c:cn) (ops:Array Oper) (L:Array Bool):tc c ops L []:=⟨by simp,by simp⟩
theorem tc.set {c:cn} {L:Array Bool} {E:List Ea} (h:tc c ops L E) {i:Nat} (hi:∀ e∈E,e.idx≠i):tc c ops (L.setIfInBounds i true) E:=by
 refine ⟨fun e he=>?_,h.nd⟩;obtain ⟨o,cs,ib,h1,h2,h3,h4,h5,h6,h7⟩:=h.ok e he;refine ⟨o,cs,ib,h1,h2,h3,h4,h5,ready_mono h6 (hi e he),fun k ok hk cQ oW hw=>h7 k ok hk cQ ?_ hw⟩;by_cases hik:i=k
 ·subst hik;rw [adm,agz] at oW;simp only [if_true] at oW;split at oW<;>simp at oW
 ·rwa [getD_set_ne true hik] at oW
theorem tc.sub {c:cn} {L:Array Bool} {E1 E2:List Ea} {e:Ea} (h:tc c ops L (E1++e::E2)):tc c ops L (E1++E2):=by
 refine ⟨fun x hx=>h.ok x ?_,?_⟩
 ·simp only [sE,acK] at hx ⊢;exact hx.elim .inl (fun h=>.inr (.inr h))
 ·have:=h.nd;simp only [agG,ac6] at this ⊢;exact (adW.1 (List.perm_middle.nodup_iff.1 this)).2
theorem Fb {c:cn} {L:Array Bool} (hc:nB ops L):∀ {E:List Ea},tc c ops L E->nB ops (na L E)/\∀ j,j∈Region.ready .any ops L->(∀ e∈E,e.idx≠j)->j∈Region.ready .any ops (na L E)
 | [],_=>⟨hc,fun _ h _=>h⟩
 | e::E,h=>by
  have h0:tc c ops L E:=tc.sub (E1:=[]) h;obtain ⟨h1,h2⟩:=Fb hc h0;obtain ⟨o,cs,ib,_,_,_,_,_,h6,_⟩:=h.ok e (by simp)
  have eR:=h.nd;simp only [ac6,adW,acv,not_exists,not_and] at eR;have h7:=h2 e.idx h6 (fun x hx=>eR.1 x hx);exact ⟨qI h1 h7,fun j hj cQ=>ready_mono (h2 j hj fun x hx=>cQ x (by simp [hx])) (fun e1=>cQ e (by simp) e1.symm)⟩
end
section
variable {c:cn} {aC:FuncId} {ops:Array Oper} {bQ:Array Bool}
theorem CK {i:Nat} (h:MH c aC ops bQ i=true):∃ oi b,ops[i]?=some oi/\mZ c oi=some b/\LN c aC ops oi=true/\
  ∀ j oj,ops[j]?=some oj->j≠i->bQ.getD j true=false->waits ops ops.size j i=false->oi.apart ops oj=true/\vQ c aC oi b oj=true:=by
 unfold MH at h;cases hi:ops[i]? with
 | none=>rw [hi] at h; simp at h
 | some oi=>
  rw [hi] at h;simp only at h;cases hb:mZ c oi with
  | none=>rw [hb] at h; simp at h
  | some b=>
   rw [hb] at h;simp only [wX,ab9,agq] at h;refine ⟨oi,b,rfl,hb,h.1,fun j oj hj cQ oW hw=>?_⟩;have h1:=h.2 j (agi.1 hj).1
   simpa only [hj,aej,beq_iff_eq,cQ,false_or,oW,hw,wX,acq] using h1
theorem PM {rs:List Nat} {h0:Nat} (h:MI c ops bQ rs h0=true):∃ oh,ops[h0]?=some oh/\
  ∀ j oj,ops[j]?=some oj->j≠h0->bQ.getD j true=false->waits ops ops.size j h0=false->eaO c oj=true/\j∈rs/\oj.apart ops oh=true/\
   ∀ k ok,ops[k]?=some ok->k≠j->bQ.getD k true=false->waits ops ops.size k j=false->oj.apart ops ok=true:=by
 unfold MI at h;cases hi:ops[h0]? with
 | none=>rw [hi] at h; simp at h
 | some oh=>
  rw [hi] at h;simp only [ab9,agq] at h;refine ⟨oh,rfl,fun j oj hj cQ oW hw=>?_⟩;have h1:=h j (agi.1 hj).1;simp only [hj,aej,beq_iff_eq,cQ,false_or,oW,hw,wX,acq,List.contains_iff_mem,ab9,agq] at h1;obtain ⟨⟨⟨h2,h3⟩,h4⟩,h5⟩:=h1;refine ⟨h2,h3,h4,fun k ok hk ZN hku hkw=>?_⟩;have h6:=h5 k (agi.1 hk).1
  simpa only [hk,aej,beq_iff_eq,ZN,false_or,hku,hkw,acq,or_false] using h6
end
def Dn (c:cn) (aC:FuncId) (CG:Nat) (ops:Array Oper) (C:Ctx) (KB:Nat->Nat->Prop):Prop:=
 ∀ i o b,ops[i]?=some o->KB i b->b < C.w0.heap.size/\(b∉C.FA∨vP c o=true∨(∃ r,(CG+r,some b,[])∈C.P0/\(BC c aC o).contains r=true)∨∃ s b',(CG+s,some b',[])∈C.P0/\b≠b'/\GV c aC o=some s)
section
variable {P:Program} {c:cn} {C:Ctx} {H H':List T} {w w':World} {st st':St} {a:Act} {aJ Sc:List (Array Value)} {S S':List (Nat × RT)} {o:Oper} {aC:FuncId} {ops:Array Oper} {KB:Nat->Nat->Prop}
theorem Q5 (h:gC st.rt S) {r:Nat} (hs:(lk st.rt r).isSome=true):∃ R,lk S r=some R:=by
 rw [h] at hs;cases hl:lk S r with
 | none=>rw [hl] at hs; simp at hs
 | some R=>exact ⟨R,rfl⟩
theorem AB (h:Rel C H w st (a.tmps::aJ) S) (uT:xj o a S w w') {t:TypeId} {x:Nat} {y:Operand} (ho:o.op=.store t (.tmp x) y) {r':Nat} {q:List Nat} {j:Nat} (iF:st.get x=.ptr r' q j) (m9:live st r' q=true):
  ∃ R' b1 off,lk S r'=some R'/\bN R'.box R'.cs q=some (b1,off)/\∀ k,k≠b1->w'.heap[k]?=w.heap[k]?:=by
 have fP:mb w (af C w S H) S st.tm a.tmps:=by cases h.ov with | cons a _=>exact a
 have hu:ck w (af C w S H) S (.ptr r' q j) (a.eval (.tmp x)):=by
  have:=fP x;rw [show (lk st.tm x).getD .undef=.ptr r' q j from iF] at this;exact this
 obtain ⟨R',b',off,k1,k2,k3⟩:=rH h.rt h.mem m9 hu;have cB:∃ c e fz,w.heap[b']?=some (.cells c e fz):=by
  unfold live at m9;split at m9
  case h_2=>simp at m9
  rename_i d ds ec;obtain ⟨R2,l2,m1,m2,m3⟩:=uN st S h.rt ec;rw [k1,mN] at m1;subst m1;obtain ⟨b2,amr,fj,n1,n2,_⟩:=qp h.mem k1 m2 (by intro e; subst e; simp [aX] at m3) (fun e=>by
   subst e;simp only [bN] at k2;cases hx:R'.box with
   | none=>rw [hx] at k2; simp at k2
   | some _=>rfl)
  rw [k2,mN,sF] at n1;obtain ⟨rfl,rfl⟩:=n1;obtain ⟨c2,e2,f2,n3,_⟩:=n2;exact ⟨c2,e2,f2,n3⟩
 exact ⟨R',b',off,k1,k2,fun k hk=>uT.st t (.tmp x) y ho _ k3 cB k hk⟩
theorem aaO (h:Rel C H w st (a.tmps::aJ) S) (h':Rel C H' w' st' Sc S') (Q0:vP c o=true->dH w w') (uT:xj o a S w w') (eB:uH c aC st o=true) (td:Dn c aC st.of ops C KB) {i b:Nat} (hi:ops[i]?=some o) (hb:KB i b):w'.heap[b]?=w.heap[b]?:=by
 obtain ⟨h1,h2⟩:=td i o b hi hb;rcases h2 with h2 | h2 | ⟨r,h2,h3⟩ | ⟨s,b2,h2,cQ,h3⟩
 ·rw [h'.kept.block b h1 h2,h.kept.block b h1 h2]
 ·exact Q0 h2 b (agD h1 h.kept.size)
 ·unfold BC at h3;unfold uH at eB;split at h3
  ·rename_i t x y ho;rw [ho] at eB;simp only [wX] at eB
   replace eB:=eB.2
   split at eB
   ·rename_i hk;rw [hk] at h3;simp at h3
   rename_i l hk _;split at eB
   case h_2=>simp at eB
   rename_i r' q j iF;simp only [wX,ab9] at eB;obtain ⟨m9,dM⟩:=eB;obtain ⟨g1,g2⟩:=dM r (List.contains_iff_mem.1 h3);have g2:r'≠st.of+r:=by simpa using g2
   obtain ⟨R,hR⟩:=Q5 h.rt g1;have wI:=(h.kept.par _ _ _ h2 R hR).1;obtain ⟨R',b',off,k1,k2,k3⟩:=AB h uT ho iF m9;refine k3 b (fun e=>?_);subst e;have hm:b∈R'.ft:=by
    cases q with
    | nil=>
     simp only [bN] at k2;cases hx:R'.box with
     | none=>rw [hx] at k2; simp at k2
     | some b2=>
      rw [hx] at k2;simp only [MD,mN,sF] at k2;simp [RT.ft,hx,k2.1]
    | cons p q=>
     simp only [RT.ft,sE];exact .inr (pC k2)
   exact g2 (uU (zX.1 h.mem.nd).1 hR wI k1 hm)
  ·rename_i cc ho;split at h3
   ·rename_i d ac4 hd;simp only [ho,BC,ac4,hd,ab9] at eB;obtain ⟨R,hR⟩:=Q5 h.rt (eB r (List.contains_iff_mem.1 h3));exact uT.ap cc ho ac4 _ R b hR (h.kept.par _ _ _ h2 R hR).1
   ·simp at h3
  ·simp at h3
 ·have hb3:=h3;unfold GV at h3;split at h3
  case h_2=>simp at h3
  rename_i t x y ho;unfold uH at eB;rw [ho] at eB;simp only [hb3,wX] at eB
  replace eB:=eB.1
  split at eB
  case h_2=>simp at eB
  rename_i r' j iF;simp only [wX,beq_iff_eq] at eB;obtain ⟨rfl,m9⟩:=eB;obtain ⟨R',b',off,k1,k2,k3⟩:=AB h uT ho iF m9;have wI:=(h.kept.par _ _ _ h2 R' k1).1;refine k3 b (fun e=>cQ ?_);simp only [bN,wI,MD,mN,sF] at k2;rw [e,k2.1]
theorem Xr (h:Rel C H w st (a.tmps::aJ) S) {bb:Bool} (kC:mZ c o=some bb) {cl:FuncId->List D->Option (D × List D)} {ci:FuncId->List D->Nat->St->Option (D × St)} (aj:eY c cl ci aC st o=some st') (eB:uH c aC st o=true) (fL:LN c aC ops o=true) (td:Dn c aC st.of ops C KB):
  ∃ (P1:List (Nat × Option Nat × List Value)) (B:Nat->Prop) (CI:Nat->Nat->Prop),
   (∀ r b vs,(r,b,vs)∈P1->∀ R,lk S r=some R->R.box=b/\(b=none->ax R.cs=vs))/\
   (∀ p∈P1,p.1 < 10000/\∀ (j:Nat) (oj:Oper) (t:Nat),ops[j]?=some oj->oj.dst=some t->p.1≠st.of+t)/\
   Dn c aC st.of ops (C.at w S H P1) CI/\(∀ i b,KB i b->CI i b)/\
   (∀ (j:Nat) (oj:Oper),ops[j]?=some oj->vQ c aC o bb oj=true->∀ b,B b->CI j b)/\
   ∀ w2,(∀ b,B b->w2.heap[b]?=w.heap[b]?)->bb=true∨Rd o a w w2:=by
 have bB:∀ (P1:List (Nat × Option Nat × List Value)) i o b,ops[i]?=some o->KB i b->b < (C.at w S H P1).w0.heap.size/\(b∉(C.at w S H P1).FA∨vP c o=true∨(∃ r,(st.of+r,some b,[])∈(C.at w S H P1).P0/\(BC c aC o).contains r=true)∨∃ s b',(st.of+s,some b',[])∈(C.at w S H P1).P0/\b≠b'/\GV c aC o=some s):=by
  intro P1 i o b hi hb;obtain ⟨h1,h2⟩:=td i o b hi hb;refine ⟨agD h1 h.kept.size,?_⟩;rcases h2 with h2 | h2 | ⟨r,h2,h3⟩ | ⟨s,b2,h2,h3,h4⟩
  ·refine .inl fun hm=>?_;rcases h.kept.iD b hm with h4 | h4
   ·exact h2 h4
   ·omega
  ·exact .inr (.inl h2)
  ·exact .inr (.inr (.inl ⟨r,sE.2 (.inl h2),h3⟩))
  ·exact .inr (.inr (.inr ⟨s,b2,sE.2 (.inl h2),h3,h4⟩))
 have fP:mb w (af C w S H) S st.tm a.tmps:=by cases h.ov with | cons a _=>exact a
 have all:(∀ oj,vQ c aC o bb oj=true->bb=true∨vP c oj=true)->∃ (P1:List (Nat × Option Nat × List Value)) (B:Nat->Prop) (CI:Nat->Nat->Prop),
   (∀ r b vs,(r,b,vs)∈P1->∀ R,lk S r=some R->R.box=b/\(b=none->ax R.cs=vs))/\
   (∀ p∈P1,p.1 < 10000/\∀ (j:Nat) (oj:Oper) (t:Nat),ops[j]?=some oj->oj.dst=some t->p.1≠st.of+t)/\
   Dn c aC st.of ops (C.at w S H P1) CI/\(∀ i b,KB i b->CI i b)/\
   (∀ (j:Nat) (oj:Oper),ops[j]?=some oj->vQ c aC o bb oj=true->∀ b,B b->CI j b)/\
   ∀ w2,(∀ b,B b->w2.heap[b]?=w.heap[b]?)->bb=true∨Rd o a w w2:=by
  intro ae6;refine ⟨[],fun b=>bb=false/\b < w.heap.size,fun i b=>KB i b∨(b < w.heap.size/\∃ oj,ops[i]?=some oj/\vP c oj=true),by simp,by simp,?_,fun i b hb=>.inl hb,fun j oj hj hn b hb=>?_,fun w2 nw=>?_⟩
  ·rintro i o b hi (hb | ⟨hb,oj,hj,hk⟩)
   ·exact bB [] i o b hi hb
   ·rw [hi,mN] at hj;subst hj;exact ⟨hb,.inr (.inl hk)⟩
  ·rcases ae6 oj hn with h1 | h1
   ·rw [hb.1] at h1; simp at h1
   ·exact .inr ⟨hb.2,oj,hj,h1⟩
  ·cases bb with
   | true=>exact .inl rfl
   | false=>exact .inr (dH.rd (fun k hk=>nw k ⟨rfl,hk⟩) o a)
 by_cases hl:∃ t x n,o.op=.load t (.tmp x)/\c.base aC x=some n
 ·obtain ⟨t,x,n,ho,hn⟩:=hl;have hx:=fP x;unfold uH at eB;simp only [ho,hn] at eB;unfold LN at fL;simp only [ho,hn] at fL;unfold eY at aj;simp only [ho] at aj;split at aj
  case h_2=>simp at aj
  rename_i ti Zp;split at aj
  case h_2=>simp at aj
  rename_i d yG;cases n with
  | zero=>
   simp only at eB;split at eB
   case h_2=>simp at eB
   rename_i cs j iF;rw [show (lk st.tm x).getD .undef=.dK cs j from iF] at hx;obtain ⟨b0,off,c0,e0,fz0,us,hu,hX,_⟩:=hx;refine ⟨[],fun b=>b=b0,fun i b=>KB i b∨b=b0,by simp,by simp,?_,fun i b hb=>.inl hb,fun j oj hj Jv b hb=>.inr hb,fun w2 nw=>.inr ?_⟩
   ·rintro i o b hi (hb | rfl)
    ·exact bB [] i o b hi hb
    ·refine ⟨hX.1,.inl fun hm=>?_⟩;rcases sE.1 hm with hm | hm
     ·exact hX.2.1 hm
     ·exact hX.2.2.1 hm
   ·unfold Rd;simp only [ho];refine GY (b:=b0) (fun B hB=>?_) (nw b0 rfl);have Jw:a.tmps.getD x undef=.pointer (some B):=hB;rw [hu,Value.pointer.injEq,mN] at Jw;rw [<- Jw]
  | succ r=>
   simp only at eB fL;by_cases Da:r=999999
   ·rw [if_pos Da] at eB fL;split at eB
    case h_2=>simp at eB
    rename_i r' p q j iF;simp only [wX,ab9] at eB;obtain ⟨m9,dM⟩:=eB;rw [show (lk st.tm x).getD .undef=.ptr r' (p::q) j from iF] at hx;obtain ⟨R',b0,off,k1,k2,k3⟩:=rH h.rt h.mem m9 hx;have w7:b0∈ah R'.cs:=pC k2;have cW:b0∈cA S:=kn k1 (by simp [RT.ft,w7])
    have Xs:=(zX.1 h.mem.nd).1;have qz:∀ s∈c.nj aC x,st.of+s < 10000/\∃ bs:Nat,bs≠b0/\∀ R,lk S (st.of+s)=some R->R.box=some bs:=by
     intro s hs;have h9:=dM s hs;unfold acb at h9;split at h9
     case h_2=>simp at h9
     rename_i r2 j2 hg2;simp only [wX,beq_iff_eq,decide_eq_true_eq] at h9;obtain ⟨rfl,cK⟩:=h9;have Na:=fP s;rw [show (lk st.tm s).getD .undef=.ptr (st.of+s) [] j2 from hg2] at Na;refine ⟨cK,?_⟩;cases EV:lk S (st.of+s) with
     | none=>exact ⟨b0+1,by omega,fun R hR=>by simp at hR⟩
     | some R=>
      obtain ⟨g1,_⟩:=Na R EV;obtain ⟨bs,wa⟩:=af3.1 (g1 rfl);refine ⟨bs,fun e=>?_,fun R2 hR2=>by rw [mN] at hR2; subst hR2; exact wa⟩
      subst e;have e2:=uU Xs EV wa k1 (by simp [RT.ft,w7])
      rw [e2,EV,mN] at k1;subst k1;obtain ⟨A,B,f1,_⟩:=kv EV;rw [f1] at Xs;have Jj:=(zX.1 (zX.1 Xs).1).2.1;simp only [RT.ft,wa,Option.toList,acE,acw,adW] at Jj;exact Jj.1 w7
    have hch:∃ f:Nat->Nat,∀ s∈c.nj aC x,f s≠b0/\∀ R,lk S (st.of+s)=some R->R.box=some (f s):=by
     refine ⟨fun s=>if hs:s∈c.nj aC x then (qz s hs).2.choose else 0,fun s hs=>?_⟩
     simp only [dif_pos hs];exact (qz s hs).2.choose_spec
    obtain ⟨f,hf⟩:=hch;refine ⟨(c.nj aC x).map fun s=>(st.of+s,some (f s),[]),fun b=>b=b0,fun i b=>KB i b∨(b=b0/\∃ oj,ops[i]?=some oj/\(vP c oj=true∨∃ s∈c.nj aC x,GV c aC oj=some s)),?_,?_,?_,fun i b hb=>.inl hb,fun j oj hj Jv b hb=>.inr ⟨hb,oj,hj,?_⟩,fun w2 nw=>.inr ?_⟩
    ·intro r1 b1 vs1 hm R1 ZO;simp only [acv,sF] at hm;obtain ⟨s,hs,rfl,rfl,rfl⟩:=hm;exact ⟨(hf s hs).2 R1 ZO,by simp⟩
    ·intro p hp;simp only [acv] at hp;obtain ⟨s,hs,rfl⟩:=hp;refine ⟨(qz s hs).1,fun j oj t hj ht e=>?_⟩;have:=ab9.1 (ab9.1 fL s hs) oj (agd.2 (agp hj));have e2:s=t:=by omega
     subst e2;simp [ht] at this
    ·rintro i o b hi (hb | ⟨rfl,oj,hj,hk⟩)
     ·exact bB _ i o b hi hb
     ·rw [hi,mN] at hj;subst hj;refine ⟨h.mem.lt b (sE.2 (.inl cW)),?_⟩;rcases hk with hk | ⟨s,hs,hk⟩
      ·exact .inr (.inl hk)
      ·exact .inr (.inr (.inr ⟨s,f s,sE.2 (.inr (acv.2 ⟨s,hs,rfl⟩)),agU (hf s hs).1,hk⟩))
    ·unfold vQ at Jv;simp only [ho,hn,Da,if_true,aej] at Jv;rcases Jv with h9 | h9 | h9
     ·exfalso;simp only [mZ,ho,mN] at kC;rw [<- kC] at h9;simp at h9
     ·exact .inl h9
     ·split at h9
      ·rename_i s hs;exact .inr ⟨s,List.contains_iff_mem.1 h9,hs⟩
      ·simp at h9
    ·unfold Rd;simp only [ho];refine GY (b:=b0) (fun B hB=>?_) (nw b0 rfl);have Jw:a.tmps.getD x undef=.pointer (some B):=hB;rw [k3,Value.pointer.injEq,mN] at Jw;rw [<- Jw]
   rw [if_neg Da] at eB fL;split at eB
   case h_2=>simp at eB
   rename_i r' j iF;simp only [wX,beq_iff_eq,decide_eq_true_eq] at eB;obtain ⟨rfl,cK⟩:=eB;rw [show (lk st.tm x).getD .undef=.ptr (st.of+r) [] j from iF] at hx;have ae7:ch c st o.type (.tmp x)=.ptr (st.of+r) [] j:=iF;rw [ae7] at yG;obtain ⟨R,hR⟩:∃ R,lk S (st.of+r)=some R:=by
    simp only [qn] at yG;cases ec:st.cells (st.of+r) [] with
    | none=>rw [ec] at yG; simp at yG
    | some cs=>
     obtain ⟨R,l,g1,_⟩:=uN st S h.rt ec;exact ⟨R,g1⟩
   obtain ⟨g1,g2⟩:=hx R hR;obtain ⟨b0,Fc⟩:=af3.1 (g1 rfl);have hu:=g2 b0 0 (by simp [bN,Fc])
   have cW:b0∈cA S:=kn hR (by simp [RT.ft,Fc])
   refine ⟨[(st.of+r,some b0,[])],fun b=>b=b0,fun i b=>KB i b∨(b=b0/\∃ oj,ops[i]?=some oj/\kbO c aC r oj=true),?_,?_,?_,fun i b hb=>.inl hb,fun j oj hj Jv b hb=>.inr ⟨hb,oj,hj,?_⟩,fun w2 nw=>.inr ?_⟩
   ·intro r1 b1 vs1 hm R1 ZO;simp only [adU,sF] at hm;obtain ⟨rfl,rfl,rfl⟩:=hm;rw [hR,mN] at ZO;subst ZO;exact ⟨Fc,by simp⟩
   ·intro p hp;simp only [adU] at hp;subst hp;refine ⟨cK,fun j oj t hj ht e=>?_⟩;have:=ab9.1 fL oj (agd.2 (agp hj));have e2:r=t:=by omega
    subst e2;simp [ht] at this
   ·rintro i o b hi (hb | ⟨rfl,oj,hj,hk⟩)
    ·exact bB _ i o b hi hb
    ·rw [hi,mN] at hj;subst hj;refine ⟨h.mem.lt b (sE.2 (.inl cW)),?_⟩;simp only [kbO,aej] at hk;rcases hk with hk | hk
     ·exact .inr (.inl hk)
     ·exact .inr (.inr (.inl ⟨r,sE.2 (.inr (by simp)),hk⟩))
   ·unfold vQ at Jv;simp only [ho,hn,if_neg Da,aej] at Jv;rcases Jv with h9 | h9
    ·exfalso;simp only [mZ,ho,mN] at kC;rw [<- kC] at h9;simp at h9
    ·exact h9
   ·unfold Rd;simp only [ho];refine GY (b:=b0) (fun B hB=>?_) (nw b0 rfl);have Jw:a.tmps.getD x undef=.pointer (some B):=hB;rw [hu,Value.pointer.injEq,mN] at Jw;rw [<- Jw]
 ·refine all fun oj hn=>?_;unfold vQ at hn;simp only [aej] at hn;rcases hn with hn | hn
  ·exact .inl hn
  ·split at hn
   ·rename_i t x ho;split at hn
    ·rename_i Fc;exact absurd ⟨t,x,_,ho,Fc⟩ hl
    ·rename_i r Fc;exact absurd ⟨t,x,_,ho,Fc⟩ hl
    ·exact .inr hn
   ·exact .inr hn
end
def lF (n:Nat):Code->Bool
 | .region _ ops _=>Region.noSelect ops&&ops.toList.all fun o=>match o.dst with | some t=>decide (t < n) | none=>true
 | .seq a b=>lF n a&&lF n b
 | .cond _ a b=>lF n a&&lF n b
 | .block _ a=>lF n a
 | .loop a=>lF n a
 | _=>true
def Xt (C:Ctx) (n CG:Nat):Prop:=∀ p∈C.P0,p.1 < 10000/\∀ t,t < n->p.1≠CG+t
section
variable {P:Program} {c:cn} {C:Ctx} {Hx:List T} {aJ:List (Array Value)} {cl:FuncId->List D->Option (D × List D)} {ci:FuncId->List D->Nat->St->Option (D × St)} {aC:FuncId} {n:Nat}
theorem NO (all:Array Oper):∀ (l:List Nat) (os:List Oper) (st:St),l.map (fun i=>all[i]?)=os.map some->uI c cl ci aC all os st=iq c cl ci aC all l st
 | [],[],_,_=>rfl
 | [],_::_,_,h=>by simp at h
 | _::_,[],_,h=>by simp at h
 | i::l,o::os,st,h=>by
  simp only [ac6,acS] at h;simp only [uI,iq,h.1];split
  ·split
   ·split
    ·exact NO all l os _ h.2
    ·rfl
   ·rfl
  ·exact NO all l os _ h.2
  ·rfl
theorem yM (all:Array Oper) (st:St):uI c cl ci aC all all.toList st=iq c cl ci aC all (List.range all.size) st:=by
 refine NO all _ _ st ?_;apply agk;intro i;simp only [adp,List.getElem?_range',List.getElem?_range];by_cases h:i < all.size
 ·simp [h]
 ·simp [h]
theorem ur {w:World} {X:Bool->Nat->Prop} {S:List (Nat × RT)} {st:St} {a:Act} (h:mb w X S st.tm a.tmps) {ops:Array Oper} {o:Oper} {b:Bool} (hw:yw st ops o=some b):Region.wanted o (yielded ops a.tmps)=b:=by
 unfold yw at hw;unfold Region.wanted;split at hw
 ·rename_i hg;rw [hg];simp only [mN] at hw;exact hw
 ·rename_i j want hg;rw [hg];simp only;unfold yielded;split at hw
  ·rename_i t ht;rw [ht];have:=h t;simp only [Option.bind_some];split at hw
   ·rename_i b' hb;simp only [mN] at hw;have h1:ck w X S (.bool b') (a.tmps.getD t undef):=by
     have:st.get t=(lk st.tm t).getD .undef:=rfl;rw [<- hb,this]; exact h t
    have h2:=w6 h1;rw [adm] at h2;cases hx:a.tmps[t]? with
    | none=>rw [hx] at h2; simp [undef] at h2
    | some u=>
     rw [hx] at h2;simp only [ags] at h2;subst h2;simp [<- hw]
   ·rename_i hb;simp only [mN] at hw;have h1:ck w X S (.aG []) (a.tmps.getD t undef):=by
     have:st.get t=(lk st.tm t).getD .undef:=rfl;rw [<- hb,this]; exact h t
    obtain ⟨us,e1,e2⟩:=h1;rw [adm] at e1;cases hx:a.tmps[t]? with
    | none=>simp [<- hw]
    | some u=>
     rw [hx] at e1;simp only [ags] at e1;subst e1;simp [<- hw]
   ·simp at hw
  ·rename_i ht;simp only [mN] at hw;rw [ht];simp [<- hw]
variable (aw:ey c P) (ka:lu P c.own cl) (lR:rU P ci)
include aw ka lR
theorem BN {ops:Array Oper} (lQ:∀ o∈ops.toList,∀ t,o.dst=some t->t < n) {Q:Exit->Act->World->Prop} {st':St}:∀ (l:List Nat) {st:St} {a:Act} {w:World} {S:List (Nat × RT)},iq c cl ci aC ops l st=some st'->Rel C Hx w st (a.tmps::aJ) S->a.tmps.size=n->a.defers=[]->Xt C n st.of->
  (∀ a' w' S',Rel C Hx w' st' (a'.tmps::aJ) S'->a'.tmps.size=n->a'.defers=[]->st'.of=st.of->Q .normal a' w')->wpOps P ops Q l a w
 | [],st,a,w,S,h,hr,hn,hd,_,hQ=>by
  simp only [iq,mN] at h;subst h;exact hQ a w S hr hn hd rfl
 | i::l,st,a,w,S,h,hr,hn,hd,hP,hQ=>by
  simp only [iq] at h;simp only [wpOps];split at h
  ·rename_i ho;rw [ho];exact BN lQ l h hr hn hd hP hQ
  ·rename_i o ho;rw [ho];simp only;have cW:o∈ops.toList:=agd.2 (agp ho);have fP:mb w (af C w S Hx) S st.tm a.tmps:=by cases hr.ov with | cons a _=>exact a
   have fL:∀ t,o.dst=some t->t < a.tmps.size/\∀ p∈C.P0,p.1≠st.of+t:=fun t ht=>by
    have:=lQ o cW t ht;exact ⟨by rw [hn]; exact this,fun p hp=>(hP p hp).2 t this⟩
   split at h
   ·rename_i hw;have sT:=ur fP hw;rw [if_pos sT];split at h
    case isFalse=>simp at h
    split at h
    case h_2=>simp at h
    rename_i aP aj
    left
    refine ZL aw hr fL (fun p hp=>(hP p hp).1) ka lR aj (fun a' w' S' h1 h2 h3 h4 _ _=>?_);exact BN lQ l h h1 (h2.trans hn) (h3.trans hd) (by rw [h4]; exact hP) (fun a2 w2 S2 k1 k2 k3 k4=>hQ a2 w2 S2 k1 k2 k3 (k4.trans h4))
   ·rename_i hw;have sT:=ur fP hw;rw [if_neg (by rw [sT]; simp)]
    have h1:Rel C Hx w (st.put o.dst (.aG [])) ((a.put o.dst undef).tmps::aJ) S:=hr.yH (fun t ht=>(fL t ht).1) ⟨#[],rfl,.nil⟩;exact BN lQ l h h1 ((cH a o.dst undef).1.trans hn) ((cH a o.dst undef).2.trans hd) (by rw [iG]; exact hP) (fun a2 w2 S2 k1 k2 k3 k4=>hQ a2 w2 S2 k1 k2 k3 (k4.trans (iG _ _ _)))
   ·simp at h
omit ka lR in
theorem Jx {ops:Array Oper} {k:Nat} {st':St} {Q:Exit->Act->World->Prop} {La:Array Bool} {l':List Nat}
  (ih:∀ (La:Array Bool) {l:List Nat},sm c aC ops k La=some l->nB ops La->∀ (kc:Nat) {E:List Ea} {C:Ctx} {KB:Nat->Nat->Prop} {st:St} {a:Act} {w:World} {S:List (Nat × RT)},tc c ops La E->E9 (na La E)<=kc->iq c cl ci aC ops l st=some st'->Rel C (E.map Ea.tree++Hx) w st (a.tmps::aJ) S->a.tmps.size=n->a.defers=[]->
   (∀ p∈C.P0,p.1 < 10000/\∀ (j:Nat) (oj:Oper) (t:Nat),ops[j]?=some oj->oj.dst=some t->p.1≠st.of+t)->Dn c aC st.of ops C KB->
   (∀ a' w' S',Rel C Hx w' st' (a'.tmps::aJ) S'->a'.tmps.size=n->a'.defers=[]->st'.of=st.of->Q .normal a' w')->
   oX P ops Q KB kc (na La E) (jK E a) w)
  (mX:Region.noSelect ops=true) (lQ:∀ o∈ops.toList,∀ t,o.dst=some t->t < n) {e:Ea} (cW:e.idx∈Region.ready .any ops La) (gE:nB ops La) (pT:sm c aC ops k (La.setIfInBounds e.idx true)=some l') {kc:Nat} {E:List Ea} (p8:e∈E) {C:Ctx} {KB:Nat->Nat->Prop} {st:St} {a:Act} {w:World} {S:List (Nat × RT)} (hE:tc c ops La E) (hk:E9 (na La E)<=kc) (h:iq c cl ci aC ops (e.idx::l') st=some st') (hr:Rel C (E.map Ea.tree++Hx) w st (a.tmps::aJ) S) (hn:a.tmps.size=n) (hd:a.defers=[])
  (hP:∀ p∈C.P0,p.1 < 10000/\∀ (j:Nat) (oj:Oper) (t:Nat),ops[j]?=some oj->oj.dst=some t->p.1≠st.of+t) (td:Dn c aC st.of ops C KB)
  (hQ:∀ a' w' S',Rel C Hx w' st' (a'.tmps::aJ) S'->a'.tmps.size=n->a'.defers=[]->st'.of=st.of->Q .normal a' w'):
  oX P ops Q KB kc (na La E) (jK E a) w:=by
 have _:=aw;have _:=mX;obtain ⟨o,cs,ib,g1,g2,g3,g4,g5,g6,g7⟩:=hE.ok e p8;obtain ⟨E1,E2,rfl⟩:=List.append_of_mem p8;have eR:=hE.nd;simp only [agG,ac6] at eR;have rN:=(adW.1 (List.perm_middle.nodup_iff.1 eR)).1;have cQ:∀ x∈E1++E2,x.idx≠e.idx:=fun x hx hh=>rN (by
  rw [<- agG,<- hh];exact acv.2 ⟨x,hx,rfl⟩)
 have ahu:∀ x∈E1++E2,x.tmp≠e.tmp:=fun x hx hh=>by
  obtain ⟨ox,csx,ibx,q1,q2,q3,q4,q5,q6,q7⟩:=hE.ok x (by
   simp only [sE,acK] at hx ⊢;exact hx.elim .inl (fun h=>.inr (.inr h)))
  have NL:=g7 x.idx ox q1 (cQ x hx) (jJ q6).1 (oY gE (jJ g6).1 q6);obtain ⟨p1,p2,p3⟩:=Oper.apart_spec NL;exact p2 _ g3 (by rw [q3,hh])
 simp only [iq,g1] at h;have hw:yw st ops o=some true:=by unfold yw; rw [g2]
 rw [hw] at h;simp only at h;split at h
 case isFalse=>simp at h
 split at h
 case h_2=>simp at h
 rename_i aP aj;rw [ac2 g4,g3] at aj;have ht:e.tmp < a.tmps.size:=by
  rw [hn];exact lQ o (agd.2 (agp g1)) _ g3
 have Cz:Rel C (e.tree::((E1++E2).map Ea.tree++Hx)) w st (a.tmps::aJ) S:=Xp hr (by
  simp only [agG,ac6,acz,acE];exact List.perm_middle)
 obtain ⟨S1,hr3⟩:=aaM Cz g5 ht (fun p hp=>(hP p hp).2 _ _ _ g1 g3) aj;rw [Hb,NN E1 E2 a ahu];have pW:aP.of=st.of:=(uk aj).1;exact ih _ pT (qI gE cW) kc ((tc.sub hE).set (i:=e.idx) cQ) (by rw [Hb] at hk; exact hk) h hr3 ((cH a (some e.tmp) e.val).1.trans hn) ((cH a (some e.tmp) e.val).2.trans hd) (by rw [pW]; exact hP) (by rw [pW]; exact td) (fun a2 w2 S2 k1 k2 k3 k4=>hQ a2 w2 S2 k1 k2 k3 (k4.trans pW))
theorem aaP {ops:Array Oper} (mX:Region.noSelect ops=true) (lQ:∀ o∈ops.toList,∀ t,o.dst=some t->t < n) {Q:Exit->Act->World->Prop} (Q4:∀ c a w,¬ Q (.panic c) a w) {st':St}:∀ (k:Nat) (La:Array Bool) {l:List Nat},sm c aC ops k La=some l->nB ops La->∀ (kc:Nat) {E:List Ea} {C:Ctx} {KB:Nat->Nat->Prop} {st:St} {a:Act} {w:World} {S:List (Nat × RT)},tc c ops La E->E9 (na La E)<=kc->iq c cl ci aC ops l st=some st'->Rel C (E.map Ea.tree++Hx) w st (a.tmps::aJ) S->a.tmps.size=n->a.defers=[]->
  (∀ p∈C.P0,p.1 < 10000/\∀ (j:Nat) (oj:Oper) (t:Nat),ops[j]?=some oj->oj.dst=some t->p.1≠st.of+t)->Dn c aC st.of ops C KB->
  (∀ a' w' S',Rel C Hx w' st' (a'.tmps::aJ) S'->a'.tmps.size=n->a'.defers=[]->st'.of=st.of->Q .normal a' w')->
  oX P ops Q KB kc (na La E) (jK E a) w:=by
 intro k
 induction k with
 | zero=>
  intro La l hp gE kc E C KB st a w S hE hk h hr hn hd hP td hQ;unfold sm at hp;split at hp
  case h_2=>simp at hp
  rename_i he;simp only [mN] at hp;subst hp;simp only [iq,mN] at h;subst h;have UO:E=[]:=by
   cases E with
   | nil=>rfl
   | cons e E=>
    obtain ⟨_,_,_,_,_,_,_,_,h6,_⟩:=hE.ok e (by simp)
    rw [he] at h6;cases h6
  subst UO;have hq:=hQ a w S hr hn hd rfl;cases kc with
  | zero=>exact ⟨he,hq⟩
  | succ kc=>exact ⟨fun _=>hq,by show ∀ i∈Region.ready .any ops La,_; rw [he]; simp⟩
 | succ k Jy=>
  intro La l hp gE kc
  induction kc with
  | zero=>
   intro E C KB st a w S hE hk h hr hn hd hP td hQ;have UP:∀ j,j∈Region.ready .any ops La->∃ e∈E,e.idx=j:=by
    intro j hj;refine ajy fun cQ=>?_;have ahv:∀ e∈E,e.idx≠j:=fun e he e1=>cQ ⟨e,he,e1⟩;have h1:=aaN (L:=na La E) (i:=j) (by rw [NM E La ahv]; exact (jJ hj).1)
    omega
   unfold sm at hp;split at hp
   ·rename_i he;simp only [mN] at hp;subst hp;simp only [iq,mN] at h;subst h;have UO:E=[]:=by
     cases E with
     | nil=>rfl
     | cons e E=>
      obtain ⟨_,_,_,_,_,_,_,_,h6,_⟩:=hE.ok e (by simp)
      rw [he] at h6;cases h6
    subst UO;exact ⟨he,hQ a w S hr hn hd rfl⟩
   ·rename_i r rs he;split at hp
    ·rename_i i sr;exfalso;have cW:i∈Region.ready .any ops La:=by rw [he]; exact agv sr
     obtain ⟨oi,b,ho,kC,_,_⟩:=CK (List.find?_some sr);obtain ⟨e,p8,uO⟩:=UP i cW;obtain ⟨o,cs,ib,g1,_,_,g4,_⟩:=hE.ok e p8;rw [uO,ho,mN] at g1;subst g1;unfold I2 at g4;unfold mZ at kC;split at g4<;>simp_all
    ·split at hp
     case h_2=>simp at hp
     rename_i h0 sr;split at hp
     case h_2=>simp at hp
     rename_i l' pT;simp only [mN] at hp;subst hp;have cW:h0∈Region.ready .any ops La:=by rw [he]; exact agv sr
     obtain ⟨e,p8,uO⟩:=UP h0 cW;subst uO;exact Jx aw Jy mX lQ cW gE pT p8 hE hk h hr hn hd hP td hQ
  | succ kc ihc=>
   intro E C KB st a w S hE hk h hr hn hd hP td hQ;have NP:=Fb gE hE;have fP:mb w (af C w S (E.map Ea.tree++Hx)) S st.tm a.tmps:=by cases hr.ov with | cons a _=>exact a
   have fL:∀ {i:Nat} {o:Oper},ops[i]?=some o->∀ t,o.dst=some t->t < a.tmps.size/\∀ p∈C.P0,p.1≠st.of+t:=fun ho t ht=>by
    have:=lQ _ (agd.2 (agp ho)) t ht;exact ⟨by rw [hn]; exact this,fun p hp=>(hP p hp).2 _ _ t ho ht⟩
   have EJ:=hp;unfold sm at hp;split at hp
   ·rename_i he;simp only [mN] at hp;subst hp;simp only [iq,mN] at h;subst h;have UO:E=[]:=by
     cases E with
     | nil=>rfl
     | cons e E=>
      obtain ⟨_,_,_,_,_,_,_,_,h6,_⟩:=hE.ok e (by simp)
      rw [he] at h6;cases h6
    subst UO;exact ⟨fun _=>hQ a w S hr hn hd rfl,by show ∀ i∈Region.ready .any ops La,_; rw [he]; simp⟩
   ·rename_i r rs he;split at hp
    ·
     rename_i i sr;split at hp
     case h_2=>simp at hp
     rename_i l' pT;simp only [mN] at hp;subst hp;have cW:i∈Region.ready .any ops La:=by rw [he]; exact agv sr
     obtain ⟨o,b,ho,kC,hdo,wb⟩:=CK (List.find?_some sr);have Jz:∀ e∈E,e.idx≠i:=fun e p8 uO=>by
      obtain ⟨o',cs,ib,g1,_,_,g4,_⟩:=hE.ok e p8;rw [uO,ho,mN] at g1;subst g1;unfold I2 at g4;unfold mZ at kC;split at g4<;>simp_all
     have BO:=NP.2 i cW Jz;have UQ:=hE.set (i:=i) Jz;have NQ:=qI gE cW;have EC:E9 (na (La.setIfInBounds i true) E)<=kc:=by
      rw [p7];have:=Ha (jJ BO).1;omega
     have NR:∀ e∈E,e.tmp∉o.looksAt ops/\o.dst≠some e.tmp:=fun e p8=>by
      obtain ⟨oe,cs,ib,g1,g2,g3,g4,g5,g6,g7⟩:=hE.ok e p8;have NL:=g7 i o ho (Jz e p8).symm (jJ cW).1 (oY gE (jJ g6).1 cW);obtain ⟨p1,p2,p3⟩:=Oper.apart_spec NL;exact ⟨p1 _ g3,p2 _ g3⟩
     obtain ⟨x1,x2⟩:=AA (ops:=ops) (Region.noSelect_spec mX i o · · ho) E a fun e he=>(NR e he).1;simp only [iq,ho] at h;split at h
     ·rename_i hw;have sT:=ur fP hw;split at h
      case isFalse=>simp at h
      rename_i eB;split at h
      case h_2=>simp at h
      rename_i aP aj;obtain ⟨P1,B,KB2,t1,t2,t3,t4,t5,t6⟩:=Xr hr kC aj eB hdo td;obtain ⟨v,d,h1,h2,rfl⟩:=Nt aw hr kC aj;have gN:Rel C (E.map Ea.tree++Hx) w (st.put o.dst d) ((a.put o.dst v).tmps::aJ) S:=hr.yH (fun t ht=>(fL ho t ht).1) h2;refine CH t4 _ _ _ _ (Az (B:=B) (wr:=w) (v:=v) ho (Region.noSelect_spec mX) (fun c a w hq=>absurd hq (Q4 _ _ _)) kc _ _ w NP.1 (fun j oj hj cQ oW ow=>?_) BO (.inl ⟨x2.trans sT,fun w2 nw=>by rw [x1]; exact h1 w2 (t6 w2 nw)⟩) (fun _ _=>rfl) ?_)
      ·obtain ⟨u1,u2⟩:=Fa E La oW;obtain ⟨g1,g2⟩:=wb j oj hj cQ u1 ow;exact ⟨g1,fun b hb=>t5 j oj hj g2 b hb⟩
      ·rw [<- p7,<- tb E a fun e he=>(NR e he).2];refine Jy _ pT NQ kc UQ EC h (acZ gN t1) ((cH a o.dst v).1.trans hn) ((cH a o.dst v).2.trans hd) ?_ (by rw [iG]; exact t3) (fun a2 w2 S2 k1 k2 k3 k4=>hQ a2 w2 S2 (aaL hr.kept k1) k2 k3 (k4.trans (iG _ _ _)))
       intro p hp;rw [iG];rcases sE.1 hp with hp | hp
       ·exact hP p hp
       ·exact t2 p hp
     ·rename_i hw;have sT:=ur fP hw;have gN:Rel C (E.map Ea.tree++Hx) w (st.put o.dst (.aG [])) ((a.put o.dst undef).tmps::aJ) S:=hr.yH (fun t ht=>(fL ho t ht).1) ⟨#[],rfl,.nil⟩;refine Az (B:=fun _=>False) (wr:=w) (v:=undef) ho (Region.noSelect_spec mX) (fun c a w hq=>absurd hq (Q4 _ _ _)) kc _ _ w NP.1 (fun j oj hj cQ oW ow=>?_) BO (.inr ⟨x2.trans sT,rfl⟩) (fun _ _=>rfl) ?_
      ·obtain ⟨u1,u2⟩:=Fa E La oW;exact ⟨(wb j oj hj cQ u1 ow).1,fun b hb=>hb.elim⟩
      ·rw [<- p7,<- tb E a fun e he=>(NR e he).2];exact Jy _ pT NQ kc UQ EC h gN ((cH a o.dst undef).1.trans hn) ((cH a o.dst undef).2.trans hd) (by rw [iG]; exact hP) (by rw [iG]; exact td) (fun a2 w2 S2 k1 k2 k3 k4=>hQ a2 w2 S2 k1 k2 k3 (k4.trans (iG _ _ _)))
     ·simp at h
    ·split at hp
     case h_2=>simp at hp
     rename_i h0 sr;split at hp
     case h_2=>simp at hp
     rename_i l' pT;simp only [mN] at hp;subst hp;have cW:h0∈Region.ready .any ops La:=by rw [he]; exact agv sr
     obtain ⟨o,ho,ae8⟩:=PM (List.find?_some sr);by_cases lA:∃ e∈E,e.idx=h0
     ·obtain ⟨e,p8,uO⟩:=lA;subst uO;exact Jx aw Jy mX lQ cW gE pT p8 hE hk h hr hn hd hP td hQ
     have Jz:∀ e∈E,e.idx≠h0:=fun e p8 uO=>lA ⟨e,p8,uO⟩;have BO:=NP.2 h0 cW Jz;refine ⟨fun e=>(by rw [e] at BO; cases BO),fun i hi=>?_⟩
     have ac7:=(jJ hi).1;obtain ⟨u1,u2⟩:=Fa E La ac7;have UJ:E9 ((na La E).setIfInBounds i true)<=kc:=by have:=Ha ac7; omega
     by_cases hih:i=h0
     ·subst hih;have UQ:=hE.set (i:=i) Jz;have NQ:=qI gE cW;have NR:∀ e∈E,e.tmp∉o.looksAt ops/\o.dst≠some e.tmp:=fun e p8=>by
       obtain ⟨oe,cs,ib,g1,g2,g3,g4,g5,g6,g7⟩:=hE.ok e p8;have NL:=g7 i o ho (Jz e p8).symm (jJ cW).1 (oY gE (jJ g6).1 cW);obtain ⟨p1,p2,p3⟩:=Oper.apart_spec NL;exact ⟨p1 _ g3,p2 _ g3⟩
      simp only [iq,ho] at h;refine UN (K:=fun a' w'=>(∀ b,KB i b->w'.heap[b]?=w.heap[b]?)/\oX P ops Q KB kc (na (La.setIfInBounds i true) E) (jK E a') w') ho (Region.noSelect_spec mX i o · · ho) NR Q4 (fun a' w' h9=>by rw [<- p7]; exact h9) ?_
      unfold wpOp;rw [ho];simp only;split at h
      ·rename_i hw;have sT:=ur fP hw;rw [if_pos sT];split at h
       case isFalse=>simp at h
       rename_i eB;split at h
       case h_2=>simp at h
       rename_i aP aj
       left
       refine ZL aw hr (fL ho) (fun p hp=>(hP p hp).1) ka lR aj (fun a' w' S' h1 h2 h3 h4 h5 h6=>⟨fun b hb=>aaO hr h1 h5 h6 eB td ho hb,?_⟩);exact Jy _ pT NQ kc UQ (by rw [p7]; exact UJ) h h1 (h2.trans hn) (h3.trans hd) (by rw [h4]; exact hP) (by rw [h4]; exact td) (fun a2 w2 S2 k1 k2 k3 k4=>hQ a2 w2 S2 k1 k2 k3 (k4.trans h4))
      ·rename_i hw;have sT:=ur fP hw;rw [if_neg (by rw [sT]; simp)]
       have gN:Rel C (E.map Ea.tree++Hx) w (st.put o.dst (.aG [])) ((a.put o.dst undef).tmps::aJ) S:=hr.yH (fun t ht=>(fL ho t ht).1) ⟨#[],rfl,.nil⟩;exact ⟨fun _ _=>by first | rfl | trivial,Jy _ pT NQ kc UQ (by rw [p7]; exact UJ) h gN ((cH a o.dst undef).1.trans hn) ((cH a o.dst undef).2.trans hd) (by rw [iG]; exact hP) (by rw [iG]; exact td) (fun a2 w2 S2 k1 k2 k3 k4=>hQ a2 w2 S2 k1 k2 k3 (k4.trans (iG _ _ _)))⟩
      ·simp at h
     ·
      obtain ⟨_,oi,Ao,dM⟩:=mem_ready.1 hi;have ow:=oY NP.1 (by rw [NM E La Jz]; exact (jJ cW).1) hi
      obtain ⟨g1,g2,g3,g4⟩:=ae8 i oi Ao hih u1 ow;rw [<- he] at g2;unfold eaO at g1;simp only [wX] at g1;obtain ⟨⟨g5,g6⟩,g7⟩:=g1;obtain ⟨t,ht⟩:=af3.1 g6;obtain ⟨⟨cs,ib⟩,hea⟩:=af3.1 g7;have UR:oi.guard=none:=by simpa using g5
      obtain ⟨v,w1,tr,e1,e2,e3,e4⟩:=Xq (a:=jK E a) aw hr hea;unfold wpOp;rw [Ao];simp only;rw [if_pos (by simp [Region.wanted,UR])]
      left
      refine nu e1 ⟨fun b hb=>?_,?_⟩
      ·obtain ⟨h1,_⟩:=td i oi b Ao hb;exact e2 b (agD h1 hr.kept.size)
      ·rw [ht];have hE3:tc c ops La (⟨i,t,v,tr⟩::E):=by
        refine ⟨fun e he=>?_,?_⟩
        ·rcases acK.1 he with rfl | he
         ·exact ⟨oi,cs,ib,Ao,UR,ht,hea,e4,g2,fun k ok hk cQ oW hw=>g4 k ok hk cQ oW hw⟩
         ·exact hE.ok e he
        ·simp only [ac6,adW,acv,not_exists,not_and];exact ⟨u2,hE.nd⟩
       exact ihc (E:=⟨i,t,v,tr⟩::E) hE3 UJ h e3 hn hd hP td hQ
variable (rV:P.follows .mixedOrders=true)
 (ZP:∀ (L B:List Nat) (w:World) (st st':St) (vs:Array Value) (S:List (Nat × RT)),BE L B st=some st'->Rel C Hx w st (vs::aJ) S->(∀ p∈C.P0,p.1 < 10000)->∃ S',Rel C Hx w st' (vs::aJ) S'/\st'.of=st.of)
include rV ZP
theorem Q6 {K:Nat}:∀ (code:Code) (i:Nat) {Q:Exit->Act->World->Prop} {st st':St} {x:Exit} {a:Act} {w:World} {S:List (Nat × RT)},eT c cl ci K aC code i st=some (x,st')->Rel C Hx w st (a.tmps::aJ) S->a.tmps.size=n->a.defers=[]->lF n code=true->Xt C n st.of->
  (∀ a' w' S',Rel C Hx w' st' (a'.tmps::aJ) S'->a'.tmps.size=n->a'.defers=[]->st'.of=st.of->Q x a' w')->code.wp P Q a w:=by
 intro code
 induction code with
 | skip=>
  intro i Q st st' x a w S h hr hn hd hf hP hQ;simp only [eT,mN,sF] at h;obtain ⟨rfl,rfl⟩:=h;exact wp_skip (hQ a w S hr hn hd rfl)
 | region id ops draw=>
  intro i Q st st' x a w S h hr hn hd hf hP hQ;simp only [lF,wX] at hf;obtain ⟨mX,hf⟩:=hf;have lQ:∀ o∈ops.toList,∀ t,o.dst=some t->t < n:=fun o ho t ht=>by
   have:=ab9.1 hf o ho;rw [ht] at this
   simpa using this
  cases draw with
  | false=>
   simp only [eT] at h;split at h
   case h_2=>simp at h
   rename_i aP Sd;simp only [mN,sF] at h;obtain ⟨rfl,rfl⟩:=h;rw [yM] at Sd;exact wp_region (BN aw ka lR lQ _ Sd hr hn hd hP hQ)
  | true=>
   simp only [eT] at h;split at h
   case h_2=>simp at h
   rename_i l ae9;split at h
   case h_2=>simp at h
   rename_i aP Sd;simp only [mN,sF] at h;obtain ⟨rfl,rfl⟩:=h;have eF:Rel C Hx { w with drawn:=w.drawn+1 } st (a.tmps::aJ) S:=by
    have:=Dk (w':={ w with drawn:=w.drawn+1 }) (Hs:=[]) (H:=Hx) (Os:=[]) (bxs:=[]) hr (by simp) (acD _) (fun _ _ _ _=>rfl) rfl rfl rfl (by simp [bC]) (by simp [ah]) (by simp [ah]) (by simp [ah]) (by simp)
    exact this.1
   refine wp_mono (Q:=fun e a' w'=>e=.normal/\Q .normal a' w') (wp_region_any rV (E7 _ _ _ _ (aaP (E:=[]) (KB:=fun _ _=>False) (Q:=fun e a' w'=>e=.normal/\Q .normal a' w') aw ka lR mX lQ (fun c a w hq=>by simp at hq) ops.size _ ae9 (PL _) ops.size (tc.nil _ _ _) (agf (List.countP_le_length) (by simp [na])) Sd eF hn hd (fun p hp=>⟨(hP p hp).1,fun j oj t hj ht=>(hP p hp).2 t (lQ oj (agd.2 (agp hj)) t ht)⟩) (fun _ _ _ _ h=>h.elim) (fun a' w' S' h1 h2 h3 h4=>⟨rfl,hQ a' w' S' h1 h2 h3 h4⟩)))) ?_
   rintro e a' w' ⟨rfl,h1⟩;exact h1
 | seq p q ZQ ihq=>
  intro i Q st st' x a w S h hr hn hd hf hP hQ;simp only [lF,wX] at hf;simp only [eT] at h;split at h
  ·rename_i aP hp;refine wp_seq (ZQ i hp hr hn hd hf.1 hP (fun a' w' S' k1 k2 k3 k4=>?_));exact ihq i h k1 k2 k3 hf.2 (by rw [k4]; exact hP) (fun a2 w2 S2 m1 m2 m3 m4=>hQ a2 w2 S2 m1 m2 m3 (m4.trans k4))
  ·rename_i hx;refine wp_seq (ZQ i h hr hn hd hf.1 hP (fun a' w' S' k1 k2 k3 k4=>?_));have:=hQ a' w' S' k1 k2 k3 k4;cases x with
   | normal=>exact absurd h (hx st')
   | _=>exact this
 | cond v p q ZQ ihq=>
  intro i Q st st' x a w S h hr hn hd hf hP hQ;simp only [lF,wX] at hf;simp only [eT] at h;have fP:mb w (af C w S Hx) S st.tm a.tmps:=by cases hr.ov with | cons a _=>exact a
  split at h
  case h_2=>simp at h
  rename_i t ht;have hv:=vV (c:=c) fP 0 v;rw [ht] at hv;have hv:=w6 hv;cases t with
  | true=>exact wp_cond_true hv (ZQ i (by simpa using h) hr hn hd hf.1 hP hQ)
  | false=>exact wp_cond_false hv (ihq i (by simpa using h) hr hn hd hf.2 hP hQ)
 | block id p ih=>
  intro i Q st st' x a w S h hr hn hd hf hP hQ;simp only [eT] at h;split at h
  ·rename_i uJ aP hp;by_cases he:uJ=id
   ·rw [if_pos he] at h;simp only [mN,sF] at h;obtain ⟨rfl,rfl⟩:=h;refine wp_block (ih id hp hr hn hd hf hP (fun a' w' S' k1 k2 k3 k4=>?_));simp only [Exit.inBlock,he,if_true];exact hQ a' w' S' k1 k2 k3 k4
   ·rw [if_neg he] at h;simp only [mN,sF] at h;obtain ⟨rfl,rfl⟩:=h;refine wp_block (ih id hp hr hn hd hf hP (fun a' w' S' k1 k2 k3 k4=>?_));simp only [Exit.inBlock,he,if_false];exact hQ a' w' S' k1 k2 k3 k4
  ·rename_i hx;refine wp_block (ih id h hr hn hd hf hP (fun a' w' S' k1 k2 k3 k4=>?_));have:=hQ a' w' S' k1 k2 k3 k4;cases x with
   | exit uJ=>exact absurd h (hx uJ st')
   | _=>exact this
 | loop p ih=>
  intro i Q st st' x a w S h hr hn hd hf hP hQ;simp only [eT] at h;refine wp_loop_rounds K ?_;have key:∀ (k:Nat) {st:St} {a:Act} {w:World} {S:List (Nat × RT)},tW (match c.nm aC i with | some (L,B)=>BE L B | none=>some) (eT c cl ci K aC p i) k st=some (x,st')->Rel C Hx w st (a.tmps::aJ) S->a.tmps.size=n->a.defers=[]->Xt C n st.of->
    (∀ a' w' S',Rel C Hx w' st' (a'.tmps::aJ) S'->a'.tmps.size=n->a'.defers=[]->st'.of=st.of->Q x a' w')->Code.rounds P p Q k a w:=by
   intro k
   induction k with
   | zero=>intro st a w S h; simp [tW] at h
   | succ k Jy=>
    intro st a w S h hr hn hd hP hQ;simp only [tW] at h;split at h
    case h_2=>simp at h
    rename_i aP EW;obtain ⟨S1,ES,Di⟩:∃ S1,Rel C Hx w aP (a.tmps::aJ) S1/\aP.of=st.of:=by
     cases hc:c.nm aC i with
     | some lb=>
      obtain ⟨L,B⟩:=lb;rw [hc] at EW;exact ZP L B w st aP a.tmps S EW hr (fun p hp=>(hP p hp).1)
     | none=>
      rw [hc] at EW;simp only [mN] at EW;subst EW;exact ⟨S,hr,rfl⟩
    rw [rounds_succ];split at h
    ·rename_i cj hb;refine ih i hb ES hn hd hf (by rw [Di]; exact hP) (fun a' w' S' k1 k2 k3 k4=>?_)
     exact Jy h k1 k2 k3 (by rw [k4,Di]; exact hP) (fun a2 w2 S2 m1 m2 m3 m4=>hQ a2 w2 S2 m1 m2 m3 (m4.trans (k4.trans Di)))
    ·rename_i hx;refine ih i h ES hn hd hf (by rw [Di]; exact hP) (fun a' w' S' k1 k2 k3 k4=>?_)
     have:=hQ a' w' S' k1 k2 k3 (k4.trans Di);cases x with
     | normal=>exact absurd h (hx st')
     | _=>exact this
  exact key K h hr hn hd hP hQ
 | exit id=>
  intro i Q st st' x a w S h hr hn hd hf hP hQ;simp only [eT,mN,sF] at h;obtain ⟨rfl,rfl⟩:=h;exact wp_exit (hQ a w S hr hn hd rfl)
 | ret=>
  intro i Q st st' x a w S h hr hn hd hf hP hQ;simp only [eT,mN,sF] at h;obtain ⟨rfl,rfl⟩:=h;exact wp_ret (hQ a w S hr hn hd rfl)
 | _=>intro i Q st st' x a w S h; simp [eT] at h
end
def qJ (p:Nat->Bool):List (Nat × RT)->List (Nat × RT)
 | []=>[]
 | (k,r)::t=>if p k then (k,r)::qJ p t else qJ p t
theorem Q7 (p:Nat->Bool) (S:List (Nat × RT)) (k:Nat):lk (qJ p S) k=if p k then lk S k else none:=by
 induction S with
 | nil=>simp [qJ,lk]
 | cons e t ih=>
  obtain ⟨j,r⟩:=e;simp only [qJ];by_cases hj:j=k
  ·subst hj;by_cases hp:p j=true
   ·simp [hp,lk]
   ·simp [hp,ih]
  ·by_cases hp:p j=true
   ·simp [hp,lk,hj,ih]
   ·simp [hp,lk,hj,ih]
theorem Dp (p:Nat->Bool):∀ S:List (Nat × RT),(cA (qJ p S)).Sublist (cA S)
 | []=>adK _
 | (k,r)::t=>by
  simp only [qJ,cA];split
  ·exact af4 (adK _) (Dp p t)
  ·exact (Dp p t).trans (agM _ _)
section
variable {C:Ctx} {Hx:List T} {w:World} {aJ:List (Array Value)}
theorem Xu {H:List T} {st st':St} {S:List (Nat × RT)} {vs:Array Value} (h:Rel C H w st (vs::aJ) S) (gf:∀ k,lk st'.rt k=none∨lk st'.rt k=lk st.rt k) (fP:∀ k,lk st'.tm k=none∨lk st'.tm k=lk st.tm k) (MV:st'.up=st.up):∃ S',Rel C H w st' (vs::aJ) S':=by
 have zu:∀ r R,lk (qJ (fun k=>(lk st'.rt k).isSome) S) r=some R->lk S r=some R:=fun r R hr=>by
  rw [Q7] at hr;split at hr
  ·exact hr
  ·simp at hr
 have vZ:=Dp (fun k=>(lk st'.rt k).isSome) S;have eI:∀ k∈cA (qJ (fun k=>(lk st'.rt k).isSome) S)++ah H,k∈cA S++ah H:=fun k hk=>by
  rcases sE.1 hk with h | h
  ·exact sE.2 (.inl (vZ.mem h))
  ·exact sE.2 (.inr h)
 have hX:∀ b k,af C w S H b k->af C w (qJ (fun k=>(lk st'.rt k).isSome) S) H b k:=jH eI;have cu:jo w w (af C w S H) (af C w (qJ (fun k=>(lk st'.rt k).isSome) S) H):=fun b k hk=>⟨hX b k hk,rfl⟩;have dT:∀ d u,bp w (af C w S H) S d u->bp w (af C w (qJ (fun k=>(lk st'.rt k).isSome) S) H) (qJ (fun k=>(lk st'.rt k).isSome) S) d u:=fun d u hd=>sQ cu zu hd;refine ⟨qJ (fun k=>(lk st'.rt k).isSome) S,⟨fun k=>?_,⟨?_,fun r R hr=>?_,fX hX _ h.mem.hand,fun k hk=>h.mem.lt k (eI k hk)⟩,?_,⟨h.kept.os,h.kept.tape,h.kept.output,h.kept.size,h.kept.block,fun k hk=>h.kept.iD k (eI k hk),fun r b vs hm R hR=>h.kept.par r b vs hm R (zu r R hR)⟩⟩⟩
 ·rw [Q7];rcases gf k with h1 | h1
  ·simp [h1]
  ·have h2:=h.rt k;rw [<- h1] at h2;cases h3:lk st'.rt k with
   | none=>simp
   | some cs=>rw [h3] at h2; simp only [Option.isSome_some,if_true]; exact h2
 ·exact ajC (af4 vZ (adK _)) h.mem.nd
 ·obtain ⟨k1,k2⟩:=h.mem.root r R (zu r R hr);refine ⟨k1,fun t ht=>?_⟩;have:=k2 t ht;cases t with
  | v d u=>
   rcases this with this | ⟨hb,this⟩
   ·exact .inl (um hX _ _ this)
   ·exact .inr ⟨hb,dT _ _ this⟩
  | own s n cap a xs=>exact dL cu _ this (fun _ _=>rfl)
 ·cases h.ov with
  | cons h1 h2=>
   rw [MV];refine .cons (fun t=>?_) (h2.mono (fun _ _ hh=>wH dT hh));rcases fP t with h3 | h3
   ·rw [h3]; exact mc _
   ·rw [h3]; exact pS dT (h1 t)
theorem u4 {α:Type} (l:List (Nat × α)):∀ (ts:List Nat) (k:Nat),lk (tV l ts) k=none∨lk (tV l ts) k=lk l k
 | [],k=>.inl rfl
 | t::ts,k=>by
  simp only [tV];split
  ·rename_i v hv;simp only [lk];by_cases h:t=k
   ·subst h; simp [hv]
   ·simp only [h,if_false]; exact u4 l ts k
  ·exact u4 l ts k
theorem Dq {α:Type} (n:Nat) (k:Nat):∀ l:List (Nat × α),lk (below n l) k=none∨lk (below n l) k=lk l k
 | []=>.inl rfl
 | (j,v)::t=>by
  simp only [below];by_cases hj:j=k
  ·subst hj;split
   ·rename_i hc
    left
    have:∀ l:List (Nat × α),lk (below n l) j=none:=by
     intro l
     induction l with
     | nil=>rfl
     | cons e l ih=>
      obtain ⟨i,u⟩:=e;simp only [below];split
      ·exact ih
      ·rename_i hi;simp only [lk];split
       ·rename_i he; subst he; exact absurd hc hi
       ·exact ih
    exact this t
   ·right; simp [lk]
  ·split
   ·rcases Dq n k t with h | h
    ·exact .inl h
    ·right; rw [h]; simp [lk,hj]
   ·simp only [lk,hj,if_false];exact Dq n k t
theorem US {α:Type} (a b:List (Nat × α)) (k:Nat):lk (a++b) k=match lk a k with | some v=>some v | none=>lk b k:=by
 induction a with
 | nil=>rfl
 | cons e t ih=>
  obtain ⟨j,v⟩:=e;simp only [acE,lk];split
  ·rfl
  ·exact ih
theorem UT {st st':St} {r':Nat} {q':List Nat} {o':Nat} {d:D} (h:st.gI r' q' o' d=some st') (r o:Nat):st'.cell r [] o=st.cell r [] o∨st'.cell r [] o=some d∨∃ s n xs,st.cell r [] o=some (.sl none s n xs):=by
 unfold St.gI at h;split at h
 case h_2=>simp at h
 rename_i cs ec;split at h
 case h_2=>simp at h
 rename_i cs' hm;simp only [mN] at h;subst h;by_cases hr:r=r'
 ·subst hr;simp only [St.cell,St.cells,gK,ec,jF];cases q' with
  | nil=>
   simp only [n9,mN] at hm;subst hm;by_cases ho:o'=o
   ·subst ho;by_cases hl:o' < cs.length
    ·right; left; rw [ac5 hl]
    ·left; rw [ac3 (by simpa using hl),ac3 (by simpa using hl)]
   ·left; rw [acu ho]
  | cons p q=>
   simp only [n9] at hm;split at hm
   ·rename_i s n xs hp;split at hm
    case h_2=>simp at hm
    simp only [mN] at hm;subst hm;by_cases ho:p=o
    ·subst ho; right; right; exact ⟨s,n,xs,hp⟩
    ·left; rw [acu ho]
   ·simp at hm
 ·left; simp only [St.cell,St.cells,pB _ _ hr]
theorem Xv {st st':St} {d d':D} (h:iS st d=some (d',st')) (r o:Nat):st'.cell r [] o=st.cell r [] o∨(∃ s n,st'.cell r [] o=some (.hole s n))∨∃ s n xs,st.cell r [] o=some (.sl none s n xs):=by
 unfold iS at h;split at h<;>try (simp only [mN,sF] at h; obtain ⟨_,rfl⟩:=h; exact .inl rfl)
 ·split at h
  ·split at h
   ·rename_i aP hs;simp only [mN,sF] at h;obtain ⟨_,rfl⟩:=h;rcases UT hs r o with h1 | h1 | h1
    ·exact .inl h1
    ·exact .inr (.inl ⟨_,_,h1⟩)
    ·exact .inr (.inr h1)
   ·simp at h
  ·simp only [mN,sF] at h; obtain ⟨_,rfl⟩:=h; exact .inl rfl
  ·simp at h
 ·simp at h
theorem uc (B:List Nat):∀ (k o:Nat) {st st':St} {S:List (Nat × RT)} {r:Nat},rG B st r o k=some st'->Rel C Hx w st aJ S->∃ S',Rel C Hx w st' aJ S'/\st'.of=st.of
 | 0,o,st,st',S,r,h,hr=>by
  simp only [rG,mN] at h;subst h;exact ⟨S,hr,rfl⟩
 | k+1,o,st,st',S,r,h,hr=>by
  simp only [rG] at h;split at h
  ·rename_i r' q' o' x hc;split at h
   ·exact uc B k (o+1) h hr
   ·split at h
    case h_2=>simp at h
    rename_i d' aP dA;split at h
    case h_2=>simp at h
    rename_i cj iv;obtain ⟨R,l,t0,g1,g2,g3,g4,g5⟩:=iu hr.rt hc;simp only [ay,mN] at g2;subst g2;obtain ⟨d0,u0,rfl⟩:∃ d0 u0,t0=.v d0 u0:=by
     cases t0 with
     | v d0 u0=>exact ⟨d0,u0,rfl⟩
     | own s n cap a cs=>simp [T.er] at g5
    simp only [T.er] at g5;have cB:=(hr.mem.root r R g1).2 _ (aci g3);have dT:bp w (af C w S Hx) S (.ref r' q' o' x) u0:=by
     rcases cB with h1 | ⟨_,h1⟩
     ·rw [<- g5] at h1; simp [Ext] at h1
     ·rw [g5]; exact h1
    obtain ⟨t,S1,a1,a2,a3,a4,a5,a6,a7⟩:=ui hr dT dA;obtain ⟨dh,uh,b1,b2,b3,b4⟩:=a7 r' q' o' x rfl;obtain ⟨R1,c1,c2,c3⟩:=a5.fwd r R g1;have hlen:R1.cs.length=R.cs.length:=by have:=congrArg List.length c3; simpa [bK] using this
    obtain ⟨t1,e1⟩:∃ t1,R1.cs[o]?=some t1:=by
     have:=(aaa.1 g3).1;exact ⟨_,ace (by omega)⟩
    have e2:t1.val=u0:=by
     have h1:(ax R1.cs)[o]?=(ax R.cs)[o]?:=by rw [c3]
     rw [fh,fh,e1,g3] at h1
     simpa [T.val] using h1
    have e3:cr S1 r [] o=some t1:=by simp [cr,c1,ay,e1]
    have afa:aP.cell r [] o=some t1.er:=by rw [GX aP S1 a1.rt,e3]; rfl
    have e4:∃ d1 u1,t1=.v d1 u1:=by
     cases t1 with
     | v d1 u1=>exact ⟨d1,u1,rfl⟩
     | own s n cap a cs=>
      exfalso;have:=Xv dA r o;rw [afa,hc] at this;rcases this with h1 | ⟨s',n',h1⟩ | ⟨s',n',xs,h1⟩<;>simp [T.er] at h1
    obtain ⟨d1,u1,rfl⟩:=e4;simp only [T.val] at e2;subst e2;have C3:r'≠r∨under ([]++[o]) (q'++[o'])=none:=by
     by_cases hrr:r'=r
     ·right
      subst hrr;cases hu:under ([]++[o]) (q'++[o']) with
      | none=>rfl
      | some y=>
       exfalso;have hp:=jn hu;simp only [acw] at hp;obtain ⟨R2,l2,f1,f2,f3⟩:=Dl b3;rw [c1,mN] at f1;subst f1;cases q' with
       | nil=>
        simp only [acw,aeg,acS] at hp;obtain ⟨rfl,_⟩:=hp;simp only [iS,hc] at dA;simp at dA
       | cons p q''=>
        simp only [acE,aeg,acS] at hp;obtain ⟨rfl,_⟩:=hp;simp [ay,e1] at f2
     ·exact .inl hrr
    obtain ⟨S2,k1,k2,k3,k4,k5,k6⟩:=Nu (t0:=.v d1 u1) (ex:=true) (H:=Hx) a1 e3 ⟨d1,u1,rfl,by simp⟩ (.inr ⟨rfl,by rw [a3]; rfl⟩) (by rw [a2]; exact iv)
    have yF:=k6 r' q' o' dh uh b1 b2 b3 C3;have hm:∃ S3,Rel C Hx w (cj.sj (.ref r' q' o' x) r [] o) aJ S3:=by
     cases x with
     | none=>
      exact ⟨_,(M9 k1 yF k5 (b4 rfl)).1⟩
     | some x=>exact ⟨_,(G5 k1 r' q' o' true).1⟩
    obtain ⟨S3,m1⟩:=hm;obtain ⟨S4,n1,n2⟩:=uc B k (o+1) h m1;exact ⟨S4,n1,n2.trans ((show (cj.sj (.ref r' q' o' x) r [] o).of=cj.of from rfl).trans (k3.trans a6.2.2))⟩
  ·exact uc B k (o+1) h hr
theorem Dr {f:St->Nat->Option St} {Q:Nat->Prop} (hf:∀ {st st':St} {S:List (Nat × RT)} {t:Nat},Q t->f st t=some st'->Rel C Hx w st aJ S->∃ S',Rel C Hx w st' aJ S'/\st'.of=st.of):∀ {ts:List Nat} {st st':St} {S:List (Nat × RT)},(∀ t∈ts,Q t)->BD f st ts=some st'->Rel C Hx w st aJ S->∃ S',Rel C Hx w st' aJ S'/\st'.of=st.of
 | [],st,st',S,_,h,hr=>by
  simp only [BD,mN] at h;subst h;exact ⟨S,hr,rfl⟩
 | t::ts,st,st',S,hq,h,hr=>by
  simp only [BD] at h;split at h
  case h_2=>simp at h
  rename_i aP h1;obtain ⟨S1,a1,a2⟩:=hf (hq t (by simp)) h1 hr
  obtain ⟨S2,b1,b2⟩:=Dr hf (fun x hx=>hq x (by simp [hx])) h a1
  exact ⟨S2,b1,b2.trans a2⟩
theorem Hc {α:Type} (f:α->α) (k:Nat) (v:α):∀ l:List (Nat × α),gd f (pz l k v)=pz (gd f l) k (f v)
 | []=>rfl
 | (j,u)::t=>by
  simp only [pz,gd];split
  ·simp only [gd,Hc f k v t]
  ·split<;>rfl
end
section
variable {C:Ctx} {Hx:List T} {w:World} {vs:Array Value} {aJ:List (Array Value)}
theorem Xw {B:List Nat} {st st':St} {S:List (Nat × RT)} {t:Nat} (hP:∀ p∈C.P0,p.1 < 10000) (h:RF B st t=some st') (hr:Rel C Hx w st (vs::aJ) S):∃ S',Rel C Hx w st' (vs::aJ) S'/\st'.of=st.of:=by
 unfold RF at h;split at h
 case h_2=>
  simp only [mN] at h;subst h;exact ⟨S,hr,rfl⟩
 rename_i r o x iF;split at h
 ·simp only [mN] at h;subst h;exact ⟨S,hr,rfl⟩
 rename_i cQ;rw [not_or] at cQ;split at h
 case h_2=>simp at h
 rename_i d' aP dA;simp only [mN] at h;have fP:mb w (af C w S Hx) S st.tm vs:=by cases hr.ov with | cons a _=>exact a
 have hv:bp w (af C w S Hx) S (.ref r [] o x) (vs.getD t undef):=by
  have h1:=fP t;have h2:(lk st.tm t).getD .undef=.ref r [] o x:=iF;rw [h2] at h1;exact h1
 obtain ⟨t1,S1,a1,a2,a3,a4,a5,a6,a7⟩:=ui hr hv dA;obtain ⟨dh,uh,b1,b2,b3,b4⟩:=a7 r [] o x rfl;have eR:=a1.mem.nd;have eG:∀ k∈(RT.mk none [t1]).ft,k∈ah [t1]∨w.heap.size<=k:=fun k hk=>.inl (by simpa [RT.ft] using hk)
 have cu:=og (r:=10000+st.of+t) (R:=⟨none,[t1]⟩) (Hs:=[t1]) (H:=Hx) a1 eG (acD _) (fun _ _=>rfl);obtain ⟨c1,c2⟩:=yC (r:=10000+st.of+t) (R:=⟨none,[t1]⟩) (Hs:=[t1]) (H:=Hx) a1 ⟨trivial,fun y hy=>by
   have h1:=(bY _).1 a1.mem.hand y (by
    simp only [adU] at hy;subst hy;simp)
   have h1:=dL cu y h1 (fun _ _=>rfl);cases y with
   | v d u=>exact .inl h1
   | own s n cap a cs=>exact h1⟩
  ⟨by
   simp only [RT.ft,Option.toList,acw];have h9:=(zX.1 eR).2.1;rw [<- aeg,aY] at h9;exact (zX.1 h9).1,eG⟩ (fun k hk=>a1.mem.lt k (by
   simp only [RT.ft,Option.toList,acw] at hk;exact sE.2 (.inr (by rw [<- aeg,aY]; exact sE.2 (.inl hk))))) (acD _) (fun _ _=>rfl) rfl rfl rfl (fun p hp=>by have:=hP p hp; omega)
 have zu:lk (pt (fS (cw (10000+st.of+t)) S1) (10000+st.of+t) ⟨none,[t1]⟩) (10000+st.of+t)=some ⟨none,[t1]⟩:=cx _ _ _;have G4:cr (pt (fS (cw (10000+st.of+t)) S1) (10000+st.of+t) ⟨none,[t1]⟩) (10000+st.of+t) [] 0=some t1:=by simp [cr,zu,ay]
 have hg:=qw (10000+st.of+t);have yF:cr (pt (fS (cw (10000+st.of+t)) S1) (10000+st.of+t) ⟨none,[t1]⟩) r [] o=some (.v dh uh):=by
  have h1:=BH (g:=cw (10000+st.of+t)) b3;simp only [if_true,fT,b2] at h1;have h2:fg (cw (10000+st.of+t)) dh=dh:=by
   cases dh<;>first | (simp [sn] at b1; done) | simp [fg,hg.hole,hg.sl]
  rw [h2] at h1;rw [<- h1];simp only [cr,dE _ _ cQ.1]
 have gx:gr t1.er=true:=by rw [a2]; exact Uh dA
 have afb:∀ f:D->D,lr f->List.map (fg f) [d']=[d']:=fun f hf=>by
  rw [a2] at gx;cases d' with
  | sl g s n cs=>simp [fg,hf.sl]
  | _=>simp [gr] at gx
 have As:aX [t1]=[d']:=by simp [aX,a2]
 have ahw:aX (RT.mk none [t1]).cs=[d']:=As;rw [ahw] at c1;have wJ:t1.val=vs.getD t undef:=a3;have fin:∀ (f:D->D) (S3:List (Nat × RT)),lr f->Rel C Hx w (St.eX f { aP.eX (cw (10000+st.of+t)) with rt:=pz (aP.eX (cw (10000+st.of+t))).rt (10000+st.of+t) [d'] }) (vs::aJ) S3->
   (∃ y,cr S3 (10000+st.of+t) [] 0=some y/\y.val=vs.getD t undef/\(sn y.er).isSome=true)->st'={ (aP.eX (cw (10000+st.of+t))).eX f with tm:=pz ((aP.eX (cw (10000+st.of+t))).eX f).tm t (.ref (10000+st.of+t) [] 0 none),rt:=pz ((aP.eX (cw (10000+st.of+t))).eX f).rt (10000+st.of+t) [d'] }->∃ S',Rel C Hx w st' (vs::aJ) S'/\st'.of=st.of:=by
  intro f S3 hf gN ⟨y,hy,hyv,hys⟩ ahx;subst ahx;refine ⟨S3,?_,a6.2.2⟩;obtain ⟨m1,m2,m3,m4⟩:=gN;refine ⟨?_,m2,?_,m4⟩
  ·have h1:gC (gd (List.map (fg f)) (pz (aP.eX (cw (10000+st.of+t))).rt (10000+st.of+t) [d'])) S3:=m1;rw [Hc,afb f hf] at h1;exact h1
  ·cases m3 with
   | cons h1 h2=>
    refine .cons (fun i=>?_) h2;show ck w (af C w S3 Hx) S3 ((lk (pz (gd (oR f) (gd (oR (cw (10000+st.of+t))) aP.tm)) t (.ref (10000+st.of+t) [] 0 none)) i).getD .undef) (vs.getD i undef);by_cases hi:i=t
    ·subst hi;rw [gK];simp only [ags];intro z hz;rw [hy,mN] at hz;subst hz;obtain ⟨sn',M6⟩:=af3.1 hys;simp only [eL,M6];exact hyv.symm
    ·rw [pB _ _ hi]; exact h1 i
 have ams:(sn t1.er).isSome=true:=by cases h:t1.er<;>first | rfl | (rw [h] at gx; simp [gr] at gx)
 have jr:∀ f:D->D,lr f->∃ y,cr (fS f (pt (fS (cw (10000+st.of+t)) S1) (10000+st.of+t) ⟨none,[t1]⟩)) (10000+st.of+t) [] 0=some y/\y.val=vs.getD t undef/\(sn y.er).isSome=true:=fun f hf=>by
  refine ⟨fT f t1,?_,?_,?_⟩
  ·have:=BH (g:=f) G4
   simpa using this
  ·rw [<- wJ]; cases t1<;>rfl
  ·rw [LR hf];cases h:t1.er with
   | sl g s n cs=>simp [fg,hf.sl,sn]
   | _=>rw [h] at gx; simp [gr] at gx
 cases x with
 | none=>
  have hm:=(M9 c1 yF G4 (b4 rfl)).1;exact fin _ _ (Ah _ _ _ _ _ _) hm (jr _ (Ah _ _ _ _ _ _)) h.symm
 | some x=>
  have hm:=(G5 c1 r [] o true).1;exact fin _ _ (mr _ _ _ _) hm (jr _ (mr _ _ _ _)) h.symm
theorem Q8 {L B:List Nat} {st st':St} {S:List (Nat × RT)} (h:BE L B st=some st') (hr:Rel C Hx w st (vs::aJ) S) (hP:∀ p∈C.P0,p.1 < 10000):∃ S',Rel C Hx w st' (vs::aJ) S'/\st'.of=st.of:=by
 unfold BE at h;simp only at h;split at h
 case h_2=>simp at h
 rename_i aP h1;split at h
 case h_2=>simp at h
 rename_i cj h2;simp only [mN] at h;obtain ⟨S1,a1,a2⟩:=Dr (Q:=fun _=>True) (fun {st st' S t} _ hf hr=>by
  unfold I3 at hf;split at hf
  ·exact uc _ _ _ hf hr
  ·simp only [mN] at hf;subst hf;exact ⟨S,hr,rfl⟩) (fun _ _=>trivial) h1 hr
 obtain ⟨S2,b1,b2⟩:=Dr (Q:=fun _=>True) (fun _ hf hr=>Xw hP hf hr) (fun _ _=>trivial) h2 a1;subst h;obtain ⟨S3,c1⟩:=Xu (st':={ cj with tm:=tV cj.tm L,rt:=below st.of cj.rt++tV cj.rt ((B++L.map (10000+·)).map (st.of+·)) }) b1 (fun k=>by
   rw [US];rcases Dq st.of k cj.rt with h1 | h1
   ·rw [h1]; exact u4 _ _ _
   ·cases h3:lk (below st.of cj.rt) k with
    | none=>exact u4 _ _ _
    | some v=>right; rw [<- h1,h3]) (fun k=>u4 _ _ _) rfl
 exact ⟨S3,c1,b2.trans a2⟩
end
def Dt (tmps:Array Value) (r:ResultVar):Sem Value:=
 match r with
 | .tmp t=>pure (tmps.getD t undef)
 | .cell a t=>do loadVar t (<- asAddr (tmps.getD a undef))
section
variable {P:Program} {c:cn} (aw:ey c P) {C:Ctx} {Hx:List T} {w:World} {S:List (Nat × RT)} {st:St} {aJ:List (Array Value)} {tmps:Array Value}
include aw
theorem Hd (h:Rel C Hx w st (tmps::aJ) S):∀ {rs:List ResultVar} {ds:List D},wG c st rs=some ds->
  ∃ vs:List Value,(rs.mapM (Dt tmps)).run P w=.ok vs w/\bZ (ck w (af C w S Hx) S) ds vs
 | [],ds,hr=>by
  simp only [wG,mN] at hr;subst hr;exact ⟨[],by simp,.nil⟩
 | .tmp t::rs,ds,hr=>by
  simp only [wG] at hr;split at hr
  case h_2=>simp at hr
  rename_i ds' Nr;simp only [mN] at hr;subst hr;obtain ⟨vs,h1,h2⟩:=Hd h Nr;have fP:mb w (af C w S Hx) S st.tm tmps:=by cases h.ov with | cons a _=>exact a
  exact ⟨tmps.getD t undef::vs,by simp only [List.mapM_cons,Sem.run_bind,Dt,Sem.run_pure,Result.andThen_ok]; rw [show (List.mapM (Dt tmps) rs).run P w=.ok vs w from h1]; rfl,.cons (fP t) h2⟩
 | .cell a t::rs,ds,hr=>by
  simp only [wG] at hr;split at hr
  case h_2=>simp at hr
  rename_i i hi;split at hr
  case h_2=>simp at hr
  rename_i d hl;split at hr
  case h_2=>simp at hr
  rename_i ds' Nr;simp only [mN] at hr;subst hr;obtain ⟨vs,h1,h2⟩:=Hd h Nr;have fP:mb w (af C w S Hx) S st.tm tmps:=by cases h.ov with | cons a _=>exact a
  obtain ⟨v,h3,h4⟩:=GZ aw h.rt h.mem hi (fP a) hl
  replace h3:=h3 w (Aa.refl _ w)
  refine ⟨v::vs,?_,.cons h4 h2⟩;have h5:(do loadVar t (<- asAddr (tmps.getD a undef)):Sem Value).run P w=.ok v w:=by
   unfold Instr.loadAt Instr.sureAddr at h3;split at h3
   ·rename_i A hA;rw [hA]
    simpa [asAddr] using h3
   ·simp at h3
  have h6:(Dt tmps (.cell a t)).run P w=.ok v w:=h5;simp only [List.mapM_cons,Sem.run_bind,h6,Result.andThen_ok,Sem.run_pure];rw [show (List.mapM (Dt tmps) rs).run P w=.ok vs w from h1]; rfl
def u5:List Value->Value
 | [v]=>v
 | vs=>.tuple vs.toArray
theorem Fe (h:Rel C Hx w st (tmps::aJ) S) {fn:Func} {ds:List D} (hr:wG c st fn.results.toList=some ds):
  ∃ vs:List Value,(results fn tmps).run P w=.ok (u5 vs) w/\bZ (ck w (af C w S Hx) S) ds vs:=by
 obtain ⟨vs,h1,h2⟩:=Hd aw h hr;refine ⟨vs,?_,h2⟩;unfold results;rw [Array.mapM_eq_mapM_toList];have ahy:(fun x:ResultVar=>(match x with | .tmp t=>pure (tmps.getD t undef) | .cell a t=>do loadVar t (<- asAddr (tmps.getD a undef)):Sem Value))=Dt tmps:=by funext r; cases r<;>rfl
 have h3:(do let vs <- (List.toArray <$>List.mapM (Dt tmps) fn.results.toList:Sem (Array Value)); pure (if h:vs.size=1 then vs[0] else .tuple vs):Sem Value).run P w=.ok (u5 vs) w:=by
  simp only [Sem.run_bind,Sem.run_map,h1,Result.andThen_ok,Sem.run_pure]
  match vs with
  | []=>rfl
  | [v]=>rfl
  | v1::v2::vs=>simp [u5]
 rw [<- ahy] at h3;exact h3
end
def lS (n:Nat):Nat->List D->List Arg->List (Nat × RT)
 | _,[],_=>[]
 | _,_::_,[]=>[]
 | i,d::ds,a::as9=>if eQ d then (n+i,⟨a.1,a.2⟩)::lS n (i+1) ds as9 else lS n (i+1) ds as9
def rW (n:Nat):Nat->List D->List Arg->List (Nat × Option Nat × List Value)
 | _,[],_=>[]
 | _,_::_,[]=>[]
 | i,d::ds,a::as9=>if eQ d then (n+i,a.1,ax a.2)::rW n (i+1) ds as9 else rW n (i+1) ds as9
def wg (n i:Nat) (d:D):D:=
 match d with
 | .aW _=>.ptr (n+i) [] 0
 | d=>if (dc d).any iR then Bz (n+i) d else d
theorem yN (n i:Nat) (d:D) (ds:List D) (st:St):np n i (d::ds) st=np n (i+1) ds { st with tm:=pz st.tm i (wg n i d),rt:=if eQ d then pz st.rt (n+i) (bX d) else st.rt }:=by
 simp only [np]
 congr 1
 cases d with
 | aW cs=>rfl
 | _=>
  simp only [wg,eQ,bX];split<;>simp_all
theorem Du:∀ (n:Nat) (ds:List D) (i:Nat) (st:St),(np n i ds st).up=st.up/\(np n i ds st).of=st.of
 | n,[],i,st=>⟨rfl,rfl⟩
 | n,d::ds,i,st=>by rw [yN]; exact Du n ds (i+1) _
theorem NS:∀ (n:Nat) (ds:List D) (i:Nat) (st:St) (t:Nat),lk (np n i ds st).tm t=if i<=t/\t < i+ds.length then (ds[t - i]?).map (wg n t) else lk st.tm t
 | n,[],i,st,t=>by
  have:¬ (i<=t/\t < i+([]:List D).length):=by simp only [aei]; omega
  rw [if_neg this]; rfl
 | n,d::ds,i,st,t=>by
  rw [yN,NS n ds (i+1)];simp only [adj];by_cases h1:i+1<=t/\t < i+1+ds.length
  ·rw [if_pos h1,if_pos (by omega)]
   have:t - i=(t - (i+1))+1:=by omega
   rw [this,adn]
  ·rw [if_neg h1];by_cases h2:t=i
   ·subst h2;rw [if_pos (by omega),gK]
    simp
   ·rw [if_neg (by omega),pB _ _ h2]
theorem He:∀ (n:Nat) (ds:List D) (as9:List Arg) (i k:Nat),k < n+i->lk (lS n i ds as9) k=none
 | n,[],_,i,k,_=>rfl
 | n,_::_,[],i,k,_=>rfl
 | n,d::ds,a::as9,i,k,h=>by
  simp only [lS];split
  ·simp only [lk];rw [if_neg (by omega)]
   exact He n ds as9 (i+1) k (by omega)
  ·exact He n ds as9 (i+1) k (by omega)
theorem NT:∀ (n:Nat) (ds:List D) (as9:List Arg) (i:Nat) (st:St) (k:Nat),as9.length=ds.length->(∀ (j:Nat) (d:D) (a:Arg),ds[j]?=some d->as9[j]?=some a->eQ d=true->bX d=aX a.2)->
  lk (np n i ds st).rt k=match lk (lS n i ds as9) k with | some R=>some (aX R.cs) | none=>lk st.rt k
 | n,[],_,i,st,k,_,_=>rfl
 | n,d::ds,[],i,st,k,h,_=>by simp at h
 | n,d::ds,a::as9,i,st,k,hl,h=>by
  rw [yN,NT n ds as9 (i+1) _ k (by simpa using hl) (fun j d a hd ha=>h (j+1) d a (by simpa using hd) (by simpa using ha))]
  simp only [lS];by_cases hr:eQ d=true
  ·rw [if_pos hr,if_pos hr];simp only [lk];by_cases hk:n+i=k
   ·subst hk;rw [if_pos rfl,He n ds as9 (i+1) (n+i) (by omega),gK]
    rw [h 0 d a rfl rfl hr]
   ·rw [if_neg hk];cases lk (lS n (i+1) ds as9) k with
    | some R=>rfl
    | none=>simp only; rw [pB _ _ (agU hk)]
  ·rw [if_neg hr,if_neg hr]
theorem yO:∀ (n:Nat) (ds:List D) (as9:List Arg) (i:Nat) {k:Nat} {R:RT},lk (lS n i ds as9) k=some R->∃ j d a,ds[j]?=some d/\as9[j]?=some a/\eQ d=true/\k=n+(i+j)/\R=⟨a.1,a.2⟩
 | n,[],_,i,k,R,h=>by simp [lS,lk] at h
 | n,_::_,[],i,k,R,h=>by simp [lS,lk] at h
 | n,d::ds,a::as9,i,k,R,h=>by
  simp only [lS] at h;split at h
  ·rename_i hr;simp only [lk] at h;split at h
   ·rename_i hk;simp only [mN] at h;exact ⟨0,d,a,rfl,rfl,hr,hk.symm,h.symm⟩
   ·obtain ⟨j,d',a',h1,h2,h3,h4,h5⟩:=yO n ds as9 (i+1) h;exact ⟨j+1,d',a',by simpa using h1,by simpa using h2,h3,by omega,h5⟩
  ·obtain ⟨j,d',a',h1,h2,h3,h4,h5⟩:=yO n ds as9 (i+1) h;exact ⟨j+1,d',a',by simpa using h1,by simpa using h2,h3,by omega,h5⟩
theorem NU:∀ (n:Nat) (ds:List D) (as9:List Arg) (i:Nat) {j:Nat} {d:D} {a:Arg},ds[j]?=some d->as9[j]?=some a->eQ d=true->lk (lS n i ds as9) (n+(i+j))=some ⟨a.1,a.2⟩
 | n,[],_,i,j,d,a,h,_,_=>by simp at h
 | n,_::_,[],i,j,d,a,_,h,_=>by simp at h
 | n,d0::ds,a0::as9,i,0,d,a,h1,h2,h3=>by
  simp only [acH,mN] at h1 h2;subst h1; subst h2;simp [lS,h3,lk]
 | n,d0::ds,a0::as9,i,j+1,d,a,h1,h2,h3=>by
  simp only [adn] at h1 h2;have:=NU n ds as9 (i+1) h1 h2 h3;rw [show i+(j+1)=i+1+j by omega]
  simp only [lS];split
  ·simp only [lk];rw [if_neg (by omega)]; exact this
  ·exact this
theorem yP:∀ (n:Nat) (ds:List D) (as9:List Arg) (i:Nat) {r:Nat} {b:Option Nat} {vs:List Value},(r,b,vs)∈rW n i ds as9->∃ j d a,ds[j]?=some d/\as9[j]?=some a/\eQ d=true/\r=n+(i+j)/\b=a.1/\vs=ax a.2
 | n,[],_,i,r,b,vs,h=>by simp [rW] at h
 | n,_::_,[],i,r,b,vs,h=>by simp [rW] at h
 | n,d::ds,a::as9,i,r,b,vs,h=>by
  simp only [rW] at h;split at h
  ·rename_i hr;simp only [acK,sF] at h;rcases h with ⟨h1,h2,h3⟩ | h
   ·exact ⟨0,d,a,rfl,rfl,hr,h1,h2,h3⟩
   ·obtain ⟨j,d',a',h1,h2,h3,h4,h5⟩:=yP n ds as9 (i+1) h;exact ⟨j+1,d',a',by simpa using h1,by simpa using h2,h3,by omega,h5⟩
  ·obtain ⟨j,d',a',h1,h2,h3,h4,h5⟩:=yP n ds as9 (i+1) h;exact ⟨j+1,d',a',by simpa using h1,by simpa using h2,h3,by omega,h5⟩
theorem NV:∀ (n:Nat) (ds:List D) (as9:List Arg) (i:Nat) {j:Nat} {d:D} {a:Arg},ds[j]?=some d->as9[j]?=some a->eQ d=true->(n+(i+j),a.1,ax a.2)∈rW n i ds as9
 | n,[],_,i,j,d,a,h,_,_=>by simp at h
 | n,_::_,[],i,j,d,a,_,h,_=>by simp at h
 | n,d0::ds,a0::as9,i,0,d,a,h1,h2,h3=>by
  simp only [acH,mN] at h1 h2;subst h1; subst h2;simp [rW,h3]
 | n,d0::ds,a0::as9,i,j+1,d,a,h1,h2,h3=>by
  simp only [adn] at h1 h2;have:=NV n ds as9 (i+1) h1 h2 h3;rw [show i+(j+1)=i+1+j by omega]
  simp only [rW];split
  ·exact acK.2 (.inr this)
  ·exact this
theorem tD.get {w:World} {X:Bool->Nat->Prop}:∀ {b:List Bool} {ds:List D} {us:List Value} {as9:List Arg},tD w X b ds us as9->as9.length=ds.length/\us.length=ds.length/\∀ i d,ds[i]?=some d->∃ u a,us[i]?=some u/\as9[i]?=some a/\Jl w X (b.getD i false) d u a
 | _,[],us,as9,h=>by
  obtain ⟨rfl,rfl⟩:=h;exact ⟨rfl,rfl,by simp⟩
 | b,d::ds,us,as9,h=>by
  obtain ⟨u,kf,a,cm,rfl,rfl,h1,h2⟩:=h;obtain ⟨k1,k2,k3⟩:=tD.get h2;refine ⟨by simp [k1],by simp [k2],fun i d' hd=>?_⟩
  cases i with
  | zero=>
   simp only [acH,mN] at hd;subst hd;refine ⟨u,a,rfl,rfl,?_⟩;cases b with
   | nil=>exact h1
   | cons b0 bs=>exact h1
  | succ i=>
   simp only [adn] at hd;obtain ⟨u',a',e1,e2,e3⟩:=k3 i d' hd;refine ⟨u',a',by simpa using e1,by simpa using e2,?_⟩
   cases b with
   | nil=>exact e3
   | cons b0 bs=>exact e3
theorem ada {w:World} {X:Bool->Nat->Prop} {d:D} {u:Value} {S:List (Nat × RT)} (h:gp w X S d u):eQ d=false:=by
 rcases sO h with ⟨cs,us,rfl,rfl,h1⟩ | ⟨f,cs,us,rfl,rfl,h1⟩ | ⟨_,_,h1⟩
 ·simp only [eQ,dc,List.any_eq_false];intro x hx;obtain ⟨i,hi⟩:=adA.1 hx;obtain ⟨v,_,hv⟩:=h1.get hi;cases x with
  | sl g s n cs=>cases g with
   | none=>simp [bp,Ext] at hv
   | some g=>simp [iR]
  | _=>simp [iR]
 ·simp [eQ,dc,iR]
 ·cases d with
  | aW cs=>simp [bp,Ext] at h1
  | agg cs=>simp [bp,Ext] at h1
  | aG cs=>simp [bp,Ext] at h1
  | sl g s n cs=>cases g with
   | none=>simp [bp,Ext] at h1
   | some g=>simp [eQ,dc,iR]
  | _=>simp [eQ,dc,iR]
theorem wh {w:World} {X X1:Bool->Nat->Prop} {b:Bool} {d:D} {u:Value} {a:Arg} (h:Jl w X b d u a) (hs:bC w X1 a.2):
  (eQ d=true/\b=true/\bX d=aX a.2)∨(eQ d=false/\tZ a=[]/\∀ S X2,(∀ g k,X g k->X2 g k)->(∀ g k,X1 g k->X2 g k)->gp w X2 S d u):=by
 cases b with
 | false=>
  obtain ⟨rfl,h1⟩:=h;exact .inr ⟨ada (h1 []),rfl,fun S X2 hx _=>Uz (fun g k hk=>⟨hx g k hk,rfl⟩) (h1 S)⟩
 | true=>
  have hc:=Jq h hs;cases hr:eQ d with
  | true=>exact .inl ⟨rfl,rfl,hc⟩
  | false=>
   right
   have hp:∀ cs,d≠.aW cs:=by rintro cs rfl; simp [eQ] at hr
   have hf:a.1=none/\fM d u a.2:=by cases d<;>first | exact h | exact absurd rfl (hp _)
   have pw:dc d=zr d:=rS hs hf.2;have ow:(zr d).any iR=false:=by
    rw [<- pw];cases d<;>first | exact hr | exact absurd rfl (hp _)
   refine ⟨rfl,?_,fun S X2 _ hx=>yL hf.2 (fX hx _ hs) ow⟩;have hl:ah a.2=[]:=by
    rw [nr];simp only [List.flatten_eq_nil_iff,acv];rintro l ⟨t,ht,rfl⟩;cases t with
    | v d u=>rfl
    | own s n cap aa cs=>
     rw [<- pE hf.2] at ow;have:=List.any_eq_false.1 ow (T.own s n cap aa cs).er (by rw [eO]; exact acv.2 ⟨_,ht,rfl⟩)
     simp [T.er,iR] at this
   simp [tZ,hf.1,hl]
theorem Q9 {w:World} {X X1:Bool->Nat->Prop}:∀ {b:List Bool} {ds:List D} {us:List Value} {as9:List Arg} (n i:Nat),tD w X b ds us as9->(∀ a∈as9,bC w X1 a.2)->cA (lS n i ds as9)=bq as9
 | _,[],us,as9,n,i,h,_=>by obtain ⟨_,rfl⟩:=h; rfl
 | b,d::ds,us,as9,n,i,h,hs=>by
  obtain ⟨u,kf,a,cm,rfl,rfl,h1,h2⟩:=h;have ih:=Q9 (X1:=X1) n (i+1) h2 (fun a ha=>hs a (by simp [ha]))
  simp only [lS,bq];rcases wh h1 (hs a (by simp)) with ⟨h3,_⟩ | ⟨h3,h4,_⟩
  ·rw [if_pos h3];simp only [cA,ih];rfl
  ·rw [h3,h4]
   simpa using ih
theorem Xx {w:World} {Y:Nat->Prop} {own:List Bool} {ds:List D} {us:List Value} {as9:List Arg} (tE:jG w Y own ds us as9) (n:Nat) {vs:Array Value} (Cs:∀ i u,us[i]?=some u->vs.getD i undef=u):
  Rel ⟨w,bq as9,Y,rW n 0 ds as9⟩ [] w (np n 0 ds ⟨[],[],[],0⟩) [vs] (lS n 0 ds as9):=by
 obtain ⟨lA,eR,cK,du⟩:=tE;obtain ⟨l1,l2,iF⟩:=tD.get lA;have eG:=Q9 n 0 lA du;have hX:∀ b k,Lk w (bq as9) Y b k->af ⟨w,bq as9,Y,rW n 0 ds as9⟩ w (lS n 0 ds as9) [] b k:=fun b k hk=>
  ⟨hk.1,by rw [eG]; exact hk.2.1,by simp [ah],fun hb=>.inl (hk.2.2 hb)⟩
 have LU:∀ (j:Nat) (d:D) (a:Arg),ds[j]?=some d->as9[j]?=some a->eQ d=true->bX d=aX a.2:=fun j d a hd ha hr=>by
  obtain ⟨u,a',_,e2,e3⟩:=iF j d hd;rw [ha,mN] at e2;subst e2;rcases wh e3 (du a (aci ha)) with ⟨_,_,h⟩ | ⟨h,_⟩
  ·exact h
  ·rw [h] at hr; simp at hr
 have cW:Mem ⟨w,bq as9,Y,rW n 0 ds as9⟩ w (lS n 0 ds as9) []:=by
  refine ⟨by simpa [ah,eG] using eR,fun r R hr=>?_,by simp [bC],fun k hk=>cK k (by simpa [ah,eG] using hk)⟩
  obtain ⟨j,d,a,h1,h2,h3,h4,rfl⟩:=yO n ds as9 0 hr;obtain ⟨u,a',_,e2,e3⟩:=iF j d h1;rw [h2,mN] at e2;subst e2;have hs:=fX hX _ (du a (aci h2));refine ⟨?_,fun t ht=>?_⟩
  ·cases hb:a.1 with
   | none=>trivial
   | some b=>
    simp only;cases sV:own.getD j false with
    | false=>rw [sV] at e3; obtain ⟨rfl,_⟩:=e3; simp at hb
    | true=>
     rw [sV] at e3;by_cases hp:∃ cs,d=.aW cs
     ·obtain ⟨cs,rfl⟩:=hp;obtain ⟨b',f1,_,_,_,f5⟩:=e3;rw [hb,mN] at f1;subst f1;exact f5
     ·have:a.1=none:=by cases d<;>first | exact e3.1 | exact absurd ⟨_,rfl⟩ hp
      rw [this] at hb; simp at hb
  ·have:=(bY _).1 hs t ht;cases t with
   | v d u=>exact .inl this
   | own s n cap aa cs=>exact this
 refine ⟨fun k=>?_,cW,?_,⟨rfl,rfl,rfl,acD _,fun _ _ _=>rfl,fun k hk=>.inl (by simpa [ah,eG] using hk),fun r b vs' hm R hR=>?_⟩⟩
 ·rw [NT n ds as9 0 _ k l1 LU];cases lk (lS n 0 ds as9) k<;>rfl
 ·rw [(Du n ds 0 _).1];refine .cons (fun t=>?_) .nil;rw [NS];by_cases ht:0<=t/\t < 0+ds.length
  ·rw [if_pos ht];have QS:t < ds.length:=by omega
   rw [agw,ace QS];simp only [MD,ags];obtain ⟨u,a,e1,e2,e3⟩:=iF t ds[t] (ace QS);rw [Cs t u e1];have hs:=du a (aci e2);generalize hd:ds[t]=d at e3;have hdt:ds[t]?=some d:=by rw [ace QS,hd]
   rcases wh e3 hs with ⟨h1,hb,h2⟩ | ⟨h1,_,h2⟩
   ·have zu:=NU n ds as9 0 hdt e2 h1;rw [aef] at zu;rw [hb] at e3;by_cases hp:∃ cs,d=.aW cs
    ·obtain ⟨cs,rfl⟩:=hp;obtain ⟨b,f1,f2,f3,f4,f5⟩:=e3;subst f4;intro R hR;rw [zu,mN] at hR;subst hR;exact ⟨fun _=>by simp [f1],fun b' off ha=>by simp only [bN,f1,MD,mN,sF] at ha; obtain ⟨rfl,rfl⟩:=ha; rfl⟩
    ·have hf:a.1=none/\fM d u a.2:=by cases d<;>first | exact e3 | exact absurd ⟨_,rfl⟩ hp
     have hv:wg n t d=By (n+t) 0 d:=by
      have ahz:(dc d).any iR=true:=by cases d<;>first | exact h1 | exact absurd ⟨_,rfl⟩ hp
      have jI:∀ vs,d≠.aG vs:=by
       rintro vs rfl;obtain ⟨t0,q1,q2,_⟩:=hf.2;rw [q1] at hs;exact (rQ ((bY _).1 hs t0 (by simp))).2.2 vs q2.symm
      have h1:wg n t d=Bz (n+t) d:=by cases d<;>first | exact absurd ⟨_,rfl⟩ hp | simp [wg,ahz]
      rw [h1];cases d<;>first | rfl | exact absurd rfl (jI _)
     rw [hv];exact ky (yK cW zu (A:=[]) (B:=[]) hf.2 (by simp))
   ·have hv:wg n t d=d:=by
     cases d with
     | aW cs=>simp [eQ] at h1
     | _=>simp only [wg]; rw [if_neg (by simpa [eQ] using h1)]
    rw [hv];exact ky (h2 _ _ hX hX)
  ·rw [if_neg ht];exact mc _
 ·obtain ⟨j,d,a,h1,h2,h3,h4,h5,h6⟩:=yP n ds as9 0 hm;obtain ⟨j',d',a',g1,g2,g3,g4,rfl⟩:=yO n ds as9 0 hR;have:j'=j:=by omega
  subst this;rw [h2,mN] at g2;subst g2;exact ⟨h5.symm,fun _=>h6.symm⟩
theorem NW:∀ (ds:List D) (st:St),ME st ds=mO st (List.replicate ds.length true) ds
 | [],st=>rfl
 | d::ds,st=>by
  simp only [ME,adj,aeh,mO,List.headD_cons,if_true,List.tail_cons];cases Cj st d with
  | none=>rfl
  | some p=>obtain ⟨d',st'⟩:=p; simp only; rw [NW ds st']
section
variable {C:Ctx} {w w0:World} {aJ:List (Array Value)}
theorem aaQ {X X1:Bool->Nat->Prop} (n:Nat):∀ {ds:List D} {own:List Bool} {us:List Value} {as9:List Arg} {i:Nat} {st:St} {S:List (Nat × RT)} {H:List T} {os:List D},tD w0 X own ds us as9->(∀ a∈as9,bC w0 X1 a.2)->
  (∀ (j:Nat) (d:D) (a:Arg),ds[j]?=some d->as9[j]?=some a->eQ d=true->(n+(i+j),a.1,ax a.2)∈C.P0)->po n i ds st=some os->Rel C H w st aJ S->
  ∃ (cm:List Arg) (S':List (Nat × RT)) (st':St),Rel C (cO cm++H) w st' aJ S'/\mv w own os as9 cm/\jq S S'/\(cm.filterMap Prod.fst).Nodup/\(∀ r bk,lk S r=some ⟨some bk,[]⟩->bk∉cm.filterMap Prod.fst)/\∀ bk∈cm.filterMap Prod.fst,∃ r,lk S' r=some ⟨some bk,[]⟩:=by
 intro ds
 induction ds with
 | nil=>
  intro own us as9 i st S H os lA _ _ ho h;obtain ⟨_,rfl⟩:=lA;simp only [po,mN] at ho;subst ho;exact ⟨[],S,st,h,⟨rfl,rfl⟩,jq.refl _,by simp,by simp,by simp⟩
 | cons d ds ih=>
  intro own us as9 i st S H os lA hs hP ho h;obtain ⟨u,kf,a,At,rfl,rfl,h1,h2⟩:=lA;have qD:=hs a (by simp)
  have hP':∀ (j:Nat) (d':D) (a':Arg),ds[j]?=some d'->At[j]?=some a'->eQ d'=true->(n+(i+1+j),a'.1,ax a'.2)∈C.P0:=fun j d' a' e1 e2 e3=>by
   have:=hP (j+1) d' a' (by simpa using e1) (by simpa using e2) e3
   rwa [show i+(j+1)=i+1+j by omega] at this
  simp only [po] at ho;have step:∀ (a':Arg) (S1:List (Nat × RT)) (aP:St) (o:D) (pY:List D),os=o::pY->Rel C (a'.2++H) w aP aJ S1->oF w (own.headD false) o a a'->jq S S1->(∀ bk,a'.1=some bk->(∀ r0,lk S r0≠some ⟨some bk,[]⟩)/\∃ r,lk S1 r=some ⟨some bk,[]⟩)->po n (i+1) ds aP=some pY->
    ∃ (cm:List Arg) (S':List (Nat × RT)) (st':St),Rel C (cO cm++H) w st' aJ S'/\mv w own os (a::At) cm/\jq S S'/\(cm.filterMap Prod.fst).Nodup/\(∀ r bk,lk S r=some ⟨some bk,[]⟩->bk∉cm.filterMap Prod.fst)/\∀ bk∈cm.filterMap Prod.fst,∃ r,lk S' r=some ⟨some bk,[]⟩:=by
   intro a' S1 aP o pY he hr hao Xy wI me;subst he;obtain ⟨cm,S2,cj,b1,b2,b3,b4,b5,b6⟩:=ih h2 (fun a ha=>hs a (by simp [ha])) hP' me hr
   refine ⟨a'::cm,S2,cj,?_,⟨o,pY,a',cm,rfl,rfl,hao,b2⟩,Xy.trans b3,?_,fun r bk hr=>?_,fun bk uY=>?_⟩
   ·rw [qG,acz]; exact b1
   ·cases ha:a'.1 with
    | none=>simpa [ha] using b4
    | some bk=>
     simp only [adD,ha,adW];obtain ⟨_,r,e⟩:=wI bk ha;exact ⟨b5 r bk e,b4⟩
   ·cases ha:a'.1 with
    | none=>simp only [adD,ha]; exact b5 r bk (Xy.empty hr)
    | some Nw=>
     simp only [adD,ha,acK,not_or];exact ⟨fun e=>(wI Nw ha).1 r (e▸hr),b5 r bk (Xy.empty hr)⟩
   ·cases ha:a'.1 with
    | none=>simp only [adD,ha] at uY; exact b6 bk uY
    | some Nw=>
     simp only [adD,ha,acK] at uY;rcases uY with rfl | uY
     ·obtain ⟨_,r,e⟩:=wI _ ha;exact ⟨r,b3.empty e⟩
     ·exact b6 bk uY
  have nothing:∀ pY,oa st (n+i) d=none->po n (i+1) ds st=some pY->os=.undef::pY->_:=fun pY hv me he=>
   step (none,[]) S st .undef pY he h (by
    cases hb:own.headD false with
    | false=>rfl
    | true=>
     rw [hb] at h1;have:a.1=none:=by
      by_cases hp:∃ cs,d=.aW cs
      ·obtain ⟨cs,rfl⟩:=hp;simp [oa,eQ] at hv
      ·cases d<;>first | exact h1.1 | exact absurd ⟨_,rfl⟩ hp
     exact ⟨this,rfl,.inl ⟨rfl,by simp⟩⟩) (jq.refl _) (by simp) me
  split at ho
  ·rename_i hv;split at ho
   case h_2=>simp at ho
   rename_i pY me;simp only [mN] at ho;exact nothing pY hv me ho.symm
  ·rename_i v hv;split at ho
   case h_2=>simp at ho
   rename_i o aP dA;split at ho
   case h_2=>simp at ho
   rename_i pY me;simp only [mN] at ho;have hr:eQ d=true:=by
    cases hr:eQ d with
    | true=>rfl
    | false=>unfold oa at hv; rw [hr] at hv; simp at hv
   have Nd:=hP 0 d a rfl rfl hr;rw [agF] at Nd;obtain ⟨hb,oU⟩:own.headD false=true/\bX d=aX a.2:=by
    rcases wh h1 qD with ⟨_,e1,e2⟩ | ⟨e,_⟩
    ·exact ⟨e1,e2⟩
    ·rw [hr] at e; simp at e
   rw [hb] at h1;unfold oa at hv;rw [hr,if_pos rfl] at hv;by_cases hp:∃ cs,d=.aW cs
   ·obtain ⟨cs,rfl⟩:=hp;simp only [mN] at hv;subst hv;obtain ⟨b,f1,f2,f3,f4,f5⟩:=h1;have hd:ck w (af C w S H) S (.ptr (n+i) [] 0) (.pointer (some ⟨b,0,none⟩)):=by
     intro R hR;obtain ⟨g1,_⟩:=h.kept.par _ _ _ Nd R hR;rw [f1] at g1;exact ⟨fun _=>by rw [g1]; rfl,fun b' off ha=>by simp only [bN,g1,MD,mN,sF] at ha; obtain ⟨rfl,rfl⟩:=ha; rfl⟩
    obtain ⟨a',S1,k1,k2,k3,k4,k5,k6⟩:=Nv h hd dA;obtain ⟨cs',rfl⟩:∃ cs',o=.aW cs':=by
     simp only [Cj] at dA;split at dA
     ·simp only [mN,sF] at dA;exact ⟨_,dA.1.symm⟩
     ·simp at dA
    obtain ⟨r,b',m1,m2,m3,m4,m5,m6,m7⟩:=k2;simp only [Value.pointer.injEq,mN,Addr.mk.injEq,and_true] at m6;subst m6;refine step a' S1 aP (.aW cs') pY ho.symm k1 ?_ k4 (fun bk e=>?_) me
    ·rw [hb];exact ⟨by rw [m2,f1],⟨b,f1,m7⟩,m5⟩
    ·rw [m2,mN] at e;subst e;exact ⟨k6 _ m2,r,m3⟩
   ·have Af:a.1=none:=by cases d<;>first | exact h1.1 | exact absurd ⟨_,rfl⟩ hp
    obtain ⟨R,hR,u',hvt,gL,pw⟩:∃ R,lk S (n+i)=some R/\∃ u',ck w (af C w S H) S v u'/\gM v u'=ax R.cs/\((∃ cs,d=.agg cs)↔∃ cs,v=.agg cs):=by
     by_cases ez:∃ cs,d=.agg cs
     ·obtain ⟨cs,rfl⟩:=ez;simp only at hv;split at hv
      case h_2=>simp at hv
      rename_i cs1 gD;simp only [mN] at hv;subst hv;rw [h.rt] at gD;cases hR:lk S (n+i) with
      | none=>rw [hR] at gD; simp at gD
      | some R=>
       rw [hR] at gD;simp only [MD,mN] at gD;subst gD;refine ⟨R,rfl,.agg (ax R.cs).toArray,⟨_,rfl,?_⟩,rfl,by simp⟩
       refine dk (by rw [pQ,fm]; simp [bK]) (fun j x y hx hy=>?_)
       rw [nv,ir] at hx;simp only [fh] at hy;cases hi:R.cs[j]? with
       | none=>simp [hi] at hx
       | some t=>
        simp only [hi,MD,mN,aef] at hx hy;subst hx; subst hy;exact pP h.mem hR rfl hi
     ·have lB:(match lk st.rt (n+i) with | some [d']=>some (gA (n+i) [] 0 d') | _=>none)=some v:=by
       cases d<;>first | exact hv | exact absurd ⟨_,rfl⟩ hp | exact absurd ⟨_,rfl⟩ ez
      split at lB
      case h_2=>simp at lB
      rename_i d' gD;simp only [mN] at lB;subst lB;rw [h.rt] at gD;cases hR:lk S (n+i) with
      | none=>rw [hR] at gD; simp at gD
      | some R=>
       rw [hR] at gD;simp only [MD,mN] at gD;obtain ⟨t,ht⟩:∃ t,R.cs=[t]:=by
        match hx:R.cs with
        | []=>rw [hx] at gD; simp [aX] at gD
        | [t]=>exact ⟨t,rfl⟩
        | t1::t2::ts=>rw [hx] at gD; simp [aX] at gD
       rw [ht] at gD;simp only [aX,acS,and_true] at gD;subst gD;have Se:=pP h.mem hR (q:=[]) (o:=0) (t:=t) rfl (by rw [ht]; rfl)
       have hna:∀ cs,gA (n+i) [] 0 t.er≠.agg cs:=by
        intro cs e;rw [e] at Se;simp [bp,Ext] at Se
       refine ⟨R,rfl,t.val,mm Se,?_,?_⟩
       ·have:∀ x,(∀ cs,x≠.agg cs)->gM x t.val=[t.val]:=fun x hx=>by cases x<;>first | rfl | exact absurd rfl (hx _)
        rw [this _ hna,ht]; rfl
       ·exact ⟨fun ⟨cs,e⟩=>absurd ⟨cs,e⟩ ez,fun ⟨cs,e⟩=>absurd e (hna cs)⟩
    obtain ⟨g1,g2⟩:=h.kept.par _ _ _ Nd R hR;have g2:=g2 Af;obtain ⟨a',S1,k1,k2,k3,k4,k5,k6⟩:=Nv h hvt dA;have hvp:∀ r,v≠.ptr r [] 0:=by
     rintro r rfl;by_cases ez:∃ cs,d=.agg cs
     ·obtain ⟨cs,e⟩:=pw.1 ez; simp at e
     ·have lB:(match lk st.rt (n+i) with | some [d']=>some (gA (n+i) [] 0 d') | _=>none)=some (D.ptr r [] 0):=by
       cases d<;>first | exact hv | exact absurd ⟨_,rfl⟩ hp | exact absurd ⟨_,rfl⟩ ez
      have hx:=hvt R;split at lB
      case h_2=>simp at lB
      rename_i d' gD;simp only [mN] at lB;rw [h.rt,hR] at gD;simp only [MD,mN] at gD;obtain ⟨t,ht⟩:∃ t,R.cs=[t]:=by
       match hx:R.cs with
       | []=>rw [hx] at gD; simp [aX] at gD
       | [t]=>exact ⟨t,rfl⟩
       | t1::t2::ts=>rw [hx] at gD; simp [aX] at gD
      rw [ht] at gD;simp only [aX,acS,and_true] at gD;have cF:=(h.mem.root _ R hR).2 t (by rw [ht]; simp)
      rw [g1,Af] at cF;cases t with
      | own s n cap aa cs=>rw [<- gD] at lB; simp [T.er,gA] at lB
      | v d0 u0=>
       rcases cF with cF | ⟨cF,_⟩
       ·rw [<- gD] at lB;simp only [T.er] at lB;cases hl:bH d0 with
        | ptr r' q' o'=>rw [hl] at cF; simp [Ext] at cF
        | sl g s n cs=>rw [hl] at lB; cases g<;>simp [gA] at lB
        | _=>rw [hl] at lB; simp [gA] at lB
       ·simp at cF
    have adb:∀ cs,o≠.aW cs:=by
     rintro cs rfl;obtain ⟨r,b,e,_⟩:=k2;exact hvp r e
    have eA:a'.1=none/\fM o u' a'.2/\ax a'.2=gM v u'/\((∃ cs,o=.agg cs)↔∃ cs,v=.agg cs):=by
     cases o<;>first | exact ⟨k2.1,k2.2.1,k2.2.2.1,k2.2.2.2.2.1⟩ | exact absurd rfl (adb _)
    have hvv:ax a'.2=ax a.2:=by rw [eA.2.2.1,gL,g2]
    refine step a' S1 aP o pY ho.symm k1 ?_ k4 (fun bk e=>by rw [eA.1] at e; simp at e) me
    rw [hb];by_cases ez:∃ cs,o=.agg cs
    ·obtain ⟨cs,rfl⟩:=ez;exact ⟨Af,eA.1,eA.2.1.1,hvv⟩
    ·have hf:∃ t,a'.2=[t]/\o=t.er/\u'=t.val:=by
      have:=eA.2.1;cases o<;>first | exact this | exact absurd ⟨_,rfl⟩ ez
     obtain ⟨t,q1,q2,q3⟩:=hf;have:∀ x,(∀ cs,x≠.aW cs)->(∀ cs,x≠.agg cs)->x=t.er->oF w true x a a':=fun x EZ Na e=>by
      cases x<;>first | exact ⟨Af,eA.1,.inr ⟨t,q1,e,by rw [<- q1]; exact hvv⟩⟩ | exact absurd rfl (EZ _) | exact absurd rfl (Na _)
     exact this o adb (fun cs e=>ez ⟨cs,e⟩) q2
end
theorem CL {w:World} {S:List (Nat × RT)} {X:Bool->Nat->Prop}:∀ {b:List Bool} {ds gn:List D} {us:List Value} {as9:List Arg},(∀ i,i < ds.length->b.getD i false=true)->sX w S b ds gn us as9->(∀ d∈gn,∀ cs,d≠.aW cs)->sY gn us (cV as9)/\as9.filterMap Prod.fst=[]
 | _,[],gn,us,as9,_,h,_=>by obtain ⟨rfl,rfl,rfl⟩:=h; exact ⟨⟨rfl,rfl⟩,rfl⟩
 | b,d::ds,gn,us,as9,hb,h,hp=>by
  obtain ⟨d1,yJ,u,kf,a,cm,rfl,rfl,rfl,h1,h2⟩:=h;have Fc:b.headD false=true:=by have:=hb 0 (by simp); (cases b with | nil=>simp at this | cons x xs=>simpa using this)
  rw [Fc] at h1;obtain ⟨k1,k2⟩:=CL (X:=X) (b:=b.tail) (fun i hi=>by
   have:=hb (i+1) (by simpa using hi)
   (cases b with | nil=>simp at this | cons x xs=>simpa using this)) h2 (fun d hd=>hp d (by simp [hd]))
  have hn:=hp d1 (by simp)
  have h3:a.1=none/\fM d1 u a.2:=by cases d1<;>first | exact ⟨h1.1,h1.2.1⟩ | exact absurd rfl (hn _)
  exact ⟨⟨u,kf,a.2,cV cm,rfl,by simp [cV],h3.2,k1⟩,by simp only [adD,h3.1,k2]⟩
theorem aaR {ds:List D} (h:dw (.aG ds)=true):∀ d∈ds,∀ cs,d≠.aW cs:=by
 rintro d hd cs rfl;simp only [dw,bX,we,List.all_flatMap,ab9] at h;have:=h _ hd;simp [zr,fy] at this
section
variable {P:Program} {c:cn} (aw:ey c P) {cl:FuncId→List D→Option (D × List D)} {ci:FuncId→List D→Nat→St→Option (D × St)}
  (ka:lu P c.own cl) (lR:rU P ci) (rV:P.follows .mixedOrders=true)
  (su : ∀ (f : FuncId) (fn : Func) (body : Code), P.funcs[f]? = some fn → fn.body = some body → lF fn.ntmps body = true ∧ (fn.name == "runtime.NumGoroutine") = false)
  (rX:∀ f e ds r outs,c.ext f=some e→e ds=some (r,outs)→kh P f∧∀ (w:World) (Y:Nat→Prop) (us:Array Value) (as9:List Arg),jG w Y (c.own f) ds us.toList as9→dw r=true→(∀ o∈outs,dw o=true)→
    Calls P f us w fun e w'=>∃ v,e=.returned v∧fp w w' Y (c.own f) as9 r outs v)
include aw ka lR rV su rX
theorem Sf (K:Nat) {f:FuncId} {ds:List D} {r:D} {outs:List D} (cQ:c.ext f=none) (cR:LO c P cl ci K f ds=some (r,outs)):kh P f/\∀ (w:World) (Y:Nat->Prop) (us:Array Value) (as9:List Arg),jG w Y (c.own f) ds us.toList as9->dw r=true->
  Calls P f us w fun e w'=>∃ v,e=.returned v/\fp w w' Y (c.own f) as9 r outs v:=by
 have _:=rX;unfold LO at cR;rw [cQ] at cR;simp only at cR;split at cR
 case h_2=>simp at cR
 rename_i fn uZ;split at cR
 case h_2=>simp at cR
 rename_i body sv;split at cR
 case h_2=>simp at cR
 rename_i x aP Si;split at cR
 case isFalse=>simp at cR
 rename_i hx;simp only [wX] at hx;split at cR
 case h_2=>simp at cR
 rename_i rs NJ;split at cR
 case h_2=>simp at cR
 rename_i Ff cj dA;split at cR
 case h_2=>simp at cR
 rename_i os me;simp only [mN,sF] at cR;obtain ⟨rfl,rfl⟩:=cR;obtain ⟨UU,UW⟩:=su f fn body uZ sv;refine ⟨⟨fn,uZ,UW,by rw [sv]; rfl⟩,fun w Y us as9 tE Xz=>?_⟩
 have Sj:=hx.2;simp only [uL,wX,decide_eq_true_eq] at Sj;obtain ⟨l1,l2,iF⟩:=tD.get tE.args;have hlen:us.size=ds.length:=by rw [<- l2]; simp
 refine calls_of_wp uZ sv ?_;have Cs:∀ i u,us.toList[i]?=some u->(us++Array.replicate (fn.ntmps - us.size) undef).getD i undef=u:=fun i u hi=>by
  have QV:us[i]?=some u:=by simpa using hi
  rw [adm,agh (agi.1 QV).1,QV];rfl
 have XA:=Xx tE fn.ntmps Cs;refine Q6 aw ka lR rV (fun L B w st st' vs S h1 h2 h3=>Q8 h1 h2 h3) (n:=fn.ntmps) body 0 Si XA (by simp; omega) rfl UU ?_ ?_
 ·rw [(Du fn.ntmps ds 0 _).2];rintro ⟨r,b,acj⟩ hp;obtain ⟨j,d,a,h1,_,_,h4,_⟩:=yP fn.ntmps ds as9 0 hp;have hj:=(aaa.1 h1).1;exact ⟨by simp only; omega,fun t ht=>by simp only; omega⟩
 ·intro a' w' S' gN cI XB _;obtain ⟨vs,eD,gL⟩:=Fe aw gN NJ;rw [NW] at dA;obtain ⟨ar,S2,a1,a2,a3,a4,a5,a6,a7⟩:=E0 gN gL dA;rw [acg] at a1 a3;obtain ⟨cm,S3,Ck,b1,b2,b3,b4,b5,b6⟩:=aaQ fn.ntmps tE.args tE.sat (fun j d a h1 h2 h3=>NV fn.ntmps ds as9 0 h1 h2 h3) me a1;have afc:∀ i,i < rs.length->(List.replicate rs.length true).getD i false=true:=fun i hi=>by
   rw [af6,List.getElem?_replicate,if_pos hi]; rfl
  have Sk:∀ bk∈ar.filterMap Prod.fst,∃ r,lk S2 r=some ⟨some bk,[]⟩:=fun bk hb=>by
   obtain ⟨r,R,e1,e2,e3⟩:=ub a2 bk hb;refine ⟨r,?_⟩;rw [e1];cases R;simp only at e2 e3;rw [e2,e3]
  have hk:=b1.kept;have ahA:w.heap.size<=w'.heap.size:=hk.size;have ade:=b1.mem.nd;have hF:∀ k,k∈bq ar++bq cm->k∈cA S3++ah (cO cm++cO ar):=fun k hk=>by
   rw [aY];rcases sE.1 hk with h1 | h1
   ·rcases kE.1 h1 with h2 | h2
    ·obtain ⟨r,e⟩:=Sk k h2;exact sE.2 (.inl (kn (b3.empty e) (by simp [RT.ft])))
    ·simp [h2]
   ·rcases kE.1 h1 with h2 | h2
    ·obtain ⟨r,e⟩:=b6 k h2;exact sE.2 (.inl (kn e (by simp [RT.ft])))
    ·simp [h2]
  have eR:(bq ar++bq cm).Nodup:=by
   have p1:(bq ar++bq cm).Perm ((ar.filterMap Prod.fst++cm.filterMap Prod.fst)++(ah (cO ar)++ah (cO cm))):=by
    refine ((jz ar).append (jz cm)).trans ?_;refine adV.2 fun x=>?_;have h1:=adV.1 (nA ar) x;have h2:=adV.1 (nA cm) x;simp only [agb];omega
   refine p1.nodup_iff.2 ?_;rw [aY,zX] at ade;obtain ⟨hS,hH,hSH⟩:=ade;rw [zX] at hH;rw [zX];refine ⟨?_,?_,?_⟩
   ·rw [zX];refine ⟨a6,b4,fun x hx y hy e=>?_⟩;subst e;obtain ⟨r,e⟩:=Sk x hx;exact b5 r x e hy
   ·rw [zX];exact ⟨hH.2.1,hH.1,fun x hx y hy e=>hH.2.2 y hy x hx e.symm⟩
   ·intro x hx y hy e;subst e;have hxS:x∈cA S3:=by
     rcases sE.1 hx with h1 | h1
     ·obtain ⟨r,e⟩:=Sk x h1;exact kn (b3.empty e) (by simp [RT.ft])
     ·obtain ⟨r,e⟩:=b6 x h1;exact kn e (by simp [RT.ft])
    refine hSH x hxS x ?_ rfl;rcases sE.1 hy with h1 | h1<;>simp [h1]
  have cK:∀ k∈bq ar++bq cm,k < w'.heap.size/\(k∈bq as9∨w.heap.size<=k):=fun k hk=>⟨b1.mem.lt k (hF k hk),b1.kept.iD k (hF k hk)⟩;have hX:∀ b k,af ⟨w,bq as9,Y,rW fn.ntmps 0 ds as9⟩ w' S3 (cO cm++cO ar) b k->Lk w' (bq ar++bq cm) (fun k=>Y k∨k∈bq as9∨w.heap.size<=k) b k:=by
   intro b k hk;refine ⟨hk.1,fun h1=>?_,hk.2.2.2⟩;rcases sE.1 (hF k h1) with h2 | h2
   ·exact hk.2.1 h2
   ·exact hk.2.2.1 h2
  have dm:=(dV _ _).1 b1.mem.hand;have Sl:∀ a∈ar,bC w' (fun b k=>Lk w' (bq ar++bq cm) (fun k=>Y k∨k∈bq as9∨w.heap.size<=k) b k) a.2:=fun a ha=>fX hX _ (uX.1 dm.2 a ha);have afd:∀ a∈cm,bC w' (fun b k=>Lk w' (bq ar++bq cm) (fun k=>Y k∨k∈bq as9∨w.heap.size<=k) b k) a.2:=fun a ha=>fX hX _ (uX.1 dm.1 a ha);obtain ⟨eZ,ES,Cz,hr3⟩:∃ eZ,Jm (oc Ff) (u5 vs) eZ/\(ah eZ).Perm (bq ar)/\bC w' (fun b k=>Lk w' (bq ar++bq cm) (fun k=>Y k∨k∈bq as9∨w.heap.size<=k) b k) eZ:=by
   by_cases hp:∃ cs,oc Ff=.aW cs
   ·obtain ⟨cs,hp⟩:=hp;have ahB:Ff=[.aW cs]:=by
     match Ff,hp with
     | [d],hp=>simp only [oc] at hp; rw [hp]
     | [],hp=>simp [oc] at hp
     | _::_::_,hp=>simp [oc] at hp
    subst ahB
    match rs,a2 with
    | [],a2=>obtain ⟨e,_⟩:=a2; simp at e
    | d::ds',a2=>
     obtain ⟨d1,yJ,u,kf,a,ar',e1,e2,e3,h1,h2⟩:=a2;simp only [acS] at e1;obtain ⟨rfl,rfl⟩:=e1;have adf:ds'=[]/\kf=[]/\ar'=[]:=by
      match ds',h2 with
      | [],h2=>obtain ⟨_,h3,h4⟩:=h2; exact ⟨rfl,h3,h4⟩
      | _::_,h2=>obtain ⟨_,_,_,_,_,_,e,_⟩:=h2; simp at e
     obtain ⟨rfl,rfl,rfl⟩:=adf;subst e2; subst e3;simp only [adj,aeh,List.headD_cons] at h1;obtain ⟨r,b,_,m2,m3,m4,m5,m6,m7⟩:=h1;refine ⟨[rR b a.2],⟨b,a.2,rfl,m5,m6⟩,?_,?_⟩
     ·have:bq [a]=b::ah a.2:=by simp [bq,tZ,m2]
      rw [this];simp [ah,rR,T.ft,fC]
     ·simp only [bC,rR,bA,Nat.one_mul,and_true];exact ⟨⟨acD _,by omega⟩,trivial,m7,Sl a (by simp)⟩
   ·have hnp:∀ d∈Ff,∀ cs,d≠.aW cs:=by
     match hrs:Ff with
     | []=>simp
     | [d]=>
      intro d' sL cs e;simp only [adU] at sL;subst sL;exact hp ⟨cs,e⟩
     | d1::d2::sG=>exact aaR Xz
    obtain ⟨q1,q2⟩:=CL (X:=fun _ _=>True) afc a2 hnp;refine ⟨cV ar,?_,?_,wM.2 Sl⟩
    ·match Ff,q1,hp with
     | [],q1,_=>obtain ⟨e1,e2⟩:=q1; subst e1; exact ⟨#[],rfl,rfl,e2⟩
     | [d],q1,hp=>
      obtain ⟨u,kf,t1,t2,e1,e2,h1,h2⟩:=q1;obtain ⟨rfl,rfl⟩:=h2;subst e1;rw [acg] at e2;subst e2;simp only [oc,u5];have jI:∀ vs,d≠.aG vs:=by
       rintro vs rfl;obtain ⟨t,k1,k2,_⟩:=h1;have:=wM.2 Sl;rw [k1] at this;exact (rQ ((bY _).1 this t (by simp))).2.2 vs k2.symm
      cases d<;>first | exact h1 | exact absurd ⟨_,rfl⟩ hp | exact absurd rfl (jI _)
     | d1::d2::sG,q1,_=>
      obtain ⟨u1,E4,t1,t1',e1,e2,h1,h2⟩:=q1;obtain ⟨u2,us2,t2,t2',e3,e4,h3,h4⟩:=h2;subst e1; subst e3;simp only [oc,u5];exact ⟨_,rfl,u1,_,t1,t1',rfl,e2,h1,u2,us2,t2,t2',rfl,e4,h3,h4⟩
    ·have:=jz ar;rw [q2,acw] at this;exact this.symm
  have hXr:(fun b k=>Lk w' (bq ar++bq cm) (fun k=>Y k∨k∈bq as9∨w.heap.size<=k) b k)=fun b k=>Lk w' (ah eZ++bq cm) (fun k=>Y k∨k∈bq as9∨w.heap.size<=k) b k:=by
   funext b k;simp only [Lk,sE,Cz.mem_iff]
  have Sb:fp w w' Y (c.own f) as9 (oc Ff) os (u5 vs):=by
   refine ⟨ahA,fun k h1 h2=>hk.block k h1 h2,hk.os,hk.tape,hk.output,eZ,cm,ES,b2,?_,fun k hk=>cK k ?_,?_,?_⟩
   ·exact (List.Perm.append_right _ Cz).nodup_iff.2 eR
   ·rcases sE.1 hk with h1 | h1
    ·exact sE.2 (.inl (Cz.mem_iff.1 h1))
    ·exact sE.2 (.inr h1)
   ·rw [<- hXr]; exact hr3
   ·rw [<- hXr]; exact afd
  have oG:bodyPost P fn (fun e w'=>∃ v,e=.returned v/\fp w w' Y (c.own f) as9 (oc Ff) os v) .normal a' w':=⟨XB,u5 vs,eD,u5 vs,rfl,Sb⟩;cases x with
  | normal=>exact oG
  | ret=>exact oG
  | _=>simp [uK] at hx
end
theorem UX {a2 a1:List Arg}:∀ {x2 x1:List Arg},x2.length=x1.length->(∀ (i:Nat) (p q:Arg),x2[i]?=some p->x1[i]?=some q->p=q∨p=(none,[]))->(bq x2).Sublist (bq x1)
 | [],[],_,_=>.slnil
 | [],_::_,h,_=>by simp at h
 | _::_,[],h,_=>by simp at h
 | p::x2,q::x1,h,hh=>by
  have ih:=UX (a2:=a2) (a1:=a1) (x2:=x2) (x1:=x1) (by simpa using h) (fun i p q h1 h2=>hh (i+1) p q (by simpa using h1) (by simpa using h2))
  simp only [bq];rcases hh 0 p q rfl rfl with rfl | rfl
  ·exact (adK _).append ih
  ·exact ih.trans (agM _ _)
theorem u6 {w':World}:∀ {g b:List Bool} {os:List D} {x x1:List Arg},mv w' b os x x1->∃ x2:List Arg,mv w' b (forget g os) x x2/\x2.length=x1.length/\∀ (i:Nat) (p q:Arg),x2[i]?=some p->x1[i]?=some q->p=q∨p=(none,[])
 | g,b,os,[],x1,h=>by
  obtain ⟨rfl,rfl⟩:=h;refine ⟨[],⟨?_,rfl⟩,rfl,by simp⟩
  cases g with
  | nil=>rfl
  | cons c g=>cases c<;>rfl
 | g,b,os,a::x,x1,h=>by
  obtain ⟨o,xm,a',x1',rfl,rfl,h1,h2⟩:=h;have nj:∀ g',forget g (o::xm)=o::forget g' xm->∃ x2:List Arg,mv w' b (forget g (o::xm)) (a::x) x2/\x2.length=(a'::x1').length/\∀ (i:Nat) (p q:Arg),x2[i]?=some p->(a'::x1')[i]?=some q->p=q∨p=(none,[]):=by
   intro g' e;obtain ⟨x2,k1,k2,k3⟩:=u6 (g:=g') h2;refine ⟨a'::x2,⟨o,forget g' xm,a',x2,e,rfl,h1,k1⟩,by simp [k2],fun i p q hp hq=>?_⟩
   cases i with
   | zero=>simp at hp hq; subst hp; subst hq; exact .inl rfl
   | succ i=>exact k3 i p q (by simpa using hp) (by simpa using hq)
  cases g with
  | nil=>exact nj [] rfl
  | cons c g=>
   cases c with
   | false=>exact nj g rfl
   | true=>
    by_cases hb:∃ cs,o=.aW cs
    ·obtain ⟨cs,rfl⟩:=hb;exact nj g rfl
    ·obtain ⟨x2,k1,k2,k3⟩:=u6 (g:=g) h2;have e:forget (true::g) (o::xm)=.undef::forget g xm:=by
      cases o<;>first | rfl | exact absurd ⟨_,rfl⟩ hb
     have ha:oF w' (b.headD false) .undef a (none,[]):=by
      cases sV:b.headD false with
      | false=>rfl
      | true=>
       rw [sV] at h1;have:a.1=none:=by cases o<;>first | exact h1.1 | exact absurd ⟨_,rfl⟩ hb
       exact ⟨this,rfl,.inl ⟨rfl,by simp⟩⟩
     refine ⟨(none,[])::x2,⟨.undef,forget g xm,(none,[]),x2,e,rfl,ha,k1⟩,by simp [k2],fun i p q hp hq=>?_⟩
     cases i with
     | zero=>simp at hp; subst hp; exact .inr rfl
     | succ i=>exact k3 i p q (by simpa using hp) (by simpa using hq)
theorem Fg {w w':World} {Y:Nat->Prop} {own g:List Bool} {x:List Arg} {r:D} {outs:List D} {v:Value} (h:fp w w' Y own x r outs v):fp w w' Y own x r (forget g outs) v:=by
 obtain ⟨eZ,x1,r1,r2,r3,r4,r5,r6⟩:=h.res;obtain ⟨x2,k1,k2,k3⟩:=u6 (g:=g) r2;have hs:=UX (a2:=x2) (a1:=x1) k2 k3;have sU:=(adK (ah eZ)).append hs;have hX:∀ b k,Lk w' (ah eZ++bq x1) (fun k=>Y k∨k∈bq x∨w.heap.size<=k) b k->Lk w' (ah eZ++bq x2) (fun k=>Y k∨k∈bq x∨w.heap.size<=k) b k:=fun b k hk=>⟨hk.1,fun h1=>hk.2.1 (sU.subset h1),hk.2.2⟩;refine ⟨h.sz,h.bB,h.os,h.tape,h.out,eZ,x2,r1,k1,r3.sublist sU,fun k hk=>r4 k (sU.subset hk),fX hX _ r5,fun p hp=>?_⟩;obtain ⟨i,hi⟩:=List.getElem?_of_mem hp;have cK:i < x1.length:=by rw [<- k2]; exact (aaa.1 hi).1
 rcases k3 i p x1[i] hi (ace cK) with e | e
 ·rw [e];exact fX hX _ (r6 _ (acN cK))
 ·rw [e]
  trivial
section
variable {P:Program} {c:cn} (aw:ey c P) {cl:FuncId→List D→Option (D × List D)} {ci:FuncId→List D→Nat→St→Option (D × St)}
  (ka:lu P c.own cl) (lR:rU P ci) (rV:P.follows .mixedOrders=true)
  (su : ∀ (f : FuncId) (fn : Func) (body : Code), P.funcs[f]? = some fn → fn.body = some body → lF fn.ntmps body = true ∧ (fn.name == "runtime.NumGoroutine") = false)
  (rX:∀ f e ds r outs,c.ext f=some e→e ds=some (r,outs)→kh P f∧∀ (w:World) (Y:Nat→Prop) (us:Array Value) (as9:List Arg),jG w Y (c.own f) ds us.toList as9→dw r=true→(∀ o∈outs,dw o=true)→
    Calls P f us w fun e w'=>∃ v,e=.returned v∧fp w w' Y (c.own f) as9 r outs v)
include aw ka lR rV su rX
theorem Sm (K:Nat):lu P c.own (yx c P cl ci K):=by
 intro f ds r outs cR;unfold yx at cR;split at cR
 ·rename_i e he;exact rX f e ds r outs he cR
 rename_i cQ;unfold TR at cR;split at cR
 case h_2=>simp at cR
 rename_i r' os hS;simp only [mN,sF] at cR;obtain ⟨rfl,rfl⟩:=cR;obtain ⟨h1,h2⟩:=Sf aw ka lR rV su rX K cQ hS;refine ⟨h1,fun w Y us az tE Xz _=>(h2 w Y us az tE Xz).mono fun e w' hh=>?_⟩;obtain ⟨v,e1,e2⟩:=hh;exact ⟨v,e1,Fg e2⟩
end
theorem JA:∀ (ds:List D) (i t:Nat),lk (w5 i ds) t=if i<=t then ds[t - i]? else none
 | [],i,t=>by simp [w5,lk]
 | d::ds,i,t=>by
  simp only [w5,lk];by_cases h:i=t
  ·subst h; simp
  ·rw [if_neg h,JA ds (i+1) t];by_cases h2:i+1<=t
   ·rw [if_pos h2,if_pos (by omega)]
    have:t - i=(t - (i+1))+1:=by omega
    rw [this,adn]
   ·rw [if_neg h2,if_neg (by omega)]
section
variable {P:Program} {c:cn} (aw:ey c P) (rV:P.follows .mixedOrders=true)
  (su : ∀ (f : FuncId) (fn : Func) (body : Code), P.funcs[f]? = some fn → fn.body = some body → lF fn.ntmps body = true ∧ (fn.name == "runtime.NumGoroutine") = false)
include aw rV su
theorem UY {cl:FuncId->List D->Option (D × List D)} {ci:FuncId->List D->Nat->St->Option (D × St)} (ka:lu P c.own cl) (lR:rU P ci) (K:Nat):rU P (WL c P cl ci K):=by
 intro f args CG st d st' cR;unfold WL at cR;split at cR
 case h_2=>simp at cR
 rename_i fn uZ;split at cR
 case h_2=>simp at cR
 rename_i body sv;split at cR
 case h_2=>simp at cR
 rename_i x aP Si;split at cR
 case isFalse=>simp at cR
 rename_i hx;simp only [wX] at hx;split at cR
 case h_2=>simp at cR
 rename_i rs tm up NJ MV;split at cR
 case isFalse=>simp at cR
 rename_i hnt;simp only [mN,sF] at cR;obtain ⟨rfl,rfl⟩:=cR;obtain ⟨UU,UW⟩:=su f fn body uZ sv;refine ⟨⟨fn,uZ,UW,by rw [sv]; rfl⟩,fun C Hx w aJ S us gN cQ gB hP amt=>?_⟩
 have Sj:=hx.2;simp only [uL,wX,decide_eq_true_eq] at Sj;have hlen:us.size=args.length:=by rw [gB.len]; simp
 refine calls_of_wp uZ sv ?_;have XA:Rel C Hx w ⟨w5 0 args,st.rt,st.tm::st.up,CG⟩ ((us++Array.replicate (fn.ntmps - us.size) undef)::aJ) S:=by
  refine ⟨gN.rt,gN.mem,.cons (fun t=>?_) gN.ov,gN.kept⟩;rw [JA];simp only [adt,if_true,agw];cases ht:args[t]? with
  | none=>exact mc _
  | some d=>
   obtain ⟨u,h1,h2⟩:=gB.get ht;have h3:us[t]?=some u:=by simpa using h1
   rw [adm,agh (agi.1 h3).1,h3];exact h2
 refine Q6 aw ka lR rV (fun L B w st vs st' S h1 h2 h3=>Q8 h1 h2 h3) (n:=fn.ntmps) body 0 Si XA (by simp; omega) rfl UU (fun p hp=>⟨hP p hp,fun t _=>by have:=hP p hp; simp only; omega⟩) ?_
 intro a' w' S' Fh cI XB pW;obtain ⟨vs,eD,gL⟩:=Fe aw Fh NJ;have adg:=Fh.ov;rw [MV] at adg;have oG:bodyPost P fn (fun e w'=>∃ v,e=.returned v/\∃ S',Rel C Hx w' ⟨tm,aP.rt,up,st.of⟩ aJ S'/\ck w' (af C w' S' Hx) S' (oc rs) v/\(⟨tm,aP.rt,up,st.of⟩:St).of=st.of) .normal a' w':=by
  refine ⟨XB,u5 vs,eD,u5 vs,rfl,S',⟨Fh.rt,Fh.mem,?_,Fh.kept⟩,?_,rfl⟩
  ·cases adg with
   | cons _ h2=>exact h2
  ·cases gL with
   | nil=>exact ⟨#[],rfl,.nil⟩
   | cons h1 h2=>
    cases h2 with
    | nil=>exact h1
    | cons h3 h4=>
     refine ⟨_,rfl,?_⟩;have dM:∀ {ds:List D} {us:List Value},bZ (ck w' (af C w' S' Hx) S') ds us->ds.all RG=true->bZ (gp w' (af C w' S' Hx) S') ds us:=by
      intro ds us h
      induction h with
      | nil=>intro _; exact .nil
      | cons k1 _ ih=>
       intro hn;simp only [TO,wX] at hn;refine .cons ?_ (ih hn.2);rcases vX k1 with ⟨ds,us,rfl,_⟩ | ⟨_,k1⟩
       ·simp [RG] at hn
       ·exact k1
     exact dM (.cons h1 (.cons h3 h4)) hnt
 cases x with
 | normal=>exact oG
 | ret=>exact oG
 | _=>simp [uK] at hx
theorem NX (rX:∀ f e ds r outs,c.ext f=some e->e ds=some (r,outs)->kh P f/\∀ (w:World) (Y:Nat->Prop) (us:Array Value) (as9:List Arg),jG w Y (c.own f) ds us.toList as9->dw r=true->(∀ o∈outs,dw o=true)->
   Calls P f us w fun e w'=>∃ v,e=.returned v/\fp w w' Y (c.own f) as9 r outs v):
  ∀ k,lu P c.own (nq c P k).1/\rU P (nq c P k).2
 | 0=>⟨fun f ds r outs h=>by simp [nq] at h,fun f args CG st d st' h=>by simp [nq] at h⟩
 | k+1=>by
  obtain ⟨h1,h2⟩:=NX rX k;exact ⟨Sm aw h1 h2 rV su rX k,UY aw rV su h1 h2 k⟩
end
structure ej where
 ar:BinOp->IntKind->Int->Int->Int
 lt:Int->Int->Bool
 le:Int->Int->Bool
 eq:Int->Int->Bool
 adh:ByteArray->ByteArray->ByteArray
 adi:ByteArray->ByteArray->Bool
 seq:ByteArray->ByteArray->Bool
 beq:Bool->Bool->Bool
 Sn:ByteArray->Int
 wrap:IntKind->Int->Int
 enc:Int->ByteArray
 ba:Nat->Int
 bR:Int->Nat->Bool
 idx:Nat->Int->Nat->Nat
 da:IntKind->List D->Nat->Bool
 cd:List D->Nat->Int
 eH:List D->Nat->Bool
 df:List D->Nat->Bool
 isS:List D->Nat->Bool
 XC:List D->Nat->ByteArray
 cZ:Nat->List D->Nat->Bool
 cD:List D->Nat->Bool
 bM:List D->Nat->Nat
 bP:List D->Nat->List D
 UZ:List D->Nat->Bool
 rj:Int->Int->Nat->Bool
 gF:Int->Nat
 hI:Int->Int->Nat
 fits:Nat->Nat->Bool
 rY:List D->Bool
 AD:List D->ByteArray
 So:ByteArray->Nat
 sbs:ByteArray->List D
 XD:ByteArray->Int->Int
 adk:ByteArray->Int->Int->ByteArray
 flat:List D->Bool
 cell:List D->Bool
 mn:Int->Int->Int
 mx:Int->Int->Int
 u7:Int->Int->Nat->Bool
 slot:List D->Nat->Bool
 nl:List D->Bool
 ne:List D->Bool
 jL:Nat->List D->Nat->Bool
 neq:Nat->Nat->Bool
def u9:Option D->Int
 | some (.int _ n)=>n
 | _=>0
def BP:Option D->Bool
 | some (.bool b)=>b
 | _=>false
def XE:Option D->ByteArray
 | some (.str s)=>s
 | _=>⟨#[]⟩
def cG:Option D->Bool
 | some (.sl (some g) _ _ _)=>g
 | _=>false
def cN:Option D->Nat
 | some (.sl _ _ n _)=>n
 | _=>0
def cC:Option D->List D
 | some (.sl _ _ _ cs)=>cs
 | _=>[]
def fe (a b:IntKind):Bool:=decide (a=b)
def ad:ej where
 ar op k a b:=match op with
  | .add=>k.wrap (a+b)
  | .sub=>k.wrap (a - b)
  | .mul=>k.wrap (a*b)
  | .quo=>k.wrap (a.tdiv b)
  | .rem=>a.tmod b
  | .and=>k.wrap (BitVec.ofInt k.bits a&&& BitVec.ofInt k.bits b).toNat
  | .or=>k.wrap (BitVec.ofInt k.bits a||| BitVec.ofInt k.bits b).toNat
  | .xor=>k.wrap (BitVec.ofInt k.bits a ^^^ BitVec.ofInt k.bits b).toNat
  | .shl=>k.wrap (a*2 ^ (min b.toNat k.bits))
  | .shr=>a.fdiv (2 ^ (min b.toNat k.bits))
  | _=>0
 lt a b:=decide (a < b)
 le a b:=decide (a<=b)
 eq a b:=a==b
 adh a b:=a++b
 adi a b:=decide (a.size+b.size<=9223372036854775807)
 seq a b:=a.toList==b.toList
 beq a b:=a==b
 Sn s:=s.size
 wrap k n:=k.wrap n
 enc n:=Utf8.encode n
 ba n:=n
 bR i n:=decide (0<=i)&&decide (i < n)
 idx a i s:=(a+i.toNat)*s
 da k cs o:=match cs[o]? with | some (.int k' _)=>fe k' k | _=>false
 cd cs o:=u9 cs[o]?
 eH cs o:=match cs[o]? with | some (.bool _)=>true | _=>false
 df cs o:=BP cs[o]?
 isS cs o:=match cs[o]? with | some (.str _)=>true | _=>false
 XC cs o:=XE cs[o]?
 cZ s cs o:=match cs[o]? with | some (.sl (some _) s' _ _)=>s'==s | _=>false
 cD cs o:=cG cs[o]?
 bM cs o:=cN cs[o]?
 bP cs o:=cC cs[o]?
 UZ cs o:=match cs[o]? with | some (.sl none _ _ _)=>true | _=>false
 rj l h n:=decide (0<=l)&&decide (l<=h)&&decide (h<=n)
 gF i:=i.toNat
 hI h l:=h.toNat - l.toNat
 fits n b:=decide (n*b<=140737488355328)
 rY cs:=(lp byteOf cs).isSome
 AD cs:=⟨((lp byteOf cs).getD []).toArray⟩
 So s:=s.size
 sbs s:=s.data.toList.map dz
 XD s i:=u9 ((s.data.toList[i.toNat]?).map dz)
 adk s l h:=s.extract l.toNat h.toNat
 flat cs:=cs.all dY
 cell cs:=cs.all cM
 mn a b:=if b < a then b else a
 mx a b:=if b>a then b else a
 u7 l cp b:=decide (0<=l)&&decide (l<=cp)&&decide (cp*b<=140737488355328)
 slot cs o:=match cs[o]? with | some bB=>!gr bB | none=>false
 nl cs:=cb cs
 ne cs:=!cs.isEmpty
 jL s cs o:=match cs[o]? with | some (.sl none s' _ _)=>s'==s | _=>false
 neq a b:=decide (a=b)
def br {R:Type} (b:Bool) (x y:R):R:=match b with | true=>x | false=>y
section
variable (pr:ej) (c:cn)
def XF (t:TypeId) (op:BinOp) (x y:D):Option D:=
 match x,y with
 | .int k a,.int k' b=>match op with
  | .shl=>some (.int k (pr.ar .shl k a b))
  | .shr=>some (.int k (pr.ar .shr k a b))
  | .add=>if fe k k' then some (.int k (pr.ar .add k a b)) else none
  | .sub=>if fe k k' then some (.int k (pr.ar .sub k a b)) else none
  | .mul=>if fe k k' then some (.int k (pr.ar .mul k a b)) else none
  | .quo=>if fe k k' then some (.int k (pr.ar .quo k a b)) else none
  | .rem=>if fe k k' then some (.int k (pr.ar .rem k a b)) else none
  | .and=>if fe k k' then some (.int k (pr.ar .and k a b)) else none
  | .or=>if fe k k' then some (.int k (pr.ar .or k a b)) else none
  | .xor=>if fe k k' then some (.int k (pr.ar .xor k a b)) else none
  | .eql=>if fe k k' then some (.bool (pr.eq a b)) else none
  | .neq=>if fe k k' then some (.bool (!(pr.eq a b))) else none
  | .lss=>if fe k k' then some (.bool (pr.lt a b)) else none
  | .leq=>if fe k k' then some (.bool (pr.le a b)) else none
  | .gtr=>if fe k k' then some (.bool (pr.lt b a)) else none
  | .geq=>if fe k k' then some (.bool (pr.le b a)) else none
  | _=>none
 | .str a,.str b=>match op with
  | .add=>some (.str (pr.adh a b))
  | .eql=>some (.bool (pr.seq a b))
  | .neq=>some (.bool (!(pr.seq a b)))
  | _=>none
 | .bool a,.bool b=>match c.ty t with
  | some ⟨.bool,_,_,_⟩=>match op with
   | .eql=>some (.bool (pr.beq a b))
   | .neq=>some (.bool (!(pr.beq a b)))
   | _=>none
  | _=>none
 | _,_=>none
def NY (op:BinOp) (x y:D):Bool:=
 match x,y with
 | .int _ _,.int _ b=>match op with
  | .quo=>!(pr.eq b 0)
  | .rem=>!(pr.eq b 0)
  | .shl=>!(pr.lt b 0)
  | .shr=>!(pr.lt b 0)
  | _=>true
 | .str a,.str b=>match op with
  | .add=>pr.adi a b
  | _=>true
 | _,_=>true
def unU (op:UnOp) (x:D):Option D:=
 match op,x with
 | .neg,.int k n=>some (.int k (pr.ar .sub k 0 n))
 | .not,.bool b=>some (.bool (!b))
 | _,_=>none
def XG (st:St) (t:TypeId) (x:D):Option D:=
 match c.ty t,x with
 | some ⟨.str,_,_,_⟩,.str s=>some (.int .i64 (pr.Sn s))
 | some ⟨.slice _,_,_,_⟩,d=>match st.pN d with
  | some (_,_,n,_)=>some (.int .i64 (pr.ba n))
  | none=>none
 | _,_=>none
def Dv (z:D) (cs:List D) (o:Nat):D:=
 match z with
 | .int k _=>.int k (pr.cd cs o)
 | .bool _=>.bool (pr.df cs o)
 | .str _=>.str (pr.XC cs o)
 | .nil s=>.sl (some (pr.cD cs o)) s (pr.bM cs o) (pr.bP cs o)
 | _=>.undef
def Sp (z:D) (cs:List D) (o:Nat):Bool:=
 match z with
 | .int k _=>pr.da k cs o
 | .bool _=>pr.eH cs o
 | .str _=>pr.isS cs o
 | .nil s=>pr.cZ s cs o
 | _=>false
def yQ:List D->List D->Nat->List D
 | [],_,_=>[]
 | z::zs,cs,o=>Dv pr z cs o::yQ zs cs (o+1)
def AE:List D->List D->Nat->Bool
 | [],_,_=>true
 | z::zs,cs,o=>br (Sp pr z cs o) (AE zs cs (o+1)) false
def Dw (r:Nat) (q:List Nat) (z:D) (cs:List D) (o:Nat):D:=
 match z with
 | .int k _=>.int k (pr.cd cs o)
 | .bool _=>.bool (pr.df cs o)
 | .str _=>.str (pr.XC cs o)
 | .nil _=>.ref r q o none
 | _=>.undef
def Sq (z:D) (cs:List D) (o:Nat):Bool:=
 match z with
 | .int k _=>pr.da k cs o
 | .bool _=>pr.eH cs o
 | .str _=>pr.isS cs o
 | .nil _=>pr.UZ cs o
 | _=>false
def yR (r:Nat) (q:List Nat):List D->List D->Nat->List D
 | [],_,_=>[]
 | z::zs,cs,o=>Dw pr r q z cs o::yR r q zs cs (o+1)
def AF:List D->List D->Nat->Bool
 | [],_,_=>true
 | z::zs,cs,o=>br (Sq pr z cs o) (AF zs cs (o+1)) false
def Sr (st:St) (i:TI) (a:D):Option D:=
 match a with
 | .dK cs o=>match kj i.ty with
  | true=>match i.zero with
   | []=>none
   | z::zs=>some (.agg (yQ pr (z::zs) cs o))
  | false=>match i.zero with
   | [z]=>some (Dv pr z cs o)
   | _=>none
 | .ptr r (p::q) o=>match st.cells r (p::q) with
  | some cs=>match kj i.ty with
   | true=>match i.zero with
    | []=>none
    | z::zs=>some (.agg (yR pr r (p::q) (z::zs) cs o))
   | false=>match i.zero with
    | [z]=>some (Dw pr r (p::q) z cs o)
    | _=>none
  | none=>none
 | a=>qn st (kj i.ty) i.size a
def LV (st:St) (i:TI) (a:D):Bool:=
 match a with
 | .dK cs o=>AE pr i.zero cs o
 | .ptr r (p::q) o=>match st.cells r (p::q) with
  | some cs=>AF pr i.zero cs o
  | none=>false
 | _=>true
def yS (st:St) (t:TypeId) (x:D) (i:Int):Option D:=
 match c.ty t with
 | some ⟨.slice e,_,_,_⟩=>match c.ty e with
  | some ei=>match x with
   | .ref r q o x=>match st.cell r q o with
    | some (.sl none s _ _)=>if s=ei.size/\0 < s then some (.ptr r (q++[o]) (pr.idx (off x) i s)) else none
    | some (.sl (some _) s _ cs)=>if s=ei.size/\0 < s then some (.dK cs (pr.idx (off x) i s)) else none
    | _=>none
   | .sl (some _) s _ cs=>if s=ei.size/\0 < s then some (.dK cs (pr.idx 0 i s)) else none
   | _=>none
  | none=>none
 | some ⟨.array _ e,_,_,_⟩=>match c.ty e with
  | some ei=>match x with
   | .ptr r q o=>if live st r q then some (.ptr r q (o+pr.idx 0 i ei.size)) else none
   | .dK cs o=>some (.dK cs (o+pr.idx 0 i ei.size))
   | _=>none
  | none=>none
 | _=>none
def yT (st:St) (t:TypeId) (x:D) (i:Int):Bool:=
 match c.ty t with
 | some ⟨.slice _,_,_,_⟩=>match x with
  | .ref r q o x=>match st.cell r q o with
   | some (.sl _ s n cs)=>pr.bR i (trim x s n cs).1
   | _=>false
  | .sl (some _) _ n _=>pr.bR i n
  | _=>false
 | some ⟨.array n _,_,_,_⟩=>pr.bR i n
 | _=>false
def qK (d:Option D) (z:Int):Option Int:=
 match d with
 | none=>some z
 | some (.int _ i)=>some i
 | _=>none
def NZ (st:St) (t:TypeId) (x:D) (l h:Option D):Option D:=
 match c.ty t with
 | some ⟨.str,_,_,_⟩=>match x with
  | .str s=>match qK l 0,qK h (pr.Sn s) with
   | some l,some h=>some (.str (pr.adk s l h))
   | _,_=>none
  | _=>none
 | some ⟨.slice e,_,_,_⟩=>match c.ty e with
  | some ei=>match st.pN x with
   | some (g,s,n,cs)=>match qK l 0,qK h (pr.ba n) with
    | some l,some h=>if s=ei.size then
      match x with
      | .ref r q o y=>some (.ref r q o (some (off y+pr.gF l,pr.hI h l)))
      | .nil s=>some (.nil s)
      | _=>some (.sl g s (pr.hI h l) ((cs.drop (pr.gF l*s)).take (pr.hI h l*s)))
     else none
    | _,_=>none
   | none=>none
  | none=>none
 | _=>none
def N0 (st:St) (t:TypeId) (x:D) (l h:Option D):Bool:=
 match c.ty t with
 | some ⟨.str,_,_,_⟩=>match x with
  | .str s=>match qK l 0,qK h (pr.Sn s) with
   | some l,some h=>pr.rj l h (pr.So s)
   | _,_=>false
  | _=>false
 | some ⟨.slice _,_,_,_⟩=>match st.pN x with
   | some (_,_,n,_)=>match qK l 0,qK h (pr.ba n) with
    | some l,some h=>pr.rj l h n
    | _,_=>false
   | none=>false
 | _=>false
def Ss (st:St) (src dst:TypeId) (x:D):Option (D × Option (List D)):=
 match c.ty src,c.ty dst with
 | some si,some di=>
  match di.ty,si.ty,x with
  | .int k,_,.int _ n=>some (.int k (pr.wrap k n),none)
  | .str,_,.int _ n=>some (.str (pr.enc n),none)
  | .str,_,.str s=>some (.str s,none)
  | .str,.slice e,x=>match c.ty e with
   | some ⟨.int .u8,_,_,_⟩=>match st.pN x with
    | some (_,s,_,cs)=>if s=1 then some (.str (pr.AD cs),none) else none
    | none=>none
   | _=>none
  | _,_,_=>none
 | _,_=>none
def Su (st:St) (src dst:TypeId) (x:D):Bool:=
 match c.ty src,c.ty dst with
 | some si,some di=>
  match di.ty,si.ty,x with
  | .str,.slice _,x=>match st.pN x with
   | some (_,_,_,cs)=>pr.rY cs
   | none=>true
  | _,_,_=>true
 | _,_=>true
def Fi (st:St) (N1:Bool) (z:List D) (sz:Nat):D->Option (List D × Nat × St)
 | .int .i64 n=>if (z.map rD).all cM=true then some (fu (pr.gF n) z,pr.gF n,st) else none
 | .str s=>if sz=1 then some (pr.sbs s,pr.So s,st) else none
 | .nil _=>some ([],0,st)
 | .sl (some _) s n cs=>if s=sz then some (cs,n,st) else none
 | .ref r q o x=>match st.cell r q o with
  | some (.sl none s n cs)=>if s≠sz then none else if N1=true then some ((trim x s n cs).2,(trim x s n cs).1,st) else
   (match re st (lC r (q++[o]) (off x*s) (trim x s n cs).2) with
   | some (ys,st')=>if ys.all cM=true then some (ys,(trim x s n cs).1,st') else none
   | none=>none)
  | some (.sl (some _) s n cs)=>if s=sz then some ((trim x s n cs).2,(trim x s n cs).1,st) else none
  | _=>none
 | _=>none
def AG (st:St) (N1:Bool):D->Bool
 | .int .i64 n=>pr.le 0 n
 | .sl (some _) _ _ cs=>pr.cell cs
 | .ref r q o x=>match st.cell r q o with
  | some (.sl none s n cs)=>if N1=true then pr.flat (trim x s n cs).2 else true
  | some (.sl (some _) s n cs)=>pr.cell (trim x s n cs).2
  | _=>true
 | _=>true
def Hf (st:St) (t tx:TypeId) (dst:Option Nat) (s x:D):Option St:=
 match c.ty t with
 | some ⟨.slice e,_,_,_⟩=>match c.ty e with
  | some ei=>if GU c tx x=true then
    match target st ei.size s with
    | some (n,cs,aP)=>match Fi pr aP (ei.zero.all dY) ei.zero ei.size x with
     | some (ys,m,cj)=>
      if 0 < ei.size/\0 < ei.bytes then cj.root dst [.sl none ei.size (n+m) (cs++ys)] (fun d=>.ref d [] 0 none) else none
     | none=>none
    | none=>none
   else none
  | none=>none
 | _=>none
def Hg (st:St) (t:TypeId) (s x:D):Bool:=
 match c.ty t with
 | some ⟨.slice e,_,_,_⟩=>match c.ty e with
  | some ei=>match target st ei.size s with
   | some (n,_,aP)=>match Fi pr aP (ei.zero.all dY) ei.zero ei.size x with
    | some (_,m,_)=>br (AG pr aP (ei.zero.all dY) x) (pr.fits (n+m) ei.bytes) false
    | none=>false
   | none=>false
  | none=>false
 | _=>false
def N2 (st:St) (t:TypeId) (x:D):Option St:=
 match c.ty t with
 | some ⟨.slice e,_,_,_⟩=>match c.ty e with
  | some ei=>match x with
   | .ref r [] o y=>match lk st.rt r with
    | some R=>match R[o]? with
     | some (.sl none s n cs)=>if s=ei.size/\0 < s/\ei.zero.all dY=true then some { st with rt:=pz st.rt r (R.set o (.sl none s n (List.append (List.take (off y*s) cs) (List.append (fu (trim y s n cs).1 ei.zero) (List.drop ((off y+(trim y s n cs).1)*s) cs))))) } else none
     | _=>none
    | none=>none
   | _=>none
  | none=>none
 | _=>none
def N3 (st:St) (x:D):Bool:=
 match x with
 | .ref r [] o y=>match lk st.rt r with
  | some R=>match R[o]? with
   | some (.sl none s n cs)=>br (pr.flat cs) (pr.slot cs ((off y+(trim y s n cs).1)*s - 1)) false
   | _=>false
  | none=>false
 | _=>false
variable (md:FuncId->List D->Option (Bool × (D × List D))) (ci:FuncId->List D->Nat->St->Option (D × St)) (aC:FuncId)
def va (md:FuncId->List D->Option (Bool × (D × List D))) (f:FuncId) (ds:List D):Option (D × List D):=
 match md f ds with
 | some (_,r)=>some r
 | none=>none
def U0 (pr:ej):D->Bool
 | .sl (some true) _ _ _=>false
 | .sl _ _ _ cs=>pr.nl cs
 | _=>true
def CM (pr:ej) (d:D):Bool:=(bX d).all fun x=>fy x&&U0 pr x
def Sv (c:cn) (cl:FuncId->List D->Option (D × List D)) (st:St) (dst:Option Nat) (f:FuncId) (args:List D):Option St:=
 match mH st (c.own f) args with
 | some (ds,aP)=>
  let t:=fB (c.own f) ds
  match cl f (if t then j8 (c.own f) ds else ds) with
  | some (r,outs)=>
   match im aP id (c.own f) args (if t then outs.map (gJ true) else outs) with
   | some cj=>match dst with
    | some i=>let p:=cj.qm (cj.of+i) (if t then gJ true r else r); some (p.1.put (some i) p.2)
    | none=>some cj
   | none=>none
  | none=>none
 | none=>none
def vc:D->Bool
 | .int .. | .bool _ | .str _=>true
 | _=>false
def opU (st:St) (o:Oper):Option St:=
 match o.op with
 | .binOp op t x y _=>match XF pr c t op (ch c st t x) (ch c st t y) with
  | some d=>some (st.put o.dst d)
  | none=>none
 | .unOp op _ x=>match unU pr op (ch c st o.type x) with
  | some d=>some (st.put o.dst d)
  | none=>none
 | .load t a=>match c.ty t with
  | some i=>match Sr pr st i (ch c st o.type a) with
   | some d=>some (st.put o.dst d)
   | none=>none
  | none=>none
 | .convert src dst x=>match Ss pr c st src dst (ch c st src x) with
  | some (d,none)=>some (st.put o.dst d)
  | some (_,some cs)=>st.root o.dst cs (fun d=>.ref d [] 0 none)
  | none=>none
 | .store t a x=>match c.ty t with
  | some i=>match ch c st o.type a with
   | .ptr r (p::q) j=>if (i.size==1&&vc (ch c st t x))=true then (match st.gI r (p::q) j (ch c st t x) with
     | some st'=>some (st'.put o.dst (.aG []))
     | none=>none) else eY c (va md) ci aC st o
   | _=>eY c (va md) ci aC st o
  | none=>none
 | .makeSlice t l cp=>match c.ty t with
  | some ⟨.slice e,_,_,_⟩=>match c.ty e,ch c st o.type l,ch c st o.type cp with
   | some ei,.int _ l,.int _ _=>if 0 < ei.bytes then st.root o.dst [.sl none ei.size (pr.gF l) (fu (pr.gF l) ei.zero)] (fun d=>.ref d [] 0 none) else none
   | _,_,_=>none
  | _=>none
 | .slice t x l h none=>match NZ pr c st t (ch c st t x) (l.map (ch c st o.type)) (h.map (ch c st o.type)) with
  | some d=>some (st.put o.dst d)
  | none=>none
 | .indexAddr t x i=>match ch c st o.type i with
  | .int _ i=>match yS pr c st t (ch c st t x) i with
   | some d=>some (st.put o.dst d)
   | none=>none
  | _=>none
 | .index t x i=>match ch c st o.type i with
  | .int k i=>match c.ty t,ch c st o.type x with
   | some ⟨.str,_,_,_⟩,.str s=>some (st.put o.dst (.int .u8 (pr.XD s i)))
   | _,x=>match wZ c t x i with
    | some d=>some (st.put o.dst d)
    | none=>none
  | _=>none
 | .call cc=>match cc.callee with
  | .builtin .len=>if cc.args.size≠cc.argTypes.size then none else
   match (cc.args.toList.zip cc.argTypes.toList).map fun p=>ch c st p.2 p.1,cc.argTypes.toList with
   | [x],[t]=>match XG pr c st t x with
    | some d=>some (st.put o.dst d)
    | none=>none
   | _,_=>none
  | .builtin .min=>if cc.args.size≠cc.argTypes.size then none else
   match (cc.args.toList.zip cc.argTypes.toList).map fun p=>ch c st p.2 p.1 with
   | [.int k a,.int _ b]=>some (st.put o.dst (.int k (pr.mn a b)))
   | _=>none
  | .builtin .max=>if cc.args.size≠cc.argTypes.size then none else
   match (cc.args.toList.zip cc.argTypes.toList).map fun p=>ch c st p.2 p.1 with
   | [.int k a,.int _ b]=>some (st.put o.dst (.int k (pr.mx a b)))
   | _=>none
  | .builtin .append=>if cc.args.size≠cc.argTypes.size then none else
   match (cc.args.toList.zip cc.argTypes.toList).map fun p=>ch c st p.2 p.1,cc.argTypes.toList with
   | [s,x],[t,tx]=>Hf pr c st t tx o.dst s x
   | _,_=>none
  | .builtin .clear=>if cc.args.size≠cc.argTypes.size then none else
   match (cc.args.toList.zip cc.argTypes.toList).map fun p=>ch c st p.2 p.1,cc.argTypes.toList with
   | [x],[t]=>match N2 c st t x with
    | some st'=>some (st'.put o.dst (.aG []))
    | none=>none
   | _,_=>none
  | .value f=>if cc.args.size≠cc.argTypes.size then none else
   match ch c st o.type f with
   | .fn g gH=>if c.inl g then eY c (va md) ci aC st o else Sv c (va md) st o.dst g (((cc.args.toList.zip cc.argTypes.toList).map fun p=>ch c st p.2 p.1)++gH)
   | _=>none
  | _=>eY c (va md) ci aC st o
 | _=>eY c (va md) ci aC st o
def opC (st:St) (o:Oper):Bool:=
 match o.op with
 | .binOp op t x y _=>NY pr op (ch c st t x) (ch c st t y)
 | .load t a=>match c.ty t with
  | some i=>LV pr st i (ch c st o.type a)
  | none=>true
 | .convert src dst x=>Su pr c st src dst (ch c st src x)
 | .store t a x=>match c.ty t with
  | some i=>match ch c st o.type a with
   | .ptr r (p::q) j=>if (i.size==1&&vc (ch c st t x))=true then (match st.cells r (p::q) with
      | some cs=>pr.slot cs j
      | none=>true) else true
   | _=>true
  | none=>true
 | .makeSlice t l cp=>match c.ty t with
  | some ⟨.slice e,_,_,_⟩=>match c.ty e,ch c st o.type l,ch c st o.type cp with
   | some ei,.int _ l,.int _ cp=>pr.u7 l cp ei.bytes
   | _,_,_=>true
  | _=>true
 | .slice t x l h none=>N0 pr c st t (ch c st t x) (l.map (ch c st o.type)) (h.map (ch c st o.type))
 | .indexAddr t x i=>match ch c st o.type i with
  | .int _ i=>yT pr c st t (ch c st t x) i
  | _=>true
 | .index t x i=>match ch c st o.type i with
  | .int _ i=>match c.ty t,ch c st o.type x with
   | some ⟨.str,_,_,_⟩,.str s=>pr.bR i (pr.So s)
   | _,_=>true
  | _=>true
 | .call cc=>match cc.callee with
  | .builtin .append=>
   match (cc.args.toList.zip cc.argTypes.toList).map fun p=>ch c st p.2 p.1,cc.argTypes.toList with
   | [s,x],[t,_]=>Hg pr c st t s x
   | _,_=>true
  | .builtin .clear=>
   match (cc.args.toList.zip cc.argTypes.toList).map fun p=>ch c st p.2 p.1 with
   | [x]=>N3 pr st x
   | _=>true
  | .value f=>match ch c st o.type f with
   | .fn g gH=>if c.inl g then true else
    (match mH st (c.own g) (((cc.args.toList.zip cc.argTypes.toList).map fun p=>ch c st p.2 p.1)++gH) with
     | some (ds,_)=>(match md g (if fB (c.own g) ds then j8 (c.own g) ds else ds) with
       | some (b,(r,outs))=>b&&(CM pr r&&outs.all (CM pr))
       | none=>true)
     | none=>true)
   | _=>true
  | _=>true
 | _=>true
def U1 {α:Type}:List (Nat × α)->Nat->α->List (Nat × α)
 | [],_,_=>[]
 | (j,u)::t,k,v=>if j=k then (k,v)::t else (j,u)::U1 t k v
def St.lit (st:St) (t:Nat) (b:Bool):St:={ st with tm:=U1 st.tm t (.bool b) }
variable {R:Type}
def Ra (st:St) (o:Oper) (k:St->Option R):Option R:=
 match uH c aC st o with
 | true=>br (opC pr c md st o) (match opU pr c md ci aC st o with
  | some st'=>k st'
  | none=>none) none
 | false=>none
def LW (st:St) (x:Operand) (a b:St->Option R):Option R:=
 match x with
 | .tmp t=>match st.get t with
  | .bool v=>br v (a (st.lit t true)) (b (st.lit t false))
  | _=>none
 | x=>match ch c st 0 x with
  | .bool v=>br v (a st) (b st)
  | _=>none
def opsOf (ops:Array Oper) (l:List Nat):List Oper:=l.filterMap fun i=>ops[i]?
def Dx (fn:Func) (args:List D) (x:Exit) (st:St):Option (D × List D):=
 match uK x,uL fn.ntmps args.length with
 | true,true=>(match wG c st fn.results.toList with
  | some ds=>match ME st ds with
   | some (ds',st')=>match po fn.ntmps 0 args st' with
    | some os=>some (oc ds',os)
    | none=>none
   | none=>none
  | none=>none)
 | _,_=>none
end
theorem oq {R:Type} {b:Bool} {x:Option R} {r:R} (h:br b x none=some r):b=true/\x=some r:=by
 cases b with
 | true=>exact ⟨rfl,h⟩
 | false=>simp [br] at h
theorem lT {b x:Bool} (h:br b x false=true):b=true/\x=true:=by
 cases b with
 | true=>exact ⟨rfl,h⟩
 | false=>simp [br] at h
section
variable {c:cn} {st st':St}
theorem aaS {t:TypeId} {op:BinOp} {x y d:D} (hc:NY ad op x y=true) (h:XF ad c t op x y=some d):rC c t op x y=some d:=by
  unfold XF at h;split at h
  · rename_i k a k' b
    simp only [rC];cases op<;>simp only [fe,decide_eq_true_eq,ad,reduceCtorEq] at h ⊢<;>
      first
        | (simp only [NY,ad,adv,beq_eq_false_iff_ne,ne_eq] at hc
           split at h
           · rename_i hk
             subst hk;simp only [if_true,zY];rw [if_neg hc];exact h
           · simp at h)
        | (split at h
           · rename_i hk
             subst hk;simp only [if_true,zY];exact h
           · simp at h)
        | (simp only [NY,ad,adv,decide_eq_false_iff_not] at hc
           simp only [uC];rw [if_neg hc];exact h)
  · rename_i a b
    simp only [rC,MF];cases op<;>simp only [ad,reduceCtorEq] at h ⊢
    · simp only [NY,ad,decide_eq_true_eq] at hc
      rw [if_pos hc]; exact h
    · exact h
    · exact h
  · rename_i a b
    simp only [rC];split at h
    · rename_i fK
      rw [fK];simp only [GS];cases op<;>simp only [ad,reduceCtorEq] at h ⊢<;>exact h
    · simp at h
  · simp at h
theorem ado {op:UnOp} {x d:D} (h:unU ad op x=some d):Ze op x=some d:=by
 unfold unU at h;split at h
 ·simp only [ad] at h; exact h
 ·exact h
 ·simp at h
theorem aaT {t:TypeId} {x d:D} (h:XG ad c st t x=some d):MG c st t x=some d:=by
 unfold XG at h;unfold MG;split at h
 ·rename_i heq;rw [heq];exact h
 ·rename_i heq;rw [heq];simp only;split at h
  ·rename_i h1; rw [h1]; exact h
  ·simp at h
 ·simp at h
theorem Rb {z:D} {cs:List D} {o:Nat} (h:Sp ad z cs o=true):cs[o]?=some (Dv ad z cs o):=by
 unfold Sp at h;split at h
 ·simp only [ad] at h;split at h
  ·rename_i k n hc;simp only [fe,decide_eq_true_eq] at h;subst h;simp only [Dv,ad,hc,u9]
  ·simp at h
 ·simp only [ad] at h;split at h
  ·rename_i b hc; simp only [Dv,ad,hc,BP]
  ·simp at h
 ·simp only [ad] at h;split at h
  ·rename_i b hc; simp only [Dv,ad,hc,XE]
  ·simp at h
 ·simp only [ad] at h;split at h
  ·rename_i g s n xs hc;simp only [beq_iff_eq] at h;subst h;simp only [Dv,ad,hc,cG,cN,cC]
  ·simp at h
 ·simp at h
theorem N4:∀ {zs cs:List D} {o:Nat},AE ad zs cs o=true->(∀ i,i < zs.length->cs[o+i]?=(yQ ad zs cs o)[i]?)/\(yQ ad zs cs o).length=zs.length
 | [],cs,o,_=>⟨by simp,rfl⟩
 | z::zs,cs,o,h=>by
  simp only [AE] at h;obtain ⟨h1,h2⟩:=lT h;obtain ⟨k1,k2⟩:=N4 h2;refine ⟨fun i hi=>?_,by simp [yQ,k2]⟩
  cases i with
  | zero=>simp only [agF,yQ,acH]; exact Rb h1
  | succ i=>
   simp only [yQ,adn];rw [show o+(i+1)=o+1+i by omega]
   exact k1 i (by simpa using hi)
theorem XH {cs es:List D} {o n:Nat} (h:∀ i,i < n->cs[o+i]?=es[i]?) (hl:es.length=n) (h0:0 < n):(cs.drop o).take n=es/\o+n<=cs.length:=by
 have hlen:o+n<=cs.length:=by
  have h1:=h (n - 1) (by omega)
  rw [ace (l:=es) (by omega)] at h1
  have:=(aaa.1 h1).1;omega
 refine ⟨?_,hlen⟩;apply agk;intro i;rw [ael];by_cases hi:i < n
 ·rw [if_pos hi,aen]; exact h i hi
 ·rw [if_neg hi,ac3 (by omega)]
theorem Rc {r:Nat} {q:List Nat} {z:D} {cs:List D} {o:Nat} (h:Sq ad z cs o=true):∃ d,cs[o]?=some d/\gA r q o d=Dw ad r q z cs o:=by
 unfold Sq at h;split at h
 ·simp only [ad] at h;split at h
  ·rename_i k n hc;simp only [fe,decide_eq_true_eq] at h;subst h;exact ⟨_,hc,by simp only [gA,Dw,ad,hc,u9]⟩
  ·simp at h
 ·simp only [ad] at h;split at h
  ·rename_i b hc; exact ⟨_,hc,by simp only [gA,Dw,ad,hc,BP]⟩
  ·simp at h
 ·simp only [ad] at h;split at h
  ·rename_i b hc; exact ⟨_,hc,by simp only [gA,Dw,ad,hc,XE]⟩
  ·simp at h
 ·simp only [ad] at h;split at h
  ·rename_i n hc;exact ⟨_,hc,by simp only [gA,Dw]⟩
  ·simp at h
 ·simp at h
theorem N5 {r:Nat} {q:List Nat}:∀ {zs cs:List D} {o:Nat},AF ad zs cs o=true->(∀ i,i < zs.length->(cs[o+i]?).map (gA r q (o+i))=(yR ad r q zs cs o)[i]?)/\(yR ad r q zs cs o).length=zs.length
 | [],cs,o,_=>⟨by simp,rfl⟩
 | z::zs,cs,o,h=>by
  simp only [AF] at h;obtain ⟨h1,h2⟩:=lT h;obtain ⟨k1,k2⟩:=N5 (r:=r) (q:=q) h2;refine ⟨fun i hi=>?_,by simp [yR,k2]⟩
  cases i with
  | zero=>
   obtain ⟨d,e1,e2⟩:=Rc (r:=r) (q:=q) h1;simp only [agF,yR,acH,e1,MD,e2]
  | succ i=>
   simp only [yR,adn];rw [show o+(i+1)=o+1+i by omega]
   exact k1 i (by simpa using hi)
theorem XI {r:Nat} {q:List Nat} {cs es:List D} {o n:Nat} (h:∀ i,i < n->(cs[o+i]?).map (gA r q (o+i))=es[i]?) (hl:es.length=n) (h0:0 < n):lC r q o ((cs.drop o).take n)=es/\o+n<=cs.length:=by
 have hlen:o+n<=cs.length:=by
  have h1:=h (n - 1) (by omega)
  rw [ace (l:=es) (by omega)] at h1
  cases hc:cs[o+(n - 1)]? with
  | none=>rw [hc] at h1; simp at h1
  | some d=>
   have:=(aaa.1 hc).1;omega
 refine ⟨?_,hlen⟩;apply agk;intro i;rw [nv,ael];by_cases hi:i < n
 ·rw [if_pos hi,aen]; exact h i hi
 ·rw [if_neg hi,ac3 (l:=es) (by omega)]; rfl
theorem XJ {i:TI} {a d:D} (hz:i.zero.length=i.size) (hc:LV ad st i a=true) (h:Sr ad st i a=some d):qn st (kj i.ty) i.size a=some d:=by
 unfold Sr at h;split at h
 ·rename_i cs o;simp only [LV] at hc;obtain ⟨k1,k2⟩:=N4 hc;simp only [qn];split at h
  ·rename_i Cy;split at h
   ·simp at h
   ·rename_i z zs ke;simp only [mN] at h;rw [ke] at k1 k2 hz;obtain ⟨e1,e2⟩:=XH k1 k2 (by simp)
    rw [Cy,if_pos rfl,if_pos (by rw [<- hz]; exact ⟨by simp,e2⟩),<- hz,e1,h]
  ·rename_i Cy;split at h
   ·rename_i z ke;simp only [mN] at h;rw [ke] at hc;simp only [AE] at hc;have:=Rb (lT hc).1;rw [Cy];simp only [acq,if_false];rw [this,h]
   ·simp at h
 ·rename_i r p q o;split at h
  case h_2=>simp at h
  rename_i cs ec;simp only [LV,ec] at hc;obtain ⟨k1,k2⟩:=N5 (r:=r) (q:=p::q) hc;simp only [qn,ec];split at h
  ·rename_i Cy;split at h
   ·simp at h
   ·rename_i z zs ke;simp only [mN] at h;rw [ke] at k1 k2 hz;obtain ⟨e1,e2⟩:=XI k1 k2 (by simp)
    rw [Cy,if_pos rfl,if_pos (by rw [<- hz]; exact ⟨by simp,e2⟩),<- hz,e1,h]
  ·rename_i Cy;split at h
   ·rename_i z ke;simp only [mN] at h;rw [ke] at hc;simp only [AF] at hc;obtain ⟨d',q1,q2⟩:=Rc (r:=r) (q:=p::q) (lT hc).1;rw [Cy];simp only [acq,if_false,q1];rw [q2,h]
   ·simp at h
 ·exact h
theorem xx {i:Int} {n:Nat} {d:D} (h:ad.bR i n=true):km i n (some d)=some d:=by
 simp only [ad,wX,decide_eq_true_eq] at h;unfold km;rw [if_pos h.1,if_pos h.2]
theorem Kd {t:TypeId} {x d:D} {i:Int} (hc:yT ad c st t x i=true) (h:yS ad c st t x i=some d):qo st c t x i=some d:=by
 unfold yS at h;unfold yT at hc;unfold qo;split at h
 ·rename_i e sz pR z fK;rw [fK] at hc ⊢;simp only at hc ⊢;split at h
  case h_2=>simp at h
  rename_i ei gZ;rw [gZ];simp only;split at h
  ·split at h
   ·rename_i cB;simp only [cB] at hc ⊢;split at h
    ·rename_i hs;simp only [mN] at h;rw [if_pos hs,<- h];exact xx hc
    ·simp at h
   ·rename_i cB;simp only [cB] at hc ⊢;split at h
    ·rename_i hs;simp only [mN] at h;rw [if_pos hs,<- h];exact xx hc
    ·simp at h
   ·simp at h
  ·split at h
   ·rename_i hs;simp only [mN] at h;simp only at hc ⊢;rw [if_pos hs,<- h];simp only [ad,aef];exact xx hc
   ·simp at h
  ·simp at h
 ·rename_i n e sz pR z fK;rw [fK] at hc ⊢;simp only at hc ⊢;split at h
  case h_2=>simp at h
  rename_i ei gZ;rw [gZ];simp only;split at h
  ·split at h
   ·rename_i hl;simp only [mN] at h;simp only;rw [if_pos hl,<- h];simp only [ad,aef];exact xx hc
   ·simp at h
  ·simp only [mN] at h;rw [<- h];simp only [ad,aef];exact xx hc
  ·simp at h
 ·simp at h
theorem JB (d:Option D) (z:Int):qK d z=bound d z:=by
 cases d with
 | none=>rfl
 | some d=>cases d<;>rfl
theorem Re {l h:Int} {n:Nat} (hr:ad.rj l h n=true):0<=l/\l<=h/\h<=n:=by
 simp only [ad,wX,decide_eq_true_eq] at hr;exact ⟨hr.1.1,hr.1.2,hr.2⟩
theorem U2 {t:TypeId} {x d:D} {l h:Option D} (hc:N0 ad c st t x l h=true) (hs:NZ ad c st t x l h=some d):zZ c st t x l h=some d:=by
 unfold NZ at hs;unfold N0 at hc;unfold zZ;split at hs
 ·rename_i fK;rw [fK] at hc ⊢;simp only at hc ⊢;split at hs
  case h_2=>simp at hs
  rename_i s;split at hs
  case h_2=>simp at hs
  rename_i l' h' hl hh;simp only [hl,hh] at hc;rw [JB] at hl hh;have hh2:bound h s.size=some h':=hh;simp only [Et];rw [hl,hh2];simp only;have:=Re hc;rw [if_pos (show 0<=l'/\l'<=h'/\h'<=(s.size:Int) from this)];exact hs
 ·rename_i e sz pR z fK;rw [fK] at hc ⊢;simp only at hc ⊢;split at hs
  case h_2=>simp at hs
  rename_i ei gZ;rw [gZ];simp only;split at hs
  case h_2=>simp at hs
  rename_i g s n cs gx;simp only [gx] at hc;split at hs
  case h_2=>simp at hs
  rename_i l' h' hl hh;simp only [hl,hh] at hc;rw [JB] at hl hh;have hh2:bound h n=some h':=hh;split at hs
  case isFalse=>simp at hs
  rename_i hse;unfold Eu;rw [gx];simp only [hl,hh2];have:=Re hc;rw [if_pos ⟨hse,this⟩];exact hs
 ·simp at hs
theorem N6 {src dst:TypeId} {x:D} {p:D × Option (List D)} (hc:Su ad c st src dst x=true) (h:Ss ad c st src dst x=some p):vO c st src dst x=some p:=by
 unfold Ss at h;unfold Su at hc;unfold vO;split at h
 case h_2=>simp at h
 rename_i si di hs hd;rw [hs,hd] at hc ⊢;simp only at hc ⊢;split at h
 ·rename_i hk; simp only [hk]; exact h
 ·rename_i hk; simp only [hk]; exact h
 ·rename_i hk; simp only [hk]; exact h
 ·rename_i x0 ty1 ty2 x1 e hk Nl h1 h2;simp only [hk,Nl] at hc ⊢;split at h
  case h_2=>simp at h
  rename_i he;rw [he];simp only;split at h
  case h_2=>simp at h
  rename_i g s n cs gx;simp only [gx] at hc;split at h
  case isFalse=>simp at h
  rename_i qD;have hb:(lp byteOf cs).isSome=true:=by
   cases x0<;>first | exact hc | (simp [St.pN] at gx; done)
  obtain ⟨bs,wa⟩:=af3.1 hb;have afe:(match st.pN x0 with
    | some (_,s,_,cs)=>if s=1 then (match lp byteOf cs with
     | some bs=>some (D.str ⟨bs.toArray⟩,(none:Option (List D)))
     | none=>none) else none
    | none=>none)=some p:=by
   rw [gx];simp only [qD,if_true,wa];simp only [ad,wa,ags] at h;exact h
  cases x0<;>first | exact afe | exact absurd rfl (h1 _ _) | exact absurd rfl (h2 _)
 ·simp at h
theorem U3 {N1:Bool} {z:List D} {sz:Nat} {d:D} {p:List D × Nat × St} (hc:AG ad st N1 d=true) (h:Fi ad st N1 z sz d=some p):elems st N1 z sz d=some p:=by
 unfold Fi at h;unfold elems;split at h
 ·rename_i n;simp only [AG,ad,decide_eq_true_eq] at hc;split at h
  ·rename_i hz;simp only;rw [if_pos ⟨hc,hz⟩];exact h
  ·simp at h
 ·exact h
 ·exact h
 ·rename_i g s n cs;simp only [AG] at hc;split at h
  ·rename_i hs;simp only;rw [if_pos ⟨hs,hc⟩];exact h
  ·simp at h
 ·rename_i r q o x;simp only [AG] at hc;split at h
  ·rename_i s n cs cB;simp only [cB] at hc ⊢;split at h
   ·simp at h
   ·rename_i hs;rw [if_neg hs];split at h
    ·rename_i hf;rw [if_pos hf] at hc ⊢;rw [if_pos (show (trim x s n cs).2.all dY=true from hc)];exact h
    ·rename_i hf;rw [if_neg hf];exact h
  ·rename_i g s n cs cB;simp only [cB] at hc ⊢;split at h
   ·rename_i hs;rw [if_pos ⟨hs,hc⟩];exact h
   ·simp at h
  ·simp at h
 ·simp at h
theorem zw {st:St} {r o s n:Nat} {R:List D} (ho:o < R.length):∀ (ds xs:List D) (j:Nat),ds.all dY=true->xs.all dY=true->j+ds.length<=xs.length->
  fA { st with rt:=pz st.rt r (R.set o (.sl none s n xs)) } r [o] j id ds=some { st with rt:=pz st.rt r (R.set o (.sl none s n (List.take j xs++(ds++List.drop (j+ds.length) xs)))) }
 | [],xs,j,_,_,_=>by simp [fA]
 | d::ds,xs,j,hd,hx,hl=>by
  simp only [TO,wX] at hd;simp only [adj] at hl;have hj:j < xs.length:=by omega
  have NI:o < (R.set o (.sl none s n xs)).length:=by simpa using ho
  have hc:St.cell { st with rt:=pz st.rt r (R.set o (.sl none s n xs)) } r [o] j=some xs[j]:=by
   simp [St.cell,St.cells,gK,jF,ho,hj]
  have hold:gr xs[j]=false:=by
   have:=ab9.1 hx _ (acN hj);cases hxj:xs[j]<;>rw [hxj] at this<;>simp [dY] at this<;>rfl
  have hdn:z7 r [o] j d=false/\gr d=false/\cM d=true/\(∀ s0:St,iS s0 d=some (d,s0))/\(∀ s0:St,s0.sj d r [o] j=s0)/\uE d r [o] j=id:=by
   have:=hd.1;cases d<;>simp [dY] at this<;>exact ⟨rfl,rfl,rfl,fun _=>rfl,fun _=>rfl,rfl⟩
  obtain ⟨e1,e2,e3,e4,e5,e6⟩:=hdn;have iv:St.gI { st with rt:=pz st.rt r (R.set o (.sl none s n xs)) } r [o] j d=some { st with rt:=pz st.rt r (R.set o (.sl none s n (xs.set j d))) }:=by
   simp [St.gI,gK,n9,ho,C2]
  have ih:=zw (st:=st) (r:=r) (s:=s) (n:=n) ho ds (xs.set j d) (j+1) hd.2 (ab9.2 fun y hy=>by
   rcases ajx hy with hy | rfl
   ·exact ab9.1 hx _ hy
   ·exact hd.1) (by rw [List.length_set]; omega)
  rw [fA];simp only [id,e1,agj,acq,if_false,e4,e3,ahc,St.rf,hc,hold,e2,iv,e5,e6];refine ih.trans ?_;have:List.take (j+1) (xs.set j d)=List.take j xs++[d]:=by
   rw [List.set_eq_take_append_cons_drop,if_pos hj,List.take_append,acG,ajB (by omega),aek (by rw [acG]; omega),show j+1 - j=1 by omega]
   rfl
  rw [this,List.drop_set_of_lt (by omega),acz,show j+1+ds.length=j+(d::ds).length by simp only [adj]; omega]
  rfl
theorem U4 {t:TypeId} {x:D} (zp:∀ e i,c.ty e=some i->i.zero.length=i.size) (hc:N3 ad st x=true) (h:N2 c st t x=some st'):z8 c st t x=some st':=by
 unfold N2 at h;unfold z8;split at h
 case h_2=>simp at h
 rename_i e tsz tby tz fK;rw [fK];simp only;split at h
 case h_2=>simp at h
 rename_i ei gZ;rw [gZ];simp only;split at h
 case h_2=>simp at h
 rename_i r o y;simp only [N3] at hc;split at h
 case h_2=>simp at h
 rename_i R hR;simp only [hR] at hc ⊢;split at h
 case h_2=>simp at h
 rename_i s n cs ec;simp only [ec] at hc;split at h
 case isFalse=>simp at h
 rename_i hs;obtain ⟨qD,sU,hz⟩:=hs;simp only [mN] at h;subst h;have cB:st.cell r [] o=some (.sl none s n cs):=by simp [St.cell,St.cells,hR,jF,ec]
 rw [cB];simp only;rw [if_pos ⟨qD,sU⟩];cases hf:ad.flat cs with
 | false=>rw [hf] at hc; simp [br] at hc
 | true=>
  rw [hf] at hc;simp only [br] at hc;have hlen:(off y+(trim y s n cs).1)*s - 1 < cs.length:=by
   simp only [ad] at hc;split at hc
   ·rename_i h1;exact (aaa.1 h1).1
   ·simp at hc
  have ho:=(aaa.1 ec).1;have hrz:ei.zero.map rD=ei.zero:=by
   have key:∀ l:List D,l.all dY=true->l.map rD=l:=by
    intro l
    induction l with
    | nil=>intro _; rfl
    | cons d l ih=>
     intro hl;simp only [TO,wX] at hl;rw [ac6,ih hl.2];have:=hl.1;cases d<;>simp [dY] at this<;>rfl
   exact key _ hz
  have dO:R.set o (.sl none s n cs)=R:=by
   obtain ⟨h1,h2⟩:=aaa.1 ec;rw [<- h2,List.set_getElem_self]
  have hl:(List.replicate (trim y s n cs).1 ei.zero).flatten.length=(trim y s n cs).1*s:=by
   simp only [agS,agV,agB,zp e ei gZ,qD]
  have hm:off y*s+(trim y s n cs).1*s=(off y+(trim y s n cs).1)*s:=(af2 _ _ _).symm;have hk:=zw (st:=st) (r:=r) (s:=s) (n:=n) ho (List.replicate (trim y s n cs).1 ei.zero).flatten cs (off y*s) (ab9.2 fun d hd=>by
   simp only [agR,List.mem_replicate] at hd;obtain ⟨l,⟨_,rfl⟩,hd⟩:=hd;exact ab9.1 hz d hd) hf (by rw [hl,hm]; omega)
  rw [dO,hl,hm] at hk;unfold fu;rw [hrz];exact hk
theorem Sw {t tx:TypeId} {dst:Option Nat} {s x:D} (hc:Hg ad c st t s x=true) (h:Hf ad c st t tx dst s x=some st'):rF c st t tx dst s x=some st':=by
 unfold Hf at h;unfold Hg at hc;unfold rF;split at h
 case h_2=>simp at h
 rename_i e sz pR z fK;rw [fK] at hc ⊢;simp only at hc ⊢;split at h
 case h_2=>simp at h
 rename_i ei gZ;rw [gZ] at hc ⊢;simp only at hc ⊢;split at h
 case isFalse=>simp at h
 rename_i ny;rw [if_pos ny];split at h
 case h_2=>simp at h
 rename_i n cs aP qC;rw [qC] at hc ⊢;simp only at hc ⊢;split at h
 case h_2=>simp at h
 rename_i ys m cj fr;rw [fr] at hc;simp only at hc;obtain ⟨h1,h2⟩:=lT hc;rw [U3 h1 fr];simp only;split at h
 case isFalse=>simp at h
 rename_i hb;simp only [ad,decide_eq_true_eq] at h2;rw [if_pos ⟨hb.1,hb.2,h2⟩];exact h
theorem xz {cl Rf:FuncId->List D->Option (D × List D)} {ci:FuncId->List D->Nat->St->Option (D × St)} {aC:FuncId} {o:Oper} (h:∀ cc f,o.op=.call cc->cc.callee≠.value f):eY c cl ci aC st o=eY c Rf ci aC st o:=by
 unfold eY;cases ho:o.op with
 | call cc=>
  simp only;cases mf:cc.callee with
  | value f=>exact absurd mf (h cc f ho)
  | builtin b=>cases b<;>rfl
  | _=>rfl
 | makeFunc fn fi ca=>cases fn<;>rfl
 | slice t x l h mx=>cases mx<;>rfl
 | _=>rfl
theorem N7 {cl Rf:FuncId->List D->Option (D × List D)} {dst:Option Nat} {f:FuncId} {args:List D} (h:∀ ds aP,mH st (c.own f) args=some (ds,aP)->∀ r,cl f (if fB (c.own f) ds then j8 (c.own f) ds else ds)=some r->Rf f (if fB (c.own f) ds then j8 (c.own f) ds else ds)=some r) (hc:ku c cl st dst f args=some st'):ku c Rf st dst f args=some st':=by
 unfold ku at hc ⊢;cases mJ:mH st (c.own f) args with
 | none=>rw [mJ] at hc; simp at hc
 | some p=>
  obtain ⟨ds,aP⟩:=p;rw [mJ] at hc;simp only at hc ⊢;cases gE:cl f (if fB (c.own f) ds then j8 (c.own f) ds else ds) with
  | none=>rw [gE] at hc; simp at hc
  | some q=>
   rw [gE] at hc;rw [h ds aP mJ q gE];exact hc
omit c in
theorem Sx {st:St} {ql:Nat->Bool} {r p j:Nat} {q:List Nat} {v:D} (hv:vc v=true) (h:st.gI r (p::q) j v=some st') (hc:∀ cs,st.cells r (p::q)=some cs->ad.slot cs j=true):
  uF st ql 1 (.ptr r (p::q) j) v=some st':=by
 have cB:∃ cs bB,st.cells r (p::q)=some cs/\cs[j]?=some bB/\gr bB=false:=by
  cases hx:st.cells r (p::q) with
  | none=>
   exfalso;unfold St.gI at h;unfold St.cells at hx;split at h
   ·rename_i cs ec;rw [ec] at hx;simp only at hx;split at h
    ·rename_i cs' hm;have:∀ (q:List Nat) (cs cs':List D) (f:List D->List D),n9 f cs q=some cs'->jF cs q≠none:=by
      intro q
      induction q with
      | nil=>intro cs cs' f _; simp [jF]
      | cons o q ih=>
       intro cs cs' f hm;simp only [n9] at hm;simp only [jF];split at hm
       ·rename_i s n xs hxs;split at hm
        ·rename_i kt U5;exact ih xs kt f U5
        ·simp at hm
       ·simp at hm
     exact this _ _ _ _ hm hx
    ·simp at h
   ·simp at h
  | some cs=>
   have:=hc cs hx;simp only [ad] at this;cases ho:cs[j]? with
   | none=>rw [ho] at this; simp at this
   | some bB=>rw [ho] at this; exact ⟨cs,bB,rfl,ho,by simpa using this⟩
 obtain ⟨cs,bB,h1,h2,h3⟩:=cB;have m9:live st r (p::q)=true:=by
  unfold live;rw [h1];cases cs with
  | nil=>simp at h2
  | cons a b=>rfl
 have hlen:(cellsOf v).length=1:=by cases v<;>first | rfl | simp [vc] at hv
 have ec:cellsOf v=[v]:=by cases v<;>first | rfl | simp [vc] at hv
 have cB:st.cell r (p::q) j=some bB:=by unfold St.cell; rw [h1]; exact h2
 have dA:iS st v=some (v,st):=by cases v<;>first | rfl | simp [vc] at hv
 have gZ:cM v=true:=by cases v<;>first | rfl | simp [vc] at hv
 have gx:gr v=false:=by cases v<;>first | rfl | simp [vc] at hv
 have w9:z7 r (p::q) j v=false:=by cases v<;>first | rfl | simp [vc] at hv
 have hmv:∀ st:St,st.sj v r (p::q) j=st:=by intro st; cases v<;>first | rfl | simp [vc] at hv
 unfold uF;simp only [hlen,m9,and_self,if_true,ec];simp only [fA,id,w9,agj,acq,if_false,dA,gZ,ahc,St.rf,cB,h3,gx,h,hmv];simp
omit c in
theorem adq (d:D):U0 ad d=bW d:=by
 cases d with
 | sl g s n cs=>cases g with
  | none=>simp [U0,bW,ad]
  | some g=>cases g<;>simp [U0,bW,ad]
 | _=>simp [U0,bW]
omit c in
theorem Fj (d:D):CM ad d=dw d:=by
 unfold CM dw
 congr 1
 funext x;rw [adq]
theorem XK {cl:FuncId->List D->Option (D × List D)} {dst:Option Nat} {f:FuncId} {args:List D} (h:Sv c cl st dst f args=some st') (cF:∀ ds aP r outs,mH st (c.own f) args=some (ds,aP)->cl f (if fB (c.own f) ds then j8 (c.own f) ds else ds)=some (r,outs)->(dw r&&outs.all dw)=true):ku c cl st dst f args=some st':=by
 unfold Sv at h;unfold ku;cases mJ:mH st (c.own f) args with
 | none=>rw [mJ] at h; simp at h
 | some p=>
  obtain ⟨ds,aP⟩:=p;rw [mJ] at h;simp only at h ⊢;cases gE:cl f (if fB (c.own f) ds then j8 (c.own f) ds else ds) with
  | none=>rw [gE] at h; simp at h
  | some q=>
   obtain ⟨r,outs⟩:=q;rw [gE] at h;simp only at h ⊢;rw [if_pos (cF ds aP r outs mJ gE)];exact h
theorem ads {P:Program} (aw:ey c P) {md:FuncId->List D->Option (Bool × (D × List D))} {cl:FuncId->List D->Option (D × List D)} (N8:∀ f ds r,md f ds=some (true,r)->cl f ds=some r) {ci:FuncId->List D->Nat->St->Option (D × St)} {aC:FuncId} {o:Oper} (hc:opC ad c md st o=true) (h:opU ad c md ci aC st o=some st'):eY c cl ci aC st o=some st':=by
 unfold opU at h;unfold opC at hc;cases ho:o.op with
 | binOp op t x y z=>
  simp only [ho] at h hc;split at h
  ·rename_i d hd;unfold eY;simp only [ho,aaS hc hd];exact h
  ·simp at h
 | unOp op t x=>
  simp only [ho] at h;split at h
  ·rename_i d hd;unfold eY;simp only [ho,ado hd];exact h
  ·simp at h
 | load t a=>
  simp only [ho] at h hc;split at h
  ·rename_i i hi;rw [hi] at hc;simp only at hc;split at h
   ·rename_i d hd;unfold eY;simp only [ho,hi,XJ (aw.ty _ _ hi).len hc hd];exact h
   ·simp at h
  ·simp at h
 | store t x y=>
  simp only [ho] at h hc;split at h
  case h_2=>simp at h
  rename_i i hi;simp only [hi] at hc;split at h
  ·rename_i r p q j ha;simp only [ha] at hc;split at h
   ·rename_i hs;rw [if_pos hs] at hc;simp only [wX,beq_iff_eq] at hs;split at h
    case h_2=>simp at h
    rename_i aP cu;unfold eY;simp only [ho,hi,ha];rw [hs.1,Sx hs.2 cu (fun cs e=>by rw [e] at hc; exact hc)]
    exact h
   ·rw [<- xz (cl:=va md) (fun cc f e=>by rw [ho] at e; simp at e)]; exact h
  ·rw [<- xz (cl:=va md) (fun cc f e=>by rw [ho] at e; simp at e)]; exact h
 | convert src dst x=>
  simp only [ho] at h hc;unfold eY;simp only [ho];split at h
  ·rename_i d hd;rw [N6 hc hd];exact h
  ·rename_i d cs hd;rw [N6 hc hd];exact h
  ·simp at h
 | makeSlice t l cp=>
  simp only [ho] at h hc;unfold eY;simp only [ho];split at h
  case h_2=>simp at h
  rename_i e sz pR z fK;rw [fK] at hc ⊢;simp only at hc ⊢;split at h
  case h_2=>simp at h
  rename_i ei kl li kc ci' gZ hl hcp;simp only [gZ,hl,hcp] at hc ⊢;split at h
  case isFalse=>simp at h
  rename_i hb;simp only [ad,wX,decide_eq_true_eq] at hc;rw [if_pos hc.1.1,if_pos hc.1.2,if_pos ⟨hb,hc.2⟩];exact h
 | slice t x lo hi mx=>
  cases mx with
  | some _=>simp only [ho] at h; rw [<- xz (cl:=va md) (fun cc f e=>by rw [ho] at e; simp at e)]; exact h
  | none=>
   simp only [ho] at h hc;split at h
   ·rename_i d hd;unfold eY;simp only [ho,U2 hc hd];exact h
   ·simp at h
 | indexAddr t x i=>
  simp only [ho] at h hc;split at h
  ·rename_i k i' hi;simp only [hi] at hc;split at h
   ·rename_i d hd;unfold eY;simp only [ho,hi,Kd hc hd];exact h
   ·simp at h
  ·simp at h
 | index t x i=>
  simp only [ho] at h hc;split at h
  case h_2=>simp at h
  rename_i k i' hi;simp only [hi] at hc;unfold eY;simp only [ho,hi];split at h
  ·rename_i s fK hx;simp only [fK,hx] at hc ⊢;have h1:wZ c t (.str s) i'=some (.int .u8 (ad.XD s i')):=by
    simp only [wZ,fK];simp only [ad,wX,decide_eq_true_eq] at hc;unfold km;rw [if_pos hc.1,if_pos hc.2];have cK:i'.toNat < s.data.toList.length:=by
     have:=hc.2;have h3:s.data.toList.length=s.size:=agy;omega
    have h4:s.data.toList[i'.toNat]?=some (s.data.toList[i'.toNat]):=ace cK;show _=some (D.int .u8 (u9 ((s.data.toList[i'.toNat]?).map dz)));rw [h4];rfl
   rw [h1];exact h
  ·split at h
   ·rename_i d hd; rw [hd]; exact h
   ·simp at h
 | call cc=>
  simp only [ho] at h hc;cases mf:cc.callee with
  | value f=>
   simp only [mf] at h hc;split at h
   ·simp at h
   rename_i cI;split at h
   case h_2=>simp at h
   rename_i g gH hf;simp only [hf] at hc;split at h
   ·rename_i lA;unfold eY at h ⊢;simp only [ho,mf] at h ⊢;rw [if_neg cI] at h ⊢;simp only [hf] at h ⊢;rw [if_pos lA] at h ⊢;exact h
   ·rename_i lA;unfold eY;simp only [ho,mf];rw [if_neg cI];simp only [hf];rw [if_neg lA] at hc ⊢;refine N7 (cl:=va md) (fun ds aP mJ r hr=>?_) (XK h (fun ds aP r outs mJ hr=>?_))
    ·rw [mJ] at hc;simp only at hc;unfold va at hr;split at hr
     ·rename_i b r' N9;rw [N9] at hc;simp only [wX] at hc;simp only [mN] at hr;subst hr;rw [hc.1] at N9;exact N8 _ _ _ N9
     ·simp at hr
    ·rw [mJ] at hc;simp only at hc;unfold va at hr;split at hr
     ·rename_i b r' N9;rw [N9] at hc;simp only [mN] at hr;subst hr;simp only [wX,Fj] at hc ⊢;refine ⟨hc.2.1,?_⟩;rw [ab9] at hc ⊢;intro x hx;rw [<- Fj];exact hc.2.2 x hx
     ·simp at hr
  | invoke r m=>simp only [mf] at h; rw [<- xz (cl:=va md) (fun ZD f e e2=>by rw [ho] at e; simp only [Op.call.injEq] at e; subst e; rw [mf] at e2; simp at e2)]; exact h
  | builtin b=>
   simp only [mf] at h hc;cases b with
   | len=>
    simp only at h;unfold eY;simp only [ho,mf];split at h
    ·simp at h
    ·rename_i cI;rw [if_neg cI];split at h
     ·rename_i x t hx ht;rw [hx,ht];simp only;split at h
      ·rename_i d hd; rw [aaT hd]; exact h
      ·simp at h
     ·simp at h
   | min=>
    simp only at h;unfold eY;simp only [ho,mf];split at h
    ·simp at h
    ·rename_i cI;rw [if_neg cI];split at h
     ·rename_i hx; simp only [hx]; exact h
     ·simp at h
   | max=>
    simp only at h;unfold eY;simp only [ho,mf];split at h
    ·simp at h
    ·rename_i cI;rw [if_neg cI];split at h
     ·rename_i hx; simp only [hx]; exact h
     ·simp at h
   | append=>
    simp only at h hc;unfold eY;simp only [ho,mf];split at h
    ·simp at h
    ·rename_i cI;rw [if_neg cI];split at h
     ·rename_i s x t tx hx ht;rw [hx,ht] at hc ⊢;simp only at hc ⊢;exact Sw hc h
     ·simp at h
   | clear=>
    simp only at h hc;unfold eY;simp only [ho,mf];split at h
    ·simp at h
    ·rename_i cI;rw [if_neg cI];split at h
     ·rename_i x t hx ht;rw [hx,ht];rw [hx] at hc;simp only at hc ⊢;split at h
      ·rename_i aP UI;rw [U4 (fun e i he=>(aw.ty e i he).len) hc UI];exact h
      ·simp at h
     ·simp at h
   | _=>simp only at h; rw [<- xz (cl:=va md) (fun ZD f e e2=>by rw [ho] at e; simp only [Op.call.injEq] at e; subst e; rw [mf] at e2; simp at e2)]; exact h
 | _=>simp only [ho] at h; rw [<- xz (cl:=va md) (fun cc f e=>by rw [ho] at e; simp at e)]; exact h
end
theorem nD {R:Type} {b:Bool} {x y:Option R} {r:R} (h:br b x y=some r):(b=true/\x=some r)∨(b=false/\y=some r):=by
 cases b with
 | true=>exact .inl ⟨rfl,h⟩
 | false=>exact .inr ⟨rfl,h⟩
theorem Dy {α:Type}:∀ (l:List (Nat × α)) (k:Nat) (v:α),lk l k=some v->U1 l k v=l
 | [],k,v,h=>rfl
 | (j,u)::t,k,v,h=>by
  simp only [lk] at h;simp only [U1];split
  ·rename_i hj;subst hj;simp only [if_true,mN] at h;rw [h]
  ·rename_i hj;rw [if_neg hj] at h;rw [Dy t k v h]
theorem oZ {st:St} {t:Nat} {b:Bool} (h:st.get t=.bool b):st.lit t b=st:=by
 unfold St.get at h;unfold St.lit;have:lk st.tm t=some (.bool b):=by
  cases hx:lk st.tm t with
  | none=>rw [hx] at h; simp at h
  | some d=>rw [hx] at h; simp only [ags] at h; rw [h]
 rw [Dy _ _ _ this]
section
variable {P:Program} {c:cn} (aw:ey c P) {md:FuncId->List D->Option (Bool × (D × List D))} {cl:FuncId->List D->Option (D × List D)} (N8:∀ f ds r,md f ds=some (true,r)->cl f ds=some r) {ci:FuncId->List D->Nat->St->Option (D × St)} {aC:FuncId} {R:Type}
include aw N8
omit aw N8 in
theorem BQ (ops:Array Oper):∀ (l:List Nat) (st:St),uI c cl ci aC ops (opsOf ops l) st=iq c cl ci aC ops l st
 | [],_=>rfl
 | i::l,st=>by
  unfold opsOf;rw [adD];cases ho:ops[i]? with
  | none=>
   simp only [iq,ho];exact BQ ops l st
  | some o=>
   simp only [uI,iq,ho];split
   ·split
    ·split
     ·exact BQ ops l _
     ·rfl
    ·rfl
   ·exact BQ ops l _
   ·rfl
omit aw N8 in
theorem U6 {x:Exit} {n m:Nat} {A:Option R} {r:R} (h:(match uK x,uL n m with | true,true=>A | _,_=>none)=some r):(uK x&&uL n m)=true/\A=some r:=by
 split at h
 ·rename_i h1 h2; exact ⟨by rw [h1,h2]; rfl,h⟩
 ·simp at h
end
def AH:List D->List Value->Bool
 | [],[]=>true
 | .int k n::ds,.int k' n'::us=>fe k k'&&(n==n')&&AH ds us
 | .bool b::ds,.bool b'::us=>(b==b')&&AH ds us
 | .str s::ds,.string s'::us=>(s.size==0)&&(s'.size==0)&&AH ds us
 | .nil _::ds,.slice none 0 0::us=>AH ds us
 | .undef::ds,_::us=>AH ds us
 | _,_=>false
def AI (P:Program):List Nat->List Nat->List Field->Bool
 | [],[],[]=>true
 | o::os,z::zs,f::fs=>(o==f.offset)&&(match P.info? f.type with | some i=>(z==i.size)&&!(i.size==0) | none=>false)&&AI P os zs fs
 | _,_,_=>false
def Sy (P:Program):Ty->TypeDesc->Bool
 | .int k,.int k'=>fe k k'
 | .bool,.bool=>true
 | .str,.string=>true
 | .slice e,.slice e'=>e==e'
 | .array n e,.array n' e'=>(n==n')&&(e==e')
 | .struct os zs,.struct fs=>AI P os zs fs.toList
 | .ptr e,.pointer e'=>e==e'
 | _,_=>false
def Sz (P:Program) (t:TypeId) (ti:TI):Bool:=
 (match P.info? t with
  | some i=>(i.size==ti.size)&&(i.bytes==ti.bytes)&&(match i.zero with | some z=>AH ti.zero z.cells.toList | none=>false)
  | none=>false)&&(match P.underlying t with | some d=>Sy P ti.ty d | none=>false)&&(ti.zero.length==ti.size)
def SA (P:Program):List (Nat × TI)->Bool
 | []=>true
 | (t,ti)::l=>Sz P t ti&&SA P l
theorem aaU:∀ {ds:List D} {us:List Value},AH ds us=true->bZ QK ds us:=by
 intro ds us h
 fun_induction AH ds us with
 | case1=>exact .nil
 | case2 ds us k n k' n' ih=>
  simp only [wX,fe,decide_eq_true_eq,beq_iff_eq] at h;obtain ⟨⟨rfl,rfl⟩,h⟩:=h;exact .cons (fun w X=>rfl) (ih h)
 | case3 ds us b b' ih=>
  simp only [wX,beq_iff_eq] at h;obtain ⟨rfl,h⟩:=h;exact .cons (fun w X=>rfl) (ih h)
 | case4 s ds s' us ih=>
  simp only [wX,beq_iff_eq] at h;obtain ⟨⟨h1,h2⟩,h⟩:=h;have e1:s=s':=by
   cases s with | mk a=>cases s' with | mk b=>
   have ha:a=#[]:=af8 h1;have hb:b=#[]:=af8 h2;rw [ha,hb]
  subst e1;exact .cons (fun w X=>rfl) (ih h)
 | case5 ds us _ ih=>exact .cons (fun w X=>rfl) (ih h)
 | case6 ds u us ih=>exact .cons (fun w X=>trivial) (ih h)
 | case7=>simp at h
theorem Rg {P:Program}:∀ {os zs:List Nat} {fs:List Field},AI P os zs fs=true->os=fs.map (·.offset)/\zs.length=fs.length/\∀ (j:Nat) (f:Field),fs[j]?=some f->∃ i,P.info? f.type=some i/\i.size≠0/\zs[j]?=some i.size
 | [],[],[],_=>⟨rfl,rfl,by simp⟩
 | o::os,z::zs,f::fs,h=>by
  simp only [AI,wX,beq_iff_eq] at h;obtain ⟨⟨h1,h2⟩,h3⟩:=h;obtain ⟨k1,k2,k3⟩:=Rg h3;refine ⟨by simp [h1,k1],by simp [k2],fun j g hj=>?_⟩
  cases j with
  | zero=>
   simp only [acH,mN] at hj;subst hj;split at h2
   ·rename_i i hi;simp only [wX,beq_iff_eq,adv,beq_eq_false_iff_ne] at h2;exact ⟨i,hi,h2.2,by rw [h2.1]; rfl⟩
   ·simp at h2
  | succ j=>
   simp only [adn] at hj;obtain ⟨i,q1,q2,q3⟩:=k3 j g hj;exact ⟨i,q1,q2,by simpa using q3⟩
 | [],[],_::_,h=>by simp [AI] at h
 | [],_::_,_,h=>by simp [AI] at h
 | _::_,[],_,h=>by simp [AI] at h
 | _::_,_::_,[],h=>by simp [AI] at h
theorem XL {P:Program} {ty:Ty} {d:TypeDesc} (h:Sy P ty d=true):ly P ty d:=by
 unfold Sy at h;split at h
 ·simp only [fe,decide_eq_true_eq] at h; subst h; rfl
 ·rfl
 ·rfl
 ·simp only [beq_iff_eq] at h; subst h; rfl
 ·simp only [wX,beq_iff_eq] at h; obtain ⟨rfl,rfl⟩:=h; rfl
 ·rename_i fs;obtain ⟨k1,k2,k3⟩:=Rg h;exact ⟨fs,rfl,k1,k2,k3⟩
 ·simp only [beq_iff_eq] at h; subst h; rfl
 ·simp at h
theorem XM {P:Program} {t:TypeId} {ti:TI} (h:Sz P t ti=true):C4 P t ti:=by
 unfold Sz at h;simp only [wX,beq_iff_eq] at h;obtain ⟨⟨h1,h2⟩,h3⟩:=h;split at h1
 case h_2=>simp at h1
 rename_i i hi;simp only [wX,beq_iff_eq] at h1;obtain ⟨⟨h4,h5⟩,h6⟩:=h1;split at h6
 case h_2=>simp at h6
 rename_i z hz;split at h2
 case h_2=>simp at h2
 rename_i d hd;exact ⟨⟨i,hi,h4,h5,z,hz,aaU h6⟩,⟨d,hd,XL h2⟩,h3⟩
theorem Oa {P:Program}:∀ {l:List (Nat × TI)},SA P l=true->∀ t ti,lk l t=some ti->C4 P t ti
 | [],_,t,ti,h=>by simp [lk] at h
 | (j,x)::l,h,t,ti,hl=>by
  simp only [SA,wX] at h;simp only [lk] at hl;split at hl
  ·rename_i hj;subst hj;simp only [mN] at hl;subst hl;exact XM h.1
  ·exact Oa h.2 t ti hl
def ZR (fn:Func):Bool:=
  match fn.body with
  | some body => lF fn.ntmps body && !(fn.name == "runtime.NumGoroutine")
  | none=>true
theorem aaV {P : Program} (h : P.funcs.toList.all ZR = true) (f : FuncId) (fn : Func) (body : Code) (hf : P.funcs[f]? = some fn) (hb : fn.body = some body) : lF fn.ntmps body = true ∧ (fn.name == "runtime.NumGoroutine") = false := by
  have cW:fn∈P.funcs.toList:=agd.2 (agp hf)
  have:=ab9.1 h fn cW
  unfold ZR at this
  rw [hb] at this
  simp only [wX,adv] at this
  exact this
def Ev (p:Nat->Prop):Prop:=∃ k0,∀ k,k0<=k->p k
theorem Ev.of {p:Nat->Prop} (h:∀ k,p k):Ev p:=⟨0,fun k _=>h k⟩
theorem Ev.and {p q:Nat->Prop} (h:Ev p) (h':Ev q):Ev fun k=>p k/\q k:=by
 obtain ⟨a,ha⟩:=h;obtain ⟨b,hb⟩:=h';exact ⟨max a b,fun k hk=>⟨ha k (by omega),hb k (by omega)⟩⟩
theorem Ev.mono {p q:Nat->Prop} (h:Ev p) (hh:∀ k,p k->q k):Ev q:=by
 obtain ⟨a,ha⟩:=h;exact ⟨a,fun k hk=>hh k (ha k hk)⟩
theorem Ev.ge (n:Nat):Ev fun k=>n<=k:=⟨n,fun _ h=>h⟩
section
variable {P:Program} {c:cn} {cl:FuncId->List D->Option (D × List D)} {ci:FuncId->List D->Nat->St->Option (D × St)} {cls:Nat->FuncId->List D->Option (D × List D)} {cis:Nat->FuncId->List D->Nat->St->Option (D × St)}
 (gE:∀ f ds r,cl f ds=some r->Ev fun k=>cls k f ds=some r) (mJ:∀ f ds n st r,ci f ds n st=some r->Ev fun k=>cis k f ds n st=some r)
theorem XN {Rf:FuncId->List D->Option (D × List D)} {ci':FuncId->List D->Nat->St->Option (D × St)} {aC:FuncId} {st:St} {o:Oper} (h:∀ cc f,o.op=.call cc->cc.callee≠.value f):eY c cl ci aC st o=eY c Rf ci' aC st o:=by
 unfold eY;cases ho:o.op with
 | call cc=>
  simp only;cases mf:cc.callee with
  | value f=>exact absurd mf (h cc f ho)
  | builtin b=>cases b<;>rfl
  | _=>rfl
 | makeFunc fn fi ca=>cases fn<;>rfl
 | slice t x l h mx=>cases mx<;>rfl
 | _=>rfl
include gE
theorem XO {st st':St} {dst:Option Nat} {f:FuncId} {args:List D} (h:ku c cl st dst f args=some st'):Ev fun k=>ku c (cls k) st dst f args=some st':=by
 cases hx:mH st (c.own f) args with
 | none=>unfold ku at h; rw [hx] at h; simp at h
 | some p=>
  obtain ⟨ds,aP⟩:=p;cases hy:cl f (if fB (c.own f) ds then j8 (c.own f) ds else ds) with
  | none=>unfold ku at h; rw [hx] at h; simp only [hy] at h; simp at h
  | some r=>
   refine (gE _ _ _ hy).mono fun k hk=>N7 (cl:=cl) (fun ds' acW h1 r' h2=>?_) h;rw [hx,mN,sF] at h1;obtain ⟨rfl,rfl⟩:=h1;rw [hy,mN] at h2;subst h2;exact hk
include mJ
theorem adu {aC:FuncId} {st st':St} {o:Oper} (h:eY c cl ci aC st o=some st'):Ev fun k=>eY c (cls k) (cis k) aC st o=some st':=by
 by_cases cR:∃ cc f,o.op=.call cc/\cc.callee=.value f
 ·obtain ⟨cc,f,ho,hc⟩:=cR;unfold eY at h ⊢;simp only [ho,hc] at h ⊢;split at h
  ·simp at h
  rename_i cI;split at h
  case h_2=>simp at h
  rename_i g gH hf;split at h
  ·rename_i hi;split at h
   case h_2=>simp at h
   rename_i d aP hx;refine (mJ _ _ _ _ _ hx).mono fun k hk=>?_;rw [if_neg cI];simp only [hf,if_pos hi,hk];exact h
  ·rename_i hi;refine (XO gE h).mono fun k hk=>?_;rw [if_neg cI];simp only [hf,if_neg hi];exact hk
 ·refine Ev.of fun k=>?_;rw [<- XN (cl:=cl) (ci:=ci) (fun cc f e1 e2=>cR ⟨cc,f,e1,e2⟩)];exact h
theorem BR {aC:FuncId} {ops:Array Oper}:∀ {l:List Nat} {st st':St},iq c cl ci aC ops l st=some st'->Ev fun k=>iq c (cls k) (cis k) aC ops l st=some st'
 | [],st,st',h=>Ev.of fun k=>h
 | i::l,st,st',h=>by
  simp only [iq] at h ⊢;split at h
  ·rename_i ho;exact BR h
  ·rename_i o ho;split at h
   ·rename_i hw;split at h
    case isFalse=>simp at h
    rename_i eB;split at h
    case h_2=>simp at h
    rename_i aP aj;refine ((adu gE mJ aj).and (BR h)).mono fun k hk=>?_;rw [if_pos eB,hk.1];exact hk.2
   ·rename_i hw;exact BR h
   ·simp at h
end
def Comes (c:cn) (P:Program) (f:FuncId) (args:List D) (r:D × List D):Prop:=Ev fun k=>RH c P k f args=some r
def xA:FuncId->List D->Nat->St->Option (D × St):=fun _ _ _ _=>none
theorem yU {c:cn} {P:Program} {f:FuncId} {e:List D->Option (D × List D)} {args:List D} {r:D × List D} (he:c.ext f=some e) (h:e args=some r):Comes c P f args r:=by
 refine ⟨1,fun k hk=>?_⟩;obtain ⟨k,rfl⟩:∃ m,k=m+1:=⟨k - 1,by omega⟩
 show yx c P _ _ k f args=some r;unfold yx;rw [he];exact h
def XP (c:cn) (f i:Nat):St->Option St:=match c.nm f i with
 | some (L,B)=>BE L B
 | none=>some
section
variable (c:cn) (P:Program) (f:FuncId)
def SB (code:Code) (i:Nat) (st:St) (r:Exit × St):Prop:=Ev fun k=>eT c (nq c P k).1 (nq c P k).2 k f code i st=some r
def SC (a:Code) (i:Nat) (st:St) (r:Exit × St):Prop:=∃ n,Ev fun k=>∀ m,n<=m->tW (XP c f i) (eT c (nq c P k).1 (nq c P k).2 k f a i) m st=some r
end
section
variable {c:cn} {P:Program} {f:FuncId} (aw:ey c P) {md:FuncId->List D->Option (Bool × (D × List D))} (N8:∀ g ds r,md g ds=some (true,r)->Comes c P g ds r) {ml:Nat->St->Option (Bool × Exit × St)} {R:Type}
theorem SC.code {a:Code} {i:Nat} {st:St} {r:Exit × St} (h:SC c P f a i st r):SB c P f (.loop a) i st r:=by
 obtain ⟨n,h⟩:=h;refine (h.and (Ev.ge n)).mono fun k hk=>?_;show tW (XP c f i) _ k st=some r;exact hk.1 k hk.2
include aw N8
end
open Go.RowKit Go.Shelf
theorem wi {w:World} {X:Bool->Nat->Prop}:∀ {b:List Bool} {ds:List D} {us:List Value} {az:List Arg},tD w X b ds us az->b.any id=false->(∀ a∈az,a=(none,[]))/\az.length=ds.length/\bZ (fun d u=>∀ S,gp w X S d u) ds us
 | _,[],_,_,h,_=>by obtain ⟨rfl,rfl⟩:=h; exact ⟨by simp,rfl,.nil⟩
 | b,d::ds,_,_,h,hn=>by
  obtain ⟨u,kf,a,az',rfl,rfl,h1,h2⟩:=h;have hb:b.headD false=false/\b.tail.any id=false:=by
   cases b with
   | nil=>simp
   | cons x xs=>simpa using hn
  rw [hb.1] at h1;obtain ⟨g1,g2,g3⟩:=wi h2 hb.2;refine ⟨fun x hx=>?_,by simp [g2],.cons h1.2 g3⟩
  simp only [acK] at hx;rcases hx with rfl | hx
  ·exact h1.1
  ·exact g1 x hx
theorem wO:∀ {az:List Arg},(∀ a∈az,a=(none,[]))->bq az=[]
 | [],_=>rfl
 | a::az,h=>by
  have:=h a (by simp)
  subst this;show []++ah []++bq az=[];rw [wO (fun b hb=>h b (by simp [hb]))]
  rfl
theorem Fk {w':World}:∀ {b:List Bool} {az:List Arg},b.any id=false->(∀ a∈az,a=(none,[]))->mv w' b (az.map fun _=>D.undef) az az
 | _,[],_,_=>⟨rfl,rfl⟩
 | b,a::az,hn,h=>by
  have hb:b.headD false=false/\b.tail.any id=false:=by
   cases b with
   | nil=>simp
   | cons x xs=>simpa using hn
  refine ⟨.undef,_,a,az,rfl,rfl,?_,Fk hb.2 (fun x hx=>h x (by simp [hx]))⟩
  rw [hb.1];exact h a (by simp)
theorem Fl {w w':World} {Y:Nat->Prop} {own:List Bool} {ds:List D} {us:List Value} {az:List Arg} {v:Value} {r:D} (h:jG w Y own ds us az) (hn:own.any id=false) (hb:Below w.heap.size w w')
  (hr:∃ t,r=t.er/\v=t.val/\t.er≠.undef/\(∀ cs,t.er≠.aW cs)/\(∀ cs,t.er≠.aG cs)/\(∀ cs,t.er≠.agg cs)/\(ah [t]).Nodup/\(∀ k∈ah [t],w.heap.size<=k/\k < w'.heap.size)/\bC w' (fun b k=>Lk w' (ah [t]) (fun k=>Y k∨w.heap.size<=k) b k) [t]):
  fp w w' Y own az r (az.map fun _=>.undef) v:=by
 obtain ⟨h1,h2,_⟩:=wi h.args hn;have ha:=wO h1;obtain ⟨t,rfl,rfl,_,h3,h4,h5,h6,h7,h8⟩:=hr;refine ⟨hb.size,fun k hk _=>hb.block k hk,hb.os,hb.tape,hb.output,[t],az,?_,Fk hn h1,?_,?_,?_,?_⟩
 ·have:fM t.er t.val [t]:=by
   cases he:t.er with
   | agg cs=>exact absurd he (h5 cs)
   | _=>exact ⟨t,rfl,he.symm,rfl⟩
  cases he:t.er with
  | aW cs=>exact absurd he (h3 cs)
  | aG cs=>exact absurd he (h4 cs)
  | _=>rw [he] at this; exact this
 ·rw [ha,acg]; exact h6
 ·rw [ha,acg];intro k hk;exact ⟨(h7 k hk).2,.inr (h7 k hk).1⟩
 ·rw [ha,acg];refine fX ?_ _ h8;rintro b k ⟨g1,g2,g3⟩;exact ⟨g1,g2,fun hb=>(g3 hb).elim .inl (fun h=>.inr (.inr h))⟩
 ·intro a U7;rw [h1 a U7]
  trivial
open Go.RowKit Go.Shelf Go.Lib
section
variable {P:Program} {ρ:Ren}
set_option maxHeartbeats 2000000 in
set_option maxRecDepth 100000 in
theorem SD (L:SlLaysE0.n41 P ρ) (i0:TypeInfo) (z:Value) (size bytes:Nat) (hi:P.info? (ρ.t 23)=some i0) (JC:i0.zero=some z) (EX:i0.size=size) (zq:i0.bytes=bytes) (ke:z.cells.size=size) (cI:0 < size)
  (z23:∀ w,(Go.sizeOf (ρ.t 23)).run P w=.ok size w) (a:Addr) (c:Nat) (w:World):
  Calls P (ρ.f 41) #[.slice (some a) 0 c] w fun e w'=>∃ v',e=.returned v'/\w'.ownsRow w.heap.size (ρ.t 23) size v' 0 []/\Below w.heap.size w w':=by
 have mixed:=L.mixed; have t4:=L.t4; have a4:=L.a4; have z4:=L.z4; have v4:=L.v4; have t22:=L.t22; have a22:=L.a22; have z22:=L.z22; have v22:=L.v22;have q22:∀ (w:World) (a:Option Addr) (n c n' c':Nat),(binOp .eql (ρ.t 22) (.slice a n c) (.slice none n' c')).run P w=.ok (.bool a.isNone) w:=fun w a n c n' c'=>Lib.run_eql_slice_nil w _ _ a n c n' c' L.t22;have u22:∀ w,Sem.run P (underlying (ρ.t 22)) w=.ok (TypeDesc.slice (ρ.t 23)) w:=run_underlying t22;obtain ⟨_,_,FG⟩:=L.f41
 go_enter FG,SlBodyN.n41_ntmps ρ
 go_wp2_with (at_builtin; refine wpList_append_own _ rfl _ _ (ρ.t 22) rfl w.heap.size (ρ.t 23) i0 z size bytes t22 hi JC EX zq ke cI _ _ _ rfl (World.ownsRow_made w #[] 0 (acD _) (adt _) (by simp)) a 0 c [] rfl (by simp) (by intro j u hj; simp at hj) (by intro u hu; cases hu) (by unfold maxLen; omega) (by omega) (by simp) ?_)
 intro v' w1 jr aff adf
 go_wp2
 go_ret
 refine ⟨v',rfl,by simpa using jr,?_⟩
 exact ((Below.refl _ w).alloc (acD _) _).grown aff (by simp) (by intro k hk; simp [Value.ownBlock] at hk; omega)
def jh (sz bts:Nat):List D->Option (D × List D)
 | [.sl _ s n cs]=>if s=sz/\cs.all dY=true/\n*bts<=140737488355328/\n<=140737488355328 then some (.sl none s n cs,[.undef]) else none
 | [.nil s]=>if s=sz then some (.sl none s 0 [],[.undef]) else none
 | _=>none
theorem Ob {w:World} {X:Bool->Nat->Prop}:∀ {cs:List D} {us:List Value},cs.all dY=true->fV w X cs us->∃ ts:List T,aX ts=cs/\ax ts=us/\ah ts=[]/\(∀ u∈us,u.oneCell'=true)/\∀ w' X',bC w' X' ts
 | [],us,_,h=>by
  cases h;exact ⟨[],rfl,rfl,rfl,by simp,fun _ _=>trivial⟩
 | d::cs,us,hf,h=>by
  simp only [TO,wX] at hf;obtain ⟨v,vs,rfl,h1,h2⟩:=h;obtain ⟨ts,e1,e2,e3,e4,e5⟩:=Ob hf.2 h2;have j9:bH d=d:=by cases d<;>simp [dY] at hf<;>rfl
  have wL:v.oneCell'=true:=by
   cases d<;>simp [dY] at hf<;>simp only [Ext] at h1<;>subst h1<;>rfl
  refine ⟨.v d v::ts,by simp [aX,T.er,j9,e1],by simp [ax,T.val,e2],by simp [ah,T.ft,e3],fun u hu=>?_,fun w' X'=>⟨?_,e5 w' X'⟩⟩
  ·rcases acK.1 hu with rfl | hu
   ·exact wL
   ·exact e4 u hu
  ·simp only [bA,j9];cases d<;>simp [dY] at hf<;>exact h1
theorem Oc {w w':World} {Y:Nat->Prop} {s n:Nat} {cs:List D} {ts:List T} {v':Value} {e:TypeId} (hr:w'.ownsRow w.heap.size e s v' n (ax ts)) (he:aX ts=cs) (hlen:cs.length=n*s) (eG:ah ts=[]) (du:∀ w' X',bC w' X' ts):
  ∃ t:T,D.sl none s n cs=t.er/\v'=t.val/\t.er≠.undef/\(∀ cs,t.er≠.aW cs)/\(∀ cs,t.er≠.aG cs)/\(∀ cs,t.er≠.agg cs)/\(ah [t]).Nodup/\(∀ k∈ah [t],w.heap.size<=k/\k < w'.heap.size)/\bC w' (fun b k=>Lk w' (ah [t]) (fun k=>Y k∨w.heap.size<=k) b k) [t]:=by
 have hl:ts.length=n*s:=by rw [<- hlen,<- he,eO,aeR]
 obtain ⟨_,h⟩:=hr;rcases h with ⟨rfl,rfl⟩ | ⟨g,cap,cur,rfl,hg,fo,C9,ahC,amu,afg⟩
 ·refine ⟨.own s 0 0 none ts,by simp [T.er,he],rfl,by simp [T.er],by simp [T.er],by simp [T.er],by simp [T.er],by simp [ah,T.ft,fC,eG],by simp [ah,T.ft,fC,eG],?_⟩
  simp only [bC,bA,and_true];exact ⟨⟨acD _,by omega⟩,hl,trivial,du _ _⟩
 ·have hgs:g < w'.heap.size:=by
   have:=(agi.1 fo).1;exact this
  refine ⟨.own s n cap (some (g,0)) ts,by simp [T.er,he],rfl,by simp [T.er],by simp [T.er],by simp [T.er],by simp [T.er],by simp [ah,T.ft,fC,eG],by simp [ah,T.ft,fC,eG]; exact ⟨hg,hgs⟩,?_⟩
  simp only [bC,bA,and_true];refine ⟨⟨C9,by unfold maxLen at ahC; omega⟩,hl,⟨cur,e,(0,0),fo,fun o _ h=>by simp at h,by omega,fun j u hj=>?_⟩,du _ _⟩
  rw [aef];have Ey:j < n*s:=by
   have:=(aaa.1 hj).1;rw [cz,aeR,hl] at this;exact this
  rw [<- afg,ael] at hj;rw [if_pos Ey] at hj
  simpa using hj
theorem yV (L:SlLaysE0.n41 P ρ) (i0:TypeInfo) (z:Value) (size bytes:Nat) (hi:P.info? (ρ.t 23)=some i0) (JC:i0.zero=some z) (EX:i0.size=size) (zq:i0.bytes=bytes) (ke:z.cells.size=size) (cI:0 < size)
  (z23:∀ w,(Go.sizeOf (ρ.t 23)).run P w=.ok size w) (hf:kh P (ρ.f 41)) {own:List Bool} (hn:own.any id=false) {ds:List D} {r:D} {outs:List D} (h:jh size bytes ds=some (r,outs)):
  kh P (ρ.f 41)/\∀ (w:World) (Y:Nat->Prop) (us:Array Value) (az:List Arg),jG w Y own ds us.toList az->dw r=true->(∀ o∈outs,dw o=true)->
   Calls P (ρ.f 41) us w fun e w'=>∃ v,e=.returned v/\fp w w' Y own az r outs v:=by
 refine ⟨hf,fun w Y us az hp _ _=>?_⟩;obtain ⟨h1,h2,h3⟩:=wi hp.args hn;have wL:∀ {d:D},ds=[d]->∃ u,us=#[u]/\(∀ S,gp w (Lk w (bq az) Y) S d u)/\az.map (fun _=>D.undef)=[.undef]:=by
  intro d hd;subst hd;cases hl:us.toList with
  | nil=>rw [hl] at h3; cases h3
  | cons u l=>rw [hl] at h3; cases h3 with
   | cons k1 k2=>
    cases k2;refine ⟨u,by rw [<- adz (xs:=us),hl],k1,?_⟩
    cases az with
    | nil=>simp at h2
    | cons a az=>cases az with
     | nil=>rfl
     | cons b az=>simp at h2
 have oG:∀ {s n:Nat} {cs:List D} {ts:List T} {v':Value} {e:TypeId} {w':World},az.map (fun _=>D.undef)=[.undef]->w'.ownsRow w.heap.size e s v' n (ax ts)->aX ts=cs->cs.length=n*s->ah ts=[]->(∀ w' X',bC w' X' ts)->Below w.heap.size w w'->fp w w' Y own az (.sl none s n cs) [.undef] v':=by
  intro s n cs ts v' e w' ha hr he hlen eG du hb;rw [<- ha];exact Fl hp hn hb (Oc hr he hlen eG du)
 unfold jh at h;split at h
 ·rename_i g s n cs;split at h
  case isFalse=>simp at h
  rename_i hc;obtain ⟨rfl,pw,vY,vU⟩:=hc;simp only [mN,sF] at h;obtain ⟨rfl,rfl⟩:=h;obtain ⟨u,rfl,hu,Od⟩:=wL rfl;have rX:Ext w (Lk w (bq az) Y) (.sl g s n cs) u:=by
   have:=hu [];cases g with
   | none=>simp [gp,bp,Ext] at this
   | some g=>simpa [gp,bp] using this
  cases g with
  | none=>simp [Ext] at rX
  | some g=>
   simp only [Ext] at rX;obtain ⟨base,cap,vs,rfl,C9,Ak,fr,afh⟩:=rX;obtain ⟨ts,e1,e2,e3,e4,e5⟩:=Ob pw fr;rcases afh with rfl | ⟨k,off,c,e,fz,rfl,hX,fo,oU⟩
   ·have Ub:n=0:=by
     rcases Nat.eq_zero_or_pos n with h0 | h0
     ·exact h0
     ·have:=Nat.mul_pos h0 cI;simp at Ak;omega
    subst Ub;have hv:ax ts=[]:=by
     have:ts=[]:=by cases ts with
      | nil=>rfl
      | cons t ts=>simp [aX] at e1
     rw [this]; rfl
    cases base with
    | none=>
     refine (AnyE.slices_Clone_nil L 0 cap w).mono fun e w' hh=>?_;obtain ⟨rfl,rfl⟩:=hh;exact ⟨_,rfl,oG (e:=0) Od (ts:=ts) ⟨by rw [hv]; simp,.inl ⟨rfl,rfl⟩⟩ e1 Ak e3 e5 (Below.refl _ _)⟩
    | some a=>
     refine (SD L i0 z s bytes hi JC EX zq ke cI z23 a cap w).mono fun e w' hh=>?_;obtain ⟨v',rfl,hr,hb⟩:=hh;exact ⟨_,rfl,oG Od (ts:=ts) (by rw [hv]; exact hr) e1 Ak e3 e5 hb⟩
   ·have hl:vs.length=n*s:=by rw [<- e2,cz,aeR,<- Ak,<- e1,eO,aeR]
    refine (AnyE.slices_Clone L i0 z s bytes hi JC EX zq ke cI z23 k off n cap vs w hl (by unfold maxLen; omega) vY (fun j u hj=>?_) e4).mono fun e w' hh=>?_
    ·simp [World.cell?,fo,oU j u hj]
    ·obtain ⟨v',rfl,hr,_,hb⟩:=hh;exact ⟨_,rfl,oG Od (ts:=ts) (by rw [e2]; exact hr) e1 Ak e3 e5 hb⟩
 ·rename_i s;split at h
  case isFalse=>simp at h
  rename_i hs;subst hs;simp only [mN,sF] at h;obtain ⟨rfl,rfl⟩:=h;obtain ⟨u,rfl,hu,Od⟩:=wL rfl;have:u=.slice none 0 0:=hu [];subst this;refine (AnyE.slices_Clone_nil L 0 0 w).mono fun e w' hh=>?_;obtain ⟨rfl,rfl⟩:=hh;exact ⟨_,rfl,oG (e:=0) Od (ts:=[]) ⟨by simp [ax],.inl ⟨rfl,rfl⟩⟩ rfl (by simp) rfl (fun _ _=>trivial) (Below.refl _ _)⟩
 ·simp at h
end
open Go.RowKit Go.Shelf Go.Lib
section
variable {P:Program} {ρ:Ren}
def wj (sz bts:Nat):List D->Option (D × List D)
 | [.nil s,.int .i64 n]=>if s=sz/\0<=n/\n*(bts:Int)<=140737488355328/\n<=140737488355328 then some (.sl none s 0 [],[.undef,.undef]) else none
 | _=>none
theorem Rh (L:Lays8.n4 P ρ) (i0:TypeInfo) (z:Value) (size bytes:Nat) (hi:P.info? (ρ.t 25)=some i0) (JC:i0.zero=some z) (EX:i0.size=size) (zq:i0.bytes=bytes) (ke:z.cells.size=size) (cI:0 < size) (hf:kh P (ρ.f 4)) {own:List Bool} (hn:own.any id=false) {ds:List D} {r:D} {outs:List D} (h:wj size bytes ds=some (r,outs)):
  kh P (ρ.f 4)/\∀ (w:World) (Y:Nat->Prop) (us:Array Value) (az:List Arg),jG w Y own ds us.toList az->dw r=true->(∀ o∈outs,dw o=true)->
   Calls P (ρ.f 4) us w fun e w'=>∃ v,e=.returned v/\fp w w' Y own az r outs v:=by
 refine ⟨hf,fun w Y us az hp _ _=>?_⟩;obtain ⟨h1,h2,h3⟩:=wi hp.args hn;unfold wj at h;split at h
 case h_2=>simp at h
 rename_i s n;split at h
 case isFalse=>simp at h
 rename_i hc;obtain ⟨rfl,Ub,vY,vU⟩:=hc;simp only [mN,sF] at h;obtain ⟨rfl,rfl⟩:=h;have hl:∃ u v,us=#[u,v]/\(∀ S,gp w (Lk w (bq az) Y) S (.nil s) u)/\(∀ S,gp w (Lk w (bq az) Y) S (.int .i64 n) v)/\az.map (fun _=>D.undef)=[.undef,.undef]:=by
  cases hl:us.toList with
  | nil=>rw [hl] at h3; cases h3
  | cons u l=>
   rw [hl] at h3;cases h3 with
   | cons k1 k2=>
    cases k2 with
    | cons k3 k4=>
     cases k4;rename_i v;refine ⟨u,v,by rw [<- adz (xs:=us),hl],k1,k3,?_⟩
     match az,h2 with
     | [_,_],_=>rfl
 obtain ⟨u,v,rfl,hu,hv,Od⟩:=hl;have e1:u=.slice none 0 0:=hu [];have e2:v=.int .i64 n:=hv [];subst e1;subst e2;obtain ⟨m,rfl⟩:∃ m:Nat,n=m:=⟨n.toNat,by omega⟩
 rw [<- Od];have fin:∀ {v':Value} {w':World} {e:TypeId},w'.ownsRow w.heap.size e s v' 0 []->Below w.heap.size w w'->fp w w' Y own az (.sl none s 0 []) (az.map (fun _=>D.undef)) v':=fun hr hb=>
  Fl hp hn hb (Oc (ts:=[]) (by simpa [ax] using hr) rfl (by simp) rfl (fun _ _=>trivial))
 by_cases hm:m=0
 ·subst hm;refine (Any8.slices_Grow_room L none 0 0 0 w (by omega) (by omega) (by omega) (by omega)).mono fun e w' hh=>?_
  obtain ⟨rfl,rfl⟩:=hh;exact ⟨_,rfl,fin (e:=0) ⟨by simp,.inl ⟨rfl,rfl⟩⟩ (Below.refl _ _)⟩
 ·have hb3:(0+m)*i0.bytes<=140737488355328:=by
   rw [zq,aef];have:((m*bytes:Nat):Int)<=140737488355328:=by rw [Int.natCast_mul]; exact vY
   omega
  refine (Any8.slices_Grow_grow L i0 z hi JC (by omega) none 0 0 m [] w (by omega) (by omega) hb3 (by omega) (by simp) (by simp) (by simp)).mono fun e w' hh=>?_
  obtain ⟨rfl,rfl⟩:=hh;have g1:=grownCap_ge w (0+m) 0 (ρ.t 25);have g2:=grownCap_le_maxLen w (0+m) 0 (ρ.t 25) (by unfold maxLen; omega)
  refine ⟨_,rfl,fin (e:=ρ.t 25) (World.ownsRow_made (base:=w.heap.size) (size:=s) (e:=ρ.t 25) w.drew _ _ (acD _) g2 ?_) (((Below.refl _ w).drew).alloc (acD _) _)⟩;simp only [agK,agL,aei,size_zeroCells,ke];rw [aef,<- af2]
  congr 1
  omega
end
end Go.Proofs.YtckkpgcnhdllgaaGreat
