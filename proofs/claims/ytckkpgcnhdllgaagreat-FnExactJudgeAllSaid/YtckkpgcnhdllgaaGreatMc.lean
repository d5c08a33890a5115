/- What the proof of FnExactJudgeAll stands on, part 3: an abstract machine on plain data, its soundness, and the contracts of functions. -/
import Derived.OrdersHeld
import Derived.Shelf.Strings.OnBuilder
import Derived.Shelf.SlicesE.Clone
import Derived.Shelf.Spec.SlicesGrow
import Derived.Test.YtckkpgcnhdllgaaGreatMb
set_option linter.all false
set_option linter.unusedSimpArgs false
set_option linter.unusedVariables false
set_option linter.unnecessarySimpa false
set_option linter.unusedSectionVars false
namespace Go.Proofs.YtckkpgcnhdllgaaGreat
theorem VC {d:D} (h:dG d=true):(ch d).all cg=true:=by
 simp only [dG,aac,Bh] at h;exact aac.2 (fun x hx=>(h x hx).2)
theorem ack {w':World} {X:Bool->Nat->Prop} {b:Bool} {o:D} {a a':Arg} (h:pk w' b o a a') (ho:dG o=true) (hs:bJ w' X a'.2):cq (ba a'.2)=true:=by
 cases b with
 | false=>simp only [pk] at h; rw [h]; rfl
 | true=>
  have hn:=VC ho;cases o with
  | aZ cs=>obtain ⟨_,_,e⟩:=h; rw [eh,<- e]; exact hn
  | agg cs=>obtain ⟨_,_,e,_⟩:=h; rw [eh,<- e]; exact hn
  | aM vs=>
   obtain ⟨_,_,h3⟩:=h;rcases h3 with ⟨h3,_⟩ | ⟨t,h3,h4,_⟩
   ·rw [h3]; rfl
   ·rw [h3] at hs;exact absurd h4.symm ((sL ((cj _).1 hs t (by simp))).2.2 vs)
  | _=>
   obtain ⟨_,_,h3⟩:=h;rcases h3 with ⟨h3,_⟩ | ⟨t,h3,h4,_⟩
   ·rw [h3]; rfl
   ·rw [eh,h3];simp only [ba,<- h4];exact hn
theorem PE {w':World} {X:Bool->Nat->Prop}:∀ {b:List Bool} {os:List D} {as9 cy:List Arg},mS w' b os as9 cy->(∀ o∈os,dG o=true)->(∀ a∈cy,bJ w' X a.2)->∀ a∈cy,cq (ba a.2)=true
 | _,os,[],cy,h,_,_=>by obtain ⟨_,rfl⟩:=h; simp
 | b,os,a::as9,cy,h,ho,hs=>by
  obtain ⟨o,yD,a',Pu,rfl,rfl,h1,h2⟩:=h;intro x hx;simp only [aap] at hx;rcases hx with rfl | hx
  ·exact ack h1 (ho _ (by simp)) (hs _ (by simp))
  ·exact PE h2 (fun o PF=>ho o (by simp [PF])) (fun a ha=>hs a (by simp [ha])) x hx
theorem aey {w':World} {X:Bool->Nat->Prop} {r:D} {v:Value} {ts:List T} (h:LF r v ts) (ho:dG r=true) (hs:bJ w' X ts):cq (ba ts)=true:=by
 have hn:=VC ho;by_cases hp:∃ cs,r=.aZ cs
 ·obtain ⟨cs,rfl⟩:=hp;obtain ⟨b,Sn,rfl,rfl,_⟩:=h;simp only [sO,ba,T.er,cq,cg,ae9,abU];rw [eh]; exact hn
 by_cases jW:∃ ds,r=.aM ds
 ·obtain ⟨ds,rfl⟩:=jW;obtain ⟨us,rfl,hf⟩:=h;rw [eh,BK hf,<- xD]; exact hn
 have hf:fR r v ts:=by cases r<;>first | exact h | exact absurd ⟨_,rfl⟩ hp | exact absurd ⟨_,rfl⟩ jW
 have:ch r=dq r:=by cases r<;>first | rfl | exact absurd ⟨_,rfl⟩ hp
 rw [eh,qj hf,<- sQ hs hf,<- this]; exact hn
theorem EK {w:World} {S:List (Nat × RT)}:∀ {b:List Bool} {ds gG:List D} {us:List Value} {as9:List Arg},tO w S b ds gG us as9->b.any id=false->∀ a∈as9,a=(none,[])
 | _,[],_,_,_,h,_=>by obtain ⟨_,_,rfl⟩:=h; simp
 | b,d::ds,_,_,_,h,hn=>by
  obtain ⟨d1,zO,u,kG,a,cy,rfl,rfl,rfl,h1,h2⟩:=h;have hb:b.headD false=false/\b.tail.any id=false:=by
   cases b with
   | nil=>simp
   | cons x xs=>simpa using hn
  rw [hb.1] at h1;intro x hx;simp only [aap] at hx;rcases hx with rfl | hx
  ·exact h1.1
  ·exact EK h2 hb.2 x hx
section
variable {P:Program} {c:cA} {C:Ctx} {Hx:List T} {w:World} {st st':St} {vs:Array Value} {aI:List (Array Value)} {S:List (Nat × RT)} {cl:FuncId->List D->Option (D × List D)}
theorem Yp (st:St) (r:Nat) (d:D):(st.qZ r d).1.of=st.of:=by
 cases d with
 | aZ cs=>rfl
 | _=>simp only [St.qZ]; split<;>rfl
structure aez (C:Ctx) (Hx:List T) (w w':World) (st st':St) (vs:Array Value) (aI:List (Array Value)) (dst:Option Nat) (v:Value) (own:List Bool):Prop where
 rel:∃ S',Rel C Hx w' st' ((match dst with | some t=>vs.setIfInBounds t v | none=>vs)::aI) S'
 of:st'.of=st.of
 nY:own.any id=false->dM w w'
theorem Yq (hg:lP P c.own cl) (h:Rel C Hx w st (vs::aI) S) {args:List D} {us:Array Value} (ha:cm (cx w (ah C w S Hx) S) args us.toList) {dst:Option Nat} {f:FuncId} (hd:∀ t,dst=some t->t < vs.size/\∀ p∈C.P0,p.1≠st.of+t) (aq:kT c cl st dst f args=some st'):
  kK P f/\Calls P f us w fun e w'=>∃ v,e=.returned v/\aez C Hx w w' st st' vs aI dst v (c.own f):=by
 unfold kT at aq;split at aq
 case h_2=>simp at aq
 rename_i uE aQ nh;unfold nf at nh;split at nh
 case h_2=>simp at nh
 rename_i gG aeA hco;split at nh
 case h_2=>simp at nh
 rename_i Ju hcr;simp only [jf,tE] at nh;obtain ⟨rfl,rfl⟩:=nh;obtain ⟨as9,S1,a1,a2,a3,a4,a5,a6,a7⟩:=G0 h ha hco;generalize ht:fF (c.own f) Ju=t at aq;simp only at aq;split at aq
 case h_2=>simp at aq
 rename_i r outs gU;split at aq
 case isFalse=>simp at aq
 rename_i cS;simp only [Bh] at cS;split at aq
 case h_2=>simp at aq
 rename_i cu hcb;have hnS:=h.mem.nd;have sG:(cM S1++ai (cW as9)).Nodup:=by
  have h9:=a1.mem.nd;rw [bd,<- aay] at h9;exact (yq.1 h9).1
 have eI:∀ k,k∈cM S1++ai (cW as9)->k∈cM S1++ai (cW as9++Hx):=fun k hk=>by
  rw [bd,<- aay];exact tD.2 (.inl hk)
 have Yr:∀ bk∈as9.filterMap Prod.fst,∃ r R,lk S1 r=some R/\R.box=some bk/\R.cs=[]:=uX a2;have aat:∀ bk∈as9.filterMap Prod.fst,bk∈cM S1:=fun bk hb=>by
  obtain ⟨r,R,e1,e2,_⟩:=Yr bk hb;exact kP e1 (by simp [RT.ft,e2])
 have gQ:∀ k,k∈bE as9->k∈cM S1++ai (cW as9):=fun k hk=>by
  rcases ld.1 hk with h1 | h1
  ·exact tD.2 (.inl (aat k h1))
  ·exact tD.2 (.inr h1)
 have hX:∀ b k,ah C w S1 (cW as9++Hx) b k->Lk w (bE as9) (ah C w S1 (cW as9++Hx) t) b k:=by
  intro b k hk;refine ⟨hk.1,fun h1=>?_,fun hb=>⟨hk.1,hk.2.1,hk.2.2.1,fun _=>hk.2.2.2 hb⟩⟩;rcases tD.1 (gQ k h1) with h2 | h2
  ·exact hk.2.1 h2
  ·exact hk.2.2.1 (by rw [bd]; exact tD.2 (.inl h2))
 have hF:∀ r R k,lk S1 r=some R->R.cs≠[]->k∈R.ft->Lk w (bE as9) (ah C w S1 (cW as9++Hx) t) true k:=by
  intro r R k hr ed hk;have Ly:=kP hr hk;refine ⟨a1.mem.lt k (tD.2 (.inl Ly)),fun h1=>?_,by simp⟩
  rcases ld.1 h1 with h2 | h2
  ·obtain ⟨r',R',e1,e2,e3⟩:=Yr k h2;have:=vO (yq.1 sG).1 e1 e2 hr hk;subst this;rw [hr,jf] at e1;subst e1;exact ed e3
  ·exact (yq.1 sG).2.2 k Ly k h2 rfl
 have dF:∀ a∈as9,bJ w (ah C w S1 (cW as9++Hx)) a.2:=vR.1 ((ea _ _).1 a1.mem.hand).1;obtain ⟨p1,p2⟩:=PC a1 hX hF a2 (ha.mono (fun _ _ hh=>qC a3 hh)) hcr dF;have aeB:(if t then kt (c.own f) Ju else Ju)=kt (c.own f) Ju:=by
  cases pK:t with
  | true=>rfl
  | false=>rw [pK] at ht; exact (p2 ht).1.symm
 rw [aeB] at gU;have uC:jT w (ah C w S1 (cW as9++Hx) t) (c.own f) (kt (c.own f) Ju) us.toList (as9.map (tR false)):=by
  refine ⟨by rw [qJ]; exact p1,?_,fun k hk=>a1.mem.lt k (eI k (gQ k (by rwa [qJ] at hk))),fun a ha=>?_⟩
  ·rw [qJ];refine (jN as9).nodup_iff.2 ?_;rw [yq];refine ⟨a6,(oA as9).nodup_iff.1 (yq.1 sG).2.1,fun x hx y hy e=>?_⟩;subst e;exact (yq.1 sG).2.2 x (aat x hx) x ((oA as9).mem_iff.2 hy) rfl
  ·rw [qJ];obtain ⟨a0,ha0,rfl⟩:=aam.1 ha;have hs:=dF a0 ha0;show bJ w _ (gD false a0.2);cases pK:t with
   | true=>
    exact yF (X:=ah C w S1 (cW as9++Hx)) (fun g k hk=>⟨hk.1,(hX g k hk).2.1,fun _=>⟨hk.1,hk.2.1,hk.2.2.1,by simp⟩⟩) _ hs
   | false=>
    rw [pK] at ht;have tM:=Du _ hs ((p2 ht).2 a0 ha0);exact yF (fun g k hk=>⟨hk.2.1,(hX false k hk.2).2.1,fun _=>hk.2⟩) _ tM
 obtain ⟨vT,BN⟩:=hg f _ r outs gU;refine ⟨vT,(BN w _ us _ uC cS.1 (aac.1 cS.2)).mono fun e w'=>?_⟩;rintro ⟨v,rfl,TF⟩;refine ⟨v,rfl,?_⟩;obtain ⟨cU,hold,mH,ri,sF,fc,cy,q1,q2,q3,q4,q5,q6⟩:=TF;rw [qJ] at hold q4 q5 q6;have aau:(c.own f).any id=false->dM w w':=fun hn k hk=>hold k hk (fun hm=>by
  have zJ:=EK a2 hn;rw [ld] at hm;rcases hm with hm | hm
  ·rw [List.mem_filterMap] at hm;obtain ⟨a,ha,e⟩:=hm;rw [zJ a ha] at e;simp at e
  ·have he:cW as9=[]:=by
    unfold cW;rw [List.flatten_eq_nil_iff];intro l hl;rw [List.mem_reverse,aam] at hl;obtain ⟨a,ha,rfl⟩:=hl;rw [zJ a ha]
   rw [he] at hm;simp [ai] at hm)
 obtain ⟨r2,r3⟩:=PD a2 q2;have VD:∀ k,k∈bE cy↔k∈as9.filterMap Prod.fst∨k∈ai (cZ cy):=fun k=>by rw [(jN cy).mem_iff,tD,r2]
 have yd:(ai fc++(as9.filterMap Prod.fst++ai (cZ cy))).Nodup:=by
  rw [<- r2];exact (abQ _ (jN cy)).nodup_iff.1 q3
 have Ol:bJ w' (fun b k=>Lk w' (ai fc++bE cy) (fun k=>ah C w S1 (cW as9++Hx) t k∨k∈bE as9∨w.heap.size<=k) b k) (cZ cy++fc):=(ea _ _).2 ⟨yc.2 q6,q5⟩;have hX2:∀ k,Lk w' (ai fc++bE cy) (fun k=>ah C w S1 (cW as9++Hx) t k∨k∈bE as9∨w.heap.size<=k) false k->
   (fun b k=>k < w'.heap.size/\k∉ai (gD t (cZ cy++fc))/\k∉as9.filterMap Prod.fst/\(ah C w S1 (cW as9++Hx) b k∨k∈ai (cW as9)∨w.heap.size<=k)) t k:=by
  rintro k ⟨k1,k2,k3⟩;rw [tD,not_or,VD,not_or] at k2;refine ⟨k1,?_,k2.2.1,?_⟩
  ·rw [vQ,bd,tD,not_or];exact ⟨k2.2.2,k2.1⟩
  ·rcases k3 rfl with h1 | h1 | h1
   ·exact .inl h1
   ·rcases ld.1 h1 with h2 | h2
    ·exact absurd h2 k2.2.1
    ·exact .inr (.inl h2)
   ·exact .inr (.inr h1)
 have hnl:cq (ba (cZ cy++fc))=true:=by
  rw [qf,eh,List.all_append,<- eh,<- eh,aey q1 cS.1 q5,ae9,eh,aac];have h1:=PE q2 (aac.1 cS.2) q6;intro x hx;rw [eO] at hx;obtain ⟨t0,kY,rfl⟩:=aam.1 hx;simp only [cZ,aeJ,aam] at kY;obtain ⟨l,⟨a,ha,rfl⟩,kY⟩:=kY;have h2:=h1 a ha;rw [eh,aac] at h2;exact h2 _ (by rw [eO]; exact aam.2 ⟨_,kY,rfl⟩)
 have hO:=yF (b:=t) (X':=fun b k=>k < w'.heap.size/\k∉ai (gD t (cZ cy++fc))/\k∉as9.filterMap Prod.fst/\(ah C w S1 (cW as9++Hx) b k∨k∈ai (cW as9)∨w.heap.size<=k)) (fun g k hk=>hX2 k hk.2) _ (Du _ Ol hnl);have a1':Rel C (cW as9++Hx) w aeA (vs::aI) S1:=a1;have VE:(ai (gD t (cZ cy++fc))).Nodup:=by
  rw [vQ,bd];rw [yq,yq] at yd;rw [yq];exact ⟨yd.2.1.2.1,yd.1,fun x hx y hy e=>yd.2.2 y hy x (tD.2 (.inr hx)) e.symm⟩
 have AF:∀ k∈ai (gD t (cZ cy++fc)),k∉as9.filterMap Prod.fst:=by
  intro k hk yv;rw [vQ,bd] at hk;rw [yq,yq] at yd;rcases tD.1 hk with h1 | h1
  ·exact yd.2.1.2.2 k yv k h1 rfl
  ·exact yd.2.2 k h1 k (tD.2 (.inl yv)) rfl
 have hc3:∀ k∈ai (gD t (cZ cy++fc)),k < w'.heap.size/\(k∈ai (cW as9)∨w.heap.size<=k):=by
  intro k hk;rw [vQ,bd] at hk;have G3:k∈ai fc++bE cy:=by
   rcases tD.1 hk with h1 | h1
   ·exact tD.2 (.inr ((VD k).2 (.inr h1)))
   ·exact tD.2 (.inl h1)
  obtain ⟨h1,h2⟩:=q4 k G3;refine ⟨h1,?_⟩;rcases h2 with h2 | h2
  ·rcases ld.1 h2 with h4 | h4
   ·exfalso;rw [yq,yq] at yd;rcases tD.1 hk with h5 | h5
    ·exact yd.2.1.2.2 k h4 k h5 rfl
    ·exact yd.2.2 k h5 k (tD.2 (.inl h4)) rfl
   ·exact .inl h4
  ·exact .inr h2
 obtain ⟨b1,b2⟩:=Fw (w':=w') a1' Yr cU (fun k hk h1 h2=>hold k hk (fun h3=>by
   rcases ld.1 h3 with h4 | h4
   ·exact h2 h4
   ·exact h1 h4)) mH ri sF hO VE AF hc3 r3
 have hOs:gD t (cZ cy++fc)++Hx=cZ (cy.map (tR t))++(gD t fc++Hx):=by
  rw [Dt,LH,aay]
 rw [hOs] at b1 b2;have aeC:cm (cx w' (ah C w' S1 (cZ (cy.map (tR t))++(gD t fc++Hx))) S1) args us.toList:=by
  refine ha.mono (fun d u hh=>?_);have h1:=qC a3 hh;exact qC b2 h1
 have G4:=LK (t:=t) a2 aeC q2 q6;have agH:(if t then outs.map (hC true) else outs)=outs.map (hC t):=by
  cases pK:t with
  | true=>rfl
  | false=>
   simp only [aai,if_false];have:∀ o∈outs,hC false o=id o:=fun o ho=>Jt o (by
    have:=aac.1 cS.2 o ho;simp only [dG,aac,Bh] at this;exact aac.2 (fun x hx=>(this x hx).2))
   rw [afb this,List.map_id]
 rw [agH] at hcb;obtain ⟨S2,h2,c1,c2⟩:=Rx b1 Yj G4 hcb;have gq:(if t then hC true r else r)=hC t r:=by
  cases pK:t with
  | true=>rfl
  | false=>
   simp only [aai,if_false];refine (Jt r ?_).symm;have:=cS.1;simp only [dG,aac,Bh] at this;exact aac.2 (fun x hx=>(this x hx).2)
 have Fv:cu.of=st.of:=c2.of.trans a5.2.2;have PG:LF (hC t r) v (gD t fc):=aci q1 q5;cases fQ:dst with
 | none=>
  rw [fQ] at aq;simp only [jf] at aq;subst aq;exact ⟨⟨S2,(qH c1).1⟩,Fv,aau⟩
 | some i=>
  rw [fQ] at aq;simp only [jf] at aq;subst aq;obtain ⟨d1,d2⟩:=hd i fQ;rw [gq];obtain ⟨S3,e1⟩:=Yl c1 PG d1 (by rw [Fv]; exact d2)
  exact ⟨⟨S3,e1⟩,(iS _ _ _).trans ((Yp _ _ _).trans Fv),aau⟩
end
def sT (P:Program) (ci:FuncId->List D->Nat->St->Option (D × St)):Prop:=
 ∀ f args EL st d st',ci f args EL st=some (d,st')->kK P f/\∀ (C:Ctx) (Hx:List T) (w:World) (aI:List (Array Value)) (S:List (Nat × RT)) (us:Array Value),Rel C Hx w st aI S->aI≠[]->cm (cx w (ah C w S Hx) S) args us.toList->(∀ p∈C.P0,p.1 < 10000)->100000<=EL->
  Calls P f us w fun e w'=>∃ v,e=.returned v/\∃ S',Rel C Hx w' st' aI S'/\cx w' (ah C w' S' Hx) S' d v/\st'.of=st.of
section
variable {P:Program} {c:cA} (aw:eu c P) {C:Ctx} {Hx:List T} {w:World} {st st':St} {o:Oper} {a:Act} {aI:List (Array Value)} {S:List (Nat × RT)} {K:Act->World->Prop} {Q:Exit->Act->World->Prop}
 {cl:FuncId->List D->Option (D × List D)} {ci:FuncId->List D->Nat->St->Option (D × St)} {aA:FuncId}
theorem PH {cc:Call} {f:Operand} {g:FuncId} {gY:Array Value} (ho:o.op=.call cc) (hc:cc.callee=.value f) (hf:a.eval f=.func (.func g) #[] gY) (vT:kK P g):
    (execOp a.eval o).run P w=.ok (.enter g (cc.args.map a.eval++gY)) w:=by
  obtain ⟨fn,h1,h2,h3⟩:=vT
  unfold execOp
  simp only [ho,resolve,hc,hf,Deferred.ofValue,Sem.run_bind,Sem.run_pure,Result.andThen_ok,invoke,callFunc,Array.empty_append]
  have hp:Sem.run P program w=.ok P w:=by simp
  rw [hp,Result.andThen_ok,h1]
  have VF : ¬ fn.name = "runtime.NumGoroutine" := by simpa using h2
  have GX:¬ fn.body=none:=fun e=>by rw [e] at h3; simp at h3
  simp [VF,GX]
include aw
theorem aaw (h:Rel C Hx w st (a.tmps::aI) S) (fQ:∀ t,o.dst=some t->t < a.tmps.size/\∀ p∈C.P0,p.1≠st.of+t) (hP:∀ p∈C.P0,p.1 < 10000) (kv:lP P c.own cl) (mv:sT P ci) (aq:fb c cl ci aA st o=some st')
  (hK:∀ a' w' S',Rel C Hx w' st' (a'.tmps::aI) S'->a'.tmps.size=a.tmps.size->a'.defers=a.defers->st'.of=st.of->(w5 c o=true->dM w w')->yC o a S w w'->K a' w'):o.wp P a w K Q:=by
 by_cases cY:∃ cc f,o.op=.call cc/\cc.callee=.value f
 ·obtain ⟨cc,f,ho,hc⟩:=cY;have fX:mF w (ah C w S Hx) S st.tm a.tmps:=by cases h.pd with | cons a _=>exact a
  have ev:=fun t x=>xe (c:=c) fX t x;unfold fb at aq;simp only [ho,hc] at aq;split at aq
  ·simp at aq
  rename_i cU;simp only [ne_eq,af2] at cU;split at aq
  case h_2=>simp at aq
  rename_i g gY hf;have hfv:=ev o.type f;rw [hf] at hfv;obtain ⟨us,hfu,ON⟩:=hfv;have gQ:cm (cx w (ah C w S Hx) S) (((cc.args.toList.zip cc.argTypes.toList).map fun p=>ct c st p.2 p.1)++gY) (cc.args.map a.eval++us).toList:=by
   rw [Array.toList_append];refine cm.app ?_ (ON.mono (fun _ _ hh=>mN hh));refine du (by simp [cU]) (fun i x y hx hy=>?_)
   simp only [ad6,aa5] at hx hy;cases hq:(cc.args.toList.zip cc.argTypes.toList)[i]? with
   | none=>simp [hq] at hx
   | some q=>
    simp only [hq,OB,jf] at hx;rw [afh] at hq;simp only [hq.1,OB,jf] at hy;subst hx; subst hy;exact ev q.2 q.1
  split at aq
  ·rename_i hig;split at aq
   case h_2=>simp at aq
   rename_i d aQ nh;simp only [jf] at aq;subst aq;obtain ⟨vT,BN⟩:=mv _ _ _ _ _ _ nh;unfold Oper.wp;rw [PH ho hc hfu vT];refine (BN C Hx w _ S _ h (by simp) gQ hP (by
    have:1*100000<=(st.of+o.dst.getD 0+1)*100000:=aaQ _ (by omega)
    omega)).mono fun e w'=>?_
   rintro ⟨v,rfl,S',h1,h2,h3⟩;have vN:yC o a S w w':=⟨fun e=>by simp [sa,ho] at e,fun cc' e1 e2=>by rw [ho,Op.call.injEq] at e1; subst e1; rw [hc] at e2; simp at e2,fun t x y e=>by simp [ho] at e⟩
   refine hK _ _ S' (h1.zM (fun t ht=>(fQ t ht).1) h2) (cT a o.dst v).1 (cT a o.dst v).2 ((iS _ _ _).trans h3) (fun hk=>?_) vN;exfalso;simp only [w5,nJ,sa,ho,hc,Option.isSome_none,Bool.false_or] at hk;cases f with
   | func f'=>
    simp only [Bh,abb] at hk;have hg:g=f':=by
     simp only [ct,D.fn.injEq] at hf;exact hf.1.symm
    subst hg;rw [hk.1] at hig;simp at hig
   | _=>simp at hk
  ·obtain ⟨vT,BN⟩:=Yq kv h gQ fQ aq;unfold Oper.wp;rw [PH ho hc hfu vT];refine BN.mono fun e w'=>?_;rintro ⟨v,rfl,⟨S',h1⟩,h2,h3⟩;have vN:yC o a S w w':=⟨fun e=>by simp [sa,ho] at e,fun cc' e1 e2=>by rw [ho,Op.call.injEq] at e1; subst e1; rw [hc] at e2; simp at e2,fun t x y e=>by simp [ho] at e⟩
   refine hK _ _ S' ?_ (cT a o.dst v).1 (cT a o.dst v).2 h2 (fun hk=>?_) vN
   ·cases aax:o.dst with
    | none=>rw [aax] at h1; exact h1
    | some t=>rw [aax] at h1; exact h1
   ·simp only [w5,nJ,sa,ho,hc,Option.isSome_none,Bool.false_or] at hk;cases f with
    | func f'=>
     simp only [Bh,abb] at hk;have hg:g=f':=by
      simp only [ct,D.fn.injEq] at hf;exact hf.1.symm
     subst hg;exact h3 hk.2
    | _=>simp at hk
 ·by_cases hk:(nJ c o).isSome=true
  ·obtain ⟨b,kZ⟩:=aby.1 hk;obtain ⟨v,d,h1,h2,rfl⟩:=Pp aw h kZ aq;exact oo (h1 w (.inr ((dM.refl w).rd o a))) (hK _ _ S (h.zM (fun t ht=>(fQ t ht).1) h2) (cT a o.dst v).1 (cT a o.dst v).2 (iS st o.dst d) (fun _=>dM.refl w) (yC.refl o a S w))
  ·refine Vt aw h fQ (fun cc f e1 e2=>cY ⟨cc,f,e1,e2⟩) aq (fun a' w' S' h1 h2 h3 h4 h5=>hK a' w' S' h1 h2 h3 h4 (fun Sq=>?_) h5);refine h5.al ?_;simp only [w5,abv] at Sq;rcases Sq with (h6 | h6) | h6
   ·exact absurd h6 hk
   ·exact h6
   ·exfalso;split at h6
    ·rename_i cc mI;split at h6
     ·rename_i f hf;exact cY ⟨cc,.func f,mI,hf⟩
     ·simp at h6
    ·simp at h6
end
section
variable {C:Ctx} {H H':List T} {w w':World} {st st':St} {aI TG:List (Array Value)} {S S':List (Nat × RT)}
theorem VG (hp:H.Perm H'):(ai H).Perm (ai H'):=by
 rw [og,og];exact (hp.map T.ft).flatten
theorem Yt (h:Rel C H w st aI S) (hp:H.Perm H'):Rel C H' w st aI S:=by
 have hf:=VG hp;have e:ah C w S H=ah C w S H':=by
  funext b k;unfold ah;rw [hf.mem_iff]
 obtain ⟨h1,⟨m1,m2,m3,m4⟩,h3,⟨k1,k2,k3,k4,k5,k6,k7⟩⟩:=h;rw [e] at m2 m3 h3;refine ⟨h1,⟨(abQ _ hf).nodup_iff.1 m1,m2,?_,fun k hk=>m4 k ((abQ _ hf).mem_iff.2 hk)⟩,h3,⟨k1,k2,k3,k4,k5,fun k hk=>k6 k ((abQ _ hf).mem_iff.2 hk),k7⟩⟩;rw [cj] at m3 ⊢;exact fun t ht=>m3 t (hp.mem_iff.2 ht)
def Ctx.at (C:Ctx) (w:World) (S:List (Nat × RT)) (H:List T) (P1:List (Nat × Option Nat × List Value)):Ctx:=
 ⟨w,cM S++ai H,fun k=>C.Y k∨k∈C.FA∨C.w0.heap.size<=k,C.P0++P1⟩
theorem Sr (hk:Kept C w S H) {P1:List (Nat × Option Nat × List Value)} (w':World) (S':List (Nat × RT)) (H':List T):ah (C.at w S H P1) w' S' H'=ah C w' S' H':=by
 funext b k;unfold ah Ctx.at;have h1:=hk.size;have h2:=hk.iQ k;apply propext;constructor
 ·rintro ⟨a,b,c,d⟩;refine ⟨a,b,c,fun e=>?_⟩;rcases d e with d | d | d
  ·exact d
  ·exact .inr (h2 d)
  ·exact .inr (.inr (abI h1 d))
 ·rintro ⟨a,b,c,d⟩;exact ⟨a,b,c,fun e=>.inl (d e)⟩
theorem aeD (h:Rel C H w st aI S) {P1:List (Nat × Option Nat × List Value)} (hp:∀ r b vs,(r,b,vs)∈P1->∀ R,lk S r=some R->R.box=b/\(b=none->ax R.cs=vs)):Rel (C.at w S H P1) H w st aI S:=by
 have e:=Sr h.kept (P1:=P1) w S H;obtain ⟨h1,⟨m1,m2,m3,m4⟩,h3,hk⟩:=h;refine ⟨h1,⟨m1,?_,?_,m4⟩,?_,⟨rfl,rfl,rfl,aav _,fun _ _ _=>rfl,fun k hk=>.inl hk,fun r b vs hm=>?_⟩⟩
 ·rw [e]; exact m2
 ·rw [e]; exact m3
 ·rw [e]; exact h3
 ·rcases tD.1 hm with hm | hm
  ·exact hk.par r b vs hm
  ·exact hp r b vs hm
theorem acm (hk:Kept C w S H) {P1:List (Nat × Option Nat × List Value)} (h:Rel (C.at w S H P1) H' w' st' TG S'):Rel C H' w' st' TG S':=by
 have e:=Sr hk (P1:=P1) w' S' H';obtain ⟨h1,⟨m1,m2,m3,m4⟩,h3,⟨k1,k2,k3,k4,k5,k6,k7⟩⟩:=h;rw [e] at m2 m3 h3;refine ⟨h1,⟨m1,m2,m3,m4⟩,h3,⟨k1.trans hk.os,k2.trans hk.tape,k3.trans hk.output,abI hk.size k4,fun k a1 a2=>?_,fun k a1=>?_,fun r b vs hm=>k7 r b vs (tD.2 (.inl hm))⟩⟩
 ·refine (k5 k (aef a1 hk.size) fun a3=>?_).trans (hk.block k a1 a2);rcases hk.iQ k a3 with a4 | a4
  ·exact a2 a4
  ·omega
 ·rcases k6 k a1 with a2 | a2
  ·exact hk.iQ k a2
  ·exact .inr (abI hk.size a2)
end
section
variable {P:Program} {ops:Array Oper} {Q:Exit->Act->World->Prop} {KB:Nat->Nat->Prop}
def pO (P:Program) (ops:Array Oper) (Q:Exit->Act->World->Prop) (KB:Nat->Nat->Prop):Nat->Array Bool->Act->World->Prop
 | 0,cf,a,w=>Region.ready .any ops cf=[]/\Q .normal a w
 | fuel+1,cf,a,w=>
  (Region.ready .any ops cf=[]->Q .normal a w)/\
  ∀ i∈Region.ready .any ops cf,wpOp P ops Q i (fun a' w'=>(∀ b,KB i b->w'.heap[b]?=w.heap[b]?)/\pO P ops Q KB fuel (cf.setIfInBounds i true) a' w') a w
theorem G5:∀ (fuel:Nat) (cf:Array Bool) (a:Act) (w:World),pO P ops Q KB fuel cf a w->wpAny P .any ops Q fuel cf a w
 | 0,_,_,_,h=>h
 | fuel+1,_,_,_,h=>⟨h.1,fun i hi=>wpOp_mono (fun a' w' h'=>G5 fuel _ a' w' h'.2) (h.2 i hi)⟩
theorem EM {EN:Nat->Nat->Prop} (hk:∀ i b,KB i b->EN i b):∀ (fuel:Nat) (cf:Array Bool) (a:Act) (w:World),pO P ops Q EN fuel cf a w->pO P ops Q KB fuel cf a w
 | 0,_,_,_,h=>h
 | fuel+1,_,_,_,h=>⟨h.1,fun i hi=>wpOp_mono (fun a' w' h'=>⟨fun b hb=>h'.1 b (hk i b hb),EM hk fuel _ a' w' h'.2⟩) (h.2 i hi)⟩
def oB (ops:Array Oper) (cf:Array Bool):Prop:=∀ k o,ops[k]?=some o->cf.getD k false=true->∀ e∈o.after,Region.binds .any e=true->cf.getD e.on false=true
theorem Ry (n:Nat):oB ops (Array.replicate n false):=by
 intro k o _ h;rw [aaY,Array.getElem?_replicate] at h;split at h<;>simp at h
theorem rA {cf:Array Bool} (h:oB ops cf) {j:Nat} (hj:j∈Region.ready .any ops cf):oB ops (cf.setIfInBounds j true):=by
 intro k o ho hk e he hb;by_cases hkj:k=j
 ·subst hkj;obtain ⟨_,o',PF,dR⟩:=mem_ready.1 hj;rw [ho,jf] at PF;subst PF;exact getD_set_true (dR e he hb)
 ·rw [getD_set_ne false (aeR hkj)] at hk;exact getD_set_true (h k o ho hk e he hb)
theorem EO {cf:Array Bool} (hc:oB ops cf) {i:Nat} (hi:cf.getD i false=false):∀ (n j:Nat),(∀ o,ops[j]?=some o->∀ e∈o.after,Region.binds .any e=true->cf.getD e.on false=true)->waits ops n j i=false
 | 0,_,_=>rfl
 | n+1,j,h=>by
  unfold waits;cases ho:ops[j]? with
  | none=>rfl
  | some o=>
   simp only;rw [List.any_eq_false];intro e he;simp only [Bh,abv,beq_iff_eq,not_and,not_or];intro hb;have h1:=h o ho e (abG.1 he) hb;refine ⟨fun e1=>?_,fun e1=>?_⟩
   ·rw [e1,hi] at h1; simp at h1
   ·have:=EO hc hi n e.on (fun o' PF e' he' fH=>hc e.on o' PF h1 e' he' fH);rw [this] at e1; simp at e1
theorem jX {cf:Array Bool} {i:Nat} (h:i∈Region.ready .any ops cf):cf.getD i true=false/\cf.getD i false=false:=by
 have h0:=(mem_ready.1 h).1;refine ⟨h0,?_⟩;rw [aaY] at h0 ⊢;cases hx:cf[i]? with
 | none=>rw [hx] at h0; simp at h0
 | some y=>rw [hx] at h0; simpa using h0
theorem pP {cf:Array Bool} (hc:oB ops cf) {i j:Nat} (hi:cf.getD i true=false) (hj:j∈Region.ready .any ops cf):waits ops ops.size j i=false:=by
 have oC:cf.getD i false=false:=by
  rw [aaY] at hi ⊢;cases hx:cf[i]? with
  | none=>rw [hx] at hi; simp at hi
  | some y=>rw [hx] at hi; simpa using hi
 obtain ⟨_,oj,VH,dR⟩:=mem_ready.1 hj;exact EO hc oC _ _ (fun o ho e he hb=>by
  rw [VH,jf] at ho;subst ho;exact dR e he hb)
theorem BO {i:Nat} {oi:Oper} {v:Value} {B:Nat->Prop} {wr:World} (hi:ops[i]?=some oi) (nE:∀ (j:Nat) (o:Oper) cs b,ops[j]?=some o->o.op≠.select cs b)
  (hQ:∀ c a w,Q (.panic c) (a.put oi.dst v) w->Q (.panic c) a w):
  ∀ (fuel:Nat) (cf:Array Bool) (a:Act) (w:World),oB ops cf->
   (∀ j oj,ops[j]?=some oj->j≠i->cf.getD j true=false->waits ops ops.size j i=false->oi.apart ops oj=true/\∀ b,B b->KB j b)->
   i∈Region.ready .any ops cf->YieldsIf P ops (fun w2=>∀ b,B b->w2.heap[b]?=wr.heap[b]?) oi v a->(∀ b,B b->w.heap[b]?=wr.heap[b]?)->
   pO P ops Q KB fuel (cf.setIfInBounds i true) (a.put oi.dst v) w->pO P ops Q KB (fuel+1) cf a w:=by
 intro fuel
 induction fuel with
 | zero=>
  intro cf a w gU xB hr hy hS H;refine ⟨fun h=>(by rw [h] at hr; cases hr),fun j hj=>?_⟩
  by_cases LL:j=i
  ·subst LL; exact hy.wpOp hi hS ⟨fun _ _=>rfl,H⟩
  ·have:=ready_mono hj LL;rw [H.1] at this;cases this
 | succ fuel ih=>
  intro cf a w gU xB hr hy hS H;refine ⟨fun h=>(by rw [h] at hr; cases hr),fun j hj=>?_⟩
  by_cases LL:j=i
  ·subst LL; exact hy.wpOp hi hS ⟨fun _ _=>rfl,H⟩
  ·have h1:=H.2 j (ready_mono hj LL);obtain ⟨aeE,oj,VH,dR⟩:=mem_ready.1 hj;have aje:=pP gU (jX hr).1 hj;obtain ⟨PI,Sq⟩:=xB j oj VH LL aeE aje;have h2:=wpOp_putIf VH PI (fun cs b=>nE i oi cs b hi) (fun cs b=>nE j oj cs b VH) hQ hy h1;have aeF:∀ k ok,ops[k]?=some ok->k≠i->(cf.setIfInBounds j true).getD k true=false->
     waits ops ops.size k i=false->oi.apart ops ok=true/\∀ b,B b->KB k b:=fun k ok hk hki pN pe=>by
    refine xB k ok hk hki ?_ pe;by_cases hjk:j=k
    ·subst hjk; exact aeE
    ·rw [getD_set_ne true hjk] at pN; exact pN
   refine wpOp_mono (fun a' w' h3=>⟨h3.2.1,ih (cf.setIfInBounds j true) a' w' (rA gU hj) aeF (ready_mono hr (aeR LL)) h3.1 (fun b hb=>(h3.2.1 b (Sq b hb)).trans (hS b hb)) ?_⟩) h2;rw [Array.setIfInBounds_comm _ _ LL];exact h3.2.2
end
def Ss (ib:Bool):Nat->D:=fun d=>if ib then .ptr d [] 0 else .ref d [] 0 none
def G6 (cs:List D) (ib:Bool) (t:T) (v:Value):Prop:=
 if ib then ∃ b ts,t=.own ts.length 1 1 (some (b,0)) ts/\cs=ba ts/\v=.pointer (some ⟨b,0,none⟩)
 else cs=[t.er]/\v=t.val/\∃ s n cap a ts,t=.own s n cap a ts
section
variable {P:Program} {c:cA} {C:Ctx} {H:List T} {w:World} {st st':St} {a:Act} {aI:List (Array Value)} {S:List (Nat × RT)} {o:Oper} {cs:List D} {ib:Bool}
 {cl:FuncId->List D->Option (D × List D)} {ci:FuncId->List D->Nat->St->Option (D × St)} {aA:FuncId}
theorem aeG (h:Lh c o=some (cs,ib)):fb c cl ci aA st o=st.root o.dst cs (Ss ib):=by
 unfold Lh at h;unfold fb;split at h
 ·rename_i e ho;rw [ho];split at h
  ·rename_i i hi;simp only [jf,tE] at h;obtain ⟨rfl,rfl⟩:=h;simp only [hi];rfl
  ·simp at h
 ·rename_i t l cp ho;rw [ho];split at h
  case h_2=>simp at h
  rename_i e q1 q2 q3 fO;split at h
  case h_2=>simp at h
  rename_i ei k1 l1 k2 c1 iu hl hc;split at h
  case isFalse=>simp at h
  rename_i hh;simp only [jf,tE] at h;obtain ⟨rfl,rfl⟩:=h;have e1:ct c st o.type (.const l)=.int k1 l1:=hl;have e2:ct c st o.type (.const cp)=.int k2 c1:=hc;simp only [fO,iu,e1,e2,if_pos hh.1,if_pos hh.2.1,if_pos hh.2.2];rfl
 ·rename_i t n ps ho;rw [ho];split at h
  case h_2=>simp at h
  rename_i e q1 q2 q3 fO;split at h
  case h_2=>simp at h
  rename_i ei iu;split at h
  case isFalse=>simp at h
  rename_i hh;simp only [jf,tE] at h;obtain ⟨rfl,rfl⟩:=h;obtain ⟨h1,h2⟩:=hh;have hps:ps=#[]:=abC h2;subst hps;subst h1;simp [fO,iu,sr,nI,fa];rfl
 ·simp at h
theorem Yu (aw:eu c P) (h:Rel C H w st aI S) (he:Lh c o=some (cs,ib)):∃ v w' t,(execOp a.eval o).run P w=.ok (.value v) w'/\dM w w'/\Rel C (t::H) w' st aI S/\G6 cs ib t v:=by
 have fin:∀ {obj:Obj} {t:T} {v:Value},(execOp a.eval o).run P w=.ok (.value v) (w.alloc obj)->bJ (w.alloc obj) (fun _ _=>False) [t]->ai [t]=[w.heap.size]->G6 cs ib t v->∃ v w' t,(execOp a.eval o).run P w=.ok (.value v) w'/\dM w w'/\Rel C (t::H) w' st aI S/\G6 cs ib t v:=by
  intro obj t v h1 h2 h3 h4;have hg:=Grown.alloc w obj;have h5:=Fw (Hs:=[]) (H:=H) (Os:=[t]) (bxs:=[]) (w':=w.alloc obj) h (by simp) hg.sz (fun k hk _ _=>hg.bY k hk) hg.os hg.tape hg.out (gd (fun b k hk=>hk.elim) _ h2) (by rw [h3]; simp) (by simp) (fun k hk=>by
   rw [h3,abk] at hk;subst hk;exact ⟨by rw [iP]; omega,.inr (aav _)⟩) (by simp)
  exact ⟨v,_,t,h1,hg.bY,h5.1,h4⟩
 unfold Lh at he;split at he
 ·rename_i e ho;split at he
  case h_2=>simp at he
  rename_i i hi;simp only [jf,tE] at he;obtain ⟨rfl,rfl⟩:=he;obtain ⟨inf,h1,h2,h3,z,h4,h5⟩:=(aw.ty _ _ hi).info;obtain ⟨e1,e2,e3,e4,e5⟩:=Lt h5 (fun _ _=>vK);refine fin (obj:=.cells z.cells e) (t:=.own (leaves i.zero z.cells.toList).length 1 1 (some (w.heap.size,0)) (leaves i.zero z.cells.toList)) (v:=.pointer (some ⟨w.heap.size,0,none⟩)) ?_ ?_ ?_ ?_
  ·have eB:(Instr.alloc e true (.tuple #[])).run P w=.ok (.pointer (some ⟨w.heap.size,0,none⟩)) (w.alloc (.cells z.cells e)):=by
    simp [Instr.alloc,Ff h1 h4,newVar,newRow]
   unfold execOp;simp only [ho,Sem.run_bind,eB,Result.andThen_ok,Sem.run_pure]
  ·simp only [bJ,bI,and_true];refine ⟨⟨aav _,by omega⟩,by simp,?_,?_⟩
   ·rw [Nat.one_mul];refine jM w _ _ (by rw [e4,h5.len]; simp) (fun j u hj=>?_)
    rw [e2] at hj
    simpa using hj
   ·rw [cj];intro x hx;obtain ⟨d,u,rfl,h6⟩:=e5 x hx;simp only [bI];rw [vK h6];exact h6 _ _
  ·simp [ai,T.ft,fG,e3]
  ·unfold G6;rw [if_pos rfl];exact ⟨_,_,rfl,e1.symm,rfl⟩
 ·rename_i t l cp ho;split at he
  case h_2=>simp at he
  rename_i e q1 q2 q3 fO;split at he
  case h_2=>simp at he
  rename_i ei k1 l1 k2 c1 iu hl hc;split at he
  case isFalse=>simp at he
  rename_i hh;simp only [jf,tE] at he;obtain ⟨rfl,rfl⟩:=he;obtain ⟨h0,Bx,hb⟩:=hh;obtain ⟨inf,h1,h2,h3,z,h4,h5⟩:=(aw.ty _ _ iu).info;have AB:=(aw.ty _ _ iu).len;obtain ⟨dd,g1,g2⟩:=(aw.ty _ _ fO).desc;simp only [lS] at g2;subst g2;have hcp:c1<=140737488355328:=by
   have:c1*1<=c1*ei.bytes:=Int.mul_le_mul_of_nonneg_left (by omega) (by omega)
   omega
  have hv:∀ {x:Value} {k:IntKind} {n:Int},Dg c o.type x=.int k n->x=.int k n:=by
   intro x k n hx;unfold Dg at hx;split at hx<;>simp at hx
   obtain ⟨rfl,rfl⟩:=hx;rfl
  have hl:=hv hl;have hc:=hv hc;subst hl;subst hc;have eB:=run_make (P:=P) w t e inf z g1 h1 h4 k1 k2 l1 c1 h0 Bx (by rw [h3,Int.mul_comm]; omega) (by omega)
  obtain ⟨ts,e1,e2,e3,e4⟩:=xx h5 l1.toNat;have kF:z.cells.size=ei.size:=by rw [<- AB,h5.len]; simp
  have hlen:ts.length=l1.toNat*ei.size:=by
   have:=congrArg List.length e2;rw [bV] at this;simp only [aeM,aeX,ad7,adW,kF] at this;exact this
  refine fin (obj:=.cells (madeCells z.cells (c1.toNat*inf.size)) e) (t:=.own ei.size l1.toNat c1.toNat (some (w.heap.size,0)) ts) (v:=.slice (some ⟨w.heap.size,0,none⟩) l1.toNat c1.toNat) ?_ ?_ ?_ ?_
  ·unfold execOp;simp only [ho,Act.eval,Sem.run_bind,eB,Result.andThen_ok,Sem.run_pure]
  ·simp only [bJ,bI,and_true];refine ⟨by omega,hlen,?_,e4 _ _⟩
   refine jM w _ _ (by rw [size_madeCells,h2]; exact aav _) (fun j u hj=>?_)
   rw [e2] at hj;rw [h2,<- kF,OY];exact Eu _ (by omega) hj
  ·simp [ai,T.ft,fG,e3]
  ·unfold G6;rw [if_neg (by simp)]
   exact ⟨by simp [T.er,e1],rfl,_,_,_,_,_,rfl⟩
 ·rename_i t n ps ho;split at he
  case h_2=>simp at he
  rename_i e q1 q2 q3 fO;split at he
  case h_2=>simp at he
  rename_i ei iu;split at he
  case isFalse=>simp at he
  rename_i hh;simp only [jf,tE] at he;obtain ⟨rfl,rfl⟩:=he;obtain ⟨hn,h2⟩:=hh;have hps:ps=#[]:=abC h2;subst hps;subst hn;obtain ⟨inf,h1,h2,h3,z,h4,h5⟩:=(aw.ty _ _ iu).info;obtain ⟨dd,g1,g2⟩:=(aw.ty _ _ fO).desc;simp only [lS] at g2;subst g2;refine fin (obj:=.cells #[] e) (t:=.own ei.size 0 0 (some (w.heap.size,0)) []) (v:=.slice (some ⟨w.heap.size,0,none⟩) 0 0) ?_ ?_ ?_ ?_
  ·have eB:(Instr.buildSlice t 0 #[]).run P w=.ok (.slice (some ⟨w.heap.size,0,none⟩) 0 0) (w.alloc (.cells #[] e)):=by
    simp [Instr.buildSlice,run_underlying g1,sizeOf,typeInfo,h1,newRow,Array.range_zero',Instr.fill]
   unfold execOp;simp only [ho];simp [eB]
  ·simp only [bJ,bI,and_true];exact ⟨⟨aav _,by omega⟩,by simp,jM w _ _ (by simp) (by simp [ax])⟩
  ·simp [ai,T.ft,fG]
  ·unfold G6;rw [if_neg (by simp)]
   exact ⟨by simp [T.er,ba],rfl,_,_,_,_,_,rfl⟩
 ·simp at he
theorem acn {t:T} {v:Value} {vs:Array Value} {d:Nat} (h:Rel C (t::H) w st (vs::aI) S) (he:G6 cs ib t v) (ht:d < vs.size) (hP:∀ p∈C.P0,p.1≠st.of+d) (hr:st.root (some d) cs (Ss ib)=some st'):∃ S',Rel C H w st' (vs.setIfInBounds d v::aI) S':=by
 have dv:=h.mem.hand;simp only [bJ] at dv;have eT:=(yq.1 h.mem.nd).2.1;rw [<- abp,bd] at eT;have eT:=(yq.1 eT).1;unfold G6 at he;split at he
 ·rename_i Su;obtain ⟨b,ts,rfl,rfl,rfl⟩:=he;have hs:=dv.1;simp only [bI] at hs;obtain ⟨_,_,k3,k4⟩:=hs;refine sH (Hs:=[T.own ts.length 1 1 (some (b,0)) ts]) (H:=H) (R:=⟨some b,ts⟩) h (Grown.refl w) (fun k hk=>.inl ?_) ?_ (fun S' cF dZ=>?_) ht hP ?_ hr
  ·simpa [RT.ft,ai,T.ft,fG] using hk
  ·simpa [RT.ft,ai,T.ft,fG] using eT
  ·refine ⟨by simpa using k3,fun x hx=>?_⟩
   have h2:=dQ cF x ((cj _).1 k4 x hx) (fun _ _=>rfl);cases x with
   | v d u=>exact .inl h2
   | own s n cap a cs=>exact h2
  ·intro S' X hl;rw [show Ss ib (st.of+d)=.ptr (st.of+d) [] 0 by simp [Ss,Su]]
   simp only [cx,gI,bD];intro R hR;rw [hl,jf] at hR;subst hR;exact ⟨fun _=>rfl,fun b' off ha=>by simp only [bZ,OB,jf,tE] at ha; obtain ⟨rfl,rfl⟩:=ha; rfl⟩
 ·rename_i Su;obtain ⟨rfl,rfl,s,n,cap,a,ts,rfl⟩:=he;refine sH (Hs:=[T.own s n cap a ts]) (H:=H) (R:=⟨none,[T.own s n cap a ts]⟩) h (Grown.refl w) (fun k hk=>.inl ?_) ?_ (fun S' cF dZ=>?_) ht hP ?_ hr
  ·simpa [RT.ft] using hk
  ·simpa [RT.ft] using eT
  ·refine ⟨trivial,fun x hx=>?_⟩;simp only [abk] at hx;subst hx;exact dQ cF _ dv.1 (fun _ _=>rfl)
  ·intro S' X hl;rw [show Ss ib (st.of+d)=.ref (st.of+d) [] 0 none by simp [Ss,Su]]
   simp only [cx,gI,bD];intro x hx;simp only [cD,hl,ay,aaz,jf] at hx;subst hx;simp [eM,sn,T.er,T.val,uF]
end
structure Ea where
 idx:Nat
 tmp:Nat
 val:Value
 tree:T
def jY:List Ea->Act->Act
 | [],a=>a
 | e::E,a=>(jY E a).put (some e.tmp) e.val
def nM:Array Bool->List Ea->Array Bool
 | L,[]=>L
 | L,e::E=>(nM L E).setIfInBounds e.idx true
def G7 (L:Array Bool):Nat:=L.toList.countP (fun b=>!b)
theorem Jv {L:Array Bool} {i:Nat} (h:L.getD i true=false):G7 (L.setIfInBounds i true)+1=G7 L:=by
 have hi:i < L.size:=by
  rcases Nat.lt_or_ge i L.size with h1 | h1
  ·exact h1
  ·rw [aaY,abT h1] at h; simp at h
 have hv:L[i]=false:=by
  rw [aaY,adN hi] at h
  simpa using h
 unfold G7;rw [Array.toList_setIfInBounds];have key:∀ (l:List Bool) (i:Nat),l[i]?=some false->(l.set i true).countP (fun b=>!b)+1=l.countP (fun b=>!b):=by
  intro l
  induction l with
  | nil=>intro i h; simp at h
  | cons b l ih=>
   intro i h;cases i with
   | zero=>
    simp only [aaz,jf] at h;subst h;simp
   | succ i=>
    simp only [aaZ] at h;have:=ih i h;simp only [afz,List.countP_cons];omega
 exact key _ _ (by rw [adr,adN hi,hv])
theorem aco {L:Array Bool} {i:Nat} (h:L.getD i true=false):0 < G7 L:=by have:=Jv h; omega
theorem qK {i:Nat}:∀ (E:List Ea) (L:Array Bool),nM (L.setIfInBounds i true) E=(nM L E).setIfInBounds i true
 | [],L=>rfl
 | e::E,L=>by
  simp only [nM,qK E L];by_cases h:i=e.idx
  ·subst h; rfl
  ·rw [Array.setIfInBounds_comm _ _ h]
theorem PJ {j:Nat} {d:Bool}:∀ (E:List Ea) (L:Array Bool),(∀ e∈E,e.idx≠j)->(nM L E).getD j d=L.getD j d
 | [],L,_=>rfl
 | e::E,L,h=>by
  simp only [nM];rw [getD_set_ne d (h e (by simp))]
  exact PJ E L fun e' he=>h e' (by simp [he])
theorem Jw {e:Ea}:∀ (E1 E2:List Ea) (L:Array Bool),nM L (E1++e::E2)=nM (L.setIfInBounds e.idx true) (E1++E2)
 | [],E2,L=>(qK E2 L).symm
 | x::E1,E2,L=>by simp only [aao,nM,Jw E1 E2 L]
theorem G8 {j:Nat}:∀ (E:List Ea) (L:Array Bool),(nM L E).getD j true=false->L.getD j true=false/\∀ e∈E,e.idx≠j
 | [],L,h=>⟨h,by simp⟩
 | e::E,L,h=>by
  simp only [nM] at h;by_cases hj:e.idx=j
  ·exfalso;subst hj;rw [aaY,ad3] at h;simp only [if_true] at h;split at h<;>simp at h
  ·rw [getD_set_ne true hj] at h;obtain ⟨h1,h2⟩:=G8 E L h;refine ⟨h1,fun e' he=>?_⟩;rcases aap.1 he with rfl | he
   ·exact hj
   ·exact h2 e' he
theorem tS {x:Option Tmp} {v:Value}:∀ (E:List Ea) (a:Act),(∀ e∈E,x≠some e.tmp)->jY E (a.put x v)=(jY E a).put x v
 | [],a,_=>rfl
 | e::E,a,h=>by
  simp only [jY,tS E a fun e' he=>h e' (by simp [he])]
  exact Act.put_comm _ _ _ (fun d hd pf=>h e (by simp) (by rw [hd]; exact pf.symm))
theorem PK {e:Ea}:∀ (E1 E2:List Ea) (a:Act),(∀ x∈E1++E2,x.tmp≠e.tmp)->jY (E1++e::E2) a=jY (E1++E2) (a.put (some e.tmp) e.val)
 | [],E2,a,h=>by
  simp only [aaq,jY];rw [tS E2 a fun x hx hh=>h x (by simpa using hx) (by simpa using hh.symm)]
 | x::E1,E2,a,h=>by
  simp only [aao,jY];rw [PK E1 E2 a fun y hy=>h y (by simp only [aao,aap]; exact .inr hy)]
section
variable {P:Program} {ops:Array Oper} {Q:Exit->Act->World->Prop}
theorem BP {o:Oper} (nE:∀ cs b,o.op≠.select cs b):∀ (E:List Ea) (a:Act),(∀ e∈E,e.tmp∉o.looksAt ops)->execOp (jY E a).eval o=execOp a.eval o/\Region.wanted o (yielded ops (jY E a).tmps)=Region.wanted o (yielded ops a.tmps)
 | [],a,_=>⟨rfl,rfl⟩
 | e::E,a,h=>by
  obtain ⟨h1,h2⟩:=BP nE E a fun x hx=>h x (by simp [hx])
  have h3:∀ d,some e.tmp=some d->d∉o.looksAt ops:=fun d hd=>by
   rw [jf] at hd;subst hd;exact h e (by simp)
  exact ⟨(execOp_put o nE _ (some e.tmp) e.val h3).trans h1,(wanted_put o _ (some e.tmp) e.val h3).trans h2⟩
theorem VI {j:Nat} {oj:Oper} {E:List Ea} (hj:ops[j]?=some oj) (nE:∀ cs b,oj.op≠.select cs b) (hE:∀ e∈E,e.tmp∉oj.looksAt ops/\oj.dst≠some e.tmp) (Sv:∀ c a w,¬ Q (.panic c) a w) {K K':Act->World->Prop} {a:Act} {w:World}
  (hK:∀ a' w',K a' w'->K' (jY E a') w') (h:wpOp P ops Q j K a w):wpOp P ops Q j K' (jY E a) w:=by
 obtain ⟨h1,h2⟩:=BP (ops:=ops) nE E a fun e he=>(hE e he).1;have h3:∀ (a:Act) (v:Value),jY E (a.put oj.dst v)=(jY E a).put oj.dst v:=fun a v=>tS E a fun e he=>(hE e he).2;have hd:∀ (a:Act) (d:Deferred),jY E { a with defers:=d::a.defers }={ jY E a with defers:=d::(jY E a).defers }:=by
  intro a d;clear h1 h2 hE h3 hK
  induction E with
  | nil=>rfl
  | cons e E ih=>
   simp only [jY,ih];rw [<- Act.put_defers]
 unfold wpOp at*;simp only [hj] at*;rw [h2];split at h
 ·rename_i hw;simp only [hw,if_true];rcases h with h | ⟨agI,agJ⟩
  case inr=>exact .inr ⟨by unfold Oper.asks at*; rw [h1]; exact agI,agJ⟩
  refine .inl ?_;unfold Oper.wp at*;rw [h1];generalize (execOp a.eval oj).run P w=r at*;cases r with
  | ok n w'=>
   cases n<;>simp only [Oper.upon] at h ⊢
   case value u=>rw [<- h3]; exact hK _ _ h
   case skip=>rw [<- h3]; exact hK _ _ h
   case defer d=>
    rw [<- hd,<- h3];exact hK _ _ h
   case enter f args=>
    refine Calls.mono h fun e w'' he=>?_;cases e with
    | returned u=>
     have h9:=hK _ _ he;rw [h3] at h9;exact h9
    | panicked c=>exact absurd he (Sv _ _ _)
    | outgrown=>exact he
   case row row args=>exact Rows.mono h fun u w'' he=>by rw [<- h3]; exact hK _ _ he
  | halt x w'=>
   cases x<;>simp only [Oper.upon] at h ⊢
   case panic u=>exact absurd h (Sv _ _ _)
 ·rename_i hw;rw [if_neg hw,<- h3];exact hK _ _ h
structure tT (c:cA) (ops:Array Oper) (L:Array Bool) (E:List Ea):Prop where
 ok:∀ e∈E,∃ o cs ib,ops[e.idx]?=some o/\o.guard=none/\o.dst=some e.tmp/\Lh c o=some (cs,ib)/\G6 cs ib e.tree e.val/\e.idx∈Region.ready .any ops L/\
  ∀ k ok,ops[k]?=some ok->k≠e.idx->L.getD k true=false->waits ops ops.size k e.idx=false->o.apart ops ok=true
 nd:(E.map Ea.idx).Nodup
theorem tT.nil (c:cA) (ops:Array Oper) (L:Array Bool):tT c ops L []:=⟨by simp,by simp⟩
theorem tT.set {c:cA} {L:Array Bool} {E:List Ea} (h:tT c ops L E) {i:Nat} (hi:∀ e∈E,e.idx≠i):tT c ops (L.setIfInBounds i true) E:=by
 refine ⟨fun e he=>?_,h.nd⟩;obtain ⟨o,cs,ib,h1,h2,h3,h4,h5,h6,h7⟩:=h.ok e he;refine ⟨o,cs,ib,h1,h2,h3,h4,h5,ready_mono h6 (hi e he),fun k ok hk cX pN hw=>h7 k ok hk cX ?_ hw⟩;by_cases hik:i=k
 ·subst hik;rw [aaY,ad3] at pN;simp only [if_true] at pN;split at pN<;>simp at pN
 ·rwa [getD_set_ne true hik] at pN
theorem tT.sub {c:cA} {L:Array Bool} {E1 E2:List Ea} {e:Ea} (h:tT c ops L (E1++e::E2)):tT c ops L (E1++E2):=by
 refine ⟨fun x hx=>h.ok x ?_,?_⟩
 ·simp only [tD,aap] at hx ⊢;exact hx.elim .inl (fun h=>.inr (.inr h))
 ·have:=h.nd;simp only [aff,aaM] at this ⊢;exact (abm.1 (List.perm_middle.nodup_iff.1 this)).2
theorem G9 {c:cA} {L:Array Bool} (hc:oB ops L):∀ {E:List Ea},tT c ops L E->oB ops (nM L E)/\∀ j,j∈Region.ready .any ops L->(∀ e∈E,e.idx≠j)->j∈Region.ready .any ops (nM L E)
 | [],_=>⟨hc,fun _ h _=>h⟩
 | e::E,h=>by
  have h0:tT c ops L E:=tT.sub (E1:=[]) h;obtain ⟨h1,h2⟩:=G9 hc h0;obtain ⟨o,cs,ib,_,_,_,_,_,h6,_⟩:=h.ok e (by simp)
  have eT:=h.nd;simp only [aaM,abm,aam,not_exists,not_and] at eT;have h7:=h2 e.idx h6 (fun x hx=>eT.1 x hx);exact ⟨rA h1 h7,fun j hj cX=>ready_mono (h2 j hj fun x hx=>cX x (by simp [hx])) (fun e1=>cX e (by simp) e1.symm)⟩
end
section
variable {c:cA} {aA:FuncId} {ops:Array Oper} {cf:Array Bool}
theorem EP {i:Nat} (h:OF c aA ops cf i=true):∃ oi b,ops[i]?=some oi/\nJ c oi=some b/\Og c aA ops oi=true/\
  ∀ j oj,ops[j]?=some oj->j≠i->cf.getD j true=false->waits ops ops.size j i=false->oi.apart ops oj=true/\w6 c aA oi b oj=true:=by
 unfold OF at h;cases hi:ops[i]? with
 | none=>rw [hi] at h; simp at h
 | some oi=>
  rw [hi] at h;simp only at h;cases hb:nJ c oi with
  | none=>rw [hb] at h; simp at h
  | some b=>
   rw [hb] at h;simp only [Bh,aac,List.mem_range] at h;refine ⟨oi,b,rfl,hb,h.1,fun j oj hj cX pN hw=>?_⟩;have h1:=h.2 j (abK.1 hj).1
   simpa only [hj,abv,beq_iff_eq,cX,false_or,pN,hw,Bh,aai] using h1
theorem RA {rs:List Nat} {h0:Nat} (h:OG c ops cf rs h0=true):∃ oh,ops[h0]?=some oh/\
  ∀ j oj,ops[j]?=some oj->j≠h0->cf.getD j true=false->waits ops ops.size j h0=false->eaO c oj=true/\j∈rs/\oj.apart ops oh=true/\
   ∀ k ok,ops[k]?=some ok->k≠j->cf.getD k true=false->waits ops ops.size k j=false->oj.apart ops ok=true:=by
 unfold OG at h;cases hi:ops[h0]? with
 | none=>rw [hi] at h; simp at h
 | some oh=>
  rw [hi] at h;simp only [aac,List.mem_range] at h;refine ⟨oh,rfl,fun j oj hj cX pN hw=>?_⟩;have h1:=h j (abK.1 hj).1;simp only [hj,abv,beq_iff_eq,cX,false_or,pN,hw,Bh,aai,List.contains_iff_mem,aac,List.mem_range] at h1;obtain ⟨⟨⟨h2,h3⟩,h4⟩,h5⟩:=h1;refine ⟨h2,h3,h4,fun k ok hk hkj hku hkw=>?_⟩;have h6:=h5 k (abK.1 hk).1
  simpa only [hk,abv,beq_iff_eq,hkj,false_or,hku,hkw,aai,or_false] using h6
end
def Fz (c:cA) (aA:FuncId) (EL:Nat) (ops:Array Oper) (C:Ctx) (KB:Nat->Nat->Prop):Prop:=
 ∀ i o b,ops[i]?=some o->KB i b->b < C.w0.heap.size/\(b∉C.FA∨w5 c o=true∨(∃ r,(EL+r,some b,[])∈C.P0/\(Di c aA o).contains r=true)∨∃ s b',(EL+s,some b',[])∈C.P0/\b≠b'/\Jf c aA o=some s)
section
variable {P:Program} {c:cA} {C:Ctx} {H H':List T} {w w':World} {st st':St} {a:Act} {aI TG:List (Array Value)} {S S':List (Nat × RT)} {o:Oper} {aA:FuncId} {ops:Array Oper} {KB:Nat->Nat->Prop}
theorem Sw (h:gS st.rt S) {r:Nat} (hs:(lk st.rt r).isSome=true):∃ R,lk S r=some R:=by
 rw [h] at hs;cases hl:lk S r with
 | none=>rw [hl] at hs; simp at hs
 | some R=>exact ⟨R,rfl⟩
theorem BQ (h:Rel C H w st (a.tmps::aI) S) (vN:yC o a S w w') {t:TypeId} {x:Nat} {y:Operand} (ho:o.op=.store t (.tmp x) y) {r':Nat} {q:List Nat} {j:Nat} (jG:st.get x=.ptr r' q j) (nL:live st r' q=true):
  ∃ R' b1 off,lk S r'=some R'/\bZ R'.box R'.cs q=some (b1,off)/\∀ k,k≠b1->w'.heap[k]?=w.heap[k]?:=by
 have fX:mF w (ah C w S H) S st.tm a.tmps:=by cases h.pd with | cons a _=>exact a
 have hu:cx w (ah C w S H) S (.ptr r' q j) (a.eval (.tmp x)):=by
  have:=fX x;rw [show (lk st.tm x).getD .undef=.ptr r' q j from jG] at this;exact this
 obtain ⟨R',b',off,k1,k2,k3⟩:=sw h.rt h.mem nL hu;have cO:∃ c e fz,w.heap[b']?=some (.cells c e fz):=by
  unfold live at nL;split at nL
  case h_2=>simp at nL
  rename_i d ds ed;obtain ⟨R2,l2,m1,m2,m3⟩:=vH st S h.rt ed;rw [k1,jf] at m1;subst m1;obtain ⟨b2,aoC,fr,n1,n2,_⟩:=ra h.mem k1 m2 (by intro e; subst e; simp [ba] at m3) (fun e=>by
   subst e;simp only [bZ] at k2;cases hx:R'.box with
   | none=>rw [hx] at k2; simp at k2
   | some _=>rfl)
  rw [k2,jf,tE] at n1;obtain ⟨rfl,rfl⟩:=n1;obtain ⟨c2,e2,f2,n3,_⟩:=n2;exact ⟨c2,e2,f2,n3⟩
 exact ⟨R',b',off,k1,k2,fun k hk=>vN.st t (.tmp x) y ho _ k3 cO k hk⟩
theorem acp (h:Rel C H w st (a.tmps::aI) S) (h':Rel C H' w' st' TG S') (Sq:w5 c o=true->dM w w') (vN:yC o a S w w') (ez:vB c aA st o=true) (tU:Fz c aA st.of ops C KB) {i b:Nat} (hi:ops[i]?=some o) (hb:KB i b):w'.heap[b]?=w.heap[b]?:=by
 obtain ⟨h1,h2⟩:=tU i o b hi hb;rcases h2 with h2 | h2 | ⟨r,h2,h3⟩ | ⟨s,b2,h2,cX,h3⟩
 ·rw [h'.kept.block b h1 h2,h.kept.block b h1 h2]
 ·exact Sq h2 b (aef h1 h.kept.size)
 ·unfold Di at h3;unfold vB at ez;split at h3
  ·rename_i t x y ho;rw [ho] at ez;simp only [Bh] at ez
   replace ez:=ez.2
   split at ez
   ·rename_i hk;rw [hk] at h3;simp at h3
   rename_i l hk _;split at ez
   case h_2=>simp at ez
   rename_i r' q j jG;simp only [Bh,aac] at ez;obtain ⟨nL,dR⟩:=ez;obtain ⟨g1,g2⟩:=dR r (List.contains_iff_mem.1 h3);have g2:r'≠st.of+r:=by simpa using g2
   obtain ⟨R,hR⟩:=Sw h.rt g1;have xZ:=(h.kept.par _ _ _ h2 R hR).1;obtain ⟨R',b',off,k1,k2,k3⟩:=BQ h vN ho jG nL;refine k3 b (fun e=>?_);subst e;have hm:b∈R'.ft:=by
    cases q with
    | nil=>
     simp only [bZ] at k2;cases hx:R'.box with
     | none=>rw [hx] at k2; simp at k2
     | some b2=>
      rw [hx] at k2;simp only [OB,jf,tE] at k2;simp [RT.ft,hx,k2.1]
    | cons p q=>
     simp only [RT.ft,tD];exact .inr (qh k2)
   exact g2 (vO (yq.1 h.mem.nd).1 hR xZ k1 hm)
  ·rename_i cc ho;split at h3
   ·rename_i d aeI hd;simp only [ho,Di,aeI,hd,aac] at ez;obtain ⟨R,hR⟩:=Sw h.rt (ez r (List.contains_iff_mem.1 h3));exact vN.ap cc ho aeI _ R b hR (h.kept.par _ _ _ h2 R hR).1
   ·simp at h3
  ·simp at h3
 ·have hb3:=h3;unfold Jf at h3;split at h3
  case h_2=>simp at h3
  rename_i t x y ho;unfold vB at ez;rw [ho] at ez;simp only [hb3,Bh] at ez
  replace ez:=ez.1
  split at ez
  case h_2=>simp at ez
  rename_i r' j jG;simp only [Bh,beq_iff_eq] at ez;obtain ⟨rfl,nL⟩:=ez;obtain ⟨R',b',off,k1,k2,k3⟩:=BQ h vN ho jG nL;have xZ:=(h.kept.par _ _ _ h2 R' k1).1;refine k3 b (fun e=>cX ?_);simp only [bZ,xZ,OB,jf,tE] at k2;rw [e,k2.1]
theorem Yv (h:Rel C H w st (a.tmps::aI) S) {bb:Bool} (kZ:nJ c o=some bb) {cl:FuncId->List D->Option (D × List D)} {ci:FuncId->List D->Nat->St->Option (D × St)} (aq:fb c cl ci aA st o=some st') (ez:vB c aA st o=true) (fQ:Og c aA ops o=true) (tU:Fz c aA st.of ops C KB):
  ∃ (P1:List (Nat × Option Nat × List Value)) (B:Nat->Prop) (EN:Nat->Nat->Prop),
   (∀ r b vs,(r,b,vs)∈P1->∀ R,lk S r=some R->R.box=b/\(b=none->ax R.cs=vs))/\
   (∀ p∈P1,p.1 < 10000/\∀ (j:Nat) (oj:Oper) (t:Nat),ops[j]?=some oj->oj.dst=some t->p.1≠st.of+t)/\
   Fz c aA st.of ops (C.at w S H P1) EN/\(∀ i b,KB i b->EN i b)/\
   (∀ (j:Nat) (oj:Oper),ops[j]?=some oj->w6 c aA o bb oj=true->∀ b,B b->EN j b)/\
   ∀ w2,(∀ b,B b->w2.heap[b]?=w.heap[b]?)->bb=true∨Rd o a w w2:=by
 have bY:∀ (P1:List (Nat × Option Nat × List Value)) i o b,ops[i]?=some o->KB i b->b < (C.at w S H P1).w0.heap.size/\(b∉(C.at w S H P1).FA∨w5 c o=true∨(∃ r,(st.of+r,some b,[])∈(C.at w S H P1).P0/\(Di c aA o).contains r=true)∨∃ s b',(st.of+s,some b',[])∈(C.at w S H P1).P0/\b≠b'/\Jf c aA o=some s):=by
  intro P1 i o b hi hb;obtain ⟨h1,h2⟩:=tU i o b hi hb;refine ⟨aef h1 h.kept.size,?_⟩;rcases h2 with h2 | h2 | ⟨r,h2,h3⟩ | ⟨s,b2,h2,h3,h4⟩
  ·refine .inl fun hm=>?_;rcases h.kept.iQ b hm with h4 | h4
   ·exact h2 h4
   ·omega
  ·exact .inr (.inl h2)
  ·exact .inr (.inr (.inl ⟨r,tD.2 (.inl h2),h3⟩))
  ·exact .inr (.inr (.inr ⟨s,b2,tD.2 (.inl h2),h3,h4⟩))
 have fX:mF w (ah C w S H) S st.tm a.tmps:=by cases h.pd with | cons a _=>exact a
 have all:(∀ oj,w6 c aA o bb oj=true->bb=true∨w5 c oj=true)->∃ (P1:List (Nat × Option Nat × List Value)) (B:Nat->Prop) (EN:Nat->Nat->Prop),
   (∀ r b vs,(r,b,vs)∈P1->∀ R,lk S r=some R->R.box=b/\(b=none->ax R.cs=vs))/\
   (∀ p∈P1,p.1 < 10000/\∀ (j:Nat) (oj:Oper) (t:Nat),ops[j]?=some oj->oj.dst=some t->p.1≠st.of+t)/\
   Fz c aA st.of ops (C.at w S H P1) EN/\(∀ i b,KB i b->EN i b)/\
   (∀ (j:Nat) (oj:Oper),ops[j]?=some oj->w6 c aA o bb oj=true->∀ b,B b->EN j b)/\
   ∀ w2,(∀ b,B b->w2.heap[b]?=w.heap[b]?)->bb=true∨Rd o a w w2:=by
  intro agK;refine ⟨[],fun b=>bb=false/\b < w.heap.size,fun i b=>KB i b∨(b < w.heap.size/\∃ oj,ops[i]?=some oj/\w5 c oj=true),by simp,by simp,?_,fun i b hb=>.inl hb,fun j oj hj hn b hb=>?_,fun w2 ot=>?_⟩
  ·rintro i o b hi (hb | ⟨hb,oj,hj,hk⟩)
   ·exact bY [] i o b hi hb
   ·rw [hi,jf] at hj;subst hj;exact ⟨hb,.inr (.inl hk)⟩
  ·rcases agK oj hn with h1 | h1
   ·rw [hb.1] at h1; simp at h1
   ·exact .inr ⟨hb.2,oj,hj,h1⟩
  ·cases bb with
   | true=>exact .inl rfl
   | false=>exact .inr (dM.rd (fun k hk=>ot k ⟨rfl,hk⟩) o a)
 by_cases hl:∃ t x n,o.op=.load t (.tmp x)/\c.base aA x=some n
 ·obtain ⟨t,x,n,ho,hn⟩:=hl;have hx:=fX x;unfold vB at ez;simp only [ho,hn] at ez;unfold Og at fQ;simp only [ho,hn] at fQ;unfold fb at aq;simp only [ho] at aq;split at aq
  case h_2=>simp at aq
  rename_i ti hti;split at aq
  case h_2=>simp at aq
  rename_i d zL;cases n with
  | zero=>
   simp only at ez;split at ez
   case h_2=>simp at ez
   rename_i cs j jG;rw [show (lk st.tm x).getD .undef=.cr cs j from jG] at hx;obtain ⟨b0,off,c0,e0,fz0,us,hu,hX,_⟩:=hx;refine ⟨[],fun b=>b=b0,fun i b=>KB i b∨b=b0,by simp,by simp,?_,fun i b hb=>.inl hb,fun j oj hj LM b hb=>.inr hb,fun w2 ot=>.inr ?_⟩
   ·rintro i o b hi (hb | rfl)
    ·exact bY [] i o b hi hb
    ·refine ⟨hX.1,.inl fun hm=>?_⟩;rcases tD.1 hm with hm | hm
     ·exact hX.2.1 hm
     ·exact hX.2.2.1 hm
   ·unfold Rd;simp only [ho];refine Ji (b:=b0) (fun B hB=>?_) (ot b0 rfl);have LN:a.tmps.getD x undef=.pointer (some B):=hB;rw [hu,Value.pointer.injEq,jf] at LN;rw [<- LN]
  | succ r=>
   simp only at ez fQ;by_cases Fk:r=999999
   ·rw [if_pos Fk] at ez fQ;split at ez
    case h_2=>simp at ez
    rename_i r' p q j jG;simp only [Bh,aac] at ez;obtain ⟨nL,dR⟩:=ez;rw [show (lk st.tm x).getD .undef=.ptr r' (p::q) j from jG] at hx;obtain ⟨R',b0,off,k1,k2,k3⟩:=sw h.rt h.mem nL hx;have yx:b0∈ai R'.cs:=qh k2;have db:b0∈cM S:=kP k1 (by simp [RT.ft,yx])
    have Yw:=(yq.1 h.mem.nd).1;have rk:∀ s∈c.nY aA x,st.of+s < 10000/\∃ bs:Nat,bs≠b0/\∀ R,lk S (st.of+s)=some R->R.box=some bs:=by
     intro s hs;have h9:=dR s hs;unfold adP at h9;split at h9
     case h_2=>simp at h9
     rename_i r2 j2 hg2;simp only [Bh,beq_iff_eq,decide_eq_true_eq] at h9;obtain ⟨rfl,dg⟩:=h9;have GV:=fX s;rw [show (lk st.tm s).getD .undef=.ptr (st.of+s) [] j2 from hg2] at GV;refine ⟨dg,?_⟩;cases GW:lk S (st.of+s) with
     | none=>exact ⟨b0+1,by omega,fun R hR=>by simp at hR⟩
     | some R=>
      obtain ⟨g1,_⟩:=GV R GW;obtain ⟨bs,xA⟩:=aby.1 (g1 rfl);refine ⟨bs,fun e=>?_,fun R2 hR2=>by rw [jf] at hR2; subst hR2; exact xA⟩
      subst e;have e2:=vO Yw GW xA k1 (by simp [RT.ft,yx])
      rw [e2,GW,jf] at k1;subst k1;obtain ⟨A,B,f1,_⟩:=kU GW;rw [f1] at Yw;have LB:=(yq.1 (yq.1 Yw).1).2.1;simp only [RT.ft,xA,Option.toList,aao,aaq,abm] at LB;exact LB.1 yx
    have VJ:∃ f:Nat->Nat,∀ s∈c.nY aA x,f s≠b0/\∀ R,lk S (st.of+s)=some R->R.box=some (f s):=by
     refine ⟨fun s=>if hs:s∈c.nY aA x then (rk s hs).2.choose else 0,fun s hs=>?_⟩
     simp only [dif_pos hs];exact (rk s hs).2.choose_spec
    obtain ⟨f,hf⟩:=VJ;refine ⟨(c.nY aA x).map fun s=>(st.of+s,some (f s),[]),fun b=>b=b0,fun i b=>KB i b∨(b=b0/\∃ oj,ops[i]?=some oj/\(w5 c oj=true∨∃ s∈c.nY aA x,Jf c aA oj=some s)),?_,?_,?_,fun i b hb=>.inl hb,fun j oj hj LM b hb=>.inr ⟨hb,oj,hj,?_⟩,fun w2 ot=>.inr ?_⟩
    ·intro r1 b1 vs1 hm R1 hR1;simp only [aam,tE] at hm;obtain ⟨s,hs,rfl,rfl,rfl⟩:=hm;exact ⟨(hf s hs).2 R1 hR1,by simp⟩
    ·intro p hp;simp only [aam] at hp;obtain ⟨s,hs,rfl⟩:=hp;refine ⟨(rk s hs).1,fun j oj t hj ht e=>?_⟩;have:=aac.1 (aac.1 fQ s hs) oj (abG.2 (abS hj));have e2:s=t:=by omega
     subst e2;simp [ht] at this
    ·rintro i o b hi (hb | ⟨rfl,oj,hj,hk⟩)
     ·exact bY _ i o b hi hb
     ·rw [hi,jf] at hj;subst hj;refine ⟨h.mem.lt b (tD.2 (.inl db)),?_⟩;rcases hk with hk | ⟨s,hs,hk⟩
      ·exact .inr (.inl hk)
      ·exact .inr (.inr (.inr ⟨s,f s,tD.2 (.inr (aam.2 ⟨s,hs,rfl⟩)),aeR (hf s hs).1,hk⟩))
    ·unfold w6 at LM;simp only [ho,hn,Fk,if_true,abv] at LM;rcases LM with h9 | h9 | h9
     ·exfalso;simp only [nJ,ho,jf] at kZ;rw [<- kZ] at h9;simp at h9
     ·exact .inl h9
     ·split at h9
      ·rename_i s hs;exact .inr ⟨s,List.contains_iff_mem.1 h9,hs⟩
      ·simp at h9
    ·unfold Rd;simp only [ho];refine Ji (b:=b0) (fun B hB=>?_) (ot b0 rfl);have LN:a.tmps.getD x undef=.pointer (some B):=hB;rw [k3,Value.pointer.injEq,jf] at LN;rw [<- LN]
   rw [if_neg Fk] at ez fQ;split at ez
   case h_2=>simp at ez
   rename_i r' j jG;simp only [Bh,beq_iff_eq,decide_eq_true_eq] at ez;obtain ⟨rfl,dg⟩:=ez;rw [show (lk st.tm x).getD .undef=.ptr (st.of+r) [] j from jG] at hx;have agL:ct c st o.type (.tmp x)=.ptr (st.of+r) [] j:=jG;rw [agL] at zL;obtain ⟨R,hR⟩:∃ R,lk S (st.of+r)=some R:=by
    simp only [q8] at zL;cases ed:st.cells (st.of+r) [] with
    | none=>rw [ed] at zL; simp at zL
    | some cs=>
     obtain ⟨R,l,g1,_⟩:=vH st S h.rt ed;exact ⟨R,g1⟩
   obtain ⟨g1,g2⟩:=hx R hR;obtain ⟨b0,Ha⟩:=aby.1 (g1 rfl);have hu:=g2 b0 0 (by simp [bZ,Ha])
   have db:b0∈cM S:=kP hR (by simp [RT.ft,Ha])
   refine ⟨[(st.of+r,some b0,[])],fun b=>b=b0,fun i b=>KB i b∨(b=b0/\∃ oj,ops[i]?=some oj/\kbO c aA r oj=true),?_,?_,?_,fun i b hb=>.inl hb,fun j oj hj LM b hb=>.inr ⟨hb,oj,hj,?_⟩,fun w2 ot=>.inr ?_⟩
   ·intro r1 b1 vs1 hm R1 hR1;simp only [abk,tE] at hm;obtain ⟨rfl,rfl,rfl⟩:=hm;rw [hR,jf] at hR1;subst hR1;exact ⟨Ha,by simp⟩
   ·intro p hp;simp only [abk] at hp;subst hp;refine ⟨dg,fun j oj t hj ht e=>?_⟩;have:=aac.1 fQ oj (abG.2 (abS hj));have e2:r=t:=by omega
    subst e2;simp [ht] at this
   ·rintro i o b hi (hb | ⟨rfl,oj,hj,hk⟩)
    ·exact bY _ i o b hi hb
    ·rw [hi,jf] at hj;subst hj;refine ⟨h.mem.lt b (tD.2 (.inl db)),?_⟩;simp only [kbO,abv] at hk;rcases hk with hk | hk
     ·exact .inr (.inl hk)
     ·exact .inr (.inr (.inl ⟨r,tD.2 (.inr (by simp)),hk⟩))
   ·unfold w6 at LM;simp only [ho,hn,if_neg Fk,abv] at LM;rcases LM with h9 | h9
    ·exfalso;simp only [nJ,ho,jf] at kZ;rw [<- kZ] at h9;simp at h9
    ·exact h9
   ·unfold Rd;simp only [ho];refine Ji (b:=b0) (fun B hB=>?_) (ot b0 rfl);have LN:a.tmps.getD x undef=.pointer (some B):=hB;rw [hu,Value.pointer.injEq,jf] at LN;rw [<- LN]
 ·refine all fun oj hn=>?_;unfold w6 at hn;simp only [abv] at hn;rcases hn with hn | hn
  ·exact .inl hn
  ·split at hn
   ·rename_i t x ho;split at hn
    ·rename_i Ha;exact absurd ⟨t,x,_,ho,Ha⟩ hl
    ·rename_i r Ha;exact absurd ⟨t,x,_,ho,Ha⟩ hl
    ·exact .inr hn
   ·exact .inr hn
end
def lZ (n:Nat):Code->Bool
 | .region _ ops _=>Region.noSelect ops&&ops.toList.all fun o=>match o.dst with | some t=>decide (t < n) | none=>true
 | .seq a b=>lZ n a&&lZ n b
 | .cond _ a b=>lZ n a&&lZ n b
 | .block _ a=>lZ n a
 | .loop a=>lZ n a
 | _=>true
def Yx (C:Ctx) (n EL:Nat):Prop:=∀ p∈C.P0,p.1 < 10000/\∀ t,t < n->p.1≠EL+t
section
variable {P:Program} {c:cA} {C:Ctx} {Hx:List T} {aI:List (Array Value)} {cl:FuncId->List D->Option (D × List D)} {ci:FuncId->List D->Nat->St->Option (D × St)} {aA:FuncId} {n:Nat}
theorem PL (all:Array Oper):∀ (l:List Nat) (os:List Oper) (st:St),l.map (fun i=>all[i]?)=os.map some->vC c cl ci aA all os st=iK c cl ci aA all l st
 | [],[],_,_=>rfl
 | [],_::_,_,h=>by simp at h
 | _::_,[],_,h=>by simp at h
 | i::l,o::os,st,h=>by
  simp only [aaM,aaF] at h;simp only [vC,iK,h.1];split
  ·split
   ·split
    ·exact PL all l os _ h.2
    ·rfl
   ·rfl
  ·exact PL all l os _ h.2
  ·rfl
theorem zR (all:Array Oper) (st:St):vC c cl ci aA all all.toList st=iK c cl ci aA all (List.range all.size) st:=by
 refine PL all _ _ st ?_;apply abN;intro i;simp only [aa5,List.getElem?_range',List.getElem?_range];by_cases h:i < all.size
 ·simp [h]
 ·simp [h]
theorem vt {w:World} {X:Bool->Nat->Prop} {S:List (Nat × RT)} {st:St} {a:Act} (h:mF w X S st.tm a.tmps) {ops:Array Oper} {o:Oper} {b:Bool} (hw:zB st ops o=some b):Region.wanted o (yielded ops a.tmps)=b:=by
 unfold zB at hw;unfold Region.wanted;split at hw
 ·rename_i hg;rw [hg];simp only [jf] at hw;exact hw
 ·rename_i j want hg;rw [hg];simp only;unfold yielded;split at hw
  ·rename_i t ht;rw [ht];have:=h t;simp only [Option.bind_some];split at hw
   ·rename_i b' hb;simp only [jf] at hw;have h1:cx w X S (.bool b') (a.tmps.getD t undef):=by
     have:st.get t=(lk st.tm t).getD .undef:=rfl;rw [<- hb,this]; exact h t
    have h2:=yw h1;rw [aaY] at h2;cases hx:a.tmps[t]? with
    | none=>rw [hx] at h2; simp [undef] at h2
    | some u=>
     rw [hx] at h2;simp only [abV] at h2;subst h2;simp [<- hw]
   ·rename_i hb;simp only [jf] at hw;have h1:cx w X S (.aM []) (a.tmps.getD t undef):=by
     have:st.get t=(lk st.tm t).getD .undef:=rfl;rw [<- hb,this]; exact h t
    obtain ⟨us,e1,e2⟩:=h1;rw [aaY] at e1;cases hx:a.tmps[t]? with
    | none=>simp [<- hw]
    | some u=>
     rw [hx] at e1;simp only [abV] at e1;subst e1;simp [<- hw]
   ·simp at hw
  ·rename_i ht;simp only [jf] at hw;rw [ht];simp [<- hw]
variable (aw:eu c P) (kv:lP P c.own cl) (mv:sT P ci)
include aw kv mv
theorem Dv {ops:Array Oper} (mu:∀ o∈ops.toList,∀ t,o.dst=some t->t < n) {Q:Exit->Act->World->Prop} {st':St}:∀ (l:List Nat) {st:St} {a:Act} {w:World} {S:List (Nat × RT)},iK c cl ci aA ops l st=some st'->Rel C Hx w st (a.tmps::aI) S->a.tmps.size=n->a.defers=[]->Yx C n st.of->
  (∀ a' w' S',Rel C Hx w' st' (a'.tmps::aI) S'->a'.tmps.size=n->a'.defers=[]->st'.of=st.of->Q .normal a' w')->wpOps P ops Q l a w
 | [],st,a,w,S,h,hr,hn,hd,_,hQ=>by
  simp only [iK,jf] at h;subst h;exact hQ a w S hr hn hd rfl
 | i::l,st,a,w,S,h,hr,hn,hd,hP,hQ=>by
  simp only [iK] at h;simp only [wpOps];split at h
  ·rename_i ho;rw [ho];exact Dv mu l h hr hn hd hP hQ
  ·rename_i o ho;rw [ho];simp only;have db:o∈ops.toList:=abG.2 (abS ho);have fX:mF w (ah C w S Hx) S st.tm a.tmps:=by cases hr.pd with | cons a _=>exact a
   have fQ:∀ t,o.dst=some t->t < a.tmps.size/\∀ p∈C.P0,p.1≠st.of+t:=fun t ht=>by
    have:=mu o db t ht;exact ⟨by rw [hn]; exact this,fun p hp=>(hP p hp).2 t this⟩
   split at h
   ·rename_i hw;have tL:=vt fX hw;rw [if_pos tL];split at h
    case isFalse=>simp at h
    split at h
    case h_2=>simp at h
    rename_i aQ aq
    left
    refine aaw aw hr fQ (fun p hp=>(hP p hp).1) kv mv aq (fun a' w' S' h1 h2 h3 h4 _ _=>?_);exact Dv mu l h h1 (h2.trans hn) (h3.trans hd) (by rw [h4]; exact hP) (fun a2 w2 S2 k1 k2 k3 k4=>hQ a2 w2 S2 k1 k2 k3 (k4.trans h4))
   ·rename_i hw;have tL:=vt fX hw;rw [if_neg (by rw [tL]; simp)]
    have h1:Rel C Hx w (st.put o.dst (.aM [])) ((a.put o.dst undef).tmps::aI) S:=hr.zM (fun t ht=>(fQ t ht).1) ⟨#[],rfl,.nil⟩;exact Dv mu l h h1 ((cT a o.dst undef).1.trans hn) ((cT a o.dst undef).2.trans hd) (by rw [iS]; exact hP) (fun a2 w2 S2 k1 k2 k3 k4=>hQ a2 w2 S2 k1 k2 k3 (k4.trans (iS _ _ _)))
   ·simp at h
omit kv mv in
theorem LO {ops:Array Oper} {k:Nat} {st':St} {Q:Exit->Act->World->Prop} {La:Array Bool} {l':List Nat}
  (ih:∀ (La:Array Bool) {l:List Nat},tk c aA ops k La=some l->oB ops La->∀ (kc:Nat) {E:List Ea} {C:Ctx} {KB:Nat->Nat->Prop} {st:St} {a:Act} {w:World} {S:List (Nat × RT)},tT c ops La E->G7 (nM La E)<=kc->iK c cl ci aA ops l st=some st'->Rel C (E.map Ea.tree++Hx) w st (a.tmps::aI) S->a.tmps.size=n->a.defers=[]->
   (∀ p∈C.P0,p.1 < 10000/\∀ (j:Nat) (oj:Oper) (t:Nat),ops[j]?=some oj->oj.dst=some t->p.1≠st.of+t)->Fz c aA st.of ops C KB->
   (∀ a' w' S',Rel C Hx w' st' (a'.tmps::aI) S'->a'.tmps.size=n->a'.defers=[]->st'.of=st.of->Q .normal a' w')->
   pO P ops Q KB kc (nM La E) (jY E a) w)
  (nE:Region.noSelect ops=true) (mu:∀ o∈ops.toList,∀ t,o.dst=some t->t < n) {e:Ea} (db:e.idx∈Region.ready .any ops La) (gU:oB ops La) (qD:tk c aA ops k (La.setIfInBounds e.idx true)=some l') {kc:Nat} {E:List Ea} (qL:e∈E) {C:Ctx} {KB:Nat->Nat->Prop} {st:St} {a:Act} {w:World} {S:List (Nat × RT)} (hE:tT c ops La E) (hk:G7 (nM La E)<=kc) (h:iK c cl ci aA ops (e.idx::l') st=some st') (hr:Rel C (E.map Ea.tree++Hx) w st (a.tmps::aI) S) (hn:a.tmps.size=n) (hd:a.defers=[])
  (hP:∀ p∈C.P0,p.1 < 10000/\∀ (j:Nat) (oj:Oper) (t:Nat),ops[j]?=some oj->oj.dst=some t->p.1≠st.of+t) (tU:Fz c aA st.of ops C KB)
  (hQ:∀ a' w' S',Rel C Hx w' st' (a'.tmps::aI) S'->a'.tmps.size=n->a'.defers=[]->st'.of=st.of->Q .normal a' w'):
  pO P ops Q KB kc (nM La E) (jY E a) w:=by
 have _:=aw;have _:=nE;obtain ⟨o,cs,ib,g1,g2,g3,g4,g5,g6,g7⟩:=hE.ok e qL;obtain ⟨E1,E2,rfl⟩:=List.append_of_mem qL;have eT:=hE.nd;simp only [aff,aaM] at eT;have sG:=(abm.1 (List.perm_middle.nodup_iff.1 eT)).1;have cX:∀ x∈E1++E2,x.idx≠e.idx:=fun x hx hh=>sG (by
  rw [<- aff,<- hh];exact aam.2 ⟨x,hx,rfl⟩)
 have ajf:∀ x∈E1++E2,x.tmp≠e.tmp:=fun x hx hh=>by
  obtain ⟨ox,csx,ibx,q1,q2,q3,q4,q5,q6,q7⟩:=hE.ok x (by
   simp only [tD,aap] at hx ⊢;exact hx.elim .inl (fun h=>.inr (.inr h)))
  have PI:=g7 x.idx ox q1 (cX x hx) (jX q6).1 (pP gU (jX g6).1 q6);obtain ⟨p1,p2,p3⟩:=Oper.apart_spec PI;exact p2 _ g3 (by rw [q3,hh])
 simp only [iK,g1] at h;have hw:zB st ops o=some true:=by unfold zB; rw [g2]
 rw [hw] at h;simp only at h;split at h
 case isFalse=>simp at h
 split at h
 case h_2=>simp at h
 rename_i aQ aq;rw [aeG g4,g3] at aq;have ht:e.tmp < a.tmps.size:=by
  rw [hn];exact mu o (abG.2 (abS g1)) _ g3
 have EE:Rel C (e.tree::((E1++E2).map Ea.tree++Hx)) w st (a.tmps::aI) S:=Yt hr (by
  simp only [aff,aaM,aay,aao];exact List.perm_middle)
 obtain ⟨S1,hr3⟩:=acn EE g5 ht (fun p hp=>(hP p hp).2 _ _ _ g1 g3) aq;rw [Jw,PK E1 E2 a ajf];have qG:aQ.of=st.of:=(vm aq).1;exact ih _ qD (rA gU db) kc ((tT.sub hE).set (i:=e.idx) cX) (by rw [Jw] at hk; exact hk) h hr3 ((cT a (some e.tmp) e.val).1.trans hn) ((cT a (some e.tmp) e.val).2.trans hd) (by rw [qG]; exact hP) (by rw [qG]; exact tU) (fun a2 w2 S2 k1 k2 k3 k4=>hQ a2 w2 S2 k1 k2 k3 (k4.trans qG))
theorem acq {ops:Array Oper} (nE:Region.noSelect ops=true) (mu:∀ o∈ops.toList,∀ t,o.dst=some t->t < n) {Q:Exit->Act->World->Prop} (Sv:∀ c a w,¬ Q (.panic c) a w) {st':St}:∀ (k:Nat) (La:Array Bool) {l:List Nat},tk c aA ops k La=some l->oB ops La->∀ (kc:Nat) {E:List Ea} {C:Ctx} {KB:Nat->Nat->Prop} {st:St} {a:Act} {w:World} {S:List (Nat × RT)},tT c ops La E->G7 (nM La E)<=kc->iK c cl ci aA ops l st=some st'->Rel C (E.map Ea.tree++Hx) w st (a.tmps::aI) S->a.tmps.size=n->a.defers=[]->
  (∀ p∈C.P0,p.1 < 10000/\∀ (j:Nat) (oj:Oper) (t:Nat),ops[j]?=some oj->oj.dst=some t->p.1≠st.of+t)->Fz c aA st.of ops C KB->
  (∀ a' w' S',Rel C Hx w' st' (a'.tmps::aI) S'->a'.tmps.size=n->a'.defers=[]->st'.of=st.of->Q .normal a' w')->
  pO P ops Q KB kc (nM La E) (jY E a) w:=by
 intro k
 induction k with
 | zero=>
  intro La l hp gU kc E C KB st a w S hE hk h hr hn hd hP tU hQ;unfold tk at hp;split at hp
  case h_2=>simp at hp
  rename_i he;simp only [jf] at hp;subst hp;simp only [iK,jf] at h;subst h;have VK:E=[]:=by
   cases E with
   | nil=>rfl
   | cons e E=>
    obtain ⟨_,_,_,_,_,_,_,_,h6,_⟩:=hE.ok e (by simp)
    rw [he] at h6;cases h6
  subst VK;have hq:=hQ a w S hr hn hd rfl;cases kc with
  | zero=>exact ⟨he,hq⟩
  | succ kc=>exact ⟨fun _=>hq,by show ∀ i∈Region.ready .any ops La,_; rw [he]; simp⟩
 | succ k LP=>
  intro La l hp gU kc
  induction kc with
  | zero=>
   intro E C KB st a w S hE hk h hr hn hd hP tU hQ;have VL:∀ j,j∈Region.ready .any ops La->∃ e∈E,e.idx=j:=by
    intro j hj;refine adQ fun cX=>?_;have ajg:∀ e∈E,e.idx≠j:=fun e he e1=>cX ⟨e,he,e1⟩;have h1:=aco (L:=nM La E) (i:=j) (by rw [PJ E La ajg]; exact (jX hj).1)
    omega
   unfold tk at hp;split at hp
   ·rename_i he;simp only [jf] at hp;subst hp;simp only [iK,jf] at h;subst h;have VK:E=[]:=by
     cases E with
     | nil=>rfl
     | cons e E=>
      obtain ⟨_,_,_,_,_,_,_,_,h6,_⟩:=hE.ok e (by simp)
      rw [he] at h6;cases h6
    subst VK;exact ⟨he,hQ a w S hr hn hd rfl⟩
   ·rename_i r rs he;split at hp
    ·rename_i i tq;exfalso;have db:i∈Region.ready .any ops La:=by rw [he]; exact adR tq
     obtain ⟨oi,b,ho,kZ,_,_⟩:=EP (List.find?_some tq);obtain ⟨e,qL,vI⟩:=VL i db;obtain ⟨o,cs,ib,g1,_,_,g4,_⟩:=hE.ok e qL;rw [vI,ho,jf] at g1;subst g1;unfold Lh at g4;unfold nJ at kZ;split at g4<;>simp_all
    ·split at hp
     case h_2=>simp at hp
     rename_i h0 tq;split at hp
     case h_2=>simp at hp
     rename_i l' qD;simp only [jf] at hp;subst hp;have db:h0∈Region.ready .any ops La:=by rw [he]; exact adR tq
     obtain ⟨e,qL,vI⟩:=VL h0 db;subst vI;exact LO aw LP nE mu db gU qD qL hE hk h hr hn hd hP tU hQ
  | succ kc ihc=>
   intro E C KB st a w S hE hk h hr hn hd hP tU hQ;have PM:=G9 gU hE;have fX:mF w (ah C w S (E.map Ea.tree++Hx)) S st.tm a.tmps:=by cases hr.pd with | cons a _=>exact a
   have fQ:∀ {i:Nat} {o:Oper},ops[i]?=some o->∀ t,o.dst=some t->t < a.tmps.size/\∀ p∈C.P0,p.1≠st.of+t:=fun ho t ht=>by
    have:=mu _ (abG.2 (abS ho)) t ht;exact ⟨by rw [hn]; exact this,fun p hp=>(hP p hp).2 _ _ t ho ht⟩
   have GJ:=hp;unfold tk at hp;split at hp
   ·rename_i he;simp only [jf] at hp;subst hp;simp only [iK,jf] at h;subst h;have VK:E=[]:=by
     cases E with
     | nil=>rfl
     | cons e E=>
      obtain ⟨_,_,_,_,_,_,_,_,h6,_⟩:=hE.ok e (by simp)
      rw [he] at h6;cases h6
    subst VK;exact ⟨fun _=>hQ a w S hr hn hd rfl,by show ∀ i∈Region.ready .any ops La,_; rw [he]; simp⟩
   ·rename_i r rs he;split at hp
    ·
     rename_i i tq;split at hp
     case h_2=>simp at hp
     rename_i l' qD;simp only [jf] at hp;subst hp;have db:i∈Region.ready .any ops La:=by rw [he]; exact adR tq
     obtain ⟨o,b,ho,kZ,hdo,xB⟩:=EP (List.find?_some tq);have LQ:∀ e∈E,e.idx≠i:=fun e qL vI=>by
      obtain ⟨o',cs,ib,g1,_,_,g4,_⟩:=hE.ok e qL;rw [vI,ho,jf] at g1;subst g1;unfold Lh at g4;unfold nJ at kZ;split at g4<;>simp_all
     have Dw:=PM.2 i db LQ;have VM:=hE.set (i:=i) LQ;have PN:=rA gU db;have yv:G7 (nM (La.setIfInBounds i true) E)<=kc:=by
      rw [qK];have:=Jv (jX Dw).1;omega
     have PO:∀ e∈E,e.tmp∉o.looksAt ops/\o.dst≠some e.tmp:=fun e qL=>by
      obtain ⟨oe,cs,ib,g1,g2,g3,g4,g5,g6,g7⟩:=hE.ok e qL;have PI:=g7 i o ho (LQ e qL).symm (jX db).1 (pP gU (jX g6).1 db);obtain ⟨p1,p2,p3⟩:=Oper.apart_spec PI;exact ⟨p1 _ g3,p2 _ g3⟩
     obtain ⟨x1,x2⟩:=BP (ops:=ops) (Region.noSelect_spec nE i o · · ho) E a fun e he=>(PO e he).1;simp only [iK,ho] at h;split at h
     ·rename_i hw;have tL:=vt fX hw;split at h
      case isFalse=>simp at h
      rename_i ez;split at h
      case h_2=>simp at h
      rename_i aQ aq;obtain ⟨P1,B,KB2,t1,t2,t3,t4,t5,t6⟩:=Yv hr kZ aq ez hdo tU;obtain ⟨v,d,h1,h2,rfl⟩:=Pp aw hr kZ aq;have hM:Rel C (E.map Ea.tree++Hx) w (st.put o.dst d) ((a.put o.dst v).tmps::aI) S:=hr.zM (fun t ht=>(fQ ho t ht).1) h2;refine EM t4 _ _ _ _ (BO (B:=B) (wr:=w) (v:=v) ho (Region.noSelect_spec nE) (fun c a w hq=>absurd hq (Sv _ _ _)) kc _ _ w PM.1 (fun j oj hj cX pN pe=>?_) Dw (.inl ⟨x2.trans tL,fun w2 ot=>by rw [x1]; exact h1 w2 (t6 w2 ot)⟩) (fun _ _=>rfl) ?_)
      ·obtain ⟨u1,u2⟩:=G8 E La pN;obtain ⟨g1,g2⟩:=xB j oj hj cX u1 pe;exact ⟨g1,fun b hb=>t5 j oj hj g2 b hb⟩
      ·rw [<- qK,<- tS E a fun e he=>(PO e he).2];refine LP _ qD PN kc VM yv h (aeD hM t1) ((cT a o.dst v).1.trans hn) ((cT a o.dst v).2.trans hd) ?_ (by rw [iS]; exact t3) (fun a2 w2 S2 k1 k2 k3 k4=>hQ a2 w2 S2 (acm hr.kept k1) k2 k3 (k4.trans (iS _ _ _)))
       intro p hp;rw [iS];rcases tD.1 hp with hp | hp
       ·exact hP p hp
       ·exact t2 p hp
     ·rename_i hw;have tL:=vt fX hw;have hM:Rel C (E.map Ea.tree++Hx) w (st.put o.dst (.aM [])) ((a.put o.dst undef).tmps::aI) S:=hr.zM (fun t ht=>(fQ ho t ht).1) ⟨#[],rfl,.nil⟩;refine BO (B:=fun _=>False) (wr:=w) (v:=undef) ho (Region.noSelect_spec nE) (fun c a w hq=>absurd hq (Sv _ _ _)) kc _ _ w PM.1 (fun j oj hj cX pN pe=>?_) Dw (.inr ⟨x2.trans tL,rfl⟩) (fun _ _=>rfl) ?_
      ·obtain ⟨u1,u2⟩:=G8 E La pN;exact ⟨(xB j oj hj cX u1 pe).1,fun b hb=>hb.elim⟩
      ·rw [<- qK,<- tS E a fun e he=>(PO e he).2];exact LP _ qD PN kc VM yv h hM ((cT a o.dst undef).1.trans hn) ((cT a o.dst undef).2.trans hd) (by rw [iS]; exact hP) (by rw [iS]; exact tU) (fun a2 w2 S2 k1 k2 k3 k4=>hQ a2 w2 S2 k1 k2 k3 (k4.trans (iS _ _ _)))
     ·simp at h
    ·split at hp
     case h_2=>simp at hp
     rename_i h0 tq;split at hp
     case h_2=>simp at hp
     rename_i l' qD;simp only [jf] at hp;subst hp;have db:h0∈Region.ready .any ops La:=by rw [he]; exact adR tq
     obtain ⟨o,ho,agM⟩:=RA (List.find?_some tq);by_cases lU:∃ e∈E,e.idx=h0
     ·obtain ⟨e,qL,vI⟩:=lU;subst vI;exact LO aw LP nE mu db gU qD qL hE hk h hr hn hd hP tU hQ
     have LQ:∀ e∈E,e.idx≠h0:=fun e qL vI=>lU ⟨e,qL,vI⟩;have Dw:=PM.2 h0 db LQ;refine ⟨fun e=>(by rw [e] at Dw; cases Dw),fun i hi=>?_⟩
     have aeL:=(jX hi).1;obtain ⟨u1,u2⟩:=G8 E La aeL;have G3:G7 ((nM La E).setIfInBounds i true)<=kc:=by have:=Jv aeL; omega
     by_cases hih:i=h0
     ·subst hih;have VM:=hE.set (i:=i) LQ;have PN:=rA gU db;have PO:∀ e∈E,e.tmp∉o.looksAt ops/\o.dst≠some e.tmp:=fun e qL=>by
       obtain ⟨oe,cs,ib,g1,g2,g3,g4,g5,g6,g7⟩:=hE.ok e qL;have PI:=g7 i o ho (LQ e qL).symm (jX db).1 (pP gU (jX g6).1 db);obtain ⟨p1,p2,p3⟩:=Oper.apart_spec PI;exact ⟨p1 _ g3,p2 _ g3⟩
      simp only [iK,ho] at h;refine VI (K:=fun a' w'=>(∀ b,KB i b->w'.heap[b]?=w.heap[b]?)/\pO P ops Q KB kc (nM (La.setIfInBounds i true) E) (jY E a') w') ho (Region.noSelect_spec nE i o · · ho) PO Sv (fun a' w' h9=>by rw [<- qK]; exact h9) ?_
      unfold wpOp;rw [ho];simp only;split at h
      ·rename_i hw;have tL:=vt fX hw;rw [if_pos tL];split at h
       case isFalse=>simp at h
       rename_i ez;split at h
       case h_2=>simp at h
       rename_i aQ aq
       left
       refine aaw aw hr (fQ ho) (fun p hp=>(hP p hp).1) kv mv aq (fun a' w' S' h1 h2 h3 h4 h5 h6=>⟨fun b hb=>acp hr h1 h5 h6 ez tU ho hb,?_⟩);exact LP _ qD PN kc VM (by rw [qK]; exact G3) h h1 (h2.trans hn) (h3.trans hd) (by rw [h4]; exact hP) (by rw [h4]; exact tU) (fun a2 w2 S2 k1 k2 k3 k4=>hQ a2 w2 S2 k1 k2 k3 (k4.trans h4))
      ·rename_i hw;have tL:=vt fX hw;rw [if_neg (by rw [tL]; simp)]
       have hM:Rel C (E.map Ea.tree++Hx) w (st.put o.dst (.aM [])) ((a.put o.dst undef).tmps::aI) S:=hr.zM (fun t ht=>(fQ ho t ht).1) ⟨#[],rfl,.nil⟩;exact ⟨fun _ _=>by first | rfl | trivial,LP _ qD PN kc VM (by rw [qK]; exact G3) h hM ((cT a o.dst undef).1.trans hn) ((cT a o.dst undef).2.trans hd) (by rw [iS]; exact hP) (by rw [iS]; exact tU) (fun a2 w2 S2 k1 k2 k3 k4=>hQ a2 w2 S2 k1 k2 k3 (k4.trans (iS _ _ _)))⟩
      ·simp at h
     ·
      obtain ⟨_,oi,BB,dR⟩:=mem_ready.1 hi;have pe:=pP PM.1 (by rw [PJ E La LQ]; exact (jX db).1) hi
      obtain ⟨g1,g2,g3,g4⟩:=agM i oi BB hih u1 pe;rw [<- he] at g2;unfold eaO at g1;simp only [Bh] at g1;obtain ⟨⟨g5,g6⟩,g7⟩:=g1;obtain ⟨t,ht⟩:=aby.1 g6;obtain ⟨⟨cs,ib⟩,hea⟩:=aby.1 g7;have VN:oi.guard=none:=by simpa using g5
      obtain ⟨v,w1,tr,e1,e2,e3,e4⟩:=Yu (a:=jY E a) aw hr hea;unfold wpOp;rw [BB];simp only;rw [if_pos (by simp [Region.wanted,VN])]
      left
      refine oo e1 ⟨fun b hb=>?_,?_⟩
      ·obtain ⟨h1,_⟩:=tU i oi b BB hb;exact e2 b (aef h1 hr.kept.size)
      ·rw [ht];have hE3:tT c ops La (⟨i,t,v,tr⟩::E):=by
        refine ⟨fun e he=>?_,?_⟩
        ·rcases aap.1 he with rfl | he
         ·exact ⟨oi,cs,ib,BB,VN,ht,hea,e4,g2,fun k ok hk cX pN hw=>g4 k ok hk cX pN hw⟩
         ·exact hE.ok e he
        ·simp only [aaM,abm,aam,not_exists,not_and];exact ⟨u2,hE.nd⟩
       exact ihc (E:=⟨i,t,v,tr⟩::E) hE3 G3 h e3 hn hd hP tU hQ
variable (sU:P.follows .mixedOrders=true)
 (aaA:∀ (L B:List Nat) (w:World) (st st':St) (vs:Array Value) (S:List (Nat × RT)),Dk L B st=some st'->Rel C Hx w st (vs::aI) S->(∀ p∈C.P0,p.1 < 10000)->∃ S',Rel C Hx w st' (vs::aI) S'/\st'.of=st.of)
include sU aaA
theorem Sx {K:Nat}:∀ (code:Code) (i:Nat) {Q:Exit->Act->World->Prop} {st st':St} {x:Exit} {a:Act} {w:World} {S:List (Nat × RT)},eW c cl ci K aA code i st=some (x,st')->Rel C Hx w st (a.tmps::aI) S->a.tmps.size=n->a.defers=[]->lZ n code=true->Yx C n st.of->
  (∀ a' w' S',Rel C Hx w' st' (a'.tmps::aI) S'->a'.tmps.size=n->a'.defers=[]->st'.of=st.of->Q x a' w')->code.wp P Q a w:=by
 intro code
 induction code with
 | skip=>
  intro i Q st st' x a w S h hr hn hd hf hP hQ;simp only [eW,jf,tE] at h;obtain ⟨rfl,rfl⟩:=h;exact wp_skip (hQ a w S hr hn hd rfl)
 | region id ops draw=>
  intro i Q st st' x a w S h hr hn hd hf hP hQ;simp only [lZ,Bh] at hf;obtain ⟨nE,hf⟩:=hf;have mu:∀ o∈ops.toList,∀ t,o.dst=some t->t < n:=fun o ho t ht=>by
   have:=aac.1 hf o ho;rw [ht] at this
   simpa using this
  cases draw with
  | false=>
   simp only [eW] at h;split at h
   case h_2=>simp at h
   rename_i aQ TH;simp only [jf,tE] at h;obtain ⟨rfl,rfl⟩:=h;rw [zR] at TH;exact wp_region (Dv aw kv mv mu _ TH hr hn hd hP hQ)
  | true=>
   simp only [eW] at h;split at h
   case h_2=>simp at h
   rename_i l agN;split at h
   case h_2=>simp at h
   rename_i aQ TH;simp only [jf,tE] at h;obtain ⟨rfl,rfl⟩:=h;have eF:Rel C Hx { w with drawn:=w.drawn+1 } st (a.tmps::aI) S:=by
    have:=Fw (w':={ w with drawn:=w.drawn+1 }) (Hs:=[]) (H:=Hx) (Os:=[]) (bxs:=[]) hr (by simp) (aav _) (fun _ _ _ _=>rfl) rfl rfl rfl (by simp [bJ]) (by simp [ai]) (by simp [ai]) (by simp [ai]) (by simp)
    exact this.1
   refine wp_mono (Q:=fun e a' w'=>e=.normal/\Q .normal a' w') (wp_region_any sU (G5 _ _ _ _ (acq (E:=[]) (KB:=fun _ _=>False) (Q:=fun e a' w'=>e=.normal/\Q .normal a' w') aw kv mv nE mu (fun c a w hq=>by simp at hq) ops.size _ agN (Ry _) ops.size (tT.nil _ _ _) (abI (List.countP_le_length) (by simp [nM])) TH eF hn hd (fun p hp=>⟨(hP p hp).1,fun j oj t hj ht=>(hP p hp).2 t (mu oj (abG.2 (abS hj)) t ht)⟩) (fun _ _ _ _ h=>h.elim) (fun a' w' S' h1 h2 h3 h4=>⟨rfl,hQ a' w' S' h1 h2 h3 h4⟩)))) ?_
   rintro e a' w' ⟨rfl,h1⟩;exact h1
 | seq p q ihp ihq=>
  intro i Q st st' x a w S h hr hn hd hf hP hQ;simp only [lZ,Bh] at hf;simp only [eW] at h;split at h
  ·rename_i aQ hp;refine wp_seq (ihp i hp hr hn hd hf.1 hP (fun a' w' S' k1 k2 k3 k4=>?_));exact ihq i h k1 k2 k3 hf.2 (by rw [k4]; exact hP) (fun a2 w2 S2 m1 m2 m3 m4=>hQ a2 w2 S2 m1 m2 m3 (m4.trans k4))
  ·rename_i hx;refine wp_seq (ihp i h hr hn hd hf.1 hP (fun a' w' S' k1 k2 k3 k4=>?_));have:=hQ a' w' S' k1 k2 k3 k4;cases x with
   | normal=>exact absurd h (hx st')
   | _=>exact this
 | cond v p q ihp ihq=>
  intro i Q st st' x a w S h hr hn hd hf hP hQ;simp only [lZ,Bh] at hf;simp only [eW] at h;have fX:mF w (ah C w S Hx) S st.tm a.tmps:=by cases hr.pd with | cons a _=>exact a
  split at h
  case h_2=>simp at h
  rename_i t ht;have hv:=xe (c:=c) fX 0 v;rw [ht] at hv;have hv:=yw hv;cases t with
  | true=>exact wp_cond_true hv (ihp i (by simpa using h) hr hn hd hf.1 hP hQ)
  | false=>exact wp_cond_false hv (ihq i (by simpa using h) hr hn hd hf.2 hP hQ)
 | block id p ih=>
  intro i Q st st' x a w S h hr hn hd hf hP hQ;simp only [eW] at h;split at h
  ·rename_i vD aQ hp;by_cases he:vD=id
   ·rw [if_pos he] at h;simp only [jf,tE] at h;obtain ⟨rfl,rfl⟩:=h;refine wp_block (ih id hp hr hn hd hf hP (fun a' w' S' k1 k2 k3 k4=>?_));simp only [Exit.inBlock,he,if_true];exact hQ a' w' S' k1 k2 k3 k4
   ·rw [if_neg he] at h;simp only [jf,tE] at h;obtain ⟨rfl,rfl⟩:=h;refine wp_block (ih id hp hr hn hd hf hP (fun a' w' S' k1 k2 k3 k4=>?_));simp only [Exit.inBlock,he,if_false];exact hQ a' w' S' k1 k2 k3 k4
  ·rename_i hx;refine wp_block (ih id h hr hn hd hf hP (fun a' w' S' k1 k2 k3 k4=>?_));have:=hQ a' w' S' k1 k2 k3 k4;cases x with
   | exit vD=>exact absurd h (hx vD st')
   | _=>exact this
 | loop p ih=>
  intro i Q st st' x a w S h hr hn hd hf hP hQ;simp only [eW] at h;refine wp_loop_rounds K ?_;have key:∀ (k:Nat) {st:St} {a:Act} {w:World} {S:List (Nat × RT)},uT (match c.nm aA i with | some (L,B)=>Dk L B | none=>some) (eW c cl ci K aA p i) k st=some (x,st')->Rel C Hx w st (a.tmps::aI) S->a.tmps.size=n->a.defers=[]->Yx C n st.of->
    (∀ a' w' S',Rel C Hx w' st' (a'.tmps::aI) S'->a'.tmps.size=n->a'.defers=[]->st'.of=st.of->Q x a' w')->Code.rounds P p Q k a w:=by
   intro k
   induction k with
   | zero=>intro st a w S h; simp [uT] at h
   | succ k LP=>
    intro st a w S h hr hn hd hP hQ;simp only [uT] at h;split at h
    case h_2=>simp at h
    rename_i aQ GY;obtain ⟨S1,GR,Fu⟩:∃ S1,Rel C Hx w aQ (a.tmps::aI) S1/\aQ.of=st.of:=by
     cases hc:c.nm aA i with
     | some lb=>
      obtain ⟨L,B⟩:=lb;rw [hc] at GY;exact aaA L B w st aQ a.tmps S GY hr (fun p hp=>(hP p hp).1)
     | none=>
      rw [hc] at GY;simp only [jf] at GY;subst GY;exact ⟨S,hr,rfl⟩
    rw [rounds_succ];split at h
    ·rename_i cu hb;refine ih i hb GR hn hd hf (by rw [Fu]; exact hP) (fun a' w' S' k1 k2 k3 k4=>?_)
     exact LP h k1 k2 k3 (by rw [k4,Fu]; exact hP) (fun a2 w2 S2 m1 m2 m3 m4=>hQ a2 w2 S2 m1 m2 m3 (m4.trans (k4.trans Fu)))
    ·rename_i hx;refine ih i h GR hn hd hf (by rw [Fu]; exact hP) (fun a' w' S' k1 k2 k3 k4=>?_)
     have:=hQ a' w' S' k1 k2 k3 (k4.trans Fu);cases x with
     | normal=>exact absurd h (hx st')
     | _=>exact this
  exact key K h hr hn hd hP hQ
 | exit id=>
  intro i Q st st' x a w S h hr hn hd hf hP hQ;simp only [eW,jf,tE] at h;obtain ⟨rfl,rfl⟩:=h;exact wp_exit (hQ a w S hr hn hd rfl)
 | ret=>
  intro i Q st st' x a w S h hr hn hd hf hP hQ;simp only [eW,jf,tE] at h;obtain ⟨rfl,rfl⟩:=h;exact wp_ret (hQ a w S hr hn hd rfl)
 | _=>intro i Q st st' x a w S h; simp [eW] at h
end
def rB (p:Nat->Bool):List (Nat × RT)->List (Nat × RT)
 | []=>[]
 | (k,r)::t=>if p k then (k,r)::rB p t else rB p t
theorem Sy (p:Nat->Bool) (S:List (Nat × RT)) (k:Nat):lk (rB p S) k=if p k then lk S k else none:=by
 induction S with
 | nil=>simp [rB,lk]
 | cons e t ih=>
  obtain ⟨j,r⟩:=e;simp only [rB];by_cases hj:j=k
  ·subst hj;by_cases hp:p j=true
   ·simp [hp,lk]
   ·simp [hp,ih]
  ·by_cases hp:p j=true
   ·simp [hp,lk,hj,ih]
   ·simp [hp,lk,hj,ih]
theorem FB (p:Nat->Bool):∀ S:List (Nat × RT),(cM (rB p S)).Sublist (cM S)
 | []=>abj _
 | (k,r)::t=>by
  simp only [rB,cM];split
  ·exact abz (abj _) (FB p t)
  ·exact (FB p t).trans (aek _ _)
section
variable {C:Ctx} {Hx:List T} {w:World} {aI:List (Array Value)}
theorem Yy {H:List T} {st st':St} {S:List (Nat × RT)} {vs:Array Value} (h:Rel C H w st (vs::aI) S) (gq:∀ k,lk st'.rt k=none∨lk st'.rt k=lk st.rt k) (fX:∀ k,lk st'.tm k=none∨lk st'.tm k=lk st.tm k) (OV:st'.up=st.up):∃ S',Rel C H w st' (vs::aI) S':=by
 have AE:∀ r R,lk (rB (fun k=>(lk st'.rt k).isSome) S) r=some R->lk S r=some R:=fun r R hr=>by
  rw [Sy] at hr;split at hr
  ·exact hr
  ·simp at hr
 have xr:=FB (fun k=>(lk st'.rt k).isSome) S;have eI:∀ k∈cM (rB (fun k=>(lk st'.rt k).isSome) S)++ai H,k∈cM S++ai H:=fun k hk=>by
  rcases tD.1 hk with h | h
  ·exact tD.2 (.inl (xr.mem h))
  ·exact tD.2 (.inr h)
 have hX:∀ b k,ah C w S H b k->ah C w (rB (fun k=>(lk st'.rt k).isSome) S) H b k:=jV eI;have cF:jF w w (ah C w S H) (ah C w (rB (fun k=>(lk st'.rt k).isSome) S) H):=fun b k hk=>⟨hX b k hk,rfl⟩;have dZ:∀ d u,bD w (ah C w S H) S d u->bD w (ah C w (rB (fun k=>(lk st'.rt k).isSome) S) H) (rB (fun k=>(lk st'.rt k).isSome) S) d u:=fun d u hd=>tJ cF AE hd;refine ⟨rB (fun k=>(lk st'.rt k).isSome) S,⟨fun k=>?_,⟨?_,fun r R hr=>?_,gd hX _ h.mem.hand,fun k hk=>h.mem.lt k (eI k hk)⟩,?_,⟨h.kept.os,h.kept.tape,h.kept.output,h.kept.size,h.kept.block,fun k hk=>h.kept.iQ k (eI k hk),fun r b vs hm R hR=>h.kept.par r b vs hm R (AE r R hR)⟩⟩⟩
 ·rw [Sy];rcases gq k with h1 | h1
  ·simp [h1]
  ·have h2:=h.rt k;rw [<- h1] at h2;cases h3:lk st'.rt k with
   | none=>simp
   | some cs=>rw [h3] at h2; simp only [Option.isSome_some,if_true]; exact h2
 ·exact afp (abz xr (abj _)) h.mem.nd
 ·obtain ⟨k1,k2⟩:=h.mem.root r R (AE r R hr);refine ⟨k1,fun t ht=>?_⟩;have:=k2 t ht;cases t with
  | v d u=>
   rcases this with this | ⟨hb,this⟩
   ·exact .inl (vn hX _ _ this)
   ·exact .inr ⟨hb,dZ _ _ this⟩
  | own s n cap a xs=>exact dQ cF _ this (fun _ _=>rfl)
 ·cases h.pd with
  | cons h1 h2=>
   rw [OV];refine .cons (fun t=>?_) (h2.mono (fun _ _ hh=>xY dZ hh));rcases fX t with h3 | h3
   ·rw [h3]; exact mG _
   ·rw [h3]; exact qC dZ (h1 t)
theorem vU {α:Type} (l:List (Nat × α)):∀ (ts:List Nat) (k:Nat),lk (uS l ts) k=none∨lk (uS l ts) k=lk l k
 | [],k=>.inl rfl
 | t::ts,k=>by
  simp only [uS];split
  ·rename_i v hv;simp only [lk];by_cases h:t=k
   ·subst h; simp [hv]
   ·simp only [h,if_false]; exact vU l ts k
  ·exact vU l ts k
theorem FC {α:Type} (n:Nat) (k:Nat):∀ l:List (Nat × α),lk (below n l) k=none∨lk (below n l) k=lk l k
 | []=>.inl rfl
 | (j,v)::t=>by
  simp only [below];by_cases hj:j=k
  ·subst hj;split
   ·rename_i hc
    left
    have:∀ l:List (Nat × α),lk (below n l) j=none:=by
     intro l
     induction l with
     | nil=>rfl
     | cons e l ih=>
      obtain ⟨i,u⟩:=e;simp only [below];split
      ·exact ih
      ·rename_i hi;simp only [lk];split
       ·rename_i he; subst he; exact absurd hc hi
       ·exact ih
    exact this t
   ·right; simp [lk]
  ·split
   ·rcases FC n k t with h | h
    ·exact .inl h
    ·right; rw [h]; simp [lk,hj]
   ·simp only [lk,hj,if_false];exact FC n k t
theorem VO {α:Type} (a b:List (Nat × α)) (k:Nat):lk (a++b) k=match lk a k with | some v=>some v | none=>lk b k:=by
 induction a with
 | nil=>rfl
 | cons e t ih=>
  obtain ⟨j,v⟩:=e;simp only [aao,lk];split
  ·rfl
  ·exact ih
theorem VP {st st':St} {r':Nat} {q':List Nat} {o':Nat} {d:D} (h:st.gZ r' q' o' d=some st') (r o:Nat):st'.cell r [] o=st.cell r [] o∨st'.cell r [] o=some d∨∃ s n xs,st.cell r [] o=some (.sl none s n xs):=by
 unfold St.gZ at h;split at h
 case h_2=>simp at h
 rename_i cs ed;split at h
 case h_2=>simp at h
 rename_i cs' hm;simp only [jf] at h;subst h;by_cases hr:r=r'
 ·subst hr;simp only [St.cell,St.cells,hD,ed,jS];cases q' with
  | nil=>
   simp only [oX,jf] at hm;subst hm;by_cases ho:o'=o
   ·subst ho;by_cases hl:o' < cs.length
    ·right; left; rw [aaE hl]
    ·left; rw [aaD (by simpa using hl),aaD (by simpa using hl)]
   ·left; rw [aal ho]
  | cons p q=>
   simp only [oX] at hm;split at hm
   ·rename_i s n xs hp;split at hm
    case h_2=>simp at hm
    simp only [jf] at hm;subst hm;by_cases ho:p=o
    ·subst ho; right; right; exact ⟨s,n,xs,hp⟩
    ·left; rw [aal ho]
   ·simp at hm
 ·left; simp only [St.cell,St.cells,qg _ _ hr]
theorem Yz {st st':St} {d d':D} (h:jh st d=some (d',st')) (r o:Nat):st'.cell r [] o=st.cell r [] o∨(∃ s n,st'.cell r [] o=some (.hole s n))∨∃ s n xs,st.cell r [] o=some (.sl none s n xs):=by
 unfold jh at h;split at h<;>try (simp only [jf,tE] at h; obtain ⟨_,rfl⟩:=h; exact .inl rfl)
 ·split at h
  ·split at h
   ·rename_i aQ hs;simp only [jf,tE] at h;obtain ⟨_,rfl⟩:=h;rcases VP hs r o with h1 | h1 | h1
    ·exact .inl h1
    ·exact .inr (.inl ⟨_,_,h1⟩)
    ·exact .inr (.inr h1)
   ·simp at h
  ·simp only [jf,tE] at h; obtain ⟨_,rfl⟩:=h; exact .inl rfl
  ·simp at h
 ·simp at h
theorem uY (B:List Nat):∀ (k o:Nat) {st st':St} {S:List (Nat × RT)} {r:Nat},sv B st r o k=some st'->Rel C Hx w st aI S->∃ S',Rel C Hx w st' aI S'/\st'.of=st.of
 | 0,o,st,st',S,r,h,hr=>by
  simp only [sv,jf] at h;subst h;exact ⟨S,hr,rfl⟩
 | k+1,o,st,st',S,r,h,hr=>by
  simp only [sv] at h;split at h
  ·rename_i r' q' o' x hc;split at h
   ·exact uY B k (o+1) h hr
   ·split at h
    case h_2=>simp at h
    rename_i d' aQ dH;split at h
    case h_2=>simp at h
    rename_i cu iN;obtain ⟨R,l,t0,g1,g2,g3,g4,g5⟩:=iM hr.rt hc;simp only [ay,jf] at g2;subst g2;obtain ⟨d0,u0,rfl⟩:∃ d0 u0,t0=.v d0 u0:=by
     cases t0 with
     | v d0 u0=>exact ⟨d0,u0,rfl⟩
     | own s n cap a cs=>simp [T.er] at g5
    simp only [T.er] at g5;have cO:=(hr.mem.root r R g1).2 _ (aak g3);have dZ:bD w (ah C w S Hx) S (.ref r' q' o' x) u0:=by
     rcases cO with h1 | ⟨_,h1⟩
     ·rw [<- g5] at h1; simp [Ext] at h1
     ·rw [g5]; exact h1
    obtain ⟨t,S1,a1,a2,a3,a4,a5,a6,a7⟩:=vk hr dZ dH;obtain ⟨dh,uh,b1,b2,b3,b4⟩:=a7 r' q' o' x rfl;obtain ⟨R1,c1,c2,c3⟩:=a5.fwd r R g1;have hlen:R1.cs.length=R.cs.length:=by have:=congrArg List.length c3; simpa [bV] using this
    obtain ⟨t1,e1⟩:∃ t1,R1.cs[o]?=some t1:=by
     have:=(aaa.1 g3).1;exact ⟨_,aaf (by omega)⟩
    have e2:t1.val=u0:=by
     have h1:(ax R1.cs)[o]?=(ax R.cs)[o]?:=by rw [c3]
     rw [fq,fq,e1,g3] at h1
     simpa [T.val] using h1
    have e3:cD S1 r [] o=some t1:=by simp [cD,c1,ay,e1]
    have agO:aQ.cell r [] o=some t1.er:=by rw [Jh aQ S1 a1.rt,e3]; rfl
    have e4:∃ d1 u1,t1=.v d1 u1:=by
     cases t1 with
     | v d1 u1=>exact ⟨d1,u1,rfl⟩
     | own s n cap a cs=>
      exfalso;have:=Yz dH r o;rw [agO,hc] at this;rcases this with h1 | ⟨s',n',h1⟩ | ⟨s',n',xs,h1⟩<;>simp [T.er] at h1
    obtain ⟨d1,u1,rfl⟩:=e4;simp only [T.val] at e2;subst e2;have Fc:r'≠r∨under ([]++[o]) (q'++[o'])=none:=by
     by_cases hrr:r'=r
     ·right
      subst hrr;cases hu:under ([]++[o]) (q'++[o']) with
      | none=>rfl
      | some y=>
       exfalso;have hp:=jE hu;simp only [aaq] at hp;obtain ⟨R2,l2,f1,f2,f3⟩:=Fx b3;rw [c1,jf] at f1;subst f1;cases q' with
       | nil=>
        simp only [aaq,abp,aaF] at hp;obtain ⟨rfl,_⟩:=hp;simp only [jh,hc] at dH;simp at dH
       | cons p q''=>
        simp only [aao,abp,aaF] at hp;obtain ⟨rfl,_⟩:=hp;simp [ay,e1] at f2
     ·exact .inl hrr
    obtain ⟨S2,k1,k2,k3,k4,k5,k6⟩:=Pq (t0:=.v d1 u1) (ex:=true) (H:=Hx) a1 e3 ⟨d1,u1,rfl,by simp⟩ (.inr ⟨rfl,by rw [a3]; rfl⟩) (by rw [a2]; exact iN)
    have zK:=k6 r' q' o' dh uh b1 b2 b3 Fc;have hm:∃ S3,Rel C Hx w (cu.tj (.ref r' q' o' x) r [] o) aI S3:=by
     cases x with
     | none=>
      exact ⟨_,(O8 k1 zK k5 (b4 rfl)).1⟩
     | some x=>exact ⟨_,(Jq k1 r' q' o' true).1⟩
    obtain ⟨S3,m1⟩:=hm;obtain ⟨S4,n1,n2⟩:=uY B k (o+1) h m1;exact ⟨S4,n1,n2.trans ((show (cu.tj (.ref r' q' o' x) r [] o).of=cu.of from rfl).trans (k3.trans a6.2.2))⟩
  ·exact uY B k (o+1) h hr
theorem FD {f:St->Nat->Option St} {Q:Nat->Prop} (hf:∀ {st st':St} {S:List (Nat × RT)} {t:Nat},Q t->f st t=some st'->Rel C Hx w st aI S->∃ S',Rel C Hx w st' aI S'/\st'.of=st.of):∀ {ts:List Nat} {st st':St} {S:List (Nat × RT)},(∀ t∈ts,Q t)->Dj f st ts=some st'->Rel C Hx w st aI S->∃ S',Rel C Hx w st' aI S'/\st'.of=st.of
 | [],st,st',S,_,h,hr=>by
  simp only [Dj,jf] at h;subst h;exact ⟨S,hr,rfl⟩
 | t::ts,st,st',S,hq,h,hr=>by
  simp only [Dj] at h;split at h
  case h_2=>simp at h
  rename_i aQ h1;obtain ⟨S1,a1,a2⟩:=hf (hq t (by simp)) h1 hr
  obtain ⟨S2,b1,b2⟩:=FD hf (fun x hx=>hq x (by simp [hx])) h a1
  exact ⟨S2,b1,b2.trans a2⟩
theorem Jx {α:Type} (f:α->α) (k:Nat) (v:α):∀ l:List (Nat × α),gn f (pz l k v)=pz (gn f l) k (f v)
 | []=>rfl
 | (j,u)::t=>by
  simp only [pz,gn];split
  ·simp only [gn,Jx f k v t]
  ·split<;>rfl
end
section
variable {C:Ctx} {Hx:List T} {w:World} {vs:Array Value} {aI:List (Array Value)}
theorem YA {B:List Nat} {st st':St} {S:List (Nat × RT)} {t:Nat} (hP:∀ p∈C.P0,p.1 < 10000) (h:Te B st t=some st') (hr:Rel C Hx w st (vs::aI) S):∃ S',Rel C Hx w st' (vs::aI) S'/\st'.of=st.of:=by
 unfold Te at h;split at h
 case h_2=>
  simp only [jf] at h;subst h;exact ⟨S,hr,rfl⟩
 rename_i r o x jG;split at h
 ·simp only [jf] at h;subst h;exact ⟨S,hr,rfl⟩
 rename_i cX;rw [not_or] at cX;split at h
 case h_2=>simp at h
 rename_i d' aQ dH;simp only [jf] at h;have fX:mF w (ah C w S Hx) S st.tm vs:=by cases hr.pd with | cons a _=>exact a
 have hv:bD w (ah C w S Hx) S (.ref r [] o x) (vs.getD t undef):=by
  have h1:=fX t;have h2:(lk st.tm t).getD .undef=.ref r [] o x:=jG;rw [h2] at h1;exact h1
 obtain ⟨t1,S1,a1,a2,a3,a4,a5,a6,a7⟩:=vk hr hv dH;obtain ⟨dh,uh,b1,b2,b3,b4⟩:=a7 r [] o x rfl;have eT:=a1.mem.nd;have eG:∀ k∈(RT.mk none [t1]).ft,k∈ai [t1]∨w.heap.size<=k:=fun k hk=>.inl (by simpa [RT.ft] using hk)
 have cF:=o4 (r:=10000+st.of+t) (R:=⟨none,[t1]⟩) (Hs:=[t1]) (H:=Hx) a1 eG (aav _) (fun _ _=>rfl);obtain ⟨c1,c2⟩:=zH (r:=10000+st.of+t) (R:=⟨none,[t1]⟩) (Hs:=[t1]) (H:=Hx) a1 ⟨trivial,fun y hy=>by
   have h1:=(cj _).1 a1.mem.hand y (by
    simp only [abk] at hy;subst hy;simp)
   have h1:=dQ cF y h1 (fun _ _=>rfl);cases y with
   | v d u=>exact .inl h1
   | own s n cap a cs=>exact h1⟩
  ⟨by
   simp only [RT.ft,Option.toList,aaq];have h9:=(yq.1 eT).2.1;rw [<- abp,bd] at h9;exact (yq.1 h9).1,eG⟩ (fun k hk=>a1.mem.lt k (by
   simp only [RT.ft,Option.toList,aaq] at hk;exact tD.2 (.inr (by rw [<- abp,bd]; exact tD.2 (.inl hk))))) (aav _) (fun _ _=>rfl) rfl rfl rfl (fun p hp=>by have:=hP p hp; omega)
 have AE:lk (pt (fS (cH (10000+st.of+t)) S1) (10000+st.of+t) ⟨none,[t1]⟩) (10000+st.of+t)=some ⟨none,[t1]⟩:=cJ _ _ _;have Jp:cD (pt (fS (cH (10000+st.of+t)) S1) (10000+st.of+t) ⟨none,[t1]⟩) (10000+st.of+t) [] 0=some t1:=by simp [cD,AE,ay]
 have hg:=rh (10000+st.of+t);have zK:cD (pt (fS (cH (10000+st.of+t)) S1) (10000+st.of+t) ⟨none,[t1]⟩) r [] o=some (.v dh uh):=by
  have h1:=Dn (g:=cH (10000+st.of+t)) b3;simp only [if_true,fT,b2] at h1;have h2:fp (cH (10000+st.of+t)) dh=dh:=by
   cases dh<;>first | (simp [sn] at b1; done) | simp [fp,hg.hole,hg.sl]
  rw [h2] at h1;rw [<- h1];simp only [cD,dJ _ _ cX.1]
 have gK:gE t1.er=true:=by rw [a2]; exact Vd dH
 have agP:∀ f:D->D,lO f->List.map (fp f) [d']=[d']:=fun f hf=>by
  rw [a2] at gK;cases d' with
  | sl g s n cs=>simp [fp,hf.sl]
  | _=>simp [gE] at gK
 have BG:ba [t1]=[d']:=by simp [ba,a2]
 have ajh:ba (RT.mk none [t1]).cs=[d']:=BG;rw [ajh] at c1;have BD:t1.val=vs.getD t undef:=a3;have fin:∀ (f:D->D) (S3:List (Nat × RT)),lO f->Rel C Hx w (St.eZ f { aQ.eZ (cH (10000+st.of+t)) with rt:=pz (aQ.eZ (cH (10000+st.of+t))).rt (10000+st.of+t) [d'] }) (vs::aI) S3->
   (∃ y,cD S3 (10000+st.of+t) [] 0=some y/\y.val=vs.getD t undef/\(sn y.er).isSome=true)->st'={ (aQ.eZ (cH (10000+st.of+t))).eZ f with tm:=pz ((aQ.eZ (cH (10000+st.of+t))).eZ f).tm t (.ref (10000+st.of+t) [] 0 none),rt:=pz ((aQ.eZ (cH (10000+st.of+t))).eZ f).rt (10000+st.of+t) [d'] }->∃ S',Rel C Hx w st' (vs::aI) S'/\st'.of=st.of:=by
  intro f S3 hf hM ⟨y,hy,hyv,hys⟩ aji;subst aji;refine ⟨S3,?_,a6.2.2⟩;obtain ⟨m1,m2,m3,m4⟩:=hM;refine ⟨?_,m2,?_,m4⟩
  ·have h1:gS (gn (List.map (fp f)) (pz (aQ.eZ (cH (10000+st.of+t))).rt (10000+st.of+t) [d'])) S3:=m1;rw [Jx,agP f hf] at h1;exact h1
  ·cases m3 with
   | cons h1 h2=>
    refine .cons (fun i=>?_) h2;show cx w (ah C w S3 Hx) S3 ((lk (pz (gn (pI f) (gn (pI (cH (10000+st.of+t))) aQ.tm)) t (.ref (10000+st.of+t) [] 0 none)) i).getD .undef) (vs.getD i undef);by_cases hi:i=t
    ·subst hi;rw [hD];simp only [abV];intro z hz;rw [hy,jf] at hz;subst hz;obtain ⟨sn',O5⟩:=aby.1 hys;simp only [eM,O5];exact hyv.symm
    ·rw [qg _ _ hi]; exact h1 i
 have aoD:(sn t1.er).isSome=true:=by cases h:t1.er<;>first | rfl | (rw [h] at gK; simp [gE] at gK)
 have jI:∀ f:D->D,lO f->∃ y,cD (fS f (pt (fS (cH (10000+st.of+t)) S1) (10000+st.of+t) ⟨none,[t1]⟩)) (10000+st.of+t) [] 0=some y/\y.val=vs.getD t undef/\(sn y.er).isSome=true:=fun f hf=>by
  refine ⟨fT f t1,?_,?_,?_⟩
  ·have:=Dn (g:=f) Jp
   simpa using this
  ·rw [<- BD]; cases t1<;>rfl
  ·rw [Ok hf];cases h:t1.er with
   | sl g s n cs=>simp [fp,hf.sl,sn]
   | _=>rw [h] at gK; simp [gE] at gK
 cases x with
 | none=>
  have hm:=(O8 c1 zK Jp (b4 rfl)).1;exact fin _ _ (Bu _ _ _ _ _ _) hm (jI _ (Bu _ _ _ _ _ _)) h.symm
 | some x=>
  have hm:=(Jq c1 r [] o true).1;exact fin _ _ (mQ _ _ _ _) hm (jI _ (mQ _ _ _ _)) h.symm
theorem Sz {L B:List Nat} {st st':St} {S:List (Nat × RT)} (h:Dk L B st=some st') (hr:Rel C Hx w st (vs::aI) S) (hP:∀ p∈C.P0,p.1 < 10000):∃ S',Rel C Hx w st' (vs::aI) S'/\st'.of=st.of:=by
 unfold Dk at h;simp only at h;split at h
 case h_2=>simp at h
 rename_i aQ h1;split at h
 case h_2=>simp at h
 rename_i cu h2;simp only [jf] at h;obtain ⟨S1,a1,a2⟩:=FD (Q:=fun _=>True) (fun {st st' S t} _ hf hr=>by
  unfold Li at hf;split at hf
  ·exact uY _ _ _ hf hr
  ·simp only [jf] at hf;subst hf;exact ⟨S,hr,rfl⟩) (fun _ _=>trivial) h1 hr
 obtain ⟨S2,b1,b2⟩:=FD (Q:=fun _=>True) (fun _ hf hr=>YA hP hf hr) (fun _ _=>trivial) h2 a1;subst h;obtain ⟨S3,c1⟩:=Yy (st':={ cu with tm:=uS cu.tm L,rt:=below st.of cu.rt++uS cu.rt ((B++L.map (10000+·)).map (st.of+·)) }) b1 (fun k=>by
   rw [VO];rcases FC st.of k cu.rt with h1 | h1
   ·rw [h1]; exact vU _ _ _
   ·cases h3:lk (below st.of cu.rt) k with
    | none=>exact vU _ _ _
    | some v=>right; rw [<- h1,h3]) (fun k=>vU _ _ _) rfl
 exact ⟨S3,c1,b2.trans a2⟩
end
def FE (tmps:Array Value) (r:ResultVar):Sem Value:=
 match r with
 | .tmp t=>pure (tmps.getD t undef)
 | .cell a t=>do loadVar t (<- asAddr (tmps.getD a undef))
section
variable {P:Program} {c:cA} (aw:eu c P) {C:Ctx} {Hx:List T} {w:World} {S:List (Nat × RT)} {st:St} {aI:List (Array Value)} {tmps:Array Value}
include aw
theorem Jy (h:Rel C Hx w st (tmps::aI) S):∀ {rs:List ResultVar} {ds:List D},xX c st rs=some ds->
  ∃ vs:List Value,(rs.mapM (FE tmps)).run P w=.ok vs w/\cm (cx w (ah C w S Hx) S) ds vs
 | [],ds,hr=>by
  simp only [xX,jf] at hr;subst hr;exact ⟨[],by simp,.nil⟩
 | .tmp t::rs,ds,hr=>by
  simp only [xX] at hr;split at hr
  case h_2=>simp at hr
  rename_i ds' Po;simp only [jf] at hr;subst hr;obtain ⟨vs,h1,h2⟩:=Jy h Po;have fX:mF w (ah C w S Hx) S st.tm tmps:=by cases h.pd with | cons a _=>exact a
  exact ⟨tmps.getD t undef::vs,by simp only [List.mapM_cons,Sem.run_bind,FE,Sem.run_pure,Result.andThen_ok]; rw [show (List.mapM (FE tmps) rs).run P w=.ok vs w from h1]; rfl,.cons (fX t) h2⟩
 | .cell a t::rs,ds,hr=>by
  simp only [xX] at hr;split at hr
  case h_2=>simp at hr
  rename_i i hi;split at hr
  case h_2=>simp at hr
  rename_i d hl;split at hr
  case h_2=>simp at hr
  rename_i ds' Po;simp only [jf] at hr;subst hr;obtain ⟨vs,h1,h2⟩:=Jy h Po;have fX:mF w (ah C w S Hx) S st.tm tmps:=by cases h.pd with | cons a _=>exact a
  obtain ⟨v,h3,h4⟩:=Jj aw h.rt h.mem hi (fX a) hl
  replace h3:=h3 w (Bm.refl _ w)
  refine ⟨v::vs,?_,.cons h4 h2⟩;have h5:(do loadVar t (<- asAddr (tmps.getD a undef)):Sem Value).run P w=.ok v w:=by
   unfold Instr.loadAt Instr.sureAddr at h3;split at h3
   ·rename_i A hA;rw [hA]
    simpa [asAddr] using h3
   ·simp at h3
  have h6:(FE tmps (.cell a t)).run P w=.ok v w:=h5;simp only [List.mapM_cons,Sem.run_bind,h6,Result.andThen_ok,Sem.run_pure];rw [show (List.mapM (FE tmps) rs).run P w=.ok vs w from h1]; rfl
def vV:List Value->Value
 | [v]=>v
 | vs=>.tuple vs.toArray
theorem Hb (h:Rel C Hx w st (tmps::aI) S) {fn:Func} {ds:List D} (hr:xX c st fn.results.toList=some ds):
  ∃ vs:List Value,(results fn tmps).run P w=.ok (vV vs) w/\cm (cx w (ah C w S Hx) S) ds vs:=by
 obtain ⟨vs,h1,h2⟩:=Jy aw h hr;refine ⟨vs,?_,h2⟩;unfold results;rw [Array.mapM_eq_mapM_toList];have ajj:(fun x:ResultVar=>(match x with | .tmp t=>pure (tmps.getD t undef) | .cell a t=>do loadVar t (<- asAddr (tmps.getD a undef)):Sem Value))=FE tmps:=by funext r; cases r<;>rfl
 have h3:(do let vs <- (List.toArray <$>List.mapM (FE tmps) fn.results.toList:Sem (Array Value)); pure (if h:vs.size=1 then vs[0] else .tuple vs):Sem Value).run P w=.ok (vV vs) w:=by
  simp only [Sem.run_bind,Sem.run_map,h1,Result.andThen_ok,Sem.run_pure]
  match vs with
  | []=>rfl
  | [v]=>rfl
  | v1::v2::vs=>simp [vV]
 rw [<- ajj] at h3;exact h3
end
def mw (n:Nat):Nat->List D->List Arg->List (Nat × RT)
 | _,[],_=>[]
 | _,_::_,[]=>[]
 | i,d::ds,a::as9=>if eS d then (n+i,⟨a.1,a.2⟩)::mw n (i+1) ds as9 else mw n (i+1) ds as9
def sV (n:Nat):Nat->List D->List Arg->List (Nat × Option Nat × List Value)
 | _,[],_=>[]
 | _,_::_,[]=>[]
 | i,d::ds,a::as9=>if eS d then (n+i,a.1,ax a.2)::sV n (i+1) ds as9 else sV n (i+1) ds as9
def xE (n i:Nat) (d:D):D:=
 match d with
 | .aZ _=>.ptr (n+i) [] 0
 | d=>if (dq d).any jg then Df (n+i) d else d
theorem zS (n i:Nat) (d:D) (ds:List D) (st:St):oc n i (d::ds) st=oc n (i+1) ds { st with tm:=pz st.tm i (xE n i d),rt:=if eS d then pz st.rt (n+i) (ch d) else st.rt }:=by
 simp only [oc]
 congr 1
 cases d with
 | aZ cs=>rfl
 | _=>
  simp only [xE,eS,ch];split<;>simp_all
theorem FF:∀ (n:Nat) (ds:List D) (i:Nat) (st:St),(oc n i ds st).up=st.up/\(oc n i ds st).of=st.of
 | n,[],i,st=>⟨rfl,rfl⟩
 | n,d::ds,i,st=>by rw [zS]; exact FF n ds (i+1) _
theorem PQ:∀ (n:Nat) (ds:List D) (i:Nat) (st:St) (t:Nat),lk (oc n i ds st).tm t=if i<=t/\t < i+ds.length then (ds[t - i]?).map (xE n t) else lk st.tm t
 | n,[],i,st,t=>by
  have:¬ (i<=t/\t < i+([]:List D).length):=by simp only [abx]; omega
  rw [if_neg this]; rfl
 | n,d::ds,i,st,t=>by
  rw [zS,PQ n ds (i+1)];simp only [aa7];by_cases h1:i+1<=t/\t < i+1+ds.length
  ·rw [if_pos h1,if_pos (by omega)]
   have:t - i=(t - (i+1))+1:=by omega
   rw [this,aaZ]
  ·rw [if_neg h1];by_cases h2:t=i
   ·subst h2;rw [if_pos (by omega),hD]
    simp
   ·rw [if_neg (by omega),qg _ _ h2]
theorem Jz:∀ (n:Nat) (ds:List D) (as9:List Arg) (i k:Nat),k < n+i->lk (mw n i ds as9) k=none
 | n,[],_,i,k,_=>rfl
 | n,_::_,[],i,k,_=>rfl
 | n,d::ds,a::as9,i,k,h=>by
  simp only [mw];split
  ·simp only [lk];rw [if_neg (by omega)]
   exact Jz n ds as9 (i+1) k (by omega)
  ·exact Jz n ds as9 (i+1) k (by omega)
theorem PR:∀ (n:Nat) (ds:List D) (as9:List Arg) (i:Nat) (st:St) (k:Nat),as9.length=ds.length->(∀ (j:Nat) (d:D) (a:Arg),ds[j]?=some d->as9[j]?=some a->eS d=true->ch d=ba a.2)->
  lk (oc n i ds st).rt k=match lk (mw n i ds as9) k with | some R=>some (ba R.cs) | none=>lk st.rt k
 | n,[],_,i,st,k,_,_=>rfl
 | n,d::ds,[],i,st,k,h,_=>by simp at h
 | n,d::ds,a::as9,i,st,k,hl,h=>by
  rw [zS,PR n ds as9 (i+1) _ k (by simpa using hl) (fun j d a hd ha=>h (j+1) d a (by simpa using hd) (by simpa using ha))]
  simp only [mw];by_cases hr:eS d=true
  ·rw [if_pos hr,if_pos hr];simp only [lk];by_cases hk:n+i=k
   ·subst hk;rw [if_pos rfl,Jz n ds as9 (i+1) (n+i) (by omega),hD]
    rw [h 0 d a rfl rfl hr]
   ·rw [if_neg hk];cases lk (mw n (i+1) ds as9) k with
    | some R=>rfl
    | none=>simp only; rw [qg _ _ (aeR hk)]
  ·rw [if_neg hr,if_neg hr]
theorem zT:∀ (n:Nat) (ds:List D) (as9:List Arg) (i:Nat) {k:Nat} {R:RT},lk (mw n i ds as9) k=some R->∃ j d a,ds[j]?=some d/\as9[j]?=some a/\eS d=true/\k=n+(i+j)/\R=⟨a.1,a.2⟩
 | n,[],_,i,k,R,h=>by simp [mw,lk] at h
 | n,_::_,[],i,k,R,h=>by simp [mw,lk] at h
 | n,d::ds,a::as9,i,k,R,h=>by
  simp only [mw] at h;split at h
  ·rename_i hr;simp only [lk] at h;split at h
   ·rename_i hk;simp only [jf] at h;exact ⟨0,d,a,rfl,rfl,hr,hk.symm,h.symm⟩
   ·obtain ⟨j,d',a',h1,h2,h3,h4,h5⟩:=zT n ds as9 (i+1) h;exact ⟨j+1,d',a',by simpa using h1,by simpa using h2,h3,by omega,h5⟩
  ·obtain ⟨j,d',a',h1,h2,h3,h4,h5⟩:=zT n ds as9 (i+1) h;exact ⟨j+1,d',a',by simpa using h1,by simpa using h2,h3,by omega,h5⟩
theorem PS:∀ (n:Nat) (ds:List D) (as9:List Arg) (i:Nat) {j:Nat} {d:D} {a:Arg},ds[j]?=some d->as9[j]?=some a->eS d=true->lk (mw n i ds as9) (n+(i+j))=some ⟨a.1,a.2⟩
 | n,[],_,i,j,d,a,h,_,_=>by simp at h
 | n,_::_,[],i,j,d,a,_,h,_=>by simp at h
 | n,d0::ds,a0::as9,i,0,d,a,h1,h2,h3=>by
  simp only [aaz,jf] at h1 h2;subst h1; subst h2;simp [mw,h3,lk]
 | n,d0::ds,a0::as9,i,j+1,d,a,h1,h2,h3=>by
  simp only [aaZ] at h1 h2;have:=PS n ds as9 (i+1) h1 h2 h3;rw [show i+(j+1)=i+1+j by omega]
  simp only [mw];split
  ·simp only [lk];rw [if_neg (by omega)]; exact this
  ·exact this
theorem zU:∀ (n:Nat) (ds:List D) (as9:List Arg) (i:Nat) {r:Nat} {b:Option Nat} {vs:List Value},(r,b,vs)∈sV n i ds as9->∃ j d a,ds[j]?=some d/\as9[j]?=some a/\eS d=true/\r=n+(i+j)/\b=a.1/\vs=ax a.2
 | n,[],_,i,r,b,vs,h=>by simp [sV] at h
 | n,_::_,[],i,r,b,vs,h=>by simp [sV] at h
 | n,d::ds,a::as9,i,r,b,vs,h=>by
  simp only [sV] at h;split at h
  ·rename_i hr;simp only [aap,tE] at h;rcases h with ⟨h1,h2,h3⟩ | h
   ·exact ⟨0,d,a,rfl,rfl,hr,h1,h2,h3⟩
   ·obtain ⟨j,d',a',h1,h2,h3,h4,h5⟩:=zU n ds as9 (i+1) h;exact ⟨j+1,d',a',by simpa using h1,by simpa using h2,h3,by omega,h5⟩
  ·obtain ⟨j,d',a',h1,h2,h3,h4,h5⟩:=zU n ds as9 (i+1) h;exact ⟨j+1,d',a',by simpa using h1,by simpa using h2,h3,by omega,h5⟩
theorem PT:∀ (n:Nat) (ds:List D) (as9:List Arg) (i:Nat) {j:Nat} {d:D} {a:Arg},ds[j]?=some d->as9[j]?=some a->eS d=true->(n+(i+j),a.1,ax a.2)∈sV n i ds as9
 | n,[],_,i,j,d,a,h,_,_=>by simp at h
 | n,_::_,[],i,j,d,a,_,h,_=>by simp at h
 | n,d0::ds,a0::as9,i,0,d,a,h1,h2,h3=>by
  simp only [aaz,jf] at h1 h2;subst h1; subst h2;simp [sV,h3]
 | n,d0::ds,a0::as9,i,j+1,d,a,h1,h2,h3=>by
  simp only [aaZ] at h1 h2;have:=PT n ds as9 (i+1) h1 h2 h3;rw [show i+(j+1)=i+1+j by omega]
  simp only [sV];split
  ·exact aap.2 (.inr this)
  ·exact this
theorem uB.get {w:World} {X:Bool->Nat->Prop}:∀ {b:List Bool} {ds:List D} {us:List Value} {as9:List Arg},uB w X b ds us as9->as9.length=ds.length/\us.length=ds.length/\∀ i d,ds[i]?=some d->∃ u a,us[i]?=some u/\as9[i]?=some a/\LD w X (b.getD i false) d u a
 | _,[],us,as9,h=>by
  obtain ⟨rfl,rfl⟩:=h;exact ⟨rfl,rfl,by simp⟩
 | b,d::ds,us,as9,h=>by
  obtain ⟨u,kG,a,cy,rfl,rfl,h1,h2⟩:=h;obtain ⟨k1,k2,k3⟩:=uB.get h2;refine ⟨by simp [k1],by simp [k2],fun i d' hd=>?_⟩
  cases i with
  | zero=>
   simp only [aaz,jf] at hd;subst hd;refine ⟨u,a,rfl,rfl,?_⟩;cases b with
   | nil=>exact h1
   | cons b0 bs=>exact h1
  | succ i=>
   simp only [aaZ] at hd;obtain ⟨u',a',e1,e2,e3⟩:=k3 i d' hd;refine ⟨u',a',by simpa using e1,by simpa using e2,?_⟩
   cases b with
   | nil=>exact e3
   | cons b0 bs=>exact e3
theorem aeO {w:World} {X:Bool->Nat->Prop} {d:D} {u:Value} {S:List (Nat × RT)} (h:gI w X S d u):eS d=false:=by
 rcases tI h with ⟨cs,us,rfl,rfl,h1⟩ | ⟨f,cs,us,rfl,rfl,h1⟩ | ⟨_,_,h1⟩
 ·simp only [eS,dq,List.any_eq_false];intro x hx;obtain ⟨i,hi⟩:=abe.1 hx;obtain ⟨v,_,hv⟩:=h1.get hi;cases x with
  | sl g s n cs=>cases g with
   | none=>simp [bD,Ext] at hv
   | some g=>simp [jg]
  | _=>simp [jg]
 ·simp [eS,dq,jg]
 ·cases d with
  | aZ cs=>simp [bD,Ext] at h1
  | agg cs=>simp [bD,Ext] at h1
  | aM cs=>simp [bD,Ext] at h1
  | sl g s n cs=>cases g with
   | none=>simp [bD,Ext] at h1
   | some g=>simp [eS,dq,jg]
  | _=>simp [eS,dq,jg]
theorem xF {w:World} {X X1:Bool->Nat->Prop} {b:Bool} {d:D} {u:Value} {a:Arg} (h:LD w X b d u a) (hs:bJ w X1 a.2):
  (eS d=true/\b=true/\ch d=ba a.2)∨(eS d=false/\uW a=[]/\∀ S X2,(∀ g k,X g k->X2 g k)->(∀ g k,X1 g k->X2 g k)->gI w X2 S d u):=by
 cases b with
 | false=>
  obtain ⟨rfl,h1⟩:=h;exact .inr ⟨aeO (h1 []),rfl,fun S X2 hx _=>Vv (fun g k hk=>⟨hx g k hk,rfl⟩) (h1 S)⟩
 | true=>
  have hc:=LI h hs;cases hr:eS d with
  | true=>exact .inl ⟨rfl,rfl,hc⟩
  | false=>
   right
   have hp:∀ cs,d≠.aZ cs:=by rintro cs rfl; simp [eS] at hr
   have hf:a.1=none/\fR d u a.2:=by cases d<;>first | exact h | exact absurd rfl (hp _)
   have p8:dq d=AD d:=sQ hs hf.2;have pe:(AD d).any jg=false:=by
    rw [<- p8];cases d<;>first | exact hr | exact absurd rfl (hp _)
   refine ⟨rfl,?_,fun S X2 _ hx=>zQ hf.2 (gd hx _ hs) pe⟩;have hl:ai a.2=[]:=by
    rw [og];simp only [List.flatten_eq_nil_iff,aam];rintro l ⟨t,ht,rfl⟩;cases t with
    | v d u=>rfl
    | own s n cap aa cs=>
     rw [<- qj hf.2] at pe;have:=List.any_eq_false.1 pe (T.own s n cap aa cs).er (by rw [eO]; exact aam.2 ⟨_,ht,rfl⟩)
     simp [T.er,jg] at this
   simp [uW,hf.1,hl]
theorem SA {w:World} {X X1:Bool->Nat->Prop}:∀ {b:List Bool} {ds:List D} {us:List Value} {as9:List Arg} (n i:Nat),uB w X b ds us as9->(∀ a∈as9,bJ w X1 a.2)->cM (mw n i ds as9)=bE as9
 | _,[],us,as9,n,i,h,_=>by obtain ⟨_,rfl⟩:=h; rfl
 | b,d::ds,us,as9,n,i,h,hs=>by
  obtain ⟨u,kG,a,cy,rfl,rfl,h1,h2⟩:=h;have ih:=SA (X1:=X1) n (i+1) h2 (fun a ha=>hs a (by simp [ha]))
  simp only [mw,bE];rcases xF h1 (hs a (by simp)) with ⟨h3,_⟩ | ⟨h3,h4,_⟩
  ·rw [if_pos h3];simp only [cM,ih];rfl
  ·rw [h3,h4]
   simpa using ih
theorem YB {w:World} {Y:Nat->Prop} {own:List Bool} {ds:List D} {us:List Value} {as9:List Arg} (uC:jT w Y own ds us as9) (n:Nat) {vs:Array Value} (Ex:∀ i u,us[i]?=some u->vs.getD i undef=u):
  Rel ⟨w,bE as9,Y,sV n 0 ds as9⟩ [] w (oc n 0 ds ⟨[],[],[],0⟩) [vs] (mw n 0 ds as9):=by
 obtain ⟨lU,eT,dg,dF⟩:=uC;obtain ⟨l1,l2,jG⟩:=uB.get lU;have eG:=SA n 0 lU dF;have hX:∀ b k,Lk w (bE as9) Y b k->ah ⟨w,bE as9,Y,sV n 0 ds as9⟩ w (mw n 0 ds as9) [] b k:=fun b k hk=>
  ⟨hk.1,by rw [eG]; exact hk.2.1,by simp [ai],fun hb=>.inl (hk.2.2 hb)⟩
 have Om:∀ (j:Nat) (d:D) (a:Arg),ds[j]?=some d->as9[j]?=some a->eS d=true->ch d=ba a.2:=fun j d a hd ha hr=>by
  obtain ⟨u,a',_,e2,e3⟩:=jG j d hd;rw [ha,jf] at e2;subst e2;rcases xF e3 (dF a (aak ha)) with ⟨_,_,h⟩ | ⟨h,_⟩
  ·exact h
  ·rw [h] at hr; simp at hr
 have db:Mem ⟨w,bE as9,Y,sV n 0 ds as9⟩ w (mw n 0 ds as9) []:=by
  refine ⟨by simpa [ai,eG] using eT,fun r R hr=>?_,by simp [bJ],fun k hk=>dg k (by simpa [ai,eG] using hk)⟩
  obtain ⟨j,d,a,h1,h2,h3,h4,rfl⟩:=zT n ds as9 0 hr;obtain ⟨u,a',_,e2,e3⟩:=jG j d h1;rw [h2,jf] at e2;subst e2;have hs:=gd hX _ (dF a (aak h2));refine ⟨?_,fun t ht=>?_⟩
  ·cases hb:a.1 with
   | none=>trivial
   | some b=>
    simp only;cases tN:own.getD j false with
    | false=>rw [tN] at e3; obtain ⟨rfl,_⟩:=e3; simp at hb
    | true=>
     rw [tN] at e3;by_cases hp:∃ cs,d=.aZ cs
     ·obtain ⟨cs,rfl⟩:=hp;obtain ⟨b',f1,_,_,_,f5⟩:=e3;rw [hb,jf] at f1;subst f1;exact f5
     ·have:a.1=none:=by cases d<;>first | exact e3.1 | exact absurd ⟨_,rfl⟩ hp
      rw [this] at hb; simp at hb
  ·have:=(cj _).1 hs t ht;cases t with
   | v d u=>exact .inl this
   | own s n cap aa cs=>exact this
 refine ⟨fun k=>?_,db,?_,⟨rfl,rfl,rfl,aav _,fun _ _ _=>rfl,fun k hk=>.inl (by simpa [ai,eG] using hk),fun r b vs' hm R hR=>?_⟩⟩
 ·rw [PR n ds as9 0 _ k l1 Om];cases lk (mw n 0 ds as9) k<;>rfl
 ·rw [(FF n ds 0 _).1];refine .cons (fun t=>?_) .nil;rw [PQ];by_cases ht:0<=t/\t < 0+ds.length
  ·rw [if_pos ht];have Sj:t < ds.length:=by omega
   rw [Nat.sub_zero,aaf Sj];simp only [OB,abV];obtain ⟨u,a,e1,e2,e3⟩:=jG t ds[t] (aaf Sj);rw [Ex t u e1];have hs:=dF a (aak e2);generalize hd:ds[t]=d at e3;have hdt:ds[t]?=some d:=by rw [aaf Sj,hd]
   rcases xF e3 hs with ⟨h1,hb,h2⟩ | ⟨h1,_,h2⟩
   ·have AE:=PS n ds as9 0 hdt e2 h1;rw [abn] at AE;rw [hb] at e3;by_cases hp:∃ cs,d=.aZ cs
    ·obtain ⟨cs,rfl⟩:=hp;obtain ⟨b,f1,f2,f3,f4,f5⟩:=e3;subst f4;intro R hR;rw [AE,jf] at hR;subst hR;exact ⟨fun _=>by simp [f1],fun b' off ha=>by simp only [bZ,f1,OB,jf,tE] at ha; obtain ⟨rfl,rfl⟩:=ha; rfl⟩
    ·have hf:a.1=none/\fR d u a.2:=by cases d<;>first | exact e3 | exact absurd ⟨_,rfl⟩ hp
     have hv:xE n t d=De (n+t) 0 d:=by
      have ajk:(dq d).any jg=true:=by cases d<;>first | exact h1 | exact absurd ⟨_,rfl⟩ hp
      have jW:∀ vs,d≠.aM vs:=by
       rintro vs rfl;obtain ⟨t0,q1,q2,_⟩:=hf.2;rw [q1] at hs;exact (sL ((cj _).1 hs t0 (by simp))).2.2 vs q2.symm
      have h1:xE n t d=Df (n+t) d:=by cases d<;>first | exact absurd ⟨_,rfl⟩ hp | simp [xE,ajk]
      rw [h1];cases d<;>first | rfl | exact absurd rfl (jW _)
     rw [hv];exact kV (zP db AE (A:=[]) (B:=[]) hf.2 (by simp))
   ·have hv:xE n t d=d:=by
     cases d with
     | aZ cs=>simp [eS] at h1
     | _=>simp only [xE]; rw [if_neg (by simpa [eS] using h1)]
    rw [hv];exact kV (h2 _ _ hX hX)
  ·rw [if_neg ht];exact mG _
 ·obtain ⟨j,d,a,h1,h2,h3,h4,h5,h6⟩:=zU n ds as9 0 hm;obtain ⟨j',d',a',g1,g2,g3,g4,rfl⟩:=zT n ds as9 0 hR;have:j'=j:=by omega
  subst this;rw [h2,jf] at g2;subst g2;exact ⟨h5.symm,fun _=>h6.symm⟩
theorem PU:∀ (ds:List D) (st:St),OC st ds=nt st (List.replicate ds.length true) ds
 | [],st=>rfl
 | d::ds,st=>by
  simp only [OC,aa7,abq,nt,List.headD_cons,if_true,List.tail_cons];cases En st d with
  | none=>rfl
  | some p=>obtain ⟨d',st'⟩:=p; simp only; rw [PU ds st']
section
variable {C:Ctx} {w w0:World} {aI:List (Array Value)}
theorem acr {X X1:Bool->Nat->Prop} (n:Nat):∀ {ds:List D} {own:List Bool} {us:List Value} {as9:List Arg} {i:Nat} {st:St} {S:List (Nat × RT)} {H:List T} {os:List D},uB w0 X own ds us as9->(∀ a∈as9,bJ w0 X1 a.2)->
  (∀ (j:Nat) (d:D) (a:Arg),ds[j]?=some d->as9[j]?=some a->eS d=true->(n+(i+j),a.1,ax a.2)∈C.P0)->pY n i ds st=some os->Rel C H w st aI S->
  ∃ (cy:List Arg) (S':List (Nat × RT)) (st':St),Rel C (cW cy++H) w st' aI S'/\mS w own os as9 cy/\jH S S'/\(cy.filterMap Prod.fst).Nodup/\(∀ r bk,lk S r=some ⟨some bk,[]⟩->bk∉cy.filterMap Prod.fst)/\∀ bk∈cy.filterMap Prod.fst,∃ r,lk S' r=some ⟨some bk,[]⟩:=by
 intro ds
 induction ds with
 | nil=>
  intro own us as9 i st S H os lU _ _ ho h;obtain ⟨_,rfl⟩:=lU;simp only [pY,jf] at ho;subst ho;exact ⟨[],S,st,h,⟨rfl,rfl⟩,jH.refl _,by simp,by simp,by simp⟩
 | cons d ds ih=>
  intro own us as9 i st S H os lU hs hP ho h;obtain ⟨u,kG,a,BI,rfl,rfl,h1,h2⟩:=lU;have rp:=hs a (by simp)
  have hP':∀ (j:Nat) (d':D) (a':Arg),ds[j]?=some d'->BI[j]?=some a'->eS d'=true->(n+(i+1+j),a'.1,ax a'.2)∈C.P0:=fun j d' a' e1 e2 e3=>by
   have:=hP (j+1) d' a' (by simpa using e1) (by simpa using e2) e3
   rwa [show i+(j+1)=i+1+j by omega] at this
  simp only [pY] at ho;have step:∀ (a':Arg) (S1:List (Nat × RT)) (aQ:St) (o:D) (qI:List D),os=o::qI->Rel C (a'.2++H) w aQ aI S1->pk w (own.headD false) o a a'->jH S S1->(∀ bk,a'.1=some bk->(∀ r0,lk S r0≠some ⟨some bk,[]⟩)/\∃ r,lk S1 r=some ⟨some bk,[]⟩)->pY n (i+1) ds aQ=some qI->
    ∃ (cy:List Arg) (S':List (Nat × RT)) (st':St),Rel C (cW cy++H) w st' aI S'/\mS w own os (a::BI) cy/\jH S S'/\(cy.filterMap Prod.fst).Nodup/\(∀ r bk,lk S r=some ⟨some bk,[]⟩->bk∉cy.filterMap Prod.fst)/\∀ bk∈cy.filterMap Prod.fst,∃ r,lk S' r=some ⟨some bk,[]⟩:=by
   intro a' S1 aQ o qI he hr hao YC xZ mH;subst he;obtain ⟨cy,S2,cu,b1,b2,b3,b4,b5,b6⟩:=ih h2 (fun a ha=>hs a (by simp [ha])) hP' mH hr
   refine ⟨a'::cy,S2,cu,?_,⟨o,qI,a',cy,rfl,rfl,hao,b2⟩,YC.trans b3,?_,fun r bk hr=>?_,fun bk vS=>?_⟩
   ·rw [ry,aay]; exact b1
   ·cases ha:a'.1 with
    | none=>simpa [ha] using b4
    | some bk=>
     simp only [abf,ha,abm];obtain ⟨_,r,e⟩:=xZ bk ha;exact ⟨b5 r bk e,b4⟩
   ·cases ha:a'.1 with
    | none=>simp only [abf,ha]; exact b5 r bk (YC.empty hr)
    | some Pt=>
     simp only [abf,ha,aap,not_or];exact ⟨fun e=>(xZ Pt ha).1 r (e▸hr),b5 r bk (YC.empty hr)⟩
   ·cases ha:a'.1 with
    | none=>simp only [abf,ha] at vS; exact b6 bk vS
    | some Pt=>
     simp only [abf,ha,aap] at vS;rcases vS with rfl | vS
     ·obtain ⟨_,r,e⟩:=xZ _ ha;exact ⟨r,b3.empty e⟩
     ·exact b6 bk vS
  have nothing:∀ qI,oY st (n+i) d=none->pY n (i+1) ds st=some qI->os=.undef::qI->_:=fun qI hv mH he=>
   step (none,[]) S st .undef qI he h (by
    cases hb:own.headD false with
    | false=>rfl
    | true=>
     rw [hb] at h1;have:a.1=none:=by
      by_cases hp:∃ cs,d=.aZ cs
      ·obtain ⟨cs,rfl⟩:=hp;simp [oY,eS] at hv
      ·cases d<;>first | exact h1.1 | exact absurd ⟨_,rfl⟩ hp
     exact ⟨this,rfl,.inl ⟨rfl,by simp⟩⟩) (jH.refl _) (by simp) mH
  split at ho
  ·rename_i hv;split at ho
   case h_2=>simp at ho
   rename_i qI mH;simp only [jf] at ho;exact nothing qI hv mH ho.symm
  ·rename_i v hv;split at ho
   case h_2=>simp at ho
   rename_i o aQ dH;split at ho
   case h_2=>simp at ho
   rename_i qI mH;simp only [jf] at ho;have hr:eS d=true:=by
    cases hr:eS d with
    | true=>rfl
    | false=>unfold oY at hv; rw [hr] at hv; simp at hv
   have Pc:=hP 0 d a rfl rfl hr;rw [aeH] at Pc;obtain ⟨hb,pL⟩:own.headD false=true/\ch d=ba a.2:=by
    rcases xF h1 rp with ⟨_,e1,e2⟩ | ⟨e,_⟩
    ·exact ⟨e1,e2⟩
    ·rw [hr] at e; simp at e
   rw [hb] at h1;unfold oY at hv;rw [hr,if_pos rfl] at hv;by_cases hp:∃ cs,d=.aZ cs
   ·obtain ⟨cs,rfl⟩:=hp;simp only [jf] at hv;subst hv;obtain ⟨b,f1,f2,f3,f4,f5⟩:=h1;have hd:cx w (ah C w S H) S (.ptr (n+i) [] 0) (.pointer (some ⟨b,0,none⟩)):=by
     intro R hR;obtain ⟨g1,_⟩:=h.kept.par _ _ _ Pc R hR;rw [f1] at g1;exact ⟨fun _=>by rw [g1]; rfl,fun b' off ha=>by simp only [bZ,g1,OB,jf,tE] at ha; obtain ⟨rfl,rfl⟩:=ha; rfl⟩
    obtain ⟨a',S1,k1,k2,k3,k4,k5,k6⟩:=Pr h hd dH;obtain ⟨cs',rfl⟩:∃ cs',o=.aZ cs':=by
     simp only [En] at dH;split at dH
     ·simp only [jf,tE] at dH;exact ⟨_,dH.1.symm⟩
     ·simp at dH
    obtain ⟨r,b',m1,m2,m3,m4,m5,m6,m7⟩:=k2;simp only [Value.pointer.injEq,jf,Addr.mk.injEq,and_true] at m6;subst m6;refine step a' S1 aQ (.aZ cs') qI ho.symm k1 ?_ k4 (fun bk e=>?_) mH
    ·rw [hb];exact ⟨by rw [m2,f1],⟨b,f1,m7⟩,m5⟩
    ·rw [m2,jf] at e;subst e;exact ⟨k6 _ m2,r,m3⟩
   ·have Br:a.1=none:=by cases d<;>first | exact h1.1 | exact absurd ⟨_,rfl⟩ hp
    obtain ⟨R,hR,u',hvt,hI,p8⟩:∃ R,lk S (n+i)=some R/\∃ u',cx w (ah C w S H) S v u'/\hL v u'=ax R.cs/\((∃ cs,d=.agg cs)↔∃ cs,v=.agg cs):=by
     by_cases ew:∃ cs,d=.agg cs
     ·obtain ⟨cs,rfl⟩:=ew;simp only at hv;split at hv
      case h_2=>simp at hv
      rename_i cs1 gT;simp only [jf] at hv;subst hv;rw [h.rt] at gT;cases hR:lk S (n+i) with
      | none=>rw [hR] at gT; simp at gT
      | some R=>
       rw [hR] at gT;simp only [OB,jf] at gT;subst gT;refine ⟨R,rfl,.agg (ax R.cs).toArray,⟨_,rfl,?_⟩,rfl,by simp⟩
       refine du (by rw [qA,fu]; simp [bV]) (fun j x y hx hy=>?_)
       rw [oq,iL] at hx;simp only [fq] at hy;cases hi:R.cs[j]? with
       | none=>simp [hi] at hx
       | some t=>
        simp only [hi,OB,jf,abn] at hx hy;subst hx; subst hy;exact qz h.mem hR rfl hi
     ·have lV:(match lk st.rt (n+i) with | some [d']=>some (gP (n+i) [] 0 d') | _=>none)=some v:=by
       cases d<;>first | exact hv | exact absurd ⟨_,rfl⟩ hp | exact absurd ⟨_,rfl⟩ ew
      split at lV
      case h_2=>simp at lV
      rename_i d' gT;simp only [jf] at lV;subst lV;rw [h.rt] at gT;cases hR:lk S (n+i) with
      | none=>rw [hR] at gT; simp at gT
      | some R=>
       rw [hR] at gT;simp only [OB,jf] at gT;obtain ⟨t,ht⟩:∃ t,R.cs=[t]:=by
        match hx:R.cs with
        | []=>rw [hx] at gT; simp [ba] at gT
        | [t]=>exact ⟨t,rfl⟩
        | t1::t2::ts=>rw [hx] at gT; simp [ba] at gT
       rw [ht] at gT;simp only [ba,aaF,and_true] at gT;subst gT;have TJ:=qz h.mem hR (q:=[]) (o:=0) (t:=t) rfl (by rw [ht]; rfl)
       have hna:∀ cs,gP (n+i) [] 0 t.er≠.agg cs:=by
        intro cs e;rw [e] at TJ;simp [bD,Ext] at TJ
       refine ⟨R,rfl,t.val,mN TJ,?_,?_⟩
       ·have:∀ x,(∀ cs,x≠.agg cs)->hL x t.val=[t.val]:=fun x hx=>by cases x<;>first | rfl | exact absurd rfl (hx _)
        rw [this _ hna,ht]; rfl
       ·exact ⟨fun ⟨cs,e⟩=>absurd ⟨cs,e⟩ ew,fun ⟨cs,e⟩=>absurd e (hna cs)⟩
    obtain ⟨g1,g2⟩:=h.kept.par _ _ _ Pc R hR;have g2:=g2 Br;obtain ⟨a',S1,k1,k2,k3,k4,k5,k6⟩:=Pr h hvt dH;have hvp:∀ r,v≠.ptr r [] 0:=by
     rintro r rfl;by_cases ew:∃ cs,d=.agg cs
     ·obtain ⟨cs,e⟩:=p8.1 ew; simp at e
     ·have lV:(match lk st.rt (n+i) with | some [d']=>some (gP (n+i) [] 0 d') | _=>none)=some (D.ptr r [] 0):=by
       cases d<;>first | exact hv | exact absurd ⟨_,rfl⟩ hp | exact absurd ⟨_,rfl⟩ ew
      have hx:=hvt R;split at lV
      case h_2=>simp at lV
      rename_i d' gT;simp only [jf] at lV;rw [h.rt,hR] at gT;simp only [OB,jf] at gT;obtain ⟨t,ht⟩:∃ t,R.cs=[t]:=by
       match hx:R.cs with
       | []=>rw [hx] at gT; simp [ba] at gT
       | [t]=>exact ⟨t,rfl⟩
       | t1::t2::ts=>rw [hx] at gT; simp [ba] at gT
      rw [ht] at gT;simp only [ba,aaF,and_true] at gT;have cS:=(h.mem.root _ R hR).2 t (by rw [ht]; simp)
      rw [g1,Br] at cS;cases t with
      | own s n cap aa cs=>rw [<- gT] at lV; simp [T.er,gP] at lV
      | v d0 u0=>
       rcases cS with cS | ⟨cS,_⟩
       ·rw [<- gT] at lV;simp only [T.er] at lV;cases hl:bS d0 with
        | ptr r' q' o'=>rw [hl] at cS; simp [Ext] at cS
        | sl g s n cs=>rw [hl] at lV; cases g<;>simp [gP] at lV
        | _=>rw [hl] at lV; simp [gP] at lV
       ·simp at cS
    have aeP:∀ cs,o≠.aZ cs:=by
     rintro cs rfl;obtain ⟨r,b,e,_⟩:=k2;exact hvp r e
    have ey:a'.1=none/\fR o u' a'.2/\ax a'.2=hL v u'/\((∃ cs,o=.agg cs)↔∃ cs,v=.agg cs):=by
     cases o<;>first | exact ⟨k2.1,k2.2.1,k2.2.2.1,k2.2.2.2.2.1⟩ | exact absurd rfl (aeP _)
    have hvv:ax a'.2=ax a.2:=by rw [ey.2.2.1,hI,g2]
    refine step a' S1 aQ o qI ho.symm k1 ?_ k4 (fun bk e=>by rw [ey.1] at e; simp at e) mH
    rw [hb];by_cases ew:∃ cs,o=.agg cs
    ·obtain ⟨cs,rfl⟩:=ew;exact ⟨Br,ey.1,ey.2.1.1,hvv⟩
    ·have hf:∃ t,a'.2=[t]/\o=t.er/\u'=t.val:=by
      have:=ey.2.1;cases o<;>first | exact this | exact absurd ⟨_,rfl⟩ ew
     obtain ⟨t,q1,q2,q3⟩:=hf;have:∀ x,(∀ cs,x≠.aZ cs)->(∀ cs,x≠.agg cs)->x=t.er->pk w true x a a':=fun x BH GV e=>by
      cases x<;>first | exact ⟨Br,ey.1,.inr ⟨t,q1,e,by rw [<- q1]; exact hvv⟩⟩ | exact absurd rfl (BH _) | exact absurd rfl (GV _)
     exact this o aeP (fun cs e=>ew ⟨cs,e⟩) q2
end
theorem ER {w:World} {S:List (Nat × RT)} {X:Bool->Nat->Prop}:∀ {b:List Bool} {ds gG:List D} {us:List Value} {as9:List Arg},(∀ i,i < ds.length->b.getD i false=true)->tO w S b ds gG us as9->(∀ d∈gG,∀ cs,d≠.aZ cs)->tP gG us (cZ as9)/\as9.filterMap Prod.fst=[]
 | _,[],gG,us,as9,_,h,_=>by obtain ⟨rfl,rfl,rfl⟩:=h; exact ⟨⟨rfl,rfl⟩,rfl⟩
 | b,d::ds,gG,us,as9,hb,h,hp=>by
  obtain ⟨d1,zO,u,kG,a,cy,rfl,rfl,rfl,h1,h2⟩:=h;have Ha:b.headD false=true:=by have:=hb 0 (by simp); (cases b with | nil=>simp at this | cons x xs=>simpa using this)
  rw [Ha] at h1;obtain ⟨k1,k2⟩:=ER (X:=X) (b:=b.tail) (fun i hi=>by
   have:=hb (i+1) (by simpa using hi)
   (cases b with | nil=>simp at this | cons x xs=>simpa using this)) h2 (fun d hd=>hp d (by simp [hd]))
  have hn:=hp d1 (by simp)
  have h3:a.1=none/\fR d1 u a.2:=by cases d1<;>first | exact ⟨h1.1,h1.2.1⟩ | exact absurd rfl (hn _)
  exact ⟨⟨u,kG,a.2,cZ cy,rfl,by simp [cZ],h3.2,k1⟩,by simp only [abf,h3.1,k2]⟩
theorem acs {ds:List D} (h:dG (.aM ds)=true):∀ d∈ds,∀ cs,d≠.aZ cs:=by
 rintro d hd cs rfl;simp only [dG,ch,xD,List.all_flatMap,aac] at h;have:=h _ hd;simp [AD,fD] at this
section
variable {P:Program} {c:cA} (aw:eu c P) {cl:FuncId→List D→Option (D × List D)} {ci:FuncId→List D→Nat→St→Option (D × St)}
  (kv:lP P c.own cl) (mv:sT P ci) (sU:P.follows .mixedOrders=true)
  (tt : ∀ (f : FuncId) (fn : Func) (body : Code), P.funcs[f]? = some fn → fn.body = some body → lZ fn.ntmps body = true ∧ (fn.name == "runtime.NumGoroutine") = false)
  (sX:∀ f e ds r outs,c.ext f=some e→e ds=some (r,outs)→kK P f∧∀ (w:World) (Y:Nat→Prop) (us:Array Value) (as9:List Arg),jT w Y (c.own f) ds us.toList as9→dG r=true→(∀ o∈outs,dG o=true)→
    Calls P f us w fun e w'=>∃ v,e=.returned v∧fw w w' Y (c.own f) as9 r outs v)
include aw kv mv sU tt sX
theorem TK (K:Nat) {f:FuncId} {ds:List D} {r:D} {outs:List D} (cX:c.ext f=none) (cY:Oh c P cl ci K f ds=some (r,outs)):kK P f/\∀ (w:World) (Y:Nat->Prop) (us:Array Value) (as9:List Arg),jT w Y (c.own f) ds us.toList as9->dG r=true->
  Calls P f us w fun e w'=>∃ v,e=.returned v/\fw w w' Y (c.own f) as9 r outs v:=by
 have _:=sX;unfold Oh at cY;rw [cX] at cY;simp only at cY;split at cY
 case h_2=>simp at cY
 rename_i fn vT;split at cY
 case h_2=>simp at cY
 rename_i body tu;split at cY
 case h_2=>simp at cY
 rename_i x aQ TL;split at cY
 case isFalse=>simp at cY
 rename_i hx;simp only [Bh] at hx;split at cY
 case h_2=>simp at cY
 rename_i rs PG;split at cY
 case h_2=>simp at cY
 rename_i Hc cu dH;split at cY
 case h_2=>simp at cY
 rename_i os mH;simp only [jf,tE] at cY;obtain ⟨rfl,rfl⟩:=cY;obtain ⟨hf1,hf2⟩:=tt f fn body vT tu;refine ⟨⟨fn,vT,hf2,by rw [tu]; rfl⟩,fun w Y us as9 uC YD=>?_⟩
 have TM:=hx.2;simp only [vF,Bh,decide_eq_true_eq] at TM;obtain ⟨l1,l2,jG⟩:=uB.get uC.args;have hlen:us.size=ds.length:=by rw [<- l2]; simp
 refine calls_of_wp vT tu ?_;have Ex:∀ i u,us.toList[i]?=some u->(us++Array.replicate (fn.ntmps - us.size) undef).getD i undef=u:=fun i u hi=>by
  have hi2:us[i]?=some u:=by simpa using hi
  rw [aaY,abJ (abK.1 hi2).1,hi2];rfl
 have YE:=YB uC fn.ntmps Ex;refine Sx aw kv mv sU (fun L B w st st' vs S h1 h2 h3=>Sz h1 h2 h3) (n:=fn.ntmps) body 0 TL YE (by simp; omega) rfl hf1 ?_ ?_
 ·rw [(FF fn.ntmps ds 0 _).2];rintro ⟨r,b,adX⟩ hp;obtain ⟨j,d,a,h1,_,_,h4,_⟩:=zU fn.ntmps ds as9 0 hp;have hj:=(aaa.1 h1).1;exact ⟨by simp only; omega,fun t ht=>by simp only; omega⟩
 ·intro a' w' S' hM cU YF _;obtain ⟨vs,eB,hI⟩:=Hb aw hM PG;rw [PU] at dH;obtain ⟨ar,S2,a1,a2,a3,a4,a5,a6,a7⟩:=G0 hM hI dH;rw [aah] at a1 a3;obtain ⟨cy,S3,Eo,b1,b2,b3,b4,b5,b6⟩:=acr fn.ntmps uC.args uC.sat (fun j d a h1 h2 h3=>PT fn.ntmps ds as9 0 h1 h2 h3) mH a1;have agQ:∀ i,i < rs.length->(List.replicate rs.length true).getD i false=true:=fun i hi=>by
   rw [abi,List.getElem?_replicate,if_pos hi]; rfl
  have TN:∀ bk∈ar.filterMap Prod.fst,∃ r,lk S2 r=some ⟨some bk,[]⟩:=fun bk hb=>by
   obtain ⟨r,R,e1,e2,e3⟩:=uX a2 bk hb;refine ⟨r,?_⟩;rw [e1];cases R;simp only at e2 e3;rw [e2,e3]
  have hk:=b1.kept;have ajl:w.heap.size<=w'.heap.size:=hk.size;have aeS:=b1.mem.nd;have hF:∀ k,k∈bE ar++bE cy->k∈cM S3++ai (cW cy++cW ar):=fun k hk=>by
   rw [bd];rcases tD.1 hk with h1 | h1
   ·rcases ld.1 h1 with h2 | h2
    ·obtain ⟨r,e⟩:=TN k h2;exact tD.2 (.inl (kP (b3.empty e) (by simp [RT.ft])))
    ·simp [h2]
   ·rcases ld.1 h1 with h2 | h2
    ·obtain ⟨r,e⟩:=b6 k h2;exact tD.2 (.inl (kP e (by simp [RT.ft])))
    ·simp [h2]
  have eT:(bE ar++bE cy).Nodup:=by
   have p1:(bE ar++bE cy).Perm ((ar.filterMap Prod.fst++cy.filterMap Prod.fst)++(ai (cW ar)++ai (cW cy))):=by
    refine ((jN ar).append (jN cy)).trans ?_;refine abl.2 fun x=>?_;have h1:=abl.1 (oA ar) x;have h2:=abl.1 (oA cy) x;simp only [abD];omega
   refine p1.nodup_iff.2 ?_;rw [bd,yq] at aeS;obtain ⟨hS,hH,hSH⟩:=aeS;rw [yq] at hH;rw [yq];refine ⟨?_,?_,?_⟩
   ·rw [yq];refine ⟨a6,b4,fun x hx y hy e=>?_⟩;subst e;obtain ⟨r,e⟩:=TN x hx;exact b5 r x e hy
   ·rw [yq];exact ⟨hH.2.1,hH.1,fun x hx y hy e=>hH.2.2 y hy x hx e.symm⟩
   ·intro x hx y hy e;subst e;have hxS:x∈cM S3:=by
     rcases tD.1 hx with h1 | h1
     ·obtain ⟨r,e⟩:=TN x h1;exact kP (b3.empty e) (by simp [RT.ft])
     ·obtain ⟨r,e⟩:=b6 x h1;exact kP e (by simp [RT.ft])
    refine hSH x hxS x ?_ rfl;rcases tD.1 hy with h1 | h1<;>simp [h1]
  have dg:∀ k∈bE ar++bE cy,k < w'.heap.size/\(k∈bE as9∨w.heap.size<=k):=fun k hk=>⟨b1.mem.lt k (hF k hk),b1.kept.iQ k (hF k hk)⟩;have hX:∀ b k,ah ⟨w,bE as9,Y,sV fn.ntmps 0 ds as9⟩ w' S3 (cW cy++cW ar) b k->Lk w' (bE ar++bE cy) (fun k=>Y k∨k∈bE as9∨w.heap.size<=k) b k:=by
   intro b k hk;refine ⟨hk.1,fun h1=>?_,hk.2.2.2⟩;rcases tD.1 (hF k h1) with h2 | h2
   ·exact hk.2.1 h2
   ·exact hk.2.2.1 h2
  have dv:=(ea _ _).1 b1.mem.hand;have TO:∀ a∈ar,bJ w' (fun b k=>Lk w' (bE ar++bE cy) (fun k=>Y k∨k∈bE as9∨w.heap.size<=k) b k) a.2:=fun a ha=>gd hX _ (vR.1 dv.2 a ha);have agR:∀ a∈cy,bJ w' (fun b k=>Lk w' (bE ar++bE cy) (fun k=>Y k∨k∈bE as9∨w.heap.size<=k) b k) a.2:=fun a ha=>gd hX _ (vR.1 dv.1 a ha);obtain ⟨fc,GR,EE,hr3⟩:∃ fc,LF (oZ Hc) (vV vs) fc/\(ai fc).Perm (bE ar)/\bJ w' (fun b k=>Lk w' (bE ar++bE cy) (fun k=>Y k∨k∈bE as9∨w.heap.size<=k) b k) fc:=by
   by_cases hp:∃ cs,oZ Hc=.aZ cs
   ·obtain ⟨cs,hp⟩:=hp;have ajm:Hc=[.aZ cs]:=by
     match Hc,hp with
     | [d],hp=>simp only [oZ] at hp; rw [hp]
     | [],hp=>simp [oZ] at hp
     | _::_::_,hp=>simp [oZ] at hp
    subst ajm
    match rs,a2 with
    | [],a2=>obtain ⟨e,_⟩:=a2; simp at e
    | d::ds',a2=>
     obtain ⟨d1,zO,u,kG,a,ar',e1,e2,e3,h1,h2⟩:=a2;simp only [aaF] at e1;obtain ⟨rfl,rfl⟩:=e1;have aeT:ds'=[]/\kG=[]/\ar'=[]:=by
      match ds',h2 with
      | [],h2=>obtain ⟨_,h3,h4⟩:=h2; exact ⟨rfl,h3,h4⟩
      | _::_,h2=>obtain ⟨_,_,_,_,_,_,e,_⟩:=h2; simp at e
     obtain ⟨rfl,rfl,rfl⟩:=aeT;subst e2; subst e3;simp only [aa7,abq,List.headD_cons] at h1;obtain ⟨r,b,_,m2,m3,m4,m5,m6,m7⟩:=h1;refine ⟨[sO b a.2],⟨b,a.2,rfl,m5,m6⟩,?_,?_⟩
     ·have:bE [a]=b::ai a.2:=by simp [bE,uW,m2]
      rw [this];simp [ai,sO,T.ft,fG]
     ·simp only [bJ,sO,bI,Nat.one_mul,and_true];exact ⟨⟨aav _,by omega⟩,trivial,m7,TO a (by simp)⟩
   ·have hnp:∀ d∈Hc,∀ cs,d≠.aZ cs:=by
     match hrs:Hc with
     | []=>simp
     | [d]=>
      intro d' tH cs e;simp only [abk] at tH;subst tH;exact hp ⟨cs,e⟩
     | d1::d2::uE=>exact acs YD
    obtain ⟨q1,q2⟩:=ER (X:=fun _ _=>True) agQ a2 hnp;refine ⟨cZ ar,?_,?_,yc.2 TO⟩
    ·match Hc,q1,hp with
     | [],q1,_=>obtain ⟨e1,e2⟩:=q1; subst e1; exact ⟨#[],rfl,rfl,e2⟩
     | [d],q1,hp=>
      obtain ⟨u,kG,t1,t2,e1,e2,h1,h2⟩:=q1;obtain ⟨rfl,rfl⟩:=h2;subst e1;rw [aah] at e2;subst e2;simp only [oZ,vV];have jW:∀ vs,d≠.aM vs:=by
       rintro vs rfl;obtain ⟨t,k1,k2,_⟩:=h1;have:=yc.2 TO;rw [k1] at this;exact (sL ((cj _).1 this t (by simp))).2.2 vs k2.symm
      cases d<;>first | exact h1 | exact absurd ⟨_,rfl⟩ hp | exact absurd rfl (jW _)
     | d1::d2::uE,q1,_=>
      obtain ⟨u1,Pw,t1,t1',e1,e2,h1,h2⟩:=q1;obtain ⟨u2,us2,t2,t2',e3,e4,h3,h4⟩:=h2;subst e1; subst e3;simp only [oZ,vV];exact ⟨_,rfl,u1,_,t1,t1',rfl,e2,h1,u2,us2,t2,t2',rfl,e4,h3,h4⟩
    ·have:=jN ar;rw [q2,aaq] at this;exact this.symm
  have hXr:(fun b k=>Lk w' (bE ar++bE cy) (fun k=>Y k∨k∈bE as9∨w.heap.size<=k) b k)=fun b k=>Lk w' (ai fc++bE cy) (fun k=>Y k∨k∈bE as9∨w.heap.size<=k) b k:=by
   funext b k;simp only [Lk,tD,EE.mem_iff]
  have TF:fw w w' Y (c.own f) as9 (oZ Hc) os (vV vs):=by
   refine ⟨ajl,fun k h1 h2=>hk.block k h1 h2,hk.os,hk.tape,hk.output,fc,cy,GR,b2,?_,fun k hk=>dg k ?_,?_,?_⟩
   ·exact (List.Perm.append_right _ EE).nodup_iff.2 eT
   ·rcases tD.1 hk with h1 | h1
    ·exact tD.2 (.inl (EE.mem_iff.1 h1))
    ·exact tD.2 (.inr h1)
   ·rw [<- hXr]; exact hr3
   ·rw [<- hXr]; exact agR
  have pn:bodyPost P fn (fun e w'=>∃ v,e=.returned v/\fw w w' Y (c.own f) as9 (oZ Hc) os v) .normal a' w':=⟨YF,vV vs,eB,vV vs,rfl,TF⟩;cases x with
  | normal=>exact pn
  | ret=>exact pn
  | _=>simp [vE] at hx
end
theorem VQ {a2 a1:List Arg}:∀ {x2 x1:List Arg},x2.length=x1.length->(∀ (i:Nat) (p q:Arg),x2[i]?=some p->x1[i]?=some q->p=q∨p=(none,[]))->(bE x2).Sublist (bE x1)
 | [],[],_,_=>.slnil
 | [],_::_,h,_=>by simp at h
 | _::_,[],h,_=>by simp at h
 | p::x2,q::x1,h,hh=>by
  have ih:=VQ (a2:=a2) (a1:=a1) (x2:=x2) (x1:=x1) (by simpa using h) (fun i p q h1 h2=>hh (i+1) p q (by simpa using h1) (by simpa using h2))
  simp only [bE];rcases hh 0 p q rfl rfl with rfl | rfl
  ·exact (abj _).append ih
  ·exact ih.trans (aek _ _)
theorem vW {w':World}:∀ {g b:List Bool} {os:List D} {x x1:List Arg},mS w' b os x x1->∃ x2:List Arg,mS w' b (forget g os) x x2/\x2.length=x1.length/\∀ (i:Nat) (p q:Arg),x2[i]?=some p->x1[i]?=some q->p=q∨p=(none,[])
 | g,b,os,[],x1,h=>by
  obtain ⟨rfl,rfl⟩:=h;refine ⟨[],⟨?_,rfl⟩,rfl,by simp⟩
  cases g with
  | nil=>rfl
  | cons c g=>cases c<;>rfl
 | g,b,os,a::x,x1,h=>by
  obtain ⟨o,yD,a',x1',rfl,rfl,h1,h2⟩:=h;have nY:∀ g',forget g (o::yD)=o::forget g' yD->∃ x2:List Arg,mS w' b (forget g (o::yD)) (a::x) x2/\x2.length=(a'::x1').length/\∀ (i:Nat) (p q:Arg),x2[i]?=some p->(a'::x1')[i]?=some q->p=q∨p=(none,[]):=by
   intro g' e;obtain ⟨x2,k1,k2,k3⟩:=vW (g:=g') h2;refine ⟨a'::x2,⟨o,forget g' yD,a',x2,e,rfl,h1,k1⟩,by simp [k2],fun i p q hp hq=>?_⟩
   cases i with
   | zero=>simp at hp hq; subst hp; subst hq; exact .inl rfl
   | succ i=>exact k3 i p q (by simpa using hp) (by simpa using hq)
  cases g with
  | nil=>exact nY [] rfl
  | cons c g=>
   cases c with
   | false=>exact nY g rfl
   | true=>
    by_cases hb:∃ cs,o=.aZ cs
    ·obtain ⟨cs,rfl⟩:=hb;exact nY g rfl
    ·obtain ⟨x2,k1,k2,k3⟩:=vW (g:=g) h2;have e:forget (true::g) (o::yD)=.undef::forget g yD:=by
      cases o<;>first | rfl | exact absurd ⟨_,rfl⟩ hb
     have ha:pk w' (b.headD false) .undef a (none,[]):=by
      cases tN:b.headD false with
      | false=>rfl
      | true=>
       rw [tN] at h1;have:a.1=none:=by cases o<;>first | exact h1.1 | exact absurd ⟨_,rfl⟩ hb
       exact ⟨this,rfl,.inl ⟨rfl,by simp⟩⟩
     refine ⟨(none,[])::x2,⟨.undef,forget g yD,(none,[]),x2,e,rfl,ha,k1⟩,by simp [k2],fun i p q hp hq=>?_⟩
     cases i with
     | zero=>simp at hp; subst hp; exact .inr rfl
     | succ i=>exact k3 i p q (by simpa using hp) (by simpa using hq)
theorem Hd {w w':World} {Y:Nat->Prop} {own g:List Bool} {x:List Arg} {r:D} {outs:List D} {v:Value} (h:fw w w' Y own x r outs v):fw w w' Y own x r (forget g outs) v:=by
 obtain ⟨fc,x1,r1,r2,r3,r4,r5,r6⟩:=h.res;obtain ⟨x2,k1,k2,k3⟩:=vW (g:=g) r2;have hs:=VQ (a2:=x2) (a1:=x1) k2 k3;have tM:=(abj (ai fc)).append hs;have hX:∀ b k,Lk w' (ai fc++bE x1) (fun k=>Y k∨k∈bE x∨w.heap.size<=k) b k->Lk w' (ai fc++bE x2) (fun k=>Y k∨k∈bE x∨w.heap.size<=k) b k:=fun b k hk=>⟨hk.1,fun h1=>hk.2.1 (tM.subset h1),hk.2.2⟩;refine ⟨h.sz,h.bY,h.os,h.tape,h.out,fc,x2,r1,k1,r3.sublist tM,fun k hk=>r4 k (tM.subset hk),gd hX _ r5,fun p hp=>?_⟩;obtain ⟨i,hi⟩:=List.getElem?_of_mem hp;have dg:i < x1.length:=by rw [<- k2]; exact (aaa.1 hi).1
 rcases k3 i p x1[i] hi (aaf dg) with e | e
 ·rw [e];exact gd hX _ (r6 _ (aan dg))
 ·rw [e]
  trivial
section
variable {P:Program} {c:cA} (aw:eu c P) {cl:FuncId→List D→Option (D × List D)} {ci:FuncId→List D→Nat→St→Option (D × St)}
  (kv:lP P c.own cl) (mv:sT P ci) (sU:P.follows .mixedOrders=true)
  (tt : ∀ (f : FuncId) (fn : Func) (body : Code), P.funcs[f]? = some fn → fn.body = some body → lZ fn.ntmps body = true ∧ (fn.name == "runtime.NumGoroutine") = false)
  (sX:∀ f e ds r outs,c.ext f=some e→e ds=some (r,outs)→kK P f∧∀ (w:World) (Y:Nat→Prop) (us:Array Value) (as9:List Arg),jT w Y (c.own f) ds us.toList as9→dG r=true→(∀ o∈outs,dG o=true)→
    Calls P f us w fun e w'=>∃ v,e=.returned v∧fw w w' Y (c.own f) as9 r outs v)
include aw kv mv sU tt sX
theorem TP (K:Nat):lP P c.own (zC c P cl ci K):=by
 intro f ds r outs cY;unfold zC at cY;split at cY
 ·rename_i e he;exact sX f e ds r outs he cY
 rename_i cX;unfold UO at cY;split at cY
 case h_2=>simp at cY
 rename_i r' os hS;simp only [jf,tE] at cY;obtain ⟨rfl,rfl⟩:=cY;obtain ⟨h1,h2⟩:=TK aw kv mv sU tt sX K cX hS;refine ⟨h1,fun w Y us az uC YD _=>(h2 w Y us az uC YD).mono fun e w' hh=>?_⟩;obtain ⟨v,e1,e2⟩:=hh;exact ⟨v,e1,Hd e2⟩
end
theorem LR:∀ (ds:List D) (i t:Nat),lk (yu i ds) t=if i<=t then ds[t - i]? else none
 | [],i,t=>by simp [yu,lk]
 | d::ds,i,t=>by
  simp only [yu,lk];by_cases h:i=t
  ·subst h; simp
  ·rw [if_neg h,LR ds (i+1) t];by_cases h2:i+1<=t
   ·rw [if_pos h2,if_pos (by omega)]
    have:t - i=(t - (i+1))+1:=by omega
    rw [this,aaZ]
   ·rw [if_neg h2,if_neg (by omega)]
section
variable {P:Program} {c:cA} (aw:eu c P) (sU:P.follows .mixedOrders=true)
  (tt : ∀ (f : FuncId) (fn : Func) (body : Code), P.funcs[f]? = some fn → fn.body = some body → lZ fn.ntmps body = true ∧ (fn.name == "runtime.NumGoroutine") = false)
include aw sU tt
theorem VR {cl:FuncId->List D->Option (D × List D)} {ci:FuncId->List D->Nat->St->Option (D × St)} (kv:lP P c.own cl) (mv:sT P ci) (K:Nat):sT P (XP c P cl ci K):=by
 intro f args EL st d st' cY;unfold XP at cY;split at cY
 case h_2=>simp at cY
 rename_i fn vT;split at cY
 case h_2=>simp at cY
 rename_i body tu;split at cY
 case h_2=>simp at cY
 rename_i x aQ TL;split at cY
 case isFalse=>simp at cY
 rename_i hx;simp only [Bh] at hx;split at cY
 case h_2=>simp at cY
 rename_i rs tm up PG OV;split at cY
 case isFalse=>simp at cY
 rename_i hnt;simp only [jf,tE] at cY;obtain ⟨rfl,rfl⟩:=cY;obtain ⟨hf1,hf2⟩:=tt f fn body vT tu;refine ⟨⟨fn,vT,hf2,by rw [tu]; rfl⟩,fun C Hx w aI S us hM cX gQ hP aoE=>?_⟩
 have TM:=hx.2;simp only [vF,Bh,decide_eq_true_eq] at TM;have hlen:us.size=args.length:=by rw [gQ.len]; simp
 refine calls_of_wp vT tu ?_;have YE:Rel C Hx w ⟨yu 0 args,st.rt,st.tm::st.up,EL⟩ ((us++Array.replicate (fn.ntmps - us.size) undef)::aI) S:=by
  refine ⟨hM.rt,hM.mem,.cons (fun t=>?_) hM.pd,hM.kept⟩;rw [LR];simp only [aa9,if_true,Nat.sub_zero];cases ht:args[t]? with
  | none=>exact mG _
  | some d=>
   obtain ⟨u,h1,h2⟩:=gQ.get ht;have h3:us[t]?=some u:=by simpa using h1
   rw [aaY,abJ (abK.1 h3).1,h3];exact h2
 refine Sx aw kv mv sU (fun L B w st vs st' S h1 h2 h3=>Sz h1 h2 h3) (n:=fn.ntmps) body 0 TL YE (by simp; omega) rfl hf1 (fun p hp=>⟨hP p hp,fun t _=>by have:=hP p hp; simp only; omega⟩) ?_
 intro a' w' S' He cU YF qG;obtain ⟨vs,eB,hI⟩:=Hb aw He PG;have aeU:=He.pd;rw [OV] at aeU;have pn:bodyPost P fn (fun e w'=>∃ v,e=.returned v/\∃ S',Rel C Hx w' ⟨tm,aQ.rt,up,st.of⟩ aI S'/\cx w' (ah C w' S' Hx) S' (oZ rs) v/\(⟨tm,aQ.rt,up,st.of⟩:St).of=st.of) .normal a' w':=by
  refine ⟨YF,vV vs,eB,vV vs,rfl,S',⟨He.rt,He.mem,?_,He.kept⟩,?_,rfl⟩
  ·cases aeU with
   | cons _ h2=>exact h2
  ·cases hI with
   | nil=>exact ⟨#[],rfl,.nil⟩
   | cons h1 h2=>
    cases h2 with
    | nil=>exact h1
    | cons h3 h4=>
     refine ⟨_,rfl,?_⟩;have dR:∀ {ds:List D} {us:List Value},cm (cx w' (ah C w' S' Hx) S') ds us->ds.all Tf=true->cm (gI w' (ah C w' S' Hx) S') ds us:=by
      intro ds us h
      induction h with
      | nil=>intro _; exact .nil
      | cons k1 _ ih=>
       intro hn;simp only [UL,Bh] at hn;refine .cons ?_ (ih hn.2);rcases xm k1 with ⟨ds,us,rfl,_⟩ | ⟨_,k1⟩
       ·simp [Tf] at hn
       ·exact k1
     exact dR (.cons h1 (.cons h3 h4)) hnt
 cases x with
 | normal=>exact pn
 | ret=>exact pn
 | _=>simp [vE] at hx
theorem PV (sX:∀ f e ds r outs,c.ext f=some e->e ds=some (r,outs)->kK P f/\∀ (w:World) (Y:Nat->Prop) (us:Array Value) (as9:List Arg),jT w Y (c.own f) ds us.toList as9->dG r=true->(∀ o∈outs,dG o=true)->
   Calls P f us w fun e w'=>∃ v,e=.returned v/\fw w w' Y (c.own f) as9 r outs v):
  ∀ k,lP P c.own (od c P k).1/\sT P (od c P k).2
 | 0=>⟨fun f ds r outs h=>by simp [od] at h,fun f args EL st d st' h=>by simp [od] at h⟩
 | k+1=>by
  obtain ⟨h1,h2⟩:=PV sX k;exact ⟨TP aw h1 h2 sU tt sX k,VR aw sU tt h1 h2 k⟩
end
structure dC where
 ar:BinOp->IntKind->Int->Int->Int
 lt:Int->Int->Bool
 le:Int->Int->Bool
 eq:Int->Int->Bool
 aeV:ByteArray->ByteArray->ByteArray
 aeW:ByteArray->ByteArray->Bool
 seq:ByteArray->ByteArray->Bool
 beq:Bool->Bool->Bool
 TQ:ByteArray->Int
 wrap:IntKind->Int->Int
 enc:Int->ByteArray
 aV:Nat->Int
 bm:Int->Nat->Bool
 idx:Nat->Int->Nat->Nat
 bR:IntKind->List D->Nat->Bool
 aO:List D->Nat->Int
 bW:List D->Nat->Bool
 bC:List D->Nat->Bool
 isS:List D->Nat->Bool
 YG:List D->Nat->ByteArray
 aN:Nat->List D->Nat->Bool
 aG:List D->Nat->Bool
 aD:List D->Nat->Nat
 aF:List D->Nat->List D
 isO:List D->Nat->Bool
 vX:Int->Int->Nat->Bool
 iv:Int->Nat
 nF:Int->Int->Nat
 fits:Nat->Nat->Bool
 sY:List D->Bool
 BR:List D->ByteArray
 TR:ByteArray->Nat
 sbs:ByteArray->List D
 YH:ByteArray->Int->Int
 aeZ:ByteArray->Int->Int->ByteArray
 flat:List D->Bool
 cell:List D->Bool
 mn:Int->Int->Int
 mx:Int->Int->Int
 sZ:Int->Int->Nat->Bool
 slot:List D->Nat->Bool
 nl:List D->Bool
 ne:List D->Bool
 kL:Nat->List D->Nat->Bool
 neq:Nat->Nat->Bool
def vY:Option D->Int
 | some (.int _ n)=>n
 | _=>0
def Dx:Option D->Bool
 | some (.bool b)=>b
 | _=>false
def YI:Option D->ByteArray
 | some (.str s)=>s
 | _=>⟨#[]⟩
def cG:Option D->Bool
 | some (.sl (some g) _ _ _)=>g
 | _=>false
def cN:Option D->Nat
 | some (.sl _ _ n _)=>n
 | _=>0
def cC:Option D->List D
 | some (.sl _ _ _ cs)=>cs
 | _=>[]
def fk (a b:IntKind):Bool:=decide (a=b)
def ad:dC where
 ar op k a b:=match op with
  | .add=>k.wrap (a+b)
  | .sub=>k.wrap (a - b)
  | .mul=>k.wrap (a*b)
  | .quo=>k.wrap (a.tdiv b)
  | .rem=>a.tmod b
  | .and=>k.wrap (BitVec.ofInt k.bits a&&& BitVec.ofInt k.bits b).toNat
  | .or=>k.wrap (BitVec.ofInt k.bits a||| BitVec.ofInt k.bits b).toNat
  | .xor=>k.wrap (BitVec.ofInt k.bits a ^^^ BitVec.ofInt k.bits b).toNat
  | .shl=>k.wrap (a*2 ^ (min b.toNat k.bits))
  | .shr=>a.fdiv (2 ^ (min b.toNat k.bits))
  | _=>0
 lt a b:=decide (a < b)
 le a b:=decide (a<=b)
 eq a b:=a==b
 aeV a b:=a++b
 aeW a b:=decide (a.size+b.size<=9223372036854775807)
 seq a b:=a.toList==b.toList
 beq a b:=a==b
 TQ s:=s.size
 wrap k n:=k.wrap n
 enc n:=Utf8.encode n
 aV n:=n
 bm i n:=decide (0<=i)&&decide (i < n)
 idx a i s:=(a+i.toNat)*s
 bR k cs o:=match cs[o]? with | some (.int k' _)=>fk k' k | _=>false
 aO cs o:=vY cs[o]?
 bW cs o:=match cs[o]? with | some (.bool _)=>true | _=>false
 bC cs o:=Dx cs[o]?
 isS cs o:=match cs[o]? with | some (.str _)=>true | _=>false
 YG cs o:=YI cs[o]?
 aN s cs o:=match cs[o]? with | some (.sl (some _) s' _ _)=>s'==s | _=>false
 aG cs o:=cG cs[o]?
 aD cs o:=cN cs[o]?
 aF cs o:=cC cs[o]?
 isO cs o:=match cs[o]? with | some (.sl none _ _ _)=>true | _=>false
 vX l h n:=decide (0<=l)&&decide (l<=h)&&decide (h<=n)
 iv i:=i.toNat
 nF h l:=h.toNat - l.toNat
 fits n b:=decide (n*b<=140737488355328)
 sY cs:=(lM byteOf cs).isSome
 BR cs:=⟨((lM byteOf cs).getD []).toArray⟩
 TR s:=s.size
 sbs s:=s.data.toList.map dP
 YH s i:=vY ((s.data.toList[i.toNat]?).map dP)
 aeZ s l h:=s.extract l.toNat h.toNat
 flat cs:=cs.all eD
 cell cs:=cs.all da
 mn a b:=if b < a then b else a
 mx a b:=if b>a then b else a
 sZ l cp b:=decide (0<=l)&&decide (l<=cp)&&decide (cp*b<=140737488355328)
 slot cs o:=match cs[o]? with | some bY=>!gE bY | none=>false
 nl cs:=cq cs
 ne cs:=!cs.isEmpty
 kL s cs o:=match cs[o]? with | some (.sl none s' _ _)=>s'==s | _=>false
 neq a b:=decide (a=b)
def br {R:Type} (b:Bool) (x y:R):R:=match b with | true=>x | false=>y
section
variable (pr:dC) (c:cA)
def YJ (t:TypeId) (op:BinOp) (x y:D):Option D:=
 match x,y with
 | .int k a,.int k' b=>match op with
  | .shl=>some (.int k (pr.ar .shl k a b))
  | .shr=>some (.int k (pr.ar .shr k a b))
  | .add=>if fk k k' then some (.int k (pr.ar .add k a b)) else none
  | .sub=>if fk k k' then some (.int k (pr.ar .sub k a b)) else none
  | .mul=>if fk k k' then some (.int k (pr.ar .mul k a b)) else none
  | .quo=>if fk k k' then some (.int k (pr.ar .quo k a b)) else none
  | .rem=>if fk k k' then some (.int k (pr.ar .rem k a b)) else none
  | .and=>if fk k k' then some (.int k (pr.ar .and k a b)) else none
  | .or=>if fk k k' then some (.int k (pr.ar .or k a b)) else none
  | .xor=>if fk k k' then some (.int k (pr.ar .xor k a b)) else none
  | .eql=>if fk k k' then some (.bool (pr.eq a b)) else none
  | .neq=>if fk k k' then some (.bool (!(pr.eq a b))) else none
  | .lss=>if fk k k' then some (.bool (pr.lt a b)) else none
  | .leq=>if fk k k' then some (.bool (pr.le a b)) else none
  | .gtr=>if fk k k' then some (.bool (pr.lt b a)) else none
  | .geq=>if fk k k' then some (.bool (pr.le b a)) else none
  | _=>none
 | .str a,.str b=>match op with
  | .add=>some (.str (pr.aeV a b))
  | .eql=>some (.bool (pr.seq a b))
  | .neq=>some (.bool (!(pr.seq a b)))
  | _=>none
 | .bool a,.bool b=>match c.ty t with
  | some ⟨.bool,_,_,_⟩=>match op with
   | .eql=>some (.bool (pr.beq a b))
   | .neq=>some (.bool (!(pr.beq a b)))
   | _=>none
  | _=>none
 | _,_=>none
def PW (op:BinOp) (x y:D):Bool:=
 match x,y with
 | .int _ _,.int _ b=>match op with
  | .quo=>!(pr.eq b 0)
  | .rem=>!(pr.eq b 0)
  | .shl=>!(pr.lt b 0)
  | .shr=>!(pr.lt b 0)
  | _=>true
 | .str a,.str b=>match op with
  | .add=>pr.aeW a b
  | _=>true
 | _,_=>true
def unU (op:UnOp) (x:D):Option D:=
 match op,x with
 | .neg,.int k n=>some (.int k (pr.ar .sub k 0 n))
 | .not,.bool b=>some (.bool (!b))
 | _,_=>none
def YK (st:St) (t:TypeId) (x:D):Option D:=
 match c.ty t,x with
 | some ⟨.str,_,_,_⟩,.str s=>some (.int .i64 (pr.TQ s))
 | some ⟨.slice _,_,_,_⟩,d=>match st.qx d with
  | some (_,_,n,_)=>some (.int .i64 (pr.aV n))
  | none=>none
 | _,_=>none
def FH (z:D) (cs:List D) (o:Nat):D:=
 match z with
 | .int k _=>.int k (pr.aO cs o)
 | .bool _=>.bool (pr.bC cs o)
 | .str _=>.str (pr.YG cs o)
 | .nil s=>.sl (some (pr.aG cs o)) s (pr.aD cs o) (pr.aF cs o)
 | _=>.undef
def TS (z:D) (cs:List D) (o:Nat):Bool:=
 match z with
 | .int k _=>pr.bR k cs o
 | .bool _=>pr.bW cs o
 | .str _=>pr.isS cs o
 | .nil s=>pr.aN s cs o
 | _=>false
def zV:List D->List D->Nat->List D
 | [],_,_=>[]
 | z::zs,cs,o=>FH pr z cs o::zV zs cs (o+1)
def BS:List D->List D->Nat->Bool
 | [],_,_=>true
 | z::zs,cs,o=>br (TS pr z cs o) (BS zs cs (o+1)) false
def FI (r:Nat) (q:List Nat) (z:D) (cs:List D) (o:Nat):D:=
 match z with
 | .int k _=>.int k (pr.aO cs o)
 | .bool _=>.bool (pr.bC cs o)
 | .str _=>.str (pr.YG cs o)
 | .nil _=>.ref r q o none
 | _=>.undef
def TT (z:D) (cs:List D) (o:Nat):Bool:=
 match z with
 | .int k _=>pr.bR k cs o
 | .bool _=>pr.bW cs o
 | .str _=>pr.isS cs o
 | .nil _=>pr.isO cs o
 | _=>false
def zW (r:Nat) (q:List Nat):List D->List D->Nat->List D
 | [],_,_=>[]
 | z::zs,cs,o=>FI pr r q z cs o::zW r q zs cs (o+1)
def BT:List D->List D->Nat->Bool
 | [],_,_=>true
 | z::zs,cs,o=>br (TT pr z cs o) (BT zs cs (o+1)) false
def TU (st:St) (i:TI) (a:D):Option D:=
 match a with
 | .cr cs o=>match kN i.ty with
  | true=>match i.zero with
   | []=>none
   | z::zs=>some (.agg (zV pr (z::zs) cs o))
  | false=>match i.zero with
   | [z]=>some (FH pr z cs o)
   | _=>none
 | .ptr r (p::q) o=>match st.cells r (p::q) with
  | some cs=>match kN i.ty with
   | true=>match i.zero with
    | []=>none
    | z::zs=>some (.agg (zW pr r (p::q) (z::zs) cs o))
   | false=>match i.zero with
    | [z]=>some (FI pr r (p::q) z cs o)
    | _=>none
  | none=>none
 | a=>q8 st (kN i.ty) i.size a
def On (st:St) (i:TI) (a:D):Bool:=
 match a with
 | .cr cs o=>BS pr i.zero cs o
 | .ptr r (p::q) o=>match st.cells r (p::q) with
  | some cs=>BT pr i.zero cs o
  | none=>false
 | _=>true
def zX (st:St) (t:TypeId) (x:D) (i:Int):Option D:=
 match c.ty t with
 | some ⟨.slice e,_,_,_⟩=>match c.ty e with
  | some ei=>match x with
   | .ref r q o x=>match st.cell r q o with
    | some (.sl none s _ _)=>if s=ei.size/\0 < s then some (.ptr r (q++[o]) (pr.idx (off x) i s)) else none
    | some (.sl (some _) s _ cs)=>if s=ei.size/\0 < s then some (.cr cs (pr.idx (off x) i s)) else none
    | _=>none
   | .sl (some _) s _ cs=>if s=ei.size/\0 < s then some (.cr cs (pr.idx 0 i s)) else none
   | _=>none
  | none=>none
 | some ⟨.array _ e,_,_,_⟩=>match c.ty e with
  | some ei=>match x with
   | .ptr r q o=>if live st r q then some (.ptr r q (o+pr.idx 0 i ei.size)) else none
   | .cr cs o=>some (.cr cs (o+pr.idx 0 i ei.size))
   | _=>none
  | none=>none
 | _=>none
def zY (st:St) (t:TypeId) (x:D) (i:Int):Bool:=
 match c.ty t with
 | some ⟨.slice _,_,_,_⟩=>match x with
  | .ref r q o x=>match st.cell r q o with
   | some (.sl _ s n cs)=>pr.bm i (trim x s n cs).1
   | _=>false
  | .sl (some _) _ n _=>pr.bm i n
  | _=>false
 | some ⟨.array n _,_,_,_⟩=>pr.bm i n
 | _=>false
def rC (d:Option D) (z:Int):Option Int:=
 match d with
 | none=>some z
 | some (.int _ i)=>some i
 | _=>none
def PX (st:St) (t:TypeId) (x:D) (l h:Option D):Option D:=
 match c.ty t with
 | some ⟨.str,_,_,_⟩=>match x with
  | .str s=>match rC l 0,rC h (pr.TQ s) with
   | some l,some h=>some (.str (pr.aeZ s l h))
   | _,_=>none
  | _=>none
 | some ⟨.slice e,_,_,_⟩=>match c.ty e with
  | some ei=>match st.qx x with
   | some (g,s,n,cs)=>match rC l 0,rC h (pr.aV n) with
    | some l,some h=>if s=ei.size then
      match x with
      | .ref r q o y=>some (.ref r q o (some (off y+pr.iv l,pr.nF h l)))
      | .nil s=>some (.nil s)
      | _=>some (.sl g s (pr.nF h l) ((cs.drop (pr.iv l*s)).take (pr.nF h l*s)))
     else none
    | _,_=>none
   | none=>none
  | none=>none
 | _=>none
def PY (st:St) (t:TypeId) (x:D) (l h:Option D):Bool:=
 match c.ty t with
 | some ⟨.str,_,_,_⟩=>match x with
  | .str s=>match rC l 0,rC h (pr.TQ s) with
   | some l,some h=>pr.vX l h (pr.TR s)
   | _,_=>false
  | _=>false
 | some ⟨.slice _,_,_,_⟩=>match st.qx x with
   | some (_,_,n,_)=>match rC l 0,rC h (pr.aV n) with
    | some l,some h=>pr.vX l h n
    | _,_=>false
   | none=>false
 | _=>false
def TV (st:St) (src dst:TypeId) (x:D):Option (D × Option (List D)):=
 match c.ty src,c.ty dst with
 | some si,some di=>
  match di.ty,si.ty,x with
  | .int k,_,.int _ n=>some (.int k (pr.wrap k n),none)
  | .str,_,.int _ n=>some (.str (pr.enc n),none)
  | .str,_,.str s=>some (.str s,none)
  | .str,.slice e,x=>match c.ty e with
   | some ⟨.int .u8,_,_,_⟩=>match st.qx x with
    | some (_,s,_,cs)=>if s=1 then some (.str (pr.BR cs),none) else none
    | none=>none
   | _=>none
  | _,_,_=>none
 | _,_=>none
def TW (st:St) (src dst:TypeId) (x:D):Bool:=
 match c.ty src,c.ty dst with
 | some si,some di=>
  match di.ty,si.ty,x with
  | .str,.slice _,x=>match st.qx x with
   | some (_,_,_,cs)=>pr.sY cs
   | none=>true
  | _,_,_=>true
 | _,_=>true
def Hf (st:St) (PZ:Bool) (z:List D) (sz:Nat):D->Option (List D × Nat × St)
 | .int .i64 n=>if (z.map sq).all da=true then some (fa (pr.iv n) z,pr.iv n,st) else none
 | .str s=>if sz=1 then some (pr.sbs s,pr.TR s,st) else none
 | .nil _=>some ([],0,st)
 | .sl (some _) s n cs=>if s=sz then some (cs,n,st) else none
 | .ref r q o x=>match st.cell r q o with
  | some (.sl none s n cs)=>if s≠sz then none else if PZ=true then some ((trim x s n cs).2,(trim x s n cs).1,st) else
   (match r8 st (lW r (q++[o]) (off x*s) (trim x s n cs).2) with
   | some (ys,st')=>if ys.all da=true then some (ys,(trim x s n cs).1,st') else none
   | none=>none)
  | some (.sl (some _) s n cs)=>if s=sz then some ((trim x s n cs).2,(trim x s n cs).1,st) else none
  | _=>none
 | _=>none
def BU (st:St) (PZ:Bool):D->Bool
 | .int .i64 n=>pr.le 0 n
 | .sl (some _) _ _ cs=>pr.cell cs
 | .ref r q o x=>match st.cell r q o with
  | some (.sl none s n cs)=>if PZ=true then pr.flat (trim x s n cs).2 else true
  | some (.sl (some _) s n cs)=>pr.cell (trim x s n cs).2
  | _=>true
 | _=>true
def JA (st:St) (t tx:TypeId) (dst:Option Nat) (s x:D):Option St:=
 match c.ty t with
 | some ⟨.slice e,_,_,_⟩=>match c.ty e with
  | some ei=>if Je c tx x=true then
    match target st ei.size s with
    | some (n,cs,aQ)=>match Hf pr aQ (ei.zero.all eD) ei.zero ei.size x with
     | some (ys,m,cu)=>
      if 0 < ei.size/\0 < ei.bytes then cu.root dst [.sl none ei.size (n+m) (cs++ys)] (fun d=>.ref d [] 0 none) else none
     | none=>none
    | none=>none
   else none
  | none=>none
 | _=>none
def JB (st:St) (t:TypeId) (s x:D):Bool:=
 match c.ty t with
 | some ⟨.slice e,_,_,_⟩=>match c.ty e with
  | some ei=>match target st ei.size s with
   | some (n,_,aQ)=>match Hf pr aQ (ei.zero.all eD) ei.zero ei.size x with
    | some (_,m,_)=>br (BU pr aQ (ei.zero.all eD) x) (pr.fits (n+m) ei.bytes) false
    | none=>false
   | none=>false
  | none=>false
 | _=>false
def P2 (st:St) (t:TypeId) (x:D):Option St:=
 match c.ty t with
 | some ⟨.slice e,_,_,_⟩=>match c.ty e with
  | some ei=>match x with
   | .ref r [] o y=>match lk st.rt r with
    | some R=>match R[o]? with
     | some (.sl none s n cs)=>if s=ei.size/\0 < s/\ei.zero.all eD=true then some { st with rt:=pz st.rt r (R.set o (.sl none s n (List.append (List.take (off y*s) cs) (List.append (fa (trim y s n cs).1 ei.zero) (List.drop ((off y+(trim y s n cs).1)*s) cs))))) } else none
     | _=>none
    | none=>none
   | _=>none
  | none=>none
 | _=>none
def P3 (st:St) (x:D):Bool:=
 match x with
 | .ref r [] o y=>match lk st.rt r with
  | some R=>match R[o]? with
   | some (.sl none s n cs)=>br (pr.flat cs) (pr.slot cs ((off y+(trim y s n cs).1)*s - 1)) false
   | _=>false
  | none=>false
 | _=>false
variable (md:FuncId->List D->Option (Bool × (D × List D))) (ci:FuncId->List D->Nat->St->Option (D × St)) (aA:FuncId)
def vZ (md:FuncId->List D->Option (Bool × (D × List D))) (f:FuncId) (ds:List D):Option (D × List D):=
 match md f ds with
 | some (_,r)=>some r
 | none=>none
def VS (pr:dC):D->Bool
 | .sl (some true) _ _ _=>false
 | .sl _ _ _ cs=>pr.nl cs
 | _=>true
def ES (pr:dC) (d:D):Bool:=(ch d).all fun x=>fD x&&VS pr x
def TX (c:cA) (cl:FuncId->List D->Option (D × List D)) (st:St) (dst:Option Nat) (f:FuncId) (args:List D):Option St:=
 match nf st (c.own f) args with
 | some (ds,aQ)=>
  let t:=fF (c.own f) ds
  match cl f (if t then kt (c.own f) ds else ds) with
  | some (r,outs)=>
   match iJ aQ id (c.own f) args (if t then outs.map (hC true) else outs) with
   | some cu=>match dst with
    | some i=>let p:=cu.qZ (cu.of+i) (if t then hC true r else r); some (p.1.put (some i) p.2)
    | none=>some cu
   | none=>none
  | none=>none
 | none=>none
def v7:D->Bool
 | .int .. | .bool _ | .str _=>true
 | _=>false
def opU (st:St) (o:Oper):Option St:=
 match o.op with
 | .binOp op t x y _=>match YJ pr c t op (ct c st t x) (ct c st t y) with
  | some d=>some (st.put o.dst d)
  | none=>none
 | .unOp op _ x=>match unU pr op (ct c st o.type x) with
  | some d=>some (st.put o.dst d)
  | none=>none
 | .load t a=>match c.ty t with
  | some i=>match TU pr st i (ct c st o.type a) with
   | some d=>some (st.put o.dst d)
   | none=>none
  | none=>none
 | .convert src dst x=>match TV pr c st src dst (ct c st src x) with
  | some (d,none)=>some (st.put o.dst d)
  | some (_,some cs)=>st.root o.dst cs (fun d=>.ref d [] 0 none)
  | none=>none
 | .store t a x=>match c.ty t with
  | some i=>match ct c st o.type a with
   | .ptr r (p::q) j=>if (i.size==1&&v7 (ct c st t x))=true then (match st.gZ r (p::q) j (ct c st t x) with
     | some st'=>some (st'.put o.dst (.aM []))
     | none=>none) else fb c (vZ md) ci aA st o
   | _=>fb c (vZ md) ci aA st o
  | none=>none
 | .makeSlice t l cp=>match c.ty t with
  | some ⟨.slice e,_,_,_⟩=>match c.ty e,ct c st o.type l,ct c st o.type cp with
   | some ei,.int _ l,.int _ _=>if 0 < ei.bytes then st.root o.dst [.sl none ei.size (pr.iv l) (fa (pr.iv l) ei.zero)] (fun d=>.ref d [] 0 none) else none
   | _,_,_=>none
  | _=>none
 | .slice t x l h none=>match PX pr c st t (ct c st t x) (l.map (ct c st o.type)) (h.map (ct c st o.type)) with
  | some d=>some (st.put o.dst d)
  | none=>none
 | .indexAddr t x i=>match ct c st o.type i with
  | .int _ i=>match zX pr c st t (ct c st t x) i with
   | some d=>some (st.put o.dst d)
   | none=>none
  | _=>none
 | .index t x i=>match ct c st o.type i with
  | .int k i=>match c.ty t,ct c st o.type x with
   | some ⟨.str,_,_,_⟩,.str s=>some (st.put o.dst (.int .u8 (pr.YH s i)))
   | _,x=>match yt c t x i with
    | some d=>some (st.put o.dst d)
    | none=>none
  | _=>none
 | .call cc=>match cc.callee with
  | .builtin .len=>if cc.args.size≠cc.argTypes.size then none else
   match (cc.args.toList.zip cc.argTypes.toList).map fun p=>ct c st p.2 p.1,cc.argTypes.toList with
   | [x],[t]=>match YK pr c st t x with
    | some d=>some (st.put o.dst d)
    | none=>none
   | _,_=>none
  | .builtin .min=>if cc.args.size≠cc.argTypes.size then none else
   match (cc.args.toList.zip cc.argTypes.toList).map fun p=>ct c st p.2 p.1 with
   | [.int k a,.int _ b]=>some (st.put o.dst (.int k (pr.mn a b)))
   | _=>none
  | .builtin .max=>if cc.args.size≠cc.argTypes.size then none else
   match (cc.args.toList.zip cc.argTypes.toList).map fun p=>ct c st p.2 p.1 with
   | [.int k a,.int _ b]=>some (st.put o.dst (.int k (pr.mx a b)))
   | _=>none
  | .builtin .append=>if cc.args.size≠cc.argTypes.size then none else
   match (cc.args.toList.zip cc.argTypes.toList).map fun p=>ct c st p.2 p.1,cc.argTypes.toList with
   | [s,x],[t,tx]=>JA pr c st t tx o.dst s x
   | _,_=>none
  | .builtin .clear=>if cc.args.size≠cc.argTypes.size then none else
   match (cc.args.toList.zip cc.argTypes.toList).map fun p=>ct c st p.2 p.1,cc.argTypes.toList with
   | [x],[t]=>match P2 c st t x with
    | some st'=>some (st'.put o.dst (.aM []))
    | none=>none
   | _,_=>none
  | .value f=>if cc.args.size≠cc.argTypes.size then none else
   match ct c st o.type f with
   | .fn g gY=>if c.inl g then fb c (vZ md) ci aA st o else TX c (vZ md) st o.dst g (((cc.args.toList.zip cc.argTypes.toList).map fun p=>ct c st p.2 p.1)++gY)
   | _=>none
  | _=>fb c (vZ md) ci aA st o
 | _=>fb c (vZ md) ci aA st o
def opC (st:St) (o:Oper):Bool:=
 match o.op with
 | .binOp op t x y _=>PW pr op (ct c st t x) (ct c st t y)
 | .load t a=>match c.ty t with
  | some i=>On pr st i (ct c st o.type a)
  | none=>true
 | .convert src dst x=>TW pr c st src dst (ct c st src x)
 | .store t a x=>match c.ty t with
  | some i=>match ct c st o.type a with
   | .ptr r (p::q) j=>if (i.size==1&&v7 (ct c st t x))=true then (match st.cells r (p::q) with
      | some cs=>pr.slot cs j
      | none=>true) else true
   | _=>true
  | none=>true
 | .makeSlice t l cp=>match c.ty t with
  | some ⟨.slice e,_,_,_⟩=>match c.ty e,ct c st o.type l,ct c st o.type cp with
   | some ei,.int _ l,.int _ cp=>pr.sZ l cp ei.bytes
   | _,_,_=>true
  | _=>true
 | .slice t x l h none=>PY pr c st t (ct c st t x) (l.map (ct c st o.type)) (h.map (ct c st o.type))
 | .indexAddr t x i=>match ct c st o.type i with
  | .int _ i=>zY pr c st t (ct c st t x) i
  | _=>true
 | .index t x i=>match ct c st o.type i with
  | .int _ i=>match c.ty t,ct c st o.type x with
   | some ⟨.str,_,_,_⟩,.str s=>pr.bm i (pr.TR s)
   | _,_=>true
  | _=>true
 | .call cc=>match cc.callee with
  | .builtin .append=>
   match (cc.args.toList.zip cc.argTypes.toList).map fun p=>ct c st p.2 p.1,cc.argTypes.toList with
   | [s,x],[t,_]=>JB pr c st t s x
   | _,_=>true
  | .builtin .clear=>
   match (cc.args.toList.zip cc.argTypes.toList).map fun p=>ct c st p.2 p.1 with
   | [x]=>P3 pr st x
   | _=>true
  | .value f=>match ct c st o.type f with
   | .fn g gY=>if c.inl g then true else
    (match nf st (c.own g) (((cc.args.toList.zip cc.argTypes.toList).map fun p=>ct c st p.2 p.1)++gY) with
     | some (ds,_)=>(match md g (if fF (c.own g) ds then kt (c.own g) ds else ds) with
       | some (b,(r,outs))=>b&&(ES pr r&&outs.all (ES pr))
       | none=>true)
     | none=>true)
   | _=>true
  | _=>true
 | _=>true
def VT {α:Type}:List (Nat × α)->Nat->α->List (Nat × α)
 | [],_,_=>[]
 | (j,u)::t,k,v=>if j=k then (k,v)::t else (j,u)::VT t k v
def St.lit (st:St) (t:Nat) (b:Bool):St:={ st with tm:=VT st.tm t (.bool b) }
variable {R:Type}
def SB (st:St) (o:Oper) (k:St->Option R):Option R:=
 match vB c aA st o with
 | true=>br (opC pr c md st o) (match opU pr c md ci aA st o with
  | some st'=>k st'
  | none=>none) none
 | false=>none
def Oo (st:St) (x:Operand) (a b:St->Option R):Option R:=
 match x with
 | .tmp t=>match st.get t with
  | .bool v=>br v (a (st.lit t true)) (b (st.lit t false))
  | _=>none
 | x=>match ct c st 0 x with
  | .bool v=>br v (a st) (b st)
  | _=>none
def opsOf (ops:Array Oper) (l:List Nat):List Oper:=l.filterMap fun i=>ops[i]?
def FJ (fn:Func) (args:List D) (x:Exit) (st:St):Option (D × List D):=
 match vE x,vF fn.ntmps args.length with
 | true,true=>(match xX c st fn.results.toList with
  | some ds=>match OC st ds with
   | some (ds',st')=>match pY fn.ntmps 0 args st' with
    | some os=>some (oZ ds',os)
    | none=>none
   | none=>none
  | none=>none)
 | _,_=>none
end
theorem o6 {R:Type} {b:Bool} {x:Option R} {r:R} (h:br b x none=some r):b=true/\x=some r:=by
 cases b with
 | true=>exact ⟨rfl,h⟩
 | false=>simp [br] at h
theorem my {b x:Bool} (h:br b x false=true):b=true/\x=true:=by
 cases b with
 | true=>exact ⟨rfl,h⟩
 | false=>simp [br] at h
section
variable {c:cA} {st st':St}
theorem acu {t:TypeId} {op:BinOp} {x y d:D} (hc:PW ad op x y=true) (h:YJ ad c t op x y=some d):so c t op x y=some d:=by
  unfold YJ at h;split at h
  · rename_i k a k' b
    simp only [so];cases op<;>simp only [fk,decide_eq_true_eq,ad,reduceCtorEq] at h ⊢<;>
      first
        | (simp only [PW,ad,abb,beq_eq_false_iff_ne,ne_eq] at hc
           split at h
           · rename_i hk
             subst hk;simp only [if_true,Bi];rw [if_neg hc];exact h
           · simp at h)
        | (split at h
           · rename_i hk
             subst hk;simp only [if_true,Bi];exact h
           · simp at h)
        | (simp only [PW,ad,abb,decide_eq_false_iff_not] at hc
           simp only [vw];rw [if_neg hc];exact h)
  · rename_i a b
    simp only [so,OD];cases op<;>simp only [ad,reduceCtorEq] at h ⊢
    · simp only [PW,ad,decide_eq_true_eq] at hc
      rw [if_pos hc]; exact h
    · exact h
    · exact h
  · rename_i a b
    simp only [so];split at h
    · rename_i fO
      rw [fO];simp only [Jd];cases op<;>simp only [ad,reduceCtorEq] at h ⊢<;>exact h
    · simp at h
  · simp at h
theorem ae3 {op:UnOp} {x d:D} (h:unU ad op x=some d):ZZ op x=some d:=by
 unfold unU at h;split at h
 ·simp only [ad] at h; exact h
 ·exact h
 ·simp at h
theorem acv {t:TypeId} {x d:D} (h:YK ad c st t x=some d):OE c st t x=some d:=by
 unfold YK at h;unfold OE;split at h
 ·rename_i heq;rw [heq];exact h
 ·rename_i heq;rw [heq];simp only;split at h
  ·rename_i h1; rw [h1]; exact h
  ·simp at h
 ·simp at h
theorem SC {z:D} {cs:List D} {o:Nat} (h:TS ad z cs o=true):cs[o]?=some (FH ad z cs o):=by
 unfold TS at h;split at h
 ·simp only [ad] at h;split at h
  ·rename_i k n hc;simp only [fk,decide_eq_true_eq] at h;subst h;simp only [FH,ad,hc,vY]
  ·simp at h
 ·simp only [ad] at h;split at h
  ·rename_i b hc; simp only [FH,ad,hc,Dx]
  ·simp at h
 ·simp only [ad] at h;split at h
  ·rename_i b hc; simp only [FH,ad,hc,YI]
  ·simp at h
 ·simp only [ad] at h;split at h
  ·rename_i g s n xs hc;simp only [beq_iff_eq] at h;subst h;simp only [FH,ad,hc,cG,cN,cC]
  ·simp at h
 ·simp at h
theorem P4:∀ {zs cs:List D} {o:Nat},BS ad zs cs o=true->(∀ i,i < zs.length->cs[o+i]?=(zV ad zs cs o)[i]?)/\(zV ad zs cs o).length=zs.length
 | [],cs,o,_=>⟨by simp,rfl⟩
 | z::zs,cs,o,h=>by
  simp only [BS] at h;obtain ⟨h1,h2⟩:=my h;obtain ⟨k1,k2⟩:=P4 h2;refine ⟨fun i hi=>?_,by simp [zV,k2]⟩
  cases i with
  | zero=>simp only [aeH,zV,aaz]; exact SC h1
  | succ i=>
   simp only [zV,aaZ];rw [show o+(i+1)=o+1+i by omega]
   exact k1 i (by simpa using hi)
theorem YL {cs es:List D} {o n:Nat} (h:∀ i,i < n->cs[o+i]?=es[i]?) (hl:es.length=n) (h0:0 < n):(cs.drop o).take n=es/\o+n<=cs.length:=by
 have hlen:o+n<=cs.length:=by
  have h1:=h (n - 1) (by omega)
  rw [aaf (l:=es) (by omega)] at h1
  have:=(aaa.1 h1).1;omega
 refine ⟨?_,hlen⟩;apply abN;intro i;rw [abr];by_cases hi:i < n
 ·rw [if_pos hi,abt]; exact h i hi
 ·rw [if_neg hi,aaD (by omega)]
theorem SD {r:Nat} {q:List Nat} {z:D} {cs:List D} {o:Nat} (h:TT ad z cs o=true):∃ d,cs[o]?=some d/\gP r q o d=FI ad r q z cs o:=by
 unfold TT at h;split at h
 ·simp only [ad] at h;split at h
  ·rename_i k n hc;simp only [fk,decide_eq_true_eq] at h;subst h;exact ⟨_,hc,by simp only [gP,FI,ad,hc,vY]⟩
  ·simp at h
 ·simp only [ad] at h;split at h
  ·rename_i b hc; exact ⟨_,hc,by simp only [gP,FI,ad,hc,Dx]⟩
  ·simp at h
 ·simp only [ad] at h;split at h
  ·rename_i b hc; exact ⟨_,hc,by simp only [gP,FI,ad,hc,YI]⟩
  ·simp at h
 ·simp only [ad] at h;split at h
  ·rename_i n hc;exact ⟨_,hc,by simp only [gP,FI]⟩
  ·simp at h
 ·simp at h
theorem P5 {r:Nat} {q:List Nat}:∀ {zs cs:List D} {o:Nat},BT ad zs cs o=true->(∀ i,i < zs.length->(cs[o+i]?).map (gP r q (o+i))=(zW ad r q zs cs o)[i]?)/\(zW ad r q zs cs o).length=zs.length
 | [],cs,o,_=>⟨by simp,rfl⟩
 | z::zs,cs,o,h=>by
  simp only [BT] at h;obtain ⟨h1,h2⟩:=my h;obtain ⟨k1,k2⟩:=P5 (r:=r) (q:=q) h2;refine ⟨fun i hi=>?_,by simp [zW,k2]⟩
  cases i with
  | zero=>
   obtain ⟨d,e1,e2⟩:=SD (r:=r) (q:=q) h1;simp only [aeH,zW,aaz,e1,OB,e2]
  | succ i=>
   simp only [zW,aaZ];rw [show o+(i+1)=o+1+i by omega]
   exact k1 i (by simpa using hi)
theorem YM {r:Nat} {q:List Nat} {cs es:List D} {o n:Nat} (h:∀ i,i < n->(cs[o+i]?).map (gP r q (o+i))=es[i]?) (hl:es.length=n) (h0:0 < n):lW r q o ((cs.drop o).take n)=es/\o+n<=cs.length:=by
 have hlen:o+n<=cs.length:=by
  have h1:=h (n - 1) (by omega)
  rw [aaf (l:=es) (by omega)] at h1
  cases hc:cs[o+(n - 1)]? with
  | none=>rw [hc] at h1; simp at h1
  | some d=>
   have:=(aaa.1 hc).1;omega
 refine ⟨?_,hlen⟩;apply abN;intro i;rw [oq,abr];by_cases hi:i < n
 ·rw [if_pos hi,abt]; exact h i hi
 ·rw [if_neg hi,aaD (l:=es) (by omega)]; rfl
theorem YN {i:TI} {a d:D} (hz:i.zero.length=i.size) (hc:On ad st i a=true) (h:TU ad st i a=some d):q8 st (kN i.ty) i.size a=some d:=by
 unfold TU at h;split at h
 ·rename_i cs o;simp only [On] at hc;obtain ⟨k1,k2⟩:=P4 hc;simp only [q8];split at h
  ·rename_i EC;split at h
   ·simp at h
   ·rename_i z zs kF;simp only [jf] at h;rw [kF] at k1 k2 hz;obtain ⟨e1,e2⟩:=YL k1 k2 (by simp)
    rw [EC,if_pos rfl,if_pos (by rw [<- hz]; exact ⟨by simp,e2⟩),<- hz,e1,h]
  ·rename_i EC;split at h
   ·rename_i z kF;simp only [jf] at h;rw [kF] at hc;simp only [BS] at hc;have:=SC (my hc).1;rw [EC];simp only [aai,if_false];rw [this,h]
   ·simp at h
 ·rename_i r p q o;split at h
  case h_2=>simp at h
  rename_i cs ed;simp only [On,ed] at hc;obtain ⟨k1,k2⟩:=P5 (r:=r) (q:=p::q) hc;simp only [q8,ed];split at h
  ·rename_i EC;split at h
   ·simp at h
   ·rename_i z zs kF;simp only [jf] at h;rw [kF] at k1 k2 hz;obtain ⟨e1,e2⟩:=YM k1 k2 (by simp)
    rw [EC,if_pos rfl,if_pos (by rw [<- hz]; exact ⟨by simp,e2⟩),<- hz,e1,h]
  ·rename_i EC;split at h
   ·rename_i z kF;simp only [jf] at h;rw [kF] at hc;simp only [BT] at hc;obtain ⟨d',q1,q2⟩:=SD (r:=r) (q:=p::q) (my hc).1;rw [EC];simp only [aai,if_false,q1];rw [q2,h]
   ·simp at h
 ·exact h
theorem yG {i:Int} {n:Nat} {d:D} (h:ad.bm i n=true):kO i n (some d)=some d:=by
 simp only [ad,Bh,decide_eq_true_eq] at h;unfold kO;rw [if_pos h.1,if_pos h.2]
theorem My {t:TypeId} {x d:D} {i:Int} (hc:zY ad c st t x i=true) (h:zX ad c st t x i=some d):q9 st c t x i=some d:=by
 unfold zX at h;unfold zY at hc;unfold q9;split at h
 ·rename_i e sz qB z fO;rw [fO] at hc ⊢;simp only at hc ⊢;split at h
  case h_2=>simp at h
  rename_i ei iu;rw [iu];simp only;split at h
  ·split at h
   ·rename_i cO;simp only [cO] at hc ⊢;split at h
    ·rename_i hs;simp only [jf] at h;rw [if_pos hs,<- h];exact yG hc
    ·simp at h
   ·rename_i cO;simp only [cO] at hc ⊢;split at h
    ·rename_i hs;simp only [jf] at h;rw [if_pos hs,<- h];exact yG hc
    ·simp at h
   ·simp at h
  ·split at h
   ·rename_i hs;simp only [jf] at h;simp only at hc ⊢;rw [if_pos hs,<- h];simp only [ad,abn];exact yG hc
   ·simp at h
  ·simp at h
 ·rename_i n e sz qB z fO;rw [fO] at hc ⊢;simp only at hc ⊢;split at h
  case h_2=>simp at h
  rename_i ei iu;rw [iu];simp only;split at h
  ·split at h
   ·rename_i hl;simp only [jf] at h;simp only;rw [if_pos hl,<- h];simp only [ad,abn];exact yG hc
   ·simp at h
  ·simp only [jf] at h;rw [<- h];simp only [ad,abn];exact yG hc
  ·simp at h
 ·simp at h
theorem LS (d:Option D) (z:Int):rC d z=bound d z:=by
 cases d with
 | none=>rfl
 | some d=>cases d<;>rfl
theorem SE {l h:Int} {n:Nat} (hr:ad.vX l h n=true):0<=l/\l<=h/\h<=n:=by
 simp only [ad,Bh,decide_eq_true_eq] at hr;exact ⟨hr.1.1,hr.1.2,hr.2⟩
theorem VU {t:TypeId} {x d:D} {l h:Option D} (hc:PY ad c st t x l h=true) (hs:PX ad c st t x l h=some d):Bj c st t x l h=some d:=by
 unfold PX at hs;unfold PY at hc;unfold Bj;split at hs
 ·rename_i fO;rw [fO] at hc ⊢;simp only at hc ⊢;split at hs
  case h_2=>simp at hs
  rename_i s;split at hs
  case h_2=>simp at hs
  rename_i l' h' hl hh;simp only [hl,hh] at hc;rw [LS] at hl hh;have hh2:bound h s.size=some h':=hh;simp only [Gv];rw [hl,hh2];simp only;have:=SE hc;rw [if_pos (show 0<=l'/\l'<=h'/\h'<=(s.size:Int) from this)];exact hs
 ·rename_i e sz qB z fO;rw [fO] at hc ⊢;simp only at hc ⊢;split at hs
  case h_2=>simp at hs
  rename_i ei iu;rw [iu];simp only;split at hs
  case h_2=>simp at hs
  rename_i g s n cs gK;simp only [gK] at hc;split at hs
  case h_2=>simp at hs
  rename_i l' h' hl hh;simp only [hl,hh] at hc;rw [LS] at hl hh;have hh2:bound h n=some h':=hh;split at hs
  case isFalse=>simp at hs
  rename_i hse;unfold Gw;rw [gK];simp only [hl,hh2];have:=SE hc;rw [if_pos ⟨hse,this⟩];exact hs
 ·simp at hs
theorem P6 {src dst:TypeId} {x:D} {p:D × Option (List D)} (hc:TW ad c st src dst x=true) (h:TV ad c st src dst x=some p):wZ c st src dst x=some p:=by
 unfold TV at h;unfold TW at hc;unfold wZ;split at h
 case h_2=>simp at h
 rename_i si di hs hd;rw [hs,hd] at hc ⊢;simp only at hc ⊢;split at h
 ·rename_i hk; simp only [hk]; exact h
 ·rename_i hk; simp only [hk]; exact h
 ·rename_i hk; simp only [hk]; exact h
 ·rename_i x0 ty1 ty2 x1 e hk Pj h1 h2;simp only [hk,Pj] at hc ⊢;split at h
  case h_2=>simp at h
  rename_i he;rw [he];simp only;split at h
  case h_2=>simp at h
  rename_i g s n cs gK;simp only [gK] at hc;split at h
  case isFalse=>simp at h
  rename_i rp;have hb:(lM byteOf cs).isSome=true:=by
   cases x0<;>first | exact hc | (simp [St.qx] at gK; done)
  obtain ⟨bs,xA⟩:=aby.1 hb;have agS:(match st.qx x0 with
    | some (_,s,_,cs)=>if s=1 then (match lM byteOf cs with
     | some bs=>some (D.str ⟨bs.toArray⟩,(none:Option (List D)))
     | none=>none) else none
    | none=>none)=some p:=by
   rw [gK];simp only [rp,if_true,xA];simp only [ad,xA,abV] at h;exact h
  cases x0<;>first | exact agS | exact absurd rfl (h1 _ _) | exact absurd rfl (h2 _)
 ·simp at h
theorem VV {PZ:Bool} {z:List D} {sz:Nat} {d:D} {p:List D × Nat × St} (hc:BU ad st PZ d=true) (h:Hf ad st PZ z sz d=some p):elems st PZ z sz d=some p:=by
 unfold Hf at h;unfold elems;split at h
 ·rename_i n;simp only [BU,ad,decide_eq_true_eq] at hc;split at h
  ·rename_i hz;simp only;rw [if_pos ⟨hc,hz⟩];exact h
  ·simp at h
 ·exact h
 ·exact h
 ·rename_i g s n cs;simp only [BU] at hc;split at h
  ·rename_i hs;simp only;rw [if_pos ⟨hs,hc⟩];exact h
  ·simp at h
 ·rename_i r q o x;simp only [BU] at hc;split at h
  ·rename_i s n cs cO;simp only [cO] at hc ⊢;split at h
   ·simp at h
   ·rename_i hs;rw [if_neg hs];split at h
    ·rename_i hf;rw [if_pos hf] at hc ⊢;rw [if_pos (show (trim x s n cs).2.all eD=true from hc)];exact h
    ·rename_i hf;rw [if_neg hf];exact h
  ·rename_i g s n cs cO;simp only [cO] at hc ⊢;split at h
   ·rename_i hs;rw [if_pos ⟨hs,hc⟩];exact h
   ·simp at h
  ·simp at h
 ·simp at h
theorem AG {st:St} {r o s n:Nat} {R:List D} (ho:o < R.length):∀ (ds xs:List D) (j:Nat),ds.all eD=true->xs.all eD=true->j+ds.length<=xs.length->
  fE { st with rt:=pz st.rt r (R.set o (.sl none s n xs)) } r [o] j id ds=some { st with rt:=pz st.rt r (R.set o (.sl none s n (List.take j xs++(ds++List.drop (j+ds.length) xs)))) }
 | [],xs,j,_,_,_=>by simp [fE]
 | d::ds,xs,j,hd,hx,hl=>by
  simp only [UL,Bh] at hd;simp only [aa7] at hl;have hj:j < xs.length:=by omega
  have PF:o < (R.set o (.sl none s n xs)).length:=by simpa using ho
  have hc:St.cell { st with rt:=pz st.rt r (R.set o (.sl none s n xs)) } r [o] j=some xs[j]:=by
   simp [St.cell,St.cells,hD,jS,ho,hj]
  have hold:gE xs[j]=false:=by
   have:=aac.1 hx _ (aan hj);cases hxj:xs[j]<;>rw [hxj] at this<;>simp [eD] at this<;>rfl
  have hdn:Bk r [o] j d=false/\gE d=false/\da d=true/\(∀ s0:St,jh s0 d=some (d,s0))/\(∀ s0:St,s0.tj d r [o] j=s0)/\vy d r [o] j=id:=by
   have:=hd.1;cases d<;>simp [eD] at this<;>exact ⟨rfl,rfl,rfl,fun _=>rfl,fun _=>rfl,rfl⟩
  obtain ⟨e1,e2,e3,e4,e5,e6⟩:=hdn;have iN:St.gZ { st with rt:=pz st.rt r (R.set o (.sl none s n xs)) } r [o] j d=some { st with rt:=pz st.rt r (R.set o (.sl none s n (xs.set j d))) }:=by
   simp [St.gZ,hD,oX,ho,Fb]
  have ih:=AG (st:=st) (r:=r) (s:=s) (n:=n) ho ds (xs.set j d) (j+1) hd.2 (aac.2 fun y hy=>by
   rcases afd hy with hy | rfl
   ·exact aac.1 hx _ hy
   ·exact hd.1) (by rw [List.length_set]; omega)
  rw [fE];simp only [id,e1,abL,aai,if_false,e4,e3,afa,St.r9,hc,hold,e2,iN,e5,e6];refine ih.trans ?_;have:List.take (j+1) (xs.set j d)=List.take j xs++[d]:=by
   rw [List.set_eq_take_append_cons_drop,if_pos hj,List.take_append,aaB,afn (by omega),ad8 (by rw [aaB]; omega),show j+1 - j=1 by omega]
   rfl
  rw [this,List.drop_set_of_lt (by omega),aay,show j+1+ds.length=j+(d::ds).length by simp only [aa7]; omega]
  rfl
theorem VW {t:TypeId} {x:D} (AB:∀ e i,c.ty e=some i->i.zero.length=i.size) (hc:P3 ad st x=true) (h:P2 c st t x=some st'):Bl c st t x=some st':=by
 unfold P2 at h;unfold Bl;split at h
 case h_2=>simp at h
 rename_i e tsz tby tz fO;rw [fO];simp only;split at h
 case h_2=>simp at h
 rename_i ei iu;rw [iu];simp only;split at h
 case h_2=>simp at h
 rename_i r o y;simp only [P3] at hc;split at h
 case h_2=>simp at h
 rename_i R hR;simp only [hR] at hc ⊢;split at h
 case h_2=>simp at h
 rename_i s n cs ed;simp only [ed] at hc;split at h
 case isFalse=>simp at h
 rename_i hs;obtain ⟨rp,tM,hz⟩:=hs;simp only [jf] at h;subst h;have cO:st.cell r [] o=some (.sl none s n cs):=by simp [St.cell,St.cells,hR,jS,ed]
 rw [cO];simp only;rw [if_pos ⟨rp,tM⟩];cases hf:ad.flat cs with
 | false=>rw [hf] at hc; simp [br] at hc
 | true=>
  rw [hf] at hc;simp only [br] at hc;have hlen:(off y+(trim y s n cs).1)*s - 1 < cs.length:=by
   simp only [ad] at hc;split at hc
   ·rename_i h1;exact (aaa.1 h1).1
   ·simp at hc
  have ho:=(aaa.1 ed).1;have hrz:ei.zero.map sq=ei.zero:=by
   have key:∀ l:List D,l.all eD=true->l.map sq=l:=by
    intro l
    induction l with
    | nil=>intro _; rfl
    | cons d l ih=>
     intro hl;simp only [UL,Bh] at hl;rw [aaM,ih hl.2];have:=hl.1;cases d<;>simp [eD] at this<;>rfl
   exact key _ hz
  have dV:R.set o (.sl none s n cs)=R:=by
   obtain ⟨h1,h2⟩:=aaa.1 ed;rw [<- h2,List.set_getElem_self]
  have hl:(List.replicate (trim y s n cs).1 ei.zero).flatten.length=(trim y s n cs).1*s:=by
   simp only [aeM,aeX,ad7,AB e ei iu,rp]
  have hm:off y*s+(trim y s n cs).1*s=(off y+(trim y s n cs).1)*s:=(abw _ _ _).symm;have hk:=AG (st:=st) (r:=r) (s:=s) (n:=n) ho (List.replicate (trim y s n cs).1 ei.zero).flatten cs (off y*s) (aac.2 fun d hd=>by
   simp only [aeJ,List.mem_replicate] at hd;obtain ⟨l,⟨_,rfl⟩,hd⟩:=hd;exact aac.1 hz d hd) hf (by rw [hl,hm]; omega)
  rw [dV,hl,hm] at hk;unfold fa;rw [hrz];exact hk
theorem TY {t tx:TypeId} {dst:Option Nat} {s x:D} (hc:JB ad c st t s x=true) (h:JA ad c st t tx dst s x=some st'):su c st t tx dst s x=some st':=by
 unfold JA at h;unfold JB at hc;unfold su;split at h
 case h_2=>simp at h
 rename_i e sz qB z fO;rw [fO] at hc ⊢;simp only at hc ⊢;split at h
 case h_2=>simp at h
 rename_i ei iu;rw [iu] at hc ⊢;simp only at hc ⊢;split at h
 case isFalse=>simp at h
 rename_i ov;rw [if_pos ov];split at h
 case h_2=>simp at h
 rename_i n cs aQ rn;rw [rn] at hc ⊢;simp only at hc ⊢;split at h
 case h_2=>simp at h
 rename_i ys m cu gV;rw [gV] at hc;simp only at hc;obtain ⟨h1,h2⟩:=my hc;rw [VV h1 gV];simp only;split at h
 case isFalse=>simp at h
 rename_i hb;simp only [ad,decide_eq_true_eq] at h2;rw [if_pos ⟨hb.1,hb.2,h2⟩];exact h
theorem yH {cl SF:FuncId->List D->Option (D × List D)} {ci:FuncId->List D->Nat->St->Option (D × St)} {aA:FuncId} {o:Oper} (h:∀ cc f,o.op=.call cc->cc.callee≠.value f):fb c cl ci aA st o=fb c SF ci aA st o:=by
 unfold fb;cases ho:o.op with
 | call cc=>
  simp only;cases mI:cc.callee with
  | value f=>exact absurd mI (h cc f ho)
  | builtin b=>cases b<;>rfl
  | _=>rfl
 | makeFunc fn fi ca=>cases fn<;>rfl
 | slice t x l h mx=>cases mx<;>rfl
 | _=>rfl
theorem P7 {cl SF:FuncId->List D->Option (D × List D)} {dst:Option Nat} {f:FuncId} {args:List D} (h:∀ ds aQ,nf st (c.own f) args=some (ds,aQ)->∀ r,cl f (if fF (c.own f) ds then kt (c.own f) ds else ds)=some r->SF f (if fF (c.own f) ds then kt (c.own f) ds else ds)=some r) (hc:kT c cl st dst f args=some st'):kT c SF st dst f args=some st':=by
 unfold kT at hc ⊢;cases nh:nf st (c.own f) args with
 | none=>rw [nh] at hc; simp at hc
 | some p=>
  obtain ⟨ds,aQ⟩:=p;rw [nh] at hc;simp only at hc ⊢;cases gU:cl f (if fF (c.own f) ds then kt (c.own f) ds else ds) with
  | none=>rw [gU] at hc; simp at hc
  | some q=>
   rw [gU] at hc;rw [h ds aQ nh q gU];exact hc
omit c in
theorem TZ {st:St} {qY:Nat->Bool} {r p j:Nat} {q:List Nat} {v:D} (hv:v7 v=true) (h:st.gZ r (p::q) j v=some st') (hc:∀ cs,st.cells r (p::q)=some cs->ad.slot cs j=true):
  vz st qY 1 (.ptr r (p::q) j) v=some st':=by
 have cO:∃ cs bY,st.cells r (p::q)=some cs/\cs[j]?=some bY/\gE bY=false:=by
  cases hx:st.cells r (p::q) with
  | none=>
   exfalso;unfold St.gZ at h;unfold St.cells at hx;split at h
   ·rename_i cs ed;rw [ed] at hx;simp only at hx;split at h
    ·rename_i cs' hm;have:∀ (q:List Nat) (cs cs':List D) (f:List D->List D),oX f cs q=some cs'->jS cs q≠none:=by
      intro q
      induction q with
      | nil=>intro cs cs' f _; simp [jS]
      | cons o q ih=>
       intro cs cs' f hm;simp only [oX] at hm;simp only [jS];split at hm
       ·rename_i s n xs hxs;split at hm
        ·rename_i kS VX;exact ih xs kS f VX
        ·simp at hm
       ·simp at hm
     exact this _ _ _ _ hm hx
    ·simp at h
   ·simp at h
  | some cs=>
   have:=hc cs hx;simp only [ad] at this;cases ho:cs[j]? with
   | none=>rw [ho] at this; simp at this
   | some bY=>rw [ho] at this; exact ⟨cs,bY,rfl,ho,by simpa using this⟩
 obtain ⟨cs,bY,h1,h2,h3⟩:=cO;have nL:live st r (p::q)=true:=by
  unfold live;rw [h1];cases cs with
  | nil=>simp at h2
  | cons a b=>rfl
 have hlen:(cellsOf v).length=1:=by cases v<;>first | rfl | simp [v7] at hv
 have ed:cellsOf v=[v]:=by cases v<;>first | rfl | simp [v7] at hv
 have cO:st.cell r (p::q) j=some bY:=by unfold St.cell; rw [h1]; exact h2
 have dH:jh st v=some (v,st):=by cases v<;>first | rfl | simp [v7] at hv
 have iu:da v=true:=by cases v<;>first | rfl | simp [v7] at hv
 have gK:gE v=false:=by cases v<;>first | rfl | simp [v7] at hv
 have yz:Bk r (p::q) j v=false:=by cases v<;>first | rfl | simp [v7] at hv
 have hmv:∀ st:St,st.tj v r (p::q) j=st:=by intro st; cases v<;>first | rfl | simp [v7] at hv
 unfold vz;simp only [hlen,nL,and_self,if_true,ed];simp only [fE,id,yz,abL,aai,if_false,dH,iu,afa,St.r9,cO,h3,gK,h,hmv];simp
omit c in
theorem ae5 (d:D):VS ad d=cg d:=by
 cases d with
 | sl g s n cs=>cases g with
  | none=>simp [VS,cg,ad]
  | some g=>cases g<;>simp [VS,cg,ad]
 | _=>simp [VS,cg]
omit c in
theorem Hg (d:D):ES ad d=dG d:=by
 unfold ES dG
 congr 1
 funext x;rw [ae5]
theorem YO {cl:FuncId->List D->Option (D × List D)} {dst:Option Nat} {f:FuncId} {args:List D} (h:TX c cl st dst f args=some st') (cS:∀ ds aQ r outs,nf st (c.own f) args=some (ds,aQ)->cl f (if fF (c.own f) ds then kt (c.own f) ds else ds)=some (r,outs)->(dG r&&outs.all dG)=true):kT c cl st dst f args=some st':=by
 unfold TX at h;unfold kT;cases nh:nf st (c.own f) args with
 | none=>rw [nh] at h; simp at h
 | some p=>
  obtain ⟨ds,aQ⟩:=p;rw [nh] at h;simp only at h ⊢;cases gU:cl f (if fF (c.own f) ds then kt (c.own f) ds else ds) with
  | none=>rw [gU] at h; simp at h
  | some q=>
   obtain ⟨r,outs⟩:=q;rw [gU] at h;simp only at h ⊢;rw [if_pos (cS ds aQ r outs nh gU)];exact h
theorem ae6 {P:Program} (aw:eu c P) {md:FuncId->List D->Option (Bool × (D × List D))} {cl:FuncId->List D->Option (D × List D)} (P8:∀ f ds r,md f ds=some (true,r)->cl f ds=some r) {ci:FuncId->List D->Nat->St->Option (D × St)} {aA:FuncId} {o:Oper} (hc:opC ad c md st o=true) (h:opU ad c md ci aA st o=some st'):fb c cl ci aA st o=some st':=by
 unfold opU at h;unfold opC at hc;cases ho:o.op with
 | binOp op t x y z=>
  simp only [ho] at h hc;split at h
  ·rename_i d hd;unfold fb;simp only [ho,acu hc hd];exact h
  ·simp at h
 | unOp op t x=>
  simp only [ho] at h;split at h
  ·rename_i d hd;unfold fb;simp only [ho,ae3 hd];exact h
  ·simp at h
 | load t a=>
  simp only [ho] at h hc;split at h
  ·rename_i i hi;rw [hi] at hc;simp only at hc;split at h
   ·rename_i d hd;unfold fb;simp only [ho,hi,YN (aw.ty _ _ hi).len hc hd];exact h
   ·simp at h
  ·simp at h
 | store t x y=>
  simp only [ho] at h hc;split at h
  case h_2=>simp at h
  rename_i i hi;simp only [hi] at hc;split at h
  ·rename_i r p q j ha;simp only [ha] at hc;split at h
   ·rename_i hs;rw [if_pos hs] at hc;simp only [Bh,beq_iff_eq] at hs;split at h
    case h_2=>simp at h
    rename_i aQ cF;unfold fb;simp only [ho,hi,ha];rw [hs.1,TZ hs.2 cF (fun cs e=>by rw [e] at hc; exact hc)]
    exact h
   ·rw [<- yH (cl:=vZ md) (fun cc f e=>by rw [ho] at e; simp at e)]; exact h
  ·rw [<- yH (cl:=vZ md) (fun cc f e=>by rw [ho] at e; simp at e)]; exact h
 | convert src dst x=>
  simp only [ho] at h hc;unfold fb;simp only [ho];split at h
  ·rename_i d hd;rw [P6 hc hd];exact h
  ·rename_i d cs hd;rw [P6 hc hd];exact h
  ·simp at h
 | makeSlice t l cp=>
  simp only [ho] at h hc;unfold fb;simp only [ho];split at h
  case h_2=>simp at h
  rename_i e sz qB z fO;rw [fO] at hc ⊢;simp only at hc ⊢;split at h
  case h_2=>simp at h
  rename_i ei kl li kc ci' iu hl hcp;simp only [iu,hl,hcp] at hc ⊢;split at h
  case isFalse=>simp at h
  rename_i hb;simp only [ad,Bh,decide_eq_true_eq] at hc;rw [if_pos hc.1.1,if_pos hc.1.2,if_pos ⟨hb,hc.2⟩];exact h
 | slice t x lo hi mx=>
  cases mx with
  | some _=>simp only [ho] at h; rw [<- yH (cl:=vZ md) (fun cc f e=>by rw [ho] at e; simp at e)]; exact h
  | none=>
   simp only [ho] at h hc;split at h
   ·rename_i d hd;unfold fb;simp only [ho,VU hc hd];exact h
   ·simp at h
 | indexAddr t x i=>
  simp only [ho] at h hc;split at h
  ·rename_i k i' hi;simp only [hi] at hc;split at h
   ·rename_i d hd;unfold fb;simp only [ho,hi,My hc hd];exact h
   ·simp at h
  ·simp at h
 | index t x i=>
  simp only [ho] at h hc;split at h
  case h_2=>simp at h
  rename_i k i' hi;simp only [hi] at hc;unfold fb;simp only [ho,hi];split at h
  ·rename_i s fO hx;simp only [fO,hx] at hc ⊢;have h1:yt c t (.str s) i'=some (.int .u8 (ad.YH s i')):=by
    simp only [yt,fO];simp only [ad,Bh,decide_eq_true_eq] at hc;unfold kO;rw [if_pos hc.1,if_pos hc.2];have dg:i'.toNat < s.data.toList.length:=by
     have:=hc.2;have h3:s.data.toList.length=s.size:=adW;omega
    have h4:s.data.toList[i'.toNat]?=some (s.data.toList[i'.toNat]):=aaf dg;show _=some (D.int .u8 (vY ((s.data.toList[i'.toNat]?).map dP)));rw [h4];rfl
   rw [h1];exact h
  ·split at h
   ·rename_i d hd; rw [hd]; exact h
   ·simp at h
 | call cc=>
  simp only [ho] at h hc;cases mI:cc.callee with
  | value f=>
   simp only [mI] at h hc;split at h
   ·simp at h
   rename_i cU;split at h
   case h_2=>simp at h
   rename_i g gY hf;simp only [hf] at hc;split at h
   ·rename_i lU;unfold fb at h ⊢;simp only [ho,mI] at h ⊢;rw [if_neg cU] at h ⊢;simp only [hf] at h ⊢;rw [if_pos lU] at h ⊢;exact h
   ·rename_i lU;unfold fb;simp only [ho,mI];rw [if_neg cU];simp only [hf];rw [if_neg lU] at hc ⊢;refine P7 (cl:=vZ md) (fun ds aQ nh r hr=>?_) (YO h (fun ds aQ r outs nh hr=>?_))
    ·rw [nh] at hc;simp only at hc;unfold vZ at hr;split at hr
     ·rename_i b r' P9;rw [P9] at hc;simp only [Bh] at hc;simp only [jf] at hr;subst hr;rw [hc.1] at P9;exact P8 _ _ _ P9
     ·simp at hr
    ·rw [nh] at hc;simp only at hc;unfold vZ at hr;split at hr
     ·rename_i b r' P9;rw [P9] at hc;simp only [jf] at hr;subst hr;simp only [Bh,Hg] at hc ⊢;refine ⟨hc.2.1,?_⟩;rw [aac] at hc ⊢;intro x hx;rw [<- Hg];exact hc.2.2 x hx
     ·simp at hr
  | invoke r m=>simp only [mI] at h; rw [<- yH (cl:=vZ md) (fun cc' f e e2=>by rw [ho] at e; simp only [Op.call.injEq] at e; subst e; rw [mI] at e2; simp at e2)]; exact h
  | builtin b=>
   simp only [mI] at h hc;cases b with
   | len=>
    simp only at h;unfold fb;simp only [ho,mI];split at h
    ·simp at h
    ·rename_i cU;rw [if_neg cU];split at h
     ·rename_i x t hx ht;rw [hx,ht];simp only;split at h
      ·rename_i d hd; rw [acv hd]; exact h
      ·simp at h
     ·simp at h
   | min=>
    simp only at h;unfold fb;simp only [ho,mI];split at h
    ·simp at h
    ·rename_i cU;rw [if_neg cU];split at h
     ·rename_i hx; simp only [hx]; exact h
     ·simp at h
   | max=>
    simp only at h;unfold fb;simp only [ho,mI];split at h
    ·simp at h
    ·rename_i cU;rw [if_neg cU];split at h
     ·rename_i hx; simp only [hx]; exact h
     ·simp at h
   | append=>
    simp only at h hc;unfold fb;simp only [ho,mI];split at h
    ·simp at h
    ·rename_i cU;rw [if_neg cU];split at h
     ·rename_i s x t tx hx ht;rw [hx,ht] at hc ⊢;simp only at hc ⊢;exact TY hc h
     ·simp at h
   | clear=>
    simp only at h hc;unfold fb;simp only [ho,mI];split at h
    ·simp at h
    ·rename_i cU;rw [if_neg cU];split at h
     ·rename_i x t hx ht;rw [hx,ht];rw [hx] at hc;simp only at hc ⊢;split at h
      ·rename_i aQ VE;rw [VW (fun e i he=>(aw.ty e i he).len) hc VE];exact h
      ·simp at h
     ·simp at h
   | _=>simp only at h; rw [<- yH (cl:=vZ md) (fun cc' f e e2=>by rw [ho] at e; simp only [Op.call.injEq] at e; subst e; rw [mI] at e2; simp at e2)]; exact h
 | _=>simp only [ho] at h; rw [<- yH (cl:=vZ md) (fun cc f e=>by rw [ho] at e; simp at e)]; exact h
end
theorem oD {R:Type} {b:Bool} {x y:Option R} {r:R} (h:br b x y=some r):(b=true/\x=some r)∨(b=false/\y=some r):=by
 cases b with
 | true=>exact .inl ⟨rfl,h⟩
 | false=>exact .inr ⟨rfl,h⟩
theorem FK {α:Type}:∀ (l:List (Nat × α)) (k:Nat) (v:α),lk l k=some v->VT l k v=l
 | [],k,v,h=>rfl
 | (j,u)::t,k,v,h=>by
  simp only [lk] at h;simp only [VT];split
  ·rename_i hj;subst hj;simp only [if_true,jf] at h;rw [h]
  ·rename_i hj;rw [if_neg hj] at h;rw [FK t k v h]
theorem pQ {st:St} {t:Nat} {b:Bool} (h:st.get t=.bool b):st.lit t b=st:=by
 unfold St.get at h;unfold St.lit;have:lk st.tm t=some (.bool b):=by
  cases hx:lk st.tm t with
  | none=>rw [hx] at h; simp at h
  | some d=>rw [hx] at h; simp only [abV] at h; rw [h]
 rw [FK _ _ _ this]
section
variable {P:Program} {c:cA} (aw:eu c P) {md:FuncId->List D->Option (Bool × (D × List D))} {cl:FuncId->List D->Option (D × List D)} (P8:∀ f ds r,md f ds=some (true,r)->cl f ds=some r) {ci:FuncId->List D->Nat->St->Option (D × St)} {aA:FuncId} {R:Type}
include aw P8
omit aw P8 in
theorem Dy (ops:Array Oper):∀ (l:List Nat) (st:St),vC c cl ci aA ops (opsOf ops l) st=iK c cl ci aA ops l st
 | [],_=>rfl
 | i::l,st=>by
  unfold opsOf;rw [abf];cases ho:ops[i]? with
  | none=>
   simp only [iK,ho];exact Dy ops l st
  | some o=>
   simp only [vC,iK,ho];split
   ·split
    ·split
     ·exact Dy ops l _
     ·rfl
    ·rfl
   ·exact Dy ops l _
   ·rfl
omit aw P8 in
theorem VY {x:Exit} {n m:Nat} {A:Option R} {r:R} (h:(match vE x,vF n m with | true,true=>A | _,_=>none)=some r):(vE x&&vF n m)=true/\A=some r:=by
 split at h
 ·rename_i h1 h2; exact ⟨by rw [h1,h2]; rfl,h⟩
 ·simp at h
end
def BV:List D->List Value->Bool
 | [],[]=>true
 | .int k n::ds,.int k' n'::us=>fk k k'&&(n==n')&&BV ds us
 | .bool b::ds,.bool b'::us=>(b==b')&&BV ds us
 | .str s::ds,.string s'::us=>(s.size==0)&&(s'.size==0)&&BV ds us
 | .nil _::ds,.slice none 0 0::us=>BV ds us
 | .undef::ds,_::us=>BV ds us
 | _,_=>false
def BW (P:Program):List Nat->List Nat->List Field->Bool
 | [],[],[]=>true
 | o::os,z::zs,f::fs=>(o==f.offset)&&(match P.info? f.type with | some i=>(z==i.size)&&!(i.size==0) | none=>false)&&BW P os zs fs
 | _,_,_=>false
def T0 (P:Program):Ty->TypeDesc->Bool
 | .int k,.int k'=>fk k k'
 | .bool,.bool=>true
 | .str,.string=>true
 | .slice e,.slice e'=>e==e'
 | .array n e,.array n' e'=>(n==n')&&(e==e')
 | .struct os zs,.struct fs=>BW P os zs fs.toList
 | .ptr e,.pointer e'=>e==e'
 | _,_=>false
def T2 (P:Program) (t:TypeId) (ti:TI):Bool:=
 (match P.info? t with
  | some i=>(i.size==ti.size)&&(i.bytes==ti.bytes)&&(match i.zero with | some z=>BV ti.zero z.cells.toList | none=>false)
  | none=>false)&&(match P.underlying t with | some d=>T0 P ti.ty d | none=>false)&&(ti.zero.length==ti.size)
def T3 (P:Program):List (Nat × TI)->Bool
 | []=>true
 | (t,ti)::l=>T2 P t ti&&T3 P l
theorem acw:∀ {ds:List D} {us:List Value},BV ds us=true->cm R9 ds us:=by
 intro ds us h
 fun_induction BV ds us with
 | case1=>exact .nil
 | case2 ds us k n k' n' ih=>
  simp only [Bh,fk,decide_eq_true_eq,beq_iff_eq] at h;obtain ⟨⟨rfl,rfl⟩,h⟩:=h;exact .cons (fun w X=>rfl) (ih h)
 | case3 ds us b b' ih=>
  simp only [Bh,beq_iff_eq] at h;obtain ⟨rfl,h⟩:=h;exact .cons (fun w X=>rfl) (ih h)
 | case4 s ds s' us ih=>
  simp only [Bh,beq_iff_eq] at h;obtain ⟨⟨h1,h2⟩,h⟩:=h;have e1:s=s':=by
   cases s with | mk a=>cases s' with | mk b=>
   have ha:a=#[]:=abC h1;have hb:b=#[]:=abC h2;rw [ha,hb]
  subst e1;exact .cons (fun w X=>rfl) (ih h)
 | case5 ds us _ ih=>exact .cons (fun w X=>rfl) (ih h)
 | case6 ds u us ih=>exact .cons (fun w X=>trivial) (ih h)
 | case7=>simp at h
theorem SG {P:Program}:∀ {os zs:List Nat} {fs:List Field},BW P os zs fs=true->os=fs.map (·.offset)/\zs.length=fs.length/\∀ (j:Nat) (f:Field),fs[j]?=some f->∃ i,P.info? f.type=some i/\i.size≠0/\zs[j]?=some i.size
 | [],[],[],_=>⟨rfl,rfl,by simp⟩
 | o::os,z::zs,f::fs,h=>by
  simp only [BW,Bh,beq_iff_eq] at h;obtain ⟨⟨h1,h2⟩,h3⟩:=h;obtain ⟨k1,k2,k3⟩:=SG h3;refine ⟨by simp [h1,k1],by simp [k2],fun j g hj=>?_⟩
  cases j with
  | zero=>
   simp only [aaz,jf] at hj;subst hj;split at h2
   ·rename_i i hi;simp only [Bh,beq_iff_eq,abb,beq_eq_false_iff_ne] at h2;exact ⟨i,hi,h2.2,by rw [h2.1]; rfl⟩
   ·simp at h2
  | succ j=>
   simp only [aaZ] at hj;obtain ⟨i,q1,q2,q3⟩:=k3 j g hj;exact ⟨i,q1,q2,by simpa using q3⟩
 | [],[],_::_,h=>by simp [BW] at h
 | [],_::_,_,h=>by simp [BW] at h
 | _::_,[],_,h=>by simp [BW] at h
 | _::_,_::_,[],h=>by simp [BW] at h
theorem YP {P:Program} {ty:Ty} {d:TypeDesc} (h:T0 P ty d=true):lS P ty d:=by
 unfold T0 at h;split at h
 ·simp only [fk,decide_eq_true_eq] at h; subst h; rfl
 ·rfl
 ·rfl
 ·simp only [beq_iff_eq] at h; subst h; rfl
 ·simp only [Bh,beq_iff_eq] at h; obtain ⟨rfl,rfl⟩:=h; rfl
 ·rename_i fs;obtain ⟨k1,k2,k3⟩:=SG h;exact ⟨fs,rfl,k1,k2,k3⟩
 ·simp only [beq_iff_eq] at h; subst h; rfl
 ·simp at h
theorem YQ {P:Program} {t:TypeId} {ti:TI} (h:T2 P t ti=true):Fe P t ti:=by
 unfold T2 at h;simp only [Bh,beq_iff_eq] at h;obtain ⟨⟨h1,h2⟩,h3⟩:=h;split at h1
 case h_2=>simp at h1
 rename_i i hi;simp only [Bh,beq_iff_eq] at h1;obtain ⟨⟨h4,h5⟩,h6⟩:=h1;split at h6
 case h_2=>simp at h6
 rename_i z hz;split at h2
 case h_2=>simp at h2
 rename_i d hd;exact ⟨⟨i,hi,h4,h5,z,hz,acw h6⟩,⟨d,hd,YP h2⟩,h3⟩
theorem Qa {P:Program}:∀ {l:List (Nat × TI)},T3 P l=true->∀ t ti,lk l t=some ti->Fe P t ti
 | [],_,t,ti,h=>by simp [lk] at h
 | (j,x)::l,h,t,ti,hl=>by
  simp only [T3,Bh] at h;simp only [lk] at hl;split at hl
  ·rename_i hj;subst hj;simp only [jf] at hl;subst hl;exact YQ h.1
  ·exact Qa h.2 t ti hl
def aaC (fn:Func):Bool:=
  match fn.body with
  | some body => lZ fn.ntmps body && !(fn.name == "runtime.NumGoroutine")
  | none=>true
theorem acx {P : Program} (h : P.funcs.toList.all aaC = true) (f : FuncId) (fn : Func) (body : Code) (hf : P.funcs[f]? = some fn) (hb : fn.body = some body) : lZ fn.ntmps body = true ∧ (fn.name == "runtime.NumGoroutine") = false := by
  have db:fn∈P.funcs.toList:=abG.2 (abS hf)
  have:=aac.1 h fn db
  unfold aaC at this
  rw [hb] at this
  simp only [Bh,abb] at this
  exact this
def Ev (p:Nat->Prop):Prop:=∃ k0,∀ k,k0<=k->p k
theorem Ev.of {p:Nat->Prop} (h:∀ k,p k):Ev p:=⟨0,fun k _=>h k⟩
theorem Ev.and {p q:Nat->Prop} (h:Ev p) (h':Ev q):Ev fun k=>p k/\q k:=by
 obtain ⟨a,ha⟩:=h;obtain ⟨b,hb⟩:=h';exact ⟨max a b,fun k hk=>⟨ha k (by omega),hb k (by omega)⟩⟩
theorem Ev.mono {p q:Nat->Prop} (h:Ev p) (hh:∀ k,p k->q k):Ev q:=by
 obtain ⟨a,ha⟩:=h;exact ⟨a,fun k hk=>hh k (ha k hk)⟩
theorem Ev.ge (n:Nat):Ev fun k=>n<=k:=⟨n,fun _ h=>h⟩
section
variable {P:Program} {c:cA} {cl:FuncId->List D->Option (D × List D)} {ci:FuncId->List D->Nat->St->Option (D × St)} {cls:Nat->FuncId->List D->Option (D × List D)} {cis:Nat->FuncId->List D->Nat->St->Option (D × St)}
 (gU:∀ f ds r,cl f ds=some r->Ev fun k=>cls k f ds=some r) (nh:∀ f ds n st r,ci f ds n st=some r->Ev fun k=>cis k f ds n st=some r)
theorem YR {SF:FuncId->List D->Option (D × List D)} {ci':FuncId->List D->Nat->St->Option (D × St)} {aA:FuncId} {st:St} {o:Oper} (h:∀ cc f,o.op=.call cc->cc.callee≠.value f):fb c cl ci aA st o=fb c SF ci' aA st o:=by
 unfold fb;cases ho:o.op with
 | call cc=>
  simp only;cases mI:cc.callee with
  | value f=>exact absurd mI (h cc f ho)
  | builtin b=>cases b<;>rfl
  | _=>rfl
 | makeFunc fn fi ca=>cases fn<;>rfl
 | slice t x l h mx=>cases mx<;>rfl
 | _=>rfl
include gU
theorem YS {st st':St} {dst:Option Nat} {f:FuncId} {args:List D} (h:kT c cl st dst f args=some st'):Ev fun k=>kT c (cls k) st dst f args=some st':=by
 cases hx:nf st (c.own f) args with
 | none=>unfold kT at h; rw [hx] at h; simp at h
 | some p=>
  obtain ⟨ds,aQ⟩:=p;cases hy:cl f (if fF (c.own f) ds then kt (c.own f) ds else ds) with
  | none=>unfold kT at h; rw [hx] at h; simp only [hy] at h; simp at h
  | some r=>
   refine (gU _ _ _ hy).mono fun k hk=>P7 (cl:=cl) (fun ds' aeA h1 r' h2=>?_) h;rw [hx,jf,tE] at h1;obtain ⟨rfl,rfl⟩:=h1;rw [hy,jf] at h2;subst h2;exact hk
include nh
theorem ae8 {aA:FuncId} {st st':St} {o:Oper} (h:fb c cl ci aA st o=some st'):Ev fun k=>fb c (cls k) (cis k) aA st o=some st':=by
 by_cases cY:∃ cc f,o.op=.call cc/\cc.callee=.value f
 ·obtain ⟨cc,f,ho,hc⟩:=cY;unfold fb at h ⊢;simp only [ho,hc] at h ⊢;split at h
  ·simp at h
  rename_i cU;split at h
  case h_2=>simp at h
  rename_i g gY hf;split at h
  ·rename_i hi;split at h
   case h_2=>simp at h
   rename_i d aQ hx;refine (nh _ _ _ _ _ hx).mono fun k hk=>?_;rw [if_neg cU];simp only [hf,if_pos hi,hk];exact h
  ·rename_i hi;refine (YS gU h).mono fun k hk=>?_;rw [if_neg cU];simp only [hf,if_neg hi];exact hk
 ·refine Ev.of fun k=>?_;rw [<- YR (cl:=cl) (ci:=ci) (fun cc f e1 e2=>cY ⟨cc,f,e1,e2⟩)];exact h
theorem Dz {aA:FuncId} {ops:Array Oper}:∀ {l:List Nat} {st st':St},iK c cl ci aA ops l st=some st'->Ev fun k=>iK c (cls k) (cis k) aA ops l st=some st'
 | [],st,st',h=>Ev.of fun k=>h
 | i::l,st,st',h=>by
  simp only [iK] at h ⊢;split at h
  ·rename_i ho;exact Dz h
  ·rename_i o ho;split at h
   ·rename_i hw;split at h
    case isFalse=>simp at h
    rename_i ez;split at h
    case h_2=>simp at h
    rename_i aQ aq;refine ((ae8 gU nh aq).and (Dz h)).mono fun k hk=>?_;rw [if_pos ez,hk.1];exact hk.2
   ·rename_i hw;exact Dz h
   ·simp at h
end
def Comes (c:cA) (P:Program) (f:FuncId) (args:List D) (r:D × List D):Prop:=Ev fun k=>Tg c P k f args=some r
def yI:FuncId->List D->Nat->St->Option (D × St):=fun _ _ _ _=>none
theorem YT {c:cA} {P:Program} {f:FuncId} {e:List D->Option (D × List D)} {args:List D} {r:D × List D} (he:c.ext f=some e) (h:e args=some r):Comes c P f args r:=by
 refine ⟨1,fun k hk=>?_⟩;obtain ⟨k,rfl⟩:∃ m,k=m+1:=⟨k - 1,by omega⟩
 show zC c P _ _ k f args=some r;unfold zC;rw [he];exact h
def YU (c:cA) (f i:Nat):St->Option St:=match c.nm f i with
 | some (L,B)=>Dk L B
 | none=>some
section
variable (c:cA) (P:Program) (f:FuncId)
def T4 (code:Code) (i:Nat) (st:St) (r:Exit × St):Prop:=Ev fun k=>eW c (od c P k).1 (od c P k).2 k f code i st=some r
def T5 (a:Code) (i:Nat) (st:St) (r:Exit × St):Prop:=∃ n,Ev fun k=>∀ m,n<=m->uT (YU c f i) (eW c (od c P k).1 (od c P k).2 k f a i) m st=some r
end
section
variable {c:cA} {P:Program} {f:FuncId} (aw:eu c P) {md:FuncId->List D->Option (Bool × (D × List D))} (P8:∀ g ds r,md g ds=some (true,r)->Comes c P g ds r) {ml:Nat->St->Option (Bool × Exit × St)} {R:Type}
theorem T5.code {a:Code} {i:Nat} {st:St} {r:Exit × St} (h:T5 c P f a i st r):T4 c P f (.loop a) i st r:=by
 obtain ⟨n,h⟩:=h;refine (h.and (Ev.ge n)).mono fun k hk=>?_;show uT (YU c f i) _ k st=some r;exact hk.1 k hk.2
include aw P8
end
open Go.RowKit Go.Shelf
theorem xG {w:World} {X:Bool->Nat->Prop}:∀ {b:List Bool} {ds:List D} {us:List Value} {az:List Arg},uB w X b ds us az->b.any id=false->(∀ a∈az,a=(none,[]))/\az.length=ds.length/\cm (fun d u=>∀ S,gI w X S d u) ds us
 | _,[],_,_,h,_=>by obtain ⟨rfl,rfl⟩:=h; exact ⟨by simp,rfl,.nil⟩
 | b,d::ds,_,_,h,hn=>by
  obtain ⟨u,kG,a,az',rfl,rfl,h1,h2⟩:=h;have hb:b.headD false=false/\b.tail.any id=false:=by
   cases b with
   | nil=>simp
   | cons x xs=>simpa using hn
  rw [hb.1] at h1;obtain ⟨g1,g2,g3⟩:=xG h2 hb.2;refine ⟨fun x hx=>?_,by simp [g2],.cons h1.2 g3⟩
  simp only [aap] at hx;rcases hx with rfl | hx
  ·exact h1.1
  ·exact g1 x hx
theorem ye:∀ {az:List Arg},(∀ a∈az,a=(none,[]))->bE az=[]
 | [],_=>rfl
 | a::az,h=>by
  have:=h a (by simp)
  subst this;show []++ai []++bE az=[];rw [ye (fun b hb=>h b (by simp [hb]))]
  rfl
theorem Hh {w':World}:∀ {b:List Bool} {az:List Arg},b.any id=false->(∀ a∈az,a=(none,[]))->mS w' b (az.map fun _=>D.undef) az az
 | _,[],_,_=>⟨rfl,rfl⟩
 | b,a::az,hn,h=>by
  have hb:b.headD false=false/\b.tail.any id=false:=by
   cases b with
   | nil=>simp
   | cons x xs=>simpa using hn
  refine ⟨.undef,_,a,az,rfl,rfl,?_,Hh hb.2 (fun x hx=>h x (by simp [hx]))⟩
  rw [hb.1];exact h a (by simp)
theorem Hi {w w':World} {Y:Nat->Prop} {own:List Bool} {ds:List D} {us:List Value} {az:List Arg} {v:Value} {r:D} (h:jT w Y own ds us az) (hn:own.any id=false) (hb:Below w.heap.size w w')
  (hr:∃ t,r=t.er/\v=t.val/\t.er≠.undef/\(∀ cs,t.er≠.aZ cs)/\(∀ cs,t.er≠.aM cs)/\(∀ cs,t.er≠.agg cs)/\(ai [t]).Nodup/\(∀ k∈ai [t],w.heap.size<=k/\k < w'.heap.size)/\bJ w' (fun b k=>Lk w' (ai [t]) (fun k=>Y k∨w.heap.size<=k) b k) [t]):
  fw w w' Y own az r (az.map fun _=>.undef) v:=by
 obtain ⟨h1,h2,_⟩:=xG h.args hn;have ha:=ye h1;obtain ⟨t,rfl,rfl,_,h3,h4,h5,h6,h7,h8⟩:=hr;refine ⟨hb.size,fun k hk _=>hb.block k hk,hb.os,hb.tape,hb.output,[t],az,?_,Hh hn h1,?_,?_,?_,?_⟩
 ·have:fR t.er t.val [t]:=by
   cases he:t.er with
   | agg cs=>exact absurd he (h5 cs)
   | _=>exact ⟨t,rfl,he.symm,rfl⟩
  cases he:t.er with
  | aZ cs=>exact absurd he (h3 cs)
  | aM cs=>exact absurd he (h4 cs)
  | _=>rw [he] at this; exact this
 ·rw [ha,aah]; exact h6
 ·rw [ha,aah];intro k hk;exact ⟨(h7 k hk).2,.inr (h7 k hk).1⟩
 ·rw [ha,aah];refine gd ?_ _ h8;rintro b k ⟨g1,g2,g3⟩;exact ⟨g1,g2,fun hb=>(g3 hb).elim .inl (fun h=>.inr (.inr h))⟩
 ·intro a VZ;rw [h1 a VZ]
  trivial
open Go.RowKit Go.Shelf Go.Lib
section
variable {P:Program} {ρ:Ren}
set_option maxHeartbeats 2000000 in
set_option maxRecDepth 100000 in
theorem T6 (L:SlLaysE0.n41 P ρ) (i0:TypeInfo) (z:Value) (size bytes:Nat) (hi:P.info? (ρ.t 23)=some i0) (LU:i0.zero=some z) (Pl:i0.size=size) (ED:i0.bytes=bytes) (kF:z.cells.size=size) (cU:0 < size)
  (z23:∀ w,(Go.sizeOf (ρ.t 23)).run P w=.ok size w) (a:Addr) (c:Nat) (w:World):
  Calls P (ρ.f 41) #[.slice (some a) 0 c] w fun e w'=>∃ v',e=.returned v'/\w'.ownsRow w.heap.size (ρ.t 23) size v' 0 []/\Below w.heap.size w w':=by
 have mixed:=L.mixed; have t4:=L.t4; have a4:=L.a4; have z4:=L.z4; have v4:=L.v4; have t22:=L.t22; have a22:=L.a22; have z22:=L.z22; have v22:=L.v22;have q22:∀ (w:World) (a:Option Addr) (n c n' c':Nat),(binOp .eql (ρ.t 22) (.slice a n c) (.slice none n' c')).run P w=.ok (.bool a.isNone) w:=fun w a n c n' c'=>Lib.run_eql_slice_nil w _ _ a n c n' c' L.t22;have u22:∀ w,Sem.run P (underlying (ρ.t 22)) w=.ok (TypeDesc.slice (ρ.t 23)) w:=run_underlying t22;obtain ⟨_,_,FG⟩:=L.f41
 go_enter FG,SlBodyN.n41_ntmps ρ
 go_wp2_with (at_builtin; refine wpList_append_own _ rfl _ _ (ρ.t 22) rfl w.heap.size (ρ.t 23) i0 z size bytes t22 hi LU Pl ED kF cU _ _ _ rfl (World.ownsRow_made w #[] 0 (aav _) (aa9 _) (by simp)) a 0 c [] rfl (by simp) (by intro j u hj; simp at hj) (by intro u hu; cases hu) (by unfold maxLen; omega) (by omega) (by simp) ?_)
 intro v' w1 jI agT aeT
 go_wp2
 go_ret
 refine ⟨v',rfl,by simpa using jI,?_⟩
 exact ((Below.refl _ w).alloc (aav _) _).grown agT (by simp) (by intro k hk; simp [Value.ownBlock] at hk; omega)
def ni (sz bts:Nat):List D->Option (D × List D)
 | [.sl _ s n cs]=>if s=sz/\cs.all eD=true/\n*bts<=140737488355328/\n<=140737488355328 then some (.sl none s n cs,[.undef]) else none
 | [.nil s]=>if s=sz then some (.sl none s 0 [],[.undef]) else none
 | _=>none
theorem Qb {w:World} {X:Bool->Nat->Prop}:∀ {cs:List D} {us:List Value},cs.all eD=true->gp w X cs us->∃ ts:List T,ba ts=cs/\ax ts=us/\ai ts=[]/\(∀ u∈us,u.oneCell'=true)/\∀ w' X',bJ w' X' ts
 | [],us,_,h=>by
  cases h;exact ⟨[],rfl,rfl,rfl,by simp,fun _ _=>trivial⟩
 | d::cs,us,hf,h=>by
  simp only [UL,Bh] at hf;obtain ⟨v,vs,rfl,h1,h2⟩:=h;obtain ⟨ts,e1,e2,e3,e4,e5⟩:=Qb hf.2 h2;have ku:bS d=d:=by cases d<;>simp [eD] at hf<;>rfl
  have yb:v.oneCell'=true:=by
   cases d<;>simp [eD] at hf<;>simp only [Ext] at h1<;>subst h1<;>rfl
  refine ⟨.v d v::ts,by simp [ba,T.er,ku,e1],by simp [ax,T.val,e2],by simp [ai,T.ft,e3],fun u hu=>?_,fun w' X'=>⟨?_,e5 w' X'⟩⟩
  ·rcases aap.1 hu with rfl | hu
   ·exact yb
   ·exact e4 u hu
  ·simp only [bI,ku];cases d<;>simp [eD] at hf<;>exact h1
theorem Qc {w w':World} {Y:Nat->Prop} {s n:Nat} {cs:List D} {ts:List T} {v':Value} {e:TypeId} (hr:w'.ownsRow w.heap.size e s v' n (ax ts)) (he:ba ts=cs) (hlen:cs.length=n*s) (eG:ai ts=[]) (dF:∀ w' X',bJ w' X' ts):
  ∃ t:T,D.sl none s n cs=t.er/\v'=t.val/\t.er≠.undef/\(∀ cs,t.er≠.aZ cs)/\(∀ cs,t.er≠.aM cs)/\(∀ cs,t.er≠.agg cs)/\(ai [t]).Nodup/\(∀ k∈ai [t],w.heap.size<=k/\k < w'.heap.size)/\bJ w' (fun b k=>Lk w' (ai [t]) (fun k=>Y k∨w.heap.size<=k) b k) [t]:=by
 have hl:ts.length=n*s:=by rw [<- hlen,<- he,eO,abu]
 obtain ⟨_,h⟩:=hr;rcases h with ⟨rfl,rfl⟩ | ⟨g,cap,cur,rfl,hg,fv,Fj,ajn,aoF,agU⟩
 ·refine ⟨.own s 0 0 none ts,by simp [T.er,he],rfl,by simp [T.er],by simp [T.er],by simp [T.er],by simp [T.er],by simp [ai,T.ft,fG,eG],by simp [ai,T.ft,fG,eG],?_⟩
  simp only [bJ,bI,and_true];exact ⟨⟨aav _,by omega⟩,hl,trivial,dF _ _⟩
 ·have hgs:g < w'.heap.size:=by
   have:=(abK.1 fv).1;exact this
  refine ⟨.own s n cap (some (g,0)) ts,by simp [T.er,he],rfl,by simp [T.er],by simp [T.er],by simp [T.er],by simp [T.er],by simp [ai,T.ft,fG,eG],by simp [ai,T.ft,fG,eG]; exact ⟨hg,hgs⟩,?_⟩
  simp only [bJ,bI,and_true];refine ⟨⟨Fj,by unfold maxLen at ajn; omega⟩,hl,⟨cur,e,(0,0),fv,fun o _ h=>by simp at h,by omega,fun j u hj=>?_⟩,dF _ _⟩
  rw [abn];have Gy:j < n*s:=by
   have:=(aaa.1 hj).1;rw [cK,abu,hl] at this;exact this
  rw [<- agU,abr] at hj;rw [if_pos Gy] at hj
  simpa using hj
theorem zZ (L:SlLaysE0.n41 P ρ) (i0:TypeInfo) (z:Value) (size bytes:Nat) (hi:P.info? (ρ.t 23)=some i0) (LU:i0.zero=some z) (Pl:i0.size=size) (ED:i0.bytes=bytes) (kF:z.cells.size=size) (cU:0 < size)
  (z23:∀ w,(Go.sizeOf (ρ.t 23)).run P w=.ok size w) (hf:kK P (ρ.f 41)) {own:List Bool} (hn:own.any id=false) {ds:List D} {r:D} {outs:List D} (h:ni size bytes ds=some (r,outs)):
  kK P (ρ.f 41)/\∀ (w:World) (Y:Nat->Prop) (us:Array Value) (az:List Arg),jT w Y own ds us.toList az->dG r=true->(∀ o∈outs,dG o=true)->
   Calls P (ρ.f 41) us w fun e w'=>∃ v,e=.returned v/\fw w w' Y own az r outs v:=by
 refine ⟨hf,fun w Y us az hp _ _=>?_⟩;obtain ⟨h1,h2,h3⟩:=xG hp.args hn;have yb:∀ {d:D},ds=[d]->∃ u,us=#[u]/\(∀ S,gI w (Lk w (bE az) Y) S d u)/\az.map (fun _=>D.undef)=[.undef]:=by
  intro d hd;subst hd;cases hl:us.toList with
  | nil=>rw [hl] at h3; cases h3
  | cons u l=>rw [hl] at h3; cases h3 with
   | cons k1 k2=>
    cases k2;refine ⟨u,by rw [<- abd (xs:=us),hl],k1,?_⟩
    cases az with
    | nil=>simp at h2
    | cons a az=>cases az with
     | nil=>rfl
     | cons b az=>simp at h2
 have pn:∀ {s n:Nat} {cs:List D} {ts:List T} {v':Value} {e:TypeId} {w':World},az.map (fun _=>D.undef)=[.undef]->w'.ownsRow w.heap.size e s v' n (ax ts)->ba ts=cs->cs.length=n*s->ai ts=[]->(∀ w' X',bJ w' X' ts)->Below w.heap.size w w'->fw w w' Y own az (.sl none s n cs) [.undef] v':=by
  intro s n cs ts v' e w' ha hr he hlen eG dF hb;rw [<- ha];exact Hi hp hn hb (Qc hr he hlen eG dF)
 unfold ni at h;split at h
 ·rename_i g s n cs;split at h
  case isFalse=>simp at h
  rename_i hc;obtain ⟨rfl,p8,xq,xd⟩:=hc;simp only [jf,tE] at h;obtain ⟨rfl,rfl⟩:=h;obtain ⟨u,rfl,hu,Qd⟩:=yb rfl;have sX:Ext w (Lk w (bE az) Y) (.sl g s n cs) u:=by
   have:=hu [];cases g with
   | none=>simp [gI,bD,Ext] at this
   | some g=>simpa [gI,bD] using this
  cases g with
  | none=>simp [Ext] at sX
  | some g=>
   simp only [Ext] at sX;obtain ⟨base,cap,vs,rfl,Fj,Bx,gV,agV⟩:=sX;obtain ⟨ts,e1,e2,e3,e4,e5⟩:=Qb p8 gV;rcases agV with rfl | ⟨k,off,c,e,fz,rfl,hX,fv,pL⟩
   ·have U7:n=0:=by
     rcases Nat.eq_zero_or_pos n with h0 | h0
     ·exact h0
     ·have:=Nat.mul_pos h0 cU;simp at Bx;omega
    subst U7;have hv:ax ts=[]:=by
     have:ts=[]:=by cases ts with
      | nil=>rfl
      | cons t ts=>simp [ba] at e1
     rw [this]; rfl
    cases base with
    | none=>
     refine (AnyE.slices_Clone_nil L 0 cap w).mono fun e w' hh=>?_;obtain ⟨rfl,rfl⟩:=hh;exact ⟨_,rfl,pn (e:=0) Qd (ts:=ts) ⟨by rw [hv]; simp,.inl ⟨rfl,rfl⟩⟩ e1 Bx e3 e5 (Below.refl _ _)⟩
    | some a=>
     refine (T6 L i0 z s bytes hi LU Pl ED kF cU z23 a cap w).mono fun e w' hh=>?_;obtain ⟨v',rfl,hr,hb⟩:=hh;exact ⟨_,rfl,pn Qd (ts:=ts) (by rw [hv]; exact hr) e1 Bx e3 e5 hb⟩
   ·have hl:vs.length=n*s:=by rw [<- e2,cK,abu,<- Bx,<- e1,eO,abu]
    refine (AnyE.slices_Clone L i0 z s bytes hi LU Pl ED kF cU z23 k off n cap vs w hl (by unfold maxLen; omega) xq (fun j u hj=>?_) e4).mono fun e w' hh=>?_
    ·simp [World.cell?,fv,pL j u hj]
    ·obtain ⟨v',rfl,hr,_,hb⟩:=hh;exact ⟨_,rfl,pn Qd (ts:=ts) (by rw [e2]; exact hr) e1 Bx e3 e5 hb⟩
 ·rename_i s;split at h
  case isFalse=>simp at h
  rename_i hs;subst hs;simp only [jf,tE] at h;obtain ⟨rfl,rfl⟩:=h;obtain ⟨u,rfl,hu,Qd⟩:=yb rfl;have:u=.slice none 0 0:=hu [];subst this;refine (AnyE.slices_Clone_nil L 0 0 w).mono fun e w' hh=>?_;obtain ⟨rfl,rfl⟩:=hh;exact ⟨_,rfl,pn (e:=0) Qd (ts:=[]) ⟨by simp [ax],.inl ⟨rfl,rfl⟩⟩ rfl (by simp) rfl (fun _ _=>trivial) (Below.refl _ _)⟩
 ·simp at h
end
open Go.RowKit Go.Shelf Go.Lib
section
variable {P:Program} {ρ:Ren}
def DA (sz bts:Nat):List D->Option (D × List D)
 | [.nil s,.int .i64 n]=>if s=sz/\0<=n/\n*(bts:Int)<=140737488355328/\n<=140737488355328 then some (.sl none s 0 [],[.undef,.undef]) else none
 | _=>none
theorem SI (L:Lays8.n4 P ρ) (i0:TypeInfo) (z:Value) (size bytes:Nat) (hi:P.info? (ρ.t 25)=some i0) (LU:i0.zero=some z) (Pl:i0.size=size) (ED:i0.bytes=bytes) (kF:z.cells.size=size) (cU:0 < size) (hf:kK P (ρ.f 4)) {own:List Bool} (hn:own.any id=false) {ds:List D} {r:D} {outs:List D} (h:DA size bytes ds=some (r,outs)):
  kK P (ρ.f 4)/\∀ (w:World) (Y:Nat->Prop) (us:Array Value) (az:List Arg),jT w Y own ds us.toList az->dG r=true->(∀ o∈outs,dG o=true)->
   Calls P (ρ.f 4) us w fun e w'=>∃ v,e=.returned v/\fw w w' Y own az r outs v:=by
 refine ⟨hf,fun w Y us az hp _ _=>?_⟩;obtain ⟨h1,h2,h3⟩:=xG hp.args hn;unfold DA at h;split at h
 case h_2=>simp at h
 rename_i s n;split at h
 case isFalse=>simp at h
 rename_i hc;obtain ⟨rfl,U7,xq,xd⟩:=hc;simp only [jf,tE] at h;obtain ⟨rfl,rfl⟩:=h;have hl:∃ u v,us=#[u,v]/\(∀ S,gI w (Lk w (bE az) Y) S (.nil s) u)/\(∀ S,gI w (Lk w (bE az) Y) S (.int .i64 n) v)/\az.map (fun _=>D.undef)=[.undef,.undef]:=by
  cases hl:us.toList with
  | nil=>rw [hl] at h3; cases h3
  | cons u l=>
   rw [hl] at h3;cases h3 with
   | cons k1 k2=>
    cases k2 with
    | cons k3 k4=>
     cases k4;rename_i v;refine ⟨u,v,by rw [<- abd (xs:=us),hl],k1,k3,?_⟩
     match az,h2 with
     | [_,_],_=>rfl
 obtain ⟨u,v,rfl,hu,hv,Qd⟩:=hl;have e1:u=.slice none 0 0:=hu [];have e2:v=.int .i64 n:=hv [];subst e1;subst e2;obtain ⟨m,rfl⟩:∃ m:Nat,n=m:=⟨n.toNat,by omega⟩
 rw [<- Qd];have fin:∀ {v':Value} {w':World} {e:TypeId},w'.ownsRow w.heap.size e s v' 0 []->Below w.heap.size w w'->fw w w' Y own az (.sl none s 0 []) (az.map (fun _=>D.undef)) v':=fun hr hb=>
  Hi hp hn hb (Qc (ts:=[]) (by simpa [ax] using hr) rfl (by simp) rfl (fun _ _=>trivial))
 by_cases hm:m=0
 ·subst hm;refine (Any8.slices_Grow_room L none 0 0 0 w (by omega) (by omega) (by omega) (by omega)).mono fun e w' hh=>?_
  obtain ⟨rfl,rfl⟩:=hh;exact ⟨_,rfl,fin (e:=0) ⟨by simp,.inl ⟨rfl,rfl⟩⟩ (Below.refl _ _)⟩
 ·have hb3:(0+m)*i0.bytes<=140737488355328:=by
   rw [ED,abn];have:((m*bytes:Nat):Int)<=140737488355328:=by rw [Int.natCast_mul]; exact xq
   omega
  refine (Any8.slices_Grow_grow L i0 z hi LU (by omega) none 0 0 m [] w (by omega) (by omega) hb3 (by omega) (by simp) (by simp) (by simp)).mono fun e w' hh=>?_
  obtain ⟨rfl,rfl⟩:=hh;have g1:=grownCap_ge w (0+m) 0 (ρ.t 25);have g2:=grownCap_le_maxLen w (0+m) 0 (ρ.t 25) (by unfold maxLen; omega)
  refine ⟨_,rfl,fin (e:=ρ.t 25) (World.ownsRow_made (base:=w.heap.size) (size:=s) (e:=ρ.t 25) w.drew _ _ (aav _) g2 ?_) (((Below.refl _ w).drew).alloc (aav _) _)⟩;simp only [aei,aej,abx,size_zeroCells,kF];rw [abn,<- abw]
  congr 1
  omega
end
end Go.Proofs.YtckkpgcnhdllgaaGreat
