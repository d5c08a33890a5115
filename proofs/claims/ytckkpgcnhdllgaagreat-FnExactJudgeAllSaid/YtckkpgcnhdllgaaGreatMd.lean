/- What the proof of FnExactJudgeAll stands on, part 4: an abstract machine on plain data, its soundness, and the contracts of functions. -/
import Derived.Shelf.Spec.SlicesInsert
import Derived.Shelf.Spec.SlicesInsertGrow
import Derived.Test.YtckkpgcnhdllgaaGreatChecked
import Derived.KernelRfl
import Derived.SizedLaws
import Derived.ChangeOld
import Derived.Test.YtckkpgcnhdllgaaGreatMc
set_option linter.all false
set_option linter.unusedSimpArgs false
set_option linter.unusedVariables false
set_option linter.unnecessarySimpa false
set_option linter.unusedSectionVars false
namespace Go.Proofs.YtckkpgcnhdllgaaGreat
open Go.RowKit Go.Shelf Go.Lib
def T7:List D->Option (D × List D)
 | [.sl none 1 n cs,.int .i64 i,.sl none 1 1 [x]]=>if cs.all eD=true/\eD x=true/\cs.length=n/\0<=i/\i<=n/\(n+1)*8<=140737488355328 then some (.sl none 1 (n+1) (cs.take i.toNat++x::cs.drop i.toNat),[.undef,.undef,.undef]) else none
 | _=>none
theorem FL {w:World} {X:Bool->Nat->Prop}:∀ {ts:List T},bJ w X ts->(ba ts).all eD=true->ai ts=[]/\(∀ u∈ax ts,u.oneCell'=true)/\∀ w' X',bJ w' X' ts
 | [],_,_=>⟨rfl,by simp [ax],fun _ _=>trivial⟩
 | t::ts,h,hf=>by
  simp only [ba,UL,Bh] at hf;simp only [bJ] at h;obtain ⟨a1,a2,a3⟩:=FL h.2 hf.2;cases t with
  | own s n cap a xs=>simp [T.er,eD] at hf
  | v d u=>
   have hd:=hf.1;have hu:=h.1;simp only [bI] at hu;simp only [T.er] at hd;refine ⟨by simp [ai,T.ft,a1],fun y hy=>?_,fun w' X'=>⟨?_,a3 w' X'⟩⟩
   ·simp only [ax,T.val,aap] at hy;rcases hy with rfl | hy
    ·cases hl:bS d<;>rw [hl] at hd hu<;>simp [eD] at hd<;>simp only [Ext] at hu<;>subst hu<;>rfl
    ·exact a2 _ hy
   ·simp only [bI];cases hl:bS d<;>rw [hl] at hd hu<;>simp [eD] at hd<;>exact hu
theorem T8 (ts:List T) (i:Nat):ax (ts.take i)=(ax ts).take i:=by rw [cK,cK,ae7]
theorem T9 (ts:List T) (i:Nat):ax (ts.drop i)=(ax ts).drop i:=by rw [cK,cK,ae4]
section
variable {P:Program} {ρ:Ren}
theorem V0 (L:Lays2.n21 P ρ) (hf:kK P (ρ.f 21)) {own:List Bool} (hn:own=[true,false,true]) {ds:List D} {r:D} {outs:List D} (h:T7 ds=some (r,outs)):
  kK P (ρ.f 21)/\∀ (w:World) (Y:Nat->Prop) (us:Array Value) (az:List Arg),jT w Y own ds us.toList az->dG r=true->(∀ o∈outs,dG o=true)->
   Calls P (ρ.f 21) us w fun e w'=>∃ v,e=.returned v/\fw w w' Y own az r outs v:=by
 subst hn;refine ⟨hf,fun w Y us az hp _ _=>?_⟩;unfold T7 at h;split at h
 case h_2=>simp at h
 rename_i n cs i x;split at h
 case isFalse=>simp at h
 rename_i hc;obtain ⟨p8,hx,hlen,hi0,lU,TC⟩:=hc;simp only [jf,tE] at h;obtain ⟨rfl,rfl⟩:=h;obtain ⟨u1,Pw,a1,z1,e1,rfl,h1,u2,us2,a2,z2,rfl,rfl,h2,u3,us3,a3,z3,rfl,rfl,h3,rfl,rfl⟩:=hp.args;obtain ⟨g1,t1,p1,q1,rfl⟩:=h1;obtain ⟨rfl,h2⟩:=h2;obtain ⟨g3,t3,p3,q3,rfl⟩:=h3;obtain ⟨cap,yJ,ts,rfl,rfl⟩:=vG q1.symm;obtain ⟨v8,Ua,kH,rfl,q4⟩:=vG q3.symm;have e2:u2=.int .i64 i:=h2 [];subst e2;obtain ⟨a1,b1⟩:=a1;obtain ⟨a3,b3⟩:=a3;simp only at g1 p1 g3 p3;subst g1 p1 g3 p3;obtain ⟨m,rfl⟩:∃ m:Nat,i=m:=⟨i.toNat,by omega⟩
 rw [adV];have rp:=hp.sat _ aeY;have hs3:=hp.sat (none,[.own 1 1 v8 Ua kH]) (by simp)
 have hF:bE [((none:Option Nat),[T.own 1 n cap yJ ts]),(none,[]),(none,[T.own 1 1 v8 Ua kH])]=fG yJ++ai ts++(fG Ua++ai kH):=by
  simp [bE,uW,ai,T.ft]
 have eT:=hp.nd;have dg:=hp.lt;rw [hF] at eT dg;simp only [bJ,bI,and_true] at rp hs3;obtain ⟨⟨k1,k1'⟩,k2,k3,k4⟩:=rp;obtain ⟨⟨l1,l1'⟩,l2,l3,l4⟩:=hs3;have ajo:(ba kH).all eD=true:=by rw [<- q4]; simpa using hx
 obtain ⟨f1,o1,s1⟩:=FL k4 p8;obtain ⟨f3,o3,s3⟩:=FL l4 ajo;rw [f1,f3] at eT dg;have V1:(ax ts).length=n:=by rw [bV,k2,Nat.mul_one]
 have FM:(ax kH).length=1:=by rw [bV,l2]
 cases Ua with
 | none=>simp only at l3; omega
 | some p3=>
 obtain ⟨vb,yf⟩:=p3;simp only [fG,aah] at eT dg;simp only at l3;obtain ⟨c3,ev,fz3,m1,m2,m3,m4⟩:=l3;have Ex:∀ j v,(ax kH)[j]?=some v->w.cell? ⟨vb,yf+j,none⟩=some v:=fun j v hj=>mO ⟨c3,ev,fz3,m1,m2,m3,m4⟩ hj;have pn:∀ {b' off' cap':Nat} {w':World},lR w' b' off' (cap'*1) (ax (ts.take m++(kH++ts.drop m)))->n+1<=cap'->cap'<=9223372036854775807->b' < w'.heap.size->(b'∈fG yJ∨w.heap.size<=b')->w.heap.size<=w'.heap.size->(∀ k,k < w.heap.size->k∉fG yJ->w'.heap[k]?=w.heap[k]?)->w'.os=w.os->w'.tape=w.tape->w'.output=w.output->
   fw w w' Y [true,false,true] [((none:Option Nat),[T.own 1 n cap yJ ts]),(none,[]),(none,[T.own 1 1 v8 (some (vb,yf)) kH])] (.sl none 1 (n+1) ((ba ts).take m++x::(ba ts).drop m)) [.undef,.undef,.undef] (.slice (some ⟨b',off',none⟩) (n+1) cap'):=by
  intro b' off' cap' w' hb VE AF xA hbw cU hold mH ri sF;have her:ba (ts.take m++(kH++ts.drop m))=(ba ts).take m++x::(ba ts).drop m:=by
   rw [qf,qf,w8,w7,<- q4];rfl
  have eG:ai (ts.take m++(kH++ts.drop m))=[]:=by
   have key:∀ l:List T,ai l=[]->(∀ j,ai (l.take j)=[])/\∀ j,ai (l.drop j)=[]:=by
    intro l hl;have:=bd (l.take 0) l;refine ⟨fun j=>?_,fun j=>?_⟩
    ·have:=bd (l.take j) (l.drop j);rw [ae1,hl] at this;exact (List.append_eq_nil_iff.1 this.symm).1
    ·have:=bd (l.take j) (l.drop j);rw [ae1,hl] at this;exact (List.append_eq_nil_iff.1 this.symm).2
   rw [bd,bd,f3,(key ts f1).1,(key ts f1).2];rfl
  have dF:∀ w' X',bJ w' X' (ts.take m++(kH++ts.drop m)):=fun w' X'=>by
   have hs:=s1 w' X';rw [cj] at hs ⊢;have sb:=s3 w' X';rw [cj] at sb;intro t ht;rcases tD.1 ht with ht | ht
   ·exact hs _ (ael ht)
   ·rcases tD.1 ht with ht | ht
    ·exact sb _ ht
    ·exact hs _ (List.mem_of_mem_drop ht)
  have hl:(ts.take m++(kH++ts.drop m)).length=(n+1)*1:=by
   rw [aad,aad,aaB,abE,l2,k2];omega
  have VD:bE [((none:Option Nat),[T.own 1 n cap yJ ts]),(none,[]),(none,[T.own 1 1 v8 (some (vb,yf)) kH])]=fG yJ++ai ts++([vb]++ai kH):=hF;refine ⟨cU,fun k hk Pf=>hold k hk fun hm=>Pf (by rw [VD]; simp [hm]),mH,ri,sF,[.own 1 (n+1) cap' (some (b',off')) (ts.take m++(kH++ts.drop m))],[(none,[]),(none,[]),(none,[])],?_,?_,?_,?_,?_,?_⟩
  ·exact ⟨_,rfl,by simp only [T.er]; rw [her],rfl⟩
  ·refine ⟨_,_,_,_,rfl,rfl,⟨rfl,rfl,.inl ⟨rfl,fun s n cs e=>by simp at e⟩⟩,_,_,_,_,rfl,rfl,rfl,_,_,_,_,rfl,rfl,⟨rfl,rfl,.inl ⟨rfl,fun s n cs e=>by simp at e⟩⟩,rfl,rfl⟩
  ·simp [ai,T.ft,fG,eG,bE,uW]
  ·intro k hk;simp only [ai,T.ft,fG,eG,bE,uW,Option.toList,aah,abk] at hk;subst hk;refine ⟨xA,hbw.imp (fun hm=>?_) id⟩;rw [VD];simp [hm]
  ·simp only [bJ,bI,and_true];exact ⟨⟨VE,AF⟩,hl,hb,dF _ _⟩
  ·intro a ha;simp only [aap,List.not_mem_nil,or_false] at ha;rcases ha with rfl | rfl | rfl<;>trivial
 have BD:ax (ts.take m++(kH++ts.drop m))=(ax ts).take m++(ax kH++(ax ts).drop m):=by rw [tF,tF,T8,T9]
 rw [BD] at pn;have hu:us=#[uF yJ n cap,.int .i64 m,.slice (some ⟨vb,yf,none⟩) 1 v8]:=by
  rw [<- abd (xs:=us),e1];rfl
 rw [hu];have hfa:∀ o,o<=c3.size->w.frozen? ⟨vb,o,none⟩=false:=fun o ho=>by
  have:=m2 o ho;simp only [World.frozen?,m1]
  simpa using this
 have g1:=grownCap_ge w (n+1) cap (ρ.t 3);have g2:=grownCap_le_maxLen w (n+1) cap (ρ.t 3) (by unfold maxLen; omega)
 unfold maxLen at g2;have hz:(Builtin.zeroCells (Value.int .i64 0).cells (grownCap w (n+1) cap (ρ.t 3) - (n+1))).size=grownCap w (n+1) cap (ρ.t 3) - (n+1):=by rw [size_zeroCells]; exact Nat.mul_one _
 have ajp:∀ base:Option Addr,(base=none->n=0)->(∀ a,base=some a->∀ j v,(ax ts)[j]?=some v->w.cell? (a.add j)=some v)->¬n+1<=cap->m=n->
   Calls P (ρ.f 21) #[.slice base n cap,.int .i64 m,.slice (some ⟨vb,yf,none⟩) 1 v8] w fun e w'=>∃ v,e=.returned v/\fw w w' Y [true,false,true] [((none:Option Nat),[T.own 1 n cap yJ ts]),(none,[]),(none,[T.own 1 1 v8 (some (vb,yf)) kH])] (.sl none 1 (n+1) ((ba ts).take m++x::(ba ts).drop m)) [.undef,.undef,.undef] v:=by
  intro base xq xd tp V2;subst V2;refine (Any2.slices_Insert_int_end_grow L base m cap vb yf 1 v8 (ax ts) (ax kH) w (by omega) k1 (by omega) TC V1 FM xq xd Ex o3).mono fun e w' hh=>?_
  obtain ⟨rfl,rfl⟩:=hh;have hG:=(Grown.drew w).trans (Grown.alloc w.drew (.cells ((ax ts++ax kH).toArray++Builtin.zeroCells (Value.int .i64 0).cells (grownCap w (m+1) cap (ρ.t 3) - (m+1))) (ρ.t 3)));refine ⟨_,rfl,pn (jM w.drew _ _ ?_ (fun j u hj=>?_)) g1 g2 (by rw [iP]; exact Nat.lt_succ_self _) (.inr (aav _)) hG.sz (fun k hk _=>hG.bY k hk) hG.os hG.tape hG.out⟩
  ·rw [aei,hz,aej,aad,V1,FM];omega
  ·rw [ad8 (by omega),List.drop_eq_nil_of_le (by omega),aah] at hj
   have Vh:=(aaa.1 hj).1;rw [abJ (by simpa using Vh)]
   simpa using hj
 by_cases tp:n+1<=cap
 ·cases yJ with
  | none=>simp only at k3; omega
  | some p=>
  obtain ⟨b,off⟩:=p;simp only at k3;have ed:∀ j v,(ax ts)[j]?=some v->w.cell? ⟨b,off+j,none⟩=some v:=fun j v hj=>mO k3 hj;obtain ⟨c,ce,fz,r1,r2,r3,r4⟩:=k3;have hvb:vb≠b:=by
   intro e;subst e;simp [fG] at eT
  have hlb:b < w.heap.size:=dg b (by simp [fG])
  have hsp:∀ j,off+j < c.size->(w.cell? ⟨b,off+j,none⟩).isSome=true:=fun j hj=>by
   simp [World.cell?,r1,hj]
  have hfz:∀ j,off+j < c.size->w.frozen? ⟨b,off+j,none⟩=false:=fun j hj=>by
   have:=r2 (off+j) (by omega)
   simp only [World.frozen?,r1]
   simpa using this
  by_cases V2:m < n
  ·refine (Any2.slices_Insert_int_shift L b off n cap m vb yf 1 v8 (ax ts) (ax kH) w V2 (by omega) tp k1' hvb V1 FM ed (fun j hj=>hsp j (by omega)) (fun j hj=>hfz j (by omega)) Ex o1 o3 ev ce c3.size c.size (by simp [World.shape?,m1]) (by simp [World.shape?,r1]) (by omega) (hfa _ (by omega)) (hfa _ (aav _))).mono fun e w' hh=>?_
   obtain ⟨rfl,rfl⟩:=hh;obtain ⟨c1,s1,s2,s3,s4,s5,s6,s7,s8,s9⟩:=iR ((ax ts).drop m) (off+(m+1)) w.drew (c:=c) (e:=ce) (fz:=fz) r1 (by rw [abE]; omega)
   obtain ⟨c2,x1,x2,x3,x4,x5,x6,x7,x8,x9⟩:=iR (ax kH) (off+m) _ s1 (by omega)
   refine ⟨_,rfl,pn (b':=b) (off':=off) (cap':=cap) ⟨c2,ce,fz,x1,by rw [x2,s2]; exact r2,by rw [x2,s2]; exact r3,fun j u hj=>?_⟩ tp k1' (by rw [x6,s6]; exact hlb) (.inl (by simp [fG])) (by rw [x6,s6]; exact aav _) (fun k hk Pf=>?_) (by rw [x7,s7]; rfl) (by rw [x8,s8]; rfl) (by rw [x9,s9]; rfl)⟩
   ·rcases Nat.lt_trichotomy j m with BX | BX | BX
    ·rw [abc (by rw [aaB]; omega),aeK BX] at hj
     rw [x4 _ (.inl (by omega)),s4 _ (.inl (by omega))]
     exact r4 j u hj
    ·subst BX;rw [aa6 (by rw [aaB]; omega),aaB,afn (by omega),adT,abc (by omega)] at hj
     have:=x3 0 u hj
     simpa using this
    ·rw [aa6 (by rw [aaB]; omega),aaB,afn (by omega),aa6 (by omega),FM] at hj
     rw [x4 _ (.inr (by omega)),show off+j=off+(m+1)+(j - m - 1) by omega]
     exact s3 _ u hj
   ·have O4:k≠b:=fun e=>Pf (by simp [fG,e])
    rw [x5 k O4,s5 k O4];rfl
  ·have hm:m=n:=by omega
   subst hm;refine (Any2.slices_Insert_int_end_room L b off m cap vb yf 1 v8 (ax kH) w (by omega) tp k1' FM (fun j hj=>by rw [abh]; exact hsp _ (by omega)) (fun j hj=>by rw [abh]; exact hfz _ (by omega)) Ex o3).mono fun e w' hh=>?_
   obtain ⟨rfl,rfl⟩:=hh;obtain ⟨c2,x1,x2,x3,x4,x5,x6,x7,x8,x9⟩:=iR (ax kH) (off+m) w (c:=c) (e:=ce) (fz:=fz) r1 (by omega)
   refine ⟨_,rfl,pn (b':=b) (off':=off) (cap':=cap) ⟨c2,ce,fz,x1,by rw [x2]; exact r2,by rw [x2]; exact r3,fun j u hj=>?_⟩ tp k1' (by rw [x6]; exact hlb) (.inl (by simp [fG])) (by rw [x6]; exact aav _) (fun k hk Pf=>x5 k (fun e=>Pf (by simp [fG,e]))) x7 x8 x9⟩
   rw [ad8 (by omega),List.drop_eq_nil_of_le (by omega),aah] at hj
   by_cases BX:j < m
   ·rw [abc (by omega)] at hj
    rw [x4 _ (.inl (by omega))]
    exact r4 j u hj
   ·rw [aa6 (by omega),V1] at hj
    rw [show off+j=off+m+(j - m) by omega]
    exact x3 _ u hj
 ·by_cases V2:m < n
  ·cases yJ with
   | none=>simp only at k3; omega
   | some p=>
   obtain ⟨b,off⟩:=p;simp only at k3;have ed:∀ j v,(ax ts)[j]?=some v->w.cell? ⟨b,off+j,none⟩=some v:=fun j v hj=>mO k3 hj;refine (Any2.slices_Insert_int_grow L b off n cap m vb yf 1 v8 (ax ts) (ax kH) w V2 (by omega) k1 (by omega) TC V1 FM ed Ex o1 o3).mono fun e w' hh=>?_
   obtain ⟨rfl,rfl⟩:=hh;have ED:(Builtin.zeroCells (Value.int .i64 0).cells (n+1 - m)).size=n+1 - m:=by rw [size_zeroCells]; exact Nat.mul_one _
   generalize hA:(((ax ts).take m).toArray++Builtin.zeroCells (Value.int .i64 0).cells (n+1 - m)++Builtin.zeroCells (Value.int .i64 0).cells (grownCap w (n+1) cap (ρ.t 3) - (n+1)):Array Value)=A;have hAs:A.size=grownCap w (n+1) cap (ρ.t 3):=by
    rw [<- hA,aei,aei,hz,ED,aej,aaB];omega
   have hA1:∀ j u,j < m->(ax ts)[j]?=some u->A[j]?=some u:=fun j u hj hju=>by
    rw [<- hA,abJ (by rw [aei,aej,aaB]; omega),abJ (by rw [aej,aaB]; omega)]
    rw [List.getElem?_toArray,aeK hj];exact hju
   have hN:=Ls w (.cells A (ρ.t 3));have hG:=Grown.alloc w (.cells A (ρ.t 3));obtain ⟨c1,s1,s2,s3,s4,s5,s6,s7,s8,s9⟩:=iR (ax kH) m (w.alloc (.cells A (ρ.t 3))).drew (c:=A) (e:=ρ.t 3) (fz:=(0,0)) hN (by omega)
   obtain ⟨c2,x1,x2,x3,x4,x5,x6,x7,x8,x9⟩:=iR ((ax ts).drop m) (m+1) ((w.alloc (.cells A (ρ.t 3))).drew.setCells w.heap.size m (ax kH)).drew (c:=c1) (e:=ρ.t 3) (fz:=(0,0)) s1 (by rw [abE]; omega)
   have z6:(w.alloc (.cells A (ρ.t 3))).drew.heap.size=w.heap.size+1:=iP w _;refine ⟨_,rfl,pn ⟨c2,ρ.t 3,(0,0),x1,fun o _ h=>by simp at h,by omega,fun j u hj=>?_⟩ g1 g2 (by rw [x6]; show w.heap.size < ((w.alloc (.cells A (ρ.t 3))).drew.setCells w.heap.size m (ax kH)).heap.size; rw [s6,z6]; omega) (.inr (aav _)) (by rw [x6]; show w.heap.size<=((w.alloc (.cells A (ρ.t 3))).drew.setCells w.heap.size m (ax kH)).heap.size; rw [s6,z6]; omega) (fun k hk _=>?_) (x7.trans (s7.trans rfl)) (x8.trans (s8.trans rfl)) (x9.trans (s9.trans rfl))⟩
   ·rw [abn];rcases Nat.lt_trichotomy j m with BX | BX | BX
    ·rw [abc (by rw [aaB]; omega),aeK BX] at hj
     rw [x4 _ (.inl (by omega)),s4 _ (.inl (by omega))]
     exact hA1 j u BX hj
    ·subst BX;rw [aa6 (by rw [aaB]; omega),aaB,afn (by omega),adT,abc (by omega)] at hj
     rw [x4 _ (.inl (by omega))]
     have:=s3 0 u hj
     simpa using this
    ·rw [aa6 (by rw [aaB]; omega),aaB,afn (by omega),aa6 (by omega),FM] at hj
     rw [show j=m+1+(j - m - 1) by omega]
     exact x3 _ u hj
   ·have O4:k≠w.heap.size:=by omega
    rw [x5 k O4];show ((w.alloc (.cells A (ρ.t 3))).drew.setCells w.heap.size m (ax kH)).heap[k]?=_;rw [s5 k O4];exact hG.bY k hk
  ·refine ajp _ (fun e=>?_) (fun a ha j v hj=>?_) tp (by omega)
   ·cases yJ with
    | none=>simp only at k3; omega
    | some p=>simp at e
   ·cases yJ with
    | none=>simp at ha
    | some p=>
     simp only [OB,jf] at ha;subst ha;rw [eV];exact mO k3 hj
end
section
variable (pr:dC)
def YV (st:St) (r p o:Nat) (z d:D) (cs:List D):Option (Bool × St × (D->D)):=
 match z with
 | .nil s=>some (pr.kL s cs o,st.ZY (vx r [p] o (.sl none s (pr.aD cs o) (pr.aF cs o))) (cB r [p] o true),vx r [p] o (.sl none s (pr.aD cs o) (pr.aF cs o)))
 | .int ..=>if gE d then none else some (pr.slot cs o,st,id)
 | .bool _=>if gE d then none else some (pr.slot cs o,st,id)
 | .str _=>if gE d then none else some (pr.slot cs o,st,id)
 | _=>none
def oE (r p:Nat):St->Nat->(D->D)->List D->List D->Option (Bool × St)
 | st,_,_,[],[]=>some (true,st)
 | st,o,h,z::zs,d::ds=>
  if Bk r [p] o (h d) then none else
  match jh st (h d) with
  | some (d',aQ)=>if !da d' then none else match aQ.cells r [p] with
   | some cs=>match YV pr aQ r p o z d' cs with
    | some (g,cu,f)=>match cu.gZ r [p] o d' with
     | some Eo=>match oE r p (Eo.tj (f (h d)) r [p] o) (o+1) (fun x=>vy (f (h d)) r [p] o (f (h x))) zs ds with
      | some (g',st')=>some (br g g' false,st')
      | none=>none
     | none=>none
    | none=>none
   | none=>none
  | none=>none
 | _,_,_,_,_=>none
def opE (c:cA) (st:St) (o:Oper):Option (Bool × St):=
 match o.op with
 | .fieldAddr s x f=>match c.ty s with
  | some ⟨.struct mo _,_,_,_⟩=>match mo[f]?,ct c st o.type x with
   | some k,.ptr r (p::q) i=>match st.cells r (p::q) with
    | some cs=>some (pr.ne cs,st.put o.dst (.ptr r (p::q) (i+k)))
    | none=>none
   | _,_=>none
  | _=>none
 | .nilCheck x=>match ct c st o.type x with
  | .ptr r (p::q) i=>match st.cells r (p::q) with
   | some cs=>some (pr.ne cs,st.put o.dst (.ptr r (p::q) i))
   | none=>none
  | _=>none
 | .store t a x=>match c.ty t with
  | some i=>match ct c st o.type a with
   | .ptr r [p] j=>if (i.size==1&&v7 (ct c st t x))=true then none else
    if (cellsOf (ct c st t x)).length=i.size then match st.cells r [p] with
     | some cs=>match oE pr r p st j id i.zero (cellsOf (ct c st t x)) with
      | some (g,st')=>some (br (pr.ne cs) g false,st'.put o.dst (.aM []))
      | none=>none
     | none=>none
    else none
   | _=>none
  | none=>none
 | _=>none
end
theorem JC {s o:Nat} {cs:List D} (h:ad.kL s cs o=true):cs[o]?=some (.sl none s (ad.aD cs o) (ad.aF cs o)):=by
 simp only [ad] at h ⊢;split at h
 ·rename_i s' n ys he;have:s'=s:=by simpa using h
  subst this;rw [he];rfl
 ·simp at h
theorem JD {st:St} {r:Nat} {q:List Nat} {cs:List D} (hc:st.cells r q=some cs) (h:ad.ne cs=true):live st r q=true:=by
 unfold live;rw [hc];cases cs with
 | nil=>simp [ad] at h
 | cons _ _=>rfl
theorem acy {cs:List D} {o:Nat} (h:ad.slot cs o=true):∃ bY,cs[o]?=some bY/\gE bY=false:=by
 simp only [ad] at h;split at h
 ·rename_i bY he;exact ⟨bY,he,by simpa using h⟩
 ·simp at h
theorem acz {st cu:St} {r p o:Nat} {z d:D} {cs:List D} {f:D->D} (hc:st.cells r [p]=some cs) (h:YV ad st r p o z d cs=some (true,cu,f)):st.r9 r [p] o d=some (cu,f):=by
 have cO:st.cell r [p] o=cs[o]?:=by unfold St.cell; rw [hc]
 have scalar:∀ {cu:St} {f:D->D},(if gE d then none else some (ad.slot cs o,st,(id:D->D)))=some (true,cu,f)->st.r9 r [p] o d=some (cu,f):=by
  intro cu f h;split at h
  ·simp at h
  rename_i hd;simp only [jf,tE] at h;obtain ⟨h1,rfl,rfl⟩:=h;obtain ⟨bY,h2,h3⟩:=acy h1;unfold St.r9;rw [cO,h2];simp only [h3,aai,if_false];rw [if_neg hd]
 unfold YV at h;split at h
 ·simp only [jf,tE] at h;obtain ⟨h1,rfl,rfl⟩:=h;unfold St.r9;rw [cO,JC h1];simp [gE]
 ·exact scalar h
 ·exact scalar h
 ·exact scalar h
 ·simp at h
theorem BY {r p:Nat}:∀ {zs ds:List D} {st:St} {o:Nat} {h:D->D} {g:Bool} {st':St},oE ad r p st o h zs ds=some (g,st')->g=true->fE st r [p] o h ds=some st'
 | [],[],st,o,h,g,st',hu,hg=>by
  simp only [oE,jf,tE] at hu;obtain ⟨_,rfl⟩:=hu;rfl
 | [],_::_,st,o,h,g,st',hu,hg=>by simp [oE] at hu
 | _::_,[],st,o,h,g,st',hu,hg=>by simp [oE] at hu
 | z::zs,d::ds,st,o,h,g,st',hu,hg=>by
  simp only [oE] at hu;split at hu
  ·simp at hu
  rename_i yz;split at hu
  case h_2=>simp at hu
  rename_i d' aQ dH;split at hu
  ·simp at hu
  rename_i iu;split at hu
  case h_2=>simp at hu
  rename_i cs ed;split at hu
  case h_2=>simp at hu
  rename_i g1 cu f dX;split at hu
  case h_2=>simp at hu
  rename_i Eo iN;split at hu
  case h_2=>simp at hu
  rename_i g2 st4 Qe;simp only [jf,tE] at hu;obtain ⟨rfl,rfl⟩:=hu;obtain ⟨rfl,rfl⟩:=my hg;have ajq:Bk r [p] o (h d)=false:=by simpa using yz
  simp only [fE,ajq,abL,aai,if_false,dH];rw [if_neg iu];simp only [acz ed dX,iN];exact BY Qe rfl
theorem afc {c:cA} {cl:FuncId->List D->Option (D × List D)} {ci:FuncId->List D->Nat->St->Option (D × St)} {aA:FuncId} {st st':St} {o:Oper} {g:Bool} (h:opE ad c st o=some (g,st')) (hg:g=true):fb c cl ci aA st o=some st':=by
 unfold opE at h;unfold fb;split at h
 ·rename_i s x f ho;simp only [ho];split at h
  case h_2=>simp at h
  rename_i mo szs a b z mq;rw [mq];simp only;split at h
  case h_2=>simp at h
  rename_i k r p q i hk hx;rw [hk,hx];simp only;split at h
  case h_2=>simp at h
  rename_i cs ed;simp only [jf,tE] at h;obtain ⟨rfl,rfl⟩:=h;simp only [yr,JD ed hg,if_true]
 ·rename_i x ho;simp only [ho];split at h
  case h_2=>simp at h
  rename_i r p q i hx;rw [hx];simp only;split at h
  case h_2=>simp at h
  rename_i cs ed;simp only [jf,tE] at h;obtain ⟨rfl,rfl⟩:=h;simp only [JD ed hg,if_true]
 ·rename_i t a x ho;simp only [ho];split at h
  case h_2=>simp at h
  rename_i i hi;rw [hi];simp only;split at h
  case h_2=>simp at h
  rename_i r p j ha;rw [ha];split at h
  ·simp at h
  split at h
  case isFalse=>simp at h
  rename_i hlen;split at h
  case h_2=>simp at h
  rename_i cs ed;split at h
  case h_2=>simp at h
  rename_i g1 aQ Fk;simp only [jf,tE] at h;obtain ⟨rfl,rfl⟩:=h;obtain ⟨h1,rfl⟩:=my hg;simp only [vz,hlen,JD ed h1,and_self,if_true,BY Fk rfl]
 ·simp at h
section
variable (pr:dC)
def tV (st:St) (h:D->D):List D->List D->Option (Bool × St × (D->D))
 | [],_=>some (true,st,h)
 | _::_,[]=>none
 | a::aa,d::ds=>
  match h a,d with
  | .ref r q o none,.sl none s n cs=>match st.cell r q o with
   | some (.hole s0 n0)=>if s0=s then
     (match (st.eZ (cB r q o false)).gZ r q o (.sl none s n cs) with
      | some st'=>(match tV st' (fun x=>cB r q o false (h x)) aa ds with
       | some (g,p)=>some (br (pr.neq n0 n) g false,p)
       | none=>none)
      | none=>none)
    else none
   | _=>none
  | _,_=>tV st h aa ds
def Qf (st:St) (h:D->D) (a out:D):Option (Bool × St × (D->D)):=
 match a,out with
 | .agg cs,.agg ds=>tV pr st h cs ds
 | .ptr r [] 0,.aZ ds=>match lk st.rt r with
  | some []=>some (true,{ st.eZ (eC r) with rt:=pz (st.eZ (eC r)).rt r ds },fun x=>eC r (h x))
  | _=>none
 | a,d=>tV pr st h [a] [d]
def oF (st:St) (h:D->D):List Bool->List D->List D->Option (Bool × St)
 | _,[],_=>some (true,st)
 | b,a::aa,o::os=>if b.headD false then match Qf pr st h a o with
   | some (g,st',h')=>(match oF st' h' b.tail aa os with
    | some (g',zy)=>some (br g g' false,zy)
    | none=>none)
   | none=>none
  else oF st h b.tail aa os
 | _,_::_,[]=>none
end
theorem xH:∀ {aa ds:List D} {st:St} {h:D->D} {g:Bool} {p:St × (D->D)},tV ad st h aa ds=some (g,p)->g=true->pX st h aa ds=some p
 | [],ds,st,h,g,p,hu,_=>by
  simp only [tV,jf,tE] at hu;obtain ⟨_,rfl⟩:=hu;rfl
 | a::aa,[],st,h,g,p,hu,_=>by simp [tV] at hu
 | a::aa,d::ds,st,h,g,p,hu,hg=>by
  simp only [tV] at hu;simp only [pX];split at hu
  ·rename_i r q o s n cs ha;rw [ha];simp only;split at hu
   ·rename_i s0 n0 hc;rw [hc];simp only;split at hu
    case isFalse=>simp at hu
    rename_i hs;split at hu
    case h_2=>simp at hu
    rename_i st' iN;split at hu
    case h_2=>simp at hu
    rename_i g1 p1 Qe;simp only [jf,tE] at hu;obtain ⟨rfl,rfl⟩:=hu;obtain ⟨h1,rfl⟩:=my hg;have hn:n0=n:=by simpa [ad] using h1
    rw [if_pos ⟨hs,hn⟩,iN];exact xH Qe rfl
   ·simp at hu
  ·rename_i hx;split
   ·rename_i r q o s n cs ha;exact absurd rfl (hx r q o s n cs ha)
   ·exact xH hu hg
theorem V3 {st:St} {h:D->D} {a out:D} {g:Bool} {p:St × (D->D)} (hu:Qf ad st h a out=some (g,p)) (hg:g=true):Dh st h a out=some p:=by
 unfold Qf at hu;unfold Dh;split at hu
 ·exact xH hu hg
 ·split at hu
  ·rename_i he;simp only [jf,tE] at hu;obtain ⟨_,rfl⟩:=hu;simp only [he]
  ·simp at hu
 ·rename_i h1 h2;split
  ·rename_i cs ds; exact absurd rfl (h1 cs ds rfl)
  ·rename_i r ds; exact absurd rfl (h2 r ds rfl)
  ·exact xH hu hg
theorem wa:∀ {aa:List D} {b:List Bool} {os:List D} {st:St} {h:D->D} {g:Bool} {st':St},oF ad st h b aa os=some (g,st')->g=true->iJ st h b aa os=some st'
 | [],b,os,st,h,g,st',hu,_=>by
  simp only [oF,jf,tE] at hu;obtain ⟨_,rfl⟩:=hu;rfl
 | a::aa,b,[],st,h,g,st',hu,_=>by simp [oF] at hu
 | a::aa,b,o::os,st,h,g,st',hu,hg=>by
  simp only [oF] at hu;simp only [iJ];split at hu
  ·rename_i hb;rw [if_pos hb];split at hu
   case h_2=>simp at hu
   rename_i g1 aQ h1 G4;split at hu
   case h_2=>simp at hu
   rename_i g2 cu Qe;simp only [jf,tE] at hu;obtain ⟨rfl,rfl⟩:=hu;obtain ⟨rfl,rfl⟩:=my hg;rw [V3 G4 rfl];exact wa Qe rfl
  ·rename_i hb;rw [if_neg hb];exact wa hu hg
def DB:D->Bool
 | .sl (some true) _ _ _=>true
 | _=>false
def nlC (pr:dC):D->Bool
 | .sl _ _ _ cs=>pr.nl cs
 | _=>true
def YW (f:D->Bool):List D->Bool
 | []=>true
 | d::ds=>br (f d) (YW f ds) false
def p9:List Bool->List D->Bool
 | _,[]=>false
 | b,d::ds=>(b.headD false&&(ch d).any DB)||p9 b.tail ds
def nlG (pr:dC):List Bool->List D->Bool
 | _,[]=>true
 | b,d::ds=>br (if b.headD false then YW (nlC pr) (ch d) else true) (nlG pr b.tail ds) false
theorem SJ {f:D->Bool}:∀ {ds:List D},YW f ds=true->∀ d∈ds,f d=true
 | [],_=>by simp
 | d::ds,h=>by
  obtain ⟨h1,h2⟩:=my h;intro x hx;rcases aap.1 hx with rfl | hx
  ·exact h1
  ·exact SJ h2 x hx
theorem Hj:∀ {b:List Bool} {ds:List D},p9 b ds=true->fF b ds=true
 | _,[],h=>by simp [p9] at h
 | b,d::ds,h=>by
  simp only [p9,abv,Bh] at h;simp only [fF,abv,Bh];rcases h with ⟨h1,h2⟩ | h
  ·refine .inl ⟨h1,?_⟩;obtain ⟨x,hx,hl⟩:=List.any_eq_true.1 h2;cases dR:(ch d).all cg with
   | false=>rfl
   | true=>
    have:=aac.1 dR x hx;unfold DB at hl;split at hl
    ·simp [cg] at this
    ·simp at hl
  ·exact .inr (Hj h)
theorem ET:∀ {b:List Bool} {ds:List D},p9 b ds=false->nlG ad b ds=true->fF b ds=false
 | _,[],_,_=>rfl
 | b,d::ds,h,hn=>by
  simp only [p9,abF] at h;simp only [nlG] at hn;obtain ⟨h1,h2⟩:=my hn;simp only [fF,abF];refine ⟨?_,ET h.2 h2⟩;cases hb:b.headD false with
  | false=>rfl
  | true=>
   rw [hb] at h1;simp only [if_true] at h1;have h3:=SJ h1;have h4:(ch d).any DB=false:=by have:=h.1; rw [hb] at this; simpa using this
   have:(ch d).all cg=true:=by
    rw [aac];intro x hx;have h5:=h3 x hx;have h6:DB x=false:=by
     cases hl:DB x with
     | false=>rfl
     | true=>rw [List.any_eq_true.2 ⟨x,hx,hl⟩] at h4; simp at h4
    cases x with
    | sl g s n cs=>
     cases g with
     | none=>simpa [cg,nlC,ad] using h5
     | some g=>
      cases g with
      | false=>simpa [cg,nlC,ad] using h5
      | true=>simp [DB] at h6
    | _=>simp [cg]
   rw [this];rfl
def bs (l:List UInt8):ByteArray:=⟨l.toArray⟩
def ints (xs:List Int):List D:=xs.map (.int .i64)
def bytes (xs:List UInt8):List D:=xs.map dP
def bB (xs:List Bool):List D:=xs.map .bool
def ab {α:Type} (e:α->List D) (xs:List α):List D:=xs.flatMap e
structure bn where
 aP:List Int
 bits:List (List Int)
 dk:Bool
 bY:Bool
 held:Bool
 last:Int
structure bf where
 a:List UInt8
 b:List UInt8
structure ae where
 id:Int
 up:Bool
 cQ:Bool
 image:List Int
 mt:bn
 cE:bf
 conn:List Bool
 sync:List (List Int)
 bU:List Bool
 wait:List Int
abbrev sI (g:Option Bool) (xs:List Int):D:=.sl g 1 xs.length (ints xs)
abbrev s8 (g:Option Bool) (xs:List UInt8):D:=.sl g 1 xs.length (bytes xs)
abbrev sB (g:Option Bool) (xs:List Bool):D:=.sl g 1 xs.length (bB xs)
def rows (g:Option Bool) (xss:List (List Int)):List D:=xss.map fun xs=>.sl g 1 xs.length (ints xs)
abbrev sR (g:Option Bool) (xss:List (List Int)):D:=.sl g 1 xss.length (rows g xss)
abbrev cL (g:Option Bool) (m:bn):List D:=[sI g m.aP,sR g m.bits,.bool m.dk,.bool m.bY,.bool m.held,.int .i64 m.last]
abbrev eH (g:Option Bool) (s:bf):List D:=[s8 g s.a,s8 g s.b]
abbrev U (g:Option Bool) (n:ae):List D:=[.int .i64 n.id,.bool n.up,.bool n.cQ,sI g n.image,sI g n.mt.aP,sR g n.mt.bits,.bool n.mt.dk,.bool n.mt.bY,.bool n.mt.held,.int .i64 n.mt.last,s8 g n.cE.a,s8 g n.cE.b,sB g n.conn,sR g n.sync,sB g n.bU,sI g n.wait]
structure dn where
 src:Int
 dst:Int
 bytes:List UInt8
structure fe where
 cell:Int
 up:Int
structure ak where
 nodes:List ae
 aH:List dn
 log:List fe
 safe:List Int
 gen:Int
abbrev aB (g:Option Bool) (x:dn):List D:=[.int .i64 x.src,.int .i64 x.dst,s8 g x.bytes]
abbrev bj (_:Option Bool) (r:fe):List D:=[.int .i64 r.cell,.int .i64 r.up]
abbrev sN (g:Option Bool) (xs:List ae):D:=.sl g 16 xs.length (ab (U g) xs)
abbrev sW (g:Option Bool) (xs:List dn):D:=.sl g 3 xs.length (ab (aB g) xs)
abbrev sK (g:Option Bool) (xs:List fe):D:=.sl g 2 xs.length (ab (bj g) xs)
abbrev bM (g:Option Bool) (w:ak):List D:=[sN g w.nodes,sW g w.aH,sK g w.log,sI g w.safe,.int .i64 w.gen]
structure wb where
 kind:Int
 cell:Int
 val:Int
 who:Int
 aP:List Int
structure z7 where
 src:Int
 dst:Int
 msg:wb
structure rD where
 kind:Int
 a:Int
 b:Int
abbrev JE (g:Option Bool) (m:wb):List D:=[.int .i64 m.kind,.int .i64 m.cell,.int .i64 m.val,.int .i64 m.who,sI g m.aP]
abbrev DC (g:Option Bool) (p:z7):List D:=[.int .i64 p.src,.int .i64 p.dst,.int .i64 p.msg.kind,.int .i64 p.msg.cell,.int .i64 p.msg.val,.int .i64 p.msg.who,sI g p.msg.aP]
abbrev DD (_:Option Bool) (d:rD):List D:=[.int .i64 d.kind,.int .i64 d.a,.int .i64 d.b]
abbrev sP (g:Option Bool) (xs:List z7):D:=.sl g 7 xs.length (ab (DC g) xs)
abbrev sM (g:Option Bool) (xs:List wb):D:=.sl g 5 xs.length (ab (JE g) xs)
abbrev sD (g:Option Bool) (xs:List rD):D:=.sl g 3 xs.length (ab (DD g) xs)
inductive gW where
 | I | B | L | R | mt | cE | node | msg | post | world | JF | yg | Ns | Ws | Ks | Ps | Ms | Ds
abbrev gW.T:gW->Type
 | .I=>List Int
 | .B=>List UInt8
 | .L=>List Bool
 | .R=>List (List Int)
 | .mt=>bn
 | .cE=>bf
 | .node=>ae
 | .msg=>wb
 | .post=>z7
 | .world=>ak
 | .JF=>rD
 | .yg=>dn
 | .Ns=>List ae
 | .Ws=>List dn
 | .Ks=>List fe
 | .Ps=>List z7
 | .Ms=>List wb
 | .Ds=>List rD
def enc:(k:gW)->k.T->D
 | .I,x=>sI none x
 | .B,x=>s8 none x
 | .L,x=>sB none x
 | .R,x=>sR none x
 | .mt,x=>.agg (cL none x)
 | .cE,x=>.agg (eH none x)
 | .node,x=>.agg (U none x)
 | .msg,x=>.agg (JE none x)
 | .post,x=>.agg (DC none x)
 | .world,x=>.agg (bM none x)
 | .JF,x=>.agg (DD none x)
 | .yg,x=>.agg (aB none x)
 | .Ns,x=>sN none x
 | .Ws,x=>sW none x
 | .Ks,x=>sK none x
 | .Ps,x=>sP none x
 | .Ms,x=>sM none x
 | .Ds,x=>sD none x
theorem map_inj {α:Type} {f:α->D} (h:∀ a b,f a=f b->a=b):∀ {xs ys:List α},xs.map f=ys.map f->xs=ys
 | [],[],_=>rfl
 | [],_::_,e=>by simp at e
 | _::_,[],e=>by simp at e
 | x::xs,y::ys,e=>by
  simp only [aaM,aaF] at e;rw [h _ _ e.1,map_inj h e.2]
theorem mT {xs ys:List Int} (h:ints xs=ints ys):xs=ys:=map_inj (fun a b e=>by simpa using e) h
theorem bytes_inj {xs ys:List UInt8} (h:bytes xs=bytes ys):xs=ys:=map_inj (fun a b e=>by
 simp only [dP,D.int.injEq,true_and] at e;exact UInt8.toNat_inj.1 (by omega)) h
theorem BZ {xs ys:List Bool} (h:bB xs=bB ys):xs=ys:=map_inj (fun a b e=>by simpa using e) h
theorem z8 {g:Option Bool} {xs ys:List (List Int)} (h:rows g xs=rows g ys):xs=ys:=map_inj (fun a b e=>by
 simp only [D.sl.injEq] at e;exact mT e.2.2.2) h
theorem Qg {α:Type} {e:α->List D} {w:Nat} (hw:∀ x,(e x).length=w) (h:∀ a b,e a=e b->a=b):∀ {xs ys:List α},xs.length=ys.length->ab e xs=ab e ys->xs=ys
 | [],[],_,_=>rfl
 | [],_::_,hl,_=>by simp at hl
 | _::_,[],hl,_=>by simp at hl
 | x::xs,y::ys,hl,he=>by
  simp only [ab,abo] at he;have h1:=List.append_inj he (by rw [hw,hw])
  rw [h _ _ h1.1,Qg hw h (by simpa using hl) h1.2]
theorem V4 {g:Option Bool} {a b:bn} (h:cL g a=cL g b):a=b:=by
 obtain ⟨a1,a2,a3,a4,a5,a6⟩:=a;obtain ⟨b1,b2,b3,b4,b5,b6⟩:=b;simp only [aaF,D.sl.injEq,D.bool.injEq,D.int.injEq,true_and,and_true] at h;rw [mT h.1.2,z8 h.2.1.2,h.2.2.1,h.2.2.2.1,h.2.2.2.2.1,h.2.2.2.2.2]
theorem Ub {g:Option Bool} {a b:bf} (h:eH g a=eH g b):a=b:=by
 obtain ⟨a1,a2⟩:=a;obtain ⟨b1,b2⟩:=b;simp only [aaF,D.sl.injEq,true_and,and_true] at h;rw [bytes_inj h.1.2,bytes_inj h.2.2]
theorem B3 {g:Option Bool} {a b:ae} (h:U g a=U g b):a=b:=by
 obtain ⟨a1,a2,a3,a4,a5,⟨a6,a7⟩,a8,a9,a10,a11⟩:=a;obtain ⟨b1,b2,b3,b4,b5,⟨b6,b7⟩,b8,b9,ix,b11⟩:=b;obtain ⟨c1,c2,c3,c4,c5,c6⟩:=a5;obtain ⟨d1,d2,d3,d4,d5,d6⟩:=b5;simp only [aaF,D.sl.injEq,D.bool.injEq,D.int.injEq,true_and,and_true] at h;obtain ⟨h1,h2,h3,⟨_,h4⟩,⟨_,h5⟩,⟨_,h6⟩,h7,h8,h9,lT,⟨_,OO⟩,⟨_,h12⟩,⟨_,h13⟩,⟨_,h14⟩,⟨_,h15⟩,⟨_,h16⟩⟩:=h;rw [h1,h2,h3,mT h4,mT h5,z8 h6,h7,h8,h9,lT,bytes_inj OO,bytes_inj h12,BZ h13,z8 h14,BZ h15,mT h16]
theorem B4 {g:Option Bool} {a b:dn} (h:aB g a=aB g b):a=b:=by
 obtain ⟨a1,a2,a3⟩:=a;obtain ⟨b1,b2,b3⟩:=b;simp only [aaF,D.sl.injEq,D.int.injEq,true_and,and_true] at h;rw [h.1,h.2.1,bytes_inj h.2.2.2]
theorem Qh {g:Option Bool} {a b:fe} (h:bj g a=bj g b):a=b:=by
 obtain ⟨a1,a2⟩:=a;obtain ⟨b1,b2⟩:=b;simp only [aaF,D.int.injEq,true_and,and_true] at h;rw [h.1,h.2]
theorem Qi {g:Option Bool} {a b:wb} (h:JE g a=JE g b):a=b:=by
 obtain ⟨a1,a2,a3,a4,a5⟩:=a;obtain ⟨b1,b2,b3,b4,b5⟩:=b;simp only [aaF,D.sl.injEq,D.int.injEq,true_and,and_true] at h;rw [h.1,h.2.1,h.2.2.1,h.2.2.2.1,mT h.2.2.2.2.2]
theorem LV {g:Option Bool} {a b:z7} (h:DC g a=DC g b):a=b:=by
 obtain ⟨x,y,⟨a1,a2,a3,a4,a5⟩⟩:=a;obtain ⟨z,w,⟨b1,b2,b3,b4,b5⟩⟩:=b;simp only [aaF,D.sl.injEq,D.int.injEq,true_and,and_true] at h;rw [h.1,h.2.1,h.2.2.1,h.2.2.2.1,h.2.2.2.2.1,h.2.2.2.2.2.1,mT h.2.2.2.2.2.2.2]
theorem LW {g:Option Bool} {a b:rD} (h:DD g a=DD g b):a=b:=by
 obtain ⟨a1,a2,a3⟩:=a;obtain ⟨b1,b2,b3⟩:=b;simp only [aaF,D.int.injEq,true_and,and_true] at h;rw [h.1,h.2.1,h.2.2]
theorem rE {α:Type} {e:α->List D} {w s:Nat} (hw:∀ x,(e x).length=w) (h:∀ a b,e a=e b->a=b) {xs ys:List α} (he:D.sl none s xs.length (ab e xs)=.sl none s ys.length (ab e ys)):xs=ys:=by
 simp only [D.sl.injEq,true_and] at he;exact Qg hw h he.1 he.2
theorem acA:∀ {k:gW} {x y:k.T},enc k x=enc k y->x=y
 | .I,_,_,h=>mT (D.sl.inj h).2.2.2
 | .B,_,_,h=>bytes_inj (D.sl.inj h).2.2.2
 | .L,_,_,h=>BZ (D.sl.inj h).2.2.2
 | .R,_,_,h=>z8 (D.sl.inj h).2.2.2
 | .mt,_,_,h=>V4 (D.agg.inj h)
 | .cE,_,_,h=>Ub (D.agg.inj h)
 | .node,_,_,h=>B3 (D.agg.inj h)
 | .msg,_,_,h=>Qi (D.agg.inj h)
 | .post,_,_,h=>LV (D.agg.inj h)
 | .world,x,y,h=>by
  obtain ⟨a1,a2,a3,a4,a5⟩:=x;obtain ⟨b1,b2,b3,b4,b5⟩:=y;have h:=D.agg.inj h;simp only [aaF,D.int.injEq,true_and,and_true] at h;rw [rE (w:=16) (fun _=>rfl) (fun _ _=>B3) h.1,rE (w:=3) (fun _=>rfl) (fun _ _=>B4) h.2.1,rE (w:=2) (fun _=>rfl) (fun _ _=>Qh) h.2.2.1,mT (D.sl.inj h.2.2.2.1).2.2.2,h.2.2.2.2]
 | .JF,_,_,h=>LW (g:=none) (D.agg.inj h)
 | .yg,_,_,h=>B4 (D.agg.inj h)
 | .Ns,_,_,h=>rE (w:=16) (fun _=>rfl) (fun _ _=>B3) h
 | .Ws,_,_,h=>rE (w:=3) (fun _=>rfl) (fun _ _=>B4) h
 | .Ks,_,_,h=>rE (w:=2) (fun _=>rfl) (fun _ _=>Qh) h
 | .Ps,_,_,h=>rE (w:=7) (fun _=>rfl) (fun _ _=>LV) h
 | .Ms,_,_,h=>rE (w:=5) (fun _=>rfl) (fun _ _=>Qi) h
 | .Ds,_,_,h=>rE (w:=3) (fun _=>rfl) (fun _ _=>LW (g:=none)) h
theorem yK {ds:List D} (h:∀ d∈ds,cg d=true):cq ds=true:=by
 induction ds with
 | nil=>rfl
 | cons d ds ih=>
  simp only [cq,Bh];exact ⟨h d (by simp),ih fun x hx=>h x (by simp [hx])⟩
theorem tv (xs:List Int):cq (ints xs)=true:=yK (by intro d hd; obtain ⟨a,_,rfl⟩:=aam.1 hd; rfl)
theorem DE (xs:List UInt8):cq (bytes xs)=true:=yK (by intro d hd; obtain ⟨a,_,rfl⟩:=aam.1 hd; rfl)
theorem Uc (xs:List Bool):cq (bB xs)=true:=yK (by intro d hd; obtain ⟨a,_,rfl⟩:=aam.1 hd; rfl)
theorem Oq (xs:List (List Int)):cq (rows none xs)=true:=yK (by intro d hd; obtain ⟨a,_,rfl⟩:=aam.1 hd; simp [cg,tv])
theorem uZ {α:Type} {e:α->List D} (h:∀ x,cq (e x)=true) (xs:List α):cq (ab e xs)=true:=yK (by
 intro d hd;obtain ⟨a,_,ha⟩:=List.mem_flatMap.1 hd;have:=h a;generalize e a=l at this ha
 induction l with
 | nil=>simp at ha
 | cons x l ih=>
  simp only [cq,Bh] at this;rcases aap.1 ha with rfl | ha
  ·exact this.1
  ·exact ih this.2 ha)
theorem aaG (x:ae):cq (U none x)=true:=by simp [cq,cg,tv,DE,Uc,Oq]
theorem aaH (x:dn):cq (aB none x)=true:=by simp [cq,cg,DE]
theorem aaI (x:fe):cq (bj none x)=true:=by simp [cq,cg]
theorem agW (x:z7):cq (DC none x)=true:=by simp [cq,cg,tv]
theorem agX (x:wb):cq (JE none x)=true:=by simp [cq,cg,tv]
theorem agY (x:rD):cq (DD none x)=true:=by simp [cq,cg]
theorem au:∀ (k:gW) (x:k.T),dG (enc k x)=true
 | .I,x=>by simp [dG,enc,ch,dq,fD,cg,tv]
 | .B,x=>by simp [dG,enc,ch,dq,fD,cg,DE]
 | .L,x=>by simp [dG,enc,ch,dq,fD,cg,Uc]
 | .R,x=>by simp [dG,enc,ch,dq,fD,cg,Oq]
 | .mt,x=>by simp [dG,enc,ch,dq,fD,cg,tv,Oq]
 | .cE,x=>by simp [dG,enc,ch,dq,fD,cg,DE]
 | .node,x=>by simp [dG,enc,ch,dq,fD,cg,tv,DE,Uc,Oq]
 | .msg,x=>by simp [dG,enc,ch,dq,fD,cg,tv]
 | .post,x=>by simp [dG,enc,ch,dq,fD,cg,tv]
 | .world,x=>by simp [dG,enc,ch,dq,fD,cg,tv,uZ aaG,uZ aaH,uZ aaI]
 | .JF,x=>by simp [dG,enc,ch,dq,fD,cg]
 | .yg,x=>by simp [dG,enc,ch,dq,fD,cg,DE]
 | .Ns,x=>by simp [dG,enc,ch,dq,fD,cg,uZ aaG]
 | .Ws,x=>by simp [dG,enc,ch,dq,fD,cg,uZ aaH]
 | .Ks,x=>by simp [dG,enc,ch,dq,fD,cg,uZ aaI]
 | .Ps,x=>by simp [dG,enc,ch,dq,fD,cg,uZ agW]
 | .Ms,x=>by simp [dG,enc,ch,dq,fD,cg,uZ agX]
 | .Ds,x=>by simp [dG,enc,ch,dq,fD,cg,uZ agY]
def SK (v:D):Bool:=(match v with | .agg cs=>cs | d=>[d]).all fun x=>fD x&&cg x
theorem aR:dG (.aM [])=true:=rfl
theorem aS (v:D) (vs:List D):dG (.aM (v::vs))=(SK v&&dG (.aM vs)):=by
 simp only [dG,ch,dq,abo,List.all_append,SK];rfl
theorem bq (k:gW) (x:k.T):SK (enc k x)=true:=by
 have:=au k x;cases k<;>exact this
theorem bt (k:IntKind) (n:Int):SK (.int k n)=true:=rfl
theorem aT (b:Bool):SK (.bool b)=true:=rfl
theorem bu (b:ByteArray):SK (.str b)=true:=rfl
inductive RS where
 | int (k:IntKind)
 | bool
 | str
 | sl (s:Nat)
 | dc (s:Nat)
 | undef
 | agg (l:List RS)
 | aM (l:List RS)
 | aZ (l:List RS)
 | ty (k:gW)
inductive bO (R:Type) where
 | done (x:Option R)
 | int (f:Int->bO R)
 | bool (f:Bool->bO R)
 | str (f:ByteArray->bO R)
 | sl (f:Nat->List D->bO R)
 | dc (f:Bool->Nat->List D->bO R)
 | ty (k:gW) (f:k.T->bO R)
section
variable {R:Type}
mutual
def rF:RS->(D->bO R)->bO R
 | .int k,f=>.int fun x=>f (.int k x)
 | .bool,f=>.bool fun x=>f (.bool x)
 | .str,f=>.str fun x=>f (.str x)
 | .sl s,f=>.sl fun n cs=>f (.sl none s n cs)
 | .dc s,f=>.dc fun _ n cs=>f (.sl (some false) s n cs)
 | .undef,f=>f .undef
 | .agg l,f=>B5 l fun ds=>f (.agg ds)
 | .aM l,f=>B5 l fun ds=>f (.aM ds)
 | .aZ l,f=>B5 l fun ds=>f (.aZ ds)
 | .ty k,f=>.ty k fun x=>f (enc k x)
def B5:List RS->(List D->bO R)->bO R
 | [],f=>f []
 | s::ss,f=>rF s fun d=>B5 ss fun ds=>f (d::ds)
end
open Classical in
noncomputable def feed:bO R->List D->Option R
 | .done x,_=>x
 | .int f,.int _ n::l=>feed (f n) l
 | .bool f,.bool b::l=>feed (f b) l
 | .str f,.str s::l=>feed (f s) l
 | .sl f,.sl none _ n cs::l=>feed (f n cs) l
 | .dc f,.sl (some g) _ n cs::l=>feed (f g n cs) l
 | .ty k f,d::l=>if h:∃ x,d=enc k x then feed (f (Classical.choose h)) l else none
 | _,_=>none
end
mutual
def ta:D->List D
 | .agg ds=>xI ds
 | .aM ds=>xI ds
 | .aZ ds=>xI ds
 | .undef=>[]
 | d=>[d]
def xI:List D->List D
 | []=>[]
 | d::ds=>ta d++xI ds
end
open Classical in
mutual
noncomputable def ff:RS->D->Bool
 | .int k,.int k' _=>fk k k'
 | .bool,.bool _=>true
 | .str,.str _=>true
 | .sl s,.sl none s' _ _=>s==s'
 | .dc s,.sl (some false) s' _ _=>s==s'
 | .undef,.undef=>true
 | .agg l,.agg ds=>jZ l ds
 | .aM l,.aM ds=>jZ l ds
 | .aZ l,.aZ ds=>jZ l ds
 | .ty k,d=>decide (∃ x,d=enc k x)
 | _,_=>false
noncomputable def jZ:List RS->List D->Bool
 | [],[]=>true
 | s::ss,d::ds=>ff s d&&jZ ss ds
 | _,_=>false
end
open Classical in
theorem av (k:gW) (x:k.T):ff (.ty k) (enc k x)=true:=by
 simp only [ff];exact decide_eq_true ⟨x,rfl⟩
theorem bw (k:IntKind) (n:Int):ff (.int k) (.int k n)=true:=by simp [ff,fk]
theorem aU (b:Bool):ff .bool (.bool b)=true:=by simp [ff]
theorem bz (b:ByteArray):ff .str (.str b)=true:=by simp [ff]
theorem bA (l:List RS) (ds:List D):ff (.aM l) (.aM ds)=jZ l ds:=by simp [ff]
theorem aj:jZ [] []=true:=by simp [jZ]
theorem af (s:RS) (ss:List RS) (d:D) (ds:List D):jZ (s::ss) (d::ds)=(ff s d&&jZ ss ds):=by simp [jZ]
theorem aJ:ff .undef .undef=true:=by simp [ff]
mutual
def gz:RS->D->List D
 | .agg l,.agg ds=>oG l ds
 | .aM l,.aM ds=>oG l ds
 | .aZ l,.aZ ds=>oG l ds
 | .undef,_=>[]
 | _,d=>[d]
def oG:List RS->List D->List D
 | s::ss,d::ds=>gz s d++oG ss ds
 | _,_=>[]
end
mutual
def wc:RS->Bool
 | .ty _=>true
 | .agg l=>we l
 | .aM l=>we l
 | .aZ l=>we l
 | _=>false
def we:List RS->Bool
 | []=>false
 | s::ss=>wc s||we ss
end
mutual
theorem Qj:∀ {s:RS} {d:D},ff s d=true->wc s=false->gz s d=ta d
 | .int k,d,h,_=>by cases d<;>simp [ff,fk] at h; simp [gz,ta]
 | .bool,d,h,_=>by cases d<;>simp [ff] at h; simp [gz,ta]
 | .str,d,h,_=>by cases d<;>simp [ff] at h; simp [gz,ta]
 | .sl s,d,h,_=>by cases d<;>simp [ff] at h; simp [gz,ta]
 | .dc s,d,h,_=>by cases d<;>simp [ff] at h; simp [gz,ta]
 | .undef,d,h,_=>by cases d<;>simp [ff] at h; simp [gz,ta]
 | .ty k,d,h,ht=>by simp [wc] at ht
 | .agg ss,d,h,ht=>by
  cases d with
  | agg ds=>rw [gz,ta]; exact tW (by simpa [ff] using h) (by simpa [wc] using ht)
  | _=>simp [ff] at h
 | .aM ss,d,h,ht=>by
  cases d with
  | aM ds=>rw [gz,ta]; exact tW (by simpa [ff] using h) (by simpa [wc] using ht)
  | _=>simp [ff] at h
 | .aZ ss,d,h,ht=>by
  cases d with
  | aZ ds=>rw [gz,ta]; exact tW (by simpa [ff] using h) (by simpa [wc] using ht)
  | _=>simp [ff] at h
theorem tW:∀ {ss:List RS} {ds:List D},jZ ss ds=true->we ss=false->oG ss ds=xI ds
 | [],ds,h,_=>by
  cases ds with
  | nil=>rfl
  | cons d ds=>simp [jZ] at h
 | s::ss,ds,h,ht=>by
  cases ds with
  | nil=>simp [jZ] at h
  | cons d ds=>
   simp only [jZ,Bh] at h;simp only [we,abF] at ht;rw [oG,xI,Qj h.1 ht.1,tW h.2 ht.2]
end
section
variable {R:Type}
open Classical in
theorem JG (k:gW) (f:k.T->bO R) (x:k.T) (l:List D):feed (.ty k f) (enc k x::l)=feed (f x) l:=by
 have h:∃ y,enc k x=enc k y:=⟨x,rfl⟩;have e:Classical.choose h=x:=(acA (Classical.choose_spec h)).symm;show (if h:∃ y,enc k x=enc k y then feed (f (Classical.choose h)) l else none)=_
 rw [dif_pos h,e]
mutual
theorem tX:∀ {s:RS} {d:D} (f:D->bO R) (l:List D),ff s d=true->feed (rF s f) (gz s d++l)=feed (f d) l
 | .int k,d,f,l,h=>by
  cases d<;>simp [ff,fk] at h
  subst h;simp [rF,gz,feed]
 | .bool,d,f,l,h=>by
  cases d<;>simp [ff] at h
  simp [rF,gz,feed]
 | .str,d,f,l,h=>by
  cases d<;>simp [ff] at h
  simp [rF,gz,feed]
 | .sl s,d,f,l,h=>by
  cases d with
  | sl g s' n cs=>cases g with
   | none=>simp [ff] at h; subst h; simp [rF,gz,feed]
   | some g=>simp [ff] at h
  | _=>simp [ff] at h
 | .dc s,d,f,l,h=>by
  cases d with
  | sl g s' n cs=>cases g with
   | none=>simp [ff] at h
   | some g=>cases g with
    | true=>simp [ff] at h
    | false=>simp [ff] at h; subst h; simp [rF,gz,feed]
  | _=>simp [ff] at h
 | .undef,d,f,l,h=>by
  cases d<;>simp [ff] at h
  simp [rF,gz]
 | .agg ss,d,f,l,h=>by
  cases d with
  | agg ds=>rw [rF,gz]; exact mJ _ l (by simpa [ff] using h)
  | _=>simp [ff] at h
 | .aM ss,d,f,l,h=>by
  cases d with
  | aM ds=>rw [rF,gz]; exact mJ _ l (by simpa [ff] using h)
  | _=>simp [ff] at h
 | .aZ ss,d,f,l,h=>by
  cases d with
  | aZ ds=>rw [rF,gz]; exact mJ _ l (by simpa [ff] using h)
  | _=>simp [ff] at h
 | .ty k,d,f,l,h=>by
  have h:∃ x,d=enc k x:=by simpa [ff] using h
  obtain ⟨x,rfl⟩:=h;rw [rF,gz,abp]
  ·exact JG k _ x l
  all_goals simp
theorem mJ:∀ {ss:List RS} {ds:List D} (f:List D->bO R) (l:List D),jZ ss ds=true->feed (B5 ss f) (oG ss ds++l)=feed (f ds) l
 | [],ds,f,l,h=>by
  cases ds with
  | nil=>rfl
  | cons d ds=>simp [jZ] at h
 | s::ss,ds,f,l,h=>by
  cases ds with
  | nil=>simp [jZ] at h
  | cons d ds=>
   simp only [jZ,Bh] at h;rw [B5,oG,aay,tX _ _ h.1,mJ _ _ h.2]
end
end
noncomputable def ma (c:cA) (P:Program) (f:FuncId) (ds:List D):Option (D × List D):=by
 classical exact if h:∃ r,Comes c P f ds r then some (Classical.choose h) else none
theorem YX {c:cA} {P:Program} {f:FuncId} {ds:List D} {r:D × List D} (h:ma c P f ds=some r):Comes c P f ds r:=by
 unfold ma at h;split at h
 ·rename_i hh;rw [jf] at h;rw [<- h];exact Classical.choose_spec hh
 ·simp at h
theorem V5 {c:cA} {P:Program} {f:FuncId} {ds:List D} {r r':D × List D} (h:Comes c P f ds r) (h':Comes c P f ds r'):r=r':=by
 obtain ⟨k,hk⟩:=Ev.and h h';have h3:=hk k (aav _);exact abO (h3.1.symm.trans h3.2)
theorem Qk {c:cA} {P:Program} {f:FuncId} {ds:List D} {r:D × List D} (h:Comes c P f ds r):ma c P f ds=some r:=by
 unfold ma;rw [dif_pos ⟨r,h⟩];exact congrArg some (V5 (Classical.choose_spec (⟨r,h⟩:∃ r,Comes c P f ds r)) h)
structure Sg where
 sig:FuncId->Option (RS × List RS)
 em:FuncId->Bool
abbrev Cv (R:Type):=FuncId->List D->bO R->Option R
noncomputable def eL {R:Type} (c:cA) (P:Program) (sg:Sg):Cv R:=fun g ds t=>
 if g=999999 then feed t ds else
 match ma c P g ds,sg.sig g with
 | some (r,outs),some (s,ss)=>if ff s r&&jZ ss outs&&(!(wc s||we ss)||(dG r&&outs.all dG)) then feed t (gz s r++(oG ss outs++[])) else none
 | _,_=>none
theorem agZ {R:Type} {c:cA} {P:Program} {sg:Sg} {g:FuncId} {ds:List D} {r:D} {outs:List D} (t:bO R) (h:Comes c P g ds (r,outs)) (hs:(match sg.sig g with | some (s,ss)=>ff s r&&jZ ss outs&&!(wc s||we ss) | none=>false)=true) (hg:g≠999999):eL c P sg g ds t=feed t (ta r++(xI outs++[])):=by
 unfold eL;rw [if_neg hg,Qk h];split at hs
 ·rename_i s ss hg;rw [hg];simp only [Bh,abb,abF] at hs;simp only [hs,tC,Bool.or_self,Bool.not_false,Bool.true_or,if_true];rw [Qj hs.1.1 hs.2.1,tW hs.1.2 hs.2.2]
 ·simp at hs
theorem ag0 {R:Type} {c:cA} {P:Program} {sg:Sg} {g:FuncId} {ds:List D} {r:D} {outs:List D} {s:RS} {ss:List RS} (t:bO R) (h:Comes c P g ds (r,outs)) (hs:sg.sig g=some (s,ss)) (h1:ff s r=true) (h2:jZ ss outs=true) (h3:dG r=true) (h4:outs.all dG=true) (hg:g≠999999):eL c P sg g ds t=feed t (gz s r++(oG ss outs++[])):=by
 unfold eL;rw [if_neg hg,Qk h,hs];simp only [h1,h2,h3,h4,tC,Bool.or_true,if_true]
def St.Ql (st:St) (r p:Nat) (zs:List D):Option St:=
 match lk st.rt r with
 | some l=>match l[p]? with
  | some (.sl none s n _)=>some { st with rt:=VT st.rt r (l.set p (.sl none s n zs)) }
  | _=>none
 | none=>none
theorem RB {st:St} {r p:Nat} {ys:List D} (h:st.cells r [p]=some ys):st.Ql r p ys=some st:=by
 unfold St.cells at h;unfold St.Ql;split at h
 case h_2=>simp at h
 rename_i l hl;simp only [jS] at h;split at h
 case h_2=>simp at h
 rename_i s n xs hp;simp only [jf] at h;subst h;simp only [hl,hp];have e:l.set p (.sl none s n xs)=l:=by
  apply abN;intro i;rw [af4];split
  ·rename_i hi;subst hi;rw [if_pos (aaa.1 hp).1,hp]
  ·rfl
 rw [e,FK _ _ _ hl]
section
variable {R:Type} (pr:dC) (c:cA) (sg:Sg) (cv:Cv R) (J:Nat->St->Option R) (aA:FuncId)
def Ot (cu:St) (t:Bool) (dst:Option Nat) (r:D) (k:St->Option R):Option R:=
 match dst with
 | some i=>k ((cu.qZ (cu.of+i) (if t then hC true r else r)).1.put (some i) (cu.qZ (cu.of+i) (if t then hC true r else r)).2)
 | none=>k cu
def Hk (st:St) (r p:Nat) (k:St->Option R):Option R:=
 match st.cells r [p] with
 | some ys=>cv 999999 [.sl none 0 0 ys] (.sl fun _ zs=>.done (match st.Ql r p zs with
  | some st'=>k st'
  | none=>none))
 | none=>k st
def Hl (st:St) (dst:Option Nat) (g:FuncId) (args:List D) (k:St->Option R):Option R:=
 if g=999999 then none else
 match nf st (c.own g) args,sg.sig g with
 | some (ds,aQ),some (s,ss)=>
  br (if p9 (c.own g) ds then true else nlG pr (c.own g) ds)
  (cv g (if p9 (c.own g) ds then kt (c.own g) ds else ds) (rF s fun r=>B5 ss fun outs=>.done (br (match wc s||we ss with | true=>true | false=>ES pr r&&outs.all (ES pr))
   (match oF pr aQ id (c.own g) args (if p9 (c.own g) ds then outs.map (hC true) else outs) with
    | some (q,cu)=>br q (Ot cu (p9 (c.own g) ds) dst r k) none
    | none=>none) none))) none
 | _,_=>none
def B6 (st:St) (dst:Option Nat) (g:FuncId) (sz r p o:Nat) (rest:List D) (k:St->Option R):Option R:=
 if g=999999 then none else
 match st.cells r [p],sg.sig g,(c.own g).headD false&&!(c.own g).tail.any id with
 | some cs,some (s,ss),true=>
  match st.gZ r [p] o (.hole sz (pr.aD cs o)) with
  | some aQ=>match vA aQ (c.own g).tail rest with
   | some Ou=>
    br (pr.kL sz cs o) (br (pr.nl (pr.aF cs o))
    (cv g (.sl none sz (pr.aD cs o) (pr.aF cs o)::Ou) (rF s fun res=>B5 ss fun outs=>.done (br (ES pr res&&outs.all (ES pr))
     (match outs with
      | .sl none sz' n' cs'::_=>if sz=sz'/\outs.length=rest.length+1 then (match (st.eZ (cB r [p] o false)).gZ r [p] o (.sl none sz' n' cs') with
       | some cu=>br (pr.neq (pr.aD cs o) n') (Hk cv cu r p fun cu=>Ot cu false dst res k) none
       | none=>none) else none
      | _=>none) none))) none) none
   | none=>none
  | none=>none
 | _,_,_=>none
def Ov (st:St) (o:Oper) (k:St->Option R):St->Option R:=
 if sg.em aA then (match o.op with
  | .store _ a _=>(match ct c st o.type a with
   | .ptr r [p] _=>fun st'=>Hk cv st' r p k
   | _=>k)
  | _=>k) else k
def Ud (st:St) (o:Oper) (k:St->Option R):Option R:=
 match o.op with
 | .call cc=>match cc.callee with
  | .value f=>if cc.args.size≠cc.argTypes.size then none else match ct c st o.type f with
   | .fn g gY=>if c.inl g then none else match sg.em aA,((cc.args.toList.zip cc.argTypes.toList).map fun p=>ct c st p.2 p.1)++gY with
    | true,.ref r [p] o' none::rest=>B6 pr c sg cv st o.dst g (c.esz (cc.argTypes.toList.headD 0)) r p o' rest k
    | _,args=>Hl pr c sg cv st o.dst g args k
   | _=>none
  | _=>SB pr c (fun _ _=>none) yI aA st o k
 | _=>match (if sg.em aA then opE pr c st o else none) with
  | some (g,st')=>br g (Ov c sg cv aA st o k st') none
  | none=>SB pr c (fun _ _=>none) yI aA st o (Ov c sg cv aA st o k)
def Hm (st:St) (o:Oper) (k:St->Option R):Option R:=
 match vB c aA st o with
 | true=>Ud pr c sg cv aA st o k
 | false=>none
def po (all:Array Oper):List Oper->St->(St->Option R)->Option R
 | [],st,k=>k st
 | o::rest,st,k=>match o.guard with
  | none=>Hm pr c sg cv aA st o fun st'=>po all rest st' k
  | some (j,want)=>match (all[j]?).bind (·.dst) with
   | some t=>match st.get t with
    | .bool b=>match want with
     | true=>br b (Hm pr c sg cv aA (st.lit t true) o fun st'=>po all rest st' k) (po all rest ((st.lit t false).put o.dst (.aM [])) k)
     | false=>br b (po all rest ((st.lit t true).put o.dst (.aM [])) k) (Hm pr c sg cv aA (st.lit t false) o fun st'=>po all rest st' k)
    | .aM []=>po all rest (st.put o.dst (.aM [])) k
    | _=>none
   | none=>po all rest (st.put o.dst (.aM [])) k
def jmp (i:Nat) (st:St):Option R:=match YU c aA i st with
 | some h=>J i h
 | none=>none
def rG (f:St->Option R) (k:Exit->St->Option R):Exit->St->Option R
 | .normal,st=>f st
 | x,st=>k x st
def wg (id:Nat) (k:Exit->St->Option R):Exit->St->Option R
 | .exit vD,st=>if vD=id then k .normal st else k (.exit vD) st
 | x,st=>k x st
def dK:Code->Nat->St->(Exit->St->Option R)->Option R
 | .skip,_,st,k=>k .normal st
 | .region _ ops false,_,st,k=>po pr c sg cv aA ops ops.toList st (k .normal)
 | .region _ ops true,_,st,k=>match tk c aA ops ops.size (Array.replicate ops.size false) with
  | some l=>po pr c sg cv aA ops (opsOf ops l) st (k .normal)
  | none=>none
 | .seq a b,i,st,k=>dK a i st (rG (fun st'=>dK b i st' k) k)
 | .cond x a b,i,st,k=>Oo c st x (fun st=>dK a i st k) (fun st=>dK b i st k)
 | .block id a,_,st,k=>dK a id st (wg id k)
 | .loop _,i,st,_=>jmp c J aA i st
 | .exit id,_,st,k=>k (.exit id) st
 | .ret,_,st,k=>k .ret st
 | _,_,_,_=>none
def dD:Code->Nat->(Exit->St->Option R)->Nat->Option (St->Option R)
 | .seq a b,i,k,j=>match dD a i (rG (fun st'=>dK pr c sg cv J aA b i st' k) k) j with
  | some t=>some t
  | none=>dD b i k j
 | .cond _ a b,i,k,j=>match dD a i k j with
  | some t=>some t
  | none=>dD b i k j
 | .block id a,_,k,j=>dD a id (wg id k) j
 | .loop a,i,k,j=>if i=j then some fun h=>dK pr c sg cv J aA a i h (rG (jmp c J aA i) k)
  else dD a i (rG (jmp c J aA i) k) j
 | _,_,_,_=>none
end
def mb:Code->Nat->List Nat
 | .seq a b,i=>mb a i++mb b i
 | .cond _ a b,i=>mb a i++mb b i
 | .block id a,_=>mb a id
 | .loop a,i=>i::mb a i
 | _,_=>[]
def rH:D->D
 | .aZ _=>.aZ []
 | .agg cs=>if cs.any jg then .agg [.sl none 0 0 []] else .undef
 | .sl none _ _ _=>.sl none 0 0 []
 | .aM vs=>.aM vs
 | _=>.undef
abbrev Rz:=D × List D
section
variable (pr:dC) (c:cA) (sg:Sg) (cv:Cv Rz) (J:Nat->St->Option Rz) (aA:FuncId)
def FN (fn:Func) (sk:List D) (x:Exit) (st:St):Option Rz:=UO (c.gone aA) (FJ c fn sk x st)
def u4 (fn:Func) (sk:List D) (j:Nat) (h:St):Option Rz:=
 match fn.body with
 | some body=>match dD pr c sg cv J aA body 0 (FN c aA fn sk) j with
  | some t=>t h
  | none=>none
 | none=>none
def B7 (fn:Func) (args:List D):Option Rz:=
 match fn.body with
 | some body=>dK pr c sg cv J aA body 0 (oc fn.ntmps 0 args ⟨[],[],[],0⟩) (FN c aA fn (args.map rH))
 | none=>none
end
noncomputable def Jn (c:cA) (P:Program) (sg:Sg) (f:FuncId) (fn:Func) (sk:List D):Nat->Nat->St->Option Rz
 | 0=>fun _ _=>none
 | n+1=>fun j h=>u4 ad c sg (eL c P sg) (Jn c P sg f fn sk n) f fn sk j h
def W (c:cA) (P:Program) (sg:Sg) (f:FuncId) (fn:Func) (sk:List D) (j:Nat) (h:St) (r:Rz):Prop:=∃ n,Jn c P sg f fn sk n j h=some r
theorem Ue (st:St) (r:Nat) (d:D):oY st r (rH d)=oY st r d:=by
 cases d with
 | aZ cs=>rfl
 | agg cs=>
  by_cases h:cs.any jg=true
  ·have e:rH (.agg cs)=.agg [.sl none 0 0 []]:=by simp only [rH,h,if_true]
   have h1:eS (.agg cs)=true:=h;have h2:eS (.agg [.sl none 0 0 []])=true:=rfl;rw [e];unfold oY;rw [h1,h2]
  ·have e:rH (.agg cs)=.undef:=by simp only [rH,if_neg h]
   have h1:eS (.agg cs)=false:=Bool.eq_false_iff.2 h;have h2:eS .undef=false:=rfl;rw [e];unfold oY;rw [h1,h2];rfl
 | sl g s n cs=>
  cases g with
  | none=>rfl
  | some g=>rfl
 | aM vs=>rfl
 | _=>rfl
theorem FO (n:Nat):∀ (i:Nat) (ds:List D) (st:St),pY n i (ds.map rH) st=pY n i ds st
 | _,[],_=>rfl
 | i,d::ds,st=>by
  simp only [aaM,pY,Ue];split
  ·rw [FO n (i+1) ds st]
  ·split
   ·rename_i o st' h;rw [FO n (i+1) ds st']
   ·rfl
theorem acB (c:cA) (fn:Func) (args:List D):FJ c fn (args.map rH)=FJ c fn args:=by
 funext x st;unfold FJ;simp only [FO,abu]
section
variable {R:Type} {P:Program} {c:cA} (aw:eu c P) {sg:Sg} {aA:FuncId}
include aw
theorem FP {st:St} {r p:Nat} {k:St->Option R}:Hk (eL c P sg) st r p k=k st:=by
 have _:=aw;unfold Hk;split
 ·rename_i ys hys;unfold eL;simp only [if_true,feed,RB hys]
 ·rfl
theorem acC {st:St} {o:Oper} {k:St->Option R}:Ov c sg (eL c P sg) aA st o k=k:=by
 unfold Ov;split
 ·split
  ·split
   ·funext st';exact FP aw
   ·rfl
  ·rfl
 ·rfl
theorem SL {cu:St} {t:Bool} {dst:Option Nat} {r:D} {k:St->Option R} {x:R} (h:Ot cu t dst r k=some x):∃ st',(match dst with
  | some i=>some ((cu.qZ (cu.of+i) (if t then hC true r else r)).1.put (some i) (cu.qZ (cu.of+i) (if t then hC true r else r)).2)
  | none=>some cu)=some st'/\k st'=some x/\∀ (k':St->Option R),Ot cu t dst r k'=k' st':=by
 have _:=aw;cases dst with
 | none=>exact ⟨_,rfl,h,fun _=>rfl⟩
 | some i=>exact ⟨_,rfl,h,fun _=>rfl⟩
theorem YY {st:St} {dst:Option Nat} {g:FuncId} {args:List D} {k:St->Option R} {r:R} (h:Hl ad c sg (eL c P sg) st dst g args k=some r):∃ st',kT c (ma c P) st dst g args=some st'/\k st'=some r/\∀ (k':St->Option R) r',k' st'=some r'->Hl ad c sg (eL c P sg) st dst g args k'=some r':=by
 unfold Hl at h;split at h
 ·simp at h
 rename_i hg;split at h
 case h_2=>simp at h
 rename_i ds aQ s ss lU Qm;obtain ⟨hl,h⟩:=o6 h;unfold eL at h;rw [if_neg hg,Qm] at h;split at h
 case h_2=>simp at h
 rename_i rr outs s' ss' hV sb;simp only [jf,tE] at sb;obtain ⟨rfl,rfl⟩:=sb;split at h
 case isFalse=>simp at h
 rename_i cS;have YZ:=cS;simp only [Bh] at cS;obtain ⟨cS,Y0⟩:=cS;rw [tX _ _ cS.1,mJ _ _ cS.2] at h;simp only [feed] at h;obtain ⟨h1,h2⟩:=o6 h;have hU:(dG rr&&outs.all dG)=true:=by
  have e:ES ad=dG:=funext Hg;cases mq:wc s||we ss with
  | true=>rw [mq] at Y0; simpa using Y0
  | false=>
   rw [mq] at h1;rw [<- e];exact h1
 split at h2
 case h_2=>simp at h2
 rename_i q cu hb;obtain ⟨hq,h2⟩:=o6 h2;have ht:fF (c.own g) ds=p9 (c.own g) ds:=by
  cases dg:p9 (c.own g) ds with
  | true=>exact Hj dg
  | false=>rw [dg] at hl; exact ET dg (by simpa using hl)
 obtain ⟨st',k1,k2,k3⟩:=SL aw h2;refine ⟨st',?_,k2,fun k' r' hk=>?_⟩
 ·unfold kT;rw [lU];simp only [ht,hV,hU,if_true,wa hb hq];cases dst with
  | none=>exact k1
  | some i=>exact k1
 ·unfold Hl;rw [if_neg hg,lU,Qm];simp only;rw [hl];simp only [br];unfold eL;rw [if_neg hg,hV,Qm];simp only;rw [if_pos YZ,tX _ _ cS.1,mJ _ _ cS.2];simp only [feed,h1,br,hb,hq];rw [k3,hk]
theorem B8:∀ {b:List Bool} {ds:List D} {st:St},b.any id=false->nt st b ds=some (ds,st)
 | _,[],_,_=>rfl
 | b,d::ds,st,h=>by
  have _:=aw;have hb:b.headD false=false/\b.tail.any id=false:=by
   cases b with
   | nil=>simp
   | cons x xs=>simpa using h
  simp only [nt,hb.1,aai,if_false,B8 hb.2]
theorem AH:∀ {b:List Bool} {ds os:List D} {st:St} {h:D->D},b.any id=false->ds.length=os.length->iJ st h b ds os=some st
 | _,[],_,_,_,_,_=>rfl
 | b,d::ds,[],st,h,hn,hl=>by simp at hl
 | b,d::ds,o::os,st,h,hn,hl=>by
  have _:=aw;have hb:b.headD false=false/\b.tail.any id=false:=by
   cases b with
   | nil=>simp
   | cons x xs=>simpa using hn
  simp only [iJ,hb.1,aai,if_false];exact AH hb.2 (by simpa using hl)
theorem EU:∀ {b:List Bool} {ds:List D},b.any id=false->fF b ds=false
 | _,[],_=>rfl
 | b,d::ds,hn=>by
  have _:=aw;have hb:b.headD false=false/\b.tail.any id=false:=by
   cases b with
   | nil=>simp
   | cons x xs=>simpa using hn
  simp only [fF,hb.1,abL,Bool.false_or];exact EU hb.2
theorem Uf {st aQ:St} {r p o:Nat} {cs:List D} {d:D} (hc:st.cells r [p]=some cs) (h:st.gZ r [p] o d=some aQ):aQ.cells r [p]=some (cs.set o d):=by
 have _:=aw;unfold St.cells at hc ⊢;unfold St.gZ at h;split at h
 case h_2=>simp at h
 rename_i l hl;rw [hl] at hc;simp only at hc;split at h
 case h_2=>simp at h
 rename_i l' hm;simp only [jf] at h;subst h;simp only [hD];simp only [jS] at hc;split at hc
 case h_2=>simp at hc
 rename_i s n xs hp;simp only [jf] at hc;subst hc;simp only [oX,hp,jf] at hm;subst hm;have dg:p < l.length:=(aaa.1 hp).1;simp only [jS,af4,dg,if_true]
omit aw in
theorem SM {α:Type} (f:α->α):∀ (l:List (Nat × α)) (k:Nat),lk (gn f l) k=(lk l k).map f
 | [],_=>rfl
 | (j,w)::t,k=>by
  simp only [gn,lk];split
  ·rfl
  ·exact SM f t k
theorem Ug {st aQ:St} {r p o:Nat} {h d:D} {b:Bool} (hs:st.gZ r [p] o h=some aQ):(aQ.eZ (cB r [p] o b)).gZ r [p] o d=(st.eZ (cB r [p] o b)).gZ r [p] o d:=by
 have _:=aw;unfold St.gZ at hs;split at hs
 case h_2=>simp at hs
 rename_i l hl;split at hs
 case h_2=>simp at hs
 rename_i l' hm;simp only [jf] at hs;subst hs;simp only [oX] at hm;split at hm
 case h_2=>simp at hm
 rename_i s n xs hp;simp only [jf] at hm;subst hm;have dg:p < l.length:=(aaa.1 hp).1;have e1:(l.map (fp (cB r [p] o b)))[p]?=some (.sl none s n xs):=by
  rw [aa5,hp];rfl
 have e2:((l.set p (.sl none s n (xs.set o h))).map (fp (cB r [p] o b)))[p]?=some (.sl none s n (xs.set o h)):=by
  rw [aa5,af4];simp only [dg,if_true];rfl
 have e0:lk (gn (List.map (fp (cB r [p] o b))) st.rt) r=some (l.map (fp (cB r [p] o b))):=by
  rw [SM,hl];rfl
 have e3:((l.set p (.sl none s n (xs.set o h))).map (fp (cB r [p] o b))).set p (.sl none s n (xs.set o d))=(l.map (fp (cB r [p] o b))).set p (.sl none s n (xs.set o d)):=by
  rw [aer,List.set_set]
 unfold St.gZ;simp only [St.eZ,Jx,hD,e0,oX,e1,e2,List.set_set,e3,Fb]
theorem V6 {st:St} {dst:Option Nat} {g:FuncId} {sz a p o:Nat} {rest:List D} {k:St->Option R} {r:R} (h:B6 ad c sg (eL c P sg) st dst g sz a p o rest k=some r):∃ st',kT c (ma c P) st dst g (.ref a [p] o none::rest)=some st'/\k st'=some r/\∀ (k':St->Option R) r',k' st'=some r'->B6 ad c sg (eL c P sg) st dst g sz a p o rest k'=some r':=by
 unfold B6 at h;split at h
 ·simp at h
 rename_i hg;split at h
 case h_2=>simp at h
 rename_i cs s ss ed Qm jI;simp only [Bh,abb] at jI;split at h
 case h_2=>simp at h
 rename_i aQ iN;split at h
 case h_2=>simp at h
 rename_i Ou hro;obtain ⟨mH,h⟩:=o6 h;obtain ⟨hnl,h⟩:=o6 h;simp only [FP aw] at h;unfold eL at h;rw [if_neg hg,Qm] at h;split at h
 case h_2=>simp at h
 rename_i rr outs s' ss' hV sb;simp only [jf,tE] at sb;obtain ⟨rfl,rfl⟩:=sb;split at h
 case isFalse=>simp at h
 rename_i cS;have YZ:=cS;simp only [Bh] at cS;obtain ⟨cS,Y0⟩:=cS;rw [tX _ _ cS.1,mJ _ _ cS.2] at h;simp only [feed] at h;obtain ⟨h1,h2⟩:=o6 h;have hU:(dG rr&&outs.all dG)=true:=by
  have e:ES ad=dG:=funext Hg;rw [<- e];exact h1
 split at h2
 case h_2=>simp at h2
 rename_i sz' n' cs' ag1;split at h2
 case isFalse=>simp at h2
 rename_i ajr;obtain ⟨rfl,Va⟩:=ajr;split at h2
 case h_2=>simp at h2
 rename_i cu aaJ;have V7:=aaJ;rw [<- Ug aw iN] at V7;obtain ⟨hq,h2⟩:=o6 h2;have hn:ad.aD cs o=n':=by simpa [ad] using hq
 obtain ⟨st',k1,k2,k3⟩:=SL aw h2;have cO:st.cell a [p] o=some (.sl none sz (ad.aD cs o) (ad.aF cs o)):=by
  unfold St.cell;rw [ed];exact JC mH
 have afg:aQ.cell a [p] o=some (.hole sz (ad.aD cs o)):=by
  have dg:o < cs.length:=(aaa.1 (JC mH)).1;unfold St.cell;rw [Uf aw ed iN];simp only [af4,dg,if_true]
 have lU:nf st (c.own g) (.ref a [p] o none::rest)=some (.sl none sz (ad.aD cs o) (ad.aF cs o)::Ou,aQ):=by
  unfold nf;simp only [nt,jI.1,if_true,En,jh,cO,iN,trim,B8 aw jI.2,vA,hro]
 have ag2:fF (c.own g) (.sl none sz (ad.aD cs o) (ad.aF cs o)::Ou)=false:=by
  simp only [fF,EU aw jI.2,Bool.or_false,jI.1,abU,ch,dq,UL,aab,ae9,cg];have:cq (ad.aF cs o)=true:=hnl;rw [this];rfl
 have G4:iJ aQ id (c.own g) (.ref a [p] o none::rest) (.sl none sz n' cs'::ag1)=some cu:=by
  simp only [iJ,jI.1,if_true,Dh,pX,id,afg];simp only [hn,and_self,if_true,V7];exact AH aw jI.2 (by simpa using Va.symm)
 refine ⟨st',?_,k2,fun k' r' hk=>?_⟩
 ·unfold kT;rw [lU];simp only [ag2,aai,if_false,hV,hU,if_true,G4];cases dst with
  | none=>exact k1
  | some i=>exact k1
 ·unfold B6;simp only [FP aw];rw [if_neg hg,ed,Qm];simp only [jI.1,jI.2,Bool.not_false,tC,iN,hro,mH,hnl,br];unfold eL;rw [if_neg hg,hV,Qm];simp only;rw [if_pos YZ,tX _ _ cS.1,mJ _ _ cS.2];simp only [feed,h1,br];rw [if_pos ⟨trivial,Va⟩,aaJ];simp only [hq];rw [k3,hk]
theorem acD {st:St} {o:Oper} {k:St->Option R} {r:R} (h:Ud ad c sg (eL c P sg) aA st o k=some r):∃ st',fb c (ma c P) yI aA st o=some st'/\k st'=some r/\∀ (k':St->Option R) r',k' st'=some r'->Ud ad c sg (eL c P sg) aA st o k'=some r':=by
 have hK:∀ (k:St->Option R),SB ad c (fun _ _=>none) yI aA st o k=some r->∃ st',fb c (ma c P) yI aA st o=some st'/\k st'=some r/\∀ (k':St->Option R) r',k' st'=some r'->SB ad c (fun _ _=>none) yI aA st o k'=some r':=by
  intro k h;have hh:=h;unfold SB at h;split at h
  case h_2=>simp at h
  rename_i hc;obtain ⟨h1,h2⟩:=o6 h;split at h2
  ·rename_i st' hu;refine ⟨st',ae6 aw (by simp) h1 hu,h2,fun k' r' hk=>?_⟩
   unfold SB;rw [hc];simp only;rw [h1,hu];exact hk
  ·simp at h2
 unfold Ud at h ⊢;simp only [acC aw] at h ⊢;split at h
 ·rename_i cc ho;split at h
  ·rename_i f mI;split at h
   ·simp at h
   rename_i cU;split at h
   case h_2=>simp at h
   rename_i g gY hev;split at h
   ·simp at h
   rename_i mv;have aq:∀ {args:List D} {st':St},((cc.args.toList.zip cc.argTypes.toList).map fun p=>ct c st p.2 p.1)++gY=args->kT c (ma c P) st o.dst g args=some st'->fb c (ma c P) yI aA st o=some st':=by
    intro args st' ha hd;unfold fb;simp only [ho,mI];rw [if_neg cU];simp only [hev,if_neg mv,ha];exact hd
   split at h
   ·rename_i a p o' rest qL afi;obtain ⟨st',h1,h2,h3⟩:=V6 aw h;refine ⟨st',aq afi h1,h2,fun k' r' hk=>?_⟩;rw [if_neg cU];simp only [hev,if_neg mv,qL,afi];exact h3 k' r' hk
   ·rename_i cX;obtain ⟨st',h1,h2,h3⟩:=YY aw h;refine ⟨st',aq rfl h1,h2,fun k' r' hk=>?_⟩;rw [if_neg cU];simp only [hev,if_neg mv];exact h3 k' r' hk
  ·rename_i mI;obtain ⟨st',h1,h2,h3⟩:=hK k h;refine ⟨st',h1,h2,fun k' r' hk=>?_⟩;exact h3 k' r' hk
 ·rename_i hnc;split at h
  ·rename_i g st' he;obtain ⟨hg,h2⟩:=o6 h;split at he
   case isFalse=>simp at he
   refine ⟨st',afc he hg,h2,fun k' r' hk=>?_⟩;rw [hg];exact hk
  ·rename_i he;obtain ⟨st',h1,h2,h3⟩:=hK k h;refine ⟨st',h1,h2,fun k' r' hk=>?_⟩;exact h3 k' r' hk
theorem afj {st:St} {o:Oper} {k:St->Option R} {r:R} (h:Hm ad c sg (eL c P sg) aA st o k=some r):∃ st',(if vB c aA st o then fb c (ma c P) yI aA st o else none)=some st'/\k st'=some r/\∀ (k':St->Option R) r',k' st'=some r'->Hm ad c sg (eL c P sg) aA st o k'=some r':=by
 unfold Hm at h;split at h
 case h_2=>simp at h
 rename_i hc;obtain ⟨st',h1,h2,h3⟩:=acD aw h;refine ⟨st',by rw [if_pos hc]; exact h1,h2,fun k' r' hk=>?_⟩
 unfold Hm;rw [hc];exact h3 k' r' hk
end
section
variable {R:Type} {P:Program} {c:cA} (aw:eu c P) {sg:Sg} {aA:FuncId}
include aw
theorem nu {all:Array Oper} {k:St->Option R} {r:R}:∀ {os:List Oper} {st:St},po ad c sg (eL c P sg) aA all os st k=some r->∃ st',vC c (ma c P) yI aA all os st=some st'/\k st'=some r/\∀ (k':St->Option R) r',k' st'=some r'->po ad c sg (eL c P sg) aA all os st k'=some r'
 | [],st,h=>⟨st,rfl,h,fun _ _ hk=>hk⟩
 | o::os,st,h=>by
  have run:∀ st,Hm ad c sg (eL c P sg) aA st o (fun st'=>po ad c sg (eL c P sg) aA all os st' k)=some r->∃ st',(if vB c aA st o then (match fb c (ma c P) yI aA st o with | some st'=>vC c (ma c P) yI aA all os st' | none=>none) else none)=some st'/\k st'=some r/\∀ (k':St->Option R) r',k' st'=some r'->Hm ad c sg (eL c P sg) aA st o (fun st'=>po ad c sg (eL c P sg) aA all os st' k')=some r':=by
   intro st h;obtain ⟨aQ,h1,h2,h3⟩:=afj aw h;obtain ⟨cu,k1,k2,k3⟩:=nu h2;refine ⟨cu,?_,k2,fun k' r' hk=>h3 _ _ (k3 k' r' hk)⟩;split at h1
   case isFalse=>simp at h1
   rename_i hc;rw [if_pos hc,h1];exact k1
  simp only [po] at h ⊢;simp only [vC,zB];split at h
  ·rename_i hg;rw [hg];exact run st h
  ·rename_i j want hg;rw [hg];simp only;split at h
   ·rename_i t ht;rw [ht];simp only;split at h
    ·rename_i b hb;rw [hb];simp only;cases want with
     | true=>
      simp only at h;rcases oD h with ⟨rfl,h1⟩ | ⟨rfl,h1⟩
      ·rw [pQ hb] at h1;obtain ⟨aQ,k1,k2,k3⟩:=run st h1;refine ⟨aQ,by simp only [beq_self_eq_true]; exact k1,k2,fun k' r' hk=>?_⟩
       simp only [br];rw [pQ hb];exact k3 k' r' hk
      ·rw [pQ hb] at h1;obtain ⟨aQ,k1,k2,k3⟩:=nu h1;refine ⟨aQ,by simpa using k1,k2,fun k' r' hk=>?_⟩
       simp only [br];rw [pQ hb];exact k3 k' r' hk
     | false=>
      simp only at h;rcases oD h with ⟨rfl,h1⟩ | ⟨rfl,h1⟩
      ·rw [pQ hb] at h1;obtain ⟨aQ,k1,k2,k3⟩:=nu h1;refine ⟨aQ,by simpa using k1,k2,fun k' r' hk=>?_⟩
       simp only [br];rw [pQ hb];exact k3 k' r' hk
      ·rw [pQ hb] at h1;obtain ⟨aQ,k1,k2,k3⟩:=run st h1;refine ⟨aQ,by simp only [beq_self_eq_true]; exact k1,k2,fun k' r' hk=>?_⟩
       simp only [br];rw [pQ hb];exact k3 k' r' hk
    ·rename_i hb;rw [hb];exact nu h
    ·simp at h
   ·rename_i ht;rw [ht];exact nu h
theorem LX {all:Array Oper} {os:List Oper} {st:St} {k k':St->Option R} {r:R} (hk:∀ st r,k st=some r->k' st=some r) (h:po ad c sg (eL c P sg) aA all os st k=some r):po ad c sg (eL c P sg) aA all os st k'=some r:=by
 obtain ⟨st',_,h2,h3⟩:=nu aw h;exact h3 k' r (hk _ _ h2)
theorem FQ {J J':Nat->St->Option R} (hJ:∀ j h r,J j h=some r->J' j h=some r) {i:Nat} {st:St} {r:R} (h:jmp c J aA i st=some r):jmp c J' aA i st=some r:=by
 have _:=aw;unfold jmp at h ⊢;split at h
 ·exact hJ _ _ _ h
 ·simp at h
omit aw in
theorem tY {f f':St->Option R} {k k':Exit->St->Option R} (hf:∀ st r,f st=some r->f' st=some r) (hk:∀ x st r,k x st=some r->k' x st=some r):∀ x st r,rG f k x st=some r->rG f' k' x st=some r:=by
 intro x st r h;cases x with
 | normal=>exact hf _ _ h
 | _=>exact hk _ _ _ h
omit aw in
theorem B9 {id:Nat} {k k':Exit->St->Option R} (hk:∀ x st r,k x st=some r->k' x st=some r):∀ x st r,wg id k x st=some r->wg id k' x st=some r:=by
 intro x st r h;cases x with
 | exit vD=>
  simp only [wg] at h ⊢;split at h
  ·rename_i e; rw [if_pos e]; exact hk _ _ _ h
  ·rename_i e; rw [if_neg e]; exact hk _ _ _ h
 | _=>exact hk _ _ _ h
theorem Aa {J J':Nat->St->Option R} (hJ:∀ j h r,J j h=some r->J' j h=some r):∀ {code:Code} {i:Nat} {st:St} {k k':Exit->St->Option R} {r:R},(∀ x st r,k x st=some r->k' x st=some r)->dK ad c sg (eL c P sg) J aA code i st k=some r->dK ad c sg (eL c P sg) J' aA code i st k'=some r:=by
 intro code
 induction code with
 | skip=>intro i st k k' r hk h; exact hk _ _ _ h
 | exit id=>intro i st k k' r hk h; exact hk _ _ _ h
 | ret=>intro i st k k' r hk h; exact hk _ _ _ h
 | region id ops draw=>
  intro i st k k' r hk h;cases draw with
  | false=>
   simp only [dK] at h ⊢;exact LX aw (hk _) h
  | true=>
   simp only [dK] at h ⊢;split at h
   ·exact LX aw (hk _) h
   ·simp at h
 | seq a b eP lf=>
  intro i st k k' r hk h;simp only [dK] at h ⊢;exact eP (tY (fun st r hx=>lf hk hx) hk) h
 | cond v a b eP lf=>
  intro i st k k' r hk h;simp only [dK,Oo] at h ⊢;split at h
  ·split at h
   ·rcases oD h with ⟨rfl,h1⟩ | ⟨rfl,h1⟩
    ·exact eP hk h1
    ·exact lf hk h1
   ·simp at h
  ·split at h
   ·rcases oD h with ⟨rfl,h1⟩ | ⟨rfl,h1⟩
    ·exact eP hk h1
    ·exact lf hk h1
   ·simp at h
 | block id a eP=>
  intro i st k k' r hk h;simp only [dK] at h ⊢;exact eP (B9 hk) h
 | loop a eP=>intro i st k k' r hk h; exact FQ aw hJ h
 | _=>intro i st k k' r hk h; simp [dK] at h
end
section
variable {R:Type} {pr:dC} {c:cA} {sg:Sg} {cv:Cv R} {J:Nat->St->Option R} {aA:FuncId}
theorem tZ:∀ {code:Code} {i:Nat} {k:Exit->St->Option R} {j:Nat} {t:St->Option R},dD pr c sg cv J aA code i k j=some t->j∈mb code i:=by
 intro code
 induction code with
 | seq a b eP lf=>
  intro i k j t h;simp only [dD] at h;rw [mb,tD];split at h
  ·rename_i t' ht;exact .inl (eP ht)
  ·exact .inr (lf h)
 | cond v a b eP lf=>
  intro i k j t h;simp only [dD] at h;rw [mb,tD];split at h
  ·rename_i t' ht;exact .inl (eP ht)
  ·exact .inr (lf h)
 | block id a eP=>intro i k j t h; simp only [dD] at h; rw [mb]; exact eP h
 | loop a eP=>
  intro i k j t h;simp only [dD] at h;rw [mb,aap];split at h
  ·rename_i hij; exact .inl hij.symm
  ·exact .inr (eP h)
 | _=>intro i k j t h; simp [dD] at h
end
section
variable {R:Type} {pr:dC} {c:cA} {sg:Sg} {cv:Cv R} {J J':Nat->St->Option R} {aA:FuncId}
theorem u5:∀ {code:Code} {i:Nat} {k k':Exit->St->Option R} {j:Nat},dD pr c sg cv J aA code i k j=none->dD pr c sg cv J' aA code i k' j=none:=by
 intro code
 induction code with
 | seq a b eP lf=>
  intro i k k' j h;simp only [dD] at h ⊢;split at h
  ·simp at h
  ·rename_i h1;rw [eP h1];exact lf h
 | cond v a b eP lf=>
  intro i k k' j h;simp only [dD] at h ⊢;split at h
  ·simp at h
  ·rename_i h1;rw [eP h1];exact lf h
 | block id a eP=>intro i k k' j h; simp only [dD] at h ⊢; exact eP h
 | loop a eP=>
  intro i k k' j h;simp only [dD] at h ⊢;split at h
  ·simp at h
  ·rename_i e;rw [if_neg e];exact eP h
 | _=>intro i k k' j h; rfl
end
section
variable {P:Program} {c:cA} (aw:eu c P) {sg:Sg} {f:FuncId} {fn:Func} {sk:List D} {body:Code} (tu:fn.body=some body)
include aw
theorem Uh {J J':Nat->St->Option Rz} (hJ:∀ j h r,J j h=some r->J' j h=some r):∀ {code:Code} {i:Nat} {k k':Exit->St->Option Rz} {j:Nat} {t:St->Option Rz},(∀ x st r,k x st=some r->k' x st=some r)->dD ad c sg (eL c P sg) J f code i k j=some t->∃ t',dD ad c sg (eL c P sg) J' f code i k' j=some t'/\∀ h r,t h=some r->t' h=some r:=by
 intro code
 induction code with
 | seq a b eP lf=>
  intro i k k' j t hk h;simp only [dD] at h ⊢;have Qn:=tY (f:=fun st'=>dK ad c sg (eL c P sg) J f b i st' k) (f':=fun st'=>dK ad c sg (eL c P sg) J' f b i st' k') (fun st r hx=>Aa aw hJ hk hx) hk;split at h
  ·rename_i t1 h1;obtain ⟨t',h2,h3⟩:=eP Qn h1;rw [h2];simp only [jf] at h;subst h;exact ⟨t',rfl,h3⟩
  ·rename_i h1;rw [u5 h1];exact lf hk h
 | cond v a b eP lf=>
  intro i k k' j t hk h;simp only [dD] at h ⊢;split at h
  ·rename_i t1 h1;obtain ⟨t',h2,h3⟩:=eP hk h1;rw [h2];simp only [jf] at h;subst h;exact ⟨t',rfl,h3⟩
  ·rename_i h1;rw [u5 h1];exact lf hk h
 | block id a eP=>
  intro i k k' j t hk h;simp only [dD] at h ⊢;exact eP (B9 hk) h
 | loop a eP=>
  intro i k k' j t hk h;simp only [dD] at h ⊢;have Qn:=tY (f:=jmp c J f i) (f':=jmp c J' f i) (fun st r hx=>FQ aw hJ hx) hk;split at h
  ·rename_i e;simp only [jf] at h;subst h;rw [if_pos e];exact ⟨_,rfl,fun hh r hr=>Aa aw hJ Qn hr⟩
  ·rename_i e;rw [if_neg e];exact eP Qn h
 | _=>intro i k k' j t hk h; simp [dD] at h
theorem DF:∀ {n m:Nat},n<=m->∀ j h r,Jn c P sg f fn sk n j h=some r->Jn c P sg f fn sk m j h=some r
 | 0,_,_,j,h,r,hh=>by simp [Jn] at hh
 | n+1,0,hle,_,_,_,_=>absurd hle (by omega)
 | n+1,m+1,hle,j,h,r,hh=>by
  have ih:∀ j h r,Jn c P sg f fn sk n j h=some r->Jn c P sg f fn sk m j h=some r:=DF (by omega)
  simp only [Jn,u4] at hh ⊢;split at hh
  case h_2=>simp at hh
  rename_i body hb;split at hh
  case h_2=>simp at hh
  rename_i t ht;obtain ⟨t',h1,h2⟩:=Uh aw ih (fun _ _ _ h=>h) ht;rw [h1];exact h2 _ _ hh
include tu
theorem Y1:∀ {code:Code} {n i:Nat} {st:St} {k:(Nat->St->Option Rz)->Exit->St->Option Rz} {r:Rz},
  (∀ J J':Nat->St->Option Rz,(∀ j h r,J j h=some r->J' j h=some r)->∀ x st r,k J x st=some r->k J' x st=some r)->
  (mb code i).Nodup->
  (∀ m j t,dD ad c sg (eL c P sg) (Jn c P sg f fn sk m) f code i (k (Jn c P sg f fn sk m)) j=some t->dD ad c sg (eL c P sg) (Jn c P sg f fn sk m) f body 0 (FN c f fn sk) j=some t)->
  dK ad c sg (eL c P sg) (Jn c P sg f fn sk n) f code i st (k (Jn c P sg f fn sk n))=some r->∃ x st',T4 c P f code i st (x,st')/\k (Jn c P sg f fn sk n) x st'=some r:=by
 intro code;have tr:∀ {ops:Array Oper} {l:List Nat} {st st':St},iK c (ma c P) yI f ops l st=some st'->Ev fun k=>iK c (od c P k).1 (od c P k).2 f ops l st=some st':=
  fun h=>Dz (fun f ds r hh=>YX hh) (fun f ds n st r hh=>by simp [yI] at hh) h
 induction code with
 | skip=>intro n i st k r _ _ _ h; exact ⟨_,_,Ev.of fun _=>rfl,h⟩
 | exit id=>intro n i st k r _ _ _ h; exact ⟨_,_,Ev.of fun _=>rfl,h⟩
 | ret=>intro n i st k r _ _ _ h; exact ⟨_,_,Ev.of fun _=>rfl,h⟩
 | region id ops draw=>
  intro n i st k r _ _ _ h;cases draw with
  | false=>
   simp only [dK] at h;obtain ⟨st',h1,h2,_⟩:=nu aw h;rw [zR] at h1;refine ⟨.normal,st',(tr h1).mono fun n hn=>?_,h2⟩;simp only [eW,zR,hn]
  | true=>
   simp only [dK] at h;split at h
   case h_2=>simp at h
   rename_i l hl;obtain ⟨st',h1,h2,_⟩:=nu aw h;rw [Dy] at h1;refine ⟨.normal,st',(tr h1).mono fun n hn=>?_,h2⟩;simp only [eW,hl,hn]
 | seq a b eP lf=>
  intro n i st k r hk hn hc h;simp only [dK] at h;rw [mb,yq] at hn;obtain ⟨x,aQ,h1,h2⟩:=eP (k:=fun J=>rG (fun st'=>dK ad c sg (eL c P sg) J f b i st' (k J)) (k J)) (fun J J' hJ=>tY (fun st r hx=>Aa aw hJ (hk J J' hJ) hx) (hk J J' hJ)) hn.1 (fun m j t ht=>hc m j t (by simp only [dD]; rw [ht])) h
  cases x with
  | normal=>
   simp only [rG] at h2;obtain ⟨y,cu,h3,h4⟩:=lf hk hn.2.1 (fun m j t ht=>hc m j t (by
    simp only [dD];split
    ·rename_i t' pK;exact absurd rfl (hn.2.2 j (tZ pK) j (tZ ht))
    ·exact ht)) h2
   exact ⟨y,cu,(Ev.and h1 h3).mono fun n hn=>by simp only [eW]; rw [hn.1]; exact hn.2,h4⟩
  | _=>exact ⟨_,aQ,Ev.mono h1 fun n hn=>by simp only [eW]; rw [hn],h2⟩
 | cond v a b eP lf=>
  intro n i st k r hk hn hc h;simp only [dK,Oo] at h;rw [mb,yq] at hn;have fin:∀ {t:Bool},ct c st 0 v=.bool t->(t=true->dK ad c sg (eL c P sg) (Jn c P sg f fn sk n) f a i st (k (Jn c P sg f fn sk n))=some r)->(t=false->dK ad c sg (eL c P sg) (Jn c P sg f fn sk n) f b i st (k (Jn c P sg f fn sk n))=some r)->∃ x st',T4 c P f (.cond v a b) i st (x,st')/\k (Jn c P sg f fn sk n) x st'=some r:=by
   intro t ht h1 h2;cases t with
   | true=>
    obtain ⟨x,st',h3,h4⟩:=eP hk hn.1 (fun m j t ht=>hc m j t (by simp only [dD]; rw [ht])) (h1 rfl)
    exact ⟨x,st',Ev.mono h3 fun n hn=>by simp only [eW,ht,if_true]; exact hn,h4⟩
   | false=>
    obtain ⟨x,st',h3,h4⟩:=lf hk hn.2.1 (fun m j t ht=>hc m j t (by
     simp only [dD];split
     ·rename_i t' pK;exact absurd rfl (hn.2.2 j (tZ pK) j (tZ ht))
     ·exact ht)) (h2 rfl)
    exact ⟨x,st',Ev.mono h3 fun n hn=>by simp only [eW,ht,aai,if_false]; exact hn,h4⟩
  split at h
  ·rename_i t;split at h
   ·rename_i b' hb;refine fin (t:=b') hb (fun e=>?_) (fun e=>?_)
    ·subst e;rcases oD h with ⟨_,h1⟩ | ⟨e2,_⟩
     ·rw [pQ hb] at h1; exact h1
     ·simp at e2
    ·subst e;rcases oD h with ⟨e2,_⟩ | ⟨_,h1⟩
     ·simp at e2
     ·rw [pQ hb] at h1; exact h1
   ·simp at h
  ·split at h
   ·rename_i hv;refine fin hv (fun e=>?_) (fun e=>?_)
    ·subst e; exact h
    ·subst e; exact h
   ·simp at h
 | block id a eP=>
  intro n i st k r hk hn hc h;simp only [dK] at h;obtain ⟨x,aQ,h1,h2⟩:=eP (k:=fun J=>wg id (k J)) (fun J J' hJ=>B9 (hk J J' hJ)) hn (fun m j t ht=>hc m j t (by simp only [dD]; exact ht)) h
  cases x with
  | exit vD=>
   simp only [wg] at h2;by_cases he:vD=id
   ·rw [if_pos he] at h2;exact ⟨.normal,aQ,Ev.mono h1 fun n hn=>by simp only [eW]; rw [hn]; simp [he],h2⟩
   ·rw [if_neg he] at h2;exact ⟨.exit vD,aQ,Ev.mono h1 fun n hn=>by simp only [eW]; rw [hn]; simp [he],h2⟩
  | _=>exact ⟨_,aQ,Ev.mono h1 fun n hn=>by simp only [eW]; rw [hn],h2⟩
 | loop a eP=>
  intro n i st k r hk hn hc h;rw [mb,abm] at hn;have key:∀ (n:Nat) (st:St),jmp c (Jn c P sg f fn sk n) f i st=some r->∃ x st',T5 c P f a i st (x,st')/\k (Jn c P sg f fn sk n) x st'=some r:=by
   intro n
   induction n with
   | zero=>
    intro st h;unfold jmp at h;split at h
    ·simp [Jn] at h
    ·simp at h
   | succ m ih=>
    intro st h;unfold jmp at h;split at h
    case h_2=>simp at h
    rename_i hd GY;simp only [Jn,u4] at h;rw [tu] at h;simp only at h;have ht:=hc m i _ (by simp only [dD,if_true]; rfl)
    rw [ht] at h;simp only at h;obtain ⟨x,aQ,h1,h2⟩:=eP (k:=fun J=>rG (jmp c J f i) (k J)) (fun J J' hJ=>tY (fun st r hx=>FQ aw hJ hx) (hk J J' hJ)) hn.2 (fun m j t ht=>hc m j t (by
       simp only [dD];have cX:i≠j:=fun e=>hn.1 (by rw [e]; rw [e] at ht; exact tZ ht)
       rw [if_neg cX];exact ht)) h
    cases x with
    | normal=>
     obtain ⟨y,cu,⟨q,h3⟩,h4⟩:=ih aQ h2;refine ⟨y,cu,⟨q+1,(Ev.and h1 h3).mono fun k hk m hm=>?_⟩,hk _ _ (DF aw (Nat.le_succ m)) _ _ _ h4⟩;obtain ⟨m,rfl⟩:∃ m',m=m'+1:=⟨m - 1,by omega⟩
     simp only [uT,GY,hk.1];exact hk.2 m (by omega)
    | _=>
     refine ⟨_,aQ,⟨1,Ev.mono h1 fun k hk m hm=>?_⟩,hk _ _ (DF aw (Nat.le_succ m)) _ _ _ h2⟩;obtain ⟨m,rfl⟩:∃ m',m=m'+1:=⟨m - 1,by omega⟩
     simp only [uT,GY,hk]
  simp only [dK] at h;obtain ⟨x,st',h1,h2⟩:=key n st h;exact ⟨x,st',h1.code,h2⟩
 | _=>intro n i st k r _ _ _ h; simp [dK] at h
end
structure Told (c:cA) (P:Program) (f:FuncId) (fn:Func):Prop where
 ext:c.ext f=none
 func:P.funcs[f]?=some fn
 ids:(match fn.body with | some b=>decide (mb b 0).Nodup | none=>false)=true
section
variable {P:Program} {c:cA} (aw:eu c P) {sg:Sg} {f:FuncId} {fn:Func} {sk:List D}
include aw
theorem W.go {j j':Nat} {h h':St} {r:Rz} (hw:W c P sg f fn sk j' h' r) (ht:∀ J:Nat->St->Option Rz,J j' h'=some r->u4 ad c sg (eL c P sg) J f fn sk j h=some r):W c P sg f fn sk j h r:=by
 have _:=aw;obtain ⟨n,hn⟩:=hw;exact ⟨n+1,ht _ hn⟩
theorem W.fin {j:Nat} {h:St} {r:Rz} (ht:∀ J:Nat->St->Option Rz,u4 ad c sg (eL c P sg) J f fn sk j h=some r):W c P sg f fn sk j h r:=by
 have _:=aw;exact ⟨1,ht _⟩
theorem Ca (ok:Told c P f fn) {args:List D} {r:Rz} {n:Nat} (h:B7 ad c sg (eL c P sg) (Jn c P sg f fn (args.map rH) n) f fn args=some r):Comes c P f args r:=by
 unfold B7 at h;split at h
 case h_2=>simp at h
 rename_i body hb;have afk:=ok.ids;rw [hb] at afk;obtain ⟨x,st,h1,h2⟩:=Y1 aw hb (k:=fun _=>FN c f fn (args.map rH)) (fun J J' _ x st r h=>h) (of_decide_eq_true afk) (fun m j t ht=>ht) h;obtain ⟨k0,h1⟩:=h1;refine ⟨k0+1,fun k hk=>?_⟩;obtain ⟨k,rfl⟩:∃ m,k=m+1:=⟨k - 1,by omega⟩
 unfold FN at h2;obtain ⟨r',h2,h5⟩:∃ r',FJ c fn (args.map rH) x st=some r'/\UO (c.gone f) (some r')=some r:=by
  cases hf:FJ c fn (args.map rH) x st with
  | none=>rw [hf] at h2; simp [UO] at h2
  | some r'=>rw [hf] at h2; exact ⟨r',rfl,h2⟩
 show zC c P (od c P k).1 (od c P k).2 k f args=some r;unfold zC;rw [ok.ext];simp only;rw [<- h5]
 congr 1
 unfold Oh;rw [ok.ext,ok.func];simp only;rw [hb];simp only;rw [h1 k (by omega)]
 simp only;rw [acB] at h2;unfold FJ at h2;obtain ⟨h3,h4⟩:=VY h2;rw [if_pos h3];exact h4
theorem Comes.go (ok:Told c P f fn) {args:List D} {j:Nat} {h:St} {r:Rz} (hw:W c P sg f fn (args.map rH) j h r) (ht:∀ J:Nat->St->Option Rz,J j h=some r->B7 ad c sg (eL c P sg) J f fn args=some r):Comes c P f args r:=by
 obtain ⟨n,hn⟩:=hw;exact Ca aw ok (ht _ hn)
theorem Comes.fin (ok:Told c P f fn) {args:List D} {r:Rz} (ht:∀ J:Nat->St->Option Rz,B7 ad c sg (eL c P sg) J f fn args=some r):Comes c P f args r:=
 Ca aw ok (sg:=sg) (n:=0) (ht _)
end
section
variable {P:Program} {c:cA} (aw:eu c P) {sg:Sg} {f:FuncId} {r:Rz} {J:Nat->St->Option Rz} {J':Nat->Nat->St->Option Rz} (hJ:∀ j h,J j h=some r->Ev fun m=>J' m j h=some r)
include aw hJ
theorem Ab:∀ {code:Code} {i:Nat} {st:St} {k:Exit->St->Option Rz} {k':Nat->Exit->St->Option Rz},(∀ x st,k x st=some r->Ev fun m=>k' m x st=some r)->dK ad c sg (eL c P sg) J f code i st k=some r->Ev fun m=>dK ad c sg (eL c P sg) (J' m) f code i st (k' m)=some r:=by
 intro code
 induction code with
 | skip=>intro i st k k' hk h; exact hk _ _ h
 | exit id=>intro i st k k' hk h; exact hk _ _ h
 | ret=>intro i st k k' hk h; exact hk _ _ h
 | region id ops draw=>
  intro i st k k' hk h;cases draw with
  | false=>
   simp only [dK] at h ⊢;obtain ⟨st',_,h2,h3⟩:=nu aw h;exact (hk _ _ h2).mono fun m hm=>h3 _ _ hm
  | true=>
   simp only [dK] at h ⊢;split at h
   ·obtain ⟨st',_,h2,h3⟩:=nu aw h;exact (hk _ _ h2).mono fun m hm=>h3 _ _ hm
   ·simp at h
 | seq a b eP lf=>
  intro i st k k' hk h;simp only [dK] at h ⊢;refine eP (k':=fun m=>rG (fun st'=>dK ad c sg (eL c P sg) (J' m) f b i st' (k' m)) (k' m)) (fun x st hx=>?_) h;cases x with
  | normal=>exact lf hk hx
  | _=>exact hk _ _ hx
 | cond v a b eP lf=>
  intro i st k k' hk h;simp only [dK,Oo] at h ⊢;split at h
  ·split at h
   ·rename_i hv;rcases oD h with ⟨rfl,h1⟩ | ⟨rfl,h1⟩
    ·exact eP hk h1
    ·exact lf hk h1
   ·simp at h
  ·split at h
   ·rcases oD h with ⟨rfl,h1⟩ | ⟨rfl,h1⟩
    ·exact eP hk h1
    ·exact lf hk h1
   ·simp at h
 | block id a eP=>
  intro i st k k' hk h;simp only [dK] at h ⊢;refine eP (k':=fun m=>wg id (k' m)) (fun x st hx=>?_) h;cases x with
  | exit vD=>
   simp only [wg] at hx ⊢;split at hx
   ·rename_i e; simp only [e,if_true]; exact hk _ _ hx
   ·rename_i e; simp only [if_neg e]; exact hk _ _ hx
  | _=>exact hk _ _ hx
 | loop a eP=>
  intro i st k k' hk h;simp only [dK,jmp] at h ⊢;split at h
  ·exact hJ _ _ h
  ·simp at h
 | _=>intro i st k k' hk h; simp [dK] at h
theorem Ui:∀ {code:Code} {i:Nat} {k:Exit->St->Option Rz} {k':Nat->Exit->St->Option Rz} {j:Nat} {t:St->Option Rz} {h:St},(∀ x st,k x st=some r->Ev fun m=>k' m x st=some r)->dD ad c sg (eL c P sg) J f code i k j=some t->t h=some r->Ev fun m=>∃ t',dD ad c sg (eL c P sg) (J' m) f code i (k' m) j=some t'/\t' h=some r:=by
 intro code
 induction code with
 | seq a b eP lf=>
  intro i k k' j t h hk ht hr;simp only [dD] at ht ⊢;split at ht
  ·rename_i t1 h1;simp only [jf] at ht;subst ht;refine (eP (k':=fun m=>rG (fun st'=>dK ad c sg (eL c P sg) (J' m) f b i st' (k' m)) (k' m)) (fun x st hx=>?_) h1 hr).mono fun m hm=>?_
   ·cases x with
    | normal=>exact Ab aw hJ hk hx
    | _=>exact hk _ _ hx
   ·obtain ⟨t',h2,h3⟩:=hm;exact ⟨t',by rw [h2],h3⟩
  ·rename_i h1;refine (lf hk ht hr).mono fun m hm=>?_;rw [u5 h1];exact hm
 | cond v a b eP lf=>
  intro i k k' j t h hk ht hr;simp only [dD] at ht ⊢;split at ht
  ·rename_i t1 h1;simp only [jf] at ht;subst ht;refine (eP hk h1 hr).mono fun m hm=>?_;obtain ⟨t',h2,h3⟩:=hm;exact ⟨t',by rw [h2],h3⟩
  ·rename_i h1;refine (lf hk ht hr).mono fun m hm=>?_;rw [u5 h1];exact hm
 | block id a eP=>
  intro i k k' j t h hk ht hr;simp only [dD] at ht ⊢;refine eP (k':=fun m=>wg id (k' m)) (fun x st hx=>?_) ht hr;cases x with
  | exit vD=>
   simp only [wg] at hx ⊢;split at hx
   ·rename_i e; simp only [e,if_true]; exact hk _ _ hx
   ·rename_i e; simp only [if_neg e]; exact hk _ _ hx
  | _=>exact hk _ _ hx
 | loop a eP=>
  intro i k k' j t h hk ht hr;simp only [dD] at ht ⊢;have Qn:∀ x st,rG (jmp c J f i) k x st=some r->Ev fun m=>rG (jmp c (J' m) f i) (k' m) x st=some r:=by
   intro x st hx;cases x with
   | normal=>
    simp only [rG,jmp] at hx ⊢;split at hx
    ·exact hJ _ _ hx
    ·simp at hx
   | _=>exact hk _ _ hx
  split at ht
  ·rename_i e;simp only [jf] at ht;subst ht;refine (Ab aw hJ Qn hr).mono fun m hm=>?_;rw [if_pos e];exact ⟨_,rfl,hm⟩
  ·rename_i e;simp only [if_neg e];exact eP Qn ht hr
 | _=>intro i k k' j t h hk ht hr; simp [dD] at ht
end
section
variable {P:Program} {c:cA} (aw:eu c P) {sg:Sg} {f:FuncId} {fn:Func} {sk:List D} {r:Rz}
include aw
theorem W.ev {j:Nat} {h:St} (hw:W c P sg f fn sk j h r):Ev fun m=>Jn c P sg f fn sk m j h=some r:=by
 obtain ⟨n,hn⟩:=hw;exact ⟨n,fun m hm=>DF aw hm _ _ _ hn⟩
theorem W.step {j:Nat} {h:St} (ht:∀ J:Nat->St->Option Rz,(∀ j' h',W c P sg f fn sk j' h' r->J j' h'=some r)->u4 ad c sg (eL c P sg) J f fn sk j h=some r):W c P sg f fn sk j h r:=by
 classical
 have h1:=ht (fun j' h'=>if W c P sg f fn sk j' h' r then some r else none) (fun j' h' hw=>if_pos hw)
 unfold u4 at h1;split at h1
 case h_2=>simp at h1
 rename_i body hb;split at h1
 case h_2=>simp at h1
 rename_i t ht;obtain ⟨n,hn⟩:=Ui aw (J':=Jn c P sg f fn sk) (k':=fun _=>FN c f fn sk) (fun j' h' hh=>by
  split at hh
  ·rename_i hw; exact hw.ev aw
  ·simp at hh) (fun x st hx=>⟨0,fun _ _=>hx⟩) ht h1
 obtain ⟨t',h2,h3⟩:=hn n (aav _);refine ⟨n+1,?_⟩;simp only [Jn,u4];rw [hb];simp only;rw [h2];exact h3
theorem Comes.step (ok:Told c P f fn) {args:List D} (ht:∀ J:Nat->St->Option Rz,(∀ j' h',W c P sg f fn (args.map rH) j' h' r->J j' h'=some r)->B7 ad c sg (eL c P sg) J f fn args=some r):Comes c P f args r:=by
 classical
 have h1:=ht (fun j' h'=>if W c P sg f fn (args.map rH) j' h' r then some r else none) (fun j' h' hw=>if_pos hw)
 unfold B7 at h1;split at h1
 case h_2=>simp at h1
 rename_i body hb;obtain ⟨n,hn⟩:=Ab aw (J':=Jn c P sg f fn (args.map rH)) (k':=fun _=>FN c f fn (args.map rH)) (fun j' h' hh=>by
  split at hh
  ·rename_i hw; exact hw.ev aw
  ·simp at hh) (fun x st hx=>⟨0,fun _ _=>hx⟩) h1
 refine Ca aw ok (sg:=sg) (n:=n) ?_;unfold B7;rw [hb];exact hn n (aav _)
end
open Go.Shelf
def aaK:List (Nat × TI):=[
 (2,⟨.int .i64,1,8,[.int .i64 0]⟩),
 (3,⟨.int .i64,1,8,[.int .i64 0]⟩),
 (4,⟨.bool,1,1,[.bool false]⟩),
 (5,⟨.int .u8,1,1,[.int .u8 0]⟩),
 (6,⟨.int .u8,1,1,[.int .u8 0]⟩),
 (7,⟨.struct [0,1,2,3] [1,1,1,1],4,24,[.int .i64 0,.int .i64 0,.bool false,.int .u8 0]⟩),
 (8,⟨.struct [0,1,2,3] [1,1,1,1],4,24,[.int .i64 0,.int .i64 0,.bool false,.int .u8 0]⟩),
 (9,⟨.str,1,16,[.str ⟨#[]⟩]⟩),
 (10,⟨.str,1,16,[.str ⟨#[]⟩]⟩),
 (11,⟨.str,1,16,[.str ⟨#[]⟩]⟩),
 (12,⟨.int .u64,1,8,[.int .u64 0]⟩),
 (13,⟨.struct [0,1] [1,1],2,24,[.str ⟨#[]⟩,.int .u64 0]⟩),
 (14,⟨.struct [0,1] [1,1],2,24,[.str ⟨#[]⟩,.int .u64 0]⟩),
 (15,⟨.ptr 267,1,8,[.undef]⟩),
 (16,⟨.ptr 270,1,8,[.undef]⟩),
 (17,⟨.ptr 279,1,8,[.undef]⟩),
 (18,⟨.struct [0] [1],1,8,[.undef]⟩),
 (19,⟨.struct [0] [1],1,8,[.undef]⟩),
 (21,⟨.int .i32,1,4,[.int .i32 0]⟩),
 (22,⟨.slice 3,1,24,[.nil 1]⟩),
 (23,⟨.slice 22,1,24,[.nil 1]⟩),
 (24,⟨.struct [0,1,2,3,4,5] [1,1,1,1,1,1],6,64,[.nil 1,.nil 1,.bool false,.bool false,.bool false,.int .i64 0]⟩),
 (25,⟨.struct [0,1,2,3,4,5] [1,1,1,1,1,1],6,64,[.nil 1,.nil 1,.bool false,.bool false,.bool false,.int .i64 0]⟩),
 (26,⟨.slice 5,1,24,[.nil 1]⟩),
 (27,⟨.struct [0,1] [1,1],2,48,[.nil 1,.nil 1]⟩),
 (28,⟨.struct [0,1] [1,1],2,48,[.nil 1,.nil 1]⟩),
 (29,⟨.slice 4,1,24,[.nil 1]⟩),
 (30,⟨.struct [0,1,2,3,4,10,12,13,14,15] [1,1,1,1,6,2,1,1,1,1],16,248,[.int .i64 0,.bool false,.bool false,.nil 1,.nil 1,.nil 1,.bool false,.bool false,.bool false,.int .i64 0,.nil 1,.nil 1,.nil 1,.nil 1,.nil 1,.nil 1]⟩),
 (31,⟨.struct [0,1,2,3,4,10,12,13,14,15] [1,1,1,1,6,2,1,1,1,1],16,248,[.int .i64 0,.bool false,.bool false,.nil 1,.nil 1,.nil 1,.bool false,.bool false,.bool false,.int .i64 0,.nil 1,.nil 1,.nil 1,.nil 1,.nil 1,.nil 1]⟩),
 (34,⟨.struct [0,1,2,3,4,5] [1,1,1,1,1,1],6,64,[.nil 1,.nil 1,.bool false,.bool false,.bool false,.int .i64 0]⟩),
 (35,⟨.struct [0,1] [1,1],2,48,[.nil 1,.nil 1]⟩),
 (36,⟨.struct [0,1,2,3,4,10,12,13,14,15] [1,1,1,1,6,2,1,1,1,1],16,248,[.int .i64 0,.bool false,.bool false,.nil 1,.nil 1,.nil 1,.bool false,.bool false,.bool false,.int .i64 0,.nil 1,.nil 1,.nil 1,.nil 1,.nil 1,.nil 1]⟩),
 (37,⟨.struct [0,1,2,3,4,10,12,13,14,15] [1,1,1,1,6,2,1,1,1,1],16,248,[.int .i64 0,.bool false,.bool false,.nil 1,.nil 1,.nil 1,.bool false,.bool false,.bool false,.int .i64 0,.nil 1,.nil 1,.nil 1,.nil 1,.nil 1,.nil 1]⟩),
 (49,⟨.slice 127,1,24,[.nil 7]⟩),
 (55,⟨.slice 31,1,24,[.nil 16]⟩),
 (56,⟨.slice 167,1,24,[.nil 3]⟩),
 (57,⟨.slice 176,1,24,[.nil 2]⟩),
 (58,⟨.struct [0,1,2,3,4] [1,1,1,1,1],5,104,[.nil 16,.nil 3,.nil 2,.nil 1,.int .i64 0]⟩),
 (59,⟨.struct [0,1,2,3,4] [1,1,1,1,1],5,104,[.nil 16,.nil 3,.nil 2,.nil 1,.int .i64 0]⟩),
 (62,⟨.slice 37,1,24,[.nil 16]⟩),
 (63,⟨.slice 171,1,24,[.nil 3]⟩),
 (64,⟨.slice 174,1,24,[.nil 2]⟩),
 (65,⟨.struct [0,1,2,3,4] [1,1,1,1,1],5,104,[.nil 16,.nil 3,.nil 2,.nil 1,.int .i64 0]⟩),
 (66,⟨.struct [0,1,2,3,4] [1,1,1,1,1],5,104,[.nil 16,.nil 3,.nil 2,.nil 1,.int .i64 0]⟩),
 (73,⟨.struct [0,1,2,3,4] [1,1,1,1,1],5,56,[.int .i64 0,.int .i64 0,.int .i64 0,.int .i64 0,.nil 1]⟩),
 (74,⟨.struct [0,1,2,3,4] [1,1,1,1,1],5,56,[.int .i64 0,.int .i64 0,.int .i64 0,.int .i64 0,.nil 1]⟩),
 (77,⟨.struct [0,1,2,3,4] [1,1,1,1,1],5,56,[.int .i64 0,.int .i64 0,.int .i64 0,.int .i64 0,.nil 1]⟩),
 (82,⟨.struct [0,1,2] [1,1,1],3,24,[.int .i64 0,.int .i64 0,.int .i64 0]⟩),
 (83,⟨.struct [0,1,2] [1,1,1],3,24,[.int .i64 0,.int .i64 0,.int .i64 0]⟩),
 (86,⟨.struct [0,1,2] [1,1,1],3,24,[.int .i64 0,.int .i64 0,.int .i64 0]⟩),
 (91,⟨.slice 83,1,24,[.nil 3]⟩),
 (95,⟨.slice 86,1,24,[.nil 3]⟩),
 (126,⟨.struct [0,1,2] [1,1,5],7,72,[.int .i64 0,.int .i64 0,.int .i64 0,.int .i64 0,.int .i64 0,.int .i64 0,.nil 1]⟩),
 (127,⟨.struct [0,1,2] [1,1,5],7,72,[.int .i64 0,.int .i64 0,.int .i64 0,.int .i64 0,.int .i64 0,.int .i64 0,.nil 1]⟩),
 (166,⟨.struct [0,1,2] [1,1,1],3,40,[.int .i64 0,.int .i64 0,.nil 1]⟩),
 (167,⟨.struct [0,1,2] [1,1,1],3,40,[.int .i64 0,.int .i64 0,.nil 1]⟩),
 (171,⟨.struct [0,1,2] [1,1,1],3,40,[.int .i64 0,.int .i64 0,.nil 1]⟩),
 (173,⟨.struct [0,1] [1,1],2,16,[.int .i64 0,.int .i64 0]⟩),
 (174,⟨.struct [0,1] [1,1],2,16,[.int .i64 0,.int .i64 0]⟩),
 (176,⟨.struct [0,1] [1,1],2,16,[.int .i64 0,.int .i64 0]⟩),
 (213,⟨.ptr 66,1,8,[.undef]⟩),
 (216,⟨.int .u64,1,8,[.int .u64 0]⟩),
 (222,⟨.ptr 26,1,8,[.undef]⟩),
 (224,⟨.slice 77,1,24,[.nil 5]⟩),
 (234,⟨.array 2 3,2,16,[.int .i64 0,.int .i64 0]⟩),
 (235,⟨.slice 234,1,24,[.nil 2]⟩),
 (236,⟨.ptr 37,1,8,[.undef]⟩),
 (243,⟨.ptr 245,1,8,[.undef]⟩),
 (244,⟨.struct [0,1,2] [1,1,1],3,40,[.nil 1,.int .i64 0,.bool false]⟩),
 (245,⟨.struct [0,1,2] [1,1,1],3,40,[.nil 1,.int .i64 0,.bool false]⟩),
 (248,⟨.slice 26,1,24,[.nil 1]⟩),
 (255,⟨.ptr 257,1,8,[.undef]⟩),
 (256,⟨.struct [0,1,2] [1,1,1],3,40,[.nil 1,.int .i64 0,.bool false]⟩),
 (257,⟨.struct [0,1,2] [1,1,1],3,40,[.nil 1,.int .i64 0,.bool false]⟩),
 (266,⟨.struct [0,1,2,3] [1,1,1,1],4,40,[.undef,.undef,.undef,.str ⟨#[]⟩]⟩),
 (267,⟨.struct [0,1,2,3] [1,1,1,1],4,40,[.undef,.undef,.undef,.str ⟨#[]⟩]⟩),
 (271,⟨.int .u32,1,4,[.int .u32 0]⟩),
 (272,⟨.int .u8,1,1,[.int .u8 0]⟩),
 (273,⟨.int .u8,1,1,[.int .u8 0]⟩),
 (275,⟨.ptr 5,1,8,[.undef]⟩),
 (276,⟨.int .i32,1,4,[.int .i32 0]⟩),
 (277,⟨.int .i32,1,4,[.int .i32 0]⟩),
 (278,⟨.struct [0,1,2,3,4,5,6,7,8,9,10] [1,1,1,1,1,1,1,1,1,1,1],11,48,[.int .u64 0,.int .u64 0,.int .u32 0,.int .u8 0,.int .u8 0,.int .u8 0,.int .u8 0,.undef,.undef,.int .i32 0,.int .i32 0]⟩),
 (279,⟨.struct [0,1,2,3,4,5,6,7,8,9,10] [1,1,1,1,1,1,1,1,1,1,1],11,48,[.int .u64 0,.int .u64 0,.int .u32 0,.int .u8 0,.int .u8 0,.int .u8 0,.int .u8 0,.undef,.undef,.int .i32 0,.int .i32 0]⟩)]
def afl:List (Nat × List Bool):=[(21,[true,false]),(22,[true,false]),(32,[true,false]),(50,[true,false]),(54,[true,false]),(63,[true,false]),(82,[true,false]),(83,[true,false]),(84,[true,false]),(85,[true,false]),(90,[true,false]),(108,[true,false]),(130,[true]),(140,[true]),(143,[true]),(145,[true]),(149,[true,false]),(150,[true,false]),(151,[true,false]),(176,[true,false]),(182,[true]),(209,[true]),(210,[true]),(218,[true,false,true]),(219,[true]),(221,[true]),(222,[true]),(223,[true]),(224,[true]),(225,[true]),(228,[true,false]),(250,[true]),(256,[true]),(257,[true]),(258,[true]),(260,[true]),(261,[true]),(264,[true]),(269,[true,false,false]),(270,[true,false,false]),(271,[true,false,false]),(272,[true,false]),(274,[true,false,false]),(275,[true,false]),(276,[true,false]),(277,[true,false,false]),(278,[true,false,false]),(295,[true,false]),(296,[true,false]),(297,[true]),(299,[true,false]),(303,[true]),(310,[true]),(311,[true]),(324,[true]),(330,[true]),(331,[true]),(355,[true]),(356,[true]),(357,[true]),(358,[true]),(359,[true])]
def acE:List (Nat × List Bool):=[(90,[true,false]),(108,[true,false]),(130,[true,false,false,false]),(140,[true,false,false]),(143,[true,false,false]),(145,[true,false]),(182,[true,false]),(209,[true,false,false,false]),(210,[true,false,false,false,false]),(218,[true,false,true]),(219,[true,false]),(221,[true,false]),(222,[true,false,false]),(223,[true,false]),(224,[true,false]),(225,[true,false]),(256,[true,false,false]),(257,[true,false]),(258,[true,false]),(260,[true,false,false]),(261,[true,false,false]),(264,[true,false]),(297,[true,false]),(303,[true,false,false]),(324,[true])]
def afm:List Nat:=[257,271,295,296]
def Y2:List (Nat × Nat):=[(221,4),(275,7)]
def ag3:List (Nat × Nat × List Nat × List Nat):=[(19,(0,([0,1,5],[26,27]))),(22,(0,([0,1,5],[19,20]))),(23,(0,([0,1,5],[21,22]))),(31,(0,([0,1,5],[27,28]))),(32,(0,([0,1,5],[67,68]))),(33,(0,([0,1,5],[81,82]))),(57,(0,([1,2,15],[1,2,44]))),(59,(0,([1,4,6,7,8],[4,7,48,49]))),(60,(0,([0,3,4],[23]))),(61,(0,([4,6,7,25,26,27],[4,6,47,48]))),(62,(0,([0,1,5],[27,28]))),(63,(0,([0,1,5],[34,35]))),(68,(0,([0,1,5],[27,28]))),(69,(0,([1,3],[1,99]))),(70,(0,([0,1,5,6],[34,35]))),(70,(2,([1,5,7],[34,35]))),(71,(0,([0,3,4],[22]))),(74,(0,([0,3,4],[22]))),(75,(0,([0,3,4],[23]))),(76,(0,([1,85],[1,164]))),(76,(2,([1,139,140,141],[1,164]))),(77,(0,([5,12,13,14],[23,24]))),(80,(0,([0,1,5],[26,27]))),(81,(0,([0,1,5],[27,28]))),(84,(0,([0,1,5],[21,22]))),(85,(0,([0,1,5],[19,20]))),(86,(0,([1,2,3,4],[1,2,3,55]))),(88,(0,([1,2,3,4],[1,2,3,32]))),(89,(0,([0,1,5,6],[28,29]))),(99,(0,([0,1,5],[23,24]))),(100,(0,([0,1,5],[21,22]))),(102,(0,([0,1,5],[18,19]))),(113,(0,([0,1,5],[27,28]))),(114,(0,([0,1,5],[27,28]))),(116,(0,([1,3,4],[1,40]))),(117,(0,([1,3],[1,33]))),(118,(0,([1,3],[1,68]))),(118,(2,([1,3,4],[1,68]))),(118,(4,([1,3,4,5,6,7,8],[1,5,6,68]))),(119,(0,([1,3],[1,59]))),(119,(2,([1,3,5,6],[1,59]))),(120,(0,([0,3,4],[23]))),(121,(0,([0,3,4],[23]))),(122,(0,([0,3,4],[23]))),(125,(0,([1,13,14,15],[1,63]))),(125,(2,([1,3,4,13,14,15,23,24,25],[1,4,63]))),(125,(4,([1,3,4,5,6,13,14,15,23,24,25,34,35,36],[1,4,6,63]))),(126,(0,([1,11,12,13],[1,48]))),(127,(0,([0,1,5],[27,28]))),(128,(0,([0,1,5],[27,28]))),(129,(0,([0,1,5],[27,28]))),(134,(0,([1,3,5,7,8],[3,5,33,34,35]))),(138,(0,([1,3,5,7,10],[3,5,33,34,35]))),(144,(0,([1,3],[1,127]))),(144,(2,([1,3,4,5],[1,4,127]))),(144,(4,([1,6],[1,127]))),(144,(6,([1,7],[1,127]))),(146,(0,([1,2,3,4],[1,2,3,69]))),(146,(2,([1,2,3,5],[1,2,3,69]))),(147,(0,([1,31,32,33],[1,124]))),(147,(2,([1,76,77,78],[1,124]))),(147,(4,([1,96,97,98],[1,124]))),(149,(0,([0,1,5],[143,144]))),(150,(0,([0,1,5],[34,35]))),(151,(0,([0,1,5],[27,28]))),(152,(0,([0,1,5],[175,176]))),(153,(0,([0,1,5],[40,41]))),(154,(0,([0,1,5],[31,32]))),(155,(0,([1,2,3],[1,2,19]))),(156,(0,([1,2,3,18,19,20],[1,2,3,54]))),(156,(2,([2,3,33,34,35],[2,3,54]))),(157,(0,([10,11,12],[30]))),(157,(2,([5,10,11,12,18,19,20],[30]))),(160,(0,([0,3],[19]))),(161,(0,([1,3],[1,47]))),(162,(0,([1,3],[1,81]))),(164,(0,([2,3,5],[2,3,68,69]))),(165,(0,([0,1,5],[46,47]))),(166,(0,([0,3,4],[22]))),(173,(0,([0,3,9,10,11],[36]))),(173,(2,([6,25,26,27],[36]))),(175,(0,([0,1,5],[26,27]))),(176,(0,([0,1,5],[20,21]))),(181,(0,([3,7,8,9],[20]))),(182,(0,([0,1,5,6],[42,43]))),(184,(0,([0,1,5],[22,23]))),(186,(0,([0,3],[29]))),(188,(0,([0,1,7,8],[19,20]))),(189,(0,([0,5,6,7],[26]))),(193,(0,([0,1,5],[32,33]))),(194,(0,([1,2,5,6],[2,39,40]))),(195,(0,([1,2,5],[2,37,38]))),(196,(0,([0,1,5,6],[43,44]))),(199,(0,([3,8,9,10],[23]))),(202,(0,([0,1,12,13],[26,27]))),(203,(0,([2,5,9,10,11],[2,32,33]))),(204,(0,([1,2,5],[2,35,36]))),(205,(0,([0,1,5,10],[44,45]))),(209,(0,([1,2,4,8,9,10],[4,8,9,56,57,58,59]))),(210,(0,([1,2,5,10,12,27,28],[5,10,12,71,72,73,74,75]))),(216,(0,([0,1,7,8],[19,20]))),(220,(0,([1,3],[1,87]))),(220,(2,([1,3,4],[1,87]))),(220,(4,([1,5],[1,87]))),(221,(0,([2,3,4,7],[2,3,4,170,171]))),(221,(2,([2,4,11,12,13,14],[2,4,12,170,171]))),(225,(1,([2,3,4,6,7,11,12],[2,3,4,6,7,129,130]))),(226,(0,([1,13,14,15],[1,75]))),(226,(2,([1,46,47,48],[1,75]))),(226,(4,([1,5,6,46,47,48,53],[1,6,75]))),(229,(0,([1,2,3],[1,2,31]))),(229,(2,([1,2,3,4],[1,2,31]))),(233,(0,([0,3],[32]))),(239,(0,([0,5,6,7],[29]))),(241,(0,([1,2,15,16,17],[32,33,34]))),(243,(0,([1,6],[29,30]))),(247,(0,([0,1,7,8],[19,20]))),(250,(0,([0,2,3],[28]))),(256,(0,([1,2,3,6,7,8],[3,6,101,102,103]))),(257,(0,([1,2,4,5],[2,4,61,62]))),(257,(2,([1,2,4,5,6],[2,4,61,62]))),(258,(0,([1,2,4,5],[2,4,64,65]))),(264,(0,([1,2,4,5],[2,4,34,35]))),(271,(0,([0,4,5,15,16,17],[4,5,59,60,61]))),(279,(0,([0,2,4,5,6],[2,11,5,65]))),(280,(0,([0,1,7,8],[19,20]))),(282,(0,([1,3,4],[1,85]))),(282,(2,([1,3,5],[1,85]))),(282,(4,([1,3,5,6],[1,85]))),(284,(0,([0,3,9,10,11],[36]))),(284,(2,([6,25,26,27],[36]))),(287,(0,([0,4,5,6,7],[49]))),(288,(0,([0,1,4,7,9,10,11],[4,17,9,112,113]))),(290,(0,([0,3,4],[21]))),(295,(0,([0,6,7,8],[62,63]))),(296,(0,([0,6,7,8],[22,23]))),(297,(0,([0,1,5,6],[42,43]))),(299,(0,([0,1,5],[16,17]))),(301,(0,([0,1,7,8],[19,20]))),(310,(0,([0,3,4,5],[28]))),(312,(0,([0,2,4,5,16],[2,11,5,64]))),(314,(0,([0,3],[25]))),(316,(0,([1,3,13,14,15],[1,41]))),(318,(0,([0,4,5,6],[96]))),(318,(2,([0,4,5,6,7,8,9],[96]))),(319,(0,([1,3,4,5],[1,49]))),(319,(2,([1,3,6],[1,49]))),(320,(0,([0,3,4,5],[28]))),(321,(0,([0,3,4],[60]))),(326,(0,([0,4,6,7],[43]))),(329,(0,([0,1,7,8],[55,56]))),(330,(0,([0,3,4,5],[28]))),(333,(0,([3,7,8,9],[19]))),(335,(0,([0,1,6,7,8],[27,28]))),(336,(0,([3,7,8,9],[20]))),(338,(0,([0,4,5],[87]))),(338,(2,([0,4,5,7,69,70],[87]))),(340,(0,([0,1,7,8,9],[57,58]))),(341,(0,([0,3],[27]))),(342,(0,([0,1,2,7],[51,52,53]))),(343,(0,([0,3,4],[66]))),(344,(0,([3,4,7,8,9],[27]))),(345,(0,([0,1,6,7,8],[30,31]))),(346,(0,([0,1,2,7],[55,56,57])))]
def acF:List (Nat × List (Nat × Nat)):=[(27,[(10,11),(12,13)]),(28,[(11,12),(13,14)]),(41,[(42,9),(44,4),(53,11),(55,4),(8,9),(9,10)]),(42,[(8,9),(9,10)]),(86,[(42,4),(45,2),(48,0)]),(88,[(19,4),(22,2),(25,0)]),(118,[(21,2),(24,0),(26,2),(29,0)]),(146,[(7,2),(11,2),(14,2),(42,4),(44,2),(48,0),(50,2),(54,0),(57,2),(61,0)]),(177,[(4,2),(8,2)]),(213,[(2,3),(3,4)]),(215,[(3,4),(4,5)]),(221,[(38,3),(40,4),(43,3),(45,4),(95,3),(100,3)]),(304,[(6,7),(45,2)])]
def acG:List (Nat × List (Nat × List Nat)):=[(27,[(500068,[10,12]),(500069,[10,12])]),(28,[(500075,[11,13]),(500076,[11,13])]),(41,[(48,[8,3]),(59,[10,3]),(500090,[8,9]),(500091,[8,9])]),(42,[(500099,[8,9]),(500100,[8,9])]),(86,[(50,[3,1]),(52,[3,1]),(500052,[1])]),(88,[(27,[3,1]),(29,[3,1]),(500029,[1])]),(118,[(500025,[1]),(500030,[1])]),(146,[(9,[1]),(13,[1]),(500016,[1]),(63,[3,1]),(66,[3,1]),(500066,[1])]),(177,[(6,[1]),(10,[1]),(500011,[1])]),(213,[(500008,[2,3]),(500009,[2,3]),(500013,[3,2]),(500014,[3,2])]),(215,[(500009,[3,4]),(500010,[3,4]),(500013,[4,3]),(500014,[4,3])]),(221,[(53,[2,3]),(99,[2]),(105,[2]),(500105,[])]),(304,[(500041,[6,1])])]
def ag4:List (Nat × RS × List RS):=[
 (0,(.aM [],[])),
 (1,(.aM [],[])),
 (2,(.aM [],[])),
 (3,(.bool,[.undef,.undef])),
 (4,(.bool,[.undef,.undef,.undef,.undef])),
 (5,(.bool,[.undef,.undef,.undef])),
 (6,(.bool,[.undef,.undef])),
 (7,(.bool,[.undef])),
 (8,(.bool,[.undef,.undef,.undef,.undef])),
 (9,(.bool,[.undef,.undef])),
 (10,(.bool,[.undef,.undef,.undef])),
 (11,(.bool,[.undef,.undef,.undef])),
 (12,(.bool,[.undef,.undef])),
 (13,(.bool,[.undef])),
 (14,(.bool,[.undef,.undef])),
 (15,(.int .i64,[.undef,.undef])),
 (16,(.ty .I,[.undef,.undef])),
 (17,(.ty .node,[.undef])),
 (18,(.ty .I,[.undef,.undef])),
 (19,(.bool,[.undef,.undef])),
 (20,(.bool,[.undef,.undef])),
 (21,(.int .i64,[.agg [.int .i64,.bool,.bool,.sl 1,.sl 1,.sl 1,.bool,.bool,.bool,.int .i64,.sl 1,.sl 1,.sl 1,.sl 1,.sl 1,.sl 1],.undef])),
 (22,(.int .i64,[.sl 1,.undef])),
 (23,(.int .i64,[.undef,.undef])),
 (24,(.ty .node,[.undef,.undef,.undef,.undef])),
 (25,(.ty .node,[.undef,.undef,.undef,.undef])),
 (26,(.int .i64,[.undef,.undef])),
 (27,(.aM [.ty .node,.ty .node,.bool],[.undef,.undef,.undef])),
 (28,(.aM [.ty .node,.ty .node,.bool],[.undef,.undef,.undef])),
 (29,(.aM [.ty .node,.ty .Ps],[.undef,.undef])),
 (30,(.aM [.ty .node,.ty .Ps],[.undef,.undef])),
 (31,(.bool,[.undef,.undef])),
 (32,(.int .i64,[.sl 7,.undef])),
 (33,(.int .i64,[.undef,.undef])),
 (34,(.int .i64,[.undef,.undef])),
 (35,(.bool,[.undef])),
 (36,(.ty .world,[.undef])),
 (37,(.bool,[.undef])),
 (38,(.bool,[.undef,.undef])),
 (39,(.ty .node,[.undef,.undef,.undef,.undef])),
 (40,(.ty .node,[.undef,.undef,.undef,.undef])),
 (41,(.aM [.ty .node,.ty .node,.bool],[.undef,.undef])),
 (42,(.aM [.ty .node,.ty .node,.bool],[.undef,.undef])),
 (43,(.aM [.ty .node,.ty .Ps],[.undef,.undef,.undef])),
 (44,(.aM [.ty .node,.ty .Ps],[.undef,.undef,.undef])),
 (45,(.int .i64,[.undef,.undef])),
 (46,(.aM [.ty .node,.ty .Ps],[.undef,.undef,.undef])),
 (47,(.ty .msg,[.undef])),
 (48,(.aM [.ty .node,.ty .Ps],[.undef,.undef,.undef])),
 (49,(.bool,[.undef,.undef])),
 (50,(.int .i64,[.agg [.int .i64,.int .i64,.int .i64,.int .i64,.sl 1],.undef])),
 (51,(.aM [.ty .world,.int .i64],[.undef,.undef])),
 (52,(.ty .JF,[.undef])),
 (53,(.aM [.ty .world,.int .i64],[.undef,.undef])),
 (54,(.int .i64,[.agg [.sl 16,.sl 3,.sl 2,.sl 1,.int .i64],.undef])),
 (55,(.int .i64,[.undef,.undef])),
 (56,(.ty .world,[.undef])),
 (57,(.ty .world,[.undef])),
 (58,(.int .i64,[.undef,.undef])),
 (59,(.aM [.ty .world,.ty .I],[.undef,.undef])),
 (60,(.ty .Ds,[.undef])),
 (61,(.aM [.ty .world,.ty .I],[.undef,.undef])),
 (62,(.bool,[.undef,.undef])),
 (63,(.int .i64,[.sl 3,.undef])),
 (64,(.int .i64,[.undef,.undef])),
 (65,(.int .i64,[.undef,.undef])),
 (66,(.int .i64,[.undef,.undef])),
 (67,(.int .i64,[.undef,.undef])),
 (68,(.int .i64,[.undef,.undef])),
 (69,(.bool,[.undef])),
 (70,(.ty .I,[.undef,.undef])),
 (71,(.sl 1,[.undef])),
 (72,(.agg [.sl 1,.sl 1,.bool,.bool,.bool,.int .i64],[.undef])),
 (73,(.agg [.sl 1,.sl 1],[.undef])),
 (74,(.sl 1,[.undef])),
 (75,(.sl 1,[.undef])),
 (76,(.bool,[.undef])),
 (77,(.ty .I,[.undef,.undef])),
 (78,(.bool,[.undef,.undef])),
 (79,(.bool,[.undef,.undef])),
 (80,(.bool,[.undef,.undef])),
 (81,(.bool,[.undef,.undef])),
 (82,(.int .i64,[.agg [.sl 1,.sl 1,.bool,.bool,.bool,.int .i64],.undef])),
 (83,(.int .i64,[.agg [.sl 1,.sl 1],.undef])),
 (84,(.int .i64,[.sl 1,.undef])),
 (85,(.int .i64,[.sl 1,.undef])),
 (86,(.ty .node,[.undef])),
 (87,(.bool,[.undef,.undef,.undef])),
 (88,(.ty .mt,[.undef])),
 (89,(.ty .I,[.undef,.undef])),
 (90,(.ty .node,[.undef,.undef])),
 (91,(.ty .node,[.undef])),
 (92,(.bool,[.undef])),
 (93,(.bool,[.undef])),
 (94,(.ty .mt,[.undef])),
 (95,(.ty .I,[.undef,.undef])),
 (96,(.ty .node,[.undef,.undef])),
 (97,(.int .i64,[.undef,.undef])),
 (98,(.int .i64,[.undef,.undef])),
 (99,(.int .i64,[.undef,.undef])),
 (100,(.int .i64,[.undef,.undef])),
 (101,(.bool,[.undef,.undef])),
 (102,(.bool,[.undef,.undef])),
 (103,(.ty .I,[.undef,.undef])),
 (104,(.bool,[.undef,.undef])),
 (105,(.bool,[.undef,.undef,.undef])),
 (106,(.bool,[.undef,.undef])),
 (107,(.ty .I,[.undef,.undef])),
 (108,(.aM [.ty .node,.bool],[.undef,.undef])),
 (109,(.int .i64,[.undef])),
 (110,(.sl 1,[.undef])),
 (111,(.int .i64,[.undef])),
 (112,(.bool,[.undef,.undef])),
 (113,(.int .i64,[.undef,.undef])),
 (114,(.int .i64,[.undef,.undef])),
 (115,(.int .i64,[.undef,.undef])),
 (116,(.bool,[.undef])),
 (117,(.bool,[.undef])),
 (118,(.bool,[.undef])),
 (119,(.bool,[.undef])),
 (120,(.sl 16,[.undef])),
 (121,(.sl 3,[.undef])),
 (122,(.sl 2,[.undef])),
 (123,(.bool,[.undef])),
 (124,(.bool,[.undef])),
 (125,(.bool,[.undef])),
 (126,(.bool,[.undef])),
 (127,(.bool,[.undef,.undef])),
 (128,(.bool,[.undef,.undef])),
 (129,(.bool,[.undef,.undef])),
 (130,(.ty .node,[.undef,.undef,.undef,.undef])),
 (131,(.aM [.ty .node,.bool],[.undef,.undef,.undef,.undef])),
 (132,(.int .i64,[.undef,.undef])),
 (133,(.int .i64,[.undef,.undef])),
 (134,(.ty .Ps,[.undef,.undef,.undef])),
 (135,(.bool,[.undef,.undef])),
 (136,(.bool,[.undef,.undef])),
 (137,(.ty .I,[.undef,.undef])),
 (138,(.ty .Ps,[.undef,.undef,.undef])),
 (139,(.bool,[.undef])),
 (140,(.aM [.ty .node,.ty .Ps],[.undef,.undef,.undef])),
 (141,(.bool,[.undef])),
 (142,(.bool,[.undef,.undef])),
 (143,(.aM [.ty .node,.ty .Ps,.bool],[.undef,.undef,.undef])),
 (144,(.bool,[.undef])),
 (145,(.aM [.ty .world,.int .i64],[.undef,.undef])),
 (146,(.ty .world,[.undef])),
 (147,(.bool,[.undef])),
 (148,(.aM [.ty .world,.int .i64],[.undef,.undef])),
 (149,(.int .i64,[.sl 16,.undef])),
 (150,(.int .i64,[.sl 3,.undef])),
 (151,(.int .i64,[.sl 2,.undef])),
 (152,(.int .i64,[.undef,.undef])),
 (153,(.int .i64,[.undef,.undef])),
 (154,(.int .i64,[.undef,.undef])),
 (155,(.ty .world,[.undef])),
 (156,(.ty .world,[.undef])),
 (157,(.aM [.int .i64,.int .i64,.bool],[.undef])),
 (158,(.bool,[.undef,.undef])),
 (159,(.int .i64,[.undef,.undef])),
 (160,(.bool,[.undef])),
 (161,(.bool,[.undef])),
 (162,(.bool,[.undef])),
 (163,(.aM [.ty .mt,.int .i64,.bool],[.undef])),
 (164,(.bool,[.undef,.undef])),
 (165,(.ty .I,[.undef,.undef])),
 (166,(.sl 1,[.undef])),
 (167,(.bool,[.undef])),
 (168,(.bool,[.undef])),
 (169,(.bool,[.undef])),
 (170,(.aM [.ty .mt,.int .i64,.bool],[.undef])),
 (171,(.bool,[.undef,.undef])),
 (172,(.bool,[.undef])),
 (173,(.ty .I,[.undef])),
 (174,(.ty .I,[.undef,.undef])),
 (175,(.bool,[.undef,.undef])),
 (176,(.int .i64,[.sl 1,.undef])),
 (177,(.ty .cE,[.undef])),
 (178,(.ty .cE,[.undef,.undef])),
 (179,(.ty .cE,[.undef])),
 (180,(.ty .L,[.undef])),
 (181,(.ty .R,[.undef])),
 (182,(.ty .I,[.undef,.undef])),
 (183,(.bool,[.undef,.undef])),
 (184,(.int .i64,[.undef,.undef])),
 (185,(.bool,[.undef,.undef])),
 (186,(.bool,[.undef])),
 (187,(.bool,[.undef,.undef])),
 (188,(.int .i64,[.undef,.undef])),
 (189,(.bool,[.undef])),
 (190,(.ty .cE,[.undef,.undef])),
 (191,(.int .i64,[.undef,.undef])),
 (192,(.int .i64,[.undef])),
 (193,(.bool,[.undef,.undef])),
 (194,(.ty .I,[.undef,.undef])),
 (195,(.ty .I,[.undef,.undef])),
 (196,(.ty .I,[.undef,.undef])),
 (197,(.agg [.int .i64,.int .i64,.sl 1],[.undef])),
 (198,(.agg [.int .i64,.int .i64],[.undef])),
 (199,(.ty .I,[.undef])),
 (200,(.bool,[.undef,.undef])),
 (201,(.bool,[.undef,.undef])),
 (202,(.bool,[.undef,.undef])),
 (203,(.ty .I,[.undef,.undef])),
 (204,(.ty .I,[.undef,.undef])),
 (205,(.ty .I,[.undef,.undef])),
 (206,(.bool,[.undef,.undef])),
 (207,(.bool,[.undef,.undef])),
 (208,(.bool,[.undef,.undef])),
 (209,(.ty .node,[.undef,.undef,.undef,.undef])),
 (210,(.aM [.ty .node,.bool],[.undef,.undef,.undef,.undef,.undef])),
 (211,(.bool,[.undef,.undef])),
 (212,(.int .i64,[.undef,.undef])),
 (213,(.int .i64,[.undef,.undef])),
 (214,(.int .i64,[.undef,.undef])),
 (215,(.int .i64,[.undef,.undef,.undef])),
 (216,(.int .i64,[.undef,.undef])),
 (217,(.bool,[.undef,.undef])),
 (218,(.ty .I,[.undef,.undef,.undef])),
 (219,(.ty .node,[.undef,.undef])),
 (220,(.bool,[.undef])),
 (221,(.aM [.ty .world,.int .i64],[.undef,.undef])),
 (222,(.aM [.ty .world,.int .i64],[.undef,.undef,.undef])),
 (223,(.aM [.ty .world,.int .i64],[.undef,.undef])),
 (224,(.aM [.ty .world,.int .i64],[.undef,.undef])),
 (225,(.aM [.ty .world,.int .i64],[.undef,.undef])),
 (226,(.bool,[.undef])),
 (227,(.bool,[.undef,.undef])),
 (228,(.int .i64,[.aZ [.dc 16,.dc 3,.dc 2,.dc 1,.int .i64],.undef])),
 (229,(.ty .JF,[.undef])),
 (230,(.ty .world,[.undef,.undef])),
 (231,(.ty .Ks,[.undef])),
 (232,(.ty .B,[.undef])),
 (233,(.bool,[.undef])),
 (234,(.int .i64,[.undef])),
 (235,(.aM [.ty .mt,.int .i64,.bool],[.undef])),
 (236,(.bool,[.undef])),
 (237,(.bool,[.undef,.undef])),
 (238,(.bool,[.undef])),
 (239,(.bool,[.undef])),
 (240,(.aM [.ty .mt,.int .i64,.bool],[.undef])),
 (241,(.bool,[.undef,.undef,.undef])),
 (242,(.ty .I,[.undef,.undef])),
 (243,(.ty .B,[.undef,.undef])),
 (244,(.ty .cE,[.undef,.undef,.undef])),
 (245,(.sl 1,[])),
 (246,(.sl 1,[.undef,.undef,.undef])),
 (247,(.int .i64,[.undef,.undef])),
 (248,(.sl 1,[])),
 (249,(.sl 1,[.undef,.undef,.undef])),
 (250,(.aM [],[.sl 1])),
 (251,(.bool,[.undef,.undef])),
 (252,(.int .i64,[.undef,.undef])),
 (253,(.bool,[.undef,.undef])),
 (254,(.aM [],[.undef,.undef])),
 (255,(.aM [.ty .msg,.bool],[.undef])),
 (256,(.ty .world,[.undef,.undef,.undef])),
 (257,(.ty .world,[.undef,.undef])),
 (258,(.ty .world,[.undef,.undef])),
 (259,(.bool,[.undef])),
 (260,(.aM [.ty .world,.int .i64],[.undef,.undef,.undef])),
 (261,(.aM [.ty .world,.int .i64],[.undef,.undef,.undef])),
 (262,(.ty .node,[.undef])),
 (263,(.ty .cE,[.undef,.undef,.undef])),
 (264,(.ty .world,[.undef,.undef])),
 (265,(.bool,[.undef,.undef])),
 (266,(.aM [.ty .node,.bool],[.undef,.undef,.undef])),
 (267,(.aM [.ty .node,.bool],[.undef])),
 (268,(.bool,[.undef,.undef])),
 (269,(.int .i64,[.aZ [.dc 16,.dc 3,.dc 2,.dc 1,.int .i64],.undef,.undef])),
 (270,(.int .i64,[.aZ [.dc 16,.dc 3,.dc 2,.dc 1,.int .i64],.undef,.undef])),
 (271,(.aM [],[.aZ [.dc 16,.dc 3,.dc 2,.dc 1,.int .i64],.undef,.undef])),
 (272,(.int .i64,[.aZ [.dc 16,.dc 3,.dc 2,.dc 1,.int .i64],.undef])),
 (273,(.ty .node,[.undef])),
 (274,(.int .i64,[.aZ [.dc 16,.dc 3,.dc 2,.dc 1,.int .i64],.undef,.undef])),
 (275,(.int .i64,[.aZ [.dc 16,.dc 3,.dc 2,.dc 1,.int .i64],.undef])),
 (276,(.int .i64,[.aZ [.dc 16,.dc 3,.dc 2,.dc 1,.int .i64],.undef])),
 (277,(.int .i64,[.aZ [.dc 16,.dc 3,.dc 2,.dc 1,.int .i64],.undef,.undef])),
 (278,(.int .i64,[.aZ [.dc 16,.dc 3,.dc 2,.dc 1,.int .i64],.undef,.undef])),
 (279,(.aM [.ty .mt,.bool],[.undef])),
 (280,(.int .i64,[.undef,.undef])),
 (281,(.aM [.ty .mt,.int .i64,.bool],[.undef])),
 (282,(.sl 1,[.undef])),
 (283,(.ty .B,[.undef])),
 (284,(.ty .B,[.undef])),
 (285,(.ty .B,[.undef,.undef])),
 (286,(.aM [],[.undef,.undef])),
 (287,(.aM [.ty .Ms,.bool],[.undef])),
 (288,(.aM [.ty .msg,.int .i64,.bool],[.undef,.undef])),
 (289,(.ty .B,[.undef])),
 (290,(.ty .B,[.undef])),
 (291,(.ty .B,[.undef,.undef,.undef])),
 (292,(.ty .node,[.undef])),
 (293,(.bool,[.undef,.undef,.undef])),
 (294,(.bool,[.undef])),
 (295,(.aM [],[.aZ [.dc 16,.dc 3,.dc 2,.dc 1,.int .i64],.undef])),
 (296,(.aM [],[.aZ [.dc 16,.dc 3,.dc 2,.dc 1,.int .i64],.undef])),
 (297,(.ty .Ws,[.undef,.undef])),
 (298,(.bool,[.undef,.undef,.undef])),
 (299,(.aM [],[.aZ [.dc 16,.dc 3,.dc 2,.dc 1,.int .i64],.undef])),
 (300,(.ty .node,[.undef])),
 (301,(.int .i64,[.undef,.undef])),
 (302,(.bool,[.undef,.undef])),
 (303,(.ty .Ws,[.undef,.undef,.undef])),
 (304,(.aM [.ty .msg,.bool],[.undef])),
 (305,(.bool,[.undef,.undef])),
 (306,(.bool,[.undef,.undef])),
 (307,(.bool,[.undef])),
 (308,(.aM [.ty .node,.bool],[.undef,.undef,.undef])),
 (309,(.aM [.ty .node,.bool],[.undef])),
 (310,(.sl 1,[.aZ [.dc 1,.int .i64,.bool]])),
 (311,(.int .i64,[.aZ [.dc 1,.int .i64,.bool]])),
 (312,(.aM [.ty .mt,.bool],[.undef])),
 (313,(.bool,[.undef,.undef])),
 (314,(.sl 1,[.undef])),
 (315,(.ty .B,[.undef,.undef])),
 (316,(.sl 1,[.undef])),
 (317,(.ty .B,[.undef])),
 (318,(.aM [.ty .B,.bool],[.undef])),
 (319,(.ty .B,[.undef])),
 (320,(.int .i64,[.undef])),
 (321,(.ty .B,[.undef])),
 (322,(.int .i64,[.undef,.undef])),
 (323,(.int .i64,[.undef,.undef])),
 (324,(.ty .node,[.undef])),
 (325,(.ty .B,[.undef,.undef,.undef])),
 (326,(.aM [.ty .Ms,.bool],[.undef])),
 (327,(.aM [.ty .msg,.int .i64,.bool],[.undef,.undef])),
 (328,(.bool,[.undef,.undef,.undef])),
 (329,(.aM [.int .i64,.int .i64,.bool],[.undef,.undef])),
 (330,(.sl 1,[.aZ [.dc 1,.int .i64,.bool]])),
 (331,(.int .i64,[.aZ [.dc 1,.int .i64,.bool]])),
 (332,(.sl 1,[.undef])),
 (333,(.sl 1,[.undef])),
 (334,(.int .i64,[.undef,.undef])),
 (335,(.aM [.int .i64,.int .i64],[.undef,.undef])),
 (336,(.ty .B,[.undef])),
 (337,(.ty .B,[.undef])),
 (338,(.aM [.ty .B,.bool],[.undef])),
 (339,(.bool,[.undef,.undef])),
 (340,(.aM [.int .i64,.int .i64,.bool],[.undef,.undef])),
 (341,(.sl 1,[.undef])),
 (342,(.int .i64,[.undef,.undef,.undef])),
 (343,(.ty .B,[.undef])),
 (344,(.int .i64,[.undef])),
 (345,(.aM [.int .i64,.int .i64],[.undef,.undef])),
 (346,(.int .i64,[.undef,.undef,.undef])),
 (347,(.str,[.undef])),
 (348,(.aM [],[.undef])),
 (349,(.str,[.undef])),
 (350,(.aM [],[.undef])),
 (351,(.str,[.undef])),
 (352,(.aM [],[.undef])),
 (353,(.str,[.undef])),
 (354,(.aM [],[.undef])),
 (360,(.str,[.undef])),
 (361,(.aM [],[.undef])),
 (362,(.str,[.undef]))]
def cfg:cA where
 ty:=lk aaK
 ext:=fun f=>if f=110 then some (ni 1 8) else if f=180 then some (ni 1 1) else if f=231 then some (ni 2 16) else if f=232 then some (ni 1 1) else if f=242 then some (DA 1 8) else if f=315 then some (DA 1 1) else if f=218 then some T7 else none
 own:=fun f=>(lk afl f).getD []
 inl:=fun f=>afm.contains f
 qY:=fun f t=>Y2.contains (f,t)
 nm:=fun f i=>(ag3.find? fun r=>r.1==f&&r.2.1==i).map fun r=>r.2.2
 gone:=fun f=>(lk acE f).getD []
 base:=fun f t=>match lk acF f with | some l=>lk l t | none=>none
 nY:=fun f t=>match lk acG f with | some l=>(lk l t).getD [] | none=>[]
def ag5:List Nat:=[32,75,120,121,122,85,149,150,151]
def sg:Sg:=⟨lk ag4,fun f=>ag5.contains f⟩
theorem wh:eu cfg Tryz.prog:=⟨Qa (l:=aaK) (by kernel_rfl)⟩
theorem Y3 (f : FuncId) (fn : Func) (body : Code) (hf : Tryz.prog.funcs[f]? = some fn) (hb : fn.body = some body) : lZ fn.ntmps body = true ∧ (fn.name == "runtime.NumGoroutine") = false :=
  acx (by kernel_rfl) f fn body hf hb
theorem V8:Tryz.prog.follows .mixedOrders=true:=by kernel_rfl
def V9:Ren:=⟨fun | 41=>110 | n=>n,fun | 4=>4 | 22=>22 | 23=>3 | n=>n,fun n=>n⟩
theorem Wa:SlLaysE0.n41 Tryz.prog V9 where
 mixed:=by kernel_rfl
 f41:=⟨Tryz.f110.name,by kernel_rfl,Tryz.func110.trans (congrArg some (by kernel_rfl))⟩
 t4:=Tryz.underlying4
 a4:=Tryz.isAgg4
 z4:=Tryz.sizeOf4
 v4:=Tryz.zeroValue4
 t22:=Tryz.underlying22
 a22:=Tryz.isAgg22
 z22:=Tryz.sizeOf22
 v22:=Tryz.zeroValue22
theorem Uj:kK Tryz.prog 110:=⟨_,Tryz.func110,by kernel_rfl,by kernel_rfl⟩
noncomputable def Wb:TypeInfo:=(Tryz.prog.info? 3).get (by kernel_rfl)
def Wc:Ren:=⟨fun | 41=>180 | n=>n,fun | 4=>4 | 22=>29 | 23=>4 | n=>n,fun n=>n⟩
theorem Wd:SlLaysE0.n41 Tryz.prog Wc where
 mixed:=by kernel_rfl
 f41:=⟨Tryz.f180.name,by kernel_rfl,Tryz.func180.trans (congrArg some (by kernel_rfl))⟩
 t4:=Tryz.underlying4
 a4:=Tryz.isAgg4
 z4:=Tryz.sizeOf4
 v4:=Tryz.zeroValue4
 t22:=Tryz.underlying29
 a22:=Tryz.isAgg29
 z22:=Tryz.sizeOf29
 v22:=Tryz.zeroValue29
theorem Uk:kK Tryz.prog 180:=⟨_,Tryz.func180,by kernel_rfl,by kernel_rfl⟩
noncomputable def We:TypeInfo:=(Tryz.prog.info? 4).get (by kernel_rfl)
def Wf:Ren:=⟨fun | 41=>231 | n=>n,fun | 4=>4 | 22=>64 | 23=>174 | n=>n,fun n=>n⟩
theorem Wg:SlLaysE0.n41 Tryz.prog Wf where
 mixed:=by kernel_rfl
 f41:=⟨Tryz.f231.name,by kernel_rfl,Tryz.func231.trans (congrArg some (by kernel_rfl))⟩
 t4:=Tryz.underlying4
 a4:=Tryz.isAgg4
 z4:=Tryz.sizeOf4
 v4:=Tryz.zeroValue4
 t22:=Tryz.underlying64
 a22:=Tryz.isAgg64
 z22:=Tryz.sizeOf64
 v22:=Tryz.zeroValue64
theorem Ul:kK Tryz.prog 231:=⟨_,Tryz.func231,by kernel_rfl,by kernel_rfl⟩
noncomputable def Wh:TypeInfo:=(Tryz.prog.info? 174).get (by kernel_rfl)
def Wi:Ren:=⟨fun | 41=>232 | n=>n,fun | 4=>4 | 22=>26 | 23=>5 | n=>n,fun n=>n⟩
theorem Wj:SlLaysE0.n41 Tryz.prog Wi where
 mixed:=by kernel_rfl
 f41:=⟨Tryz.f232.name,by kernel_rfl,Tryz.func232.trans (congrArg some (by kernel_rfl))⟩
 t4:=Tryz.underlying4
 a4:=Tryz.isAgg4
 z4:=Tryz.sizeOf4
 v4:=Tryz.zeroValue4
 t22:=Tryz.underlying26
 a22:=Tryz.isAgg26
 z22:=Tryz.sizeOf26
 v22:=Tryz.zeroValue26
theorem Um:kK Tryz.prog 232:=⟨_,Tryz.func232,by kernel_rfl,by kernel_rfl⟩
noncomputable def Wk:TypeInfo:=(Tryz.prog.info? 5).get (by kernel_rfl)
def Y4:Ren:=⟨fun | 4=>242 | n=>n,fun | 0=>0 | 3=>3 | 4=>4 | 9=>9 | 20=>20 | 22=>22 | 25=>3 | n=>n,fun n=>n⟩
theorem Y5:Lays8.n4 Tryz.prog Y4 where
 mixed:=by kernel_rfl
 f4:=⟨Tryz.f242.name,by kernel_rfl,Tryz.func242.trans (congrArg some (by kernel_rfl))⟩
 t0:=Tryz.underlying0
 a0:=Tryz.isAgg0
 z0:=Tryz.sizeOf0
 v0:=Tryz.zeroValue0
 t3:=Tryz.underlying3
 a3:=Tryz.isAgg3
 z3:=Tryz.sizeOf3
 v3:=Tryz.zeroValue3
 t4:=Tryz.underlying4
 a4:=Tryz.isAgg4
 z4:=Tryz.sizeOf4
 v4:=Tryz.zeroValue4
 t9:=Tryz.underlying9
 a9:=Tryz.isAgg9
 z9:=Tryz.sizeOf9
 v9:=Tryz.zeroValue9
 t20:=Tryz.underlying20
 a20:=Tryz.isAgg20
 z20:=Tryz.sizeOf20
 v20:=Tryz.zeroValue20
 t22:=Tryz.underlying22
 a22:=Tryz.isAgg22
 z22:=Tryz.sizeOf22
 v22:=Tryz.zeroValue22
theorem Wl:kK Tryz.prog 242:=⟨_,Tryz.func242,by kernel_rfl,by kernel_rfl⟩
noncomputable def Y6:TypeInfo:=(Tryz.prog.info? 3).get (by kernel_rfl)
def Y7:Ren:=⟨fun | 4=>315 | n=>n,fun | 0=>0 | 3=>3 | 4=>4 | 9=>9 | 20=>20 | 22=>26 | 25=>5 | n=>n,fun n=>n⟩
theorem Y8:Lays8.n4 Tryz.prog Y7 where
 mixed:=by kernel_rfl
 f4:=⟨Tryz.f315.name,by kernel_rfl,Tryz.func315.trans (congrArg some (by kernel_rfl))⟩
 t0:=Tryz.underlying0
 a0:=Tryz.isAgg0
 z0:=Tryz.sizeOf0
 v0:=Tryz.zeroValue0
 t3:=Tryz.underlying3
 a3:=Tryz.isAgg3
 z3:=Tryz.sizeOf3
 v3:=Tryz.zeroValue3
 t4:=Tryz.underlying4
 a4:=Tryz.isAgg4
 z4:=Tryz.sizeOf4
 v4:=Tryz.zeroValue4
 t9:=Tryz.underlying9
 a9:=Tryz.isAgg9
 z9:=Tryz.sizeOf9
 v9:=Tryz.zeroValue9
 t20:=Tryz.underlying20
 a20:=Tryz.isAgg20
 z20:=Tryz.sizeOf20
 v20:=Tryz.zeroValue20
 t22:=Tryz.underlying26
 a22:=Tryz.isAgg26
 z22:=Tryz.sizeOf26
 v22:=Tryz.zeroValue26
theorem Wm:kK Tryz.prog 315:=⟨_,Tryz.func315,by kernel_rfl,by kernel_rfl⟩
noncomputable def Y9:TypeInfo:=(Tryz.prog.info? 5).get (by kernel_rfl)
def ajs:Ren:=⟨fun | 21=>218 | 27=>253 | 28=>254 | 35=>286 | 39=>250 | n=>n,fun | 0=>0 | 3=>3 | 4=>4 | 22=>22 | n=>n,fun n=>n⟩
theorem ajt:Lays2.n21 Tryz.prog ajs where
 mixed:=by kernel_rfl
 f21:=Tryz.func218.trans (congrArg some (by kernel_rfl))
 f27:=Tryz.func253.trans (congrArg some (by kernel_rfl))
 f28:=Tryz.func254.trans (congrArg some (by kernel_rfl))
 f35:=Tryz.func286.trans (congrArg some (by kernel_rfl))
 f39:=Tryz.func250.trans (congrArg some (by kernel_rfl))
 t0:=Tryz.underlying0
 a0:=Tryz.isAgg0
 z0:=Tryz.sizeOf0
 v0:=Tryz.zeroValue0
 t3:=Tryz.underlying3
 a3:=Tryz.isAgg3
 z3:=Tryz.sizeOf3
 v3:=Tryz.zeroValue3
 t4:=Tryz.underlying4
 a4:=Tryz.isAgg4
 z4:=Tryz.sizeOf4
 v4:=Tryz.zeroValue4
 t22:=Tryz.underlying22
 a22:=Tryz.isAgg22
 z22:=Tryz.sizeOf22
 v22:=Tryz.zeroValue22
 i3:=by kernel_rfl
theorem ag6:kK Tryz.prog 218:=⟨_,Tryz.func218,by kernel_rfl,by kernel_rfl⟩
theorem acH:∀ f e ds r outs,cfg.ext f=some e->e ds=some (r,outs)->kK Tryz.prog f/\∀ (w:World) (Y:Nat->Prop) (us:Array Value) (az:List Arg),jT w Y (cfg.own f) ds us.toList az->dG r=true->(∀ o∈outs,dG o=true)->
  Calls Tryz.prog f us w fun e w'=>∃ v,e=.returned v/\fw w w' Y (cfg.own f) az r outs v:=by
 intro f e ds r outs h h2;have h:(if f=110 then some (ni 1 8) else if f=180 then some (ni 1 1) else if f=231 then some (ni 2 16) else if f=232 then some (ni 1 1) else if f=242 then some (DA 1 8) else if f=315 then some (DA 1 1) else if f=218 then some T7 else none)=some e:=h
 split at h
 ·rename_i hf;subst hf;have h:=abO h;subst h;exact zZ Wa Wb (.int .i64 0) 1 8 (by kernel_rfl) (by kernel_rfl) (by kernel_rfl) (by kernel_rfl) rfl (by decide) Tryz.sizeOf3 Uj (own:=cfg.own 110) (by kernel_rfl) h2
 split at h
 ·rename_i hf;subst hf;have h:=abO h;subst h;exact zZ Wd We (.bool false) 1 1 (by kernel_rfl) (by kernel_rfl) (by kernel_rfl) (by kernel_rfl) rfl (by decide) Tryz.sizeOf4 Uk (own:=cfg.own 180) (by kernel_rfl) h2
 split at h
 ·rename_i hf;subst hf;have h:=abO h;subst h;exact zZ Wg Wh (.agg #[.int .i64 0,.int .i64 0]) 2 16 (by kernel_rfl) (by kernel_rfl) (by kernel_rfl) (by kernel_rfl) rfl (by decide) Tryz.sizeOf174 Ul (own:=cfg.own 231) (by kernel_rfl) h2
 split at h
 ·rename_i hf;subst hf;have h:=abO h;subst h;exact zZ Wj Wk (.int .u8 0) 1 1 (by kernel_rfl) (by kernel_rfl) (by kernel_rfl) (by kernel_rfl) rfl (by decide) Tryz.sizeOf5 Um (own:=cfg.own 232) (by kernel_rfl) h2
 split at h
 ·rename_i hf;subst hf;have h:=abO h;subst h;exact SI Y5 Y6 (.int .i64 0) 1 8 (by kernel_rfl) (by kernel_rfl) (by kernel_rfl) (by kernel_rfl) rfl (by decide) Wl (own:=cfg.own 242) (by kernel_rfl) h2
 split at h
 ·rename_i hf;subst hf;have h:=abO h;subst h;exact SI Y8 Y9 (.int .u8 0) 1 1 (by kernel_rfl) (by kernel_rfl) (by kernel_rfl) (by kernel_rfl) rfl (by decide) Wm (own:=cfg.own 315) (by kernel_rfl) h2
 split at h
 ·rename_i hf;subst hf;have h:=abO h;subst h;exact V0 ajt ag6 (own:=cfg.own 218) (by kernel_rfl) h2
 ·simp at h
theorem Ac (k:Nat):lP Tryz.prog cfg.own (Tg cfg Tryz.prog k):=(PV wh V8 Y3 acH k).1
open Go.RowKit
inductive Sh where
 | bool
 | int (k:IntKind)
 | str
 | sl (b:Nat) (e:Sh)
 | ag (fs:List Sh)
mutual
def width:Sh->Nat
 | .ag fs=>wi fs
 | _=>1
def wi:List Sh->Nat
 | []=>0
 | f::fs=>width f+wi fs
end
mutual
def WT:Sh->List D->Prop
 | .bool,ds=>∃ b,ds=[.bool b]
 | .int k,ds=>∃ n,ds=[.int k n]/\(Lit.int k n).wf=true
 | .str,ds=>∃ s,ds=[.str s]/\s.size<=reachBytes
 | .sl b e,ds=>∃ es:List (List D),ds=[.sl (some false) (width e) es.length es.flatten]/\es.length*b<=reachBytes/\∀ x∈es,WT e x
 | .ag fs,ds=>WTs fs ds
def WTs:List Sh->List D->Prop
 | [],ds=>ds=[]
 | f::fs,ds=>∃ a b,ds=a++b/\WT f a/\WTs fs b
end
mutual
def Cb (P:Program):TypeId->Sh->Bool
 | t,.bool=>match P.underlying t with | some .bool=>true | _=>false
 | t,.int k=>match P.underlying t with | some (.int k')=>decide (k'=k) | _=>false
 | t,.str=>match P.underlying t with | some .string=>true | _=>false
 | t,.sl b e=>match P.underlying t with
  | some (.slice et)=>Cb P et e&&decide (P.cellsOf et=width e)&&decide (P.bytesOf et=b)&&decide (0 < width e)
  | _=>false
 | t,.ag fs=>match P.underlying t with
  | some (.struct fl)=>decide (P.cellsOf t=wi fs)&&DG P fl.toList 0 fs
  | _=>false
def DG (P:Program):List Field->Nat->List Sh->Bool
 | [],_,[]=>true
 | f::fl,o,s::ss=>decide (f.offset=o)&&decide (P.cellsOf f.type=width s)&&Cb P f.type s&&DG P fl (o+width s) ss
 | _,_,_=>false
end
theorem mapM_some {α β:Type} {f:α->Option β}:∀ {l:List α} {r:List β},l.mapM f=some r->l.length=r.length/\∀ (i:Nat) (a:α),l[i]?=some a->∃ b,f a=some b/\r[i]?=some b
 | [],r,h=>by
  simp only [List.mapM_nil] at h;cases h;exact ⟨rfl,by simp⟩
 | a::l,r,h=>by
  simp only [List.mapM_cons,Option.bind_eq_bind,Option.bind_eq_some_iff] at h;obtain ⟨b,hb,bs,xA,h⟩:=h;cases h;obtain ⟨h1,h2⟩:=mapM_some xA;refine ⟨by simp [h1],fun i x hx=>?_⟩
  cases i with
  | zero=>
   simp only [aaz,jf] at hx;subst hx;exact ⟨b,hb,rfl⟩
  | succ i=>
   simp only [aaZ] at hx ⊢;exact h2 i x hx
theorem Wn {w:World} {base:Nat} {a:Addr} {n:Nat} {vs:List Value} (h:w.cells? base a n=some vs):vs.length=n/\∀ i,i < n->w.cell? (a.add i)=vs[i]?:=by
 unfold World.cells? at h;split at h
 ·obtain ⟨h1,h2⟩:=mapM_some h;rw [List.length_range] at h1;refine ⟨h1.symm,fun i hi=>?_⟩;obtain ⟨b,hb,hr⟩:=h2 i i (by rw [List.getElem?_range hi])
  rw [hb,hr]
 ·simp at h
theorem SN {w:World} {X:Bool->Nat->Prop} {a b:List D} {us vs:List Value} (h:gp w X a us) (h':gp w X b vs):gp w X (a++b) (us++vs):=by
 rw [ir] at h h' ⊢;exact h.app h'
theorem flat_get {α:Type} {wd:Nat} (hw:0 < wd):∀ {ls:List (List α)},(∀ l∈ls,l.length=wd)->∀ j:Nat,ls.flatten[j]?=(ls[j / wd]?).bind (fun l=>l[j % wd]?)
 | [],_,j=>by simp
 | l::ls,h,j=>by
  have hl:=h l (by simp)
  rw [abB];by_cases hj:j < wd
  ·rw [abc (by omega),Nat.div_eq_of_lt hj,aew hj]
   rfl
  ·rw [aa6 (by omega),hl,flat_get hw (fun x hx=>h x (by simp [hx])) (j - wd)]
   have h1:j / wd=(j - wd) / wd+1:=by
    rw [Nat.div_eq_sub_div hw (by omega)]
   have h2:j % wd=(j - wd) % wd:=by
    rw [Nat.mod_eq_sub_mod (by omega)]
   rw [h1,h2,aaZ]
theorem Qo {α:Type} {Q:Nat->α->Prop}:∀ len:Nat,(∀ i,i < len->∃ x,Q i x)->∃ es:List α,es.length=len/\∀ (i:Nat) (x:α),es[i]?=some x->Q i x
 | 0,_=>⟨[],rfl,by simp⟩
 | n+1,h=>by
  obtain ⟨es,h1,h2⟩:=Qo n (fun i hi=>h i (by omega))
  obtain ⟨x,hx⟩:=h n (by omega)
  refine ⟨es++[x],by simp [h1],fun i y hy=>?_⟩
  by_cases hi:i < n
  ·rw [abc (by omega)] at hy
   exact h2 i y hy
  ·rw [aa6 (by omega)] at hy
   have:i=n:=by
    have:=(aaa.1 hy).1;simp at this;omega
   subst this;rw [h1,adT,aaz,jf] at hy;subst hy;exact hx
theorem yL {H:Type} {P:Program} {e:TypeId}:∀ {ds:List (DataW H)} {i:Nat} {d:DataW H},ds[i]?=some d->∀ z∈d.weights P e,z∈DataW.weightsAll P e ds
 | [],i,d,h,_,_=>by simp at h
 | x::ds,0,d,h,z,hz=>by
  simp only [aaz,jf] at h;subst h;simp only [DataW.weightsAll,tD];exact .inl hz
 | x::ds,i+1,d,h,z,hz=>by
  simp only [DataW.weightsAll,tD];exact .inr (yL (by simpa using h) z hz)
theorem LY {w:World} {X:Bool->Nat->Prop}:∀ {ps:List (List D × List Value)},(∀ p∈ps,gp w X p.1 p.2)->gp w X (ps.map (·.1)).flatten (ps.map (·.2)).flatten
 | [],_=>by simp [gp]
 | p::ps,h=>by
  simp only [aaM,abB];exact SN (h p (by simp)) (LY (fun q hq=>h q (by simp [hq])))
section
variable {H:Type} {enc:TypeId × Value->H} {P:Program} {w:World} {held:Bool} {X:Bool->Nat->Prop} (hX:∀ k,k < w.heap.size->X false k)
include hX
mutual
theorem JH:∀ (sh:Sh) {fuel:Nat} {t:TypeId} {cs:List Value} {x:DataW H × List MemPlace},DataW.trod enc P w 0 (fun _=>true) held fuel t cs=some x->Cb P t sh=true->(∀ z∈x.1.weights P t,z<=reachBytes)->∃ ds,WT sh ds/\gp w X ds cs
 | .bool,fuel,t,cs,x,h,hs,_=>by
  simp only [Cb] at hs;split at hs
  ·rename_i ht;obtain ⟨b,rfl,rfl⟩:=DataW.trod_bool ht h;exact ⟨[.bool b],⟨b,rfl⟩,_,_,rfl,rfl,rfl⟩
  ·simp at hs
 | .int k,fuel,t,cs,x,h,hs,_=>by
  simp only [Cb] at hs;split at hs
  ·rename_i k' ht;simp only [decide_eq_true_eq] at hs;subst hs;obtain ⟨n,rfl,rfl,hw⟩:=DataW.trod_int ht h;exact ⟨[.int k' n],⟨n,rfl,hw⟩,_,_,rfl,rfl,rfl⟩
  ·simp at hs
 | .str,fuel,t,cs,x,h,hs,hz=>by
  simp only [Cb] at hs;split at hs
  ·rename_i ht;obtain ⟨s,rfl,rfl,hw⟩:=DataW.trod_string ht h;refine ⟨[.str s],⟨s,rfl,?_⟩,_,_,rfl,rfl,rfl⟩;have:s.data.toList.length<=reachBytes:=hz _ (by unfold DataW.weights; exact aeY)
   rw [adW] at this;exact this
  ·simp at hs
 | .sl b e,fuel,t,cs,x,h,hs,hz=>by
  simp only [Cb] at hs;split at hs
  case h_2=>simp at hs
  rename_i et ht;simp only [Bh,decide_eq_true_eq] at hs;obtain ⟨⟨⟨h1,h2⟩,h3⟩,h4⟩:=hs;rcases DataW.trod_slice ht h with ⟨rfl,rfl⟩ | ⟨a,len,cap,elems,rest,n,rfl,rfl,rfl,_,hl,hm,hlen,gV,_⟩
  ·refine ⟨[.sl (some false) (width e) 0 []],⟨[],rfl,by simp,by simp⟩,_,_,rfl,?_,rfl⟩
   exact ⟨none,0,[],rfl,aav _,by simp,rfl,.inl rfl⟩
  ·replace hz:∀ z∈((elems.map (fun y:DataW H × List MemPlace=>y.1)).length+(rest.map (fun y:DataW H × List MemPlace=>y.1)).length)*P.bytesOf et::(DataW.weightsAll P et (elems.map (fun y:DataW H × List MemPlace=>y.1))++DataW.weightsAll P et (rest.map (fun y:DataW H × List MemPlace=>y.1))),z<=reachBytes:=fun z Qp=>hz z (by
    show z∈(match P.underlying t with | some (.slice e)=>((elems.map (fun y:DataW H × List MemPlace=>y.1)).length+(rest.map (fun y:DataW H × List MemPlace=>y.1)).length)*P.bytesOf e::(DataW.weightsAll P e (elems.map (fun y:DataW H × List MemPlace=>y.1))++DataW.weightsAll P e (rest.map (fun y:DataW H × List MemPlace=>y.1))) | _=>[])
    rw [ht];exact Qp)
   rw [h2] at gV;have LC:=hz _ aeY;have each:∀ i,i < len->∃ p:List D × List Value,WT e p.1/\gp w X p.1 p.2/\p.2.length=width e/\∀ j,j < width e->w.cell? ((a.add (i*width e)).add j)=p.2[j]?:=by
    intro i hi;have h5:=gV i hi;have oC:i < elems.length:=by omega
    rw [aaf oC] at h5;rw [Option.bind_eq_some_iff] at h5;obtain ⟨vs,h6,h7⟩:=h5;obtain ⟨h8,h9⟩:=Wn h6;obtain ⟨ds,lT,OO⟩:=JH e h7 h1 (fun z Qp=>hz z (List.mem_cons_of_mem _ (tD.2 (.inl (yL (i:=i) (d:=elems[i].1) (by rw [aa5,aaf oC]; rfl) z Qp)))))
    exact ⟨(ds,vs),lT,OO,h8,h9⟩
   obtain ⟨ps,g1,g2⟩:=Qo len each;have gm:∀ p∈ps,WT e p.1/\gp w X p.1 p.2/\p.2.length=width e:=fun p hp=>by
    obtain ⟨i,hi⟩:=List.getElem?_of_mem hp;obtain ⟨k1,k2,k3,_⟩:=g2 i p hi;exact ⟨k1,k2,k3⟩
   have p8:=LY (w:=w) (X:=X) (ps:=ps) (fun p hp=>(gm p hp).2.1);have ag7:∀ l∈ps.map (·.1),l.length=width e:=fun l hl=>by
    obtain ⟨p,hp,rfl⟩:=aam.1 hl;have:=((ir p.1 p.2).1 (gm p hp).2.1).len;rw [this,(gm p hp).2.2]
   have ag8:∀ l∈ps.map (·.2),l.length=width e:=fun l hl=>by
    obtain ⟨p,hp,rfl⟩:=aam.1 hl;exact (gm p hp).2.2
   refine ⟨[.sl (some false) (width e) len (ps.map (·.1)).flatten],⟨ps.map (·.1),by simp [g1],?_,fun x hx=>by obtain ⟨p,hp,rfl⟩:=aam.1 hx; exact (gm p hp).1⟩,_,_,rfl,?_,rfl⟩
   ·rw [abu,g1];rw [abu,abu,h3,hlen] at LC;exact abI (aaQ b (by omega)) LC
   ·refine ⟨some a,cap,(ps.map (·.2)).flatten,rfl,hl,?_,p8,?_⟩
    ·have:∀ {ls:List (List D)},(∀ l∈ls,l.length=width e)->ls.flatten.length=ls.length*width e:=by
      intro ls
      induction ls with
      | nil=>intro _; simp
      | cons l ls ih=>
       intro hh;rw [abB,aad,ih (fun x hx=>hh x (by simp [hx])),hh l (by simp),aa7,abw,Nat.one_mul,Nat.add_comm]
     rw [this ag7,abu,g1]
    ·by_cases h0:len=0
     ·left
      have:ps=[]:=by cases ps with | nil=>rfl | cons _ _=>simp at g1; omega
      rw [this]; rfl
     ·right
      obtain ⟨p0,Pc⟩:∃ p,ps[0]?=some p:=⟨ps[0],aaf (by omega)⟩
      obtain ⟨_,_,k3,k4⟩:=g2 0 p0 Pc;have k5:=k4 0 h4;have ag9:p0.2[0]?=some (p0.2[0]):=aaf (by omega)
      rw [ag9,Nat.zero_mul] at k5;have VZ:(a.add 0).add 0=a:=by simp [Addr.add]
      rw [VZ] at k5;obtain ⟨k,off,spot⟩:=a;unfold World.cell? at k5;split at k5
      case h_2=>simp at k5
      rename_i c ee fz fv;split at k5
      ·simp at k5
      rename_i hsp;have aha:spot=none:=by cases spot<;>simp at hsp ⊢
      subst aha;refine ⟨k,off,c,ee,fz,rfl,hX k ?_,fv,fun j v hj=>?_⟩
      ·rcases Nat.lt_or_ge k w.heap.size with hh | hh
       ·exact hh
       ·rw [abT hh] at fv; simp at fv
      ·rw [flat_get h4 ag8] at hj;rw [aa5] at hj;cases hp:ps[j / width e]? with
       | none=>rw [hp] at hj; simp at hj
       | some p=>
        rw [hp] at hj;simp only [OB,Option.bind_some] at hj;obtain ⟨_,_,_,m4⟩:=g2 _ p hp;have m5:=m4 (j % width e) (Nat.mod_lt _ h4);rw [hj,eV,eV] at m5;unfold World.cell? at m5;simp only [fv] at m5;have m6:off+j / width e*width e+j % width e=off+j:=by
         have:=Nat.div_add_mod j (width e);rw [Nat.mul_comm] at this;omega
        rw [m6] at m5
        simpa using m5
 | .ag fs,fuel,t,cs,x,h,hs,hz=>by
  simp only [Cb] at hs;split at hs
  case h_2=>simp at hs
  rename_i fl ht;simp only [Bh,decide_eq_true_eq] at hs;obtain ⟨h1,h2⟩:=hs;obtain ⟨xs,n,rfl,rfl,h3,h4,h5⟩:=DataW.trod_struct ht h;simp only [DataW.weights,ht] at hz;obtain ⟨ds,h6,h7⟩:=Qq (cs:=cs) (n:=n) fs (fl:=fl.toList) (o:=0) (xs:=xs) (by simpa using h4.symm) (fun i f hf=>h5 i f (by simpa using hf)) h2 hz (by omega)
  refine ⟨ds,h6,?_⟩;rw [af0,ad8 (by omega)] at h7
  exact h7
theorem Qq:∀ (ss:List Sh) {n:Nat} {cs:List Value} {fl:List Field} {o:Nat} {xs:List (DataW H × List MemPlace)},fl.length=xs.length->(∀ (i:Nat) (f:Field),fl[i]?=some f->DataW.trod enc P w 0 (fun _=>true) held n f.type ((cs.drop f.offset).take (P.cellsOf f.type))=xs[i]?)->DG P fl o ss=true->(∀ z∈DataW.weightsEach P (fl.map (·.type)) (xs.map (·.1)),z<=reachBytes)->o+wi ss<=cs.length->
  ∃ ds,WTs ss ds/\gp w X ds ((cs.drop o).take (wi ss))
 | [],n,cs,fl,o,xs,_,_,hs,_,_=>by
  have _:=hX;cases fl with
  | nil=>exact ⟨[],rfl,by simp [wi,gp]⟩
  | cons f fl=>simp [DG] at hs
 | s::ss,n,cs,fl,o,xs,hl,hx,hs,hz,ho=>by
  cases fl with
  | nil=>simp [DG] at hs
  | cons f fl=>
   cases xs with
   | nil=>simp at hl
   | cons x xs=>
    simp only [DG,Bh,decide_eq_true_eq] at hs;obtain ⟨⟨⟨h1,h2⟩,h3⟩,h4⟩:=hs;subst h1;simp only [aaM,DataW.weightsEach,tD] at hz;simp only [wi] at ho ⊢;have h5:=hx 0 f rfl;rw [aaz,h2] at h5;obtain ⟨gG,g1,g2⟩:=JH s h5 h3 (fun z Qp=>hz z (.inl Qp));obtain ⟨uE,g3,g4⟩:=Qq (cs:=cs) (n:=n) ss (fl:=fl) (o:=f.offset+width s) (xs:=xs) (by simpa using hl) (fun i f' hf=>by have:=hx (i+1) f' (by simpa using hf); simpa using this) h4 (fun z Qp=>hz z (.inr Qp)) (by omega)
    refine ⟨gG++uE,⟨gG,uE,rfl,g1,g3⟩,?_⟩;rw [List.take_add,List.drop_drop];exact SN g2 g4
end
end
open Go.RowKit
theorem SO {w:World} {X:Bool->Nat->Prop}:∀ {b:List Bool} {ds:List D} {vs:List Value},b.any id=false->cm (fun d v=>∀ S,gI w X S d v) ds vs->uB w X b ds vs (vs.map fun _=>(none,[]))
 | _,[],_,_,.nil=>⟨rfl,rfl⟩
 | b,d::ds,v::vs,hn,.cons h1 h2=>by
  have hb:b.headD false=false/\b.tail.any id=false:=by
   cases b with
   | nil=>simp
   | cons x xs=>simpa using hn
  refine ⟨v,vs,(none,[]),_,rfl,rfl,?_,SO hb.2 h2⟩;rw [hb.1];exact ⟨rfl,h1⟩
theorem Wo {P:Program} {c:cA} (kv:∀ k,lP P c.own (Tg c P k)) {f:FuncId} (jI:(c.own f).any id=false) {ds outs:List D} {vs:Array Value} {W:World} (hc:Comes c P f ds (.bool true,outs)) (sF:∀ o∈outs,dG o=true)
  (ha:cm (fun d v=>∀ S,gI W (Lk W [] (fun _=>True)) S d v) ds vs.toList):Calls P f vs W fun e W'=>e=.returned (.bool true)/\Below W.heap.size W W':=by
 obtain ⟨k,hk⟩:=hc;have h1:=hk k (aav _);have zJ:∀ a∈vs.toList.map (fun _=>((none,[]):Arg)),a=(none,[]):=by simp
 have eG:=ye zJ;have uC:jT W (fun _=>True) (c.own f) ds vs.toList (vs.toList.map fun _=>(none,[])):=by
  refine ⟨?_,by rw [eG]; simp,by rw [eG]; simp,fun a VZ=>?_⟩
  ·rw [eG]; exact SO jI ha
  ·rw [zJ a VZ]; trivial
 refine ((kv k f ds _ outs h1).2 W _ vs _ uC rfl sF).mono fun e W'=>?_;rintro ⟨v,rfl,hp⟩;have hv:v=.bool true:=by
  obtain ⟨fc,az,hr,_,_,_,hs,_⟩:=hp.res;obtain ⟨t,rfl,he,rfl⟩:=hr;cases t with
  | v d u=>
   have hs:=hs.1;simp only [bI] at hs;have:bS d=.bool true:=he.symm;rw [this] at hs;exact hs
  | own s n cap a cs=>simp [T.er] at he
 subst hv;refine ⟨rfl,hp.os,hp.tape,hp.out,hp.sz,fun k hk=>hp.bY k hk (by rw [eG]; simp)⟩
theorem acI {w:World} {X:Bool->Nat->Prop} {ds:List D} {us:Array Value} (h:gp w X ds us.toList):∀ S,gI w X S (.agg ds) (.agg us):=fun _=>
 ⟨us,rfl,((ir _ _).1 h).mono (fun _ _ hh=>fP hh)⟩
theorem afo {w:World}:∀ k,k < w.heap.size->Lk w [] (fun _=>True) false k:=fun k hk=>⟨hk,by simp,fun _=>trivial⟩
set_option maxRecDepth 100000
abbrev Cm (f:FuncId) (ds:List D) (r:Rz):Prop:=Comes cfg Tryz.prog f ds r
abbrev aW (pr:dC) (cv:Cv Rz) (J:Nat->St->Option Rz) (f:FuncId) (fn:Func) (args:List D):Option Rz:=B7 pr cfg sg cv J f fn args
abbrev bL (pr:dC) (cv:Cv Rz) (J:Nat->St->Option Rz) (f:FuncId) (fn:Func) (sk:List D) (j:Nat) (h:St):Option Rz:=u4 pr cfg sg cv J f fn sk j h
noncomputable abbrev aX:Cv Rz:=eL cfg Tryz.prog sg
abbrev WP (f:FuncId) (fn:Func) (sk:List D) (j:Nat) (h:St) (r:Rz):Prop:=W cfg Tryz.prog sg f fn sk j h r
section
variable {f:FuncId} {fn:Func} {sk:List D} {j j':Nat} {h h':St} {r:Rz}
theorem WP.go (h':St) (hw:WP f fn sk j' h' r) (ht:∀ J:Nat->St->Option Rz,J j' h'=some r->bL ad aX J f fn sk j h=some r):WP f fn sk j h r:=W.go wh hw ht
theorem WP.fin (ht:∀ J:Nat->St->Option Rz,bL ad aX J f fn sk j h=some r):WP f fn sk j h r:=W.fin wh ht
theorem Cm.go (ok:Told cfg Tryz.prog f fn) (sk:List D) (j:Nat) (h:St) {args:List D} (hw:WP f fn sk j h r) (ht:∀ J:Nat->St->Option Rz,J j h=some r->aW ad aX J f fn args=some r) (Pj:args.map rH=sk:=by rfl):Cm f args r:=Comes.go wh ok (Pj▸hw) ht
theorem Cm.fin (ok:Told cfg Tryz.prog f fn) {args:List D} (ht:∀ J:Nat->St->Option Rz,aW ad aX J f fn args=some r):Cm f args r:=Comes.fin (sg:=sg) wh ok ht
theorem WP.loop {H:Nat->St} {n:Nat} (inv:Nat->Prop) (hs:∀ i,i < n->inv i->(inv (i+1)->WP f fn sk j (H (i+1)) r)->WP f fn sk j (H i) r) (he:inv n->WP f fn sk j (H n) r):∀ i,i<=n->inv i->WP f fn sk j (H i) r:=by
 have key:∀ k i,i+k=n->inv i->WP f fn sk j (H i) r:=by
  intro k
  induction k with
  | zero=>intro i hi hv; obtain rfl:i=n:=(by omega); exact he hv
  | succ k ih=>intro i hi hv; exact hs i (by omega) hv fun lV=>ih (i+1) (by omega) lV
 exact fun i hi hv=>key (n - i) i (by omega) hv
end
theorem bh {g:FuncId} {ds:List D} {r:D} {outs:List D} (h:Cm g ds (r,outs)) (hs:(match sg.sig g with | some (s,ss)=>ff s r&&jZ ss outs&&!(wc s||we ss) | none=>false)=true) (t:bO Rz):aX g ds t=feed t (ta r++(xI outs++[])):=by
 refine agZ t h hs fun e=>?_;subst e;have:sg.sig 999999=none:=by kernel_rfl
 rw [this] at hs;simp at hs
theorem bN {g:FuncId} {ds:List D} {r:D} {outs:List D} {s:RS} {ss:List RS} (h:Cm g ds (r,outs)) (hs:sg.sig g=some (s,ss)) (h1:ff s r=true) (h2:jZ ss outs=true) (h3:dG r=true) (h4:outs.all dG=true) (t:bO Rz):aX g ds t=feed t (gz s r++(oG ss outs++[])):=by
 refine ag0 t h hs h1 h2 h3 h4 fun e=>?_;subst e;have:sg.sig 999999=none:=by kernel_rfl
 rw [hs] at this;simp at this
theorem Cc (ys:List D) (t:bO Rz):aX 999999 [.sl none 0 0 ys] t=feed t [.sl none 0 0 ys]:=by
 show eL cfg Tryz.prog sg 999999 _ t=_;unfold eL;rw [if_pos rfl]
section
variable {R:Type} {x y:R}
theorem aK:br true x y=x:=rfl
theorem bg:br false x y=y:=rfl
theorem bo (b:Bool):br b true false=b:=by cases b<;>rfl
theorem bQ (b:Bool):br b false true=!b:=by cases b<;>rfl
theorem cb (b:Bool):br (!b) x y=br b y x:=by cases b<;>rfl
theorem Cd (a b:Bool) (x y:R):br (br a b false) x y=br a (br b x y) y:=by cases a<;>rfl
theorem DH (b:Bool):br b x x=x:=by cases b<;>rfl
theorem bc {a b:Int} (h:a < b):br (ad.lt a b) x y=x:=by simp [ad,br,h]
theorem bG {a b:Int} (h:b<=a):br (ad.lt a b) x y=y:=by simp [ad,br,Int.not_lt.2 h]
theorem xJ {a b:Int} (h:a<=b):br (ad.le a b) x y=x:=by simp [ad,br,h]
theorem nj {a b:Int} (h:b < a):br (ad.le a b) x y=y:=by simp [ad,br,Int.not_le.2 h]
theorem gA {a b:Int} (h:a=b):br (ad.eq a b) x y=x:=by simp [ad,br,h]
theorem eA {a b:Int} (h:a≠b):br (ad.eq a b) x y=y:=by
 have e:(a==b)=false:=by simpa using h
 simp [ad,br,e]
theorem bF {i:Int} {n:Nat} (h0:0<=i) (h:i < n):br (ad.bm i n) x y=x:=by simp [ad,br,h0,h]
theorem Hn {l h:Int} {n:Nat} (h0:0<=l) (h1:l<=h) (h2:h<=n):br (ad.vX l h n) x y=x:=by simp [ad,br,h0,h1,h2]
theorem ek {n b:Nat} (h:n*b<=140737488355328):br (ad.fits n b) x y=x:=by simp [ad,br,h]
theorem tb {l c:Int} {b:Nat} (h0:0<=l) (h1:l<=c) (h2:c*b<=140737488355328):br (ad.sZ l c b) x y=x:=by simp [ad,br,h0,h1,h2]
end
theorem Un (a b:Int):ad.lt a b=decide (a < b):=rfl
theorem Ad (a b:Int):ad.le a b=decide (a<=b):=rfl
theorem Ce (a b:Int):ad.eq a b=(a==b):=rfl
theorem aC (n:Nat):ad.aV n=(n:Int):=rfl
theorem Ae (n:Nat):ad.iv (n:Int)=n:=rfl
theorem aaL (a i s:Nat):ad.idx a (i:Int) s=(a+i)*s:=rfl
theorem u6 (a b:Bool):ad.beq a b=(a==b):=rfl
theorem wrap64 {n:Int} (h:-9223372036854775808<=n) (h':n < 9223372036854775808):IntKind.i64.wrap n=n:=by
 simp only [IntKind.wrap,IntKind.bits,IntKind.signed];simp;omega
theorem Uo {a b:Int} (h:-9223372036854775808<=a+b) (h':a+b < 9223372036854775808):ad.ar .add .i64 a b=a+b:=wrap64 h h'
theorem eX {a b:Int} (h:-9223372036854775808<=a - b) (h':a - b < 9223372036854775808):ad.ar .sub .i64 a b=a - b:=wrap64 h h'
theorem dp {i:Nat} (h:i < 9223372036854775807):ad.ar .add .i64 (i:Int) 1=((i+1:Nat):Int):=by
 rw [Uo (by omega) (by omega)]
 omega
def qk (a:Int):Bool:=decide (-9223372036854775808<=a)&&decide (a < 9223372036854775808)
theorem Af {a:Int}:qk a=true↔-9223372036854775808<=a/\a < 9223372036854775808:=by simp [qk]
theorem mU {α:Type} {e:α->List D} {w:Nat} (hw:∀ x,(e x).length=w):∀ (xs:List α) {i k:Nat} (hi:i < xs.length),k < w->(ab e xs)[i*w+k]?=(e xs[i])[k]?
 | [],i,k,hi,_=>absurd hi (by simp)
 | x::xs,0,k,hi,hk=>by
  simp only [ab,abo,Nat.zero_mul,abn,List.getElem_cons_zero];rw [abc (by rw [hw]; exact hk)]
 | x::xs,i+1,k,hi,hk=>by
  simp only [ab,abo,List.getElem_cons_succ];rw [aa6 (by rw [hw,Nat.succ_mul]; omega)]
  have:(i+1)*w+k - (e x).length=i*w+k:=by rw [hw,Nat.succ_mul]; omega
  rw [this];exact mU hw xs (by simpa using hi) hk
section
variable {R:Type} {x y:R}
theorem dz {xs:List Int} {i:Nat} (h:i < xs.length):br (ad.bR .i64 (ints xs) i) x y=x:=by simp [ad,ints,br,aaf h,fk]
theorem dA {xs:List Int} {i:Nat} (h:i < xs.length):ad.aO (ints xs) i=xs[i]:=by simp [ad,ints,aaf h,vY]
theorem nv {xs:List UInt8} {i:Nat} (h:i < xs.length):br (ad.bR .u8 (bytes xs) i) x y=x:=by simp [ad,bytes,dP,br,aaf h,fk]
theorem yM {xs:List UInt8} {i:Nat} (h:i < xs.length):ad.aO (bytes xs) i=(xs[i].toNat:Int):=by simp [ad,bytes,dP,aaf h,vY]
theorem Qr {xs:List Bool} {i:Nat} (h:i < xs.length):br (ad.bW (bB xs) i) x y=x:=by simp [ad,bB,br,aaf h]
theorem Qs {xs:List Bool} {i:Nat} (h:i < xs.length):ad.bC (bB xs) i=xs[i]:=by simp [ad,bB,aaf h,Dx]
theorem Ag {xs:List Int} {i:Nat} (h:i < xs.length):br (ad.slot (ints xs) i) x y=x:=by simp [ad,ints,br,aaf h,gE]
theorem Za {xs:List UInt8} {i:Nat} (h:i < xs.length):br (ad.slot (bytes xs) i) x y=x:=by simp [ad,bytes,dP,br,aaf h,gE]
theorem Zb {xs:List Bool} {i:Nat} (h:i < xs.length):br (ad.slot (bB xs) i) x y=x:=by simp [ad,bB,br,aaf h,gE]
theorem ints_set (xs:List Int) (i:Nat) (a:Int):List.set (ints xs) i (.int .i64 a)=ints (xs.set i a):=by simp [ints,aer]
theorem LZ (xs:List UInt8) (i:Nat) (a:UInt8):List.set (bytes xs) i (.int .u8 a.toNat)=bytes (xs.set i a):=by simp [bytes,aer,dP]
theorem L0 (xs:List Bool) (i:Nat) (a:Bool):List.set (bB xs) i (.bool a)=bB (xs.set i a):=by simp [bB,aer]
theorem oH:∀ {ds:List D},(∀ d∈ds,cg d=true)->cq ds=true
 | [],_=>rfl
 | d::ds,h=>by
  simp only [cq,Bh];exact ⟨h d (by simp),oH fun x hx=>h x (by simp [hx])⟩
theorem gR (xs:List Int):ad.nl (ints xs)=true:=oH (by intro d hd; obtain ⟨a,_,rfl⟩:=aam.1 hd; rfl)
theorem eN (xs:List UInt8):ad.nl (bytes xs)=true:=oH (by intro d hd; obtain ⟨a,_,rfl⟩:=aam.1 hd; rfl)
theorem DI (xs:List Bool):ad.nl (bB xs)=true:=oH (by intro d hd; obtain ⟨a,_,rfl⟩:=aam.1 hd; rfl)
theorem Wp (n:Nat):fa n [.int .i64 0]=ints (List.replicate n 0):=by
 unfold fa
 induction n with
 | zero=>rfl
 | succ n ih=>simpa [abq,ints,sq] using ih
theorem Wq (n:Nat):fa n [.int .u8 0]=bytes (List.replicate n 0):=by
 unfold fa
 induction n with
 | zero=>rfl
 | succ n ih=>simpa [abq,bytes,sq,dP] using ih
theorem Wt (n:Nat):fa n [.bool false]=bB (List.replicate n false):=by
 unfold fa
 induction n with
 | zero=>rfl
 | succ n ih=>simpa [abq,bB,sq] using ih
end
set_option maxRecDepth 100000
section
variable (pr:dC) (cv:Cv Rz) (J:Nat->St->Option Rz)
def lg (g0:Bool) (n1:Nat) (c2:List D) (i3:Int) (n4:Nat) (c5:List D):St:=(St.mk [(0,(.sl (some g0) 1 n1 c2)),(3,(.ref 10003 [] 0 none)),(4,(.int .i64 i3))] [(10003,[(.sl none 1 n4 c5)])] [] 0)
theorem Mz:Told cfg Tryz.prog 71 Tryz.f71:=⟨by kernel_rfl,Tryz.func71,by kernel_rfl⟩
theorem MA (g0:Bool) (n0:Nat) (c0:List D):aW pr cv J 71 Tryz.f71 [(.sl (some g0) 1 n0 c0)]=
 (br (pr.sZ (pr.aV n0) (pr.aV n0) 8) (J 0 (lg g0 n0 c0 0 (pr.iv (pr.aV n0)) (fa (pr.iv (pr.aV n0)) [(.int .i64 0)]))) none):=by kernel_rfl
theorem wj (g0:Bool) (n1:Nat) (c2:List D) (i3:Int) (n4:Nat) (c5:List D):bL pr cv J 71 Tryz.f71 [.undef] 0 (lg g0 n1 c2 i3 n4 c5)=
 (br (pr.lt i3 (pr.aV n1)) (br (pr.bm i3 n1) (br (br (pr.bR .i64 c2 (pr.idx 0 i3 1)) true false) (br (pr.bm i3 n4) (br (pr.slot c5 (pr.idx 0 i3 1)) (J 0 (lg g0 n1 c2 (pr.ar .add .i64 i3 1) n4 (List.set c5 (pr.idx 0 i3 1) (.int .i64 (pr.aO c2 (pr.idx 0 i3 1)))))) none) none) none) none) (some ((.sl none 1 n4 c5),[.undef]))):=by kernel_rfl
def lh (g0:Bool) (n1:Nat) (c2:List D) (g3:Bool) (n4:Nat) (c5:List D) (i6:Int):St:=(St.mk [(0,(.sl (some g0) 1 n1 c2)),(1,(.sl (some g3) 1 n4 c5)),(5,(.int .i64 i6))] [] [] 0)
theorem AI:Told cfg Tryz.prog 19 Tryz.f19:=⟨by kernel_rfl,Tryz.func19,by kernel_rfl⟩
theorem AJ (g0:Bool) (n0:Nat) (c0:List D) (g1:Bool) (n1:Nat) (c1:List D):aW pr cv J 19 Tryz.f19 [(.sl (some g0) 1 n0 c0),(.sl (some g1) 1 n1 c1)]=
 (br (br (pr.eq (pr.aV n0) (pr.aV n1)) false true) (some ((.bool false),[.undef,.undef])) (J 0 (lh g0 n0 c0 g1 n1 c1 0))):=by kernel_rfl
theorem ql (g0:Bool) (n1:Nat) (c2:List D) (g3:Bool) (n4:Nat) (c5:List D) (i6:Int):bL pr cv J 19 Tryz.f19 [.undef,.undef] 0 (lh g0 n1 c2 g3 n4 c5 i6)=
 (br (pr.lt i6 (pr.aV n1)) (br (pr.bm i6 n1) (br (br (pr.bR .i64 c2 (pr.idx 0 i6 1)) true false) (br (pr.bm i6 n4) (br (br (pr.bR .i64 c5 (pr.idx 0 i6 1)) true false) (br (br (pr.eq (pr.aO c2 (pr.idx 0 i6 1)) (pr.aO c5 (pr.idx 0 i6 1))) false true) (some ((.bool false),[.undef,.undef])) (J 0 (lh g0 n1 c2 g3 n4 c5 (pr.ar .add .i64 i6 1)))) none) none) none) none) (some ((.bool true),[.undef,.undef]))):=by kernel_rfl
theorem MB:Told cfg Tryz.prog 64 Tryz.f64:=⟨by kernel_rfl,Tryz.func64,by kernel_rfl⟩
theorem MC (g0:Bool) (n0:Nat) (c0:List D) (a1:Int):aW pr cv J 64 Tryz.f64 [(.sl (some g0) 1 n0 c0),(.int .i64 a1)]=
 (br (pr.lt (pr.ar .sub .i64 a1 (pr.aV n0)) 0) (some ((.int .i64 (-1)),[.undef,.undef])) (some ((.int .i64 (pr.ar .sub .i64 a1 (pr.aV n0))),[.undef,.undef]))):=by kernel_rfl
def j0 (g0:Bool) (n1:Nat) (c2:List D) (i3:Int) (n4:Nat) (c5:List D):St:=(St.mk [(0,(.sl (some g0) 1 n1 c2)),(3,(.ref 10003 [] 0 none)),(4,(.int .i64 i3))] [(10003,[(.sl none 1 n4 c5)])] [] 0)
theorem JI:Told cfg Tryz.prog 166 Tryz.f166:=⟨by kernel_rfl,Tryz.func166,by kernel_rfl⟩
theorem JJ (g0:Bool) (n0:Nat) (c0:List D):aW pr cv J 166 Tryz.f166 [(.sl (some g0) 1 n0 c0)]=
 (br (pr.sZ (pr.aV n0) (pr.aV n0) 1) (J 0 (j0 g0 n0 c0 0 (pr.iv (pr.aV n0)) (fa (pr.iv (pr.aV n0)) [(.int .u8 0)]))) none):=by kernel_rfl
theorem uH (g0:Bool) (n1:Nat) (c2:List D) (i3:Int) (n4:Nat) (c5:List D):bL pr cv J 166 Tryz.f166 [.undef] 0 (j0 g0 n1 c2 i3 n4 c5)=
 (br (pr.lt i3 (pr.aV n1)) (br (pr.bm i3 n1) (br (br (pr.bR .u8 c2 (pr.idx 0 i3 1)) true false) (br (pr.bm i3 n4) (br (pr.slot c5 (pr.idx 0 i3 1)) (J 0 (j0 g0 n1 c2 (pr.ar .add .i64 i3 1) n4 (List.set c5 (pr.idx 0 i3 1) (.int .u8 (pr.aO c2 (pr.idx 0 i3 1)))))) none) none) none) none) (some ((.sl none 1 n4 c5),[.undef]))):=by kernel_rfl
def j1 (g0:Bool) (n1:Nat) (c2:List D) (g3:Bool) (n4:Nat) (c5:List D) (i6:Int):St:=(St.mk [(0,(.sl (some g0) 1 n1 c2)),(1,(.sl (some g3) 1 n4 c5)),(5,(.int .i64 i6))] [] [] 0)
theorem yN:Told cfg Tryz.prog 175 Tryz.f175:=⟨by kernel_rfl,Tryz.func175,by kernel_rfl⟩
theorem yO (g0:Bool) (n0:Nat) (c0:List D) (g1:Bool) (n1:Nat) (c1:List D):aW pr cv J 175 Tryz.f175 [(.sl (some g0) 1 n0 c0),(.sl (some g1) 1 n1 c1)]=
 (br (br (pr.eq (pr.aV n0) (pr.aV n1)) false true) (some ((.bool false),[.undef,.undef])) (J 0 (j1 g0 n0 c0 g1 n1 c1 0))):=by kernel_rfl
theorem pq (g0:Bool) (n1:Nat) (c2:List D) (g3:Bool) (n4:Nat) (c5:List D) (i6:Int):bL pr cv J 175 Tryz.f175 [.undef,.undef] 0 (j1 g0 n1 c2 g3 n4 c5 i6)=
 (br (pr.lt i6 (pr.aV n1)) (br (pr.bm i6 n1) (br (br (pr.bR .u8 c2 (pr.idx 0 i6 1)) true false) (br (pr.bm i6 n4) (br (br (pr.bR .u8 c5 (pr.idx 0 i6 1)) true false) (br (br (pr.eq (pr.aO c2 (pr.idx 0 i6 1)) (pr.aO c5 (pr.idx 0 i6 1))) false true) (some ((.bool false),[.undef,.undef])) (J 0 (j1 g0 n1 c2 g3 n4 c5 (pr.ar .add .i64 i6 1)))) none) none) none) none) (some ((.bool true),[.undef,.undef]))):=by kernel_rfl
theorem JK:Told cfg Tryz.prog 159 Tryz.f159:=⟨by kernel_rfl,Tryz.func159,by kernel_rfl⟩
theorem JL (g0:Bool) (n0:Nat) (c0:List D) (a1:Int):aW pr cv J 159 Tryz.f159 [(.sl (some g0) 1 n0 c0),(.int .i64 a1)]=
 (br (pr.lt (pr.ar .sub .i64 a1 (pr.aV n0)) 0) (some ((.int .i64 (-1)),[.undef,.undef])) (some ((.int .i64 (pr.ar .sub .i64 a1 (pr.aV n0))),[.undef,.undef]))):=by kernel_rfl
def j3 (g0:Bool) (n1:Nat) (c2:List D) (i3:Int) (n4:Nat) (c5:List D):St:=(St.mk [(0,(.sl (some g0) 1 n1 c2)),(3,(.ref 10003 [] 0 none)),(4,(.int .i64 i3))] [(10003,[(.sl none 1 n4 c5)])] [] 0)
theorem JM:Told cfg Tryz.prog 74 Tryz.f74:=⟨by kernel_rfl,Tryz.func74,by kernel_rfl⟩
theorem JN (g0:Bool) (n0:Nat) (c0:List D):aW pr cv J 74 Tryz.f74 [(.sl (some g0) 1 n0 c0)]=
 (br (pr.sZ (pr.aV n0) (pr.aV n0) 1) (J 0 (j3 g0 n0 c0 0 (pr.iv (pr.aV n0)) (fa (pr.iv (pr.aV n0)) [(.bool false)]))) none):=by kernel_rfl
theorem uI (g0:Bool) (n1:Nat) (c2:List D) (i3:Int) (n4:Nat) (c5:List D):bL pr cv J 74 Tryz.f74 [.undef] 0 (j3 g0 n1 c2 i3 n4 c5)=
 (br (pr.lt i3 (pr.aV n1)) (br (pr.bm i3 n1) (br (br (pr.bW c2 (pr.idx 0 i3 1)) true false) (br (pr.bm i3 n4) (br (pr.slot c5 (pr.idx 0 i3 1)) (J 0 (j3 g0 n1 c2 (pr.ar .add .i64 i3 1) n4 (List.set c5 (pr.idx 0 i3 1) (.bool (pr.bC c2 (pr.idx 0 i3 1)))))) none) none) none) none) (some ((.sl none 1 n4 c5),[.undef]))):=by kernel_rfl
def j4 (g0:Bool) (n1:Nat) (c2:List D) (g3:Bool) (n4:Nat) (c5:List D) (i6:Int):St:=(St.mk [(0,(.sl (some g0) 1 n1 c2)),(1,(.sl (some g3) 1 n4 c5)),(5,(.int .i64 i6))] [] [] 0)
theorem yP:Told cfg Tryz.prog 80 Tryz.f80:=⟨by kernel_rfl,Tryz.func80,by kernel_rfl⟩
theorem yQ (g0:Bool) (n0:Nat) (c0:List D) (g1:Bool) (n1:Nat) (c1:List D):aW pr cv J 80 Tryz.f80 [(.sl (some g0) 1 n0 c0),(.sl (some g1) 1 n1 c1)]=
 (br (br (pr.eq (pr.aV n0) (pr.aV n1)) false true) (some ((.bool false),[.undef,.undef])) (J 0 (j4 g0 n0 c0 g1 n1 c1 0))):=by kernel_rfl
theorem pv (g0:Bool) (n1:Nat) (c2:List D) (g3:Bool) (n4:Nat) (c5:List D) (i6:Int):bL pr cv J 80 Tryz.f80 [.undef,.undef] 0 (j4 g0 n1 c2 g3 n4 c5 i6)=
 (br (pr.lt i6 (pr.aV n1)) (br (pr.bm i6 n1) (br (br (pr.bW c2 (pr.idx 0 i6 1)) true false) (br (pr.bm i6 n4) (br (br (pr.bW c5 (pr.idx 0 i6 1)) true false) (br (br (pr.beq (pr.bC c2 (pr.idx 0 i6 1)) (pr.bC c5 (pr.idx 0 i6 1))) false true) (some ((.bool false),[.undef,.undef])) (J 0 (j4 g0 n1 c2 g3 n4 c5 (pr.ar .add .i64 i6 1)))) none) none) none) none) (some ((.bool true),[.undef,.undef]))):=by kernel_rfl
theorem JO:Told cfg Tryz.prog 67 Tryz.f67:=⟨by kernel_rfl,Tryz.func67,by kernel_rfl⟩
theorem JP (g0:Bool) (n0:Nat) (c0:List D) (a1:Int):aW pr cv J 67 Tryz.f67 [(.sl (some g0) 1 n0 c0),(.int .i64 a1)]=
 (br (pr.lt (pr.ar .sub .i64 a1 (pr.aV n0)) 0) (some ((.int .i64 (-1)),[.undef,.undef])) (some ((.int .i64 (pr.ar .sub .i64 a1 (pr.aV n0))),[.undef,.undef]))):=by kernel_rfl
end
theorem cV (i:Nat):ad.idx 0 (i:Int) 1=i:=by rw [aaL]; omega
theorem qm {α:Type} {xs:List α} {i:Nat} (hi:i < xs.length) (z:α) (ys:List α) (hl:xs.length=ys.length) (hy:i < ys.length):(ys.take i++List.replicate (xs.length - i) z).set i ys[i]=ys.take (i+1)++List.replicate (xs.length - (i+1)) z:=by
 rw [List.set_append_right _ _ (by simp; omega)]
 have h1:i - (ys.take i).length=0:=by simp; omega
 obtain ⟨k,hk⟩:∃ k,xs.length - i=k+1:=⟨xs.length - i - 1,by omega⟩
 have h2:xs.length - (i+1)=k:=by omega
 rw [h1,hk,h2,abq,afA,<- aba hy,aay];rfl
def eY (n:Nat) (left:Int):Int:=if left < n then -1 else left - n
theorem Zc (g:Bool) (xs:List Int) (hb:xs.length<=17592186044416) (xd:xs.length < 9223372036854775807):Cm 71 [.sl (some g) 1 xs.length (ints xs)] (.sl none 1 xs.length (ints xs),[.undef]):=by
 refine Cm.go Mz [.undef] 0 (lg g xs.length (ints xs) (0:Nat) xs.length (ints (List.replicate xs.length 0))) ?_ fun J hJ=>?_
 ·refine WP.loop (H:=fun i=>lg g xs.length (ints xs) (i:Nat) xs.length (ints (xs.take i++List.replicate (xs.length - i) 0))) (n:=xs.length) (fun _=>True) (fun i hi _ ih=>WP.go _ (ih trivial) fun J hJ=>?_) (fun _=>WP.fin fun J=>?_) 0 (aa9 _) trivial
  ·rw [wj];simp (disch:=first | omega | (simp; done) | (simp; omega)) only [aK,bg,bo,aC,bc,bF,cV,dz,Ag,dA,ints_set,dp]
   rw [<- hJ]
   congr 2
   rw [qm hi _ xs rfl hi]
  ·rw [wj];simp (disch:=omega) only [aK,bg,aC,bG,aaO,adT,abA,aah]
 ·rw [MA];simp (disch:=omega) only [aK,bg,aC,tb,Ae,Wp];exact hJ
theorem Zd (g h:Bool) (xs ys:List Int) (hb:xs.length < 9223372036854775807):Cm 19 [.sl (some g) 1 xs.length (ints xs),.sl (some h) 1 ys.length (ints ys)] (.bool (decide (xs=ys)),[.undef,.undef]):=by
 by_cases hl:xs.length=ys.length
 ·refine Cm.go AI [.undef,.undef] 0 (lh g xs.length (ints xs) h ys.length (ints ys) (0:Nat)) ?_ fun J hJ=>?_
  ·refine WP.loop (H:=fun i=>lh g xs.length (ints xs) h ys.length (ints ys) (i:Nat)) (n:=xs.length) (fun i=>xs.take i=ys.take i) (fun i hi hv ih=>?_) (fun hv=>WP.fin fun J=>?_) 0 (aa9 _) (by simp)
   ·have oC:i < ys.length:=by omega
    by_cases he:xs[i]=ys[i]
    ·refine WP.go _ (ih (by rw [<- aba hi,<- aba oC,hv,he])) fun J hJ=>?_
     rw [ql];simp (disch:=omega) only [aK,bg,bo,bQ,cb,aC,bc,bF,cV,dz,dA,dp,gA,he,u6,beq_self_eq_true,afa];exact hJ
    ·refine WP.fin fun J=>?_;rw [ql];have cX:xs≠ys:=fun e=>he (by subst e; rfl)
     have hn8:=he;have hbe:=he;simp (disch:=first | omega | assumption) only [aK,bg,bo,bQ,cb,aC,bc,bF,cV,dz,dA,eA,decide_eq_false cX]
   ·rw [ql];rw [aaO,hl,aaO] at hv;simp (disch:=omega) only [aK,bg,aC,bG,decide_eq_true hv]
  ·rw [AJ];simp (disch:=omega) only [aK,bg,aC,bQ,cb,gA];exact hJ
 ·refine Cm.fin AI fun J=>?_;have cX:xs≠ys:=fun e=>hl (by rw [e])
  rw [AJ];simp (disch:=omega) only [aK,bg,aC,bQ,cb,eA,decide_eq_false cX]
theorem Ze (g:Bool) (n:Nat) (c:List D) (left:Int) (h0:0<=left) (h1:left<=1048576) (hn:n<=140737488355328):Cm 64 [.sl (some g) 1 n c,.int .i64 left] (.int .i64 (eY n left),[.undef,.undef]):=by
 refine Cm.fin MB fun J=>?_;rw [MC];unfold eY;by_cases h:left < n
 ·rw [if_pos h];simp (disch:=omega) only [aC,eX,bc]
 ·rw [if_neg h];simp (disch:=omega) only [aC,eX,bG]
theorem Wu (g:Bool) (xs:List UInt8) (hb:xs.length<=140737488355328) (xd:xs.length < 9223372036854775807):Cm 166 [.sl (some g) 1 xs.length (bytes xs)] (.sl none 1 xs.length (bytes xs),[.undef]):=by
 refine Cm.go JI [.undef] 0 (j0 g xs.length (bytes xs) (0:Nat) xs.length (bytes (List.replicate xs.length 0))) ?_ fun J hJ=>?_
 ·refine WP.loop (H:=fun i=>j0 g xs.length (bytes xs) (i:Nat) xs.length (bytes (xs.take i++List.replicate (xs.length - i) 0))) (n:=xs.length) (fun _=>True) (fun i hi _ ih=>WP.go _ (ih trivial) fun J hJ=>?_) (fun _=>WP.fin fun J=>?_) 0 (aa9 _) trivial
  ·rw [uH];simp (disch:=first | omega | (simp; done) | (simp; omega)) only [aK,bg,bo,aC,bc,bF,cV,nv,Za,yM,LZ,dp]
   rw [<- hJ]
   congr 2
   rw [qm hi _ xs rfl hi]
  ·rw [uH];simp (disch:=omega) only [aK,bg,aC,bG,aaO,adT,abA,aah]
 ·rw [JJ];simp (disch:=omega) only [aK,bg,aC,tb,Ae,Wq];exact hJ
theorem Wv (g h:Bool) (xs ys:List UInt8) (hb:xs.length < 9223372036854775807):Cm 175 [.sl (some g) 1 xs.length (bytes xs),.sl (some h) 1 ys.length (bytes ys)] (.bool (decide (xs=ys)),[.undef,.undef]):=by
 by_cases hl:xs.length=ys.length
 ·refine Cm.go yN [.undef,.undef] 0 (j1 g xs.length (bytes xs) h ys.length (bytes ys) (0:Nat)) ?_ fun J hJ=>?_
  ·refine WP.loop (H:=fun i=>j1 g xs.length (bytes xs) h ys.length (bytes ys) (i:Nat)) (n:=xs.length) (fun i=>xs.take i=ys.take i) (fun i hi hv ih=>?_) (fun hv=>WP.fin fun J=>?_) 0 (aa9 _) (by simp)
   ·have oC:i < ys.length:=by omega
    by_cases he:xs[i]=ys[i]
    ·refine WP.go _ (ih (by rw [<- aba hi,<- aba oC,hv,he])) fun J hJ=>?_
     rw [pq];simp (disch:=omega) only [aK,bg,bo,bQ,cb,aC,bc,bF,cV,nv,yM,dp,gA,he,u6,beq_self_eq_true,afa];exact hJ
    ·refine WP.fin fun J=>?_;rw [pq];have cX:xs≠ys:=fun e=>he (by subst e; rfl)
     have hn8:((xs[i].toNat:Int))≠(ys[i].toNat:Int):=fun e=>he (UInt8.toNat_inj.1 (by omega))
     have hbe:=he;simp (disch:=first | omega | assumption) only [aK,bg,bo,bQ,cb,aC,bc,bF,cV,nv,yM,eA,decide_eq_false cX]
   ·rw [pq];rw [aaO,hl,aaO] at hv;simp (disch:=omega) only [aK,bg,aC,bG,decide_eq_true hv]
  ·rw [yO];simp (disch:=omega) only [aK,bg,aC,bQ,cb,gA];exact hJ
 ·refine Cm.fin yN fun J=>?_;have cX:xs≠ys:=fun e=>hl (by rw [e])
  rw [yO];simp (disch:=omega) only [aK,bg,aC,bQ,cb,eA,decide_eq_false cX]
theorem Ww (g:Bool) (n:Nat) (c:List D) (left:Int) (h0:0<=left) (h1:left<=1048576) (hn:n<=140737488355328):Cm 159 [.sl (some g) 1 n c,.int .i64 left] (.int .i64 (eY n left),[.undef,.undef]):=by
 refine Cm.fin JK fun J=>?_;rw [JL];unfold eY;by_cases h:left < n
 ·rw [if_pos h];simp (disch:=omega) only [aC,eX,bc]
 ·rw [if_neg h];simp (disch:=omega) only [aC,eX,bG]
theorem Wx (g:Bool) (xs:List Bool) (hb:xs.length<=140737488355328) (xd:xs.length < 9223372036854775807):Cm 74 [.sl (some g) 1 xs.length (bB xs)] (.sl none 1 xs.length (bB xs),[.undef]):=by
 refine Cm.go JM [.undef] 0 (j3 g xs.length (bB xs) (0:Nat) xs.length (bB (List.replicate xs.length false))) ?_ fun J hJ=>?_
 ·refine WP.loop (H:=fun i=>j3 g xs.length (bB xs) (i:Nat) xs.length (bB (xs.take i++List.replicate (xs.length - i) false))) (n:=xs.length) (fun _=>True) (fun i hi _ ih=>WP.go _ (ih trivial) fun J hJ=>?_) (fun _=>WP.fin fun J=>?_) 0 (aa9 _) trivial
  ·rw [uI];simp (disch:=first | omega | (simp; done) | (simp; omega)) only [aK,bg,bo,aC,bc,bF,cV,Qr,Zb,Qs,L0,dp]
   rw [<- hJ]
   congr 2
   rw [qm hi _ xs rfl hi]
  ·rw [uI];simp (disch:=omega) only [aK,bg,aC,bG,aaO,adT,abA,aah]
 ·rw [JN];simp (disch:=omega) only [aK,bg,aC,tb,Ae,Wt];exact hJ
theorem Wy (g h:Bool) (xs ys:List Bool) (hb:xs.length < 9223372036854775807):Cm 80 [.sl (some g) 1 xs.length (bB xs),.sl (some h) 1 ys.length (bB ys)] (.bool (decide (xs=ys)),[.undef,.undef]):=by
 by_cases hl:xs.length=ys.length
 ·refine Cm.go yP [.undef,.undef] 0 (j4 g xs.length (bB xs) h ys.length (bB ys) (0:Nat)) ?_ fun J hJ=>?_
  ·refine WP.loop (H:=fun i=>j4 g xs.length (bB xs) h ys.length (bB ys) (i:Nat)) (n:=xs.length) (fun i=>xs.take i=ys.take i) (fun i hi hv ih=>?_) (fun hv=>WP.fin fun J=>?_) 0 (aa9 _) (by simp)
   ·have oC:i < ys.length:=by omega
    by_cases he:xs[i]=ys[i]
    ·refine WP.go _ (ih (by rw [<- aba hi,<- aba oC,hv,he])) fun J hJ=>?_
     rw [pv];simp (disch:=omega) only [aK,bg,bo,bQ,cb,aC,bc,bF,cV,Qr,Qs,dp,gA,he,u6,beq_self_eq_true,afa];exact hJ
    ·refine WP.fin fun J=>?_;rw [pv];have cX:xs≠ys:=fun e=>he (by subst e; rfl)
     have hn8:=he;have hbe:(xs[i]==ys[i])=false:=by simpa using he
     simp (disch:=first | omega | assumption) only [aK,bg,bo,bQ,cb,aC,bc,bF,cV,Qr,Qs,eA,decide_eq_false cX,u6,hbe,Bool.not_false]
   ·rw [pv];rw [aaO,hl,aaO] at hv;simp (disch:=omega) only [aK,bg,aC,bG,decide_eq_true hv]
  ·rw [yQ];simp (disch:=omega) only [aK,bg,aC,bQ,cb,gA];exact hJ
 ·refine Cm.fin yP fun J=>?_;have cX:xs≠ys:=fun e=>hl (by rw [e])
  rw [yQ];simp (disch:=omega) only [aK,bg,aC,bQ,cb,eA,decide_eq_false cX]
theorem Wz (g:Bool) (n:Nat) (c:List D) (left:Int) (h0:0<=left) (h1:left<=1048576) (hn:n<=140737488355328):Cm 67 [.sl (some g) 1 n c,.int .i64 left] (.int .i64 (eY n left),[.undef,.undef]):=by
 refine Cm.fin JO fun J=>?_;rw [JP];unfold eY;by_cases h:left < n
 ·rw [if_pos h];simp (disch:=omega) only [aC,eX,bc]
 ·rw [if_neg h];simp (disch:=omega) only [aC,eX,bG]
set_option maxRecDepth 100000
section
variable (pr:dC) (cv:Cv Rz) (J:Nat->St->Option Rz)
def j5 (g0:Bool) (n1:Nat) (c2:List D) (i3:Int) (n4:Nat) (c5:List D):St:=(St.mk [(0,(.sl (some g0) 1 n1 c2)),(3,(.ref 10003 [] 0 none)),(4,(.int .i64 i3))] [(10003,[(.sl none 1 n4 c5)])] [] 0)
theorem JQ:Told cfg Tryz.prog 75 Tryz.f75:=⟨by kernel_rfl,Tryz.func75,by kernel_rfl⟩
theorem JR (g0:Bool) (n0:Nat) (c0:List D):aW pr cv J 75 Tryz.f75 [(.sl (some g0) 1 n0 c0)]=
 (br (pr.sZ (pr.aV n0) (pr.aV n0) 24) (J 0 (j5 g0 n0 c0 0 (pr.iv (pr.aV n0)) (fa (pr.iv (pr.aV n0)) [(.nil 1)]))) none):=by kernel_rfl
theorem uJ (g0:Bool) (n1:Nat) (c2:List D) (i3:Int) (n4:Nat) (c5:List D):bL pr cv J 75 Tryz.f75 [.undef] 0 (j5 g0 n1 c2 i3 n4 c5)=
 (br (pr.lt i3 (pr.aV n1)) (br (pr.bm i3 n1) (br (br (pr.aN 1 c2 (pr.idx 0 i3 1)) true false) (cv 71 [(.sl (some (pr.aG c2 (pr.idx 0 i3 1))) 1 (pr.aD c2 (pr.idx 0 i3 1)) (pr.aF c2 (pr.idx 0 i3 1)))] (.sl (fun dN=>(fun dr=>(.done (br (br (br (pr.nl dr) true false) true false) (br (pr.bm i3 n4) (br (br (pr.ne c5) (br (pr.kL 1 c5 (pr.idx 0 i3 1)) true false) false) (cv 999999 [(.sl none 0 0 (List.set c5 (pr.idx 0 i3 1) (.sl none 1 dN dr)))] (.sl (fun pg=>(fun ji=>(.done (J 0 (j5 g0 n1 c2 (pr.ar .add .i64 i3 1) n4 ji))))))) none) none) none)))))) none) none) (some ((.sl none 1 n4 c5),[.undef]))):=by kernel_rfl
def j6 (g0:Bool) (n1:Nat) (c2:List D) (g3:Bool) (n4:Nat) (c5:List D) (i6:Int):St:=(St.mk [(0,(.sl (some g0) 1 n1 c2)),(1,(.sl (some g3) 1 n4 c5)),(5,(.int .i64 i6))] [] [] 0)
theorem yR:Told cfg Tryz.prog 81 Tryz.f81:=⟨by kernel_rfl,Tryz.func81,by kernel_rfl⟩
theorem yS (g0:Bool) (n0:Nat) (c0:List D) (g1:Bool) (n1:Nat) (c1:List D):aW pr cv J 81 Tryz.f81 [(.sl (some g0) 1 n0 c0),(.sl (some g1) 1 n1 c1)]=
 (br (br (pr.eq (pr.aV n0) (pr.aV n1)) false true) (some ((.bool false),[.undef,.undef])) (J 0 (j6 g0 n0 c0 g1 n1 c1 0))):=by kernel_rfl
theorem pw (g0:Bool) (n1:Nat) (c2:List D) (g3:Bool) (n4:Nat) (c5:List D) (i6:Int):bL pr cv J 81 Tryz.f81 [.undef,.undef] 0 (j6 g0 n1 c2 g3 n4 c5 i6)=
 (br (pr.lt i6 (pr.aV n1)) (br (pr.bm i6 n1) (br (br (pr.aN 1 c2 (pr.idx 0 i6 1)) true false) (br (pr.bm i6 n4) (br (br (pr.aN 1 c5 (pr.idx 0 i6 1)) true false) (cv 19 [(.sl (some (pr.aG c2 (pr.idx 0 i6 1))) 1 (pr.aD c2 (pr.idx 0 i6 1)) (pr.aF c2 (pr.idx 0 i6 1))),(.sl (some (pr.aG c5 (pr.idx 0 i6 1))) 1 (pr.aD c5 (pr.idx 0 i6 1)) (pr.aF c5 (pr.idx 0 i6 1)))] (.bool (fun bH=>(.done (br (br bH false true) (some ((.bool false),[.undef,.undef])) (J 0 (j6 g0 n1 c2 g3 n4 c5 (pr.ar .add .i64 i6 1)))))))) none) none) none) none) (some ((.bool true),[.undef,.undef]))):=by kernel_rfl
def mV (g0:Bool) (n1:Nat) (c2:List D) (i3:Int) (i4:Int):St:=(St.mk [(0,(.sl (some g0) 1 n1 c2)),(1,(.int .i64 i3)),(5,(.int .i64 i4))] [] [] 0)
theorem yT:Told cfg Tryz.prog 68 Tryz.f68:=⟨by kernel_rfl,Tryz.func68,by kernel_rfl⟩
theorem yU (g0:Bool) (n0:Nat) (c0:List D) (a1:Int):aW pr cv J 68 Tryz.f68 [(.sl (some g0) 1 n0 c0),(.int .i64 a1)]=
 (br (pr.lt (pr.ar .sub .i64 a1 (pr.aV n0)) 0) (some ((.int .i64 (-1)),[.undef,.undef])) (J 0 (mV g0 n0 c0 (pr.ar .sub .i64 a1 (pr.aV n0)) 0))):=by kernel_rfl
theorem px (g0:Bool) (n1:Nat) (c2:List D) (i3:Int) (i4:Int):bL pr cv J 68 Tryz.f68 [.undef,.undef] 0 (mV g0 n1 c2 i3 i4)=
 (br (pr.lt i4 (pr.aV n1)) (br (pr.bm i4 n1) (br (br (pr.aN 1 c2 (pr.idx 0 i4 1)) true false) (cv 64 [(.sl (some (pr.aG c2 (pr.idx 0 i4 1))) 1 (pr.aD c2 (pr.idx 0 i4 1)) (pr.aF c2 (pr.idx 0 i4 1))),(.int .i64 i3)] (.int (fun ef=>(.done (br (pr.lt ef 0) (some ((.int .i64 (-1)),[.undef,.undef])) (J 0 (mV g0 n1 c2 ef (pr.ar .add .i64 i4 1)))))))) none) none) (some ((.int .i64 i3),[.undef,.undef]))):=by kernel_rfl
theorem MD:Told cfg Tryz.prog 72 Tryz.f72:=⟨by kernel_rfl,Tryz.func72,by kernel_rfl⟩
theorem ME (g0:Bool) (n0:Nat) (c0:List D) (g1:Bool) (n1:Nat) (c1:List D) (a2:Bool) (a3:Bool) (a4:Bool) (a5:Int):aW pr cv J 72 Tryz.f72 [(.agg [(.sl (some g0) 1 n0 c0),(.sl (some g1) 1 n1 c1),(.bool a2),(.bool a3),(.bool a4),(.int .i64 a5)])]=
 (cv 71 [(.sl (some g0) 1 n0 c0)] (.sl (fun dN=>(fun dr=>(.done (br (br (br (pr.nl dr) true false) true false) (cv 75 [(.sl (some g1) 1 n1 c1)] (.sl (fun pg=>(fun ji=>(.done (br (br (br (pr.nl ji) true false) true false) (some ((.agg [(.sl none 1 dN dr),(.sl none 1 pg ji),(.bool a2),(.bool a3),(.bool a4),(.int .i64 a5)]),[.undef])) none)))))) none)))))):=by kernel_rfl
theorem MF:Told cfg Tryz.prog 78 Tryz.f78:=⟨by kernel_rfl,Tryz.func78,by kernel_rfl⟩
theorem MG (g0:Bool) (n0:Nat) (c0:List D) (g1:Bool) (n1:Nat) (c1:List D) (a2:Bool) (a3:Bool) (a4:Bool) (a5:Int) (g6:Bool) (n6:Nat) (c6:List D) (g7:Bool) (n7:Nat) (c7:List D) (a8:Bool) (a9:Bool) (a10:Bool) (a11:Int):aW pr cv J 78 Tryz.f78 [(.agg [(.sl (some g0) 1 n0 c0),(.sl (some g1) 1 n1 c1),(.bool a2),(.bool a3),(.bool a4),(.int .i64 a5)]),(.agg [(.sl (some g6) 1 n6 c6),(.sl (some g7) 1 n7 c7),(.bool a8),(.bool a9),(.bool a10),(.int .i64 a11)])]=
 let y1:Option (D × List D):=(some ((.bool false),[.undef,.undef]))
 (cv 19 [(.sl (some g0) 1 n0 c0),(.sl (some g6) 1 n6 c6)] (.bool (fun bH=>(.done (br (br bH false true) y1 (cv 81 [(.sl (some g1) 1 n1 c1),(.sl (some g7) 1 n7 c7)] (.bool (fun eQ=>(.done (br (br eQ false true) y1 (br (br (pr.beq a2 a8) false true) y1 (br (br (pr.beq a3 a9) false true) y1 (br (br (pr.beq a4 a10) false true) y1 (br (br (pr.eq a5 a11) false true) y1 (some ((.bool true),[.undef,.undef])))))))))))))))):=by kernel_rfl
theorem MH:Told cfg Tryz.prog 65 Tryz.f65:=⟨by kernel_rfl,Tryz.func65,by kernel_rfl⟩
theorem MI (g0:Bool) (n0:Nat) (c0:List D) (g1:Bool) (n1:Nat) (c1:List D) (a2:Bool) (a3:Bool) (a4:Bool) (a5:Int) (a6:Int):aW pr cv J 65 Tryz.f65 [(.agg [(.sl (some g0) 1 n0 c0),(.sl (some g1) 1 n1 c1),(.bool a2),(.bool a3),(.bool a4),(.int .i64 a5)]),(.int .i64 a6)]=
 let y1:Option (D × List D):=(some ((.int .i64 (-1)),[.undef,.undef]))
 (cv 64 [(.sl (some g0) 1 n0 c0),(.int .i64 a6)] (.int (fun ef=>(.done (br (pr.lt ef 0) y1 (cv 68 [(.sl (some g1) 1 n1 c1),(.int .i64 ef)] (.int (fun iD=>(.done (br (pr.lt iD 0) y1 (some ((.int .i64 iD),[.undef,.undef])))))))))))):=by kernel_rfl
theorem JS:Told cfg Tryz.prog 73 Tryz.f73:=⟨by kernel_rfl,Tryz.func73,by kernel_rfl⟩
theorem JT (g0:Bool) (n0:Nat) (c0:List D) (g1:Bool) (n1:Nat) (c1:List D):aW pr cv J 73 Tryz.f73 [(.agg [(.sl (some g0) 1 n0 c0),(.sl (some g1) 1 n1 c1)])]=
 (cv 166 [(.sl (some g0) 1 n0 c0)] (.sl (fun dN=>(fun dr=>(.done (br (br (br (pr.nl dr) true false) true false) (cv 166 [(.sl (some g1) 1 n1 c1)] (.sl (fun pg=>(fun ji=>(.done (br (br (br (pr.nl ji) true false) true false) (some ((.agg [(.sl none 1 dN dr),(.sl none 1 pg ji)]),[.undef])) none)))))) none)))))):=by kernel_rfl
theorem JU:Told cfg Tryz.prog 79 Tryz.f79:=⟨by kernel_rfl,Tryz.func79,by kernel_rfl⟩
theorem JV (g0:Bool) (n0:Nat) (c0:List D) (g1:Bool) (n1:Nat) (c1:List D) (g2:Bool) (n2:Nat) (c2:List D) (g3:Bool) (n3:Nat) (c3:List D):aW pr cv J 79 Tryz.f79 [(.agg [(.sl (some g0) 1 n0 c0),(.sl (some g1) 1 n1 c1)]),(.agg [(.sl (some g2) 1 n2 c2),(.sl (some g3) 1 n3 c3)])]=
 let y1:Option (D × List D):=(some ((.bool false),[.undef,.undef]))
 (cv 175 [(.sl (some g0) 1 n0 c0),(.sl (some g2) 1 n2 c2)] (.bool (fun bH=>(.done (br (br bH false true) y1 (cv 175 [(.sl (some g1) 1 n1 c1),(.sl (some g3) 1 n3 c3)] (.bool (fun eQ=>(.done (br (br eQ false true) y1 (some ((.bool true),[.undef,.undef])))))))))))):=by kernel_rfl
theorem JW:Told cfg Tryz.prog 66 Tryz.f66:=⟨by kernel_rfl,Tryz.func66,by kernel_rfl⟩
theorem JX (g0:Bool) (n0:Nat) (c0:List D) (g1:Bool) (n1:Nat) (c1:List D) (a2:Int):aW pr cv J 66 Tryz.f66 [(.agg [(.sl (some g0) 1 n0 c0),(.sl (some g1) 1 n1 c1)]),(.int .i64 a2)]=
 let y1:Option (D × List D):=(some ((.int .i64 (-1)),[.undef,.undef]))
 (cv 159 [(.sl (some g0) 1 n0 c0),(.int .i64 a2)] (.int (fun ef=>(.done (br (pr.lt ef 0) y1 (cv 159 [(.sl (some g1) 1 n1 c1),(.int .i64 ef)] (.int (fun iD=>(.done (br (pr.lt iD 0) y1 (some ((.int .i64 iD),[.undef,.undef])))))))))))):=by kernel_rfl
theorem MJ:Told cfg Tryz.prog 17 Tryz.f17:=⟨by kernel_rfl,Tryz.func17,by kernel_rfl⟩
theorem MK (a0:Int) (a1:Bool) (a2:Bool) (g3:Bool) (n3:Nat) (c3:List D) (g4:Bool) (n4:Nat) (c4:List D) (g5:Bool) (n5:Nat) (c5:List D) (a6:Bool) (a7:Bool) (a8:Bool) (a9:Int) (g10:Bool) (nN:Nat) (rI:List D) (g11:Bool) (dE:Nat) (nO:List D) (g12:Bool) (fI:Nat) (dO:List D) (g13:Bool) (gX:Nat) (gh:List D) (g14:Bool) (kI:Nat) (gL:List D) (g15:Bool) (n15:Nat) (lj:List D):aW pr cv J 17 Tryz.f17 [(.agg [(.int .i64 a0),(.bool a1),(.bool a2),(.sl (some g3) 1 n3 c3),(.sl (some g4) 1 n4 c4),(.sl (some g5) 1 n5 c5),(.bool a6),(.bool a7),(.bool a8),(.int .i64 a9),(.sl (some g10) 1 nN rI),(.sl (some g11) 1 dE nO),(.sl (some g12) 1 fI dO),(.sl (some g13) 1 gX gh),(.sl (some g14) 1 kI gL),(.sl (some g15) 1 n15 lj)])]=
 (cv 71 [(.sl (some g3) 1 n3 c3)] (.sl (fun dN=>(fun dr=>(.done (br (br (br (pr.nl dr) true false) true false) (cv 72 [(.agg [(.sl (some g4) 1 n4 c4),(.sl (some g5) 1 n5 c5),(.bool a6),(.bool a7),(.bool a8),(.int .i64 a9)])] (.sl (fun pg=>(fun ji=>(.sl (fun vn4=>(fun Qt=>(.bool (fun rJ=>(.bool (fun vb7=>(.bool (fun WA=>(.int (fun vx9=>(.done (br (br (br (pr.nl ji) (br (pr.nl Qt) true false) false) true false) (cv 73 [(.agg [(.sl (some g10) 1 nN rI),(.sl (some g11) 1 dE nO)])] (.sl (fun aju=>(fun afr=>(.sl (fun ajv=>(fun afs=>(.done (br (br (br (pr.nl afr) (br (pr.nl afs) true false) false) true false) (cv 74 [(.sl (some g12) 1 fI dO)] (.sl (fun ajw=>(fun aft=>(.done (br (br (br (pr.nl aft) true false) true false) (cv 75 [(.sl (some g13) 1 gX gh)] (.sl (fun ajx=>(fun afu=>(.done (br (br (br (pr.nl afu) true false) true false) (cv 74 [(.sl (some g14) 1 kI gL)] (.sl (fun ajy=>(fun afv=>(.done (br (br (br (pr.nl afv) true false) true false) (cv 71 [(.sl (some g15) 1 n15 lj)] (.sl (fun ajz=>(fun afw=>(.done (br (br (br (pr.nl afw) true false) true false) (some ((.agg [(.int .i64 a0),(.bool a1),(.bool a2),(.sl none 1 dN dr),(.sl none 1 pg ji),(.sl none 1 vn4 Qt),(.bool rJ),(.bool vb7),(.bool WA),(.int .i64 vx9),(.sl none 1 aju afr),(.sl none 1 ajv afs),(.sl none 1 ajw aft),(.sl none 1 ajx afu),(.sl none 1 ajy afv),(.sl none 1 ajz afw)]),[.undef])) none)))))) none)))))) none)))))) none)))))) none))))))))) none))))))))))))))))) none)))))):=by kernel_rfl
theorem ML:Told cfg Tryz.prog 20 Tryz.f20:=⟨by kernel_rfl,Tryz.func20,by kernel_rfl⟩
theorem MM (a0:Int) (a1:Bool) (a2:Bool) (g3:Bool) (n3:Nat) (c3:List D) (g4:Bool) (n4:Nat) (c4:List D) (g5:Bool) (n5:Nat) (c5:List D) (a6:Bool) (a7:Bool) (a8:Bool) (a9:Int) (g10:Bool) (nN:Nat) (rI:List D) (g11:Bool) (dE:Nat) (nO:List D) (g12:Bool) (fI:Nat) (dO:List D) (g13:Bool) (gX:Nat) (gh:List D) (g14:Bool) (kI:Nat) (gL:List D) (g15:Bool) (n15:Nat) (lj:List D) (a16:Int) (a17:Bool) (a18:Bool) (g19:Bool) (n19:Nat) (rK:List D) (g20:Bool) (n20:Nat) (Qu:List D) (g21:Bool) (n21:Nat) (AK:List D) (a22:Bool) (a23:Bool) (a24:Bool) (a25:Int) (g26:Bool) (n26:Nat) (yV:List D) (yW:Bool) (n27:Nat) (rL:List D) (ub:Bool) (n28:Nat) (c28:List D) (g29:Bool) (n29:Nat) (yX:List D) (yY:Bool) (n30:Nat) (uc:List D) (ud:Bool) (n31:Nat) (c31:List D):aW pr cv J 20 Tryz.f20 [(.agg [(.int .i64 a0),(.bool a1),(.bool a2),(.sl (some g3) 1 n3 c3),(.sl (some g4) 1 n4 c4),(.sl (some g5) 1 n5 c5),(.bool a6),(.bool a7),(.bool a8),(.int .i64 a9),(.sl (some g10) 1 nN rI),(.sl (some g11) 1 dE nO),(.sl (some g12) 1 fI dO),(.sl (some g13) 1 gX gh),(.sl (some g14) 1 kI gL),(.sl (some g15) 1 n15 lj)]),(.agg [(.int .i64 a16),(.bool a17),(.bool a18),(.sl (some g19) 1 n19 rK),(.sl (some g20) 1 n20 Qu),(.sl (some g21) 1 n21 AK),(.bool a22),(.bool a23),(.bool a24),(.int .i64 a25),(.sl (some g26) 1 n26 yV),(.sl (some yW) 1 n27 rL),(.sl (some ub) 1 n28 c28),(.sl (some g29) 1 n29 yX),(.sl (some yY) 1 n30 uc),(.sl (some ud) 1 n31 c31)])]=
 let y1:Option (D × List D):=(some ((.bool false),[.undef,.undef]))
 (br (br (pr.eq a0 a16) false true) y1 (br (br (pr.beq a1 a17) false true) y1 (br (br (pr.beq a2 a18) false true) y1 (cv 19 [(.sl (some g3) 1 n3 c3),(.sl (some g19) 1 n19 rK)] (.bool (fun bH=>(.done (br (br bH false true) y1 (cv 78 [(.agg [(.sl (some g4) 1 n4 c4),(.sl (some g5) 1 n5 c5),(.bool a6),(.bool a7),(.bool a8),(.int .i64 a9)]),(.agg [(.sl (some g20) 1 n20 Qu),(.sl (some g21) 1 n21 AK),(.bool a22),(.bool a23),(.bool a24),(.int .i64 a25)])] (.bool (fun eQ=>(.done (br (br eQ false true) y1 (cv 79 [(.agg [(.sl (some g10) 1 nN rI),(.sl (some g11) 1 dE nO)]),(.agg [(.sl (some g26) 1 n26 yV),(.sl (some yW) 1 n27 rL)])] (.bool (fun gi=>(.done (br (br gi false true) y1 (cv 80 [(.sl (some g12) 1 fI dO),(.sl (some ub) 1 n28 c28)] (.bool (fun wk=>(.done (br (br wk false true) y1 (cv 81 [(.sl (some g13) 1 gX gh),(.sl (some g29) 1 n29 yX)] (.bool (fun Qv=>(.done (br (br Qv false true) y1 (cv 80 [(.sl (some g14) 1 kI gL),(.sl (some yY) 1 n30 uc)] (.bool (fun wm=>(.done (br (br wm false true) y1 (cv 19 [(.sl (some g15) 1 n15 lj),(.sl (some ud) 1 n31 c31)] (.bool (fun rJ=>(.done (br (br rJ false true) y1 (some ((.bool true),[.undef,.undef])))))))))))))))))))))))))))))))))))))))):=by kernel_rfl
theorem MN:Told cfg Tryz.prog 15 Tryz.f15:=⟨by kernel_rfl,Tryz.func15,by kernel_rfl⟩
theorem MO (a0:Int) (a1:Bool) (a2:Bool) (g3:Bool) (n3:Nat) (c3:List D) (g4:Bool) (n4:Nat) (c4:List D) (g5:Bool) (n5:Nat) (c5:List D) (a6:Bool) (a7:Bool) (a8:Bool) (a9:Int) (g10:Bool) (nN:Nat) (rI:List D) (g11:Bool) (dE:Nat) (nO:List D) (g12:Bool) (fI:Nat) (dO:List D) (g13:Bool) (gX:Nat) (gh:List D) (g14:Bool) (kI:Nat) (gL:List D) (g15:Bool) (n15:Nat) (lj:List D) (a16:Int):aW pr cv J 15 Tryz.f15 [(.agg [(.int .i64 a0),(.bool a1),(.bool a2),(.sl (some g3) 1 n3 c3),(.sl (some g4) 1 n4 c4),(.sl (some g5) 1 n5 c5),(.bool a6),(.bool a7),(.bool a8),(.int .i64 a9),(.sl (some g10) 1 nN rI),(.sl (some g11) 1 dE nO),(.sl (some g12) 1 fI dO),(.sl (some g13) 1 gX gh),(.sl (some g14) 1 kI gL),(.sl (some g15) 1 n15 lj)]),(.int .i64 a16)]=
 let y1:Option (D × List D):=(some ((.int .i64 (-1)),[.undef,.undef]))
 (cv 64 [(.sl (some g3) 1 n3 c3),(.int .i64 a16)] (.int (fun ef=>(.done (br (pr.lt ef 0) y1 (cv 65 [(.agg [(.sl (some g4) 1 n4 c4),(.sl (some g5) 1 n5 c5),(.bool a6),(.bool a7),(.bool a8),(.int .i64 a9)]),(.int .i64 ef)] (.int (fun iD=>(.done (br (pr.lt iD 0) y1 (cv 66 [(.agg [(.sl (some g10) 1 nN rI),(.sl (some g11) 1 dE nO)]),(.int .i64 iD)] (.int (fun uK=>(.done (br (pr.lt uK 0) y1 (cv 67 [(.sl (some g12) 1 fI dO),(.int .i64 uK)] (.int (fun Ho=>(.done (br (pr.lt Ho 0) y1 (cv 68 [(.sl (some g13) 1 gX gh),(.int .i64 Ho)] (.int (fun qM=>(.done (br (pr.lt qM 0) y1 (cv 67 [(.sl (some g14) 1 kI gL),(.int .i64 qM)] (.int (fun wo=>(.done (br (pr.lt wo 0) y1 (cv 64 [(.sl (some g15) 1 n15 lj),(.int .i64 wo)] (.int (fun vx6=>(.done (br (pr.lt vx6 0) y1 (some ((.int .i64 vx6),[.undef,.undef]))))))))))))))))))))))))))))))))))))):=by kernel_rfl
end
def wq (xss:List (List Int)):Prop:=xss.length<=1048576/\∀ xs∈xss,xs.length<=1048576
structure dt (m:bn):Prop where
 aP:m.aP.length<=1048576
 bits:wq m.bits
structure fU (s:bf):Prop where
 a:s.a.length<=1048576
 b:s.b.length<=1048576
structure cz (n:ae):Prop where
 image:n.image.length<=1048576
 mt:dt n.mt
 cE:fU n.cE
 conn:n.conn.length<=1048576
 sync:wq n.sync
 bU:n.bU.length<=1048576
 wait:n.wait.length<=1048576
section
variable {x y:Rz} {R:Type} {u v:R}
theorem iT {g:Bool} {xss:List (List Int)} {i:Nat} (h:i < xss.length):br (ad.aN 1 (rows (some g) xss) i) u v=u:=by simp [ad,rows,br,aaf h]
theorem iU {g:Bool} {xss:List (List Int)} {i:Nat} (h:i < xss.length):ad.aG (rows (some g) xss) i=g:=by simp [ad,rows,aaf h,cG]
theorem iV {g:Option Bool} {xss:List (List Int)} {i:Nat} (h:i < xss.length):ad.aD (rows g xss) i=xss[i].length:=by simp [ad,rows,aaf h,cN]
theorem jx {g:Option Bool} {xss:List (List Int)} {i:Nat} (h:i < xss.length):ad.aF (rows g xss) i=ints xss[i]:=by simp [ad,rows,aaf h,cC]
theorem acJ {xss:List (List Int)} {i:Nat} (h:i < xss.length):br (ad.kL 1 (rows none xss) i) u v=u:=by simp [ad,rows,br,aaf h]
theorem afx {g:Option Bool} {xss:List (List Int)} (h:0 < xss.length):br (ad.ne (rows g xss)) u v=u:=by
 cases xss with
 | nil=>simp at h
 | cons _ _=>rfl
theorem Qw {xss:List (List Int)} {i:Nat} {ys:List Int}:List.set (rows none xss) i (.sl none 1 ys.length (ints ys))=rows none (xss.set i ys):=by simp [rows,aer]
theorem WB (n:Nat):fa n [.nil 1]=rows none (List.replicate n []):=by
 unfold fa
 induction n with
 | zero=>rfl
 | succ n ih=>simpa [abq,rows,sq,ints] using ih
theorem aaN {g:Option Bool} (hg:g≠some true) (xss:List (List Int)):ad.nl (rows g xss)=true:=oH (by
 intro d hd;obtain ⟨xs,_,rfl⟩:=aam.1 hd;have h1:cq (ints xs)=true:=gR xs;cases g with
 | none=>simpa [cg] using h1
 | some g=>cases g with
  | false=>simpa [cg] using h1
  | true=>exact absurd rfl hg)
theorem yZ (xss:List (List Int)):ad.nl (rows none xss)=true:=aaN (by simp) xss
end
section
variable (t:bO Rz)
theorem Ah (g:Bool) (xs:List Int) (hb:xs.length<=17592186044416):aX 71 [.sl (some g) 1 xs.length (ints xs)] t=feed t [.sl none 1 xs.length (ints xs)]:=bh (Zc g xs hb (by omega)) (by kernel_rfl) t
theorem L1 (g:Bool) (xs:List UInt8) (hb:xs.length<=140737488355328):aX 166 [.sl (some g) 1 xs.length (bytes xs)] t=feed t [.sl none 1 xs.length (bytes xs)]:=bh (Wu g xs hb (by omega)) (by kernel_rfl) t
theorem WC (g:Bool) (xs:List Bool) (hb:xs.length<=140737488355328):aX 74 [.sl (some g) 1 xs.length (bB xs)] t=feed t [.sl none 1 xs.length (bB xs)]:=bh (Wx g xs hb (by omega)) (by kernel_rfl) t
theorem wu (g h:Bool) (xs ys:List Int) (hb:xs.length < 9223372036854775807):aX 19 [.sl (some g) 1 xs.length (ints xs),.sl (some h) 1 ys.length (ints ys)] t=feed t [.bool (decide (xs=ys))]:=bh (Zd g h xs ys hb) (by kernel_rfl) t
theorem L2 (g h:Bool) (xs ys:List UInt8) (hb:xs.length < 9223372036854775807):aX 175 [.sl (some g) 1 xs.length (bytes xs),.sl (some h) 1 ys.length (bytes ys)] t=feed t [.bool (decide (xs=ys))]:=bh (Wv g h xs ys hb) (by kernel_rfl) t
theorem WD (g h:Bool) (xs ys:List Bool) (hb:xs.length < 9223372036854775807):aX 80 [.sl (some g) 1 xs.length (bB xs),.sl (some h) 1 ys.length (bB ys)] t=feed t [.bool (decide (xs=ys))]:=bh (Wy g h xs ys hb) (by kernel_rfl) t
theorem tc (g:Bool) (n:Nat) (c:List D) (left:Int) (h0:0<=left) (h1:left<=1048576) (hn:n<=140737488355328):aX 64 [.sl (some g) 1 n c,.int .i64 left] t=feed t [.int .i64 (eY n left)]:=bh (Ze g n c left h0 h1 hn) (by kernel_rfl) t
theorem Cf (g:Bool) (n:Nat) (c:List D) (left:Int) (h0:0<=left) (h1:left<=1048576) (hn:n<=140737488355328):aX 159 [.sl (some g) 1 n c,.int .i64 left] t=feed t [.int .i64 (eY n left)]:=bh (Ww g n c left h0 h1 hn) (by kernel_rfl) t
theorem L3 (g:Bool) (n:Nat) (c:List D) (left:Int) (h0:0<=left) (h1:left<=1048576) (hn:n<=140737488355328):aX 67 [.sl (some g) 1 n c,.int .i64 left] t=feed t [.int .i64 (eY n left)]:=bh (Wz g n c left h0 h1 hn) (by kernel_rfl) t
end
theorem cn {R:Type} (f:Int->bO R) (k:IntKind) (n:Int) (l:List D):feed (.int f) (.int k n::l)=feed (f n) l:=rfl
theorem aE {R:Type} (f:Bool->bO R) (b:Bool) (l:List D):feed (.bool f) (.bool b::l)=feed (f b) l:=rfl
theorem df {R:Type} (f:Nat->List D->bO R) (s n:Nat) (cs l:List D):feed (.sl f) (.sl none s n cs::l)=feed (f n cs) l:=rfl
theorem ao {R:Type} (x:Option R) (l:List D):feed (.done x) l=x:=rfl
theorem WE (g:Bool) (xss:List (List Int)) (hb:wq xss):Cm 75 [sR (some g) xss] (sR none xss,[.undef]):=by
 have hl:=hb.1;refine Cm.go JQ [.undef] 0 (j5 g xss.length (rows (some g) xss) (0:Nat) xss.length (rows none (List.replicate xss.length []))) ?_ fun J hJ=>?_
 ·refine WP.loop (H:=fun i=>j5 g xss.length (rows (some g) xss) (i:Nat) xss.length (rows none (xss.take i++List.replicate (xss.length - i) []))) (n:=xss.length) (fun _=>True) (fun i hi _ ih=>WP.go _ (ih trivial) fun J hJ=>?_) (fun _=>WP.fin fun J=>?_) 0 (aa9 _) trivial
  ·rw [uJ];have hx:xss[i].length<=1048576:=hb.2 _ (aan hi);simp (disch:=first | omega | (simp; done) | (simp; omega)) only [aK,bg,bo,aC,bc,bF,cV,iT,iU,iV,jx,Ah,df,ao,gR,acJ,afx,Qw,dp,Cc]
   rw [qm hi _ xss rfl hi];exact hJ
  ·rw [uJ];simp (disch:=omega) only [aK,bg,aC,bG,aaO,adT,abA,aah]
 ·rw [JR];simp (disch:=omega) only [aK,bg,aC,tb,Ae,WB];exact hJ
theorem WG (g h:Bool) (xs ys:List (List Int)) (hb:wq xs):Cm 81 [sR (some g) xs,sR (some h) ys] (.bool (decide (xs=ys)),[.undef,.undef]):=by
 have hlen:=hb.1;by_cases hl:xs.length=ys.length
 ·refine Cm.go yR [.undef,.undef] 0 (j6 g xs.length (rows (some g) xs) h ys.length (rows (some h) ys) (0:Nat)) ?_ fun J hJ=>?_
  ·refine WP.loop (H:=fun i=>j6 g xs.length (rows (some g) xs) h ys.length (rows (some h) ys) (i:Nat)) (n:=xs.length) (fun i=>xs.take i=ys.take i) (fun i hi hv ih=>?_) (fun hv=>WP.fin fun J=>?_) 0 (aa9 _) (by simp)
   ·have oC:i < ys.length:=by omega
    have hx:xs[i].length<=1048576:=hb.2 _ (aan hi);by_cases he:xs[i]=ys[i]
    ·refine WP.go _ (ih (by rw [<- aba hi,<- aba oC,hv,he])) fun J hJ=>?_
     rw [pw];simp (disch:=omega) only [aK,bg,bo,bQ,cb,aC,bc,bF,cV,iT,iU,iV,jx,wu,aE,ao,decide_eq_true he,dp];exact hJ
    ·refine WP.fin fun J=>?_;rw [pw];have cX:xs≠ys:=fun e=>he (by subst e; rfl)
     simp (disch:=omega) only [aK,bg,bo,bQ,cb,aC,bc,bF,cV,iT,iU,iV,jx,wu,aE,ao,decide_eq_false he,decide_eq_false cX]
   ·rw [pw];rw [aaO,hl,aaO] at hv;simp (disch:=omega) only [aK,bg,aC,bG,decide_eq_true hv]
  ·rw [yS];simp (disch:=omega) only [aK,bg,aC,bQ,cb,gA];exact hJ
 ·refine Cm.fin yR fun J=>?_;have cX:xs≠ys:=fun e=>hl (by rw [e])
  rw [yS];simp (disch:=omega) only [aK,bg,aC,bQ,cb,eA,decide_eq_false cX]
def iW (v:Int) (k:Int->Int):Int:=if v < 0 then -1 else k v
def ph {α:Type} (f:α->Int->Int):List α->Int->Int
 | [],l=>l
 | x::xs,l=>iW (f x l) (ph f xs)
theorem iX {n:Nat} {l:Int} (h:0<=l):eY n l<=l/\-1<=eY n l/\(0<=eY n l->(n:Int)<=l):=by unfold eY; split<;>omega
theorem o7 {v:Int} (k:Int->Int) (h:v < 0):iW v k=-1:=if_pos h
theorem o8 {v:Int} (k:Int->Int) (h:0<=v):iW v k=k v:=if_neg (by omega)
theorem Hp {α:Type} {f:α->Int->Int} {Q:α->Prop} (hf:∀ x l,0<=l->f x l<=l/\-1<=f x l/\(0<=f x l->l<=1048576->Q x)):∀ (xs:List α) (l:Int),0<=l->l<=1048576->ph f xs l<=l/\-1<=ph f xs l/\(0<=ph f xs l->∀ x∈xs,Q x)
 | [],l,h,_=>⟨Int.le_refl _,by show -1<=l; omega,fun _=>by simp⟩
 | x::xs,l,h,hm=>by
  obtain ⟨h1,h2,h3⟩:=hf x l h;simp only [ph];by_cases hv:f x l < 0
  ·rw [o7 _ hv];exact ⟨by omega,by omega,by omega⟩
  ·rw [o8 _ (by omega)]
   obtain ⟨g1,g2,g3⟩:=Hp hf xs (f x l) (by omega) (by omega)
   refine ⟨by omega,g2,fun hp y hy=>?_⟩
   rcases aap.1 hy with rfl | hy
   ·exact h3 (by omega) hm
   ·exact g3 hp y hy
def za (xss:List (List Int)) (l:Int):Int:=iW (eY xss.length l) (ph (fun xs l=>eY xs.length l) xss)
theorem Qx {xss:List (List Int)} {l:Int} (h:0<=l) (hm:l<=1048576):za xss l<=l/\-1<=za xss l/\(0<=za xss l->wq xss):=by
 obtain ⟨h1,h2,h3⟩:=iX (n:=xss.length) h;unfold za;by_cases hv:eY xss.length l < 0
 ·rw [o7 _ hv];exact ⟨by omega,by omega,by omega⟩
 ·rw [o8 _ (by omega)]
  obtain ⟨g1,g2,g3⟩:=Hp (f:=fun (xs:List Int) l=>eY xs.length l) (Q:=fun xs=>xs.length<=1048576) (fun xs l hl=>by
   obtain ⟨a1,a2,a3⟩:=iX (n:=xs.length) hl;exact ⟨a1,a2,fun hh hm=>by have:=a3 hh; omega⟩) xss (eY xss.length l) (by omega) (by omega)
  exact ⟨by omega,g2,fun hp=>⟨by have:=h3 (by omega); omega,g3 hp⟩⟩
theorem WH (g:Bool) (xss:List (List Int)) (left:Int) (h0:0<=left) (h1:left<=1048576) (hn:xss.length<=140737488355328) (hx:∀ xs∈xss,xs.length<=140737488355328):Cm 68 [sR (some g) xss,.int .i64 left] (.int .i64 (za xss left),[.undef,.undef]):=by
 have hlen:=iX (n:=xss.length) h0;have loop:∀ k i (l:Int),i+k=xss.length->0<=l->l<=1048576->WP 68 Tryz.f68 [.undef,.undef] 0 (mV g xss.length (rows (some g) xss) l (i:Nat)) (.int .i64 (ph (fun xs l=>eY xs.length l) (xss.drop i) l),[.undef,.undef]):=by
  intro k
  induction k with
  | zero=>
   intro i l hi hl hm;refine WP.fin fun J=>?_;rw [px,aeb (by omega)]
   simp (disch:=omega) only [aC,bG,ph]
  | succ k ih=>
   intro i l hi hl hm;have oC:i < xss.length:=by omega
   have hxi:=hx _ (aan oC);obtain ⟨a1,a2,a3⟩:=iX (n:=xss[i].length) hl;have e:ph (fun xs l=>eY xs.length l) (xss.drop i) l=iW (eY xss[i].length l) (ph (fun xs l=>eY xs.length l) (xss.drop (i+1))):=by
    rw [<- abM oC];rfl
   rw [e];by_cases hv:eY xss[i].length l < 0
   ·refine WP.fin fun J=>?_;rw [px,o7 _ hv];simp (disch:=omega) only [aK,bg,bo,aC,bc,bF,cV,iT,iU,iV,jx,tc,cn,ao]
   ·rw [o8 _ (by omega)]
    refine WP.go _ (ih (i+1) (eY xss[i].length l) (by omega) (by omega) (by omega)) fun J hJ=>?_
    rw [px];have lV:0<=eY xss[i].length l:=by omega
    simp (disch:=omega) only [aK,bg,bo,aC,bc,bF,cV,iT,iU,iV,jx,tc,cn,ao,bG,dp];exact hJ
 by_cases h:left < xss.length
 ·refine Cm.fin yT fun J=>?_;rw [yU,za,o7 _ (by unfold eY; rw [if_pos h]; omega)]
  simp (disch:=omega) only [aC,eX,bc]
 ·have e:eY xss.length left=left - xss.length:=if_neg h;rw [za,o8 _ (by omega),e]
  refine Cm.go yT [.undef,.undef] 0 _ (loop xss.length 0 (left - xss.length) (by omega) (by omega) (by omega)) fun J hJ=>?_
  rw [yU];simp (disch:=omega) only [aC,eX,bG];exact hJ
section
variable (t:bO Rz)
theorem L4 (g:Bool) (xss:List (List Int)) (hb:wq xss):aX 75 [.sl (some g) 1 xss.length (rows (some g) xss)] t=feed t [.sl none 1 xss.length (rows none xss)]:=bh (WE g xss hb) (by kernel_rfl) t
theorem L5 (g h:Bool) (xs ys:List (List Int)) (hb:wq xs):aX 81 [.sl (some g) 1 xs.length (rows (some g) xs),.sl (some h) 1 ys.length (rows (some h) ys)] t=feed t [.bool (decide (xs=ys))]:=bh (WG g h xs ys hb) (by kernel_rfl) t
theorem L6 (g:Bool) (xss:List (List Int)) (left:Int) (h0:0<=left) (h1:left<=1048576) (hn:xss.length<=140737488355328) (hx:∀ xs∈xss,xs.length<=140737488355328):aX 68 [.sl (some g) 1 xss.length (rows (some g) xss),.int .i64 left] t=feed t [.int .i64 (za xss left)]:=bh (WH g xss left h0 h1 hn hx) (by kernel_rfl) t
end
theorem Zf (g:Bool) (m:bn) (h:dt m):Cm 72 [.agg (cL (some g) m)] (.agg (cL none m),[.undef]):=by
 have h1:=h.aP;refine Cm.fin MD fun J=>?_;rw [ME];simp (disch:=first | omega | exact h.bits) only [Ah,L4,df,ao,gR,yZ,aK]
theorem WI (g:Bool) (s:bf) (h:fU s):Cm 73 [.agg (eH (some g) s)] (.agg (eH none s),[.undef]):=by
 have h1:=h.a;have h2:=h.b;refine Cm.fin JS fun J=>?_;rw [JT];simp (disch:=omega) only [L1,df,ao,eN,aK]
theorem Zg (g h:Bool) (m:bn) (ok:dt m):Cm 78 [.agg (cL (some g) m),.agg (cL (some h) m)] (.bool true,[.undef,.undef]):=by
 have h1:=ok.aP;refine Cm.fin MF fun J=>?_;rw [MG];simp (disch:=first | omega | exact ok.bits) only [wu,L5,aE,ao,decide_true,aK,bg,u6,beq_self_eq_true,gA]
theorem WJ (g h:Bool) (s:bf) (ok:fU s):Cm 79 [.agg (eH (some g) s),.agg (eH (some h) s)] (.bool true,[.undef,.undef]):=by
 have h1:=ok.a;have h2:=ok.b;refine Cm.fin JU fun J=>?_;rw [JV];simp (disch:=omega) only [L2,aE,ao,decide_true,aK,bg]
structure Qy (m:bn):Prop where
 aP:m.aP.length<=140737488355328
 bits:m.bits.length<=140737488355328
 bit:∀ xs∈m.bits,xs.length<=140737488355328
structure wv (n:ae):Prop where
 image:n.image.length<=140737488355328
 mt:Qy n.mt
 a:n.cE.a.length<=140737488355328
 b:n.cE.b.length<=140737488355328
 conn:n.conn.length<=140737488355328
 sync:n.sync.length<=140737488355328
 syn:∀ xs∈n.sync,xs.length<=140737488355328
 bU:n.bU.length<=140737488355328
 wait:n.wait.length<=140737488355328
def vu (m:bn) (l:Int):Int:=iW (eY m.aP.length l) fun l=>iW (za m.bits l) fun l=>l
def td (s:bf) (l:Int):Int:=iW (eY s.a.length l) fun l=>iW (eY s.b.length l) fun l=>l
def eE (n:ae) (l:Int):Int:=iW (eY n.image.length l) fun l=>iW (vu n.mt l) fun l=>iW (td n.cE l) fun l=>iW (eY n.conn.length l) fun l=>iW (za n.sync l) fun l=>iW (eY n.bU.length l) fun l=>iW (eY n.wait.length l) fun l=>l
theorem fx {v l:Int} {k:Int->Int} {Q Q':Prop} (hl:0<=l) (hv:v<=l/\-1<=v/\(0<=v->Q)) (hk:0<=v->k v<=v/\-1<=k v/\(0<=k v->Q')):iW v k<=l/\-1<=iW v k/\(0<=iW v k->Q/\Q'):=by
 unfold iW;split
 ·omega
 ·obtain ⟨a,b,c⟩:=hk (by omega)
  exact ⟨by omega,b,fun h=>⟨hv.2.2 (by omega),c h⟩⟩
theorem Cg {l:Int} (h:0<=l):l<=l/\-1<=l/\(0<=l->True):=⟨by omega,by omega,fun _=>trivial⟩
theorem nk {n:Nat} {l:Int} (h:0<=l) (hm:l<=1048576):eY n l<=l/\-1<=eY n l/\(0<=eY n l->n<=1048576):=by
 obtain ⟨a,b,c⟩:=iX (n:=n) h;exact ⟨a,b,fun hh=>by have:=c hh; omega⟩
theorem Hq {m:bn} {l:Int} (h:0<=l) (hm:l<=1048576):vu m l<=l/\-1<=vu m l/\(0<=vu m l->dt m):=by
 have a1:=nk (n:=m.aP.length) h hm;have:=fx (k:=fun l=>iW (za m.bits l) fun l=>l) h a1 fun h2=>fx h2 (Qx (xss:=m.bits) h2 (by omega)) fun h3=>Cg h3
 exact ⟨this.1,this.2.1,fun hh=>by obtain ⟨b1,b2,_⟩:=this.2.2 hh; exact ⟨b1,b2⟩⟩
theorem EV {s:bf} {l:Int} (h:0<=l) (hm:l<=1048576):td s l<=l/\-1<=td s l/\(0<=td s l->fU s):=by
 have a1:=nk (n:=s.a.length) h hm;have:=fx (k:=fun l=>iW (eY s.b.length l) fun l=>l) h a1 fun h2=>fx h2 (nk (n:=s.b.length) h2 (by omega)) fun h3=>Cg h3
 exact ⟨this.1,this.2.1,fun hh=>by obtain ⟨b1,b2,_⟩:=this.2.2 hh; exact ⟨b1,b2⟩⟩
theorem Up {n:ae} {l:Int} (h:0<=l) (hm:l<=1048576):eE n l<=l/\-1<=eE n l/\(0<=eE n l->cz n):=by
 have a1:=nk (n:=n.image.length) h hm;have a2:∀ {l:Int},0<=l->l<=1048576->_:=fun {l} h hm=>Hq (m:=n.mt) (l:=l) h hm;have a3:∀ {l:Int},0<=l->l<=1048576->_:=fun {l} h hm=>EV (s:=n.cE) (l:=l) h hm;have a4:∀ {l:Int},0<=l->l<=1048576->_:=fun {l} h hm=>nk (n:=n.conn.length) (l:=l) h hm;have a5:∀ {l:Int},0<=l->l<=1048576->_:=fun {l} h hm=>Qx (xss:=n.sync) (l:=l) h hm;have a6:∀ {l:Int},0<=l->l<=1048576->_:=fun {l} h hm=>nk (n:=n.bU.length) (l:=l) h hm;have a7:∀ {l:Int},0<=l->l<=1048576->_:=fun {l} h hm=>nk (n:=n.wait.length) (l:=l) h hm;have key:eE n l<=l/\-1<=eE n l/\(0<=eE n l->n.image.length<=1048576/\dt n.mt/\fU n.cE/\n.conn.length<=1048576/\wq n.sync/\n.bU.length<=1048576/\n.wait.length<=1048576/\True):=by
  unfold eE;refine fx h a1 fun h1=>?_;have k1:=a2 h1 (by omega)
  refine fx h1 k1 fun h2=>?_;have k2:=a3 h2 (by omega)
  refine fx h2 k2 fun h3=>?_;have k3:=a4 h3 (by omega)
  refine fx h3 k3 fun h4=>?_;have k4:=a5 h4 (by omega)
  refine fx h4 k4 fun h5=>?_;have k5:=a6 h5 (by omega)
  refine fx h5 k5 fun h6=>?_;exact fx h6 (a7 h6 (by omega)) fun h7=>Cg h7
 refine ⟨key.1,key.2.1,fun hh=>?_⟩;obtain ⟨b1,b2,b3,b4,b5,b6,b7,_⟩:=key.2.2 hh;exact ⟨b1,b2,b3,b4,b5,b6,b7⟩
theorem jy {f:Int->Option Rz} {g:Int->Int} {outs:List D} {v:Int} (h:0<=v->f v=some (.int .i64 (g v),outs)):br (ad.lt v 0) (some (.int .i64 (-1),outs)) (f v)=some (.int .i64 (iW v g),outs):=by
 by_cases hv:v < 0
 ·rw [bc hv,o7 _ hv]
 ·rw [bG (by omega),o8 _ (by omega),h (by omega)]
theorem Zh (g:Bool) (m:bn) (left:Int) (h0:0<=left) (h1:left<=1048576) (ln:Qy m):Cm 65 [.agg (cL (some g) m),.int .i64 left] (.int .i64 (vu m left),[.undef,.undef]):=by
 refine Cm.fin MH fun J=>?_;rw [MI];have l1:=ln.aP;have a1:=iX (n:=m.aP.length) h0;simp (disch:=omega) only [tc,cn,ao];refine jy (f:=fun v=>aX 68 _ _) fun p1=>?_;simp (disch:=first | omega | exact ln.bits | exact ln.bit) only [L6,cn,ao]
 exact jy (f:=fun v=>some (.int .i64 v,[.undef,.undef])) fun _=>rfl
theorem WK (g:Bool) (s:bf) (left:Int) (h0:0<=left) (h1:left<=1048576) (l1:s.a.length<=140737488355328) (l2:s.b.length<=140737488355328):Cm 66 [.agg (eH (some g) s),.int .i64 left] (.int .i64 (td s left),[.undef,.undef]):=by
 refine Cm.fin JW fun J=>?_;rw [JX];have a1:=iX (n:=s.a.length) h0;simp (disch:=omega) only [Cf,cn,ao];refine jy (f:=fun v=>aX 159 _ _) fun p1=>?_;simp (disch:=omega) only [Cf,cn,ao];exact jy (f:=fun v=>some (.int .i64 v,[.undef,.undef])) fun _=>rfl
section
variable (t:bO Rz)
theorem Zi (g:Bool) (m:bn) (h:dt m):aX 72 [.agg (cL (some g) m)] t=feed t (cL none m):=bh (Zf g m h) (by kernel_rfl) t
theorem WL (g:Bool) (s:bf) (h:fU s):aX 73 [.agg (eH (some g) s)] t=feed t (eH none s):=bh (WI g s h) (by kernel_rfl) t
theorem Zj (g h:Bool) (m:bn) (ok:dt m):aX 78 [.agg (cL (some g) m),.agg (cL (some h) m)] t=feed t [.bool true]:=bh (Zg g h m ok) (by kernel_rfl) t
theorem WM (g h:Bool) (s:bf) (ok:fU s):aX 79 [.agg (eH (some g) s),.agg (eH (some h) s)] t=feed t [.bool true]:=bh (WJ g h s ok) (by kernel_rfl) t
theorem Zk (g:Bool) (m:bn) (left:Int) (h0:0<=left) (h1:left<=1048576) (ln:Qy m):aX 65 [.agg (cL (some g) m),.int .i64 left] t=feed t [.int .i64 (vu m left)]:=bh (Zh g m left h0 h1 ln) (by kernel_rfl) t
theorem WN (g:Bool) (s:bf) (left:Int) (h0:0<=left) (h1:left<=1048576) (l1:s.a.length<=140737488355328) (l2:s.b.length<=140737488355328):aX 66 [.agg (eH (some g) s),.int .i64 left] t=feed t [.int .i64 (td s left)]:=bh (WK g s left h0 h1 l1 l2) (by kernel_rfl) t
end
theorem Zl (g:Bool) (n:ae) (h:cz n):Cm 17 [.agg (U (some g) n)] (.agg (U none n),[.undef]):=by
 have h1:=h.image;have h2:=h.conn;have h3:=h.bU;have h4:=h.wait;refine Cm.fin MJ fun J=>?_;rw [MK];simp (disch:=first | omega | exact h.mt | exact h.cE | exact h.sync) only [Ah,L4,WC,Zi,WL,df,aE,cn,ao,gR,yZ,eN,DI,aK]
theorem Zm (g h:Bool) (n:ae) (ok:cz n):Cm 20 [.agg (U (some g) n),.agg (U (some h) n)] (.bool true,[.undef,.undef]):=by
 have h1:=ok.image;have h2:=ok.conn;have h3:=ok.bU;have h4:=ok.wait;refine Cm.fin ML fun J=>?_;rw [MM];simp (disch:=first | omega | exact ok.mt | exact ok.cE | exact ok.sync) only [wu,L5,WD,Zj,WM,aE,ao,decide_true,aK,bg,u6,beq_self_eq_true,gA]
theorem Zn (g:Bool) (n:ae) (left:Int) (h0:0<=left) (h1:left<=1048576) (ln:wv n):Cm 15 [.agg (U (some g) n),.int .i64 left] (.int .i64 (eE n left),[.undef,.undef]):=by
 refine Cm.fin MN fun J=>?_;rw [MO];have l1:=ln.image;have l2:=ln.conn;have l3:=ln.bU;have l4:=ln.wait;have a1:=iX (n:=n.image.length) h0;simp (disch:=omega) only [tc,cn,ao];refine jy (f:=fun v=>aX 65 _ _) fun p1=>?_;have a2:=Hq (m:=n.mt) p1 (by omega)
 simp (disch:=first | omega | exact ln.mt) only [Zk,cn,ao]
 refine jy (f:=fun v=>aX 66 _ _) fun p2=>?_;have a3:=EV (s:=n.cE) p2 (by omega)
 simp (disch:=first | omega | exact ln.a | exact ln.b) only [WN,cn,ao]
 refine jy (f:=fun v=>aX 67 _ _) fun p3=>?_;have a4:=iX (n:=n.conn.length) p3;simp (disch:=omega) only [L3,cn,ao];refine jy (f:=fun v=>aX 68 _ _) fun p4=>?_;have a5:=Qx (xss:=n.sync) p4 (by omega)
 simp (disch:=first | omega | exact ln.sync | exact ln.syn) only [L6,cn,ao]
 refine jy (f:=fun v=>aX 67 _ _) fun p5=>?_;have a6:=iX (n:=n.bU.length) p5;simp (disch:=omega) only [L3,cn,ao];refine jy (f:=fun v=>aX 64 _ _) fun p6=>?_;simp (disch:=omega) only [tc,cn,ao];exact jy (f:=fun v=>some (.int .i64 v,[.undef,.undef])) fun _=>rfl
set_option maxRecDepth 100000
section
variable (pr:dC) (cv:Cv Rz) (J:Nat->St->Option Rz)
theorem RC:Told cfg Tryz.prog 87 Tryz.f87:=⟨by kernel_rfl,Tryz.func87,by kernel_rfl⟩
theorem RD (a0:Int) (a1:Int) (a2:Int):aW pr cv J 87 Tryz.f87 [(.int .i64 a0),(.int .i64 a1),(.int .i64 a2)]=
 (br (pr.le a1 a0) (some ((.bool (pr.le a0 a2)),[.undef,.undef,.undef])) (some ((.bool false),[.undef,.undef,.undef]))):=by kernel_rfl
theorem RE:Told cfg Tryz.prog 105 Tryz.f105:=⟨by kernel_rfl,Tryz.func105,by kernel_rfl⟩
theorem RF (a0:Int) (a1:Int) (a2:Int):aW pr cv J 105 Tryz.f105 [(.int .i64 a0),(.int .i64 a1),(.int .i64 a2)]=
 (br (pr.le a1 a0) (some ((.bool (pr.le a0 a2)),[.undef,.undef,.undef])) (some ((.bool false),[.undef,.undef,.undef]))):=by kernel_rfl
end
theorem EW (a b c:Int):Cm 105 [.int .i64 a,.int .i64 b,.int .i64 c] (.bool (decide (b<=a/\a<=c)),[.undef,.undef,.undef]):=by
 refine Cm.fin RE fun J=>?_;rw [RF];by_cases h:b<=a
 ·rw [xJ h,Ad];simp only [h,true_and]
 ·simp (disch:=omega) only [nj,h,false_and,decide_false]
theorem afy (a b c:Int):Cm 87 [.int .i64 a,.int .i64 b,.int .i64 c] (.bool (decide (b<=a/\a<=c)),[.undef,.undef,.undef]):=by
 refine Cm.fin RC fun J=>?_;rw [RD];by_cases h:b<=a
 ·rw [xJ h,Ad];simp only [h,true_and]
 ·simp (disch:=omega) only [nj,h,false_and,decide_false]
section
variable (t:bO Rz)
theorem fo (a b c:Int):aX 105 [.int .i64 a,.int .i64 b,.int .i64 c] t=feed t [.bool (decide (b<=a/\a<=c))]:=bh (EW a b c) (by kernel_rfl) t
theorem jz (a b c:Int):aX 87 [.int .i64 a,.int .i64 b,.int .i64 c] t=feed t [.bool (decide (b<=a/\a<=c))]:=bh (afy a b c) (by kernel_rfl) t
end
set_option maxRecDepth 100000
def nG (xs:List Int):Prop:=∀ x∈xs,qk x=true
section
variable (t:bO Rz)
theorem Qz (g:Bool) (n:ae) (h:cz n):aX 17 [.agg (U (some g) n)] t=feed t [enc .node n]:=bN (r:=enc .node n) (s:=.ty .node) (ss:=[.undef]) (Zl g n h) (by kernel_rfl) (av _ _) (by simp only [af,aJ,aj,tC]) (au _ _) rfl t
theorem QA (g h:Bool) (n:ae) (ok:cz n):aX 20 [.agg (U (some g) n),.agg (U (some h) n)] t=feed t [.bool true]:=bh (Zm g h n ok) (by kernel_rfl) t
theorem FR (g:Bool) (n:ae) (left:Int) (h0:0<=left) (h1:left<=1048576) (ln:wv n):aX 15 [.agg (U (some g) n),.int .i64 left] t=feed t [.int .i64 (eE n left)]:=bh (Zn g n left h0 h1 ln) (by kernel_rfl) t
end
set_option maxRecDepth 100000
theorem qN {n:Int} (h:(Lit.int .i64 n).wf=true):qk n=true:=by
 simp [Lit.wf,IntKind.min,IntKind.max,IntKind.bits,IntKind.signed] at h;rw [Af];omega
abbrev SP:Sh:=.sl 8 (.int .i64)
abbrev sh8:Sh:=.sl 1 (.int .u8)
abbrev shB:Sh:=.sl 1 .bool
abbrev shR:Sh:=.sl 24 (.sl 8 (.int .i64))
abbrev afB:Sh:=.ag [SP,shR,.bool,.bool,.bool,.int .i64]
abbrev acK:Sh:=.ag [sh8,sh8]
abbrev WO:Sh:=.ag [.int .i64,.bool,.bool,SP,afB,acK,shB,shR,shB,SP]
theorem QB {ds:List D} (h:WT SP ds):∃ xs,ds=[sI (some false) xs]/\xs.length<=17592186044416/\nG xs:=by
 obtain ⟨es,rfl,he,hx⟩:=h;have key:∀ es:List (List D),(∀ x∈es,WT (.int .i64) x)->∃ xs,es.flatten=ints xs/\xs.length=es.length/\nG xs:=by
  intro es
  induction es with
  | nil=>intro _; exact ⟨[],rfl,rfl,by simp [nG]⟩
  | cons e es ih=>
   intro h;obtain ⟨n,rfl,hn⟩:=h e (by simp)
   obtain ⟨xs,h1,h2,h3⟩:=ih (fun x hx=>h x (by simp [hx]))
   refine ⟨n::xs,by rw [abB,h1]; rfl,by simp [h2],fun x hx=>?_⟩
   rcases aap.1 hx with rfl | hx
   ·exact qN hn
   ·exact h3 x hx
 obtain ⟨xs,h1,h2,h3⟩:=key es hx;refine ⟨xs,by rw [h1,<- h2]; rfl,?_,h3⟩
 have:reachBytes=140737488351232:=rfl;omega
theorem Zo {ds:List D} (h:WT sh8 ds):∃ xs,ds=[s8 (some false) xs]/\xs.length<=140737488351232:=by
 obtain ⟨es,rfl,he,hx⟩:=h;have key:∀ es:List (List D),(∀ x∈es,WT (.int .u8) x)->∃ xs,es.flatten=bytes xs/\xs.length=es.length:=by
  intro es
  induction es with
  | nil=>intro _; exact ⟨[],rfl,rfl⟩
  | cons e es ih=>
   intro h;obtain ⟨n,rfl,hn⟩:=h e (by simp)
   obtain ⟨xs,h1,h2⟩:=ih (fun x hx=>h x (by simp [hx]))
   simp [Lit.wf,IntKind.min,IntKind.max,IntKind.bits,IntKind.signed] at hn;refine ⟨UInt8.ofNat n.toNat::xs,?_,by simp [h2]⟩
   rw [abB,h1];have:((UInt8.ofNat n.toNat).toNat:Int)=n:=by simp only [UInt8.toNat_ofNat']; omega
   simp only [bytes,aaM,dP,this];rfl
 obtain ⟨xs,h1,h2⟩:=key es hx;refine ⟨xs,by rw [h1,<- h2]; rfl,?_⟩
 have:reachBytes=140737488351232:=rfl;omega
theorem afC {ds:List D} (h:WT shB ds):∃ xs,ds=[sB (some false) xs]/\xs.length<=140737488351232:=by
 obtain ⟨es,rfl,he,hx⟩:=h;have key:∀ es:List (List D),(∀ x∈es,WT .bool x)->∃ xs,es.flatten=bB xs/\xs.length=es.length:=by
  intro es
  induction es with
  | nil=>intro _; exact ⟨[],rfl,rfl⟩
  | cons e es ih=>
   intro h;obtain ⟨n,rfl⟩:=h e (by simp)
   obtain ⟨xs,h1,h2⟩:=ih (fun x hx=>h x (by simp [hx]))
   exact ⟨n::xs,by rw [abB,h1]; rfl,by simp [h2]⟩
 obtain ⟨xs,h1,h2⟩:=key es hx;refine ⟨xs,by rw [h1,<- h2]; rfl,?_⟩
 have:reachBytes=140737488351232:=rfl;omega
theorem afD {ds:List D} (h:WT shR ds):∃ xs,ds=[sR (some false) xs]/\xs.length<=140737488355328/\(∀ x∈xs,x.length<=140737488355328)/\∀ x∈xs,nG x:=by
 obtain ⟨es,rfl,he,hx⟩:=h;have key:∀ es:List (List D),(∀ x∈es,WT SP x)->∃ xs,es.flatten=rows (some false) xs/\xs.length=es.length/\(∀ x∈xs,x.length<=140737488355328)/\∀ x∈xs,nG x:=by
  intro es
  induction es with
  | nil=>intro _; exact ⟨[],rfl,rfl,by simp,by simp⟩
  | cons e es ih=>
   intro h;obtain ⟨n,rfl,hn,h4⟩:=QB (h e (by simp))
   obtain ⟨xs,h1,h2,h3,h5⟩:=ih (fun x hx=>h x (by simp [hx]))
   refine ⟨n::xs,by rw [abB,h1]; rfl,by simp [h2],fun x hx=>?_,fun x hx=>?_⟩
   ·rcases aap.1 hx with rfl | hx
    ·omega
    ·exact h3 x hx
   ·rcases aap.1 hx with rfl | hx
    ·exact h4
    ·exact h5 x hx
 obtain ⟨xs,h1,h2,h3,h4⟩:=key es hx;refine ⟨xs,by rw [h1,<- h2]; rfl,?_,h3,h4⟩
 have:reachBytes=140737488351232:=rfl;omega
structure WQ (n:ae):Prop where
 id:qk n.id=true
 last:qk n.mt.last=true
 image:nG n.image
 aP:nG n.mt.aP
 bits:∀ x∈n.mt.bits,nG x
 sync:∀ x∈n.sync,nG x
 wait:nG n.wait
theorem acL {ds:List D} (h:WT WO ds):∃ n:ae,ds=U (some false) n/\wv n/\WQ n:=by
 obtain ⟨_,_,rfl,⟨id,rfl,WR⟩,_,_,rfl,⟨up,rfl⟩,_,_,rfl,⟨cQ,rfl⟩,_,_,rfl,ajA,_,_,rfl,hmt,_,_,rfl,gK,_,_,rfl,ahb,_,_,rfl,ahc,_,_,rfl,ajB,_,_,rfl,ahd,rfl⟩:=h;obtain ⟨image,rfl,l1,i1⟩:=QB ajA;obtain ⟨_,_,rfl,hg,_,_,rfl,hb,_,_,rfl,⟨dk,rfl⟩,_,_,rfl,⟨bY,rfl⟩,_,_,rfl,⟨held,rfl⟩,_,_,rfl,⟨last,rfl,ahe⟩,rfl⟩:=hmt;obtain ⟨aP,rfl,l2,i2⟩:=QB hg;obtain ⟨bits,rfl,l3,l3',i3⟩:=afD hb;obtain ⟨_,_,rfl,ha,_,_,rfl,fH,rfl⟩:=gK;obtain ⟨a,rfl,l4⟩:=Zo ha;obtain ⟨b,rfl,l5⟩:=Zo fH;obtain ⟨conn,rfl,l6⟩:=afC ahb;obtain ⟨sync,rfl,l7,l7',i7⟩:=afD ahc;obtain ⟨bU,rfl,l8⟩:=afC ajB;obtain ⟨wait,rfl,l9,i9⟩:=QB ahd;refine ⟨⟨id,up,cQ,image,⟨aP,bits,dk,bY,held,last⟩,⟨a,b⟩,conn,sync,bU,wait⟩,rfl,⟨?_,⟨?_,l3,l3'⟩,?_,?_,?_,l7,l7',?_,?_⟩,⟨qN WR,qN ahe,i1,i2,i3,i7,i9⟩⟩<;>simp only<;>omega
theorem fJ (b:Bool):∀ xs:List Int,cI b (ints xs)=ints xs
 | []=>rfl
 | x::xs=>by
  have ih:=fJ b xs;simp only [ints] at ih;simp only [ints,aaM,cI,fC,ih]
theorem gB (b:Bool):∀ xs:List UInt8,cI b (bytes xs)=bytes xs
 | []=>rfl
 | x::xs=>by
  have ih:=gB b xs;simp only [bytes] at ih;simp only [bytes,aaM,cI,dP,fC,ih]
theorem jJ (b:Bool):∀ xs:List Bool,cI b (bB xs)=bB xs
 | []=>rfl
 | x::xs=>by
  have ih:=jJ b xs;simp only [bB] at ih;simp only [bB,aaM,cI,fC,ih]
theorem iy (b:Bool):∀ xs:List (List Int),cI b (rows none xs)=rows (some b) xs
 | []=>rfl
 | x::xs=>by
  have ih:=iy b xs;simp only [rows] at ih;simp only [rows,aaM,cI,fC,ih,fJ]
end Go.Proofs.YtckkpgcnhdllgaaGreat
