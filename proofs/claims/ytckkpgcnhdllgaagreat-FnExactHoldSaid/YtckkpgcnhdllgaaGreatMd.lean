/- What the proof of FnExactHold stands on, part 4: an abstract machine on plain data, its soundness, and the contracts of functions. -/
import Derived.Shelf.Spec.SlicesInsert
import Derived.Shelf.Spec.SlicesInsertGrow
import Derived.Test.YtckkpgcnhdllgaaGreatChecked
import Derived.KernelRfl
import Derived.SizedLaws
import Derived.ChangeOld
import Derived.Test.YtckkpgcnhdllgaaGreatMc
set_option linter.all false
set_option linter.unusedSimpArgs false
set_option linter.unusedVariables false
set_option linter.unnecessarySimpa false
set_option linter.unusedSectionVars false
namespace Go.Proofs.YtckkpgcnhdllgaaGreat
open Go.RowKit Go.Shelf Go.Lib
def SE:List D->Option (D × List D)
 | [.sl none 1 n cs,.int .i64 i,.sl none 1 1 [x]]=>if cs.all dY=true/\dY x=true/\cs.length=n/\0<=i/\i<=n/\(n+1)*8<=140737488355328 then some (.sl none 1 (n+1) (cs.take i.toNat++x::cs.drop i.toNat),[.undef,.undef,.undef]) else none
 | _=>none
theorem Dz {w:World} {X:Bool->Nat->Prop}:∀ {ts:List T},bC w X ts->(aX ts).all dY=true->ah ts=[]/\(∀ u∈ax ts,u.oneCell'=true)/\∀ w' X',bC w' X' ts
 | [],_,_=>⟨rfl,by simp [ax],fun _ _=>trivial⟩
 | t::ts,h,hf=>by
  simp only [aX,TO,wX] at hf;simp only [bC] at h;obtain ⟨a1,a2,a3⟩:=Dz h.2 hf.2;cases t with
  | own s n cap a xs=>simp [T.er,dY] at hf
  | v d u=>
   have hd:=hf.1;have hu:=h.1;simp only [bA] at hu;simp only [T.er] at hd;refine ⟨by simp [ah,T.ft,a1],fun y hy=>?_,fun w' X'=>⟨?_,a3 w' X'⟩⟩
   ·simp only [ax,T.val,acK] at hy;rcases hy with rfl | hy
    ·cases hl:bH d<;>rw [hl] at hd hu<;>simp [dY] at hd<;>simp only [Ext] at hu<;>subst hu<;>rfl
    ·exact a2 _ hy
   ·simp only [bA];cases hl:bH d<;>rw [hl] at hd hu<;>simp [dY] at hd<;>exact hu
theorem SF (ts:List T) (i:Nat):ax (ts.take i)=(ax ts).take i:=by rw [cz,cz,ag6]
theorem SG (ts:List T) (i:Nat):ax (ts.drop i)=(ax ts).drop i:=by rw [cz,cz,ag5]
section
variable {P:Program} {ρ:Ren}
theorem U8 (L:Lays2.n21 P ρ) (hf:kh P (ρ.f 21)) {own:List Bool} (hn:own=[true,false,true]) {ds:List D} {r:D} {outs:List D} (h:SE ds=some (r,outs)):
  kh P (ρ.f 21)/\∀ (w:World) (Y:Nat->Prop) (us:Array Value) (az:List Arg),jG w Y own ds us.toList az->dw r=true->(∀ o∈outs,dw o=true)->
   Calls P (ρ.f 21) us w fun e w'=>∃ v,e=.returned v/\fp w w' Y own az r outs v:=by
 subst hn;refine ⟨hf,fun w Y us az hp _ _=>?_⟩;unfold SE at h;split at h
 case h_2=>simp at h
 rename_i n cs i x;split at h
 case isFalse=>simp at h
 rename_i hc;obtain ⟨pw,hx,hlen,hi0,lA,R8⟩:=hc;simp only [mN,sF] at h;obtain ⟨rfl,rfl⟩:=h;obtain ⟨u1,E4,a1,z1,e1,rfl,h1,u2,us2,a2,z2,rfl,rfl,h2,u3,us3,a3,z3,rfl,rfl,h3,rfl,rfl⟩:=hp.args;obtain ⟨g1,t1,p1,q1,rfl⟩:=h1;obtain ⟨rfl,h2⟩:=h2;obtain ⟨g3,t3,p3,q3,rfl⟩:=h3;obtain ⟨cap,xB,ts,rfl,rfl⟩:=uM q1.symm;obtain ⟨vd,SI,kg,rfl,q4⟩:=uM q3.symm;have e2:u2=.int .i64 i:=h2 [];subst e2;obtain ⟨a1,b1⟩:=a1;obtain ⟨a3,b3⟩:=a3;simp only at g1 p1 g3 p3;subst g1 p1 g3 p3;obtain ⟨m,rfl⟩:∃ m:Nat,i=m:=⟨i.toNat,by omega⟩
 rw [Int.toNat_natCast];have qD:=hp.sat _ agE;have hs3:=hp.sat (none,[.own 1 1 vd SI kg]) (by simp)
 have hF:bq [((none:Option Nat),[T.own 1 n cap xB ts]),(none,[]),(none,[T.own 1 1 vd SI kg])]=fC xB++ah ts++(fC SI++ah kg):=by
  simp [bq,tZ,ah,T.ft]
 have eR:=hp.nd;have cK:=hp.lt;rw [hF] at eR cK;simp only [bC,bA,and_true] at qD hs3;obtain ⟨⟨k1,ZS⟩,k2,k3,k4⟩:=qD;obtain ⟨⟨l1,l1'⟩,l2,l3,l4⟩:=hs3;have ahD:(aX kg).all dY=true:=by rw [<- q4]; simpa using hx
 obtain ⟨f1,o1,s1⟩:=Dz k4 pw;obtain ⟨f3,o3,s3⟩:=Dz l4 ahD;rw [f1,f3] at eR cK;have U9:(ax ts).length=n:=by rw [bK,k2,Nat.mul_one]
 have DA:(ax kg).length=1:=by rw [bK,l2]
 cases SI with
 | none=>simp only at l3; omega
 | some p3=>
 obtain ⟨vb,wP⟩:=p3;simp only [fC,acg] at eR cK;simp only at l3;obtain ⟨c3,ev,fz3,m1,m2,m3,m4⟩:=l3;have Cs:∀ j v,(ax kg)[j]?=some v->w.cell? ⟨vb,wP+j,none⟩=some v:=fun j v hj=>mo ⟨c3,ev,fz3,m1,m2,m3,m4⟩ hj;have oG:∀ {b' off' cap':Nat} {w':World},lx w' b' off' (cap'*1) (ax (ts.take m++(kg++ts.drop m)))->n+1<=cap'->cap'<=9223372036854775807->b' < w'.heap.size->(b'∈fC xB∨w.heap.size<=b')->w.heap.size<=w'.heap.size->(∀ k,k < w.heap.size->k∉fC xB->w'.heap[k]?=w.heap[k]?)->w'.os=w.os->w'.tape=w.tape->w'.output=w.output->
   fp w w' Y [true,false,true] [((none:Option Nat),[T.own 1 n cap xB ts]),(none,[]),(none,[T.own 1 1 vd (some (vb,wP)) kg])] (.sl none 1 (n+1) ((aX ts).take m++x::(aX ts).drop m)) [.undef,.undef,.undef] (.slice (some ⟨b',off',none⟩) (n+1) cap'):=by
  intro b' off' cap' w' hb UI Jt wa hbw cI hold me qx rM;have her:aX (ts.take m++(kg++ts.drop m))=(aX ts).take m++x::(aX ts).drop m:=by
   rw [pA,pA,vS,vR,<- q4];rfl
  have eG:ah (ts.take m++(kg++ts.drop m))=[]:=by
   have key:∀ l:List T,ah l=[]->(∀ j,ah (l.take j)=[])/\∀ j,ah (l.drop j)=[]:=by
    intro l hl;have:=aY (l.take 0) l;refine ⟨fun j=>?_,fun j=>?_⟩
    ·have:=aY (l.take j) (l.drop j);rw [agH,hl] at this;exact (List.append_eq_nil_iff.1 this.symm).1
    ·have:=aY (l.take j) (l.drop j);rw [agH,hl] at this;exact (List.append_eq_nil_iff.1 this.symm).2
   rw [aY,aY,f3,(key ts f1).1,(key ts f1).2];rfl
  have du:∀ w' X',bC w' X' (ts.take m++(kg++ts.drop m)):=fun w' X'=>by
   have hs:=s1 w' X';rw [bY] at hs ⊢;have ri:=s3 w' X';rw [bY] at ri;intro t ht;rcases sE.1 ht with ht | ht
   ·exact hs _ (agN ht)
   ·rcases sE.1 ht with ht | ht
    ·exact ri _ ht
    ·exact hs _ (List.mem_of_mem_drop ht)
  have hl:(ts.take m++(kg++ts.drop m)).length=(n+1)*1:=by
   rw [aap,aap,acG,af1,l2,k2];omega
  have UH:bq [((none:Option Nat),[T.own 1 n cap xB ts]),(none,[]),(none,[T.own 1 1 vd (some (vb,wP)) kg])]=fC xB++ah ts++([vb]++ah kg):=hF;refine ⟨cI,fun k hk Ni=>hold k hk fun hm=>Ni (by rw [UH]; simp [hm]),me,qx,rM,[.own 1 (n+1) cap' (some (b',off')) (ts.take m++(kg++ts.drop m))],[(none,[]),(none,[]),(none,[])],?_,?_,?_,?_,?_,?_⟩
  ·exact ⟨_,rfl,by simp only [T.er]; rw [her],rfl⟩
  ·refine ⟨_,_,_,_,rfl,rfl,⟨rfl,rfl,.inl ⟨rfl,fun s n cs e=>by simp at e⟩⟩,_,_,_,_,rfl,rfl,rfl,_,_,_,_,rfl,rfl,⟨rfl,rfl,.inl ⟨rfl,fun s n cs e=>by simp at e⟩⟩,rfl,rfl⟩
  ·simp [ah,T.ft,fC,eG,bq,tZ]
  ·intro k hk;simp only [ah,T.ft,fC,eG,bq,tZ,Option.toList,acg,adU] at hk;subst hk;refine ⟨wa,hbw.imp (fun hm=>?_) id⟩;rw [UH];simp [hm]
  ·simp only [bC,bA,and_true];exact ⟨⟨UI,Jt⟩,hl,hb,du _ _⟩
  ·intro a ha;simp only [acK,List.not_mem_nil,or_false] at ha;rcases ha with rfl | rfl | rfl<;>trivial
 have wJ:ax (ts.take m++(kg++ts.drop m))=(ax ts).take m++(ax kg++(ax ts).drop m):=by rw [sH,sH,SF,SG]
 rw [wJ] at oG;have hu:us=#[tK xB n cap,.int .i64 m,.slice (some ⟨vb,wP,none⟩) 1 vd]:=by
  rw [<- adz (xs:=us),e1];rfl
 rw [hu];have hfa:∀ o,o<=c3.size->w.frozen? ⟨vb,o,none⟩=false:=fun o ho=>by
  have:=m2 o ho;simp only [World.frozen?,m1]
  simpa using this
 have g1:=grownCap_ge w (n+1) cap (ρ.t 3);have g2:=grownCap_le_maxLen w (n+1) cap (ρ.t 3) (by unfold maxLen; omega)
 unfold maxLen at g2;have hz:(Builtin.zeroCells (Value.int .i64 0).cells (grownCap w (n+1) cap (ρ.t 3) - (n+1))).size=grownCap w (n+1) cap (ρ.t 3) - (n+1):=by rw [size_zeroCells]; exact Nat.mul_one _
 have ahE:∀ base:Option Addr,(base=none->n=0)->(∀ a,base=some a->∀ j v,(ax ts)[j]?=some v->w.cell? (a.add j)=some v)->¬n+1<=cap->m=n->
   Calls P (ρ.f 21) #[.slice base n cap,.int .i64 m,.slice (some ⟨vb,wP,none⟩) 1 vd] w fun e w'=>∃ v,e=.returned v/\fp w w' Y [true,false,true] [((none:Option Nat),[T.own 1 n cap xB ts]),(none,[]),(none,[T.own 1 1 vd (some (vb,wP)) kg])] (.sl none 1 (n+1) ((aX ts).take m++x::(aX ts).drop m)) [.undef,.undef,.undef] v:=by
  intro base vY vU sq Va;subst Va;refine (Any2.slices_Insert_int_end_grow L base m cap vb wP 1 vd (ax ts) (ax kg) w (by omega) k1 (by omega) R8 U9 DA vY vU Cs o3).mono fun e w' hh=>?_
  obtain ⟨rfl,rfl⟩:=hh;have hG:=(Grown.drew w).trans (Grown.alloc w.drew (.cells ((ax ts++ax kg).toArray++Builtin.zeroCells (Value.int .i64 0).cells (grownCap w (m+1) cap (ρ.t 3) - (m+1))) (ρ.t 3)));refine ⟨_,rfl,oG (jy w.drew _ _ ?_ (fun j u hj=>?_)) g1 g2 (by rw [iz]; exact Nat.lt_succ_self _) (.inr (acD _)) hG.sz (fun k hk _=>hG.bB k hk) hG.os hG.tape hG.out⟩
  ·rw [agK,hz,agL,aap,U9,DA];omega
  ·rw [aek (by omega),List.drop_eq_nil_of_le (by omega),acg] at hj
   have Ul:=(aaa.1 hj).1;rw [agh (by simpa using Ul)]
   simpa using hj
 by_cases sq:n+1<=cap
 ·cases xB with
  | none=>simp only at k3; omega
  | some p=>
  obtain ⟨b,off⟩:=p;simp only at k3;have ec:∀ j v,(ax ts)[j]?=some v->w.cell? ⟨b,off+j,none⟩=some v:=fun j v hj=>mo k3 hj;obtain ⟨c,ce,fz,r1,r2,r3,r4⟩:=k3;have hvb:vb≠b:=by
   intro e;subst e;simp [fC] at eR
  have hlb:b < w.heap.size:=cK b (by simp [fC])
  have ZT:∀ j,off+j < c.size->(w.cell? ⟨b,off+j,none⟩).isSome=true:=fun j hj=>by
   simp [World.cell?,r1,hj]
  have hfz:∀ j,off+j < c.size->w.frozen? ⟨b,off+j,none⟩=false:=fun j hj=>by
   have:=r2 (off+j) (by omega)
   simp only [World.frozen?,r1]
   simpa using this
  by_cases Va:m < n
  ·refine (Any2.slices_Insert_int_shift L b off n cap m vb wP 1 vd (ax ts) (ax kg) w Va (by omega) sq ZS hvb U9 DA ec (fun j hj=>ZT j (by omega)) (fun j hj=>hfz j (by omega)) Cs o1 o3 ev ce c3.size c.size (by simp [World.shape?,m1]) (by simp [World.shape?,r1]) (by omega) (hfa _ (by omega)) (hfa _ (acD _))).mono fun e w' hh=>?_
   obtain ⟨rfl,rfl⟩:=hh;obtain ⟨c1,s1,s2,s3,s4,s5,s6,s7,s8,s9⟩:=iE ((ax ts).drop m) (off+(m+1)) w.drew (c:=c) (e:=ce) (fz:=fz) r1 (by rw [af1]; omega)
   obtain ⟨c2,x1,x2,x3,x4,x5,x6,x7,x8,x9⟩:=iE (ax kg) (off+m) _ s1 (by omega)
   refine ⟨_,rfl,oG (b':=b) (off':=off) (cap':=cap) ⟨c2,ce,fz,x1,by rw [x2,s2]; exact r2,by rw [x2,s2]; exact r3,fun j u hj=>?_⟩ sq ZS (by rw [x6,s6]; exact hlb) (.inl (by simp [fC])) (by rw [x6,s6]; exact acD _) (fun k hk Ni=>?_) (by rw [x7,s7]; rfl) (by rw [x8,s8]; rfl) (by rw [x9,s9]; rfl)⟩
   ·rcases Nat.lt_trichotomy j m with AJ | AJ | AJ
    ·rw [adx (by rw [acG]; omega),ajE AJ] at hj
     rw [x4 _ (.inl (by omega)),s4 _ (.inl (by omega))]
     exact r4 j u hj
    ·subst AJ;rw [adr (by rw [acG]; omega),acG,ajB (by omega),agx,adx (by omega)] at hj
     have:=x3 0 u hj
     simpa using this
    ·rw [adr (by rw [acG]; omega),acG,ajB (by omega),adr (by omega),DA] at hj
     rw [x4 _ (.inr (by omega)),show off+j=off+(m+1)+(j - m - 1) by omega]
     exact s3 _ u hj
   ·have M5:k≠b:=fun e=>Ni (by simp [fC,e])
    rw [x5 k M5,s5 k M5];rfl
  ·have hm:m=n:=by omega
   subst hm;refine (Any2.slices_Insert_int_end_room L b off m cap vb wP 1 vd (ax kg) w (by omega) sq ZS DA (fun j hj=>by rw [adJ]; exact ZT _ (by omega)) (fun j hj=>by rw [adJ]; exact hfz _ (by omega)) Cs o3).mono fun e w' hh=>?_
   obtain ⟨rfl,rfl⟩:=hh;obtain ⟨c2,x1,x2,x3,x4,x5,x6,x7,x8,x9⟩:=iE (ax kg) (off+m) w (c:=c) (e:=ce) (fz:=fz) r1 (by omega)
   refine ⟨_,rfl,oG (b':=b) (off':=off) (cap':=cap) ⟨c2,ce,fz,x1,by rw [x2]; exact r2,by rw [x2]; exact r3,fun j u hj=>?_⟩ sq ZS (by rw [x6]; exact hlb) (.inl (by simp [fC])) (by rw [x6]; exact acD _) (fun k hk Ni=>x5 k (fun e=>Ni (by simp [fC,e]))) x7 x8 x9⟩
   rw [aek (by omega),List.drop_eq_nil_of_le (by omega),acg] at hj
   by_cases AJ:j < m
   ·rw [adx (by omega)] at hj
    rw [x4 _ (.inl (by omega))]
    exact r4 j u hj
   ·rw [adr (by omega),U9] at hj
    rw [show off+j=off+m+(j - m) by omega]
    exact x3 _ u hj
 ·by_cases Va:m < n
  ·cases xB with
   | none=>simp only at k3; omega
   | some p=>
   obtain ⟨b,off⟩:=p;simp only at k3;have ec:∀ j v,(ax ts)[j]?=some v->w.cell? ⟨b,off+j,none⟩=some v:=fun j v hj=>mo k3 hj;refine (Any2.slices_Insert_int_grow L b off n cap m vb wP 1 vd (ax ts) (ax kg) w Va (by omega) k1 (by omega) R8 U9 DA ec Cs o1 o3).mono fun e w' hh=>?_
   obtain ⟨rfl,rfl⟩:=hh;have zq:(Builtin.zeroCells (Value.int .i64 0).cells (n+1 - m)).size=n+1 - m:=by rw [size_zeroCells]; exact Nat.mul_one _
   generalize hA:(((ax ts).take m).toArray++Builtin.zeroCells (Value.int .i64 0).cells (n+1 - m)++Builtin.zeroCells (Value.int .i64 0).cells (grownCap w (n+1) cap (ρ.t 3) - (n+1)):Array Value)=A;have hAs:A.size=grownCap w (n+1) cap (ρ.t 3):=by
    rw [<- hA,agK,agK,hz,zq,agL,acG];omega
   have hA1:∀ j u,j < m->(ax ts)[j]?=some u->A[j]?=some u:=fun j u hj hju=>by
    rw [<- hA,agh (by rw [agK,agL,acG]; omega),agh (by rw [agL,acG]; omega)]
    rw [List.getElem?_toArray,ajE hj];exact hju
   have hN:=Jb w (.cells A (ρ.t 3));have hG:=Grown.alloc w (.cells A (ρ.t 3));obtain ⟨c1,s1,s2,s3,s4,s5,s6,s7,s8,s9⟩:=iE (ax kg) m (w.alloc (.cells A (ρ.t 3))).drew (c:=A) (e:=ρ.t 3) (fz:=(0,0)) hN (by omega)
   obtain ⟨c2,x1,x2,x3,x4,x5,x6,x7,x8,x9⟩:=iE ((ax ts).drop m) (m+1) ((w.alloc (.cells A (ρ.t 3))).drew.setCells w.heap.size m (ax kg)).drew (c:=c1) (e:=ρ.t 3) (fz:=(0,0)) s1 (by rw [af1]; omega)
   have z6:(w.alloc (.cells A (ρ.t 3))).drew.heap.size=w.heap.size+1:=iz w _;refine ⟨_,rfl,oG ⟨c2,ρ.t 3,(0,0),x1,fun o _ h=>by simp at h,by omega,fun j u hj=>?_⟩ g1 g2 (by rw [x6]; show w.heap.size < ((w.alloc (.cells A (ρ.t 3))).drew.setCells w.heap.size m (ax kg)).heap.size; rw [s6,z6]; omega) (.inr (acD _)) (by rw [x6]; show w.heap.size<=((w.alloc (.cells A (ρ.t 3))).drew.setCells w.heap.size m (ax kg)).heap.size; rw [s6,z6]; omega) (fun k hk _=>?_) (x7.trans (s7.trans rfl)) (x8.trans (s8.trans rfl)) (x9.trans (s9.trans rfl))⟩
   ·rw [aef];rcases Nat.lt_trichotomy j m with AJ | AJ | AJ
    ·rw [adx (by rw [acG]; omega),ajE AJ] at hj
     rw [x4 _ (.inl (by omega)),s4 _ (.inl (by omega))]
     exact hA1 j u AJ hj
    ·subst AJ;rw [adr (by rw [acG]; omega),acG,ajB (by omega),agx,adx (by omega)] at hj
     rw [x4 _ (.inl (by omega))]
     have:=s3 0 u hj
     simpa using this
    ·rw [adr (by rw [acG]; omega),acG,ajB (by omega),adr (by omega),DA] at hj
     rw [show j=m+1+(j - m - 1) by omega]
     exact x3 _ u hj
   ·have M5:k≠w.heap.size:=by omega
    rw [x5 k M5];show ((w.alloc (.cells A (ρ.t 3))).drew.setCells w.heap.size m (ax kg)).heap[k]?=_;rw [s5 k M5];exact hG.bB k hk
  ·refine ahE _ (fun e=>?_) (fun a ha j v hj=>?_) sq (by omega)
   ·cases xB with
    | none=>simp only at k3; omega
    | some p=>simp at e
   ·cases xB with
    | none=>simp at ha
    | some p=>
     simp only [MD,mN] at ha;subst ha;rw [eS];exact mo k3 hj
end
section
variable (pr:ej)
def XQ (st:St) (r p o:Nat) (z d:D) (cs:List D):Option (Bool × St × (D->D)):=
 match z with
 | .nil s=>some (pr.jL s cs o,st.Zd (uD r [p] o (.sl none s (pr.bM cs o) (pr.bP cs o))) (cq r [p] o true),uD r [p] o (.sl none s (pr.bM cs o) (pr.bP cs o)))
 | .int ..=>if gr d then none else some (pr.slot cs o,st,id)
 | .bool _=>if gr d then none else some (pr.slot cs o,st,id)
 | .str _=>if gr d then none else some (pr.slot cs o,st,id)
 | _=>none
def nE (r p:Nat):St->Nat->(D->D)->List D->List D->Option (Bool × St)
 | st,_,_,[],[]=>some (true,st)
 | st,o,h,z::zs,d::ds=>
  if z7 r [p] o (h d) then none else
  match iS st (h d) with
  | some (d',aP)=>if !cM d' then none else match aP.cells r [p] with
   | some cs=>match XQ pr aP r p o z d' cs with
    | some (g,cj,f)=>match cj.gI r [p] o d' with
     | some Ck=>match nE r p (Ck.sj (f (h d)) r [p] o) (o+1) (fun x=>uE (f (h d)) r [p] o (f (h x))) zs ds with
      | some (g',st')=>some (br g g' false,st')
      | none=>none
     | none=>none
    | none=>none
   | none=>none
  | none=>none
 | _,_,_,_,_=>none
def opE (c:cn) (st:St) (o:Oper):Option (Bool × St):=
 match o.op with
 | .fieldAddr s x f=>match c.ty s with
  | some ⟨.struct lN _,_,_,_⟩=>match lN[f]?,ch c st o.type x with
   | some k,.ptr r (p::q) i=>match st.cells r (p::q) with
    | some cs=>some (pr.ne cs,st.put o.dst (.ptr r (p::q) (i+k)))
    | none=>none
   | _,_=>none
  | _=>none
 | .nilCheck x=>match ch c st o.type x with
  | .ptr r (p::q) i=>match st.cells r (p::q) with
   | some cs=>some (pr.ne cs,st.put o.dst (.ptr r (p::q) i))
   | none=>none
  | _=>none
 | .store t a x=>match c.ty t with
  | some i=>match ch c st o.type a with
   | .ptr r [p] j=>if (i.size==1&&vc (ch c st t x))=true then none else
    if (cellsOf (ch c st t x)).length=i.size then match st.cells r [p] with
     | some cs=>match nE pr r p st j id i.zero (cellsOf (ch c st t x)) with
      | some (g,st')=>some (br (pr.ne cs) g false,st'.put o.dst (.aG []))
      | none=>none
     | none=>none
    else none
   | _=>none
  | none=>none
 | _=>none
end
theorem Hh {s o:Nat} {cs:List D} (h:ad.jL s cs o=true):cs[o]?=some (.sl none s (ad.bM cs o) (ad.bP cs o)):=by
 simp only [ad] at h ⊢;split at h
 ·rename_i s' n ys he;have:s'=s:=by simpa using h
  subst this;rw [he];rfl
 ·simp at h
theorem Hi {st:St} {r:Nat} {q:List Nat} {cs:List D} (hc:st.cells r q=some cs) (h:ad.ne cs=true):live st r q=true:=by
 unfold live;rw [hc];cases cs with
 | nil=>simp [ad] at h
 | cons _ _=>rfl
theorem aaW {cs:List D} {o:Nat} (h:ad.slot cs o=true):∃ bB,cs[o]?=some bB/\gr bB=false:=by
 simp only [ad] at h;split at h
 ·rename_i bB he;exact ⟨bB,he,by simpa using h⟩
 ·simp at h
theorem aaX {st cj:St} {r p o:Nat} {z d:D} {cs:List D} {f:D->D} (hc:st.cells r [p]=some cs) (h:XQ ad st r p o z d cs=some (true,cj,f)):st.rf r [p] o d=some (cj,f):=by
 have cB:st.cell r [p] o=cs[o]?:=by unfold St.cell; rw [hc]
 have scalar:∀ {cj:St} {f:D->D},(if gr d then none else some (ad.slot cs o,st,(id:D->D)))=some (true,cj,f)->st.rf r [p] o d=some (cj,f):=by
  intro cj f h;split at h
  ·simp at h
  rename_i hd;simp only [mN,sF] at h;obtain ⟨h1,rfl,rfl⟩:=h;obtain ⟨bB,h2,h3⟩:=aaW h1;unfold St.rf;rw [cB,h2];simp only [h3,acq,if_false];rw [if_neg hd]
 unfold XQ at h;split at h
 ·simp only [mN,sF] at h;obtain ⟨h1,rfl,rfl⟩:=h;unfold St.rf;rw [cB,Hh h1];simp [gr]
 ·exact scalar h
 ·exact scalar h
 ·exact scalar h
 ·simp at h
theorem AK {r p:Nat}:∀ {zs ds:List D} {st:St} {o:Nat} {h:D->D} {g:Bool} {st':St},nE ad r p st o h zs ds=some (g,st')->g=true->fA st r [p] o h ds=some st'
 | [],[],st,o,h,g,st',hu,hg=>by
  simp only [nE,mN,sF] at hu;obtain ⟨_,rfl⟩:=hu;rfl
 | [],_::_,st,o,h,g,st',hu,hg=>by simp [nE] at hu
 | _::_,[],st,o,h,g,st',hu,hg=>by simp [nE] at hu
 | z::zs,d::ds,st,o,h,g,st',hu,hg=>by
  simp only [nE] at hu;split at hu
  ·simp at hu
  rename_i w9;split at hu
  case h_2=>simp at hu
  rename_i d' aP dA;split at hu
  ·simp at hu
  rename_i gZ;split at hu
  case h_2=>simp at hu
  rename_i cs ec;split at hu
  case h_2=>simp at hu
  rename_i g1 cj f dQ;split at hu
  case h_2=>simp at hu
  rename_i Ck iv;split at hu
  case h_2=>simp at hu
  rename_i g2 st4 Oe;simp only [mN,sF] at hu;obtain ⟨rfl,rfl⟩:=hu;obtain ⟨rfl,rfl⟩:=lT hg;have ahF:z7 r [p] o (h d)=false:=by simpa using w9
  simp only [fA,ahF,agj,acq,if_false,dA];rw [if_neg gZ];simp only [aaX ec dQ,iv];exact AK Oe rfl
theorem ady {c:cn} {cl:FuncId->List D->Option (D × List D)} {ci:FuncId->List D->Nat->St->Option (D × St)} {aC:FuncId} {st st':St} {o:Oper} {g:Bool} (h:opE ad c st o=some (g,st')) (hg:g=true):eY c cl ci aC st o=some st':=by
 unfold opE at h;unfold eY;split at h
 ·rename_i s x f ho;simp only [ho];split at h
  case h_2=>simp at h
  rename_i lN szs a b z lO;rw [lO];simp only;split at h
  case h_2=>simp at h
  rename_i k r p q i hk hx;rw [hk,hx];simp only;split at h
  case h_2=>simp at h
  rename_i cs ec;simp only [mN,sF] at h;obtain ⟨rfl,rfl⟩:=h;simp only [wY,Hi ec hg,if_true]
 ·rename_i x ho;simp only [ho];split at h
  case h_2=>simp at h
  rename_i r p q i hx;rw [hx];simp only;split at h
  case h_2=>simp at h
  rename_i cs ec;simp only [mN,sF] at h;obtain ⟨rfl,rfl⟩:=h;simp only [Hi ec hg,if_true]
 ·rename_i t a x ho;simp only [ho];split at h
  case h_2=>simp at h
  rename_i i hi;rw [hi];simp only;split at h
  case h_2=>simp at h
  rename_i r p j ha;rw [ha];split at h
  ·simp at h
  split at h
  case isFalse=>simp at h
  rename_i hlen;split at h
  case h_2=>simp at h
  rename_i cs ec;split at h
  case h_2=>simp at h
  rename_i g1 aP Da;simp only [mN,sF] at h;obtain ⟨rfl,rfl⟩:=h;obtain ⟨h1,rfl⟩:=lT hg;simp only [uF,hlen,Hi ec h1,and_self,if_true,AK Da rfl]
 ·simp at h
section
variable (pr:ej)
def te (st:St) (h:D->D):List D->List D->Option (Bool × St × (D->D))
 | [],_=>some (true,st,h)
 | _::_,[]=>none
 | a::aa,d::ds=>
  match h a,d with
  | .ref r q o none,.sl none s n cs=>match st.cell r q o with
   | some (.hole s0 n0)=>if s0=s then
     (match (st.eX (cq r q o false)).gI r q o (.sl none s n cs) with
      | some st'=>(match te st' (fun x=>cq r q o false (h x)) aa ds with
       | some (g,p)=>some (br (pr.neq n0 n) g false,p)
       | none=>none)
      | none=>none)
    else none
   | _=>none
  | _,_=>te st h aa ds
def Of (st:St) (h:D->D) (a out:D):Option (Bool × St × (D->D)):=
 match a,out with
 | .agg cs,.agg ds=>te pr st h cs ds
 | .ptr r [] 0,.aW ds=>match lk st.rt r with
  | some []=>some (true,{ st.eX (eE r) with rt:=pz (st.eX (eE r)).rt r ds },fun x=>eE r (h x))
  | _=>none
 | a,d=>te pr st h [a] [d]
def nF (st:St) (h:D->D):List Bool->List D->List D->Option (Bool × St)
 | _,[],_=>some (true,st)
 | b,a::aa,o::os=>if b.headD false then match Of pr st h a o with
   | some (g,st',h')=>(match nF st' h' b.tail aa os with
    | some (g',yu)=>some (br g g' false,yu)
    | none=>none)
   | none=>none
  else nF st h b.tail aa os
 | _,_::_,[]=>none
end
theorem wk:∀ {aa ds:List D} {st:St} {h:D->D} {g:Bool} {p:St × (D->D)},te ad st h aa ds=some (g,p)->g=true->pn st h aa ds=some p
 | [],ds,st,h,g,p,hu,_=>by
  simp only [te,mN,sF] at hu;obtain ⟨_,rfl⟩:=hu;rfl
 | a::aa,[],st,h,g,p,hu,_=>by simp [te] at hu
 | a::aa,d::ds,st,h,g,p,hu,hg=>by
  simp only [te] at hu;simp only [pn];split at hu
  ·rename_i r q o s n cs ha;rw [ha];simp only;split at hu
   ·rename_i s0 n0 hc;rw [hc];simp only;split at hu
    case isFalse=>simp at hu
    rename_i hs;split at hu
    case h_2=>simp at hu
    rename_i st' iv;split at hu
    case h_2=>simp at hu
    rename_i g1 p1 Oe;simp only [mN,sF] at hu;obtain ⟨rfl,rfl⟩:=hu;obtain ⟨h1,rfl⟩:=lT hg;have hn:n0=n:=by simpa [ad] using h1
    rw [if_pos ⟨hs,hn⟩,iv];exact wk Oe rfl
   ·simp at hu
  ·rename_i hx;split
   ·rename_i r q o s n cs ha;exact absurd rfl (hx r q o s n cs ha)
   ·exact wk hu hg
theorem Vb {st:St} {h:D->D} {a out:D} {g:Bool} {p:St × (D->D)} (hu:Of ad st h a out=some (g,p)) (hg:g=true):BB st h a out=some p:=by
 unfold Of at hu;unfold BB;split at hu
 ·exact wk hu hg
 ·split at hu
  ·rename_i he;simp only [mN,sF] at hu;obtain ⟨_,rfl⟩:=hu;simp only [he]
  ·simp at hu
 ·rename_i h1 h2;split
  ·rename_i cs ds; exact absurd rfl (h1 cs ds rfl)
  ·rename_i r ds; exact absurd rfl (h2 r ds rfl)
  ·exact wk hu hg
theorem ve:∀ {aa:List D} {b:List Bool} {os:List D} {st:St} {h:D->D} {g:Bool} {st':St},nF ad st h b aa os=some (g,st')->g=true->im st h b aa os=some st'
 | [],b,os,st,h,g,st',hu,_=>by
  simp only [nF,mN,sF] at hu;obtain ⟨_,rfl⟩:=hu;rfl
 | a::aa,b,[],st,h,g,st',hu,_=>by simp [nF] at hu
 | a::aa,b,o::os,st,h,g,st',hu,hg=>by
  simp only [nF] at hu;simp only [im];split at hu
  ·rename_i hb;rw [if_pos hb];split at hu
   case h_2=>simp at hu
   rename_i g1 aP h1 E6;split at hu
   case h_2=>simp at hu
   rename_i g2 cj Oe;simp only [mN,sF] at hu;obtain ⟨rfl,rfl⟩:=hu;obtain ⟨rfl,rfl⟩:=lT hg;rw [Vb E6 rfl];exact ve Oe rfl
  ·rename_i hb;rw [if_neg hb];exact ve hu hg
def BS:D->Bool
 | .sl (some true) _ _ _=>true
 | _=>false
def nlC (pr:ej):D->Bool
 | .sl _ _ _ cs=>pr.nl cs
 | _=>true
def XR (f:D->Bool):List D->Bool
 | []=>true
 | d::ds=>br (f d) (XR f ds) false
def px:List Bool->List D->Bool
 | _,[]=>false
 | b,d::ds=>(b.headD false&&(bX d).any BS)||px b.tail ds
def ZU (pr:ej):List Bool->List D->Bool
 | _,[]=>true
 | b,d::ds=>br (if b.headD false then XR (nlC pr) (bX d) else true) (ZU pr b.tail ds) false
theorem Ri {f:D->Bool}:∀ {ds:List D},XR f ds=true->∀ d∈ds,f d=true
 | [],_=>by simp
 | d::ds,h=>by
  obtain ⟨h1,h2⟩:=lT h;intro x hx;rcases acK.1 hx with rfl | hx
  ·exact h1
  ·exact Ri h2 x hx
theorem Fm:∀ {b:List Bool} {ds:List D},px b ds=true->fB b ds=true
 | _,[],h=>by simp [px] at h
 | b,d::ds,h=>by
  simp only [px,aej,wX] at h;simp only [fB,aej,wX];rcases h with ⟨h1,h2⟩ | h
  ·refine .inl ⟨h1,?_⟩;obtain ⟨x,hx,hl⟩:=List.any_eq_true.1 h2;cases dM:(bX d).all bW with
   | false=>rfl
   | true=>
    have:=ab9.1 dM x hx;unfold BS at hl;split at hl
    ·simp [bW] at this
    ·simp at hl
  ·exact .inr (Fm h)
theorem CN:∀ {b:List Bool} {ds:List D},px b ds=false->ZU ad b ds=true->fB b ds=false
 | _,[],_,_=>rfl
 | b,d::ds,h,hn=>by
  simp only [px,agc] at h;simp only [ZU] at hn;obtain ⟨h1,h2⟩:=lT hn;simp only [fB,agc];refine ⟨?_,CN h.2 h2⟩;cases hb:b.headD false with
  | false=>rfl
  | true=>
   rw [hb] at h1;simp only [if_true] at h1;have h3:=Ri h1;have h4:(bX d).any BS=false:=by have:=h.1; rw [hb] at this; simpa using this
   have:(bX d).all bW=true:=by
    rw [ab9];intro x hx;have h5:=h3 x hx;have h6:BS x=false:=by
     cases hl:BS x with
     | false=>rfl
     | true=>rw [List.any_eq_true.2 ⟨x,hx,hl⟩] at h4; simp at h4
    cases x with
    | sl g s n cs=>
     cases g with
     | none=>simpa [bW,nlC,ad] using h5
     | some g=>
      cases g with
      | false=>simpa [bW,nlC,ad] using h5
      | true=>simp [BS] at h6
    | _=>simp [bW]
   rw [this];rfl
def bs (l:List UInt8):ByteArray:=⟨l.toArray⟩
def ints (xs:List Int):List D:=xs.map (.int .i64)
def bytes (xs:List UInt8):List D:=xs.map dz
def aE (xs:List Bool):List D:=xs.map .bool
def aM {α:Type} (e:α->List D) (xs:List α):List D:=xs.flatMap e
structure aB where
 av:List Int
 bits:List (List Int)
 cf:Bool
 bB:Bool
 held:Bool
 last:Int
structure aD where
 a:List UInt8
 b:List UInt8
structure U where
 id:Int
 up:Bool
 bS:Bool
 image:List Int
 mt:aB
 aA:aD
 conn:List Bool
 sync:List (List Int)
 aH:List Bool
 wait:List Int
abbrev sI (g:Option Bool) (xs:List Int):D:=.sl g 1 xs.length (ints xs)
abbrev s8 (g:Option Bool) (xs:List UInt8):D:=.sl g 1 xs.length (bytes xs)
abbrev sB (g:Option Bool) (xs:List Bool):D:=.sl g 1 xs.length (aE xs)
def rows (g:Option Bool) (xss:List (List Int)):List D:=xss.map fun xs=>.sl g 1 xs.length (ints xs)
abbrev sR (g:Option Bool) (xss:List (List Int)):D:=.sl g 1 xss.length (rows g xss)
abbrev bd (g:Option Bool) (m:aB):List D:=[sI g m.av,sR g m.bits,.bool m.cf,.bool m.bB,.bool m.held,.int .i64 m.last]
abbrev bL (g:Option Bool) (s:aD):List D:=[s8 g s.a,s8 g s.b]
abbrev ab (g:Option Bool) (n:U):List D:=[.int .i64 n.id,.bool n.up,.bool n.bS,sI g n.image,sI g n.mt.av,sR g n.mt.bits,.bool n.mt.cf,.bool n.mt.bB,.bool n.mt.held,.int .i64 n.mt.last,s8 g n.aA.a,s8 g n.aA.b,sB g n.conn,sR g n.sync,sB g n.aH,sI g n.wait]
structure dr where
 src:Int
 dst:Int
 bytes:List UInt8
structure js where
 cell:Int
 up:Int
structure gO where
 nodes:List U
 wm:List dr
 log:List js
 safe:List Int
 gen:Int
abbrev cS (g:Option Bool) (x:dr):List D:=[.int .i64 x.src,.int .i64 x.dst,s8 g x.bytes]
abbrev fY (_:Option Bool) (r:js):List D:=[.int .i64 r.cell,.int .i64 r.up]
abbrev sN (g:Option Bool) (xs:List U):D:=.sl g 16 xs.length (aM (ab g) xs)
abbrev sW (g:Option Bool) (xs:List dr):D:=.sl g 3 xs.length (aM (cS g) xs)
abbrev sK (g:Option Bool) (xs:List js):D:=.sl g 2 xs.length (aM (fY g) xs)
abbrev nG (g:Option Bool) (w:gO):List D:=[sN g w.nodes,sW g w.wm,sK g w.log,sI g w.safe,.int .i64 w.gen]
structure vf where
 kind:Int
 cell:Int
 val:Int
 who:Int
 av:List Int
structure yW where
 src:Int
 dst:Int
 msg:vf
structure qL where
 kind:Int
 a:Int
 b:Int
abbrev Hj (g:Option Bool) (m:vf):List D:=[.int .i64 m.kind,.int .i64 m.cell,.int .i64 m.val,.int .i64 m.who,sI g m.av]
abbrev BT (g:Option Bool) (p:yW):List D:=[.int .i64 p.src,.int .i64 p.dst,.int .i64 p.msg.kind,.int .i64 p.msg.cell,.int .i64 p.msg.val,.int .i64 p.msg.who,sI g p.msg.av]
abbrev BU (_:Option Bool) (d:qL):List D:=[.int .i64 d.kind,.int .i64 d.a,.int .i64 d.b]
abbrev sP (g:Option Bool) (xs:List yW):D:=.sl g 7 xs.length (aM (BT g) xs)
abbrev sM (g:Option Bool) (xs:List vf):D:=.sl g 5 xs.length (aM (Hj g) xs)
abbrev sD (g:Option Bool) (xs:List qL):D:=.sl g 3 xs.length (aM (BU g) xs)
inductive cJ where
 | I | B | L | R | mt | aA | node | msg | post | world | Hk | yX | Ns | Ws | Ks | Ps | Ms | Ds
abbrev cJ.T:cJ->Type
 | .I=>List Int
 | .B=>List UInt8
 | .L=>List Bool
 | .R=>List (List Int)
 | .mt=>aB
 | .aA=>aD
 | .node=>U
 | .msg=>vf
 | .post=>yW
 | .world=>gO
 | .Hk=>qL
 | .yX=>dr
 | .Ns=>List U
 | .Ws=>List dr
 | .Ks=>List js
 | .Ps=>List yW
 | .Ms=>List vf
 | .Ds=>List qL
def enc:(k:cJ)->k.T->D
 | .I,x=>sI none x
 | .B,x=>s8 none x
 | .L,x=>sB none x
 | .R,x=>sR none x
 | .mt,x=>.agg (bd none x)
 | .aA,x=>.agg (bL none x)
 | .node,x=>.agg (ab none x)
 | .msg,x=>.agg (Hj none x)
 | .post,x=>.agg (BT none x)
 | .world,x=>.agg (nG none x)
 | .Hk,x=>.agg (BU none x)
 | .yX,x=>.agg (cS none x)
 | .Ns,x=>sN none x
 | .Ws,x=>sW none x
 | .Ks,x=>sK none x
 | .Ps,x=>sP none x
 | .Ms,x=>sM none x
 | .Ds,x=>sD none x
theorem map_inj {α:Type} {f:α->D} (h:∀ a b,f a=f b->a=b):∀ {xs ys:List α},xs.map f=ys.map f->xs=ys
 | [],[],_=>rfl
 | [],_::_,e=>by simp at e
 | _::_,[],e=>by simp at e
 | x::xs,y::ys,e=>by
  simp only [ac6,acS] at e;rw [h _ _ e.1,map_inj h e.2]
theorem mw {xs ys:List Int} (h:ints xs=ints ys):xs=ys:=map_inj (fun a b e=>by simpa using e) h
theorem bytes_inj {xs ys:List UInt8} (h:bytes xs=bytes ys):xs=ys:=map_inj (fun a b e=>by
 simp only [dz,D.int.injEq,true_and] at e;exact UInt8.toNat_inj.1 (by omega)) h
theorem AL {xs ys:List Bool} (h:aE xs=aE ys):xs=ys:=map_inj (fun a b e=>by simpa using e) h
theorem yY {g:Option Bool} {xs ys:List (List Int)} (h:rows g xs=rows g ys):xs=ys:=map_inj (fun a b e=>by
 simp only [D.sl.injEq] at e;exact mw e.2.2.2) h
theorem Og {α:Type} {e:α->List D} {w:Nat} (hw:∀ x,(e x).length=w) (h:∀ a b,e a=e b->a=b):∀ {xs ys:List α},xs.length=ys.length->aM e xs=aM e ys->xs=ys
 | [],[],_,_=>rfl
 | [],_::_,hl,_=>by simp at hl
 | _::_,[],hl,_=>by simp at hl
 | x::xs,y::ys,hl,he=>by
  simp only [aM,adL] at he;have h1:=List.append_inj he (by rw [hw,hw])
  rw [h _ _ h1.1,Og hw h (by simpa using hl) h1.2]
theorem Vc {g:Option Bool} {a b:aB} (h:bd g a=bd g b):a=b:=by
 obtain ⟨a1,a2,a3,a4,a5,a6⟩:=a;obtain ⟨b1,b2,b3,b4,b5,b6⟩:=b;simp only [acS,D.sl.injEq,D.bool.injEq,D.int.injEq,true_and,and_true] at h;rw [mw h.1.2,yY h.2.1.2,h.2.2.1,h.2.2.2.1,h.2.2.2.2.1,h.2.2.2.2.2]
theorem SJ {g:Option Bool} {a b:aD} (h:bL g a=bL g b):a=b:=by
 obtain ⟨a1,a2⟩:=a;obtain ⟨b1,b2⟩:=b;simp only [acS,D.sl.injEq,true_and,and_true] at h;rw [bytes_inj h.1.2,bytes_inj h.2.2]
theorem AM {g:Option Bool} {a b:U} (h:ab g a=ab g b):a=b:=by
 obtain ⟨a1,a2,a3,a4,a5,⟨a6,a7⟩,a8,a9,a10,a11⟩:=a;obtain ⟨b1,b2,b3,b4,b5,⟨b6,b7⟩,b8,b9,jA,b11⟩:=b;obtain ⟨c1,c2,c3,c4,c5,c6⟩:=a5;obtain ⟨d1,d2,d3,d4,d5,d6⟩:=b5;simp only [acS,D.sl.injEq,D.bool.injEq,D.int.injEq,true_and,and_true] at h;obtain ⟨h1,h2,h3,⟨_,h4⟩,⟨_,h5⟩,⟨_,h6⟩,h7,h8,h9,lz,⟨_,MP⟩,⟨_,TY⟩,⟨_,h13⟩,⟨_,h14⟩,⟨_,h15⟩,⟨_,h16⟩⟩:=h;rw [h1,h2,h3,mw h4,mw h5,yY h6,h7,h8,h9,lz,bytes_inj MP,bytes_inj TY,AL h13,yY h14,AL h15,mw h16]
theorem AN {g:Option Bool} {a b:dr} (h:cS g a=cS g b):a=b:=by
 obtain ⟨a1,a2,a3⟩:=a;obtain ⟨b1,b2,b3⟩:=b;simp only [acS,D.sl.injEq,D.int.injEq,true_and,and_true] at h;rw [h.1,h.2.1,bytes_inj h.2.2.2]
theorem Oh {g:Option Bool} {a b:js} (h:fY g a=fY g b):a=b:=by
 obtain ⟨a1,a2⟩:=a;obtain ⟨b1,b2⟩:=b;simp only [acS,D.int.injEq,true_and,and_true] at h;rw [h.1,h.2]
theorem Oi {g:Option Bool} {a b:vf} (h:Hj g a=Hj g b):a=b:=by
 obtain ⟨a1,a2,a3,a4,a5⟩:=a;obtain ⟨b1,b2,b3,b4,b5⟩:=b;simp only [acS,D.sl.injEq,D.int.injEq,true_and,and_true] at h;rw [h.1,h.2.1,h.2.2.1,h.2.2.2.1,mw h.2.2.2.2.2]
theorem JD {g:Option Bool} {a b:yW} (h:BT g a=BT g b):a=b:=by
 obtain ⟨x,y,⟨a1,a2,a3,a4,a5⟩⟩:=a;obtain ⟨z,w,⟨b1,b2,b3,b4,b5⟩⟩:=b;simp only [acS,D.sl.injEq,D.int.injEq,true_and,and_true] at h;rw [h.1,h.2.1,h.2.2.1,h.2.2.2.1,h.2.2.2.2.1,h.2.2.2.2.2.1,mw h.2.2.2.2.2.2.2]
theorem JE {g:Option Bool} {a b:qL} (h:BU g a=BU g b):a=b:=by
 obtain ⟨a1,a2,a3⟩:=a;obtain ⟨b1,b2,b3⟩:=b;simp only [acS,D.int.injEq,true_and,and_true] at h;rw [h.1,h.2.1,h.2.2]
theorem qM {α:Type} {e:α->List D} {w s:Nat} (hw:∀ x,(e x).length=w) (h:∀ a b,e a=e b->a=b) {xs ys:List α} (he:D.sl none s xs.length (aM e xs)=.sl none s ys.length (aM e ys)):xs=ys:=by
 simp only [D.sl.injEq,true_and] at he;exact Og hw h he.1 he.2
theorem aaY:∀ {k:cJ} {x y:k.T},enc k x=enc k y->x=y
 | .I,_,_,h=>mw (D.sl.inj h).2.2.2
 | .B,_,_,h=>bytes_inj (D.sl.inj h).2.2.2
 | .L,_,_,h=>AL (D.sl.inj h).2.2.2
 | .R,_,_,h=>yY (D.sl.inj h).2.2.2
 | .mt,_,_,h=>Vc (D.agg.inj h)
 | .aA,_,_,h=>SJ (D.agg.inj h)
 | .node,_,_,h=>AM (D.agg.inj h)
 | .msg,_,_,h=>Oi (D.agg.inj h)
 | .post,_,_,h=>JD (D.agg.inj h)
 | .world,x,y,h=>by
  obtain ⟨a1,a2,a3,a4,a5⟩:=x;obtain ⟨b1,b2,b3,b4,b5⟩:=y;have h:=D.agg.inj h;simp only [acS,D.int.injEq,true_and,and_true] at h;rw [qM (w:=16) (fun _=>rfl) (fun _ _=>AM) h.1,qM (w:=3) (fun _=>rfl) (fun _ _=>AN) h.2.1,qM (w:=2) (fun _=>rfl) (fun _ _=>Oh) h.2.2.1,mw (D.sl.inj h.2.2.2.1).2.2.2,h.2.2.2.2]
 | .Hk,_,_,h=>JE (g:=none) (D.agg.inj h)
 | .yX,_,_,h=>AN (D.agg.inj h)
 | .Ns,_,_,h=>qM (w:=16) (fun _=>rfl) (fun _ _=>AM) h
 | .Ws,_,_,h=>qM (w:=3) (fun _=>rfl) (fun _ _=>AN) h
 | .Ks,_,_,h=>qM (w:=2) (fun _=>rfl) (fun _ _=>Oh) h
 | .Ps,_,_,h=>qM (w:=7) (fun _=>rfl) (fun _ _=>JD) h
 | .Ms,_,_,h=>qM (w:=5) (fun _=>rfl) (fun _ _=>Oi) h
 | .Ds,_,_,h=>qM (w:=3) (fun _=>rfl) (fun _ _=>JE (g:=none)) h
theorem xC {ds:List D} (h:∀ d∈ds,bW d=true):cb ds=true:=by
 induction ds with
 | nil=>rfl
 | cons d ds ih=>
  simp only [cb,wX];exact ⟨h d (by simp),ih fun x hx=>h x (by simp [hx])⟩
theorem sw (xs:List Int):cb (ints xs)=true:=xC (by intro d hd; obtain ⟨a,_,rfl⟩:=acv.1 hd; rfl)
theorem BV (xs:List UInt8):cb (bytes xs)=true:=xC (by intro d hd; obtain ⟨a,_,rfl⟩:=acv.1 hd; rfl)
theorem SK (xs:List Bool):cb (aE xs)=true:=xC (by intro d hd; obtain ⟨a,_,rfl⟩:=acv.1 hd; rfl)
theorem LX (xs:List (List Int)):cb (rows none xs)=true:=xC (by intro d hd; obtain ⟨a,_,rfl⟩:=acv.1 hd; simp [bW,sw])
theorem ud {α:Type} {e:α->List D} (h:∀ x,cb (e x)=true) (xs:List α):cb (aM e xs)=true:=xC (by
 intro d hd;obtain ⟨a,_,ha⟩:=List.mem_flatMap.1 hd;have:=h a;generalize e a=l at this ha
 induction l with
 | nil=>simp at ha
 | cons x l ih=>
  simp only [cb,wX] at this;rcases acK.1 ha with rfl | ha
  ·exact this.1
  ·exact ih this.2 ha)
theorem ZV (x:U):cb (ab none x)=true:=by simp [cb,bW,sw,BV,SK,LX]
theorem ZW (x:dr):cb (cS none x)=true:=by simp [cb,bW,BV]
theorem ZX (x:js):cb (fY none x)=true:=by simp [cb,bW]
theorem afi (x:yW):cb (BT none x)=true:=by simp [cb,bW,sw]
theorem afj (x:vf):cb (Hj none x)=true:=by simp [cb,bW,sw]
theorem afk (x:qL):cb (BU none x)=true:=by simp [cb,bW]
theorem ak:∀ (k:cJ) (x:k.T),dw (enc k x)=true
 | .I,x=>by simp [dw,enc,bX,dc,fy,bW,sw]
 | .B,x=>by simp [dw,enc,bX,dc,fy,bW,BV]
 | .L,x=>by simp [dw,enc,bX,dc,fy,bW,SK]
 | .R,x=>by simp [dw,enc,bX,dc,fy,bW,LX]
 | .mt,x=>by simp [dw,enc,bX,dc,fy,bW,sw,LX]
 | .aA,x=>by simp [dw,enc,bX,dc,fy,bW,BV]
 | .node,x=>by simp [dw,enc,bX,dc,fy,bW,sw,BV,SK,LX]
 | .msg,x=>by simp [dw,enc,bX,dc,fy,bW,sw]
 | .post,x=>by simp [dw,enc,bX,dc,fy,bW,sw]
 | .world,x=>by simp [dw,enc,bX,dc,fy,bW,sw,ud ZV,ud ZW,ud ZX]
 | .Hk,x=>by simp [dw,enc,bX,dc,fy,bW]
 | .yX,x=>by simp [dw,enc,bX,dc,fy,bW,BV]
 | .Ns,x=>by simp [dw,enc,bX,dc,fy,bW,ud ZV]
 | .Ws,x=>by simp [dw,enc,bX,dc,fy,bW,ud ZW]
 | .Ks,x=>by simp [dw,enc,bX,dc,fy,bW,ud ZX]
 | .Ps,x=>by simp [dw,enc,bX,dc,fy,bW,ud afi]
 | .Ms,x=>by simp [dw,enc,bX,dc,fy,bW,ud afj]
 | .Ds,x=>by simp [dw,enc,bX,dc,fy,bW,ud afk]
def Rj (v:D):Bool:=(match v with | .agg cs=>cs | d=>[d]).all fun x=>fy x&&bW x
theorem aQ:dw (.aG [])=true:=rfl
theorem aR (v:D) (vs:List D):dw (.aG (v::vs))=(Rj v&&dw (.aG vs)):=by
 simp only [dw,bX,dc,adL,List.all_append,Rj];rfl
theorem bh (k:cJ) (x:k.T):Rj (enc k x)=true:=by
 have:=ak k x;cases k<;>exact this
theorem bj (k:IntKind) (n:Int):Rj (.int k n)=true:=rfl
theorem aS (b:Bool):Rj (.bool b)=true:=rfl
theorem bl (b:ByteArray):Rj (.str b)=true:=rfl
inductive RS where
 | int (k:IntKind)
 | bool
 | str
 | sl (s:Nat)
 | cX (s:Nat)
 | undef
 | agg (l:List RS)
 | aG (l:List RS)
 | aW (l:List RS)
 | ty (k:cJ)
inductive bD (R:Type) where
 | done (x:Option R)
 | int (f:Int->bD R)
 | bool (f:Bool->bD R)
 | str (f:ByteArray->bD R)
 | sl (f:Nat->List D->bD R)
 | cX (f:Bool->Nat->List D->bD R)
 | ty (k:cJ) (f:k.T->bD R)
section
variable {R:Type}
mutual
def qN:RS->(D->bD R)->bD R
 | .int k,f=>.int fun x=>f (.int k x)
 | .bool,f=>.bool fun x=>f (.bool x)
 | .str,f=>.str fun x=>f (.str x)
 | .sl s,f=>.sl fun n cs=>f (.sl none s n cs)
 | .cX s,f=>.cX fun _ n cs=>f (.sl (some false) s n cs)
 | .undef,f=>f .undef
 | .agg l,f=>AO l fun ds=>f (.agg ds)
 | .aG l,f=>AO l fun ds=>f (.aG ds)
 | .aW l,f=>AO l fun ds=>f (.aW ds)
 | .ty k,f=>.ty k fun x=>f (enc k x)
def AO:List RS->(List D->bD R)->bD R
 | [],f=>f []
 | s::ss,f=>qN s fun d=>AO ss fun ds=>f (d::ds)
end
open Classical in
noncomputable def feed:bD R->List D->Option R
 | .done x,_=>x
 | .int f,.int _ n::l=>feed (f n) l
 | .bool f,.bool b::l=>feed (f b) l
 | .str f,.str s::l=>feed (f s) l
 | .sl f,.sl none _ n cs::l=>feed (f n cs) l
 | .cX f,.sl (some g) _ n cs::l=>feed (f g n cs) l
 | .ty k f,d::l=>if h:∃ x,d=enc k x then feed (f (Classical.choose h)) l else none
 | _,_=>none
end
mutual
def rZ:D->List D
 | .agg ds=>wo ds
 | .aG ds=>wo ds
 | .aW ds=>wo ds
 | .undef=>[]
 | d=>[d]
def wo:List D->List D
 | []=>[]
 | d::ds=>rZ d++wo ds
end
open Classical in
mutual
noncomputable def fa:RS->D->Bool
 | .int k,.int k' _=>fe k k'
 | .bool,.bool _=>true
 | .str,.str _=>true
 | .sl s,.sl none s' _ _=>s==s'
 | .cX s,.sl (some false) s' _ _=>s==s'
 | .undef,.undef=>true
 | .agg l,.agg ds=>jM l ds
 | .aG l,.aG ds=>jM l ds
 | .aW l,.aW ds=>jM l ds
 | .ty k,d=>decide (∃ x,d=enc k x)
 | _,_=>false
noncomputable def jM:List RS->List D->Bool
 | [],[]=>true
 | s::ss,d::ds=>fa s d&&jM ss ds
 | _,_=>false
end
open Classical in
theorem ao (k:cJ) (x:k.T):fa (.ty k) (enc k x)=true:=by
 simp only [fa];exact decide_eq_true ⟨x,rfl⟩
theorem bm (k:IntKind) (n:Int):fa (.int k) (.int k n)=true:=by simp [fa,fe]
theorem aT (b:Bool):fa .bool (.bool b)=true:=by simp [fa]
theorem bn (b:ByteArray):fa .str (.str b)=true:=by simp [fa]
theorem bo (l:List RS) (ds:List D):fa (.aG l) (.aG ds)=jM l ds:=by simp [fa]
theorem ai:jM [] []=true:=by simp [jM]
theorem ae (s:RS) (ss:List RS) (d:D) (ds:List D):jM (s::ss) (d::ds)=(fa s d&&jM ss ds):=by simp [jM]
theorem aI:fa .undef .undef=true:=by simp [fa]
mutual
def gk:RS->D->List D
 | .agg l,.agg ds=>nI l ds
 | .aG l,.aG ds=>nI l ds
 | .aW l,.aW ds=>nI l ds
 | .undef,_=>[]
 | _,d=>[d]
def nI:List RS->List D->List D
 | s::ss,d::ds=>gk s d++nI ss ds
 | _,_=>[]
end
mutual
def vg:RS->Bool
 | .ty _=>true
 | .agg l=>vh l
 | .aG l=>vh l
 | .aW l=>vh l
 | _=>false
def vh:List RS->Bool
 | []=>false
 | s::ss=>vg s||vh ss
end
mutual
theorem Oj:∀ {s:RS} {d:D},fa s d=true->vg s=false->gk s d=rZ d
 | .int k,d,h,_=>by cases d<;>simp [fa,fe] at h; simp [gk,rZ]
 | .bool,d,h,_=>by cases d<;>simp [fa] at h; simp [gk,rZ]
 | .str,d,h,_=>by cases d<;>simp [fa] at h; simp [gk,rZ]
 | .sl s,d,h,_=>by cases d<;>simp [fa] at h; simp [gk,rZ]
 | .cX s,d,h,_=>by cases d<;>simp [fa] at h; simp [gk,rZ]
 | .undef,d,h,_=>by cases d<;>simp [fa] at h; simp [gk,rZ]
 | .ty k,d,h,ht=>by simp [vg] at ht
 | .agg ss,d,h,ht=>by
  cases d with
  | agg ds=>rw [gk,rZ]; exact tf (by simpa [fa] using h) (by simpa [vg] using ht)
  | _=>simp [fa] at h
 | .aG ss,d,h,ht=>by
  cases d with
  | aG ds=>rw [gk,rZ]; exact tf (by simpa [fa] using h) (by simpa [vg] using ht)
  | _=>simp [fa] at h
 | .aW ss,d,h,ht=>by
  cases d with
  | aW ds=>rw [gk,rZ]; exact tf (by simpa [fa] using h) (by simpa [vg] using ht)
  | _=>simp [fa] at h
theorem tf:∀ {ss:List RS} {ds:List D},jM ss ds=true->vh ss=false->nI ss ds=wo ds
 | [],ds,h,_=>by
  cases ds with
  | nil=>rfl
  | cons d ds=>simp [jM] at h
 | s::ss,ds,h,ht=>by
  cases ds with
  | nil=>simp [jM] at h
  | cons d ds=>
   simp only [jM,wX] at h;simp only [vh,agc] at ht;rw [nI,wo,Oj h.1 ht.1,tf h.2 ht.2]
end
section
variable {R:Type}
open Classical in
theorem Hl (k:cJ) (f:k.T->bD R) (x:k.T) (l:List D):feed (.ty k f) (enc k x::l)=feed (f x) l:=by
 have h:∃ y,enc k x=enc k y:=⟨x,rfl⟩;have e:Classical.choose h=x:=(aaY (Classical.choose_spec h)).symm;show (if h:∃ y,enc k x=enc k y then feed (f (Classical.choose h)) l else none)=_
 rw [dif_pos h,e]
mutual
theorem tg:∀ {s:RS} {d:D} (f:D->bD R) (l:List D),fa s d=true->feed (qN s f) (gk s d++l)=feed (f d) l
 | .int k,d,f,l,h=>by
  cases d<;>simp [fa,fe] at h
  subst h;simp [qN,gk,feed]
 | .bool,d,f,l,h=>by
  cases d<;>simp [fa] at h
  simp [qN,gk,feed]
 | .str,d,f,l,h=>by
  cases d<;>simp [fa] at h
  simp [qN,gk,feed]
 | .sl s,d,f,l,h=>by
  cases d with
  | sl g s' n cs=>cases g with
   | none=>simp [fa] at h; subst h; simp [qN,gk,feed]
   | some g=>simp [fa] at h
  | _=>simp [fa] at h
 | .cX s,d,f,l,h=>by
  cases d with
  | sl g s' n cs=>cases g with
   | none=>simp [fa] at h
   | some g=>cases g with
    | true=>simp [fa] at h
    | false=>simp [fa] at h; subst h; simp [qN,gk,feed]
  | _=>simp [fa] at h
 | .undef,d,f,l,h=>by
  cases d<;>simp [fa] at h
  simp [qN,gk]
 | .agg ss,d,f,l,h=>by
  cases d with
  | agg ds=>rw [qN,gk]; exact mg _ l (by simpa [fa] using h)
  | _=>simp [fa] at h
 | .aG ss,d,f,l,h=>by
  cases d with
  | aG ds=>rw [qN,gk]; exact mg _ l (by simpa [fa] using h)
  | _=>simp [fa] at h
 | .aW ss,d,f,l,h=>by
  cases d with
  | aW ds=>rw [qN,gk]; exact mg _ l (by simpa [fa] using h)
  | _=>simp [fa] at h
 | .ty k,d,f,l,h=>by
  have h:∃ x,d=enc k x:=by simpa [fa] using h
  obtain ⟨x,rfl⟩:=h;rw [qN,gk,aeg]
  ·exact Hl k _ x l
  all_goals simp
theorem mg:∀ {ss:List RS} {ds:List D} (f:List D->bD R) (l:List D),jM ss ds=true->feed (AO ss f) (nI ss ds++l)=feed (f ds) l
 | [],ds,f,l,h=>by
  cases ds with
  | nil=>rfl
  | cons d ds=>simp [jM] at h
 | s::ss,ds,f,l,h=>by
  cases ds with
  | nil=>simp [jM] at h
  | cons d ds=>
   simp only [jM,wX] at h;rw [AO,nI,acz,tg _ _ h.1,mg _ _ h.2]
end
end
noncomputable def lG (c:cn) (P:Program) (f:FuncId) (ds:List D):Option (D × List D):=by
 classical exact if h:∃ r,Comes c P f ds r then some (Classical.choose h) else none
theorem XS {c:cn} {P:Program} {f:FuncId} {ds:List D} {r:D × List D} (h:lG c P f ds=some r):Comes c P f ds r:=by
 unfold lG at h;split at h
 ·rename_i hh;rw [mN] at h;rw [<- h];exact Classical.choose_spec hh
 ·simp at h
theorem Vd {c:cn} {P:Program} {f:FuncId} {ds:List D} {r r':D × List D} (h:Comes c P f ds r) (h':Comes c P f ds r'):r=r':=by
 obtain ⟨k,hk⟩:=Ev.and h h';have h3:=hk k (acD _);exact agl (h3.1.symm.trans h3.2)
theorem Ok {c:cn} {P:Program} {f:FuncId} {ds:List D} {r:D × List D} (h:Comes c P f ds r):lG c P f ds=some r:=by
 unfold lG;rw [dif_pos ⟨r,h⟩];exact congrArg some (Vd (Classical.choose_spec (⟨r,h⟩:∃ r,Comes c P f ds r)) h)
structure Sg where
 sig:FuncId->Option (RS × List RS)
 em:FuncId->Bool
abbrev Cv (R:Type):=FuncId->List D->bD R->Option R
noncomputable def eK {R:Type} (c:cn) (P:Program) (sg:Sg):Cv R:=fun g ds t=>
 if g=999999 then feed t ds else
 match lG c P g ds,sg.sig g with
 | some (r,outs),some (s,ss)=>if fa s r&&jM ss outs&&(!(vg s||vh ss)||(dw r&&outs.all dw)) then feed t (gk s r++(nI ss outs++[])) else none
 | _,_=>none
theorem afl {R:Type} {c:cn} {P:Program} {sg:Sg} {g:FuncId} {ds:List D} {r:D} {outs:List D} (t:bD R) (h:Comes c P g ds (r,outs)) (hs:(match sg.sig g with | some (s,ss)=>fa s r&&jM ss outs&&!(vg s||vh ss) | none=>false)=true) (hg:g≠999999):eK c P sg g ds t=feed t (rZ r++(wo outs++[])):=by
 unfold eK;rw [if_neg hg,Ok h];split at hs
 ·rename_i s ss hg;rw [hg];simp only [wX,adv,agc] at hs;simp only [hs,sC,Bool.or_self,Bool.not_false,Bool.true_or,if_true];rw [Oj hs.1.1 hs.2.1,tf hs.1.2 hs.2.2]
 ·simp at hs
theorem afm {R:Type} {c:cn} {P:Program} {sg:Sg} {g:FuncId} {ds:List D} {r:D} {outs:List D} {s:RS} {ss:List RS} (t:bD R) (h:Comes c P g ds (r,outs)) (hs:sg.sig g=some (s,ss)) (h1:fa s r=true) (h2:jM ss outs=true) (h3:dw r=true) (h4:outs.all dw=true) (hg:g≠999999):eK c P sg g ds t=feed t (gk s r++(nI ss outs++[])):=by
 unfold eK;rw [if_neg hg,Ok h,hs];simp only [h1,h2,h3,h4,sC,Bool.or_true,if_true]
def St.Ol (st:St) (r p:Nat) (zs:List D):Option St:=
 match lk st.rt r with
 | some l=>match l[p]? with
  | some (.sl none s n _)=>some { st with rt:=U1 st.rt r (l.set p (.sl none s n zs)) }
  | _=>none
 | none=>none
theorem PN {st:St} {r p:Nat} {ys:List D} (h:st.cells r [p]=some ys):st.Ol r p ys=some st:=by
 unfold St.cells at h;unfold St.Ol;split at h
 case h_2=>simp at h
 rename_i l hl;simp only [jF] at h;split at h
 case h_2=>simp at h
 rename_i s n xs hp;simp only [mN] at h;subst h;simp only [hl,hp];have e:l.set p (.sl none s n xs)=l:=by
  apply agk;intro i;rw [ajJ];split
  ·rename_i hi;subst hi;rw [if_pos (aaa.1 hp).1,hp]
  ·rfl
 rw [e,Dy _ _ _ hl]
section
variable {R:Type} (pr:ej) (c:cn) (sg:Sg) (cv:Cv R) (J:Nat->St->Option R) (aC:FuncId)
def LY (cj:St) (t:Bool) (dst:Option Nat) (r:D) (k:St->Option R):Option R:=
 match dst with
 | some i=>k ((cj.qm (cj.of+i) (if t then gJ true r else r)).1.put (some i) (cj.qm (cj.of+i) (if t then gJ true r else r)).2)
 | none=>k cj
def Fo (st:St) (r p:Nat) (k:St->Option R):Option R:=
 match st.cells r [p] with
 | some ys=>cv 999999 [.sl none 0 0 ys] (.sl fun _ zs=>.done (match st.Ol r p zs with
  | some st'=>k st'
  | none=>none))
 | none=>k st
def Fp (st:St) (dst:Option Nat) (g:FuncId) (args:List D) (k:St->Option R):Option R:=
 if g=999999 then none else
 match mH st (c.own g) args,sg.sig g with
 | some (ds,aP),some (s,ss)=>
  br (if px (c.own g) ds then true else ZU pr (c.own g) ds)
  (cv g (if px (c.own g) ds then j8 (c.own g) ds else ds) (qN s fun r=>AO ss fun outs=>.done (br (match vg s||vh ss with | true=>true | false=>CM pr r&&outs.all (CM pr))
   (match nF pr aP id (c.own g) args (if px (c.own g) ds then outs.map (gJ true) else outs) with
    | some (q,cj)=>br q (LY cj (px (c.own g) ds) dst r k) none
    | none=>none) none))) none
 | _,_=>none
def AP (st:St) (dst:Option Nat) (g:FuncId) (sz r p o:Nat) (rest:List D) (k:St->Option R):Option R:=
 if g=999999 then none else
 match st.cells r [p],sg.sig g,(c.own g).headD false&&!(c.own g).tail.any id with
 | some cs,some (s,ss),true=>
  match st.gI r [p] o (.hole sz (pr.bM cs o)) with
  | some aP=>match uG aP (c.own g).tail rest with
   | some LZ=>
    br (pr.jL sz cs o) (br (pr.nl (pr.bP cs o))
    (cv g (.sl none sz (pr.bM cs o) (pr.bP cs o)::LZ) (qN s fun res=>AO ss fun outs=>.done (br (CM pr res&&outs.all (CM pr))
     (match outs with
      | .sl none sz' n' cs'::_=>if sz=sz'/\outs.length=rest.length+1 then (match (st.eX (cq r [p] o false)).gI r [p] o (.sl none sz' n' cs') with
       | some cj=>br (pr.neq (pr.bM cs o) n') (Fo cv cj r p fun cj=>LY cj false dst res k) none
       | none=>none) else none
      | _=>none) none))) none) none
   | none=>none
  | none=>none
 | _,_,_=>none
def L0 (st:St) (o:Oper) (k:St->Option R):St->Option R:=
 if sg.em aC then (match o.op with
  | .store _ a _=>(match ch c st o.type a with
   | .ptr r [p] _=>fun st'=>Fo cv st' r p k
   | _=>k)
  | _=>k) else k
def SL (st:St) (o:Oper) (k:St->Option R):Option R:=
 match o.op with
 | .call cc=>match cc.callee with
  | .value f=>if cc.args.size≠cc.argTypes.size then none else match ch c st o.type f with
   | .fn g gH=>if c.inl g then none else match sg.em aC,((cc.args.toList.zip cc.argTypes.toList).map fun p=>ch c st p.2 p.1)++gH with
    | true,.ref r [p] o' none::rest=>AP pr c sg cv st o.dst g (c.esz (cc.argTypes.toList.headD 0)) r p o' rest k
    | _,args=>Fp pr c sg cv st o.dst g args k
   | _=>none
  | _=>Ra pr c (fun _ _=>none) xA aC st o k
 | _=>match (if sg.em aC then opE pr c st o else none) with
  | some (g,st')=>br g (L0 c sg cv aC st o k st') none
  | none=>Ra pr c (fun _ _=>none) xA aC st o (L0 c sg cv aC st o k)
def Fq (st:St) (o:Oper) (k:St->Option R):Option R:=
 match uH c aC st o with
 | true=>SL pr c sg cv aC st o k
 | false=>none
def oH (all:Array Oper):List Oper->St->(St->Option R)->Option R
 | [],st,k=>k st
 | o::rest,st,k=>match o.guard with
  | none=>Fq pr c sg cv aC st o fun st'=>oH all rest st' k
  | some (j,want)=>match (all[j]?).bind (·.dst) with
   | some t=>match st.get t with
    | .bool b=>match want with
     | true=>br b (Fq pr c sg cv aC (st.lit t true) o fun st'=>oH all rest st' k) (oH all rest ((st.lit t false).put o.dst (.aG [])) k)
     | false=>br b (oH all rest ((st.lit t true).put o.dst (.aG [])) k) (Fq pr c sg cv aC (st.lit t false) o fun st'=>oH all rest st' k)
    | .aG []=>oH all rest (st.put o.dst (.aG [])) k
    | _=>none
   | none=>oH all rest (st.put o.dst (.aG [])) k
def jmp (i:Nat) (st:St):Option R:=match XP c aC i st with
 | some h=>J i h
 | none=>none
def qO (f:St->Option R) (k:Exit->St->Option R):Exit->St->Option R
 | .normal,st=>f st
 | x,st=>k x st
def vi (id:Nat) (k:Exit->St->Option R):Exit->St->Option R
 | .exit uJ,st=>if uJ=id then k .normal st else k (.exit uJ) st
 | x,st=>k x st
def dF:Code->Nat->St->(Exit->St->Option R)->Option R
 | .skip,_,st,k=>k .normal st
 | .region _ ops false,_,st,k=>oH pr c sg cv aC ops ops.toList st (k .normal)
 | .region _ ops true,_,st,k=>match sm c aC ops ops.size (Array.replicate ops.size false) with
  | some l=>oH pr c sg cv aC ops (opsOf ops l) st (k .normal)
  | none=>none
 | .seq a b,i,st,k=>dF a i st (qO (fun st'=>dF b i st' k) k)
 | .cond x a b,i,st,k=>LW c st x (fun st=>dF a i st k) (fun st=>dF b i st k)
 | .block id a,_,st,k=>dF a id st (vi id k)
 | .loop _,i,st,_=>jmp c J aC i st
 | .exit id,_,st,k=>k (.exit id) st
 | .ret,_,st,k=>k .ret st
 | _,_,_,_=>none
def dt:Code->Nat->(Exit->St->Option R)->Nat->Option (St->Option R)
 | .seq a b,i,k,j=>match dt a i (qO (fun st'=>dF pr c sg cv J aC b i st' k) k) j with
  | some t=>some t
  | none=>dt b i k j
 | .cond _ a b,i,k,j=>match dt a i k j with
  | some t=>some t
  | none=>dt b i k j
 | .block id a,_,k,j=>dt a id (vi id k) j
 | .loop a,i,k,j=>if i=j then some fun h=>dF pr c sg cv J aC a i h (qO (jmp c J aC i) k)
  else dt a i (qO (jmp c J aC i) k) j
 | _,_,_,_=>none
end
def lH:Code->Nat->List Nat
 | .seq a b,i=>lH a i++lH b i
 | .cond _ a b,i=>lH a i++lH b i
 | .block id a,_=>lH a id
 | .loop a,i=>i::lH a i
 | _,_=>[]
def qP:D->D
 | .aW _=>.aW []
 | .agg cs=>if cs.any iR then .agg [.sl none 0 0 []] else .undef
 | .sl none _ _ _=>.sl none 0 0 []
 | .aG vs=>.aG vs
 | _=>.undef
abbrev Rz:=D × List D
section
variable (pr:ej) (c:cn) (sg:Sg) (cv:Cv Rz) (J:Nat->St->Option Rz) (aC:FuncId)
def DB (fn:Func) (sk:List D) (x:Exit) (st:St):Option Rz:=TR (c.gone aC) (Dx c fn sk x st)
def ue (fn:Func) (sk:List D) (j:Nat) (h:St):Option Rz:=
 match fn.body with
 | some body=>match dt pr c sg cv J aC body 0 (DB c aC fn sk) j with
  | some t=>t h
  | none=>none
 | none=>none
def AQ (fn:Func) (args:List D):Option Rz:=
 match fn.body with
 | some body=>dF pr c sg cv J aC body 0 (np fn.ntmps 0 args ⟨[],[],[],0⟩) (DB c aC fn (args.map qP))
 | none=>none
end
noncomputable def Jn (c:cn) (P:Program) (sg:Sg) (f:FuncId) (fn:Func) (sk:List D):Nat->Nat->St->Option Rz
 | 0=>fun _ _=>none
 | n+1=>fun j h=>ue ad c sg (eK c P sg) (Jn c P sg f fn sk n) f fn sk j h
def W (c:cn) (P:Program) (sg:Sg) (f:FuncId) (fn:Func) (sk:List D) (j:Nat) (h:St) (r:Rz):Prop:=∃ n,Jn c P sg f fn sk n j h=some r
theorem SM (st:St) (r:Nat) (d:D):oa st r (qP d)=oa st r d:=by
 cases d with
 | aW cs=>rfl
 | agg cs=>
  by_cases h:cs.any iR=true
  ·have e:qP (.agg cs)=.agg [.sl none 0 0 []]:=by simp only [qP,h,if_true]
   have h1:eQ (.agg cs)=true:=h;have h2:eQ (.agg [.sl none 0 0 []])=true:=rfl;rw [e];unfold oa;rw [h1,h2]
  ·have e:qP (.agg cs)=.undef:=by simp only [qP,if_neg h]
   have h1:eQ (.agg cs)=false:=Bool.eq_false_iff.2 h;have h2:eQ .undef=false:=rfl;rw [e];unfold oa;rw [h1,h2];rfl
 | sl g s n cs=>
  cases g with
  | none=>rfl
  | some g=>rfl
 | aG vs=>rfl
 | _=>rfl
theorem DC (n:Nat):∀ (i:Nat) (ds:List D) (st:St),po n i (ds.map qP) st=po n i ds st
 | _,[],_=>rfl
 | i,d::ds,st=>by
  simp only [ac6,po,SM];split
  ·rw [DC n (i+1) ds st]
  ·split
   ·rename_i o st' h;rw [DC n (i+1) ds st']
   ·rfl
theorem aaZ (c:cn) (fn:Func) (args:List D):Dx c fn (args.map qP)=Dx c fn args:=by
 funext x st;unfold Dx;simp only [DC,aeR]
section
variable {R:Type} {P:Program} {c:cn} (aw:ey c P) {sg:Sg} {aC:FuncId}
include aw
theorem DD {st:St} {r p:Nat} {k:St->Option R}:Fo (eK c P sg) st r p k=k st:=by
 have _:=aw;unfold Fo;split
 ·rename_i ys hys;unfold eK;simp only [if_true,feed,PN hys]
 ·rfl
theorem aa0 {st:St} {o:Oper} {k:St->Option R}:L0 c sg (eK c P sg) aC st o k=k:=by
 unfold L0;split
 ·split
  ·split
   ·funext st';exact DD aw
   ·rfl
  ·rfl
 ·rfl
theorem Rk {cj:St} {t:Bool} {dst:Option Nat} {r:D} {k:St->Option R} {x:R} (h:LY cj t dst r k=some x):∃ st',(match dst with
  | some i=>some ((cj.qm (cj.of+i) (if t then gJ true r else r)).1.put (some i) (cj.qm (cj.of+i) (if t then gJ true r else r)).2)
  | none=>some cj)=some st'/\k st'=some x/\∀ (k':St->Option R),LY cj t dst r k'=k' st':=by
 have _:=aw;cases dst with
 | none=>exact ⟨_,rfl,h,fun _=>rfl⟩
 | some i=>exact ⟨_,rfl,h,fun _=>rfl⟩
theorem XT {st:St} {dst:Option Nat} {g:FuncId} {args:List D} {k:St->Option R} {r:R} (h:Fp ad c sg (eK c P sg) st dst g args k=some r):∃ st',ku c (lG c P) st dst g args=some st'/\k st'=some r/\∀ (k':St->Option R) r',k' st'=some r'->Fp ad c sg (eK c P sg) st dst g args k'=some r':=by
 unfold Fp at h;split at h
 ·simp at h
 rename_i hg;split at h
 case h_2=>simp at h
 rename_i ds aP s ss lA Om;obtain ⟨hl,h⟩:=oq h;unfold eK at h;rw [if_neg hg,Om] at h;split at h
 case h_2=>simp at h
 rename_i rr outs s' ss' hV ri;simp only [mN,sF] at ri;obtain ⟨rfl,rfl⟩:=ri;split at h
 case isFalse=>simp at h
 rename_i cF;have XU:=cF;simp only [wX] at cF;obtain ⟨cF,XV⟩:=cF;rw [tg _ _ cF.1,mg _ _ cF.2] at h;simp only [feed] at h;obtain ⟨h1,h2⟩:=oq h;have hU:(dw rr&&outs.all dw)=true:=by
  have e:CM ad=dw:=funext Fj;cases lO:vg s||vh ss with
  | true=>rw [lO] at XV; simpa using XV
  | false=>
   rw [lO] at h1;rw [<- e];exact h1
 split at h2
 case h_2=>simp at h2
 rename_i q cj hb;obtain ⟨hq,h2⟩:=oq h2;have ht:fB (c.own g) ds=px (c.own g) ds:=by
  cases cK:px (c.own g) ds with
  | true=>exact Fm cK
  | false=>rw [cK] at hl; exact CN cK (by simpa using hl)
 obtain ⟨st',k1,k2,k3⟩:=Rk aw h2;refine ⟨st',?_,k2,fun k' r' hk=>?_⟩
 ·unfold ku;rw [lA];simp only [ht,hV,hU,if_true,ve hb hq];cases dst with
  | none=>exact k1
  | some i=>exact k1
 ·unfold Fp;rw [if_neg hg,lA,Om];simp only;rw [hl];simp only [br];unfold eK;rw [if_neg hg,hV,Om];simp only;rw [if_pos XU,tg _ _ cF.1,mg _ _ cF.2];simp only [feed,h1,br,hb,hq];rw [k3,hk]
theorem AR:∀ {b:List Bool} {ds:List D} {st:St},b.any id=false->mO st b ds=some (ds,st)
 | _,[],_,_=>rfl
 | b,d::ds,st,h=>by
  have _:=aw;have hb:b.headD false=false/\b.tail.any id=false:=by
   cases b with
   | nil=>simp
   | cons x xs=>simpa using h
  simp only [mO,hb.1,acq,if_false,AR hb.2]
theorem zx:∀ {b:List Bool} {ds os:List D} {st:St} {h:D->D},b.any id=false->ds.length=os.length->im st h b ds os=some st
 | _,[],_,_,_,_,_=>rfl
 | b,d::ds,[],st,h,hn,hl=>by simp at hl
 | b,d::ds,o::os,st,h,hn,hl=>by
  have _:=aw;have hb:b.headD false=false/\b.tail.any id=false:=by
   cases b with
   | nil=>simp
   | cons x xs=>simpa using hn
  simp only [im,hb.1,acq,if_false];exact zx hb.2 (by simpa using hl)
theorem CO:∀ {b:List Bool} {ds:List D},b.any id=false->fB b ds=false
 | _,[],_=>rfl
 | b,d::ds,hn=>by
  have _:=aw;have hb:b.headD false=false/\b.tail.any id=false:=by
   cases b with
   | nil=>simp
   | cons x xs=>simpa using hn
  simp only [fB,hb.1,agj,Bool.false_or];exact CO hb.2
theorem SN {st aP:St} {r p o:Nat} {cs:List D} {d:D} (hc:st.cells r [p]=some cs) (h:st.gI r [p] o d=some aP):aP.cells r [p]=some (cs.set o d):=by
 have _:=aw;unfold St.cells at hc ⊢;unfold St.gI at h;split at h
 case h_2=>simp at h
 rename_i l hl;rw [hl] at hc;simp only at hc;split at h
 case h_2=>simp at h
 rename_i l' hm;simp only [mN] at h;subst h;simp only [gK];simp only [jF] at hc;split at hc
 case h_2=>simp at hc
 rename_i s n xs hp;simp only [mN] at hc;subst hc;simp only [n9,hp,mN] at hm;subst hm;have cK:p < l.length:=(aaa.1 hp).1;simp only [jF,ajJ,cK,if_true]
omit aw in
theorem Rl {α:Type} (f:α->α):∀ (l:List (Nat × α)) (k:Nat),lk (gd f l) k=(lk l k).map f
 | [],_=>rfl
 | (j,w)::t,k=>by
  simp only [gd,lk];split
  ·rfl
  ·exact Rl f t k
theorem SO {st aP:St} {r p o:Nat} {h d:D} {b:Bool} (hs:st.gI r [p] o h=some aP):(aP.eX (cq r [p] o b)).gI r [p] o d=(st.eX (cq r [p] o b)).gI r [p] o d:=by
 have _:=aw;unfold St.gI at hs;split at hs
 case h_2=>simp at hs
 rename_i l hl;split at hs
 case h_2=>simp at hs
 rename_i l' hm;simp only [mN] at hs;subst hs;simp only [n9] at hm;split at hm
 case h_2=>simp at hm
 rename_i s n xs hp;simp only [mN] at hm;subst hm;have cK:p < l.length:=(aaa.1 hp).1;have e1:(l.map (fg (cq r [p] o b)))[p]?=some (.sl none s n xs):=by
  rw [adp,hp];rfl
 have e2:((l.set p (.sl none s n (xs.set o h))).map (fg (cq r [p] o b)))[p]?=some (.sl none s n (xs.set o h)):=by
  rw [adp,ajJ];simp only [cK,if_true];rfl
 have e0:lk (gd (List.map (fg (cq r [p] o b))) st.rt) r=some (l.map (fg (cq r [p] o b))):=by
  rw [Rl,hl];rfl
 have e3:((l.set p (.sl none s n (xs.set o h))).map (fg (cq r [p] o b))).set p (.sl none s n (xs.set o d))=(l.map (fg (cq r [p] o b))).set p (.sl none s n (xs.set o d)):=by
  rw [agP,List.set_set]
 unfold St.gI;simp only [St.eX,Hc,gK,e0,n9,e1,e2,List.set_set,e3,C2]
theorem Ve {st:St} {dst:Option Nat} {g:FuncId} {sz a p o:Nat} {rest:List D} {k:St->Option R} {r:R} (h:AP ad c sg (eK c P sg) st dst g sz a p o rest k=some r):∃ st',ku c (lG c P) st dst g (.ref a [p] o none::rest)=some st'/\k st'=some r/\∀ (k':St->Option R) r',k' st'=some r'->AP ad c sg (eK c P sg) st dst g sz a p o rest k'=some r':=by
 unfold AP at h;split at h
 ·simp at h
 rename_i hg;split at h
 case h_2=>simp at h
 rename_i cs s ss ec Om jr;simp only [wX,adv] at jr;split at h
 case h_2=>simp at h
 rename_i aP iv;split at h
 case h_2=>simp at h
 rename_i LZ hro;obtain ⟨me,h⟩:=oq h;obtain ⟨ZK,h⟩:=oq h;simp only [DD aw] at h;unfold eK at h;rw [if_neg hg,Om] at h;split at h
 case h_2=>simp at h
 rename_i rr outs s' ss' hV ri;simp only [mN,sF] at ri;obtain ⟨rfl,rfl⟩:=ri;split at h
 case isFalse=>simp at h
 rename_i cF;have XU:=cF;simp only [wX] at cF;obtain ⟨cF,XV⟩:=cF;rw [tg _ _ cF.1,mg _ _ cF.2] at h;simp only [feed] at h;obtain ⟨h1,h2⟩:=oq h;have hU:(dw rr&&outs.all dw)=true:=by
  have e:CM ad=dw:=funext Fj;rw [<- e];exact h1
 split at h2
 case h_2=>simp at h2
 rename_i sz' n' cs' afn;split at h2
 case isFalse=>simp at h2
 rename_i ahG;obtain ⟨rfl,Ue⟩:=ahG;split at h2
 case h_2=>simp at h2
 rename_i cj ZY;have Vf:=ZY;rw [<- SO aw iv] at Vf;obtain ⟨hq,h2⟩:=oq h2;have hn:ad.bM cs o=n':=by simpa [ad] using hq
 obtain ⟨st',k1,k2,k3⟩:=Rk aw h2;have cB:st.cell a [p] o=some (.sl none sz (ad.bM cs o) (ad.bP cs o)):=by
  unfold St.cell;rw [ec];exact Hh me
 have adC:aP.cell a [p] o=some (.hole sz (ad.bM cs o)):=by
  have cK:o < cs.length:=(aaa.1 (Hh me)).1;unfold St.cell;rw [SN aw ec iv];simp only [ajJ,cK,if_true]
 have lA:mH st (c.own g) (.ref a [p] o none::rest)=some (.sl none sz (ad.bM cs o) (ad.bP cs o)::LZ,aP):=by
  unfold mH;simp only [mO,jr.1,if_true,Cj,iS,cB,iv,trim,AR aw jr.2,uG,hro]
 have afo:fB (c.own g) (.sl none sz (ad.bM cs o) (ad.bP cs o)::LZ)=false:=by
  simp only [fB,CO aw jr.2,Bool.or_false,jr.1,agI,bX,dc,TO,acd,ag7,bW];have:cb (ad.bP cs o)=true:=ZK;rw [this];rfl
 have E6:im aP id (c.own g) (.ref a [p] o none::rest) (.sl none sz n' cs'::afn)=some cj:=by
  simp only [im,jr.1,if_true,BB,pn,id,adC];simp only [hn,and_self,if_true,Vf];exact zx aw jr.2 (by simpa using Ue.symm)
 refine ⟨st',?_,k2,fun k' r' hk=>?_⟩
 ·unfold ku;rw [lA];simp only [afo,acq,if_false,hV,hU,if_true,E6];cases dst with
  | none=>exact k1
  | some i=>exact k1
 ·unfold AP;simp only [DD aw];rw [if_neg hg,ec,Om];simp only [jr.1,jr.2,Bool.not_false,sC,iv,hro,me,ZK,br];unfold eK;rw [if_neg hg,hV,Om];simp only;rw [if_pos XU,tg _ _ cF.1,mg _ _ cF.2];simp only [feed,h1,br];rw [if_pos ⟨trivial,Ue⟩,ZY];simp only [hq];rw [k3,hk]
theorem aa1 {st:St} {o:Oper} {k:St->Option R} {r:R} (h:SL ad c sg (eK c P sg) aC st o k=some r):∃ st',eY c (lG c P) xA aC st o=some st'/\k st'=some r/\∀ (k':St->Option R) r',k' st'=some r'->SL ad c sg (eK c P sg) aC st o k'=some r':=by
 have hK:∀ (k:St->Option R),Ra ad c (fun _ _=>none) xA aC st o k=some r->∃ st',eY c (lG c P) xA aC st o=some st'/\k st'=some r/\∀ (k':St->Option R) r',k' st'=some r'->Ra ad c (fun _ _=>none) xA aC st o k'=some r':=by
  intro k h;have hh:=h;unfold Ra at h;split at h
  case h_2=>simp at h
  rename_i hc;obtain ⟨h1,h2⟩:=oq h;split at h2
  ·rename_i st' hu;refine ⟨st',ads aw (by simp) h1 hu,h2,fun k' r' hk=>?_⟩
   unfold Ra;rw [hc];simp only;rw [h1,hu];exact hk
  ·simp at h2
 unfold SL at h ⊢;simp only [aa0 aw] at h ⊢;split at h
 ·rename_i cc ho;split at h
  ·rename_i f mf;split at h
   ·simp at h
   rename_i cI;split at h
   case h_2=>simp at h
   rename_i g gH hev;split at h
   ·simp at h
   rename_i lR;have aj:∀ {args:List D} {st':St},((cc.args.toList.zip cc.argTypes.toList).map fun p=>ch c st p.2 p.1)++gH=args->ku c (lG c P) st o.dst g args=some st'->eY c (lG c P) xA aC st o=some st':=by
    intro args st' ha hd;unfold eY;simp only [ho,mf];rw [if_neg cI];simp only [hev,if_neg lR,ha];exact hd
   split at h
   ·rename_i a p o' rest p8 adE;obtain ⟨st',h1,h2,h3⟩:=Ve aw h;refine ⟨st',aj adE h1,h2,fun k' r' hk=>?_⟩;rw [if_neg cI];simp only [hev,if_neg lR,p8,adE];exact h3 k' r' hk
   ·rename_i cQ;obtain ⟨st',h1,h2,h3⟩:=XT aw h;refine ⟨st',aj rfl h1,h2,fun k' r' hk=>?_⟩;rw [if_neg cI];simp only [hev,if_neg lR];exact h3 k' r' hk
  ·rename_i mf;obtain ⟨st',h1,h2,h3⟩:=hK k h;refine ⟨st',h1,h2,fun k' r' hk=>?_⟩;exact h3 k' r' hk
 ·rename_i hnc;split at h
  ·rename_i g st' he;obtain ⟨hg,h2⟩:=oq h;split at he
   case isFalse=>simp at he
   refine ⟨st',ady he hg,h2,fun k' r' hk=>?_⟩;rw [hg];exact hk
  ·rename_i he;obtain ⟨st',h1,h2,h3⟩:=hK k h;refine ⟨st',h1,h2,fun k' r' hk=>?_⟩;exact h3 k' r' hk
theorem adF {st:St} {o:Oper} {k:St->Option R} {r:R} (h:Fq ad c sg (eK c P sg) aC st o k=some r):∃ st',(if uH c aC st o then eY c (lG c P) xA aC st o else none)=some st'/\k st'=some r/\∀ (k':St->Option R) r',k' st'=some r'->Fq ad c sg (eK c P sg) aC st o k'=some r':=by
 unfold Fq at h;split at h
 case h_2=>simp at h
 rename_i hc;obtain ⟨st',h1,h2,h3⟩:=aa1 aw h;refine ⟨st',by rw [if_pos hc]; exact h1,h2,fun k' r' hk=>?_⟩
 unfold Fq;rw [hc];exact h3 k' r' hk
end
section
variable {R:Type} {P:Program} {c:cn} (aw:ey c P) {sg:Sg} {aC:FuncId}
include aw
theorem mP {all:Array Oper} {k:St->Option R} {r:R}:∀ {os:List Oper} {st:St},oH ad c sg (eK c P sg) aC all os st k=some r->∃ st',uI c (lG c P) xA aC all os st=some st'/\k st'=some r/\∀ (k':St->Option R) r',k' st'=some r'->oH ad c sg (eK c P sg) aC all os st k'=some r'
 | [],st,h=>⟨st,rfl,h,fun _ _ hk=>hk⟩
 | o::os,st,h=>by
  have run:∀ st,Fq ad c sg (eK c P sg) aC st o (fun st'=>oH ad c sg (eK c P sg) aC all os st' k)=some r->∃ st',(if uH c aC st o then (match eY c (lG c P) xA aC st o with | some st'=>uI c (lG c P) xA aC all os st' | none=>none) else none)=some st'/\k st'=some r/\∀ (k':St->Option R) r',k' st'=some r'->Fq ad c sg (eK c P sg) aC st o (fun st'=>oH ad c sg (eK c P sg) aC all os st' k')=some r':=by
   intro st h;obtain ⟨aP,h1,h2,h3⟩:=adF aw h;obtain ⟨cj,k1,k2,k3⟩:=mP h2;refine ⟨cj,?_,k2,fun k' r' hk=>h3 _ _ (k3 k' r' hk)⟩;split at h1
   case isFalse=>simp at h1
   rename_i hc;rw [if_pos hc,h1];exact k1
  simp only [oH] at h ⊢;simp only [uI,yw];split at h
  ·rename_i hg;rw [hg];exact run st h
  ·rename_i j want hg;rw [hg];simp only;split at h
   ·rename_i t ht;rw [ht];simp only;split at h
    ·rename_i b hb;rw [hb];simp only;cases want with
     | true=>
      simp only at h;rcases nD h with ⟨rfl,h1⟩ | ⟨rfl,h1⟩
      ·rw [oZ hb] at h1;obtain ⟨aP,k1,k2,k3⟩:=run st h1;refine ⟨aP,by simp only [beq_self_eq_true]; exact k1,k2,fun k' r' hk=>?_⟩
       simp only [br];rw [oZ hb];exact k3 k' r' hk
      ·rw [oZ hb] at h1;obtain ⟨aP,k1,k2,k3⟩:=mP h1;refine ⟨aP,by simpa using k1,k2,fun k' r' hk=>?_⟩
       simp only [br];rw [oZ hb];exact k3 k' r' hk
     | false=>
      simp only at h;rcases nD h with ⟨rfl,h1⟩ | ⟨rfl,h1⟩
      ·rw [oZ hb] at h1;obtain ⟨aP,k1,k2,k3⟩:=mP h1;refine ⟨aP,by simpa using k1,k2,fun k' r' hk=>?_⟩
       simp only [br];rw [oZ hb];exact k3 k' r' hk
      ·rw [oZ hb] at h1;obtain ⟨aP,k1,k2,k3⟩:=run st h1;refine ⟨aP,by simp only [beq_self_eq_true]; exact k1,k2,fun k' r' hk=>?_⟩
       simp only [br];rw [oZ hb];exact k3 k' r' hk
    ·rename_i hb;rw [hb];exact mP h
    ·simp at h
   ·rename_i ht;rw [ht];exact mP h
theorem JF {all:Array Oper} {os:List Oper} {st:St} {k k':St->Option R} {r:R} (hk:∀ st r,k st=some r->k' st=some r) (h:oH ad c sg (eK c P sg) aC all os st k=some r):oH ad c sg (eK c P sg) aC all os st k'=some r:=by
 obtain ⟨st',_,h2,h3⟩:=mP aw h;exact h3 k' r (hk _ _ h2)
theorem DE {J J':Nat->St->Option R} (hJ:∀ j h r,J j h=some r->J' j h=some r) {i:Nat} {st:St} {r:R} (h:jmp c J aC i st=some r):jmp c J' aC i st=some r:=by
 have _:=aw;unfold jmp at h ⊢;split at h
 ·exact hJ _ _ _ h
 ·simp at h
omit aw in
theorem th {f f':St->Option R} {k k':Exit->St->Option R} (hf:∀ st r,f st=some r->f' st=some r) (hk:∀ x st r,k x st=some r->k' x st=some r):∀ x st r,qO f k x st=some r->qO f' k' x st=some r:=by
 intro x st r h;cases x with
 | normal=>exact hf _ _ h
 | _=>exact hk _ _ _ h
omit aw in
theorem AS {id:Nat} {k k':Exit->St->Option R} (hk:∀ x st r,k x st=some r->k' x st=some r):∀ x st r,vi id k x st=some r->vi id k' x st=some r:=by
 intro x st r h;cases x with
 | exit uJ=>
  simp only [vi] at h ⊢;split at h
  ·rename_i e; rw [if_pos e]; exact hk _ _ _ h
  ·rename_i e; rw [if_neg e]; exact hk _ _ _ h
 | _=>exact hk _ _ _ h
theorem yZ {J J':Nat->St->Option R} (hJ:∀ j h r,J j h=some r->J' j h=some r):∀ {code:Code} {i:Nat} {st:St} {k k':Exit->St->Option R} {r:R},(∀ x st r,k x st=some r->k' x st=some r)->dF ad c sg (eK c P sg) J aC code i st k=some r->dF ad c sg (eK c P sg) J' aC code i st k'=some r:=by
 intro code
 induction code with
 | skip=>intro i st k k' r hk h; exact hk _ _ _ h
 | exit id=>intro i st k k' r hk h; exact hk _ _ _ h
 | ret=>intro i st k k' r hk h; exact hk _ _ _ h
 | region id ops draw=>
  intro i st k k' r hk h;cases draw with
  | false=>
   simp only [dF] at h ⊢;exact JF aw (hk _) h
  | true=>
   simp only [dF] at h ⊢;split at h
   ·exact JF aw (hk _) h
   ·simp at h
 | seq a b eP kF=>
  intro i st k k' r hk h;simp only [dF] at h ⊢;exact eP (th (fun st r hx=>kF hk hx) hk) h
 | cond v a b eP kF=>
  intro i st k k' r hk h;simp only [dF,LW] at h ⊢;split at h
  ·split at h
   ·rcases nD h with ⟨rfl,h1⟩ | ⟨rfl,h1⟩
    ·exact eP hk h1
    ·exact kF hk h1
   ·simp at h
  ·split at h
   ·rcases nD h with ⟨rfl,h1⟩ | ⟨rfl,h1⟩
    ·exact eP hk h1
    ·exact kF hk h1
   ·simp at h
 | block id a eP=>
  intro i st k k' r hk h;simp only [dF] at h ⊢;exact eP (AS hk) h
 | loop a eP=>intro i st k k' r hk h; exact DE aw hJ h
 | _=>intro i st k k' r hk h; simp [dF] at h
end
section
variable {R:Type} {pr:ej} {c:cn} {sg:Sg} {cv:Cv R} {J:Nat->St->Option R} {aC:FuncId}
theorem tj:∀ {code:Code} {i:Nat} {k:Exit->St->Option R} {j:Nat} {t:St->Option R},dt pr c sg cv J aC code i k j=some t->j∈lH code i:=by
 intro code
 induction code with
 | seq a b eP kF=>
  intro i k j t h;simp only [dt] at h;rw [lH,sE];split at h
  ·rename_i t' ht;exact .inl (eP ht)
  ·exact .inr (kF h)
 | cond v a b eP kF=>
  intro i k j t h;simp only [dt] at h;rw [lH,sE];split at h
  ·rename_i t' ht;exact .inl (eP ht)
  ·exact .inr (kF h)
 | block id a eP=>intro i k j t h; simp only [dt] at h; rw [lH]; exact eP h
 | loop a eP=>
  intro i k j t h;simp only [dt] at h;rw [lH,acK];split at h
  ·rename_i hij; exact .inl hij.symm
  ·exact .inr (eP h)
 | _=>intro i k j t h; simp [dt] at h
end
section
variable {R:Type} {pr:ej} {c:cn} {sg:Sg} {cv:Cv R} {J J':Nat->St->Option R} {aC:FuncId}
theorem uf:∀ {code:Code} {i:Nat} {k k':Exit->St->Option R} {j:Nat},dt pr c sg cv J aC code i k j=none->dt pr c sg cv J' aC code i k' j=none:=by
 intro code
 induction code with
 | seq a b eP kF=>
  intro i k k' j h;simp only [dt] at h ⊢;split at h
  ·simp at h
  ·rename_i h1;rw [eP h1];exact kF h
 | cond v a b eP kF=>
  intro i k k' j h;simp only [dt] at h ⊢;split at h
  ·simp at h
  ·rename_i h1;rw [eP h1];exact kF h
 | block id a eP=>intro i k k' j h; simp only [dt] at h ⊢; exact eP h
 | loop a eP=>
  intro i k k' j h;simp only [dt] at h ⊢;split at h
  ·simp at h
  ·rename_i e;rw [if_neg e];exact eP h
 | _=>intro i k k' j h; rfl
end
section
variable {P:Program} {c:cn} (aw:ey c P) {sg:Sg} {f:FuncId} {fn:Func} {sk:List D} {body:Code} (sv:fn.body=some body)
include aw
theorem SP {J J':Nat->St->Option Rz} (hJ:∀ j h r,J j h=some r->J' j h=some r):∀ {code:Code} {i:Nat} {k k':Exit->St->Option Rz} {j:Nat} {t:St->Option Rz},(∀ x st r,k x st=some r->k' x st=some r)->dt ad c sg (eK c P sg) J f code i k j=some t->∃ t',dt ad c sg (eK c P sg) J' f code i k' j=some t'/\∀ h r,t h=some r->t' h=some r:=by
 intro code
 induction code with
 | seq a b eP kF=>
  intro i k k' j t hk h;simp only [dt] at h ⊢;have On:=th (f:=fun st'=>dF ad c sg (eK c P sg) J f b i st' k) (f':=fun st'=>dF ad c sg (eK c P sg) J' f b i st' k') (fun st r hx=>yZ aw hJ hk hx) hk;split at h
  ·rename_i t1 h1;obtain ⟨t',h2,h3⟩:=eP On h1;rw [h2];simp only [mN] at h;subst h;exact ⟨t',rfl,h3⟩
  ·rename_i h1;rw [uf h1];exact kF hk h
 | cond v a b eP kF=>
  intro i k k' j t hk h;simp only [dt] at h ⊢;split at h
  ·rename_i t1 h1;obtain ⟨t',h2,h3⟩:=eP hk h1;rw [h2];simp only [mN] at h;subst h;exact ⟨t',rfl,h3⟩
  ·rename_i h1;rw [uf h1];exact kF hk h
 | block id a eP=>
  intro i k k' j t hk h;simp only [dt] at h ⊢;exact eP (AS hk) h
 | loop a eP=>
  intro i k k' j t hk h;simp only [dt] at h ⊢;have On:=th (f:=jmp c J f i) (f':=jmp c J' f i) (fun st r hx=>DE aw hJ hx) hk;split at h
  ·rename_i e;simp only [mN] at h;subst h;rw [if_pos e];exact ⟨_,rfl,fun hh r hr=>yZ aw hJ On hr⟩
  ·rename_i e;rw [if_neg e];exact eP On h
 | _=>intro i k k' j t hk h; simp [dt] at h
theorem BW:∀ {n m:Nat},n<=m->∀ j h r,Jn c P sg f fn sk n j h=some r->Jn c P sg f fn sk m j h=some r
 | 0,_,_,j,h,r,hh=>by simp [Jn] at hh
 | n+1,0,hle,_,_,_,_=>absurd hle (by omega)
 | n+1,m+1,hle,j,h,r,hh=>by
  have ih:∀ j h r,Jn c P sg f fn sk n j h=some r->Jn c P sg f fn sk m j h=some r:=BW (by omega)
  simp only [Jn,ue] at hh ⊢;split at hh
  case h_2=>simp at hh
  rename_i body hb;split at hh
  case h_2=>simp at hh
  rename_i t ht;obtain ⟨t',h1,h2⟩:=SP aw ih (fun _ _ _ h=>h) ht;rw [h1];exact h2 _ _ hh
include sv
theorem XW:∀ {code:Code} {n i:Nat} {st:St} {k:(Nat->St->Option Rz)->Exit->St->Option Rz} {r:Rz},
  (∀ J J':Nat->St->Option Rz,(∀ j h r,J j h=some r->J' j h=some r)->∀ x st r,k J x st=some r->k J' x st=some r)->
  (lH code i).Nodup->
  (∀ m j t,dt ad c sg (eK c P sg) (Jn c P sg f fn sk m) f code i (k (Jn c P sg f fn sk m)) j=some t->dt ad c sg (eK c P sg) (Jn c P sg f fn sk m) f body 0 (DB c f fn sk) j=some t)->
  dF ad c sg (eK c P sg) (Jn c P sg f fn sk n) f code i st (k (Jn c P sg f fn sk n))=some r->∃ x st',SB c P f code i st (x,st')/\k (Jn c P sg f fn sk n) x st'=some r:=by
 intro code;have tr:∀ {ops:Array Oper} {l:List Nat} {st st':St},iq c (lG c P) xA f ops l st=some st'->Ev fun k=>iq c (nq c P k).1 (nq c P k).2 f ops l st=some st':=
  fun h=>BR (fun f ds r hh=>XS hh) (fun f ds n st r hh=>by simp [xA] at hh) h
 induction code with
 | skip=>intro n i st k r _ _ _ h; exact ⟨_,_,Ev.of fun _=>rfl,h⟩
 | exit id=>intro n i st k r _ _ _ h; exact ⟨_,_,Ev.of fun _=>rfl,h⟩
 | ret=>intro n i st k r _ _ _ h; exact ⟨_,_,Ev.of fun _=>rfl,h⟩
 | region id ops draw=>
  intro n i st k r _ _ _ h;cases draw with
  | false=>
   simp only [dF] at h;obtain ⟨st',h1,h2,_⟩:=mP aw h;rw [yM] at h1;refine ⟨.normal,st',(tr h1).mono fun n hn=>?_,h2⟩;simp only [eT,yM,hn]
  | true=>
   simp only [dF] at h;split at h
   case h_2=>simp at h
   rename_i l hl;obtain ⟨st',h1,h2,_⟩:=mP aw h;rw [BQ] at h1;refine ⟨.normal,st',(tr h1).mono fun n hn=>?_,h2⟩;simp only [eT,hl,hn]
 | seq a b eP kF=>
  intro n i st k r hk hn hc h;simp only [dF] at h;rw [lH,zX] at hn;obtain ⟨x,aP,h1,h2⟩:=eP (k:=fun J=>qO (fun st'=>dF ad c sg (eK c P sg) J f b i st' (k J)) (k J)) (fun J J' hJ=>th (fun st r hx=>yZ aw hJ (hk J J' hJ) hx) (hk J J' hJ)) hn.1 (fun m j t ht=>hc m j t (by simp only [dt]; rw [ht])) h
  cases x with
  | normal=>
   simp only [qO] at h2;obtain ⟨y,cj,h3,h4⟩:=kF hk hn.2.1 (fun m j t ht=>hc m j t (by
    simp only [dt];split
    ·rename_i t' oT;exact absurd rfl (hn.2.2 j (tj oT) j (tj ht))
    ·exact ht)) h2
   exact ⟨y,cj,(Ev.and h1 h3).mono fun n hn=>by simp only [eT]; rw [hn.1]; exact hn.2,h4⟩
  | _=>exact ⟨_,aP,Ev.mono h1 fun n hn=>by simp only [eT]; rw [hn],h2⟩
 | cond v a b eP kF=>
  intro n i st k r hk hn hc h;simp only [dF,LW] at h;rw [lH,zX] at hn;have fin:∀ {t:Bool},ch c st 0 v=.bool t->(t=true->dF ad c sg (eK c P sg) (Jn c P sg f fn sk n) f a i st (k (Jn c P sg f fn sk n))=some r)->(t=false->dF ad c sg (eK c P sg) (Jn c P sg f fn sk n) f b i st (k (Jn c P sg f fn sk n))=some r)->∃ x st',SB c P f (.cond v a b) i st (x,st')/\k (Jn c P sg f fn sk n) x st'=some r:=by
   intro t ht h1 h2;cases t with
   | true=>
    obtain ⟨x,st',h3,h4⟩:=eP hk hn.1 (fun m j t ht=>hc m j t (by simp only [dt]; rw [ht])) (h1 rfl)
    exact ⟨x,st',Ev.mono h3 fun n hn=>by simp only [eT,ht,if_true]; exact hn,h4⟩
   | false=>
    obtain ⟨x,st',h3,h4⟩:=kF hk hn.2.1 (fun m j t ht=>hc m j t (by
     simp only [dt];split
     ·rename_i t' oT;exact absurd rfl (hn.2.2 j (tj oT) j (tj ht))
     ·exact ht)) (h2 rfl)
    exact ⟨x,st',Ev.mono h3 fun n hn=>by simp only [eT,ht,acq,if_false]; exact hn,h4⟩
  split at h
  ·rename_i t;split at h
   ·rename_i b' hb;refine fin (t:=b') hb (fun e=>?_) (fun e=>?_)
    ·subst e;rcases nD h with ⟨_,h1⟩ | ⟨e2,_⟩
     ·rw [oZ hb] at h1; exact h1
     ·simp at e2
    ·subst e;rcases nD h with ⟨e2,_⟩ | ⟨_,h1⟩
     ·simp at e2
     ·rw [oZ hb] at h1; exact h1
   ·simp at h
  ·split at h
   ·rename_i hv;refine fin hv (fun e=>?_) (fun e=>?_)
    ·subst e; exact h
    ·subst e; exact h
   ·simp at h
 | block id a eP=>
  intro n i st k r hk hn hc h;simp only [dF] at h;obtain ⟨x,aP,h1,h2⟩:=eP (k:=fun J=>vi id (k J)) (fun J J' hJ=>AS (hk J J' hJ)) hn (fun m j t ht=>hc m j t (by simp only [dt]; exact ht)) h
  cases x with
  | exit uJ=>
   simp only [vi] at h2;by_cases he:uJ=id
   ·rw [if_pos he] at h2;exact ⟨.normal,aP,Ev.mono h1 fun n hn=>by simp only [eT]; rw [hn]; simp [he],h2⟩
   ·rw [if_neg he] at h2;exact ⟨.exit uJ,aP,Ev.mono h1 fun n hn=>by simp only [eT]; rw [hn]; simp [he],h2⟩
  | _=>exact ⟨_,aP,Ev.mono h1 fun n hn=>by simp only [eT]; rw [hn],h2⟩
 | loop a eP=>
  intro n i st k r hk hn hc h;rw [lH,adW] at hn;have key:∀ (n:Nat) (st:St),jmp c (Jn c P sg f fn sk n) f i st=some r->∃ x st',SC c P f a i st (x,st')/\k (Jn c P sg f fn sk n) x st'=some r:=by
   intro n
   induction n with
   | zero=>
    intro st h;unfold jmp at h;split at h
    ·simp [Jn] at h
    ·simp at h
   | succ m ih=>
    intro st h;unfold jmp at h;split at h
    case h_2=>simp at h
    rename_i hd EW;simp only [Jn,ue] at h;rw [sv] at h;simp only at h;have ht:=hc m i _ (by simp only [dt,if_true]; rfl)
    rw [ht] at h;simp only at h;obtain ⟨x,aP,h1,h2⟩:=eP (k:=fun J=>qO (jmp c J f i) (k J)) (fun J J' hJ=>th (fun st r hx=>DE aw hJ hx) (hk J J' hJ)) hn.2 (fun m j t ht=>hc m j t (by
       simp only [dt];have cQ:i≠j:=fun e=>hn.1 (by rw [e]; rw [e] at ht; exact tj ht)
       rw [if_neg cQ];exact ht)) h
    cases x with
    | normal=>
     obtain ⟨y,cj,⟨q,h3⟩,h4⟩:=ih aP h2;refine ⟨y,cj,⟨q+1,(Ev.and h1 h3).mono fun k hk m hm=>?_⟩,hk _ _ (BW aw (Nat.le_succ m)) _ _ _ h4⟩;obtain ⟨m,rfl⟩:∃ m',m=m'+1:=⟨m - 1,by omega⟩
     simp only [tW,EW,hk.1];exact hk.2 m (by omega)
    | _=>
     refine ⟨_,aP,⟨1,Ev.mono h1 fun k hk m hm=>?_⟩,hk _ _ (BW aw (Nat.le_succ m)) _ _ _ h2⟩;obtain ⟨m,rfl⟩:∃ m',m=m'+1:=⟨m - 1,by omega⟩
     simp only [tW,EW,hk]
  simp only [dF] at h;obtain ⟨x,st',h1,h2⟩:=key n st h;exact ⟨x,st',h1.code,h2⟩
 | _=>intro n i st k r _ _ _ h; simp [dF] at h
end
structure Told (c:cn) (P:Program) (f:FuncId) (fn:Func):Prop where
 ext:c.ext f=none
 func:P.funcs[f]?=some fn
 ids:(match fn.body with | some b=>decide (lH b 0).Nodup | none=>false)=true
section
variable {P:Program} {c:cn} (aw:ey c P) {sg:Sg} {f:FuncId} {fn:Func} {sk:List D}
include aw
theorem W.go {j j':Nat} {h h':St} {r:Rz} (hw:W c P sg f fn sk j' h' r) (ht:∀ J:Nat->St->Option Rz,J j' h'=some r->ue ad c sg (eK c P sg) J f fn sk j h=some r):W c P sg f fn sk j h r:=by
 have _:=aw;obtain ⟨n,hn⟩:=hw;exact ⟨n+1,ht _ hn⟩
theorem W.fin {j:Nat} {h:St} {r:Rz} (ht:∀ J:Nat->St->Option Rz,ue ad c sg (eK c P sg) J f fn sk j h=some r):W c P sg f fn sk j h r:=by
 have _:=aw;exact ⟨1,ht _⟩
theorem AT (ok:Told c P f fn) {args:List D} {r:Rz} {n:Nat} (h:AQ ad c sg (eK c P sg) (Jn c P sg f fn (args.map qP) n) f fn args=some r):Comes c P f args r:=by
 unfold AQ at h;split at h
 case h_2=>simp at h
 rename_i body hb;have adG:=ok.ids;rw [hb] at adG;obtain ⟨x,st,h1,h2⟩:=XW aw hb (k:=fun _=>DB c f fn (args.map qP)) (fun J J' _ x st r h=>h) (of_decide_eq_true adG) (fun m j t ht=>ht) h;obtain ⟨k0,h1⟩:=h1;refine ⟨k0+1,fun k hk=>?_⟩;obtain ⟨k,rfl⟩:∃ m,k=m+1:=⟨k - 1,by omega⟩
 unfold DB at h2;obtain ⟨r',h2,h5⟩:∃ r',Dx c fn (args.map qP) x st=some r'/\TR (c.gone f) (some r')=some r:=by
  cases hf:Dx c fn (args.map qP) x st with
  | none=>rw [hf] at h2; simp [TR] at h2
  | some r'=>rw [hf] at h2; exact ⟨r',rfl,h2⟩
 show yx c P (nq c P k).1 (nq c P k).2 k f args=some r;unfold yx;rw [ok.ext];simp only;rw [<- h5]
 congr 1
 unfold LO;rw [ok.ext,ok.func];simp only;rw [hb];simp only;rw [h1 k (by omega)]
 simp only;rw [aaZ] at h2;unfold Dx at h2;obtain ⟨h3,h4⟩:=U6 h2;rw [if_pos h3];exact h4
theorem Comes.go (ok:Told c P f fn) {args:List D} {j:Nat} {h:St} {r:Rz} (hw:W c P sg f fn (args.map qP) j h r) (ht:∀ J:Nat->St->Option Rz,J j h=some r->AQ ad c sg (eK c P sg) J f fn args=some r):Comes c P f args r:=by
 obtain ⟨n,hn⟩:=hw;exact AT aw ok (ht _ hn)
theorem Comes.fin (ok:Told c P f fn) {args:List D} {r:Rz} (ht:∀ J:Nat->St->Option Rz,AQ ad c sg (eK c P sg) J f fn args=some r):Comes c P f args r:=
 AT aw ok (sg:=sg) (n:=0) (ht _)
end
section
variable {P:Program} {c:cn} (aw:ey c P) {sg:Sg} {f:FuncId} {r:Rz} {J:Nat->St->Option Rz} {J':Nat->Nat->St->Option Rz} (hJ:∀ j h,J j h=some r->Ev fun m=>J' m j h=some r)
include aw hJ
theorem y6:∀ {code:Code} {i:Nat} {st:St} {k:Exit->St->Option Rz} {k':Nat->Exit->St->Option Rz},(∀ x st,k x st=some r->Ev fun m=>k' m x st=some r)->dF ad c sg (eK c P sg) J f code i st k=some r->Ev fun m=>dF ad c sg (eK c P sg) (J' m) f code i st (k' m)=some r:=by
 intro code
 induction code with
 | skip=>intro i st k k' hk h; exact hk _ _ h
 | exit id=>intro i st k k' hk h; exact hk _ _ h
 | ret=>intro i st k k' hk h; exact hk _ _ h
 | region id ops draw=>
  intro i st k k' hk h;cases draw with
  | false=>
   simp only [dF] at h ⊢;obtain ⟨st',_,h2,h3⟩:=mP aw h;exact (hk _ _ h2).mono fun m hm=>h3 _ _ hm
  | true=>
   simp only [dF] at h ⊢;split at h
   ·obtain ⟨st',_,h2,h3⟩:=mP aw h;exact (hk _ _ h2).mono fun m hm=>h3 _ _ hm
   ·simp at h
 | seq a b eP kF=>
  intro i st k k' hk h;simp only [dF] at h ⊢;refine eP (k':=fun m=>qO (fun st'=>dF ad c sg (eK c P sg) (J' m) f b i st' (k' m)) (k' m)) (fun x st hx=>?_) h;cases x with
  | normal=>exact kF hk hx
  | _=>exact hk _ _ hx
 | cond v a b eP kF=>
  intro i st k k' hk h;simp only [dF,LW] at h ⊢;split at h
  ·split at h
   ·rename_i hv;rcases nD h with ⟨rfl,h1⟩ | ⟨rfl,h1⟩
    ·exact eP hk h1
    ·exact kF hk h1
   ·simp at h
  ·split at h
   ·rcases nD h with ⟨rfl,h1⟩ | ⟨rfl,h1⟩
    ·exact eP hk h1
    ·exact kF hk h1
   ·simp at h
 | block id a eP=>
  intro i st k k' hk h;simp only [dF] at h ⊢;refine eP (k':=fun m=>vi id (k' m)) (fun x st hx=>?_) h;cases x with
  | exit uJ=>
   simp only [vi] at hx ⊢;split at hx
   ·rename_i e; simp only [e,if_true]; exact hk _ _ hx
   ·rename_i e; simp only [if_neg e]; exact hk _ _ hx
  | _=>exact hk _ _ hx
 | loop a eP=>
  intro i st k k' hk h;simp only [dF,jmp] at h ⊢;split at h
  ·exact hJ _ _ h
  ·simp at h
 | _=>intro i st k k' hk h; simp [dF] at h
theorem SQ:∀ {code:Code} {i:Nat} {k:Exit->St->Option Rz} {k':Nat->Exit->St->Option Rz} {j:Nat} {t:St->Option Rz} {h:St},(∀ x st,k x st=some r->Ev fun m=>k' m x st=some r)->dt ad c sg (eK c P sg) J f code i k j=some t->t h=some r->Ev fun m=>∃ t',dt ad c sg (eK c P sg) (J' m) f code i (k' m) j=some t'/\t' h=some r:=by
 intro code
 induction code with
 | seq a b eP kF=>
  intro i k k' j t h hk ht hr;simp only [dt] at ht ⊢;split at ht
  ·rename_i t1 h1;simp only [mN] at ht;subst ht;refine (eP (k':=fun m=>qO (fun st'=>dF ad c sg (eK c P sg) (J' m) f b i st' (k' m)) (k' m)) (fun x st hx=>?_) h1 hr).mono fun m hm=>?_
   ·cases x with
    | normal=>exact y6 aw hJ hk hx
    | _=>exact hk _ _ hx
   ·obtain ⟨t',h2,h3⟩:=hm;exact ⟨t',by rw [h2],h3⟩
  ·rename_i h1;refine (kF hk ht hr).mono fun m hm=>?_;rw [uf h1];exact hm
 | cond v a b eP kF=>
  intro i k k' j t h hk ht hr;simp only [dt] at ht ⊢;split at ht
  ·rename_i t1 h1;simp only [mN] at ht;subst ht;refine (eP hk h1 hr).mono fun m hm=>?_;obtain ⟨t',h2,h3⟩:=hm;exact ⟨t',by rw [h2],h3⟩
  ·rename_i h1;refine (kF hk ht hr).mono fun m hm=>?_;rw [uf h1];exact hm
 | block id a eP=>
  intro i k k' j t h hk ht hr;simp only [dt] at ht ⊢;refine eP (k':=fun m=>vi id (k' m)) (fun x st hx=>?_) ht hr;cases x with
  | exit uJ=>
   simp only [vi] at hx ⊢;split at hx
   ·rename_i e; simp only [e,if_true]; exact hk _ _ hx
   ·rename_i e; simp only [if_neg e]; exact hk _ _ hx
  | _=>exact hk _ _ hx
 | loop a eP=>
  intro i k k' j t h hk ht hr;simp only [dt] at ht ⊢;have On:∀ x st,qO (jmp c J f i) k x st=some r->Ev fun m=>qO (jmp c (J' m) f i) (k' m) x st=some r:=by
   intro x st hx;cases x with
   | normal=>
    simp only [qO,jmp] at hx ⊢;split at hx
    ·exact hJ _ _ hx
    ·simp at hx
   | _=>exact hk _ _ hx
  split at ht
  ·rename_i e;simp only [mN] at ht;subst ht;refine (y6 aw hJ On hr).mono fun m hm=>?_;rw [if_pos e];exact ⟨_,rfl,hm⟩
  ·rename_i e;simp only [if_neg e];exact eP On ht hr
 | _=>intro i k k' j t h hk ht hr; simp [dt] at ht
end
section
variable {P:Program} {c:cn} (aw:ey c P) {sg:Sg} {f:FuncId} {fn:Func} {sk:List D} {r:Rz}
include aw
theorem W.ev {j:Nat} {h:St} (hw:W c P sg f fn sk j h r):Ev fun m=>Jn c P sg f fn sk m j h=some r:=by
 obtain ⟨n,hn⟩:=hw;exact ⟨n,fun m hm=>BW aw hm _ _ _ hn⟩
theorem W.step {j:Nat} {h:St} (ht:∀ J:Nat->St->Option Rz,(∀ j' h',W c P sg f fn sk j' h' r->J j' h'=some r)->ue ad c sg (eK c P sg) J f fn sk j h=some r):W c P sg f fn sk j h r:=by
 classical
 have h1:=ht (fun j' h'=>if W c P sg f fn sk j' h' r then some r else none) (fun j' h' hw=>if_pos hw)
 unfold ue at h1;split at h1
 case h_2=>simp at h1
 rename_i body hb;split at h1
 case h_2=>simp at h1
 rename_i t ht;obtain ⟨n,hn⟩:=SQ aw (J':=Jn c P sg f fn sk) (k':=fun _=>DB c f fn sk) (fun j' h' hh=>by
  split at hh
  ·rename_i hw; exact hw.ev aw
  ·simp at hh) (fun x st hx=>⟨0,fun _ _=>hx⟩) ht h1
 obtain ⟨t',h2,h3⟩:=hn n (acD _);refine ⟨n+1,?_⟩;simp only [Jn,ue];rw [hb];simp only;rw [h2];exact h3
theorem Comes.step (ok:Told c P f fn) {args:List D} (ht:∀ J:Nat->St->Option Rz,(∀ j' h',W c P sg f fn (args.map qP) j' h' r->J j' h'=some r)->AQ ad c sg (eK c P sg) J f fn args=some r):Comes c P f args r:=by
 classical
 have h1:=ht (fun j' h'=>if W c P sg f fn (args.map qP) j' h' r then some r else none) (fun j' h' hw=>if_pos hw)
 unfold AQ at h1;split at h1
 case h_2=>simp at h1
 rename_i body hb;obtain ⟨n,hn⟩:=y6 aw (J':=Jn c P sg f fn (args.map qP)) (k':=fun _=>DB c f fn (args.map qP)) (fun j' h' hh=>by
  split at hh
  ·rename_i hw; exact hw.ev aw
  ·simp at hh) (fun x st hx=>⟨0,fun _ _=>hx⟩) h1
 refine AT aw ok (sg:=sg) (n:=n) ?_;unfold AQ;rw [hb];exact hn n (acD _)
end
open Go.Shelf
def ZZ:List (Nat × TI):=[
 (2,⟨.int .i64,1,8,[.int .i64 0]⟩),
 (3,⟨.int .i64,1,8,[.int .i64 0]⟩),
 (4,⟨.bool,1,1,[.bool false]⟩),
 (5,⟨.int .u8,1,1,[.int .u8 0]⟩),
 (6,⟨.int .u8,1,1,[.int .u8 0]⟩),
 (7,⟨.struct [0,1,2,3] [1,1,1,1],4,24,[.int .i64 0,.int .i64 0,.bool false,.int .u8 0]⟩),
 (8,⟨.struct [0,1,2,3] [1,1,1,1],4,24,[.int .i64 0,.int .i64 0,.bool false,.int .u8 0]⟩),
 (9,⟨.str,1,16,[.str ⟨#[]⟩]⟩),
 (10,⟨.str,1,16,[.str ⟨#[]⟩]⟩),
 (11,⟨.str,1,16,[.str ⟨#[]⟩]⟩),
 (12,⟨.int .u64,1,8,[.int .u64 0]⟩),
 (13,⟨.struct [0,1] [1,1],2,24,[.str ⟨#[]⟩,.int .u64 0]⟩),
 (14,⟨.struct [0,1] [1,1],2,24,[.str ⟨#[]⟩,.int .u64 0]⟩),
 (15,⟨.ptr 267,1,8,[.undef]⟩),
 (16,⟨.ptr 270,1,8,[.undef]⟩),
 (17,⟨.ptr 279,1,8,[.undef]⟩),
 (18,⟨.struct [0] [1],1,8,[.undef]⟩),
 (19,⟨.struct [0] [1],1,8,[.undef]⟩),
 (21,⟨.int .i32,1,4,[.int .i32 0]⟩),
 (22,⟨.slice 3,1,24,[.nil 1]⟩),
 (23,⟨.slice 22,1,24,[.nil 1]⟩),
 (24,⟨.struct [0,1,2,3,4,5] [1,1,1,1,1,1],6,64,[.nil 1,.nil 1,.bool false,.bool false,.bool false,.int .i64 0]⟩),
 (25,⟨.struct [0,1,2,3,4,5] [1,1,1,1,1,1],6,64,[.nil 1,.nil 1,.bool false,.bool false,.bool false,.int .i64 0]⟩),
 (26,⟨.slice 5,1,24,[.nil 1]⟩),
 (27,⟨.struct [0,1] [1,1],2,48,[.nil 1,.nil 1]⟩),
 (28,⟨.struct [0,1] [1,1],2,48,[.nil 1,.nil 1]⟩),
 (29,⟨.slice 4,1,24,[.nil 1]⟩),
 (30,⟨.struct [0,1,2,3,4,10,12,13,14,15] [1,1,1,1,6,2,1,1,1,1],16,248,[.int .i64 0,.bool false,.bool false,.nil 1,.nil 1,.nil 1,.bool false,.bool false,.bool false,.int .i64 0,.nil 1,.nil 1,.nil 1,.nil 1,.nil 1,.nil 1]⟩),
 (31,⟨.struct [0,1,2,3,4,10,12,13,14,15] [1,1,1,1,6,2,1,1,1,1],16,248,[.int .i64 0,.bool false,.bool false,.nil 1,.nil 1,.nil 1,.bool false,.bool false,.bool false,.int .i64 0,.nil 1,.nil 1,.nil 1,.nil 1,.nil 1,.nil 1]⟩),
 (34,⟨.struct [0,1,2,3,4,5] [1,1,1,1,1,1],6,64,[.nil 1,.nil 1,.bool false,.bool false,.bool false,.int .i64 0]⟩),
 (35,⟨.struct [0,1] [1,1],2,48,[.nil 1,.nil 1]⟩),
 (36,⟨.struct [0,1,2,3,4,10,12,13,14,15] [1,1,1,1,6,2,1,1,1,1],16,248,[.int .i64 0,.bool false,.bool false,.nil 1,.nil 1,.nil 1,.bool false,.bool false,.bool false,.int .i64 0,.nil 1,.nil 1,.nil 1,.nil 1,.nil 1,.nil 1]⟩),
 (37,⟨.struct [0,1,2,3,4,10,12,13,14,15] [1,1,1,1,6,2,1,1,1,1],16,248,[.int .i64 0,.bool false,.bool false,.nil 1,.nil 1,.nil 1,.bool false,.bool false,.bool false,.int .i64 0,.nil 1,.nil 1,.nil 1,.nil 1,.nil 1,.nil 1]⟩),
 (49,⟨.slice 127,1,24,[.nil 7]⟩),
 (55,⟨.slice 31,1,24,[.nil 16]⟩),
 (56,⟨.slice 167,1,24,[.nil 3]⟩),
 (57,⟨.slice 176,1,24,[.nil 2]⟩),
 (58,⟨.struct [0,1,2,3,4] [1,1,1,1,1],5,104,[.nil 16,.nil 3,.nil 2,.nil 1,.int .i64 0]⟩),
 (59,⟨.struct [0,1,2,3,4] [1,1,1,1,1],5,104,[.nil 16,.nil 3,.nil 2,.nil 1,.int .i64 0]⟩),
 (62,⟨.slice 37,1,24,[.nil 16]⟩),
 (63,⟨.slice 171,1,24,[.nil 3]⟩),
 (64,⟨.slice 174,1,24,[.nil 2]⟩),
 (65,⟨.struct [0,1,2,3,4] [1,1,1,1,1],5,104,[.nil 16,.nil 3,.nil 2,.nil 1,.int .i64 0]⟩),
 (66,⟨.struct [0,1,2,3,4] [1,1,1,1,1],5,104,[.nil 16,.nil 3,.nil 2,.nil 1,.int .i64 0]⟩),
 (73,⟨.struct [0,1,2,3,4] [1,1,1,1,1],5,56,[.int .i64 0,.int .i64 0,.int .i64 0,.int .i64 0,.nil 1]⟩),
 (74,⟨.struct [0,1,2,3,4] [1,1,1,1,1],5,56,[.int .i64 0,.int .i64 0,.int .i64 0,.int .i64 0,.nil 1]⟩),
 (77,⟨.struct [0,1,2,3,4] [1,1,1,1,1],5,56,[.int .i64 0,.int .i64 0,.int .i64 0,.int .i64 0,.nil 1]⟩),
 (82,⟨.struct [0,1,2] [1,1,1],3,24,[.int .i64 0,.int .i64 0,.int .i64 0]⟩),
 (83,⟨.struct [0,1,2] [1,1,1],3,24,[.int .i64 0,.int .i64 0,.int .i64 0]⟩),
 (86,⟨.struct [0,1,2] [1,1,1],3,24,[.int .i64 0,.int .i64 0,.int .i64 0]⟩),
 (91,⟨.slice 83,1,24,[.nil 3]⟩),
 (95,⟨.slice 86,1,24,[.nil 3]⟩),
 (126,⟨.struct [0,1,2] [1,1,5],7,72,[.int .i64 0,.int .i64 0,.int .i64 0,.int .i64 0,.int .i64 0,.int .i64 0,.nil 1]⟩),
 (127,⟨.struct [0,1,2] [1,1,5],7,72,[.int .i64 0,.int .i64 0,.int .i64 0,.int .i64 0,.int .i64 0,.int .i64 0,.nil 1]⟩),
 (166,⟨.struct [0,1,2] [1,1,1],3,40,[.int .i64 0,.int .i64 0,.nil 1]⟩),
 (167,⟨.struct [0,1,2] [1,1,1],3,40,[.int .i64 0,.int .i64 0,.nil 1]⟩),
 (171,⟨.struct [0,1,2] [1,1,1],3,40,[.int .i64 0,.int .i64 0,.nil 1]⟩),
 (173,⟨.struct [0,1] [1,1],2,16,[.int .i64 0,.int .i64 0]⟩),
 (174,⟨.struct [0,1] [1,1],2,16,[.int .i64 0,.int .i64 0]⟩),
 (176,⟨.struct [0,1] [1,1],2,16,[.int .i64 0,.int .i64 0]⟩),
 (213,⟨.ptr 66,1,8,[.undef]⟩),
 (216,⟨.int .u64,1,8,[.int .u64 0]⟩),
 (222,⟨.ptr 26,1,8,[.undef]⟩),
 (224,⟨.slice 77,1,24,[.nil 5]⟩),
 (234,⟨.array 2 3,2,16,[.int .i64 0,.int .i64 0]⟩),
 (235,⟨.slice 234,1,24,[.nil 2]⟩),
 (236,⟨.ptr 37,1,8,[.undef]⟩),
 (243,⟨.ptr 245,1,8,[.undef]⟩),
 (244,⟨.struct [0,1,2] [1,1,1],3,40,[.nil 1,.int .i64 0,.bool false]⟩),
 (245,⟨.struct [0,1,2] [1,1,1],3,40,[.nil 1,.int .i64 0,.bool false]⟩),
 (248,⟨.slice 26,1,24,[.nil 1]⟩),
 (255,⟨.ptr 257,1,8,[.undef]⟩),
 (256,⟨.struct [0,1,2] [1,1,1],3,40,[.nil 1,.int .i64 0,.bool false]⟩),
 (257,⟨.struct [0,1,2] [1,1,1],3,40,[.nil 1,.int .i64 0,.bool false]⟩),
 (266,⟨.struct [0,1,2,3] [1,1,1,1],4,40,[.undef,.undef,.undef,.str ⟨#[]⟩]⟩),
 (267,⟨.struct [0,1,2,3] [1,1,1,1],4,40,[.undef,.undef,.undef,.str ⟨#[]⟩]⟩),
 (271,⟨.int .u32,1,4,[.int .u32 0]⟩),
 (272,⟨.int .u8,1,1,[.int .u8 0]⟩),
 (273,⟨.int .u8,1,1,[.int .u8 0]⟩),
 (275,⟨.ptr 5,1,8,[.undef]⟩),
 (276,⟨.int .i32,1,4,[.int .i32 0]⟩),
 (277,⟨.int .i32,1,4,[.int .i32 0]⟩),
 (278,⟨.struct [0,1,2,3,4,5,6,7,8,9,10] [1,1,1,1,1,1,1,1,1,1,1],11,48,[.int .u64 0,.int .u64 0,.int .u32 0,.int .u8 0,.int .u8 0,.int .u8 0,.int .u8 0,.undef,.undef,.int .i32 0,.int .i32 0]⟩),
 (279,⟨.struct [0,1,2,3,4,5,6,7,8,9,10] [1,1,1,1,1,1,1,1,1,1,1],11,48,[.int .u64 0,.int .u64 0,.int .u32 0,.int .u8 0,.int .u8 0,.int .u8 0,.int .u8 0,.undef,.undef,.int .i32 0,.int .i32 0]⟩)]
def adH:List (Nat × List Bool):=[(21,[true,false]),(22,[true,false]),(32,[true,false]),(50,[true,false]),(54,[true,false]),(63,[true,false]),(82,[true,false]),(83,[true,false]),(84,[true,false]),(85,[true,false]),(90,[true,false]),(108,[true,false]),(130,[true]),(140,[true]),(143,[true]),(145,[true]),(149,[true,false]),(150,[true,false]),(151,[true,false]),(176,[true,false]),(182,[true]),(209,[true]),(210,[true]),(218,[true,false,true]),(219,[true]),(221,[true]),(222,[true]),(223,[true]),(224,[true]),(225,[true]),(228,[true,false]),(250,[true]),(256,[true]),(257,[true]),(258,[true]),(260,[true]),(261,[true]),(264,[true]),(269,[true,false,false]),(270,[true,false,false]),(271,[true,false,false]),(272,[true,false]),(274,[true,false,false]),(275,[true,false]),(276,[true,false]),(277,[true,false,false]),(278,[true,false,false]),(295,[true,false]),(296,[true,false]),(297,[true]),(299,[true,false]),(303,[true]),(310,[true]),(311,[true]),(324,[true]),(330,[true]),(331,[true]),(355,[true]),(356,[true]),(357,[true]),(358,[true]),(359,[true])]
def aa2:List (Nat × List Bool):=[(90,[true,false]),(108,[true,false]),(130,[true,false,false,false]),(140,[true,false,false]),(143,[true,false,false]),(145,[true,false]),(182,[true,false]),(209,[true,false,false,false]),(210,[true,false,false,false,false]),(218,[true,false,true]),(219,[true,false]),(221,[true,false]),(222,[true,false,false]),(223,[true,false]),(224,[true,false]),(225,[true,false]),(256,[true,false,false]),(257,[true,false]),(258,[true,false]),(260,[true,false,false]),(261,[true,false,false]),(264,[true,false]),(297,[true,false]),(303,[true,false,false]),(324,[true])]
def adI:List Nat:=[257,271,295,296]
def XX:List (Nat × Nat):=[(221,4),(275,7)]
def afp:List (Nat × Nat × List Nat × List Nat):=[(19,(0,([0,1,5],[26,27]))),(22,(0,([0,1,5],[19,20]))),(23,(0,([0,1,5],[21,22]))),(31,(0,([0,1,5],[27,28]))),(32,(0,([0,1,5],[67,68]))),(33,(0,([0,1,5],[81,82]))),(57,(0,([1,2,15],[1,2,44]))),(59,(0,([1,4,6,7,8],[4,7,48,49]))),(60,(0,([0,3,4],[23]))),(61,(0,([4,6,7,25,26,27],[4,6,47,48]))),(62,(0,([0,1,5],[27,28]))),(63,(0,([0,1,5],[34,35]))),(68,(0,([0,1,5],[27,28]))),(69,(0,([1,3],[1,99]))),(70,(0,([0,1,5,6],[34,35]))),(70,(2,([1,5,7],[34,35]))),(71,(0,([0,3,4],[22]))),(74,(0,([0,3,4],[22]))),(75,(0,([0,3,4],[23]))),(76,(0,([1,85],[1,164]))),(76,(2,([1,139,140,141],[1,164]))),(77,(0,([5,12,13,14],[23,24]))),(80,(0,([0,1,5],[26,27]))),(81,(0,([0,1,5],[27,28]))),(84,(0,([0,1,5],[21,22]))),(85,(0,([0,1,5],[19,20]))),(86,(0,([1,2,3,4],[1,2,3,55]))),(88,(0,([1,2,3,4],[1,2,3,32]))),(89,(0,([0,1,5,6],[28,29]))),(99,(0,([0,1,5],[23,24]))),(100,(0,([0,1,5],[21,22]))),(102,(0,([0,1,5],[18,19]))),(113,(0,([0,1,5],[27,28]))),(114,(0,([0,1,5],[27,28]))),(116,(0,([1,3,4],[1,40]))),(117,(0,([1,3],[1,33]))),(118,(0,([1,3],[1,68]))),(118,(2,([1,3,4],[1,68]))),(118,(4,([1,3,4,5,6,7,8],[1,5,6,68]))),(119,(0,([1,3],[1,59]))),(119,(2,([1,3,5,6],[1,59]))),(120,(0,([0,3,4],[23]))),(121,(0,([0,3,4],[23]))),(122,(0,([0,3,4],[23]))),(125,(0,([1,13,14,15],[1,63]))),(125,(2,([1,3,4,13,14,15,23,24,25],[1,4,63]))),(125,(4,([1,3,4,5,6,13,14,15,23,24,25,34,35,36],[1,4,6,63]))),(126,(0,([1,11,12,13],[1,48]))),(127,(0,([0,1,5],[27,28]))),(128,(0,([0,1,5],[27,28]))),(129,(0,([0,1,5],[27,28]))),(134,(0,([1,3,5,7,8],[3,5,33,34,35]))),(138,(0,([1,3,5,7,10],[3,5,33,34,35]))),(144,(0,([1,3],[1,127]))),(144,(2,([1,3,4,5],[1,4,127]))),(144,(4,([1,6],[1,127]))),(144,(6,([1,7],[1,127]))),(146,(0,([1,2,3,4],[1,2,3,69]))),(146,(2,([1,2,3,5],[1,2,3,69]))),(147,(0,([1,31,32,33],[1,124]))),(147,(2,([1,76,77,78],[1,124]))),(147,(4,([1,96,97,98],[1,124]))),(149,(0,([0,1,5],[143,144]))),(150,(0,([0,1,5],[34,35]))),(151,(0,([0,1,5],[27,28]))),(152,(0,([0,1,5],[175,176]))),(153,(0,([0,1,5],[40,41]))),(154,(0,([0,1,5],[31,32]))),(155,(0,([1,2,3],[1,2,19]))),(156,(0,([1,2,3,18,19,20],[1,2,3,54]))),(156,(2,([2,3,33,34,35],[2,3,54]))),(157,(0,([10,11,12],[30]))),(157,(2,([5,10,11,12,18,19,20],[30]))),(160,(0,([0,3],[19]))),(161,(0,([1,3],[1,47]))),(162,(0,([1,3],[1,81]))),(164,(0,([2,3,5],[2,3,68,69]))),(165,(0,([0,1,5],[46,47]))),(166,(0,([0,3,4],[22]))),(173,(0,([0,3,9,10,11],[36]))),(173,(2,([6,25,26,27],[36]))),(175,(0,([0,1,5],[26,27]))),(176,(0,([0,1,5],[20,21]))),(181,(0,([3,7,8,9],[20]))),(182,(0,([0,1,5,6],[42,43]))),(184,(0,([0,1,5],[22,23]))),(186,(0,([0,3],[29]))),(188,(0,([0,1,7,8],[19,20]))),(189,(0,([0,5,6,7],[26]))),(193,(0,([0,1,5],[32,33]))),(194,(0,([1,2,5,6],[2,39,40]))),(195,(0,([1,2,5],[2,37,38]))),(196,(0,([0,1,5,6],[43,44]))),(199,(0,([3,8,9,10],[23]))),(202,(0,([0,1,12,13],[26,27]))),(203,(0,([2,5,9,10,11],[2,32,33]))),(204,(0,([1,2,5],[2,35,36]))),(205,(0,([0,1,5,10],[44,45]))),(209,(0,([1,2,4,8,9,10],[4,8,9,56,57,58,59]))),(210,(0,([1,2,5,10,12,27,28],[5,10,12,71,72,73,74,75]))),(216,(0,([0,1,7,8],[19,20]))),(220,(0,([1,3],[1,87]))),(220,(2,([1,3,4],[1,87]))),(220,(4,([1,5],[1,87]))),(221,(0,([2,3,4,7],[2,3,4,170,171]))),(221,(2,([2,4,11,12,13,14],[2,4,12,170,171]))),(225,(1,([2,3,4,6,7,11,12],[2,3,4,6,7,129,130]))),(226,(0,([1,13,14,15],[1,75]))),(226,(2,([1,46,47,48],[1,75]))),(226,(4,([1,5,6,46,47,48,53],[1,6,75]))),(229,(0,([1,2,3],[1,2,31]))),(229,(2,([1,2,3,4],[1,2,31]))),(233,(0,([0,3],[32]))),(239,(0,([0,5,6,7],[29]))),(241,(0,([1,2,15,16,17],[32,33,34]))),(243,(0,([1,6],[29,30]))),(247,(0,([0,1,7,8],[19,20]))),(250,(0,([0,2,3],[28]))),(256,(0,([1,2,3,6,7,8],[3,6,101,102,103]))),(257,(0,([1,2,4,5],[2,4,61,62]))),(257,(2,([1,2,4,5,6],[2,4,61,62]))),(258,(0,([1,2,4,5],[2,4,64,65]))),(264,(0,([1,2,4,5],[2,4,34,35]))),(271,(0,([0,4,5,15,16,17],[4,5,59,60,61]))),(279,(0,([0,2,4,5,6],[2,11,5,65]))),(280,(0,([0,1,7,8],[19,20]))),(282,(0,([1,3,4],[1,85]))),(282,(2,([1,3,5],[1,85]))),(282,(4,([1,3,5,6],[1,85]))),(284,(0,([0,3,9,10,11],[36]))),(284,(2,([6,25,26,27],[36]))),(287,(0,([0,4,5,6,7],[49]))),(288,(0,([0,1,4,7,9,10,11],[4,17,9,112,113]))),(290,(0,([0,3,4],[21]))),(295,(0,([0,6,7,8],[62,63]))),(296,(0,([0,6,7,8],[22,23]))),(297,(0,([0,1,5,6],[42,43]))),(299,(0,([0,1,5],[16,17]))),(301,(0,([0,1,7,8],[19,20]))),(310,(0,([0,3,4,5],[28]))),(312,(0,([0,2,4,5,16],[2,11,5,64]))),(314,(0,([0,3],[25]))),(316,(0,([1,3,13,14,15],[1,41]))),(318,(0,([0,4,5,6],[96]))),(318,(2,([0,4,5,6,7,8,9],[96]))),(319,(0,([1,3,4,5],[1,49]))),(319,(2,([1,3,6],[1,49]))),(320,(0,([0,3,4,5],[28]))),(321,(0,([0,3,4],[60]))),(326,(0,([0,4,6,7],[43]))),(329,(0,([0,1,7,8],[55,56]))),(330,(0,([0,3,4,5],[28]))),(333,(0,([3,7,8,9],[19]))),(335,(0,([0,1,6,7,8],[27,28]))),(336,(0,([3,7,8,9],[20]))),(338,(0,([0,4,5],[87]))),(338,(2,([0,4,5,7,69,70],[87]))),(340,(0,([0,1,7,8,9],[57,58]))),(341,(0,([0,3],[27]))),(342,(0,([0,1,2,7],[51,52,53]))),(343,(0,([0,3,4],[66]))),(344,(0,([3,4,7,8,9],[27]))),(345,(0,([0,1,6,7,8],[30,31]))),(346,(0,([0,1,2,7],[55,56,57])))]
def aa3:List (Nat × List (Nat × Nat)):=[(27,[(10,11),(12,13)]),(28,[(11,12),(13,14)]),(41,[(42,9),(44,4),(53,11),(55,4),(8,9),(9,10)]),(42,[(8,9),(9,10)]),(86,[(42,4),(45,2),(48,0)]),(88,[(19,4),(22,2),(25,0)]),(118,[(21,2),(24,0),(26,2),(29,0)]),(146,[(7,2),(11,2),(14,2),(42,4),(44,2),(48,0),(50,2),(54,0),(57,2),(61,0)]),(177,[(4,2),(8,2)]),(213,[(2,3),(3,4)]),(215,[(3,4),(4,5)]),(221,[(38,3),(40,4),(43,3),(45,4),(95,3),(100,3)]),(304,[(6,7),(45,2)])]
def aa4:List (Nat × List (Nat × List Nat)):=[(27,[(500068,[10,12]),(500069,[10,12])]),(28,[(500075,[11,13]),(500076,[11,13])]),(41,[(48,[8,3]),(59,[10,3]),(500090,[8,9]),(500091,[8,9])]),(42,[(500099,[8,9]),(500100,[8,9])]),(86,[(50,[3,1]),(52,[3,1]),(500052,[1])]),(88,[(27,[3,1]),(29,[3,1]),(500029,[1])]),(118,[(500025,[1]),(500030,[1])]),(146,[(9,[1]),(13,[1]),(500016,[1]),(63,[3,1]),(66,[3,1]),(500066,[1])]),(177,[(6,[1]),(10,[1]),(500011,[1])]),(213,[(500008,[2,3]),(500009,[2,3]),(500013,[3,2]),(500014,[3,2])]),(215,[(500009,[3,4]),(500010,[3,4]),(500013,[4,3]),(500014,[4,3])]),(221,[(53,[2,3]),(99,[2]),(105,[2]),(500105,[])]),(304,[(500041,[6,1])])]
def afq:List (Nat × RS × List RS):=[
 (0,(.aG [],[])),
 (1,(.aG [],[])),
 (2,(.aG [],[])),
 (3,(.bool,[.undef,.undef])),
 (4,(.bool,[.undef,.undef,.undef,.undef])),
 (5,(.bool,[.undef,.undef,.undef])),
 (6,(.bool,[.undef,.undef])),
 (7,(.bool,[.undef])),
 (8,(.bool,[.undef,.undef,.undef,.undef])),
 (9,(.bool,[.undef,.undef])),
 (10,(.bool,[.undef,.undef,.undef])),
 (11,(.bool,[.undef,.undef,.undef])),
 (12,(.bool,[.undef,.undef])),
 (13,(.bool,[.undef])),
 (14,(.bool,[.undef,.undef])),
 (15,(.int .i64,[.undef,.undef])),
 (16,(.ty .I,[.undef,.undef])),
 (17,(.ty .node,[.undef])),
 (18,(.ty .I,[.undef,.undef])),
 (19,(.bool,[.undef,.undef])),
 (20,(.bool,[.undef,.undef])),
 (21,(.int .i64,[.agg [.int .i64,.bool,.bool,.sl 1,.sl 1,.sl 1,.bool,.bool,.bool,.int .i64,.sl 1,.sl 1,.sl 1,.sl 1,.sl 1,.sl 1],.undef])),
 (22,(.int .i64,[.sl 1,.undef])),
 (23,(.int .i64,[.undef,.undef])),
 (24,(.ty .node,[.undef,.undef,.undef,.undef])),
 (25,(.ty .node,[.undef,.undef,.undef,.undef])),
 (26,(.int .i64,[.undef,.undef])),
 (27,(.aG [.ty .node,.ty .node,.bool],[.undef,.undef,.undef])),
 (28,(.aG [.ty .node,.ty .node,.bool],[.undef,.undef,.undef])),
 (29,(.aG [.ty .node,.ty .Ps],[.undef,.undef])),
 (30,(.aG [.ty .node,.ty .Ps],[.undef,.undef])),
 (31,(.bool,[.undef,.undef])),
 (32,(.int .i64,[.sl 7,.undef])),
 (33,(.int .i64,[.undef,.undef])),
 (34,(.int .i64,[.undef,.undef])),
 (35,(.bool,[.undef])),
 (36,(.ty .world,[.undef])),
 (37,(.bool,[.undef])),
 (38,(.bool,[.undef,.undef])),
 (39,(.ty .node,[.undef,.undef,.undef,.undef])),
 (40,(.ty .node,[.undef,.undef,.undef,.undef])),
 (41,(.aG [.ty .node,.ty .node,.bool],[.undef,.undef])),
 (42,(.aG [.ty .node,.ty .node,.bool],[.undef,.undef])),
 (43,(.aG [.ty .node,.ty .Ps],[.undef,.undef,.undef])),
 (44,(.aG [.ty .node,.ty .Ps],[.undef,.undef,.undef])),
 (45,(.int .i64,[.undef,.undef])),
 (46,(.aG [.ty .node,.ty .Ps],[.undef,.undef,.undef])),
 (47,(.ty .msg,[.undef])),
 (48,(.aG [.ty .node,.ty .Ps],[.undef,.undef,.undef])),
 (49,(.bool,[.undef,.undef])),
 (50,(.int .i64,[.agg [.int .i64,.int .i64,.int .i64,.int .i64,.sl 1],.undef])),
 (51,(.aG [.ty .world,.int .i64],[.undef,.undef])),
 (52,(.ty .Hk,[.undef])),
 (53,(.aG [.ty .world,.int .i64],[.undef,.undef])),
 (54,(.int .i64,[.agg [.sl 16,.sl 3,.sl 2,.sl 1,.int .i64],.undef])),
 (55,(.int .i64,[.undef,.undef])),
 (56,(.ty .world,[.undef])),
 (57,(.ty .world,[.undef])),
 (58,(.int .i64,[.undef,.undef])),
 (59,(.aG [.ty .world,.ty .I],[.undef,.undef])),
 (60,(.ty .Ds,[.undef])),
 (61,(.aG [.ty .world,.ty .I],[.undef,.undef])),
 (62,(.bool,[.undef,.undef])),
 (63,(.int .i64,[.sl 3,.undef])),
 (64,(.int .i64,[.undef,.undef])),
 (65,(.int .i64,[.undef,.undef])),
 (66,(.int .i64,[.undef,.undef])),
 (67,(.int .i64,[.undef,.undef])),
 (68,(.int .i64,[.undef,.undef])),
 (69,(.bool,[.undef])),
 (70,(.ty .I,[.undef,.undef])),
 (71,(.sl 1,[.undef])),
 (72,(.agg [.sl 1,.sl 1,.bool,.bool,.bool,.int .i64],[.undef])),
 (73,(.agg [.sl 1,.sl 1],[.undef])),
 (74,(.sl 1,[.undef])),
 (75,(.sl 1,[.undef])),
 (76,(.bool,[.undef])),
 (77,(.ty .I,[.undef,.undef])),
 (78,(.bool,[.undef,.undef])),
 (79,(.bool,[.undef,.undef])),
 (80,(.bool,[.undef,.undef])),
 (81,(.bool,[.undef,.undef])),
 (82,(.int .i64,[.agg [.sl 1,.sl 1,.bool,.bool,.bool,.int .i64],.undef])),
 (83,(.int .i64,[.agg [.sl 1,.sl 1],.undef])),
 (84,(.int .i64,[.sl 1,.undef])),
 (85,(.int .i64,[.sl 1,.undef])),
 (86,(.ty .node,[.undef])),
 (87,(.bool,[.undef,.undef,.undef])),
 (88,(.ty .mt,[.undef])),
 (89,(.ty .I,[.undef,.undef])),
 (90,(.ty .node,[.undef,.undef])),
 (91,(.ty .node,[.undef])),
 (92,(.bool,[.undef])),
 (93,(.bool,[.undef])),
 (94,(.ty .mt,[.undef])),
 (95,(.ty .I,[.undef,.undef])),
 (96,(.ty .node,[.undef,.undef])),
 (97,(.int .i64,[.undef,.undef])),
 (98,(.int .i64,[.undef,.undef])),
 (99,(.int .i64,[.undef,.undef])),
 (100,(.int .i64,[.undef,.undef])),
 (101,(.bool,[.undef,.undef])),
 (102,(.bool,[.undef,.undef])),
 (103,(.ty .I,[.undef,.undef])),
 (104,(.bool,[.undef,.undef])),
 (105,(.bool,[.undef,.undef,.undef])),
 (106,(.bool,[.undef,.undef])),
 (107,(.ty .I,[.undef,.undef])),
 (108,(.aG [.ty .node,.bool],[.undef,.undef])),
 (109,(.int .i64,[.undef])),
 (110,(.sl 1,[.undef])),
 (111,(.int .i64,[.undef])),
 (112,(.bool,[.undef,.undef])),
 (113,(.int .i64,[.undef,.undef])),
 (114,(.int .i64,[.undef,.undef])),
 (115,(.int .i64,[.undef,.undef])),
 (116,(.bool,[.undef])),
 (117,(.bool,[.undef])),
 (118,(.bool,[.undef])),
 (119,(.bool,[.undef])),
 (120,(.sl 16,[.undef])),
 (121,(.sl 3,[.undef])),
 (122,(.sl 2,[.undef])),
 (123,(.bool,[.undef])),
 (124,(.bool,[.undef])),
 (125,(.bool,[.undef])),
 (126,(.bool,[.undef])),
 (127,(.bool,[.undef,.undef])),
 (128,(.bool,[.undef,.undef])),
 (129,(.bool,[.undef,.undef])),
 (130,(.ty .node,[.undef,.undef,.undef,.undef])),
 (131,(.aG [.ty .node,.bool],[.undef,.undef,.undef,.undef])),
 (132,(.int .i64,[.undef,.undef])),
 (133,(.int .i64,[.undef,.undef])),
 (134,(.ty .Ps,[.undef,.undef,.undef])),
 (135,(.bool,[.undef,.undef])),
 (136,(.bool,[.undef,.undef])),
 (137,(.ty .I,[.undef,.undef])),
 (138,(.ty .Ps,[.undef,.undef,.undef])),
 (139,(.bool,[.undef])),
 (140,(.aG [.ty .node,.ty .Ps],[.undef,.undef,.undef])),
 (141,(.bool,[.undef])),
 (142,(.bool,[.undef,.undef])),
 (143,(.aG [.ty .node,.ty .Ps,.bool],[.undef,.undef,.undef])),
 (144,(.bool,[.undef])),
 (145,(.aG [.ty .world,.int .i64],[.undef,.undef])),
 (146,(.ty .world,[.undef])),
 (147,(.bool,[.undef])),
 (148,(.aG [.ty .world,.int .i64],[.undef,.undef])),
 (149,(.int .i64,[.sl 16,.undef])),
 (150,(.int .i64,[.sl 3,.undef])),
 (151,(.int .i64,[.sl 2,.undef])),
 (152,(.int .i64,[.undef,.undef])),
 (153,(.int .i64,[.undef,.undef])),
 (154,(.int .i64,[.undef,.undef])),
 (155,(.ty .world,[.undef])),
 (156,(.ty .world,[.undef])),
 (157,(.aG [.int .i64,.int .i64,.bool],[.undef])),
 (158,(.bool,[.undef,.undef])),
 (159,(.int .i64,[.undef,.undef])),
 (160,(.bool,[.undef])),
 (161,(.bool,[.undef])),
 (162,(.bool,[.undef])),
 (163,(.aG [.ty .mt,.int .i64,.bool],[.undef])),
 (164,(.bool,[.undef,.undef])),
 (165,(.ty .I,[.undef,.undef])),
 (166,(.sl 1,[.undef])),
 (167,(.bool,[.undef])),
 (168,(.bool,[.undef])),
 (169,(.bool,[.undef])),
 (170,(.aG [.ty .mt,.int .i64,.bool],[.undef])),
 (171,(.bool,[.undef,.undef])),
 (172,(.bool,[.undef])),
 (173,(.ty .I,[.undef])),
 (174,(.ty .I,[.undef,.undef])),
 (175,(.bool,[.undef,.undef])),
 (176,(.int .i64,[.sl 1,.undef])),
 (177,(.ty .aA,[.undef])),
 (178,(.ty .aA,[.undef,.undef])),
 (179,(.ty .aA,[.undef])),
 (180,(.ty .L,[.undef])),
 (181,(.ty .R,[.undef])),
 (182,(.ty .I,[.undef,.undef])),
 (183,(.bool,[.undef,.undef])),
 (184,(.int .i64,[.undef,.undef])),
 (185,(.bool,[.undef,.undef])),
 (186,(.bool,[.undef])),
 (187,(.bool,[.undef,.undef])),
 (188,(.int .i64,[.undef,.undef])),
 (189,(.bool,[.undef])),
 (190,(.ty .aA,[.undef,.undef])),
 (191,(.int .i64,[.undef,.undef])),
 (192,(.int .i64,[.undef])),
 (193,(.bool,[.undef,.undef])),
 (194,(.ty .I,[.undef,.undef])),
 (195,(.ty .I,[.undef,.undef])),
 (196,(.ty .I,[.undef,.undef])),
 (197,(.agg [.int .i64,.int .i64,.sl 1],[.undef])),
 (198,(.agg [.int .i64,.int .i64],[.undef])),
 (199,(.ty .I,[.undef])),
 (200,(.bool,[.undef,.undef])),
 (201,(.bool,[.undef,.undef])),
 (202,(.bool,[.undef,.undef])),
 (203,(.ty .I,[.undef,.undef])),
 (204,(.ty .I,[.undef,.undef])),
 (205,(.ty .I,[.undef,.undef])),
 (206,(.bool,[.undef,.undef])),
 (207,(.bool,[.undef,.undef])),
 (208,(.bool,[.undef,.undef])),
 (209,(.ty .node,[.undef,.undef,.undef,.undef])),
 (210,(.aG [.ty .node,.bool],[.undef,.undef,.undef,.undef,.undef])),
 (211,(.bool,[.undef,.undef])),
 (212,(.int .i64,[.undef,.undef])),
 (213,(.int .i64,[.undef,.undef])),
 (214,(.int .i64,[.undef,.undef])),
 (215,(.int .i64,[.undef,.undef,.undef])),
 (216,(.int .i64,[.undef,.undef])),
 (217,(.bool,[.undef,.undef])),
 (218,(.ty .I,[.undef,.undef,.undef])),
 (219,(.ty .node,[.undef,.undef])),
 (220,(.bool,[.undef])),
 (221,(.aG [.ty .world,.int .i64],[.undef,.undef])),
 (222,(.aG [.ty .world,.int .i64],[.undef,.undef,.undef])),
 (223,(.aG [.ty .world,.int .i64],[.undef,.undef])),
 (224,(.aG [.ty .world,.int .i64],[.undef,.undef])),
 (225,(.aG [.ty .world,.int .i64],[.undef,.undef])),
 (226,(.bool,[.undef])),
 (227,(.bool,[.undef,.undef])),
 (228,(.int .i64,[.aW [.cX 16,.cX 3,.cX 2,.cX 1,.int .i64],.undef])),
 (229,(.ty .Hk,[.undef])),
 (230,(.ty .world,[.undef,.undef])),
 (231,(.ty .Ks,[.undef])),
 (232,(.ty .B,[.undef])),
 (233,(.bool,[.undef])),
 (234,(.int .i64,[.undef])),
 (235,(.aG [.ty .mt,.int .i64,.bool],[.undef])),
 (236,(.bool,[.undef])),
 (237,(.bool,[.undef,.undef])),
 (238,(.bool,[.undef])),
 (239,(.bool,[.undef])),
 (240,(.aG [.ty .mt,.int .i64,.bool],[.undef])),
 (241,(.bool,[.undef,.undef,.undef])),
 (242,(.ty .I,[.undef,.undef])),
 (243,(.ty .B,[.undef,.undef])),
 (244,(.ty .aA,[.undef,.undef,.undef])),
 (245,(.sl 1,[])),
 (246,(.sl 1,[.undef,.undef,.undef])),
 (247,(.int .i64,[.undef,.undef])),
 (248,(.sl 1,[])),
 (249,(.sl 1,[.undef,.undef,.undef])),
 (250,(.aG [],[.sl 1])),
 (251,(.bool,[.undef,.undef])),
 (252,(.int .i64,[.undef,.undef])),
 (253,(.bool,[.undef,.undef])),
 (254,(.aG [],[.undef,.undef])),
 (255,(.aG [.ty .msg,.bool],[.undef])),
 (256,(.ty .world,[.undef,.undef,.undef])),
 (257,(.ty .world,[.undef,.undef])),
 (258,(.ty .world,[.undef,.undef])),
 (259,(.bool,[.undef])),
 (260,(.aG [.ty .world,.int .i64],[.undef,.undef,.undef])),
 (261,(.aG [.ty .world,.int .i64],[.undef,.undef,.undef])),
 (262,(.ty .node,[.undef])),
 (263,(.ty .aA,[.undef,.undef,.undef])),
 (264,(.ty .world,[.undef,.undef])),
 (265,(.bool,[.undef,.undef])),
 (266,(.aG [.ty .node,.bool],[.undef,.undef,.undef])),
 (267,(.aG [.ty .node,.bool],[.undef])),
 (268,(.bool,[.undef,.undef])),
 (269,(.int .i64,[.aW [.cX 16,.cX 3,.cX 2,.cX 1,.int .i64],.undef,.undef])),
 (270,(.int .i64,[.aW [.cX 16,.cX 3,.cX 2,.cX 1,.int .i64],.undef,.undef])),
 (271,(.aG [],[.aW [.cX 16,.cX 3,.cX 2,.cX 1,.int .i64],.undef,.undef])),
 (272,(.int .i64,[.aW [.cX 16,.cX 3,.cX 2,.cX 1,.int .i64],.undef])),
 (273,(.ty .node,[.undef])),
 (274,(.int .i64,[.aW [.cX 16,.cX 3,.cX 2,.cX 1,.int .i64],.undef,.undef])),
 (275,(.int .i64,[.aW [.cX 16,.cX 3,.cX 2,.cX 1,.int .i64],.undef])),
 (276,(.int .i64,[.aW [.cX 16,.cX 3,.cX 2,.cX 1,.int .i64],.undef])),
 (277,(.int .i64,[.aW [.cX 16,.cX 3,.cX 2,.cX 1,.int .i64],.undef,.undef])),
 (278,(.int .i64,[.aW [.cX 16,.cX 3,.cX 2,.cX 1,.int .i64],.undef,.undef])),
 (279,(.aG [.ty .mt,.bool],[.undef])),
 (280,(.int .i64,[.undef,.undef])),
 (281,(.aG [.ty .mt,.int .i64,.bool],[.undef])),
 (282,(.sl 1,[.undef])),
 (283,(.ty .B,[.undef])),
 (284,(.ty .B,[.undef])),
 (285,(.ty .B,[.undef,.undef])),
 (286,(.aG [],[.undef,.undef])),
 (287,(.aG [.ty .Ms,.bool],[.undef])),
 (288,(.aG [.ty .msg,.int .i64,.bool],[.undef,.undef])),
 (289,(.ty .B,[.undef])),
 (290,(.ty .B,[.undef])),
 (291,(.ty .B,[.undef,.undef,.undef])),
 (292,(.ty .node,[.undef])),
 (293,(.bool,[.undef,.undef,.undef])),
 (294,(.bool,[.undef])),
 (295,(.aG [],[.aW [.cX 16,.cX 3,.cX 2,.cX 1,.int .i64],.undef])),
 (296,(.aG [],[.aW [.cX 16,.cX 3,.cX 2,.cX 1,.int .i64],.undef])),
 (297,(.ty .Ws,[.undef,.undef])),
 (298,(.bool,[.undef,.undef,.undef])),
 (299,(.aG [],[.aW [.cX 16,.cX 3,.cX 2,.cX 1,.int .i64],.undef])),
 (300,(.ty .node,[.undef])),
 (301,(.int .i64,[.undef,.undef])),
 (302,(.bool,[.undef,.undef])),
 (303,(.ty .Ws,[.undef,.undef,.undef])),
 (304,(.aG [.ty .msg,.bool],[.undef])),
 (305,(.bool,[.undef,.undef])),
 (306,(.bool,[.undef,.undef])),
 (307,(.bool,[.undef])),
 (308,(.aG [.ty .node,.bool],[.undef,.undef,.undef])),
 (309,(.aG [.ty .node,.bool],[.undef])),
 (310,(.sl 1,[.aW [.cX 1,.int .i64,.bool]])),
 (311,(.int .i64,[.aW [.cX 1,.int .i64,.bool]])),
 (312,(.aG [.ty .mt,.bool],[.undef])),
 (313,(.bool,[.undef,.undef])),
 (314,(.sl 1,[.undef])),
 (315,(.ty .B,[.undef,.undef])),
 (316,(.sl 1,[.undef])),
 (317,(.ty .B,[.undef])),
 (318,(.aG [.ty .B,.bool],[.undef])),
 (319,(.ty .B,[.undef])),
 (320,(.int .i64,[.undef])),
 (321,(.ty .B,[.undef])),
 (322,(.int .i64,[.undef,.undef])),
 (323,(.int .i64,[.undef,.undef])),
 (324,(.ty .node,[.undef])),
 (325,(.ty .B,[.undef,.undef,.undef])),
 (326,(.aG [.ty .Ms,.bool],[.undef])),
 (327,(.aG [.ty .msg,.int .i64,.bool],[.undef,.undef])),
 (328,(.bool,[.undef,.undef,.undef])),
 (329,(.aG [.int .i64,.int .i64,.bool],[.undef,.undef])),
 (330,(.sl 1,[.aW [.cX 1,.int .i64,.bool]])),
 (331,(.int .i64,[.aW [.cX 1,.int .i64,.bool]])),
 (332,(.sl 1,[.undef])),
 (333,(.sl 1,[.undef])),
 (334,(.int .i64,[.undef,.undef])),
 (335,(.aG [.int .i64,.int .i64],[.undef,.undef])),
 (336,(.ty .B,[.undef])),
 (337,(.ty .B,[.undef])),
 (338,(.aG [.ty .B,.bool],[.undef])),
 (339,(.bool,[.undef,.undef])),
 (340,(.aG [.int .i64,.int .i64,.bool],[.undef,.undef])),
 (341,(.sl 1,[.undef])),
 (342,(.int .i64,[.undef,.undef,.undef])),
 (343,(.ty .B,[.undef])),
 (344,(.int .i64,[.undef])),
 (345,(.aG [.int .i64,.int .i64],[.undef,.undef])),
 (346,(.int .i64,[.undef,.undef,.undef])),
 (347,(.str,[.undef])),
 (348,(.aG [],[.undef])),
 (349,(.str,[.undef])),
 (350,(.aG [],[.undef])),
 (351,(.str,[.undef])),
 (352,(.aG [],[.undef])),
 (353,(.str,[.undef])),
 (354,(.aG [],[.undef])),
 (360,(.str,[.undef])),
 (361,(.aG [],[.undef])),
 (362,(.str,[.undef]))]
def cfg:cn where
 ty:=lk ZZ
 ext:=fun f=>if f=110 then some (jh 1 8) else if f=180 then some (jh 1 1) else if f=231 then some (jh 2 16) else if f=232 then some (jh 1 1) else if f=242 then some (wj 1 8) else if f=315 then some (wj 1 1) else if f=218 then some SE else none
 own:=fun f=>(lk adH f).getD []
 inl:=fun f=>adI.contains f
 ql:=fun f t=>XX.contains (f,t)
 nm:=fun f i=>(afp.find? fun r=>r.1==f&&r.2.1==i).map fun r=>r.2.2
 gone:=fun f=>(lk aa2 f).getD []
 base:=fun f t=>match lk aa3 f with | some l=>lk l t | none=>none
 nj:=fun f t=>match lk aa4 f with | some l=>(lk l t).getD [] | none=>[]
def afr:List Nat:=[32,75,120,121,122,85,149,150,151]
def sg:Sg:=⟨lk afq,fun f=>afr.contains f⟩
theorem vj:ey cfg Tryz.prog:=⟨Oa (l:=ZZ) (by kernel_rfl)⟩
theorem XY (f : FuncId) (fn : Func) (body : Code) (hf : Tryz.prog.funcs[f]? = some fn) (hb : fn.body = some body) : lF fn.ntmps body = true ∧ (fn.name == "runtime.NumGoroutine") = false :=
  aaV (by kernel_rfl) f fn body hf hb
theorem Vg:Tryz.prog.follows .mixedOrders=true:=by kernel_rfl
def Vh:Ren:=⟨fun | 41=>110 | n=>n,fun | 4=>4 | 22=>22 | 23=>3 | n=>n,fun n=>n⟩
theorem Vi:SlLaysE0.n41 Tryz.prog Vh where
 mixed:=by kernel_rfl
 f41:=⟨Tryz.f110.name,by kernel_rfl,Tryz.func110.trans (congrArg some (by kernel_rfl))⟩
 t4:=Tryz.underlying4
 a4:=Tryz.isAgg4
 z4:=Tryz.sizeOf4
 v4:=Tryz.zeroValue4
 t22:=Tryz.underlying22
 a22:=Tryz.isAgg22
 z22:=Tryz.sizeOf22
 v22:=Tryz.zeroValue22
theorem SS:kh Tryz.prog 110:=⟨_,Tryz.func110,by kernel_rfl,by kernel_rfl⟩
noncomputable def Vj:TypeInfo:=(Tryz.prog.info? 3).get (by kernel_rfl)
def Vk:Ren:=⟨fun | 41=>180 | n=>n,fun | 4=>4 | 22=>29 | 23=>4 | n=>n,fun n=>n⟩
theorem Vl:SlLaysE0.n41 Tryz.prog Vk where
 mixed:=by kernel_rfl
 f41:=⟨Tryz.f180.name,by kernel_rfl,Tryz.func180.trans (congrArg some (by kernel_rfl))⟩
 t4:=Tryz.underlying4
 a4:=Tryz.isAgg4
 z4:=Tryz.sizeOf4
 v4:=Tryz.zeroValue4
 t22:=Tryz.underlying29
 a22:=Tryz.isAgg29
 z22:=Tryz.sizeOf29
 v22:=Tryz.zeroValue29
theorem SU:kh Tryz.prog 180:=⟨_,Tryz.func180,by kernel_rfl,by kernel_rfl⟩
noncomputable def Vm:TypeInfo:=(Tryz.prog.info? 4).get (by kernel_rfl)
def Vn:Ren:=⟨fun | 41=>231 | n=>n,fun | 4=>4 | 22=>64 | 23=>174 | n=>n,fun n=>n⟩
theorem Vo:SlLaysE0.n41 Tryz.prog Vn where
 mixed:=by kernel_rfl
 f41:=⟨Tryz.f231.name,by kernel_rfl,Tryz.func231.trans (congrArg some (by kernel_rfl))⟩
 t4:=Tryz.underlying4
 a4:=Tryz.isAgg4
 z4:=Tryz.sizeOf4
 v4:=Tryz.zeroValue4
 t22:=Tryz.underlying64
 a22:=Tryz.isAgg64
 z22:=Tryz.sizeOf64
 v22:=Tryz.zeroValue64
theorem SV:kh Tryz.prog 231:=⟨_,Tryz.func231,by kernel_rfl,by kernel_rfl⟩
noncomputable def Vp:TypeInfo:=(Tryz.prog.info? 174).get (by kernel_rfl)
def Vq:Ren:=⟨fun | 41=>232 | n=>n,fun | 4=>4 | 22=>26 | 23=>5 | n=>n,fun n=>n⟩
theorem Vr:SlLaysE0.n41 Tryz.prog Vq where
 mixed:=by kernel_rfl
 f41:=⟨Tryz.f232.name,by kernel_rfl,Tryz.func232.trans (congrArg some (by kernel_rfl))⟩
 t4:=Tryz.underlying4
 a4:=Tryz.isAgg4
 z4:=Tryz.sizeOf4
 v4:=Tryz.zeroValue4
 t22:=Tryz.underlying26
 a22:=Tryz.isAgg26
 z22:=Tryz.sizeOf26
 v22:=Tryz.zeroValue26
theorem SW:kh Tryz.prog 232:=⟨_,Tryz.func232,by kernel_rfl,by kernel_rfl⟩
noncomputable def Vs:TypeInfo:=(Tryz.prog.info? 5).get (by kernel_rfl)
def XZ:Ren:=⟨fun | 4=>242 | n=>n,fun | 0=>0 | 3=>3 | 4=>4 | 9=>9 | 20=>20 | 22=>22 | 25=>3 | n=>n,fun n=>n⟩
theorem X0:Lays8.n4 Tryz.prog XZ where
 mixed:=by kernel_rfl
 f4:=⟨Tryz.f242.name,by kernel_rfl,Tryz.func242.trans (congrArg some (by kernel_rfl))⟩
 t0:=Tryz.underlying0
 a0:=Tryz.isAgg0
 z0:=Tryz.sizeOf0
 v0:=Tryz.zeroValue0
 t3:=Tryz.underlying3
 a3:=Tryz.isAgg3
 z3:=Tryz.sizeOf3
 v3:=Tryz.zeroValue3
 t4:=Tryz.underlying4
 a4:=Tryz.isAgg4
 z4:=Tryz.sizeOf4
 v4:=Tryz.zeroValue4
 t9:=Tryz.underlying9
 a9:=Tryz.isAgg9
 z9:=Tryz.sizeOf9
 v9:=Tryz.zeroValue9
 t20:=Tryz.underlying20
 a20:=Tryz.isAgg20
 z20:=Tryz.sizeOf20
 v20:=Tryz.zeroValue20
 t22:=Tryz.underlying22
 a22:=Tryz.isAgg22
 z22:=Tryz.sizeOf22
 v22:=Tryz.zeroValue22
theorem Vt:kh Tryz.prog 242:=⟨_,Tryz.func242,by kernel_rfl,by kernel_rfl⟩
noncomputable def X3:TypeInfo:=(Tryz.prog.info? 3).get (by kernel_rfl)
def X4:Ren:=⟨fun | 4=>315 | n=>n,fun | 0=>0 | 3=>3 | 4=>4 | 9=>9 | 20=>20 | 22=>26 | 25=>5 | n=>n,fun n=>n⟩
theorem X5:Lays8.n4 Tryz.prog X4 where
 mixed:=by kernel_rfl
 f4:=⟨Tryz.f315.name,by kernel_rfl,Tryz.func315.trans (congrArg some (by kernel_rfl))⟩
 t0:=Tryz.underlying0
 a0:=Tryz.isAgg0
 z0:=Tryz.sizeOf0
 v0:=Tryz.zeroValue0
 t3:=Tryz.underlying3
 a3:=Tryz.isAgg3
 z3:=Tryz.sizeOf3
 v3:=Tryz.zeroValue3
 t4:=Tryz.underlying4
 a4:=Tryz.isAgg4
 z4:=Tryz.sizeOf4
 v4:=Tryz.zeroValue4
 t9:=Tryz.underlying9
 a9:=Tryz.isAgg9
 z9:=Tryz.sizeOf9
 v9:=Tryz.zeroValue9
 t20:=Tryz.underlying20
 a20:=Tryz.isAgg20
 z20:=Tryz.sizeOf20
 v20:=Tryz.zeroValue20
 t22:=Tryz.underlying26
 a22:=Tryz.isAgg26
 z22:=Tryz.sizeOf26
 v22:=Tryz.zeroValue26
theorem Vu:kh Tryz.prog 315:=⟨_,Tryz.func315,by kernel_rfl,by kernel_rfl⟩
noncomputable def X6:TypeInfo:=(Tryz.prog.info? 5).get (by kernel_rfl)
def ahH:Ren:=⟨fun | 21=>218 | 27=>253 | 28=>254 | 35=>286 | 39=>250 | n=>n,fun | 0=>0 | 3=>3 | 4=>4 | 22=>22 | n=>n,fun n=>n⟩
theorem ahI:Lays2.n21 Tryz.prog ahH where
 mixed:=by kernel_rfl
 f21:=Tryz.func218.trans (congrArg some (by kernel_rfl))
 f27:=Tryz.func253.trans (congrArg some (by kernel_rfl))
 f28:=Tryz.func254.trans (congrArg some (by kernel_rfl))
 f35:=Tryz.func286.trans (congrArg some (by kernel_rfl))
 f39:=Tryz.func250.trans (congrArg some (by kernel_rfl))
 t0:=Tryz.underlying0
 a0:=Tryz.isAgg0
 z0:=Tryz.sizeOf0
 v0:=Tryz.zeroValue0
 t3:=Tryz.underlying3
 a3:=Tryz.isAgg3
 z3:=Tryz.sizeOf3
 v3:=Tryz.zeroValue3
 t4:=Tryz.underlying4
 a4:=Tryz.isAgg4
 z4:=Tryz.sizeOf4
 v4:=Tryz.zeroValue4
 t22:=Tryz.underlying22
 a22:=Tryz.isAgg22
 z22:=Tryz.sizeOf22
 v22:=Tryz.zeroValue22
 i3:=by kernel_rfl
theorem afs:kh Tryz.prog 218:=⟨_,Tryz.func218,by kernel_rfl,by kernel_rfl⟩
theorem aa5:∀ f e ds r outs,cfg.ext f=some e->e ds=some (r,outs)->kh Tryz.prog f/\∀ (w:World) (Y:Nat->Prop) (us:Array Value) (az:List Arg),jG w Y (cfg.own f) ds us.toList az->dw r=true->(∀ o∈outs,dw o=true)->
  Calls Tryz.prog f us w fun e w'=>∃ v,e=.returned v/\fp w w' Y (cfg.own f) az r outs v:=by
 intro f e ds r outs h h2;have h:(if f=110 then some (jh 1 8) else if f=180 then some (jh 1 1) else if f=231 then some (jh 2 16) else if f=232 then some (jh 1 1) else if f=242 then some (wj 1 8) else if f=315 then some (wj 1 1) else if f=218 then some SE else none)=some e:=h
 split at h
 ·rename_i hf;subst hf;have h:=agl h;subst h;exact yV Vi Vj (.int .i64 0) 1 8 (by kernel_rfl) (by kernel_rfl) (by kernel_rfl) (by kernel_rfl) rfl (by decide) Tryz.sizeOf3 SS (own:=cfg.own 110) (by kernel_rfl) h2
 split at h
 ·rename_i hf;subst hf;have h:=agl h;subst h;exact yV Vl Vm (.bool false) 1 1 (by kernel_rfl) (by kernel_rfl) (by kernel_rfl) (by kernel_rfl) rfl (by decide) Tryz.sizeOf4 SU (own:=cfg.own 180) (by kernel_rfl) h2
 split at h
 ·rename_i hf;subst hf;have h:=agl h;subst h;exact yV Vo Vp (.agg #[.int .i64 0,.int .i64 0]) 2 16 (by kernel_rfl) (by kernel_rfl) (by kernel_rfl) (by kernel_rfl) rfl (by decide) Tryz.sizeOf174 SV (own:=cfg.own 231) (by kernel_rfl) h2
 split at h
 ·rename_i hf;subst hf;have h:=agl h;subst h;exact yV Vr Vs (.int .u8 0) 1 1 (by kernel_rfl) (by kernel_rfl) (by kernel_rfl) (by kernel_rfl) rfl (by decide) Tryz.sizeOf5 SW (own:=cfg.own 232) (by kernel_rfl) h2
 split at h
 ·rename_i hf;subst hf;have h:=agl h;subst h;exact Rh X0 X3 (.int .i64 0) 1 8 (by kernel_rfl) (by kernel_rfl) (by kernel_rfl) (by kernel_rfl) rfl (by decide) Vt (own:=cfg.own 242) (by kernel_rfl) h2
 split at h
 ·rename_i hf;subst hf;have h:=agl h;subst h;exact Rh X5 X6 (.int .u8 0) 1 1 (by kernel_rfl) (by kernel_rfl) (by kernel_rfl) (by kernel_rfl) rfl (by decide) Vu (own:=cfg.own 315) (by kernel_rfl) h2
 split at h
 ·rename_i hf;subst hf;have h:=agl h;subst h;exact U8 ahI afs (own:=cfg.own 218) (by kernel_rfl) h2
 ·simp at h
theorem y7 (k:Nat):lu Tryz.prog cfg.own (RH cfg Tryz.prog k):=(NX vj Vg XY aa5 k).1
open Go.RowKit
inductive Sh where
 | bool
 | int (k:IntKind)
 | str
 | sl (b:Nat) (e:Sh)
 | ag (fs:List Sh)
mutual
def width:Sh->Nat
 | .ag fs=>vk fs
 | _=>1
def vk:List Sh->Nat
 | []=>0
 | f::fs=>width f+vk fs
end
mutual
def WT:Sh->List D->Prop
 | .bool,ds=>∃ b,ds=[.bool b]
 | .int k,ds=>∃ n,ds=[.int k n]/\(Lit.int k n).wf=true
 | .str,ds=>∃ s,ds=[.str s]/\s.size<=reachBytes
 | .sl b e,ds=>∃ es:List (List D),ds=[.sl (some false) (width e) es.length es.flatten]/\es.length*b<=reachBytes/\∀ x∈es,WT e x
 | .ag fs,ds=>WTs fs ds
def WTs:List Sh->List D->Prop
 | [],ds=>ds=[]
 | f::fs,ds=>∃ a b,ds=a++b/\WT f a/\WTs fs b
end
mutual
def AU (P:Program):TypeId->Sh->Bool
 | t,.bool=>match P.underlying t with | some .bool=>true | _=>false
 | t,.int k=>match P.underlying t with | some (.int k')=>decide (k'=k) | _=>false
 | t,.str=>match P.underlying t with | some .string=>true | _=>false
 | t,.sl b e=>match P.underlying t with
  | some (.slice et)=>AU P et e&&decide (P.cellsOf et=width e)&&decide (P.bytesOf et=b)&&decide (0 < width e)
  | _=>false
 | t,.ag fs=>match P.underlying t with
  | some (.struct fl)=>decide (P.cellsOf t=vk fs)&&BX P fl.toList 0 fs
  | _=>false
def BX (P:Program):List Field->Nat->List Sh->Bool
 | [],_,[]=>true
 | f::fl,o,s::ss=>decide (f.offset=o)&&decide (P.cellsOf f.type=width s)&&AU P f.type s&&BX P fl (o+width s) ss
 | _,_,_=>false
end
theorem mapM_some {α β:Type} {f:α->Option β}:∀ {l:List α} {r:List β},l.mapM f=some r->l.length=r.length/\∀ (i:Nat) (a:α),l[i]?=some a->∃ b,f a=some b/\r[i]?=some b
 | [],r,h=>by
  simp only [List.mapM_nil] at h;cases h;exact ⟨rfl,by simp⟩
 | a::l,r,h=>by
  simp only [List.mapM_cons,Option.bind_eq_bind,Option.bind_eq_some_iff] at h;obtain ⟨b,hb,bs,wa,h⟩:=h;cases h;obtain ⟨h1,h2⟩:=mapM_some wa;refine ⟨by simp [h1],fun i x hx=>?_⟩
  cases i with
  | zero=>
   simp only [acH,mN] at hx;subst hx;exact ⟨b,hb,rfl⟩
  | succ i=>
   simp only [adn] at hx ⊢;exact h2 i x hx
theorem Vv {w:World} {base:Nat} {a:Addr} {n:Nat} {vs:List Value} (h:w.cells? base a n=some vs):vs.length=n/\∀ i,i < n->w.cell? (a.add i)=vs[i]?:=by
 unfold World.cells? at h;split at h
 ·obtain ⟨h1,h2⟩:=mapM_some h;rw [List.length_range] at h1;refine ⟨h1.symm,fun i hi=>?_⟩;obtain ⟨b,hb,hr⟩:=h2 i i (by rw [List.getElem?_range hi])
  rw [hb,hr]
 ·simp at h
theorem Rm {w:World} {X:Bool->Nat->Prop} {a b:List D} {us vs:List Value} (h:fV w X a us) (h':fV w X b vs):fV w X (a++b) (us++vs):=by
 rw [gY] at h h' ⊢;exact h.app h'
theorem flat_get {α:Type} {wd:Nat} (hw:0 < wd):∀ {ls:List (List α)},(∀ l∈ls,l.length=wd)->∀ j:Nat,ls.flatten[j]?=(ls[j / wd]?).bind (fun l=>l[j % wd]?)
 | [],_,j=>by simp
 | l::ls,h,j=>by
  have hl:=h l (by simp)
  rw [aga];by_cases hj:j < wd
  ·rw [adx (by omega),Nat.div_eq_of_lt hj,agQ hj]
   rfl
  ·rw [adr (by omega),hl,flat_get hw (fun x hx=>h x (by simp [hx])) (j - wd)]
   have h1:j / wd=(j - wd) / wd+1:=by
    rw [Nat.div_eq_sub_div hw (by omega)]
   have h2:j % wd=(j - wd) % wd:=by
    rw [Nat.mod_eq_sub_mod (by omega)]
   rw [h1,h2,adn]
theorem Oo {α:Type} {Q:Nat->α->Prop}:∀ len:Nat,(∀ i,i < len->∃ x,Q i x)->∃ es:List α,es.length=len/\∀ (i:Nat) (x:α),es[i]?=some x->Q i x
 | 0,_=>⟨[],rfl,by simp⟩
 | n+1,h=>by
  obtain ⟨es,h1,h2⟩:=Oo n (fun i hi=>h i (by omega))
  obtain ⟨x,hx⟩:=h n (by omega)
  refine ⟨es++[x],by simp [h1],fun i y hy=>?_⟩
  by_cases hi:i < n
  ·rw [adx (by omega)] at hy
   exact h2 i y hy
  ·rw [adr (by omega)] at hy
   have:i=n:=by
    have:=(aaa.1 hy).1;simp at this;omega
   subst this;rw [h1,agx,acH,mN] at hy;subst hy;exact hx
theorem xD {H:Type} {P:Program} {e:TypeId}:∀ {ds:List (DataW H)} {i:Nat} {d:DataW H},ds[i]?=some d->∀ z∈d.weights P e,z∈DataW.weightsAll P e ds
 | [],i,d,h,_,_=>by simp at h
 | x::ds,0,d,h,z,hz=>by
  simp only [acH,mN] at h;subst h;simp only [DataW.weightsAll,sE];exact .inl hz
 | x::ds,i+1,d,h,z,hz=>by
  simp only [DataW.weightsAll,sE];exact .inr (xD (by simpa using h) z hz)
theorem JG {w:World} {X:Bool->Nat->Prop}:∀ {ps:List (List D × List Value)},(∀ p∈ps,fV w X p.1 p.2)->fV w X (ps.map (·.1)).flatten (ps.map (·.2)).flatten
 | [],_=>by simp [fV]
 | p::ps,h=>by
  simp only [ac6,aga];exact Rm (h p (by simp)) (JG (fun q hq=>h q (by simp [hq])))
section
variable {H:Type} {enc:TypeId × Value->H} {P:Program} {w:World} {held:Bool} {X:Bool->Nat->Prop} (hX:∀ k,k < w.heap.size->X false k)
include hX
mutual
theorem xE:∀ (sh:Sh) {fuel:Nat} {t:TypeId} {cs:List Value} {x:DataW H × List MemPlace},DataW.trod enc P w 0 (fun _=>true) held fuel t cs=some x->AU P t sh=true->(∀ z∈x.1.weights P t,z<=reachBytes)->∃ ds,WT sh ds/\fV w X ds cs
 | .bool,fuel,t,cs,x,h,hs,_=>by
  simp only [AU] at hs;split at hs
  ·rename_i ht;obtain ⟨b,rfl,rfl⟩:=DataW.trod_bool ht h;exact ⟨[.bool b],⟨b,rfl⟩,_,_,rfl,rfl,rfl⟩
  ·simp at hs
 | .int k,fuel,t,cs,x,h,hs,_=>by
  simp only [AU] at hs;split at hs
  ·rename_i k' ht;simp only [decide_eq_true_eq] at hs;subst hs;obtain ⟨n,rfl,rfl,hw⟩:=DataW.trod_int ht h;exact ⟨[.int k' n],⟨n,rfl,hw⟩,_,_,rfl,rfl,rfl⟩
  ·simp at hs
 | .str,fuel,t,cs,x,h,hs,hz=>by
  simp only [AU] at hs;split at hs
  ·rename_i ht;obtain ⟨s,rfl,rfl,hw⟩:=DataW.trod_string ht h;refine ⟨[.str s],⟨s,rfl,?_⟩,_,_,rfl,rfl,rfl⟩;have:s.data.toList.length<=reachBytes:=hz _ (by unfold DataW.weights; exact agE)
   rw [agy] at this;exact this
  ·simp at hs
 | .sl b e,fuel,t,cs,x,h,hs,hz=>by
  simp only [AU] at hs;split at hs
  case h_2=>simp at hs
  rename_i et ht;simp only [wX,decide_eq_true_eq] at hs;obtain ⟨⟨⟨h1,h2⟩,h3⟩,h4⟩:=hs;rcases DataW.trod_slice ht h with ⟨rfl,rfl⟩ | ⟨a,len,cap,elems,rest,n,rfl,rfl,rfl,_,hl,hm,hlen,fr,_⟩
  ·refine ⟨[.sl (some false) (width e) 0 []],⟨[],rfl,by simp,by simp⟩,_,_,rfl,?_,rfl⟩
   exact ⟨none,0,[],rfl,acD _,by simp,rfl,.inl rfl⟩
  ·replace hz:∀ z∈((elems.map (fun y:DataW H × List MemPlace=>y.1)).length+(rest.map (fun y:DataW H × List MemPlace=>y.1)).length)*P.bytesOf et::(DataW.weightsAll P et (elems.map (fun y:DataW H × List MemPlace=>y.1))++DataW.weightsAll P et (rest.map (fun y:DataW H × List MemPlace=>y.1))),z<=reachBytes:=fun z Oq=>hz z (by
    show z∈(match P.underlying t with | some (.slice e)=>((elems.map (fun y:DataW H × List MemPlace=>y.1)).length+(rest.map (fun y:DataW H × List MemPlace=>y.1)).length)*P.bytesOf e::(DataW.weightsAll P e (elems.map (fun y:DataW H × List MemPlace=>y.1))++DataW.weightsAll P e (rest.map (fun y:DataW H × List MemPlace=>y.1))) | _=>[])
    rw [ht];exact Oq)
   rw [h2] at fr;have Jk:=hz _ agE;have each:∀ i,i < len->∃ p:List D × List Value,WT e p.1/\fV w X p.1 p.2/\p.2.length=width e/\∀ j,j < width e->w.cell? ((a.add (i*width e)).add j)=p.2[j]?:=by
    intro i hi;have h5:=fr i hi;have nC:i < elems.length:=by omega
    rw [ace nC] at h5;rw [Option.bind_eq_some_iff] at h5;obtain ⟨vs,h6,h7⟩:=h5;obtain ⟨h8,h9⟩:=Vv h6;obtain ⟨ds,lz,MP⟩:=xE e h7 h1 (fun z Oq=>hz z (ag3 _ (sE.2 (.inl (xD (i:=i) (d:=elems[i].1) (by rw [adp,ace nC]; rfl) z Oq)))))
    exact ⟨(ds,vs),lz,MP,h8,h9⟩
   obtain ⟨ps,g1,g2⟩:=Oo len each;have gm:∀ p∈ps,WT e p.1/\fV w X p.1 p.2/\p.2.length=width e:=fun p hp=>by
    obtain ⟨i,hi⟩:=List.getElem?_of_mem hp;obtain ⟨k1,k2,k3,_⟩:=g2 i p hi;exact ⟨k1,k2,k3⟩
   have pw:=JG (w:=w) (X:=X) (ps:=ps) (fun p hp=>(gm p hp).2.1);have aft:∀ l∈ps.map (·.1),l.length=width e:=fun l hl=>by
    obtain ⟨p,hp,rfl⟩:=acv.1 hl;have:=((gY p.1 p.2).1 (gm p hp).2.1).len;rw [this,(gm p hp).2.2]
   have afu:∀ l∈ps.map (·.2),l.length=width e:=fun l hl=>by
    obtain ⟨p,hp,rfl⟩:=acv.1 hl;exact (gm p hp).2.2
   refine ⟨[.sl (some false) (width e) len (ps.map (·.1)).flatten],⟨ps.map (·.1),by simp [g1],?_,fun x hx=>by obtain ⟨p,hp,rfl⟩:=acv.1 hx; exact (gm p hp).1⟩,_,_,rfl,?_,rfl⟩
   ·rw [aeR,g1];rw [aeR,aeR,h3,hlen] at Jk;exact agf (adl b (by omega)) Jk
   ·refine ⟨some a,cap,(ps.map (·.2)).flatten,rfl,hl,?_,pw,?_⟩
    ·have:∀ {ls:List (List D)},(∀ l∈ls,l.length=width e)->ls.flatten.length=ls.length*width e:=by
      intro ls
      induction ls with
      | nil=>intro _; simp
      | cons l ls ih=>
       intro hh;rw [aga,aap,ih (fun x hx=>hh x (by simp [hx])),hh l (by simp),adj,af2,Nat.one_mul,Nat.add_comm]
     rw [this aft,aeR,g1]
    ·by_cases h0:len=0
     ·left
      have:ps=[]:=by cases ps with | nil=>rfl | cons _ _=>simp at g1; omega
      rw [this]; rfl
     ·right
      obtain ⟨p0,Nd⟩:∃ p,ps[0]?=some p:=⟨ps[0],ace (by omega)⟩
      obtain ⟨_,_,k3,k4⟩:=g2 0 p0 Nd;have k5:=k4 0 h4;have afv:p0.2[0]?=some (p0.2[0]):=ace (by omega)
      rw [afv,Nat.zero_mul] at k5;have U7:(a.add 0).add 0=a:=by simp [Addr.add]
      rw [U7] at k5;obtain ⟨k,off,spot⟩:=a;unfold World.cell? at k5;split at k5
      case h_2=>simp at k5
      rename_i c ee fz fo;split at k5
      ·simp at k5
      rename_i ZT;have afw:spot=none:=by cases spot<;>simp at ZT ⊢
      subst afw;refine ⟨k,off,c,ee,fz,rfl,hX k ?_,fo,fun j v hj=>?_⟩
      ·rcases Nat.lt_or_ge k w.heap.size with hh | hh
       ·exact hh
       ·rw [agr hh] at fo; simp at fo
      ·rw [flat_get h4 afu] at hj;rw [adp] at hj;cases hp:ps[j / width e]? with
       | none=>rw [hp] at hj; simp at hj
       | some p=>
        rw [hp] at hj;simp only [MD,Option.bind_some] at hj;obtain ⟨_,_,_,m4⟩:=g2 _ p hp;have m5:=m4 (j % width e) (Nat.mod_lt _ h4);rw [hj,eS,eS] at m5;unfold World.cell? at m5;simp only [fo] at m5;have m6:off+j / width e*width e+j % width e=off+j:=by
         have:=Nat.div_add_mod j (width e);rw [Nat.mul_comm] at this;omega
        rw [m6] at m5
        simpa using m5
 | .ag fs,fuel,t,cs,x,h,hs,hz=>by
  simp only [AU] at hs;split at hs
  case h_2=>simp at hs
  rename_i fl ht;simp only [wX,decide_eq_true_eq] at hs;obtain ⟨h1,h2⟩:=hs;obtain ⟨xs,n,rfl,rfl,h3,h4,h5⟩:=DataW.trod_struct ht h;simp only [DataW.weights,ht] at hz;obtain ⟨ds,h6,h7⟩:=Ot (cs:=cs) (n:=n) fs (fl:=fl.toList) (o:=0) (xs:=xs) (by simpa using h4.symm) (fun i f hf=>h5 i f (by simpa using hf)) h2 hz (by omega)
  refine ⟨ds,h6,?_⟩;rw [af7,aek (by omega)] at h7
  exact h7
theorem Ot:∀ (ss:List Sh) {n:Nat} {cs:List Value} {fl:List Field} {o:Nat} {xs:List (DataW H × List MemPlace)},fl.length=xs.length->(∀ (i:Nat) (f:Field),fl[i]?=some f->DataW.trod enc P w 0 (fun _=>true) held n f.type ((cs.drop f.offset).take (P.cellsOf f.type))=xs[i]?)->BX P fl o ss=true->(∀ z∈DataW.weightsEach P (fl.map (·.type)) (xs.map (·.1)),z<=reachBytes)->o+vk ss<=cs.length->
  ∃ ds,WTs ss ds/\fV w X ds ((cs.drop o).take (vk ss))
 | [],n,cs,fl,o,xs,_,_,hs,_,_=>by
  have _:=hX;cases fl with
  | nil=>exact ⟨[],rfl,by simp [vk,fV]⟩
  | cons f fl=>simp [BX] at hs
 | s::ss,n,cs,fl,o,xs,hl,hx,hs,hz,ho=>by
  cases fl with
  | nil=>simp [BX] at hs
  | cons f fl=>
   cases xs with
   | nil=>simp at hl
   | cons x xs=>
    simp only [BX,wX,decide_eq_true_eq] at hs;obtain ⟨⟨⟨h1,h2⟩,h3⟩,h4⟩:=hs;subst h1;simp only [ac6,DataW.weightsEach,sE] at hz;simp only [vk] at ho ⊢;have h5:=hx 0 f rfl;rw [acH,h2] at h5;obtain ⟨gn,g1,g2⟩:=xE s h5 h3 (fun z Oq=>hz z (.inl Oq));obtain ⟨sG,g3,g4⟩:=Ot (cs:=cs) (n:=n) ss (fl:=fl) (o:=f.offset+width s) (xs:=xs) (by simpa using hl) (fun i f' hf=>by have:=hx (i+1) f' (by simpa using hf); simpa using this) h4 (fun z Oq=>hz z (.inr Oq)) (by omega)
    refine ⟨gn++sG,⟨gn,sG,rfl,g1,g3⟩,?_⟩;rw [List.take_add,List.drop_drop];exact Rm g2 g4
end
end
open Go.RowKit
theorem Rn {w:World} {X:Bool->Nat->Prop}:∀ {b:List Bool} {ds:List D} {vs:List Value},b.any id=false->bZ (fun d v=>∀ S,gp w X S d v) ds vs->tD w X b ds vs (vs.map fun _=>(none,[]))
 | _,[],_,_,.nil=>⟨rfl,rfl⟩
 | b,d::ds,v::vs,hn,.cons h1 h2=>by
  have hb:b.headD false=false/\b.tail.any id=false:=by
   cases b with
   | nil=>simp
   | cons x xs=>simpa using hn
  refine ⟨v,vs,(none,[]),_,rfl,rfl,?_,Rn hb.2 h2⟩;rw [hb.1];exact ⟨rfl,h1⟩
theorem Vw {P:Program} {c:cn} (ka:∀ k,lu P c.own (RH c P k)) {f:FuncId} (jr:(c.own f).any id=false) {ds outs:List D} {vs:Array Value} {W:World} (hc:Comes c P f ds (.bool true,outs)) (rM:∀ o∈outs,dw o=true)
  (ha:bZ (fun d v=>∀ S,gp W (Lk W [] (fun _=>True)) S d v) ds vs.toList):Calls P f vs W fun e W'=>e=.returned (.bool true)/\Below W.heap.size W W':=by
 obtain ⟨k,hk⟩:=hc;have h1:=hk k (acD _);have yE:∀ a∈vs.toList.map (fun _=>((none,[]):Arg)),a=(none,[]):=by simp
 have eG:=wO yE;have tE:jG W (fun _=>True) (c.own f) ds vs.toList (vs.toList.map fun _=>(none,[])):=by
  refine ⟨?_,by rw [eG]; simp,by rw [eG]; simp,fun a U7=>?_⟩
  ·rw [eG]; exact Rn jr ha
  ·rw [yE a U7]; trivial
 refine ((ka k f ds _ outs h1).2 W _ vs _ tE rfl rM).mono fun e W'=>?_;rintro ⟨v,rfl,hp⟩;have hv:v=.bool true:=by
  obtain ⟨eZ,az,hr,_,_,_,hs,_⟩:=hp.res;obtain ⟨t,rfl,he,rfl⟩:=hr;cases t with
  | v d u=>
   have hs:=hs.1;simp only [bA] at hs;have:bH d=.bool true:=he.symm;rw [this] at hs;exact hs
  | own s n cap a cs=>simp [T.er] at he
 subst hv;refine ⟨rfl,hp.os,hp.tape,hp.out,hp.sz,fun k hk=>hp.bB k hk (by rw [eG]; simp)⟩
theorem Ro {w:World} {X:Bool->Nat->Prop} {ds:List D} {us:Array Value} (h:fV w X ds us.toList):∀ S,gp w X S (.agg ds) (.agg us):=fun _=>
 ⟨us,rfl,((gY _ _).1 h).mono (fun _ _ hh=>fq hh)⟩
theorem aa6 {w:World} {X:Bool->Nat->Prop} {d:D} {v:Value} (h:fV w X [d] [v]) (h1:∀ cs,d≠.agg cs) (h2:∀ f cs,d≠.fn f cs):∀ S,gp w X S d v:=fun S=>by
 obtain ⟨a,b,hv,he,_⟩:=h;simp only [acS] at hv;obtain ⟨rfl,rfl⟩:=hv;have ht:=fq (S:=S) he;cases d with
 | agg cs=>exact absurd rfl (h1 cs)
 | fn f cs=>exact absurd rfl (h2 f cs)
 | _=>exact ht
theorem Ou {w:World}:∀ k,k < w.heap.size->Lk w [] (fun _=>True) false k:=fun k hk=>⟨hk,by simp,fun _=>trivial⟩
set_option maxRecDepth 100000
abbrev Cm (f:FuncId) (ds:List D) (r:Rz):Prop:=Comes cfg Tryz.prog f ds r
abbrev aU (pr:ej) (cv:Cv Rz) (J:Nat->St->Option Rz) (f:FuncId) (fn:Func) (args:List D):Option Rz:=AQ pr cfg sg cv J f fn args
abbrev cg (pr:ej) (cv:Cv Rz) (J:Nat->St->Option Rz) (f:FuncId) (fn:Func) (sk:List D) (j:Nat) (h:St):Option Rz:=ue pr cfg sg cv J f fn sk j h
noncomputable abbrev aO:Cv Rz:=eK cfg Tryz.prog sg
abbrev WP (f:FuncId) (fn:Func) (sk:List D) (j:Nat) (h:St) (r:Rz):Prop:=W cfg Tryz.prog sg f fn sk j h r
section
variable {f:FuncId} {fn:Func} {sk:List D} {j j':Nat} {h h':St} {r:Rz}
theorem WP.go (h':St) (hw:WP f fn sk j' h' r) (ht:∀ J:Nat->St->Option Rz,J j' h'=some r->cg ad aO J f fn sk j h=some r):WP f fn sk j h r:=W.go vj hw ht
theorem WP.fin (ht:∀ J:Nat->St->Option Rz,cg ad aO J f fn sk j h=some r):WP f fn sk j h r:=W.fin vj ht
theorem Cm.go (ok:Told cfg Tryz.prog f fn) (sk:List D) (j:Nat) (h:St) {args:List D} (hw:WP f fn sk j h r) (ht:∀ J:Nat->St->Option Rz,J j h=some r->aU ad aO J f fn args=some r) (Nl:args.map qP=sk:=by rfl):Cm f args r:=Comes.go vj ok (Nl▸hw) ht
theorem Cm.fin (ok:Told cfg Tryz.prog f fn) {args:List D} (ht:∀ J:Nat->St->Option Rz,aU ad aO J f fn args=some r):Cm f args r:=Comes.fin (sg:=sg) vj ok ht
theorem WP.loop {H:Nat->St} {n:Nat} (inv:Nat->Prop) (hs:∀ i,i < n->inv i->(inv (i+1)->WP f fn sk j (H (i+1)) r)->WP f fn sk j (H i) r) (he:inv n->WP f fn sk j (H n) r):∀ i,i<=n->inv i->WP f fn sk j (H i) r:=by
 have key:∀ k i,i+k=n->inv i->WP f fn sk j (H i) r:=by
  intro k
  induction k with
  | zero=>intro i hi hv; obtain rfl:i=n:=(by omega); exact he hv
  | succ k ih=>intro i hi hv; exact hs i (by omega) hv fun lB=>ih (i+1) (by omega) lB
 exact fun i hi hv=>key (n - i) i (by omega) hv
end
theorem bc {g:FuncId} {ds:List D} {r:D} {outs:List D} (h:Cm g ds (r,outs)) (hs:(match sg.sig g with | some (s,ss)=>fa s r&&jM ss outs&&!(vg s||vh ss) | none=>false)=true) (t:bD Rz):aO g ds t=feed t (rZ r++(wo outs++[])):=by
 refine afl t h hs fun e=>?_;subst e;have:sg.sig 999999=none:=by kernel_rfl
 rw [this] at hs;simp at hs
theorem bw {g:FuncId} {ds:List D} {r:D} {outs:List D} {s:RS} {ss:List RS} (h:Cm g ds (r,outs)) (hs:sg.sig g=some (s,ss)) (h1:fa s r=true) (h2:jM ss outs=true) (h3:dw r=true) (h4:outs.all dw=true) (t:bD Rz):aO g ds t=feed t (gk s r++(nI ss outs++[])):=by
 refine afm t h hs h1 h2 h3 h4 fun e=>?_;subst e;have:sg.sig 999999=none:=by kernel_rfl
 rw [hs] at this;simp at this
theorem xF (ys:List D) (t:bD Rz):aO 999999 [.sl none 0 0 ys] t=feed t [.sl none 0 0 ys]:=by
 show eK cfg Tryz.prog sg 999999 _ t=_;unfold eK;rw [if_pos rfl]
section
variable {R:Type} {x y:R}
theorem aN:br true x y=x:=rfl
theorem bf:br false x y=y:=rfl
theorem bt (b:Bool):br b true false=b:=by cases b<;>rfl
theorem bG (b:Bool):br b false true=!b:=by cases b<;>rfl
theorem bU (b:Bool):br (!b) x y=br b y x:=by cases b<;>rfl
theorem BY (b:Bool):br b x x=x:=by cases b<;>rfl
theorem aZ {a b:Int} (h:a < b):br (ad.lt a b) x y=x:=by simp [ad,br,h]
theorem bu {a b:Int} (h:b<=a):br (ad.lt a b) x y=y:=by simp [ad,br,Int.not_lt.2 h]
theorem BZ {a b:Int} (h:a<=b):br (ad.le a b) x y=x:=by simp [ad,br,h]
theorem o0 {a b:Int} (h:b < a):br (ad.le a b) x y=y:=by simp [ad,br,Int.not_le.2 h]
theorem gb {a b:Int} (h:a=b):br (ad.eq a b) x y=x:=by simp [ad,br,h]
theorem eh {a b:Int} (h:a≠b):br (ad.eq a b) x y=y:=by
 have e:(a==b)=false:=by simpa using h
 simp [ad,br,e]
theorem bE {i:Int} {n:Nat} (h0:0<=i) (h:i < n):br (ad.bR i n) x y=x:=by simp [ad,br,h0,h]
theorem Fs {l h:Int} {n:Nat} (h0:0<=l) (h1:l<=h) (h2:h<=n):br (ad.rj l h n) x y=x:=by simp [ad,br,h0,h1,h2]
theorem fv {n b:Nat} (h:n*b<=140737488355328):br (ad.fits n b) x y=x:=by simp [ad,br,h]
theorem r8 {l c:Int} {b:Nat} (h0:0<=l) (h1:l<=c) (h2:c*b<=140737488355328):br (ad.u7 l c b) x y=x:=by simp [ad,br,h0,h1,h2]
end
theorem SX (a b:Int):ad.lt a b=decide (a < b):=rfl
theorem y8 (a b:Int):ad.le a b=decide (a<=b):=rfl
theorem AV (a b:Int):ad.eq a b=(a==b):=rfl
theorem aF (n:Nat):ad.ba n=(n:Int):=rfl
theorem y9 (n:Nat):ad.gF (n:Int)=n:=rfl
theorem Z0 (a i s:Nat):ad.idx a (i:Int) s=(a+i)*s:=rfl
theorem ug (a b:Bool):ad.beq a b=(a==b):=rfl
theorem wrap64 {n:Int} (h:-9223372036854775808<=n) (h':n < 9223372036854775808):IntKind.i64.wrap n=n:=by
 simp only [IntKind.wrap,IntKind.bits,IntKind.signed];simp;omega
theorem za {a b:Int} (h:-9223372036854775808<=a+b) (h':a+b < 9223372036854775808):ad.ar .add .i64 a b=a+b:=wrap64 h h'
theorem iA {a b:Int} (h:-9223372036854775808<=a - b) (h':a - b < 9223372036854775808):ad.ar .sub .i64 a b=a - b:=wrap64 h h'
theorem cY {i:Nat} (h:i < 9223372036854775807):ad.ar .add .i64 (i:Int) 1=((i+1:Nat):Int):=by
 rw [za (by omega) (by omega)]
 omega
def tF (a:Int):Bool:=decide (-9223372036854775808<=a)&&decide (a < 9223372036854775808)
theorem X7 {a:Int}:tF a=true↔-9223372036854775808<=a/\a < 9223372036854775808:=by simp [tF]
theorem my {α:Type} {e:α->List D} {w:Nat} (hw:∀ x,(e x).length=w):∀ (xs:List α) {i k:Nat} (hi:i < xs.length),k < w->(aM e xs)[i*w+k]?=(e xs[i])[k]?
 | [],i,k,hi,_=>absurd hi (by simp)
 | x::xs,0,k,hi,hk=>by
  simp only [aM,adL,Nat.zero_mul,aef,List.getElem_cons_zero];rw [adx (by rw [hw]; exact hk)]
 | x::xs,i+1,k,hi,hk=>by
  simp only [aM,adL,List.getElem_cons_succ];rw [adr (by rw [hw,Nat.succ_mul]; omega)]
  have:(i+1)*w+k - (e x).length=i*w+k:=by rw [hw,Nat.succ_mul]; omega
  rw [this];exact my hw xs (by simpa using hi) hk
section
variable {R:Type} {x y:R}
theorem dI {xs:List Int} {i:Nat} (h:i < xs.length):br (ad.da .i64 (ints xs) i) x y=x:=by simp [ad,ints,br,ace h,fe]
theorem dJ {xs:List Int} {i:Nat} (h:i < xs.length):ad.cd (ints xs) i=xs[i]:=by simp [ad,ints,ace h,u9]
theorem mQ {xs:List UInt8} {i:Nat} (h:i < xs.length):br (ad.da .u8 (bytes xs) i) x y=x:=by simp [ad,bytes,dz,br,ace h,fe]
theorem xG {xs:List UInt8} {i:Nat} (h:i < xs.length):ad.cd (bytes xs) i=(xs[i].toNat:Int):=by simp [ad,bytes,dz,ace h,u9]
theorem Ov {xs:List Bool} {i:Nat} (h:i < xs.length):br (ad.eH (aE xs) i) x y=x:=by simp [ad,aE,br,ace h]
theorem Ow {xs:List Bool} {i:Nat} (h:i < xs.length):ad.df (aE xs) i=xs[i]:=by simp [ad,aE,ace h,BP]
theorem Ox {xs:List Int} {i:Nat} (h:i < xs.length):br (ad.slot (ints xs) i) x y=x:=by simp [ad,ints,br,ace h,gr]
theorem Oy {xs:List UInt8} {i:Nat} (h:i < xs.length):br (ad.slot (bytes xs) i) x y=x:=by simp [ad,bytes,dz,br,ace h,gr]
theorem Oz {xs:List Bool} {i:Nat} (h:i < xs.length):br (ad.slot (aE xs) i) x y=x:=by simp [ad,aE,br,ace h,gr]
theorem ints_set (xs:List Int) (i:Nat) (a:Int):List.set (ints xs) i (.int .i64 a)=ints (xs.set i a):=by simp [ints,agP]
theorem AW (xs:List UInt8) (i:Nat) (a:UInt8):List.set (bytes xs) i (.int .u8 a.toNat)=bytes (xs.set i a):=by simp [bytes,agP,dz]
theorem AX (xs:List Bool) (i:Nat) (a:Bool):List.set (aE xs) i (.bool a)=aE (xs.set i a):=by simp [aE,agP]
theorem nJ:∀ {ds:List D},(∀ d∈ds,bW d=true)->cb ds=true
 | [],_=>rfl
 | d::ds,h=>by
  simp only [cb,wX];exact ⟨h d (by simp),nJ fun x hx=>h x (by simp [hx])⟩
theorem jt (xs:List Int):ad.nl (ints xs)=true:=nJ (by intro d hd; obtain ⟨a,_,rfl⟩:=acv.1 hd; rfl)
theorem eM (xs:List UInt8):ad.nl (bytes xs)=true:=nJ (by intro d hd; obtain ⟨a,_,rfl⟩:=acv.1 hd; rfl)
theorem B3 (xs:List Bool):ad.nl (aE xs)=true:=nJ (by intro d hd; obtain ⟨a,_,rfl⟩:=acv.1 hd; rfl)
theorem Vx (n:Nat):fu n [.int .i64 0]=ints (List.replicate n 0):=by
 unfold fu
 induction n with
 | zero=>rfl
 | succ n ih=>simpa [aeh,ints,rD] using ih
theorem Vy (n:Nat):fu n [.int .u8 0]=bytes (List.replicate n 0):=by
 unfold fu
 induction n with
 | zero=>rfl
 | succ n ih=>simpa [aeh,bytes,rD,dz] using ih
theorem Vz (n:Nat):fu n [.bool false]=aE (List.replicate n false):=by
 unfold fu
 induction n with
 | zero=>rfl
 | succ n ih=>simpa [aeh,aE,rD] using ih
end
set_option maxRecDepth 100000
section
variable (pr:ej) (cv:Cv Rz) (J:Nat->St->Option Rz)
def kG (g0:Bool) (n1:Nat) (c2:List D) (i3:Int) (n4:Nat) (c5:List D):St:=(St.mk [(0,(.sl (some g0) 1 n1 c2)),(3,(.ref 10003 [] 0 none)),(4,(.int .i64 i3))] [(10003,[(.sl none 1 n4 c5)])] [] 0)
theorem Ke:Told cfg Tryz.prog 71 Tryz.f71:=⟨by kernel_rfl,Tryz.func71,by kernel_rfl⟩
theorem Kf (g0:Bool) (n0:Nat) (c0:List D):aU pr cv J 71 Tryz.f71 [(.sl (some g0) 1 n0 c0)]=
 (br (pr.u7 (pr.ba n0) (pr.ba n0) 8) (J 0 (kG g0 n0 c0 0 (pr.gF (pr.ba n0)) (fu (pr.gF (pr.ba n0)) [(.int .i64 0)]))) none):=by kernel_rfl
theorem vl (g0:Bool) (n1:Nat) (c2:List D) (i3:Int) (n4:Nat) (c5:List D):cg pr cv J 71 Tryz.f71 [.undef] 0 (kG g0 n1 c2 i3 n4 c5)=
 (br (pr.lt i3 (pr.ba n1)) (br (pr.bR i3 n1) (br (br (pr.da .i64 c2 (pr.idx 0 i3 1)) true false) (br (pr.bR i3 n4) (br (pr.slot c5 (pr.idx 0 i3 1)) (J 0 (kG g0 n1 c2 (pr.ar .add .i64 i3 1) n4 (List.set c5 (pr.idx 0 i3 1) (.int .i64 (pr.cd c2 (pr.idx 0 i3 1)))))) none) none) none) none) (some ((.sl none 1 n4 c5),[.undef]))):=by kernel_rfl
def kH (g0:Bool) (n1:Nat) (c2:List D) (g3:Bool) (n4:Nat) (c5:List D) (i6:Int):St:=(St.mk [(0,(.sl (some g0) 1 n1 c2)),(1,(.sl (some g3) 1 n4 c5)),(5,(.int .i64 i6))] [] [] 0)
theorem zy:Told cfg Tryz.prog 19 Tryz.f19:=⟨by kernel_rfl,Tryz.func19,by kernel_rfl⟩
theorem zA (g0:Bool) (n0:Nat) (c0:List D) (g1:Bool) (n1:Nat) (c1:List D):aU pr cv J 19 Tryz.f19 [(.sl (some g0) 1 n0 c0),(.sl (some g1) 1 n1 c1)]=
 (br (br (pr.eq (pr.ba n0) (pr.ba n1)) false true) (some ((.bool false),[.undef,.undef])) (J 0 (kH g0 n0 c0 g1 n1 c1 0))):=by kernel_rfl
theorem pF (g0:Bool) (n1:Nat) (c2:List D) (g3:Bool) (n4:Nat) (c5:List D) (i6:Int):cg pr cv J 19 Tryz.f19 [.undef,.undef] 0 (kH g0 n1 c2 g3 n4 c5 i6)=
 (br (pr.lt i6 (pr.ba n1)) (br (pr.bR i6 n1) (br (br (pr.da .i64 c2 (pr.idx 0 i6 1)) true false) (br (pr.bR i6 n4) (br (br (pr.da .i64 c5 (pr.idx 0 i6 1)) true false) (br (br (pr.eq (pr.cd c2 (pr.idx 0 i6 1)) (pr.cd c5 (pr.idx 0 i6 1))) false true) (some ((.bool false),[.undef,.undef])) (J 0 (kH g0 n1 c2 g3 n4 c5 (pr.ar .add .i64 i6 1)))) none) none) none) none) (some ((.bool true),[.undef,.undef]))):=by kernel_rfl
theorem Kg:Told cfg Tryz.prog 64 Tryz.f64:=⟨by kernel_rfl,Tryz.func64,by kernel_rfl⟩
theorem Kh (g0:Bool) (n0:Nat) (c0:List D) (a1:Int):aU pr cv J 64 Tryz.f64 [(.sl (some g0) 1 n0 c0),(.int .i64 a1)]=
 (br (pr.lt (pr.ar .sub .i64 a1 (pr.ba n0)) 0) (some ((.int .i64 (-1)),[.undef,.undef])) (some ((.int .i64 (pr.ar .sub .i64 a1 (pr.ba n0))),[.undef,.undef]))):=by kernel_rfl
def fZ (i0:Int) (i1:Int) (n2:Nat) (c3:List D):St:=(St.mk [(0,(.ref 19 [] 0 none)),(1,(.int .i64 i0)),(5,(.int .i64 i1))] [(19,[(.sl none 1 n2 c3)])] [] 0)
theorem Ft:Told cfg Tryz.prog 22 Tryz.f22:=⟨by kernel_rfl,Tryz.func22,by kernel_rfl⟩
theorem Fu (n0:Nat) (c0:List D) (a1:Int):aU pr cv J 22 Tryz.f22 [(.sl none 1 n0 c0),(.int .i64 a1)]=
 (J 0 (fZ a1 0 n0 c0)):=by kernel_rfl
theorem tk (i0:Int) (i1:Int) (n2:Nat) (c3:List D):cg pr cv J 22 Tryz.f22 [(.sl none 0 0 []),.undef] 0 (fZ i0 i1 n2 c3)=
 (br (pr.lt i1 (pr.ba n2)) (br (pr.bR i1 n2) (br (pr.slot c3 (pr.idx 0 i1 1)) (J 0 (fZ (pr.ar .add .i64 i0 1) (pr.ar .add .i64 i1 1) n2 (List.set c3 (pr.idx 0 i1 1) (.int .i64 i0)))) none) none) (some ((.int .i64 i0),[(.sl none 1 n2 c3),.undef]))):=by kernel_rfl
def jN (g0:Bool) (n1:Nat) (c2:List D) (i3:Int) (n4:Nat) (c5:List D):St:=(St.mk [(0,(.sl (some g0) 1 n1 c2)),(3,(.ref 10003 [] 0 none)),(4,(.int .i64 i3))] [(10003,[(.sl none 1 n4 c5)])] [] 0)
theorem Hm:Told cfg Tryz.prog 166 Tryz.f166:=⟨by kernel_rfl,Tryz.func166,by kernel_rfl⟩
theorem Hn (g0:Bool) (n0:Nat) (c0:List D):aU pr cv J 166 Tryz.f166 [(.sl (some g0) 1 n0 c0)]=
 (br (pr.u7 (pr.ba n0) (pr.ba n0) 1) (J 0 (jN g0 n0 c0 0 (pr.gF (pr.ba n0)) (fu (pr.gF (pr.ba n0)) [(.int .u8 0)]))) none):=by kernel_rfl
theorem tM (g0:Bool) (n1:Nat) (c2:List D) (i3:Int) (n4:Nat) (c5:List D):cg pr cv J 166 Tryz.f166 [.undef] 0 (jN g0 n1 c2 i3 n4 c5)=
 (br (pr.lt i3 (pr.ba n1)) (br (pr.bR i3 n1) (br (br (pr.da .u8 c2 (pr.idx 0 i3 1)) true false) (br (pr.bR i3 n4) (br (pr.slot c5 (pr.idx 0 i3 1)) (J 0 (jN g0 n1 c2 (pr.ar .add .i64 i3 1) n4 (List.set c5 (pr.idx 0 i3 1) (.int .u8 (pr.cd c2 (pr.idx 0 i3 1)))))) none) none) none) none) (some ((.sl none 1 n4 c5),[.undef]))):=by kernel_rfl
def jO (g0:Bool) (n1:Nat) (c2:List D) (g3:Bool) (n4:Nat) (c5:List D) (i6:Int):St:=(St.mk [(0,(.sl (some g0) 1 n1 c2)),(1,(.sl (some g3) 1 n4 c5)),(5,(.int .i64 i6))] [] [] 0)
theorem xH:Told cfg Tryz.prog 175 Tryz.f175:=⟨by kernel_rfl,Tryz.func175,by kernel_rfl⟩
theorem xI (g0:Bool) (n0:Nat) (c0:List D) (g1:Bool) (n1:Nat) (c1:List D):aU pr cv J 175 Tryz.f175 [(.sl (some g0) 1 n0 c0),(.sl (some g1) 1 n1 c1)]=
 (br (br (pr.eq (pr.ba n0) (pr.ba n1)) false true) (some ((.bool false),[.undef,.undef])) (J 0 (jO g0 n0 c0 g1 n1 c1 0))):=by kernel_rfl
theorem oI (g0:Bool) (n1:Nat) (c2:List D) (g3:Bool) (n4:Nat) (c5:List D) (i6:Int):cg pr cv J 175 Tryz.f175 [.undef,.undef] 0 (jO g0 n1 c2 g3 n4 c5 i6)=
 (br (pr.lt i6 (pr.ba n1)) (br (pr.bR i6 n1) (br (br (pr.da .u8 c2 (pr.idx 0 i6 1)) true false) (br (pr.bR i6 n4) (br (br (pr.da .u8 c5 (pr.idx 0 i6 1)) true false) (br (br (pr.eq (pr.cd c2 (pr.idx 0 i6 1)) (pr.cd c5 (pr.idx 0 i6 1))) false true) (some ((.bool false),[.undef,.undef])) (J 0 (jO g0 n1 c2 g3 n4 c5 (pr.ar .add .i64 i6 1)))) none) none) none) none) (some ((.bool true),[.undef,.undef]))):=by kernel_rfl
theorem Ho:Told cfg Tryz.prog 159 Tryz.f159:=⟨by kernel_rfl,Tryz.func159,by kernel_rfl⟩
theorem Hp (g0:Bool) (n0:Nat) (c0:List D) (a1:Int):aU pr cv J 159 Tryz.f159 [(.sl (some g0) 1 n0 c0),(.int .i64 a1)]=
 (br (pr.lt (pr.ar .sub .i64 a1 (pr.ba n0)) 0) (some ((.int .i64 (-1)),[.undef,.undef])) (some ((.int .i64 (pr.ar .sub .i64 a1 (pr.ba n0))),[.undef,.undef]))):=by kernel_rfl
def fE (i0:Int) (i1:Int) (n2:Nat) (c3:List D):St:=(St.mk [(0,(.ref 20 [] 0 none)),(1,(.int .i64 i0)),(5,(.int .i64 i1))] [(20,[(.sl none 1 n2 c3)])] [] 0)
theorem DF:Told cfg Tryz.prog 176 Tryz.f176:=⟨by kernel_rfl,Tryz.func176,by kernel_rfl⟩
theorem DG (n0:Nat) (c0:List D) (a1:Int):aU pr cv J 176 Tryz.f176 [(.sl none 1 n0 c0),(.int .i64 a1)]=
 (J 0 (fE a1 0 n0 c0)):=by kernel_rfl
theorem rk (i0:Int) (i1:Int) (n2:Nat) (c3:List D):cg pr cv J 176 Tryz.f176 [(.sl none 0 0 []),.undef] 0 (fE i0 i1 n2 c3)=
 (br (pr.lt i1 (pr.ba n2)) (br (pr.bR i1 n2) (br (pr.slot c3 (pr.idx 0 i1 1)) (J 0 (fE (pr.ar .add .i64 i0 1) (pr.ar .add .i64 i1 1) n2 (List.set c3 (pr.idx 0 i1 1) (.int .u8 (pr.wrap .u8 i0))))) none) none) (some ((.int .i64 i0),[(.sl none 1 n2 c3),.undef]))):=by kernel_rfl
def jP (g0:Bool) (n1:Nat) (c2:List D) (i3:Int) (n4:Nat) (c5:List D):St:=(St.mk [(0,(.sl (some g0) 1 n1 c2)),(3,(.ref 10003 [] 0 none)),(4,(.int .i64 i3))] [(10003,[(.sl none 1 n4 c5)])] [] 0)
theorem Hq:Told cfg Tryz.prog 74 Tryz.f74:=⟨by kernel_rfl,Tryz.func74,by kernel_rfl⟩
theorem Hr (g0:Bool) (n0:Nat) (c0:List D):aU pr cv J 74 Tryz.f74 [(.sl (some g0) 1 n0 c0)]=
 (br (pr.u7 (pr.ba n0) (pr.ba n0) 1) (J 0 (jP g0 n0 c0 0 (pr.gF (pr.ba n0)) (fu (pr.gF (pr.ba n0)) [(.bool false)]))) none):=by kernel_rfl
theorem tN (g0:Bool) (n1:Nat) (c2:List D) (i3:Int) (n4:Nat) (c5:List D):cg pr cv J 74 Tryz.f74 [.undef] 0 (jP g0 n1 c2 i3 n4 c5)=
 (br (pr.lt i3 (pr.ba n1)) (br (pr.bR i3 n1) (br (br (pr.eH c2 (pr.idx 0 i3 1)) true false) (br (pr.bR i3 n4) (br (pr.slot c5 (pr.idx 0 i3 1)) (J 0 (jP g0 n1 c2 (pr.ar .add .i64 i3 1) n4 (List.set c5 (pr.idx 0 i3 1) (.bool (pr.df c2 (pr.idx 0 i3 1)))))) none) none) none) none) (some ((.sl none 1 n4 c5),[.undef]))):=by kernel_rfl
def jQ (g0:Bool) (n1:Nat) (c2:List D) (g3:Bool) (n4:Nat) (c5:List D) (i6:Int):St:=(St.mk [(0,(.sl (some g0) 1 n1 c2)),(1,(.sl (some g3) 1 n4 c5)),(5,(.int .i64 i6))] [] [] 0)
theorem xJ:Told cfg Tryz.prog 80 Tryz.f80:=⟨by kernel_rfl,Tryz.func80,by kernel_rfl⟩
theorem xK (g0:Bool) (n0:Nat) (c0:List D) (g1:Bool) (n1:Nat) (c1:List D):aU pr cv J 80 Tryz.f80 [(.sl (some g0) 1 n0 c0),(.sl (some g1) 1 n1 c1)]=
 (br (br (pr.eq (pr.ba n0) (pr.ba n1)) false true) (some ((.bool false),[.undef,.undef])) (J 0 (jQ g0 n0 c0 g1 n1 c1 0))):=by kernel_rfl
theorem oJ (g0:Bool) (n1:Nat) (c2:List D) (g3:Bool) (n4:Nat) (c5:List D) (i6:Int):cg pr cv J 80 Tryz.f80 [.undef,.undef] 0 (jQ g0 n1 c2 g3 n4 c5 i6)=
 (br (pr.lt i6 (pr.ba n1)) (br (pr.bR i6 n1) (br (br (pr.eH c2 (pr.idx 0 i6 1)) true false) (br (pr.bR i6 n4) (br (br (pr.eH c5 (pr.idx 0 i6 1)) true false) (br (br (pr.beq (pr.df c2 (pr.idx 0 i6 1)) (pr.df c5 (pr.idx 0 i6 1))) false true) (some ((.bool false),[.undef,.undef])) (J 0 (jQ g0 n1 c2 g3 n4 c5 (pr.ar .add .i64 i6 1)))) none) none) none) none) (some ((.bool true),[.undef,.undef]))):=by kernel_rfl
theorem Ht:Told cfg Tryz.prog 67 Tryz.f67:=⟨by kernel_rfl,Tryz.func67,by kernel_rfl⟩
theorem Hu (g0:Bool) (n0:Nat) (c0:List D) (a1:Int):aU pr cv J 67 Tryz.f67 [(.sl (some g0) 1 n0 c0),(.int .i64 a1)]=
 (br (pr.lt (pr.ar .sub .i64 a1 (pr.ba n0)) 0) (some ((.int .i64 (-1)),[.undef,.undef])) (some ((.int .i64 (pr.ar .sub .i64 a1 (pr.ba n0))),[.undef,.undef]))):=by kernel_rfl
def fF (i0:Int) (i1:Int) (n2:Nat) (c3:List D):St:=(St.mk [(0,(.ref 21 [] 0 none)),(1,(.int .i64 i0)),(5,(.int .i64 i1))] [(21,[(.sl none 1 n2 c3)])] [] 0)
theorem DH:Told cfg Tryz.prog 84 Tryz.f84:=⟨by kernel_rfl,Tryz.func84,by kernel_rfl⟩
theorem DI (n0:Nat) (c0:List D) (a1:Int):aU pr cv J 84 Tryz.f84 [(.sl none 1 n0 c0),(.int .i64 a1)]=
 (J 0 (fF a1 0 n0 c0)):=by kernel_rfl
theorem rl (i0:Int) (i1:Int) (n2:Nat) (c3:List D):cg pr cv J 84 Tryz.f84 [(.sl none 0 0 []),.undef] 0 (fF i0 i1 n2 c3)=
 (br (pr.lt i1 (pr.ba n2)) (br (br (pr.eq 3 0) false true) (br (pr.bR i1 n2) (br (pr.slot c3 (pr.idx 0 i1 1)) (J 0 (fF (pr.ar .add .i64 i0 1) (pr.ar .add .i64 i1 1) n2 (List.set c3 (pr.idx 0 i1 1) (.bool (pr.eq (pr.ar .rem .i64 i0 3) 0))))) none) none) none) (some ((.int .i64 i0),[(.sl none 1 n2 c3),.undef]))):=by kernel_rfl
def ga (g0:Bool) (n1:Nat) (c2:List D) (i3:Int) (i4:Int):St:=(St.mk [(0,(.sl (some g0) 1 n1 c2)),(1,(.int .i64 i3)),(5,(.int .i64 i4))] [] [] 0)
theorem Fv:Told cfg Tryz.prog 23 Tryz.f23:=⟨by kernel_rfl,Tryz.func23,by kernel_rfl⟩
theorem Fw (g0:Bool) (n0:Nat) (c0:List D) (a1:Int):aU pr cv J 23 Tryz.f23 [(.sl (some g0) 1 n0 c0),(.int .i64 a1)]=
 (J 0 (ga g0 n0 c0 a1 0)):=by kernel_rfl
theorem tl (g0:Bool) (n1:Nat) (c2:List D) (i3:Int) (i4:Int):cg pr cv J 23 Tryz.f23 [.undef,.undef] 0 (ga g0 n1 c2 i3 i4)=
 (br (pr.lt i4 (pr.ba n1)) (br (pr.bR i4 n1) (br (br (pr.da .i64 c2 (pr.idx 0 i4 1)) true false) (br (br (pr.eq (pr.cd c2 (pr.idx 0 i4 1)) i3) false true) (some ((.int .i64 (-1)),[.undef,.undef])) (J 0 (ga g0 n1 c2 (pr.ar .add .i64 i3 1) (pr.ar .add .i64 i4 1)))) none) none) (some ((.int .i64 i3),[.undef,.undef]))):=by kernel_rfl
end
theorem cL (i:Nat):ad.idx 0 (i:Int) 1=i:=by rw [Z0]; omega
theorem pG {α:Type} {xs:List α} {i:Nat} (hi:i < xs.length) (z:α) (ys:List α) (hl:xs.length=ys.length) (hy:i < ys.length):(ys.take i++List.replicate (xs.length - i) z).set i ys[i]=ys.take (i+1)++List.replicate (xs.length - (i+1)) z:=by
 rw [ag0 _ _ (by simp; omega)]
 have h1:i - (ys.take i).length=0:=by simp; omega
 obtain ⟨k,hk⟩:∃ k,xs.length - i=k+1:=⟨xs.length - i - 1,by omega⟩
 have h2:xs.length - (i+1)=k:=by omega
 rw [h1,hk,h2,aeh,agW,<- adw hy,acz];rfl
theorem AY {α:Type} {xs ys:List α} {i:Nat} (hl:xs.length=ys.length) (hi:i < xs.length) (hy:i < ys.length):(ys.take i++xs.drop i).set i ys[i]=ys.take (i+1)++xs.drop (i+1):=by
 rw [ag0 _ _ (by simp; omega)]
 have h1:i - (ys.take i).length=0:=by simp; omega
 rw [h1,<- af9 hi,agW,<- adw hy,acz];rfl
def eV (n:Nat) (left:Int):Int:=if left < n then -1 else left - n
def ji (k:Int) (n:Nat):List Int:=(List.range n).map fun i:Nat=>k+(i:Int)
def o6 (k:Int) (n:Nat):List UInt8:=(List.range n).map fun i:Nat=>UInt8.ofNat ((k+(i:Int)) % 256).toNat
def nK (k:Int) (n:Nat):List Bool:=(List.range n).map fun i:Nat=>(k+(i:Int)).tmod 3==0
theorem dB (k:Int) (n:Nat):(ji k n).length=n:=by simp [ji]
theorem dZ (k:Int) (n:Nat):(o6 k n).length=n:=by simp [o6]
theorem ea (k:Int) (n:Nat):(nK k n).length=n:=by simp [nK]
theorem Z1 (k:Int):IntKind.u8.wrap k=((UInt8.ofNat (k % 256).toNat).toNat:Int):=by
 have h:IntKind.u8.wrap k=k % 256:=by
  simp only [IntKind.wrap,IntKind.bits,IntKind.signed];simp
 rw [h];have h2:0<=k % 256:=Int.emod_nonneg _ (by omega)
 have h3:k % 256 < 256:=Int.emod_lt_of_pos _ (by omega)
 simp only [UInt8.toNat_ofNat'];omega
theorem X8 (g:Bool) (xs:List Int) (hb:xs.length<=17592186044416) (vU:xs.length < 9223372036854775807):Cm 71 [.sl (some g) 1 xs.length (ints xs)] (.sl none 1 xs.length (ints xs),[.undef]):=by
 refine Cm.go Ke [.undef] 0 (kG g xs.length (ints xs) (0:Nat) xs.length (ints (List.replicate xs.length 0))) ?_ fun J hJ=>?_
 ·refine WP.loop (H:=fun i=>kG g xs.length (ints xs) (i:Nat) xs.length (ints (xs.take i++List.replicate (xs.length - i) 0))) (n:=xs.length) (fun _=>True) (fun i hi _ ih=>WP.go _ (ih trivial) fun J hJ=>?_) (fun _=>WP.fin fun J=>?_) 0 (adt _) trivial
  ·rw [vl];simp (disch:=first | omega | (simp; done) | (simp; omega)) only [aN,bf,bt,aF,aZ,bE,cL,dI,Ox,dJ,ints_set,cY]
   rw [<- hJ]
   congr 2
   rw [pG hi _ xs rfl hi]
  ·rw [vl];simp (disch:=omega) only [aN,bf,aF,bu,ac8,agx,af5,acg]
 ·rw [Kf];simp (disch:=omega) only [aN,bf,aF,r8,y9,Vx];exact hJ
theorem X9 (g h:Bool) (xs ys:List Int) (hb:xs.length < 9223372036854775807):Cm 19 [.sl (some g) 1 xs.length (ints xs),.sl (some h) 1 ys.length (ints ys)] (.bool (decide (xs=ys)),[.undef,.undef]):=by
 by_cases hl:xs.length=ys.length
 ·refine Cm.go zy [.undef,.undef] 0 (kH g xs.length (ints xs) h ys.length (ints ys) (0:Nat)) ?_ fun J hJ=>?_
  ·refine WP.loop (H:=fun i=>kH g xs.length (ints xs) h ys.length (ints ys) (i:Nat)) (n:=xs.length) (fun i=>xs.take i=ys.take i) (fun i hi hv ih=>?_) (fun hv=>WP.fin fun J=>?_) 0 (adt _) (by simp)
   ·have nC:i < ys.length:=by omega
    by_cases he:xs[i]=ys[i]
    ·refine WP.go _ (ih (by rw [<- adw hi,<- adw nC,hv,he])) fun J hJ=>?_
     rw [pF];simp (disch:=omega) only [aN,bf,bt,bG,bU,aF,aZ,bE,cL,dI,dJ,cY,gb,he,ug,beq_self_eq_true,ahc];exact hJ
    ·refine WP.fin fun J=>?_;rw [pF];have cQ:xs≠ys:=fun e=>he (by subst e; rfl)
     have hn8:=he;have hbe:=he;simp (disch:=first | omega | assumption) only [aN,bf,bt,bG,bU,aF,aZ,bE,cL,dI,dJ,eh,decide_eq_false cQ]
   ·rw [pF];rw [ac8,hl,ac8] at hv;simp (disch:=omega) only [aN,bf,aF,bu,decide_eq_true hv]
  ·rw [zA];simp (disch:=omega) only [aN,bf,aF,bG,bU,gb];exact hJ
 ·refine Cm.fin zy fun J=>?_;have cQ:xs≠ys:=fun e=>hl (by rw [e])
  rw [zA];simp (disch:=omega) only [aN,bf,aF,bG,bU,eh,decide_eq_false cQ]
theorem Ya (g:Bool) (n:Nat) (c:List D) (left:Int) (h0:0<=left) (h1:left<=1048576) (hn:n<=140737488355328):Cm 64 [.sl (some g) 1 n c,.int .i64 left] (.int .i64 (eV n left),[.undef,.undef]):=by
 refine Cm.fin Kg fun J=>?_;rw [Kh];unfold eV;by_cases h:left < n
 ·rw [if_pos h];simp (disch:=omega) only [aF,iA,aZ]
 ·rw [if_neg h];simp (disch:=omega) only [aF,iA,bu]
theorem SY (xs:List Int) (k:Int) (h0:0<=k) (h1:k+xs.length < 9223372036854775807):Cm 22 [.sl none 1 xs.length (ints xs),.int .i64 k] (.int .i64 (k+xs.length),[.sl none 1 xs.length (ints (ji k xs.length)),.undef]):=by
 refine Cm.go Ft [.sl none 0 0 [],.undef] 0 (fZ k (0:Nat) xs.length (ints xs)) ?_ fun J hJ=>?_
 ·have e0:fZ k (0:Nat) xs.length (ints xs)=(fun i:Nat=>fZ (k+i) (i:Nat) xs.length (ints ((ji k xs.length).take i++xs.drop i))) 0:=by simp
  rw [e0];refine WP.loop (H:=fun i:Nat=>fZ (k+i) (i:Nat) xs.length (ints ((ji k xs.length).take i++xs.drop i))) (n:=xs.length) (fun _=>True) (fun i hi _ ih=>WP.go _ (ih trivial) fun J hJ=>?_) (fun _=>WP.fin fun J=>?_) 0 (adt _) trivial
  ·have hm:i < (ji k xs.length).length:=by rw [dB]; exact hi
   have wq:=AY (dB k xs.length).symm hi hm;rw [tk];have fr:(ji k xs.length)[i]=k+(i:Int):=by simp [ji]
   have hw:=fr;simp (disch:=first | omega | (simp; done) | (simp; omega)) only [aN,bf,bt,bG,aF,aZ,bE,cL,Ox,cY,za]
   rw [fr] at wq;rw [ints_set,wq];have e1:k+(i:Int)+1=k+((i+1:Nat):Int):=by omega
   rw [e1];exact hJ
  ·rw [tk];simp (disch:=omega) only [aN,bf,aF,bu,List.drop_length,acg];rw [aek (by rw [dB]; omega)]
 ·rw [Fu];exact hJ
theorem VA (g:Bool) (xs:List UInt8) (hb:xs.length<=140737488355328) (vU:xs.length < 9223372036854775807):Cm 166 [.sl (some g) 1 xs.length (bytes xs)] (.sl none 1 xs.length (bytes xs),[.undef]):=by
 refine Cm.go Hm [.undef] 0 (jN g xs.length (bytes xs) (0:Nat) xs.length (bytes (List.replicate xs.length 0))) ?_ fun J hJ=>?_
 ·refine WP.loop (H:=fun i=>jN g xs.length (bytes xs) (i:Nat) xs.length (bytes (xs.take i++List.replicate (xs.length - i) 0))) (n:=xs.length) (fun _=>True) (fun i hi _ ih=>WP.go _ (ih trivial) fun J hJ=>?_) (fun _=>WP.fin fun J=>?_) 0 (adt _) trivial
  ·rw [tM];simp (disch:=first | omega | (simp; done) | (simp; omega)) only [aN,bf,bt,aF,aZ,bE,cL,mQ,Oy,xG,AW,cY]
   rw [<- hJ]
   congr 2
   rw [pG hi _ xs rfl hi]
  ·rw [tM];simp (disch:=omega) only [aN,bf,aF,bu,ac8,agx,af5,acg]
 ·rw [Hn];simp (disch:=omega) only [aN,bf,aF,r8,y9,Vy];exact hJ
theorem VB (g h:Bool) (xs ys:List UInt8) (hb:xs.length < 9223372036854775807):Cm 175 [.sl (some g) 1 xs.length (bytes xs),.sl (some h) 1 ys.length (bytes ys)] (.bool (decide (xs=ys)),[.undef,.undef]):=by
 by_cases hl:xs.length=ys.length
 ·refine Cm.go xH [.undef,.undef] 0 (jO g xs.length (bytes xs) h ys.length (bytes ys) (0:Nat)) ?_ fun J hJ=>?_
  ·refine WP.loop (H:=fun i=>jO g xs.length (bytes xs) h ys.length (bytes ys) (i:Nat)) (n:=xs.length) (fun i=>xs.take i=ys.take i) (fun i hi hv ih=>?_) (fun hv=>WP.fin fun J=>?_) 0 (adt _) (by simp)
   ·have nC:i < ys.length:=by omega
    by_cases he:xs[i]=ys[i]
    ·refine WP.go _ (ih (by rw [<- adw hi,<- adw nC,hv,he])) fun J hJ=>?_
     rw [oI];simp (disch:=omega) only [aN,bf,bt,bG,bU,aF,aZ,bE,cL,mQ,xG,cY,gb,he,ug,beq_self_eq_true,ahc];exact hJ
    ·refine WP.fin fun J=>?_;rw [oI];have cQ:xs≠ys:=fun e=>he (by subst e; rfl)
     have hn8:((xs[i].toNat:Int))≠(ys[i].toNat:Int):=fun e=>he (UInt8.toNat_inj.1 (by omega))
     have hbe:=he;simp (disch:=first | omega | assumption) only [aN,bf,bt,bG,bU,aF,aZ,bE,cL,mQ,xG,eh,decide_eq_false cQ]
   ·rw [oI];rw [ac8,hl,ac8] at hv;simp (disch:=omega) only [aN,bf,aF,bu,decide_eq_true hv]
  ·rw [xI];simp (disch:=omega) only [aN,bf,aF,bG,bU,gb];exact hJ
 ·refine Cm.fin xH fun J=>?_;have cQ:xs≠ys:=fun e=>hl (by rw [e])
  rw [xI];simp (disch:=omega) only [aN,bf,aF,bG,bU,eh,decide_eq_false cQ]
theorem VC (g:Bool) (n:Nat) (c:List D) (left:Int) (h0:0<=left) (h1:left<=1048576) (hn:n<=140737488355328):Cm 159 [.sl (some g) 1 n c,.int .i64 left] (.int .i64 (eV n left),[.undef,.undef]):=by
 refine Cm.fin Ho fun J=>?_;rw [Hp];unfold eV;by_cases h:left < n
 ·rw [if_pos h];simp (disch:=omega) only [aF,iA,aZ]
 ·rw [if_neg h];simp (disch:=omega) only [aF,iA,bu]
theorem PO (xs:List UInt8) (k:Int) (h0:0<=k) (h1:k+xs.length < 9223372036854775807):Cm 176 [.sl none 1 xs.length (bytes xs),.int .i64 k] (.int .i64 (k+xs.length),[.sl none 1 xs.length (bytes (o6 k xs.length)),.undef]):=by
 refine Cm.go DF [.sl none 0 0 [],.undef] 0 (fE k (0:Nat) xs.length (bytes xs)) ?_ fun J hJ=>?_
 ·have e0:fE k (0:Nat) xs.length (bytes xs)=(fun i:Nat=>fE (k+i) (i:Nat) xs.length (bytes ((o6 k xs.length).take i++xs.drop i))) 0:=by simp
  rw [e0];refine WP.loop (H:=fun i:Nat=>fE (k+i) (i:Nat) xs.length (bytes ((o6 k xs.length).take i++xs.drop i))) (n:=xs.length) (fun _=>True) (fun i hi _ ih=>WP.go _ (ih trivial) fun J hJ=>?_) (fun _=>WP.fin fun J=>?_) 0 (adt _) trivial
  ·have hm:i < (o6 k xs.length).length:=by rw [dZ]; exact hi
   have wq:=AY (dZ k xs.length).symm hi hm;rw [rk];have fr:(o6 k xs.length)[i]=UInt8.ofNat ((k+(i:Int)) % 256).toNat:=by simp [o6]
   have hw:ad.wrap .u8 (k+(i:Int))=((UInt8.ofNat ((k+(i:Int)) % 256).toNat).toNat:Int):=Z1 _;simp (disch:=first | omega | (simp; done) | (simp; omega)) only [aN,bf,bt,bG,aF,aZ,bE,cL,Oy,cY,za,hw]
   rw [fr] at wq;rw [AW,wq];have e1:k+(i:Int)+1=k+((i+1:Nat):Int):=by omega
   rw [e1];exact hJ
  ·rw [rk];simp (disch:=omega) only [aN,bf,aF,bu,List.drop_length,acg];rw [aek (by rw [dZ]; omega)]
 ·rw [DG];exact hJ
theorem VD (g:Bool) (xs:List Bool) (hb:xs.length<=140737488355328) (vU:xs.length < 9223372036854775807):Cm 74 [.sl (some g) 1 xs.length (aE xs)] (.sl none 1 xs.length (aE xs),[.undef]):=by
 refine Cm.go Hq [.undef] 0 (jP g xs.length (aE xs) (0:Nat) xs.length (aE (List.replicate xs.length false))) ?_ fun J hJ=>?_
 ·refine WP.loop (H:=fun i=>jP g xs.length (aE xs) (i:Nat) xs.length (aE (xs.take i++List.replicate (xs.length - i) false))) (n:=xs.length) (fun _=>True) (fun i hi _ ih=>WP.go _ (ih trivial) fun J hJ=>?_) (fun _=>WP.fin fun J=>?_) 0 (adt _) trivial
  ·rw [tN];simp (disch:=first | omega | (simp; done) | (simp; omega)) only [aN,bf,bt,aF,aZ,bE,cL,Ov,Oz,Ow,AX,cY]
   rw [<- hJ]
   congr 2
   rw [pG hi _ xs rfl hi]
  ·rw [tN];simp (disch:=omega) only [aN,bf,aF,bu,ac8,agx,af5,acg]
 ·rw [Hr];simp (disch:=omega) only [aN,bf,aF,r8,y9,Vz];exact hJ
theorem VE (g h:Bool) (xs ys:List Bool) (hb:xs.length < 9223372036854775807):Cm 80 [.sl (some g) 1 xs.length (aE xs),.sl (some h) 1 ys.length (aE ys)] (.bool (decide (xs=ys)),[.undef,.undef]):=by
 by_cases hl:xs.length=ys.length
 ·refine Cm.go xJ [.undef,.undef] 0 (jQ g xs.length (aE xs) h ys.length (aE ys) (0:Nat)) ?_ fun J hJ=>?_
  ·refine WP.loop (H:=fun i=>jQ g xs.length (aE xs) h ys.length (aE ys) (i:Nat)) (n:=xs.length) (fun i=>xs.take i=ys.take i) (fun i hi hv ih=>?_) (fun hv=>WP.fin fun J=>?_) 0 (adt _) (by simp)
   ·have nC:i < ys.length:=by omega
    by_cases he:xs[i]=ys[i]
    ·refine WP.go _ (ih (by rw [<- adw hi,<- adw nC,hv,he])) fun J hJ=>?_
     rw [oJ];simp (disch:=omega) only [aN,bf,bt,bG,bU,aF,aZ,bE,cL,Ov,Ow,cY,gb,he,ug,beq_self_eq_true,ahc];exact hJ
    ·refine WP.fin fun J=>?_;rw [oJ];have cQ:xs≠ys:=fun e=>he (by subst e; rfl)
     have hn8:=he;have hbe:(xs[i]==ys[i])=false:=by simpa using he
     simp (disch:=first | omega | assumption) only [aN,bf,bt,bG,bU,aF,aZ,bE,cL,Ov,Ow,eh,decide_eq_false cQ,ug,hbe,Bool.not_false]
   ·rw [oJ];rw [ac8,hl,ac8] at hv;simp (disch:=omega) only [aN,bf,aF,bu,decide_eq_true hv]
  ·rw [xK];simp (disch:=omega) only [aN,bf,aF,bG,bU,gb];exact hJ
 ·refine Cm.fin xJ fun J=>?_;have cQ:xs≠ys:=fun e=>hl (by rw [e])
  rw [xK];simp (disch:=omega) only [aN,bf,aF,bG,bU,eh,decide_eq_false cQ]
theorem VF (g:Bool) (n:Nat) (c:List D) (left:Int) (h0:0<=left) (h1:left<=1048576) (hn:n<=140737488355328):Cm 67 [.sl (some g) 1 n c,.int .i64 left] (.int .i64 (eV n left),[.undef,.undef]):=by
 refine Cm.fin Ht fun J=>?_;rw [Hu];unfold eV;by_cases h:left < n
 ·rw [if_pos h];simp (disch:=omega) only [aF,iA,aZ]
 ·rw [if_neg h];simp (disch:=omega) only [aF,iA,bu]
theorem PQ (xs:List Bool) (k:Int) (h0:0<=k) (h1:k+xs.length < 9223372036854775807):Cm 84 [.sl none 1 xs.length (aE xs),.int .i64 k] (.int .i64 (k+xs.length),[.sl none 1 xs.length (aE (nK k xs.length)),.undef]):=by
 refine Cm.go DH [.sl none 0 0 [],.undef] 0 (fF k (0:Nat) xs.length (aE xs)) ?_ fun J hJ=>?_
 ·have e0:fF k (0:Nat) xs.length (aE xs)=(fun i:Nat=>fF (k+i) (i:Nat) xs.length (aE ((nK k xs.length).take i++xs.drop i))) 0:=by simp
  rw [e0];refine WP.loop (H:=fun i:Nat=>fF (k+i) (i:Nat) xs.length (aE ((nK k xs.length).take i++xs.drop i))) (n:=xs.length) (fun _=>True) (fun i hi _ ih=>WP.go _ (ih trivial) fun J hJ=>?_) (fun _=>WP.fin fun J=>?_) 0 (adt _) trivial
  ·have hm:i < (nK k xs.length).length:=by rw [ea]; exact hi
   have wq:=AY (ea k xs.length).symm hi hm;rw [rl];have fr:(nK k xs.length)[i]=((k+(i:Int)).tmod 3==0):=by simp [nK]
   have hw:ad.eq (ad.ar .rem .i64 (k+(i:Int)) 3) 0=((k+(i:Int)).tmod 3==0):=rfl;simp (disch:=first | omega | (simp; done) | (simp; omega)) only [aN,bf,bt,bG,aF,aZ,bE,cL,Oz,cY,za,hw,eh]
   rw [fr] at wq;rw [AX,wq];have e1:k+(i:Int)+1=k+((i+1:Nat):Int):=by omega
   rw [e1];exact hJ
  ·rw [rl];simp (disch:=omega) only [aN,bf,aF,bu,List.drop_length,acg];rw [aek (by rw [ea]; omega)]
 ·rw [DI];exact hJ
theorem SZ (g:Bool) (k:Int) (n:Nat) (h0:0<=k) (h1:k+n < 9223372036854775807):Cm 23 [.sl (some g) 1 n (ints (ji k n)),.int .i64 k] (.int .i64 (k+n),[.undef,.undef]):=by
 refine Cm.go Fv [.undef,.undef] 0 (ga g n (ints (ji k n)) k (0:Nat)) ?_ fun J hJ=>?_
 ·have e0:ga g n (ints (ji k n)) k (0:Nat)=(fun i:Nat=>ga g n (ints (ji k n)) (k+i) (i:Nat)) 0:=by simp
  rw [e0];refine WP.loop (H:=fun i:Nat=>ga g n (ints (ji k n)) (k+i) (i:Nat)) (n:=n) (fun _=>True) (fun i hi _ ih=>WP.go _ (ih trivial) fun J hJ=>?_) (fun _=>WP.fin fun J=>?_) 0 (adt _) trivial
  ·have hm:i < (ji k n).length:=by rw [dB]; exact hi
   have fr:(ji k n)[i]=k+(i:Int):=by simp [ji]
   rw [tl];simp (disch:=first | omega | (simp; done) | (simp; omega)) only [aN,bf,bt,bG,bU,aF,aZ,bE,cL,dI,dJ,fr,gb,cY,za]
   have e1:k+(i:Int)+1=k+((i+1:Nat):Int):=by omega
   rw [e1];exact hJ
  ·rw [tl];simp (disch:=omega) only [aN,bf,aF,bu]
 ·rw [Fw];exact hJ
set_option maxRecDepth 100000
section
variable (pr:ej) (cv:Cv Rz) (J:Nat->St->Option Rz)
def jR (g0:Bool) (n1:Nat) (c2:List D) (i3:Int) (n4:Nat) (c5:List D):St:=(St.mk [(0,(.sl (some g0) 1 n1 c2)),(3,(.ref 10003 [] 0 none)),(4,(.int .i64 i3))] [(10003,[(.sl none 1 n4 c5)])] [] 0)
theorem Hv:Told cfg Tryz.prog 75 Tryz.f75:=⟨by kernel_rfl,Tryz.func75,by kernel_rfl⟩
theorem Hw (g0:Bool) (n0:Nat) (c0:List D):aU pr cv J 75 Tryz.f75 [(.sl (some g0) 1 n0 c0)]=
 (br (pr.u7 (pr.ba n0) (pr.ba n0) 24) (J 0 (jR g0 n0 c0 0 (pr.gF (pr.ba n0)) (fu (pr.gF (pr.ba n0)) [(.nil 1)]))) none):=by kernel_rfl
theorem tO (g0:Bool) (n1:Nat) (c2:List D) (i3:Int) (n4:Nat) (c5:List D):cg pr cv J 75 Tryz.f75 [.undef] 0 (jR g0 n1 c2 i3 n4 c5)=
 (br (pr.lt i3 (pr.ba n1)) (br (pr.bR i3 n1) (br (br (pr.cZ 1 c2 (pr.idx 0 i3 1)) true false) (cv 71 [(.sl (some (pr.cD c2 (pr.idx 0 i3 1))) 1 (pr.bM c2 (pr.idx 0 i3 1)) (pr.bP c2 (pr.idx 0 i3 1)))] (.sl (fun dU=>(fun dg=>(.done (br (br (br (pr.nl dg) true false) true false) (br (pr.bR i3 n4) (br (br (pr.ne c5) (br (pr.jL 1 c5 (pr.idx 0 i3 1)) true false) false) (cv 999999 [(.sl none 0 0 (List.set c5 (pr.idx 0 i3 1) (.sl none 1 dU dg)))] (.sl (fun oA=>(fun iT=>(.done (J 0 (jR g0 n1 c2 (pr.ar .add .i64 i3 1) n4 iT))))))) none) none) none)))))) none) none) (some ((.sl none 1 n4 c5),[.undef]))):=by kernel_rfl
def jS (g0:Bool) (n1:Nat) (c2:List D) (g3:Bool) (n4:Nat) (c5:List D) (i6:Int):St:=(St.mk [(0,(.sl (some g0) 1 n1 c2)),(1,(.sl (some g3) 1 n4 c5)),(5,(.int .i64 i6))] [] [] 0)
theorem xL:Told cfg Tryz.prog 81 Tryz.f81:=⟨by kernel_rfl,Tryz.func81,by kernel_rfl⟩
theorem xM (g0:Bool) (n0:Nat) (c0:List D) (g1:Bool) (n1:Nat) (c1:List D):aU pr cv J 81 Tryz.f81 [(.sl (some g0) 1 n0 c0),(.sl (some g1) 1 n1 c1)]=
 (br (br (pr.eq (pr.ba n0) (pr.ba n1)) false true) (some ((.bool false),[.undef,.undef])) (J 0 (jS g0 n0 c0 g1 n1 c1 0))):=by kernel_rfl
theorem oK (g0:Bool) (n1:Nat) (c2:List D) (g3:Bool) (n4:Nat) (c5:List D) (i6:Int):cg pr cv J 81 Tryz.f81 [.undef,.undef] 0 (jS g0 n1 c2 g3 n4 c5 i6)=
 (br (pr.lt i6 (pr.ba n1)) (br (pr.bR i6 n1) (br (br (pr.cZ 1 c2 (pr.idx 0 i6 1)) true false) (br (pr.bR i6 n4) (br (br (pr.cZ 1 c5 (pr.idx 0 i6 1)) true false) (cv 19 [(.sl (some (pr.cD c2 (pr.idx 0 i6 1))) 1 (pr.bM c2 (pr.idx 0 i6 1)) (pr.bP c2 (pr.idx 0 i6 1))),(.sl (some (pr.cD c5 (pr.idx 0 i6 1))) 1 (pr.bM c5 (pr.idx 0 i6 1)) (pr.bP c5 (pr.idx 0 i6 1)))] (.bool (fun ct=>(.done (br (br ct false true) (some ((.bool false),[.undef,.undef])) (J 0 (jS g0 n1 c2 g3 n4 c5 (pr.ar .add .i64 i6 1)))))))) none) none) none) none) (some ((.bool true),[.undef,.undef]))):=by kernel_rfl
def mz (g0:Bool) (n1:Nat) (c2:List D) (i3:Int) (i4:Int):St:=(St.mk [(0,(.sl (some g0) 1 n1 c2)),(1,(.int .i64 i3)),(5,(.int .i64 i4))] [] [] 0)
theorem xN:Told cfg Tryz.prog 68 Tryz.f68:=⟨by kernel_rfl,Tryz.func68,by kernel_rfl⟩
theorem xO (g0:Bool) (n0:Nat) (c0:List D) (a1:Int):aU pr cv J 68 Tryz.f68 [(.sl (some g0) 1 n0 c0),(.int .i64 a1)]=
 (br (pr.lt (pr.ar .sub .i64 a1 (pr.ba n0)) 0) (some ((.int .i64 (-1)),[.undef,.undef])) (J 0 (mz g0 n0 c0 (pr.ar .sub .i64 a1 (pr.ba n0)) 0))):=by kernel_rfl
theorem oL (g0:Bool) (n1:Nat) (c2:List D) (i3:Int) (i4:Int):cg pr cv J 68 Tryz.f68 [.undef,.undef] 0 (mz g0 n1 c2 i3 i4)=
 (br (pr.lt i4 (pr.ba n1)) (br (pr.bR i4 n1) (br (br (pr.cZ 1 c2 (pr.idx 0 i4 1)) true false) (cv 64 [(.sl (some (pr.cD c2 (pr.idx 0 i4 1))) 1 (pr.bM c2 (pr.idx 0 i4 1)) (pr.bP c2 (pr.idx 0 i4 1))),(.int .i64 i3)] (.int (fun dj=>(.done (br (pr.lt dj 0) (some ((.int .i64 (-1)),[.undef,.undef])) (J 0 (mz g0 n1 c2 dj (pr.ar .add .i64 i4 1)))))))) none) none) (some ((.int .i64 i3),[.undef,.undef]))):=by kernel_rfl
theorem Ki:Told cfg Tryz.prog 72 Tryz.f72:=⟨by kernel_rfl,Tryz.func72,by kernel_rfl⟩
theorem Kj (g0:Bool) (n0:Nat) (c0:List D) (g1:Bool) (n1:Nat) (c1:List D) (a2:Bool) (a3:Bool) (a4:Bool) (a5:Int):aU pr cv J 72 Tryz.f72 [(.agg [(.sl (some g0) 1 n0 c0),(.sl (some g1) 1 n1 c1),(.bool a2),(.bool a3),(.bool a4),(.int .i64 a5)])]=
 (cv 71 [(.sl (some g0) 1 n0 c0)] (.sl (fun dU=>(fun dg=>(.done (br (br (br (pr.nl dg) true false) true false) (cv 75 [(.sl (some g1) 1 n1 c1)] (.sl (fun oA=>(fun iT=>(.done (br (br (br (pr.nl iT) true false) true false) (some ((.agg [(.sl none 1 dU dg),(.sl none 1 oA iT),(.bool a2),(.bool a3),(.bool a4),(.int .i64 a5)]),[.undef])) none)))))) none)))))):=by kernel_rfl
theorem Kk:Told cfg Tryz.prog 78 Tryz.f78:=⟨by kernel_rfl,Tryz.func78,by kernel_rfl⟩
theorem Kl (g0:Bool) (n0:Nat) (c0:List D) (g1:Bool) (n1:Nat) (c1:List D) (a2:Bool) (a3:Bool) (a4:Bool) (a5:Int) (g6:Bool) (n6:Nat) (c6:List D) (g7:Bool) (n7:Nat) (c7:List D) (a8:Bool) (a9:Bool) (a10:Bool) (a11:Int):aU pr cv J 78 Tryz.f78 [(.agg [(.sl (some g0) 1 n0 c0),(.sl (some g1) 1 n1 c1),(.bool a2),(.bool a3),(.bool a4),(.int .i64 a5)]),(.agg [(.sl (some g6) 1 n6 c6),(.sl (some g7) 1 n7 c7),(.bool a8),(.bool a9),(.bool a10),(.int .i64 a11)])]=
 let y1:Option (D × List D):=(some ((.bool false),[.undef,.undef]))
 (cv 19 [(.sl (some g0) 1 n0 c0),(.sl (some g6) 1 n6 c6)] (.bool (fun ct=>(.done (br (br ct false true) y1 (cv 81 [(.sl (some g1) 1 n1 c1),(.sl (some g7) 1 n7 c7)] (.bool (fun hZ=>(.done (br (br hZ false true) y1 (br (br (pr.beq a2 a8) false true) y1 (br (br (pr.beq a3 a9) false true) y1 (br (br (pr.beq a4 a10) false true) y1 (br (br (pr.eq a5 a11) false true) y1 (some ((.bool true),[.undef,.undef])))))))))))))))):=by kernel_rfl
theorem Km:Told cfg Tryz.prog 65 Tryz.f65:=⟨by kernel_rfl,Tryz.func65,by kernel_rfl⟩
theorem Kn (g0:Bool) (n0:Nat) (c0:List D) (g1:Bool) (n1:Nat) (c1:List D) (a2:Bool) (a3:Bool) (a4:Bool) (a5:Int) (a6:Int):aU pr cv J 65 Tryz.f65 [(.agg [(.sl (some g0) 1 n0 c0),(.sl (some g1) 1 n1 c1),(.bool a2),(.bool a3),(.bool a4),(.int .i64 a5)]),(.int .i64 a6)]=
 let y1:Option (D × List D):=(some ((.int .i64 (-1)),[.undef,.undef]))
 (cv 64 [(.sl (some g0) 1 n0 c0),(.int .i64 a6)] (.int (fun dj=>(.done (br (pr.lt dj 0) y1 (cv 68 [(.sl (some g1) 1 n1 c1),(.int .i64 dj)] (.int (fun fk=>(.done (br (pr.lt fk 0) y1 (some ((.int .i64 fk),[.undef,.undef])))))))))))):=by kernel_rfl
theorem Hy:Told cfg Tryz.prog 73 Tryz.f73:=⟨by kernel_rfl,Tryz.func73,by kernel_rfl⟩
theorem Hz (g0:Bool) (n0:Nat) (c0:List D) (g1:Bool) (n1:Nat) (c1:List D):aU pr cv J 73 Tryz.f73 [(.agg [(.sl (some g0) 1 n0 c0),(.sl (some g1) 1 n1 c1)])]=
 (cv 166 [(.sl (some g0) 1 n0 c0)] (.sl (fun dU=>(fun dg=>(.done (br (br (br (pr.nl dg) true false) true false) (cv 166 [(.sl (some g1) 1 n1 c1)] (.sl (fun oA=>(fun iT=>(.done (br (br (br (pr.nl iT) true false) true false) (some ((.agg [(.sl none 1 dU dg),(.sl none 1 oA iT)]),[.undef])) none)))))) none)))))):=by kernel_rfl
theorem HA:Told cfg Tryz.prog 79 Tryz.f79:=⟨by kernel_rfl,Tryz.func79,by kernel_rfl⟩
theorem HB (g0:Bool) (n0:Nat) (c0:List D) (g1:Bool) (n1:Nat) (c1:List D) (g2:Bool) (n2:Nat) (c2:List D) (g3:Bool) (n3:Nat) (c3:List D):aU pr cv J 79 Tryz.f79 [(.agg [(.sl (some g0) 1 n0 c0),(.sl (some g1) 1 n1 c1)]),(.agg [(.sl (some g2) 1 n2 c2),(.sl (some g3) 1 n3 c3)])]=
 let y1:Option (D × List D):=(some ((.bool false),[.undef,.undef]))
 (cv 175 [(.sl (some g0) 1 n0 c0),(.sl (some g2) 1 n2 c2)] (.bool (fun ct=>(.done (br (br ct false true) y1 (cv 175 [(.sl (some g1) 1 n1 c1),(.sl (some g3) 1 n3 c3)] (.bool (fun hZ=>(.done (br (br hZ false true) y1 (some ((.bool true),[.undef,.undef])))))))))))):=by kernel_rfl
theorem HC:Told cfg Tryz.prog 66 Tryz.f66:=⟨by kernel_rfl,Tryz.func66,by kernel_rfl⟩
theorem HD (g0:Bool) (n0:Nat) (c0:List D) (g1:Bool) (n1:Nat) (c1:List D) (a2:Int):aU pr cv J 66 Tryz.f66 [(.agg [(.sl (some g0) 1 n0 c0),(.sl (some g1) 1 n1 c1)]),(.int .i64 a2)]=
 let y1:Option (D × List D):=(some ((.int .i64 (-1)),[.undef,.undef]))
 (cv 159 [(.sl (some g0) 1 n0 c0),(.int .i64 a2)] (.int (fun dj=>(.done (br (pr.lt dj 0) y1 (cv 159 [(.sl (some g1) 1 n1 c1),(.int .i64 dj)] (.int (fun fk=>(.done (br (pr.lt fk 0) y1 (some ((.int .i64 fk),[.undef,.undef])))))))))))):=by kernel_rfl
theorem Ko:Told cfg Tryz.prog 17 Tryz.f17:=⟨by kernel_rfl,Tryz.func17,by kernel_rfl⟩
theorem Kp (a0:Int) (a1:Bool) (a2:Bool) (g3:Bool) (n3:Nat) (c3:List D) (g4:Bool) (n4:Nat) (c4:List D) (g5:Bool) (n5:Nat) (c5:List D) (a6:Bool) (a7:Bool) (a8:Bool) (a9:Int) (g10:Bool) (p9:Nat) (JH:List D) (g11:Bool) (eW:Nat) (qc:List D) (g12:Bool) (gG:Nat) (fw:List D) (g13:Bool) (nb:Nat) (ia:List D) (g14:Bool) (JI:Nat) (oB:List D) (g15:Bool) (n15:Nat) (JJ:List D):aU pr cv J 17 Tryz.f17 [(.agg [(.int .i64 a0),(.bool a1),(.bool a2),(.sl (some g3) 1 n3 c3),(.sl (some g4) 1 n4 c4),(.sl (some g5) 1 n5 c5),(.bool a6),(.bool a7),(.bool a8),(.int .i64 a9),(.sl (some g10) 1 p9 JH),(.sl (some g11) 1 eW qc),(.sl (some g12) 1 gG fw),(.sl (some g13) 1 nb ia),(.sl (some g14) 1 JI oB),(.sl (some g15) 1 n15 JJ)])]=
 (cv 71 [(.sl (some g3) 1 n3 c3)] (.sl (fun dU=>(fun dg=>(.done (br (br (br (pr.nl dg) true false) true false) (cv 72 [(.agg [(.sl (some g4) 1 n4 c4),(.sl (some g5) 1 n5 c5),(.bool a6),(.bool a7),(.bool a8),(.int .i64 a9)])] (.sl (fun oA=>(fun iT=>(.sl (fun xP=>(fun tP=>(.bool (fun mK=>(.bool (fun vb7=>(.bool (fun Rp=>(.int (fun vx9=>(.done (br (br (br (pr.nl iT) (br (pr.nl tP) true false) false) true false) (cv 73 [(.agg [(.sl (some g10) 1 p9 JH),(.sl (some g11) 1 eW qc)])] (.sl (fun ahJ=>(fun adM=>(.sl (fun ahK=>(fun adN=>(.done (br (br (br (pr.nl adM) (br (pr.nl adN) true false) false) true false) (cv 74 [(.sl (some g12) 1 gG fw)] (.sl (fun ahL=>(fun adO=>(.done (br (br (br (pr.nl adO) true false) true false) (cv 75 [(.sl (some g13) 1 nb ia)] (.sl (fun ahM=>(fun adP=>(.done (br (br (br (pr.nl adP) true false) true false) (cv 74 [(.sl (some g14) 1 JI oB)] (.sl (fun S5=>(fun OA=>(.done (br (br (br (pr.nl OA) true false) true false) (cv 71 [(.sl (some g15) 1 n15 JJ)] (.sl (fun ahN=>(fun adQ=>(.done (br (br (br (pr.nl adQ) true false) true false) (some ((.agg [(.int .i64 a0),(.bool a1),(.bool a2),(.sl none 1 dU dg),(.sl none 1 oA iT),(.sl none 1 xP tP),(.bool mK),(.bool vb7),(.bool Rp),(.int .i64 vx9),(.sl none 1 ahJ adM),(.sl none 1 ahK adN),(.sl none 1 ahL adO),(.sl none 1 ahM adP),(.sl none 1 S5 OA),(.sl none 1 ahN adQ)]),[.undef])) none)))))) none)))))) none)))))) none)))))) none))))))))) none))))))))))))))))) none)))))):=by kernel_rfl
theorem Kq:Told cfg Tryz.prog 20 Tryz.f20:=⟨by kernel_rfl,Tryz.func20,by kernel_rfl⟩
theorem Kr (a0:Int) (a1:Bool) (a2:Bool) (g3:Bool) (n3:Nat) (c3:List D) (g4:Bool) (n4:Nat) (c4:List D) (g5:Bool) (n5:Nat) (c5:List D) (a6:Bool) (a7:Bool) (a8:Bool) (a9:Int) (g10:Bool) (p9:Nat) (JH:List D) (g11:Bool) (eW:Nat) (qc:List D) (g12:Bool) (gG:Nat) (fw:List D) (g13:Bool) (nb:Nat) (ia:List D) (g14:Bool) (JI:Nat) (oB:List D) (g15:Bool) (n15:Nat) (JJ:List D) (a16:Int) (a17:Bool) (a18:Bool) (g19:Bool) (n19:Nat) (wu:List D) (g20:Bool) (n20:Nat) (c20:List D) (g21:Bool) (n21:Nat) (wv:List D) (a22:Bool) (a23:Bool) (a24:Bool) (a25:Int) (g26:Bool) (n26:Nat) (c26:List D) (g27:Bool) (n27:Nat) (wx:List D) (g28:Bool) (n28:Nat) (c28:List D) (g29:Bool) (n29:Nat) (JK:List D) (g30:Bool) (n30:Nat) (c30:List D) (g31:Bool) (n31:Nat) (c31:List D):aU pr cv J 20 Tryz.f20 [(.agg [(.int .i64 a0),(.bool a1),(.bool a2),(.sl (some g3) 1 n3 c3),(.sl (some g4) 1 n4 c4),(.sl (some g5) 1 n5 c5),(.bool a6),(.bool a7),(.bool a8),(.int .i64 a9),(.sl (some g10) 1 p9 JH),(.sl (some g11) 1 eW qc),(.sl (some g12) 1 gG fw),(.sl (some g13) 1 nb ia),(.sl (some g14) 1 JI oB),(.sl (some g15) 1 n15 JJ)]),(.agg [(.int .i64 a16),(.bool a17),(.bool a18),(.sl (some g19) 1 n19 wu),(.sl (some g20) 1 n20 c20),(.sl (some g21) 1 n21 wv),(.bool a22),(.bool a23),(.bool a24),(.int .i64 a25),(.sl (some g26) 1 n26 c26),(.sl (some g27) 1 n27 wx),(.sl (some g28) 1 n28 c28),(.sl (some g29) 1 n29 JK),(.sl (some g30) 1 n30 c30),(.sl (some g31) 1 n31 c31)])]=
 let y1:Option (D × List D):=(some ((.bool false),[.undef,.undef]))
 (br (br (pr.eq a0 a16) false true) y1 (br (br (pr.beq a1 a17) false true) y1 (br (br (pr.beq a2 a18) false true) y1 (cv 19 [(.sl (some g3) 1 n3 c3),(.sl (some g19) 1 n19 wu)] (.bool (fun ct=>(.done (br (br ct false true) y1 (cv 78 [(.agg [(.sl (some g4) 1 n4 c4),(.sl (some g5) 1 n5 c5),(.bool a6),(.bool a7),(.bool a8),(.int .i64 a9)]),(.agg [(.sl (some g20) 1 n20 c20),(.sl (some g21) 1 n21 wv),(.bool a22),(.bool a23),(.bool a24),(.int .i64 a25)])] (.bool (fun hZ=>(.done (br (br hZ false true) y1 (cv 79 [(.agg [(.sl (some g10) 1 p9 JH),(.sl (some g11) 1 eW qc)]),(.agg [(.sl (some g26) 1 n26 c26),(.sl (some g27) 1 n27 wx)])] (.bool (fun iy=>(.done (br (br iy false true) y1 (cv 80 [(.sl (some g12) 1 gG fw),(.sl (some g28) 1 n28 c28)] (.bool (fun rm=>(.done (br (br rm false true) y1 (cv 81 [(.sl (some g13) 1 nb ia),(.sl (some g29) 1 n29 JK)] (.bool (fun AZ=>(.done (br (br AZ false true) y1 (cv 80 [(.sl (some g14) 1 JI oB),(.sl (some g30) 1 n30 c30)] (.bool (fun vm=>(.done (br (br vm false true) y1 (cv 19 [(.sl (some g15) 1 n15 JJ),(.sl (some g31) 1 n31 c31)] (.bool (fun mK=>(.done (br (br mK false true) y1 (some ((.bool true),[.undef,.undef])))))))))))))))))))))))))))))))))))))))):=by kernel_rfl
theorem Kt:Told cfg Tryz.prog 15 Tryz.f15:=⟨by kernel_rfl,Tryz.func15,by kernel_rfl⟩
theorem Ku (a0:Int) (a1:Bool) (a2:Bool) (g3:Bool) (n3:Nat) (c3:List D) (g4:Bool) (n4:Nat) (c4:List D) (g5:Bool) (n5:Nat) (c5:List D) (a6:Bool) (a7:Bool) (a8:Bool) (a9:Int) (g10:Bool) (p9:Nat) (JH:List D) (g11:Bool) (eW:Nat) (qc:List D) (g12:Bool) (gG:Nat) (fw:List D) (g13:Bool) (nb:Nat) (ia:List D) (g14:Bool) (JI:Nat) (oB:List D) (g15:Bool) (n15:Nat) (JJ:List D) (a16:Int):aU pr cv J 15 Tryz.f15 [(.agg [(.int .i64 a0),(.bool a1),(.bool a2),(.sl (some g3) 1 n3 c3),(.sl (some g4) 1 n4 c4),(.sl (some g5) 1 n5 c5),(.bool a6),(.bool a7),(.bool a8),(.int .i64 a9),(.sl (some g10) 1 p9 JH),(.sl (some g11) 1 eW qc),(.sl (some g12) 1 gG fw),(.sl (some g13) 1 nb ia),(.sl (some g14) 1 JI oB),(.sl (some g15) 1 n15 JJ)]),(.int .i64 a16)]=
 let y1:Option (D × List D):=(some ((.int .i64 (-1)),[.undef,.undef]))
 (cv 64 [(.sl (some g3) 1 n3 c3),(.int .i64 a16)] (.int (fun dj=>(.done (br (pr.lt dj 0) y1 (cv 65 [(.agg [(.sl (some g4) 1 n4 c4),(.sl (some g5) 1 n5 c5),(.bool a6),(.bool a7),(.bool a8),(.int .i64 a9)]),(.int .i64 dj)] (.int (fun fk=>(.done (br (pr.lt fk 0) y1 (cv 66 [(.agg [(.sl (some g10) 1 p9 JH),(.sl (some g11) 1 eW qc)]),(.int .i64 fk)] (.int (fun lU=>(.done (br (pr.lt lU 0) y1 (cv 67 [(.sl (some g12) 1 gG fw),(.int .i64 lU)] (.int (fun rn=>(.done (br (pr.lt rn 0) y1 (cv 68 [(.sl (some g13) 1 nb ia),(.int .i64 rn)] (.int (fun nL=>(.done (br (pr.lt nL 0) y1 (cv 67 [(.sl (some g14) 1 JI oB),(.int .i64 nL)] (.int (fun qd=>(.done (br (pr.lt qd 0) y1 (cv 64 [(.sl (some g15) 1 n15 JJ),(.int .i64 qd)] (.int (fun VG=>(.done (br (pr.lt VG 0) y1 (some ((.int .i64 VG),[.undef,.undef]))))))))))))))))))))))))))))))))))))):=by kernel_rfl
end
def rp (xss:List (List Int)):Prop:=xss.length<=1048576/\∀ xs∈xss,xs.length<=1048576
structure bO (m:aB):Prop where
 av:m.av.length<=1048576
 bits:rp m.bits
structure cT (s:aD):Prop where
 a:s.a.length<=1048576
 b:s.b.length<=1048576
structure aV (n:U):Prop where
 image:n.image.length<=1048576
 mt:bO n.mt
 aA:cT n.aA
 conn:n.conn.length<=1048576
 sync:rp n.sync
 aH:n.aH.length<=1048576
 wait:n.wait.length<=1048576
section
variable {x y:Rz} {R:Type} {u v:R}
theorem iH {g:Bool} {xss:List (List Int)} {i:Nat} (h:i < xss.length):br (ad.cZ 1 (rows (some g) xss) i) u v=u:=by simp [ad,rows,br,ace h]
theorem iI {g:Bool} {xss:List (List Int)} {i:Nat} (h:i < xss.length):ad.cD (rows (some g) xss) i=g:=by simp [ad,rows,ace h,cG]
theorem ic {g:Option Bool} {xss:List (List Int)} {i:Nat} (h:i < xss.length):ad.bM (rows g xss) i=xss[i].length:=by simp [ad,rows,ace h,cN]
theorem iJ {g:Option Bool} {xss:List (List Int)} {i:Nat} (h:i < xss.length):ad.bP (rows g xss) i=ints xss[i]:=by simp [ad,rows,ace h,cC]
theorem Rq {xss:List (List Int)} {i:Nat} (h:i < xss.length):br (ad.jL 1 (rows none xss) i) u v=u:=by simp [ad,rows,br,ace h]
theorem adR {xss:List (List Int)} {i:Nat} (h:i < xss.length):br (ad.UZ (rows none xss) i) u v=u:=by simp [ad,rows,br,ace h]
theorem adS {g:Option Bool} {xss:List (List Int)} (h:0 < xss.length):br (ad.ne (rows g xss)) u v=u:=by
 cases xss with
 | nil=>simp at h
 | cons _ _=>rfl
theorem DJ {xss:List (List Int)} {i:Nat} {ys:List Int}:List.set (rows none xss) i (.sl none 1 ys.length (ints ys))=rows none (xss.set i ys):=by simp [rows,agP]
theorem VH (n:Nat):fu n [.nil 1]=rows none (List.replicate n []):=by
 unfold fu
 induction n with
 | zero=>rfl
 | succ n ih=>simpa [aeh,rows,rD,ints] using ih
theorem Z2 {g:Option Bool} (hg:g≠some true) (xss:List (List Int)):ad.nl (rows g xss)=true:=nJ (by
 intro d hd;obtain ⟨xs,_,rfl⟩:=acv.1 hd;have h1:cb (ints xs)=true:=jt xs;cases g with
 | none=>simpa [bW] using h1
 | some g=>cases g with
  | false=>simpa [bW] using h1
  | true=>exact absurd rfl hg)
theorem xQ (xss:List (List Int)):ad.nl (rows none xss)=true:=Z2 (by simp) xss
end
section
variable (t:bD Rz)
theorem zb (g:Bool) (xs:List Int) (hb:xs.length<=17592186044416):aO 71 [.sl (some g) 1 xs.length (ints xs)] t=feed t [.sl none 1 xs.length (ints xs)]:=bc (X8 g xs hb (by omega)) (by kernel_rfl) t
theorem JL (g:Bool) (xs:List UInt8) (hb:xs.length<=140737488355328):aO 166 [.sl (some g) 1 xs.length (bytes xs)] t=feed t [.sl none 1 xs.length (bytes xs)]:=bc (VA g xs hb (by omega)) (by kernel_rfl) t
theorem VI (g:Bool) (xs:List Bool) (hb:xs.length<=140737488355328):aO 74 [.sl (some g) 1 xs.length (aE xs)] t=feed t [.sl none 1 xs.length (aE xs)]:=bc (VD g xs hb (by omega)) (by kernel_rfl) t
theorem vn (g h:Bool) (xs ys:List Int) (hb:xs.length < 9223372036854775807):aO 19 [.sl (some g) 1 xs.length (ints xs),.sl (some h) 1 ys.length (ints ys)] t=feed t [.bool (decide (xs=ys))]:=bc (X9 g h xs ys hb) (by kernel_rfl) t
theorem JM (g h:Bool) (xs ys:List UInt8) (hb:xs.length < 9223372036854775807):aO 175 [.sl (some g) 1 xs.length (bytes xs),.sl (some h) 1 ys.length (bytes ys)] t=feed t [.bool (decide (xs=ys))]:=bc (VB g h xs ys hb) (by kernel_rfl) t
theorem VJ (g h:Bool) (xs ys:List Bool) (hb:xs.length < 9223372036854775807):aO 80 [.sl (some g) 1 xs.length (aE xs),.sl (some h) 1 ys.length (aE ys)] t=feed t [.bool (decide (xs=ys))]:=bc (VE g h xs ys hb) (by kernel_rfl) t
theorem r9 (g:Bool) (n:Nat) (c:List D) (left:Int) (h0:0<=left) (h1:left<=1048576) (hn:n<=140737488355328):aO 64 [.sl (some g) 1 n c,.int .i64 left] t=feed t [.int .i64 (eV n left)]:=bc (Ya g n c left h0 h1 hn) (by kernel_rfl) t
theorem A3 (g:Bool) (n:Nat) (c:List D) (left:Int) (h0:0<=left) (h1:left<=1048576) (hn:n<=140737488355328):aO 159 [.sl (some g) 1 n c,.int .i64 left] t=feed t [.int .i64 (eV n left)]:=bc (VC g n c left h0 h1 hn) (by kernel_rfl) t
theorem JN (g:Bool) (n:Nat) (c:List D) (left:Int) (h0:0<=left) (h1:left<=1048576) (hn:n<=140737488355328):aO 67 [.sl (some g) 1 n c,.int .i64 left] t=feed t [.int .i64 (eV n left)]:=bc (VF g n c left h0 h1 hn) (by kernel_rfl) t
end
theorem bV {R:Type} (f:Int->bD R) (k:IntKind) (n:Int) (l:List D):feed (.int f) (.int k n::l)=feed (f n) l:=rfl
theorem aL {R:Type} (f:Bool->bD R) (b:Bool) (l:List D):feed (.bool f) (.bool b::l)=feed (f b) l:=rfl
theorem dq {R:Type} (f:Nat->List D->bD R) (s n:Nat) (cs l:List D):feed (.sl f) (.sl none s n cs::l)=feed (f n cs) l:=rfl
theorem aq {R:Type} (x:Option R) (l:List D):feed (.done x) l=x:=rfl
theorem VK (g:Bool) (xss:List (List Int)) (hb:rp xss):Cm 75 [sR (some g) xss] (sR none xss,[.undef]):=by
 have hl:=hb.1;refine Cm.go Hv [.undef] 0 (jR g xss.length (rows (some g) xss) (0:Nat) xss.length (rows none (List.replicate xss.length []))) ?_ fun J hJ=>?_
 ·refine WP.loop (H:=fun i=>jR g xss.length (rows (some g) xss) (i:Nat) xss.length (rows none (xss.take i++List.replicate (xss.length - i) []))) (n:=xss.length) (fun _=>True) (fun i hi _ ih=>WP.go _ (ih trivial) fun J hJ=>?_) (fun _=>WP.fin fun J=>?_) 0 (adt _) trivial
  ·rw [tO];have hx:xss[i].length<=1048576:=hb.2 _ (acN hi);simp (disch:=first | omega | (simp; done) | (simp; omega)) only [aN,bf,bt,aF,aZ,bE,cL,iH,iI,ic,iJ,zb,dq,aq,jt,Rq,adS,DJ,cY,xF]
   rw [pG hi _ xss rfl hi];exact hJ
  ·rw [tO];simp (disch:=omega) only [aN,bf,aF,bu,ac8,agx,af5,acg]
 ·rw [Hw];simp (disch:=omega) only [aN,bf,aF,r8,y9,VH];exact hJ
theorem VL (g h:Bool) (xs ys:List (List Int)) (hb:rp xs):Cm 81 [sR (some g) xs,sR (some h) ys] (.bool (decide (xs=ys)),[.undef,.undef]):=by
 have hlen:=hb.1;by_cases hl:xs.length=ys.length
 ·refine Cm.go xL [.undef,.undef] 0 (jS g xs.length (rows (some g) xs) h ys.length (rows (some h) ys) (0:Nat)) ?_ fun J hJ=>?_
  ·refine WP.loop (H:=fun i=>jS g xs.length (rows (some g) xs) h ys.length (rows (some h) ys) (i:Nat)) (n:=xs.length) (fun i=>xs.take i=ys.take i) (fun i hi hv ih=>?_) (fun hv=>WP.fin fun J=>?_) 0 (adt _) (by simp)
   ·have nC:i < ys.length:=by omega
    have hx:xs[i].length<=1048576:=hb.2 _ (acN hi);by_cases he:xs[i]=ys[i]
    ·refine WP.go _ (ih (by rw [<- adw hi,<- adw nC,hv,he])) fun J hJ=>?_
     rw [oK];simp (disch:=omega) only [aN,bf,bt,bG,bU,aF,aZ,bE,cL,iH,iI,ic,iJ,vn,aL,aq,decide_eq_true he,cY];exact hJ
    ·refine WP.fin fun J=>?_;rw [oK];have cQ:xs≠ys:=fun e=>he (by subst e; rfl)
     simp (disch:=omega) only [aN,bf,bt,bG,bU,aF,aZ,bE,cL,iH,iI,ic,iJ,vn,aL,aq,decide_eq_false he,decide_eq_false cQ]
   ·rw [oK];rw [ac8,hl,ac8] at hv;simp (disch:=omega) only [aN,bf,aF,bu,decide_eq_true hv]
  ·rw [xM];simp (disch:=omega) only [aN,bf,aF,bG,bU,gb];exact hJ
 ·refine Cm.fin xL fun J=>?_;have cQ:xs≠ys:=fun e=>hl (by rw [e])
  rw [xM];simp (disch:=omega) only [aN,bf,aF,bG,bU,eh,decide_eq_false cQ]
def iK (v:Int) (k:Int->Int):Int:=if v < 0 then -1 else k v
def oC {α:Type} (f:α->Int->Int):List α->Int->Int
 | [],l=>l
 | x::xs,l=>iK (f x l) (oC f xs)
theorem iL {n:Nat} {l:Int} (h:0<=l):eV n l<=l/\-1<=eV n l/\(0<=eV n l->(n:Int)<=l):=by unfold eV; split<;>omega
theorem ot {v:Int} (k:Int->Int) (h:v < 0):iK v k=-1:=if_pos h
theorem ou {v:Int} (k:Int->Int) (h:0<=v):iK v k=k v:=if_neg (by omega)
theorem Fx {α:Type} {f:α->Int->Int} {Q:α->Prop} (hf:∀ x l,0<=l->f x l<=l/\-1<=f x l/\(0<=f x l->l<=1048576->Q x)):∀ (xs:List α) (l:Int),0<=l->l<=1048576->oC f xs l<=l/\-1<=oC f xs l/\(0<=oC f xs l->∀ x∈xs,Q x)
 | [],l,h,_=>⟨Int.le_refl _,by show -1<=l; omega,fun _=>by simp⟩
 | x::xs,l,h,hm=>by
  obtain ⟨h1,h2,h3⟩:=hf x l h;simp only [oC];by_cases hv:f x l < 0
  ·rw [ot _ hv];exact ⟨by omega,by omega,by omega⟩
  ·rw [ou _ (by omega)]
   obtain ⟨g1,g2,g3⟩:=Fx hf xs (f x l) (by omega) (by omega)
   refine ⟨by omega,g2,fun hp y hy=>?_⟩
   rcases acK.1 hy with rfl | hy
   ·exact h3 (by omega) hm
   ·exact g3 hp y hy
def xR (xss:List (List Int)) (l:Int):Int:=iK (eV xss.length l) (oC (fun xs l=>eV xs.length l) xss)
theorem OB {xss:List (List Int)} {l:Int} (h:0<=l) (hm:l<=1048576):xR xss l<=l/\-1<=xR xss l/\(0<=xR xss l->rp xss):=by
 obtain ⟨h1,h2,h3⟩:=iL (n:=xss.length) h;unfold xR;by_cases hv:eV xss.length l < 0
 ·rw [ot _ hv];exact ⟨by omega,by omega,by omega⟩
 ·rw [ou _ (by omega)]
  obtain ⟨g1,g2,g3⟩:=Fx (f:=fun (xs:List Int) l=>eV xs.length l) (Q:=fun xs=>xs.length<=1048576) (fun xs l hl=>by
   obtain ⟨a1,a2,a3⟩:=iL (n:=xs.length) hl;exact ⟨a1,a2,fun hh hm=>by have:=a3 hh; omega⟩) xss (eV xss.length l) (by omega) (by omega)
  exact ⟨by omega,g2,fun hp=>⟨by have:=h3 (by omega); omega,g3 hp⟩⟩
theorem VM (g:Bool) (xss:List (List Int)) (left:Int) (h0:0<=left) (h1:left<=1048576) (hn:xss.length<=140737488355328) (hx:∀ xs∈xss,xs.length<=140737488355328):Cm 68 [sR (some g) xss,.int .i64 left] (.int .i64 (xR xss left),[.undef,.undef]):=by
 have hlen:=iL (n:=xss.length) h0;have loop:∀ k i (l:Int),i+k=xss.length->0<=l->l<=1048576->WP 68 Tryz.f68 [.undef,.undef] 0 (mz g xss.length (rows (some g) xss) l (i:Nat)) (.int .i64 (oC (fun xs l=>eV xs.length l) (xss.drop i) l),[.undef,.undef]):=by
  intro k
  induction k with
  | zero=>
   intro i l hi hl hm;refine WP.fin fun J=>?_;rw [oL,agC (by omega)]
   simp (disch:=omega) only [aF,bu,oC]
  | succ k ih=>
   intro i l hi hl hm;have nC:i < xss.length:=by omega
   have hxi:=hx _ (acN nC);obtain ⟨a1,a2,a3⟩:=iL (n:=xss[i].length) hl;have e:oC (fun xs l=>eV xs.length l) (xss.drop i) l=iK (eV xss[i].length l) (oC (fun xs l=>eV xs.length l) (xss.drop (i+1))):=by
    rw [<- af9 nC];rfl
   rw [e];by_cases hv:eV xss[i].length l < 0
   ·refine WP.fin fun J=>?_;rw [oL,ot _ hv];simp (disch:=omega) only [aN,bf,bt,aF,aZ,bE,cL,iH,iI,ic,iJ,r9,bV,aq]
   ·rw [ou _ (by omega)]
    refine WP.go _ (ih (i+1) (eV xss[i].length l) (by omega) (by omega) (by omega)) fun J hJ=>?_
    rw [oL];have lB:0<=eV xss[i].length l:=by omega
    simp (disch:=omega) only [aN,bf,bt,aF,aZ,bE,cL,iH,iI,ic,iJ,r9,bV,aq,bu,cY];exact hJ
 by_cases h:left < xss.length
 ·refine Cm.fin xN fun J=>?_;rw [xO,xR,ot _ (by unfold eV; rw [if_pos h]; omega)]
  simp (disch:=omega) only [aF,iA,aZ]
 ·have e:eV xss.length left=left - xss.length:=if_neg h;rw [xR,ou _ (by omega),e]
  refine Cm.go xN [.undef,.undef] 0 _ (loop xss.length 0 (left - xss.length) (by omega) (by omega) (by omega)) fun J hJ=>?_
  rw [xO];simp (disch:=omega) only [aF,iA,bu];exact hJ
section
variable (t:bD Rz)
theorem JO (g:Bool) (xss:List (List Int)) (hb:rp xss):aO 75 [.sl (some g) 1 xss.length (rows (some g) xss)] t=feed t [.sl none 1 xss.length (rows none xss)]:=bc (VK g xss hb) (by kernel_rfl) t
theorem JP (g h:Bool) (xs ys:List (List Int)) (hb:rp xs):aO 81 [.sl (some g) 1 xs.length (rows (some g) xs),.sl (some h) 1 ys.length (rows (some h) ys)] t=feed t [.bool (decide (xs=ys))]:=bc (VL g h xs ys hb) (by kernel_rfl) t
theorem JQ (g:Bool) (xss:List (List Int)) (left:Int) (h0:0<=left) (h1:left<=1048576) (hn:xss.length<=140737488355328) (hx:∀ xs∈xss,xs.length<=140737488355328):aO 68 [.sl (some g) 1 xss.length (rows (some g) xss),.int .i64 left] t=feed t [.int .i64 (xR xss left)]:=bc (VM g xss left h0 h1 hn hx) (by kernel_rfl) t
end
theorem Yb (g:Bool) (m:aB) (h:bO m):Cm 72 [.agg (bd (some g) m)] (.agg (bd none m),[.undef]):=by
 have h1:=h.av;refine Cm.fin Ki fun J=>?_;rw [Kj];simp (disch:=first | omega | exact h.bits) only [zb,JO,dq,aq,jt,xQ,aN]
theorem VN (g:Bool) (s:aD) (h:cT s):Cm 73 [.agg (bL (some g) s)] (.agg (bL none s),[.undef]):=by
 have h1:=h.a;have h2:=h.b;refine Cm.fin Hy fun J=>?_;rw [Hz];simp (disch:=omega) only [JL,dq,aq,eM,aN]
theorem Yc (g h:Bool) (m:aB) (ok:bO m):Cm 78 [.agg (bd (some g) m),.agg (bd (some h) m)] (.bool true,[.undef,.undef]):=by
 have h1:=ok.av;refine Cm.fin Kk fun J=>?_;rw [Kl];simp (disch:=first | omega | exact ok.bits) only [vn,JP,aL,aq,decide_true,aN,bf,ug,beq_self_eq_true,gb]
theorem VO (g h:Bool) (s:aD) (ok:cT s):Cm 79 [.agg (bL (some g) s),.agg (bL (some h) s)] (.bool true,[.undef,.undef]):=by
 have h1:=ok.a;have h2:=ok.b;refine Cm.fin HA fun J=>?_;rw [HB];simp (disch:=omega) only [JM,aL,aq,decide_true,aN,bf]
structure OC (m:aB):Prop where
 av:m.av.length<=140737488355328
 bits:m.bits.length<=140737488355328
 bit:∀ xs∈m.bits,xs.length<=140737488355328
structure qQ (n:U):Prop where
 image:n.image.length<=140737488355328
 mt:OC n.mt
 a:n.aA.a.length<=140737488355328
 b:n.aA.b.length<=140737488355328
 conn:n.conn.length<=140737488355328
 sync:n.sync.length<=140737488355328
 syn:∀ xs∈n.sync,xs.length<=140737488355328
 aH:n.aH.length<=140737488355328
 wait:n.wait.length<=140737488355328
def uw (m:aB) (l:Int):Int:=iK (eV m.av.length l) fun l=>iK (xR m.bits l) fun l=>l
def sc (s:aD) (l:Int):Int:=iK (eV s.a.length l) fun l=>iK (eV s.b.length l) fun l=>l
def eu (n:U) (l:Int):Int:=iK (eV n.image.length l) fun l=>iK (uw n.mt l) fun l=>iK (sc n.aA l) fun l=>iK (eV n.conn.length l) fun l=>iK (xR n.sync l) fun l=>iK (eV n.aH.length l) fun l=>iK (eV n.wait.length l) fun l=>l
theorem gP {v l:Int} {k:Int->Int} {Q Q':Prop} (hl:0<=l) (hv:v<=l/\-1<=v/\(0<=v->Q)) (hk:0<=v->k v<=v/\-1<=k v/\(0<=k v->Q')):iK v k<=l/\-1<=iK v k/\(0<=iK v k->Q/\Q'):=by
 unfold iK;split
 ·omega
 ·obtain ⟨a,b,c⟩:=hk (by omega)
  exact ⟨by omega,b,fun h=>⟨hv.2.2 (by omega),c h⟩⟩
theorem Fy {l:Int} (h:0<=l):l<=l/\-1<=l/\(0<=l->True):=⟨by omega,by omega,fun _=>trivial⟩
theorem o7 {n:Nat} {l:Int} (h:0<=l) (hm:l<=1048576):eV n l<=l/\-1<=eV n l/\(0<=eV n l->n<=1048576):=by
 obtain ⟨a,b,c⟩:=iL (n:=n) h;exact ⟨a,b,fun hh=>by have:=c hh; omega⟩
theorem Fz {m:aB} {l:Int} (h:0<=l) (hm:l<=1048576):uw m l<=l/\-1<=uw m l/\(0<=uw m l->bO m):=by
 have a1:=o7 (n:=m.av.length) h hm;have:=gP (k:=fun l=>iK (xR m.bits l) fun l=>l) h a1 fun h2=>gP h2 (OB (xss:=m.bits) h2 (by omega)) fun h3=>Fy h3
 exact ⟨this.1,this.2.1,fun hh=>by obtain ⟨b1,b2,_⟩:=this.2.2 hh; exact ⟨b1,b2⟩⟩
theorem CP {s:aD} {l:Int} (h:0<=l) (hm:l<=1048576):sc s l<=l/\-1<=sc s l/\(0<=sc s l->cT s):=by
 have a1:=o7 (n:=s.a.length) h hm;have:=gP (k:=fun l=>iK (eV s.b.length l) fun l=>l) h a1 fun h2=>gP h2 (o7 (n:=s.b.length) h2 (by omega)) fun h3=>Fy h3
 exact ⟨this.1,this.2.1,fun hh=>by obtain ⟨b1,b2,_⟩:=this.2.2 hh; exact ⟨b1,b2⟩⟩
theorem zc {n:U} {l:Int} (h:0<=l) (hm:l<=1048576):eu n l<=l/\-1<=eu n l/\(0<=eu n l->aV n):=by
 have a1:=o7 (n:=n.image.length) h hm;have a2:∀ {l:Int},0<=l->l<=1048576->_:=fun {l} h hm=>Fz (m:=n.mt) (l:=l) h hm;have a3:∀ {l:Int},0<=l->l<=1048576->_:=fun {l} h hm=>CP (s:=n.aA) (l:=l) h hm;have a4:∀ {l:Int},0<=l->l<=1048576->_:=fun {l} h hm=>o7 (n:=n.conn.length) (l:=l) h hm;have a5:∀ {l:Int},0<=l->l<=1048576->_:=fun {l} h hm=>OB (xss:=n.sync) (l:=l) h hm;have a6:∀ {l:Int},0<=l->l<=1048576->_:=fun {l} h hm=>o7 (n:=n.aH.length) (l:=l) h hm;have a7:∀ {l:Int},0<=l->l<=1048576->_:=fun {l} h hm=>o7 (n:=n.wait.length) (l:=l) h hm;have key:eu n l<=l/\-1<=eu n l/\(0<=eu n l->n.image.length<=1048576/\bO n.mt/\cT n.aA/\n.conn.length<=1048576/\rp n.sync/\n.aH.length<=1048576/\n.wait.length<=1048576/\True):=by
  unfold eu;refine gP h a1 fun h1=>?_;have k1:=a2 h1 (by omega)
  refine gP h1 k1 fun h2=>?_;have k2:=a3 h2 (by omega)
  refine gP h2 k2 fun h3=>?_;have k3:=a4 h3 (by omega)
  refine gP h3 k3 fun h4=>?_;have k4:=a5 h4 (by omega)
  refine gP h4 k4 fun h5=>?_;have k5:=a6 h5 (by omega)
  refine gP h5 k5 fun h6=>?_;exact gP h6 (a7 h6 (by omega)) fun h7=>Fy h7
 refine ⟨key.1,key.2.1,fun hh=>?_⟩;obtain ⟨b1,b2,b3,b4,b5,b6,b7,_⟩:=key.2.2 hh;exact ⟨b1,b2,b3,b4,b5,b6,b7⟩
theorem jj {f:Int->Option Rz} {g:Int->Int} {outs:List D} {v:Int} (h:0<=v->f v=some (.int .i64 (g v),outs)):br (ad.lt v 0) (some (.int .i64 (-1),outs)) (f v)=some (.int .i64 (iK v g),outs):=by
 by_cases hv:v < 0
 ·rw [aZ hv,ot _ hv]
 ·rw [bu (by omega),ou _ (by omega),h (by omega)]
theorem Yd (g:Bool) (m:aB) (left:Int) (h0:0<=left) (h1:left<=1048576) (ln:OC m):Cm 65 [.agg (bd (some g) m),.int .i64 left] (.int .i64 (uw m left),[.undef,.undef]):=by
 refine Cm.fin Km fun J=>?_;rw [Kn];have l1:=ln.av;have a1:=iL (n:=m.av.length) h0;simp (disch:=omega) only [r9,bV,aq];refine jj (f:=fun v=>aO 68 _ _) fun p1=>?_;simp (disch:=first | omega | exact ln.bits | exact ln.bit) only [JQ,bV,aq]
 exact jj (f:=fun v=>some (.int .i64 v,[.undef,.undef])) fun _=>rfl
theorem VP (g:Bool) (s:aD) (left:Int) (h0:0<=left) (h1:left<=1048576) (l1:s.a.length<=140737488355328) (l2:s.b.length<=140737488355328):Cm 66 [.agg (bL (some g) s),.int .i64 left] (.int .i64 (sc s left),[.undef,.undef]):=by
 refine Cm.fin HC fun J=>?_;rw [HD];have a1:=iL (n:=s.a.length) h0;simp (disch:=omega) only [A3,bV,aq];refine jj (f:=fun v=>aO 159 _ _) fun p1=>?_;simp (disch:=omega) only [A3,bV,aq];exact jj (f:=fun v=>some (.int .i64 v,[.undef,.undef])) fun _=>rfl
section
variable (t:bD Rz)
theorem Ye (g:Bool) (m:aB) (h:bO m):aO 72 [.agg (bd (some g) m)] t=feed t (bd none m):=bc (Yb g m h) (by kernel_rfl) t
theorem VQ (g:Bool) (s:aD) (h:cT s):aO 73 [.agg (bL (some g) s)] t=feed t (bL none s):=bc (VN g s h) (by kernel_rfl) t
theorem Yf (g h:Bool) (m:aB) (ok:bO m):aO 78 [.agg (bd (some g) m),.agg (bd (some h) m)] t=feed t [.bool true]:=bc (Yc g h m ok) (by kernel_rfl) t
theorem VR (g h:Bool) (s:aD) (ok:cT s):aO 79 [.agg (bL (some g) s),.agg (bL (some h) s)] t=feed t [.bool true]:=bc (VO g h s ok) (by kernel_rfl) t
theorem Yg (g:Bool) (m:aB) (left:Int) (h0:0<=left) (h1:left<=1048576) (ln:OC m):aO 65 [.agg (bd (some g) m),.int .i64 left] t=feed t [.int .i64 (uw m left)]:=bc (Yd g m left h0 h1 ln) (by kernel_rfl) t
theorem VS (g:Bool) (s:aD) (left:Int) (h0:0<=left) (h1:left<=1048576) (l1:s.a.length<=140737488355328) (l2:s.b.length<=140737488355328):aO 66 [.agg (bL (some g) s),.int .i64 left] t=feed t [.int .i64 (sc s left)]:=bc (VP g s left h0 h1 l1 l2) (by kernel_rfl) t
end
theorem Yh (g:Bool) (n:U) (h:aV n):Cm 17 [.agg (ab (some g) n)] (.agg (ab none n),[.undef]):=by
 have h1:=h.image;have h2:=h.conn;have h3:=h.aH;have h4:=h.wait;refine Cm.fin Ko fun J=>?_;rw [Kp];simp (disch:=first | omega | exact h.mt | exact h.aA | exact h.sync) only [zb,JO,VI,Ye,VQ,dq,aL,bV,aq,jt,xQ,eM,B3,aN]
theorem Yi (g h:Bool) (n:U) (ok:aV n):Cm 20 [.agg (ab (some g) n),.agg (ab (some h) n)] (.bool true,[.undef,.undef]):=by
 have h1:=ok.image;have h2:=ok.conn;have h3:=ok.aH;have h4:=ok.wait;refine Cm.fin Kq fun J=>?_;rw [Kr];simp (disch:=first | omega | exact ok.mt | exact ok.aA | exact ok.sync) only [vn,JP,VJ,Yf,VR,aL,aq,decide_true,aN,bf,ug,beq_self_eq_true,gb]
theorem Yj (g:Bool) (n:U) (left:Int) (h0:0<=left) (h1:left<=1048576) (ln:qQ n):Cm 15 [.agg (ab (some g) n),.int .i64 left] (.int .i64 (eu n left),[.undef,.undef]):=by
 refine Cm.fin Kt fun J=>?_;rw [Ku];have l1:=ln.image;have l2:=ln.conn;have l3:=ln.aH;have l4:=ln.wait;have a1:=iL (n:=n.image.length) h0;simp (disch:=omega) only [r9,bV,aq];refine jj (f:=fun v=>aO 65 _ _) fun p1=>?_;have a2:=Fz (m:=n.mt) p1 (by omega)
 simp (disch:=first | omega | exact ln.mt) only [Yg,bV,aq]
 refine jj (f:=fun v=>aO 66 _ _) fun p2=>?_;have a3:=CP (s:=n.aA) p2 (by omega)
 simp (disch:=first | omega | exact ln.a | exact ln.b) only [VS,bV,aq]
 refine jj (f:=fun v=>aO 67 _ _) fun p3=>?_;have a4:=iL (n:=n.conn.length) p3;simp (disch:=omega) only [JN,bV,aq];refine jj (f:=fun v=>aO 68 _ _) fun p4=>?_;have a5:=OB (xss:=n.sync) p4 (by omega)
 simp (disch:=first | omega | exact ln.sync | exact ln.syn) only [JQ,bV,aq]
 refine jj (f:=fun v=>aO 67 _ _) fun p5=>?_;have a6:=iL (n:=n.aH.length) p5;simp (disch:=omega) only [JN,bV,aq];refine jj (f:=fun v=>aO 64 _ _) fun p6=>?_;simp (disch:=omega) only [r9,bV,aq];exact jj (f:=fun v=>some (.int .i64 v,[.undef,.undef])) fun _=>rfl
set_option maxRecDepth 100000
section
variable (pr:ej) (cv:Cv Rz) (J:Nat->St->Option Rz)
theorem PR:Told cfg Tryz.prog 87 Tryz.f87:=⟨by kernel_rfl,Tryz.func87,by kernel_rfl⟩
theorem PS (a0:Int) (a1:Int) (a2:Int):aU pr cv J 87 Tryz.f87 [(.int .i64 a0),(.int .i64 a1),(.int .i64 a2)]=
 (br (pr.le a1 a0) (some ((.bool (pr.le a0 a2)),[.undef,.undef,.undef])) (some ((.bool false),[.undef,.undef,.undef]))):=by kernel_rfl
theorem PT:Told cfg Tryz.prog 105 Tryz.f105:=⟨by kernel_rfl,Tryz.func105,by kernel_rfl⟩
theorem PU (a0:Int) (a1:Int) (a2:Int):aU pr cv J 105 Tryz.f105 [(.int .i64 a0),(.int .i64 a1),(.int .i64 a2)]=
 (br (pr.le a1 a0) (some ((.bool (pr.le a0 a2)),[.undef,.undef,.undef])) (some ((.bool false),[.undef,.undef,.undef]))):=by kernel_rfl
end
theorem PV (a b c:Int):Cm 105 [.int .i64 a,.int .i64 b,.int .i64 c] (.bool (decide (b<=a/\a<=c)),[.undef,.undef,.undef]):=by
 refine Cm.fin PT fun J=>?_;rw [PU];by_cases h:b<=a
 ·rw [BZ h,y8];simp only [h,true_and]
 ·simp (disch:=omega) only [o0,h,false_and,decide_false]
theorem adT (a b c:Int):Cm 87 [.int .i64 a,.int .i64 b,.int .i64 c] (.bool (decide (b<=a/\a<=c)),[.undef,.undef,.undef]):=by
 refine Cm.fin PR fun J=>?_;rw [PS];by_cases h:b<=a
 ·rw [BZ h,y8];simp only [h,true_and]
 ·simp (disch:=omega) only [o0,h,false_and,decide_false]
section
variable (t:bD Rz)
theorem iB (a b c:Int):aO 105 [.int .i64 a,.int .i64 b,.int .i64 c] t=feed t [.bool (decide (b<=a/\a<=c))]:=bc (PV a b c) (by kernel_rfl) t
theorem kI (a b c:Int):aO 87 [.int .i64 a,.int .i64 b,.int .i64 c] t=feed t [.bool (decide (b<=a/\a<=c))]:=bc (adT a b c) (by kernel_rfl) t
end
set_option maxRecDepth 100000
def vo (xs:List Int):Prop:=∀ x∈xs,tF x=true
section
variable (t:bD Rz)
theorem OD (g:Bool) (n:U) (h:aV n):aO 17 [.agg (ab (some g) n)] t=feed t [enc .node n]:=bw (r:=enc .node n) (s:=.ty .node) (ss:=[.undef]) (Yh g n h) (by kernel_rfl) (ao _ _) (by simp only [ae,aI,ai,sC]) (ak _ _) rfl t
theorem OE (g h:Bool) (n:U) (ok:aV n):aO 20 [.agg (ab (some g) n),.agg (ab (some h) n)] t=feed t [.bool true]:=bc (Yi g h n ok) (by kernel_rfl) t
theorem DK (g:Bool) (n:U) (left:Int) (h0:0<=left) (h1:left<=1048576) (ln:qQ n):aO 15 [.agg (ab (some g) n),.int .i64 left] t=feed t [.int .i64 (eu n left)]:=bc (Yj g n left h0 h1 ln) (by kernel_rfl) t
end
set_option maxRecDepth 100000
theorem B4 {n:Int} (h:(Lit.int .i64 n).wf=true):tF n=true:=by
 simp [Lit.wf,IntKind.min,IntKind.max,IntKind.bits,IntKind.signed] at h;rw [X7];omega
abbrev VT:Sh:=.sl 8 (.int .i64)
abbrev sh8:Sh:=.sl 1 (.int .u8)
abbrev shB:Sh:=.sl 1 .bool
abbrev shR:Sh:=.sl 24 (.sl 8 (.int .i64))
abbrev adX:Sh:=.ag [VT,shR,.bool,.bool,.bool,.int .i64]
abbrev aa7:Sh:=.ag [sh8,sh8]
abbrev OF:Sh:=.ag [.int .i64,.bool,.bool,VT,adX,aa7,shB,shR,shB,VT]
theorem S6 {ds:List D} (h:WT VT ds):∃ xs,ds=[sI (some false) xs]/\xs.length<=17592186044416/\vo xs:=by
 obtain ⟨es,rfl,he,hx⟩:=h;have key:∀ es:List (List D),(∀ x∈es,WT (.int .i64) x)->∃ xs,es.flatten=ints xs/\xs.length=es.length/\vo xs:=by
  intro es
  induction es with
  | nil=>intro _; exact ⟨[],rfl,rfl,by simp [vo]⟩
  | cons e es ih=>
   intro h;obtain ⟨n,rfl,hn⟩:=h e (by simp)
   obtain ⟨xs,h1,h2,h3⟩:=ih (fun x hx=>h x (by simp [hx]))
   refine ⟨n::xs,by rw [aga,h1]; rfl,by simp [h2],fun x hx=>?_⟩
   rcases acK.1 hx with rfl | hx
   ·exact B4 hn
   ·exact h3 x hx
 obtain ⟨xs,h1,h2,h3⟩:=key es hx;refine ⟨xs,by rw [h1,<- h2]; rfl,?_,h3⟩
 have:reachBytes=140737488351232:=rfl;omega
theorem adY {ds:List D} (h:WT sh8 ds):∃ xs,ds=[s8 (some false) xs]/\xs.length<=140737488351232:=by
 obtain ⟨es,rfl,he,hx⟩:=h;have key:∀ es:List (List D),(∀ x∈es,WT (.int .u8) x)->∃ xs,es.flatten=bytes xs/\xs.length=es.length:=by
  intro es
  induction es with
  | nil=>intro _; exact ⟨[],rfl,rfl⟩
  | cons e es ih=>
   intro h;obtain ⟨n,rfl,hn⟩:=h e (by simp)
   obtain ⟨xs,h1,h2⟩:=ih (fun x hx=>h x (by simp [hx]))
   simp [Lit.wf,IntKind.min,IntKind.max,IntKind.bits,IntKind.signed] at hn;refine ⟨UInt8.ofNat n.toNat::xs,?_,by simp [h2]⟩
   rw [aga,h1];have:((UInt8.ofNat n.toNat).toNat:Int)=n:=by simp only [UInt8.toNat_ofNat']; omega
   simp only [bytes,ac6,dz,this];rfl
 obtain ⟨xs,h1,h2⟩:=key es hx;refine ⟨xs,by rw [h1,<- h2]; rfl,?_⟩
 have:reachBytes=140737488351232:=rfl;omega
theorem adZ {ds:List D} (h:WT shB ds):∃ xs,ds=[sB (some false) xs]/\xs.length<=140737488351232:=by
 obtain ⟨es,rfl,he,hx⟩:=h;have key:∀ es:List (List D),(∀ x∈es,WT .bool x)->∃ xs,es.flatten=aE xs/\xs.length=es.length:=by
  intro es
  induction es with
  | nil=>intro _; exact ⟨[],rfl,rfl⟩
  | cons e es ih=>
   intro h;obtain ⟨n,rfl⟩:=h e (by simp)
   obtain ⟨xs,h1,h2⟩:=ih (fun x hx=>h x (by simp [hx]))
   exact ⟨n::xs,by rw [aga,h1]; rfl,by simp [h2]⟩
 obtain ⟨xs,h1,h2⟩:=key es hx;refine ⟨xs,by rw [h1,<- h2]; rfl,?_⟩
 have:reachBytes=140737488351232:=rfl;omega
theorem ad0 {ds:List D} (h:WT shR ds):∃ xs,ds=[sR (some false) xs]/\xs.length<=140737488355328/\(∀ x∈xs,x.length<=140737488355328)/\∀ x∈xs,vo x:=by
 obtain ⟨es,rfl,he,hx⟩:=h;have key:∀ es:List (List D),(∀ x∈es,WT VT x)->∃ xs,es.flatten=rows (some false) xs/\xs.length=es.length/\(∀ x∈xs,x.length<=140737488355328)/\∀ x∈xs,vo x:=by
  intro es
  induction es with
  | nil=>intro _; exact ⟨[],rfl,rfl,by simp,by simp⟩
  | cons e es ih=>
   intro h;obtain ⟨n,rfl,hn,h4⟩:=S6 (h e (by simp))
   obtain ⟨xs,h1,h2,h3,h5⟩:=ih (fun x hx=>h x (by simp [hx]))
   refine ⟨n::xs,by rw [aga,h1]; rfl,by simp [h2],fun x hx=>?_,fun x hx=>?_⟩
   ·rcases acK.1 hx with rfl | hx
    ·omega
    ·exact h3 x hx
   ·rcases acK.1 hx with rfl | hx
    ·exact h4
    ·exact h5 x hx
 obtain ⟨xs,h1,h2,h3,h4⟩:=key es hx;refine ⟨xs,by rw [h1,<- h2]; rfl,?_,h3,h4⟩
 have:reachBytes=140737488351232:=rfl;omega
structure FB (n:U):Prop where
 id:tF n.id=true
 last:tF n.mt.last=true
 image:vo n.image
 av:vo n.mt.av
 bits:∀ x∈n.mt.bits,vo x
 sync:∀ x∈n.sync,vo x
 wait:vo n.wait
theorem Rr {ds:List D} (h:WT OF ds):∃ n:U,ds=ab (some false) n/\qQ n/\FB n:=by
 obtain ⟨_,_,rfl,⟨id,rfl,VU⟩,_,_,rfl,⟨up,rfl⟩,_,_,rfl,⟨bS,rfl⟩,_,_,rfl,ahO,_,_,rfl,hmt,_,_,rfl,gx,_,_,rfl,afx,_,_,rfl,afy,_,_,rfl,ahP,_,_,rfl,afz,rfl⟩:=h;obtain ⟨image,rfl,l1,i1⟩:=S6 ahO;obtain ⟨_,_,rfl,hg,_,_,rfl,hb,_,_,rfl,⟨cf,rfl⟩,_,_,rfl,⟨bB,rfl⟩,_,_,rfl,⟨held,rfl⟩,_,_,rfl,⟨last,rfl,afA⟩,rfl⟩:=hmt;obtain ⟨av,rfl,l2,i2⟩:=S6 hg;obtain ⟨bits,rfl,l3,l3',i3⟩:=ad0 hb;obtain ⟨_,_,rfl,ha,_,_,rfl,fD,rfl⟩:=gx;obtain ⟨a,rfl,l4⟩:=adY ha;obtain ⟨b,rfl,l5⟩:=adY fD;obtain ⟨conn,rfl,l6⟩:=adZ afx;obtain ⟨sync,rfl,l7,l7',i7⟩:=ad0 afy;obtain ⟨aH,rfl,l8⟩:=adZ ahP;obtain ⟨wait,rfl,l9,i9⟩:=S6 afz;refine ⟨⟨id,up,bS,image,⟨av,bits,cf,bB,held,last⟩,⟨a,b⟩,conn,sync,aH,wait⟩,rfl,⟨?_,⟨?_,l3,l3'⟩,?_,?_,?_,l7,l7',?_,?_⟩,⟨B4 VU,B4 afA,i1,i2,i3,i7,i9⟩⟩<;>simp only<;>omega
theorem hC (b:Bool):∀ xs:List Int,bz b (ints xs)=ints xs
 | []=>rfl
 | x::xs=>by
  have ih:=hC b xs;simp only [ints] at ih;simp only [ints,ac6,bz,eb,ih]
theorem iC (b:Bool):∀ xs:List UInt8,bz b (bytes xs)=bytes xs
 | []=>rfl
 | x::xs=>by
  have ih:=iC b xs;simp only [bytes] at ih;simp only [bytes,ac6,bz,dz,eb,ih]
theorem kJ (b:Bool):∀ xs:List Bool,bz b (aE xs)=aE xs
 | []=>rfl
 | x::xs=>by
  have ih:=kJ b xs;simp only [aE] at ih;simp only [aE,ac6,bz,eb,ih]
theorem iM (b:Bool):∀ xs:List (List Int),bz b (rows none xs)=rows (some b) xs
 | []=>rfl
 | x::xs=>by
  have ih:=iM b xs;simp only [rows] at ih;simp only [rows,ac6,bz,eb,ih,hC]
end Go.Proofs.YtckkpgcnhdllgaaGreat
