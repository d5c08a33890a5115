/- What the proof of FnExactWorldNew stands on, part 4: an abstract machine on plain data, its soundness, and the contracts of functions. -/
import Derived.Test.YtockoilcnmljiaaChecked
import Derived.KernelRfl
import Derived.SizedLaws
import Derived.ChangeOld
import Derived.Test.YtockoilcnmljiaaMc
set_option linter.all false
set_option linter.unusedSimpArgs false
set_option linter.unusedVariables false
set_option linter.unnecessarySimpa false
set_option linter.unusedSectionVars false
namespace Go.Proofs.Ytockoilcnmljiaa
section
variable (pr:dA)
def U2 (st:St) (r p o:Nat) (z d:D) (cs:List D):Option (Bool × St × (D->D)):=
 match z with
 | .nil s=>some (pr.jC s cs o,st.V7 (tR r [p] o (.sl none s (pr.bf cs o) (pr.bn cs o))) (ch r [p] o true),tR r [p] o (.sl none s (pr.bf cs o) (pr.bn cs o)))
 | .int ..=>if gk d then none else some (pr.slot cs o,st,id)
 | .bool _=>if gk d then none else some (pr.slot cs o,st,id)
 | .str _=>if gk d then none else some (pr.slot cs o,st,id)
 | _=>none
def nt (r p:Nat):St->Nat->(D->D)->List D->List D->Option (Bool × St)
 | st,_,_,[],[]=>some (true,st)
 | st,o,h,z::zs,d::ds=>
  if zk r [p] o (h d) then none else
  match iK st (h d) with
  | some (d',aH)=>if !cL d' then none else match aH.cells r [p] with
   | some cs=>match U2 pr aH r p o z d' cs with
    | some (g,bY,f)=>match bY.gH r [p] o d' with
     | some BS=>match nt r p (BS.ry (f (h d)) r [p] o) (o+1) (fun x=>tS (f (h d)) r [p] o (f (h x))) zs ds with
      | some (g',st')=>some (br g g' false,st')
      | none=>none
     | none=>none
    | none=>none
   | none=>none
  | none=>none
 | _,_,_,_,_=>none
def opE (c:cm) (st:St) (o:Oper):Option (Bool × St):=
 match o.op with
 | .fieldAddr s x f=>match c.ty s with
  | some ⟨.struct lv _,_,_,_⟩=>match lv[f]?,bX c st o.type x with
   | some k,.ptr r (p::q) i=>match st.cells r (p::q) with
    | some cs=>some (pr.ne cs,st.put o.dst (.ptr r (p::q) (i+k)))
    | none=>none
   | _,_=>none
  | _=>none
 | .nilCheck x=>match bX c st o.type x with
  | .ptr r (p::q) i=>match st.cells r (p::q) with
   | some cs=>some (pr.ne cs,st.put o.dst (.ptr r (p::q) i))
   | none=>none
  | _=>none
 | .store t a x=>match c.ty t with
  | some i=>match bX c st o.type a with
   | .ptr r [p] j=>if (i.size==1&&uG (bX c st t x))=true then none else
    if (cellsOf (bX c st t x)).length=i.size then match st.cells r [p] with
     | some cs=>match nt pr r p st j id i.zero (cellsOf (bX c st t x)) with
      | some (g,st')=>some (br (pr.ne cs) g false,st'.put o.dst (.aZ []))
      | none=>none
     | none=>none
    else none
   | _=>none
  | none=>none
 | _=>none
end
theorem Gy {s o:Nat} {cs:List D} (h:U.jC s cs o=true):cs[o]?=some (.sl none s (U.bf cs o) (U.bn cs o)):=by
 simp only [U] at h ⊢;split at h
 ·rename_i s' n ys he;have:s'=s:=by simpa using h
  subst this;rw [he];rfl
 ·simp at h
theorem Gz {st:St} {r:Nat} {q:List Nat} {cs:List D} (hc:st.cells r q=some cs) (h:U.ne cs=true):live st r q=true:=by
 unfold live;rw [hc];cases cs with
 | nil=>simp [U] at h
 | cons _ _=>rfl
theorem YF {cs:List D} {o:Nat} (h:U.slot cs o=true):∃ bW,cs[o]?=some bW/\gk bW=false:=by
 simp only [U] at h;split at h
 ·rename_i bW he;exact ⟨bW,he,by simpa using h⟩
 ·simp at h
theorem YG {st bY:St} {r p o:Nat} {z d:D} {cs:List D} {f:D->D} (hc:st.cells r [p]=some cs) (h:U2 U st r p o z d cs=some (true,bY,f)):st.qC r [p] o d=some (bY,f):=by
 have cB:st.cell r [p] o=cs[o]?:=by unfold St.cell; rw [hc]
 have scalar:∀ {bY:St} {f:D->D},(if gk d then none else some (U.slot cs o,st,(id:D->D)))=some (true,bY,f)->st.qC r [p] o d=some (bY,f):=by
  intro bY f h;split at h
  ·simp at h
  rename_i hd;simp only [ka,vi] at h;obtain ⟨h1,rfl,rfl⟩:=h;obtain ⟨bW,h2,h3⟩:=YF h1;unfold St.qC;rw [cB,h2];simp only [h3,aal,if_false];rw [if_neg hd]
 unfold U2 at h;split at h
 ·simp only [ka,vi] at h;obtain ⟨h1,rfl,rfl⟩:=h;unfold St.qC;rw [cB,Gy h1];simp [gk]
 ·exact scalar h
 ·exact scalar h
 ·exact scalar h
 ·simp at h
theorem z7 {r p:Nat}:∀ {zs ds:List D} {st:St} {o:Nat} {h:D->D} {g:Bool} {st':St},nt U r p st o h zs ds=some (g,st')->g=true->fq st r [p] o h ds=some st'
 | [],[],st,o,h,g,st',hu,hg=>by
  simp only [nt,ka,vi] at hu;obtain ⟨_,rfl⟩:=hu;rfl
 | [],_::_,st,o,h,g,st',hu,hg=>by simp [nt] at hu
 | _::_,[],st,o,h,g,st',hu,hg=>by simp [nt] at hu
 | z::zs,d::ds,st,o,h,g,st',hu,hg=>by
  simp only [nt] at hu;split at hu
  ·simp at hu
  rename_i wq;split at hu
  case h_2=>simp at hu
  rename_i d' aH du;split at hu
  ·simp at hu
  rename_i gY;split at hu
  case h_2=>simp at hu
  rename_i cs eo;split at hu
  case h_2=>simp at hu
  rename_i g1 bY f dQ;split at hu
  case h_2=>simp at hu
  rename_i BS ir;split at hu
  case h_2=>simp at hu
  rename_i g2 st4 Mo;simp only [ka,vi] at hu;obtain ⟨rfl,rfl⟩:=hu;obtain ⟨rfl,rfl⟩:=lH hg;have afl:zk r [p] o (h d)=false:=by simpa using wq
  simp only [fq,afl,adL,aal,if_false,du];rw [if_neg gY];simp only [YG eo dQ,ir];exact z7 Mo rfl
theorem abe {c:cm} {cl:FuncId->List D->Option (D × List D)} {ci:FuncId->List D->Nat->St->Option (D × St)} {ax:FuncId} {st st':St} {o:Oper} {g:Bool} (h:opE U c st o=some (g,st')) (hg:g=true):eU c cl ci ax st o=some st':=by
 unfold opE at h;unfold eU;split at h
 ·rename_i s x f ho;simp only [ho];split at h
  case h_2=>simp at h
  rename_i lv szs a b z lz;rw [lz];simp only;split at h
  case h_2=>simp at h
  rename_i k r p q i hk hx;rw [hk,hx];simp only;split at h
  case h_2=>simp at h
  rename_i cs eo;simp only [ka,vi] at h;obtain ⟨rfl,rfl⟩:=h;simp only [wg,Gz eo hg,if_true]
 ·rename_i x ho;simp only [ho];split at h
  case h_2=>simp at h
  rename_i r p q i hx;rw [hx];simp only;split at h
  case h_2=>simp at h
  rename_i cs eo;simp only [ka,vi] at h;obtain ⟨rfl,rfl⟩:=h;simp only [Gz eo hg,if_true]
 ·rename_i t a x ho;simp only [ho];split at h
  case h_2=>simp at h
  rename_i i hi;rw [hi];simp only;split at h
  case h_2=>simp at h
  rename_i r p j ha;rw [ha];split at h
  ·simp at h
  split at h
  case isFalse=>simp at h
  rename_i hlen;split at h
  case h_2=>simp at h
  rename_i cs eo;split at h
  case h_2=>simp at h
  rename_i g1 aH ZV;simp only [ka,vi] at h;obtain ⟨rfl,rfl⟩:=h;obtain ⟨h1,rfl⟩:=lH hg;simp only [tT,hlen,Gz eo h1,and_self,if_true,z7 ZV rfl]
 ·simp at h
section
variable (pr:dA)
def r8 (st:St) (h:D->D):List D->List D->Option (Bool × St × (D->D))
 | [],_=>some (true,st,h)
 | _::_,[]=>none
 | a::aa,d::ds=>
  match h a,d with
  | .ref r q o none,.sl none s n cs=>match st.cell r q o with
   | some (.hole s0 n0)=>if s0=s then
     (match (st.eT (ch r q o false)).gH r q o (.sl none s n cs) with
      | some st'=>(match r8 st' (fun x=>ch r q o false (h x)) aa ds with
       | some (g,p)=>some (br (pr.neq n0 n) g false,p)
       | none=>none)
      | none=>none)
    else none
   | _=>none
  | _,_=>r8 st h aa ds
def Mp (st:St) (h:D->D) (a out:D):Option (Bool × St × (D->D)):=
 match a,out with
 | .agg cs,.agg ds=>r8 pr st h cs ds
 | .ptr r [] 0,.aN ds=>match lk st.rt r with
  | some []=>some (true,{ st.eT (eA r) with rt:=pz (st.eT (eA r)).rt r ds },fun x=>eA r (h x))
  | _=>none
 | a,d=>r8 pr st h [a] [d]
def nu (st:St) (h:D->D):List Bool->List D->List D->Option (Bool × St)
 | _,[],_=>some (true,st)
 | b,a::aa,o::os=>if b.headD false then match Mp pr st h a o with
   | some (g,st',h')=>(match nu st' h' b.tail aa os with
    | some (g',xC)=>some (br g g' false,xC)
    | none=>none)
   | none=>none
  else nu st h b.tail aa os
 | _,_::_,[]=>none
end
theorem vB:∀ {aa ds:List D} {st:St} {h:D->D} {g:Bool} {p:St × (D->D)},r8 U st h aa ds=some (g,p)->g=true->oT st h aa ds=some p
 | [],ds,st,h,g,p,hu,_=>by
  simp only [r8,ka,vi] at hu;obtain ⟨_,rfl⟩:=hu;rfl
 | a::aa,[],st,h,g,p,hu,_=>by simp [r8] at hu
 | a::aa,d::ds,st,h,g,p,hu,hg=>by
  simp only [r8] at hu;simp only [oT];split at hu
  ·rename_i r q o s n cs ha;rw [ha];simp only;split at hu
   ·rename_i s0 n0 hc;rw [hc];simp only;split at hu
    case isFalse=>simp at hu
    rename_i hs;split at hu
    case h_2=>simp at hu
    rename_i st' ir;split at hu
    case h_2=>simp at hu
    rename_i g1 p1 Mo;simp only [ka,vi] at hu;obtain ⟨rfl,rfl⟩:=hu;obtain ⟨h1,rfl⟩:=lH hg;have hn:n0=n:=by simpa [U] using h1
    rw [if_pos ⟨hs,hn⟩,ir];exact vB Mo rfl
   ·simp at hu
  ·rename_i hx;split
   ·rename_i r q o s n cs ha;exact absurd rfl (hx r q o s n cs ha)
   ·exact vB hu hg
theorem Se {st:St} {h:D->D} {a out:D} {g:Bool} {p:St × (D->D)} (hu:Mp U st h a out=some (g,p)) (hg:g=true):A6 st h a out=some p:=by
 unfold Mp at hu;unfold A6;split at hu
 ·exact vB hu hg
 ·split at hu
  ·rename_i he;simp only [ka,vi] at hu;obtain ⟨_,rfl⟩:=hu;simp only [he]
  ·simp at hu
 ·rename_i h1 h2;split
  ·rename_i cs ds; exact absurd rfl (h1 cs ds rfl)
  ·rename_i r ds; exact absurd rfl (h2 r ds rfl)
  ·exact vB hu hg
theorem uH:∀ {aa:List D} {b:List Bool} {os:List D} {st:St} {h:D->D} {g:Bool} {st':St},nu U st h b aa os=some (g,st')->g=true->ik st h b aa os=some st'
 | [],b,os,st,h,g,st',hu,_=>by
  simp only [nu,ka,vi] at hu;obtain ⟨_,rfl⟩:=hu;rfl
 | a::aa,b,[],st,h,g,st',hu,_=>by simp [nu] at hu
 | a::aa,b,o::os,st,h,g,st',hu,hg=>by
  simp only [nu] at hu;simp only [ik];split at hu
  ·rename_i hb;rw [if_pos hb];split at hu
   case h_2=>simp at hu
   rename_i g1 aH h1 EI;split at hu
   case h_2=>simp at hu
   rename_i g2 bY Mo;simp only [ka,vi] at hu;obtain ⟨rfl,rfl⟩:=hu;obtain ⟨rfl,rfl⟩:=lH hg;rw [Se EI rfl];exact uH Mo rfl
  ·rename_i hb;rw [if_neg hb];exact uH hu hg
def Bq:D->Bool
 | .sl (some true) _ _ _=>true
 | _=>false
def nlC (pr:dA):D->Bool
 | .sl _ _ _ cs=>pr.nl cs
 | _=>true
def U3 (f:D->Bool):List D->Bool
 | []=>true
 | d::ds=>br (f d) (U3 f ds) false
def oX:List Bool->List D->Bool
 | _,[]=>false
 | b,d::ds=>(b.headD false&&(bU d).any Bq)||oX b.tail ds
def WS (pr:dA):List Bool->List D->Bool
 | _,[]=>true
 | b,d::ds=>br (if b.headD false then U3 (nlC pr) (bU d) else true) (WS pr b.tail ds) false
theorem OR {f:D->Bool}:∀ {ds:List D},U3 f ds=true->∀ d∈ds,f d=true
 | [],_=>by simp
 | d::ds,h=>by
  obtain ⟨h1,h2⟩:=lH h;intro x hx;rcases aaZ.1 hx with rfl | hx
  ·exact h1
  ·exact OR h2 x hx
theorem EZ:∀ {b:List Bool} {ds:List D},oX b ds=true->fr b ds=true
 | _,[],h=>by simp [oX] at h
 | b,d::ds,h=>by
  simp only [oX,acr,D8] at h;simp only [fr,acr,D8];rcases h with ⟨h1,h2⟩ | h
  ·refine .inl ⟨h1,?_⟩;obtain ⟨x,hx,hl⟩:=List.any_eq_true.1 h2;cases dL:(bU d).all bQ with
   | false=>rfl
   | true=>
    have:=aag.1 dL x hx;unfold Bq at hl;split at hl
    ·simp [bQ] at this
    ·simp at hl
  ·exact .inr (EZ h)
theorem Ck:∀ {b:List Bool} {ds:List D},oX b ds=false->WS U b ds=true->fr b ds=false
 | _,[],_,_=>rfl
 | b,d::ds,h,hn=>by
  simp only [oX,adI] at h;simp only [WS] at hn;obtain ⟨h1,h2⟩:=lH hn;simp only [fr,adI];refine ⟨?_,Ck h.2 h2⟩;cases hb:b.headD false with
  | false=>rfl
  | true=>
   rw [hb] at h1;simp only [if_true] at h1;have h3:=OR h1;have h4:(bU d).any Bq=false:=by have:=h.1; rw [hb] at this; simpa using this
   have:(bU d).all bQ=true:=by
    rw [aag];intro x hx;have h5:=h3 x hx;have h6:Bq x=false:=by
     cases hl:Bq x with
     | false=>rfl
     | true=>rw [List.any_eq_true.2 ⟨x,hx,hl⟩] at h4; simp at h4
    cases x with
    | sl g s n cs=>
     cases g with
     | none=>simpa [bQ,nlC,U] using h5
     | some g=>
      cases g with
      | false=>simpa [bQ,nlC,U] using h5
      | true=>simp [Bq] at h6
    | _=>simp [bQ]
   rw [this];rfl
def bs (l:List UInt8):ByteArray:=⟨l.toArray⟩
def ints (xs:List Int):List D:=xs.map (.int .i64)
def bytes (xs:List UInt8):List D:=xs.map eM
def aJ (xs:List Bool):List D:=xs.map .bool
def ad {α:Type} (e:α->List D) (xs:List α):List D:=xs.flatMap e
structure aE where
 aK:List Int
 bits:List (List Int)
 eb:Bool
 bW:Bool
 held:Bool
 last:Int
structure aA where
 a:List UInt8
 b:List UInt8
structure ak where
 id:Int
 up:Bool
 fm:Bool
 image:List Int
 mt:aE
 bJ:aA
 conn:List Bool
 sync:List (List Int)
 bC:List Bool
 wait:List Int
abbrev sI (g:Option Bool) (xs:List Int):D:=.sl g 1 xs.length (ints xs)
abbrev s8 (g:Option Bool) (xs:List UInt8):D:=.sl g 1 xs.length (bytes xs)
abbrev sB (g:Option Bool) (xs:List Bool):D:=.sl g 1 xs.length (aJ xs)
def rows (g:Option Bool) (xss:List (List Int)):List D:=xss.map fun xs=>.sl g 1 xs.length (ints xs)
abbrev sR (g:Option Bool) (xss:List (List Int)):D:=.sl g 1 xss.length (rows g xss)
abbrev bK (g:Option Bool) (m:aE):List D:=[sI g m.aK,sR g m.bits,.bool m.eb,.bool m.bW,.bool m.held,.int .i64 m.last]
abbrev cb (g:Option Bool) (s:aA):List D:=[s8 g s.a,s8 g s.b]
abbrev ab (g:Option Bool) (n:ak):List D:=[.int .i64 n.id,.bool n.up,.bool n.fm,sI g n.image,sI g n.mt.aK,sR g n.mt.bits,.bool n.mt.eb,.bool n.mt.bW,.bool n.mt.held,.int .i64 n.mt.last,s8 g n.bJ.a,s8 g n.bJ.b,sB g n.conn,sR g n.sync,sB g n.bC,sI g n.wait]
structure cD where
 src:Int
 dst:Int
 bytes:List UInt8
structure ff where
 cell:Int
 up:Int
structure ck where
 nodes:List ak
 cX:List cD
 log:List ff
 safe:List Int
 gen:Int
abbrev bj (g:Option Bool) (x:cD):List D:=[.int .i64 x.src,.int .i64 x.dst,s8 g x.bytes]
abbrev cJ (_:Option Bool) (r:ff):List D:=[.int .i64 r.cell,.int .i64 r.up]
abbrev sN (g:Option Bool) (xs:List ak):D:=.sl g 16 xs.length (ad (ab g) xs)
abbrev sW (g:Option Bool) (xs:List cD):D:=.sl g 3 xs.length (ad (bj g) xs)
abbrev sK (g:Option Bool) (xs:List ff):D:=.sl g 2 xs.length (ad (cJ g) xs)
abbrev lI (g:Option Bool) (w:ck):List D:=[sN g w.nodes,sW g w.cX,sK g w.log,sI g w.safe,.int .i64 w.gen]
structure uI where
 kind:Int
 cell:Int
 val:Int
 who:Int
 aK:List Int
structure ya where
 src:Int
 dst:Int
 msg:uI
structure qd where
 kind:Int
 a:Int
 b:Int
abbrev GA (g:Option Bool) (m:uI):List D:=[.int .i64 m.kind,.int .i64 m.cell,.int .i64 m.val,.int .i64 m.who,sI g m.aK]
abbrev Br (g:Option Bool) (p:ya):List D:=[.int .i64 p.src,.int .i64 p.dst,.int .i64 p.msg.kind,.int .i64 p.msg.cell,.int .i64 p.msg.val,.int .i64 p.msg.who,sI g p.msg.aK]
abbrev Bs (_:Option Bool) (d:qd):List D:=[.int .i64 d.kind,.int .i64 d.a,.int .i64 d.b]
abbrev sP (g:Option Bool) (xs:List ya):D:=.sl g 7 xs.length (ad (Br g) xs)
abbrev sM (g:Option Bool) (xs:List uI):D:=.sl g 5 xs.length (ad (GA g) xs)
abbrev sD (g:Option Bool) (xs:List qd):D:=.sl g 3 xs.length (ad (Bs g) xs)
inductive eP where
 | I | B | L | R | mt | bJ | node | msg | post | world | Qg | qe | Ns | Ws | Ks | Ps | Ms | Ds
abbrev eP.T:eP->Type
 | .I=>List Int
 | .B=>List UInt8
 | .L=>List Bool
 | .R=>List (List Int)
 | .mt=>aE
 | .bJ=>aA
 | .node=>ak
 | .msg=>uI
 | .post=>ya
 | .world=>ck
 | .Qg=>qd
 | .qe=>cD
 | .Ns=>List ak
 | .Ws=>List cD
 | .Ks=>List ff
 | .Ps=>List ya
 | .Ms=>List uI
 | .Ds=>List qd
def enc:(k:eP)->k.T->D
 | .I,x=>sI none x
 | .B,x=>s8 none x
 | .L,x=>sB none x
 | .R,x=>sR none x
 | .mt,x=>.agg (bK none x)
 | .bJ,x=>.agg (cb none x)
 | .node,x=>.agg (ab none x)
 | .msg,x=>.agg (GA none x)
 | .post,x=>.agg (Br none x)
 | .world,x=>.agg (lI none x)
 | .Qg,x=>.agg (Bs none x)
 | .qe,x=>.agg (bj none x)
 | .Ns,x=>sN none x
 | .Ws,x=>sW none x
 | .Ks,x=>sK none x
 | .Ps,x=>sP none x
 | .Ms,x=>sM none x
 | .Ds,x=>sD none x
theorem map_inj {α:Type} {f:α->D} (h:∀ a b,f a=f b->a=b):∀ {xs ys:List α},xs.map f=ys.map f->xs=ys
 | [],[],_=>rfl
 | [],_::_,e=>by simp at e
 | _::_,[],e=>by simp at e
 | x::xs,y::ys,e=>by
  simp only [aa0,aaS] at e;rw [h _ _ e.1,map_inj h e.2]
theorem mc {xs ys:List Int} (h:ints xs=ints ys):xs=ys:=map_inj (fun a b e=>by simpa using e) h
theorem bytes_inj {xs ys:List UInt8} (h:bytes xs=bytes ys):xs=ys:=map_inj (fun a b e=>by
 simp only [eM,D.int.injEq,true_and] at e;exact UInt8.toNat_inj.1 (by omega)) h
theorem z8 {xs ys:List Bool} (h:aJ xs=aJ ys):xs=ys:=map_inj (fun a b e=>by simpa using e) h
theorem yb {g:Option Bool} {xs ys:List (List Int)} (h:rows g xs=rows g ys):xs=ys:=map_inj (fun a b e=>by
 simp only [D.sl.injEq] at e;exact mc e.2.2.2) h
theorem Mq {α:Type} {e:α->List D} {w:Nat} (hw:∀ x,(e x).length=w) (h:∀ a b,e a=e b->a=b):∀ {xs ys:List α},xs.length=ys.length->ad e xs=ad e ys->xs=ys
 | [],[],_,_=>rfl
 | [],_::_,hl,_=>by simp at hl
 | _::_,[],hl,_=>by simp at hl
 | x::xs,y::ys,hl,he=>by
  simp only [ad,ab8] at he;have h1:=List.append_inj he (by rw [hw,hw])
  rw [h _ _ h1.1,Mq hw h (by simpa using hl) h1.2]
theorem Sf {g:Option Bool} {a b:aE} (h:bK g a=bK g b):a=b:=by
 obtain ⟨a1,a2,a3,a4,a5,a6⟩:=a;obtain ⟨b1,b2,b3,b4,b5,b6⟩:=b;simp only [aaS,D.sl.injEq,D.bool.injEq,D.int.injEq,true_and,and_true] at h;rw [mc h.1.2,yb h.2.1.2,h.2.2.1,h.2.2.2.1,h.2.2.2.2.1,h.2.2.2.2.2]
theorem Qh {g:Option Bool} {a b:aA} (h:cb g a=cb g b):a=b:=by
 obtain ⟨a1,a2⟩:=a;obtain ⟨b1,b2⟩:=b;simp only [aaS,D.sl.injEq,true_and,and_true] at h;rw [bytes_inj h.1.2,bytes_inj h.2.2]
theorem Aa {g:Option Bool} {a b:ak} (h:ab g a=ab g b):a=b:=by
 obtain ⟨a1,a2,a3,a4,a5,⟨a6,a7⟩,a8,a9,a10,a11⟩:=a;obtain ⟨b1,b2,b3,b4,b5,⟨b6,b7⟩,b8,b9,jr,b11⟩:=b;obtain ⟨c1,c2,c3,c4,c5,c6⟩:=a5;obtain ⟨d1,d2,d3,d4,d5,d6⟩:=b5;simp only [aaS,D.sl.injEq,D.bool.injEq,D.int.injEq,true_and,and_true] at h;obtain ⟨h1,h2,h3,⟨_,h4⟩,⟨_,h5⟩,⟨_,h6⟩,h7,h8,h9,lR,⟨_,Q1⟩,⟨_,ZU⟩,⟨_,h13⟩,⟨_,h14⟩,⟨_,h15⟩,⟨_,h16⟩⟩:=h;rw [h1,h2,h3,mc h4,mc h5,yb h6,h7,h8,h9,lR,bytes_inj Q1,bytes_inj ZU,z8 h13,yb h14,z8 h15,mc h16]
theorem Ab {g:Option Bool} {a b:cD} (h:bj g a=bj g b):a=b:=by
 obtain ⟨a1,a2,a3⟩:=a;obtain ⟨b1,b2,b3⟩:=b;simp only [aaS,D.sl.injEq,D.int.injEq,true_and,and_true] at h;rw [h.1,h.2.1,bytes_inj h.2.2.2]
theorem Mr {g:Option Bool} {a b:ff} (h:cJ g a=cJ g b):a=b:=by
 obtain ⟨a1,a2⟩:=a;obtain ⟨b1,b2⟩:=b;simp only [aaS,D.int.injEq,true_and,and_true] at h;rw [h.1,h.2]
theorem Mt {g:Option Bool} {a b:uI} (h:GA g a=GA g b):a=b:=by
 obtain ⟨a1,a2,a3,a4,a5⟩:=a;obtain ⟨b1,b2,b3,b4,b5⟩:=b;simp only [aaS,D.sl.injEq,D.int.injEq,true_and,and_true] at h;rw [h.1,h.2.1,h.2.2.1,h.2.2.2.1,mc h.2.2.2.2.2]
theorem IH {g:Option Bool} {a b:ya} (h:Br g a=Br g b):a=b:=by
 obtain ⟨x,y,⟨a1,a2,a3,a4,a5⟩⟩:=a;obtain ⟨z,w,⟨b1,b2,b3,b4,b5⟩⟩:=b;simp only [aaS,D.sl.injEq,D.int.injEq,true_and,and_true] at h;rw [h.1,h.2.1,h.2.2.1,h.2.2.2.1,h.2.2.2.2.1,h.2.2.2.2.2.1,mc h.2.2.2.2.2.2.2]
theorem II {g:Option Bool} {a b:qd} (h:Bs g a=Bs g b):a=b:=by
 obtain ⟨a1,a2,a3⟩:=a;obtain ⟨b1,b2,b3⟩:=b;simp only [aaS,D.int.injEq,true_and,and_true] at h;rw [h.1,h.2.1,h.2.2]
theorem qf {α:Type} {e:α->List D} {w s:Nat} (hw:∀ x,(e x).length=w) (h:∀ a b,e a=e b->a=b) {xs ys:List α} (he:D.sl none s xs.length (ad e xs)=.sl none s ys.length (ad e ys)):xs=ys:=by
 simp only [D.sl.injEq,true_and] at he;exact Mq hw h he.1 he.2
theorem YH:∀ {k:eP} {x y:k.T},enc k x=enc k y->x=y
 | .I,_,_,h=>mc (D.sl.inj h).2.2.2
 | .B,_,_,h=>bytes_inj (D.sl.inj h).2.2.2
 | .L,_,_,h=>z8 (D.sl.inj h).2.2.2
 | .R,_,_,h=>yb (D.sl.inj h).2.2.2
 | .mt,_,_,h=>Sf (D.agg.inj h)
 | .bJ,_,_,h=>Qh (D.agg.inj h)
 | .node,_,_,h=>Aa (D.agg.inj h)
 | .msg,_,_,h=>Mt (D.agg.inj h)
 | .post,_,_,h=>IH (D.agg.inj h)
 | .world,x,y,h=>by
  obtain ⟨a1,a2,a3,a4,a5⟩:=x;obtain ⟨b1,b2,b3,b4,b5⟩:=y;have h:=D.agg.inj h;simp only [aaS,D.int.injEq,true_and,and_true] at h;rw [qf (w:=16) (fun _=>rfl) (fun _ _=>Aa) h.1,qf (w:=3) (fun _=>rfl) (fun _ _=>Ab) h.2.1,qf (w:=2) (fun _=>rfl) (fun _ _=>Mr) h.2.2.1,mc (D.sl.inj h.2.2.2.1).2.2.2,h.2.2.2.2]
 | .Qg,_,_,h=>II (g:=none) (D.agg.inj h)
 | .qe,_,_,h=>Ab (D.agg.inj h)
 | .Ns,_,_,h=>qf (w:=16) (fun _=>rfl) (fun _ _=>Aa) h
 | .Ws,_,_,h=>qf (w:=3) (fun _=>rfl) (fun _ _=>Ab) h
 | .Ks,_,_,h=>qf (w:=2) (fun _=>rfl) (fun _ _=>Mr) h
 | .Ps,_,_,h=>qf (w:=7) (fun _=>rfl) (fun _ _=>IH) h
 | .Ms,_,_,h=>qf (w:=5) (fun _=>rfl) (fun _ _=>Mt) h
 | .Ds,_,_,h=>qf (w:=3) (fun _=>rfl) (fun _ _=>II (g:=none)) h
theorem wD {ds:List D} (h:∀ d∈ds,bQ d=true):bV ds=true:=by
 induction ds with
 | nil=>rfl
 | cons d ds ih=>
  simp only [bV,D8];exact ⟨h d (by simp),ih fun x hx=>h x (by simp [hx])⟩
theorem rF (xs:List Int):bV (ints xs)=true:=wD (by intro d hd; obtain ⟨a,_,rfl⟩:=aaK.1 hd; rfl)
theorem Bt (xs:List UInt8):bV (bytes xs)=true:=wD (by intro d hd; obtain ⟨a,_,rfl⟩:=aaK.1 hd; rfl)
theorem Qi (xs:List Bool):bV (aJ xs)=true:=wD (by intro d hd; obtain ⟨a,_,rfl⟩:=aaK.1 hd; rfl)
theorem KI (xs:List (List Int)):bV (rows none xs)=true:=wD (by intro d hd; obtain ⟨a,_,rfl⟩:=aaK.1 hd; simp [bQ,rF])
theorem tq {α:Type} {e:α->List D} (h:∀ x,bV (e x)=true) (xs:List α):bV (ad e xs)=true:=wD (by
 intro d hd;obtain ⟨a,_,ha⟩:=List.mem_flatMap.1 hd;have:=h a;generalize e a=l at this ha
 induction l with
 | nil=>simp at ha
 | cons x l ih=>
  simp only [bV,D8] at this;rcases aaZ.1 ha with rfl | ha
  ·exact this.1
  ·exact ih this.2 ha)
theorem WT (x:ak):bV (ab none x)=true:=by simp [bV,bQ,rF,Bt,Qi,KI]
theorem WU (x:cD):bV (bj none x)=true:=by simp [bV,bQ,Bt]
theorem WV (x:ff):bV (cJ none x)=true:=by simp [bV,bQ]
theorem adi (x:ya):bV (Br none x)=true:=by simp [bV,bQ,rF]
theorem adj (x:uI):bV (GA none x)=true:=by simp [bV,bQ,rF]
theorem adk (x:qd):bV (Bs none x)=true:=by simp [bV,bQ]
theorem au:∀ (k:eP) (x:k.T),dC (enc k x)=true
 | .I,x=>by simp [dC,enc,bU,db,fp,bQ,rF]
 | .B,x=>by simp [dC,enc,bU,db,fp,bQ,Bt]
 | .L,x=>by simp [dC,enc,bU,db,fp,bQ,Qi]
 | .R,x=>by simp [dC,enc,bU,db,fp,bQ,KI]
 | .mt,x=>by simp [dC,enc,bU,db,fp,bQ,rF,KI]
 | .bJ,x=>by simp [dC,enc,bU,db,fp,bQ,Bt]
 | .node,x=>by simp [dC,enc,bU,db,fp,bQ,rF,Bt,Qi,KI]
 | .msg,x=>by simp [dC,enc,bU,db,fp,bQ,rF]
 | .post,x=>by simp [dC,enc,bU,db,fp,bQ,rF]
 | .world,x=>by simp [dC,enc,bU,db,fp,bQ,rF,tq WT,tq WU,tq WV]
 | .Qg,x=>by simp [dC,enc,bU,db,fp,bQ]
 | .qe,x=>by simp [dC,enc,bU,db,fp,bQ,Bt]
 | .Ns,x=>by simp [dC,enc,bU,db,fp,bQ,tq WT]
 | .Ws,x=>by simp [dC,enc,bU,db,fp,bQ,tq WU]
 | .Ks,x=>by simp [dC,enc,bU,db,fp,bQ,tq WV]
 | .Ps,x=>by simp [dC,enc,bU,db,fp,bQ,tq adi]
 | .Ms,x=>by simp [dC,enc,bU,db,fp,bQ,tq adj]
 | .Ds,x=>by simp [dC,enc,bU,db,fp,bQ,tq adk]
def OT (v:D):Bool:=(match v with | .agg cs=>cs | d=>[d]).all fun x=>fp x&&bQ x
theorem aT:dC (.aZ [])=true:=rfl
theorem aU (v:D) (vs:List D):dC (.aZ (v::vs))=(OT v&&dC (.aZ vs)):=by
 simp only [dC,bU,db,ab8,List.all_append,OT];rfl
theorem bp (k:eP) (x:k.T):OT (enc k x)=true:=by
 have:=au k x;cases k<;>exact this
theorem bq (k:IntKind) (n:Int):OT (.int k n)=true:=rfl
theorem aV (b:Bool):OT (.bool b)=true:=rfl
theorem bt (b:ByteArray):OT (.str b)=true:=rfl
inductive RS where
 | int (k:IntKind)
 | bool
 | str
 | sl (s:Nat)
 | jD (s:Nat)
 | undef
 | agg (l:List RS)
 | aZ (l:List RS)
 | aN (l:List RS)
 | ty (k:eP)
inductive bE (R:Type) where
 | done (x:Option R)
 | int (f:Int->bE R)
 | bool (f:Bool->bE R)
 | str (f:ByteArray->bE R)
 | sl (f:Nat->List D->bE R)
 | jD (f:Bool->Nat->List D->bE R)
 | ty (k:eP) (f:k.T->bE R)
section
variable {R:Type}
mutual
def qg:RS->(D->bE R)->bE R
 | .int k,f=>.int fun x=>f (.int k x)
 | .bool,f=>.bool fun x=>f (.bool x)
 | .str,f=>.str fun x=>f (.str x)
 | .sl s,f=>.sl fun n cs=>f (.sl none s n cs)
 | .jD s,f=>.jD fun _ n cs=>f (.sl (some false) s n cs)
 | .undef,f=>f .undef
 | .agg l,f=>Ac l fun ds=>f (.agg ds)
 | .aZ l,f=>Ac l fun ds=>f (.aZ ds)
 | .aN l,f=>Ac l fun ds=>f (.aN ds)
 | .ty k,f=>.ty k fun x=>f (enc k x)
def Ac:List RS->(List D->bE R)->bE R
 | [],f=>f []
 | s::ss,f=>qg s fun d=>Ac ss fun ds=>f (d::ds)
end
open Classical in
noncomputable def feed:bE R->List D->Option R
 | .done x,_=>x
 | .int f,.int _ n::l=>feed (f n) l
 | .bool f,.bool b::l=>feed (f b) l
 | .str f,.str s::l=>feed (f s) l
 | .sl f,.sl none _ n cs::l=>feed (f n cs) l
 | .jD f,.sl (some g) _ n cs::l=>feed (f g n cs) l
 | .ty k f,d::l=>if h:∃ x,d=enc k x then feed (f (Classical.choose h)) l else none
 | _,_=>none
end
mutual
def rn:D->List D
 | .agg ds=>vC ds
 | .aZ ds=>vC ds
 | .aN ds=>vC ds
 | .undef=>[]
 | d=>[d]
def vC:List D->List D
 | []=>[]
 | d::ds=>rn d++vC ds
end
open Classical in
mutual
noncomputable def eW:RS->D->Bool
 | .int k,.int k' _=>eZ k k'
 | .bool,.bool _=>true
 | .str,.str _=>true
 | .sl s,.sl none s' _ _=>s==s'
 | .jD s,.sl (some false) s' _ _=>s==s'
 | .undef,.undef=>true
 | .agg l,.agg ds=>jE l ds
 | .aZ l,.aZ ds=>jE l ds
 | .aN l,.aN ds=>jE l ds
 | .ty k,d=>decide (∃ x,d=enc k x)
 | _,_=>false
noncomputable def jE:List RS->List D->Bool
 | [],[]=>true
 | s::ss,d::ds=>eW s d&&jE ss ds
 | _,_=>false
end
open Classical in
theorem av (k:eP) (x:k.T):eW (.ty k) (enc k x)=true:=by
 simp only [eW];exact decide_eq_true ⟨x,rfl⟩
theorem bu (k:IntKind) (n:Int):eW (.int k) (.int k n)=true:=by simp [eW,eZ]
theorem aW (b:Bool):eW .bool (.bool b)=true:=by simp [eW]
theorem bw (b:ByteArray):eW .str (.str b)=true:=by simp [eW]
theorem bz (l:List RS) (ds:List D):eW (.aZ l) (.aZ ds)=jE l ds:=by simp [eW]
theorem aj:jE [] []=true:=by simp [jE]
theorem ah (s:RS) (ss:List RS) (d:D) (ds:List D):jE (s::ss) (d::ds)=(eW s d&&jE ss ds):=by simp [jE]
theorem aI:eW .undef .undef=true:=by simp [eW]
mutual
def gf:RS->D->List D
 | .agg l,.agg ds=>nv l ds
 | .aZ l,.aZ ds=>nv l ds
 | .aN l,.aN ds=>nv l ds
 | .undef,_=>[]
 | _,d=>[d]
def nv:List RS->List D->List D
 | s::ss,d::ds=>gf s d++nv ss ds
 | _,_=>[]
end
mutual
def uJ:RS->Bool
 | .ty _=>true
 | .agg l=>uK l
 | .aZ l=>uK l
 | .aN l=>uK l
 | _=>false
def uK:List RS->Bool
 | []=>false
 | s::ss=>uJ s||uK ss
end
mutual
theorem Mu:∀ {s:RS} {d:D},eW s d=true->uJ s=false->gf s d=rn d
 | .int k,d,h,_=>by cases d<;>simp [eW,eZ] at h; simp [gf,rn]
 | .bool,d,h,_=>by cases d<;>simp [eW] at h; simp [gf,rn]
 | .str,d,h,_=>by cases d<;>simp [eW] at h; simp [gf,rn]
 | .sl s,d,h,_=>by cases d<;>simp [eW] at h; simp [gf,rn]
 | .jD s,d,h,_=>by cases d<;>simp [eW] at h; simp [gf,rn]
 | .undef,d,h,_=>by cases d<;>simp [eW] at h; simp [gf,rn]
 | .ty k,d,h,ht=>by simp [uJ] at ht
 | .agg ss,d,h,ht=>by
  cases d with
  | agg ds=>rw [gf,rn]; exact r9 (by simpa [eW] using h) (by simpa [uJ] using ht)
  | _=>simp [eW] at h
 | .aZ ss,d,h,ht=>by
  cases d with
  | aZ ds=>rw [gf,rn]; exact r9 (by simpa [eW] using h) (by simpa [uJ] using ht)
  | _=>simp [eW] at h
 | .aN ss,d,h,ht=>by
  cases d with
  | aN ds=>rw [gf,rn]; exact r9 (by simpa [eW] using h) (by simpa [uJ] using ht)
  | _=>simp [eW] at h
theorem r9:∀ {ss:List RS} {ds:List D},jE ss ds=true->uK ss=false->nv ss ds=vC ds
 | [],ds,h,_=>by
  cases ds with
  | nil=>rfl
  | cons d ds=>simp [jE] at h
 | s::ss,ds,h,ht=>by
  cases ds with
  | nil=>simp [jE] at h
  | cons d ds=>
   simp only [jE,D8] at h;simp only [uK,adI] at ht;rw [nv,vC,Mu h.1 ht.1,r9 h.2 ht.2]
end
section
variable {R:Type}
open Classical in
theorem OU (k:eP) (f:k.T->bE R) (x:k.T) (l:List D):feed (.ty k f) (enc k x::l)=feed (f x) l:=by
 have h:∃ y,enc k x=enc k y:=⟨x,rfl⟩;have e:Classical.choose h=x:=(YH (Classical.choose_spec h)).symm;show (if h:∃ y,enc k x=enc k y then feed (f (Classical.choose h)) l else none)=_
 rw [dif_pos h,e]
mutual
theorem sc:∀ {s:RS} {d:D} (f:D->bE R) (l:List D),eW s d=true->feed (qg s f) (gf s d++l)=feed (f d) l
 | .int k,d,f,l,h=>by
  cases d<;>simp [eW,eZ] at h
  subst h;simp [qg,gf,feed]
 | .bool,d,f,l,h=>by
  cases d<;>simp [eW] at h
  simp [qg,gf,feed]
 | .str,d,f,l,h=>by
  cases d<;>simp [eW] at h
  simp [qg,gf,feed]
 | .sl s,d,f,l,h=>by
  cases d with
  | sl g s' n cs=>cases g with
   | none=>simp [eW] at h; subst h; simp [qg,gf,feed]
   | some g=>simp [eW] at h
  | _=>simp [eW] at h
 | .jD s,d,f,l,h=>by
  cases d with
  | sl g s' n cs=>cases g with
   | none=>simp [eW] at h
   | some g=>cases g with
    | true=>simp [eW] at h
    | false=>simp [eW] at h; subst h; simp [qg,gf,feed]
  | _=>simp [eW] at h
 | .undef,d,f,l,h=>by
  cases d<;>simp [eW] at h
  simp [qg,gf]
 | .agg ss,d,f,l,h=>by
  cases d with
  | agg ds=>rw [qg,gf]; exact lU _ l (by simpa [eW] using h)
  | _=>simp [eW] at h
 | .aZ ss,d,f,l,h=>by
  cases d with
  | aZ ds=>rw [qg,gf]; exact lU _ l (by simpa [eW] using h)
  | _=>simp [eW] at h
 | .aN ss,d,f,l,h=>by
  cases d with
  | aN ds=>rw [qg,gf]; exact lU _ l (by simpa [eW] using h)
  | _=>simp [eW] at h
 | .ty k,d,f,l,h=>by
  have h:∃ x,d=enc k x:=by simpa [eW] using h
  obtain ⟨x,rfl⟩:=h;rw [qg,gf,acj]
  ·exact OU k _ x l
  all_goals simp
theorem lU:∀ {ss:List RS} {ds:List D} (f:List D->bE R) (l:List D),jE ss ds=true->feed (Ac ss f) (nv ss ds++l)=feed (f ds) l
 | [],ds,f,l,h=>by
  cases ds with
  | nil=>rfl
  | cons d ds=>simp [jE] at h
 | s::ss,ds,f,l,h=>by
  cases ds with
  | nil=>simp [jE] at h
  | cons d ds=>
   simp only [jE,D8] at h;rw [Ac,nv,aay,sc _ _ h.1,lU _ _ h.2]
end
end
noncomputable def lj (c:cm) (P:Program) (f:FuncId) (ds:List D):Option (D × List D):=by
 classical exact if h:∃ r,Comes c P f ds r then some (Classical.choose h) else none
theorem U4 {c:cm} {P:Program} {f:FuncId} {ds:List D} {r:D × List D} (h:lj c P f ds=some r):Comes c P f ds r:=by
 unfold lj at h;split at h
 ·rename_i hh;rw [ka] at h;rw [<- h];exact Classical.choose_spec hh
 ·simp at h
theorem Si {c:cm} {P:Program} {f:FuncId} {ds:List D} {r r':D × List D} (h:Comes c P f ds r) (h':Comes c P f ds r'):r=r':=by
 obtain ⟨k,hk⟩:=Ev.and h h';have h3:=hk k (aaM _);exact aeH (h3.1.symm.trans h3.2)
theorem Mv {c:cm} {P:Program} {f:FuncId} {ds:List D} {r:D × List D} (h:Comes c P f ds r):lj c P f ds=some r:=by
 unfold lj;rw [dif_pos ⟨r,h⟩];exact congrArg some (Si (Classical.choose_spec (⟨r,h⟩:∃ r,Comes c P f ds r)) h)
structure Sg where
 sig:FuncId->Option (RS × List RS)
 em:FuncId->Bool
abbrev Cv (R:Type):=FuncId->List D->bE R->Option R
noncomputable def eF {R:Type} (c:cm) (P:Program) (sg:Sg):Cv R:=fun g ds t=>
 if g=999999 then feed t ds else
 match lj c P g ds,sg.sig g with
 | some (r,outs),some (s,ss)=>if eW s r&&jE ss outs&&(!(uJ s||uK ss)||(dC r&&outs.all dC)) then feed t (gf s r++(nv ss outs++[])) else none
 | _,_=>none
theorem adl {R:Type} {c:cm} {P:Program} {sg:Sg} {g:FuncId} {ds:List D} {r:D} {outs:List D} (t:bE R) (h:Comes c P g ds (r,outs)) (hs:(match sg.sig g with | some (s,ss)=>eW s r&&jE ss outs&&!(uJ s||uK ss) | none=>false)=true) (hg:g≠999999):eF c P sg g ds t=feed t (rn r++(vC outs++[])):=by
 unfold eF;rw [if_neg hg,Mv h];split at hs
 ·rename_i s ss hg;rw [hg];simp only [D8,abf,adI] at hs;simp only [hs,vg,Bool.or_self,Bool.not_false,Bool.true_or,if_true];rw [Mu hs.1.1 hs.2.1,r9 hs.1.2 hs.2.2]
 ·simp at hs
theorem adm {R:Type} {c:cm} {P:Program} {sg:Sg} {g:FuncId} {ds:List D} {r:D} {outs:List D} {s:RS} {ss:List RS} (t:bE R) (h:Comes c P g ds (r,outs)) (hs:sg.sig g=some (s,ss)) (h1:eW s r=true) (h2:jE ss outs=true) (h3:dC r=true) (h4:outs.all dC=true) (hg:g≠999999):eF c P sg g ds t=feed t (gf s r++(nv ss outs++[])):=by
 unfold eF;rw [if_neg hg,Mv h,hs];simp only [h1,h2,h3,h4,vg,Bool.or_true,if_true]
def St.Mw (st:St) (r p:Nat) (zs:List D):Option St:=
 match lk st.rt r with
 | some l=>match l[p]? with
  | some (.sl none s n _)=>some { st with rt:=R8 st.rt r (l.set p (.sl none s n zs)) }
  | _=>none
 | none=>none
theorem Nv {st:St} {r p:Nat} {ys:List D} (h:st.cells r [p]=some ys):st.Mw r p ys=some st:=by
 unfold St.cells at h;unfold St.Mw;split at h
 case h_2=>simp at h
 rename_i l hl;simp only [jw] at h;split at h
 case h_2=>simp at h
 rename_i s n xs hp;simp only [ka] at h;subst h;simp only [hl,hp];have e:l.set p (.sl none s n xs)=l:=by
  apply adM;intro i;rw [agF];split
  ·rename_i hi;subst hi;rw [if_pos (V6.1 hp).1,hp]
  ·rfl
 rw [e,Dc _ _ _ hl]
section
variable {R:Type} (pr:dA) (c:cm) (sg:Sg) (cv:Cv R) (J:Nat->St->Option R) (ax:FuncId)
def KJ (bY:St) (t:Bool) (dst:Option Nat) (r:D) (k:St->Option R):Option R:=
 match dst with
 | some i=>k ((bY.pL (bY.of+i) (if t then gI true r else r)).1.put (some i) (bY.pL (bY.of+i) (if t then gI true r else r)).2)
 | none=>k bY
def E0 (st:St) (r p:Nat) (k:St->Option R):Option R:=
 match st.cells r [p] with
 | some ys=>cv 999999 [.sl none 0 0 ys] (.sl fun _ zs=>.done (match st.Mw r p zs with
  | some st'=>k st'
  | none=>none))
 | none=>k st
def E3 (st:St) (dst:Option Nat) (g:FuncId) (args:List D) (k:St->Option R):Option R:=
 if g=999999 then none else
 match mo st (c.own g) args,sg.sig g with
 | some (ds,aH),some (s,ss)=>
  br (if oX (c.own g) ds then true else WS pr (c.own g) ds)
  (cv g (if oX (c.own g) ds then jX (c.own g) ds else ds) (qg s fun r=>Ac ss fun outs=>.done (br (match uJ s||uK ss with | true=>true | false=>Cj pr r&&outs.all (Cj pr))
   (match nu pr aH id (c.own g) args (if oX (c.own g) ds then outs.map (gI true) else outs) with
    | some (q,bY)=>br q (KJ bY (oX (c.own g) ds) dst r k) none
    | none=>none) none))) none
 | _,_=>none
def Ad (st:St) (dst:Option Nat) (g:FuncId) (sz r p o:Nat) (rest:List D) (k:St->Option R):Option R:=
 if g=999999 then none else
 match st.cells r [p],sg.sig g,(c.own g).headD false&&!(c.own g).tail.any id with
 | some cs,some (s,ss),true=>
  match st.gH r [p] o (.hole sz (pr.bf cs o)) with
  | some aH=>match tU aH (c.own g).tail rest with
   | some KK=>
    br (pr.jC sz cs o) (br (pr.nl (pr.bn cs o))
    (cv g (.sl none sz (pr.bf cs o) (pr.bn cs o)::KK) (qg s fun res=>Ac ss fun outs=>.done (br (Cj pr res&&outs.all (Cj pr))
     (match outs with
      | .sl none sz' n' cs'::_=>if sz=sz'/\outs.length=rest.length+1 then (match (st.eT (ch r [p] o false)).gH r [p] o (.sl none sz' n' cs') with
       | some bY=>br (pr.neq (pr.bf cs o) n') (E0 cv bY r p fun bY=>KJ bY false dst res k) none
       | none=>none) else none
      | _=>none) none))) none) none
   | none=>none
  | none=>none
 | _,_,_=>none
def KL (st:St) (o:Oper) (k:St->Option R):St->Option R:=
 if sg.em ax then (match o.op with
  | .store _ a _=>(match bX c st o.type a with
   | .ptr r [p] _=>fun st'=>E0 cv st' r p k
   | _=>k)
  | _=>k) else k
def Qj (st:St) (o:Oper) (k:St->Option R):Option R:=
 match o.op with
 | .call cc=>match cc.callee with
  | .value f=>if cc.args.size≠cc.argTypes.size then none else match bX c st o.type f with
   | .fn g gG=>if c.inl g then none else match sg.em ax,((cc.args.toList.zip cc.argTypes.toList).map fun p=>bX c st p.2 p.1)++gG with
    | true,.ref r [p] o' none::rest=>Ad pr c sg cv st o.dst g (c.esz (cc.argTypes.toList.headD 0)) r p o' rest k
    | _,args=>E3 pr c sg cv st o.dst g args k
   | _=>none
  | _=>OK pr c (fun _ _=>none) wB ax st o k
 | _=>match (if sg.em ax then opE pr c st o else none) with
  | some (g,st')=>br g (KL c sg cv ax st o k st') none
  | none=>OK pr c (fun _ _=>none) wB ax st o (KL c sg cv ax st o k)
def E4 (st:St) (o:Oper) (k:St->Option R):Option R:=
 match vR c ax st o with
 | true=>Qj pr c sg cv ax st o k
 | false=>none
def od (all:Array Oper):List Oper->St->(St->Option R)->Option R
 | [],st,k=>k st
 | o::rest,st,k=>match o.guard with
  | none=>E4 pr c sg cv ax st o fun st'=>od all rest st' k
  | some (j,want)=>match (all[j]?).bind (·.dst) with
   | some t=>match st.get t with
    | .bool b=>match want with
     | true=>br b (E4 pr c sg cv ax (st.lit t true) o fun st'=>od all rest st' k) (od all rest ((st.lit t false).put o.dst (.aZ [])) k)
     | false=>br b (od all rest ((st.lit t true).put o.dst (.aZ [])) k) (E4 pr c sg cv ax (st.lit t false) o fun st'=>od all rest st' k)
    | .aZ []=>od all rest (st.put o.dst (.aZ [])) k
    | _=>none
   | none=>od all rest (st.put o.dst (.aZ [])) k
def jmp (i:Nat) (st:St):Option R:=match U0 c ax i st with
 | some h=>J i h
 | none=>none
def qh (f:St->Option R) (k:Exit->St->Option R):Exit->St->Option R
 | .normal,st=>f st
 | x,st=>k x st
def uL (id:Nat) (k:Exit->St->Option R):Exit->St->Option R
 | .exit tW,st=>if tW=id then k .normal st else k (.exit tW) st
 | x,st=>k x st
def dB:Code->Nat->St->(Exit->St->Option R)->Option R
 | .skip,_,st,k=>k .normal st
 | .region _ ops false,_,st,k=>od pr c sg cv ax ops ops.toList st (k .normal)
 | .region _ ops true,_,st,k=>match rz c ax ops ops.size (Array.replicate ops.size false) with
  | some l=>od pr c sg cv ax ops (opsOf ops l) st (k .normal)
  | none=>none
 | .seq a b,i,st,k=>dB a i st (qh (fun st'=>dB b i st' k) k)
 | .cond x a b,i,st,k=>KH c st x (fun st=>dB a i st k) (fun st=>dB b i st k)
 | .block id a,_,st,k=>dB a id st (uL id k)
 | .loop _,i,st,_=>jmp c J ax i st
 | .exit id,_,st,k=>k (.exit id) st
 | .ret,_,st,k=>k .ret st
 | _,_,_,_=>none
def dr:Code->Nat->(Exit->St->Option R)->Nat->Option (St->Option R)
 | .seq a b,i,k,j=>match dr a i (qh (fun st'=>dB pr c sg cv J ax b i st' k) k) j with
  | some t=>some t
  | none=>dr b i k j
 | .cond _ a b,i,k,j=>match dr a i k j with
  | some t=>some t
  | none=>dr b i k j
 | .block id a,_,k,j=>dr a id (uL id k) j
 | .loop a,i,k,j=>if i=j then some fun h=>dB pr c sg cv J ax a i h (qh (jmp c J ax i) k)
  else dr a i (qh (jmp c J ax i) k) j
 | _,_,_,_=>none
end
def ll:Code->Nat->List Nat
 | .seq a b,i=>ll a i++ll b i
 | .cond _ a b,i=>ll a i++ll b i
 | .block id a,_=>ll a id
 | .loop a,i=>i::ll a i
 | _,_=>[]
def qi:D->D
 | .aN _=>.aN []
 | .agg cs=>if cs.any iJ then .agg [.sl none 0 0 []] else .undef
 | .sl none _ _ _=>.sl none 0 0 []
 | .aZ vs=>.aZ vs
 | _=>.undef
abbrev Rz:=D × List D
section
variable (pr:dA) (c:cm) (sg:Sg) (cv:Cv Rz) (J:Nat->St->Option Rz) (ax:FuncId)
def Dd (fn:Func) (sk:List D) (x:Exit) (st:St):Option Rz:=QU (c.gone ax) (Db c fn sk x st)
def tt (fn:Func) (sk:List D) (j:Nat) (h:St):Option Rz:=
 match fn.body with
 | some body=>match dr pr c sg cv J ax body 0 (Dd c ax fn sk) j with
  | some t=>t h
  | none=>none
 | none=>none
def Ae (fn:Func) (args:List D):Option Rz:=
 match fn.body with
 | some body=>dB pr c sg cv J ax body 0 (nb fn.ntmps 0 args ⟨[],[],[],0⟩) (Dd c ax fn (args.map qi))
 | none=>none
end
noncomputable def Jn (c:cm) (P:Program) (sg:Sg) (f:FuncId) (fn:Func) (sk:List D):Nat->Nat->St->Option Rz
 | 0=>fun _ _=>none
 | n+1=>fun j h=>tt U c sg (eF c P sg) (Jn c P sg f fn sk n) f fn sk j h
def W (c:cm) (P:Program) (sg:Sg) (f:FuncId) (fn:Func) (sk:List D) (j:Nat) (h:St) (r:Rz):Prop:=∃ n,Jn c P sg f fn sk n j h=some r
theorem Qk (st:St) (r:Nat) (d:D):nP st r (qi d)=nP st r d:=by
 cases d with
 | aN cs=>rfl
 | agg cs=>
  by_cases h:cs.any iJ=true
  ·have e:qi (.agg cs)=.agg [.sl none 0 0 []]:=by simp only [qi,h,if_true]
   have h1:eN (.agg cs)=true:=h;have h2:eN (.agg [.sl none 0 0 []])=true:=rfl;rw [e];unfold nP;rw [h1,h2]
  ·have e:qi (.agg cs)=.undef:=by simp only [qi,if_neg h]
   have h1:eN (.agg cs)=false:=Bool.eq_false_iff.2 h;have h2:eN .undef=false:=rfl;rw [e];unfold nP;rw [h1,h2];rfl
 | sl g s n cs=>
  cases g with
  | none=>rfl
  | some g=>rfl
 | aZ vs=>rfl
 | _=>rfl
theorem De (n:Nat):∀ (i:Nat) (ds:List D) (st:St),oU n i (ds.map qi) st=oU n i ds st
 | _,[],_=>rfl
 | i,d::ds,st=>by
  simp only [aa0,oU,Qk];split
  ·rw [De n (i+1) ds st]
  ·split
   ·rename_i o st' h;rw [De n (i+1) ds st']
   ·rfl
theorem YI (c:cm) (fn:Func) (args:List D):Db c fn (args.map qi)=Db c fn args:=by
 funext x st;unfold Db;simp only [De,adN]
section
variable {R:Type} {P:Program} {c:cm} (ao:eu c P) {sg:Sg} {ax:FuncId}
include ao
theorem Df {st:St} {r p:Nat} {k:St->Option R}:E0 (eF c P sg) st r p k=k st:=by
 have _:=ao;unfold E0;split
 ·rename_i ys hys;unfold eF;simp only [if_true,feed,Nv hys]
 ·rfl
theorem YJ {st:St} {o:Oper} {k:St->Option R}:KL c sg (eF c P sg) ax st o k=k:=by
 unfold KL;split
 ·split
  ·split
   ·funext st';exact Df ao
   ·rfl
  ·rfl
 ·rfl
theorem OV {bY:St} {t:Bool} {dst:Option Nat} {r:D} {k:St->Option R} {x:R} (h:KJ bY t dst r k=some x):∃ st',(match dst with
  | some i=>some ((bY.pL (bY.of+i) (if t then gI true r else r)).1.put (some i) (bY.pL (bY.of+i) (if t then gI true r else r)).2)
  | none=>some bY)=some st'/\k st'=some x/\∀ (k':St->Option R),KJ bY t dst r k'=k' st':=by
 have _:=ao;cases dst with
 | none=>exact ⟨_,rfl,h,fun _=>rfl⟩
 | some i=>exact ⟨_,rfl,h,fun _=>rfl⟩
theorem U5 {st:St} {dst:Option Nat} {g:FuncId} {args:List D} {k:St->Option R} {r:R} (h:E3 U c sg (eF c P sg) st dst g args k=some r):∃ st',ke c (lj c P) st dst g args=some st'/\k st'=some r/\∀ (k':St->Option R) r',k' st'=some r'->E3 U c sg (eF c P sg) st dst g args k'=some r':=by
 unfold E3 at h;split at h
 ·simp at h
 rename_i hg;split at h
 case h_2=>simp at h
 rename_i ds aH s ss lA Mx;obtain ⟨hl,h⟩:=nV h;unfold eF at h;rw [if_neg hg,Mx] at h;split at h
 case h_2=>simp at h
 rename_i rr outs s' ss' hV ue;simp only [ka,vi] at ue;obtain ⟨rfl,rfl⟩:=ue;split at h
 case isFalse=>simp at h
 rename_i cH;have U6:=cH;simp only [D8] at cH;obtain ⟨cH,U7⟩:=cH;rw [sc _ _ cH.1,lU _ _ cH.2] at h;simp only [feed] at h;obtain ⟨h1,h2⟩:=nV h;have hU:(dC rr&&outs.all dC)=true:=by
  have e:Cj U=dC:=funext EW;cases lz:uJ s||uK ss with
  | true=>rw [lz] at U7; simpa using U7
  | false=>
   rw [lz] at h1;rw [<- e];exact h1
 split at h2
 case h_2=>simp at h2
 rename_i q bY hb;obtain ⟨hq,h2⟩:=nV h2;have ht:fr (c.own g) ds=oX (c.own g) ds:=by
  cases cU:oX (c.own g) ds with
  | true=>exact EZ cU
  | false=>rw [cU] at hl; exact Ck cU (by simpa using hl)
 obtain ⟨st',k1,k2,k3⟩:=OV ao h2;refine ⟨st',?_,k2,fun k' r' hk=>?_⟩
 ·unfold ke;rw [lA];simp only [ht,hV,hU,if_true,uH hb hq];cases dst with
  | none=>exact k1
  | some i=>exact k1
 ·unfold E3;rw [if_neg hg,lA,Mx];simp only;rw [hl];simp only [br];unfold eF;rw [if_neg hg,hV,Mx];simp only;rw [if_pos U6,sc _ _ cH.1,lU _ _ cH.2];simp only [feed,h1,br,hb,hq];rw [k3,hk]
theorem Af:∀ {b:List Bool} {ds:List D} {st:St},b.any id=false->mz st b ds=some (ds,st)
 | _,[],_,_=>rfl
 | b,d::ds,st,h=>by
  have _:=ao;have hb:b.headD false=false/\b.tail.any id=false:=by
   cases b with
   | nil=>simp
   | cons x xs=>simpa using h
  simp only [mz,hb.1,aal,if_false,Af hb.2]
theorem yN:∀ {b:List Bool} {ds os:List D} {st:St} {h:D->D},b.any id=false->ds.length=os.length->ik st h b ds os=some st
 | _,[],_,_,_,_,_=>rfl
 | b,d::ds,[],st,h,hn,hl=>by simp at hl
 | b,d::ds,o::os,st,h,hn,hl=>by
  have _:=ao;have hb:b.headD false=false/\b.tail.any id=false:=by
   cases b with
   | nil=>simp
   | cons x xs=>simpa using hn
  simp only [ik,hb.1,aal,if_false];exact yN hb.2 (by simpa using hl)
theorem Cl:∀ {b:List Bool} {ds:List D},b.any id=false->fr b ds=false
 | _,[],_=>rfl
 | b,d::ds,hn=>by
  have _:=ao;have hb:b.headD false=false/\b.tail.any id=false:=by
   cases b with
   | nil=>simp
   | cons x xs=>simpa using hn
  simp only [fr,hb.1,adL,Bool.false_or];exact Cl hb.2
theorem Ql {st aH:St} {r p o:Nat} {cs:List D} {d:D} (hc:st.cells r [p]=some cs) (h:st.gH r [p] o d=some aH):aH.cells r [p]=some (cs.set o d):=by
 have _:=ao;unfold St.cells at hc ⊢;unfold St.gH at h;split at h
 case h_2=>simp at h
 rename_i l hl;rw [hl] at hc;simp only at hc;split at h
 case h_2=>simp at h
 rename_i l' hm;simp only [ka] at h;subst h;simp only [gJ];simp only [jw] at hc;split at hc
 case h_2=>simp at hc
 rename_i s n xs hp;simp only [ka] at hc;subst hc;simp only [nO,hp,ka] at hm;subst hm;have cU:p < l.length:=(V6.1 hp).1;simp only [jw,agF,cU,if_true]
omit ao in
theorem OW {α:Type} (f:α->α):∀ (l:List (Nat × α)) (k:Nat),lk (fW f l) k=(lk l k).map f
 | [],_=>rfl
 | (j,w)::t,k=>by
  simp only [fW,lk];split
  ·rfl
  ·exact OW f t k
theorem Qm {st aH:St} {r p o:Nat} {h d:D} {b:Bool} (hs:st.gH r [p] o h=some aH):(aH.eT (ch r [p] o b)).gH r [p] o d=(st.eT (ch r [p] o b)).gH r [p] o d:=by
 have _:=ao;unfold St.gH at hs;split at hs
 case h_2=>simp at hs
 rename_i l hl;split at hs
 case h_2=>simp at hs
 rename_i l' hm;simp only [ka] at hs;subst hs;simp only [nO] at hm;split at hm
 case h_2=>simp at hm
 rename_i s n xs hp;simp only [ka] at hm;subst hm;have cU:p < l.length:=(V6.1 hp).1;have e1:(l.map (fa (ch r [p] o b)))[p]?=some (.sl none s n xs):=by
  rw [aa6,hp];rfl
 have e2:((l.set p (.sl none s n (xs.set o h))).map (fa (ch r [p] o b)))[p]?=some (.sl none s n (xs.set o h)):=by
  rw [aa6,agF];simp only [cU,if_true];rfl
 have e0:lk (fW (List.map (fa (ch r [p] o b))) st.rt) r=some (l.map (fa (ch r [p] o b))):=by
  rw [OW,hl];rfl
 have e3:((l.set p (.sl none s n (xs.set o h))).map (fa (ch r [p] o b))).set p (.sl none s n (xs.set o d))=(l.map (fa (ch r [p] o b))).set p (.sl none s n (xs.set o d)):=by
  rw [aej,List.set_set]
 unfold St.gH;simp only [St.eT,Gt,gJ,e0,nO,e1,e2,List.set_set,e3,CI]
theorem Sj {st:St} {dst:Option Nat} {g:FuncId} {sz a p o:Nat} {rest:List D} {k:St->Option R} {r:R} (h:Ad U c sg (eF c P sg) st dst g sz a p o rest k=some r):∃ st',ke c (lj c P) st dst g (.ref a [p] o none::rest)=some st'/\k st'=some r/\∀ (k':St->Option R) r',k' st'=some r'->Ad U c sg (eF c P sg) st dst g sz a p o rest k'=some r':=by
 unfold Ad at h;split at h
 ·simp at h
 rename_i hg;split at h
 case h_2=>simp at h
 rename_i cs s ss eo Mx jj;simp only [D8,abf] at jj;split at h
 case h_2=>simp at h
 rename_i aH ir;split at h
 case h_2=>simp at h
 rename_i KK hro;obtain ⟨mR,h⟩:=nV h;obtain ⟨WJ,h⟩:=nV h;simp only [Df ao] at h;unfold eF at h;rw [if_neg hg,Mx] at h;split at h
 case h_2=>simp at h
 rename_i rr outs s' ss' hV ue;simp only [ka,vi] at ue;obtain ⟨rfl,rfl⟩:=ue;split at h
 case isFalse=>simp at h
 rename_i cH;have U6:=cH;simp only [D8] at cH;obtain ⟨cH,U7⟩:=cH;rw [sc _ _ cH.1,lU _ _ cH.2] at h;simp only [feed] at h;obtain ⟨h1,h2⟩:=nV h;have hU:(dC rr&&outs.all dC)=true:=by
  have e:Cj U=dC:=funext EW;rw [<- e];exact h1
 split at h2
 case h_2=>simp at h2
 rename_i sz' n' cs' adn;split at h2
 case isFalse=>simp at h2
 rename_i afm;obtain ⟨rfl,Rh⟩:=afm;split at h2
 case h_2=>simp at h2
 rename_i bY WW;have Sk:=WW;rw [<- Qm ao ir] at Sk;obtain ⟨hq,h2⟩:=nV h2;have hn:U.bf cs o=n':=by simpa [U] using hq
 obtain ⟨st',k1,k2,k3⟩:=OV ao h2;have cB:st.cell a [p] o=some (.sl none sz (U.bf cs o) (U.bn cs o)):=by
  unfold St.cell;rw [eo];exact Gy mR
 have abi:aH.cell a [p] o=some (.hole sz (U.bf cs o)):=by
  have cU:o < cs.length:=(V6.1 (Gy mR)).1;unfold St.cell;rw [Ql ao eo ir];simp only [agF,cU,if_true]
 have lA:mo st (c.own g) (.ref a [p] o none::rest)=some (.sl none sz (U.bf cs o) (U.bn cs o)::KK,aH):=by
  unfold mo;simp only [mz,jj.1,if_true,BR,iK,cB,ir,trim,Af ao jj.2,tU,hro]
 have ado:fr (c.own g) (.sl none sz (U.bf cs o) (U.bn cs o)::KK)=false:=by
  simp only [fr,Cl ao jj.2,Bool.or_false,jj.1,aef,bU,db,aaf,aah,aeB,bQ];have:bV (U.bn cs o)=true:=WJ;rw [this];rfl
 have EI:ik aH id (c.own g) (.ref a [p] o none::rest) (.sl none sz n' cs'::adn)=some bY:=by
  simp only [ik,jj.1,if_true,A6,oT,id,abi];simp only [hn,and_self,if_true,Sk];exact yN ao jj.2 (by simpa using Rh.symm)
 refine ⟨st',?_,k2,fun k' r' hk=>?_⟩
 ·unfold ke;rw [lA];simp only [ado,aal,if_false,hV,hU,if_true,EI];cases dst with
  | none=>exact k1
  | some i=>exact k1
 ·unfold Ad;simp only [Df ao];rw [if_neg hg,eo,Mx];simp only [jj.1,jj.2,Bool.not_false,vg,ir,hro,mR,WJ,br];unfold eF;rw [if_neg hg,hV,Mx];simp only;rw [if_pos U6,sc _ _ cH.1,lU _ _ cH.2];simp only [feed,h1,br];rw [if_pos ⟨trivial,Rh⟩,WW];simp only [hq];rw [k3,hk]
theorem YK {st:St} {o:Oper} {k:St->Option R} {r:R} (h:Qj U c sg (eF c P sg) ax st o k=some r):∃ st',eU c (lj c P) wB ax st o=some st'/\k st'=some r/\∀ (k':St->Option R) r',k' st'=some r'->Qj U c sg (eF c P sg) ax st o k'=some r':=by
 have hK:∀ (k:St->Option R),OK U c (fun _ _=>none) wB ax st o k=some r->∃ st',eU c (lj c P) wB ax st o=some st'/\k st'=some r/\∀ (k':St->Option R) r',k' st'=some r'->OK U c (fun _ _=>none) wB ax st o k'=some r':=by
  intro k h;have hh:=h;unfold OK at h;split at h
  case h_2=>simp at h
  rename_i hc;obtain ⟨h1,h2⟩:=nV h;split at h2
  ·rename_i st' hu;refine ⟨st',aa8 ao (by simp) h1 hu,h2,fun k' r' hk=>?_⟩
   unfold OK;rw [hc];simp only;rw [h1,hu];exact hk
  ·simp at h2
 unfold Qj at h ⊢;simp only [YJ ao] at h ⊢;split at h
 ·rename_i cc ho;split at h
  ·rename_i f lT;split at h
   ·simp at h
   rename_i cO;split at h
   case h_2=>simp at h
   rename_i g gG hev;split at h
   ·simp at h
   rename_i lF;have ai:∀ {args:List D} {st':St},((cc.args.toList.zip cc.argTypes.toList).map fun p=>bX c st p.2 p.1)++gG=args->ke c (lj c P) st o.dst g args=some st'->eU c (lj c P) wB ax st o=some st':=by
    intro args st' ha hd;unfold eU;simp only [ho,lT];rw [if_neg cO];simp only [hev,if_neg lF,ha];exact hd
   split at h
   ·rename_i a p o' rest pB abk;obtain ⟨st',h1,h2,h3⟩:=Sj ao h;refine ⟨st',ai abk h1,h2,fun k' r' hk=>?_⟩;rw [if_neg cO];simp only [hev,if_neg lF,pB,abk];exact h3 k' r' hk
   ·rename_i cV;obtain ⟨st',h1,h2,h3⟩:=U5 ao h;refine ⟨st',ai rfl h1,h2,fun k' r' hk=>?_⟩;rw [if_neg cO];simp only [hev,if_neg lF];exact h3 k' r' hk
  ·rename_i lT;obtain ⟨st',h1,h2,h3⟩:=hK k h;refine ⟨st',h1,h2,fun k' r' hk=>?_⟩;exact h3 k' r' hk
 ·rename_i hnc;split at h
  ·rename_i g st' he;obtain ⟨hg,h2⟩:=nV h;split at he
   case isFalse=>simp at he
   refine ⟨st',abe he hg,h2,fun k' r' hk=>?_⟩;rw [hg];exact hk
  ·rename_i he;obtain ⟨st',h1,h2,h3⟩:=hK k h;refine ⟨st',h1,h2,fun k' r' hk=>?_⟩;exact h3 k' r' hk
theorem abl {st:St} {o:Oper} {k:St->Option R} {r:R} (h:E4 U c sg (eF c P sg) ax st o k=some r):∃ st',(if vR c ax st o then eU c (lj c P) wB ax st o else none)=some st'/\k st'=some r/\∀ (k':St->Option R) r',k' st'=some r'->E4 U c sg (eF c P sg) ax st o k'=some r':=by
 unfold E4 at h;split at h
 case h_2=>simp at h
 rename_i hc;obtain ⟨st',h1,h2,h3⟩:=YK ao h;refine ⟨st',by rw [if_pos hc]; exact h1,h2,fun k' r' hk=>?_⟩
 unfold E4;rw [hc];exact h3 k' r' hk
end
section
variable {R:Type} {P:Program} {c:cm} (ao:eu c P) {sg:Sg} {ax:FuncId}
include ao
theorem mA {all:Array Oper} {k:St->Option R} {r:R}:∀ {os:List Oper} {st:St},od U c sg (eF c P sg) ax all os st k=some r->∃ st',tV c (lj c P) wB ax all os st=some st'/\k st'=some r/\∀ (k':St->Option R) r',k' st'=some r'->od U c sg (eF c P sg) ax all os st k'=some r'
 | [],st,h=>⟨st,rfl,h,fun _ _ hk=>hk⟩
 | o::os,st,h=>by
  have run:∀ st,E4 U c sg (eF c P sg) ax st o (fun st'=>od U c sg (eF c P sg) ax all os st' k)=some r->∃ st',(if vR c ax st o then (match eU c (lj c P) wB ax st o with | some st'=>tV c (lj c P) wB ax all os st' | none=>none) else none)=some st'/\k st'=some r/\∀ (k':St->Option R) r',k' st'=some r'->E4 U c sg (eF c P sg) ax st o (fun st'=>od U c sg (eF c P sg) ax all os st' k')=some r':=by
   intro st h;obtain ⟨aH,h1,h2,h3⟩:=abl ao h;obtain ⟨bY,k1,k2,k3⟩:=mA h2;refine ⟨bY,?_,k2,fun k' r' hk=>h3 _ _ (k3 k' r' hk)⟩;split at h1
   case isFalse=>simp at h1
   rename_i hc;rw [if_pos hc,h1];exact k1
  simp only [od] at h ⊢;simp only [tV,xE];split at h
  ·rename_i hg;rw [hg];exact run st h
  ·rename_i j want hg;rw [hg];simp only;split at h
   ·rename_i t ht;rw [ht];simp only;split at h
    ·rename_i b hb;rw [hb];simp only;cases want with
     | true=>
      simp only at h;rcases nr h with ⟨rfl,h1⟩ | ⟨rfl,h1⟩
      ·rw [oH hb] at h1;obtain ⟨aH,k1,k2,k3⟩:=run st h1;refine ⟨aH,by simp only [beq_self_eq_true]; exact k1,k2,fun k' r' hk=>?_⟩
       simp only [br];rw [oH hb];exact k3 k' r' hk
      ·rw [oH hb] at h1;obtain ⟨aH,k1,k2,k3⟩:=mA h1;refine ⟨aH,by simpa using k1,k2,fun k' r' hk=>?_⟩
       simp only [br];rw [oH hb];exact k3 k' r' hk
     | false=>
      simp only at h;rcases nr h with ⟨rfl,h1⟩ | ⟨rfl,h1⟩
      ·rw [oH hb] at h1;obtain ⟨aH,k1,k2,k3⟩:=mA h1;refine ⟨aH,by simpa using k1,k2,fun k' r' hk=>?_⟩
       simp only [br];rw [oH hb];exact k3 k' r' hk
      ·rw [oH hb] at h1;obtain ⟨aH,k1,k2,k3⟩:=run st h1;refine ⟨aH,by simp only [beq_self_eq_true]; exact k1,k2,fun k' r' hk=>?_⟩
       simp only [br];rw [oH hb];exact k3 k' r' hk
    ·rename_i hb;rw [hb];exact mA h
    ·simp at h
   ·rename_i ht;rw [ht];exact mA h
theorem IJ {all:Array Oper} {os:List Oper} {st:St} {k k':St->Option R} {r:R} (hk:∀ st r,k st=some r->k' st=some r) (h:od U c sg (eF c P sg) ax all os st k=some r):od U c sg (eF c P sg) ax all os st k'=some r:=by
 obtain ⟨st',_,h2,h3⟩:=mA ao h;exact h3 k' r (hk _ _ h2)
theorem Dg {J J':Nat->St->Option R} (hJ:∀ j h r,J j h=some r->J' j h=some r) {i:Nat} {st:St} {r:R} (h:jmp c J ax i st=some r):jmp c J' ax i st=some r:=by
 have _:=ao;unfold jmp at h ⊢;split at h
 ·exact hJ _ _ _ h
 ·simp at h
omit ao in
theorem sd {f f':St->Option R} {k k':Exit->St->Option R} (hf:∀ st r,f st=some r->f' st=some r) (hk:∀ x st r,k x st=some r->k' x st=some r):∀ x st r,qh f k x st=some r->qh f' k' x st=some r:=by
 intro x st r h;cases x with
 | normal=>exact hf _ _ h
 | _=>exact hk _ _ _ h
omit ao in
theorem Ag {id:Nat} {k k':Exit->St->Option R} (hk:∀ x st r,k x st=some r->k' x st=some r):∀ x st r,uL id k x st=some r->uL id k' x st=some r:=by
 intro x st r h;cases x with
 | exit tW=>
  simp only [uL] at h ⊢;split at h
  ·rename_i e; rw [if_pos e]; exact hk _ _ _ h
  ·rename_i e; rw [if_neg e]; exact hk _ _ _ h
 | _=>exact hk _ _ _ h
theorem yc {J J':Nat->St->Option R} (hJ:∀ j h r,J j h=some r->J' j h=some r):∀ {code:Code} {i:Nat} {st:St} {k k':Exit->St->Option R} {r:R},(∀ x st r,k x st=some r->k' x st=some r)->dB U c sg (eF c P sg) J ax code i st k=some r->dB U c sg (eF c P sg) J' ax code i st k'=some r:=by
 intro code
 induction code with
 | skip=>intro i st k k' r hk h; exact hk _ _ _ h
 | exit id=>intro i st k k' r hk h; exact hk _ _ _ h
 | ret=>intro i st k k' r hk h; exact hk _ _ _ h
 | region id ops draw=>
  intro i st k k' r hk h;cases draw with
  | false=>
   simp only [dB] at h ⊢;exact IJ ao (hk _) h
  | true=>
   simp only [dB] at h ⊢;split at h
   ·exact IJ ao (hk _) h
   ·simp at h
 | seq a b eL kp=>
  intro i st k k' r hk h;simp only [dB] at h ⊢;exact eL (sd (fun st r hx=>kp hk hx) hk) h
 | cond v a b eL kp=>
  intro i st k k' r hk h;simp only [dB,KH] at h ⊢;split at h
  ·split at h
   ·rcases nr h with ⟨rfl,h1⟩ | ⟨rfl,h1⟩
    ·exact eL hk h1
    ·exact kp hk h1
   ·simp at h
  ·split at h
   ·rcases nr h with ⟨rfl,h1⟩ | ⟨rfl,h1⟩
    ·exact eL hk h1
    ·exact kp hk h1
   ·simp at h
 | block id a eL=>
  intro i st k k' r hk h;simp only [dB] at h ⊢;exact eL (Ag hk) h
 | loop a eL=>intro i st k k' r hk h; exact Dg ao hJ h
 | _=>intro i st k k' r hk h; simp [dB] at h
end
section
variable {R:Type} {pr:dA} {c:cm} {sg:Sg} {cv:Cv R} {J:Nat->St->Option R} {ax:FuncId}
theorem se:∀ {code:Code} {i:Nat} {k:Exit->St->Option R} {j:Nat} {t:St->Option R},dr pr c sg cv J ax code i k j=some t->j∈ll code i:=by
 intro code
 induction code with
 | seq a b eL kp=>
  intro i k j t h;simp only [dr] at h;rw [ll,vh];split at h
  ·rename_i t' ht;exact .inl (eL ht)
  ·exact .inr (kp h)
 | cond v a b eL kp=>
  intro i k j t h;simp only [dr] at h;rw [ll,vh];split at h
  ·rename_i t' ht;exact .inl (eL ht)
  ·exact .inr (kp h)
 | block id a eL=>intro i k j t h; simp only [dr] at h; rw [ll]; exact eL h
 | loop a eL=>
  intro i k j t h;simp only [dr] at h;rw [ll,aaZ];split at h
  ·rename_i hij; exact .inl hij.symm
  ·exact .inr (eL h)
 | _=>intro i k j t h; simp [dr] at h
end
section
variable {R:Type} {pr:dA} {c:cm} {sg:Sg} {cv:Cv R} {J J':Nat->St->Option R} {ax:FuncId}
theorem tu:∀ {code:Code} {i:Nat} {k k':Exit->St->Option R} {j:Nat},dr pr c sg cv J ax code i k j=none->dr pr c sg cv J' ax code i k' j=none:=by
 intro code
 induction code with
 | seq a b eL kp=>
  intro i k k' j h;simp only [dr] at h ⊢;split at h
  ·simp at h
  ·rename_i h1;rw [eL h1];exact kp h
 | cond v a b eL kp=>
  intro i k k' j h;simp only [dr] at h ⊢;split at h
  ·simp at h
  ·rename_i h1;rw [eL h1];exact kp h
 | block id a eL=>intro i k k' j h; simp only [dr] at h ⊢; exact eL h
 | loop a eL=>
  intro i k k' j h;simp only [dr] at h ⊢;split at h
  ·simp at h
  ·rename_i e;rw [if_neg e];exact eL h
 | _=>intro i k k' j h; rfl
end
section
variable {P:Program} {c:cm} (ao:eu c P) {sg:Sg} {f:FuncId} {fn:Func} {sk:List D} {body:Code} (rE:fn.body=some body)
include ao
theorem Qn {J J':Nat->St->Option Rz} (hJ:∀ j h r,J j h=some r->J' j h=some r):∀ {code:Code} {i:Nat} {k k':Exit->St->Option Rz} {j:Nat} {t:St->Option Rz},(∀ x st r,k x st=some r->k' x st=some r)->dr U c sg (eF c P sg) J f code i k j=some t->∃ t',dr U c sg (eF c P sg) J' f code i k' j=some t'/\∀ h r,t h=some r->t' h=some r:=by
 intro code
 induction code with
 | seq a b eL kp=>
  intro i k k' j t hk h;simp only [dr] at h ⊢;have My:=sd (f:=fun st'=>dB U c sg (eF c P sg) J f b i st' k) (f':=fun st'=>dB U c sg (eF c P sg) J' f b i st' k') (fun st r hx=>yc ao hJ hk hx) hk;split at h
  ·rename_i t1 h1;obtain ⟨t',h2,h3⟩:=eL My h1;rw [h2];simp only [ka] at h;subst h;exact ⟨t',rfl,h3⟩
  ·rename_i h1;rw [tu h1];exact kp hk h
 | cond v a b eL kp=>
  intro i k k' j t hk h;simp only [dr] at h ⊢;split at h
  ·rename_i t1 h1;obtain ⟨t',h2,h3⟩:=eL hk h1;rw [h2];simp only [ka] at h;subst h;exact ⟨t',rfl,h3⟩
  ·rename_i h1;rw [tu h1];exact kp hk h
 | block id a eL=>
  intro i k k' j t hk h;simp only [dr] at h ⊢;exact eL (Ag hk) h
 | loop a eL=>
  intro i k k' j t hk h;simp only [dr] at h ⊢;have My:=sd (f:=jmp c J f i) (f':=jmp c J' f i) (fun st r hx=>Dg ao hJ hx) hk;split at h
  ·rename_i e;simp only [ka] at h;subst h;rw [if_pos e];exact ⟨_,rfl,fun hh r hr=>yc ao hJ My hr⟩
  ·rename_i e;rw [if_neg e];exact eL My h
 | _=>intro i k k' j t hk h; simp [dr] at h
theorem Bu:∀ {n m:Nat},n<=m->∀ j h r,Jn c P sg f fn sk n j h=some r->Jn c P sg f fn sk m j h=some r
 | 0,_,_,j,h,r,hh=>by simp [Jn] at hh
 | n+1,0,hle,_,_,_,_=>absurd hle (by omega)
 | n+1,m+1,hle,j,h,r,hh=>by
  have ih:∀ j h r,Jn c P sg f fn sk n j h=some r->Jn c P sg f fn sk m j h=some r:=Bu (by omega)
  simp only [Jn,tt] at hh ⊢;split at hh
  case h_2=>simp at hh
  rename_i body hb;split at hh
  case h_2=>simp at hh
  rename_i t ht;obtain ⟨t',h1,h2⟩:=Qn ao ih (fun _ _ _ h=>h) ht;rw [h1];exact h2 _ _ hh
include rE
theorem U8:∀ {code:Code} {n i:Nat} {st:St} {k:(Nat->St->Option Rz)->Exit->St->Option Rz} {r:Rz},
  (∀ J J':Nat->St->Option Rz,(∀ j h r,J j h=some r->J' j h=some r)->∀ x st r,k J x st=some r->k J' x st=some r)->
  (ll code i).Nodup->
  (∀ m j t,dr U c sg (eF c P sg) (Jn c P sg f fn sk m) f code i (k (Jn c P sg f fn sk m)) j=some t->dr U c sg (eF c P sg) (Jn c P sg f fn sk m) f body 0 (Dd c f fn sk) j=some t)->
  dB U c sg (eF c P sg) (Jn c P sg f fn sk n) f code i st (k (Jn c P sg f fn sk n))=some r->∃ x st',Qd c P f code i st (x,st')/\k (Jn c P sg f fn sk n) x st'=some r:=by
 intro code;have tr:∀ {ops:Array Oper} {l:List Nat} {st st':St},il c (lj c P) wB f ops l st=some st'->Ev fun k=>il c (nc c P k).1 (nc c P k).2 f ops l st=some st':=
  fun h=>Bo (fun f ds r hh=>U4 hh) (fun f ds n st r hh=>by simp [wB] at hh) h
 induction code with
 | skip=>intro n i st k r _ _ _ h; exact ⟨_,_,Ev.of fun _=>rfl,h⟩
 | exit id=>intro n i st k r _ _ _ h; exact ⟨_,_,Ev.of fun _=>rfl,h⟩
 | ret=>intro n i st k r _ _ _ h; exact ⟨_,_,Ev.of fun _=>rfl,h⟩
 | region id ops draw=>
  intro n i st k r _ _ _ h;cases draw with
  | false=>
   simp only [dB] at h;obtain ⟨st',h1,h2,_⟩:=mA ao h;rw [xY] at h1;refine ⟨.normal,st',(tr h1).mono fun n hn=>?_,h2⟩;simp only [eQ,xY,hn]
  | true=>
   simp only [dB] at h;split at h
   case h_2=>simp at h
   rename_i l hl;obtain ⟨st',h1,h2,_⟩:=mA ao h;rw [Bn] at h1;refine ⟨.normal,st',(tr h1).mono fun n hn=>?_,h2⟩;simp only [eQ,hl,hn]
 | seq a b eL kp=>
  intro n i st k r hk hn hc h;simp only [dB] at h;rw [ll,zh] at hn;obtain ⟨x,aH,h1,h2⟩:=eL (k:=fun J=>qh (fun st'=>dB U c sg (eF c P sg) J f b i st' (k J)) (k J)) (fun J J' hJ=>sd (fun st r hx=>yc ao hJ (hk J J' hJ) hx) (hk J J' hJ)) hn.1 (fun m j t ht=>hc m j t (by simp only [dr]; rw [ht])) h
  cases x with
  | normal=>
   simp only [qh] at h2;obtain ⟨y,bY,h3,h4⟩:=kp hk hn.2.1 (fun m j t ht=>hc m j t (by
    simp only [dr];split
    ·rename_i t' oA;exact absurd rfl (hn.2.2 j (se oA) j (se ht))
    ·exact ht)) h2
   exact ⟨y,bY,(Ev.and h1 h3).mono fun n hn=>by simp only [eQ]; rw [hn.1]; exact hn.2,h4⟩
  | _=>exact ⟨_,aH,Ev.mono h1 fun n hn=>by simp only [eQ]; rw [hn],h2⟩
 | cond v a b eL kp=>
  intro n i st k r hk hn hc h;simp only [dB,KH] at h;rw [ll,zh] at hn;have fin:∀ {t:Bool},bX c st 0 v=.bool t->(t=true->dB U c sg (eF c P sg) (Jn c P sg f fn sk n) f a i st (k (Jn c P sg f fn sk n))=some r)->(t=false->dB U c sg (eF c P sg) (Jn c P sg f fn sk n) f b i st (k (Jn c P sg f fn sk n))=some r)->∃ x st',Qd c P f (.cond v a b) i st (x,st')/\k (Jn c P sg f fn sk n) x st'=some r:=by
   intro t ht h1 h2;cases t with
   | true=>
    obtain ⟨x,st',h3,h4⟩:=eL hk hn.1 (fun m j t ht=>hc m j t (by simp only [dr]; rw [ht])) (h1 rfl)
    exact ⟨x,st',Ev.mono h3 fun n hn=>by simp only [eQ,ht,if_true]; exact hn,h4⟩
   | false=>
    obtain ⟨x,st',h3,h4⟩:=kp hk hn.2.1 (fun m j t ht=>hc m j t (by
     simp only [dr];split
     ·rename_i t' oA;exact absurd rfl (hn.2.2 j (se oA) j (se ht))
     ·exact ht)) (h2 rfl)
    exact ⟨x,st',Ev.mono h3 fun n hn=>by simp only [eQ,ht,aal,if_false]; exact hn,h4⟩
  split at h
  ·rename_i t;split at h
   ·rename_i b' hb;refine fin (t:=b') hb (fun e=>?_) (fun e=>?_)
    ·subst e;rcases nr h with ⟨_,h1⟩ | ⟨e2,_⟩
     ·rw [oH hb] at h1; exact h1
     ·simp at e2
    ·subst e;rcases nr h with ⟨e2,_⟩ | ⟨_,h1⟩
     ·simp at e2
     ·rw [oH hb] at h1; exact h1
   ·simp at h
  ·split at h
   ·rename_i hv;refine fin hv (fun e=>?_) (fun e=>?_)
    ·subst e; exact h
    ·subst e; exact h
   ·simp at h
 | block id a eL=>
  intro n i st k r hk hn hc h;simp only [dB] at h;obtain ⟨x,aH,h1,h2⟩:=eL (k:=fun J=>uL id (k J)) (fun J J' hJ=>Ag (hk J J' hJ)) hn (fun m j t ht=>hc m j t (by simp only [dr]; exact ht)) h
  cases x with
  | exit tW=>
   simp only [uL] at h2;by_cases he:tW=id
   ·rw [if_pos he] at h2;exact ⟨.normal,aH,Ev.mono h1 fun n hn=>by simp only [eQ]; rw [hn]; simp [he],h2⟩
   ·rw [if_neg he] at h2;exact ⟨.exit tW,aH,Ev.mono h1 fun n hn=>by simp only [eQ]; rw [hn]; simp [he],h2⟩
  | _=>exact ⟨_,aH,Ev.mono h1 fun n hn=>by simp only [eQ]; rw [hn],h2⟩
 | loop a eL=>
  intro n i st k r hk hn hc h;rw [ll,acn] at hn;have key:∀ (n:Nat) (st:St),jmp c (Jn c P sg f fn sk n) f i st=some r->∃ x st',Qe c P f a i st (x,st')/\k (Jn c P sg f fn sk n) x st'=some r:=by
   intro n
   induction n with
   | zero=>
    intro st h;unfold jmp at h;split at h
    ·simp [Jn] at h
    ·simp at h
   | succ m ih=>
    intro st h;unfold jmp at h;split at h
    case h_2=>simp at h
    rename_i hd EC;simp only [Jn,tt] at h;rw [rE] at h;simp only at h;have ht:=hc m i _ (by simp only [dr,if_true]; rfl)
    rw [ht] at h;simp only at h;obtain ⟨x,aH,h1,h2⟩:=eL (k:=fun J=>qh (jmp c J f i) (k J)) (fun J J' hJ=>sd (fun st r hx=>Dg ao hJ hx) (hk J J' hJ)) hn.2 (fun m j t ht=>hc m j t (by
       simp only [dr];have cV:i≠j:=fun e=>hn.1 (by rw [e]; rw [e] at ht; exact se ht)
       rw [if_neg cV];exact ht)) h
    cases x with
    | normal=>
     obtain ⟨y,bY,⟨q,h3⟩,h4⟩:=ih aH h2;refine ⟨y,bY,⟨q+1,(Ev.and h1 h3).mono fun k hk m hm=>?_⟩,hk _ _ (Bu ao (Nat.le_succ m)) _ _ _ h4⟩;obtain ⟨m,rfl⟩:∃ m',m=m'+1:=⟨m - 1,by omega⟩
     simp only [th,EC,hk.1];exact hk.2 m (by omega)
    | _=>
     refine ⟨_,aH,⟨1,Ev.mono h1 fun k hk m hm=>?_⟩,hk _ _ (Bu ao (Nat.le_succ m)) _ _ _ h2⟩;obtain ⟨m,rfl⟩:∃ m',m=m'+1:=⟨m - 1,by omega⟩
     simp only [th,EC,hk]
  simp only [dB] at h;obtain ⟨x,st',h1,h2⟩:=key n st h;exact ⟨x,st',h1.code,h2⟩
 | _=>intro n i st k r _ _ _ h; simp [dB] at h
end
structure Told (c:cm) (P:Program) (f:FuncId) (fn:Func):Prop where
 ext:c.ext f=none
 func:P.funcs[f]?=some fn
 ids:(match fn.body with | some b=>decide (ll b 0).Nodup | none=>false)=true
section
variable {P:Program} {c:cm} (ao:eu c P) {sg:Sg} {f:FuncId} {fn:Func} {sk:List D}
include ao
theorem W.go {j j':Nat} {h h':St} {r:Rz} (hw:W c P sg f fn sk j' h' r) (ht:∀ J:Nat->St->Option Rz,J j' h'=some r->tt U c sg (eF c P sg) J f fn sk j h=some r):W c P sg f fn sk j h r:=by
 have _:=ao;obtain ⟨n,hn⟩:=hw;exact ⟨n+1,ht _ hn⟩
theorem W.fin {j:Nat} {h:St} {r:Rz} (ht:∀ J:Nat->St->Option Rz,tt U c sg (eF c P sg) J f fn sk j h=some r):W c P sg f fn sk j h r:=by
 have _:=ao;exact ⟨1,ht _⟩
theorem Ah (ok:Told c P f fn) {args:List D} {r:Rz} {n:Nat} (h:Ae U c sg (eF c P sg) (Jn c P sg f fn (args.map qi) n) f fn args=some r):Comes c P f args r:=by
 unfold Ae at h;split at h
 case h_2=>simp at h
 rename_i body hb;have abm:=ok.ids;rw [hb] at abm;obtain ⟨x,st,h1,h2⟩:=U8 ao hb (k:=fun _=>Dd c f fn (args.map qi)) (fun J J' _ x st r h=>h) (of_decide_eq_true abm) (fun m j t ht=>ht) h;obtain ⟨k0,h1⟩:=h1;refine ⟨k0+1,fun k hk=>?_⟩;obtain ⟨k,rfl⟩:∃ m,k=m+1:=⟨k - 1,by omega⟩
 unfold Dd at h2;obtain ⟨r',h2,h5⟩:∃ r',Db c fn (args.map qi) x st=some r'/\QU (c.gone f) (some r')=some r:=by
  cases hf:Db c fn (args.map qi) x st with
  | none=>rw [hf] at h2; simp [QU] at h2
  | some r'=>rw [hf] at h2; exact ⟨r',rfl,h2⟩
 show xG c P (nc c P k).1 (nc c P k).2 k f args=some r;unfold xG;rw [ok.ext];simp only;rw [<- h5]
 congr 1
 unfold Kz;rw [ok.ext,ok.func];simp only;rw [hb];simp only;rw [h1 k (by omega)]
 simp only;rw [YI] at h2;unfold Db at h2;obtain ⟨h3,h4⟩:=Sd h2;rw [if_pos h3];exact h4
theorem Comes.go (ok:Told c P f fn) {args:List D} {j:Nat} {h:St} {r:Rz} (hw:W c P sg f fn (args.map qi) j h r) (ht:∀ J:Nat->St->Option Rz,J j h=some r->Ae U c sg (eF c P sg) J f fn args=some r):Comes c P f args r:=by
 obtain ⟨n,hn⟩:=hw;exact Ah ao ok (ht _ hn)
theorem Comes.fin (ok:Told c P f fn) {args:List D} {r:Rz} (ht:∀ J:Nat->St->Option Rz,Ae U c sg (eF c P sg) J f fn args=some r):Comes c P f args r:=
 Ah ao ok (sg:=sg) (n:=0) (ht _)
end
section
variable {P:Program} {c:cm} (ao:eu c P) {sg:Sg} {f:FuncId} {r:Rz} {J:Nat->St->Option Rz} {J':Nat->Nat->St->Option Rz} (hJ:∀ j h,J j h=some r->Ev fun m=>J' m j h=some r)
include ao hJ
theorem yd:∀ {code:Code} {i:Nat} {st:St} {k:Exit->St->Option Rz} {k':Nat->Exit->St->Option Rz},(∀ x st,k x st=some r->Ev fun m=>k' m x st=some r)->dB U c sg (eF c P sg) J f code i st k=some r->Ev fun m=>dB U c sg (eF c P sg) (J' m) f code i st (k' m)=some r:=by
 intro code
 induction code with
 | skip=>intro i st k k' hk h; exact hk _ _ h
 | exit id=>intro i st k k' hk h; exact hk _ _ h
 | ret=>intro i st k k' hk h; exact hk _ _ h
 | region id ops draw=>
  intro i st k k' hk h;cases draw with
  | false=>
   simp only [dB] at h ⊢;obtain ⟨st',_,h2,h3⟩:=mA ao h;exact (hk _ _ h2).mono fun m hm=>h3 _ _ hm
  | true=>
   simp only [dB] at h ⊢;split at h
   ·obtain ⟨st',_,h2,h3⟩:=mA ao h;exact (hk _ _ h2).mono fun m hm=>h3 _ _ hm
   ·simp at h
 | seq a b eL kp=>
  intro i st k k' hk h;simp only [dB] at h ⊢;refine eL (k':=fun m=>qh (fun st'=>dB U c sg (eF c P sg) (J' m) f b i st' (k' m)) (k' m)) (fun x st hx=>?_) h;cases x with
  | normal=>exact kp hk hx
  | _=>exact hk _ _ hx
 | cond v a b eL kp=>
  intro i st k k' hk h;simp only [dB,KH] at h ⊢;split at h
  ·split at h
   ·rename_i hv;rcases nr h with ⟨rfl,h1⟩ | ⟨rfl,h1⟩
    ·exact eL hk h1
    ·exact kp hk h1
   ·simp at h
  ·split at h
   ·rcases nr h with ⟨rfl,h1⟩ | ⟨rfl,h1⟩
    ·exact eL hk h1
    ·exact kp hk h1
   ·simp at h
 | block id a eL=>
  intro i st k k' hk h;simp only [dB] at h ⊢;refine eL (k':=fun m=>uL id (k' m)) (fun x st hx=>?_) h;cases x with
  | exit tW=>
   simp only [uL] at hx ⊢;split at hx
   ·rename_i e; simp only [e,if_true]; exact hk _ _ hx
   ·rename_i e; simp only [if_neg e]; exact hk _ _ hx
  | _=>exact hk _ _ hx
 | loop a eL=>
  intro i st k k' hk h;simp only [dB,jmp] at h ⊢;split at h
  ·exact hJ _ _ h
  ·simp at h
 | _=>intro i st k k' hk h; simp [dB] at h
theorem Qo:∀ {code:Code} {i:Nat} {k:Exit->St->Option Rz} {k':Nat->Exit->St->Option Rz} {j:Nat} {t:St->Option Rz} {h:St},(∀ x st,k x st=some r->Ev fun m=>k' m x st=some r)->dr U c sg (eF c P sg) J f code i k j=some t->t h=some r->Ev fun m=>∃ t',dr U c sg (eF c P sg) (J' m) f code i (k' m) j=some t'/\t' h=some r:=by
 intro code
 induction code with
 | seq a b eL kp=>
  intro i k k' j t h hk ht hr;simp only [dr] at ht ⊢;split at ht
  ·rename_i t1 h1;simp only [ka] at ht;subst ht;refine (eL (k':=fun m=>qh (fun st'=>dB U c sg (eF c P sg) (J' m) f b i st' (k' m)) (k' m)) (fun x st hx=>?_) h1 hr).mono fun m hm=>?_
   ·cases x with
    | normal=>exact yd ao hJ hk hx
    | _=>exact hk _ _ hx
   ·obtain ⟨t',h2,h3⟩:=hm;exact ⟨t',by rw [h2],h3⟩
  ·rename_i h1;refine (kp hk ht hr).mono fun m hm=>?_;rw [tu h1];exact hm
 | cond v a b eL kp=>
  intro i k k' j t h hk ht hr;simp only [dr] at ht ⊢;split at ht
  ·rename_i t1 h1;simp only [ka] at ht;subst ht;refine (eL hk h1 hr).mono fun m hm=>?_;obtain ⟨t',h2,h3⟩:=hm;exact ⟨t',by rw [h2],h3⟩
  ·rename_i h1;refine (kp hk ht hr).mono fun m hm=>?_;rw [tu h1];exact hm
 | block id a eL=>
  intro i k k' j t h hk ht hr;simp only [dr] at ht ⊢;refine eL (k':=fun m=>uL id (k' m)) (fun x st hx=>?_) ht hr;cases x with
  | exit tW=>
   simp only [uL] at hx ⊢;split at hx
   ·rename_i e; simp only [e,if_true]; exact hk _ _ hx
   ·rename_i e; simp only [if_neg e]; exact hk _ _ hx
  | _=>exact hk _ _ hx
 | loop a eL=>
  intro i k k' j t h hk ht hr;simp only [dr] at ht ⊢;have My:∀ x st,qh (jmp c J f i) k x st=some r->Ev fun m=>qh (jmp c (J' m) f i) (k' m) x st=some r:=by
   intro x st hx;cases x with
   | normal=>
    simp only [qh,jmp] at hx ⊢;split at hx
    ·exact hJ _ _ hx
    ·simp at hx
   | _=>exact hk _ _ hx
  split at ht
  ·rename_i e;simp only [ka] at ht;subst ht;refine (yd ao hJ My hr).mono fun m hm=>?_;rw [if_pos e];exact ⟨_,rfl,hm⟩
  ·rename_i e;simp only [if_neg e];exact eL My ht hr
 | _=>intro i k k' j t h hk ht hr; simp [dr] at ht
end
section
variable {P:Program} {c:cm} (ao:eu c P) {sg:Sg} {f:FuncId} {fn:Func} {sk:List D} {r:Rz}
include ao
theorem W.ev {j:Nat} {h:St} (hw:W c P sg f fn sk j h r):Ev fun m=>Jn c P sg f fn sk m j h=some r:=by
 obtain ⟨n,hn⟩:=hw;exact ⟨n,fun m hm=>Bu ao hm _ _ _ hn⟩
theorem W.step {j:Nat} {h:St} (ht:∀ J:Nat->St->Option Rz,(∀ j' h',W c P sg f fn sk j' h' r->J j' h'=some r)->tt U c sg (eF c P sg) J f fn sk j h=some r):W c P sg f fn sk j h r:=by
 classical
 have h1:=ht (fun j' h'=>if W c P sg f fn sk j' h' r then some r else none) (fun j' h' hw=>if_pos hw)
 unfold tt at h1;split at h1
 case h_2=>simp at h1
 rename_i body hb;split at h1
 case h_2=>simp at h1
 rename_i t ht;obtain ⟨n,hn⟩:=Qo ao (J':=Jn c P sg f fn sk) (k':=fun _=>Dd c f fn sk) (fun j' h' hh=>by
  split at hh
  ·rename_i hw; exact hw.ev ao
  ·simp at hh) (fun x st hx=>⟨0,fun _ _=>hx⟩) ht h1
 obtain ⟨t',h2,h3⟩:=hn n (aaM _);refine ⟨n+1,?_⟩;simp only [Jn,tt];rw [hb];simp only;rw [h2];exact h3
theorem Comes.step (ok:Told c P f fn) {args:List D} (ht:∀ J:Nat->St->Option Rz,(∀ j' h',W c P sg f fn (args.map qi) j' h' r->J j' h'=some r)->Ae U c sg (eF c P sg) J f fn args=some r):Comes c P f args r:=by
 classical
 have h1:=ht (fun j' h'=>if W c P sg f fn (args.map qi) j' h' r then some r else none) (fun j' h' hw=>if_pos hw)
 unfold Ae at h1;split at h1
 case h_2=>simp at h1
 rename_i body hb;obtain ⟨n,hn⟩:=yd ao (J':=Jn c P sg f fn (args.map qi)) (k':=fun _=>Dd c f fn (args.map qi)) (fun j' h' hh=>by
  split at hh
  ·rename_i hw; exact hw.ev ao
  ·simp at hh) (fun x st hx=>⟨0,fun _ _=>hx⟩) h1
 refine Ah ao ok (sg:=sg) (n:=n) ?_;unfold Ae;rw [hb];exact hn n (aaM _)
end
open Go.Shelf
def WX:List (Nat × TI):=[
 (2,⟨.int .i64,1,8,[.int .i64 0]⟩),
 (3,⟨.int .i64,1,8,[.int .i64 0]⟩),
 (4,⟨.bool,1,1,[.bool false]⟩),
 (5,⟨.int .u8,1,1,[.int .u8 0]⟩),
 (6,⟨.int .u8,1,1,[.int .u8 0]⟩),
 (7,⟨.struct [0,1,2,3] [1,1,1,1],4,24,[.int .i64 0,.int .i64 0,.bool false,.int .u8 0]⟩),
 (8,⟨.struct [0,1,2,3] [1,1,1,1],4,24,[.int .i64 0,.int .i64 0,.bool false,.int .u8 0]⟩),
 (9,⟨.str,1,16,[.str ⟨#[]⟩]⟩),
 (10,⟨.str,1,16,[.str ⟨#[]⟩]⟩),
 (11,⟨.str,1,16,[.str ⟨#[]⟩]⟩),
 (12,⟨.int .u64,1,8,[.int .u64 0]⟩),
 (13,⟨.struct [0,1] [1,1],2,24,[.str ⟨#[]⟩,.int .u64 0]⟩),
 (14,⟨.struct [0,1] [1,1],2,24,[.str ⟨#[]⟩,.int .u64 0]⟩),
 (15,⟨.ptr 134,1,8,[.undef]⟩),
 (16,⟨.ptr 137,1,8,[.undef]⟩),
 (17,⟨.ptr 146,1,8,[.undef]⟩),
 (18,⟨.struct [0] [1],1,8,[.undef]⟩),
 (19,⟨.struct [0] [1],1,8,[.undef]⟩),
 (21,⟨.int .i32,1,4,[.int .i32 0]⟩),
 (22,⟨.slice 3,1,24,[.nil 1]⟩),
 (23,⟨.slice 22,1,24,[.nil 1]⟩),
 (24,⟨.struct [0,1,2,3,4,5] [1,1,1,1,1,1],6,64,[.nil 1,.nil 1,.bool false,.bool false,.bool false,.int .i64 0]⟩),
 (25,⟨.struct [0,1,2,3,4,5] [1,1,1,1,1,1],6,64,[.nil 1,.nil 1,.bool false,.bool false,.bool false,.int .i64 0]⟩),
 (26,⟨.slice 5,1,24,[.nil 1]⟩),
 (27,⟨.struct [0,1] [1,1],2,48,[.nil 1,.nil 1]⟩),
 (28,⟨.struct [0,1] [1,1],2,48,[.nil 1,.nil 1]⟩),
 (29,⟨.slice 4,1,24,[.nil 1]⟩),
 (30,⟨.struct [0,1,2,3,4,10,12,13,14,15] [1,1,1,1,6,2,1,1,1,1],16,248,[.int .i64 0,.bool false,.bool false,.nil 1,.nil 1,.nil 1,.bool false,.bool false,.bool false,.int .i64 0,.nil 1,.nil 1,.nil 1,.nil 1,.nil 1,.nil 1]⟩),
 (31,⟨.struct [0,1,2,3,4,10,12,13,14,15] [1,1,1,1,6,2,1,1,1,1],16,248,[.int .i64 0,.bool false,.bool false,.nil 1,.nil 1,.nil 1,.bool false,.bool false,.bool false,.int .i64 0,.nil 1,.nil 1,.nil 1,.nil 1,.nil 1,.nil 1]⟩),
 (34,⟨.struct [0,1,2,3,4,5] [1,1,1,1,1,1],6,64,[.nil 1,.nil 1,.bool false,.bool false,.bool false,.int .i64 0]⟩),
 (35,⟨.struct [0,1] [1,1],2,48,[.nil 1,.nil 1]⟩),
 (36,⟨.struct [0,1,2,3,4,10,12,13,14,15] [1,1,1,1,6,2,1,1,1,1],16,248,[.int .i64 0,.bool false,.bool false,.nil 1,.nil 1,.nil 1,.bool false,.bool false,.bool false,.int .i64 0,.nil 1,.nil 1,.nil 1,.nil 1,.nil 1,.nil 1]⟩),
 (37,⟨.struct [0,1,2,3,4,10,12,13,14,15] [1,1,1,1,6,2,1,1,1,1],16,248,[.int .i64 0,.bool false,.bool false,.nil 1,.nil 1,.nil 1,.bool false,.bool false,.bool false,.int .i64 0,.nil 1,.nil 1,.nil 1,.nil 1,.nil 1,.nil 1]⟩),
 (43,⟨.slice 37,1,24,[.nil 16]⟩),
 (44,⟨.slice 95,1,24,[.nil 3]⟩),
 (45,⟨.slice 98,1,24,[.nil 2]⟩),
 (46,⟨.struct [0,1,2,3,4] [1,1,1,1,1],5,104,[.nil 16,.nil 3,.nil 2,.nil 1,.int .i64 0]⟩),
 (47,⟨.struct [0,1,2,3,4] [1,1,1,1,1],5,104,[.nil 16,.nil 3,.nil 2,.nil 1,.int .i64 0]⟩),
 (94,⟨.struct [0,1,2] [1,1,1],3,40,[.int .i64 0,.int .i64 0,.nil 1]⟩),
 (95,⟨.struct [0,1,2] [1,1,1],3,40,[.int .i64 0,.int .i64 0,.nil 1]⟩),
 (97,⟨.struct [0,1] [1,1],2,16,[.int .i64 0,.int .i64 0]⟩),
 (98,⟨.struct [0,1] [1,1],2,16,[.int .i64 0,.int .i64 0]⟩),
 (107,⟨.int .u64,1,8,[.int .u64 0]⟩),
 (114,⟨.ptr 26,1,8,[.undef]⟩),
 (116,⟨.ptr 118,1,8,[.undef]⟩),
 (117,⟨.struct [0,1,2] [1,1,1],3,40,[.nil 1,.int .i64 0,.bool false]⟩),
 (118,⟨.struct [0,1,2] [1,1,1],3,40,[.nil 1,.int .i64 0,.bool false]⟩),
 (121,⟨.slice 26,1,24,[.nil 1]⟩),
 (125,⟨.ptr 127,1,8,[.undef]⟩),
 (126,⟨.struct [0,1,2] [1,1,1],3,40,[.nil 1,.int .i64 0,.bool false]⟩),
 (127,⟨.struct [0,1,2] [1,1,1],3,40,[.nil 1,.int .i64 0,.bool false]⟩),
 (133,⟨.struct [0,1,2,3] [1,1,1,1],4,40,[.undef,.undef,.undef,.str ⟨#[]⟩]⟩),
 (134,⟨.struct [0,1,2,3] [1,1,1,1],4,40,[.undef,.undef,.undef,.str ⟨#[]⟩]⟩),
 (138,⟨.int .u32,1,4,[.int .u32 0]⟩),
 (139,⟨.int .u8,1,1,[.int .u8 0]⟩),
 (140,⟨.int .u8,1,1,[.int .u8 0]⟩),
 (142,⟨.ptr 5,1,8,[.undef]⟩),
 (143,⟨.int .i32,1,4,[.int .i32 0]⟩),
 (144,⟨.int .i32,1,4,[.int .i32 0]⟩),
 (145,⟨.struct [0,1,2,3,4,5,6,7,8,9,10] [1,1,1,1,1,1,1,1,1,1,1],11,48,[.int .u64 0,.int .u64 0,.int .u32 0,.int .u8 0,.int .u8 0,.int .u8 0,.int .u8 0,.undef,.undef,.int .i32 0,.int .i32 0]⟩),
 (146,⟨.struct [0,1,2,3,4,5,6,7,8,9,10] [1,1,1,1,1,1,1,1,1,1,1],11,48,[.int .u64 0,.int .u64 0,.int .u32 0,.int .u8 0,.int .u8 0,.int .u8 0,.int .u8 0,.undef,.undef,.int .i32 0,.int .i32 0]⟩)]
def abn:List (Nat × List Bool):=[(19,[true,false]),(51,[true,false]),(52,[true,false]),(53,[true,false]),(54,[true,false]),(88,[true,false]),(89,[true,false]),(90,[true,false]),(123,[true]),(124,[true]),(133,[true]),(134,[true]),(148,[true]),(149,[true]),(150,[true]),(151,[true]),(152,[true])]
def YL:List (Nat × List Bool):=[]
def abo:List Nat:=[]
def U9:List (Nat × Nat):=[]
def adp:List (Nat × Nat × List Nat × List Nat):=[(16,(0,([0,1,2],[0,1]))),(17,(0,([0,1,4],[0,1]))),(25,(0,([0,1,5],[27,28]))),(27,(0,([0,3,4],[22]))),(30,(0,([0,3,4],[22]))),(31,(0,([0,3,4],[23]))),(33,(0,([0,1,5],[26,27]))),(36,(0,([0,1,5],[26,27]))),(37,(0,([0,1,5],[27,28]))),(38,(0,([1,3],[1,99]))),(42,(0,([1,85],[1,164]))),(42,(2,([1,139,140,141],[1,164]))),(48,(0,([0,1,5],[27,28]))),(49,(0,([0,1,5],[27,28]))),(50,(0,([0,1,5],[27,28]))),(51,(0,([0,1,5],[143,144]))),(52,(0,([0,1,5],[34,35]))),(53,(0,([0,1,5],[27,28]))),(54,(0,([0,1,5],[19,20]))),(55,(0,([0,1,5],[175,176]))),(56,(0,([0,1,5],[40,41]))),(57,(0,([0,1,5],[31,32]))),(58,(0,([0,1,5],[21,22]))),(61,(0,([0,3,4],[22]))),(63,(0,([0,1,5],[26,27]))),(65,(0,([0,3],[19]))),(66,(0,([1,3],[1,47]))),(67,(0,([1,3],[1,81]))),(69,(0,([2,3,5],[2,3,68,69]))),(70,(0,([0,1,5],[18,19]))),(88,(0,([0,1,5],[19,20]))),(89,(0,([0,1,5],[20,21]))),(90,(0,([0,1,5],[21,22]))),(91,(0,([0,1,5],[21,22]))),(92,(0,([0,1,5],[22,23]))),(93,(0,([0,1,5],[23,24]))),(94,(0,([0,3],[32]))),(95,(0,([0,3],[29]))),(98,(0,([0,1,5],[32,33]))),(102,(0,([0,5,6,7],[26]))),(105,(0,([0,5,6,7],[29]))),(107,(0,([0,1,12,13],[26,27]))),(108,(0,([1,2,15,16,17],[32,33,34]))),(109,(0,([0,1,7,8],[19,20]))),(111,(0,([1,6],[29,30]))),(113,(0,([0,2,4,5,6],[2,11,5,65]))),(114,(0,([0,1,7,8],[19,20]))),(115,(0,([0,1,7,8],[19,20]))),(118,(0,([1,3,4],[1,85]))),(118,(2,([1,3,5],[1,85]))),(118,(4,([1,3,5,6],[1,85]))),(121,(0,([0,3,9,10,11],[36]))),(121,(2,([6,25,26,27],[36]))),(123,(0,([0,3,4,5],[28]))),(125,(0,([0,2,4,5,16],[2,11,5,64]))),(127,(0,([0,3],[25]))),(130,(0,([1,3,13,14,15],[1,41]))),(132,(0,([0,1,7,8],[55,56]))),(133,(0,([0,3,4,5],[28]))),(136,(0,([3,7,8,9],[19]))),(138,(0,([0,1,7,8,9],[57,58]))),(139,(0,([0,3],[27])))]
def YM:List (Nat × List (Nat × Nat)):=[(43,[(2,3),(3,4)]),(45,[(3,4),(4,5)]),(110,[(4,2),(8,2)])]
def YN:List (Nat × List (Nat × List Nat)):=[(43,[(5,[2,3]),(6,[2,3]),(5,[3,2]),(6,[3,2])]),(45,[(7,[3,4]),(8,[3,4]),(7,[4,3]),(8,[4,3])]),(110,[(6,[1]),(10,[1]),(2,[1])])]
def adq:List (Nat × RS × List RS):=[
 (0,(.aZ [],[])),
 (1,(.aZ [],[])),
 (2,(.aZ [],[])),
 (3,(.bool,[.undef,.undef])),
 (4,(.bool,[.undef,.undef,.undef])),
 (5,(.bool,[.undef,.undef])),
 (6,(.bool,[])),
 (7,(.int .i64,[.undef,.undef])),
 (8,(.bool,[.undef,.undef])),
 (9,(.ty .node,[.undef])),
 (10,(.bool,[.undef,.undef])),
 (11,(.bool,[.undef,.undef])),
 (12,(.bool,[.undef,.undef,.undef])),
 (13,(.bool,[.undef,.undef,.undef])),
 (14,(.int .i64,[.undef,.undef])),
 (15,(.int .i64,[.undef,.undef])),
 (16,(.ty .world,[])),
 (17,(.ty .world,[])),
 (18,(.bool,[.undef,.undef])),
 (19,(.int .i64,[.agg [.sl 16,.sl 3,.sl 2,.sl 1,.int .i64],.undef])),
 (20,(.int .i64,[.undef,.undef])),
 (21,(.int .i64,[.undef,.undef])),
 (22,(.int .i64,[.undef,.undef])),
 (23,(.int .i64,[.undef,.undef])),
 (24,(.int .i64,[.undef,.undef])),
 (25,(.int .i64,[.undef,.undef])),
 (26,(.bool,[.undef,.undef])),
 (27,(.sl 1,[.undef])),
 (28,(.agg [.sl 1,.sl 1,.bool,.bool,.bool,.int .i64],[.undef])),
 (29,(.agg [.sl 1,.sl 1],[.undef])),
 (30,(.sl 1,[.undef])),
 (31,(.sl 1,[.undef])),
 (32,(.bool,[.undef,.undef])),
 (33,(.bool,[.undef,.undef])),
 (34,(.bool,[.undef,.undef])),
 (35,(.bool,[.undef,.undef])),
 (36,(.bool,[.undef,.undef])),
 (37,(.bool,[.undef,.undef])),
 (38,(.bool,[.undef])),
 (39,(.int .i64,[.undef])),
 (40,(.bool,[.undef,.undef])),
 (41,(.int .i64,[.undef,.undef])),
 (42,(.bool,[.undef])),
 (43,(.int .i64,[.undef,.undef])),
 (44,(.int .i64,[.undef,.undef])),
 (45,(.int .i64,[.undef,.undef,.undef])),
 (46,(.ty .node,[.undef])),
 (47,(.ty .node,[.undef])),
 (48,(.bool,[.undef,.undef])),
 (49,(.bool,[.undef,.undef])),
 (50,(.bool,[.undef,.undef])),
 (51,(.int .i64,[.sl 16,.undef])),
 (52,(.int .i64,[.sl 3,.undef])),
 (53,(.int .i64,[.sl 2,.undef])),
 (54,(.int .i64,[.sl 1,.undef])),
 (55,(.int .i64,[.undef,.undef])),
 (56,(.int .i64,[.undef,.undef])),
 (57,(.int .i64,[.undef,.undef])),
 (58,(.int .i64,[.undef,.undef])),
 (59,(.int .i64,[.undef,.undef])),
 (60,(.int .i64,[.undef])),
 (61,(.sl 1,[.undef])),
 (62,(.int .i64,[.undef])),
 (63,(.bool,[.undef,.undef])),
 (64,(.bool,[.undef,.undef,.undef])),
 (65,(.bool,[.undef])),
 (66,(.bool,[.undef])),
 (67,(.bool,[.undef])),
 (68,(.aZ [.ty .mt,.int .i64,.bool],[.undef])),
 (69,(.bool,[.undef,.undef])),
 (70,(.bool,[.undef,.undef])),
 (71,(.int .i64,[.undef,.undef])),
 (72,(.bool,[.undef])),
 (73,(.bool,[.undef])),
 (74,(.bool,[.undef])),
 (75,(.bool,[.undef])),
 (76,(.aZ [.ty .mt,.int .i64,.bool],[.undef])),
 (77,(.bool,[.undef,.undef])),
 (78,(.bool,[.undef])),
 (79,(.bool,[.undef,.undef])),
 (80,(.ty .mt,[.undef])),
 (81,(.sl 1,[])),
 (82,(.ty .bJ,[.undef,.undef])),
 (83,(.ty .mt,[.undef])),
 (84,(.sl 1,[])),
 (85,(.ty .bJ,[.undef,.undef])),
 (86,(.bool,[.undef,.undef])),
 (87,(.bool,[.undef,.undef])),
 (88,(.int .i64,[.sl 1,.undef])),
 (89,(.int .i64,[.sl 1,.undef])),
 (90,(.int .i64,[.sl 1,.undef])),
 (91,(.int .i64,[.undef,.undef])),
 (92,(.int .i64,[.undef,.undef])),
 (93,(.int .i64,[.undef,.undef])),
 (94,(.bool,[.undef])),
 (95,(.bool,[.undef])),
 (96,(.int .i64,[.undef])),
 (97,(.aZ [.ty .mt,.int .i64,.bool],[.undef])),
 (98,(.bool,[.undef,.undef])),
 (99,(.bool,[.undef,.undef,.undef])),
 (100,(.bool,[.undef,.undef])),
 (101,(.bool,[.undef])),
 (102,(.bool,[.undef])),
 (103,(.bool,[.undef,.undef])),
 (104,(.bool,[.undef])),
 (105,(.bool,[.undef])),
 (106,(.aZ [.ty .mt,.int .i64,.bool],[.undef])),
 (107,(.bool,[.undef,.undef])),
 (108,(.bool,[.undef,.undef,.undef])),
 (109,(.int .i64,[.undef,.undef])),
 (110,(.ty .bJ,[.undef])),
 (111,(.ty .B,[.undef,.undef])),
 (112,(.ty .bJ,[.undef,.undef,.undef])),
 (113,(.aZ [.ty .mt,.bool],[.undef])),
 (114,(.int .i64,[.undef,.undef])),
 (115,(.int .i64,[.undef,.undef])),
 (116,(.bool,[.undef])),
 (117,(.aZ [.ty .mt,.int .i64,.bool],[.undef])),
 (118,(.sl 1,[.undef])),
 (119,(.ty .B,[.undef])),
 (120,(.ty .bJ,[.undef])),
 (121,(.ty .B,[.undef])),
 (122,(.ty .B,[.undef,.undef])),
 (123,(.sl 1,[.aN [.jD 1,.int .i64,.bool]])),
 (124,(.int .i64,[.aN [.jD 1,.int .i64,.bool]])),
 (125,(.aZ [.ty .mt,.bool],[.undef])),
 (126,(.bool,[.undef,.undef])),
 (127,(.sl 1,[.undef])),
 (128,(.ty .B,[.undef])),
 (129,(.ty .B,[.undef,.undef])),
 (130,(.sl 1,[.undef])),
 (131,(.ty .B,[.undef])),
 (132,(.aZ [.int .i64,.int .i64,.bool],[.undef,.undef])),
 (133,(.sl 1,[.aN [.jD 1,.int .i64,.bool]])),
 (134,(.int .i64,[.aN [.jD 1,.int .i64,.bool]])),
 (135,(.sl 1,[.undef])),
 (136,(.sl 1,[.undef])),
 (137,(.int .i64,[.undef,.undef])),
 (138,(.aZ [.int .i64,.int .i64,.bool],[.undef,.undef])),
 (139,(.sl 1,[.undef])),
 (140,(.str,[.undef])),
 (141,(.aZ [],[.undef])),
 (142,(.str,[.undef])),
 (143,(.aZ [],[.undef])),
 (144,(.str,[.undef])),
 (145,(.aZ [],[.undef])),
 (146,(.str,[.undef])),
 (147,(.aZ [],[.undef])),
 (153,(.str,[.undef])),
 (154,(.aZ [],[.undef])),
 (155,(.str,[.undef]))]
def cfg:cm where
 ty:=lk WX
 ext:=fun f=>if f=128 then some (wC 1 1) else if f=129 then some (Bp 1 1) else none
 own:=fun f=>(lk abn f).getD []
 inl:=fun f=>abo.contains f
 pK:=fun f t=>U9.contains (f,t)
 nm:=fun f i=>(adp.find? fun r=>r.1==f&&r.2.1==i).map fun r=>r.2.2
 gone:=fun f=>(lk YL f).getD []
 base:=fun f t=>match lk YM f with | some l=>lk l t | none=>none
 xB:=fun f t=>match lk YN f with | some l=>(lk l t).getD [] | none=>[]
def adr:List Nat:=[31,88,51,52,53]
def sg:Sg:=⟨lk adq,fun f=>adr.contains f⟩
theorem uM:eu cfg Try.prog:=⟨Mj (l:=WX) (by kernel_rfl)⟩
theorem Va (f : FuncId) (fn : Func) (body : Code) (hf : Try.prog.funcs[f]? = some fn) (hb : fn.body = some body) : lh fn.ntmps body = true ∧ (fn.name == "runtime.NumGoroutine") = false :=
  YD (by kernel_rfl) f fn body hf hb
theorem Sl:Try.prog.follows .mixedOrders=true:=by kernel_rfl
def Sm:Ren:=⟨fun | 41=>128 | n=>n,fun | 4=>4 | 22=>26 | 23=>5 | n=>n,fun n=>n⟩
theorem Sn:SlLaysE0.n41 Try.prog Sm where
 mixed:=by kernel_rfl
 f41:=⟨Try.f128.name,by kernel_rfl,Try.func128.trans (congrArg some (by kernel_rfl))⟩
 t4:=Try.underlying4
 a4:=Try.isAgg4
 z4:=Try.sizeOf4
 v4:=Try.zeroValue4
 t22:=Try.underlying26
 a22:=Try.isAgg26
 z22:=Try.sizeOf26
 v22:=Try.zeroValue26
theorem Qp:o3 Try.prog 128:=⟨_,Try.func128,by kernel_rfl,by kernel_rfl⟩
noncomputable def So:TypeInfo:=(Try.prog.info? 5).get (by kernel_rfl)
def Vb:Ren:=⟨fun | 4=>129 | n=>n,fun | 0=>0 | 3=>3 | 4=>4 | 9=>9 | 20=>20 | 22=>26 | 25=>5 | n=>n,fun n=>n⟩
theorem Vc:Lays8.n4 Try.prog Vb where
 mixed:=by kernel_rfl
 f4:=⟨Try.f129.name,by kernel_rfl,Try.func129.trans (congrArg some (by kernel_rfl))⟩
 t0:=Try.underlying0
 a0:=Try.isAgg0
 z0:=Try.sizeOf0
 v0:=Try.zeroValue0
 t3:=Try.underlying3
 a3:=Try.isAgg3
 z3:=Try.sizeOf3
 v3:=Try.zeroValue3
 t4:=Try.underlying4
 a4:=Try.isAgg4
 z4:=Try.sizeOf4
 v4:=Try.zeroValue4
 t9:=Try.underlying9
 a9:=Try.isAgg9
 z9:=Try.sizeOf9
 v9:=Try.zeroValue9
 t20:=Try.underlying20
 a20:=Try.isAgg20
 z20:=Try.sizeOf20
 v20:=Try.zeroValue20
 t22:=Try.underlying26
 a22:=Try.isAgg26
 z22:=Try.sizeOf26
 v22:=Try.zeroValue26
theorem Sp:o3 Try.prog 129:=⟨_,Try.func129,by kernel_rfl,by kernel_rfl⟩
noncomputable def Vd:TypeInfo:=(Try.prog.info? 5).get (by kernel_rfl)
theorem YO:∀ f e ds r outs,cfg.ext f=some e->e ds=some (r,outs)->o3 Try.prog f/\∀ (w:World) (Y:Nat->Prop) (us:Array Value) (az:List Arg),j8 w Y (cfg.own f) ds us.toList az->dC r=true->(∀ o∈outs,dC o=true)->
  Calls Try.prog f us w fun e w'=>∃ v,e=.returned v/\gn w w' Y (cfg.own f) az r outs v:=by
 intro f e ds r outs h h2;have h:(if f=128 then some (wC 1 1) else if f=129 then some (Bp 1 1) else none)=some e:=h
 split at h
 ·rename_i hf;subst hf;have h:=aeH h;subst h;exact U1 Sn So (.int .u8 0) 1 1 (by kernel_rfl) (by kernel_rfl) (by kernel_rfl) (by kernel_rfl) rfl (by decide) Try.sizeOf5 Qp (own:=cfg.own 128) (by kernel_rfl) h2
 split at h
 ·rename_i hf;subst hf;have h:=aeH h;subst h;exact YE Vc Vd (.int .u8 0) 1 1 (by kernel_rfl) (by kernel_rfl) (by kernel_rfl) (by kernel_rfl) rfl (by decide) Sp (own:=cfg.own 129) (by kernel_rfl) h2
 ·simp at h
theorem ye (k:Nat):kW Try.prog cfg.own (Pp cfg Try.prog k):=(L5 uM Sl Va YO k).1
open Go.RowKit
inductive Sh where
 | bool
 | int (k:IntKind)
 | str
 | sl (b:Nat) (e:Sh)
 | ag (fs:List Sh)
open Go.RowKit
theorem OX {w:World} {X:Bool->Nat->Prop}:∀ {b:List Bool} {ds:List D} {vs:List Value},b.any id=false->bS (fun d v=>∀ S,gE w X S d v) ds vs->sJ w X b ds vs (vs.map fun _=>(none,[]))
 | _,[],_,_,.nil=>⟨rfl,rfl⟩
 | b,d::ds,v::vs,hn,.cons h1 h2=>by
  have hb:b.headD false=false/\b.tail.any id=false:=by
   cases b with
   | nil=>simp
   | cons x xs=>simpa using hn
  refine ⟨v,vs,(none,[]),_,rfl,rfl,?_,OX hb.2 h2⟩;rw [hb.1];exact ⟨rfl,h1⟩
theorem Sq {P:Program} {c:cm} (jZ:∀ k,kW P c.own (Pp c P k)) {f:FuncId} (jj:(c.own f).any id=false) {ds outs:List D} {vs:Array Value} {W:World} (hc:Comes c P f ds (.bool true,outs)) (ui:∀ o∈outs,dC o=true)
  (ha:bS (fun d v=>∀ S,gE W (Lk W [] (fun _=>True)) S d v) ds vs.toList):Calls P f vs W fun e W'=>e=.returned (.bool true)/\Below W.heap.size W W':=by
 obtain ⟨k,hk⟩:=hc;have h1:=hk k (aaM _);have xP:∀ a∈vs.toList.map (fun _=>((none,[]):Arg)),a=(none,[]):=by simp
 have eO:=vY xP;have sL:j8 W (fun _=>True) (c.own f) ds vs.toList (vs.toList.map fun _=>(none,[])):=by
  refine ⟨?_,by rw [eO]; simp,by rw [eO]; simp,fun a haa=>?_⟩
  ·rw [eO]; exact OX jj ha
  ·rw [xP a haa]; trivial
 refine ((jZ k f ds _ outs h1).2 W _ vs _ sL rfl ui).mono fun e W'=>?_;rintro ⟨v,rfl,hp⟩;have hv:v=.bool true:=by
  obtain ⟨eV,az,hr,_,_,_,hs,_⟩:=hp.res;obtain ⟨t,rfl,he,rfl⟩:=hr;cases t with
  | v d u=>
   have hs:=hs.1;simp only [bg] at hs;have:bG d=.bool true:=he.symm;rw [this] at hs;exact hs
  | own s n cap a cs=>simp [T.er] at he
 subst hv;refine ⟨rfl,hp.os,hp.tape,hp.out,hp.sz,fun k hk=>hp.bW k hk (by rw [eO]; simp)⟩
set_option maxRecDepth 100000
abbrev Cm (f:FuncId) (ds:List D) (r:Rz):Prop:=Comes cfg Try.prog f ds r
abbrev aR (pr:dA) (cv:Cv Rz) (J:Nat->St->Option Rz) (f:FuncId) (fn:Func) (args:List D):Option Rz:=Ae pr cfg sg cv J f fn args
abbrev bR (pr:dA) (cv:Cv Rz) (J:Nat->St->Option Rz) (f:FuncId) (fn:Func) (sk:List D) (j:Nat) (h:St):Option Rz:=tt pr cfg sg cv J f fn sk j h
noncomputable abbrev aL:Cv Rz:=eF cfg Try.prog sg
abbrev WP (f:FuncId) (fn:Func) (sk:List D) (j:Nat) (h:St) (r:Rz):Prop:=W cfg Try.prog sg f fn sk j h r
section
variable {f:FuncId} {fn:Func} {sk:List D} {j j':Nat} {h h':St} {r:Rz}
theorem WP.go (h':St) (hw:WP f fn sk j' h' r) (ht:∀ J:Nat->St->Option Rz,J j' h'=some r->bR U aL J f fn sk j h=some r):WP f fn sk j h r:=W.go uM hw ht
theorem WP.fin (ht:∀ J:Nat->St->Option Rz,bR U aL J f fn sk j h=some r):WP f fn sk j h r:=W.fin uM ht
theorem Cm.go (ok:Told cfg Try.prog f fn) (sk:List D) (j:Nat) (h:St) {args:List D} (hw:WP f fn sk j h r) (ht:∀ J:Nat->St->Option Rz,J j h=some r->aR U aL J f fn args=some r) (yI:args.map qi=sk:=by rfl):Cm f args r:=Comes.go uM ok (yI▸hw) ht
theorem Cm.fin (ok:Told cfg Try.prog f fn) {args:List D} (ht:∀ J:Nat->St->Option Rz,aR U aL J f fn args=some r):Cm f args r:=Comes.fin (sg:=sg) uM ok ht
theorem WP.loop {H:Nat->St} {n:Nat} (inv:Nat->Prop) (hs:∀ i,i < n->inv i->(inv (i+1)->WP f fn sk j (H (i+1)) r)->WP f fn sk j (H i) r) (he:inv n->WP f fn sk j (H n) r):∀ i,i<=n->inv i->WP f fn sk j (H i) r:=by
 have key:∀ k i,i+k=n->inv i->WP f fn sk j (H i) r:=by
  intro k
  induction k with
  | zero=>intro i hi hv; obtain rfl:i=n:=(by omega); exact he hv
  | succ k ih=>intro i hi hv; exact hs i (by omega) hv fun lS=>ih (i+1) (by omega) lS
 exact fun i hi hv=>key (n - i) i (by omega) hv
end
theorem aX {g:FuncId} {ds:List D} {r:D} {outs:List D} (h:Cm g ds (r,outs)) (hs:(match sg.sig g with | some (s,ss)=>eW s r&&jE ss outs&&!(uJ s||uK ss) | none=>false)=true) (t:bE Rz):aL g ds t=feed t (rn r++(vC outs++[])):=by
 refine adl t h hs fun e=>?_;subst e;have:sg.sig 999999=none:=by kernel_rfl
 rw [this] at hs;simp at hs
theorem bI {g:FuncId} {ds:List D} {r:D} {outs:List D} {s:RS} {ss:List RS} (h:Cm g ds (r,outs)) (hs:sg.sig g=some (s,ss)) (h1:eW s r=true) (h2:jE ss outs=true) (h3:dC r=true) (h4:outs.all dC=true) (t:bE Rz):aL g ds t=feed t (gf s r++(nv ss outs++[])):=by
 refine adm t h hs h1 h2 h3 h4 fun e=>?_;subst e;have:sg.sig 999999=none:=by kernel_rfl
 rw [hs] at this;simp at this
theorem wE (ys:List D) (t:bE Rz):aL 999999 [.sl none 0 0 ys] t=feed t [.sl none 0 0 ys]:=by
 show eF cfg Try.prog sg 999999 _ t=_;unfold eF;rw [if_pos rfl]
section
variable {R:Type} {x y:R}
theorem aG:br true x y=x:=rfl
theorem aY:br false x y=y:=rfl
theorem ba (b:Bool):br b true false=b:=by cases b<;>rfl
theorem bl (b:Bool):br b false true=!b:=by cases b<;>rfl
theorem bO (b:Bool):br (!b) x y=br b y x:=by cases b<;>rfl
theorem Bv (b:Bool):br b x x=x:=by cases b<;>rfl
theorem aP {a b:Int} (h:a < b):br (U.lt a b) x y=x:=by simp [U,br,h]
theorem bo {a b:Int} (h:b<=a):br (U.lt a b) x y=y:=by simp [U,br,Int.not_lt.2 h]
theorem Bw {a b:Int} (h:a<=b):br (U.le a b) x y=x:=by simp [U,br,h]
theorem oI {a b:Int} (h:b < a):br (U.le a b) x y=y:=by simp [U,br,Int.not_le.2 h]
theorem fU {a b:Int} (h:a=b):br (U.eq a b) x y=x:=by simp [U,br,h]
theorem dV {a b:Int} (h:a≠b):br (U.eq a b) x y=y:=by
 have e:(a==b)=false:=by simpa using h
 simp [U,br,e]
theorem bA {i:Int} {n:Nat} (h0:0<=i) (h:i < n):br (U.bh i n) x y=x:=by simp [U,br,h0,h]
theorem E5 {l h:Int} {n:Nat} (h0:0<=l) (h1:l<=h) (h2:h<=n):br (U.rZ l h n) x y=x:=by simp [U,br,h0,h1,h2]
theorem fj {n b:Nat} (h:n*b<=140737488355328):br (U.fits n b) x y=x:=by simp [U,br,h]
theorem Bx {l c:Int} {b:Nat} (h0:0<=l) (h1:l<=c) (h2:c*b<=140737488355328):br (U.mM l c b) x y=x:=by simp [U,br,h0,h1,h2]
end
theorem Qq (a b:Int):U.lt a b=decide (a < b):=rfl
theorem yf (a b:Int):U.le a b=decide (a<=b):=rfl
theorem Ai (a b:Int):U.eq a b=(a==b):=rfl
theorem aB (n:Nat):U.bc n=(n:Int):=rfl
theorem KM (n:Nat):U.eE (n:Int)=n:=rfl
theorem WY (a i s:Nat):U.idx a (i:Int) s=(a+i)*s:=rfl
theorem tv (a b:Bool):U.beq a b=(a==b):=rfl
theorem wrap64 {n:Int} (h:-9223372036854775808<=n) (h':n < 9223372036854775808):IntKind.i64.wrap n=n:=by
 simp only [IntKind.wrap,IntKind.bits,IntKind.signed];simp;omega
theorem rG {a b:Int} (h:-9223372036854775808<=a+b) (h':a+b < 9223372036854775808):U.ar .add .i64 a b=a+b:=wrap64 h h'
theorem me {a b:Int} (h:-9223372036854775808<=a - b) (h':a - b < 9223372036854775808):U.ar .sub .i64 a b=a - b:=wrap64 h h'
theorem dg {i:Nat} (h:i < 9223372036854775807):U.ar .add .i64 (i:Int) 1=((i+1:Nat):Int):=by
 rw [rG (by omega) (by omega)]
 omega
def Aj (a:Int):Bool:=decide (-9223372036854775808<=a)&&decide (a < 9223372036854775808)
theorem mf {α:Type} {e:α->List D} {w:Nat} (hw:∀ x,(e x).length=w):∀ (xs:List α) {i k:Nat} (hi:i < xs.length),k < w->(ad e xs)[i*w+k]?=(e xs[i])[k]?
 | [],i,k,hi,_=>absurd hi (by simp)
 | x::xs,0,k,hi,hk=>by
  simp only [ad,ab8,Nat.zero_mul,ack,List.getElem_cons_zero];rw [ad1 (by rw [hw]; exact hk)]
 | x::xs,i+1,k,hi,hk=>by
  simp only [ad,ab8,List.getElem_cons_succ];rw [aed (by rw [hw,Nat.succ_mul]; omega)]
  have:(i+1)*w+k - (e x).length=i*w+k:=by rw [hw,Nat.succ_mul]; omega
  rw [this];exact mf hw xs (by simpa using hi) hk
section
variable {R:Type} {x y:R}
theorem dG {xs:List Int} {i:Nat} (h:i < xs.length):br (U.cW .i64 (ints xs) i) x y=x:=by simp [U,ints,br,aaj h,eZ]
theorem dH {xs:List Int} {i:Nat} (h:i < xs.length):U.bT (ints xs) i=xs[i]:=by simp [U,ints,aaj h,uE]
theorem mB {xs:List UInt8} {i:Nat} (h:i < xs.length):br (U.cW .u8 (bytes xs) i) x y=x:=by simp [U,bytes,eM,br,aaj h,eZ]
theorem wF {xs:List UInt8} {i:Nat} (h:i < xs.length):U.bT (bytes xs) i=(xs[i].toNat:Int):=by simp [U,bytes,eM,aaj h,uE]
theorem Mz {xs:List Bool} {i:Nat} (h:i < xs.length):br (U.eK (aJ xs) i) x y=x:=by simp [U,aJ,br,aaj h]
theorem MA {xs:List Bool} {i:Nat} (h:i < xs.length):U.dm (aJ xs) i=xs[i]:=by simp [U,aJ,aaj h,Bm]
theorem MB {xs:List Int} {i:Nat} (h:i < xs.length):br (U.slot (ints xs) i) x y=x:=by simp [U,ints,br,aaj h,gk]
theorem MC {xs:List UInt8} {i:Nat} (h:i < xs.length):br (U.slot (bytes xs) i) x y=x:=by simp [U,bytes,eM,br,aaj h,gk]
theorem MD {xs:List Bool} {i:Nat} (h:i < xs.length):br (U.slot (aJ xs) i) x y=x:=by simp [U,aJ,br,aaj h,gk]
theorem ints_set (xs:List Int) (i:Nat) (a:Int):List.set (ints xs) i (.int .i64 a)=ints (xs.set i a):=by simp [ints,aej]
theorem Ak (xs:List UInt8) (i:Nat) (a:UInt8):List.set (bytes xs) i (.int .u8 a.toNat)=bytes (xs.set i a):=by simp [bytes,aej,eM]
theorem Al (xs:List Bool) (i:Nat) (a:Bool):List.set (aJ xs) i (.bool a)=aJ (xs.set i a):=by simp [aJ,aej]
theorem nw:∀ {ds:List D},(∀ d∈ds,bQ d=true)->bV ds=true
 | [],_=>rfl
 | d::ds,h=>by
  simp only [bV,D8];exact ⟨h d (by simp),nw fun x hx=>h x (by simp [hx])⟩
theorem kq (xs:List Int):U.nl (ints xs)=true:=nw (by intro d hd; obtain ⟨a,_,rfl⟩:=aaK.1 hd; rfl)
theorem eR (xs:List UInt8):U.nl (bytes xs)=true:=nw (by intro d hd; obtain ⟨a,_,rfl⟩:=aaK.1 hd; rfl)
theorem KN (xs:List Bool):U.nl (aJ xs)=true:=nw (by intro d hd; obtain ⟨a,_,rfl⟩:=aaK.1 hd; rfl)
theorem Sr (n:Nat):eg n [.int .i64 0]=ints (List.replicate n 0):=by
 unfold eg
 induction n with
 | zero=>rfl
 | succ n ih=>simpa [acm,ints,qQ] using ih
theorem Ss (n:Nat):eg n [.int .u8 0]=bytes (List.replicate n 0):=by
 unfold eg
 induction n with
 | zero=>rfl
 | succ n ih=>simpa [acm,bytes,qQ,eM] using ih
theorem Su (n:Nat):eg n [.bool false]=aJ (List.replicate n false):=by
 unfold eg
 induction n with
 | zero=>rfl
 | succ n ih=>simpa [acm,aJ,qQ] using ih
end
set_option maxRecDepth 100000
section
variable (pr:dA) (cv:Cv Rz) (J:Nat->St->Option Rz)
def kr (g0:Bool) (n1:Nat) (c2:List D) (i3:Int) (n4:Nat) (c5:List D):St:=(St.mk [(0,(.sl (some g0) 1 n1 c2)),(3,(.ref 10003 [] 0 none)),(4,(.int .i64 i3))] [(10003,[(.sl none 1 n4 c5)])] [] 0)
theorem Jl:Told cfg Try.prog 27 Try.f27:=⟨by kernel_rfl,Try.func27,by kernel_rfl⟩
theorem Jm (g0:Bool) (n0:Nat) (c0:List D):aR pr cv J 27 Try.f27 [(.sl (some g0) 1 n0 c0)]=
 (br (pr.mM (pr.bc n0) (pr.bc n0) 8) (J 0 (kr g0 n0 c0 0 (pr.eE (pr.bc n0)) (eg (pr.eE (pr.bc n0)) [(.int .i64 0)]))) none):=by kernel_rfl
theorem uN (g0:Bool) (n1:Nat) (c2:List D) (i3:Int) (n4:Nat) (c5:List D):bR pr cv J 27 Try.f27 [.undef] 0 (kr g0 n1 c2 i3 n4 c5)=
 (br (pr.lt i3 (pr.bc n1)) (br (pr.bh i3 n1) (br (br (pr.cW .i64 c2 (pr.idx 0 i3 1)) true false) (br (pr.bh i3 n4) (br (pr.slot c5 (pr.idx 0 i3 1)) (J 0 (kr g0 n1 c2 (pr.ar .add .i64 i3 1) n4 (List.set c5 (pr.idx 0 i3 1) (.int .i64 (pr.bT c2 (pr.idx 0 i3 1)))))) none) none) none) none) (some ((.sl none 1 n4 c5),[.undef]))):=by kernel_rfl
def kt (g0:Bool) (n1:Nat) (c2:List D) (g3:Bool) (n4:Nat) (c5:List D) (i6:Int):St:=(St.mk [(0,(.sl (some g0) 1 n1 c2)),(1,(.sl (some g3) 1 n4 c5)),(5,(.int .i64 i6))] [] [] 0)
theorem yO:Told cfg Try.prog 33 Try.f33:=⟨by kernel_rfl,Try.func33,by kernel_rfl⟩
theorem yP (g0:Bool) (n0:Nat) (c0:List D) (g1:Bool) (n1:Nat) (c1:List D):aR pr cv J 33 Try.f33 [(.sl (some g0) 1 n0 c0),(.sl (some g1) 1 n1 c1)]=
 (br (br (pr.eq (pr.bc n0) (pr.bc n1)) false true) (some ((.bool false),[.undef,.undef])) (J 0 (kt g0 n0 c0 g1 n1 c1 0))):=by kernel_rfl
theorem o5 (g0:Bool) (n1:Nat) (c2:List D) (g3:Bool) (n4:Nat) (c5:List D) (i6:Int):bR pr cv J 33 Try.f33 [.undef,.undef] 0 (kt g0 n1 c2 g3 n4 c5 i6)=
 (br (pr.lt i6 (pr.bc n1)) (br (pr.bh i6 n1) (br (br (pr.cW .i64 c2 (pr.idx 0 i6 1)) true false) (br (pr.bh i6 n4) (br (br (pr.cW .i64 c5 (pr.idx 0 i6 1)) true false) (br (br (pr.eq (pr.bT c2 (pr.idx 0 i6 1)) (pr.bT c5 (pr.idx 0 i6 1))) false true) (some ((.bool false),[.undef,.undef])) (J 0 (kt g0 n1 c2 g3 n4 c5 (pr.ar .add .i64 i6 1)))) none) none) none) none) (some ((.bool true),[.undef,.undef]))):=by kernel_rfl
theorem Jo:Told cfg Try.prog 21 Try.f21:=⟨by kernel_rfl,Try.func21,by kernel_rfl⟩
theorem Jp (g0:Bool) (n0:Nat) (c0:List D) (a1:Int):aR pr cv J 21 Try.f21 [(.sl (some g0) 1 n0 c0),(.int .i64 a1)]=
 (br (pr.lt (pr.ar .sub .i64 a1 (pr.bc n0)) 0) (some ((.int .i64 (-1)),[.undef,.undef])) (some ((.int .i64 (pr.ar .sub .i64 a1 (pr.bc n0))),[.undef,.undef]))):=by kernel_rfl
def fN (i0:Int) (i1:Int) (n2:Nat) (c3:List D):St:=(St.mk [(0,(.ref 19 [] 0 none)),(1,(.int .i64 i0)),(5,(.int .i64 i1))] [(19,[(.sl none 1 n2 c3)])] [] 0)
theorem E6:Told cfg Try.prog 54 Try.f54:=⟨by kernel_rfl,Try.func54,by kernel_rfl⟩
theorem E7 (n0:Nat) (c0:List D) (a1:Int):aR pr cv J 54 Try.f54 [(.sl none 1 n0 c0),(.int .i64 a1)]=
 (J 0 (fN a1 0 n0 c0)):=by kernel_rfl
theorem sh (i0:Int) (i1:Int) (n2:Nat) (c3:List D):bR pr cv J 54 Try.f54 [(.sl none 0 0 []),.undef] 0 (fN i0 i1 n2 c3)=
 (br (pr.lt i1 (pr.bc n2)) (br (pr.bh i1 n2) (br (pr.slot c3 (pr.idx 0 i1 1)) (J 0 (fN (pr.ar .add .i64 i0 1) (pr.ar .add .i64 i1 1) n2 (List.set c3 (pr.idx 0 i1 1) (.int .i64 i0)))) none) none) (some ((.int .i64 i0),[(.sl none 1 n2 c3),.undef]))):=by kernel_rfl
def jF (g0:Bool) (n1:Nat) (c2:List D) (i3:Int) (n4:Nat) (c5:List D):St:=(St.mk [(0,(.sl (some g0) 1 n1 c2)),(3,(.ref 10003 [] 0 none)),(4,(.int .i64 i3))] [(10003,[(.sl none 1 n4 c5)])] [] 0)
theorem GB:Told cfg Try.prog 61 Try.f61:=⟨by kernel_rfl,Try.func61,by kernel_rfl⟩
theorem GC (g0:Bool) (n0:Nat) (c0:List D):aR pr cv J 61 Try.f61 [(.sl (some g0) 1 n0 c0)]=
 (br (pr.mM (pr.bc n0) (pr.bc n0) 1) (J 0 (jF g0 n0 c0 0 (pr.eE (pr.bc n0)) (eg (pr.eE (pr.bc n0)) [(.int .u8 0)]))) none):=by kernel_rfl
theorem sV (g0:Bool) (n1:Nat) (c2:List D) (i3:Int) (n4:Nat) (c5:List D):bR pr cv J 61 Try.f61 [.undef] 0 (jF g0 n1 c2 i3 n4 c5)=
 (br (pr.lt i3 (pr.bc n1)) (br (pr.bh i3 n1) (br (br (pr.cW .u8 c2 (pr.idx 0 i3 1)) true false) (br (pr.bh i3 n4) (br (pr.slot c5 (pr.idx 0 i3 1)) (J 0 (jF g0 n1 c2 (pr.ar .add .i64 i3 1) n4 (List.set c5 (pr.idx 0 i3 1) (.int .u8 (pr.bT c2 (pr.idx 0 i3 1)))))) none) none) none) none) (some ((.sl none 1 n4 c5),[.undef]))):=by kernel_rfl
def jG (g0:Bool) (n1:Nat) (c2:List D) (g3:Bool) (n4:Nat) (c5:List D) (i6:Int):St:=(St.mk [(0,(.sl (some g0) 1 n1 c2)),(1,(.sl (some g3) 1 n4 c5)),(5,(.int .i64 i6))] [] [] 0)
theorem wG:Told cfg Try.prog 63 Try.f63:=⟨by kernel_rfl,Try.func63,by kernel_rfl⟩
theorem wH (g0:Bool) (n0:Nat) (c0:List D) (g1:Bool) (n1:Nat) (c1:List D):aR pr cv J 63 Try.f63 [(.sl (some g0) 1 n0 c0),(.sl (some g1) 1 n1 c1)]=
 (br (br (pr.eq (pr.bc n0) (pr.bc n1)) false true) (some ((.bool false),[.undef,.undef])) (J 0 (jG g0 n0 c0 g1 n1 c1 0))):=by kernel_rfl
theorem og (g0:Bool) (n1:Nat) (c2:List D) (g3:Bool) (n4:Nat) (c5:List D) (i6:Int):bR pr cv J 63 Try.f63 [.undef,.undef] 0 (jG g0 n1 c2 g3 n4 c5 i6)=
 (br (pr.lt i6 (pr.bc n1)) (br (pr.bh i6 n1) (br (br (pr.cW .u8 c2 (pr.idx 0 i6 1)) true false) (br (pr.bh i6 n4) (br (br (pr.cW .u8 c5 (pr.idx 0 i6 1)) true false) (br (br (pr.eq (pr.bT c2 (pr.idx 0 i6 1)) (pr.bT c5 (pr.idx 0 i6 1))) false true) (some ((.bool false),[.undef,.undef])) (J 0 (jG g0 n1 c2 g3 n4 c5 (pr.ar .add .i64 i6 1)))) none) none) none) none) (some ((.bool true),[.undef,.undef]))):=by kernel_rfl
theorem GD:Told cfg Try.prog 59 Try.f59:=⟨by kernel_rfl,Try.func59,by kernel_rfl⟩
theorem GF (g0:Bool) (n0:Nat) (c0:List D) (a1:Int):aR pr cv J 59 Try.f59 [(.sl (some g0) 1 n0 c0),(.int .i64 a1)]=
 (br (pr.lt (pr.ar .sub .i64 a1 (pr.bc n0)) 0) (some ((.int .i64 (-1)),[.undef,.undef])) (some ((.int .i64 (pr.ar .sub .i64 a1 (pr.bc n0))),[.undef,.undef]))):=by kernel_rfl
def fv (i0:Int) (i1:Int) (n2:Nat) (c3:List D):St:=(St.mk [(0,(.ref 20 [] 0 none)),(1,(.int .i64 i0)),(5,(.int .i64 i1))] [(20,[(.sl none 1 n2 c3)])] [] 0)
theorem Dh:Told cfg Try.prog 89 Try.f89:=⟨by kernel_rfl,Try.func89,by kernel_rfl⟩
theorem Di (n0:Nat) (c0:List D) (a1:Int):aR pr cv J 89 Try.f89 [(.sl none 1 n0 c0),(.int .i64 a1)]=
 (J 0 (fv a1 0 n0 c0)):=by kernel_rfl
theorem qE (i0:Int) (i1:Int) (n2:Nat) (c3:List D):bR pr cv J 89 Try.f89 [(.sl none 0 0 []),.undef] 0 (fv i0 i1 n2 c3)=
 (br (pr.lt i1 (pr.bc n2)) (br (pr.bh i1 n2) (br (pr.slot c3 (pr.idx 0 i1 1)) (J 0 (fv (pr.ar .add .i64 i0 1) (pr.ar .add .i64 i1 1) n2 (List.set c3 (pr.idx 0 i1 1) (.int .u8 (pr.wrap .u8 i0))))) none) none) (some ((.int .i64 i0),[(.sl none 1 n2 c3),.undef]))):=by kernel_rfl
def jH (g0:Bool) (n1:Nat) (c2:List D) (i3:Int) (n4:Nat) (c5:List D):St:=(St.mk [(0,(.sl (some g0) 1 n1 c2)),(3,(.ref 10003 [] 0 none)),(4,(.int .i64 i3))] [(10003,[(.sl none 1 n4 c5)])] [] 0)
theorem GG:Told cfg Try.prog 30 Try.f30:=⟨by kernel_rfl,Try.func30,by kernel_rfl⟩
theorem GH (g0:Bool) (n0:Nat) (c0:List D):aR pr cv J 30 Try.f30 [(.sl (some g0) 1 n0 c0)]=
 (br (pr.mM (pr.bc n0) (pr.bc n0) 1) (J 0 (jH g0 n0 c0 0 (pr.eE (pr.bc n0)) (eg (pr.eE (pr.bc n0)) [(.bool false)]))) none):=by kernel_rfl
theorem sX (g0:Bool) (n1:Nat) (c2:List D) (i3:Int) (n4:Nat) (c5:List D):bR pr cv J 30 Try.f30 [.undef] 0 (jH g0 n1 c2 i3 n4 c5)=
 (br (pr.lt i3 (pr.bc n1)) (br (pr.bh i3 n1) (br (br (pr.eK c2 (pr.idx 0 i3 1)) true false) (br (pr.bh i3 n4) (br (pr.slot c5 (pr.idx 0 i3 1)) (J 0 (jH g0 n1 c2 (pr.ar .add .i64 i3 1) n4 (List.set c5 (pr.idx 0 i3 1) (.bool (pr.dm c2 (pr.idx 0 i3 1)))))) none) none) none) none) (some ((.sl none 1 n4 c5),[.undef]))):=by kernel_rfl
def jI (g0:Bool) (n1:Nat) (c2:List D) (g3:Bool) (n4:Nat) (c5:List D) (i6:Int):St:=(St.mk [(0,(.sl (some g0) 1 n1 c2)),(1,(.sl (some g3) 1 n4 c5)),(5,(.int .i64 i6))] [] [] 0)
theorem wI:Told cfg Try.prog 36 Try.f36:=⟨by kernel_rfl,Try.func36,by kernel_rfl⟩
theorem wJ (g0:Bool) (n0:Nat) (c0:List D) (g1:Bool) (n1:Nat) (c1:List D):aR pr cv J 36 Try.f36 [(.sl (some g0) 1 n0 c0),(.sl (some g1) 1 n1 c1)]=
 (br (br (pr.eq (pr.bc n0) (pr.bc n1)) false true) (some ((.bool false),[.undef,.undef])) (J 0 (jI g0 n0 c0 g1 n1 c1 0))):=by kernel_rfl
theorem om (g0:Bool) (n1:Nat) (c2:List D) (g3:Bool) (n4:Nat) (c5:List D) (i6:Int):bR pr cv J 36 Try.f36 [.undef,.undef] 0 (jI g0 n1 c2 g3 n4 c5 i6)=
 (br (pr.lt i6 (pr.bc n1)) (br (pr.bh i6 n1) (br (br (pr.eK c2 (pr.idx 0 i6 1)) true false) (br (pr.bh i6 n4) (br (br (pr.eK c5 (pr.idx 0 i6 1)) true false) (br (br (pr.beq (pr.dm c2 (pr.idx 0 i6 1)) (pr.dm c5 (pr.idx 0 i6 1))) false true) (some ((.bool false),[.undef,.undef])) (J 0 (jI g0 n1 c2 g3 n4 c5 (pr.ar .add .i64 i6 1)))) none) none) none) none) (some ((.bool true),[.undef,.undef]))):=by kernel_rfl
theorem GI:Told cfg Try.prog 24 Try.f24:=⟨by kernel_rfl,Try.func24,by kernel_rfl⟩
theorem GJ (g0:Bool) (n0:Nat) (c0:List D) (a1:Int):aR pr cv J 24 Try.f24 [(.sl (some g0) 1 n0 c0),(.int .i64 a1)]=
 (br (pr.lt (pr.ar .sub .i64 a1 (pr.bc n0)) 0) (some ((.int .i64 (-1)),[.undef,.undef])) (some ((.int .i64 (pr.ar .sub .i64 a1 (pr.bc n0))),[.undef,.undef]))):=by kernel_rfl
def fw (i0:Int) (i1:Int) (n2:Nat) (c3:List D):St:=(St.mk [(0,(.ref 21 [] 0 none)),(1,(.int .i64 i0)),(5,(.int .i64 i1))] [(21,[(.sl none 1 n2 c3)])] [] 0)
theorem Dj:Told cfg Try.prog 90 Try.f90:=⟨by kernel_rfl,Try.func90,by kernel_rfl⟩
theorem Dk (n0:Nat) (c0:List D) (a1:Int):aR pr cv J 90 Try.f90 [(.sl none 1 n0 c0),(.int .i64 a1)]=
 (J 0 (fw a1 0 n0 c0)):=by kernel_rfl
theorem qF (i0:Int) (i1:Int) (n2:Nat) (c3:List D):bR pr cv J 90 Try.f90 [(.sl none 0 0 []),.undef] 0 (fw i0 i1 n2 c3)=
 (br (pr.lt i1 (pr.bc n2)) (br (br (pr.eq 3 0) false true) (br (pr.bh i1 n2) (br (pr.slot c3 (pr.idx 0 i1 1)) (J 0 (fw (pr.ar .add .i64 i0 1) (pr.ar .add .i64 i1 1) n2 (List.set c3 (pr.idx 0 i1 1) (.bool (pr.eq (pr.ar .rem .i64 i0 3) 0))))) none) none) none) (some ((.int .i64 i0),[(.sl none 1 n2 c3),.undef]))):=by kernel_rfl
def fO (g0:Bool) (n1:Nat) (c2:List D) (i3:Int) (i4:Int):St:=(St.mk [(0,(.sl (some g0) 1 n1 c2)),(1,(.int .i64 i3)),(5,(.int .i64 i4))] [] [] 0)
theorem E8:Told cfg Try.prog 58 Try.f58:=⟨by kernel_rfl,Try.func58,by kernel_rfl⟩
theorem E9 (g0:Bool) (n0:Nat) (c0:List D) (a1:Int):aR pr cv J 58 Try.f58 [(.sl (some g0) 1 n0 c0),(.int .i64 a1)]=
 (J 0 (fO g0 n0 c0 a1 0)):=by kernel_rfl
theorem sj (g0:Bool) (n1:Nat) (c2:List D) (i3:Int) (i4:Int):bR pr cv J 58 Try.f58 [.undef,.undef] 0 (fO g0 n1 c2 i3 i4)=
 (br (pr.lt i4 (pr.bc n1)) (br (pr.bh i4 n1) (br (br (pr.cW .i64 c2 (pr.idx 0 i4 1)) true false) (br (br (pr.eq (pr.bT c2 (pr.idx 0 i4 1)) i3) false true) (some ((.int .i64 (-1)),[.undef,.undef])) (J 0 (fO g0 n1 c2 (pr.ar .add .i64 i3 1) (pr.ar .add .i64 i4 1)))) none) none) (some ((.int .i64 i3),[.undef,.undef]))):=by kernel_rfl
end
theorem cK (i:Nat):U.idx 0 (i:Int) 1=i:=by rw [WY]; omega
theorem yg {α:Type} {xs:List α} {i:Nat} (hi:i < xs.length) (z:α) (ys:List α) (hl:xs.length=ys.length) (hy:i < ys.length):(ys.take i++List.replicate (xs.length - i) z).set i ys[i]=ys.take (i+1)++List.replicate (xs.length - (i+1)) z:=by
 rw [aev _ _ (by simp; omega)]
 have h1:i - (ys.take i).length=0:=by simp; omega
 obtain ⟨k,hk⟩:∃ k,xs.length - i=k+1:=⟨xs.length - i - 1,by omega⟩
 have h2:xs.length - (i+1)=k:=by omega
 rw [h1,hk,h2,acm,aeq,<- abd hy,aay];rfl
theorem Am {α:Type} {xs ys:List α} {i:Nat} (hl:xs.length=ys.length) (hi:i < xs.length) (hy:i < ys.length):(ys.take i++xs.drop i).set i ys[i]=ys.take (i+1)++xs.drop (i+1):=by
 rw [aev _ _ (by simp; omega)]
 have h1:i - (ys.take i).length=0:=by simp; omega
 rw [h1,<- adW hi,aeq,<- abd hy,aay];rfl
def fH (n:Nat) (left:Int):Int:=if left < n then -1 else left - n
def ix (k:Int) (n:Nat):List Int:=(List.range n).map fun i:Nat=>k+(i:Int)
def js (k:Int) (n:Nat):List UInt8:=(List.range n).map fun i:Nat=>UInt8.ofNat ((k+(i:Int)) % 256).toNat
def ny (k:Int) (n:Nat):List Bool:=(List.range n).map fun i:Nat=>(k+(i:Int)).tmod 3==0
theorem cS (k:Int) (n:Nat):(ix k n).length=n:=by simp [ix]
theorem dj (k:Int) (n:Nat):(js k n).length=n:=by simp [js]
theorem dp (k:Int) (n:Nat):(ny k n).length=n:=by simp [ny]
theorem WZ (k:Int):IntKind.u8.wrap k=((UInt8.ofNat (k % 256).toNat).toNat:Int):=by
 have h:IntKind.u8.wrap k=k % 256:=by
  simp only [IntKind.wrap,IntKind.bits,IntKind.signed];simp
 rw [h];have h2:0<=k % 256:=Int.emod_nonneg _ (by omega)
 have h3:k % 256 < 256:=Int.emod_lt_of_pos _ (by omega)
 simp only [UInt8.toNat_ofNat'];omega
theorem Ve (g:Bool) (xs:List Int) (hb:xs.length<=17592186044416) (yD:xs.length < 9223372036854775807):Cm 27 [.sl (some g) 1 xs.length (ints xs)] (.sl none 1 xs.length (ints xs),[.undef]):=by
 refine Cm.go Jl [.undef] 0 (kr g xs.length (ints xs) (0:Nat) xs.length (ints (List.replicate xs.length 0))) ?_ fun J hJ=>?_
 ·refine WP.loop (H:=fun i=>kr g xs.length (ints xs) (i:Nat) xs.length (ints (xs.take i++List.replicate (xs.length - i) 0))) (n:=xs.length) (fun _=>True) (fun i hi _ ih=>WP.go _ (ih trivial) fun J hJ=>?_) (fun _=>WP.fin fun J=>?_) 0 (abh _) trivial
  ·rw [uN];simp (disch:=first | omega | (simp; done) | (simp; omega)) only [aG,aY,ba,aB,aP,bA,cK,dG,MB,dH,ints_set,dg]
   rw [<- hJ]
   congr 2
   rw [yg hi _ xs rfl hi]
  ·rw [uN];simp (disch:=omega) only [aG,aY,aB,bo,aa9,Nat.sub_self,adU,aat]
 ·rw [Jm];simp (disch:=omega) only [aG,aY,aB,Bx,KM,Sr];exact hJ
theorem Vf (g h:Bool) (xs ys:List Int) (hb:xs.length < 9223372036854775807):Cm 33 [.sl (some g) 1 xs.length (ints xs),.sl (some h) 1 ys.length (ints ys)] (.bool (decide (xs=ys)),[.undef,.undef]):=by
 by_cases hl:xs.length=ys.length
 ·refine Cm.go yO [.undef,.undef] 0 (kt g xs.length (ints xs) h ys.length (ints ys) (0:Nat)) ?_ fun J hJ=>?_
  ·refine WP.loop (H:=fun i=>kt g xs.length (ints xs) h ys.length (ints ys) (i:Nat)) (n:=xs.length) (fun i=>xs.take i=ys.take i) (fun i hi hv ih=>?_) (fun hv=>WP.fin fun J=>?_) 0 (abh _) (by simp)
   ·have vx:i < ys.length:=by omega
    by_cases he:xs[i]=ys[i]
    ·refine WP.go _ (ih (by rw [<- abd hi,<- abd vx,hv,he])) fun J hJ=>?_
     rw [o5];simp (disch:=omega) only [aG,aY,ba,bl,bO,aB,aP,bA,cK,dG,dH,dg,fU,he,tv,beq_self_eq_true,aeD];exact hJ
    ·refine WP.fin fun J=>?_;rw [o5];have cV:xs≠ys:=fun e=>he (by subst e; rfl)
     have hn8:=he;have hbe:=he;simp (disch:=first | omega | assumption) only [aG,aY,ba,bl,bO,aB,aP,bA,cK,dG,dH,dV,decide_eq_false cV]
   ·rw [o5];rw [aa9,hl,aa9] at hv;simp (disch:=omega) only [aG,aY,aB,bo,decide_eq_true hv]
  ·rw [yP];simp (disch:=omega) only [aG,aY,aB,bl,bO,fU];exact hJ
 ·refine Cm.fin yO fun J=>?_;have cV:xs≠ys:=fun e=>hl (by rw [e])
  rw [yP];simp (disch:=omega) only [aG,aY,aB,bl,bO,dV,decide_eq_false cV]
theorem Vg (g:Bool) (n:Nat) (c:List D) (left:Int) (h0:0<=left) (h1:left<=1048576) (hn:n<=140737488355328):Cm 21 [.sl (some g) 1 n c,.int .i64 left] (.int .i64 (fH n left),[.undef,.undef]):=by
 refine Cm.fin Jo fun J=>?_;rw [Jp];unfold fH;by_cases h:left < n
 ·rw [if_pos h];simp (disch:=omega) only [aB,me,aP]
 ·rw [if_neg h];simp (disch:=omega) only [aB,me,bo]
theorem Qr (xs:List Int) (k:Int) (h0:0<=k) (h1:k+xs.length < 9223372036854775807):Cm 54 [.sl none 1 xs.length (ints xs),.int .i64 k] (.int .i64 (k+xs.length),[.sl none 1 xs.length (ints (ix k xs.length)),.undef]):=by
 refine Cm.go E6 [.sl none 0 0 [],.undef] 0 (fN k (0:Nat) xs.length (ints xs)) ?_ fun J hJ=>?_
 ·have e0:fN k (0:Nat) xs.length (ints xs)=(fun i:Nat=>fN (k+i) (i:Nat) xs.length (ints ((ix k xs.length).take i++xs.drop i))) 0:=by simp
  rw [e0];refine WP.loop (H:=fun i:Nat=>fN (k+i) (i:Nat) xs.length (ints ((ix k xs.length).take i++xs.drop i))) (n:=xs.length) (fun _=>True) (fun i hi _ ih=>WP.go _ (ih trivial) fun J hJ=>?_) (fun _=>WP.fin fun J=>?_) 0 (abh _) trivial
  ·have hm:i < (ix k xs.length).length:=by rw [cS]; exact hi
   have vD:=Am (cS k xs.length).symm hi hm;rw [sh];have fC:(ix k xs.length)[i]=k+(i:Int):=by simp [ix]
   have hw:=fC;simp (disch:=first | omega | (simp; done) | (simp; omega)) only [aG,aY,ba,bl,aB,aP,bA,cK,MB,dg,rG]
   rw [fC] at vD;rw [ints_set,vD];have e1:k+(i:Int)+1=k+((i+1:Nat):Int):=by omega
   rw [e1];exact hJ
  ·rw [sh];simp (disch:=omega) only [aG,aY,aB,bo,List.drop_length,aat];rw [adV (by rw [cS]; omega)]
 ·rw [E7];exact hJ
theorem Sv (g:Bool) (xs:List UInt8) (hb:xs.length<=140737488355328) (yD:xs.length < 9223372036854775807):Cm 61 [.sl (some g) 1 xs.length (bytes xs)] (.sl none 1 xs.length (bytes xs),[.undef]):=by
 refine Cm.go GB [.undef] 0 (jF g xs.length (bytes xs) (0:Nat) xs.length (bytes (List.replicate xs.length 0))) ?_ fun J hJ=>?_
 ·refine WP.loop (H:=fun i=>jF g xs.length (bytes xs) (i:Nat) xs.length (bytes (xs.take i++List.replicate (xs.length - i) 0))) (n:=xs.length) (fun _=>True) (fun i hi _ ih=>WP.go _ (ih trivial) fun J hJ=>?_) (fun _=>WP.fin fun J=>?_) 0 (abh _) trivial
  ·rw [sV];simp (disch:=first | omega | (simp; done) | (simp; omega)) only [aG,aY,ba,aB,aP,bA,cK,mB,MC,wF,Ak,dg]
   rw [<- hJ]
   congr 2
   rw [yg hi _ xs rfl hi]
  ·rw [sV];simp (disch:=omega) only [aG,aY,aB,bo,aa9,Nat.sub_self,adU,aat]
 ·rw [GC];simp (disch:=omega) only [aG,aY,aB,Bx,KM,Ss];exact hJ
theorem Sw (g h:Bool) (xs ys:List UInt8) (hb:xs.length < 9223372036854775807):Cm 63 [.sl (some g) 1 xs.length (bytes xs),.sl (some h) 1 ys.length (bytes ys)] (.bool (decide (xs=ys)),[.undef,.undef]):=by
 by_cases hl:xs.length=ys.length
 ·refine Cm.go wG [.undef,.undef] 0 (jG g xs.length (bytes xs) h ys.length (bytes ys) (0:Nat)) ?_ fun J hJ=>?_
  ·refine WP.loop (H:=fun i=>jG g xs.length (bytes xs) h ys.length (bytes ys) (i:Nat)) (n:=xs.length) (fun i=>xs.take i=ys.take i) (fun i hi hv ih=>?_) (fun hv=>WP.fin fun J=>?_) 0 (abh _) (by simp)
   ·have vx:i < ys.length:=by omega
    by_cases he:xs[i]=ys[i]
    ·refine WP.go _ (ih (by rw [<- abd hi,<- abd vx,hv,he])) fun J hJ=>?_
     rw [og];simp (disch:=omega) only [aG,aY,ba,bl,bO,aB,aP,bA,cK,mB,wF,dg,fU,he,tv,beq_self_eq_true,aeD];exact hJ
    ·refine WP.fin fun J=>?_;rw [og];have cV:xs≠ys:=fun e=>he (by subst e; rfl)
     have hn8:((xs[i].toNat:Int))≠(ys[i].toNat:Int):=fun e=>he (UInt8.toNat_inj.1 (by omega))
     have hbe:=he;simp (disch:=first | omega | assumption) only [aG,aY,ba,bl,bO,aB,aP,bA,cK,mB,wF,dV,decide_eq_false cV]
   ·rw [og];rw [aa9,hl,aa9] at hv;simp (disch:=omega) only [aG,aY,aB,bo,decide_eq_true hv]
  ·rw [wH];simp (disch:=omega) only [aG,aY,aB,bl,bO,fU];exact hJ
 ·refine Cm.fin wG fun J=>?_;have cV:xs≠ys:=fun e=>hl (by rw [e])
  rw [wH];simp (disch:=omega) only [aG,aY,aB,bl,bO,dV,decide_eq_false cV]
theorem Sx (g:Bool) (n:Nat) (c:List D) (left:Int) (h0:0<=left) (h1:left<=1048576) (hn:n<=140737488355328):Cm 59 [.sl (some g) 1 n c,.int .i64 left] (.int .i64 (fH n left),[.undef,.undef]):=by
 refine Cm.fin GD fun J=>?_;rw [GF];unfold fH;by_cases h:left < n
 ·rw [if_pos h];simp (disch:=omega) only [aB,me,aP]
 ·rw [if_neg h];simp (disch:=omega) only [aB,me,bo]
theorem Nw (xs:List UInt8) (k:Int) (h0:0<=k) (h1:k+xs.length < 9223372036854775807):Cm 89 [.sl none 1 xs.length (bytes xs),.int .i64 k] (.int .i64 (k+xs.length),[.sl none 1 xs.length (bytes (js k xs.length)),.undef]):=by
 refine Cm.go Dh [.sl none 0 0 [],.undef] 0 (fv k (0:Nat) xs.length (bytes xs)) ?_ fun J hJ=>?_
 ·have e0:fv k (0:Nat) xs.length (bytes xs)=(fun i:Nat=>fv (k+i) (i:Nat) xs.length (bytes ((js k xs.length).take i++xs.drop i))) 0:=by simp
  rw [e0];refine WP.loop (H:=fun i:Nat=>fv (k+i) (i:Nat) xs.length (bytes ((js k xs.length).take i++xs.drop i))) (n:=xs.length) (fun _=>True) (fun i hi _ ih=>WP.go _ (ih trivial) fun J hJ=>?_) (fun _=>WP.fin fun J=>?_) 0 (abh _) trivial
  ·have hm:i < (js k xs.length).length:=by rw [dj]; exact hi
   have vD:=Am (dj k xs.length).symm hi hm;rw [qE];have fC:(js k xs.length)[i]=UInt8.ofNat ((k+(i:Int)) % 256).toNat:=by simp [js]
   have hw:U.wrap .u8 (k+(i:Int))=((UInt8.ofNat ((k+(i:Int)) % 256).toNat).toNat:Int):=WZ _;simp (disch:=first | omega | (simp; done) | (simp; omega)) only [aG,aY,ba,bl,aB,aP,bA,cK,MC,dg,rG,hw]
   rw [fC] at vD;rw [Ak,vD];have e1:k+(i:Int)+1=k+((i+1:Nat):Int):=by omega
   rw [e1];exact hJ
  ·rw [qE];simp (disch:=omega) only [aG,aY,aB,bo,List.drop_length,aat];rw [adV (by rw [dj]; omega)]
 ·rw [Di];exact hJ
theorem Sy (g:Bool) (xs:List Bool) (hb:xs.length<=140737488355328) (yD:xs.length < 9223372036854775807):Cm 30 [.sl (some g) 1 xs.length (aJ xs)] (.sl none 1 xs.length (aJ xs),[.undef]):=by
 refine Cm.go GG [.undef] 0 (jH g xs.length (aJ xs) (0:Nat) xs.length (aJ (List.replicate xs.length false))) ?_ fun J hJ=>?_
 ·refine WP.loop (H:=fun i=>jH g xs.length (aJ xs) (i:Nat) xs.length (aJ (xs.take i++List.replicate (xs.length - i) false))) (n:=xs.length) (fun _=>True) (fun i hi _ ih=>WP.go _ (ih trivial) fun J hJ=>?_) (fun _=>WP.fin fun J=>?_) 0 (abh _) trivial
  ·rw [sX];simp (disch:=first | omega | (simp; done) | (simp; omega)) only [aG,aY,ba,aB,aP,bA,cK,Mz,MD,MA,Al,dg]
   rw [<- hJ]
   congr 2
   rw [yg hi _ xs rfl hi]
  ·rw [sX];simp (disch:=omega) only [aG,aY,aB,bo,aa9,Nat.sub_self,adU,aat]
 ·rw [GH];simp (disch:=omega) only [aG,aY,aB,Bx,KM,Su];exact hJ
theorem Sz (g h:Bool) (xs ys:List Bool) (hb:xs.length < 9223372036854775807):Cm 36 [.sl (some g) 1 xs.length (aJ xs),.sl (some h) 1 ys.length (aJ ys)] (.bool (decide (xs=ys)),[.undef,.undef]):=by
 by_cases hl:xs.length=ys.length
 ·refine Cm.go wI [.undef,.undef] 0 (jI g xs.length (aJ xs) h ys.length (aJ ys) (0:Nat)) ?_ fun J hJ=>?_
  ·refine WP.loop (H:=fun i=>jI g xs.length (aJ xs) h ys.length (aJ ys) (i:Nat)) (n:=xs.length) (fun i=>xs.take i=ys.take i) (fun i hi hv ih=>?_) (fun hv=>WP.fin fun J=>?_) 0 (abh _) (by simp)
   ·have vx:i < ys.length:=by omega
    by_cases he:xs[i]=ys[i]
    ·refine WP.go _ (ih (by rw [<- abd hi,<- abd vx,hv,he])) fun J hJ=>?_
     rw [om];simp (disch:=omega) only [aG,aY,ba,bl,bO,aB,aP,bA,cK,Mz,MA,dg,fU,he,tv,beq_self_eq_true,aeD];exact hJ
    ·refine WP.fin fun J=>?_;rw [om];have cV:xs≠ys:=fun e=>he (by subst e; rfl)
     have hn8:=he;have hbe:(xs[i]==ys[i])=false:=by simpa using he
     simp (disch:=first | omega | assumption) only [aG,aY,ba,bl,bO,aB,aP,bA,cK,Mz,MA,dV,decide_eq_false cV,tv,hbe,Bool.not_false]
   ·rw [om];rw [aa9,hl,aa9] at hv;simp (disch:=omega) only [aG,aY,aB,bo,decide_eq_true hv]
  ·rw [wJ];simp (disch:=omega) only [aG,aY,aB,bl,bO,fU];exact hJ
 ·refine Cm.fin wI fun J=>?_;have cV:xs≠ys:=fun e=>hl (by rw [e])
  rw [wJ];simp (disch:=omega) only [aG,aY,aB,bl,bO,dV,decide_eq_false cV]
theorem SA (g:Bool) (n:Nat) (c:List D) (left:Int) (h0:0<=left) (h1:left<=1048576) (hn:n<=140737488355328):Cm 24 [.sl (some g) 1 n c,.int .i64 left] (.int .i64 (fH n left),[.undef,.undef]):=by
 refine Cm.fin GI fun J=>?_;rw [GJ];unfold fH;by_cases h:left < n
 ·rw [if_pos h];simp (disch:=omega) only [aB,me,aP]
 ·rw [if_neg h];simp (disch:=omega) only [aB,me,bo]
theorem Nx (xs:List Bool) (k:Int) (h0:0<=k) (h1:k+xs.length < 9223372036854775807):Cm 90 [.sl none 1 xs.length (aJ xs),.int .i64 k] (.int .i64 (k+xs.length),[.sl none 1 xs.length (aJ (ny k xs.length)),.undef]):=by
 refine Cm.go Dj [.sl none 0 0 [],.undef] 0 (fw k (0:Nat) xs.length (aJ xs)) ?_ fun J hJ=>?_
 ·have e0:fw k (0:Nat) xs.length (aJ xs)=(fun i:Nat=>fw (k+i) (i:Nat) xs.length (aJ ((ny k xs.length).take i++xs.drop i))) 0:=by simp
  rw [e0];refine WP.loop (H:=fun i:Nat=>fw (k+i) (i:Nat) xs.length (aJ ((ny k xs.length).take i++xs.drop i))) (n:=xs.length) (fun _=>True) (fun i hi _ ih=>WP.go _ (ih trivial) fun J hJ=>?_) (fun _=>WP.fin fun J=>?_) 0 (abh _) trivial
  ·have hm:i < (ny k xs.length).length:=by rw [dp]; exact hi
   have vD:=Am (dp k xs.length).symm hi hm;rw [qF];have fC:(ny k xs.length)[i]=((k+(i:Int)).tmod 3==0):=by simp [ny]
   have hw:U.eq (U.ar .rem .i64 (k+(i:Int)) 3) 0=((k+(i:Int)).tmod 3==0):=rfl;simp (disch:=first | omega | (simp; done) | (simp; omega)) only [aG,aY,ba,bl,aB,aP,bA,cK,MD,dg,rG,hw,dV]
   rw [fC] at vD;rw [Al,vD];have e1:k+(i:Int)+1=k+((i+1:Nat):Int):=by omega
   rw [e1];exact hJ
  ·rw [qF];simp (disch:=omega) only [aG,aY,aB,bo,List.drop_length,aat];rw [adV (by rw [dp]; omega)]
 ·rw [Dk];exact hJ
theorem Qs (g:Bool) (k:Int) (n:Nat) (h0:0<=k) (h1:k+n < 9223372036854775807):Cm 58 [.sl (some g) 1 n (ints (ix k n)),.int .i64 k] (.int .i64 (k+n),[.undef,.undef]):=by
 refine Cm.go E8 [.undef,.undef] 0 (fO g n (ints (ix k n)) k (0:Nat)) ?_ fun J hJ=>?_
 ·have e0:fO g n (ints (ix k n)) k (0:Nat)=(fun i:Nat=>fO g n (ints (ix k n)) (k+i) (i:Nat)) 0:=by simp
  rw [e0];refine WP.loop (H:=fun i:Nat=>fO g n (ints (ix k n)) (k+i) (i:Nat)) (n:=n) (fun _=>True) (fun i hi _ ih=>WP.go _ (ih trivial) fun J hJ=>?_) (fun _=>WP.fin fun J=>?_) 0 (abh _) trivial
  ·have hm:i < (ix k n).length:=by rw [cS]; exact hi
   have fC:(ix k n)[i]=k+(i:Int):=by simp [ix]
   rw [sj];simp (disch:=first | omega | (simp; done) | (simp; omega)) only [aG,aY,ba,bl,bO,aB,aP,bA,cK,dG,dH,fC,fU,dg,rG]
   have e1:k+(i:Int)+1=k+((i+1:Nat):Int):=by omega
   rw [e1];exact hJ
  ·rw [sj];simp (disch:=omega) only [aG,aY,aB,bo]
 ·rw [E9];exact hJ
set_option maxRecDepth 100000
section
variable (pr:dA) (cv:Cv Rz) (J:Nat->St->Option Rz)
def jJ (g0:Bool) (n1:Nat) (c2:List D) (i3:Int) (n4:Nat) (c5:List D):St:=(St.mk [(0,(.sl (some g0) 1 n1 c2)),(3,(.ref 10003 [] 0 none)),(4,(.int .i64 i3))] [(10003,[(.sl none 1 n4 c5)])] [] 0)
theorem GK:Told cfg Try.prog 31 Try.f31:=⟨by kernel_rfl,Try.func31,by kernel_rfl⟩
theorem GL (g0:Bool) (n0:Nat) (c0:List D):aR pr cv J 31 Try.f31 [(.sl (some g0) 1 n0 c0)]=
 (br (pr.mM (pr.bc n0) (pr.bc n0) 24) (J 0 (jJ g0 n0 c0 0 (pr.eE (pr.bc n0)) (eg (pr.eE (pr.bc n0)) [(.nil 1)]))) none):=by kernel_rfl
theorem sY (g0:Bool) (n1:Nat) (c2:List D) (i3:Int) (n4:Nat) (c5:List D):bR pr cv J 31 Try.f31 [.undef] 0 (jJ g0 n1 c2 i3 n4 c5)=
 (br (pr.lt i3 (pr.bc n1)) (br (pr.bh i3 n1) (br (br (pr.dc 1 c2 (pr.idx 0 i3 1)) true false) (cv 27 [(.sl (some (pr.cF c2 (pr.idx 0 i3 1))) 1 (pr.bf c2 (pr.idx 0 i3 1)) (pr.bn c2 (pr.idx 0 i3 1)))] (.sl (fun eC=>(fun dq=>(.done (br (br (br (pr.nl dq) true false) true false) (br (pr.bh i3 n4) (br (br (pr.ne c5) (br (pr.jC 1 c5 (pr.idx 0 i3 1)) true false) false) (cv 999999 [(.sl none 0 0 (List.set c5 (pr.idx 0 i3 1) (.sl none 1 eC dq)))] (.sl (fun mU=>(fun fx=>(.done (J 0 (jJ g0 n1 c2 (pr.ar .add .i64 i3 1) n4 fx))))))) none) none) none)))))) none) none) (some ((.sl none 1 n4 c5),[.undef]))):=by kernel_rfl
def jK (g0:Bool) (n1:Nat) (c2:List D) (g3:Bool) (n4:Nat) (c5:List D) (i6:Int):St:=(St.mk [(0,(.sl (some g0) 1 n1 c2)),(1,(.sl (some g3) 1 n4 c5)),(5,(.int .i64 i6))] [] [] 0)
theorem wK:Told cfg Try.prog 37 Try.f37:=⟨by kernel_rfl,Try.func37,by kernel_rfl⟩
theorem wL (g0:Bool) (n0:Nat) (c0:List D) (g1:Bool) (n1:Nat) (c1:List D):aR pr cv J 37 Try.f37 [(.sl (some g0) 1 n0 c0),(.sl (some g1) 1 n1 c1)]=
 (br (br (pr.eq (pr.bc n0) (pr.bc n1)) false true) (some ((.bool false),[.undef,.undef])) (J 0 (jK g0 n0 c0 g1 n1 c1 0))):=by kernel_rfl
theorem oo (g0:Bool) (n1:Nat) (c2:List D) (g3:Bool) (n4:Nat) (c5:List D) (i6:Int):bR pr cv J 37 Try.f37 [.undef,.undef] 0 (jK g0 n1 c2 g3 n4 c5 i6)=
 (br (pr.lt i6 (pr.bc n1)) (br (pr.bh i6 n1) (br (br (pr.dc 1 c2 (pr.idx 0 i6 1)) true false) (br (pr.bh i6 n4) (br (br (pr.dc 1 c5 (pr.idx 0 i6 1)) true false) (cv 33 [(.sl (some (pr.cF c2 (pr.idx 0 i6 1))) 1 (pr.bf c2 (pr.idx 0 i6 1)) (pr.bn c2 (pr.idx 0 i6 1))),(.sl (some (pr.cF c5 (pr.idx 0 i6 1))) 1 (pr.bf c5 (pr.idx 0 i6 1)) (pr.bn c5 (pr.idx 0 i6 1)))] (.bool (fun cx=>(.done (br (br cx false true) (some ((.bool false),[.undef,.undef])) (J 0 (jK g0 n1 c2 g3 n4 c5 (pr.ar .add .i64 i6 1)))))))) none) none) none) none) (some ((.bool true),[.undef,.undef]))):=by kernel_rfl
def mg (g0:Bool) (n1:Nat) (c2:List D) (i3:Int) (i4:Int):St:=(St.mk [(0,(.sl (some g0) 1 n1 c2)),(1,(.int .i64 i3)),(5,(.int .i64 i4))] [] [] 0)
theorem wM:Told cfg Try.prog 25 Try.f25:=⟨by kernel_rfl,Try.func25,by kernel_rfl⟩
theorem wN (g0:Bool) (n0:Nat) (c0:List D) (a1:Int):aR pr cv J 25 Try.f25 [(.sl (some g0) 1 n0 c0),(.int .i64 a1)]=
 (br (pr.lt (pr.ar .sub .i64 a1 (pr.bc n0)) 0) (some ((.int .i64 (-1)),[.undef,.undef])) (J 0 (mg g0 n0 c0 (pr.ar .sub .i64 a1 (pr.bc n0)) 0))):=by kernel_rfl
theorem oq (g0:Bool) (n1:Nat) (c2:List D) (i3:Int) (i4:Int):bR pr cv J 25 Try.f25 [.undef,.undef] 0 (mg g0 n1 c2 i3 i4)=
 (br (pr.lt i4 (pr.bc n1)) (br (pr.bh i4 n1) (br (br (pr.dc 1 c2 (pr.idx 0 i4 1)) true false) (cv 21 [(.sl (some (pr.cF c2 (pr.idx 0 i4 1))) 1 (pr.bf c2 (pr.idx 0 i4 1)) (pr.bn c2 (pr.idx 0 i4 1))),(.int .i64 i3)] (.int (fun fh=>(.done (br (pr.lt fh 0) (some ((.int .i64 (-1)),[.undef,.undef])) (J 0 (mg g0 n1 c2 fh (pr.ar .add .i64 i4 1)))))))) none) none) (some ((.int .i64 i3),[.undef,.undef]))):=by kernel_rfl
theorem Jq:Told cfg Try.prog 28 Try.f28:=⟨by kernel_rfl,Try.func28,by kernel_rfl⟩
theorem Jr (g0:Bool) (n0:Nat) (c0:List D) (g1:Bool) (n1:Nat) (c1:List D) (a2:Bool) (a3:Bool) (a4:Bool) (a5:Int):aR pr cv J 28 Try.f28 [(.agg [(.sl (some g0) 1 n0 c0),(.sl (some g1) 1 n1 c1),(.bool a2),(.bool a3),(.bool a4),(.int .i64 a5)])]=
 (cv 27 [(.sl (some g0) 1 n0 c0)] (.sl (fun eC=>(fun dq=>(.done (br (br (br (pr.nl dq) true false) true false) (cv 31 [(.sl (some g1) 1 n1 c1)] (.sl (fun mU=>(fun fx=>(.done (br (br (br (pr.nl fx) true false) true false) (some ((.agg [(.sl none 1 eC dq),(.sl none 1 mU fx),(.bool a2),(.bool a3),(.bool a4),(.int .i64 a5)]),[.undef])) none)))))) none)))))):=by kernel_rfl
theorem Js:Told cfg Try.prog 34 Try.f34:=⟨by kernel_rfl,Try.func34,by kernel_rfl⟩
theorem Jt (g0:Bool) (n0:Nat) (c0:List D) (g1:Bool) (n1:Nat) (c1:List D) (a2:Bool) (a3:Bool) (a4:Bool) (a5:Int) (g6:Bool) (n6:Nat) (c6:List D) (g7:Bool) (n7:Nat) (c7:List D) (a8:Bool) (a9:Bool) (a10:Bool) (a11:Int):aR pr cv J 34 Try.f34 [(.agg [(.sl (some g0) 1 n0 c0),(.sl (some g1) 1 n1 c1),(.bool a2),(.bool a3),(.bool a4),(.int .i64 a5)]),(.agg [(.sl (some g6) 1 n6 c6),(.sl (some g7) 1 n7 c7),(.bool a8),(.bool a9),(.bool a10),(.int .i64 a11)])]=
 let y1:Option (D × List D):=(some ((.bool false),[.undef,.undef]))
 (cv 33 [(.sl (some g0) 1 n0 c0),(.sl (some g6) 1 n6 c6)] (.bool (fun cx=>(.done (br (br cx false true) y1 (cv 37 [(.sl (some g1) 1 n1 c1),(.sl (some g7) 1 n7 c7)] (.bool (fun ku=>(.done (br (br ku false true) y1 (br (br (pr.beq a2 a8) false true) y1 (br (br (pr.beq a3 a9) false true) y1 (br (br (pr.beq a4 a10) false true) y1 (br (br (pr.eq a5 a11) false true) y1 (some ((.bool true),[.undef,.undef])))))))))))))))):=by kernel_rfl
theorem Ju:Told cfg Try.prog 22 Try.f22:=⟨by kernel_rfl,Try.func22,by kernel_rfl⟩
theorem Jv (g0:Bool) (n0:Nat) (c0:List D) (g1:Bool) (n1:Nat) (c1:List D) (a2:Bool) (a3:Bool) (a4:Bool) (a5:Int) (a6:Int):aR pr cv J 22 Try.f22 [(.agg [(.sl (some g0) 1 n0 c0),(.sl (some g1) 1 n1 c1),(.bool a2),(.bool a3),(.bool a4),(.int .i64 a5)]),(.int .i64 a6)]=
 let y1:Option (D × List D):=(some ((.int .i64 (-1)),[.undef,.undef]))
 (cv 21 [(.sl (some g0) 1 n0 c0),(.int .i64 a6)] (.int (fun fh=>(.done (br (pr.lt fh 0) y1 (cv 25 [(.sl (some g1) 1 n1 c1),(.int .i64 fh)] (.int (fun kv=>(.done (br (pr.lt kv 0) y1 (some ((.int .i64 kv),[.undef,.undef])))))))))))):=by kernel_rfl
theorem GM:Told cfg Try.prog 29 Try.f29:=⟨by kernel_rfl,Try.func29,by kernel_rfl⟩
theorem GN (g0:Bool) (n0:Nat) (c0:List D) (g1:Bool) (n1:Nat) (c1:List D):aR pr cv J 29 Try.f29 [(.agg [(.sl (some g0) 1 n0 c0),(.sl (some g1) 1 n1 c1)])]=
 (cv 61 [(.sl (some g0) 1 n0 c0)] (.sl (fun eC=>(fun dq=>(.done (br (br (br (pr.nl dq) true false) true false) (cv 61 [(.sl (some g1) 1 n1 c1)] (.sl (fun mU=>(fun fx=>(.done (br (br (br (pr.nl fx) true false) true false) (some ((.agg [(.sl none 1 eC dq),(.sl none 1 mU fx)]),[.undef])) none)))))) none)))))):=by kernel_rfl
theorem GO:Told cfg Try.prog 35 Try.f35:=⟨by kernel_rfl,Try.func35,by kernel_rfl⟩
theorem GP (g0:Bool) (n0:Nat) (c0:List D) (g1:Bool) (n1:Nat) (c1:List D) (g2:Bool) (n2:Nat) (c2:List D) (g3:Bool) (n3:Nat) (c3:List D):aR pr cv J 35 Try.f35 [(.agg [(.sl (some g0) 1 n0 c0),(.sl (some g1) 1 n1 c1)]),(.agg [(.sl (some g2) 1 n2 c2),(.sl (some g3) 1 n3 c3)])]=
 let y1:Option (D × List D):=(some ((.bool false),[.undef,.undef]))
 (cv 63 [(.sl (some g0) 1 n0 c0),(.sl (some g2) 1 n2 c2)] (.bool (fun cx=>(.done (br (br cx false true) y1 (cv 63 [(.sl (some g1) 1 n1 c1),(.sl (some g3) 1 n3 c3)] (.bool (fun ku=>(.done (br (br ku false true) y1 (some ((.bool true),[.undef,.undef])))))))))))):=by kernel_rfl
theorem GQ:Told cfg Try.prog 23 Try.f23:=⟨by kernel_rfl,Try.func23,by kernel_rfl⟩
theorem GR (g0:Bool) (n0:Nat) (c0:List D) (g1:Bool) (n1:Nat) (c1:List D) (a2:Int):aR pr cv J 23 Try.f23 [(.agg [(.sl (some g0) 1 n0 c0),(.sl (some g1) 1 n1 c1)]),(.int .i64 a2)]=
 let y1:Option (D × List D):=(some ((.int .i64 (-1)),[.undef,.undef]))
 (cv 59 [(.sl (some g0) 1 n0 c0),(.int .i64 a2)] (.int (fun fh=>(.done (br (pr.lt fh 0) y1 (cv 59 [(.sl (some g1) 1 n1 c1),(.int .i64 fh)] (.int (fun kv=>(.done (br (pr.lt kv 0) y1 (some ((.int .i64 kv),[.undef,.undef])))))))))))):=by kernel_rfl
theorem Jw:Told cfg Try.prog 9 Try.f9:=⟨by kernel_rfl,Try.func9,by kernel_rfl⟩
theorem Jx (a0:Int) (a1:Bool) (a2:Bool) (g3:Bool) (n3:Nat) (c3:List D) (g4:Bool) (n4:Nat) (c4:List D) (g5:Bool) (n5:Nat) (c5:List D) (a6:Bool) (a7:Bool) (a8:Bool) (a9:Int) (g10:Bool) (vE:Nat) (Cn:List D) (g11:Bool) (eS:Nat) (vF:List D) (g12:Bool) (iL:Nat) (fk:List D) (g13:Bool) (lV:Nat) (jL:List D) (g14:Bool) (IK:Nat) (mV:List D) (g15:Bool) (vG:Nat) (IL:List D):aR pr cv J 9 Try.f9 [(.agg [(.int .i64 a0),(.bool a1),(.bool a2),(.sl (some g3) 1 n3 c3),(.sl (some g4) 1 n4 c4),(.sl (some g5) 1 n5 c5),(.bool a6),(.bool a7),(.bool a8),(.int .i64 a9),(.sl (some g10) 1 vE Cn),(.sl (some g11) 1 eS vF),(.sl (some g12) 1 iL fk),(.sl (some g13) 1 lV jL),(.sl (some g14) 1 IK mV),(.sl (some g15) 1 vG IL)])]=
 (cv 27 [(.sl (some g3) 1 n3 c3)] (.sl (fun eC=>(fun dq=>(.done (br (br (br (pr.nl dq) true false) true false) (cv 28 [(.agg [(.sl (some g4) 1 n4 c4),(.sl (some g5) 1 n5 c5),(.bool a6),(.bool a7),(.bool a8),(.int .i64 a9)])] (.sl (fun mU=>(fun fx=>(.sl (fun Fa=>(fun qG=>(.bool (fun sm=>(.bool (fun vb7=>(.bool (fun SB=>(.int (fun vx9=>(.done (br (br (br (pr.nl fx) (br (pr.nl qG) true false) false) true false) (cv 29 [(.agg [(.sl (some g10) 1 vE Cn),(.sl (some g11) 1 eS vF)])] (.sl (fun An=>(fun yi=>(.sl (fun Qt=>(fun ME=>(.done (br (br (br (pr.nl yi) (br (pr.nl ME) true false) false) true false) (cv 30 [(.sl (some g12) 1 iL fk)] (.sl (fun abt=>(fun sO=>(.done (br (br (br (pr.nl sO) true false) true false) (cv 31 [(.sl (some g13) 1 lV jL)] (.sl (fun afn=>(fun abu=>(.done (br (br (br (pr.nl abu) true false) true false) (cv 30 [(.sl (some g14) 1 IK mV)] (.sl (fun afo=>(fun abv=>(.done (br (br (br (pr.nl abv) true false) true false) (cv 27 [(.sl (some g15) 1 vG IL)] (.sl (fun afp=>(fun abw=>(.done (br (br (br (pr.nl abw) true false) true false) (some ((.agg [(.int .i64 a0),(.bool a1),(.bool a2),(.sl none 1 eC dq),(.sl none 1 mU fx),(.sl none 1 Fa qG),(.bool sm),(.bool vb7),(.bool SB),(.int .i64 vx9),(.sl none 1 An yi),(.sl none 1 Qt ME),(.sl none 1 abt sO),(.sl none 1 afn abu),(.sl none 1 afo abv),(.sl none 1 afp abw)]),[.undef])) none)))))) none)))))) none)))))) none)))))) none))))))))) none))))))))))))))))) none)))))):=by kernel_rfl
theorem Jy:Told cfg Try.prog 11 Try.f11:=⟨by kernel_rfl,Try.func11,by kernel_rfl⟩
theorem Jz (a0:Int) (a1:Bool) (a2:Bool) (g3:Bool) (n3:Nat) (c3:List D) (g4:Bool) (n4:Nat) (c4:List D) (g5:Bool) (n5:Nat) (c5:List D) (a6:Bool) (a7:Bool) (a8:Bool) (a9:Int) (g10:Bool) (vE:Nat) (Cn:List D) (g11:Bool) (eS:Nat) (vF:List D) (g12:Bool) (iL:Nat) (fk:List D) (g13:Bool) (lV:Nat) (jL:List D) (g14:Bool) (IK:Nat) (mV:List D) (g15:Bool) (vG:Nat) (IL:List D) (a16:Int) (a17:Bool) (a18:Bool) (g19:Bool) (W0:Nat) (OY:List D) (g20:Bool) (IM:Nat) (W1:List D) (g21:Bool) (n21:Nat) (IN:List D) (a22:Bool) (a23:Bool) (a24:Bool) (a25:Int) (g26:Bool) (IP:Nat) (W2:List D) (W3:Bool) (n27:Nat) (IQ:List D) (W4:Bool) (OZ:Nat) (c28:List D) (g29:Bool) (n29:Nat) (O0:List D) (W5:Bool) (n30:Nat) (W6:List D) (W7:Bool) (n31:Nat) (c31:List D):aR pr cv J 11 Try.f11 [(.agg [(.int .i64 a0),(.bool a1),(.bool a2),(.sl (some g3) 1 n3 c3),(.sl (some g4) 1 n4 c4),(.sl (some g5) 1 n5 c5),(.bool a6),(.bool a7),(.bool a8),(.int .i64 a9),(.sl (some g10) 1 vE Cn),(.sl (some g11) 1 eS vF),(.sl (some g12) 1 iL fk),(.sl (some g13) 1 lV jL),(.sl (some g14) 1 IK mV),(.sl (some g15) 1 vG IL)]),(.agg [(.int .i64 a16),(.bool a17),(.bool a18),(.sl (some g19) 1 W0 OY),(.sl (some g20) 1 IM W1),(.sl (some g21) 1 n21 IN),(.bool a22),(.bool a23),(.bool a24),(.int .i64 a25),(.sl (some g26) 1 IP W2),(.sl (some W3) 1 n27 IQ),(.sl (some W4) 1 OZ c28),(.sl (some g29) 1 n29 O0),(.sl (some W5) 1 n30 W6),(.sl (some W7) 1 n31 c31)])]=
 let y1:Option (D × List D):=(some ((.bool false),[.undef,.undef]))
 (br (br (pr.eq a0 a16) false true) y1 (br (br (pr.beq a1 a17) false true) y1 (br (br (pr.beq a2 a18) false true) y1 (cv 33 [(.sl (some g3) 1 n3 c3),(.sl (some g19) 1 W0 OY)] (.bool (fun cx=>(.done (br (br cx false true) y1 (cv 34 [(.agg [(.sl (some g4) 1 n4 c4),(.sl (some g5) 1 n5 c5),(.bool a6),(.bool a7),(.bool a8),(.int .i64 a9)]),(.agg [(.sl (some g20) 1 IM W1),(.sl (some g21) 1 n21 IN),(.bool a22),(.bool a23),(.bool a24),(.int .i64 a25)])] (.bool (fun ku=>(.done (br (br ku false true) y1 (cv 35 [(.agg [(.sl (some g10) 1 vE Cn),(.sl (some g11) 1 eS vF)]),(.agg [(.sl (some g26) 1 IP W2),(.sl (some W3) 1 n27 IQ)])] (.bool (fun iy=>(.done (br (br iy false true) y1 (cv 36 [(.sl (some g12) 1 iL fk),(.sl (some W4) 1 OZ c28)] (.bool (fun vH=>(.done (br (br vH false true) y1 (cv 37 [(.sl (some g13) 1 lV jL),(.sl (some g29) 1 n29 O0)] (.bool (fun Ao=>(.done (br (br Ao false true) y1 (cv 36 [(.sl (some g14) 1 IK mV),(.sl (some W5) 1 n30 W6)] (.bool (fun uO=>(.done (br (br uO false true) y1 (cv 33 [(.sl (some g15) 1 vG IL),(.sl (some W7) 1 n31 c31)] (.bool (fun sm=>(.done (br (br sm false true) y1 (some ((.bool true),[.undef,.undef])))))))))))))))))))))))))))))))))))))))):=by kernel_rfl
theorem JA:Told cfg Try.prog 7 Try.f7:=⟨by kernel_rfl,Try.func7,by kernel_rfl⟩
theorem JB (a0:Int) (a1:Bool) (a2:Bool) (g3:Bool) (n3:Nat) (c3:List D) (g4:Bool) (n4:Nat) (c4:List D) (g5:Bool) (n5:Nat) (c5:List D) (a6:Bool) (a7:Bool) (a8:Bool) (a9:Int) (g10:Bool) (vE:Nat) (Cn:List D) (g11:Bool) (eS:Nat) (vF:List D) (g12:Bool) (iL:Nat) (fk:List D) (g13:Bool) (lV:Nat) (jL:List D) (g14:Bool) (IK:Nat) (mV:List D) (g15:Bool) (vG:Nat) (IL:List D) (a16:Int):aR pr cv J 7 Try.f7 [(.agg [(.int .i64 a0),(.bool a1),(.bool a2),(.sl (some g3) 1 n3 c3),(.sl (some g4) 1 n4 c4),(.sl (some g5) 1 n5 c5),(.bool a6),(.bool a7),(.bool a8),(.int .i64 a9),(.sl (some g10) 1 vE Cn),(.sl (some g11) 1 eS vF),(.sl (some g12) 1 iL fk),(.sl (some g13) 1 lV jL),(.sl (some g14) 1 IK mV),(.sl (some g15) 1 vG IL)]),(.int .i64 a16)]=
 let y1:Option (D × List D):=(some ((.int .i64 (-1)),[.undef,.undef]))
 (cv 21 [(.sl (some g3) 1 n3 c3),(.int .i64 a16)] (.int (fun fh=>(.done (br (pr.lt fh 0) y1 (cv 22 [(.agg [(.sl (some g4) 1 n4 c4),(.sl (some g5) 1 n5 c5),(.bool a6),(.bool a7),(.bool a8),(.int .i64 a9)]),(.int .i64 fh)] (.int (fun kv=>(.done (br (pr.lt kv 0) y1 (cv 23 [(.agg [(.sl (some g10) 1 vE Cn),(.sl (some g11) 1 eS vF)]),(.int .i64 kv)] (.int (fun jM=>(.done (br (pr.lt jM 0) y1 (cv 24 [(.sl (some g12) 1 iL fk),(.int .i64 jM)] (.int (fun so=>(.done (br (pr.lt so 0) y1 (cv 25 [(.sl (some g13) 1 lV jL),(.int .i64 so)] (.int (fun mv=>(.done (br (pr.lt mv 0) y1 (cv 24 [(.sl (some g14) 1 IK mV),(.int .i64 mv)] (.int (fun pD=>(.done (br (pr.lt pD 0) y1 (cv 21 [(.sl (some g15) 1 vG IL),(.int .i64 pD)] (.int (fun Fb=>(.done (br (pr.lt Fb 0) y1 (some ((.int .i64 Fb),[.undef,.undef]))))))))))))))))))))))))))))))))))))):=by kernel_rfl
end
def sq (xss:List (List Int)):Prop:=xss.length<=1048576/\∀ xs∈xss,xs.length<=1048576
structure cz (m:aE):Prop where
 aK:m.aK.length<=1048576
 bits:sq m.bits
structure cY (s:aA):Prop where
 a:s.a.length<=1048576
 b:s.b.length<=1048576
structure cd (n:ak):Prop where
 image:n.image.length<=1048576
 mt:cz n.mt
 bJ:cY n.bJ
 conn:n.conn.length<=1048576
 sync:sq n.sync
 bC:n.bC.length<=1048576
 wait:n.wait.length<=1048576
section
variable {x y:Rz} {R:Type} {u v:R}
theorem iC {g:Bool} {xss:List (List Int)} {i:Nat} (h:i < xss.length):br (U.dc 1 (rows (some g) xss) i) u v=u:=by simp [U,rows,br,aaj h]
theorem iD {g:Bool} {xss:List (List Int)} {i:Nat} (h:i < xss.length):U.cF (rows (some g) xss) i=g:=by simp [U,rows,aaj h,cG]
theorem hM {g:Option Bool} {xss:List (List Int)} {i:Nat} (h:i < xss.length):U.bf (rows g xss) i=xss[i].length:=by simp [U,rows,aaj h,cN]
theorem iE {g:Option Bool} {xss:List (List Int)} {i:Nat} (h:i < xss.length):U.bn (rows g xss) i=ints xss[i]:=by simp [U,rows,aaj h,cC]
theorem O1 {xss:List (List Int)} {i:Nat} (h:i < xss.length):br (U.jC 1 (rows none xss) i) u v=u:=by simp [U,rows,br,aaj h]
theorem abx {xss:List (List Int)} {i:Nat} (h:i < xss.length):br (U.pC (rows none xss) i) u v=u:=by simp [U,rows,br,aaj h]
theorem aby {g:Option Bool} {xss:List (List Int)} (h:0 < xss.length):br (U.ne (rows g xss)) u v=u:=by
 cases xss with
 | nil=>simp at h
 | cons _ _=>rfl
theorem Dl {xss:List (List Int)} {i:Nat} {ys:List Int}:List.set (rows none xss) i (.sl none 1 ys.length (ints ys))=rows none (xss.set i ys):=by simp [rows,aej]
theorem SC (n:Nat):eg n [.nil 1]=rows none (List.replicate n []):=by
 unfold eg
 induction n with
 | zero=>rfl
 | succ n ih=>simpa [acm,rows,qQ,ints] using ih
theorem W8 {g:Option Bool} (hg:g≠some true) (xss:List (List Int)):U.nl (rows g xss)=true:=nw (by
 intro d hd;obtain ⟨xs,_,rfl⟩:=aaK.1 hd;have h1:bV (ints xs)=true:=kq xs;cases g with
 | none=>simpa [bQ] using h1
 | some g=>cases g with
  | false=>simpa [bQ] using h1
  | true=>exact absurd rfl hg)
theorem Fc (xss:List (List Int)):U.nl (rows none xss)=true:=W8 (by simp) xss
end
section
variable (t:bE Rz)
theorem Dm (g:Bool) (xs:List Int) (hb:xs.length<=17592186044416):aL 27 [.sl (some g) 1 xs.length (ints xs)] t=feed t [.sl none 1 xs.length (ints xs)]:=aX (Ve g xs hb (by omega)) (by kernel_rfl) t
theorem SD (g:Bool) (xs:List UInt8) (hb:xs.length<=140737488355328):aL 61 [.sl (some g) 1 xs.length (bytes xs)] t=feed t [.sl none 1 xs.length (bytes xs)]:=aX (Sv g xs hb (by omega)) (by kernel_rfl) t
theorem SE (g:Bool) (xs:List Bool) (hb:xs.length<=140737488355328):aL 30 [.sl (some g) 1 xs.length (aJ xs)] t=feed t [.sl none 1 xs.length (aJ xs)]:=aX (Sy g xs hb (by omega)) (by kernel_rfl) t
theorem uP (g h:Bool) (xs ys:List Int) (hb:xs.length < 9223372036854775807):aL 33 [.sl (some g) 1 xs.length (ints xs),.sl (some h) 1 ys.length (ints ys)] t=feed t [.bool (decide (xs=ys))]:=aX (Vf g h xs ys hb) (by kernel_rfl) t
theorem IS (g h:Bool) (xs ys:List UInt8) (hb:xs.length < 9223372036854775807):aL 63 [.sl (some g) 1 xs.length (bytes xs),.sl (some h) 1 ys.length (bytes ys)] t=feed t [.bool (decide (xs=ys))]:=aX (Sw g h xs ys hb) (by kernel_rfl) t
theorem SF (g h:Bool) (xs ys:List Bool) (hb:xs.length < 9223372036854775807):aL 36 [.sl (some g) 1 xs.length (aJ xs),.sl (some h) 1 ys.length (aJ ys)] t=feed t [.bool (decide (xs=ys))]:=aX (Sz g h xs ys hb) (by kernel_rfl) t
theorem uQ (g:Bool) (n:Nat) (c:List D) (left:Int) (h0:0<=left) (h1:left<=1048576) (hn:n<=140737488355328):aL 21 [.sl (some g) 1 n c,.int .i64 left] t=feed t [.int .i64 (fH n left)]:=aX (Vg g n c left h0 h1 hn) (by kernel_rfl) t
theorem IT (g:Bool) (n:Nat) (c:List D) (left:Int) (h0:0<=left) (h1:left<=1048576) (hn:n<=140737488355328):aL 59 [.sl (some g) 1 n c,.int .i64 left] t=feed t [.int .i64 (fH n left)]:=aX (Sx g n c left h0 h1 hn) (by kernel_rfl) t
theorem IU (g:Bool) (n:Nat) (c:List D) (left:Int) (h0:0<=left) (h1:left<=1048576) (hn:n<=140737488355328):aL 24 [.sl (some g) 1 n c,.int .i64 left] t=feed t [.int .i64 (fH n left)]:=aX (SA g n c left h0 h1 hn) (by kernel_rfl) t
end
theorem cy {R:Type} (f:Int->bE R) (k:IntKind) (n:Int) (l:List D):feed (.int f) (.int k n::l)=feed (f n) l:=rfl
theorem aF {R:Type} (f:Bool->bE R) (b:Bool) (l:List D):feed (.bool f) (.bool b::l)=feed (f b) l:=rfl
theorem dv {R:Type} (f:Nat->List D->bE R) (s n:Nat) (cs l:List D):feed (.sl f) (.sl none s n cs::l)=feed (f n cs) l:=rfl
theorem aq {R:Type} (x:Option R) (l:List D):feed (.done x) l=x:=rfl
theorem SG (g:Bool) (xss:List (List Int)) (hb:sq xss):Cm 31 [sR (some g) xss] (sR none xss,[.undef]):=by
 have hl:=hb.1;refine Cm.go GK [.undef] 0 (jJ g xss.length (rows (some g) xss) (0:Nat) xss.length (rows none (List.replicate xss.length []))) ?_ fun J hJ=>?_
 ·refine WP.loop (H:=fun i=>jJ g xss.length (rows (some g) xss) (i:Nat) xss.length (rows none (xss.take i++List.replicate (xss.length - i) []))) (n:=xss.length) (fun _=>True) (fun i hi _ ih=>WP.go _ (ih trivial) fun J hJ=>?_) (fun _=>WP.fin fun J=>?_) 0 (abh _) trivial
  ·rw [sY];have hx:xss[i].length<=1048576:=hb.2 _ (aaT hi);simp (disch:=first | omega | (simp; done) | (simp; omega)) only [aG,aY,ba,aB,aP,bA,cK,iC,iD,hM,iE,Dm,dv,aq,kq,O1,aby,Dl,dg,wE]
   rw [yg hi _ xss rfl hi];exact hJ
  ·rw [sY];simp (disch:=omega) only [aG,aY,aB,bo,aa9,Nat.sub_self,adU,aat]
 ·rw [GL];simp (disch:=omega) only [aG,aY,aB,Bx,KM,SC];exact hJ
theorem SI (g h:Bool) (xs ys:List (List Int)) (hb:sq xs):Cm 37 [sR (some g) xs,sR (some h) ys] (.bool (decide (xs=ys)),[.undef,.undef]):=by
 have hlen:=hb.1;by_cases hl:xs.length=ys.length
 ·refine Cm.go wK [.undef,.undef] 0 (jK g xs.length (rows (some g) xs) h ys.length (rows (some h) ys) (0:Nat)) ?_ fun J hJ=>?_
  ·refine WP.loop (H:=fun i=>jK g xs.length (rows (some g) xs) h ys.length (rows (some h) ys) (i:Nat)) (n:=xs.length) (fun i=>xs.take i=ys.take i) (fun i hi hv ih=>?_) (fun hv=>WP.fin fun J=>?_) 0 (abh _) (by simp)
   ·have vx:i < ys.length:=by omega
    have hx:xs[i].length<=1048576:=hb.2 _ (aaT hi);by_cases he:xs[i]=ys[i]
    ·refine WP.go _ (ih (by rw [<- abd hi,<- abd vx,hv,he])) fun J hJ=>?_
     rw [oo];simp (disch:=omega) only [aG,aY,ba,bl,bO,aB,aP,bA,cK,iC,iD,hM,iE,uP,aF,aq,decide_eq_true he,dg];exact hJ
    ·refine WP.fin fun J=>?_;rw [oo];have cV:xs≠ys:=fun e=>he (by subst e; rfl)
     simp (disch:=omega) only [aG,aY,ba,bl,bO,aB,aP,bA,cK,iC,iD,hM,iE,uP,aF,aq,decide_eq_false he,decide_eq_false cV]
   ·rw [oo];rw [aa9,hl,aa9] at hv;simp (disch:=omega) only [aG,aY,aB,bo,decide_eq_true hv]
  ·rw [wL];simp (disch:=omega) only [aG,aY,aB,bl,bO,fU];exact hJ
 ·refine Cm.fin wK fun J=>?_;have cV:xs≠ys:=fun e=>hl (by rw [e])
  rw [wL];simp (disch:=omega) only [aG,aY,aB,bl,bO,dV,decide_eq_false cV]
def jd (v:Int) (k:Int->Int):Int:=if v < 0 then -1 else k v
def vI {α:Type} (f:α->Int->Int):List α->Int->Int
 | [],l=>l
 | x::xs,l=>jd (f x l) (vI f xs)
theorem ky {n:Nat} {l:Int} (h:0<=l):fH n l<=l/\-1<=fH n l/\(0<=fH n l->(n:Int)<=l):=by unfold fH; split<;>omega
theorem wO {v:Int} (k:Int->Int) (h:v < 0):jd v k=-1:=if_pos h
theorem wP {v:Int} (k:Int->Int) (h:0<=v):jd v k=k v:=if_neg (by omega)
theorem Fe {α:Type} {f:α->Int->Int} {Q:α->Prop} (hf:∀ x l,0<=l->f x l<=l/\-1<=f x l/\(0<=f x l->l<=1048576->Q x)):∀ (xs:List α) (l:Int),0<=l->l<=1048576->vI f xs l<=l/\-1<=vI f xs l/\(0<=vI f xs l->∀ x∈xs,Q x)
 | [],l,h,_=>⟨Int.le_refl _,by show -1<=l; omega,fun _=>by simp⟩
 | x::xs,l,h,hm=>by
  obtain ⟨h1,h2,h3⟩:=hf x l h;simp only [vI];by_cases hv:f x l < 0
  ·rw [wO _ hv];exact ⟨by omega,by omega,by omega⟩
  ·rw [wP _ (by omega)]
   obtain ⟨g1,g2,g3⟩:=Fe hf xs (f x l) (by omega) (by omega)
   refine ⟨by omega,g2,fun hp y hy=>?_⟩
   rcases aaZ.1 hy with rfl | hy
   ·exact h3 (by omega) hm
   ·exact g3 hp y hy
def wQ (xss:List (List Int)) (l:Int):Int:=jd (fH xss.length l) (vI (fun xs l=>fH xs.length l) xss)
theorem MF {xss:List (List Int)} {l:Int} (h:0<=l) (hm:l<=1048576):wQ xss l<=l/\-1<=wQ xss l/\(0<=wQ xss l->sq xss):=by
 obtain ⟨h1,h2,h3⟩:=ky (n:=xss.length) h;unfold wQ;by_cases hv:fH xss.length l < 0
 ·rw [wO _ hv];exact ⟨by omega,by omega,by omega⟩
 ·rw [wP _ (by omega)]
  obtain ⟨g1,g2,g3⟩:=Fe (f:=fun (xs:List Int) l=>fH xs.length l) (Q:=fun xs=>xs.length<=1048576) (fun xs l hl=>by
   obtain ⟨a1,a2,a3⟩:=ky (n:=xs.length) hl;exact ⟨a1,a2,fun hh hm=>by have:=a3 hh; omega⟩) xss (fH xss.length l) (by omega) (by omega)
  exact ⟨by omega,g2,fun hp=>⟨by have:=h3 (by omega); omega,g3 hp⟩⟩
theorem SJ (g:Bool) (xss:List (List Int)) (left:Int) (h0:0<=left) (h1:left<=1048576) (hn:xss.length<=140737488355328) (hx:∀ xs∈xss,xs.length<=140737488355328):Cm 25 [sR (some g) xss,.int .i64 left] (.int .i64 (wQ xss left),[.undef,.undef]):=by
 have hlen:=ky (n:=xss.length) h0;have loop:∀ k i (l:Int),i+k=xss.length->0<=l->l<=1048576->WP 25 Try.f25 [.undef,.undef] 0 (mg g xss.length (rows (some g) xss) l (i:Nat)) (.int .i64 (vI (fun xs l=>fH xs.length l) (xss.drop i) l),[.undef,.undef]):=by
  intro k
  induction k with
  | zero=>
   intro i l hi hl hm;refine WP.fin fun J=>?_;rw [oq,List.drop_of_length_le (by omega)]
   simp (disch:=omega) only [aB,bo,vI]
  | succ k ih=>
   intro i l hi hl hm;have vx:i < xss.length:=by omega
   have hxi:=hx _ (aaT vx);obtain ⟨a1,a2,a3⟩:=ky (n:=xss[i].length) hl;have e:vI (fun xs l=>fH xs.length l) (xss.drop i) l=jd (fH xss[i].length l) (vI (fun xs l=>fH xs.length l) (xss.drop (i+1))):=by
    rw [<- adW vx];rfl
   rw [e];by_cases hv:fH xss[i].length l < 0
   ·refine WP.fin fun J=>?_;rw [oq,wO _ hv];simp (disch:=omega) only [aG,aY,ba,aB,aP,bA,cK,iC,iD,hM,iE,uQ,cy,aq]
   ·rw [wP _ (by omega)]
    refine WP.go _ (ih (i+1) (fH xss[i].length l) (by omega) (by omega) (by omega)) fun J hJ=>?_
    rw [oq];have lS:0<=fH xss[i].length l:=by omega
    simp (disch:=omega) only [aG,aY,ba,aB,aP,bA,cK,iC,iD,hM,iE,uQ,cy,aq,bo,dg];exact hJ
 by_cases h:left < xss.length
 ·refine Cm.fin wM fun J=>?_;rw [wN,wQ,wO _ (by unfold fH; rw [if_pos h]; omega)]
  simp (disch:=omega) only [aB,me,aP]
 ·have e:fH xss.length left=left - xss.length:=if_neg h;rw [wQ,wP _ (by omega),e]
  refine Cm.go wM [.undef,.undef] 0 _ (loop xss.length 0 (left - xss.length) (by omega) (by omega) (by omega)) fun J hJ=>?_
  rw [wN];simp (disch:=omega) only [aB,me,bo];exact hJ
section
variable (t:bE Rz)
theorem IV (g:Bool) (xss:List (List Int)) (hb:sq xss):aL 31 [.sl (some g) 1 xss.length (rows (some g) xss)] t=feed t [.sl none 1 xss.length (rows none xss)]:=aX (SG g xss hb) (by kernel_rfl) t
theorem IW (g h:Bool) (xs ys:List (List Int)) (hb:sq xs):aL 37 [.sl (some g) 1 xs.length (rows (some g) xs),.sl (some h) 1 ys.length (rows (some h) ys)] t=feed t [.bool (decide (xs=ys))]:=aX (SI g h xs ys hb) (by kernel_rfl) t
theorem IX (g:Bool) (xss:List (List Int)) (left:Int) (h0:0<=left) (h1:left<=1048576) (hn:xss.length<=140737488355328) (hx:∀ xs∈xss,xs.length<=140737488355328):aL 25 [.sl (some g) 1 xss.length (rows (some g) xss),.int .i64 left] t=feed t [.int .i64 (wQ xss left)]:=aX (SJ g xss left h0 h1 hn hx) (by kernel_rfl) t
end
theorem Vh (g:Bool) (m:aE) (h:cz m):Cm 28 [.agg (bK (some g) m)] (.agg (bK none m),[.undef]):=by
 have h1:=h.aK;refine Cm.fin Jq fun J=>?_;rw [Jr];simp (disch:=first | omega | exact h.bits) only [Dm,IV,dv,aq,kq,Fc,aG]
theorem SK (g:Bool) (s:aA) (h:cY s):Cm 29 [.agg (cb (some g) s)] (.agg (cb none s),[.undef]):=by
 have h1:=h.a;have h2:=h.b;refine Cm.fin GM fun J=>?_;rw [GN];simp (disch:=omega) only [SD,dv,aq,eR,aG]
theorem Vi (g h:Bool) (m:aE) (ok:cz m):Cm 34 [.agg (bK (some g) m),.agg (bK (some h) m)] (.bool true,[.undef,.undef]):=by
 have h1:=ok.aK;refine Cm.fin Js fun J=>?_;rw [Jt];simp (disch:=first | omega | exact ok.bits) only [uP,IW,aF,aq,decide_true,aG,aY,tv,beq_self_eq_true,fU]
theorem SL (g h:Bool) (s:aA) (ok:cY s):Cm 35 [.agg (cb (some g) s),.agg (cb (some h) s)] (.bool true,[.undef,.undef]):=by
 have h1:=ok.a;have h2:=ok.b;refine Cm.fin GO fun J=>?_;rw [GP];simp (disch:=omega) only [IS,aF,aq,decide_true,aG,aY]
structure MG (m:aE):Prop where
 aK:m.aK.length<=140737488355328
 bits:m.bits.length<=140737488355328
 bit:∀ xs∈m.bits,xs.length<=140737488355328
structure Ff (n:ak):Prop where
 image:n.image.length<=140737488355328
 mt:MG n.mt
 a:n.bJ.a.length<=140737488355328
 b:n.bJ.b.length<=140737488355328
 conn:n.conn.length<=140737488355328
 sync:n.sync.length<=140737488355328
 syn:∀ xs∈n.sync,xs.length<=140737488355328
 bC:n.bC.length<=140737488355328
 wait:n.wait.length<=140737488355328
def tJ (m:aE) (l:Int):Int:=jd (fH m.aK.length l) fun l=>jd (wQ m.bits l) fun l=>l
def rp (s:aA) (l:Int):Int:=jd (fH s.a.length l) fun l=>jd (fH s.b.length l) fun l=>l
def gr (n:ak) (l:Int):Int:=jd (fH n.image.length l) fun l=>jd (tJ n.mt l) fun l=>jd (rp n.bJ l) fun l=>jd (fH n.conn.length l) fun l=>jd (wQ n.sync l) fun l=>jd (fH n.bC.length l) fun l=>jd (fH n.wait.length l) fun l=>l
theorem gO {v l:Int} {k:Int->Int} {Q Q':Prop} (hl:0<=l) (hv:v<=l/\-1<=v/\(0<=v->Q)) (hk:0<=v->k v<=v/\-1<=k v/\(0<=k v->Q')):jd v k<=l/\-1<=jd v k/\(0<=jd v k->Q/\Q'):=by
 unfold jd;split
 ·omega
 ·obtain ⟨a,b,c⟩:=hk (by omega)
  exact ⟨by omega,b,fun h=>⟨hv.2.2 (by omega),c h⟩⟩
theorem Fg {l:Int} (h:0<=l):l<=l/\-1<=l/\(0<=l->True):=⟨by omega,by omega,fun _=>trivial⟩
theorem oJ {n:Nat} {l:Int} (h:0<=l) (hm:l<=1048576):fH n l<=l/\-1<=fH n l/\(0<=fH n l->n<=1048576):=by
 obtain ⟨a,b,c⟩:=ky (n:=n) h;exact ⟨a,b,fun hh=>by have:=c hh; omega⟩
theorem Fh {m:aE} {l:Int} (h:0<=l) (hm:l<=1048576):tJ m l<=l/\-1<=tJ m l/\(0<=tJ m l->cz m):=by
 have a1:=oJ (n:=m.aK.length) h hm;have:=gO (k:=fun l=>jd (wQ m.bits l) fun l=>l) h a1 fun h2=>gO h2 (MF (xss:=m.bits) h2 (by omega)) fun h3=>Fg h3
 exact ⟨this.1,this.2.1,fun hh=>by obtain ⟨b1,b2,_⟩:=this.2.2 hh; exact ⟨b1,b2⟩⟩
theorem Co {s:aA} {l:Int} (h:0<=l) (hm:l<=1048576):rp s l<=l/\-1<=rp s l/\(0<=rp s l->cY s):=by
 have a1:=oJ (n:=s.a.length) h hm;have:=gO (k:=fun l=>jd (fH s.b.length l) fun l=>l) h a1 fun h2=>gO h2 (oJ (n:=s.b.length) h2 (by omega)) fun h3=>Fg h3
 exact ⟨this.1,this.2.1,fun hh=>by obtain ⟨b1,b2,_⟩:=this.2.2 hh; exact ⟨b1,b2⟩⟩
theorem Qu {n:ak} {l:Int} (h:0<=l) (hm:l<=1048576):gr n l<=l/\-1<=gr n l/\(0<=gr n l->cd n):=by
 have a1:=oJ (n:=n.image.length) h hm;have a2:∀ {l:Int},0<=l->l<=1048576->_:=fun {l} h hm=>Fh (m:=n.mt) (l:=l) h hm;have a3:∀ {l:Int},0<=l->l<=1048576->_:=fun {l} h hm=>Co (s:=n.bJ) (l:=l) h hm;have a4:∀ {l:Int},0<=l->l<=1048576->_:=fun {l} h hm=>oJ (n:=n.conn.length) (l:=l) h hm;have a5:∀ {l:Int},0<=l->l<=1048576->_:=fun {l} h hm=>MF (xss:=n.sync) (l:=l) h hm;have a6:∀ {l:Int},0<=l->l<=1048576->_:=fun {l} h hm=>oJ (n:=n.bC.length) (l:=l) h hm;have a7:∀ {l:Int},0<=l->l<=1048576->_:=fun {l} h hm=>oJ (n:=n.wait.length) (l:=l) h hm;have key:gr n l<=l/\-1<=gr n l/\(0<=gr n l->n.image.length<=1048576/\cz n.mt/\cY n.bJ/\n.conn.length<=1048576/\sq n.sync/\n.bC.length<=1048576/\n.wait.length<=1048576/\True):=by
  unfold gr;refine gO h a1 fun h1=>?_;have k1:=a2 h1 (by omega)
  refine gO h1 k1 fun h2=>?_;have k2:=a3 h2 (by omega)
  refine gO h2 k2 fun h3=>?_;have k3:=a4 h3 (by omega)
  refine gO h3 k3 fun h4=>?_;have k4:=a5 h4 (by omega)
  refine gO h4 k4 fun h5=>?_;have k5:=a6 h5 (by omega)
  refine gO h5 k5 fun h6=>?_;exact gO h6 (a7 h6 (by omega)) fun h7=>Fg h7
 refine ⟨key.1,key.2.1,fun hh=>?_⟩;obtain ⟨b1,b2,b3,b4,b5,b6,b7,_⟩:=key.2.2 hh;exact ⟨b1,b2,b3,b4,b5,b6,b7⟩
theorem nz {f:Int->Option Rz} {g:Int->Int} {outs:List D} {v:Int} (h:0<=v->f v=some (.int .i64 (g v),outs)):br (U.lt v 0) (some (.int .i64 (-1),outs)) (f v)=some (.int .i64 (jd v g),outs):=by
 by_cases hv:v < 0
 ·rw [aP hv,wO _ hv]
 ·rw [bo (by omega),wP _ (by omega),h (by omega)]
theorem Vj (g:Bool) (m:aE) (left:Int) (h0:0<=left) (h1:left<=1048576) (ln:MG m):Cm 22 [.agg (bK (some g) m),.int .i64 left] (.int .i64 (tJ m left),[.undef,.undef]):=by
 refine Cm.fin Ju fun J=>?_;rw [Jv];have l1:=ln.aK;have a1:=ky (n:=m.aK.length) h0;simp (disch:=omega) only [uQ,cy,aq];refine nz (f:=fun v=>aL 25 _ _) fun p1=>?_;simp (disch:=first | omega | exact ln.bits | exact ln.bit) only [IX,cy,aq]
 exact nz (f:=fun v=>some (.int .i64 v,[.undef,.undef])) fun _=>rfl
theorem SM (g:Bool) (s:aA) (left:Int) (h0:0<=left) (h1:left<=1048576) (l1:s.a.length<=140737488355328) (l2:s.b.length<=140737488355328):Cm 23 [.agg (cb (some g) s),.int .i64 left] (.int .i64 (rp s left),[.undef,.undef]):=by
 refine Cm.fin GQ fun J=>?_;rw [GR];have a1:=ky (n:=s.a.length) h0;simp (disch:=omega) only [IT,cy,aq];refine nz (f:=fun v=>aL 59 _ _) fun p1=>?_;simp (disch:=omega) only [IT,cy,aq];exact nz (f:=fun v=>some (.int .i64 v,[.undef,.undef])) fun _=>rfl
section
variable (t:bE Rz)
theorem Vk (g:Bool) (m:aE) (h:cz m):aL 28 [.agg (bK (some g) m)] t=feed t (bK none m):=aX (Vh g m h) (by kernel_rfl) t
theorem SN (g:Bool) (s:aA) (h:cY s):aL 29 [.agg (cb (some g) s)] t=feed t (cb none s):=aX (SK g s h) (by kernel_rfl) t
theorem Vl (g h:Bool) (m:aE) (ok:cz m):aL 34 [.agg (bK (some g) m),.agg (bK (some h) m)] t=feed t [.bool true]:=aX (Vi g h m ok) (by kernel_rfl) t
theorem SO (g h:Bool) (s:aA) (ok:cY s):aL 35 [.agg (cb (some g) s),.agg (cb (some h) s)] t=feed t [.bool true]:=aX (SL g h s ok) (by kernel_rfl) t
theorem Vm (g:Bool) (m:aE) (left:Int) (h0:0<=left) (h1:left<=1048576) (ln:MG m):aL 22 [.agg (bK (some g) m),.int .i64 left] t=feed t [.int .i64 (tJ m left)]:=aX (Vj g m left h0 h1 ln) (by kernel_rfl) t
theorem SP (g:Bool) (s:aA) (left:Int) (h0:0<=left) (h1:left<=1048576) (l1:s.a.length<=140737488355328) (l2:s.b.length<=140737488355328):aL 23 [.agg (cb (some g) s),.int .i64 left] t=feed t [.int .i64 (rp s left)]:=aX (SM g s left h0 h1 l1 l2) (by kernel_rfl) t
end
theorem Vn (g:Bool) (n:ak) (h:cd n):Cm 9 [.agg (ab (some g) n)] (.agg (ab none n),[.undef]):=by
 have h1:=h.image;have h2:=h.conn;have h3:=h.bC;have h4:=h.wait;refine Cm.fin Jw fun J=>?_;rw [Jx];simp (disch:=first | omega | exact h.mt | exact h.bJ | exact h.sync) only [Dm,IV,SE,Vk,SN,dv,aF,cy,aq,kq,Fc,eR,KN,aG]
theorem Vo (g h:Bool) (n:ak) (ok:cd n):Cm 11 [.agg (ab (some g) n),.agg (ab (some h) n)] (.bool true,[.undef,.undef]):=by
 have h1:=ok.image;have h2:=ok.conn;have h3:=ok.bC;have h4:=ok.wait;refine Cm.fin Jy fun J=>?_;rw [Jz];simp (disch:=first | omega | exact ok.mt | exact ok.bJ | exact ok.sync) only [uP,IW,SF,Vl,SO,aF,aq,decide_true,aG,aY,tv,beq_self_eq_true,fU]
theorem Vp (g:Bool) (n:ak) (left:Int) (h0:0<=left) (h1:left<=1048576) (ln:Ff n):Cm 7 [.agg (ab (some g) n),.int .i64 left] (.int .i64 (gr n left),[.undef,.undef]):=by
 refine Cm.fin JA fun J=>?_;rw [JB];have l1:=ln.image;have l2:=ln.conn;have l3:=ln.bC;have l4:=ln.wait;have a1:=ky (n:=n.image.length) h0;simp (disch:=omega) only [uQ,cy,aq];refine nz (f:=fun v=>aL 22 _ _) fun p1=>?_;have a2:=Fh (m:=n.mt) p1 (by omega)
 simp (disch:=first | omega | exact ln.mt) only [Vm,cy,aq]
 refine nz (f:=fun v=>aL 23 _ _) fun p2=>?_;have a3:=Co (s:=n.bJ) p2 (by omega)
 simp (disch:=first | omega | exact ln.a | exact ln.b) only [SP,cy,aq]
 refine nz (f:=fun v=>aL 24 _ _) fun p3=>?_;have a4:=ky (n:=n.conn.length) p3;simp (disch:=omega) only [IU,cy,aq];refine nz (f:=fun v=>aL 25 _ _) fun p4=>?_;have a5:=MF (xss:=n.sync) p4 (by omega)
 simp (disch:=first | omega | exact ln.sync | exact ln.syn) only [IX,cy,aq]
 refine nz (f:=fun v=>aL 24 _ _) fun p5=>?_;have a6:=ky (n:=n.bC.length) p5;simp (disch:=omega) only [IU,cy,aq];refine nz (f:=fun v=>aL 21 _ _) fun p6=>?_;simp (disch:=omega) only [uQ,cy,aq];exact nz (f:=fun v=>some (.int .i64 v,[.undef,.undef])) fun _=>rfl
set_option maxRecDepth 100000
section
variable (pr:dA) (cv:Cv Rz) (J:Nat->St->Option Rz)
theorem Ny:Told cfg Try.prog 64 Try.f64:=⟨by kernel_rfl,Try.func64,by kernel_rfl⟩
theorem Nz (a0:Int) (a1:Int) (a2:Int):aR pr cv J 64 Try.f64 [(.int .i64 a0),(.int .i64 a1),(.int .i64 a2)]=
 (br (pr.le a1 a0) (some ((.bool (pr.le a0 a2)),[.undef,.undef,.undef])) (some ((.bool false),[.undef,.undef,.undef]))):=by kernel_rfl
theorem NA:Told cfg Try.prog 99 Try.f99:=⟨by kernel_rfl,Try.func99,by kernel_rfl⟩
theorem NB (a0:Int) (a1:Int) (a2:Int):aR pr cv J 99 Try.f99 [(.int .i64 a0),(.int .i64 a1),(.int .i64 a2)]=
 (br (pr.le a1 a0) (some ((.bool (pr.le a0 a2)),[.undef,.undef,.undef])) (some ((.bool false),[.undef,.undef,.undef]))):=by kernel_rfl
end
theorem NC (a b c:Int):Cm 99 [.int .i64 a,.int .i64 b,.int .i64 c] (.bool (decide (b<=a/\a<=c)),[.undef,.undef,.undef]):=by
 refine Cm.fin NA fun J=>?_;rw [NB];by_cases h:b<=a
 ·rw [Bw h,yf];simp only [h,true_and]
 ·simp (disch:=omega) only [oI,h,false_and,decide_false]
theorem abz (a b c:Int):Cm 64 [.int .i64 a,.int .i64 b,.int .i64 c] (.bool (decide (b<=a/\a<=c)),[.undef,.undef,.undef]):=by
 refine Cm.fin Ny fun J=>?_;rw [Nz];by_cases h:b<=a
 ·rw [Bw h,yf];simp only [h,true_and]
 ·simp (disch:=omega) only [oI,h,false_and,decide_false]
section
variable (t:bE Rz)
theorem iz (a b c:Int):aL 99 [.int .i64 a,.int .i64 b,.int .i64 c] t=feed t [.bool (decide (b<=a/\a<=c))]:=aX (NC a b c) (by kernel_rfl) t
theorem kz (a b c:Int):aL 64 [.int .i64 a,.int .i64 b,.int .i64 c] t=feed t [.bool (decide (b<=a/\a<=c))]:=aX (abz a b c) (by kernel_rfl) t
end
set_option maxRecDepth 100000
def GS (xs:List Int):Prop:=∀ x∈xs,Aj x=true
section
variable (t:bE Rz)
theorem Vq (g:Bool) (n:ak) (h:cd n):aL 9 [.agg (ab (some g) n)] t=feed t [enc .node n]:=bI (r:=enc .node n) (s:=.ty .node) (ss:=[.undef]) (Vn g n h) (by kernel_rfl) (av _ _) (by simp only [ah,aI,aj,vg]) (au _ _) rfl t
theorem MH (g h:Bool) (n:ak) (ok:cd n):aL 11 [.agg (ab (some g) n),.agg (ab (some h) n)] t=feed t [.bool true]:=aX (Vo g h n ok) (by kernel_rfl) t
theorem Vr (g:Bool) (n:ak) (left:Int) (h0:0<=left) (h1:left<=1048576) (ln:Ff n):aL 7 [.agg (ab (some g) n),.int .i64 left] t=feed t [.int .i64 (gr n left)]:=aX (Vp g n left h0 h1 ln) (by kernel_rfl) t
end
set_option maxRecDepth 100000
structure abA (n:ak):Prop where
 id:Aj n.id=true
 last:Aj n.mt.last=true
 image:GS n.image
 aK:GS n.mt.aK
 bits:∀ x∈n.mt.bits,GS x
 sync:∀ x∈n.sync,GS x
 wait:GS n.wait
theorem gu (b:Bool):∀ xs:List Int,bP b (ints xs)=ints xs
 | []=>rfl
 | x::xs=>by
  have ih:=gu b xs;simp only [ints] at ih;simp only [ints,aa0,bP,gi,ih]
theorem gg (b:Bool):∀ xs:List UInt8,bP b (bytes xs)=bytes xs
 | []=>rfl
 | x::xs=>by
  have ih:=gg b xs;simp only [bytes] at ih;simp only [bytes,aa0,bP,eM,gi,ih]
theorem jk (b:Bool):∀ xs:List Bool,bP b (aJ xs)=aJ xs
 | []=>rfl
 | x::xs=>by
  have ih:=jk b xs;simp only [aJ] at ih;simp only [aJ,aa0,bP,gi,ih]
theorem gZ (b:Bool):∀ xs:List (List Int),bP b (rows none xs)=rows (some b) xs
 | []=>rfl
 | x::xs=>by
  have ih:=gZ b xs;simp only [rows] at ih;simp only [rows,aa0,bP,gi,ih,gu]
set_option maxRecDepth 100000
section
variable (pr:dA) (cv:Cv Rz) (J:Nat->St->Option Rz)
def Vs (g0:Bool) (n1:Nat) (c2:List D) (i3:Int) (i4:Int):St:=(St.mk [(0,(.sl (some g0) 16 n1 c2)),(1,(.int .i64 i3)),(5,(.int .i64 i4))] [] [] 0)
def Vt (g0:Bool) (n1:Nat) (c2:List D) (i3:Int) (n4:Nat) (c5:List D):St:=(St.mk [(0,(.sl (some g0) 16 n1 c2)),(3,(.ref 10003 [] 0 none)),(4,(.int .i64 i3))] [(10003,[(.sl none 16 n4 c5)])] [] 0)
def jN (g0:Bool) (n1:Nat) (c2:List D) (g3:Bool) (n4:Nat) (c5:List D) (i6:Int):St:=(St.mk [(0,(.sl (some g0) 16 n1 c2)),(1,(.sl (some g3) 16 n4 c5)),(5,(.int .i64 i6))] [] [] 0)
theorem GU:Told cfg Try.prog 48 Try.f48:=⟨by kernel_rfl,Try.func48,by kernel_rfl⟩
theorem GV (g0:Bool) (n0:Nat) (c0:List D) (g1:Bool) (n1:Nat) (c1:List D):aR pr cv J 48 Try.f48 [(.sl (some g0) 16 n0 c0),(.sl (some g1) 16 n1 c1)]=
 (br (br (pr.eq (pr.bc n0) (pr.bc n1)) false true) (some ((.bool false),[.undef,.undef])) (J 0 (jN g0 n0 c0 g1 n1 c1 0))):=by kernel_rfl
theorem sZ (g0:Bool) (n1:Nat) (c2:List D) (g3:Bool) (n4:Nat) (c5:List D) (i6:Int):bR pr cv J 48 Try.f48 [.undef,.undef] 0 (jN g0 n1 c2 g3 n4 c5 i6)=
 (br (pr.lt i6 (pr.bc n1)) (br (pr.bh i6 n1) (br (br (pr.cW .i64 c2 (pr.idx 0 i6 16)) (br (pr.eK c2 ((pr.idx 0 i6 16)+1)) (br (pr.eK c2 ((pr.idx 0 i6 16)+2)) (br (pr.dc 1 c2 ((pr.idx 0 i6 16)+3)) (br (pr.dc 1 c2 ((pr.idx 0 i6 16)+4)) (br (pr.dc 1 c2 ((pr.idx 0 i6 16)+5)) (br (pr.eK c2 ((pr.idx 0 i6 16)+6)) (br (pr.eK c2 ((pr.idx 0 i6 16)+7)) (br (pr.eK c2 ((pr.idx 0 i6 16)+8)) (br (pr.cW .i64 c2 ((pr.idx 0 i6 16)+9)) (br (pr.dc 1 c2 ((pr.idx 0 i6 16)+10)) (br (pr.dc 1 c2 ((pr.idx 0 i6 16)+11)) (br (pr.dc 1 c2 ((pr.idx 0 i6 16)+12)) (br (pr.dc 1 c2 ((pr.idx 0 i6 16)+13)) (br (pr.dc 1 c2 ((pr.idx 0 i6 16)+14)) (br (pr.dc 1 c2 ((pr.idx 0 i6 16)+15)) true false) false) false) false) false) false) false) false) false) false) false) false) false) false) false) false) (br (pr.bh i6 n4) (br (br (pr.cW .i64 c5 (pr.idx 0 i6 16)) (br (pr.eK c5 ((pr.idx 0 i6 16)+1)) (br (pr.eK c5 ((pr.idx 0 i6 16)+2)) (br (pr.dc 1 c5 ((pr.idx 0 i6 16)+3)) (br (pr.dc 1 c5 ((pr.idx 0 i6 16)+4)) (br (pr.dc 1 c5 ((pr.idx 0 i6 16)+5)) (br (pr.eK c5 ((pr.idx 0 i6 16)+6)) (br (pr.eK c5 ((pr.idx 0 i6 16)+7)) (br (pr.eK c5 ((pr.idx 0 i6 16)+8)) (br (pr.cW .i64 c5 ((pr.idx 0 i6 16)+9)) (br (pr.dc 1 c5 ((pr.idx 0 i6 16)+10)) (br (pr.dc 1 c5 ((pr.idx 0 i6 16)+11)) (br (pr.dc 1 c5 ((pr.idx 0 i6 16)+12)) (br (pr.dc 1 c5 ((pr.idx 0 i6 16)+13)) (br (pr.dc 1 c5 ((pr.idx 0 i6 16)+14)) (br (pr.dc 1 c5 ((pr.idx 0 i6 16)+15)) true false) false) false) false) false) false) false) false) false) false) false) false) false) false) false) false) (cv 11 [(.agg [(.int .i64 (pr.bT c2 (pr.idx 0 i6 16))),(.bool (pr.dm c2 ((pr.idx 0 i6 16)+1))),(.bool (pr.dm c2 ((pr.idx 0 i6 16)+2))),(.sl (some (pr.cF c2 ((pr.idx 0 i6 16)+3))) 1 (pr.bf c2 ((pr.idx 0 i6 16)+3)) (pr.bn c2 ((pr.idx 0 i6 16)+3))),(.sl (some (pr.cF c2 ((pr.idx 0 i6 16)+4))) 1 (pr.bf c2 ((pr.idx 0 i6 16)+4)) (pr.bn c2 ((pr.idx 0 i6 16)+4))),(.sl (some (pr.cF c2 ((pr.idx 0 i6 16)+5))) 1 (pr.bf c2 ((pr.idx 0 i6 16)+5)) (pr.bn c2 ((pr.idx 0 i6 16)+5))),(.bool (pr.dm c2 ((pr.idx 0 i6 16)+6))),(.bool (pr.dm c2 ((pr.idx 0 i6 16)+7))),(.bool (pr.dm c2 ((pr.idx 0 i6 16)+8))),(.int .i64 (pr.bT c2 ((pr.idx 0 i6 16)+9))),(.sl (some (pr.cF c2 ((pr.idx 0 i6 16)+10))) 1 (pr.bf c2 ((pr.idx 0 i6 16)+10)) (pr.bn c2 ((pr.idx 0 i6 16)+10))),(.sl (some (pr.cF c2 ((pr.idx 0 i6 16)+11))) 1 (pr.bf c2 ((pr.idx 0 i6 16)+11)) (pr.bn c2 ((pr.idx 0 i6 16)+11))),(.sl (some (pr.cF c2 ((pr.idx 0 i6 16)+12))) 1 (pr.bf c2 ((pr.idx 0 i6 16)+12)) (pr.bn c2 ((pr.idx 0 i6 16)+12))),(.sl (some (pr.cF c2 ((pr.idx 0 i6 16)+13))) 1 (pr.bf c2 ((pr.idx 0 i6 16)+13)) (pr.bn c2 ((pr.idx 0 i6 16)+13))),(.sl (some (pr.cF c2 ((pr.idx 0 i6 16)+14))) 1 (pr.bf c2 ((pr.idx 0 i6 16)+14)) (pr.bn c2 ((pr.idx 0 i6 16)+14))),(.sl (some (pr.cF c2 ((pr.idx 0 i6 16)+15))) 1 (pr.bf c2 ((pr.idx 0 i6 16)+15)) (pr.bn c2 ((pr.idx 0 i6 16)+15)))]),(.agg [(.int .i64 (pr.bT c5 (pr.idx 0 i6 16))),(.bool (pr.dm c5 ((pr.idx 0 i6 16)+1))),(.bool (pr.dm c5 ((pr.idx 0 i6 16)+2))),(.sl (some (pr.cF c5 ((pr.idx 0 i6 16)+3))) 1 (pr.bf c5 ((pr.idx 0 i6 16)+3)) (pr.bn c5 ((pr.idx 0 i6 16)+3))),(.sl (some (pr.cF c5 ((pr.idx 0 i6 16)+4))) 1 (pr.bf c5 ((pr.idx 0 i6 16)+4)) (pr.bn c5 ((pr.idx 0 i6 16)+4))),(.sl (some (pr.cF c5 ((pr.idx 0 i6 16)+5))) 1 (pr.bf c5 ((pr.idx 0 i6 16)+5)) (pr.bn c5 ((pr.idx 0 i6 16)+5))),(.bool (pr.dm c5 ((pr.idx 0 i6 16)+6))),(.bool (pr.dm c5 ((pr.idx 0 i6 16)+7))),(.bool (pr.dm c5 ((pr.idx 0 i6 16)+8))),(.int .i64 (pr.bT c5 ((pr.idx 0 i6 16)+9))),(.sl (some (pr.cF c5 ((pr.idx 0 i6 16)+10))) 1 (pr.bf c5 ((pr.idx 0 i6 16)+10)) (pr.bn c5 ((pr.idx 0 i6 16)+10))),(.sl (some (pr.cF c5 ((pr.idx 0 i6 16)+11))) 1 (pr.bf c5 ((pr.idx 0 i6 16)+11)) (pr.bn c5 ((pr.idx 0 i6 16)+11))),(.sl (some (pr.cF c5 ((pr.idx 0 i6 16)+12))) 1 (pr.bf c5 ((pr.idx 0 i6 16)+12)) (pr.bn c5 ((pr.idx 0 i6 16)+12))),(.sl (some (pr.cF c5 ((pr.idx 0 i6 16)+13))) 1 (pr.bf c5 ((pr.idx 0 i6 16)+13)) (pr.bn c5 ((pr.idx 0 i6 16)+13))),(.sl (some (pr.cF c5 ((pr.idx 0 i6 16)+14))) 1 (pr.bf c5 ((pr.idx 0 i6 16)+14)) (pr.bn c5 ((pr.idx 0 i6 16)+14))),(.sl (some (pr.cF c5 ((pr.idx 0 i6 16)+15))) 1 (pr.bf c5 ((pr.idx 0 i6 16)+15)) (pr.bn c5 ((pr.idx 0 i6 16)+15)))])] (.bool (fun cx=>(.done (br (br cx false true) (some ((.bool false),[.undef,.undef])) (J 0 (jN g0 n1 c2 g3 n4 c5 (pr.ar .add .i64 i6 1)))))))) none) none) none) none) (some ((.bool true),[.undef,.undef]))):=by kernel_rfl
theorem JC:Told cfg Try.prog 86 Try.f86:=⟨by kernel_rfl,Try.func86,by kernel_rfl⟩
theorem JD (a0:Int) (a1:Int) (g2:Bool) (n2:Nat) (c2:List D) (a3:Int) (a4:Int) (g5:Bool) (n5:Nat) (c5:List D):aR pr cv J 86 Try.f86 [(.agg [(.int .i64 a0),(.int .i64 a1),(.sl (some g2) 1 n2 c2)]),(.agg [(.int .i64 a3),(.int .i64 a4),(.sl (some g5) 1 n5 c5)])]=
 let y1:Option (D × List D):=(some ((.bool false),[.undef,.undef]))
 (br (br (pr.eq a0 a3) false true) y1 (br (br (pr.eq a1 a4) false true) y1 (cv 63 [(.sl (some g2) 1 n2 c2),(.sl (some g5) 1 n5 c5)] (.bool (fun cx=>(.done (br (br cx false true) y1 (some ((.bool true),[.undef,.undef]))))))))):=by kernel_rfl
def Vu (g0:Bool) (n1:Nat) (c2:List D) (i3:Int) (i4:Int):St:=(St.mk [(0,(.sl (some g0) 3 n1 c2)),(1,(.int .i64 i3)),(5,(.int .i64 i4))] [] [] 0)
def Vv (g0:Bool) (n1:Nat) (c2:List D) (i3:Int) (n4:Nat) (c5:List D):St:=(St.mk [(0,(.sl (some g0) 3 n1 c2)),(3,(.ref 10003 [] 0 none)),(4,(.int .i64 i3))] [(10003,[(.sl none 3 n4 c5)])] [] 0)
def jO (g0:Bool) (n1:Nat) (c2:List D) (g3:Bool) (n4:Nat) (c5:List D) (i6:Int):St:=(St.mk [(0,(.sl (some g0) 3 n1 c2)),(1,(.sl (some g3) 3 n4 c5)),(5,(.int .i64 i6))] [] [] 0)
theorem GW:Told cfg Try.prog 49 Try.f49:=⟨by kernel_rfl,Try.func49,by kernel_rfl⟩
theorem GX (g0:Bool) (n0:Nat) (c0:List D) (g1:Bool) (n1:Nat) (c1:List D):aR pr cv J 49 Try.f49 [(.sl (some g0) 3 n0 c0),(.sl (some g1) 3 n1 c1)]=
 (br (br (pr.eq (pr.bc n0) (pr.bc n1)) false true) (some ((.bool false),[.undef,.undef])) (J 0 (jO g0 n0 c0 g1 n1 c1 0))):=by kernel_rfl
theorem ta (g0:Bool) (n1:Nat) (c2:List D) (g3:Bool) (n4:Nat) (c5:List D) (i6:Int):bR pr cv J 49 Try.f49 [.undef,.undef] 0 (jO g0 n1 c2 g3 n4 c5 i6)=
 (br (pr.lt i6 (pr.bc n1)) (br (pr.bh i6 n1) (br (br (pr.cW .i64 c2 (pr.idx 0 i6 3)) (br (pr.cW .i64 c2 ((pr.idx 0 i6 3)+1)) (br (pr.dc 1 c2 ((pr.idx 0 i6 3)+2)) true false) false) false) (br (pr.bh i6 n4) (br (br (pr.cW .i64 c5 (pr.idx 0 i6 3)) (br (pr.cW .i64 c5 ((pr.idx 0 i6 3)+1)) (br (pr.dc 1 c5 ((pr.idx 0 i6 3)+2)) true false) false) false) (cv 86 [(.agg [(.int .i64 (pr.bT c2 (pr.idx 0 i6 3))),(.int .i64 (pr.bT c2 ((pr.idx 0 i6 3)+1))),(.sl (some (pr.cF c2 ((pr.idx 0 i6 3)+2))) 1 (pr.bf c2 ((pr.idx 0 i6 3)+2)) (pr.bn c2 ((pr.idx 0 i6 3)+2)))]),(.agg [(.int .i64 (pr.bT c5 (pr.idx 0 i6 3))),(.int .i64 (pr.bT c5 ((pr.idx 0 i6 3)+1))),(.sl (some (pr.cF c5 ((pr.idx 0 i6 3)+2))) 1 (pr.bf c5 ((pr.idx 0 i6 3)+2)) (pr.bn c5 ((pr.idx 0 i6 3)+2)))])] (.bool (fun cx=>(.done (br (br cx false true) (some ((.bool false),[.undef,.undef])) (J 0 (jO g0 n1 c2 g3 n4 c5 (pr.ar .add .i64 i6 1)))))))) none) none) none) none) (some ((.bool true),[.undef,.undef]))):=by kernel_rfl
theorem MI:Told cfg Try.prog 87 Try.f87:=⟨by kernel_rfl,Try.func87,by kernel_rfl⟩
theorem MJ (a0:Int) (a1:Int) (a2:Int) (a3:Int):aR pr cv J 87 Try.f87 [(.agg [(.int .i64 a0),(.int .i64 a1)]),(.agg [(.int .i64 a2),(.int .i64 a3)])]=
 let y1:Option (D × List D):=(some ((.bool false),[.undef,.undef]))
 (br (br (pr.eq a0 a2) false true) y1 (br (br (pr.eq a1 a3) false true) y1 (some ((.bool true),[.undef,.undef])))):=by kernel_rfl
def W9 (g0:Bool) (n1:Nat) (c2:List D) (i3:Int) (n4:Nat) (c5:List D):St:=(St.mk [(0,(.sl (some g0) 2 n1 c2)),(3,(.ref 10003 [] 0 none)),(4,(.int .i64 i3))] [(10003,[(.sl none 2 n4 c5)])] [] 0)
def kA (g0:Bool) (n1:Nat) (c2:List D) (g3:Bool) (n4:Nat) (c5:List D) (i6:Int):St:=(St.mk [(0,(.sl (some g0) 2 n1 c2)),(1,(.sl (some g3) 2 n4 c5)),(5,(.int .i64 i6))] [] [] 0)
theorem JE:Told cfg Try.prog 50 Try.f50:=⟨by kernel_rfl,Try.func50,by kernel_rfl⟩
theorem JF (g0:Bool) (n0:Nat) (c0:List D) (g1:Bool) (n1:Nat) (c1:List D):aR pr cv J 50 Try.f50 [(.sl (some g0) 2 n0 c0),(.sl (some g1) 2 n1 c1)]=
 (br (br (pr.eq (pr.bc n0) (pr.bc n1)) false true) (some ((.bool false),[.undef,.undef])) (J 0 (kA g0 n0 c0 g1 n1 c1 0))):=by kernel_rfl
theorem uR (g0:Bool) (n1:Nat) (c2:List D) (g3:Bool) (n4:Nat) (c5:List D) (i6:Int):bR pr cv J 50 Try.f50 [.undef,.undef] 0 (kA g0 n1 c2 g3 n4 c5 i6)=
 (br (pr.lt i6 (pr.bc n1)) (br (pr.bh i6 n1) (br (br (pr.cW .i64 c2 (pr.idx 0 i6 2)) (br (pr.cW .i64 c2 ((pr.idx 0 i6 2)+1)) true false) false) (br (pr.bh i6 n4) (br (br (pr.cW .i64 c5 (pr.idx 0 i6 2)) (br (pr.cW .i64 c5 ((pr.idx 0 i6 2)+1)) true false) false) (cv 87 [(.agg [(.int .i64 (pr.bT c2 (pr.idx 0 i6 2))),(.int .i64 (pr.bT c2 ((pr.idx 0 i6 2)+1)))]),(.agg [(.int .i64 (pr.bT c5 (pr.idx 0 i6 2))),(.int .i64 (pr.bT c5 ((pr.idx 0 i6 2)+1)))])] (.bool (fun cx=>(.done (br (br cx false true) (some ((.bool false),[.undef,.undef])) (J 0 (kA g0 n1 c2 g3 n4 c5 (pr.ar .add .i64 i6 1)))))))) none) none) none) none) (some ((.bool true),[.undef,.undef]))):=by kernel_rfl
theorem GY:Told cfg Try.prog 18 Try.f18:=⟨by kernel_rfl,Try.func18,by kernel_rfl⟩
theorem GZ (g0:Bool) (n0:Nat) (c0:List D) (g1:Bool) (n1:Nat) (c1:List D) (g2:Bool) (n2:Nat) (c2:List D) (g3:Bool) (n3:Nat) (c3:List D) (a4:Int) (g5:Bool) (n5:Nat) (c5:List D) (g6:Bool) (n6:Nat) (c6:List D) (g7:Bool) (n7:Nat) (c7:List D) (g8:Bool) (n8:Nat) (c8:List D) (a9:Int):aR pr cv J 18 Try.f18 [(.agg [(.sl (some g0) 16 n0 c0),(.sl (some g1) 3 n1 c1),(.sl (some g2) 2 n2 c2),(.sl (some g3) 1 n3 c3),(.int .i64 a4)]),(.agg [(.sl (some g5) 16 n5 c5),(.sl (some g6) 3 n6 c6),(.sl (some g7) 2 n7 c7),(.sl (some g8) 1 n8 c8),(.int .i64 a9)])]=
 let y1:Option (D × List D):=(some ((.bool false),[.undef,.undef]))
 (cv 48 [(.sl (some g0) 16 n0 c0),(.sl (some g5) 16 n5 c5)] (.bool (fun cx=>(.done (br (br cx false true) y1 (cv 49 [(.sl (some g1) 3 n1 c1),(.sl (some g6) 3 n6 c6)] (.bool (fun ku=>(.done (br (br ku false true) y1 (cv 50 [(.sl (some g2) 2 n2 c2),(.sl (some g7) 2 n7 c7)] (.bool (fun iy=>(.done (br (br iy false true) y1 (cv 33 [(.sl (some g3) 1 n3 c3),(.sl (some g8) 1 n8 c8)] (.bool (fun vH=>(.done (br (br vH false true) y1 (br (br (pr.eq a4 a9) false true) y1 (some ((.bool true),[.undef,.undef]))))))))))))))))))))))):=by kernel_rfl
end
theorem G0 (i w:Nat):U.idx 0 (i:Int) w=i*w:=by rw [WY,ack]
section
variable {α:Type} {e:α->List D} {w:Nat} (hw:∀ x,(e x).length=w) {xs:List α} {i k:Nat} (hi:i < xs.length) (hk:k < w)
include hw hi hk
theorem wR (kk:IntKind):U.cW kk (ad e xs) (i*w+k)=U.cW kk (e xs[i]) k:=by simp only [U,mf hw xs hi hk]
theorem tK:U.bT (ad e xs) (i*w+k)=U.bT (e xs[i]) k:=by simp only [U,mf hw xs hi hk]
theorem Ap:U.eK (ad e xs) (i*w+k)=U.eK (e xs[i]) k:=by simp only [U,mf hw xs hi hk]
theorem wS:U.dm (ad e xs) (i*w+k)=U.dm (e xs[i]) k:=by simp only [U,mf hw xs hi hk]
theorem oK (s:Nat):U.dc s (ad e xs) (i*w+k)=U.dc s (e xs[i]) k:=by simp only [U,mf hw xs hi hk]
theorem mC:U.cF (ad e xs) (i*w+k)=U.cF (e xs[i]) k:=by simp only [U,mf hw xs hi hk]
theorem mD:U.bf (ad e xs) (i*w+k)=U.bf (e xs[i]) k:=by simp only [U,mf hw xs hi hk]
theorem mE:U.bn (ad e xs) (i*w+k)=U.bn (e xs[i]) k:=by simp only [U,mf hw xs hi hk]
end
theorem Xa {g:Bool} {xs:List ak} {i:Nat} (h:i < xs.length):U.cW .i64 (ad (ab (some g)) xs) (i*16)=true:=(wR (e:=ab (some g)) (w:=16) (fun _=>rfl) (k:=0) h (by omega) _).trans rfl
theorem Xb {g:Bool} {xs:List ak} {i:Nat} (h:i < xs.length):U.bT (ad (ab (some g)) xs) (i*16)=xs[i].id:=(tK (e:=ab (some g)) (w:=16) (fun _=>rfl) (k:=0) h (by omega)).trans rfl
theorem Xc {g:Bool} {xs:List ak} {i:Nat} (h:i < xs.length):U.eK (ad (ab (some g)) xs) (i*16+1)=true:=(Ap (e:=ab (some g)) (w:=16) (fun _=>rfl) (k:=1) h (by omega)).trans rfl
theorem Xd {g:Bool} {xs:List ak} {i:Nat} (h:i < xs.length):U.dm (ad (ab (some g)) xs) (i*16+1)=xs[i].up:=(wS (e:=ab (some g)) (w:=16) (fun _=>rfl) (k:=1) h (by omega)).trans rfl
theorem Xe {g:Bool} {xs:List ak} {i:Nat} (h:i < xs.length):U.eK (ad (ab (some g)) xs) (i*16+2)=true:=(Ap (e:=ab (some g)) (w:=16) (fun _=>rfl) (k:=2) h (by omega)).trans rfl
theorem Xf {g:Bool} {xs:List ak} {i:Nat} (h:i < xs.length):U.dm (ad (ab (some g)) xs) (i*16+2)=xs[i].fm:=(wS (e:=ab (some g)) (w:=16) (fun _=>rfl) (k:=2) h (by omega)).trans rfl
theorem Xg {g:Bool} {xs:List ak} {i:Nat} (h:i < xs.length):U.dc 1 (ad (ab (some g)) xs) (i*16+3)=true:=(oK (e:=ab (some g)) (w:=16) (fun _=>rfl) (k:=3) h (by omega) _).trans rfl
theorem Xh {g:Bool} {xs:List ak} {i:Nat} (h:i < xs.length):U.cF (ad (ab (some g)) xs) (i*16+3)=g:=(mC (e:=ab (some g)) (w:=16) (fun _=>rfl) (k:=3) h (by omega)).trans rfl
theorem Xi {g:Bool} {xs:List ak} {i:Nat} (h:i < xs.length):U.bf (ad (ab (some g)) xs) (i*16+3)=xs[i].image.length:=(mD (e:=ab (some g)) (w:=16) (fun _=>rfl) (k:=3) h (by omega)).trans rfl
theorem Xj {g:Bool} {xs:List ak} {i:Nat} (h:i < xs.length):U.bn (ad (ab (some g)) xs) (i*16+3)=ints xs[i].image:=(mE (e:=ab (some g)) (w:=16) (fun _=>rfl) (k:=3) h (by omega)).trans rfl
theorem Xk {g:Bool} {xs:List ak} {i:Nat} (h:i < xs.length):U.dc 1 (ad (ab (some g)) xs) (i*16+4)=true:=(oK (e:=ab (some g)) (w:=16) (fun _=>rfl) (k:=4) h (by omega) _).trans rfl
theorem Xl {g:Bool} {xs:List ak} {i:Nat} (h:i < xs.length):U.cF (ad (ab (some g)) xs) (i*16+4)=g:=(mC (e:=ab (some g)) (w:=16) (fun _=>rfl) (k:=4) h (by omega)).trans rfl
theorem Xm {g:Bool} {xs:List ak} {i:Nat} (h:i < xs.length):U.bf (ad (ab (some g)) xs) (i*16+4)=xs[i].mt.aK.length:=(mD (e:=ab (some g)) (w:=16) (fun _=>rfl) (k:=4) h (by omega)).trans rfl
theorem Xn {g:Bool} {xs:List ak} {i:Nat} (h:i < xs.length):U.bn (ad (ab (some g)) xs) (i*16+4)=ints xs[i].mt.aK:=(mE (e:=ab (some g)) (w:=16) (fun _=>rfl) (k:=4) h (by omega)).trans rfl
theorem Xp {g:Bool} {xs:List ak} {i:Nat} (h:i < xs.length):U.dc 1 (ad (ab (some g)) xs) (i*16+5)=true:=(oK (e:=ab (some g)) (w:=16) (fun _=>rfl) (k:=5) h (by omega) _).trans rfl
theorem Xq {g:Bool} {xs:List ak} {i:Nat} (h:i < xs.length):U.cF (ad (ab (some g)) xs) (i*16+5)=g:=(mC (e:=ab (some g)) (w:=16) (fun _=>rfl) (k:=5) h (by omega)).trans rfl
theorem Xr {g:Bool} {xs:List ak} {i:Nat} (h:i < xs.length):U.bf (ad (ab (some g)) xs) (i*16+5)=xs[i].mt.bits.length:=(mD (e:=ab (some g)) (w:=16) (fun _=>rfl) (k:=5) h (by omega)).trans rfl
theorem Xs {g:Bool} {xs:List ak} {i:Nat} (h:i < xs.length):U.bn (ad (ab (some g)) xs) (i*16+5)=rows (some g) xs[i].mt.bits:=(mE (e:=ab (some g)) (w:=16) (fun _=>rfl) (k:=5) h (by omega)).trans rfl
theorem Xt {g:Bool} {xs:List ak} {i:Nat} (h:i < xs.length):U.eK (ad (ab (some g)) xs) (i*16+6)=true:=(Ap (e:=ab (some g)) (w:=16) (fun _=>rfl) (k:=6) h (by omega)).trans rfl
theorem Xu {g:Bool} {xs:List ak} {i:Nat} (h:i < xs.length):U.dm (ad (ab (some g)) xs) (i*16+6)=xs[i].mt.eb:=(wS (e:=ab (some g)) (w:=16) (fun _=>rfl) (k:=6) h (by omega)).trans rfl
theorem Xv {g:Bool} {xs:List ak} {i:Nat} (h:i < xs.length):U.eK (ad (ab (some g)) xs) (i*16+7)=true:=(Ap (e:=ab (some g)) (w:=16) (fun _=>rfl) (k:=7) h (by omega)).trans rfl
theorem Xw {g:Bool} {xs:List ak} {i:Nat} (h:i < xs.length):U.dm (ad (ab (some g)) xs) (i*16+7)=xs[i].mt.bW:=(wS (e:=ab (some g)) (w:=16) (fun _=>rfl) (k:=7) h (by omega)).trans rfl
theorem Xx {g:Bool} {xs:List ak} {i:Nat} (h:i < xs.length):U.eK (ad (ab (some g)) xs) (i*16+8)=true:=(Ap (e:=ab (some g)) (w:=16) (fun _=>rfl) (k:=8) h (by omega)).trans rfl
theorem Xy {g:Bool} {xs:List ak} {i:Nat} (h:i < xs.length):U.dm (ad (ab (some g)) xs) (i*16+8)=xs[i].mt.held:=(wS (e:=ab (some g)) (w:=16) (fun _=>rfl) (k:=8) h (by omega)).trans rfl
theorem Xz {g:Bool} {xs:List ak} {i:Nat} (h:i < xs.length):U.cW .i64 (ad (ab (some g)) xs) (i*16+9)=true:=(wR (e:=ab (some g)) (w:=16) (fun _=>rfl) (k:=9) h (by omega) _).trans rfl
theorem XA {g:Bool} {xs:List ak} {i:Nat} (h:i < xs.length):U.bT (ad (ab (some g)) xs) (i*16+9)=xs[i].mt.last:=(tK (e:=ab (some g)) (w:=16) (fun _=>rfl) (k:=9) h (by omega)).trans rfl
theorem SQ {g:Bool} {xs:List ak} {i:Nat} (h:i < xs.length):U.dc 1 (ad (ab (some g)) xs) (i*16+10)=true:=(oK (e:=ab (some g)) (w:=16) (fun _=>rfl) (k:=10) h (by omega) _).trans rfl
theorem SS {g:Bool} {xs:List ak} {i:Nat} (h:i < xs.length):U.cF (ad (ab (some g)) xs) (i*16+10)=g:=(mC (e:=ab (some g)) (w:=16) (fun _=>rfl) (k:=10) h (by omega)).trans rfl
theorem SU {g:Bool} {xs:List ak} {i:Nat} (h:i < xs.length):U.bf (ad (ab (some g)) xs) (i*16+10)=xs[i].bJ.a.length:=(mD (e:=ab (some g)) (w:=16) (fun _=>rfl) (k:=10) h (by omega)).trans rfl
theorem SV {g:Bool} {xs:List ak} {i:Nat} (h:i < xs.length):U.bn (ad (ab (some g)) xs) (i*16+10)=bytes xs[i].bJ.a:=(mE (e:=ab (some g)) (w:=16) (fun _=>rfl) (k:=10) h (by omega)).trans rfl
theorem SW {g:Bool} {xs:List ak} {i:Nat} (h:i < xs.length):U.dc 1 (ad (ab (some g)) xs) (i*16+11)=true:=(oK (e:=ab (some g)) (w:=16) (fun _=>rfl) (k:=11) h (by omega) _).trans rfl
theorem SX {g:Bool} {xs:List ak} {i:Nat} (h:i < xs.length):U.cF (ad (ab (some g)) xs) (i*16+11)=g:=(mC (e:=ab (some g)) (w:=16) (fun _=>rfl) (k:=11) h (by omega)).trans rfl
theorem SY {g:Bool} {xs:List ak} {i:Nat} (h:i < xs.length):U.bf (ad (ab (some g)) xs) (i*16+11)=xs[i].bJ.b.length:=(mD (e:=ab (some g)) (w:=16) (fun _=>rfl) (k:=11) h (by omega)).trans rfl
theorem SZ {g:Bool} {xs:List ak} {i:Nat} (h:i < xs.length):U.bn (ad (ab (some g)) xs) (i*16+11)=bytes xs[i].bJ.b:=(mE (e:=ab (some g)) (w:=16) (fun _=>rfl) (k:=11) h (by omega)).trans rfl
theorem S5 {g:Bool} {xs:List ak} {i:Nat} (h:i < xs.length):U.dc 1 (ad (ab (some g)) xs) (i*16+12)=true:=(oK (e:=ab (some g)) (w:=16) (fun _=>rfl) (k:=12) h (by omega) _).trans rfl
theorem S6 {g:Bool} {xs:List ak} {i:Nat} (h:i < xs.length):U.cF (ad (ab (some g)) xs) (i*16+12)=g:=(mC (e:=ab (some g)) (w:=16) (fun _=>rfl) (k:=12) h (by omega)).trans rfl
theorem S7 {g:Bool} {xs:List ak} {i:Nat} (h:i < xs.length):U.bf (ad (ab (some g)) xs) (i*16+12)=xs[i].conn.length:=(mD (e:=ab (some g)) (w:=16) (fun _=>rfl) (k:=12) h (by omega)).trans rfl
theorem S8 {g:Bool} {xs:List ak} {i:Nat} (h:i < xs.length):U.bn (ad (ab (some g)) xs) (i*16+12)=aJ xs[i].conn:=(mE (e:=ab (some g)) (w:=16) (fun _=>rfl) (k:=12) h (by omega)).trans rfl
theorem S9 {g:Bool} {xs:List ak} {i:Nat} (h:i < xs.length):U.dc 1 (ad (ab (some g)) xs) (i*16+13)=true:=(oK (e:=ab (some g)) (w:=16) (fun _=>rfl) (k:=13) h (by omega) _).trans rfl
theorem Ta {g:Bool} {xs:List ak} {i:Nat} (h:i < xs.length):U.cF (ad (ab (some g)) xs) (i*16+13)=g:=(mC (e:=ab (some g)) (w:=16) (fun _=>rfl) (k:=13) h (by omega)).trans rfl
theorem Tb {g:Bool} {xs:List ak} {i:Nat} (h:i < xs.length):U.bf (ad (ab (some g)) xs) (i*16+13)=xs[i].sync.length:=(mD (e:=ab (some g)) (w:=16) (fun _=>rfl) (k:=13) h (by omega)).trans rfl
theorem Tc {g:Bool} {xs:List ak} {i:Nat} (h:i < xs.length):U.bn (ad (ab (some g)) xs) (i*16+13)=rows (some g) xs[i].sync:=(mE (e:=ab (some g)) (w:=16) (fun _=>rfl) (k:=13) h (by omega)).trans rfl
theorem Td {g:Bool} {xs:List ak} {i:Nat} (h:i < xs.length):U.dc 1 (ad (ab (some g)) xs) (i*16+14)=true:=(oK (e:=ab (some g)) (w:=16) (fun _=>rfl) (k:=14) h (by omega) _).trans rfl
theorem Te {g:Bool} {xs:List ak} {i:Nat} (h:i < xs.length):U.cF (ad (ab (some g)) xs) (i*16+14)=g:=(mC (e:=ab (some g)) (w:=16) (fun _=>rfl) (k:=14) h (by omega)).trans rfl
theorem Tf {g:Bool} {xs:List ak} {i:Nat} (h:i < xs.length):U.bf (ad (ab (some g)) xs) (i*16+14)=xs[i].bC.length:=(mD (e:=ab (some g)) (w:=16) (fun _=>rfl) (k:=14) h (by omega)).trans rfl
theorem Tg {g:Bool} {xs:List ak} {i:Nat} (h:i < xs.length):U.bn (ad (ab (some g)) xs) (i*16+14)=aJ xs[i].bC:=(mE (e:=ab (some g)) (w:=16) (fun _=>rfl) (k:=14) h (by omega)).trans rfl
theorem Th {g:Bool} {xs:List ak} {i:Nat} (h:i < xs.length):U.dc 1 (ad (ab (some g)) xs) (i*16+15)=true:=(oK (e:=ab (some g)) (w:=16) (fun _=>rfl) (k:=15) h (by omega) _).trans rfl
theorem Ti {g:Bool} {xs:List ak} {i:Nat} (h:i < xs.length):U.cF (ad (ab (some g)) xs) (i*16+15)=g:=(mC (e:=ab (some g)) (w:=16) (fun _=>rfl) (k:=15) h (by omega)).trans rfl
theorem Tj {g:Bool} {xs:List ak} {i:Nat} (h:i < xs.length):U.bf (ad (ab (some g)) xs) (i*16+15)=xs[i].wait.length:=(mD (e:=ab (some g)) (w:=16) (fun _=>rfl) (k:=15) h (by omega)).trans rfl
theorem Tk {g:Bool} {xs:List ak} {i:Nat} (h:i < xs.length):U.bn (ad (ab (some g)) xs) (i*16+15)=ints xs[i].wait:=(mE (e:=ab (some g)) (w:=16) (fun _=>rfl) (k:=15) h (by omega)).trans rfl
theorem XB {g:Bool} {xs:List cD} {i:Nat} (h:i < xs.length):U.cW .i64 (ad (bj (some g)) xs) (i*3)=true:=(wR (e:=bj (some g)) (w:=3) (fun _=>rfl) (k:=0) h (by omega) _).trans rfl
theorem XC {g:Bool} {xs:List cD} {i:Nat} (h:i < xs.length):U.bT (ad (bj (some g)) xs) (i*3)=xs[i].src:=(tK (e:=bj (some g)) (w:=3) (fun _=>rfl) (k:=0) h (by omega)).trans rfl
theorem XD {g:Bool} {xs:List cD} {i:Nat} (h:i < xs.length):U.cW .i64 (ad (bj (some g)) xs) (i*3+1)=true:=(wR (e:=bj (some g)) (w:=3) (fun _=>rfl) (k:=1) h (by omega) _).trans rfl
theorem XE {g:Bool} {xs:List cD} {i:Nat} (h:i < xs.length):U.bT (ad (bj (some g)) xs) (i*3+1)=xs[i].dst:=(tK (e:=bj (some g)) (w:=3) (fun _=>rfl) (k:=1) h (by omega)).trans rfl
theorem XF {g:Bool} {xs:List cD} {i:Nat} (h:i < xs.length):U.dc 1 (ad (bj (some g)) xs) (i*3+2)=true:=(oK (e:=bj (some g)) (w:=3) (fun _=>rfl) (k:=2) h (by omega) _).trans rfl
theorem XG {g:Bool} {xs:List cD} {i:Nat} (h:i < xs.length):U.cF (ad (bj (some g)) xs) (i*3+2)=g:=(mC (e:=bj (some g)) (w:=3) (fun _=>rfl) (k:=2) h (by omega)).trans rfl
theorem XH {g:Bool} {xs:List cD} {i:Nat} (h:i < xs.length):U.bf (ad (bj (some g)) xs) (i*3+2)=xs[i].bytes.length:=(mD (e:=bj (some g)) (w:=3) (fun _=>rfl) (k:=2) h (by omega)).trans rfl
theorem XI {g:Bool} {xs:List cD} {i:Nat} (h:i < xs.length):U.bn (ad (bj (some g)) xs) (i*3+2)=bytes xs[i].bytes:=(mE (e:=bj (some g)) (w:=3) (fun _=>rfl) (k:=2) h (by omega)).trans rfl
theorem XJ {g:Bool} {xs:List ff} {i:Nat} (h:i < xs.length):U.cW .i64 (ad (cJ (some g)) xs) (i*2)=true:=(wR (e:=cJ (some g)) (w:=2) (fun _=>rfl) (k:=0) h (by omega) _).trans rfl
theorem XK {g:Bool} {xs:List ff} {i:Nat} (h:i < xs.length):U.bT (ad (cJ (some g)) xs) (i*2)=xs[i].cell:=(tK (e:=cJ (some g)) (w:=2) (fun _=>rfl) (k:=0) h (by omega)).trans rfl
theorem XL {g:Bool} {xs:List ff} {i:Nat} (h:i < xs.length):U.cW .i64 (ad (cJ (some g)) xs) (i*2+1)=true:=(wR (e:=cJ (some g)) (w:=2) (fun _=>rfl) (k:=1) h (by omega) _).trans rfl
theorem XM {g:Bool} {xs:List ff} {i:Nat} (h:i < xs.length):U.bT (ad (cJ (some g)) xs) (i*2+1)=xs[i].up:=(tK (e:=cJ (some g)) (w:=2) (fun _=>rfl) (k:=1) h (by omega)).trans rfl
section
variable {A L B:List D} {m k:Nat} {d:D}
theorem Fi (hA:A.length=m) (hk:k < L.length):List.set (A++(L++B)) (m+k) d=A++(L.set k d++B):=by
 subst hA;rw [aev _ _ (by omega),List.set_append_left _ _ (by omega)]
 simp
theorem G1 (hA:A.length=m) (hk:0 < L.length):List.set (A++(L++B)) m d=A++(L.set 0 d++B):=Fi (k:=0) hA hk
theorem Aq (hA:A.length=m) (hk:k < L.length):(A++(L++B))[m+k]?=L[k]?:=by
 subst hA;rw [aed (by omega),ad1 (by omega)]
 simp
theorem By (hA:A.length=m) (hk:k < L.length):U.slot (A++(L++B)) (m+k)=U.slot L k:=by simp only [U,Aq hA hk]
theorem Dn (hA:A.length=m) (hk:0 < L.length):U.slot (A++(L++B)) m=U.slot L 0:=By (k:=0) hA hk
theorem O2 (s:Nat) (hA:A.length=m) (hk:k < L.length):U.jC s (A++(L++B)) (m+k)=U.jC s L k:=by simp only [U,Aq hA hk]
theorem Tl (hA:A.length=m) (hk:k < L.length):U.pC (A++(L++B)) (m+k)=U.pC L k:=by simp only [U,Aq hA hk]
theorem O3 (hA:A.length=m) (hk:k < L.length):U.bf (A++(L++B)) (m+k)=U.bf L k:=by simp only [U,Aq hA hk]
theorem O4 (hA:A.length=m) (hk:k < L.length):U.bn (A++(L++B)) (m+k)=U.bn L k:=by simp only [U,Aq hA hk]
theorem Qv (hk:0 < L.length):U.ne (A++(L++B))=true:=by
 simp only [U];cases A with
 | nil=>cases L with
  | nil=>simp at hk
  | cons _ _=>rfl
 | cons _ _=>rfl
theorem G2 (l:List D) (n:Nat):U.slot (d::l) (n+1)=U.slot l n:=rfl
theorem G3 (l:List D) (kk:IntKind) (x:Int):U.slot (.int kk x::l) 0=true:=rfl
theorem YP (l:List D) (x:Bool):U.slot (.bool x::l) 0=true:=rfl
theorem O5 (s:Nat) (l:List D) (n:Nat):U.jC s (d::l) (n+1)=U.jC s l n:=rfl
theorem O6 (l c:List D) (n:Nat):U.jC 1 (.sl none 1 n c::l) 0=true:=rfl
theorem O7 (l:List D) (n:Nat):U.pC (d::l) (n+1)=U.pC l n:=rfl
theorem Tm (l c:List D) (n:Nat):U.pC (.sl none 1 n c::l) 0=true:=rfl
theorem O8 (l:List D) (n:Nat):U.bf (d::l) (n+1)=U.bf l n:=rfl
theorem O9 (l c:List D) (n:Nat):U.bf (.sl none 1 n c::l) 0=n:=rfl
theorem Pa (l:List D) (n:Nat):U.bn (d::l) (n+1)=U.bn l n:=rfl
theorem Pb (l c:List D) (n:Nat):U.bn (.sl none 1 n c::l) 0=c:=rfl
end
theorem vZ {α:Type} {e:α->List D} {w:Nat} (hw:∀ x,(e x).length=w) (xs:List α):(ad e xs).length=xs.length*w:=by
 induction xs with
 | nil=>simp [ad]
 | cons x xs ih=>
  have h:ad e (x::xs)=e x++ad e xs:=by simp [ad]
  rw [h,aab,hw,ih,abc,Nat.succ_mul];omega
theorem MK {α:Type} (e:α->List D) (xs ys:List α):ad e (xs++ys)=ad e xs++ad e ys:=by simp [ad]
theorem ads {α:Type} (e:α->List D) {xs:List α} {i:Nat} (h:i < xs.length):ad e xs=ad e (xs.take i)++(e xs[i]++ad e (xs.drop (i+1))):=by
 have e1:xs.take i++xs[i]::xs.drop (i+1)=xs:=by rw [adW h,aeb]
 have h2:ad e (xs[i]::xs.drop (i+1))=e xs[i]++ad e (xs.drop (i+1)):=by simp only [ad,ab8]
 rw [<- h2,<- MK,e1]
theorem afq {α:Type} (e:α->List D) {xs:List α} {i:Nat} (h:i < xs.length) (x:α):ad e (xs.set i x)=ad e (xs.take i)++(e x++ad e (xs.drop (i+1))):=by
 have e1:xs.set i x=xs.take i++x::xs.drop (i+1):=List.set_eq_take_append_cons_drop.trans (if_pos h);have h2:ad e (x::xs.drop (i+1))=e x++ad e (xs.drop (i+1)):=by simp [ad]
 rw [e1,MK,h2]
theorem aet {α:Type} (e:α->List D) (z:List D) (x:α) (h:z.map qQ=e x) (n:Nat):eg n z=ad e (List.replicate n x):=by
 unfold eg ad;rw [h];simp [List.flatMap]
def afr:ak:=⟨0,false,false,[],⟨[],[],false,false,false,0⟩,⟨[],[]⟩,[],[],[],[]⟩
theorem Fj:∀ l:List D,U.nl l=bV l:=fun _=>rfl
theorem ND (a b:List D):bV (a++b)=(bV a&&bV b):=by
 induction a with
 | nil=>simp [bV]
 | cons x a ih=>simp [bV,ih,Bool.and_assoc]
theorem Ar {α:Type} {e:α->List D} (h:∀ x,U.nl (e x)=true) (xs:List α):U.nl (ad e xs)=true:=by
 induction xs with
 | nil=>rfl
 | cons x xs ih=>
  have h1:ad e (x::xs)=e x++ad e xs:=by simp [ad]
  rw [h1,Fj,ND,<- Fj,<- Fj,h,ih];rfl
theorem XN (xs:List ak):U.nl (ad (ab none) xs)=true:=Ar (fun x=>by
 have h1:=kq; have h2:=Fc; have h3:=eR; have h4:=KN;simp only [Fj] at h1 h2 h3 h4 ⊢;simp only [bV,bQ,h1,h2,h3,h4,vg]) xs
theorem XO (xs:List cD):U.nl (ad (bj none) xs)=true:=Ar (fun x=>by
 have h3:=eR;simp only [Fj] at h3 ⊢;simp only [bV,bQ,h3,vg]) xs
theorem XP (g:Option Bool) (xs:List ff):U.nl (ad (cJ g) xs)=true:=Ar (fun _=>rfl) xs
def gv (x:cD):Prop:=x.bytes.length<=1048576
structure nW (w:ck):Prop where
 nodes:w.nodes.length<=1048576
 node:∀ n∈w.nodes,cd n
 cX:w.cX.length<=1048576
 qe:∀ x∈w.cX,gv x
 log:w.log.length<=1048576
 safe:w.safe.length<=1048576
theorem Vw (g h:Bool) (x:cD) (ok:gv x):Cm 86 [.agg (bj (some g) x),.agg (bj (some h) x)] (.bool true,[.undef,.undef]):=by
 unfold gv at ok;refine Cm.fin JC fun J=>?_;rw [JD];simp (disch:=omega) only [IS,aF,aq,decide_true,aG,aY,fU]
theorem YQ (g h:Option Bool) (x:ff):Cm 87 [.agg (cJ g x),.agg (cJ h x)] (.bool true,[.undef,.undef]):=by
 refine Cm.fin MI fun J=>?_;rw [MJ];simp (disch:=omega) only [aG,aY,fU]
def abB (x:cD):Prop:=x.bytes.length<=140737488355328
def rq (x:cD) (l:Int):Int:=jd (fH x.bytes.length l) fun l=>l
theorem Qw {x:cD} {l:Int} (h:0<=l) (hm:l<=1048576):rq x l<=l/\-1<=rq x l/\(0<=rq x l->gv x):=by
 have:=gO (k:=fun l=>l) h (oJ (n:=x.bytes.length) h hm) fun h3=>Fg h3;exact ⟨this.1,this.2.1,fun hh=>(this.2.2 hh).1⟩
theorem Qx {x:ak} {l:Int} (h:0<=l) (hm:l<=1048576):gr x l<=l/\-1<=gr x l/\(0<=gr x l->cd x):=Qu h hm
section
variable (t:bE Rz)
theorem Vx (g h:Bool) (x:cD) (ok:gv x):aL 86 [.agg (bj (some g) x),.agg (bj (some h) x)] t=feed t [.bool true]:=aX (Vw g h x ok) (by kernel_rfl) t
theorem YR (a b:Int):aL 87 [.agg [.int .i64 a,.int .i64 b],.agg [.int .i64 a,.int .i64 b]] t=feed t [.bool true]:=aX (YQ none none ⟨a,b⟩) (by kernel_rfl) t
end
theorem Tn (g h:Bool) (xs:List ak) (hb:xs.length<=1048576) (ok:∀ x∈xs,cd x):Cm 48 [.sl (some g) 16 xs.length (ad (ab (some g)) xs),.sl (some h) 16 xs.length (ad (ab (some h)) xs)] (.bool true,[.undef,.undef]):=by
 refine Cm.go GU [.undef,.undef] 0 (jN g xs.length (ad (ab (some g)) xs) h xs.length (ad (ab (some h)) xs) (0:Nat)) ?_ fun J hJ=>?_
 ·refine WP.loop (H:=fun i=>jN g xs.length (ad (ab (some g)) xs) h xs.length (ad (ab (some h)) xs) (i:Nat)) (n:=xs.length) (fun _=>True) (fun i hi _ ih=>WP.go _ (ih trivial) fun J hJ=>?_) (fun _=>WP.fin fun J=>?_) 0 (abh _) trivial
  ·rw [sZ];have hx:=ok _ (aaT hi);simp (disch:=first | omega | assumption) only [aG,aY,ba,bl,aB,aP,bA,G0,Xa,Xb,Xc,Xd,Xe,Xf,Xg,Xh,Xi,Xj,Xk,Xl,Xm,Xn,Xp,Xq,Xr,Xs,Xt,Xu,Xv,Xw,Xx,Xy,Xz,XA,SQ,SS,SU,SV,SW,SX,SY,SZ,S5,S6,S7,S8,S9,Ta,Tb,Tc,Td,Te,Tf,Tg,Th,Ti,Tj,Tk,MH,aF,aq,dg]
   exact hJ
  ·rw [sZ];simp (disch:=omega) only [aG,aY,aB,bo]
 ·rw [GV];simp (disch:=omega) only [aG,aY,aB,bl,bO,fU];exact hJ
theorem To (g h:Bool) (xs:List cD) (hb:xs.length<=1048576) (ok:∀ x∈xs,gv x):Cm 49 [.sl (some g) 3 xs.length (ad (bj (some g)) xs),.sl (some h) 3 xs.length (ad (bj (some h)) xs)] (.bool true,[.undef,.undef]):=by
 refine Cm.go GW [.undef,.undef] 0 (jO g xs.length (ad (bj (some g)) xs) h xs.length (ad (bj (some h)) xs) (0:Nat)) ?_ fun J hJ=>?_
 ·refine WP.loop (H:=fun i=>jO g xs.length (ad (bj (some g)) xs) h xs.length (ad (bj (some h)) xs) (i:Nat)) (n:=xs.length) (fun _=>True) (fun i hi _ ih=>WP.go _ (ih trivial) fun J hJ=>?_) (fun _=>WP.fin fun J=>?_) 0 (abh _) trivial
  ·rw [ta];have hx:=ok _ (aaT hi);simp (disch:=first | omega | assumption) only [aG,aY,ba,bl,aB,aP,bA,G0,XB,XC,XD,XE,XF,XG,XH,XI,Vx,aF,aq,dg]
   exact hJ
  ·rw [ta];simp (disch:=omega) only [aG,aY,aB,bo]
 ·rw [GX];simp (disch:=omega) only [aG,aY,aB,bl,bO,fU];exact hJ
theorem Vy (g h:Bool) (xs:List ff) (hb:xs.length<=1048576):Cm 50 [.sl (some g) 2 xs.length (ad (cJ (some g)) xs),.sl (some h) 2 xs.length (ad (cJ (some h)) xs)] (.bool true,[.undef,.undef]):=by
 refine Cm.go JE [.undef,.undef] 0 (kA g xs.length (ad (cJ (some g)) xs) h xs.length (ad (cJ (some h)) xs) (0:Nat)) ?_ fun J hJ=>?_
 ·refine WP.loop (H:=fun i=>kA g xs.length (ad (cJ (some g)) xs) h xs.length (ad (cJ (some h)) xs) (i:Nat)) (n:=xs.length) (fun _=>True) (fun i hi _ ih=>WP.go _ (ih trivial) fun J hJ=>?_) (fun _=>WP.fin fun J=>?_) 0 (abh _) trivial
  ·rw [uR];have hx:=hi;simp (disch:=first | omega | assumption) only [aG,aY,ba,bl,aB,aP,bA,G0,XJ,XK,XL,XM,YR,aF,aq,dg]
   exact hJ
  ·rw [uR];simp (disch:=omega) only [aG,aY,aB,bo]
 ·rw [JF];simp (disch:=omega) only [aG,aY,aB,bl,bO,fU];exact hJ
def yj (xs:List ak) (l:Int):Int:=jd (fH xs.length l) (vI gr xs)
def yk (xs:List cD) (l:Int):Int:=jd (fH xs.length l) (vI rq xs)
set_option maxRecDepth 100000
section
variable (t:bE Rz)
theorem Tp (g h:Bool) (xs:List ak) (hb:xs.length<=1048576) (ok:∀ x∈xs,cd x):aL 48 [sN (some g) xs,sN (some h) xs] t=feed t [.bool true]:=aX (Tn g h xs hb ok) (by kernel_rfl) t
theorem Tq (g h:Bool) (xs:List cD) (hb:xs.length<=1048576) (ok:∀ x∈xs,gv x):aL 49 [sW (some g) xs,sW (some h) xs] t=feed t [.bool true]:=aX (To g h xs hb ok) (by kernel_rfl) t
theorem Vz (g h:Bool) (xs:List ff) (hb:xs.length<=1048576):aL 50 [sK (some g) xs,sK (some h) xs] t=feed t [.bool true]:=aX (Vy g h xs hb) (by kernel_rfl) t
end
theorem Tr (g h:Bool) (w:ck) (ok:nW w):Cm 18 [.agg (lI (some g) w),.agg (lI (some h) w)] (.bool true,[.undef,.undef]):=by
 have h1:=ok.nodes; have h2:=ok.cX; have h3:=ok.log; have h4:=ok.safe;refine Cm.fin GY fun J=>?_;rw [GZ];simp (disch:=first | omega | exact ok.node | exact ok.qe) only [Tp,Tq,Vz,uP,aF,aq,decide_true,aG,aY,fU]
structure af4 (w:ck):Prop where
 nodes:w.nodes.length<=140737488355328
 node:∀ n∈w.nodes,Ff n
 cX:w.cX.length<=140737488355328
 qe:∀ x∈w.cX,abB x
 log:w.log.length<=140737488355328
 safe:w.safe.length<=140737488355328
def afs (w:ck) (l:Int):Int:=jd (yj w.nodes l) fun l=>jd (yk w.cX l) fun l=>jd (fH w.log.length l) fun l=>jd (fH w.safe.length l) fun l=>l
theorem iM {v l:Int} {k:Int->Int} (hv:v<=l/\-1<=v) (hl:0<=l) (hk:0<=v->k v<=v/\-1<=k v):jd v k<=l/\-1<=jd v k:=by
 unfold jd;split
 ·omega
 ·have:=hk (by omega); omega
theorem mF {n:Nat} {l:Int} (h:0<=l):fH n l<=l/\-1<=fH n l:=⟨(ky h).1,(ky h).2.1⟩
theorem Pc {α:Type} {f:α->Int->Int} (hf:∀ x l,0<=l->f x l<=l/\-1<=f x l):∀ (xs:List α) (l:Int),0<=l->vI f xs l<=l/\-1<=vI f xs l
 | [],l,h=>⟨Int.le_refl _,by show -1<=l; omega⟩
 | x::xs,l,h=>iM (hf x l h) h fun h1=>Pc hf xs _ h1
theorem Pd {xss:List (List Int)} {l:Int} (h:0<=l):wQ xss l<=l/\-1<=wQ xss l:=iM (mF h) h fun h1=>Pc (fun _ _ hl=>mF hl) _ _ h1
theorem Cp {n:ak} {l:Int} (h:0<=l):gr n l<=l/\-1<=gr n l:=by
 refine iM (mF h) h fun h=>iM ?_ h fun h=>iM ?_ h fun h=>iM (mF h) h fun h=>iM (Pd h) h fun h=>iM (mF h) h fun h=>iM (mF h) h fun h=>?_
 ·exact iM (mF h) h fun h=>iM (Pd h) h fun h=>by omega
 ·exact iM (mF h) h fun h=>iM (mF h) h fun h=>by omega
 ·omega
theorem acC {xs:List ak} {l:Int} (h:0<=l) (hm:l<=1048576):yj xs l<=l/\-1<=yj xs l/\(0<=yj xs l->xs.length<=1048576/\∀ x∈xs,cd x):=by
 refine gO h (oJ h hm) fun h1=>?_;have h2:=ky (n:=xs.length) h;exact Fe (f:=gr) (Q:=cd) (fun x l hl=>by
  by_cases hm:l<=1048576
  ·obtain ⟨a,b,c⟩:=Qx (x:=x) hl hm;exact ⟨a,b,fun hh _=>c hh⟩
  ·refine ⟨?_,?_,fun _ Sc=>absurd Sc hm⟩
   ·exact (Cp hl).1
   ·exact (Cp hl).2) xs _ h1 (by omega)
theorem acD {xs:List cD} {l:Int} (h:0<=l) (hm:l<=1048576):yk xs l<=l/\-1<=yk xs l/\(0<=yk xs l->xs.length<=1048576/\∀ x∈xs,gv x):=by
 refine gO h (oJ h hm) fun h1=>?_;have h2:=ky (n:=xs.length) h;exact Fe (f:=rq) (Q:=gv) (fun x l hl=>by
  by_cases hm:l<=1048576
  ·obtain ⟨a,b,c⟩:=Qw (x:=x) hl hm;exact ⟨a,b,fun hh _=>c hh⟩
  ·have h3:rq x l<=l/\-1<=rq x l:=iM (k:=fun l=>l) (mF hl) hl fun h=>by show (_:Int)<=_/\_; omega
   exact ⟨h3.1,h3.2,fun _ Sc=>absurd Sc hm⟩) xs _ h1 (by omega)
section
variable (t:bE Rz)
theorem Ts (g h:Bool) (w:ck) (ok:nW w):aL 18 [.agg (lI (some g) w),.agg (lI (some h) w)] t=feed t [.bool true]:=aX (Tr g h w ok) (by kernel_rfl) t
end
structure af5 (w:ck):Prop where
 node:∀ n∈w.nodes,abA n
 src:∀ x∈w.cX,Aj x.src=true/\Aj x.dst=true
 aky:∀ x∈w.log,Aj x.cell=true/\Aj x.up=true
 safe:GS w.safe
 gen:Aj w.gen=true
theorem VA (n:ak) (b:Bool):bP b (ab none n)=ab (some b) n:=by
 simp only [bP,gi,gu,gZ,gg,jk]
theorem ML (b:Bool):∀ x y:List D,bP b (x++y)=bP b x++bP b y
 | [],_=>rfl
 | d::x,y=>by rw [aaE,bP,bP,ML b x y]; rfl
theorem vJ {α:Type} {e e':α->List D} {b:Bool} (h:∀ x,bP b (e x)=e' x):∀ xs:List α,bP b (ad e xs)=ad e' xs
 | []=>rfl
 | x::xs=>by
  have h1:∀ f:α->List D,ad f (x::xs)=f x++ad f xs:=fun f=>by simp [ad]
  rw [h1,h1,ML,h,vJ h xs]
theorem abC (b:Bool) (xs:List ak):bP b (ad (ab none) xs)=ad (ab (some b)) xs:=vJ (fun n=>VA n b) xs
theorem abD (b:Bool) (xs:List cD):bP b (ad (bj none) xs)=ad (bj (some b)) xs:=vJ (fun n=>by simp only [bP,gi,gg]) xs
theorem abE (b:Bool) (xs:List ff):bP b (ad (cJ none) xs)=ad (cJ (some b)) xs:=vJ (fun n=>by simp only [bP,gi]) xs
end Go.Proofs.Ytockoilcnmljiaa
