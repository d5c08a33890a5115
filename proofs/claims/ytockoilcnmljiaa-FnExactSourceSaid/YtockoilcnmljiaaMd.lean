/- What the proof of FnExactSource stands on, part 4: an abstract machine on plain data, its soundness, and the contracts of functions. -/
import Derived.Test.YtockoilcnmljiaaChecked
import Derived.KernelRfl
import Derived.SizedLaws
import Derived.ChangeOld
import Derived.Test.YtockoilcnmljiaaMc
set_option linter.all false
set_option linter.unusedSimpArgs false
set_option linter.unusedVariables false
set_option linter.unnecessarySimpa false
set_option linter.unusedSectionVars false
namespace Go.Proofs.Ytockoilcnmljiaa
def bs (l:List UInt8):ByteArray:=⟨l.toArray⟩
def ints (xs:List Int):List D:=xs.map (.int .i64)
def bytes (xs:List UInt8):List D:=xs.map ef
def aH (xs:List Bool):List D:=xs.map .bool
def ah {α:Type} (e:α→List D) (xs:List α):List D:=xs.flatMap e
structure aK where
  aA:List Int
  bits:List (List Int)
  bY:Bool
  bQ:Bool
  held:Bool
  last:Int
structure aG where
  a:List UInt8
  b:List UInt8
structure af where
  id:Int
  up:Bool
  bD:Bool
  image:List Int
  mt:aK
  cP:aG
  conn:List Bool
  sync:List (List Int)
  bA:List Bool
  wait:List Int
abbrev sI (g:Option Bool) (xs:List Int):D:=.sl g 1 xs.length (ints xs)
abbrev s8 (g:Option Bool) (xs:List UInt8):D:=.sl g 1 xs.length (bytes xs)
abbrev sB (g:Option Bool) (xs:List Bool):D:=.sl g 1 xs.length (aH xs)
def rows (g:Option Bool) (xss:List (List Int)):List D:=xss.map fun xs=>.sl g 1 xs.length (ints xs)
abbrev sR (g:Option Bool) (xss:List (List Int)):D:=.sl g 1 xss.length (rows g xss)
abbrev cn (g:Option Bool) (m:aK):List D:=[sI g m.aA,sR g m.bits,.bool m.bY,.bool m.bQ,.bool m.held,.int .i64 m.last]
abbrev dg (g:Option Bool) (s:aG):List D:=[s8 g s.a,s8 g s.b]
abbrev ab (g:Option Bool) (n:af):List D:=[.int .i64 n.id,.bool n.up,.bool n.bD,sI g n.image,sI g n.mt.aA,sR g n.mt.bits,.bool n.mt.bY,.bool n.mt.bQ,.bool n.mt.held,.int .i64 n.mt.last,s8 g n.cP.a,s8 g n.cP.b,sB g n.conn,sR g n.sync,sB g n.bA,sI g n.wait]
structure eA where
  src:Int
  dst:Int
  bytes:List UInt8
structure gz where
  cell:Int
  up:Int
structure aN where
  nodes:List af
  cX:List eA
  log:List gz
  safe:List Int
  gen:Int
abbrev bR (g:Option Bool) (x:eA):List D:=[.int .i64 x.src,.int .i64 x.dst,s8 g x.bytes]
abbrev da (_:Option Bool) (r:gz):List D:=[.int .i64 r.cell,.int .i64 r.up]
abbrev sN (g:Option Bool) (xs:List af):D:=.sl g 16 xs.length (ah (ab g) xs)
abbrev sW (g:Option Bool) (xs:List eA):D:=.sl g 3 xs.length (ah (bR g) xs)
abbrev sK (g:Option Bool) (xs:List gz):D:=.sl g 2 xs.length (ah (da g) xs)
abbrev eU (g:Option Bool) (w:aN):List D:=[sN g w.nodes,sW g w.cX,sK g w.log,sI g w.safe,.int .i64 w.gen]
structure sY where
  kind:Int
  cell:Int
  val:Int
  YG:Int
  aA:List Int
structure wk where
  src:Int
  dst:Int
  msg:sY
structure oT where
  kind:Int
  a:Int
  b:Int
abbrev D2 (g:Option Bool) (m:sY):List D:=[.int .i64 m.kind,.int .i64 m.cell,.int .i64 m.val,.int .i64 m.YG,sI g m.aA]
abbrev zK (g:Option Bool) (p:wk):List D:=[.int .i64 p.src,.int .i64 p.dst,.int .i64 p.msg.kind,.int .i64 p.msg.cell,.int .i64 p.msg.val,.int .i64 p.msg.YG,sI g p.msg.aA]
abbrev zL (_:Option Bool) (d:oT):List D:=[.int .i64 d.kind,.int .i64 d.a,.int .i64 d.b]
abbrev sP (g:Option Bool) (xs:List wk):D:=.sl g 7 xs.length (ah (zK g) xs)
abbrev sM (g:Option Bool) (xs:List sY):D:=.sl g 5 xs.length (ah (D2 g) xs)
abbrev sD (g:Option Bool) (xs:List oT):D:=.sl g 3 xs.length (ah (zL g) xs)
inductive gU where
  | I | B | L | R | mt | cP | node | msg | post | world | Nv | yD | Ns | Ws | Ks | Ps | Ms | Ds
abbrev gU.T:gU→Type
  | .I=>List Int
  | .B=>List UInt8
  | .L=>List Bool
  | .R=>List (List Int)
  | .mt=>aK
  | .cP=>aG
  | .node=>af
  | .msg=>sY
  | .post=>wk
  | .world=>aN
  | .Nv=>oT
  | .yD=>eA
  | .Ns=>List af
  | .Ws=>List eA
  | .Ks=>List gz
  | .Ps=>List wk
  | .Ms=>List sY
  | .Ds=>List oT
def enc:(k:gU)→k.T→D
  | .I,x=>sI none x
  | .B,x=>s8 none x
  | .L,x=>sB none x
  | .R,x=>sR none x
  | .mt,x=>.agg (cn none x)
  | .cP,x=>.agg (dg none x)
  | .node,x=>.agg (ab none x)
  | .msg,x=>.agg (D2 none x)
  | .post,x=>.agg (zK none x)
  | .world,x=>.agg (eU none x)
  | .Nv,x=>.agg (zL none x)
  | .yD,x=>.agg (bR none x)
  | .Ns,x=>sN none x
  | .Ws,x=>sW none x
  | .Ks,x=>sK none x
  | .Ps,x=>sP none x
  | .Ms,x=>sM none x
  | .Ds,x=>sD none x
theorem map_inj {α:Type} {f:α→D} (h:∀ a b,f a=f b→a=b):∀ {xs ys:List α},xs.map f=ys.map f→xs=ys
  | [],[],_=>rfl
  | [],_::_,e=>by simp at e
  | _::_,[],e=>by simp at e
  | x::xs,y::ys,e=>by
    simp only [List.map_cons,List.cons.injEq] at e
    rw [h _ _ e.1,map_inj h e.2]
theorem kW {xs ys:List Int} (h:ints xs=ints ys):xs=ys:=map_inj (fun a b e=>by simpa using e) h
theorem bytes_inj {xs ys:List UInt8} (h:bytes xs=bytes ys):xs=ys:=map_inj (fun a b e=>by
  simp only [ef,D.int.injEq,true_and] at e
  exact UInt8.toNat_inj.1 (by omega)) h
theorem yE {xs ys:List Bool} (h:aH xs=aH ys):xs=ys:=map_inj (fun a b e=>by simpa using e) h
theorem wm {g:Option Bool} {xs ys:List (List Int)} (h:rows g xs=rows g ys):xs=ys:=map_inj (fun a b e=>by
  simp only [D.sl.injEq] at e
  exact kW e.2.2.2) h
theorem JL {α:Type} {e:α→List D} {w:Nat} (hw:∀ x,(e x).length=w) (h:∀ a b,e a=e b→a=b):∀ {xs ys:List α},xs.length=ys.length→ah e xs=ah e ys→xs=ys
  | [],[],_,_=>rfl
  | [],_::_,hl,_=>by simp at hl
  | _::_,[],hl,_=>by simp at hl
  | x::xs,y::ys,hl,he=>by
    simp only [ah,List.flatMap_cons] at he
    have h1:=List.append_inj he (by rw [hw,hw])
    rw [h _ _ h1.1,JL hw h (by simpa using hl) h1.2]
theorem Pp {g:Option Bool} {a b:aK} (h:cn g a=cn g b):a=b:=by
  obtain ⟨a1,a2,a3,a4,a5,a6⟩:=a
  obtain ⟨b1,b2,b3,b4,b5,b6⟩:=b
  simp only [List.cons.injEq,D.sl.injEq,D.bool.injEq,D.int.injEq,true_and,and_true] at h
  rw [kW h.1.2,wm h.2.1.2,h.2.2.1,h.2.2.2.1,h.2.2.2.2.1,h.2.2.2.2.2]
theorem Nw {g:Option Bool} {a b:aG} (h:dg g a=dg g b):a=b:=by
  obtain ⟨a1,a2⟩:=a
  obtain ⟨b1,b2⟩:=b
  simp only [List.cons.injEq,D.sl.injEq,true_and,and_true] at h
  rw [bytes_inj h.1.2,bytes_inj h.2.2]
theorem yF {g:Option Bool} {a b:af} (h:ab g a=ab g b):a=b:=by
  obtain ⟨a1,a2,a3,a4,a5,⟨a6,a7⟩,a8,a9,a10,a11⟩:=a
  obtain ⟨b1,b2,b3,b4,b5,⟨b6,b7⟩,b8,b9,hZ,b11⟩:=b
  obtain ⟨c1,c2,c3,c4,c5,c6⟩:=a5
  obtain ⟨d1,d2,d3,d4,d5,d6⟩:=b5
  simp only [List.cons.injEq,D.sl.injEq,D.bool.injEq,D.int.injEq,true_and,and_true] at h
  obtain ⟨h1,h2,h3,⟨_,h4⟩,⟨_,h5⟩,⟨_,h6⟩,h7,h8,h9,lh,⟨_,Iu⟩,⟨_,Xi⟩,⟨_,h13⟩,⟨_,h14⟩,⟨_,h15⟩,⟨_,h16⟩⟩:=h
  rw [h1,h2,h3,kW h4,kW h5,wm h6,h7,h8,h9,lh,bytes_inj Iu,bytes_inj Xi,yE h13,wm h14,yE h15,kW h16]
theorem yG {g:Option Bool} {a b:eA} (h:bR g a=bR g b):a=b:=by
  obtain ⟨a1,a2,a3⟩:=a
  obtain ⟨b1,b2,b3⟩:=b
  simp only [List.cons.injEq,D.sl.injEq,D.int.injEq,true_and,and_true] at h
  rw [h.1,h.2.1,bytes_inj h.2.2.2]
theorem JM {g:Option Bool} {a b:gz} (h:da g a=da g b):a=b:=by
  obtain ⟨a1,a2⟩:=a
  obtain ⟨b1,b2⟩:=b
  simp only [List.cons.injEq,D.int.injEq,true_and,and_true] at h
  rw [h.1,h.2]
theorem JN {g:Option Bool} {a b:sY} (h:D2 g a=D2 g b):a=b:=by
  obtain ⟨a1,a2,a3,a4,a5⟩:=a
  obtain ⟨b1,b2,b3,b4,b5⟩:=b
  simp only [List.cons.injEq,D.sl.injEq,D.int.injEq,true_and,and_true] at h
  rw [h.1,h.2.1,h.2.2.1,h.2.2.2.1,kW h.2.2.2.2.2]
theorem FQ {g:Option Bool} {a b:wk} (h:zK g a=zK g b):a=b:=by
  obtain ⟨x,y,⟨a1,a2,a3,a4,a5⟩⟩:=a
  obtain ⟨z,w,⟨b1,b2,b3,b4,b5⟩⟩:=b
  simp only [List.cons.injEq,D.sl.injEq,D.int.injEq,true_and,and_true] at h
  rw [h.1,h.2.1,h.2.2.1,h.2.2.2.1,h.2.2.2.2.1,h.2.2.2.2.2.1,kW h.2.2.2.2.2.2.2]
theorem FR {g:Option Bool} {a b:oT} (h:zL g a=zL g b):a=b:=by
  obtain ⟨a1,a2,a3⟩:=a
  obtain ⟨b1,b2,b3⟩:=b
  simp only [List.cons.injEq,D.int.injEq,true_and,and_true] at h
  rw [h.1,h.2.1,h.2.2]
theorem oU {α:Type} {e:α→List D} {w s:Nat} (hw:∀ x,(e x).length=w) (h:∀ a b,e a=e b→a=b) {xs ys:List α} (he:D.sl none s xs.length (ah e xs)=.sl none s ys.length (ah e ys)):xs=ys:=by
  simp only [D.sl.injEq,true_and] at he
  exact JL hw h he.1 he.2
theorem V8:∀ {k:gU} {x y:k.T},enc k x=enc k y→x=y
  | .I,_,_,h=>kW (D.sl.inj h).2.2.2
  | .B,_,_,h=>bytes_inj (D.sl.inj h).2.2.2
  | .L,_,_,h=>yE (D.sl.inj h).2.2.2
  | .R,_,_,h=>wm (D.sl.inj h).2.2.2
  | .mt,_,_,h=>Pp (D.agg.inj h)
  | .cP,_,_,h=>Nw (D.agg.inj h)
  | .node,_,_,h=>yF (D.agg.inj h)
  | .msg,_,_,h=>JN (D.agg.inj h)
  | .post,_,_,h=>FQ (D.agg.inj h)
  | .world,x,y,h=>by
    obtain ⟨a1,a2,a3,a4,a5⟩:=x
    obtain ⟨b1,b2,b3,b4,b5⟩:=y
    have h:=D.agg.inj h
    simp only [List.cons.injEq,D.int.injEq,true_and,and_true] at h
    rw [oU (w:=16) (fun _=>rfl) (fun _ _=>yF) h.1,oU (w:=3) (fun _=>rfl) (fun _ _=>yG) h.2.1,oU (w:=2) (fun _=>rfl) (fun _ _=>JM) h.2.2.1,kW (D.sl.inj h.2.2.2.1).2.2.2,h.2.2.2.2]
  | .Nv,_,_,h=>FR (g:=none) (D.agg.inj h)
  | .yD,_,_,h=>yG (D.agg.inj h)
  | .Ns,_,_,h=>oU (w:=16) (fun _=>rfl) (fun _ _=>yF) h
  | .Ws,_,_,h=>oU (w:=3) (fun _=>rfl) (fun _ _=>yG) h
  | .Ks,_,_,h=>oU (w:=2) (fun _=>rfl) (fun _ _=>JM) h
  | .Ps,_,_,h=>oU (w:=7) (fun _=>rfl) (fun _ _=>FQ) h
  | .Ms,_,_,h=>oU (w:=5) (fun _=>rfl) (fun _ _=>JN) h
  | .Ds,_,_,h=>oU (w:=3) (fun _=>rfl) (fun _ _=>FR (g:=none)) h
theorem vb {ds:List D} (h:∀ d∈ds,bL d=true):bP ds=true:=by
  induction ds with
  | nil=>rfl
  | cons d ds ih=>
    simp only [bP,Bool.and_eq_true]
    exact ⟨h d (by simp),ih fun x hx=>h x (by simp [hx])⟩
theorem qk (xs:List Int):bP (ints xs)=true:=vb (by intro d hd; obtain ⟨a,_,rfl⟩:=List.mem_map.1 hd; rfl)
theorem zM (xs:List UInt8):bP (bytes xs)=true:=vb (by intro d hd; obtain ⟨a,_,rfl⟩:=List.mem_map.1 hd; rfl)
theorem Nx (xs:List Bool):bP (aH xs)=true:=vb (by intro d hd; obtain ⟨a,_,rfl⟩:=List.mem_map.1 hd; rfl)
theorem H3 (xs:List (List Int)):bP (rows none xs)=true:=vb (by intro d hd; obtain ⟨a,_,rfl⟩:=List.mem_map.1 hd; simp [bL,qk])
theorem rJ {α:Type} {e:α→List D} (h:∀ x,bP (e x)=true) (xs:List α):bP (ah e xs)=true:=vb (by
  intro d hd
  obtain ⟨a,_,ha⟩:=List.mem_flatMap.1 hd
  have:=h a
  generalize e a=l at this ha
  induction l with
  | nil=>simp at ha
  | cons x l ih=>
    simp only [bP,Bool.and_eq_true] at this
    rcases List.mem_cons.1 ha with rfl | ha
    · exact this.1
    · exact ih this.2 ha)
theorem Us (x:af):bP (ab none x)=true:=by simp [bP,bL,qk,zM,Nx,H3]
theorem Ut (x:eA):bP (bR none x)=true:=by simp [bP,bL,zM]
theorem Uu (x:gz):bP (da none x)=true:=by simp [bP,bL]
theorem aax (x:wk):bP (zK none x)=true:=by simp [bP,bL,qk]
theorem aay (x:sY):bP (D2 none x)=true:=by simp [bP,bL,qk]
theorem aaz (x:oT):bP (zL none x)=true:=by simp [bP,bL]
theorem av:∀ (k:gU) (x:k.T),dA (enc k x)=true
  | .I,x=>by simp [dA,enc,bN,cS,eX,bL,qk]
  | .B,x=>by simp [dA,enc,bN,cS,eX,bL,zM]
  | .L,x=>by simp [dA,enc,bN,cS,eX,bL,Nx]
  | .R,x=>by simp [dA,enc,bN,cS,eX,bL,H3]
  | .mt,x=>by simp [dA,enc,bN,cS,eX,bL,qk,H3]
  | .cP,x=>by simp [dA,enc,bN,cS,eX,bL,zM]
  | .node,x=>by simp [dA,enc,bN,cS,eX,bL,qk,zM,Nx,H3]
  | .msg,x=>by simp [dA,enc,bN,cS,eX,bL,qk]
  | .post,x=>by simp [dA,enc,bN,cS,eX,bL,qk]
  | .world,x=>by simp [dA,enc,bN,cS,eX,bL,qk,rJ Us,rJ Ut,rJ Uu]
  | .Nv,x=>by simp [dA,enc,bN,cS,eX,bL]
  | .yD,x=>by simp [dA,enc,bN,cS,eX,bL,zM]
  | .Ns,x=>by simp [dA,enc,bN,cS,eX,bL,rJ Us]
  | .Ws,x=>by simp [dA,enc,bN,cS,eX,bL,rJ Ut]
  | .Ks,x=>by simp [dA,enc,bN,cS,eX,bL,rJ Uu]
  | .Ps,x=>by simp [dA,enc,bN,cS,eX,bL,rJ aax]
  | .Ms,x=>by simp [dA,enc,bN,cS,eX,bL,rJ aay]
  | .Ds,x=>by simp [dA,enc,bN,cS,eX,bL,rJ aaz]
def L8 (v:D):Bool:=(match v with | .agg cs=>cs | d=>[d]).all fun x=>eX x&&bL x
theorem aS:dA (.aR [])=true:=rfl
theorem aT (v:D) (vs:List D):dA (.aR (v::vs))=(L8 v&&dA (.aR vs)):=by
  simp only [dA,bN,cS,List.flatMap_cons,List.all_append,L8]
  rfl
theorem bl (k:gU) (x:k.T):L8 (enc k x)=true:=by
  have:=av k x
  cases k<;>exact this
theorem bm (k:IntKind) (n:Int):L8 (.int k n)=true:=rfl
theorem aU (b:Bool):L8 (.bool b)=true:=rfl
theorem bn (b:ByteArray):L8 (.str b)=true:=rfl
end Go.Proofs.Ytockoilcnmljiaa
namespace Go.Proofs.Ytockoilcnmljiaa
inductive RS where
  | int (k:IntKind)
  | bool
  | str
  | sl (s:Nat)
  | iT (s:Nat)
  | undef
  | agg (l:List RS)
  | aR (l:List RS)
  | aM (l:List RS)
  | ty (k:gU)
inductive bJ (R:Type) where
  | done (x:Option R)
  | int (f:Int→bJ R)
  | bool (f:Bool→bJ R)
  | str (f:ByteArray→bJ R)
  | sl (f:Nat→List D→bJ R)
  | iT (f:Bool→Nat→List D→bJ R)
  | ty (k:gU) (f:k.T→bJ R)
section
variable {R:Type}
mutual
def oV:RS→(D→bJ R)→bJ R
  | .int k,f=>.int fun x=>f (.int k x)
  | .bool,f=>.bool fun x=>f (.bool x)
  | .str,f=>.str fun x=>f (.str x)
  | .sl s,f=>.sl fun n cs=>f (.sl none s n cs)
  | .iT s,f=>.iT fun _ n cs=>f (.sl (some false) s n cs)
  | .undef,f=>f .undef
  | .agg l,f=>yH l fun ds=>f (.agg ds)
  | .aR l,f=>yH l fun ds=>f (.aR ds)
  | .aM l,f=>yH l fun ds=>f (.aM ds)
  | .ty k,f=>.ty k fun x=>f (enc k x)
def yH:List RS→(List D→bJ R)→bJ R
  | [],f=>f []
  | s::ss,f=>oV s fun d=>yH ss fun ds=>f (d::ds)
end
open Classical in
noncomputable def feed:bJ R→List D→Option R
  | .done x,_=>x
  | .int f,.int _ n::l=>feed (f n) l
  | .bool f,.bool b::l=>feed (f b) l
  | .str f,.str s::l=>feed (f s) l
  | .sl f,.sl none _ n cs::l=>feed (f n cs) l
  | .iT f,.sl (some g) _ n cs::l=>feed (f g n cs) l
  | .ty k f,d::l=>if h:∃ x,d=enc k x then feed (f (Classical.choose h)) l else none
  | _,_=>none
end
mutual
def pW:D→List D
  | .agg ds=>uq ds
  | .aR ds=>uq ds
  | .aM ds=>uq ds
  | .undef=>[]
  | d=>[d]
def uq:List D→List D
  | []=>[]
  | d::ds=>pW d++uq ds
end
open Classical in
mutual
noncomputable def eK:RS→D→Bool
  | .int k,.int k' _=>eN k k'
  | .bool,.bool _=>true
  | .str,.str _=>true
  | .sl s,.sl none s' _ _=>s==s'
  | .iT s,.sl (some false) s' _ _=>s==s'
  | .undef,.undef=>true
  | .agg l,.agg ds=>iU l ds
  | .aR l,.aR ds=>iU l ds
  | .aM l,.aM ds=>iU l ds
  | .ty k,d=>decide (∃ x,d=enc k x)
  | _,_=>false
noncomputable def iU:List RS→List D→Bool
  | [],[]=>true
  | s::ss,d::ds=>eK s d&&iU ss ds
  | _,_=>false
end
open Classical in
theorem aw (k:gU) (x:k.T):eK (.ty k) (enc k x)=true:=by
  simp only [eK]
  exact decide_eq_true ⟨x,rfl⟩
theorem bo (k:IntKind) (n:Int):eK (.int k) (.int k n)=true:=by simp [eK,eN]
theorem aV (b:Bool):eK .bool (.bool b)=true:=by simp [eK]
theorem bp (b:ByteArray):eK .str (.str b)=true:=by simp [eK]
theorem bq (l:List RS) (ds:List D):eK (.aR l) (.aR ds)=iU l ds:=by simp [eK]
theorem ak:iU [] []=true:=by simp [iU]
theorem ai (s:RS) (ss:List RS) (d:D) (ds:List D):iU (s::ss) (d::ds)=(eK s d&&iU ss ds):=by simp [iU]
theorem aI:eK .undef .undef=true:=by simp [eK]
mutual
def fG:RS→D→List D
  | .agg l,.agg ds=>mj l ds
  | .aR l,.aR ds=>mj l ds
  | .aM l,.aM ds=>mj l ds
  | .undef,_=>[]
  | _,d=>[d]
def mj:List RS→List D→List D
  | s::ss,d::ds=>fG s d++mj ss ds
  | _,_=>[]
end
mutual
def sZ:RS→Bool
  | .ty _=>true
  | .agg l=>ta l
  | .aR l=>ta l
  | .aM l=>ta l
  | _=>false
def ta:List RS→Bool
  | []=>false
  | s::ss=>sZ s||ta ss
end
mutual
theorem JO:∀ {s:RS} {d:D},eK s d=true→sZ s=false→fG s d=pW d
  | .int k,d,h,_=>by cases d<;>simp [eK,eN] at h; simp [fG,pW]
  | .bool,d,h,_=>by cases d<;>simp [eK] at h; simp [fG,pW]
  | .str,d,h,_=>by cases d<;>simp [eK] at h; simp [fG,pW]
  | .sl s,d,h,_=>by cases d<;>simp [eK] at h; simp [fG,pW]
  | .iT s,d,h,_=>by cases d<;>simp [eK] at h; simp [fG,pW]
  | .undef,d,h,_=>by cases d<;>simp [eK] at h; simp [fG,pW]
  | .ty k,d,h,ht=>by simp [sZ] at ht
  | .agg ss,d,h,ht=>by
    cases d with
    | agg ds=>rw [fG,pW]; exact qK (by simpa [eK] using h) (by simpa [sZ] using ht)
    | _=>simp [eK] at h
  | .aR ss,d,h,ht=>by
    cases d with
    | aR ds=>rw [fG,pW]; exact qK (by simpa [eK] using h) (by simpa [sZ] using ht)
    | _=>simp [eK] at h
  | .aM ss,d,h,ht=>by
    cases d with
    | aM ds=>rw [fG,pW]; exact qK (by simpa [eK] using h) (by simpa [sZ] using ht)
    | _=>simp [eK] at h
theorem qK:∀ {ss:List RS} {ds:List D},iU ss ds=true→ta ss=false→mj ss ds=uq ds
  | [],ds,h,_=>by
    cases ds with
    | nil=>rfl
    | cons d ds=>simp [iU] at h
  | s::ss,ds,h,ht=>by
    cases ds with
    | nil=>simp [iU] at h
    | cons d ds=>
      simp only [iU,Bool.and_eq_true] at h
      simp only [ta,Bool.or_eq_false_iff] at ht
      rw [mj,uq,JO h.1 ht.1,qK h.2 ht.2]
end
section
variable {R:Type}
open Classical in
theorem L9 (k:gU) (f:k.T→bJ R) (x:k.T) (l:List D):feed (.ty k f) (enc k x::l)=feed (f x) l:=by
  have h:∃ y,enc k x=enc k y:=⟨x,rfl⟩
  have e:Classical.choose h=x:=(V8 (Classical.choose_spec h)).symm
  show (if h:∃ y,enc k x=enc k y then feed (f (Classical.choose h)) l else none)=_
  rw [dif_pos h,e]
mutual
theorem qL:∀ {s:RS} {d:D} (f:D→bJ R) (l:List D),eK s d=true→feed (oV s f) (fG s d++l)=feed (f d) l
  | .int k,d,f,l,h=>by
    cases d<;>simp [eK,eN] at h
    subst h
    simp [oV,fG,feed]
  | .bool,d,f,l,h=>by
    cases d<;>simp [eK] at h
    simp [oV,fG,feed]
  | .str,d,f,l,h=>by
    cases d<;>simp [eK] at h
    simp [oV,fG,feed]
  | .sl s,d,f,l,h=>by
    cases d with
    | sl g s' n cs=>cases g with
      | none=>simp [eK] at h; subst h; simp [oV,fG,feed]
      | some g=>simp [eK] at h
    | _=>simp [eK] at h
  | .iT s,d,f,l,h=>by
    cases d with
    | sl g s' n cs=>cases g with
      | none=>simp [eK] at h
      | some g=>cases g with
        | true=>simp [eK] at h
        | false=>simp [eK] at h; subst h; simp [oV,fG,feed]
    | _=>simp [eK] at h
  | .undef,d,f,l,h=>by
    cases d<;>simp [eK] at h
    simp [oV,fG]
  | .agg ss,d,f,l,h=>by
    cases d with
    | agg ds=>rw [oV,fG]; exact kM _ l (by simpa [eK] using h)
    | _=>simp [eK] at h
  | .aR ss,d,f,l,h=>by
    cases d with
    | aR ds=>rw [oV,fG]; exact kM _ l (by simpa [eK] using h)
    | _=>simp [eK] at h
  | .aM ss,d,f,l,h=>by
    cases d with
    | aM ds=>rw [oV,fG]; exact kM _ l (by simpa [eK] using h)
    | _=>simp [eK] at h
  | .ty k,d,f,l,h=>by
    have h:∃ x,d=enc k x:=by simpa [eK] using h
    obtain ⟨x,rfl⟩:=h
    rw [oV,fG,List.singleton_append]
    · exact L9 k _ x l
    all_goals simp
theorem kM:∀ {ss:List RS} {ds:List D} (f:List D→bJ R) (l:List D),iU ss ds=true→feed (yH ss f) (mj ss ds++l)=feed (f ds) l
  | [],ds,f,l,h=>by
    cases ds with
    | nil=>rfl
    | cons d ds=>simp [iU] at h
  | s::ss,ds,f,l,h=>by
    cases ds with
    | nil=>simp [iU] at h
    | cons d ds=>
      simp only [iU,Bool.and_eq_true] at h
      rw [yH,mj,List.append_assoc,qL _ _ h.1,kM _ _ h.2]
end
end
noncomputable def kj (c:cf) (P:Program) (f:FuncId) (ds:List D):Option (D × List D):=by
  classical exact if h:∃ r,Comes c P f ds r then some (Classical.choose h) else none
theorem Sr {c:cf} {P:Program} {f:FuncId} {ds:List D} {r:D × List D} (h:kj c P f ds=some r):Comes c P f ds r:=by
  unfold kj at h
  split at h
  · rename_i hh
    rw [Option.some.injEq] at h
    rw [← h]
    exact Classical.choose_spec hh
  · simp at h
theorem Pq {c:cf} {P:Program} {f:FuncId} {ds:List D} {r r':D × List D} (h:Comes c P f ds r) (h':Comes c P f ds r'):r=r':=by
  obtain ⟨k,hk⟩:=Ev.and h h'
  have h3:=hk k (Nat.le_refl _)
  exact Option.some.inj (h3.1.symm.trans h3.2)
theorem JP {c:cf} {P:Program} {f:FuncId} {ds:List D} {r:D × List D} (h:Comes c P f ds r):kj c P f ds=some r:=by
  unfold kj
  rw [dif_pos ⟨r,h⟩]
  exact congrArg some (Pq (Classical.choose_spec (⟨r,h⟩:∃ r,Comes c P f ds r)) h)
structure Sg where
  sig:FuncId→Option (RS × List RS)
  em:FuncId→Bool
abbrev Cv (R:Type):=FuncId→List D→bJ R→Option R
noncomputable def ed {R:Type} (c:cf) (P:Program) (sg:Sg):Cv R:=fun g ds t=>
  if g=999999 then feed t ds else
  match kj c P g ds,sg.sig g with
  | some (r,outs),some (s,ss)=>if eK s r&&iU ss outs&&(!(sZ s||ta ss)||(dA r&&outs.all dA)) then feed t (fG s r++(mj ss outs++[])) else none
  | _,_=>none
theorem aaA {R:Type} {c:cf} {P:Program} {sg:Sg} {g:FuncId} {ds:List D} {r:D} {outs:List D} (t:bJ R) (h:Comes c P g ds (r,outs)) (hs:(match sg.sig g with | some (s,ss)=>eK s r&&iU ss outs&&!(sZ s||ta ss) | none=>false)=true) (hg:g≠999999):ed c P sg g ds t=feed t (pW r++(uq outs++[])):=by
  unfold ed
  rw [if_neg hg,JP h]
  split at hs
  · rename_i s ss hg
    rw [hg]
    simp only [Bool.and_eq_true,Bool.not_eq_true',Bool.or_eq_false_iff] at hs
    simp only [hs,Bool.and_self,Bool.or_self,Bool.not_false,Bool.true_or,if_true]
    rw [JO hs.1.1 hs.2.1,qK hs.1.2 hs.2.2]
  · simp at hs
theorem aaB {R:Type} {c:cf} {P:Program} {sg:Sg} {g:FuncId} {ds:List D} {r:D} {outs:List D} {s:RS} {ss:List RS} (t:bJ R) (h:Comes c P g ds (r,outs)) (hs:sg.sig g=some (s,ss)) (h1:eK s r=true) (h2:iU ss outs=true) (h3:dA r=true) (h4:outs.all dA=true) (hg:g≠999999):ed c P sg g ds t=feed t (fG s r++(mj ss outs++[])):=by
  unfold ed
  rw [if_neg hg,JP h,hs]
  simp only [h1,h2,h3,h4,Bool.and_self,Bool.or_true,if_true]
def St.JQ (st:St) (r p:Nat) (zs:List D):Option St:=
  match lk st.rt r with
  | some l=>match l[p]? with
    | some (.sl none s n _)=>some { st with rt:=Pg st.rt r (l.set p (.sl none s n zs)) }
    | _=>none
  | none=>none
theorem K1 {st:St} {r p:Nat} {ys:List D} (h:st.cells r [p]=some ys):st.JQ r p ys=some st:=by
  unfold St.cells at h
  unfold St.JQ
  split at h
  case h_2=>simp at h
  rename_i l hl
  simp only [ks] at h
  split at h
  case h_2=>simp at h
  rename_i s n xs hp
  simp only [Option.some.injEq] at h
  subst h
  simp only [hl,hp]
  have e:l.set p (.sl none s n xs)=l:=by
    apply List.ext_getElem?
    intro i
    rw [List.getElem?_set]
    split
    · rename_i hi
      subst hi
      rw [if_pos (List.getElem?_eq_some_iff.1 hp).1,hp]
    · rfl
  rw [e,Bq _ _ _ hl]
section
variable {R:Type} (pr:cT) (c:cf) (sg:Sg) (cv:Cv R) (J:Nat→St→Option R) (ax:FuncId)
def H4 (bS:St) (t:Bool) (dst:Option Nat) (r:D) (k:St→Option R):Option R:=
  match dst with
  | some i=>k ((bS.oA (bS.of+i) (if t then gf true r else r)).1.put (some i) (bS.oA (bS.of+i) (if t then gf true r else r)).2)
  | none=>k bS
def CS (st:St) (r p:Nat) (k:St→Option R):Option R:=
  match st.cells r [p] with
  | some ys=>cv 999999 [.sl none 0 0 ys] (.sl fun _ zs=>.done (match st.JQ r p zs with
    | some st'=>k st'
    | none=>none))
  | none=>k st
def CT (st:St) (dst:Option Nat) (g:FuncId) (args:List D) (k:St→Option R):Option R:=
  if g=999999 then none else
  match lg st (c.own g) args,sg.sig g with
  | some (ds,aE),some (s,ss)=>
    br (if nB (c.own g) ds then true else Ur pr (c.own g) ds)
    (cv g (if nB (c.own g) ds then jm (c.own g) ds else ds) (oV s fun r=>yH ss fun outs=>.done (br (match sZ s||ta ss with | true=>true | false=>AG pr r&&outs.all (AG pr))
      (match mi pr aE id (c.own g) args (if nB (c.own g) ds then outs.map (gf true) else outs) with
        | some (q,bS)=>br q (H4 bS (nB (c.own g) ds) dst r k) none
        | none=>none) none))) none
  | _,_=>none
def yI (st:St) (dst:Option Nat) (g:FuncId) (sz r p o:Nat) (rest:List D) (k:St→Option R):Option R:=
  if g=999999 then none else
  match st.cells r [p],sg.sig g,(c.own g).headD false&&!(c.own g).tail.any id with
  | some cs,some (s,ss),true=>
    match st.gH r [p] o (.hole sz (pr.cg cs o)) with
    | some aE=>match sa aE (c.own g).tail rest with
      | some H5=>
        br (pr.rj sz cs o) (br (pr.nl (pr.cq cs o))
        (cv g (.sl none sz (pr.cg cs o) (pr.cq cs o)::H5) (oV s fun res=>yH ss fun outs=>.done (br (AG pr res&&outs.all (AG pr))
          (match outs with
            | .sl none YH n' cs'::_=>if sz=YH∧outs.length=rest.length+1 then (match (st.eG (cb r [p] o false)).gH r [p] o (.sl none YH n' cs') with
              | some bS=>br (pr.neq (pr.cg cs o) n') (CS cv bS r p fun bS=>H4 bS false dst res k) none
              | none=>none) else none
            | _=>none) none))) none) none
      | none=>none
    | none=>none
  | _,_,_=>none
def H6 (st:St) (o:Oper) (k:St→Option R):St→Option R:=
  if sg.em ax then (match o.op with
    | .store _ a _=>(match bW c st o.type a with
      | .ptr r [p] _=>fun st'=>CS cv st' r p k
      | _=>k)
    | _=>k) else k
def Ny (st:St) (o:Oper) (k:St→Option R):Option R:=
  match o.op with
  | .call cc=>match cc.callee with
    | .value f=>if cc.args.size≠cc.argTypes.size then none else match bW c st o.type f with
      | .fn g gb=>if c.inl g then none else match sg.em ax,((cc.args.toList.zip cc.argTypes.toList).map fun p=>bW c st p.2 p.1)++gb with
        | true,.ref r [p] o' none::rest=>yI pr c sg cv st o.dst g (c.esz (cc.argTypes.toList.headD 0)) r p o' rest k
        | _,args=>CT pr c sg cv st o.dst g args k
      | _=>none
    | _=>LZ pr c (fun _ _=>none) u9 ax st o k
  | _=>match (if sg.em ax then YD pr c st o else none) with
    | some (g,st')=>br g (H6 c sg cv ax st o k st') none
    | none=>LZ pr c (fun _ _=>none) u9 ax st o (H6 c sg cv ax st o k)
def CU (st:St) (o:Oper) (k:St→Option R):Option R:=
  match uF c ax st o with
  | true=>Ny pr c sg cv ax st o k
  | false=>none
def mO (all:Array Oper):List Oper→St→(St→Option R)→Option R
  | [],st,k=>k st
  | o::rest,st,k=>match o.guard with
    | none=>CU pr c sg cv ax st o fun st'=>mO all rest st' k
    | some (j,want)=>match (all[j]?).bind (·.dst) with
      | some t=>match st.get t with
        | .bool b=>match want with
          | true=>br b (CU pr c sg cv ax (st.lit t true) o fun st'=>mO all rest st' k) (mO all rest ((st.lit t false).put o.dst (.aR [])) k)
          | false=>br b (mO all rest ((st.lit t true).put o.dst (.aR [])) k) (CU pr c sg cv ax (st.lit t false) o fun st'=>mO all rest st' k)
        | .aR []=>mO all rest (st.put o.dst (.aR [])) k
        | _=>none
      | none=>mO all rest (st.put o.dst (.aR [])) k
def jmp (i:Nat) (st:St):Option R:=match Sm c ax i st with
  | some h=>J i h
  | none=>none
def oW (f:St→Option R) (k:Exit→St→Option R):Exit→St→Option R
  | .normal,st=>f st
  | x,st=>k x st
def tb (id:Nat) (k:Exit→St→Option R):Exit→St→Option R
  | .exit sc,st=>if sc=id then k .normal st else k (.exit sc) st
  | x,st=>k x st
def dm:Code→Nat→St→(Exit→St→Option R)→Option R
  | .skip,_,st,k=>k .normal st
  | .region _ ops false,_,st,k=>mO pr c sg cv ax ops ops.toList st (k .normal)
  | .region _ ops true,_,st,k=>match qd c ax ops ops.size (Array.replicate ops.size false) with
    | some l=>mO pr c sg cv ax ops (opsOf ops l) st (k .normal)
    | none=>none
  | .seq a b,i,st,k=>dm a i st (oW (fun st'=>dm b i st' k) k)
  | .cond x a b,i,st,k=>H0 c st x (fun st=>dm a i st k) (fun st=>dm b i st k)
  | .block id a,_,st,k=>dm a id st (tb id k)
  | .loop _,i,st,_=>jmp c J ax i st
  | .exit id,_,st,k=>k (.exit id) st
  | .ret,_,st,k=>k .ret st
  | _,_,_,_=>none
def dc:Code→Nat→(Exit→St→Option R)→Nat→Option (St→Option R)
  | .seq a b,i,k,j=>match dc a i (oW (fun st'=>dm pr c sg cv J ax b i st' k) k) j with
    | some t=>some t
    | none=>dc b i k j
  | .cond _ a b,i,k,j=>match dc a i k j with
    | some t=>some t
    | none=>dc b i k j
  | .block id a,_,k,j=>dc a id (tb id k) j
  | .loop a,i,k,j=>if i=j then some fun h=>dm pr c sg cv J ax a i h (oW (jmp c J ax i) k)
    else dc a i (oW (jmp c J ax i) k) j
  | _,_,_,_=>none
end
def km:Code→Nat→List Nat
  | .seq a b,i=>km a i++km b i
  | .cond _ a b,i=>km a i++km b i
  | .block id a,_=>km a id
  | .loop a,i=>i::km a i
  | _,_=>[]
def oX:D→D
  | .aM _=>.aM []
  | .agg cs=>if cs.any hI then .agg [.sl none 0 0 []] else .undef
  | .sl none _ _ _=>.sl none 0 0 []
  | .aR vs=>.aR vs
  | _=>.undef
abbrev Rz:=D × List D
section
variable (pr:cT) (c:cf) (sg:Sg) (cv:Cv Rz) (J:Nat→St→Option Rz) (ax:FuncId)
def Br (fn:Func) (sk:List D) (x:Exit) (st:St):Option Rz:=N9 (c.gone ax) (Bp c fn sk x st)
def rK (fn:Func) (sk:List D) (j:Nat) (h:St):Option Rz:=
  match fn.body with
  | some body=>match dc pr c sg cv J ax body 0 (Br c ax fn sk) j with
    | some t=>t h
    | none=>none
  | none=>none
def yJ (fn:Func) (args:List D):Option Rz:=
  match fn.body with
  | some body=>dm pr c sg cv J ax body 0 (lV fn.ntmps 0 args ⟨[],[],[],0⟩) (Br c ax fn (args.map oX))
  | none=>none
end
noncomputable def Jn (c:cf) (P:Program) (sg:Sg) (f:FuncId) (fn:Func) (sk:List D):Nat→Nat→St→Option Rz
  | 0=>fun _ _=>none
  | n+1=>fun j h=>rK U c sg (ed c P sg) (Jn c P sg f fn sk n) f fn sk j h
def W (c:cf) (P:Program) (sg:Sg) (f:FuncId) (fn:Func) (sk:List D) (j:Nat) (h:St) (r:Rz):Prop:=∃ n,Jn c P sg f fn sk n j h=some r
theorem Nz (st:St) (r:Nat) (d:D):mF st r (oX d)=mF st r d:=by
  cases d with
  | aM cs=>rfl
  | agg cs=>
    by_cases h:cs.any hI=true
    · have e:oX (.agg cs)=.agg [.sl none 0 0 []]:=by simp only [oX,h,if_true]
      have h1:ew (.agg cs)=true:=h
      have h2:ew (.agg [.sl none 0 0 []])=true:=rfl
      rw [e]
      unfold mF
      rw [h1,h2]
    · have e:oX (.agg cs)=.undef:=by simp only [oX,if_neg h]
      have h1:ew (.agg cs)=false:=Bool.eq_false_iff.2 h
      have h2:ew .undef=false:=rfl
      rw [e]
      unfold mF
      rw [h1,h2]
      rfl
  | sl g s n cs=>
    cases g with
    | none=>rfl
    | some g=>rfl
  | aR vs=>rfl
  | _=>rfl
theorem Bs (n:Nat):∀ (i:Nat) (ds:List D) (st:St),ny n i (ds.map oX) st=ny n i ds st
  | _,[],_=>rfl
  | i,d::ds,st=>by
    simp only [List.map_cons,ny,Nz]
    split
    · rw [Bs n (i+1) ds st]
    · split
      · rename_i o st' h
        rw [Bs n (i+1) ds st']
      · rfl
theorem V9 (c:cf) (fn:Func) (args:List D):Bp c fn (args.map oX)=Bp c fn args:=by
  funext x st
  unfold Bp
  simp only [Bs,List.length_map]
section
variable {R:Type} {P:Program} {c:cf} (ao:dU c P) {sg:Sg} {ax:FuncId}
include ao
theorem Bt {st:St} {r p:Nat} {k:St→Option R}:CS (ed c P sg) st r p k=k st:=by
  have _:=ao
  unfold CS
  split
  · rename_i ys Yg
    unfold ed
    simp only [if_true,feed,K1 Yg]
  · rfl
theorem Wa {st:St} {o:Oper} {k:St→Option R}:H6 c sg (ed c P sg) ax st o k=k:=by
  unfold H6
  split
  · split
    · split
      · funext st'
        exact Bt ao
      · rfl
    · rfl
  · rfl
theorem Ma {bS:St} {t:Bool} {dst:Option Nat} {r:D} {k:St→Option R} {x:R} (h:H4 bS t dst r k=some x):∃ st',(match dst with
      | some i=>some ((bS.oA (bS.of+i) (if t then gf true r else r)).1.put (some i) (bS.oA (bS.of+i) (if t then gf true r else r)).2)
      | none=>some bS)=some st'∧k st'=some x∧∀ (k':St→Option R),H4 bS t dst r k'=k' st':=by
  have _:=ao
  cases dst with
  | none=>exact ⟨_,rfl,h,fun _=>rfl⟩
  | some i=>exact ⟨_,rfl,h,fun _=>rfl⟩
theorem Ss {st:St} {dst:Option Nat} {g:FuncId} {args:List D} {k:St→Option R} {r:R} (h:CT U c sg (ed c P sg) st dst g args k=some r):∃ st',jx c (kj c P) st dst g args=some st'∧k st'=some r∧∀ (k':St→Option R) r',k' st'=some r'→CT U c sg (ed c P sg) st dst g args k'=some r':=by
  unfold CT at h
  split at h
  · simp at h
  rename_i hg
  split at h
  case h_2=>simp at h
  rename_i ds aE s ss kv JR
  obtain ⟨hl,h⟩:=mK h
  unfold ed at h
  rw [if_neg hg,JR] at h
  split at h
  case h_2=>simp at h
  rename_i rr outs s' ss' hV sq
  simp only [Option.some.injEq,Prod.mk.injEq] at sq
  obtain ⟨rfl,rfl⟩:=sq
  split at h
  case isFalse=>simp at h
  rename_i cw
  have Su:=cw
  simp only [Bool.and_eq_true] at cw
  obtain ⟨cw,Sv⟩:=cw
  rw [qL _ _ cw.1,kM _ _ cw.2] at h
  simp only [feed] at h
  obtain ⟨h1,h2⟩:=mK h
  have hU:(dA rr&&outs.all dA)=true:=by
    have e:AG U=dA:=funext CP
    cases ku:sZ s||ta ss with
    | true=>rw [ku] at Sv; simpa using Sv
    | false=>
      rw [ku] at h1
      rw [← e]
      exact h1
  split at h2
  case h_2=>simp at h2
  rename_i q bS hb
  obtain ⟨hq,h2⟩:=mK h2
  have ht:eY (c.own g) ds=nB (c.own g) ds:=by
    cases cR:nB (c.own g) ds with
    | true=>exact CR cR
    | false=>rw [cR] at hl; exact AH cR (by simpa using hl)
  obtain ⟨st',k1,k2,k3⟩:=Ma ao h2
  refine ⟨st',?_,k2,fun k' r' hk=>?_⟩
  · unfold jx
    rw [kv]
    simp only [ht,hV,hU,if_true,sX hb hq]
    cases dst with
    | none=>exact k1
    | some i=>exact k1
  · unfold CT
    rw [if_neg hg,kv,JR]
    simp only
    rw [hl]
    simp only [br]
    unfold ed
    rw [if_neg hg,hV,JR]
    simp only
    rw [if_pos Su,qL _ _ cw.1,kM _ _ cw.2]
    simp only [feed,h1,br,hb,hq]
    rw [k3,hk]
theorem yK:∀ {b:List Bool} {ds:List D} {st:St},b.any id=false→lx st b ds=some (ds,st)
  | _,[],_,_=>rfl
  | b,d::ds,st,h=>by
    have _:=ao
    have hb:b.headD false=false∧b.tail.any id=false:=by
      cases b with
      | nil=>simp
      | cons x xs=>simpa using h
    simp only [lx,hb.1,Bool.false_eq_true,if_false,yK hb.2]
theorem wU:∀ {b:List Bool} {ds os:List D} {st:St} {h:D→D},b.any id=false→ds.length=os.length→gJ st h b ds os=some st
  | _,[],_,_,_,_,_=>rfl
  | b,d::ds,[],st,h,hn,hl=>by simp at hl
  | b,d::ds,o::os,st,h,hn,hl=>by
    have _:=ao
    have hb:b.headD false=false∧b.tail.any id=false:=by
      cases b with
      | nil=>simp
      | cons x xs=>simpa using hn
    simp only [gJ,hb.1,Bool.false_eq_true,if_false]
    exact wU hb.2 (by simpa using hl)
theorem AI:∀ {b:List Bool} {ds:List D},b.any id=false→eY b ds=false
  | _,[],_=>rfl
  | b,d::ds,hn=>by
    have _:=ao
    have hb:b.headD false=false∧b.tail.any id=false:=by
      cases b with
      | nil=>simp
      | cons x xs=>simpa using hn
    simp only [eY,hb.1,Bool.false_and,Bool.false_or]
    exact AI hb.2
theorem NA {st aE:St} {r p o:Nat} {cs:List D} {d:D} (hc:st.cells r [p]=some cs) (h:st.gH r [p] o d=some aE):aE.cells r [p]=some (cs.set o d):=by
  have _:=ao
  unfold St.cells at hc ⊢
  unfold St.gH at h
  split at h
  case h_2=>simp at h
  rename_i l hl
  rw [hl] at hc
  simp only at hc
  split at h
  case h_2=>simp at h
  rename_i l' hm
  simp only [Option.some.injEq] at h
  subst h
  simp only [jy]
  simp only [ks] at hc
  split at hc
  case h_2=>simp at hc
  rename_i s n xs hp
  simp only [Option.some.injEq] at hc
  subst hc
  simp only [nw,hp,Option.some.injEq] at hm
  subst hm
  have cR:p < l.length:=(List.getElem?_eq_some_iff.1 hp).1
  simp only [ks,List.getElem?_set,cR,if_true]
omit ao in
theorem JS {α:Type}:∀ (l:List (Nat × α)) (k:Nat) (u v:α),pz (pz l k u) k v=pz l k v
  | [],k,u,v=>by simp [pz]
  | (j,w)::t,k,u,v=>by
    simp only [pz]
    split
    · rename_i h
      simp only [pz,if_pos h,JS t k u v]
    · rename_i h
      split
      · simp [pz]
      · simp [pz]
omit ao in
theorem Mb {α:Type} (f:α→α):∀ (l:List (Nat × α)) (k:Nat),lk (fy f l) k=(lk l k).map f
  | [],_=>rfl
  | (j,w)::t,k=>by
    simp only [fy,lk]
    split
    · rfl
    · exact Mb f t k
theorem NB {st aE:St} {r p o:Nat} {h d:D} {b:Bool} (hs:st.gH r [p] o h=some aE):(aE.eG (cb r [p] o b)).gH r [p] o d=(st.eG (cb r [p] o b)).gH r [p] o d:=by
  have _:=ao
  unfold St.gH at hs
  split at hs
  case h_2=>simp at hs
  rename_i l hl
  split at hs
  case h_2=>simp at hs
  rename_i l' hm
  simp only [Option.some.injEq] at hs
  subst hs
  simp only [nw] at hm
  split at hm
  case h_2=>simp at hm
  rename_i s n xs hp
  simp only [Option.some.injEq] at hm
  subst hm
  have cR:p < l.length:=(List.getElem?_eq_some_iff.1 hp).1
  have e1:(l.map (eO (cb r [p] o b)))[p]?=some (.sl none s n xs):=by
    rw [List.getElem?_map,hp]
    rfl
  have e2:((l.set p (.sl none s n (xs.set o h))).map (eO (cb r [p] o b)))[p]?=some (.sl none s n (xs.set o h)):=by
    rw [List.getElem?_map,List.getElem?_set]
    simp only [cR,if_true]
    rfl
  have e0:lk (fy (List.map (eO (cb r [p] o b))) st.rt) r=some (l.map (eO (cb r [p] o b))):=by
    rw [Mb,hl]
    rfl
  have e3:((l.set p (.sl none s n (xs.set o h))).map (eO (cb r [p] o b))).set p (.sl none s n (xs.set o d))=(l.map (eO (cb r [p] o b))).set p (.sl none s n (xs.set o d)):=by
    rw [List.map_set,List.set_set]
  unfold St.gH
  simp only [St.eG,DV,jy,e0,nw,e1,e2,List.set_set,e3,JS]
theorem Pr {st:St} {dst:Option Nat} {g:FuncId} {sz a p o:Nat} {rest:List D} {k:St→Option R} {r:R} (h:yI U c sg (ed c P sg) st dst g sz a p o rest k=some r):∃ st',jx c (kj c P) st dst g (.ref a [p] o none::rest)=some st'∧k st'=some r∧∀ (k':St→Option R) r',k' st'=some r'→yI U c sg (ed c P sg) st dst g sz a p o rest k'=some r':=by
  unfold yI at h
  split at h
  · simp at h
  rename_i hg
  split at h
  case h_2=>simp at h
  rename_i cs s ss eh JR iH
  simp only [Bool.and_eq_true,Bool.not_eq_true'] at iH
  split at h
  case h_2=>simp at h
  rename_i aE ir
  split at h
  case h_2=>simp at h
  rename_i H5 hro
  obtain ⟨lK,h⟩:=mK h
  obtain ⟨Ui,h⟩:=mK h
  simp only [Bt ao] at h
  unfold ed at h
  rw [if_neg hg,JR] at h
  split at h
  case h_2=>simp at h
  rename_i rr outs s' ss' hV sq
  simp only [Option.some.injEq,Prod.mk.injEq] at sq
  obtain ⟨rfl,rfl⟩:=sq
  split at h
  case isFalse=>simp at h
  rename_i cw
  have Su:=cw
  simp only [Bool.and_eq_true] at cw
  obtain ⟨cw,Sv⟩:=cw
  rw [qL _ _ cw.1,kM _ _ cw.2] at h
  simp only [feed] at h
  obtain ⟨h1,h2⟩:=mK h
  have hU:(dA rr&&outs.all dA)=true:=by
    have e:AG U=dA:=funext CP
    rw [← e]
    exact h1
  split at h2
  case h_2=>simp at h2
  rename_i YH n' cs' aaC
  split at h2
  case isFalse=>simp at h2
  rename_i acR
  obtain ⟨rfl,Ow⟩:=acR
  split at h2
  case h_2=>simp at h2
  rename_i bS Uv
  have Pt:=Uv
  rw [← NB ao ir] at Pt
  obtain ⟨hq,h2⟩:=mK h2
  have hn:U.cg cs o=n':=by simpa [U] using hq
  obtain ⟨st',k1,k2,k3⟩:=Ma ao h2
  have cx:st.cell a [p] o=some (.sl none sz (U.cg cs o) (U.cq cs o)):=by
    unfold St.cell
    rw [eh]
    exact D0 lK
  have YI:aE.cell a [p] o=some (.hole sz (U.cg cs o)):=by
    have cR:o < cs.length:=(List.getElem?_eq_some_iff.1 (D0 lK)).1
    unfold St.cell
    rw [NA ao eh ir]
    simp only [List.getElem?_set,cR,if_true]
  have kv:lg st (c.own g) (.ref a [p] o none::rest)=some (.sl none sz (U.cg cs o) (U.cq cs o)::H5,aE):=by
    unfold lg
    simp only [lx,iH.1,if_true,Af,iv,cx,ir,trim,yK ao iH.2,sa,hro]
  have aaD:eY (c.own g) (.sl none sz (U.cg cs o) (U.cq cs o)::H5)=false:=by
    simp only [eY,AI ao iH.2,Bool.or_false,iH.1,Bool.true_and,bN,cS,List.all_cons,List.all_nil,Bool.and_true,bL]
    have:bP (U.cq cs o)=true:=Ui
    rw [this]
    rfl
  have CC:gJ aE id (c.own g) (.ref a [p] o none::rest) (.sl none sz n' cs'::aaC)=some bS:=by
    simp only [gJ,iH.1,if_true,zm,nx,id,YI]
    simp only [hn,and_self,if_true,Pt]
    exact wU ao iH.2 (by simpa using Ow.symm)
  refine ⟨st',?_,k2,fun k' r' hk=>?_⟩
  · unfold jx
    rw [kv]
    simp only [aaD,Bool.false_eq_true,if_false,hV,hU,if_true,CC]
    cases dst with
    | none=>exact k1
    | some i=>exact k1
  · unfold yI
    simp only [Bt ao]
    rw [if_neg hg,eh,JR]
    simp only [iH.1,iH.2,Bool.not_false,Bool.and_self,ir,hro,lK,Ui,br]
    unfold ed
    rw [if_neg hg,hV,JR]
    simp only
    rw [if_pos Su,qL _ _ cw.1,kM _ _ cw.2]
    simp only [feed,h1,br]
    rw [if_pos ⟨trivial,Ow⟩,Uv]
    simp only [hq]
    rw [k3,hk]
theorem Wb {st:St} {o:Oper} {k:St→Option R} {r:R} (h:Ny U c sg (ed c P sg) ax st o k=some r):∃ st',eP c (kj c P) u9 ax st o=some st'∧k st'=some r∧∀ (k':St→Option R) r',k' st'=some r'→Ny U c sg (ed c P sg) ax st o k'=some r':=by
  have hK:∀ (k:St→Option R),LZ U c (fun _ _=>none) u9 ax st o k=some r→∃ st',eP c (kj c P) u9 ax st o=some st'∧k st'=some r∧∀ (k':St→Option R) r',k' st'=some r'→LZ U c (fun _ _=>none) u9 ax st o k'=some r':=by
    intro k h
    have hh:=h
    unfold LZ at h
    split at h
    case h_2=>simp at h
    rename_i hc
    obtain ⟨h1,h2⟩:=mK h
    split at h2
    · rename_i st' hu
      refine ⟨st',YA ao (by simp) h1 hu,h2,fun k' r' hk=>?_⟩
      unfold LZ
      rw [hc]
      simp only
      rw [h1,hu]
      exact hk
    · simp at h2
  unfold Ny at h ⊢
  simp only [Wa ao] at h ⊢
  split at h
  · rename_i cc ho
    split at h
    · rename_i f lj
      split at h
      · simp at h
      rename_i cE
      split at h
      case h_2=>simp at h
      rename_i g gb YJ
      split at h
      · simp at h
      rename_i kD
      have aj:∀ {args:List D} {st':St},((cc.args.toList.zip cc.argTypes.toList).map fun p=>bW c st p.2 p.1)++gb=args→jx c (kj c P) st o.dst g args=some st'→eP c (kj c P) u9 ax st o=some st':=by
        intro args st' ha hd
        unfold eP
        simp only [ho,lj]
        rw [if_neg cE]
        simp only [YJ,if_neg kD,ha]
        exact hd
      split at h
      · rename_i a p o' rest og YK
        obtain ⟨st',h1,h2,h3⟩:=Pr ao h
        refine ⟨st',aj YK h1,h2,fun k' r' hk=>?_⟩
        rw [if_neg cE]
        simp only [YJ,if_neg kD,og,YK]
        exact h3 k' r' hk
      · rename_i cK
        obtain ⟨st',h1,h2,h3⟩:=Ss ao h
        refine ⟨st',aj rfl h1,h2,fun k' r' hk=>?_⟩
        rw [if_neg cE]
        simp only [YJ,if_neg kD]
        exact h3 k' r' hk
    · rename_i lj
      obtain ⟨st',h1,h2,h3⟩:=hK k h
      refine ⟨st',h1,h2,fun k' r' hk=>?_⟩
      exact h3 k' r' hk
  · rename_i hnc
    split at h
    · rename_i g st' he
      obtain ⟨hg,h2⟩:=mK h
      split at he
      case isFalse=>simp at he
      refine ⟨st',YE he hg,h2,fun k' r' hk=>?_⟩
      rw [hg]
      exact hk
    · rename_i he
      obtain ⟨st',h1,h2,h3⟩:=hK k h
      refine ⟨st',h1,h2,fun k' r' hk=>?_⟩
      exact h3 k' r' hk
theorem YL {st:St} {o:Oper} {k:St→Option R} {r:R} (h:CU U c sg (ed c P sg) ax st o k=some r):∃ st',(if uF c ax st o then eP c (kj c P) u9 ax st o else none)=some st'∧k st'=some r∧∀ (k':St→Option R) r',k' st'=some r'→CU U c sg (ed c P sg) ax st o k'=some r':=by
  unfold CU at h
  split at h
  case h_2=>simp at h
  rename_i hc
  obtain ⟨st',h1,h2,h3⟩:=Wb ao h
  refine ⟨st',by rw [if_pos hc]; exact h1,h2,fun k' r' hk=>?_⟩
  unfold CU
  rw [hc]
  exact h3 k' r' hk
end
end Go.Proofs.Ytockoilcnmljiaa
namespace Go.Proofs.Ytockoilcnmljiaa
section
variable {R:Type} {P:Program} {c:cf} (ao:dU c P) {sg:Sg} {ax:FuncId}
include ao
theorem ly {all:Array Oper} {k:St→Option R} {r:R}:∀ {os:List Oper} {st:St},mO U c sg (ed c P sg) ax all os st k=some r→∃ st',sb c (kj c P) u9 ax all os st=some st'∧k st'=some r∧∀ (k':St→Option R) r',k' st'=some r'→mO U c sg (ed c P sg) ax all os st k'=some r'
  | [],st,h=>⟨st,rfl,h,fun _ _ hk=>hk⟩
  | o::os,st,h=>by
    have run:∀ st,CU U c sg (ed c P sg) ax st o (fun st'=>mO U c sg (ed c P sg) ax all os st' k)=some r→∃ st',(if uF c ax st o then (match eP c (kj c P) u9 ax st o with | some st'=>sb c (kj c P) u9 ax all os st' | none=>none) else none)=some st'∧k st'=some r∧∀ (k':St→Option R) r',k' st'=some r'→CU U c sg (ed c P sg) ax st o (fun st'=>mO U c sg (ed c P sg) ax all os st' k')=some r':=by
      intro st h
      obtain ⟨aE,h1,h2,h3⟩:=YL ao h
      obtain ⟨bS,k1,k2,k3⟩:=ly h2
      refine ⟨bS,?_,k2,fun k' r' hk=>h3 _ _ (k3 k' r' hk)⟩
      split at h1
      case isFalse=>simp at h1
      rename_i hc
      rw [if_pos hc,h1]
      exact k1
    simp only [mO] at h ⊢
    simp only [sb,vJ]
    split at h
    · rename_i hg
      rw [hg]
      exact run st h
    · rename_i j want hg
      rw [hg]
      simp only
      split at h
      · rename_i t ht
        rw [ht]
        simp only
        split at h
        · rename_i b hb
          rw [hb]
          simp only
          cases want with
          | true=>
            simp only at h
            rcases mg h with ⟨rfl,h1⟩ | ⟨rfl,h1⟩
            · rw [ng hb] at h1
              obtain ⟨aE,k1,k2,k3⟩:=run st h1
              refine ⟨aE,by simp only [beq_self_eq_true]; exact k1,k2,fun k' r' hk=>?_⟩
              simp only [br]
              rw [ng hb]
              exact k3 k' r' hk
            · rw [ng hb] at h1
              obtain ⟨aE,k1,k2,k3⟩:=ly h1
              refine ⟨aE,by simpa using k1,k2,fun k' r' hk=>?_⟩
              simp only [br]
              rw [ng hb]
              exact k3 k' r' hk
          | false=>
            simp only at h
            rcases mg h with ⟨rfl,h1⟩ | ⟨rfl,h1⟩
            · rw [ng hb] at h1
              obtain ⟨aE,k1,k2,k3⟩:=ly h1
              refine ⟨aE,by simpa using k1,k2,fun k' r' hk=>?_⟩
              simp only [br]
              rw [ng hb]
              exact k3 k' r' hk
            · rw [ng hb] at h1
              obtain ⟨aE,k1,k2,k3⟩:=run st h1
              refine ⟨aE,by simp only [beq_self_eq_true]; exact k1,k2,fun k' r' hk=>?_⟩
              simp only [br]
              rw [ng hb]
              exact k3 k' r' hk
        · rename_i hb
          rw [hb]
          exact ly h
        · simp at h
      · rename_i ht
        rw [ht]
        exact ly h
theorem FT {all:Array Oper} {os:List Oper} {st:St} {k k':St→Option R} {r:R} (hk:∀ st r,k st=some r→k' st=some r) (h:mO U c sg (ed c P sg) ax all os st k=some r):mO U c sg (ed c P sg) ax all os st k'=some r:=by
  obtain ⟨st',_,h2,h3⟩:=ly ao h
  exact h3 k' r (hk _ _ h2)
theorem Bu {J J':Nat→St→Option R} (hJ:∀ j h r,J j h=some r→J' j h=some r) {i:Nat} {st:St} {r:R} (h:jmp c J ax i st=some r):jmp c J' ax i st=some r:=by
  have _:=ao
  unfold jmp at h ⊢
  split at h
  · exact hJ _ _ _ h
  · simp at h
omit ao in
theorem qM {f f':St→Option R} {k k':Exit→St→Option R} (hf:∀ st r,f st=some r→f' st=some r) (hk:∀ x st r,k x st=some r→k' x st=some r):∀ x st r,oW f k x st=some r→oW f' k' x st=some r:=by
  intro x st r h
  cases x with
  | normal=>exact hf _ _ h
  | _=>exact hk _ _ _ h
omit ao in
theorem yL {id:Nat} {k k':Exit→St→Option R} (hk:∀ x st r,k x st=some r→k' x st=some r):∀ x st r,tb id k x st=some r→tb id k' x st=some r:=by
  intro x st r h
  cases x with
  | exit sc=>
    simp only [tb] at h ⊢
    split at h
    · rename_i e; rw [if_pos e]; exact hk _ _ _ h
    · rename_i e; rw [if_neg e]; exact hk _ _ _ h
  | _=>exact hk _ _ _ h
theorem wo {J J':Nat→St→Option R} (hJ:∀ j h r,J j h=some r→J' j h=some r):∀ {code:Code} {i:Nat} {st:St} {k k':Exit→St→Option R} {r:R},(∀ x st r,k x st=some r→k' x st=some r)→dm U c sg (ed c P sg) J ax code i st k=some r→dm U c sg (ed c P sg) J' ax code i st k'=some r:=by
  intro code
  induction code with
  | skip=>intro i st k k' r hk h; exact hk _ _ _ h
  | exit id=>intro i st k k' r hk h; exact hk _ _ _ h
  | ret=>intro i st k k' r hk h; exact hk _ _ _ h
  | region id ops draw=>
    intro i st k k' r hk h
    cases draw with
    | false=>
      simp only [dm] at h ⊢
      exact FT ao (hk _) h
    | true=>
      simp only [dm] at h ⊢
      split at h
      · exact FT ao (hk _) h
      · simp at h
  | seq a b ek jH=>
    intro i st k k' r hk h
    simp only [dm] at h ⊢
    exact ek (qM (fun st r hx=>jH hk hx) hk) h
  | cond v a b ek jH=>
    intro i st k k' r hk h
    simp only [dm,H0] at h ⊢
    split at h
    · split at h
      · rcases mg h with ⟨rfl,h1⟩ | ⟨rfl,h1⟩
        · exact ek hk h1
        · exact jH hk h1
      · simp at h
    · split at h
      · rcases mg h with ⟨rfl,h1⟩ | ⟨rfl,h1⟩
        · exact ek hk h1
        · exact jH hk h1
      · simp at h
  | block id a ek=>
    intro i st k k' r hk h
    simp only [dm] at h ⊢
    exact ek (yL hk) h
  | loop a ek=>intro i st k k' r hk h; exact Bu ao hJ h
  | _=>intro i st k k' r hk h; simp [dm] at h
end
section
variable {R:Type} {pr:cT} {c:cf} {sg:Sg} {cv:Cv R} {J:Nat→St→Option R} {ax:FuncId}
theorem qN:∀ {code:Code} {i:Nat} {k:Exit→St→Option R} {j:Nat} {t:St→Option R},dc pr c sg cv J ax code i k j=some t→j∈km code i:=by
  intro code
  induction code with
  | seq a b ek jH=>
    intro i k j t h
    simp only [dc] at h
    rw [km,List.mem_append]
    split at h
    · rename_i t' ht
      exact .inl (ek ht)
    · exact .inr (jH h)
  | cond v a b ek jH=>
    intro i k j t h
    simp only [dc] at h
    rw [km,List.mem_append]
    split at h
    · rename_i t' ht
      exact .inl (ek ht)
    · exact .inr (jH h)
  | block id a ek=>intro i k j t h; simp only [dc] at h; rw [km]; exact ek h
  | loop a ek=>
    intro i k j t h
    simp only [dc] at h
    rw [km,List.mem_cons]
    split at h
    · rename_i hij; exact .inl hij.symm
    · exact .inr (ek h)
  | _=>intro i k j t h; simp [dc] at h
end
section
variable {R:Type} {pr:cT} {c:cf} {sg:Sg} {cv:Cv R} {J J':Nat→St→Option R} {ax:FuncId}
theorem rL:∀ {code:Code} {i:Nat} {k k':Exit→St→Option R} {j:Nat},dc pr c sg cv J ax code i k j=none→dc pr c sg cv J' ax code i k' j=none:=by
  intro code
  induction code with
  | seq a b ek jH=>
    intro i k k' j h
    simp only [dc] at h ⊢
    split at h
    · simp at h
    · rename_i h1
      rw [ek h1]
      exact jH h
  | cond v a b ek jH=>
    intro i k k' j h
    simp only [dc] at h ⊢
    split at h
    · simp at h
    · rename_i h1
      rw [ek h1]
      exact jH h
  | block id a ek=>intro i k k' j h; simp only [dc] at h ⊢; exact ek h
  | loop a ek=>
    intro i k k' j h
    simp only [dc] at h ⊢
    split at h
    · simp at h
    · rename_i e
      rw [if_neg e]
      exact ek h
  | _=>intro i k k' j h; rfl
end
section
variable {P:Program} {c:cf} (ao:dU c P) {sg:Sg} {f:FuncId} {fn:Func} {sk:List D} {body:Code} (qj:fn.body=some body)
include ao
theorem NC {J J':Nat→St→Option Rz} (hJ:∀ j h r,J j h=some r→J' j h=some r):∀ {code:Code} {i:Nat} {k k':Exit→St→Option Rz} {j:Nat} {t:St→Option Rz},(∀ x st r,k x st=some r→k' x st=some r)→dc U c sg (ed c P sg) J f code i k j=some t→∃ t',dc U c sg (ed c P sg) J' f code i k' j=some t'∧∀ h r,t h=some r→t' h=some r:=by
  intro code
  induction code with
  | seq a b ek jH=>
    intro i k k' j t hk h
    simp only [dc] at h ⊢
    have JT:=qM (f:=fun st'=>dm U c sg (ed c P sg) J f b i st' k) (f':=fun st'=>dm U c sg (ed c P sg) J' f b i st' k') (fun st r hx=>wo ao hJ hk hx) hk
    split at h
    · rename_i t1 h1
      obtain ⟨t',h2,h3⟩:=ek JT h1
      rw [h2]
      simp only [Option.some.injEq] at h
      subst h
      exact ⟨t',rfl,h3⟩
    · rename_i h1
      rw [rL h1]
      exact jH hk h
  | cond v a b ek jH=>
    intro i k k' j t hk h
    simp only [dc] at h ⊢
    split at h
    · rename_i t1 h1
      obtain ⟨t',h2,h3⟩:=ek hk h1
      rw [h2]
      simp only [Option.some.injEq] at h
      subst h
      exact ⟨t',rfl,h3⟩
    · rename_i h1
      rw [rL h1]
      exact jH hk h
  | block id a ek=>
    intro i k k' j t hk h
    simp only [dc] at h ⊢
    exact ek (yL hk) h
  | loop a ek=>
    intro i k k' j t hk h
    simp only [dc] at h ⊢
    have JT:=qM (f:=jmp c J f i) (f':=jmp c J' f i) (fun st r hx=>Bu ao hJ hx) hk
    split at h
    · rename_i e
      simp only [Option.some.injEq] at h
      subst h
      rw [if_pos e]
      exact ⟨_,rfl,fun hh r hr=>wo ao hJ JT hr⟩
    · rename_i e
      rw [if_neg e]
      exact ek JT h
  | _=>intro i k k' j t hk h; simp [dc] at h
theorem zN:∀ {n m:Nat},n≤m→∀ j h r,Jn c P sg f fn sk n j h=some r→Jn c P sg f fn sk m j h=some r
  | 0,_,_,j,h,r,hh=>by simp [Jn] at hh
  | n+1,0,hle,_,_,_,_=>absurd hle (by omega)
  | n+1,m+1,hle,j,h,r,hh=>by
    have ih:∀ j h r,Jn c P sg f fn sk n j h=some r→Jn c P sg f fn sk m j h=some r:=zN (by omega)
    simp only [Jn,rK] at hh ⊢
    split at hh
    case h_2=>simp at hh
    rename_i body hb
    split at hh
    case h_2=>simp at hh
    rename_i t ht
    obtain ⟨t',h1,h2⟩:=NC ao ih (fun _ _ _ h=>h) ht
    rw [h1]
    exact h2 _ _ hh
include qj
theorem Sw:∀ {code:Code} {n i:Nat} {st:St} {k:(Nat→St→Option Rz)→Exit→St→Option Rz} {r:Rz},
    (∀ J J':Nat→St→Option Rz,(∀ j h r,J j h=some r→J' j h=some r)→∀ x st r,k J x st=some r→k J' x st=some r)→
    (km code i).Nodup→
    (∀ m j t,dc U c sg (ed c P sg) (Jn c P sg f fn sk m) f code i (k (Jn c P sg f fn sk m)) j=some t→dc U c sg (ed c P sg) (Jn c P sg f fn sk m) f body 0 (Br c f fn sk) j=some t)→
    dm U c sg (ed c P sg) (Jn c P sg f fn sk n) f code i st (k (Jn c P sg f fn sk n))=some r→∃ x st',Nq c P f code i st (x,st')∧k (Jn c P sg f fn sk n) x st'=some r:=by
  intro code
  have tr:∀ {ops:Array Oper} {l:List Nat} {st st':St},gK c (kj c P) u9 f ops l st=some st'→Ev fun k=>gK c (lW c P k).1 (lW c P k).2 f ops l st=some st':=
    fun h=>zI (fun f ds r hh=>Sr hh) (fun f ds n st r hh=>by simp [u9] at hh) h
  induction code with
  | skip=>intro n i st k r _ _ _ h; exact ⟨_,_,Ev.of fun _=>rfl,h⟩
  | exit id=>intro n i st k r _ _ _ h; exact ⟨_,_,Ev.of fun _=>rfl,h⟩
  | ret=>intro n i st k r _ _ _ h; exact ⟨_,_,Ev.of fun _=>rfl,h⟩
  | region id ops draw=>
    intro n i st k r _ _ _ h
    cases draw with
    | false=>
      simp only [dm] at h
      obtain ⟨st',h1,h2,_⟩:=ly ao h
      rw [wa] at h1
      refine ⟨.normal,st',(tr h1).mono fun n hn=>?_,h2⟩
      simp only [eE,wa,hn]
    | true=>
      simp only [dm] at h
      split at h
      case h_2=>simp at h
      rename_i l hl
      obtain ⟨st',h1,h2,_⟩:=ly ao h
      rw [zH] at h1
      refine ⟨.normal,st',(tr h1).mono fun n hn=>?_,h2⟩
      simp only [eE,hl,hn]
  | seq a b ek jH=>
    intro n i st k r hk hn hc h
    simp only [dm] at h
    rw [km,List.nodup_append] at hn
    obtain ⟨x,aE,h1,h2⟩:=ek (k:=fun J=>oW (fun st'=>dm U c sg (ed c P sg) J f b i st' (k J)) (k J)) (fun J J' hJ=>qM (fun st r hx=>wo ao hJ (hk J J' hJ) hx) (hk J J' hJ)) hn.1 (fun m j t ht=>hc m j t (by simp only [dc]; rw [ht])) h
    cases x with
    | normal=>
      simp only [oW] at h2
      obtain ⟨y,bS,h3,h4⟩:=jH hk hn.2.1 (fun m j t ht=>hc m j t (by
        simp only [dc]
        split
        · rename_i t' m8
          exact absurd rfl (hn.2.2 j (qN m8) j (qN ht))
        · exact ht)) h2
      exact ⟨y,bS,(Ev.and h1 h3).mono fun n hn=>by simp only [eE]; rw [hn.1]; exact hn.2,h4⟩
    | _=>exact ⟨_,aE,Ev.mono h1 fun n hn=>by simp only [eE]; rw [hn],h2⟩
  | cond v a b ek jH=>
    intro n i st k r hk hn hc h
    simp only [dm,H0] at h
    rw [km,List.nodup_append] at hn
    have fin:∀ {t:Bool},bW c st 0 v=.bool t→(t=true→dm U c sg (ed c P sg) (Jn c P sg f fn sk n) f a i st (k (Jn c P sg f fn sk n))=some r)→(t=false→dm U c sg (ed c P sg) (Jn c P sg f fn sk n) f b i st (k (Jn c P sg f fn sk n))=some r)→∃ x st',Nq c P f (.cond v a b) i st (x,st')∧k (Jn c P sg f fn sk n) x st'=some r:=by
      intro t ht h1 h2
      cases t with
      | true=>
        obtain ⟨x,st',h3,h4⟩:=ek hk hn.1 (fun m j t ht=>hc m j t (by simp only [dc]; rw [ht])) (h1 rfl)
        exact ⟨x,st',Ev.mono h3 fun n hn=>by simp only [eE,ht,if_true]; exact hn,h4⟩
      | false=>
        obtain ⟨x,st',h3,h4⟩:=jH hk hn.2.1 (fun m j t ht=>hc m j t (by
          simp only [dc]
          split
          · rename_i t' m8
            exact absurd rfl (hn.2.2 j (qN m8) j (qN ht))
          · exact ht)) (h2 rfl)
        exact ⟨x,st',Ev.mono h3 fun n hn=>by simp only [eE,ht,Bool.false_eq_true,if_false]; exact hn,h4⟩
    split at h
    · rename_i t
      split at h
      · rename_i b' hb
        refine fin (t:=b') hb (fun e=>?_) (fun e=>?_)
        · subst e
          rcases mg h with ⟨_,h1⟩ | ⟨e2,_⟩
          · rw [ng hb] at h1; exact h1
          · simp at e2
        · subst e
          rcases mg h with ⟨e2,_⟩ | ⟨_,h1⟩
          · simp at e2
          · rw [ng hb] at h1; exact h1
      · simp at h
    · split at h
      · rename_i hv
        refine fin hv (fun e=>?_) (fun e=>?_)
        · subst e; exact h
        · subst e; exact h
      · simp at h
  | block id a ek=>
    intro n i st k r hk hn hc h
    simp only [dm] at h
    obtain ⟨x,aE,h1,h2⟩:=ek (k:=fun J=>tb id (k J)) (fun J J' hJ=>yL (hk J J' hJ)) hn (fun m j t ht=>hc m j t (by simp only [dc]; exact ht)) h
    cases x with
    | exit sc=>
      simp only [tb] at h2
      by_cases he:sc=id
      · rw [if_pos he] at h2
        exact ⟨.normal,aE,Ev.mono h1 fun n hn=>by simp only [eE]; rw [hn]; simp [he],h2⟩
      · rw [if_neg he] at h2
        exact ⟨.exit sc,aE,Ev.mono h1 fun n hn=>by simp only [eE]; rw [hn]; simp [he],h2⟩
    | _=>exact ⟨_,aE,Ev.mono h1 fun n hn=>by simp only [eE]; rw [hn],h2⟩
  | loop a ek=>
    intro n i st k r hk hn hc h
    rw [km,List.nodup_cons] at hn
    have key:∀ (n:Nat) (st:St),jmp c (Jn c P sg f fn sk n) f i st=some r→∃ x st',Nr c P f a i st (x,st')∧k (Jn c P sg f fn sk n) x st'=some r:=by
      intro n
      induction n with
      | zero=>
        intro st h
        unfold jmp at h
        split at h
        · simp [Jn] at h
        · simp at h
      | succ m ih=>
        intro st h
        unfold jmp at h
        split at h
        case h_2=>simp at h
        rename_i hd Cy
        simp only [Jn,rK] at h
        rw [qj] at h
        simp only at h
        have ht:=hc m i _ (by simp only [dc,if_true]; rfl)
        rw [ht] at h
        simp only at h
        obtain ⟨x,aE,h1,h2⟩:=ek (k:=fun J=>oW (jmp c J f i) (k J)) (fun J J' hJ=>qM (fun st r hx=>Bu ao hJ hx) (hk J J' hJ)) hn.2 (fun m j t ht=>hc m j t (by
              simp only [dc]
              have cK:i≠j:=fun e=>hn.1 (by rw [e]; rw [e] at ht; exact qN ht)
              rw [if_neg cK]
              exact ht)) h
        cases x with
        | normal=>
          obtain ⟨y,bS,⟨q,h3⟩,h4⟩:=ih aE h2
          refine ⟨y,bS,⟨q+1,(Ev.and h1 h3).mono fun k hk m hm=>?_⟩,hk _ _ (zN ao (Nat.le_succ m)) _ _ _ h4⟩
          obtain ⟨m,rfl⟩:∃ m',m=m'+1:=⟨m - 1,by omega⟩
          simp only [rE,Cy,hk.1]
          exact hk.2 m (by omega)
        | _=>
          refine ⟨_,aE,⟨1,Ev.mono h1 fun k hk m hm=>?_⟩,hk _ _ (zN ao (Nat.le_succ m)) _ _ _ h2⟩
          obtain ⟨m,rfl⟩:∃ m',m=m'+1:=⟨m - 1,by omega⟩
          simp only [rE,Cy,hk]
    simp only [dm] at h
    obtain ⟨x,st',h1,h2⟩:=key n st h
    exact ⟨x,st',h1.code,h2⟩
  | _=>intro n i st k r _ _ _ h; simp [dm] at h
end
structure Told (c:cf) (P:Program) (f:FuncId) (fn:Func):Prop where
  ext:c.ext f=none
  func:P.funcs[f]?=some fn
  ids:(match fn.body with | some b=>decide (km b 0).Nodup | none=>false)=true
section
variable {P:Program} {c:cf} (ao:dU c P) {sg:Sg} {f:FuncId} {fn:Func} {sk:List D}
include ao
theorem W.go {j j':Nat} {h h':St} {r:Rz} (hw:W c P sg f fn sk j' h' r) (ht:∀ J:Nat→St→Option Rz,J j' h'=some r→rK U c sg (ed c P sg) J f fn sk j h=some r):W c P sg f fn sk j h r:=by
  have _:=ao
  obtain ⟨n,hn⟩:=hw
  exact ⟨n+1,ht _ hn⟩
theorem W.fin {j:Nat} {h:St} {r:Rz} (ht:∀ J:Nat→St→Option Rz,rK U c sg (ed c P sg) J f fn sk j h=some r):W c P sg f fn sk j h r:=by
  have _:=ao
  exact ⟨1,ht _⟩
theorem yM (ok:Told c P f fn) {args:List D} {r:Rz} {n:Nat} (h:yJ U c sg (ed c P sg) (Jn c P sg f fn (args.map oX) n) f fn args=some r):Comes c P f args r:=by
  unfold yJ at h
  split at h
  case h_2=>simp at h
  rename_i body hb
  have YM:=ok.ids
  rw [hb] at YM
  obtain ⟨x,st,h1,h2⟩:=Sw ao hb (k:=fun _=>Br c f fn (args.map oX)) (fun J J' _ x st r h=>h) (of_decide_eq_true YM) (fun m j t ht=>ht) h
  obtain ⟨k0,h1⟩:=h1
  refine ⟨k0+1,fun k hk=>?_⟩
  obtain ⟨k,rfl⟩:∃ m,k=m+1:=⟨k - 1,by omega⟩
  unfold Br at h2
  obtain ⟨r',h2,h5⟩:∃ r',Bp c fn (args.map oX) x st=some r'∧N9 (c.gone f) (some r')=some r:=by
    cases hf:Bp c fn (args.map oX) x st with
    | none=>rw [hf] at h2; simp [N9] at h2
    | some r'=>rw [hf] at h2; exact ⟨r',rfl,h2⟩
  show vL c P (lW c P k).1 (lW c P k).2 k f args=some r
  unfold vL
  rw [ok.ext]
  simp only
  rw [← h5]
  congr 1
  unfold HT
  rw [ok.ext,ok.func]
  simp only
  rw [hb]
  simp only
  rw [h1 k (by omega)]
  simp only
  rw [V9] at h2
  unfold Bp at h2
  obtain ⟨h3,h4⟩:=Pl h2
  rw [if_pos h3]
  exact h4
theorem Comes.go (ok:Told c P f fn) {args:List D} {j:Nat} {h:St} {r:Rz} (hw:W c P sg f fn (args.map oX) j h r) (ht:∀ J:Nat→St→Option Rz,J j h=some r→yJ U c sg (ed c P sg) J f fn args=some r):Comes c P f args r:=by
  obtain ⟨n,hn⟩:=hw
  exact yM ao ok (ht _ hn)
theorem Comes.fin (ok:Told c P f fn) {args:List D} {r:Rz} (ht:∀ J:Nat→St→Option Rz,yJ U c sg (ed c P sg) J f fn args=some r):Comes c P f args r:=
  yM ao ok (sg:=sg) (n:=0) (ht _)
end
end Go.Proofs.Ytockoilcnmljiaa
namespace Go.Proofs.Ytockoilcnmljiaa
section
variable {P:Program} {c:cf} (ao:dU c P) {sg:Sg} {f:FuncId} {r:Rz} {J:Nat→St→Option Rz} {J':Nat→Nat→St→Option Rz} (hJ:∀ j h,J j h=some r→Ev fun m=>J' m j h=some r)
include ao hJ
theorem wq:∀ {code:Code} {i:Nat} {st:St} {k:Exit→St→Option Rz} {k':Nat→Exit→St→Option Rz},(∀ x st,k x st=some r→Ev fun m=>k' m x st=some r)→dm U c sg (ed c P sg) J f code i st k=some r→Ev fun m=>dm U c sg (ed c P sg) (J' m) f code i st (k' m)=some r:=by
  intro code
  induction code with
  | skip=>intro i st k k' hk h; exact hk _ _ h
  | exit id=>intro i st k k' hk h; exact hk _ _ h
  | ret=>intro i st k k' hk h; exact hk _ _ h
  | region id ops draw=>
    intro i st k k' hk h
    cases draw with
    | false=>
      simp only [dm] at h ⊢
      obtain ⟨st',_,h2,h3⟩:=ly ao h
      exact (hk _ _ h2).mono fun m hm=>h3 _ _ hm
    | true=>
      simp only [dm] at h ⊢
      split at h
      · obtain ⟨st',_,h2,h3⟩:=ly ao h
        exact (hk _ _ h2).mono fun m hm=>h3 _ _ hm
      · simp at h
  | seq a b ek jH=>
    intro i st k k' hk h
    simp only [dm] at h ⊢
    refine ek (k':=fun m=>oW (fun st'=>dm U c sg (ed c P sg) (J' m) f b i st' (k' m)) (k' m)) (fun x st hx=>?_) h
    cases x with
    | normal=>exact jH hk hx
    | _=>exact hk _ _ hx
  | cond v a b ek jH=>
    intro i st k k' hk h
    simp only [dm,H0] at h ⊢
    split at h
    · split at h
      · rename_i hv
        rcases mg h with ⟨rfl,h1⟩ | ⟨rfl,h1⟩
        · exact ek hk h1
        · exact jH hk h1
      · simp at h
    · split at h
      · rcases mg h with ⟨rfl,h1⟩ | ⟨rfl,h1⟩
        · exact ek hk h1
        · exact jH hk h1
      · simp at h
  | block id a ek=>
    intro i st k k' hk h
    simp only [dm] at h ⊢
    refine ek (k':=fun m=>tb id (k' m)) (fun x st hx=>?_) h
    cases x with
    | exit sc=>
      simp only [tb] at hx ⊢
      split at hx
      · rename_i e; simp only [e,if_true]; exact hk _ _ hx
      · rename_i e; simp only [if_neg e]; exact hk _ _ hx
    | _=>exact hk _ _ hx
  | loop a ek=>
    intro i st k k' hk h
    simp only [dm,jmp] at h ⊢
    split at h
    · exact hJ _ _ h
    · simp at h
  | _=>intro i st k k' hk h; simp [dm] at h
theorem ND:∀ {code:Code} {i:Nat} {k:Exit→St→Option Rz} {k':Nat→Exit→St→Option Rz} {j:Nat} {t:St→Option Rz} {h:St},(∀ x st,k x st=some r→Ev fun m=>k' m x st=some r)→dc U c sg (ed c P sg) J f code i k j=some t→t h=some r→Ev fun m=>∃ t',dc U c sg (ed c P sg) (J' m) f code i (k' m) j=some t'∧t' h=some r:=by
  intro code
  induction code with
  | seq a b ek jH=>
    intro i k k' j t h hk ht hr
    simp only [dc] at ht ⊢
    split at ht
    · rename_i t1 h1
      simp only [Option.some.injEq] at ht
      subst ht
      refine (ek (k':=fun m=>oW (fun st'=>dm U c sg (ed c P sg) (J' m) f b i st' (k' m)) (k' m)) (fun x st hx=>?_) h1 hr).mono fun m hm=>?_
      · cases x with
        | normal=>exact wq ao hJ hk hx
        | _=>exact hk _ _ hx
      · obtain ⟨t',h2,h3⟩:=hm
        exact ⟨t',by rw [h2],h3⟩
    · rename_i h1
      refine (jH hk ht hr).mono fun m hm=>?_
      rw [rL h1]
      exact hm
  | cond v a b ek jH=>
    intro i k k' j t h hk ht hr
    simp only [dc] at ht ⊢
    split at ht
    · rename_i t1 h1
      simp only [Option.some.injEq] at ht
      subst ht
      refine (ek hk h1 hr).mono fun m hm=>?_
      obtain ⟨t',h2,h3⟩:=hm
      exact ⟨t',by rw [h2],h3⟩
    · rename_i h1
      refine (jH hk ht hr).mono fun m hm=>?_
      rw [rL h1]
      exact hm
  | block id a ek=>
    intro i k k' j t h hk ht hr
    simp only [dc] at ht ⊢
    refine ek (k':=fun m=>tb id (k' m)) (fun x st hx=>?_) ht hr
    cases x with
    | exit sc=>
      simp only [tb] at hx ⊢
      split at hx
      · rename_i e; simp only [e,if_true]; exact hk _ _ hx
      · rename_i e; simp only [if_neg e]; exact hk _ _ hx
    | _=>exact hk _ _ hx
  | loop a ek=>
    intro i k k' j t h hk ht hr
    simp only [dc] at ht ⊢
    have JT:∀ x st,oW (jmp c J f i) k x st=some r→Ev fun m=>oW (jmp c (J' m) f i) (k' m) x st=some r:=by
      intro x st hx
      cases x with
      | normal=>
        simp only [oW,jmp] at hx ⊢
        split at hx
        · exact hJ _ _ hx
        · simp at hx
      | _=>exact hk _ _ hx
    split at ht
    · rename_i e
      simp only [Option.some.injEq] at ht
      subst ht
      refine (wq ao hJ JT hr).mono fun m hm=>?_
      rw [if_pos e]
      exact ⟨_,rfl,hm⟩
    · rename_i e
      simp only [if_neg e]
      exact ek JT ht hr
  | _=>intro i k k' j t h hk ht hr; simp [dc] at ht
end
section
variable {P:Program} {c:cf} (ao:dU c P) {sg:Sg} {f:FuncId} {fn:Func} {sk:List D} {r:Rz}
include ao
theorem W.ev {j:Nat} {h:St} (hw:W c P sg f fn sk j h r):Ev fun m=>Jn c P sg f fn sk m j h=some r:=by
  obtain ⟨n,hn⟩:=hw
  exact ⟨n,fun m hm=>zN ao hm _ _ _ hn⟩
theorem W.step {j:Nat} {h:St} (ht:∀ J:Nat→St→Option Rz,(∀ j' h',W c P sg f fn sk j' h' r→J j' h'=some r)→rK U c sg (ed c P sg) J f fn sk j h=some r):W c P sg f fn sk j h r:=by
  classical
  have h1:=ht (fun j' h'=>if W c P sg f fn sk j' h' r then some r else none) (fun j' h' hw=>if_pos hw)
  unfold rK at h1
  split at h1
  case h_2=>simp at h1
  rename_i body hb
  split at h1
  case h_2=>simp at h1
  rename_i t ht
  obtain ⟨n,hn⟩:=ND ao (J':=Jn c P sg f fn sk) (k':=fun _=>Br c f fn sk) (fun j' h' hh=>by
    split at hh
    · rename_i hw; exact hw.ev ao
    · simp at hh) (fun x st hx=>⟨0,fun _ _=>hx⟩) ht h1
  obtain ⟨t',h2,h3⟩:=hn n (Nat.le_refl _)
  refine ⟨n+1,?_⟩
  simp only [Jn,rK]
  rw [hb]
  simp only
  rw [h2]
  exact h3
theorem Comes.step (ok:Told c P f fn) {args:List D} (ht:∀ J:Nat→St→Option Rz,(∀ j' h',W c P sg f fn (args.map oX) j' h' r→J j' h'=some r)→yJ U c sg (ed c P sg) J f fn args=some r):Comes c P f args r:=by
  classical
  have h1:=ht (fun j' h'=>if W c P sg f fn (args.map oX) j' h' r then some r else none) (fun j' h' hw=>if_pos hw)
  unfold yJ at h1
  split at h1
  case h_2=>simp at h1
  rename_i body hb
  obtain ⟨n,hn⟩:=wq ao (J':=Jn c P sg f fn (args.map oX)) (k':=fun _=>Br c f fn (args.map oX)) (fun j' h' hh=>by
    split at hh
    · rename_i hw; exact hw.ev ao
    · simp at hh) (fun x st hx=>⟨0,fun _ _=>hx⟩) h1
  refine yM ao ok (sg:=sg) (n:=n) ?_
  unfold yJ
  rw [hb]
  exact hn n (Nat.le_refl _)
end
end Go.Proofs.Ytockoilcnmljiaa
namespace Go.Proofs.Ytockoilcnmljiaa
open Go.Shelf
def Uw:List (Nat × TI):=[
  (2,⟨.int .i64,1,8,[.int .i64 0]⟩),
  (3,⟨.int .i64,1,8,[.int .i64 0]⟩),
  (4,⟨.bool,1,1,[.bool false]⟩),
  (5,⟨.int .u8,1,1,[.int .u8 0]⟩),
  (6,⟨.int .u8,1,1,[.int .u8 0]⟩),
  (7,⟨.struct [0,1,2,3] [1,1,1,1],4,24,[.int .i64 0,.int .i64 0,.bool false,.int .u8 0]⟩),
  (8,⟨.struct [0,1,2,3] [1,1,1,1],4,24,[.int .i64 0,.int .i64 0,.bool false,.int .u8 0]⟩),
  (9,⟨.str,1,16,[.str ⟨#[]⟩]⟩),
  (10,⟨.str,1,16,[.str ⟨#[]⟩]⟩),
  (11,⟨.str,1,16,[.str ⟨#[]⟩]⟩),
  (12,⟨.int .u64,1,8,[.int .u64 0]⟩),
  (13,⟨.struct [0,1] [1,1],2,24,[.str ⟨#[]⟩,.int .u64 0]⟩),
  (14,⟨.struct [0,1] [1,1],2,24,[.str ⟨#[]⟩,.int .u64 0]⟩),
  (15,⟨.ptr 134,1,8,[.undef]⟩),
  (16,⟨.ptr 137,1,8,[.undef]⟩),
  (17,⟨.ptr 146,1,8,[.undef]⟩),
  (18,⟨.struct [0] [1],1,8,[.undef]⟩),
  (19,⟨.struct [0] [1],1,8,[.undef]⟩),
  (21,⟨.int .i32,1,4,[.int .i32 0]⟩),
  (22,⟨.slice 3,1,24,[.nil 1]⟩),
  (23,⟨.slice 22,1,24,[.nil 1]⟩),
  (24,⟨.struct [0,1,2,3,4,5] [1,1,1,1,1,1],6,64,[.nil 1,.nil 1,.bool false,.bool false,.bool false,.int .i64 0]⟩),
  (25,⟨.struct [0,1,2,3,4,5] [1,1,1,1,1,1],6,64,[.nil 1,.nil 1,.bool false,.bool false,.bool false,.int .i64 0]⟩),
  (26,⟨.slice 5,1,24,[.nil 1]⟩),
  (27,⟨.struct [0,1] [1,1],2,48,[.nil 1,.nil 1]⟩),
  (28,⟨.struct [0,1] [1,1],2,48,[.nil 1,.nil 1]⟩),
  (29,⟨.slice 4,1,24,[.nil 1]⟩),
  (30,⟨.struct [0,1,2,3,4,10,12,13,14,15] [1,1,1,1,6,2,1,1,1,1],16,248,[.int .i64 0,.bool false,.bool false,.nil 1,.nil 1,.nil 1,.bool false,.bool false,.bool false,.int .i64 0,.nil 1,.nil 1,.nil 1,.nil 1,.nil 1,.nil 1]⟩),
  (31,⟨.struct [0,1,2,3,4,10,12,13,14,15] [1,1,1,1,6,2,1,1,1,1],16,248,[.int .i64 0,.bool false,.bool false,.nil 1,.nil 1,.nil 1,.bool false,.bool false,.bool false,.int .i64 0,.nil 1,.nil 1,.nil 1,.nil 1,.nil 1,.nil 1]⟩),
  (34,⟨.struct [0,1,2,3,4,5] [1,1,1,1,1,1],6,64,[.nil 1,.nil 1,.bool false,.bool false,.bool false,.int .i64 0]⟩),
  (35,⟨.struct [0,1] [1,1],2,48,[.nil 1,.nil 1]⟩),
  (36,⟨.struct [0,1,2,3,4,10,12,13,14,15] [1,1,1,1,6,2,1,1,1,1],16,248,[.int .i64 0,.bool false,.bool false,.nil 1,.nil 1,.nil 1,.bool false,.bool false,.bool false,.int .i64 0,.nil 1,.nil 1,.nil 1,.nil 1,.nil 1,.nil 1]⟩),
  (37,⟨.struct [0,1,2,3,4,10,12,13,14,15] [1,1,1,1,6,2,1,1,1,1],16,248,[.int .i64 0,.bool false,.bool false,.nil 1,.nil 1,.nil 1,.bool false,.bool false,.bool false,.int .i64 0,.nil 1,.nil 1,.nil 1,.nil 1,.nil 1,.nil 1]⟩),
  (43,⟨.slice 37,1,24,[.nil 16]⟩),
  (44,⟨.slice 95,1,24,[.nil 3]⟩),
  (45,⟨.slice 98,1,24,[.nil 2]⟩),
  (46,⟨.struct [0,1,2,3,4] [1,1,1,1,1],5,104,[.nil 16,.nil 3,.nil 2,.nil 1,.int .i64 0]⟩),
  (47,⟨.struct [0,1,2,3,4] [1,1,1,1,1],5,104,[.nil 16,.nil 3,.nil 2,.nil 1,.int .i64 0]⟩),
  (94,⟨.struct [0,1,2] [1,1,1],3,40,[.int .i64 0,.int .i64 0,.nil 1]⟩),
  (95,⟨.struct [0,1,2] [1,1,1],3,40,[.int .i64 0,.int .i64 0,.nil 1]⟩),
  (97,⟨.struct [0,1] [1,1],2,16,[.int .i64 0,.int .i64 0]⟩),
  (98,⟨.struct [0,1] [1,1],2,16,[.int .i64 0,.int .i64 0]⟩),
  (107,⟨.int .u64,1,8,[.int .u64 0]⟩),
  (114,⟨.ptr 26,1,8,[.undef]⟩),
  (116,⟨.ptr 118,1,8,[.undef]⟩),
  (117,⟨.struct [0,1,2] [1,1,1],3,40,[.nil 1,.int .i64 0,.bool false]⟩),
  (118,⟨.struct [0,1,2] [1,1,1],3,40,[.nil 1,.int .i64 0,.bool false]⟩),
  (121,⟨.slice 26,1,24,[.nil 1]⟩),
  (125,⟨.ptr 127,1,8,[.undef]⟩),
  (126,⟨.struct [0,1,2] [1,1,1],3,40,[.nil 1,.int .i64 0,.bool false]⟩),
  (127,⟨.struct [0,1,2] [1,1,1],3,40,[.nil 1,.int .i64 0,.bool false]⟩),
  (133,⟨.struct [0,1,2,3] [1,1,1,1],4,40,[.undef,.undef,.undef,.str ⟨#[]⟩]⟩),
  (134,⟨.struct [0,1,2,3] [1,1,1,1],4,40,[.undef,.undef,.undef,.str ⟨#[]⟩]⟩),
  (138,⟨.int .u32,1,4,[.int .u32 0]⟩),
  (139,⟨.int .u8,1,1,[.int .u8 0]⟩),
  (140,⟨.int .u8,1,1,[.int .u8 0]⟩),
  (142,⟨.ptr 5,1,8,[.undef]⟩),
  (143,⟨.int .i32,1,4,[.int .i32 0]⟩),
  (144,⟨.int .i32,1,4,[.int .i32 0]⟩),
  (145,⟨.struct [0,1,2,3,4,5,6,7,8,9,10] [1,1,1,1,1,1,1,1,1,1,1],11,48,[.int .u64 0,.int .u64 0,.int .u32 0,.int .u8 0,.int .u8 0,.int .u8 0,.int .u8 0,.undef,.undef,.int .i32 0,.int .i32 0]⟩),
  (146,⟨.struct [0,1,2,3,4,5,6,7,8,9,10] [1,1,1,1,1,1,1,1,1,1,1],11,48,[.int .u64 0,.int .u64 0,.int .u32 0,.int .u8 0,.int .u8 0,.int .u8 0,.int .u8 0,.undef,.undef,.int .i32 0,.int .i32 0]⟩)]
def YN:List (Nat × List Bool):=[(19,[true,false]),(51,[true,false]),(52,[true,false]),(53,[true,false]),(54,[true,false]),(88,[true,false]),(89,[true,false]),(90,[true,false]),(123,[true]),(124,[true]),(133,[true]),(134,[true]),(148,[true]),(149,[true]),(150,[true]),(151,[true]),(152,[true])]
def Wc:List (Nat × List Bool):=[]
def YO:List Nat:=[]
def Sx:List (Nat × Nat):=[]
def aaE:List (Nat × Nat × List Nat × List Nat):=[(16,(0,([0,1,2],[0,1]))),(17,(0,([0,1,4],[0,1]))),(25,(0,([0,1,5],[27,28]))),(27,(0,([0,3,4],[22]))),(30,(0,([0,3,4],[22]))),(31,(0,([0,3,4],[23]))),(33,(0,([0,1,5],[26,27]))),(36,(0,([0,1,5],[26,27]))),(37,(0,([0,1,5],[27,28]))),(38,(0,([1,3],[1,99]))),(42,(0,([1,85],[1,164]))),(42,(2,([1,139,140,141],[1,164]))),(48,(0,([0,1,5],[27,28]))),(49,(0,([0,1,5],[27,28]))),(50,(0,([0,1,5],[27,28]))),(51,(0,([0,1,5],[143,144]))),(52,(0,([0,1,5],[34,35]))),(53,(0,([0,1,5],[27,28]))),(54,(0,([0,1,5],[19,20]))),(55,(0,([0,1,5],[175,176]))),(56,(0,([0,1,5],[40,41]))),(57,(0,([0,1,5],[31,32]))),(58,(0,([0,1,5],[21,22]))),(61,(0,([0,3,4],[22]))),(63,(0,([0,1,5],[26,27]))),(65,(0,([0,3],[19]))),(66,(0,([1,3],[1,47]))),(67,(0,([1,3],[1,81]))),(69,(0,([2,3,5],[2,3,68,69]))),(70,(0,([0,1,5],[18,19]))),(88,(0,([0,1,5],[19,20]))),(89,(0,([0,1,5],[20,21]))),(90,(0,([0,1,5],[21,22]))),(91,(0,([0,1,5],[21,22]))),(92,(0,([0,1,5],[22,23]))),(93,(0,([0,1,5],[23,24]))),(94,(0,([0,3],[32]))),(95,(0,([0,3],[29]))),(98,(0,([0,1,5],[32,33]))),(102,(0,([0,5,6,7],[26]))),(105,(0,([0,5,6,7],[29]))),(107,(0,([0,1,12,13],[26,27]))),(108,(0,([1,2,15,16,17],[32,33,34]))),(109,(0,([0,1,7,8],[19,20]))),(111,(0,([1,6],[29,30]))),(113,(0,([0,2,4,5,6],[2,11,5,65]))),(114,(0,([0,1,7,8],[19,20]))),(115,(0,([0,1,7,8],[19,20]))),(118,(0,([1,3,4],[1,85]))),(118,(2,([1,3,5],[1,85]))),(118,(4,([1,3,5,6],[1,85]))),(121,(0,([0,3,9,10,11],[36]))),(121,(2,([6,25,26,27],[36]))),(123,(0,([0,3,4,5],[28]))),(125,(0,([0,2,4,5,16],[2,11,5,64]))),(127,(0,([0,3],[25]))),(130,(0,([1,3,13,14,15],[1,41]))),(132,(0,([0,1,7,8],[55,56]))),(133,(0,([0,3,4,5],[28]))),(136,(0,([3,7,8,9],[19]))),(138,(0,([0,1,7,8,9],[57,58]))),(139,(0,([0,3],[27])))]
def Wd:List (Nat × List (Nat × Nat)):=[(43,[(2,3),(3,4)]),(45,[(3,4),(4,5)]),(110,[(4,2),(8,2)])]
def We:List (Nat × List (Nat × List Nat)):=[(43,[(5,[2,3]),(6,[2,3]),(5,[3,2]),(6,[3,2])]),(45,[(7,[3,4]),(8,[3,4]),(7,[4,3]),(8,[4,3])]),(110,[(6,[1]),(10,[1]),(2,[1])])]
def aaF:List (Nat × RS × List RS):=[
  (0,(.aR [],[])),
  (1,(.aR [],[])),
  (2,(.aR [],[])),
  (3,(.bool,[.undef,.undef])),
  (4,(.bool,[.undef,.undef,.undef])),
  (5,(.bool,[.undef,.undef])),
  (6,(.bool,[])),
  (7,(.int .i64,[.undef,.undef])),
  (8,(.bool,[.undef,.undef])),
  (9,(.ty .node,[.undef])),
  (10,(.bool,[.undef,.undef])),
  (11,(.bool,[.undef,.undef])),
  (12,(.bool,[.undef,.undef,.undef])),
  (13,(.bool,[.undef,.undef,.undef])),
  (14,(.int .i64,[.undef,.undef])),
  (15,(.int .i64,[.undef,.undef])),
  (16,(.ty .world,[])),
  (17,(.ty .world,[])),
  (18,(.bool,[.undef,.undef])),
  (19,(.int .i64,[.agg [.sl 16,.sl 3,.sl 2,.sl 1,.int .i64],.undef])),
  (20,(.int .i64,[.undef,.undef])),
  (21,(.int .i64,[.undef,.undef])),
  (22,(.int .i64,[.undef,.undef])),
  (23,(.int .i64,[.undef,.undef])),
  (24,(.int .i64,[.undef,.undef])),
  (25,(.int .i64,[.undef,.undef])),
  (26,(.bool,[.undef,.undef])),
  (27,(.sl 1,[.undef])),
  (28,(.agg [.sl 1,.sl 1,.bool,.bool,.bool,.int .i64],[.undef])),
  (29,(.agg [.sl 1,.sl 1],[.undef])),
  (30,(.sl 1,[.undef])),
  (31,(.sl 1,[.undef])),
  (32,(.bool,[.undef,.undef])),
  (33,(.bool,[.undef,.undef])),
  (34,(.bool,[.undef,.undef])),
  (35,(.bool,[.undef,.undef])),
  (36,(.bool,[.undef,.undef])),
  (37,(.bool,[.undef,.undef])),
  (38,(.bool,[.undef])),
  (39,(.int .i64,[.undef])),
  (40,(.bool,[.undef,.undef])),
  (41,(.int .i64,[.undef,.undef])),
  (42,(.bool,[.undef])),
  (43,(.int .i64,[.undef,.undef])),
  (44,(.int .i64,[.undef,.undef])),
  (45,(.int .i64,[.undef,.undef,.undef])),
  (46,(.ty .node,[.undef])),
  (47,(.ty .node,[.undef])),
  (48,(.bool,[.undef,.undef])),
  (49,(.bool,[.undef,.undef])),
  (50,(.bool,[.undef,.undef])),
  (51,(.int .i64,[.sl 16,.undef])),
  (52,(.int .i64,[.sl 3,.undef])),
  (53,(.int .i64,[.sl 2,.undef])),
  (54,(.int .i64,[.sl 1,.undef])),
  (55,(.int .i64,[.undef,.undef])),
  (56,(.int .i64,[.undef,.undef])),
  (57,(.int .i64,[.undef,.undef])),
  (58,(.int .i64,[.undef,.undef])),
  (59,(.int .i64,[.undef,.undef])),
  (60,(.int .i64,[.undef])),
  (61,(.sl 1,[.undef])),
  (62,(.int .i64,[.undef])),
  (63,(.bool,[.undef,.undef])),
  (64,(.bool,[.undef,.undef,.undef])),
  (65,(.bool,[.undef])),
  (66,(.bool,[.undef])),
  (67,(.bool,[.undef])),
  (68,(.aR [.ty .mt,.int .i64,.bool],[.undef])),
  (69,(.bool,[.undef,.undef])),
  (70,(.bool,[.undef,.undef])),
  (71,(.int .i64,[.undef,.undef])),
  (72,(.bool,[.undef])),
  (73,(.bool,[.undef])),
  (74,(.bool,[.undef])),
  (75,(.bool,[.undef])),
  (76,(.aR [.ty .mt,.int .i64,.bool],[.undef])),
  (77,(.bool,[.undef,.undef])),
  (78,(.bool,[.undef])),
  (79,(.bool,[.undef,.undef])),
  (80,(.ty .mt,[.undef])),
  (81,(.sl 1,[])),
  (82,(.ty .cP,[.undef,.undef])),
  (83,(.ty .mt,[.undef])),
  (84,(.sl 1,[])),
  (85,(.ty .cP,[.undef,.undef])),
  (86,(.bool,[.undef,.undef])),
  (87,(.bool,[.undef,.undef])),
  (88,(.int .i64,[.sl 1,.undef])),
  (89,(.int .i64,[.sl 1,.undef])),
  (90,(.int .i64,[.sl 1,.undef])),
  (91,(.int .i64,[.undef,.undef])),
  (92,(.int .i64,[.undef,.undef])),
  (93,(.int .i64,[.undef,.undef])),
  (94,(.bool,[.undef])),
  (95,(.bool,[.undef])),
  (96,(.int .i64,[.undef])),
  (97,(.aR [.ty .mt,.int .i64,.bool],[.undef])),
  (98,(.bool,[.undef,.undef])),
  (99,(.bool,[.undef,.undef,.undef])),
  (100,(.bool,[.undef,.undef])),
  (101,(.bool,[.undef])),
  (102,(.bool,[.undef])),
  (103,(.bool,[.undef,.undef])),
  (104,(.bool,[.undef])),
  (105,(.bool,[.undef])),
  (106,(.aR [.ty .mt,.int .i64,.bool],[.undef])),
  (107,(.bool,[.undef,.undef])),
  (108,(.bool,[.undef,.undef,.undef])),
  (109,(.int .i64,[.undef,.undef])),
  (110,(.ty .cP,[.undef])),
  (111,(.ty .B,[.undef,.undef])),
  (112,(.ty .cP,[.undef,.undef,.undef])),
  (113,(.aR [.ty .mt,.bool],[.undef])),
  (114,(.int .i64,[.undef,.undef])),
  (115,(.int .i64,[.undef,.undef])),
  (116,(.bool,[.undef])),
  (117,(.aR [.ty .mt,.int .i64,.bool],[.undef])),
  (118,(.sl 1,[.undef])),
  (119,(.ty .B,[.undef])),
  (120,(.ty .cP,[.undef])),
  (121,(.ty .B,[.undef])),
  (122,(.ty .B,[.undef,.undef])),
  (123,(.sl 1,[.aM [.iT 1,.int .i64,.bool]])),
  (124,(.int .i64,[.aM [.iT 1,.int .i64,.bool]])),
  (125,(.aR [.ty .mt,.bool],[.undef])),
  (126,(.bool,[.undef,.undef])),
  (127,(.sl 1,[.undef])),
  (128,(.ty .B,[.undef])),
  (129,(.ty .B,[.undef,.undef])),
  (130,(.sl 1,[.undef])),
  (131,(.ty .B,[.undef])),
  (132,(.aR [.int .i64,.int .i64,.bool],[.undef,.undef])),
  (133,(.sl 1,[.aM [.iT 1,.int .i64,.bool]])),
  (134,(.int .i64,[.aM [.iT 1,.int .i64,.bool]])),
  (135,(.sl 1,[.undef])),
  (136,(.sl 1,[.undef])),
  (137,(.int .i64,[.undef,.undef])),
  (138,(.aR [.int .i64,.int .i64,.bool],[.undef,.undef])),
  (139,(.sl 1,[.undef])),
  (140,(.str,[.undef])),
  (141,(.aR [],[.undef])),
  (142,(.str,[.undef])),
  (143,(.aR [],[.undef])),
  (144,(.str,[.undef])),
  (145,(.aR [],[.undef])),
  (146,(.str,[.undef])),
  (147,(.aR [],[.undef])),
  (153,(.str,[.undef])),
  (154,(.aR [],[.undef])),
  (155,(.str,[.undef]))]
def cfg:cf where
  ty:=lk Uw
  ext:=fun f=>if f=128 then some (va 1 1) else none
  own:=fun f=>(lk YN f).getD []
  inl:=fun f=>YO.contains f
  oz:=fun f t=>Sx.contains (f,t)
  nm:=fun f i=>(aaE.find? fun r=>r.1==f&&r.2.1==i).map fun r=>r.2.2
  gone:=fun f=>(lk Wc f).getD []
  base:=fun f t=>match lk Wd f with | some l=>lk l t | none=>none
  vG:=fun f t=>match lk We f with | some l=>(lk l t).getD [] | none=>[]
def aaG:List Nat:=[31,88,51,52,53]
def sg:Sg:=⟨lk aaF,fun f=>aaG.contains f⟩
theorem tc:dU cfg Try.prog:=⟨JH (l:=Uw) (by kernel_rfl)⟩
theorem Sy (f : FuncId) (fn : Func) (body : Code) (hf : Try.prog.funcs[f]? = some fn) (hb : fn.body = some body) : ki fn.ntmps body = true ∧ (fn.name == "runtime.NumGoroutine") = false :=
  V5 (by kernel_rfl) f fn body hf hb
theorem Pu:Try.prog.follows .mixedOrders=true:=by kernel_rfl
def Pv:Ren:=⟨fun | 41=>128 | n=>n,fun | 4=>4 | 22=>26 | 23=>5 | n=>n,fun n=>n⟩
theorem Pw:SlLaysE0.n41 Try.prog Pv where
  mixed:=by kernel_rfl
  f41:=⟨Try.f128.name,by kernel_rfl,Try.func128.trans (congrArg some (by kernel_rfl))⟩
  t4:=Try.underlying4
  a4:=Try.isAgg4
  z4:=Try.sizeOf4
  v4:=Try.zeroValue4
  t22:=Try.underlying26
  a22:=Try.isAgg26
  z22:=Try.sizeOf26
  v22:=Try.zeroValue26
theorem NF:rf Try.prog 128:=⟨_,Try.func128,by kernel_rfl,by kernel_rfl⟩
noncomputable def Px:TypeInfo:=(Try.prog.info? 5).get (by kernel_rfl)
theorem Wf:∀ f e ds r outs,cfg.ext f=some e→e ds=some (r,outs)→rf Try.prog f∧∀ (w:World) (Y:Nat→Prop) (us:Array Value) (az:List Arg),kC w Y (cfg.own f) ds us.toList az→dA r=true→(∀ o∈outs,dA o=true)→
    Calls Try.prog f us w fun e w'=>∃ v,e=.returned v∧gN w w' Y (cfg.own f) az r outs v:=by
  intro f e ds r outs h h2
  have h:(if f=128 then some (va 1 1) else none)=some e:=h
  split at h
  · rename_i hf
    subst hf
    have h:=Option.some.inj h
    subst h
    exact So Pw Px (.int .u8 0) 1 1 (by kernel_rfl) (by kernel_rfl) (by kernel_rfl) (by kernel_rfl) rfl (by decide) Try.sizeOf5 NF (own:=cfg.own 128) (by kernel_rfl) h2
  · simp at h
theorem wu (k:Nat):j9 Try.prog cfg.own (MC cfg Try.prog k):=(Jv tc Pu Sy Wf k).1
end Go.Proofs.Ytockoilcnmljiaa
namespace Go.Proofs.Ytockoilcnmljiaa
open Go.RowKit
inductive Sh where
  | bool
  | int (k:IntKind)
  | str
  | sl (b:Nat) (e:Sh)
  | ag (fs:List Sh)
mutual
def width:Sh→Nat
  | .ag fs=>td fs
  | _=>1
def td:List Sh→Nat
  | []=>0
  | f::fs=>width f+td fs
end
mutual
def WT:Sh→List D→Prop
  | .bool,ds=>∃ b,ds=[.bool b]
  | .int k,ds=>∃ n,ds=[.int k n]∧(Lit.int k n).wf=true
  | .str,ds=>∃ s,ds=[.str s]∧s.size≤reachBytes
  | .sl b e,ds=>∃ es:List (List D),ds=[.sl (some false) (width e) es.length es.flatten]∧es.length*b≤reachBytes∧∀ x∈es,WT e x
  | .ag fs,ds=>YP fs ds
def YP:List Sh→List D→Prop
  | [],ds=>ds=[]
  | f::fs,ds=>∃ a b,ds=a++b∧WT f a∧YP fs b
end
mutual
def yN (P:Program):TypeId→Sh→Bool
  | t,.bool=>match P.underlying t with | some .bool=>true | _=>false
  | t,.int k=>match P.underlying t with | some (.int k')=>decide (k'=k) | _=>false
  | t,.str=>match P.underlying t with | some .string=>true | _=>false
  | t,.sl b e=>match P.underlying t with
    | some (.slice et)=>yN P et e&&decide (P.cellsOf et=width e)&&decide (P.bytesOf et=b)&&decide (0 < width e)
    | _=>false
  | t,.ag fs=>match P.underlying t with
    | some (.struct fl)=>decide (P.cellsOf t=td fs)&&zO P fl.toList 0 fs
    | _=>false
def zO (P:Program):List Field→Nat→List Sh→Bool
  | [],_,[]=>true
  | f::fl,o,s::ss=>decide (f.offset=o)&&decide (P.cellsOf f.type=width s)&&yN P f.type s&&zO P fl (o+width s) ss
  | _,_,_=>false
end
theorem mapM_some {α β:Type} {f:α→Option β}:∀ {l:List α} {r:List β},l.mapM f=some r→l.length=r.length∧∀ (i:Nat) (a:α),l[i]?=some a→∃ b,f a=some b∧r[i]?=some b
  | [],r,h=>by
    simp only [List.mapM_nil] at h
    cases h
    exact ⟨rfl,by simp⟩
  | a::l,r,h=>by
    simp only [List.mapM_cons,Option.bind_eq_bind,Option.bind_eq_some_iff] at h
    obtain ⟨b,hb,bs,Fz,h⟩:=h
    cases h
    obtain ⟨h1,h2⟩:=mapM_some Fz
    refine ⟨by simp [h1],fun i x hx=>?_⟩
    cases i with
    | zero=>
      simp only [List.getElem?_cons_zero,Option.some.injEq] at hx
      subst hx
      exact ⟨b,hb,rfl⟩
    | succ i=>
      simp only [List.getElem?_cons_succ] at hx ⊢
      exact h2 i x hx
theorem Py {w:World} {base:Nat} {a:Addr} {n:Nat} {vs:List Value} (h:w.cells? base a n=some vs):vs.length=n∧∀ i,i < n→w.cell? (a.add i)=vs[i]?:=by
  unfold World.cells? at h
  split at h
  · obtain ⟨h1,h2⟩:=mapM_some h
    rw [List.length_range] at h1
    refine ⟨h1.symm,fun i hi=>?_⟩
    obtain ⟨b,hb,hr⟩:=h2 i i (by rw [List.getElem?_range hi])
    rw [hb,hr]
  · simp at h
theorem Mc {w:World} {X:Bool→Nat→Prop} {a b:List D} {us vs:List Value} (h:fM w X a us) (h':fM w X b vs):fM w X (a++b) (us++vs):=by
  rw [gu] at h h' ⊢
  exact h.app h'
theorem flat_get {α:Type} {wd:Nat} (hw:0 < wd):∀ {ls:List (List α)},(∀ l∈ls,l.length=wd)→∀ j:Nat,ls.flatten[j]?=(ls[j / wd]?).bind (fun l=>l[j % wd]?)
  | [],_,j=>by simp
  | l::ls,h,j=>by
    have hl:=h l (by simp)
    rw [List.flatten_cons]
    by_cases hj:j < wd
    · rw [List.getElem?_append_left (by omega),Nat.div_eq_of_lt hj,Nat.mod_eq_of_lt hj]
      rfl
    · rw [List.getElem?_append_right (by omega),hl,flat_get hw (fun x hx=>h x (by simp [hx])) (j - wd)]
      have h1:j / wd=(j - wd) / wd+1:=by
        rw [Nat.div_eq_sub_div hw (by omega)]
      have h2:j % wd=(j - wd) % wd:=by
        rw [Nat.mod_eq_sub_mod (by omega)]
      rw [h1,h2,List.getElem?_cons_succ]
theorem JU {α:Type} {Q:Nat→α→Prop}:∀ len:Nat,(∀ i,i < len→∃ x,Q i x)→∃ es:List α,es.length=len∧∀ (i:Nat) (x:α),es[i]?=some x→Q i x
  | 0,_=>⟨[],rfl,by simp⟩
  | n+1,h=>by
    obtain ⟨es,h1,h2⟩:=JU n (fun i hi=>h i (by omega))
    obtain ⟨x,hx⟩:=h n (by omega)
    refine ⟨es++[x],by simp [h1],fun i y hy=>?_⟩
    by_cases hi:i < n
    · rw [List.getElem?_append_left (by omega)] at hy
      exact h2 i y hy
    · rw [List.getElem?_append_right (by omega)] at hy
      have:i=n:=by
        have:=(List.getElem?_eq_some_iff.1 hy).1
        simp at this
        omega
      subst this
      rw [h1,Nat.sub_self,List.getElem?_cons_zero,Option.some.injEq] at hy
      subst hy
      exact hx
theorem vc {H:Type} {P:Program} {e:TypeId}:∀ {ds:List (DataW H)} {i:Nat} {d:DataW H},ds[i]?=some d→∀ z∈d.weights P e,z∈DataW.weightsAll P e ds
  | [],i,d,h,_,_=>by simp at h
  | x::ds,0,d,h,z,hz=>by
    simp only [List.getElem?_cons_zero,Option.some.injEq] at h
    subst h
    simp only [DataW.weightsAll,List.mem_append]
    exact .inl hz
  | x::ds,i+1,d,h,z,hz=>by
    simp only [DataW.weightsAll,List.mem_append]
    exact .inr (vc (by simpa using h) z hz)
theorem FU {w:World} {X:Bool→Nat→Prop}:∀ {ps:List (List D × List Value)},(∀ p∈ps,fM w X p.1 p.2)→fM w X (ps.map (·.1)).flatten (ps.map (·.2)).flatten
  | [],_=>by simp [fM]
  | p::ps,h=>by
    simp only [List.map_cons,List.flatten_cons]
    exact Mc (h p (by simp)) (FU (fun q hq=>h q (by simp [hq])))
section
variable {H:Type} {enc:TypeId × Value→H} {P:Program} {w:World} {held:Bool} {X:Bool→Nat→Prop} (hX:∀ k,k < w.heap.size→X false k)
include hX
mutual
theorem zP:∀ (sh:Sh) {fuel:Nat} {t:TypeId} {cs:List Value} {x:DataW H × List MemPlace},DataW.trod enc P w 0 (fun _=>true) held fuel t cs=some x→yN P t sh=true→(∀ z∈x.1.weights P t,z≤reachBytes)→∃ ds,WT sh ds∧fM w X ds cs
  | .bool,fuel,t,cs,x,h,hs,_=>by
    simp only [yN] at hs
    split at hs
    · rename_i ht
      obtain ⟨b,rfl,rfl⟩:=DataW.trod_bool ht h
      exact ⟨[.bool b],⟨b,rfl⟩,_,_,rfl,rfl,rfl⟩
    · simp at hs
  | .int k,fuel,t,cs,x,h,hs,_=>by
    simp only [yN] at hs
    split at hs
    · rename_i k' ht
      simp only [decide_eq_true_eq] at hs
      subst hs
      obtain ⟨n,rfl,rfl,hw⟩:=DataW.trod_int ht h
      exact ⟨[.int k' n],⟨n,rfl,hw⟩,_,_,rfl,rfl,rfl⟩
    · simp at hs
  | .str,fuel,t,cs,x,h,hs,hz=>by
    simp only [yN] at hs
    split at hs
    · rename_i ht
      obtain ⟨s,rfl,rfl,hw⟩:=DataW.trod_string ht h
      refine ⟨[.str s],⟨s,rfl,?_⟩,_,_,rfl,rfl,rfl⟩
      have:s.data.toList.length≤reachBytes:=hz _ (by unfold DataW.weights; exact List.mem_cons_self)
      rw [Array.length_toList] at this
      exact this
    · simp at hs
  | .sl b e,fuel,t,cs,x,h,hs,hz=>by
    simp only [yN] at hs
    split at hs
    case h_2=>simp at hs
    rename_i et ht
    simp only [Bool.and_eq_true,decide_eq_true_eq] at hs
    obtain ⟨⟨⟨h1,h2⟩,h3⟩,h4⟩:=hs
    rcases DataW.trod_slice ht h with ⟨rfl,rfl⟩ | ⟨a,len,cap,elems,rest,n,rfl,rfl,rfl,_,hl,hm,hlen,fZ,_⟩
    · refine ⟨[.sl (some false) (width e) 0 []],⟨[],rfl,by simp,by simp⟩,_,_,rfl,?_,rfl⟩
      exact ⟨none,0,[],rfl,Nat.le_refl _,by simp,rfl,.inl rfl⟩
    · replace hz:∀ z∈((elems.map (fun y:DataW H × List MemPlace=>y.1)).length+(rest.map (fun y:DataW H × List MemPlace=>y.1)).length)*P.bytesOf et::(DataW.weightsAll P et (elems.map (fun y:DataW H × List MemPlace=>y.1))++DataW.weightsAll P et (rest.map (fun y:DataW H × List MemPlace=>y.1))),z≤reachBytes:=fun z JV=>hz z (by
        show z∈(match P.underlying t with | some (.slice e)=>((elems.map (fun y:DataW H × List MemPlace=>y.1)).length+(rest.map (fun y:DataW H × List MemPlace=>y.1)).length)*P.bytesOf e::(DataW.weightsAll P e (elems.map (fun y:DataW H × List MemPlace=>y.1))++DataW.weightsAll P e (rest.map (fun y:DataW H × List MemPlace=>y.1))) | _=>[])
        rw [ht]
        exact JV)
      rw [h2] at fZ
      have Fy:=hz _ List.mem_cons_self
      have each:∀ i,i < len→∃ p:List D × List Value,WT e p.1∧fM w X p.1 p.2∧p.2.length=width e∧∀ j,j < width e→w.cell? ((a.add (i*width e)).add j)=p.2[j]?:=by
        intro i hi
        have h5:=fZ i hi
        have qF:i < elems.length:=by omega
        rw [List.getElem?_eq_getElem qF] at h5
        rw [Option.bind_eq_some_iff] at h5
        obtain ⟨vs,h6,h7⟩:=h5
        obtain ⟨h8,h9⟩:=Py h6
        obtain ⟨ds,lh,Iu⟩:=zP e h7 h1 (fun z JV=>hz z (List.mem_cons_of_mem _ (List.mem_append.2 (.inl (vc (i:=i) (d:=elems[i].1) (by rw [List.getElem?_map,List.getElem?_eq_getElem qF]; rfl) z JV)))))
        exact ⟨(ds,vs),lh,Iu,h8,h9⟩
      obtain ⟨ps,g1,g2⟩:=JU len each
      have gm:∀ p∈ps,WT e p.1∧fM w X p.1 p.2∧p.2.length=width e:=fun p hp=>by
        obtain ⟨i,hi⟩:=List.getElem?_of_mem hp
        obtain ⟨k1,k2,k3,_⟩:=g2 i p hi
        exact ⟨k1,k2,k3⟩
      have qg:=FU (w:=w) (X:=X) (ps:=ps) (fun p hp=>(gm p hp).2.1)
      have aaH:∀ l∈ps.map (·.1),l.length=width e:=fun l hl=>by
        obtain ⟨p,hp,rfl⟩:=List.mem_map.1 hl
        have:=((gu p.1 p.2).1 (gm p hp).2.1).len
        rw [this,(gm p hp).2.2]
      have aaI:∀ l∈ps.map (·.2),l.length=width e:=fun l hl=>by
        obtain ⟨p,hp,rfl⟩:=List.mem_map.1 hl
        exact (gm p hp).2.2
      refine ⟨[.sl (some false) (width e) len (ps.map (·.1)).flatten],⟨ps.map (·.1),by simp [g1],?_,fun x hx=>by obtain ⟨p,hp,rfl⟩:=List.mem_map.1 hx; exact (gm p hp).1⟩,_,_,rfl,?_,rfl⟩
      · rw [List.length_map,g1]
        rw [List.length_map,List.length_map,h3,hlen] at Fy
        exact Nat.le_trans (Nat.mul_le_mul_right b (by omega)) Fy
      · refine ⟨some a,cap,(ps.map (·.2)).flatten,rfl,hl,?_,qg,?_⟩
        · have:∀ {ls:List (List D)},(∀ l∈ls,l.length=width e)→ls.flatten.length=ls.length*width e:=by
            intro ls
            induction ls with
            | nil=>intro _; simp
            | cons l ls ih=>
              intro hh
              rw [List.flatten_cons,List.length_append,ih (fun x hx=>hh x (by simp [hx])),hh l (by simp),List.length_cons,Nat.add_mul,Nat.one_mul,Nat.add_comm]
          rw [this aaH,List.length_map,g1]
        · by_cases h0:len=0
          · left
            have:ps=[]:=by cases ps with | nil=>rfl | cons _ _=>simp at g1; omega
            rw [this]; rfl
          · right
            obtain ⟨p0,IQ⟩:∃ p,ps[0]?=some p:=⟨ps[0],List.getElem?_eq_getElem (by omega)⟩
            obtain ⟨_,_,k3,k4⟩:=g2 0 p0 IQ
            have k5:=k4 0 h4
            have aaJ:p0.2[0]?=some (p0.2[0]):=List.getElem?_eq_getElem (by omega)
            rw [aaJ,Nat.zero_mul] at k5
            have Pm:(a.add 0).add 0=a:=by simp [Addr.add]
            rw [Pm] at k5
            obtain ⟨k,off,spot⟩:=a
            unfold World.cell? at k5
            split at k5
            case h_2=>simp at k5
            rename_i c ee fz eF
            split at k5
            · simp at k5
            rename_i hsp
            have aaK:spot=none:=by cases spot<;>simp at hsp ⊢
            subst aaK
            refine ⟨k,off,c,ee,fz,rfl,hX k ?_,eF,fun j v hj=>?_⟩
            · rcases Nat.lt_or_ge k w.heap.size with hh | hh
              · exact hh
              · rw [Array.getElem?_eq_none hh] at eF; simp at eF
            · rw [flat_get h4 aaI] at hj
              rw [List.getElem?_map] at hj
              cases hp:ps[j / width e]? with
              | none=>rw [hp] at hj; simp at hj
              | some p=>
                rw [hp] at hj
                simp only [Option.map_some,Option.bind_some] at hj
                obtain ⟨_,_,_,m4⟩:=g2 _ p hp
                have m5:=m4 (j % width e) (Nat.mod_lt _ h4)
                rw [hj,eH,eH] at m5
                unfold World.cell? at m5
                simp only [eF] at m5
                have m6:off+j / width e*width e+j % width e=off+j:=by
                  have:=Nat.div_add_mod j (width e)
                  rw [Nat.mul_comm] at this
                  omega
                rw [m6] at m5
                simpa using m5
  | .ag fs,fuel,t,cs,x,h,hs,hz=>by
    simp only [yN] at hs
    split at hs
    case h_2=>simp at hs
    rename_i fl ht
    simp only [Bool.and_eq_true,decide_eq_true_eq] at hs
    obtain ⟨h1,h2⟩:=hs
    obtain ⟨xs,n,rfl,rfl,h3,h4,h5⟩:=DataW.trod_struct ht h
    simp only [DataW.weights,ht] at hz
    obtain ⟨ds,h6,h7⟩:=JW (cs:=cs) (n:=n) fs (fl:=fl.toList) (o:=0) (xs:=xs) (by simpa using h4.symm) (fun i f hf=>h5 i f (by simpa using hf)) h2 hz (by omega)
    refine ⟨ds,h6,?_⟩
    rw [List.drop_zero,List.take_of_length_le (by omega)] at h7
    exact h7
theorem JW:∀ (ss:List Sh) {n:Nat} {cs:List Value} {fl:List Field} {o:Nat} {xs:List (DataW H × List MemPlace)},fl.length=xs.length→(∀ (i:Nat) (f:Field),fl[i]?=some f→DataW.trod enc P w 0 (fun _=>true) held n f.type ((cs.drop f.offset).take (P.cellsOf f.type))=xs[i]?)→zO P fl o ss=true→(∀ z∈DataW.weightsEach P (fl.map (·.type)) (xs.map (·.1)),z≤reachBytes)→o+td ss≤cs.length→
    ∃ ds,YP ss ds∧fM w X ds ((cs.drop o).take (td ss))
  | [],n,cs,fl,o,xs,_,_,hs,_,_=>by
    have _:=hX
    cases fl with
    | nil=>exact ⟨[],rfl,by simp [td,fM]⟩
    | cons f fl=>simp [zO] at hs
  | s::ss,n,cs,fl,o,xs,hl,hx,hs,hz,ho=>by
    cases fl with
    | nil=>simp [zO] at hs
    | cons f fl=>
      cases xs with
      | nil=>simp at hl
      | cons x xs=>
        simp only [zO,Bool.and_eq_true,decide_eq_true_eq] at hs
        obtain ⟨⟨⟨h1,h2⟩,h3⟩,h4⟩:=hs
        subst h1
        simp only [List.map_cons,DataW.weightsEach,List.mem_append] at hz
        simp only [td] at ho ⊢
        have h5:=hx 0 f rfl
        rw [List.getElem?_cons_zero,h2] at h5
        obtain ⟨fJ,g1,g2⟩:=zP s h5 h3 (fun z JV=>hz z (.inl JV))
        obtain ⟨rn,g3,g4⟩:=JW (cs:=cs) (n:=n) ss (fl:=fl) (o:=f.offset+width s) (xs:=xs) (by simpa using hl) (fun i f' hf=>by have:=hx (i+1) f' (by simpa using hf); simpa using this) h4 (fun z JV=>hz z (.inr JV)) (by omega)
        refine ⟨fJ++rn,⟨fJ,rn,rfl,g1,g3⟩,?_⟩
        rw [List.take_add,List.drop_drop]
        exact Mc g2 g4
end
end
end Go.Proofs.Ytockoilcnmljiaa
namespace Go.Proofs.Ytockoilcnmljiaa
open Go.RowKit
theorem Md {w:World} {X:Bool→Nat→Prop}:∀ {b:List Bool} {ds:List D} {vs:List Value},b.any id=false→bO (fun d v=>∀ S,gg w X S d v) ds vs→re w X b ds vs (vs.map fun _=>(none,[]))
  | _,[],_,_,.nil=>⟨rfl,rfl⟩
  | b,d::ds,v::vs,hn,.cons h1 h2=>by
    have hb:b.headD false=false∧b.tail.any id=false:=by
      cases b with
      | nil=>simp
      | cons x xs=>simpa using hn
    refine ⟨v,vs,(none,[]),_,rfl,rfl,?_,Md hb.2 h2⟩
    rw [hb.1]
    exact ⟨rfl,h1⟩
theorem Pz {P:Program} {c:cf} (jo:∀ k,j9 P c.own (MC c P k)) {f:FuncId} (iH:(c.own f).any id=false) {ds outs:List D} {vs:Array Value} {W:World} (hc:Comes c P f ds (.bool true,outs)) (sv:∀ o∈outs,dA o=true)
    (ha:bO (fun d v=>∀ S,gg W (Lk W [] (fun _=>True)) S d v) ds vs.toList):Calls P f vs W fun e W'=>e=.returned (.bool true)∧Below W.heap.size W W':=by
  obtain ⟨k,hk⟩:=hc
  have h1:=hk k (Nat.le_refl _)
  have vU:∀ a∈vs.toList.map (fun _=>((none,[]):Arg)),a=(none,[]):=by simp
  have ez:=uN vU
  have rh:kC W (fun _=>True) (c.own f) ds vs.toList (vs.toList.map fun _=>(none,[])):=by
    refine ⟨?_,by rw [ez]; simp,by rw [ez]; simp,fun a Pm=>?_⟩
    · rw [ez]; exact Md iH ha
    · rw [vU a Pm]; trivial
  refine ((jo k f ds _ outs h1).2 W _ vs _ rh rfl sv).mono fun e W'=>?_
  rintro ⟨v,rfl,hp⟩
  have hv:v=.bool true:=by
    obtain ⟨eI,az,hr,_,_,_,hs,_⟩:=hp.res
    obtain ⟨t,rfl,he,rfl⟩:=hr
    cases t with
    | v d u=>
      have hs:=hs.1
      simp only [aZ] at hs
      have:bj d=.bool true:=he.symm
      rw [this] at hs
      exact hs
    | own s n cap a cs=>simp [T.er] at he
  subst hv
  refine ⟨rfl,hp.os,hp.tape,hp.out,hp.sz,fun k hk=>hp.bQ k hk (by rw [ez]; simp)⟩
theorem Me {w:World} {X:Bool→Nat→Prop} {ds:List D} {us:Array Value} (h:fM w X ds us.toList):∀ S,gg w X S (.agg ds) (.agg us):=fun _=>
  ⟨us,rfl,((gu _ _).1 h).mono (fun _ _ hh=>fF hh)⟩
theorem PA {w:World}:∀ k,k < w.heap.size→Lk w [] (fun _=>True) false k:=fun k hk=>⟨hk,by simp,fun _=>trivial⟩
end Go.Proofs.Ytockoilcnmljiaa
namespace Go.Proofs.Ytockoilcnmljiaa
set_option maxRecDepth 100000
abbrev Cm (f:FuncId) (ds:List D) (r:Rz):Prop:=Comes cfg Try.prog f ds r
abbrev bc (pr:cT) (cv:Cv Rz) (J:Nat→St→Option Rz) (f:FuncId) (fn:Func) (args:List D):Option Rz:=yJ pr cfg sg cv J f fn args
abbrev cA (pr:cT) (cv:Cv Rz) (J:Nat→St→Option Rz) (f:FuncId) (fn:Func) (sk:List D) (j:Nat) (h:St):Option Rz:=rK pr cfg sg cv J f fn sk j h
noncomputable abbrev aY:Cv Rz:=ed cfg Try.prog sg
abbrev WP (f:FuncId) (fn:Func) (sk:List D) (j:Nat) (h:St) (r:Rz):Prop:=W cfg Try.prog sg f fn sk j h r
section
variable {f:FuncId} {fn:Func} {sk:List D} {j j':Nat} {h h':St} {r:Rz}
theorem WP.go (h':St) (hw:WP f fn sk j' h' r) (ht:∀ J:Nat→St→Option Rz,J j' h'=some r→cA U aY J f fn sk j h=some r):WP f fn sk j h r:=W.go tc hw ht
theorem WP.fin (ht:∀ J:Nat→St→Option Rz,cA U aY J f fn sk j h=some r):WP f fn sk j h r:=W.fin tc ht
theorem Cm.go (ok:Told cfg Try.prog f fn) (sk:List D) (j:Nat) (h:St) {args:List D} (hw:WP f fn sk j h r) (ht:∀ J:Nat→St→Option Rz,J j h=some r→bc U aY J f fn args=some r) (wQ:args.map oX=sk:=by rfl):Cm f args r:=Comes.go tc ok (wQ▸hw) ht
theorem Cm.fin (ok:Told cfg Try.prog f fn) {args:List D} (ht:∀ J:Nat→St→Option Rz,bc U aY J f fn args=some r):Cm f args r:=Comes.fin (sg:=sg) tc ok ht
theorem WP.loop {H:Nat→St} {n:Nat} (inv:Nat→Prop) (hs:∀ i,i < n→inv i→(inv (i+1)→WP f fn sk j (H (i+1)) r)→WP f fn sk j (H i) r) (he:inv n→WP f fn sk j (H n) r):∀ i,i≤n→inv i→WP f fn sk j (H i) r:=by
  have key:∀ k i,i+k=n→inv i→WP f fn sk j (H i) r:=by
    intro k
    induction k with
    | zero=>intro i hi hv; obtain rfl:i=n:=(by omega); exact he hv
    | succ k ih=>intro i hi hv; exact hs i (by omega) hv fun kL=>ih (i+1) (by omega) kL
  exact fun i hi hv=>key (n - i) i (by omega) hv
end
theorem bF {g:FuncId} {ds:List D} {r:D} {outs:List D} (h:Cm g ds (r,outs)) (hs:(match sg.sig g with | some (s,ss)=>eK s r&&iU ss outs&&!(sZ s||ta ss) | none=>false)=true) (t:bJ Rz):aY g ds t=feed t (pW r++(uq outs++[])):=by
  refine aaA t h hs fun e=>?_
  subst e
  have:sg.sig 999999=none:=by kernel_rfl
  rw [this] at hs
  simp at hs
theorem bK {g:FuncId} {ds:List D} {r:D} {outs:List D} {s:RS} {ss:List RS} (h:Cm g ds (r,outs)) (hs:sg.sig g=some (s,ss)) (h1:eK s r=true) (h2:iU ss outs=true) (h3:dA r=true) (h4:outs.all dA=true) (t:bJ Rz):aY g ds t=feed t (fG s r++(mj ss outs++[])):=by
  refine aaB t h hs h1 h2 h3 h4 fun e=>?_
  subst e
  have:sg.sig 999999=none:=by kernel_rfl
  rw [hs] at this
  simp at this
theorem PB (ys:List D) (t:bJ Rz):aY 999999 [.sl none 0 0 ys] t=feed t [.sl none 0 0 ys]:=by
  show ed cfg Try.prog sg 999999 _ t=_
  unfold ed
  rw [if_pos rfl]
section
variable {R:Type} {x y:R}
theorem aJ:br true x y=x:=rfl
theorem bg:br false x y=y:=rfl
theorem bf (b:Bool):br b true false=b:=by cases b<;>rfl
theorem bt (b:Bool):br b false true=!b:=by cases b<;>rfl
theorem bM (b:Bool):br (!b) x y=br b y x:=by cases b<;>rfl
theorem afy (a b:Bool) (x y:R):br (br a b false) x y=br a (br b x y) y:=by cases a<;>rfl
theorem zQ (b:Bool):br b x x=x:=by cases b<;>rfl
theorem aW {a b:Int} (h:a < b):br (U.lt a b) x y=x:=by simp [U,br,h]
theorem bB {a b:Int} (h:b≤a):br (U.lt a b) x y=y:=by simp [U,br,Int.not_lt.2 h]
theorem zR {a b:Int} (h:a≤b):br (U.le a b) x y=x:=by simp [U,br,h]
theorem nh {a b:Int} (h:b < a):br (U.le a b) x y=y:=by simp [U,br,Int.not_le.2 h]
theorem fH {a b:Int} (h:a=b):br (U.eq a b) x y=x:=by simp [U,br,h]
theorem dW {a b:Int} (h:a≠b):br (U.eq a b) x y=y:=by
  have e:(a==b)=false:=by simpa using h
  simp [U,br,e]
theorem bE {i:Int} {n:Nat} (h0:0≤i) (h:i < n):br (U.bT i n) x y=x:=by simp [U,br,h0,h]
theorem CV {l h:Int} {n:Nat} (h0:0≤l) (h1:l≤h) (h2:h≤n):br (U.yu l h n) x y=x:=by simp [U,br,h0,h1,h2]
theorem eW {n b:Nat} (h:n*b≤140737488355328):br (U.fits n b) x y=x:=by simp [U,br,h]
theorem zS {l c:Int} {b:Nat} (h0:0≤l) (h1:l≤c) (h2:c*b≤140737488355328):br (U.uM l c b) x y=x:=by simp [U,br,h0,h1,h2]
end
theorem NG (a b:Int):U.lt a b=decide (a < b):=rfl
theorem wv (a b:Int):U.le a b=decide (a≤b):=rfl
theorem yO (a b:Int):U.eq a b=(a==b):=rfl
theorem aD (n:Nat):U.bu n=(n:Int):=rfl
theorem H7 (n:Nat):U.jr (n:Int)=n:=rfl
theorem Ux (a i s:Nat):U.idx a (i:Int) s=(a+i)*s:=rfl
theorem rM (a b:Bool):U.beq a b=(a==b):=rfl
theorem wrap64 {n:Int} (h:-9223372036854775808≤n) (h':n < 9223372036854775808):IntKind.i64.wrap n=n:=by
  simp only [IntKind.wrap,IntKind.bits,IntKind.signed]
  simp
  omega
theorem NH {a b:Int} (h:-9223372036854775808≤a+b) (h':a+b < 9223372036854775808):U.ar .add .i64 a b=a+b:=wrap64 h h'
theorem kX {a b:Int} (h:-9223372036854775808≤a - b) (h':a - b < 9223372036854775808):U.ar .sub .i64 a b=a - b:=wrap64 h h'
theorem dw {i:Nat} (h:i < 9223372036854775807):U.ar .add .i64 (i:Int) 1=((i+1:Nat):Int):=by
  rw [NH (by omega) (by omega)]
  omega
def te (a:Int):Bool:=decide (-9223372036854775808≤a)&&decide (a < 9223372036854775808)
theorem JX {a:Int}:te a=true↔-9223372036854775808≤a∧a < 9223372036854775808:=by simp [te]
theorem kY {α:Type} {e:α→List D} {w:Nat} (hw:∀ x,(e x).length=w):∀ (xs:List α) {i k:Nat} (hi:i < xs.length),k < w→(ah e xs)[i*w+k]?=(e xs[i])[k]?
  | [],i,k,hi,_=>absurd hi (by simp)
  | x::xs,0,k,hi,hk=>by
    simp only [ah,List.flatMap_cons,Nat.zero_mul,Nat.zero_add,List.getElem_cons_zero]
    rw [List.getElem?_append_left (by rw [hw]; exact hk)]
  | x::xs,i+1,k,hi,hk=>by
    simp only [ah,List.flatMap_cons,List.getElem_cons_succ]
    rw [List.getElem?_append_right (by rw [hw,Nat.succ_mul]; omega)]
    have:(i+1)*w+k - (e x).length=i*w+k:=by rw [hw,Nat.succ_mul]; omega
    rw [this]
    exact kY hw xs (by simpa using hi) hk
section
variable {R:Type} {x y:R}
theorem dC {xs:List Int} {i:Nat} (h:i < xs.length):br (U.cL .i64 (ints xs) i) x y=x:=by simp [U,ints,br,List.getElem?_eq_getElem h,eN]
theorem dD {xs:List Int} {i:Nat} (h:i < xs.length):U.bG (ints xs) i=xs[i]:=by simp [U,ints,List.getElem?_eq_getElem h,sT]
theorem lz {xs:List UInt8} {i:Nat} (h:i < xs.length):br (U.cL .u8 (bytes xs) i) x y=x:=by simp [U,bytes,ef,br,List.getElem?_eq_getElem h,eN]
theorem vd {xs:List UInt8} {i:Nat} (h:i < xs.length):U.bG (bytes xs) i=(xs[i].toNat:Int):=by simp [U,bytes,ef,List.getElem?_eq_getElem h,sT]
theorem JY {xs:List Bool} {i:Nat} (h:i < xs.length):br (U.eD (aH xs) i) x y=x:=by simp [U,aH,br,List.getElem?_eq_getElem h]
theorem JZ {xs:List Bool} {i:Nat} (h:i < xs.length):U.cZ (aH xs) i=xs[i]:=by simp [U,aH,List.getElem?_eq_getElem h,zG]
theorem Sz {xs:List Int} {i:Nat} (h:i < xs.length):br (U.slot (ints xs) i) x y=x:=by simp [U,ints,br,List.getElem?_eq_getElem h,gd]
theorem SA {xs:List UInt8} {i:Nat} (h:i < xs.length):br (U.slot (bytes xs) i) x y=x:=by simp [U,bytes,ef,br,List.getElem?_eq_getElem h,gd]
theorem SB {xs:List Bool} {i:Nat} (h:i < xs.length):br (U.slot (aH xs) i) x y=x:=by simp [U,aH,br,List.getElem?_eq_getElem h,gd]
theorem ints_set (xs:List Int) (i:Nat) (a:Int):List.set (ints xs) i (.int .i64 a)=ints (xs.set i a):=by simp [ints,List.map_set]
theorem FV (xs:List UInt8) (i:Nat) (a:UInt8):List.set (bytes xs) i (.int .u8 a.toNat)=bytes (xs.set i a):=by simp [bytes,List.map_set,ef]
theorem FW (xs:List Bool) (i:Nat) (a:Bool):List.set (aH xs) i (.bool a)=aH (xs.set i a):=by simp [aH,List.map_set]
theorem mm:∀ {ds:List D},(∀ d∈ds,bL d=true)→bP ds=true
  | [],_=>rfl
  | d::ds,h=>by
    simp only [bP,Bool.and_eq_true]
    exact ⟨h d (by simp),mm fun x hx=>h x (by simp [hx])⟩
theorem lN (xs:List Int):U.nl (ints xs)=true:=mm (by intro d hd; obtain ⟨a,_,rfl⟩:=List.mem_map.1 hd; rfl)
theorem eV (xs:List UInt8):U.nl (bytes xs)=true:=mm (by intro d hd; obtain ⟨a,_,rfl⟩:=List.mem_map.1 hd; rfl)
theorem NI (xs:List Bool):U.nl (aH xs)=true:=mm (by intro d hd; obtain ⟨a,_,rfl⟩:=List.mem_map.1 hd; rfl)
theorem PC (n:Nat):fm n [.int .i64 0]=ints (List.replicate n 0):=by
  unfold fm
  induction n with
  | zero=>rfl
  | succ n ih=>simpa [List.replicate_succ,ints,rZ] using ih
theorem PD (n:Nat):fm n [.int .u8 0]=bytes (List.replicate n 0):=by
  unfold fm
  induction n with
  | zero=>rfl
  | succ n ih=>simpa [List.replicate_succ,bytes,rZ,ef] using ih
theorem PE (n:Nat):fm n [.bool false]=aH (List.replicate n false):=by
  unfold fm
  induction n with
  | zero=>rfl
  | succ n ih=>simpa [List.replicate_succ,aH,rZ] using ih
end
end Go.Proofs.Ytockoilcnmljiaa
namespace Go.Proofs.Ytockoilcnmljiaa
set_option maxRecDepth 100000
section
variable (pr:cT) (cv:Cv Rz) (J:Nat→St→Option Rz)
def jI (g0:Bool) (n1:Nat) (c2:List D) (i3:Int) (n4:Nat) (c5:List D):St:=(St.mk [(0,(.sl (some g0) 1 n1 c2)),(3,(.ref 10003 [] 0 none)),(4,(.int .i64 i3))] [(10003,[(.sl none 1 n4 c5)])] [] 0)
theorem Gu:Told cfg Try.prog 27 Try.f27:=⟨by kernel_rfl,Try.func27,by kernel_rfl⟩
theorem Gv (g0:Bool) (n0:Nat) (c0:List D):bc pr cv J 27 Try.f27 [(.sl (some g0) 1 n0 c0)]=
    (br (pr.uM (pr.bu n0) (pr.bu n0) 8) (J 0 (jI g0 n0 c0 0 (pr.jr (pr.bu n0)) (fm (pr.jr (pr.bu n0)) [(.int .i64 0)]))) none):=by kernel_rfl
theorem tf (g0:Bool) (n1:Nat) (c2:List D) (i3:Int) (n4:Nat) (c5:List D):cA pr cv J 27 Try.f27 [.undef] 0 (jI g0 n1 c2 i3 n4 c5)=
    (br (pr.lt i3 (pr.bu n1)) (br (pr.bT i3 n1) (br (br (pr.cL .i64 c2 (pr.idx 0 i3 1)) true false) (br (pr.bT i3 n4) (br (pr.slot c5 (pr.idx 0 i3 1)) (J 0 (jI g0 n1 c2 (pr.ar .add .i64 i3 1) n4 (List.set c5 (pr.idx 0 i3 1) (.int .i64 (pr.bG c2 (pr.idx 0 i3 1)))))) none) none) none) none) (some ((.sl none 1 n4 c5),[.undef]))):=by kernel_rfl
def jJ (g0:Bool) (n1:Nat) (c2:List D) (g3:Bool) (n4:Nat) (c5:List D) (i6:Int):St:=(St.mk [(0,(.sl (some g0) 1 n1 c2)),(1,(.sl (some g3) 1 n4 c5)),(5,(.int .i64 i6))] [] [] 0)
theorem wV:Told cfg Try.prog 33 Try.f33:=⟨by kernel_rfl,Try.func33,by kernel_rfl⟩
theorem wW (g0:Bool) (n0:Nat) (c0:List D) (g1:Bool) (n1:Nat) (c1:List D):bc pr cv J 33 Try.f33 [(.sl (some g0) 1 n0 c0),(.sl (some g1) 1 n1 c1)]=
    (br (br (pr.eq (pr.bu n0) (pr.bu n1)) false true) (some ((.bool false),[.undef,.undef])) (J 0 (jJ g0 n0 c0 g1 n1 c1 0))):=by kernel_rfl
theorem nG (g0:Bool) (n1:Nat) (c2:List D) (g3:Bool) (n4:Nat) (c5:List D) (i6:Int):cA pr cv J 33 Try.f33 [.undef,.undef] 0 (jJ g0 n1 c2 g3 n4 c5 i6)=
    (br (pr.lt i6 (pr.bu n1)) (br (pr.bT i6 n1) (br (br (pr.cL .i64 c2 (pr.idx 0 i6 1)) true false) (br (pr.bT i6 n4) (br (br (pr.cL .i64 c5 (pr.idx 0 i6 1)) true false) (br (br (pr.eq (pr.bG c2 (pr.idx 0 i6 1)) (pr.bG c5 (pr.idx 0 i6 1))) false true) (some ((.bool false),[.undef,.undef])) (J 0 (jJ g0 n1 c2 g3 n4 c5 (pr.ar .add .i64 i6 1)))) none) none) none) none) (some ((.bool true),[.undef,.undef]))):=by kernel_rfl
theorem Gw:Told cfg Try.prog 21 Try.f21:=⟨by kernel_rfl,Try.func21,by kernel_rfl⟩
theorem Gx (g0:Bool) (n0:Nat) (c0:List D) (a1:Int):bc pr cv J 21 Try.f21 [(.sl (some g0) 1 n0 c0),(.int .i64 a1)]=
    (br (pr.lt (pr.ar .sub .i64 a1 (pr.bu n0)) 0) (some ((.int .i64 (-1)),[.undef,.undef])) (some ((.int .i64 (pr.ar .sub .i64 a1 (pr.bu n0))),[.undef,.undef]))):=by kernel_rfl
def iV (g0:Bool) (n1:Nat) (c2:List D) (i3:Int) (n4:Nat) (c5:List D):St:=(St.mk [(0,(.sl (some g0) 1 n1 c2)),(3,(.ref 10003 [] 0 none)),(4,(.int .i64 i3))] [(10003,[(.sl none 1 n4 c5)])] [] 0)
theorem D3:Told cfg Try.prog 61 Try.f61:=⟨by kernel_rfl,Try.func61,by kernel_rfl⟩
theorem D4 (g0:Bool) (n0:Nat) (c0:List D):bc pr cv J 61 Try.f61 [(.sl (some g0) 1 n0 c0)]=
    (br (pr.uM (pr.bu n0) (pr.bu n0) 1) (J 0 (iV g0 n0 c0 0 (pr.jr (pr.bu n0)) (fm (pr.jr (pr.bu n0)) [(.int .u8 0)]))) none):=by kernel_rfl
theorem rq (g0:Bool) (n1:Nat) (c2:List D) (i3:Int) (n4:Nat) (c5:List D):cA pr cv J 61 Try.f61 [.undef] 0 (iV g0 n1 c2 i3 n4 c5)=
    (br (pr.lt i3 (pr.bu n1)) (br (pr.bT i3 n1) (br (br (pr.cL .u8 c2 (pr.idx 0 i3 1)) true false) (br (pr.bT i3 n4) (br (pr.slot c5 (pr.idx 0 i3 1)) (J 0 (iV g0 n1 c2 (pr.ar .add .i64 i3 1) n4 (List.set c5 (pr.idx 0 i3 1) (.int .u8 (pr.bG c2 (pr.idx 0 i3 1)))))) none) none) none) none) (some ((.sl none 1 n4 c5),[.undef]))):=by kernel_rfl
def iW (g0:Bool) (n1:Nat) (c2:List D) (g3:Bool) (n4:Nat) (c5:List D) (i6:Int):St:=(St.mk [(0,(.sl (some g0) 1 n1 c2)),(1,(.sl (some g3) 1 n4 c5)),(5,(.int .i64 i6))] [] [] 0)
theorem ve:Told cfg Try.prog 63 Try.f63:=⟨by kernel_rfl,Try.func63,by kernel_rfl⟩
theorem vf (g0:Bool) (n0:Nat) (c0:List D) (g1:Bool) (n1:Nat) (c1:List D):bc pr cv J 63 Try.f63 [(.sl (some g0) 1 n0 c0),(.sl (some g1) 1 n1 c1)]=
    (br (br (pr.eq (pr.bu n0) (pr.bu n1)) false true) (some ((.bool false),[.undef,.undef])) (J 0 (iW g0 n0 c0 g1 n1 c1 0))):=by kernel_rfl
theorem mP (g0:Bool) (n1:Nat) (c2:List D) (g3:Bool) (n4:Nat) (c5:List D) (i6:Int):cA pr cv J 63 Try.f63 [.undef,.undef] 0 (iW g0 n1 c2 g3 n4 c5 i6)=
    (br (pr.lt i6 (pr.bu n1)) (br (pr.bT i6 n1) (br (br (pr.cL .u8 c2 (pr.idx 0 i6 1)) true false) (br (pr.bT i6 n4) (br (br (pr.cL .u8 c5 (pr.idx 0 i6 1)) true false) (br (br (pr.eq (pr.bG c2 (pr.idx 0 i6 1)) (pr.bG c5 (pr.idx 0 i6 1))) false true) (some ((.bool false),[.undef,.undef])) (J 0 (iW g0 n1 c2 g3 n4 c5 (pr.ar .add .i64 i6 1)))) none) none) none) none) (some ((.bool true),[.undef,.undef]))):=by kernel_rfl
theorem D5:Told cfg Try.prog 59 Try.f59:=⟨by kernel_rfl,Try.func59,by kernel_rfl⟩
theorem D6 (g0:Bool) (n0:Nat) (c0:List D) (a1:Int):bc pr cv J 59 Try.f59 [(.sl (some g0) 1 n0 c0),(.int .i64 a1)]=
    (br (pr.lt (pr.ar .sub .i64 a1 (pr.bu n0)) 0) (some ((.int .i64 (-1)),[.undef,.undef])) (some ((.int .i64 (pr.ar .sub .i64 a1 (pr.bu n0))),[.undef,.undef]))):=by kernel_rfl
def iX (g0:Bool) (n1:Nat) (c2:List D) (i3:Int) (n4:Nat) (c5:List D):St:=(St.mk [(0,(.sl (some g0) 1 n1 c2)),(3,(.ref 10003 [] 0 none)),(4,(.int .i64 i3))] [(10003,[(.sl none 1 n4 c5)])] [] 0)
theorem D7:Told cfg Try.prog 30 Try.f30:=⟨by kernel_rfl,Try.func30,by kernel_rfl⟩
theorem D8 (g0:Bool) (n0:Nat) (c0:List D):bc pr cv J 30 Try.f30 [(.sl (some g0) 1 n0 c0)]=
    (br (pr.uM (pr.bu n0) (pr.bu n0) 1) (J 0 (iX g0 n0 c0 0 (pr.jr (pr.bu n0)) (fm (pr.jr (pr.bu n0)) [(.bool false)]))) none):=by kernel_rfl
theorem ru (g0:Bool) (n1:Nat) (c2:List D) (i3:Int) (n4:Nat) (c5:List D):cA pr cv J 30 Try.f30 [.undef] 0 (iX g0 n1 c2 i3 n4 c5)=
    (br (pr.lt i3 (pr.bu n1)) (br (pr.bT i3 n1) (br (br (pr.eD c2 (pr.idx 0 i3 1)) true false) (br (pr.bT i3 n4) (br (pr.slot c5 (pr.idx 0 i3 1)) (J 0 (iX g0 n1 c2 (pr.ar .add .i64 i3 1) n4 (List.set c5 (pr.idx 0 i3 1) (.bool (pr.cZ c2 (pr.idx 0 i3 1)))))) none) none) none) none) (some ((.sl none 1 n4 c5),[.undef]))):=by kernel_rfl
def iY (g0:Bool) (n1:Nat) (c2:List D) (g3:Bool) (n4:Nat) (c5:List D) (i6:Int):St:=(St.mk [(0,(.sl (some g0) 1 n1 c2)),(1,(.sl (some g3) 1 n4 c5)),(5,(.int .i64 i6))] [] [] 0)
theorem vg:Told cfg Try.prog 36 Try.f36:=⟨by kernel_rfl,Try.func36,by kernel_rfl⟩
theorem vh (g0:Bool) (n0:Nat) (c0:List D) (g1:Bool) (n1:Nat) (c1:List D):bc pr cv J 36 Try.f36 [(.sl (some g0) 1 n0 c0),(.sl (some g1) 1 n1 c1)]=
    (br (br (pr.eq (pr.bu n0) (pr.bu n1)) false true) (some ((.bool false),[.undef,.undef])) (J 0 (iY g0 n0 c0 g1 n1 c1 0))):=by kernel_rfl
theorem mQ (g0:Bool) (n1:Nat) (c2:List D) (g3:Bool) (n4:Nat) (c5:List D) (i6:Int):cA pr cv J 36 Try.f36 [.undef,.undef] 0 (iY g0 n1 c2 g3 n4 c5 i6)=
    (br (pr.lt i6 (pr.bu n1)) (br (pr.bT i6 n1) (br (br (pr.eD c2 (pr.idx 0 i6 1)) true false) (br (pr.bT i6 n4) (br (br (pr.eD c5 (pr.idx 0 i6 1)) true false) (br (br (pr.beq (pr.cZ c2 (pr.idx 0 i6 1)) (pr.cZ c5 (pr.idx 0 i6 1))) false true) (some ((.bool false),[.undef,.undef])) (J 0 (iY g0 n1 c2 g3 n4 c5 (pr.ar .add .i64 i6 1)))) none) none) none) none) (some ((.bool true),[.undef,.undef]))):=by kernel_rfl
theorem D9:Told cfg Try.prog 24 Try.f24:=⟨by kernel_rfl,Try.func24,by kernel_rfl⟩
theorem Eb (g0:Bool) (n0:Nat) (c0:List D) (a1:Int):bc pr cv J 24 Try.f24 [(.sl (some g0) 1 n0 c0),(.int .i64 a1)]=
    (br (pr.lt (pr.ar .sub .i64 a1 (pr.bu n0)) 0) (some ((.int .i64 (-1)),[.undef,.undef])) (some ((.int .i64 (pr.ar .sub .i64 a1 (pr.bu n0))),[.undef,.undef]))):=by kernel_rfl
end
theorem cM (i:Nat):U.idx 0 (i:Int) 1=i:=by rw [Ux]; omega
theorem wx {α:Type} {xs:List α} {i:Nat} (hi:i < xs.length) (z:α) (ys:List α) (hl:xs.length=ys.length) (hy:i < ys.length):(ys.take i++List.replicate (xs.length - i) z).set i ys[i]=ys.take (i+1)++List.replicate (xs.length - (i+1)) z:=by
  rw [List.set_append_right _ _ (by simp; omega)]
  have h1:i - (ys.take i).length=0:=by simp; omega
  obtain ⟨k,hk⟩:∃ k,xs.length - i=k+1:=⟨xs.length - i - 1,by omega⟩
  have h2:xs.length - (i+1)=k:=by omega
  rw [h1,hk,h2,List.replicate_succ,List.set_cons_zero,← List.take_append_getElem hy,List.append_assoc]
  rfl
def ff (n:Nat) (left:Int):Int:=if left < n then -1 else left - n
def Uy (k:Int) (n:Nat):List Int:=(List.range n).map fun i:Nat=>k+(i:Int)
def YQ (k:Int) (n:Nat):List UInt8:=(List.range n).map fun i:Nat=>UInt8.ofNat ((k+(i:Int)) % 256).toNat
def YR (k:Int) (n:Nat):List Bool:=(List.range n).map fun i:Nat=>(k+(i:Int)).tmod 3==0
theorem NJ (k:Int) (n:Nat):(Uy k n).length=n:=by simp [Uy]
theorem NK (k:Int) (n:Nat):(YQ k n).length=n:=by simp [YQ]
theorem NL (k:Int) (n:Nat):(YR k n).length=n:=by simp [YR]
theorem SC (g:Bool) (xs:List Int) (hb:xs.length≤17592186044416) (xR:xs.length < 9223372036854775807):Cm 27 [.sl (some g) 1 xs.length (ints xs)] (.sl none 1 xs.length (ints xs),[.undef]):=by
  refine Cm.go Gu [.undef] 0 (jI g xs.length (ints xs) (0:Nat) xs.length (ints (List.replicate xs.length 0))) ?_ fun J hJ=>?_
  · refine WP.loop (H:=fun i=>jI g xs.length (ints xs) (i:Nat) xs.length (ints (xs.take i++List.replicate (xs.length - i) 0))) (n:=xs.length) (fun _=>True) (fun i hi _ ih=>WP.go _ (ih trivial) fun J hJ=>?_) (fun _=>WP.fin fun J=>?_) 0 (Nat.zero_le _) trivial
    · rw [tf]
      simp (disch:=first | omega | (simp; done) | (simp; omega)) only [aJ,bg,bf,aD,aW,bE,cM,dC,Sz,dD,ints_set,dw]
      rw [← hJ]
      congr 2
      rw [wx hi _ xs rfl hi]
    · rw [tf]
      simp (disch:=omega) only [aJ,bg,aD,bB,List.take_length,Nat.sub_self,List.replicate_zero,List.append_nil]
  · rw [Gv]
    simp (disch:=omega) only [aJ,bg,aD,zS,H7,PC]
    exact hJ
theorem SD (g h:Bool) (xs ys:List Int) (hb:xs.length < 9223372036854775807):Cm 33 [.sl (some g) 1 xs.length (ints xs),.sl (some h) 1 ys.length (ints ys)] (.bool (decide (xs=ys)),[.undef,.undef]):=by
  by_cases hl:xs.length=ys.length
  · refine Cm.go wV [.undef,.undef] 0 (jJ g xs.length (ints xs) h ys.length (ints ys) (0:Nat)) ?_ fun J hJ=>?_
    · refine WP.loop (H:=fun i=>jJ g xs.length (ints xs) h ys.length (ints ys) (i:Nat)) (n:=xs.length) (fun i=>xs.take i=ys.take i) (fun i hi hv ih=>?_) (fun hv=>WP.fin fun J=>?_) 0 (Nat.zero_le _) (by simp)
      · have qF:i < ys.length:=by omega
        by_cases he:xs[i]=ys[i]
        · refine WP.go _ (ih (by rw [← List.take_append_getElem hi,← List.take_append_getElem qF,hv,he])) fun J hJ=>?_
          rw [nG]
          simp (disch:=omega) only [aJ,bg,bf,bt,bM,aD,aW,bE,cM,dC,dD,dw,fH,he,rM,beq_self_eq_true,Bool.not_true]
          exact hJ
        · refine WP.fin fun J=>?_
          rw [nG]
          have cK:xs≠ys:=fun e=>he (by subst e; rfl)
          have hn8:=he
          have YS:=he
          simp (disch:=first | omega | assumption) only [aJ,bg,bf,bt,bM,aD,aW,bE,cM,dC,dD,dW,decide_eq_false cK]
      · rw [nG]
        rw [List.take_length,hl,List.take_length] at hv
        simp (disch:=omega) only [aJ,bg,aD,bB,decide_eq_true hv]
    · rw [wW]
      simp (disch:=omega) only [aJ,bg,aD,bt,bM,fH]
      exact hJ
  · refine Cm.fin wV fun J=>?_
    have cK:xs≠ys:=fun e=>hl (by rw [e])
    rw [wW]
    simp (disch:=omega) only [aJ,bg,aD,bt,bM,dW,decide_eq_false cK]
theorem SE (g:Bool) (n:Nat) (c:List D) (left:Int) (h0:0≤left) (h1:left≤1048576) (hn:n≤140737488355328):Cm 21 [.sl (some g) 1 n c,.int .i64 left] (.int .i64 (ff n left),[.undef,.undef]):=by
  refine Cm.fin Gw fun J=>?_
  rw [Gx]
  unfold ff
  by_cases h:left < n
  · rw [if_pos h]
    simp (disch:=omega) only [aD,kX,aW]
  · rw [if_neg h]
    simp (disch:=omega) only [aD,kX,bB]
theorem PF (g:Bool) (xs:List UInt8) (hb:xs.length≤140737488355328) (xR:xs.length < 9223372036854775807):Cm 61 [.sl (some g) 1 xs.length (bytes xs)] (.sl none 1 xs.length (bytes xs),[.undef]):=by
  refine Cm.go D3 [.undef] 0 (iV g xs.length (bytes xs) (0:Nat) xs.length (bytes (List.replicate xs.length 0))) ?_ fun J hJ=>?_
  · refine WP.loop (H:=fun i=>iV g xs.length (bytes xs) (i:Nat) xs.length (bytes (xs.take i++List.replicate (xs.length - i) 0))) (n:=xs.length) (fun _=>True) (fun i hi _ ih=>WP.go _ (ih trivial) fun J hJ=>?_) (fun _=>WP.fin fun J=>?_) 0 (Nat.zero_le _) trivial
    · rw [rq]
      simp (disch:=first | omega | (simp; done) | (simp; omega)) only [aJ,bg,bf,aD,aW,bE,cM,lz,SA,vd,FV,dw]
      rw [← hJ]
      congr 2
      rw [wx hi _ xs rfl hi]
    · rw [rq]
      simp (disch:=omega) only [aJ,bg,aD,bB,List.take_length,Nat.sub_self,List.replicate_zero,List.append_nil]
  · rw [D4]
    simp (disch:=omega) only [aJ,bg,aD,zS,H7,PD]
    exact hJ
theorem PG (g h:Bool) (xs ys:List UInt8) (hb:xs.length < 9223372036854775807):Cm 63 [.sl (some g) 1 xs.length (bytes xs),.sl (some h) 1 ys.length (bytes ys)] (.bool (decide (xs=ys)),[.undef,.undef]):=by
  by_cases hl:xs.length=ys.length
  · refine Cm.go ve [.undef,.undef] 0 (iW g xs.length (bytes xs) h ys.length (bytes ys) (0:Nat)) ?_ fun J hJ=>?_
    · refine WP.loop (H:=fun i=>iW g xs.length (bytes xs) h ys.length (bytes ys) (i:Nat)) (n:=xs.length) (fun i=>xs.take i=ys.take i) (fun i hi hv ih=>?_) (fun hv=>WP.fin fun J=>?_) 0 (Nat.zero_le _) (by simp)
      · have qF:i < ys.length:=by omega
        by_cases he:xs[i]=ys[i]
        · refine WP.go _ (ih (by rw [← List.take_append_getElem hi,← List.take_append_getElem qF,hv,he])) fun J hJ=>?_
          rw [mP]
          simp (disch:=omega) only [aJ,bg,bf,bt,bM,aD,aW,bE,cM,lz,vd,dw,fH,he,rM,beq_self_eq_true,Bool.not_true]
          exact hJ
        · refine WP.fin fun J=>?_
          rw [mP]
          have cK:xs≠ys:=fun e=>he (by subst e; rfl)
          have hn8:((xs[i].toNat:Int))≠(ys[i].toNat:Int):=fun e=>he (UInt8.toNat_inj.1 (by omega))
          have YS:=he
          simp (disch:=first | omega | assumption) only [aJ,bg,bf,bt,bM,aD,aW,bE,cM,lz,vd,dW,decide_eq_false cK]
      · rw [mP]
        rw [List.take_length,hl,List.take_length] at hv
        simp (disch:=omega) only [aJ,bg,aD,bB,decide_eq_true hv]
    · rw [vf]
      simp (disch:=omega) only [aJ,bg,aD,bt,bM,fH]
      exact hJ
  · refine Cm.fin ve fun J=>?_
    have cK:xs≠ys:=fun e=>hl (by rw [e])
    rw [vf]
    simp (disch:=omega) only [aJ,bg,aD,bt,bM,dW,decide_eq_false cK]
theorem PH (g:Bool) (n:Nat) (c:List D) (left:Int) (h0:0≤left) (h1:left≤1048576) (hn:n≤140737488355328):Cm 59 [.sl (some g) 1 n c,.int .i64 left] (.int .i64 (ff n left),[.undef,.undef]):=by
  refine Cm.fin D5 fun J=>?_
  rw [D6]
  unfold ff
  by_cases h:left < n
  · rw [if_pos h]
    simp (disch:=omega) only [aD,kX,aW]
  · rw [if_neg h]
    simp (disch:=omega) only [aD,kX,bB]
theorem PI (g:Bool) (xs:List Bool) (hb:xs.length≤140737488355328) (xR:xs.length < 9223372036854775807):Cm 30 [.sl (some g) 1 xs.length (aH xs)] (.sl none 1 xs.length (aH xs),[.undef]):=by
  refine Cm.go D7 [.undef] 0 (iX g xs.length (aH xs) (0:Nat) xs.length (aH (List.replicate xs.length false))) ?_ fun J hJ=>?_
  · refine WP.loop (H:=fun i=>iX g xs.length (aH xs) (i:Nat) xs.length (aH (xs.take i++List.replicate (xs.length - i) false))) (n:=xs.length) (fun _=>True) (fun i hi _ ih=>WP.go _ (ih trivial) fun J hJ=>?_) (fun _=>WP.fin fun J=>?_) 0 (Nat.zero_le _) trivial
    · rw [ru]
      simp (disch:=first | omega | (simp; done) | (simp; omega)) only [aJ,bg,bf,aD,aW,bE,cM,JY,SB,JZ,FW,dw]
      rw [← hJ]
      congr 2
      rw [wx hi _ xs rfl hi]
    · rw [ru]
      simp (disch:=omega) only [aJ,bg,aD,bB,List.take_length,Nat.sub_self,List.replicate_zero,List.append_nil]
  · rw [D8]
    simp (disch:=omega) only [aJ,bg,aD,zS,H7,PE]
    exact hJ
theorem PJ (g h:Bool) (xs ys:List Bool) (hb:xs.length < 9223372036854775807):Cm 36 [.sl (some g) 1 xs.length (aH xs),.sl (some h) 1 ys.length (aH ys)] (.bool (decide (xs=ys)),[.undef,.undef]):=by
  by_cases hl:xs.length=ys.length
  · refine Cm.go vg [.undef,.undef] 0 (iY g xs.length (aH xs) h ys.length (aH ys) (0:Nat)) ?_ fun J hJ=>?_
    · refine WP.loop (H:=fun i=>iY g xs.length (aH xs) h ys.length (aH ys) (i:Nat)) (n:=xs.length) (fun i=>xs.take i=ys.take i) (fun i hi hv ih=>?_) (fun hv=>WP.fin fun J=>?_) 0 (Nat.zero_le _) (by simp)
      · have qF:i < ys.length:=by omega
        by_cases he:xs[i]=ys[i]
        · refine WP.go _ (ih (by rw [← List.take_append_getElem hi,← List.take_append_getElem qF,hv,he])) fun J hJ=>?_
          rw [mQ]
          simp (disch:=omega) only [aJ,bg,bf,bt,bM,aD,aW,bE,cM,JY,JZ,dw,fH,he,rM,beq_self_eq_true,Bool.not_true]
          exact hJ
        · refine WP.fin fun J=>?_
          rw [mQ]
          have cK:xs≠ys:=fun e=>he (by subst e; rfl)
          have hn8:=he
          have YS:(xs[i]==ys[i])=false:=by simpa using he
          simp (disch:=first | omega | assumption) only [aJ,bg,bf,bt,bM,aD,aW,bE,cM,JY,JZ,dW,decide_eq_false cK,rM,YS,Bool.not_false]
      · rw [mQ]
        rw [List.take_length,hl,List.take_length] at hv
        simp (disch:=omega) only [aJ,bg,aD,bB,decide_eq_true hv]
    · rw [vh]
      simp (disch:=omega) only [aJ,bg,aD,bt,bM,fH]
      exact hJ
  · refine Cm.fin vg fun J=>?_
    have cK:xs≠ys:=fun e=>hl (by rw [e])
    rw [vh]
    simp (disch:=omega) only [aJ,bg,aD,bt,bM,dW,decide_eq_false cK]
theorem PK (g:Bool) (n:Nat) (c:List D) (left:Int) (h0:0≤left) (h1:left≤1048576) (hn:n≤140737488355328):Cm 24 [.sl (some g) 1 n c,.int .i64 left] (.int .i64 (ff n left),[.undef,.undef]):=by
  refine Cm.fin D9 fun J=>?_
  rw [Eb]
  unfold ff
  by_cases h:left < n
  · rw [if_pos h]
    simp (disch:=omega) only [aD,kX,aW]
  · rw [if_neg h]
    simp (disch:=omega) only [aD,kX,bB]
end Go.Proofs.Ytockoilcnmljiaa
namespace Go.Proofs.Ytockoilcnmljiaa
set_option maxRecDepth 100000
section
variable (pr:cT) (cv:Cv Rz) (J:Nat→St→Option Rz)
def iZ (g0:Bool) (n1:Nat) (c2:List D) (i3:Int) (n4:Nat) (c5:List D):St:=(St.mk [(0,(.sl (some g0) 1 n1 c2)),(3,(.ref 10003 [] 0 none)),(4,(.int .i64 i3))] [(10003,[(.sl none 1 n4 c5)])] [] 0)
theorem Ec:Told cfg Try.prog 31 Try.f31:=⟨by kernel_rfl,Try.func31,by kernel_rfl⟩
theorem Ed (g0:Bool) (n0:Nat) (c0:List D):bc pr cv J 31 Try.f31 [(.sl (some g0) 1 n0 c0)]=
    (br (pr.uM (pr.bu n0) (pr.bu n0) 24) (J 0 (iZ g0 n0 c0 0 (pr.jr (pr.bu n0)) (fm (pr.jr (pr.bu n0)) [(.nil 1)]))) none):=by kernel_rfl
theorem ry (g0:Bool) (n1:Nat) (c2:List D) (i3:Int) (n4:Nat) (c5:List D):cA pr cv J 31 Try.f31 [.undef] 0 (iZ g0 n1 c2 i3 n4 c5)=
    (br (pr.lt i3 (pr.bu n1)) (br (pr.bT i3 n1) (br (br (pr.dq 1 c2 (pr.idx 0 i3 1)) true false) (cv 27 [(.sl (some (pr.cJ c2 (pr.idx 0 i3 1))) 1 (pr.cg c2 (pr.idx 0 i3 1)) (pr.cq c2 (pr.idx 0 i3 1)))] (.sl (fun eB=>(fun dR=>(.done (br (br (br (pr.nl dR) true false) true false) (br (pr.bT i3 n4) (br (br (pr.ne c5) (br (pr.rj 1 c5 (pr.idx 0 i3 1)) true false) false) (cv 999999 [(.sl none 0 0 (List.set c5 (pr.idx 0 i3 1) (.sl none 1 eB dR)))] (.sl (fun qO=>(fun kN=>(.done (J 0 (iZ g0 n1 c2 (pr.ar .add .i64 i3 1) n4 kN))))))) none) none) none)))))) none) none) (some ((.sl none 1 n4 c5),[.undef]))):=by kernel_rfl
def ja (g0:Bool) (n1:Nat) (c2:List D) (g3:Bool) (n4:Nat) (c5:List D) (i6:Int):St:=(St.mk [(0,(.sl (some g0) 1 n1 c2)),(1,(.sl (some g3) 1 n4 c5)),(5,(.int .i64 i6))] [] [] 0)
theorem vi:Told cfg Try.prog 37 Try.f37:=⟨by kernel_rfl,Try.func37,by kernel_rfl⟩
theorem vj (g0:Bool) (n0:Nat) (c0:List D) (g1:Bool) (n1:Nat) (c1:List D):bc pr cv J 37 Try.f37 [(.sl (some g0) 1 n0 c0),(.sl (some g1) 1 n1 c1)]=
    (br (br (pr.eq (pr.bu n0) (pr.bu n1)) false true) (some ((.bool false),[.undef,.undef])) (J 0 (ja g0 n0 c0 g1 n1 c1 0))):=by kernel_rfl
theorem mR (g0:Bool) (n1:Nat) (c2:List D) (g3:Bool) (n4:Nat) (c5:List D) (i6:Int):cA pr cv J 37 Try.f37 [.undef,.undef] 0 (ja g0 n1 c2 g3 n4 c5 i6)=
    (br (pr.lt i6 (pr.bu n1)) (br (pr.bT i6 n1) (br (br (pr.dq 1 c2 (pr.idx 0 i6 1)) true false) (br (pr.bT i6 n4) (br (br (pr.dq 1 c5 (pr.idx 0 i6 1)) true false) (cv 33 [(.sl (some (pr.cJ c2 (pr.idx 0 i6 1))) 1 (pr.cg c2 (pr.idx 0 i6 1)) (pr.cq c2 (pr.idx 0 i6 1))),(.sl (some (pr.cJ c5 (pr.idx 0 i6 1))) 1 (pr.cg c5 (pr.idx 0 i6 1)) (pr.cq c5 (pr.idx 0 i6 1)))] (.bool (fun ck=>(.done (br (br ck false true) (some ((.bool false),[.undef,.undef])) (J 0 (ja g0 n1 c2 g3 n4 c5 (pr.ar .add .i64 i6 1)))))))) none) none) none) none) (some ((.bool true),[.undef,.undef]))):=by kernel_rfl
def kZ (g0:Bool) (n1:Nat) (c2:List D) (i3:Int) (i4:Int):St:=(St.mk [(0,(.sl (some g0) 1 n1 c2)),(1,(.int .i64 i3)),(5,(.int .i64 i4))] [] [] 0)
theorem vk:Told cfg Try.prog 25 Try.f25:=⟨by kernel_rfl,Try.func25,by kernel_rfl⟩
theorem vl (g0:Bool) (n0:Nat) (c0:List D) (a1:Int):bc pr cv J 25 Try.f25 [(.sl (some g0) 1 n0 c0),(.int .i64 a1)]=
    (br (pr.lt (pr.ar .sub .i64 a1 (pr.bu n0)) 0) (some ((.int .i64 (-1)),[.undef,.undef])) (J 0 (kZ g0 n0 c0 (pr.ar .sub .i64 a1 (pr.bu n0)) 0))):=by kernel_rfl
theorem mS (g0:Bool) (n1:Nat) (c2:List D) (i3:Int) (i4:Int):cA pr cv J 25 Try.f25 [.undef,.undef] 0 (kZ g0 n1 c2 i3 i4)=
    (br (pr.lt i4 (pr.bu n1)) (br (pr.bT i4 n1) (br (br (pr.dq 1 c2 (pr.idx 0 i4 1)) true false) (cv 21 [(.sl (some (pr.cJ c2 (pr.idx 0 i4 1))) 1 (pr.cg c2 (pr.idx 0 i4 1)) (pr.cq c2 (pr.idx 0 i4 1))),(.int .i64 i3)] (.int (fun ga=>(.done (br (pr.lt ga 0) (some ((.int .i64 (-1)),[.undef,.undef])) (J 0 (kZ g0 n1 c2 ga (pr.ar .add .i64 i4 1)))))))) none) none) (some ((.int .i64 i3),[.undef,.undef]))):=by kernel_rfl
theorem Gy:Told cfg Try.prog 28 Try.f28:=⟨by kernel_rfl,Try.func28,by kernel_rfl⟩
theorem Gz (g0:Bool) (n0:Nat) (c0:List D) (g1:Bool) (n1:Nat) (c1:List D) (a2:Bool) (a3:Bool) (a4:Bool) (a5:Int):bc pr cv J 28 Try.f28 [(.agg [(.sl (some g0) 1 n0 c0),(.sl (some g1) 1 n1 c1),(.bool a2),(.bool a3),(.bool a4),(.int .i64 a5)])]=
    (cv 27 [(.sl (some g0) 1 n0 c0)] (.sl (fun eB=>(fun dR=>(.done (br (br (br (pr.nl dR) true false) true false) (cv 31 [(.sl (some g1) 1 n1 c1)] (.sl (fun qO=>(fun kN=>(.done (br (br (br (pr.nl kN) true false) true false) (some ((.agg [(.sl none 1 eB dR),(.sl none 1 qO kN),(.bool a2),(.bool a3),(.bool a4),(.int .i64 a5)]),[.undef])) none)))))) none)))))):=by kernel_rfl
theorem GA:Told cfg Try.prog 34 Try.f34:=⟨by kernel_rfl,Try.func34,by kernel_rfl⟩
theorem GB (g0:Bool) (n0:Nat) (c0:List D) (g1:Bool) (n1:Nat) (c1:List D) (a2:Bool) (a3:Bool) (a4:Bool) (a5:Int) (g6:Bool) (n6:Nat) (c6:List D) (g7:Bool) (n7:Nat) (c7:List D) (a8:Bool) (a9:Bool) (a10:Bool) (a11:Int):bc pr cv J 34 Try.f34 [(.agg [(.sl (some g0) 1 n0 c0),(.sl (some g1) 1 n1 c1),(.bool a2),(.bool a3),(.bool a4),(.int .i64 a5)]),(.agg [(.sl (some g6) 1 n6 c6),(.sl (some g7) 1 n7 c7),(.bool a8),(.bool a9),(.bool a10),(.int .i64 a11)])]=
    let y1:Option (D × List D):=(some ((.bool false),[.undef,.undef]))
    (cv 33 [(.sl (some g0) 1 n0 c0),(.sl (some g6) 1 n6 c6)] (.bool (fun ck=>(.done (br (br ck false true) y1 (cv 37 [(.sl (some g1) 1 n1 c1),(.sl (some g7) 1 n7 c7)] (.bool (fun gj=>(.done (br (br gj false true) y1 (br (br (pr.beq a2 a8) false true) y1 (br (br (pr.beq a3 a9) false true) y1 (br (br (pr.beq a4 a10) false true) y1 (br (br (pr.eq a5 a11) false true) y1 (some ((.bool true),[.undef,.undef])))))))))))))))):=by kernel_rfl
theorem GC:Told cfg Try.prog 22 Try.f22:=⟨by kernel_rfl,Try.func22,by kernel_rfl⟩
theorem GD (g0:Bool) (n0:Nat) (c0:List D) (g1:Bool) (n1:Nat) (c1:List D) (a2:Bool) (a3:Bool) (a4:Bool) (a5:Int) (a6:Int):bc pr cv J 22 Try.f22 [(.agg [(.sl (some g0) 1 n0 c0),(.sl (some g1) 1 n1 c1),(.bool a2),(.bool a3),(.bool a4),(.int .i64 a5)]),(.int .i64 a6)]=
    let y1:Option (D × List D):=(some ((.int .i64 (-1)),[.undef,.undef]))
    (cv 21 [(.sl (some g0) 1 n0 c0),(.int .i64 a6)] (.int (fun ga=>(.done (br (pr.lt ga 0) y1 (cv 25 [(.sl (some g1) 1 n1 c1),(.int .i64 ga)] (.int (fun mo=>(.done (br (pr.lt mo 0) y1 (some ((.int .i64 mo),[.undef,.undef])))))))))))):=by kernel_rfl
theorem Ee:Told cfg Try.prog 29 Try.f29:=⟨by kernel_rfl,Try.func29,by kernel_rfl⟩
theorem Ef (g0:Bool) (n0:Nat) (c0:List D) (g1:Bool) (n1:Nat) (c1:List D):bc pr cv J 29 Try.f29 [(.agg [(.sl (some g0) 1 n0 c0),(.sl (some g1) 1 n1 c1)])]=
    (cv 61 [(.sl (some g0) 1 n0 c0)] (.sl (fun eB=>(fun dR=>(.done (br (br (br (pr.nl dR) true false) true false) (cv 61 [(.sl (some g1) 1 n1 c1)] (.sl (fun qO=>(fun kN=>(.done (br (br (br (pr.nl kN) true false) true false) (some ((.agg [(.sl none 1 eB dR),(.sl none 1 qO kN)]),[.undef])) none)))))) none)))))):=by kernel_rfl
theorem Eg:Told cfg Try.prog 35 Try.f35:=⟨by kernel_rfl,Try.func35,by kernel_rfl⟩
theorem Eh (g0:Bool) (n0:Nat) (c0:List D) (g1:Bool) (n1:Nat) (c1:List D) (g2:Bool) (n2:Nat) (c2:List D) (g3:Bool) (n3:Nat) (c3:List D):bc pr cv J 35 Try.f35 [(.agg [(.sl (some g0) 1 n0 c0),(.sl (some g1) 1 n1 c1)]),(.agg [(.sl (some g2) 1 n2 c2),(.sl (some g3) 1 n3 c3)])]=
    let y1:Option (D × List D):=(some ((.bool false),[.undef,.undef]))
    (cv 63 [(.sl (some g0) 1 n0 c0),(.sl (some g2) 1 n2 c2)] (.bool (fun ck=>(.done (br (br ck false true) y1 (cv 63 [(.sl (some g1) 1 n1 c1),(.sl (some g3) 1 n3 c3)] (.bool (fun gj=>(.done (br (br gj false true) y1 (some ((.bool true),[.undef,.undef])))))))))))):=by kernel_rfl
theorem Ei:Told cfg Try.prog 23 Try.f23:=⟨by kernel_rfl,Try.func23,by kernel_rfl⟩
theorem Ej (g0:Bool) (n0:Nat) (c0:List D) (g1:Bool) (n1:Nat) (c1:List D) (a2:Int):bc pr cv J 23 Try.f23 [(.agg [(.sl (some g0) 1 n0 c0),(.sl (some g1) 1 n1 c1)]),(.int .i64 a2)]=
    let y1:Option (D × List D):=(some ((.int .i64 (-1)),[.undef,.undef]))
    (cv 59 [(.sl (some g0) 1 n0 c0),(.int .i64 a2)] (.int (fun ga=>(.done (br (pr.lt ga 0) y1 (cv 59 [(.sl (some g1) 1 n1 c1),(.int .i64 ga)] (.int (fun mo=>(.done (br (pr.lt mo 0) y1 (some ((.int .i64 mo),[.undef,.undef])))))))))))):=by kernel_rfl
theorem GF:Told cfg Try.prog 9 Try.f9:=⟨by kernel_rfl,Try.func9,by kernel_rfl⟩
theorem GG (a0:Int) (a1:Bool) (a2:Bool) (g3:Bool) (n3:Nat) (c3:List D) (g4:Bool) (n4:Nat) (c4:List D) (g5:Bool) (n5:Nat) (c5:List D) (a6:Bool) (a7:Bool) (a8:Bool) (a9:Int) (g10:Bool) (ph:Nat) (wX:List D) (g11:Bool) (dX:Nat) (pj:List D) (g12:Bool) (gv:Nat) (eC:List D) (g13:Bool) (js:Nat) (gV:List D) (g14:Bool) (ur:Nat) (ke:List D) (g15:Bool) (pk:Nat) (uw:List D):bc pr cv J 9 Try.f9 [(.agg [(.int .i64 a0),(.bool a1),(.bool a2),(.sl (some g3) 1 n3 c3),(.sl (some g4) 1 n4 c4),(.sl (some g5) 1 n5 c5),(.bool a6),(.bool a7),(.bool a8),(.int .i64 a9),(.sl (some g10) 1 ph wX),(.sl (some g11) 1 dX pj),(.sl (some g12) 1 gv eC),(.sl (some g13) 1 js gV),(.sl (some g14) 1 ur ke),(.sl (some g15) 1 pk uw)])]=
    (cv 27 [(.sl (some g3) 1 n3 c3)] (.sl (fun eB=>(fun dR=>(.done (br (br (br (pr.nl dR) true false) true false) (cv 28 [(.agg [(.sl (some g4) 1 n4 c4),(.sl (some g5) 1 n5 c5),(.bool a6),(.bool a7),(.bool a8),(.int .i64 a9)])] (.sl (fun qO=>(fun kN=>(.sl (fun vn4=>(fun vc5=>(.bool (fun qP=>(.bool (fun YT=>(.bool (fun PL=>(.int (fun vx9=>(.done (br (br (br (pr.nl kN) (br (pr.nl vc5) true false) false) true false) (cv 29 [(.agg [(.sl (some g10) 1 ph wX),(.sl (some g11) 1 dX pj)])] (.sl (fun acS=>(fun YU=>(.sl (fun acT=>(fun YV=>(.done (br (br (br (pr.nl YU) (br (pr.nl YV) true false) false) true false) (cv 30 [(.sl (some g12) 1 gv eC)] (.sl (fun acU=>(fun YW=>(.done (br (br (br (pr.nl YW) true false) true false) (cv 31 [(.sl (some g13) 1 js gV)] (.sl (fun acV=>(fun YX=>(.done (br (br (br (pr.nl YX) true false) true false) (cv 30 [(.sl (some g14) 1 ur ke)] (.sl (fun acW=>(fun YY=>(.done (br (br (br (pr.nl YY) true false) true false) (cv 27 [(.sl (some g15) 1 pk uw)] (.sl (fun acX=>(fun YZ=>(.done (br (br (br (pr.nl YZ) true false) true false) (some ((.agg [(.int .i64 a0),(.bool a1),(.bool a2),(.sl none 1 eB dR),(.sl none 1 qO kN),(.sl none 1 vn4 vc5),(.bool qP),(.bool YT),(.bool PL),(.int .i64 vx9),(.sl none 1 acS YU),(.sl none 1 acT YV),(.sl none 1 acU YW),(.sl none 1 acV YX),(.sl none 1 acW YY),(.sl none 1 acX YZ)]),[.undef])) none)))))) none)))))) none)))))) none)))))) none))))))))) none))))))))))))))))) none)))))):=by kernel_rfl
theorem GH:Told cfg Try.prog 11 Try.f11:=⟨by kernel_rfl,Try.func11,by kernel_rfl⟩
theorem GI (a0:Int) (a1:Bool) (a2:Bool) (g3:Bool) (n3:Nat) (c3:List D) (g4:Bool) (n4:Nat) (c4:List D) (g5:Bool) (n5:Nat) (c5:List D) (a6:Bool) (a7:Bool) (a8:Bool) (a9:Int) (g10:Bool) (ph:Nat) (wX:List D) (g11:Bool) (dX:Nat) (pj:List D) (g12:Bool) (gv:Nat) (eC:List D) (g13:Bool) (js:Nat) (gV:List D) (g14:Bool) (ur:Nat) (ke:List D) (g15:Bool) (pk:Nat) (uw:List D) (a16:Int) (a17:Bool) (a18:Bool) (g19:Bool) (Uz:Nat) (AJ:List D) (g20:Bool) (AK:Nat) (UA:List D) (g21:Bool) (n21:Nat) (AL:List D) (a22:Bool) (a23:Bool) (a24:Bool) (a25:Int) (g26:Bool) (wY:Nat) (Mf:List D) (Mg:Bool) (n27:Nat) (wZ:List D) (FX:Bool) (FY:Nat) (c28:List D) (g29:Bool) (n29:Nat) (FZ:List D) (Mh:Bool) (n30:Nat) (F0:List D) (F1:Bool) (n31:Nat) (c31:List D):bc pr cv J 11 Try.f11 [(.agg [(.int .i64 a0),(.bool a1),(.bool a2),(.sl (some g3) 1 n3 c3),(.sl (some g4) 1 n4 c4),(.sl (some g5) 1 n5 c5),(.bool a6),(.bool a7),(.bool a8),(.int .i64 a9),(.sl (some g10) 1 ph wX),(.sl (some g11) 1 dX pj),(.sl (some g12) 1 gv eC),(.sl (some g13) 1 js gV),(.sl (some g14) 1 ur ke),(.sl (some g15) 1 pk uw)]),(.agg [(.int .i64 a16),(.bool a17),(.bool a18),(.sl (some g19) 1 Uz AJ),(.sl (some g20) 1 AK UA),(.sl (some g21) 1 n21 AL),(.bool a22),(.bool a23),(.bool a24),(.int .i64 a25),(.sl (some g26) 1 wY Mf),(.sl (some Mg) 1 n27 wZ),(.sl (some FX) 1 FY c28),(.sl (some g29) 1 n29 FZ),(.sl (some Mh) 1 n30 F0),(.sl (some F1) 1 n31 c31)])]=
    let y1:Option (D × List D):=(some ((.bool false),[.undef,.undef]))
    (br (br (pr.eq a0 a16) false true) y1 (br (br (pr.beq a1 a17) false true) y1 (br (br (pr.beq a2 a18) false true) y1 (cv 33 [(.sl (some g3) 1 n3 c3),(.sl (some g19) 1 Uz AJ)] (.bool (fun ck=>(.done (br (br ck false true) y1 (cv 34 [(.agg [(.sl (some g4) 1 n4 c4),(.sl (some g5) 1 n5 c5),(.bool a6),(.bool a7),(.bool a8),(.int .i64 a9)]),(.agg [(.sl (some g20) 1 AK UA),(.sl (some g21) 1 n21 AL),(.bool a22),(.bool a23),(.bool a24),(.int .i64 a25)])] (.bool (fun gj=>(.done (br (br gj false true) y1 (cv 35 [(.agg [(.sl (some g10) 1 ph wX),(.sl (some g11) 1 dX pj)]),(.agg [(.sl (some g26) 1 wY Mf),(.sl (some Mg) 1 n27 wZ)])] (.bool (fun ia=>(.done (br (br ia false true) y1 (cv 36 [(.sl (some g12) 1 gv eC),(.sl (some FX) 1 FY c28)] (.bool (fun yP=>(.done (br (br yP false true) y1 (cv 37 [(.sl (some g13) 1 js gV),(.sl (some g29) 1 n29 FZ)] (.bool (fun J0=>(.done (br (br J0 false true) y1 (cv 36 [(.sl (some g14) 1 ur ke),(.sl (some Mh) 1 n30 F0)] (.bool (fun tg=>(.done (br (br tg false true) y1 (cv 33 [(.sl (some g15) 1 pk uw),(.sl (some F1) 1 n31 c31)] (.bool (fun qP=>(.done (br (br qP false true) y1 (some ((.bool true),[.undef,.undef])))))))))))))))))))))))))))))))))))))))):=by kernel_rfl
theorem GJ:Told cfg Try.prog 7 Try.f7:=⟨by kernel_rfl,Try.func7,by kernel_rfl⟩
theorem GK (a0:Int) (a1:Bool) (a2:Bool) (g3:Bool) (n3:Nat) (c3:List D) (g4:Bool) (n4:Nat) (c4:List D) (g5:Bool) (n5:Nat) (c5:List D) (a6:Bool) (a7:Bool) (a8:Bool) (a9:Int) (g10:Bool) (ph:Nat) (wX:List D) (g11:Bool) (dX:Nat) (pj:List D) (g12:Bool) (gv:Nat) (eC:List D) (g13:Bool) (js:Nat) (gV:List D) (g14:Bool) (ur:Nat) (ke:List D) (g15:Bool) (pk:Nat) (uw:List D) (a16:Int):bc pr cv J 7 Try.f7 [(.agg [(.int .i64 a0),(.bool a1),(.bool a2),(.sl (some g3) 1 n3 c3),(.sl (some g4) 1 n4 c4),(.sl (some g5) 1 n5 c5),(.bool a6),(.bool a7),(.bool a8),(.int .i64 a9),(.sl (some g10) 1 ph wX),(.sl (some g11) 1 dX pj),(.sl (some g12) 1 gv eC),(.sl (some g13) 1 js gV),(.sl (some g14) 1 ur ke),(.sl (some g15) 1 pk uw)]),(.int .i64 a16)]=
    let y1:Option (D × List D):=(some ((.int .i64 (-1)),[.undef,.undef]))
    (cv 21 [(.sl (some g3) 1 n3 c3),(.int .i64 a16)] (.int (fun ga=>(.done (br (pr.lt ga 0) y1 (cv 22 [(.agg [(.sl (some g4) 1 n4 c4),(.sl (some g5) 1 n5 c5),(.bool a6),(.bool a7),(.bool a8),(.int .i64 a9)]),(.int .i64 ga)] (.int (fun mo=>(.done (br (pr.lt mo 0) y1 (cv 23 [(.agg [(.sl (some g10) 1 ph wX),(.sl (some g11) 1 dX pj)]),(.int .i64 mo)] (.int (fun th=>(.done (br (pr.lt th 0) y1 (cv 24 [(.sl (some g12) 1 gv eC),(.int .i64 th)] (.int (fun F2=>(.done (br (pr.lt F2 0) y1 (cv 25 [(.sl (some g13) 1 js gV),(.int .i64 F2)] (.int (fun kO=>(.done (br (pr.lt kO 0) y1 (cv 24 [(.sl (some g14) 1 ur ke),(.int .i64 kO)] (.int (fun qQ=>(.done (br (pr.lt qQ 0) y1 (cv 21 [(.sl (some g15) 1 pk uw),(.int .i64 qQ)] (.int (fun UB=>(.done (br (pr.lt UB 0) y1 (some ((.int .i64 UB),[.undef,.undef]))))))))))))))))))))))))))))))))))))):=by kernel_rfl
end
def tj (xss:List (List Int)):Prop:=xss.length≤1048576∧∀ xs∈xss,xs.length≤1048576
structure cU (m:aK):Prop where
  aA:m.aA.length≤1048576
  bits:tj m.bits
structure eo (s:aG):Prop where
  a:s.a.length≤1048576
  b:s.b.length≤1048576
structure bz (n:af):Prop where
  image:n.image.length≤1048576
  mt:cU n.mt
  cP:eo n.cP
  conn:n.conn.length≤1048576
  sync:tj n.sync
  bA:n.bA.length≤1048576
  wait:n.wait.length≤1048576
section
variable {x y:Rz} {R:Type} {u v:R}
theorem gW {g:Bool} {xss:List (List Int)} {i:Nat} (h:i < xss.length):br (U.dq 1 (rows (some g) xss) i) u v=u:=by simp [U,rows,br,List.getElem?_eq_getElem h]
theorem gX {g:Bool} {xss:List (List Int)} {i:Nat} (h:i < xss.length):U.cJ (rows (some g) xss) i=g:=by simp [U,rows,List.getElem?_eq_getElem h,cG]
theorem gY {g:Option Bool} {xss:List (List Int)} {i:Nat} (h:i < xss.length):U.cg (rows g xss) i=xss[i].length:=by simp [U,rows,List.getElem?_eq_getElem h,cN]
theorem iA {g:Option Bool} {xss:List (List Int)} {i:Nat} (h:i < xss.length):U.cq (rows g xss) i=ints xss[i]:=by simp [U,rows,List.getElem?_eq_getElem h,cC]
theorem Wg {xss:List (List Int)} {i:Nat} (h:i < xss.length):br (U.rj 1 (rows none xss) i) u v=u:=by simp [U,rows,br,List.getElem?_eq_getElem h]
theorem Y0 {g:Option Bool} {xss:List (List Int)} (h:0 < xss.length):br (U.ne (rows g xss)) u v=u:=by
  cases xss with
  | nil=>simp at h
  | cons _ _=>rfl
theorem J1 {xss:List (List Int)} {i:Nat} {ys:List Int}:List.set (rows none xss) i (.sl none 1 ys.length (ints ys))=rows none (xss.set i ys):=by simp [rows,List.map_set]
theorem PM (n:Nat):fm n [.nil 1]=rows none (List.replicate n []):=by
  unfold fm
  induction n with
  | zero=>rfl
  | succ n ih=>simpa [List.replicate_succ,rows,rZ,ints] using ih
theorem UC {g:Option Bool} (hg:g≠some true) (xss:List (List Int)):U.nl (rows g xss)=true:=mm (by
  intro d hd
  obtain ⟨xs,_,rfl⟩:=List.mem_map.1 hd
  have h1:bP (ints xs)=true:=lN xs
  cases g with
  | none=>simpa [bL] using h1
  | some g=>cases g with
    | false=>simpa [bL] using h1
    | true=>exact absurd rfl hg)
theorem J2 (xss:List (List Int)):U.nl (rows none xss)=true:=UC (by simp) xss
end
section
variable (t:bJ Rz)
theorem Bv (g:Bool) (xs:List Int) (hb:xs.length≤17592186044416):aY 27 [.sl (some g) 1 xs.length (ints xs)] t=feed t [.sl none 1 xs.length (ints xs)]:=bF (SC g xs hb (by omega)) (by kernel_rfl) t
theorem PN (g:Bool) (xs:List UInt8) (hb:xs.length≤140737488355328):aY 61 [.sl (some g) 1 xs.length (bytes xs)] t=feed t [.sl none 1 xs.length (bytes xs)]:=bF (PF g xs hb (by omega)) (by kernel_rfl) t
theorem PO (g:Bool) (xs:List Bool) (hb:xs.length≤140737488355328):aY 30 [.sl (some g) 1 xs.length (aH xs)] t=feed t [.sl none 1 xs.length (aH xs)]:=bF (PI g xs hb (by omega)) (by kernel_rfl) t
theorem tk (g h:Bool) (xs ys:List Int) (hb:xs.length < 9223372036854775807):aY 33 [.sl (some g) 1 xs.length (ints xs),.sl (some h) 1 ys.length (ints ys)] t=feed t [.bool (decide (xs=ys))]:=bF (SD g h xs ys hb) (by kernel_rfl) t
theorem F3 (g h:Bool) (xs ys:List UInt8) (hb:xs.length < 9223372036854775807):aY 63 [.sl (some g) 1 xs.length (bytes xs),.sl (some h) 1 ys.length (bytes ys)] t=feed t [.bool (decide (xs=ys))]:=bF (PG g h xs ys hb) (by kernel_rfl) t
theorem PQ (g h:Bool) (xs ys:List Bool) (hb:xs.length < 9223372036854775807):aY 36 [.sl (some g) 1 xs.length (aH xs),.sl (some h) 1 ys.length (aH ys)] t=feed t [.bool (decide (xs=ys))]:=bF (PJ g h xs ys hb) (by kernel_rfl) t
theorem tl (g:Bool) (n:Nat) (c:List D) (left:Int) (h0:0≤left) (h1:left≤1048576) (hn:n≤140737488355328):aY 21 [.sl (some g) 1 n c,.int .i64 left] t=feed t [.int .i64 (ff n left)]:=bF (SE g n c left h0 h1 hn) (by kernel_rfl) t
theorem F4 (g:Bool) (n:Nat) (c:List D) (left:Int) (h0:0≤left) (h1:left≤1048576) (hn:n≤140737488355328):aY 59 [.sl (some g) 1 n c,.int .i64 left] t=feed t [.int .i64 (ff n left)]:=bF (PH g n c left h0 h1 hn) (by kernel_rfl) t
theorem F5 (g:Bool) (n:Nat) (c:List D) (left:Int) (h0:0≤left) (h1:left≤1048576) (hn:n≤140737488355328):aY 24 [.sl (some g) 1 n c,.int .i64 left] t=feed t [.int .i64 (ff n left)]:=bF (PK g n c left h0 h1 hn) (by kernel_rfl) t
end
theorem cB {R:Type} (f:Int→bJ R) (k:IntKind) (n:Int) (l:List D):feed (.int f) (.int k n::l)=feed (f n) l:=rfl
theorem aC {R:Type} (f:Bool→bJ R) (b:Bool) (l:List D):feed (.bool f) (.bool b::l)=feed (f b) l:=rfl
theorem dZ {R:Type} (f:Nat→List D→bJ R) (s n:Nat) (cs l:List D):feed (.sl f) (.sl none s n cs::l)=feed (f n cs) l:=rfl
theorem aq {R:Type} (x:Option R) (l:List D):feed (.done x) l=x:=rfl
theorem PR (g:Bool) (xss:List (List Int)) (hb:tj xss):Cm 31 [sR (some g) xss] (sR none xss,[.undef]):=by
  have hl:=hb.1
  refine Cm.go Ec [.undef] 0 (iZ g xss.length (rows (some g) xss) (0:Nat) xss.length (rows none (List.replicate xss.length []))) ?_ fun J hJ=>?_
  · refine WP.loop (H:=fun i=>iZ g xss.length (rows (some g) xss) (i:Nat) xss.length (rows none (xss.take i++List.replicate (xss.length - i) []))) (n:=xss.length) (fun _=>True) (fun i hi _ ih=>WP.go _ (ih trivial) fun J hJ=>?_) (fun _=>WP.fin fun J=>?_) 0 (Nat.zero_le _) trivial
    · rw [ry]
      have hx:xss[i].length≤1048576:=hb.2 _ (List.getElem_mem hi)
      simp (disch:=first | omega | (simp; done) | (simp; omega)) only [aJ,bg,bf,aD,aW,bE,cM,gW,gX,gY,iA,Bv,dZ,aq,lN,Wg,Y0,J1,dw,PB]
      rw [wx hi _ xss rfl hi]
      exact hJ
    · rw [ry]
      simp (disch:=omega) only [aJ,bg,aD,bB,List.take_length,Nat.sub_self,List.replicate_zero,List.append_nil]
  · rw [Ed]
    simp (disch:=omega) only [aJ,bg,aD,zS,H7,PM]
    exact hJ
theorem PS (g h:Bool) (xs ys:List (List Int)) (hb:tj xs):Cm 37 [sR (some g) xs,sR (some h) ys] (.bool (decide (xs=ys)),[.undef,.undef]):=by
  have hlen:=hb.1
  by_cases hl:xs.length=ys.length
  · refine Cm.go vi [.undef,.undef] 0 (ja g xs.length (rows (some g) xs) h ys.length (rows (some h) ys) (0:Nat)) ?_ fun J hJ=>?_
    · refine WP.loop (H:=fun i=>ja g xs.length (rows (some g) xs) h ys.length (rows (some h) ys) (i:Nat)) (n:=xs.length) (fun i=>xs.take i=ys.take i) (fun i hi hv ih=>?_) (fun hv=>WP.fin fun J=>?_) 0 (Nat.zero_le _) (by simp)
      · have qF:i < ys.length:=by omega
        have hx:xs[i].length≤1048576:=hb.2 _ (List.getElem_mem hi)
        by_cases he:xs[i]=ys[i]
        · refine WP.go _ (ih (by rw [← List.take_append_getElem hi,← List.take_append_getElem qF,hv,he])) fun J hJ=>?_
          rw [mR]
          simp (disch:=omega) only [aJ,bg,bf,bt,bM,aD,aW,bE,cM,gW,gX,gY,iA,tk,aC,aq,decide_eq_true he,dw]
          exact hJ
        · refine WP.fin fun J=>?_
          rw [mR]
          have cK:xs≠ys:=fun e=>he (by subst e; rfl)
          simp (disch:=omega) only [aJ,bg,bf,bt,bM,aD,aW,bE,cM,gW,gX,gY,iA,tk,aC,aq,decide_eq_false he,decide_eq_false cK]
      · rw [mR]
        rw [List.take_length,hl,List.take_length] at hv
        simp (disch:=omega) only [aJ,bg,aD,bB,decide_eq_true hv]
    · rw [vj]
      simp (disch:=omega) only [aJ,bg,aD,bt,bM,fH]
      exact hJ
  · refine Cm.fin vi fun J=>?_
    have cK:xs≠ys:=fun e=>hl (by rw [e])
    rw [vj]
    simp (disch:=omega) only [aJ,bg,aD,bt,bM,dW,decide_eq_false cK]
def iB (v:Int) (k:Int→Int):Int:=if v < 0 then -1 else k v
def uy {α:Type} (f:α→Int→Int):List α→Int→Int
  | [],l=>l
  | x::xs,l=>iB (f x l) (uy f xs)
theorem jK {n:Nat} {l:Int} (h:0≤l):ff n l≤l∧-1≤ff n l∧(0≤ff n l→(n:Int)≤l):=by unfold ff; split<;>omega
theorem vm {v:Int} (k:Int→Int) (h:v < 0):iB v k=-1:=if_pos h
theorem vn {v:Int} (k:Int→Int) (h:0≤v):iB v k=k v:=if_neg (by omega)
theorem CW {α:Type} {f:α→Int→Int} {Q:α→Prop} (hf:∀ x l,0≤l→f x l≤l∧-1≤f x l∧(0≤f x l→l≤1048576→Q x)):∀ (xs:List α) (l:Int),0≤l→l≤1048576→uy f xs l≤l∧-1≤uy f xs l∧(0≤uy f xs l→∀ x∈xs,Q x)
  | [],l,h,_=>⟨Int.le_refl _,by show -1≤l; omega,fun _=>by simp⟩
  | x::xs,l,h,hm=>by
    obtain ⟨h1,h2,h3⟩:=hf x l h
    simp only [uy]
    by_cases hv:f x l < 0
    · rw [vm _ hv]
      exact ⟨by omega,by omega,by omega⟩
    · rw [vn _ (by omega)]
      obtain ⟨g1,g2,g3⟩:=CW hf xs (f x l) (by omega) (by omega)
      refine ⟨by omega,g2,fun hp y hy=>?_⟩
      rcases List.mem_cons.1 hy with rfl | hy
      · exact h3 (by omega) hm
      · exact g3 hp y hy
def vo (xss:List (List Int)) (l:Int):Int:=iB (ff xss.length l) (uy (fun xs l=>ff xs.length l) xss)
theorem J3 {xss:List (List Int)} {l:Int} (h:0≤l) (hm:l≤1048576):vo xss l≤l∧-1≤vo xss l∧(0≤vo xss l→tj xss):=by
  obtain ⟨h1,h2,h3⟩:=jK (n:=xss.length) h
  unfold vo
  by_cases hv:ff xss.length l < 0
  · rw [vm _ hv]
    exact ⟨by omega,by omega,by omega⟩
  · rw [vn _ (by omega)]
    obtain ⟨g1,g2,g3⟩:=CW (f:=fun (xs:List Int) l=>ff xs.length l) (Q:=fun xs=>xs.length≤1048576) (fun xs l hl=>by
      obtain ⟨a1,a2,a3⟩:=jK (n:=xs.length) hl
      exact ⟨a1,a2,fun hh hm=>by have:=a3 hh; omega⟩) xss (ff xss.length l) (by omega) (by omega)
    exact ⟨by omega,g2,fun hp=>⟨by have:=h3 (by omega); omega,g3 hp⟩⟩
theorem PT (g:Bool) (xss:List (List Int)) (left:Int) (h0:0≤left) (h1:left≤1048576) (hn:xss.length≤140737488355328) (hx:∀ xs∈xss,xs.length≤140737488355328):Cm 25 [sR (some g) xss,.int .i64 left] (.int .i64 (vo xss left),[.undef,.undef]):=by
  have hlen:=jK (n:=xss.length) h0
  have loop:∀ k i (l:Int),i+k=xss.length→0≤l→l≤1048576→WP 25 Try.f25 [.undef,.undef] 0 (kZ g xss.length (rows (some g) xss) l (i:Nat)) (.int .i64 (uy (fun xs l=>ff xs.length l) (xss.drop i) l),[.undef,.undef]):=by
    intro k
    induction k with
    | zero=>
      intro i l hi hl hm
      refine WP.fin fun J=>?_
      rw [mS,List.drop_of_length_le (by omega)]
      simp (disch:=omega) only [aD,bB,uy]
    | succ k ih=>
      intro i l hi hl hm
      have qF:i < xss.length:=by omega
      have hxi:=hx _ (List.getElem_mem qF)
      obtain ⟨a1,a2,a3⟩:=jK (n:=xss[i].length) hl
      have e:uy (fun xs l=>ff xs.length l) (xss.drop i) l=iB (ff xss[i].length l) (uy (fun xs l=>ff xs.length l) (xss.drop (i+1))):=by
        rw [← List.getElem_cons_drop qF]
        rfl
      rw [e]
      by_cases hv:ff xss[i].length l < 0
      · refine WP.fin fun J=>?_
        rw [mS,vm _ hv]
        simp (disch:=omega) only [aJ,bg,bf,aD,aW,bE,cM,gW,gX,gY,iA,tl,cB,aq]
      · rw [vn _ (by omega)]
        refine WP.go _ (ih (i+1) (ff xss[i].length l) (by omega) (by omega) (by omega)) fun J hJ=>?_
        rw [mS]
        have kL:0≤ff xss[i].length l:=by omega
        simp (disch:=omega) only [aJ,bg,bf,aD,aW,bE,cM,gW,gX,gY,iA,tl,cB,aq,bB,dw]
        exact hJ
  by_cases h:left < xss.length
  · refine Cm.fin vk fun J=>?_
    rw [vl,vo,vm _ (by unfold ff; rw [if_pos h]; omega)]
    simp (disch:=omega) only [aD,kX,aW]
  · have e:ff xss.length left=left - xss.length:=if_neg h
    rw [vo,vn _ (by omega),e]
    refine Cm.go vk [.undef,.undef] 0 _ (loop xss.length 0 (left - xss.length) (by omega) (by omega) (by omega)) fun J hJ=>?_
    rw [vl]
    simp (disch:=omega) only [aD,kX,bB]
    exact hJ
section
variable (t:bJ Rz)
theorem F6 (g:Bool) (xss:List (List Int)) (hb:tj xss):aY 31 [.sl (some g) 1 xss.length (rows (some g) xss)] t=feed t [.sl none 1 xss.length (rows none xss)]:=bF (PR g xss hb) (by kernel_rfl) t
theorem F7 (g h:Bool) (xs ys:List (List Int)) (hb:tj xs):aY 37 [.sl (some g) 1 xs.length (rows (some g) xs),.sl (some h) 1 ys.length (rows (some h) ys)] t=feed t [.bool (decide (xs=ys))]:=bF (PS g h xs ys hb) (by kernel_rfl) t
theorem F8 (g:Bool) (xss:List (List Int)) (left:Int) (h0:0≤left) (h1:left≤1048576) (hn:xss.length≤140737488355328) (hx:∀ xs∈xss,xs.length≤140737488355328):aY 25 [.sl (some g) 1 xss.length (rows (some g) xss),.int .i64 left] t=feed t [.int .i64 (vo xss left)]:=bF (PT g xss left h0 h1 hn hx) (by kernel_rfl) t
end
theorem SF (g:Bool) (m:aK) (h:cU m):Cm 28 [.agg (cn (some g) m)] (.agg (cn none m),[.undef]):=by
  have h1:=h.aA
  refine Cm.fin Gy fun J=>?_
  rw [Gz]
  simp (disch:=first | omega | exact h.bits) only [Bv,F6,dZ,aq,lN,J2,aJ]
theorem PU (g:Bool) (s:aG) (h:eo s):Cm 29 [.agg (dg (some g) s)] (.agg (dg none s),[.undef]):=by
  have h1:=h.a
  have h2:=h.b
  refine Cm.fin Ee fun J=>?_
  rw [Ef]
  simp (disch:=omega) only [PN,dZ,aq,eV,aJ]
theorem SG (g h:Bool) (m:aK) (ok:cU m):Cm 34 [.agg (cn (some g) m),.agg (cn (some h) m)] (.bool true,[.undef,.undef]):=by
  have h1:=ok.aA
  refine Cm.fin GA fun J=>?_
  rw [GB]
  simp (disch:=first | omega | exact ok.bits) only [tk,F7,aC,aq,decide_true,aJ,bg,rM,beq_self_eq_true,fH]
theorem PV (g h:Bool) (s:aG) (ok:eo s):Cm 35 [.agg (dg (some g) s),.agg (dg (some h) s)] (.bool true,[.undef,.undef]):=by
  have h1:=ok.a
  have h2:=ok.b
  refine Cm.fin Eg fun J=>?_
  rw [Eh]
  simp (disch:=omega) only [F3,aC,aq,decide_true,aJ,bg]
structure J4 (m:aK):Prop where
  aA:m.aA.length≤140737488355328
  bits:m.bits.length≤140737488355328
  bit:∀ xs∈m.bits,xs.length≤140737488355328
structure tn (n:af):Prop where
  image:n.image.length≤140737488355328
  mt:J4 n.mt
  a:n.cP.a.length≤140737488355328
  b:n.cP.b.length≤140737488355328
  conn:n.conn.length≤140737488355328
  sync:n.sync.length≤140737488355328
  syn:∀ xs∈n.sync,xs.length≤140737488355328
  bA:n.bA.length≤140737488355328
  wait:n.wait.length≤140737488355328
def rW (m:aK) (l:Int):Int:=iB (ff m.aA.length l) fun l=>iB (vo m.bits l) fun l=>l
def pX (s:aG) (l:Int):Int:=iB (ff s.a.length l) fun l=>iB (ff s.b.length l) fun l=>l
def fw (n:af) (l:Int):Int:=iB (ff n.image.length l) fun l=>iB (rW n.mt l) fun l=>iB (pX n.cP l) fun l=>iB (ff n.conn.length l) fun l=>iB (vo n.sync l) fun l=>iB (ff n.bA.length l) fun l=>iB (ff n.wait.length l) fun l=>l
theorem gk {v l:Int} {k:Int→Int} {Q Q':Prop} (hl:0≤l) (hv:v≤l∧-1≤v∧(0≤v→Q)) (hk:0≤v→k v≤v∧-1≤k v∧(0≤k v→Q')):iB v k≤l∧-1≤iB v k∧(0≤iB v k→Q∧Q'):=by
  unfold iB
  split
  · omega
  · obtain ⟨a,b,c⟩:=hk (by omega)
    exact ⟨by omega,b,fun h=>⟨hv.2.2 (by omega),c h⟩⟩
theorem CX {l:Int} (h:0≤l):l≤l∧-1≤l∧(0≤l→True):=⟨by omega,by omega,fun _=>trivial⟩
theorem ni {n:Nat} {l:Int} (h:0≤l) (hm:l≤1048576):ff n l≤l∧-1≤ff n l∧(0≤ff n l→n≤1048576):=by
  obtain ⟨a,b,c⟩:=jK (n:=n) h
  exact ⟨a,b,fun hh=>by have:=c hh; omega⟩
theorem CY {m:aK} {l:Int} (h:0≤l) (hm:l≤1048576):rW m l≤l∧-1≤rW m l∧(0≤rW m l→cU m):=by
  have a1:=ni (n:=m.aA.length) h hm
  have:=gk (k:=fun l=>iB (vo m.bits l) fun l=>l) h a1 fun h2=>gk h2 (J3 (xss:=m.bits) h2 (by omega)) fun h3=>CX h3
  exact ⟨this.1,this.2.1,fun hh=>by obtain ⟨b1,b2,_⟩:=this.2.2 hh; exact ⟨b1,b2⟩⟩
theorem AM {s:aG} {l:Int} (h:0≤l) (hm:l≤1048576):pX s l≤l∧-1≤pX s l∧(0≤pX s l→eo s):=by
  have a1:=ni (n:=s.a.length) h hm
  have:=gk (k:=fun l=>iB (ff s.b.length l) fun l=>l) h a1 fun h2=>gk h2 (ni (n:=s.b.length) h2 (by omega)) fun h3=>CX h3
  exact ⟨this.1,this.2.1,fun hh=>by obtain ⟨b1,b2,_⟩:=this.2.2 hh; exact ⟨b1,b2⟩⟩
theorem wy {n:af} {l:Int} (h:0≤l) (hm:l≤1048576):fw n l≤l∧-1≤fw n l∧(0≤fw n l→bz n):=by
  have a1:=ni (n:=n.image.length) h hm
  have a2:∀ {l:Int},0≤l→l≤1048576→_:=fun {l} h hm=>CY (m:=n.mt) (l:=l) h hm
  have a3:∀ {l:Int},0≤l→l≤1048576→_:=fun {l} h hm=>AM (s:=n.cP) (l:=l) h hm
  have a4:∀ {l:Int},0≤l→l≤1048576→_:=fun {l} h hm=>ni (n:=n.conn.length) (l:=l) h hm
  have a5:∀ {l:Int},0≤l→l≤1048576→_:=fun {l} h hm=>J3 (xss:=n.sync) (l:=l) h hm
  have a6:∀ {l:Int},0≤l→l≤1048576→_:=fun {l} h hm=>ni (n:=n.bA.length) (l:=l) h hm
  have a7:∀ {l:Int},0≤l→l≤1048576→_:=fun {l} h hm=>ni (n:=n.wait.length) (l:=l) h hm
  have key:fw n l≤l∧-1≤fw n l∧(0≤fw n l→n.image.length≤1048576∧cU n.mt∧eo n.cP∧n.conn.length≤1048576∧tj n.sync∧n.bA.length≤1048576∧n.wait.length≤1048576∧True):=by
    unfold fw
    refine gk h a1 fun h1=>?_
    have k1:=a2 h1 (by omega)
    refine gk h1 k1 fun h2=>?_
    have k2:=a3 h2 (by omega)
    refine gk h2 k2 fun h3=>?_
    have k3:=a4 h3 (by omega)
    refine gk h3 k3 fun h4=>?_
    have k4:=a5 h4 (by omega)
    refine gk h4 k4 fun h5=>?_
    have k5:=a6 h5 (by omega)
    refine gk h5 k5 fun h6=>?_
    exact gk h6 (a7 h6 (by omega)) fun h7=>CX h7
  refine ⟨key.1,key.2.1,fun hh=>?_⟩
  obtain ⟨b1,b2,b3,b4,b5,b6,b7,_⟩:=key.2.2 hh
  exact ⟨b1,b2,b3,b4,b5,b6,b7⟩
theorem mq {f:Int→Option Rz} {g:Int→Int} {outs:List D} {v:Int} (h:0≤v→f v=some (.int .i64 (g v),outs)):br (U.lt v 0) (some (.int .i64 (-1),outs)) (f v)=some (.int .i64 (iB v g),outs):=by
  by_cases hv:v < 0
  · rw [aW hv,vm _ hv]
  · rw [bB (by omega),vn _ (by omega),h (by omega)]
theorem SI (g:Bool) (m:aK) (left:Int) (h0:0≤left) (h1:left≤1048576) (ln:J4 m):Cm 22 [.agg (cn (some g) m),.int .i64 left] (.int .i64 (rW m left),[.undef,.undef]):=by
  refine Cm.fin GC fun J=>?_
  rw [GD]
  have l1:=ln.aA
  have a1:=jK (n:=m.aA.length) h0
  simp (disch:=omega) only [tl,cB,aq]
  refine mq (f:=fun v=>aY 25 _ _) fun p1=>?_
  simp (disch:=first | omega | exact ln.bits | exact ln.bit) only [F8,cB,aq]
  exact mq (f:=fun v=>some (.int .i64 v,[.undef,.undef])) fun _=>rfl
theorem PW (g:Bool) (s:aG) (left:Int) (h0:0≤left) (h1:left≤1048576) (l1:s.a.length≤140737488355328) (l2:s.b.length≤140737488355328):Cm 23 [.agg (dg (some g) s),.int .i64 left] (.int .i64 (pX s left),[.undef,.undef]):=by
  refine Cm.fin Ei fun J=>?_
  rw [Ej]
  have a1:=jK (n:=s.a.length) h0
  simp (disch:=omega) only [F4,cB,aq]
  refine mq (f:=fun v=>aY 59 _ _) fun p1=>?_
  simp (disch:=omega) only [F4,cB,aq]
  exact mq (f:=fun v=>some (.int .i64 v,[.undef,.undef])) fun _=>rfl
section
variable (t:bJ Rz)
theorem SJ (g:Bool) (m:aK) (h:cU m):aY 28 [.agg (cn (some g) m)] t=feed t (cn none m):=bF (SF g m h) (by kernel_rfl) t
theorem PX (g:Bool) (s:aG) (h:eo s):aY 29 [.agg (dg (some g) s)] t=feed t (dg none s):=bF (PU g s h) (by kernel_rfl) t
theorem SK (g h:Bool) (m:aK) (ok:cU m):aY 34 [.agg (cn (some g) m),.agg (cn (some h) m)] t=feed t [.bool true]:=bF (SG g h m ok) (by kernel_rfl) t
theorem PY (g h:Bool) (s:aG) (ok:eo s):aY 35 [.agg (dg (some g) s),.agg (dg (some h) s)] t=feed t [.bool true]:=bF (PV g h s ok) (by kernel_rfl) t
theorem SL (g:Bool) (m:aK) (left:Int) (h0:0≤left) (h1:left≤1048576) (ln:J4 m):aY 22 [.agg (cn (some g) m),.int .i64 left] t=feed t [.int .i64 (rW m left)]:=bF (SI g m left h0 h1 ln) (by kernel_rfl) t
theorem PZ (g:Bool) (s:aG) (left:Int) (h0:0≤left) (h1:left≤1048576) (l1:s.a.length≤140737488355328) (l2:s.b.length≤140737488355328):aY 23 [.agg (dg (some g) s),.int .i64 left] t=feed t [.int .i64 (pX s left)]:=bF (PW g s left h0 h1 l1 l2) (by kernel_rfl) t
end
theorem SM (g:Bool) (n:af) (h:bz n):Cm 9 [.agg (ab (some g) n)] (.agg (ab none n),[.undef]):=by
  have h1:=h.image
  have h2:=h.conn
  have h3:=h.bA
  have h4:=h.wait
  refine Cm.fin GF fun J=>?_
  rw [GG]
  simp (disch:=first | omega | exact h.mt | exact h.cP | exact h.sync) only [Bv,F6,PO,SJ,PX,dZ,aC,cB,aq,lN,J2,eV,NI,aJ]
theorem SN (g h:Bool) (n:af) (ok:bz n):Cm 11 [.agg (ab (some g) n),.agg (ab (some h) n)] (.bool true,[.undef,.undef]):=by
  have h1:=ok.image
  have h2:=ok.conn
  have h3:=ok.bA
  have h4:=ok.wait
  refine Cm.fin GH fun J=>?_
  rw [GI]
  simp (disch:=first | omega | exact ok.mt | exact ok.cP | exact ok.sync) only [tk,F7,PQ,SK,PY,aC,aq,decide_true,aJ,bg,rM,beq_self_eq_true,fH]
theorem SO (g:Bool) (n:af) (left:Int) (h0:0≤left) (h1:left≤1048576) (ln:tn n):Cm 7 [.agg (ab (some g) n),.int .i64 left] (.int .i64 (fw n left),[.undef,.undef]):=by
  refine Cm.fin GJ fun J=>?_
  rw [GK]
  have l1:=ln.image
  have l2:=ln.conn
  have l3:=ln.bA
  have l4:=ln.wait
  have a1:=jK (n:=n.image.length) h0
  simp (disch:=omega) only [tl,cB,aq]
  refine mq (f:=fun v=>aY 22 _ _) fun p1=>?_
  have a2:=CY (m:=n.mt) p1 (by omega)
  simp (disch:=first | omega | exact ln.mt) only [SL,cB,aq]
  refine mq (f:=fun v=>aY 23 _ _) fun p2=>?_
  have a3:=AM (s:=n.cP) p2 (by omega)
  simp (disch:=first | omega | exact ln.a | exact ln.b) only [PZ,cB,aq]
  refine mq (f:=fun v=>aY 24 _ _) fun p3=>?_
  have a4:=jK (n:=n.conn.length) p3
  simp (disch:=omega) only [F5,cB,aq]
  refine mq (f:=fun v=>aY 25 _ _) fun p4=>?_
  have a5:=J3 (xss:=n.sync) p4 (by omega)
  simp (disch:=first | omega | exact ln.sync | exact ln.syn) only [F8,cB,aq]
  refine mq (f:=fun v=>aY 24 _ _) fun p5=>?_
  have a6:=jK (n:=n.bA.length) p5
  simp (disch:=omega) only [F5,cB,aq]
  refine mq (f:=fun v=>aY 21 _ _) fun p6=>?_
  simp (disch:=omega) only [tl,cB,aq]
  exact mq (f:=fun v=>some (.int .i64 v,[.undef,.undef])) fun _=>rfl
end Go.Proofs.Ytockoilcnmljiaa
namespace Go.Proofs.Ytockoilcnmljiaa
set_option maxRecDepth 100000
section
variable (pr:cT) (cv:Cv Rz) (J:Nat→St→Option Rz)
theorem K2:Told cfg Try.prog 64 Try.f64:=⟨by kernel_rfl,Try.func64,by kernel_rfl⟩
theorem K3 (a0:Int) (a1:Int) (a2:Int):bc pr cv J 64 Try.f64 [(.int .i64 a0),(.int .i64 a1),(.int .i64 a2)]=
    (br (pr.le a1 a0) (some ((.bool (pr.le a0 a2)),[.undef,.undef,.undef])) (some ((.bool false),[.undef,.undef,.undef]))):=by kernel_rfl
theorem K4:Told cfg Try.prog 99 Try.f99:=⟨by kernel_rfl,Try.func99,by kernel_rfl⟩
theorem K5 (a0:Int) (a1:Int) (a2:Int):bc pr cv J 99 Try.f99 [(.int .i64 a0),(.int .i64 a1),(.int .i64 a2)]=
    (br (pr.le a1 a0) (some ((.bool (pr.le a0 a2)),[.undef,.undef,.undef])) (some ((.bool false),[.undef,.undef,.undef]))):=by kernel_rfl
end
theorem K6 (a b c:Int):Cm 99 [.int .i64 a,.int .i64 b,.int .i64 c] (.bool (decide (b≤a∧a≤c)),[.undef,.undef,.undef]):=by
  refine Cm.fin K4 fun J=>?_
  rw [K5]
  by_cases h:b≤a
  · rw [zR h,wv]
    simp only [h,true_and]
  · simp (disch:=omega) only [nh,h,false_and,decide_false]
theorem Y1 (a b c:Int):Cm 64 [.int .i64 a,.int .i64 b,.int .i64 c] (.bool (decide (b≤a∧a≤c)),[.undef,.undef,.undef]):=by
  refine Cm.fin K2 fun J=>?_
  rw [K3]
  by_cases h:b≤a
  · rw [zR h,wv]
    simp only [h,true_and]
  · simp (disch:=omega) only [nh,h,false_and,decide_false]
section
variable (t:bJ Rz)
theorem gQ (a b c:Int):aY 99 [.int .i64 a,.int .i64 b,.int .i64 c] t=feed t [.bool (decide (b≤a∧a≤c))]:=bF (K6 a b c) (by kernel_rfl) t
theorem jL (a b c:Int):aY 64 [.int .i64 a,.int .i64 b,.int .i64 c] t=feed t [.bool (decide (b≤a∧a≤c))]:=bF (Y1 a b c) (by kernel_rfl) t
end
end Go.Proofs.Ytockoilcnmljiaa
namespace Go.Proofs.Ytockoilcnmljiaa
set_option maxRecDepth 100000
def rk (xs:List Int):Prop:=∀ x∈xs,te x=true
section
variable (t:bJ Rz)
theorem SP (g:Bool) (n:af) (h:bz n):aY 9 [.agg (ab (some g) n)] t=feed t [enc .node n]:=bK (r:=enc .node n) (s:=.ty .node) (ss:=[.undef]) (SM g n h) (by kernel_rfl) (aw _ _) (by simp only [ai,aI,ak,Bool.and_self]) (av _ _) rfl t
theorem J5 (g h:Bool) (n:af) (ok:bz n):aY 11 [.agg (ab (some g) n),.agg (ab (some h) n)] t=feed t [.bool true]:=bF (SN g h n ok) (by kernel_rfl) t
theorem SQ (g:Bool) (n:af) (left:Int) (h0:0≤left) (h1:left≤1048576) (ln:tn n):aY 7 [.agg (ab (some g) n),.int .i64 left] t=feed t [.int .i64 (fw n left)]:=bF (SO g n left h0 h1 ln) (by kernel_rfl) t
end
end Go.Proofs.Ytockoilcnmljiaa
namespace Go.Proofs.Ytockoilcnmljiaa
set_option maxRecDepth 100000
theorem Ek {n:Int} (h:(Lit.int .i64 n).wf=true):te n=true:=by
  simp [Lit.wf,IntKind.min,IntKind.max,IntKind.bits,IntKind.signed] at h
  rw [JX]
  omega
abbrev P2:Sh:=.sl 8 (.int .i64)
abbrev Y2:Sh:=.sl 1 (.int .u8)
abbrev Y3:Sh:=.sl 1 .bool
abbrev Y4:Sh:=.sl 24 (.sl 8 (.int .i64))
abbrev Y5:Sh:=.ag [P2,Y4,.bool,.bool,.bool,.int .i64]
abbrev Wh:Sh:=.ag [Y2,Y2]
abbrev J6:Sh:=.ag [.int .i64,.bool,.bool,P2,Y5,Wh,Y3,Y4,Y3,P2]
theorem NM {ds:List D} (h:WT P2 ds):∃ xs,ds=[sI (some false) xs]∧xs.length≤17592186044416∧rk xs:=by
  obtain ⟨es,rfl,he,hx⟩:=h
  have key:∀ es:List (List D),(∀ x∈es,WT (.int .i64) x)→∃ xs,es.flatten=ints xs∧xs.length=es.length∧rk xs:=by
    intro es
    induction es with
    | nil=>intro _; exact ⟨[],rfl,rfl,by simp [rk]⟩
    | cons e es ih=>
      intro h
      obtain ⟨n,rfl,hn⟩:=h e (by simp)
      obtain ⟨xs,h1,h2,h3⟩:=ih (fun x hx=>h x (by simp [hx]))
      refine ⟨n::xs,by rw [List.flatten_cons,h1]; rfl,by simp [h2],fun x hx=>?_⟩
      rcases List.mem_cons.1 hx with rfl | hx
      · exact Ek hn
      · exact h3 x hx
  obtain ⟨xs,h1,h2,h3⟩:=key es hx
  refine ⟨xs,by rw [h1,← h2]; rfl,?_,h3⟩
  have:reachBytes=140737488351232:=rfl
  omega
theorem Y6 {ds:List D} (h:WT Y2 ds):∃ xs,ds=[s8 (some false) xs]∧xs.length≤140737488351232:=by
  obtain ⟨es,rfl,he,hx⟩:=h
  have key:∀ es:List (List D),(∀ x∈es,WT (.int .u8) x)→∃ xs,es.flatten=bytes xs∧xs.length=es.length:=by
    intro es
    induction es with
    | nil=>intro _; exact ⟨[],rfl,rfl⟩
    | cons e es ih=>
      intro h
      obtain ⟨n,rfl,hn⟩:=h e (by simp)
      obtain ⟨xs,h1,h2⟩:=ih (fun x hx=>h x (by simp [hx]))
      simp [Lit.wf,IntKind.min,IntKind.max,IntKind.bits,IntKind.signed] at hn
      refine ⟨UInt8.ofNat n.toNat::xs,?_,by simp [h2]⟩
      rw [List.flatten_cons,h1]
      have:((UInt8.ofNat n.toNat).toNat:Int)=n:=by simp only [UInt8.toNat_ofNat']; omega
      simp only [bytes,List.map_cons,ef,this]
      rfl
  obtain ⟨xs,h1,h2⟩:=key es hx
  refine ⟨xs,by rw [h1,← h2]; rfl,?_⟩
  have:reachBytes=140737488351232:=rfl
  omega
theorem Y7 {ds:List D} (h:WT Y3 ds):∃ xs,ds=[sB (some false) xs]∧xs.length≤140737488351232:=by
  obtain ⟨es,rfl,he,hx⟩:=h
  have key:∀ es:List (List D),(∀ x∈es,WT .bool x)→∃ xs,es.flatten=aH xs∧xs.length=es.length:=by
    intro es
    induction es with
    | nil=>intro _; exact ⟨[],rfl,rfl⟩
    | cons e es ih=>
      intro h
      obtain ⟨n,rfl⟩:=h e (by simp)
      obtain ⟨xs,h1,h2⟩:=ih (fun x hx=>h x (by simp [hx]))
      exact ⟨n::xs,by rw [List.flatten_cons,h1]; rfl,by simp [h2]⟩
  obtain ⟨xs,h1,h2⟩:=key es hx
  refine ⟨xs,by rw [h1,← h2]; rfl,?_⟩
  have:reachBytes=140737488351232:=rfl
  omega
theorem Y8 {ds:List D} (h:WT Y4 ds):∃ xs,ds=[sR (some false) xs]∧xs.length≤140737488355328∧(∀ x∈xs,x.length≤140737488355328)∧∀ x∈xs,rk x:=by
  obtain ⟨es,rfl,he,hx⟩:=h
  have key:∀ es:List (List D),(∀ x∈es,WT P2 x)→∃ xs,es.flatten=rows (some false) xs∧xs.length=es.length∧(∀ x∈xs,x.length≤140737488355328)∧∀ x∈xs,rk x:=by
    intro es
    induction es with
    | nil=>intro _; exact ⟨[],rfl,rfl,by simp,by simp⟩
    | cons e es ih=>
      intro h
      obtain ⟨n,rfl,hn,h4⟩:=NM (h e (by simp))
      obtain ⟨xs,h1,h2,h3,h5⟩:=ih (fun x hx=>h x (by simp [hx]))
      refine ⟨n::xs,by rw [List.flatten_cons,h1]; rfl,by simp [h2],fun x hx=>?_,fun x hx=>?_⟩
      · rcases List.mem_cons.1 hx with rfl | hx
        · omega
        · exact h3 x hx
      · rcases List.mem_cons.1 hx with rfl | hx
        · exact h4
        · exact h5 x hx
  obtain ⟨xs,h1,h2,h3,h4⟩:=key es hx
  refine ⟨xs,by rw [h1,← h2]; rfl,?_,h3,h4⟩
  have:reachBytes=140737488351232:=rfl
  omega
structure CZ (n:af):Prop where
  id:te n.id=true
  last:te n.mt.last=true
  image:rk n.image
  aA:rk n.mt.aA
  bits:∀ x∈n.mt.bits,rk x
  sync:∀ x∈n.sync,rk x
  wait:rk n.wait
theorem Mi {ds:List D} (h:WT J6 ds):∃ n:af,ds=ab (some false) n∧tn n∧CZ n:=by
  obtain ⟨_,_,rfl,⟨id,rfl,P3⟩,_,_,rfl,⟨up,rfl⟩,_,_,rfl,⟨bD,rfl⟩,_,_,rfl,acY,_,_,rfl,hmt,_,_,rfl,fR,_,_,rfl,aaL,_,_,rfl,aaM,_,_,rfl,acZ,_,_,rfl,aaN,rfl⟩:=h
  obtain ⟨image,rfl,l1,i1⟩:=NM acY
  obtain ⟨_,_,rfl,hg,_,_,rfl,hb,_,_,rfl,⟨bY,rfl⟩,_,_,rfl,⟨bQ,rfl⟩,_,_,rfl,⟨held,rfl⟩,_,_,rfl,⟨last,rfl,aaO⟩,rfl⟩:=hmt
  obtain ⟨aA,rfl,l2,i2⟩:=NM hg
  obtain ⟨bits,rfl,l3,l3',i3⟩:=Y8 hb
  obtain ⟨_,_,rfl,ha,_,_,rfl,fu,rfl⟩:=fR
  obtain ⟨a,rfl,l4⟩:=Y6 ha
  obtain ⟨b,rfl,l5⟩:=Y6 fu
  obtain ⟨conn,rfl,l6⟩:=Y7 aaL
  obtain ⟨sync,rfl,l7,l7',i7⟩:=Y8 aaM
  obtain ⟨bA,rfl,l8⟩:=Y7 acZ
  obtain ⟨wait,rfl,l9,i9⟩:=NM aaN
  refine ⟨⟨id,up,bD,image,⟨aA,bits,bY,bQ,held,last⟩,⟨a,b⟩,conn,sync,bA,wait⟩,rfl,⟨?_,⟨?_,l3,l3'⟩,?_,?_,?_,l7,l7',?_,?_⟩,⟨Ek P3,Ek aaO,i1,i2,i3,i7,i9⟩⟩<;>simp only<;>omega
theorem gw (b:Bool):∀ xs:List Int,cW b (ints xs)=ints xs
  | []=>rfl
  | x::xs=>by
    have ih:=gw b xs
    simp only [ints] at ih
    simp only [ints,List.map_cons,cW,gS,ih]
theorem gR (b:Bool):∀ xs:List UInt8,cW b (bytes xs)=bytes xs
  | []=>rfl
  | x::xs=>by
    have ih:=gR b xs
    simp only [bytes] at ih
    simp only [bytes,List.map_cons,cW,ef,gS,ih]
theorem jM (b:Bool):∀ xs:List Bool,cW b (aH xs)=aH xs
  | []=>rfl
  | x::xs=>by
    have ih:=jM b xs
    simp only [aH] at ih
    simp only [aH,List.map_cons,cW,gS,ih]
theorem gZ (b:Bool):∀ xs:List (List Int),cW b (rows none xs)=rows (some b) xs
  | []=>rfl
  | x::xs=>by
    have ih:=gZ b xs
    simp only [rows] at ih
    simp only [rows,List.map_cons,cW,gS,ih,gw]
end Go.Proofs.Ytockoilcnmljiaa
namespace Go.Proofs.Ytockoilcnmljiaa
set_option maxRecDepth 100000
section
variable (pr:cT) (cv:Cv Rz) (J:Nat→St→Option Rz)
def SS (g0:Bool) (n1:Nat) (c2:List D) (i3:Int) (i4:Int):St:=(St.mk [(0,(.sl (some g0) 16 n1 c2)),(1,(.int .i64 i3)),(5,(.int .i64 i4))] [] [] 0)
def SU (g0:Bool) (n1:Nat) (c2:List D) (i3:Int) (n4:Nat) (c5:List D):St:=(St.mk [(0,(.sl (some g0) 16 n1 c2)),(3,(.ref 10003 [] 0 none)),(4,(.int .i64 i3))] [(10003,[(.sl none 16 n4 c5)])] [] 0)
def jb (g0:Bool) (n1:Nat) (c2:List D) (g3:Bool) (n4:Nat) (c5:List D) (i6:Int):St:=(St.mk [(0,(.sl (some g0) 16 n1 c2)),(1,(.sl (some g3) 16 n4 c5)),(5,(.int .i64 i6))] [] [] 0)
theorem El:Told cfg Try.prog 48 Try.f48:=⟨by kernel_rfl,Try.func48,by kernel_rfl⟩
theorem Em (g0:Bool) (n0:Nat) (c0:List D) (g1:Bool) (n1:Nat) (c1:List D):bc pr cv J 48 Try.f48 [(.sl (some g0) 16 n0 c0),(.sl (some g1) 16 n1 c1)]=
    (br (br (pr.eq (pr.bu n0) (pr.bu n1)) false true) (some ((.bool false),[.undef,.undef])) (J 0 (jb g0 n0 c0 g1 n1 c1 0))):=by kernel_rfl
theorem rz (g0:Bool) (n1:Nat) (c2:List D) (g3:Bool) (n4:Nat) (c5:List D) (i6:Int):cA pr cv J 48 Try.f48 [.undef,.undef] 0 (jb g0 n1 c2 g3 n4 c5 i6)=
    (br (pr.lt i6 (pr.bu n1)) (br (pr.bT i6 n1) (br (br (pr.cL .i64 c2 (pr.idx 0 i6 16)) (br (pr.eD c2 ((pr.idx 0 i6 16)+1)) (br (pr.eD c2 ((pr.idx 0 i6 16)+2)) (br (pr.dq 1 c2 ((pr.idx 0 i6 16)+3)) (br (pr.dq 1 c2 ((pr.idx 0 i6 16)+4)) (br (pr.dq 1 c2 ((pr.idx 0 i6 16)+5)) (br (pr.eD c2 ((pr.idx 0 i6 16)+6)) (br (pr.eD c2 ((pr.idx 0 i6 16)+7)) (br (pr.eD c2 ((pr.idx 0 i6 16)+8)) (br (pr.cL .i64 c2 ((pr.idx 0 i6 16)+9)) (br (pr.dq 1 c2 ((pr.idx 0 i6 16)+10)) (br (pr.dq 1 c2 ((pr.idx 0 i6 16)+11)) (br (pr.dq 1 c2 ((pr.idx 0 i6 16)+12)) (br (pr.dq 1 c2 ((pr.idx 0 i6 16)+13)) (br (pr.dq 1 c2 ((pr.idx 0 i6 16)+14)) (br (pr.dq 1 c2 ((pr.idx 0 i6 16)+15)) true false) false) false) false) false) false) false) false) false) false) false) false) false) false) false) false) (br (pr.bT i6 n4) (br (br (pr.cL .i64 c5 (pr.idx 0 i6 16)) (br (pr.eD c5 ((pr.idx 0 i6 16)+1)) (br (pr.eD c5 ((pr.idx 0 i6 16)+2)) (br (pr.dq 1 c5 ((pr.idx 0 i6 16)+3)) (br (pr.dq 1 c5 ((pr.idx 0 i6 16)+4)) (br (pr.dq 1 c5 ((pr.idx 0 i6 16)+5)) (br (pr.eD c5 ((pr.idx 0 i6 16)+6)) (br (pr.eD c5 ((pr.idx 0 i6 16)+7)) (br (pr.eD c5 ((pr.idx 0 i6 16)+8)) (br (pr.cL .i64 c5 ((pr.idx 0 i6 16)+9)) (br (pr.dq 1 c5 ((pr.idx 0 i6 16)+10)) (br (pr.dq 1 c5 ((pr.idx 0 i6 16)+11)) (br (pr.dq 1 c5 ((pr.idx 0 i6 16)+12)) (br (pr.dq 1 c5 ((pr.idx 0 i6 16)+13)) (br (pr.dq 1 c5 ((pr.idx 0 i6 16)+14)) (br (pr.dq 1 c5 ((pr.idx 0 i6 16)+15)) true false) false) false) false) false) false) false) false) false) false) false) false) false) false) false) false) (cv 11 [(.agg [(.int .i64 (pr.bG c2 (pr.idx 0 i6 16))),(.bool (pr.cZ c2 ((pr.idx 0 i6 16)+1))),(.bool (pr.cZ c2 ((pr.idx 0 i6 16)+2))),(.sl (some (pr.cJ c2 ((pr.idx 0 i6 16)+3))) 1 (pr.cg c2 ((pr.idx 0 i6 16)+3)) (pr.cq c2 ((pr.idx 0 i6 16)+3))),(.sl (some (pr.cJ c2 ((pr.idx 0 i6 16)+4))) 1 (pr.cg c2 ((pr.idx 0 i6 16)+4)) (pr.cq c2 ((pr.idx 0 i6 16)+4))),(.sl (some (pr.cJ c2 ((pr.idx 0 i6 16)+5))) 1 (pr.cg c2 ((pr.idx 0 i6 16)+5)) (pr.cq c2 ((pr.idx 0 i6 16)+5))),(.bool (pr.cZ c2 ((pr.idx 0 i6 16)+6))),(.bool (pr.cZ c2 ((pr.idx 0 i6 16)+7))),(.bool (pr.cZ c2 ((pr.idx 0 i6 16)+8))),(.int .i64 (pr.bG c2 ((pr.idx 0 i6 16)+9))),(.sl (some (pr.cJ c2 ((pr.idx 0 i6 16)+10))) 1 (pr.cg c2 ((pr.idx 0 i6 16)+10)) (pr.cq c2 ((pr.idx 0 i6 16)+10))),(.sl (some (pr.cJ c2 ((pr.idx 0 i6 16)+11))) 1 (pr.cg c2 ((pr.idx 0 i6 16)+11)) (pr.cq c2 ((pr.idx 0 i6 16)+11))),(.sl (some (pr.cJ c2 ((pr.idx 0 i6 16)+12))) 1 (pr.cg c2 ((pr.idx 0 i6 16)+12)) (pr.cq c2 ((pr.idx 0 i6 16)+12))),(.sl (some (pr.cJ c2 ((pr.idx 0 i6 16)+13))) 1 (pr.cg c2 ((pr.idx 0 i6 16)+13)) (pr.cq c2 ((pr.idx 0 i6 16)+13))),(.sl (some (pr.cJ c2 ((pr.idx 0 i6 16)+14))) 1 (pr.cg c2 ((pr.idx 0 i6 16)+14)) (pr.cq c2 ((pr.idx 0 i6 16)+14))),(.sl (some (pr.cJ c2 ((pr.idx 0 i6 16)+15))) 1 (pr.cg c2 ((pr.idx 0 i6 16)+15)) (pr.cq c2 ((pr.idx 0 i6 16)+15)))]),(.agg [(.int .i64 (pr.bG c5 (pr.idx 0 i6 16))),(.bool (pr.cZ c5 ((pr.idx 0 i6 16)+1))),(.bool (pr.cZ c5 ((pr.idx 0 i6 16)+2))),(.sl (some (pr.cJ c5 ((pr.idx 0 i6 16)+3))) 1 (pr.cg c5 ((pr.idx 0 i6 16)+3)) (pr.cq c5 ((pr.idx 0 i6 16)+3))),(.sl (some (pr.cJ c5 ((pr.idx 0 i6 16)+4))) 1 (pr.cg c5 ((pr.idx 0 i6 16)+4)) (pr.cq c5 ((pr.idx 0 i6 16)+4))),(.sl (some (pr.cJ c5 ((pr.idx 0 i6 16)+5))) 1 (pr.cg c5 ((pr.idx 0 i6 16)+5)) (pr.cq c5 ((pr.idx 0 i6 16)+5))),(.bool (pr.cZ c5 ((pr.idx 0 i6 16)+6))),(.bool (pr.cZ c5 ((pr.idx 0 i6 16)+7))),(.bool (pr.cZ c5 ((pr.idx 0 i6 16)+8))),(.int .i64 (pr.bG c5 ((pr.idx 0 i6 16)+9))),(.sl (some (pr.cJ c5 ((pr.idx 0 i6 16)+10))) 1 (pr.cg c5 ((pr.idx 0 i6 16)+10)) (pr.cq c5 ((pr.idx 0 i6 16)+10))),(.sl (some (pr.cJ c5 ((pr.idx 0 i6 16)+11))) 1 (pr.cg c5 ((pr.idx 0 i6 16)+11)) (pr.cq c5 ((pr.idx 0 i6 16)+11))),(.sl (some (pr.cJ c5 ((pr.idx 0 i6 16)+12))) 1 (pr.cg c5 ((pr.idx 0 i6 16)+12)) (pr.cq c5 ((pr.idx 0 i6 16)+12))),(.sl (some (pr.cJ c5 ((pr.idx 0 i6 16)+13))) 1 (pr.cg c5 ((pr.idx 0 i6 16)+13)) (pr.cq c5 ((pr.idx 0 i6 16)+13))),(.sl (some (pr.cJ c5 ((pr.idx 0 i6 16)+14))) 1 (pr.cg c5 ((pr.idx 0 i6 16)+14)) (pr.cq c5 ((pr.idx 0 i6 16)+14))),(.sl (some (pr.cJ c5 ((pr.idx 0 i6 16)+15))) 1 (pr.cg c5 ((pr.idx 0 i6 16)+15)) (pr.cq c5 ((pr.idx 0 i6 16)+15)))])] (.bool (fun ck=>(.done (br (br ck false true) (some ((.bool false),[.undef,.undef])) (J 0 (jb g0 n1 c2 g3 n4 c5 (pr.ar .add .i64 i6 1)))))))) none) none) none) none) (some ((.bool true),[.undef,.undef]))):=by kernel_rfl
theorem GL:Told cfg Try.prog 86 Try.f86:=⟨by kernel_rfl,Try.func86,by kernel_rfl⟩
theorem GM (a0:Int) (a1:Int) (g2:Bool) (n2:Nat) (c2:List D) (a3:Int) (a4:Int) (g5:Bool) (n5:Nat) (c5:List D):bc pr cv J 86 Try.f86 [(.agg [(.int .i64 a0),(.int .i64 a1),(.sl (some g2) 1 n2 c2)]),(.agg [(.int .i64 a3),(.int .i64 a4),(.sl (some g5) 1 n5 c5)])]=
    let y1:Option (D × List D):=(some ((.bool false),[.undef,.undef]))
    (br (br (pr.eq a0 a3) false true) y1 (br (br (pr.eq a1 a4) false true) y1 (cv 63 [(.sl (some g2) 1 n2 c2),(.sl (some g5) 1 n5 c5)] (.bool (fun ck=>(.done (br (br ck false true) y1 (some ((.bool true),[.undef,.undef]))))))))):=by kernel_rfl
def SV (g0:Bool) (n1:Nat) (c2:List D) (i3:Int) (i4:Int):St:=(St.mk [(0,(.sl (some g0) 3 n1 c2)),(1,(.int .i64 i3)),(5,(.int .i64 i4))] [] [] 0)
def SW (g0:Bool) (n1:Nat) (c2:List D) (i3:Int) (n4:Nat) (c5:List D):St:=(St.mk [(0,(.sl (some g0) 3 n1 c2)),(3,(.ref 10003 [] 0 none)),(4,(.int .i64 i3))] [(10003,[(.sl none 3 n4 c5)])] [] 0)
def jc (g0:Bool) (n1:Nat) (c2:List D) (g3:Bool) (n4:Nat) (c5:List D) (i6:Int):St:=(St.mk [(0,(.sl (some g0) 3 n1 c2)),(1,(.sl (some g3) 3 n4 c5)),(5,(.int .i64 i6))] [] [] 0)
theorem En:Told cfg Try.prog 49 Try.f49:=⟨by kernel_rfl,Try.func49,by kernel_rfl⟩
theorem Eo (g0:Bool) (n0:Nat) (c0:List D) (g1:Bool) (n1:Nat) (c1:List D):bc pr cv J 49 Try.f49 [(.sl (some g0) 3 n0 c0),(.sl (some g1) 3 n1 c1)]=
    (br (br (pr.eq (pr.bu n0) (pr.bu n1)) false true) (some ((.bool false),[.undef,.undef])) (J 0 (jc g0 n0 c0 g1 n1 c1 0))):=by kernel_rfl
theorem rA (g0:Bool) (n1:Nat) (c2:List D) (g3:Bool) (n4:Nat) (c5:List D) (i6:Int):cA pr cv J 49 Try.f49 [.undef,.undef] 0 (jc g0 n1 c2 g3 n4 c5 i6)=
    (br (pr.lt i6 (pr.bu n1)) (br (pr.bT i6 n1) (br (br (pr.cL .i64 c2 (pr.idx 0 i6 3)) (br (pr.cL .i64 c2 ((pr.idx 0 i6 3)+1)) (br (pr.dq 1 c2 ((pr.idx 0 i6 3)+2)) true false) false) false) (br (pr.bT i6 n4) (br (br (pr.cL .i64 c5 (pr.idx 0 i6 3)) (br (pr.cL .i64 c5 ((pr.idx 0 i6 3)+1)) (br (pr.dq 1 c5 ((pr.idx 0 i6 3)+2)) true false) false) false) (cv 86 [(.agg [(.int .i64 (pr.bG c2 (pr.idx 0 i6 3))),(.int .i64 (pr.bG c2 ((pr.idx 0 i6 3)+1))),(.sl (some (pr.cJ c2 ((pr.idx 0 i6 3)+2))) 1 (pr.cg c2 ((pr.idx 0 i6 3)+2)) (pr.cq c2 ((pr.idx 0 i6 3)+2)))]),(.agg [(.int .i64 (pr.bG c5 (pr.idx 0 i6 3))),(.int .i64 (pr.bG c5 ((pr.idx 0 i6 3)+1))),(.sl (some (pr.cJ c5 ((pr.idx 0 i6 3)+2))) 1 (pr.cg c5 ((pr.idx 0 i6 3)+2)) (pr.cq c5 ((pr.idx 0 i6 3)+2)))])] (.bool (fun ck=>(.done (br (br ck false true) (some ((.bool false),[.undef,.undef])) (J 0 (jc g0 n1 c2 g3 n4 c5 (pr.ar .add .i64 i6 1)))))))) none) none) none) none) (some ((.bool true),[.undef,.undef]))):=by kernel_rfl
theorem J7:Told cfg Try.prog 87 Try.f87:=⟨by kernel_rfl,Try.func87,by kernel_rfl⟩
theorem J8 (a0:Int) (a1:Int) (a2:Int) (a3:Int):bc pr cv J 87 Try.f87 [(.agg [(.int .i64 a0),(.int .i64 a1)]),(.agg [(.int .i64 a2),(.int .i64 a3)])]=
    let y1:Option (D × List D):=(some ((.bool false),[.undef,.undef]))
    (br (br (pr.eq a0 a2) false true) y1 (br (br (pr.eq a1 a3) false true) y1 (some ((.bool true),[.undef,.undef])))):=by kernel_rfl
def UD (g0:Bool) (n1:Nat) (c2:List D) (i3:Int) (n4:Nat) (c5:List D):St:=(St.mk [(0,(.sl (some g0) 2 n1 c2)),(3,(.ref 10003 [] 0 none)),(4,(.int .i64 i3))] [(10003,[(.sl none 2 n4 c5)])] [] 0)
def jN (g0:Bool) (n1:Nat) (c2:List D) (g3:Bool) (n4:Nat) (c5:List D) (i6:Int):St:=(St.mk [(0,(.sl (some g0) 2 n1 c2)),(1,(.sl (some g3) 2 n4 c5)),(5,(.int .i64 i6))] [] [] 0)
theorem GN:Told cfg Try.prog 50 Try.f50:=⟨by kernel_rfl,Try.func50,by kernel_rfl⟩
theorem GO (g0:Bool) (n0:Nat) (c0:List D) (g1:Bool) (n1:Nat) (c1:List D):bc pr cv J 50 Try.f50 [(.sl (some g0) 2 n0 c0),(.sl (some g1) 2 n1 c1)]=
    (br (br (pr.eq (pr.bu n0) (pr.bu n1)) false true) (some ((.bool false),[.undef,.undef])) (J 0 (jN g0 n0 c0 g1 n1 c1 0))):=by kernel_rfl
theorem tp (g0:Bool) (n1:Nat) (c2:List D) (g3:Bool) (n4:Nat) (c5:List D) (i6:Int):cA pr cv J 50 Try.f50 [.undef,.undef] 0 (jN g0 n1 c2 g3 n4 c5 i6)=
    (br (pr.lt i6 (pr.bu n1)) (br (pr.bT i6 n1) (br (br (pr.cL .i64 c2 (pr.idx 0 i6 2)) (br (pr.cL .i64 c2 ((pr.idx 0 i6 2)+1)) true false) false) (br (pr.bT i6 n4) (br (br (pr.cL .i64 c5 (pr.idx 0 i6 2)) (br (pr.cL .i64 c5 ((pr.idx 0 i6 2)+1)) true false) false) (cv 87 [(.agg [(.int .i64 (pr.bG c2 (pr.idx 0 i6 2))),(.int .i64 (pr.bG c2 ((pr.idx 0 i6 2)+1)))]),(.agg [(.int .i64 (pr.bG c5 (pr.idx 0 i6 2))),(.int .i64 (pr.bG c5 ((pr.idx 0 i6 2)+1)))])] (.bool (fun ck=>(.done (br (br ck false true) (some ((.bool false),[.undef,.undef])) (J 0 (jN g0 n1 c2 g3 n4 c5 (pr.ar .add .i64 i6 1)))))))) none) none) none) none) (some ((.bool true),[.undef,.undef]))):=by kernel_rfl
theorem Ep:Told cfg Try.prog 18 Try.f18:=⟨by kernel_rfl,Try.func18,by kernel_rfl⟩
theorem Er (g0:Bool) (n0:Nat) (c0:List D) (g1:Bool) (n1:Nat) (c1:List D) (g2:Bool) (n2:Nat) (c2:List D) (g3:Bool) (n3:Nat) (c3:List D) (a4:Int) (g5:Bool) (n5:Nat) (c5:List D) (g6:Bool) (n6:Nat) (c6:List D) (g7:Bool) (n7:Nat) (c7:List D) (g8:Bool) (n8:Nat) (c8:List D) (a9:Int):bc pr cv J 18 Try.f18 [(.agg [(.sl (some g0) 16 n0 c0),(.sl (some g1) 3 n1 c1),(.sl (some g2) 2 n2 c2),(.sl (some g3) 1 n3 c3),(.int .i64 a4)]),(.agg [(.sl (some g5) 16 n5 c5),(.sl (some g6) 3 n6 c6),(.sl (some g7) 2 n7 c7),(.sl (some g8) 1 n8 c8),(.int .i64 a9)])]=
    let y1:Option (D × List D):=(some ((.bool false),[.undef,.undef]))
    (cv 48 [(.sl (some g0) 16 n0 c0),(.sl (some g5) 16 n5 c5)] (.bool (fun ck=>(.done (br (br ck false true) y1 (cv 49 [(.sl (some g1) 3 n1 c1),(.sl (some g6) 3 n6 c6)] (.bool (fun gj=>(.done (br (br gj false true) y1 (cv 50 [(.sl (some g2) 2 n2 c2),(.sl (some g7) 2 n7 c7)] (.bool (fun ia=>(.done (br (br ia false true) y1 (cv 33 [(.sl (some g3) 1 n3 c3),(.sl (some g8) 1 n8 c8)] (.bool (fun yP=>(.done (br (br yP false true) y1 (br (br (pr.eq a4 a9) false true) y1 (some ((.bool true),[.undef,.undef]))))))))))))))))))))))):=by kernel_rfl
end
theorem SX (i w:Nat):U.idx 0 (i:Int) w=i*w:=by rw [Ux,Nat.zero_add]
section
variable {α:Type} {e:α→List D} {w:Nat} (hw:∀ x,(e x).length=w) {xs:List α} {i k:Nat} (hi:i < xs.length) (hk:k < w)
include hw hi hk
theorem vp (kk:IntKind):U.cL kk (ah e xs) (i*w+k)=U.cL kk (e xs[i]) k:=by simp only [U,kY hw xs hi hk]
theorem rX:U.bG (ah e xs) (i*w+k)=U.bG (e xs[i]) k:=by simp only [U,kY hw xs hi hk]
theorem yQ:U.eD (ah e xs) (i*w+k)=U.eD (e xs[i]) k:=by simp only [U,kY hw xs hi hk]
theorem vq:U.cZ (ah e xs) (i*w+k)=U.cZ (e xs[i]) k:=by simp only [U,kY hw xs hi hk]
theorem nj (s:Nat):U.dq s (ah e xs) (i*w+k)=U.dq s (e xs[i]) k:=by simp only [U,kY hw xs hi hk]
theorem lA:U.cJ (ah e xs) (i*w+k)=U.cJ (e xs[i]) k:=by simp only [U,kY hw xs hi hk]
theorem lB:U.cg (ah e xs) (i*w+k)=U.cg (e xs[i]) k:=by simp only [U,kY hw xs hi hk]
theorem lC:U.cq (ah e xs) (i*w+k)=U.cq (e xs[i]) k:=by simp only [U,kY hw xs hi hk]
end
theorem UE {g:Bool} {xs:List af} {i:Nat} (h:i < xs.length):U.cL .i64 (ah (ab (some g)) xs) (i*16)=true:=(vp (e:=ab (some g)) (w:=16) (fun _=>rfl) (k:=0) h (by omega) _).trans rfl
theorem UF {g:Bool} {xs:List af} {i:Nat} (h:i < xs.length):U.bG (ah (ab (some g)) xs) (i*16)=xs[i].id:=(rX (e:=ab (some g)) (w:=16) (fun _=>rfl) (k:=0) h (by omega)).trans rfl
theorem UG {g:Bool} {xs:List af} {i:Nat} (h:i < xs.length):U.eD (ah (ab (some g)) xs) (i*16+1)=true:=(yQ (e:=ab (some g)) (w:=16) (fun _=>rfl) (k:=1) h (by omega)).trans rfl
theorem UH {g:Bool} {xs:List af} {i:Nat} (h:i < xs.length):U.cZ (ah (ab (some g)) xs) (i*16+1)=xs[i].up:=(vq (e:=ab (some g)) (w:=16) (fun _=>rfl) (k:=1) h (by omega)).trans rfl
theorem UI {g:Bool} {xs:List af} {i:Nat} (h:i < xs.length):U.eD (ah (ab (some g)) xs) (i*16+2)=true:=(yQ (e:=ab (some g)) (w:=16) (fun _=>rfl) (k:=2) h (by omega)).trans rfl
theorem UJ {g:Bool} {xs:List af} {i:Nat} (h:i < xs.length):U.cZ (ah (ab (some g)) xs) (i*16+2)=xs[i].bD:=(vq (e:=ab (some g)) (w:=16) (fun _=>rfl) (k:=2) h (by omega)).trans rfl
theorem UK {g:Bool} {xs:List af} {i:Nat} (h:i < xs.length):U.dq 1 (ah (ab (some g)) xs) (i*16+3)=true:=(nj (e:=ab (some g)) (w:=16) (fun _=>rfl) (k:=3) h (by omega) _).trans rfl
theorem UL {g:Bool} {xs:List af} {i:Nat} (h:i < xs.length):U.cJ (ah (ab (some g)) xs) (i*16+3)=g:=(lA (e:=ab (some g)) (w:=16) (fun _=>rfl) (k:=3) h (by omega)).trans rfl
theorem UM {g:Bool} {xs:List af} {i:Nat} (h:i < xs.length):U.cg (ah (ab (some g)) xs) (i*16+3)=xs[i].image.length:=(lB (e:=ab (some g)) (w:=16) (fun _=>rfl) (k:=3) h (by omega)).trans rfl
theorem UN {g:Bool} {xs:List af} {i:Nat} (h:i < xs.length):U.cq (ah (ab (some g)) xs) (i*16+3)=ints xs[i].image:=(lC (e:=ab (some g)) (w:=16) (fun _=>rfl) (k:=3) h (by omega)).trans rfl
theorem UO {g:Bool} {xs:List af} {i:Nat} (h:i < xs.length):U.dq 1 (ah (ab (some g)) xs) (i*16+4)=true:=(nj (e:=ab (some g)) (w:=16) (fun _=>rfl) (k:=4) h (by omega) _).trans rfl
theorem UP {g:Bool} {xs:List af} {i:Nat} (h:i < xs.length):U.cJ (ah (ab (some g)) xs) (i*16+4)=g:=(lA (e:=ab (some g)) (w:=16) (fun _=>rfl) (k:=4) h (by omega)).trans rfl
theorem UQ {g:Bool} {xs:List af} {i:Nat} (h:i < xs.length):U.cg (ah (ab (some g)) xs) (i*16+4)=xs[i].mt.aA.length:=(lB (e:=ab (some g)) (w:=16) (fun _=>rfl) (k:=4) h (by omega)).trans rfl
theorem UR {g:Bool} {xs:List af} {i:Nat} (h:i < xs.length):U.cq (ah (ab (some g)) xs) (i*16+4)=ints xs[i].mt.aA:=(lC (e:=ab (some g)) (w:=16) (fun _=>rfl) (k:=4) h (by omega)).trans rfl
theorem US {g:Bool} {xs:List af} {i:Nat} (h:i < xs.length):U.dq 1 (ah (ab (some g)) xs) (i*16+5)=true:=(nj (e:=ab (some g)) (w:=16) (fun _=>rfl) (k:=5) h (by omega) _).trans rfl
theorem UT {g:Bool} {xs:List af} {i:Nat} (h:i < xs.length):U.cJ (ah (ab (some g)) xs) (i*16+5)=g:=(lA (e:=ab (some g)) (w:=16) (fun _=>rfl) (k:=5) h (by omega)).trans rfl
theorem UU {g:Bool} {xs:List af} {i:Nat} (h:i < xs.length):U.cg (ah (ab (some g)) xs) (i*16+5)=xs[i].mt.bits.length:=(lB (e:=ab (some g)) (w:=16) (fun _=>rfl) (k:=5) h (by omega)).trans rfl
theorem UW {g:Bool} {xs:List af} {i:Nat} (h:i < xs.length):U.cq (ah (ab (some g)) xs) (i*16+5)=rows (some g) xs[i].mt.bits:=(lC (e:=ab (some g)) (w:=16) (fun _=>rfl) (k:=5) h (by omega)).trans rfl
theorem UX {g:Bool} {xs:List af} {i:Nat} (h:i < xs.length):U.eD (ah (ab (some g)) xs) (i*16+6)=true:=(yQ (e:=ab (some g)) (w:=16) (fun _=>rfl) (k:=6) h (by omega)).trans rfl
theorem UY {g:Bool} {xs:List af} {i:Nat} (h:i < xs.length):U.cZ (ah (ab (some g)) xs) (i*16+6)=xs[i].mt.bY:=(vq (e:=ab (some g)) (w:=16) (fun _=>rfl) (k:=6) h (by omega)).trans rfl
theorem UZ {g:Bool} {xs:List af} {i:Nat} (h:i < xs.length):U.eD (ah (ab (some g)) xs) (i*16+7)=true:=(yQ (e:=ab (some g)) (w:=16) (fun _=>rfl) (k:=7) h (by omega)).trans rfl
theorem U0 {g:Bool} {xs:List af} {i:Nat} (h:i < xs.length):U.cZ (ah (ab (some g)) xs) (i*16+7)=xs[i].mt.bQ:=(vq (e:=ab (some g)) (w:=16) (fun _=>rfl) (k:=7) h (by omega)).trans rfl
theorem U1 {g:Bool} {xs:List af} {i:Nat} (h:i < xs.length):U.eD (ah (ab (some g)) xs) (i*16+8)=true:=(yQ (e:=ab (some g)) (w:=16) (fun _=>rfl) (k:=8) h (by omega)).trans rfl
theorem U2 {g:Bool} {xs:List af} {i:Nat} (h:i < xs.length):U.cZ (ah (ab (some g)) xs) (i*16+8)=xs[i].mt.held:=(vq (e:=ab (some g)) (w:=16) (fun _=>rfl) (k:=8) h (by omega)).trans rfl
theorem U3 {g:Bool} {xs:List af} {i:Nat} (h:i < xs.length):U.cL .i64 (ah (ab (some g)) xs) (i*16+9)=true:=(vp (e:=ab (some g)) (w:=16) (fun _=>rfl) (k:=9) h (by omega) _).trans rfl
theorem U4 {g:Bool} {xs:List af} {i:Nat} (h:i < xs.length):U.bG (ah (ab (some g)) xs) (i*16+9)=xs[i].mt.last:=(rX (e:=ab (some g)) (w:=16) (fun _=>rfl) (k:=9) h (by omega)).trans rfl
theorem P4 {g:Bool} {xs:List af} {i:Nat} (h:i < xs.length):U.dq 1 (ah (ab (some g)) xs) (i*16+10)=true:=(nj (e:=ab (some g)) (w:=16) (fun _=>rfl) (k:=10) h (by omega) _).trans rfl
theorem P5 {g:Bool} {xs:List af} {i:Nat} (h:i < xs.length):U.cJ (ah (ab (some g)) xs) (i*16+10)=g:=(lA (e:=ab (some g)) (w:=16) (fun _=>rfl) (k:=10) h (by omega)).trans rfl
theorem P6 {g:Bool} {xs:List af} {i:Nat} (h:i < xs.length):U.cg (ah (ab (some g)) xs) (i*16+10)=xs[i].cP.a.length:=(lB (e:=ab (some g)) (w:=16) (fun _=>rfl) (k:=10) h (by omega)).trans rfl
theorem P7 {g:Bool} {xs:List af} {i:Nat} (h:i < xs.length):U.cq (ah (ab (some g)) xs) (i*16+10)=bytes xs[i].cP.a:=(lC (e:=ab (some g)) (w:=16) (fun _=>rfl) (k:=10) h (by omega)).trans rfl
theorem P8 {g:Bool} {xs:List af} {i:Nat} (h:i < xs.length):U.dq 1 (ah (ab (some g)) xs) (i*16+11)=true:=(nj (e:=ab (some g)) (w:=16) (fun _=>rfl) (k:=11) h (by omega) _).trans rfl
theorem P9 {g:Bool} {xs:List af} {i:Nat} (h:i < xs.length):U.cJ (ah (ab (some g)) xs) (i*16+11)=g:=(lA (e:=ab (some g)) (w:=16) (fun _=>rfl) (k:=11) h (by omega)).trans rfl
theorem Qa {g:Bool} {xs:List af} {i:Nat} (h:i < xs.length):U.cg (ah (ab (some g)) xs) (i*16+11)=xs[i].cP.b.length:=(lB (e:=ab (some g)) (w:=16) (fun _=>rfl) (k:=11) h (by omega)).trans rfl
theorem Qb {g:Bool} {xs:List af} {i:Nat} (h:i < xs.length):U.cq (ah (ab (some g)) xs) (i*16+11)=bytes xs[i].cP.b:=(lC (e:=ab (some g)) (w:=16) (fun _=>rfl) (k:=11) h (by omega)).trans rfl
theorem Qc {g:Bool} {xs:List af} {i:Nat} (h:i < xs.length):U.dq 1 (ah (ab (some g)) xs) (i*16+12)=true:=(nj (e:=ab (some g)) (w:=16) (fun _=>rfl) (k:=12) h (by omega) _).trans rfl
theorem Qd {g:Bool} {xs:List af} {i:Nat} (h:i < xs.length):U.cJ (ah (ab (some g)) xs) (i*16+12)=g:=(lA (e:=ab (some g)) (w:=16) (fun _=>rfl) (k:=12) h (by omega)).trans rfl
theorem Qe {g:Bool} {xs:List af} {i:Nat} (h:i < xs.length):U.cg (ah (ab (some g)) xs) (i*16+12)=xs[i].conn.length:=(lB (e:=ab (some g)) (w:=16) (fun _=>rfl) (k:=12) h (by omega)).trans rfl
theorem Qf {g:Bool} {xs:List af} {i:Nat} (h:i < xs.length):U.cq (ah (ab (some g)) xs) (i*16+12)=aH xs[i].conn:=(lC (e:=ab (some g)) (w:=16) (fun _=>rfl) (k:=12) h (by omega)).trans rfl
theorem Qg {g:Bool} {xs:List af} {i:Nat} (h:i < xs.length):U.dq 1 (ah (ab (some g)) xs) (i*16+13)=true:=(nj (e:=ab (some g)) (w:=16) (fun _=>rfl) (k:=13) h (by omega) _).trans rfl
theorem Qh {g:Bool} {xs:List af} {i:Nat} (h:i < xs.length):U.cJ (ah (ab (some g)) xs) (i*16+13)=g:=(lA (e:=ab (some g)) (w:=16) (fun _=>rfl) (k:=13) h (by omega)).trans rfl
theorem Qi {g:Bool} {xs:List af} {i:Nat} (h:i < xs.length):U.cg (ah (ab (some g)) xs) (i*16+13)=xs[i].sync.length:=(lB (e:=ab (some g)) (w:=16) (fun _=>rfl) (k:=13) h (by omega)).trans rfl
theorem Qj {g:Bool} {xs:List af} {i:Nat} (h:i < xs.length):U.cq (ah (ab (some g)) xs) (i*16+13)=rows (some g) xs[i].sync:=(lC (e:=ab (some g)) (w:=16) (fun _=>rfl) (k:=13) h (by omega)).trans rfl
theorem Qk {g:Bool} {xs:List af} {i:Nat} (h:i < xs.length):U.dq 1 (ah (ab (some g)) xs) (i*16+14)=true:=(nj (e:=ab (some g)) (w:=16) (fun _=>rfl) (k:=14) h (by omega) _).trans rfl
theorem Ql {g:Bool} {xs:List af} {i:Nat} (h:i < xs.length):U.cJ (ah (ab (some g)) xs) (i*16+14)=g:=(lA (e:=ab (some g)) (w:=16) (fun _=>rfl) (k:=14) h (by omega)).trans rfl
theorem Qm {g:Bool} {xs:List af} {i:Nat} (h:i < xs.length):U.cg (ah (ab (some g)) xs) (i*16+14)=xs[i].bA.length:=(lB (e:=ab (some g)) (w:=16) (fun _=>rfl) (k:=14) h (by omega)).trans rfl
theorem Qn {g:Bool} {xs:List af} {i:Nat} (h:i < xs.length):U.cq (ah (ab (some g)) xs) (i*16+14)=aH xs[i].bA:=(lC (e:=ab (some g)) (w:=16) (fun _=>rfl) (k:=14) h (by omega)).trans rfl
theorem Qo {g:Bool} {xs:List af} {i:Nat} (h:i < xs.length):U.dq 1 (ah (ab (some g)) xs) (i*16+15)=true:=(nj (e:=ab (some g)) (w:=16) (fun _=>rfl) (k:=15) h (by omega) _).trans rfl
theorem Qp {g:Bool} {xs:List af} {i:Nat} (h:i < xs.length):U.cJ (ah (ab (some g)) xs) (i*16+15)=g:=(lA (e:=ab (some g)) (w:=16) (fun _=>rfl) (k:=15) h (by omega)).trans rfl
theorem Qq {g:Bool} {xs:List af} {i:Nat} (h:i < xs.length):U.cg (ah (ab (some g)) xs) (i*16+15)=xs[i].wait.length:=(lB (e:=ab (some g)) (w:=16) (fun _=>rfl) (k:=15) h (by omega)).trans rfl
theorem Qr {g:Bool} {xs:List af} {i:Nat} (h:i < xs.length):U.cq (ah (ab (some g)) xs) (i*16+15)=ints xs[i].wait:=(lC (e:=ab (some g)) (w:=16) (fun _=>rfl) (k:=15) h (by omega)).trans rfl
theorem U5 {g:Bool} {xs:List eA} {i:Nat} (h:i < xs.length):U.cL .i64 (ah (bR (some g)) xs) (i*3)=true:=(vp (e:=bR (some g)) (w:=3) (fun _=>rfl) (k:=0) h (by omega) _).trans rfl
theorem U6 {g:Bool} {xs:List eA} {i:Nat} (h:i < xs.length):U.bG (ah (bR (some g)) xs) (i*3)=xs[i].src:=(rX (e:=bR (some g)) (w:=3) (fun _=>rfl) (k:=0) h (by omega)).trans rfl
theorem U7 {g:Bool} {xs:List eA} {i:Nat} (h:i < xs.length):U.cL .i64 (ah (bR (some g)) xs) (i*3+1)=true:=(vp (e:=bR (some g)) (w:=3) (fun _=>rfl) (k:=1) h (by omega) _).trans rfl
theorem U8 {g:Bool} {xs:List eA} {i:Nat} (h:i < xs.length):U.bG (ah (bR (some g)) xs) (i*3+1)=xs[i].dst:=(rX (e:=bR (some g)) (w:=3) (fun _=>rfl) (k:=1) h (by omega)).trans rfl
theorem U9 {g:Bool} {xs:List eA} {i:Nat} (h:i < xs.length):U.dq 1 (ah (bR (some g)) xs) (i*3+2)=true:=(nj (e:=bR (some g)) (w:=3) (fun _=>rfl) (k:=2) h (by omega) _).trans rfl
theorem Va {g:Bool} {xs:List eA} {i:Nat} (h:i < xs.length):U.cJ (ah (bR (some g)) xs) (i*3+2)=g:=(lA (e:=bR (some g)) (w:=3) (fun _=>rfl) (k:=2) h (by omega)).trans rfl
theorem Vb {g:Bool} {xs:List eA} {i:Nat} (h:i < xs.length):U.cg (ah (bR (some g)) xs) (i*3+2)=xs[i].bytes.length:=(lB (e:=bR (some g)) (w:=3) (fun _=>rfl) (k:=2) h (by omega)).trans rfl
theorem Vc {g:Bool} {xs:List eA} {i:Nat} (h:i < xs.length):U.cq (ah (bR (some g)) xs) (i*3+2)=bytes xs[i].bytes:=(lC (e:=bR (some g)) (w:=3) (fun _=>rfl) (k:=2) h (by omega)).trans rfl
theorem Vd {g:Bool} {xs:List gz} {i:Nat} (h:i < xs.length):U.cL .i64 (ah (da (some g)) xs) (i*2)=true:=(vp (e:=da (some g)) (w:=2) (fun _=>rfl) (k:=0) h (by omega) _).trans rfl
theorem Ve {g:Bool} {xs:List gz} {i:Nat} (h:i < xs.length):U.bG (ah (da (some g)) xs) (i*2)=xs[i].cell:=(rX (e:=da (some g)) (w:=2) (fun _=>rfl) (k:=0) h (by omega)).trans rfl
theorem Vf {g:Bool} {xs:List gz} {i:Nat} (h:i < xs.length):U.cL .i64 (ah (da (some g)) xs) (i*2+1)=true:=(vp (e:=da (some g)) (w:=2) (fun _=>rfl) (k:=1) h (by omega) _).trans rfl
theorem Vg {g:Bool} {xs:List gz} {i:Nat} (h:i < xs.length):U.bG (ah (da (some g)) xs) (i*2+1)=xs[i].up:=(rX (e:=da (some g)) (w:=2) (fun _=>rfl) (k:=1) h (by omega)).trans rfl
section
variable {A L B:List D} {m k:Nat} {d:D}
theorem Y9 (hA:A.length=m) (hk:k < L.length):List.set (A++(L++B)) (m+k) d=A++(L.set k d++B):=by
  subst hA
  rw [List.set_append_right _ _ (by omega),List.set_append_left _ _ (by omega)]
  simp
theorem adG (hA:A.length=m) (hk:0 < L.length):List.set (A++(L++B)) m d=A++(L.set 0 d++B):=Y9 (k:=0) hA hk
theorem Qs (hA:A.length=m) (hk:k < L.length):(A++(L++B))[m+k]?=L[k]?:=by
  subst hA
  rw [List.getElem?_append_right (by omega),List.getElem?_append_left (by omega)]
  simp
theorem Wi (hA:A.length=m) (hk:k < L.length):U.slot (A++(L++B)) (m+k)=U.slot L k:=by simp only [U,Qs hA hk]
theorem ac0 (hA:A.length=m) (hk:0 < L.length):U.slot (A++(L++B)) m=U.slot L 0:=Wi (k:=0) hA hk
theorem adH (s:Nat) (hA:A.length=m) (hk:k < L.length):U.rj s (A++(L++B)) (m+k)=U.rj s L k:=by simp only [U,Qs hA hk]
theorem aif (hk:0 < L.length):U.ne (A++(L++B))=true:=by
  simp only [U]
  cases A with
  | nil=>cases L with
    | nil=>simp at hk
    | cons _ _=>rfl
  | cons _ _=>rfl
theorem adI (l:List D) (n:Nat):U.slot (d::l) (n+1)=U.slot l n:=rfl
theorem adJ (l:List D) (kk:IntKind) (x:Int):U.slot (.int kk x::l) 0=true:=rfl
theorem adK (l:List D) (x:Bool):U.slot (.bool x::l) 0=true:=rfl
theorem adL (s:Nat) (l:List D) (n:Nat):U.rj s (d::l) (n+1)=U.rj s l n:=rfl
theorem adM (l c:List D) (n:Nat):U.rj 1 (.sl none 1 n c::l) 0=true:=rfl
end
theorem Z2 {α:Type} {e:α→List D} {w:Nat} (hw:∀ x,(e x).length=w) (xs:List α):(ah e xs).length=xs.length*w:=by
  induction xs with
  | nil=>simp [ah]
  | cons x xs ih=>
    have h:ah e (x::xs)=e x++ah e xs:=by simp [ah]
    rw [h,List.length_append,hw,ih,List.length_cons,Nat.succ_mul]
    omega
theorem J9 {α:Type} (e:α→List D) (xs ys:List α):ah e (xs++ys)=ah e xs++ah e ys:=by simp [ah]
theorem aaP {α:Type} (e:α→List D) {xs:List α} {i:Nat} (h:i < xs.length):ah e xs=ah e (xs.take i)++(e xs[i]++ah e (xs.drop (i+1))):=by
  have e1:xs.take i++xs[i]::xs.drop (i+1)=xs:=by rw [List.getElem_cons_drop h,List.take_append_drop]
  have h2:ah e (xs[i]::xs.drop (i+1))=e xs[i]++ah e (xs.drop (i+1)):=by simp only [ah,List.flatMap_cons]
  rw [← h2,← J9,e1]
theorem ac1 {α:Type} (e:α→List D) {xs:List α} {i:Nat} (h:i < xs.length) (x:α):ah e (xs.set i x)=ah e (xs.take i)++(e x++ah e (xs.drop (i+1))):=by
  have e1:xs.set i x=xs.take i++x::xs.drop (i+1):=List.set_eq_take_append_cons_drop.trans (if_pos h)
  have h2:ah e (x::xs.drop (i+1))=e x++ah e (xs.drop (i+1)):=by simp [ah]
  rw [e1,J9,h2]
theorem abU {α:Type} (e:α→List D) (z:List D) (x:α) (h:z.map rZ=e x) (n:Nat):fm n z=ah e (List.replicate n x):=by
  unfold fm ah
  rw [h]
  simp [List.flatMap]
def ac2:af:=⟨0,false,false,[],⟨[],[],false,false,false,0⟩,⟨[],[]⟩,[],[],[],[]⟩
theorem C2:∀ l:List D,U.nl l=bP l:=fun _=>rfl
theorem K7 (a b:List D):bP (a++b)=(bP a&&bP b):=by
  induction a with
  | nil=>simp [bP]
  | cons x a ih=>simp [bP,ih,Bool.and_assoc]
theorem yR {α:Type} {e:α→List D} (h:∀ x,U.nl (e x)=true) (xs:List α):U.nl (ah e xs)=true:=by
  induction xs with
  | nil=>rfl
  | cons x xs ih=>
    have h1:ah e (x::xs)=e x++ah e xs:=by simp [ah]
    rw [h1,C2,K7,← C2,← C2,h,ih]
    rfl
theorem aih (xs:List af):U.nl (ah (ab none) xs)=true:=yR (fun x=>by
  have h1:=lN; have h2:=J2; have h3:=eV; have h4:=NI
  simp only [C2] at h1 h2 h3 h4 ⊢
  simp only [bP,bL,h1,h2,h3,h4,Bool.and_self]) xs
theorem aii (xs:List eA):U.nl (ah (bR none) xs)=true:=yR (fun x=>by
  have h3:=eV
  simp only [C2] at h3 ⊢
  simp only [bP,bL,h3,Bool.and_self]) xs
theorem aij (g:Option Bool) (xs:List gz):U.nl (ah (da g) xs)=true:=yR (fun _=>rfl) xs
def nk (x:eA):Prop:=x.bytes.length≤1048576
structure pY (w:aN):Prop where
  nodes:w.nodes.length≤1048576
  node:∀ n∈w.nodes,bz n
  cX:w.cX.length≤1048576
  yD:∀ x∈w.cX,nk x
  log:w.log.length≤1048576
  safe:w.safe.length≤1048576
theorem SY (g h:Bool) (x:eA) (ok:nk x):Cm 86 [.agg (bR (some g) x),.agg (bR (some h) x)] (.bool true,[.undef,.undef]):=by
  unfold nk at ok
  refine Cm.fin GL fun J=>?_
  rw [GM]
  simp (disch:=omega) only [F3,aC,aq,decide_true,aJ,bg,fH]
theorem Wj (g h:Option Bool) (x:gz):Cm 87 [.agg (da g x),.agg (da h x)] (.bool true,[.undef,.undef]):=by
  refine Cm.fin J7 fun J=>?_
  rw [J8]
  simp (disch:=omega) only [aJ,bg,fH]
def Za (x:eA):Prop:=x.bytes.length≤140737488355328
def pZ (x:eA) (l:Int):Int:=iB (ff x.bytes.length l) fun l=>l
theorem NN {x:eA} {l:Int} (h:0≤l) (hm:l≤1048576):pZ x l≤l∧-1≤pZ x l∧(0≤pZ x l→nk x):=by
  have:=gk (k:=fun l=>l) h (ni (n:=x.bytes.length) h hm) fun h3=>CX h3
  exact ⟨this.1,this.2.1,fun hh=>(this.2.2 hh).1⟩
theorem NO {x:af} {l:Int} (h:0≤l) (hm:l≤1048576):fw x l≤l∧-1≤fw x l∧(0≤fw x l→bz x):=wy h hm
section
variable (t:bJ Rz)
theorem SZ (g h:Bool) (x:eA) (ok:nk x):aY 86 [.agg (bR (some g) x),.agg (bR (some h) x)] t=feed t [.bool true]:=bF (SY g h x ok) (by kernel_rfl) t
theorem Wk (a b:Int):aY 87 [.agg [.int .i64 a,.int .i64 b],.agg [.int .i64 a,.int .i64 b]] t=feed t [.bool true]:=bF (Wj none none ⟨a,b⟩) (by kernel_rfl) t
end
theorem Qt (g h:Bool) (xs:List af) (hb:xs.length≤1048576) (ok:∀ x∈xs,bz x):Cm 48 [.sl (some g) 16 xs.length (ah (ab (some g)) xs),.sl (some h) 16 xs.length (ah (ab (some h)) xs)] (.bool true,[.undef,.undef]):=by
  refine Cm.go El [.undef,.undef] 0 (jb g xs.length (ah (ab (some g)) xs) h xs.length (ah (ab (some h)) xs) (0:Nat)) ?_ fun J hJ=>?_
  · refine WP.loop (H:=fun i=>jb g xs.length (ah (ab (some g)) xs) h xs.length (ah (ab (some h)) xs) (i:Nat)) (n:=xs.length) (fun _=>True) (fun i hi _ ih=>WP.go _ (ih trivial) fun J hJ=>?_) (fun _=>WP.fin fun J=>?_) 0 (Nat.zero_le _) trivial
    · rw [rz]
      have hx:=ok _ (List.getElem_mem hi)
      simp (disch:=first | omega | assumption) only [aJ,bg,bf,bt,aD,aW,bE,SX,UE,UF,UG,UH,UI,UJ,UK,UL,UM,UN,UO,UP,UQ,UR,US,UT,UU,UW,UX,UY,UZ,U0,U1,U2,U3,U4,P4,P5,P6,P7,P8,P9,Qa,Qb,Qc,Qd,Qe,Qf,Qg,Qh,Qi,Qj,Qk,Ql,Qm,Qn,Qo,Qp,Qq,Qr,J5,aC,aq,dw]
      exact hJ
    · rw [rz]
      simp (disch:=omega) only [aJ,bg,aD,bB]
  · rw [Em]
    simp (disch:=omega) only [aJ,bg,aD,bt,bM,fH]
    exact hJ
theorem Qu (g h:Bool) (xs:List eA) (hb:xs.length≤1048576) (ok:∀ x∈xs,nk x):Cm 49 [.sl (some g) 3 xs.length (ah (bR (some g)) xs),.sl (some h) 3 xs.length (ah (bR (some h)) xs)] (.bool true,[.undef,.undef]):=by
  refine Cm.go En [.undef,.undef] 0 (jc g xs.length (ah (bR (some g)) xs) h xs.length (ah (bR (some h)) xs) (0:Nat)) ?_ fun J hJ=>?_
  · refine WP.loop (H:=fun i=>jc g xs.length (ah (bR (some g)) xs) h xs.length (ah (bR (some h)) xs) (i:Nat)) (n:=xs.length) (fun _=>True) (fun i hi _ ih=>WP.go _ (ih trivial) fun J hJ=>?_) (fun _=>WP.fin fun J=>?_) 0 (Nat.zero_le _) trivial
    · rw [rA]
      have hx:=ok _ (List.getElem_mem hi)
      simp (disch:=first | omega | assumption) only [aJ,bg,bf,bt,aD,aW,bE,SX,U5,U6,U7,U8,U9,Va,Vb,Vc,SZ,aC,aq,dw]
      exact hJ
    · rw [rA]
      simp (disch:=omega) only [aJ,bg,aD,bB]
  · rw [Eo]
    simp (disch:=omega) only [aJ,bg,aD,bt,bM,fH]
    exact hJ
theorem S5 (g h:Bool) (xs:List gz) (hb:xs.length≤1048576):Cm 50 [.sl (some g) 2 xs.length (ah (da (some g)) xs),.sl (some h) 2 xs.length (ah (da (some h)) xs)] (.bool true,[.undef,.undef]):=by
  refine Cm.go GN [.undef,.undef] 0 (jN g xs.length (ah (da (some g)) xs) h xs.length (ah (da (some h)) xs) (0:Nat)) ?_ fun J hJ=>?_
  · refine WP.loop (H:=fun i=>jN g xs.length (ah (da (some g)) xs) h xs.length (ah (da (some h)) xs) (i:Nat)) (n:=xs.length) (fun _=>True) (fun i hi _ ih=>WP.go _ (ih trivial) fun J hJ=>?_) (fun _=>WP.fin fun J=>?_) 0 (Nat.zero_le _) trivial
    · rw [tp]
      have hx:=hi
      simp (disch:=first | omega | assumption) only [aJ,bg,bf,bt,aD,aW,bE,SX,Vd,Ve,Vf,Vg,Wk,aC,aq,dw]
      exact hJ
    · rw [tp]
      simp (disch:=omega) only [aJ,bg,aD,bB]
  · rw [GO]
    simp (disch:=omega) only [aJ,bg,aD,bt,bM,fH]
    exact hJ
def wz (xs:List af) (l:Int):Int:=iB (ff xs.length l) (uy fw xs)
def wA (xs:List eA) (l:Int):Int:=iB (ff xs.length l) (uy pZ xs)
end Go.Proofs.Ytockoilcnmljiaa
namespace Go.Proofs.Ytockoilcnmljiaa
set_option maxRecDepth 100000
section
variable (t:bJ Rz)
theorem Qv (g h:Bool) (xs:List af) (hb:xs.length≤1048576) (ok:∀ x∈xs,bz x):aY 48 [sN (some g) xs,sN (some h) xs] t=feed t [.bool true]:=bF (Qt g h xs hb ok) (by kernel_rfl) t
theorem Qw (g h:Bool) (xs:List eA) (hb:xs.length≤1048576) (ok:∀ x∈xs,nk x):aY 49 [sW (some g) xs,sW (some h) xs] t=feed t [.bool true]:=bF (Qu g h xs hb ok) (by kernel_rfl) t
theorem S6 (g h:Bool) (xs:List gz) (hb:xs.length≤1048576):aY 50 [sK (some g) xs,sK (some h) xs] t=feed t [.bool true]:=bF (S5 g h xs hb) (by kernel_rfl) t
end
theorem Qx (g h:Bool) (w:aN) (ok:pY w):Cm 18 [.agg (eU (some g) w),.agg (eU (some h) w)] (.bool true,[.undef,.undef]):=by
  have h1:=ok.nodes; have h2:=ok.cX; have h3:=ok.log; have h4:=ok.safe
  refine Cm.fin Ep fun J=>?_
  rw [Er]
  simp (disch:=first | omega | exact ok.node | exact ok.yD) only [Qv,Qw,S6,tk,aC,aq,decide_true,aJ,bg,fH]
structure adN (w:aN):Prop where
  nodes:w.nodes.length≤140737488355328
  node:∀ n∈w.nodes,tn n
  cX:w.cX.length≤140737488355328
  yD:∀ x∈w.cX,Za x
  log:w.log.length≤140737488355328
  safe:w.safe.length≤140737488355328
def ac3 (w:aN) (l:Int):Int:=iB (wz w.nodes l) fun l=>iB (wA w.cX l) fun l=>iB (ff w.log.length l) fun l=>iB (ff w.safe.length l) fun l=>l
theorem ic {v l:Int} {k:Int→Int} (hv:v≤l∧-1≤v) (hl:0≤l) (hk:0≤v→k v≤v∧-1≤k v):iB v k≤l∧-1≤iB v k:=by
  unfold iB
  split
  · omega
  · have:=hk (by omega); omega
theorem lD {n:Nat} {l:Int} (h:0≤l):ff n l≤l∧-1≤ff n l:=⟨(jK h).1,(jK h).2.1⟩
theorem Mj {α:Type} {f:α→Int→Int} (hf:∀ x l,0≤l→f x l≤l∧-1≤f x l):∀ (xs:List α) (l:Int),0≤l→uy f xs l≤l∧-1≤uy f xs l
  | [],l,h=>⟨Int.le_refl _,by show -1≤l; omega⟩
  | x::xs,l,h=>ic (hf x l h) h fun h1=>Mj hf xs _ h1
theorem Mk {xss:List (List Int)} {l:Int} (h:0≤l):vo xss l≤l∧-1≤vo xss l:=ic (lD h) h fun h1=>Mj (fun _ _ hl=>lD hl) _ _ h1
theorem AN {n:af} {l:Int} (h:0≤l):fw n l≤l∧-1≤fw n l:=by
  refine ic (lD h) h fun h=>ic ?_ h fun h=>ic ?_ h fun h=>ic (lD h) h fun h=>ic (Mk h) h fun h=>ic (lD h) h fun h=>ic (lD h) h fun h=>?_
  · exact ic (lD h) h fun h=>ic (Mk h) h fun h=>by omega
  · exact ic (lD h) h fun h=>ic (lD h) h fun h=>by omega
  · omega
theorem Z3 {xs:List af} {l:Int} (h:0≤l) (hm:l≤1048576):wz xs l≤l∧-1≤wz xs l∧(0≤wz xs l→xs.length≤1048576∧∀ x∈xs,bz x):=by
  refine gk h (ni h hm) fun h1=>?_
  have h2:=jK (n:=xs.length) h
  exact CW (f:=fw) (Q:=bz) (fun x l hl=>by
    by_cases hm:l≤1048576
    · obtain ⟨a,b,c⟩:=NO (x:=x) hl hm
      exact ⟨a,b,fun hh _=>c hh⟩
    · refine ⟨?_,?_,fun _ Pk=>absurd Pk hm⟩
      · exact (AN hl).1
      · exact (AN hl).2) xs _ h1 (by omega)
theorem Z4 {xs:List eA} {l:Int} (h:0≤l) (hm:l≤1048576):wA xs l≤l∧-1≤wA xs l∧(0≤wA xs l→xs.length≤1048576∧∀ x∈xs,nk x):=by
  refine gk h (ni h hm) fun h1=>?_
  have h2:=jK (n:=xs.length) h
  exact CW (f:=pZ) (Q:=nk) (fun x l hl=>by
    by_cases hm:l≤1048576
    · obtain ⟨a,b,c⟩:=NN (x:=x) hl hm
      exact ⟨a,b,fun hh _=>c hh⟩
    · have h3:pZ x l≤l∧-1≤pZ x l:=ic (k:=fun l=>l) (lD hl) hl fun h=>by show (_:Int)≤_∧_; omega
      exact ⟨h3.1,h3.2,fun _ Pk=>absurd Pk hm⟩) xs _ h1 (by omega)
section
variable (t:bJ Rz)
theorem Qy (g h:Bool) (w:aN) (ok:pY w):aY 18 [.agg (eU (some g) w),.agg (eU (some h) w)] t=feed t [.bool true]:=bF (Qx g h w ok) (by kernel_rfl) t
end
structure adO (w:aN):Prop where
  node:∀ n∈w.nodes,CZ n
  src:∀ x∈w.cX,te x.src=true∧te x.dst=true
  ajZ:∀ x∈w.log,te x.cell=true∧te x.up=true
  safe:rk w.safe
  gen:te w.gen=true
end Go.Proofs.Ytockoilcnmljiaa
namespace Go.Proofs.Ytockoilcnmljiaa
set_option maxRecDepth 100000
theorem adP {R:Type} {a b:Nat} {u v:R} (h:a=b):br (U.neq a b) u v=u:=by simp [U,br,h]
def Vh:Int→List (List Int)→List (List Int)
  | _,[]=>[]
  | k,xs::r=>Uy k xs.length::Vh (k+xs.length) r
theorem C3:∀ (k:Int) (xss:List (List Int)),(Vh k xss).length=xss.length
  | _,[]=>rfl
  | k,xs::r=>by simp [Vh,C3]
end Go.Proofs.Ytockoilcnmljiaa
namespace Go.Proofs.Ytockoilcnmljiaa
set_option maxRecDepth 100000
section
variable (pr:cT) (cv:Cv Rz) (J:Nat→St→Option Rz)
def H8 (i0:Int) (i1:Int) (n2:Nat) (c3:List D):St:=(St.mk [(0,(.ref 28 [] 0 none)),(2,(.int .i64 i0)),(3,(.int .i64 i1))] [(28,[(.sl none 1 n2 c3)])] [] 0)
def Wl (i0:Int) (g1:Bool) (n2:Nat) (c3:List D) (g4:Bool) (n5:Nat) (c6:List D) (g7:Bool) (n8:Nat) (c9:List D) (g10:Bool) (dX:Nat) (eC:List D) (i13:Int) (ur:Nat) (uw:List D):St:=(St.mk [(1,(.int .i64 i0)),(2,(.ptr 2 [] 0)),(5,(.ref 10005 [] 0 none))] [(2,[(.sl (some g1) 16 n2 c3),(.sl (some g4) 3 n5 c6),(.sl (some g7) 2 n8 c9),(.sl (some g10) 1 dX eC),(.int .i64 i13)]),(10005,[(.sl none 1 ur uw)])] [] 0)
def Wm (i0:Int) (g1:Bool) (n2:Nat) (c3:List D) (g4:Bool) (n5:Nat) (c6:List D) (g7:Bool) (n8:Nat) (c9:List D) (g10:Bool) (dX:Nat) (eC:List D) (i13:Int) (ur:Nat) (uw:List D):St:=(St.mk [(1,(.int .i64 i0)),(2,(.ptr 2 [] 0)),(5,(.ref 10005 [] 0 none))] [(2,[(.sl (some g1) 16 n2 c3),(.sl (some g4) 3 n5 c6),(.sl (some g7) 2 n8 c9),(.sl (some g10) 1 dX eC),(.int .i64 i13)]),(10005,[(.sl none 1 ur uw)])] [] 0)
theorem C4:Told cfg Try.prog 81 Try.f81:=⟨by kernel_rfl,Try.func81,by kernel_rfl⟩
theorem C5 :bc pr cv J 81 Try.f81 []=
    (br (pr.uM 8 8 8) (some ((.sl none 1 (pr.jr 8) (fm (pr.jr 8) [(.int .i64 0)])),[])) none):=by kernel_rfl
theorem C6:Told cfg Try.prog 84 Try.f84:=⟨by kernel_rfl,Try.func84,by kernel_rfl⟩
theorem C7 :bc pr cv J 84 Try.f84 []=
    (br (pr.uM 8 8 8) (some ((.sl none 1 (pr.jr 8) (fm (pr.jr 8) [(.int .i64 0)])),[])) none):=by kernel_rfl
def Vi (g0:Bool) (n1:Nat) (c2:List D) (i3:Int) (g4:Bool) (n5:Nat) (c6:List D) (g7:Bool) (n8:Nat) (c9:List D) (g10:Bool) (dX:Nat) (eC:List D) (g13:Bool) (ur:Nat) (uw:List D) (i16:Int) (n17:Nat) (c18:List D):St:=(St.mk [(1,(.sl (some g0) 1 n1 c2)),(2,(.ptr 2 [] 0)),(5,(.ref 10005 [] 0 none)),(6,(.int .i64 i3))] [(2,[(.sl (some g4) 16 n5 c6),(.sl (some g7) 3 n8 c9),(.sl (some g10) 2 dX eC),(.sl (some g13) 1 ur uw),(.int .i64 i16)]),(10005,[(.sl none 1 n17 c18)])] [] 0)
def Vj (g0:Bool) (n1:Nat) (c2:List D) (i3:Int) (i4:Int) (g5:Bool) (n6:Nat) (c7:List D) (g8:Bool) (n9:Nat) (wX:List D) (g11:Bool) (gv:Nat) (gV:List D) (g14:Bool) (pk:Nat) (w5:List D) (i17:Int) (Ka:Nat) (AJ:List D):St:=(St.mk [(2,(.ptr 2 [] 0)),(5,(.ref 10005 [] 0 none)),(9,(.sl (some g0) 1 n1 c2)),(10,(.int .i64 i3)),(11,(.int .i64 i4))] [(2,[(.sl (some g5) 16 n6 c7),(.sl (some g8) 3 n9 wX),(.sl (some g11) 2 gv gV),(.sl (some g14) 1 pk w5),(.int .i64 i17)]),(10005,[(.sl none 1 Ka AJ)])] [] 0)
end
def rv (xs:List Int) (k:Nat):List Int:=(List.range xs.length).map fun j=>if j < k∨xs.length≤j+k then xs.getD (xs.length - 1 - j) 0 else xs.getD j 0
theorem qR (xs:List Int) (k:Nat):(rv xs k).length=xs.length:=by simp [rv]
theorem Kb (xs:List Int) (k j:Nat) (h:j < (rv xs k).length):(rv xs k)[j]=if j < k∨xs.length≤j+k then xs.getD (xs.length - 1 - j) 0 else xs.getD j 0:=by simp [rv]
theorem adQ (xs:List Int):rv xs 0=xs:=by
  apply List.ext_getElem (by rw [qR])
  intro j h1 h2
  rw [Kb,if_neg (by omega)]
  simp [List.getD_eq_getElem?_getD,h2]
theorem afH (xs:List Int) {k:Nat} (h:xs.length≤2*k+1):rv xs k=xs.reverse:=by
  apply List.ext_getElem (by rw [qR,List.length_reverse])
  intro j h1 h2
  rw [qR] at h1
  rw [Kb,List.getElem_reverse]
  split
  · simp [List.getD_eq_getElem?_getD,show xs.length - 1 - j < xs.length by omega]
  · have e:xs.length - 1 - j=j:=by omega
    simp [List.getD_eq_getElem?_getD,h1,e]
theorem adR (xs:List Int) {k:Nat} (h:k+(k+1) < xs.length) (h1:k < (rv xs k).length) (h2:xs.length - 1 - k < (rv xs k).length):
    ((rv xs k).set k (rv xs k)[xs.length - 1 - k]).set (xs.length - 1 - k) (rv xs k)[k]=rv xs (k+1):=by
  apply List.ext_getElem (by simp [qR])
  intro j g1 g2
  rw [qR] at g2
  rw [List.getElem_set,List.getElem_set]
  simp only [Kb]
  by_cases e1:xs.length - 1 - k=j
  · rw [if_pos e1,if_neg (by omega),if_pos (by omega)]
    congr 1
    omega
  · rw [if_neg e1]
    by_cases e2:k=j
    · rw [if_pos e2,if_neg (by omega),if_pos (by omega)]
      subst e2
      rfl
    · rw [if_neg e2]
      by_cases e3:j < k∨xs.length≤j+k
      · rw [if_pos e3,if_pos (by omega)]
      · rw [if_neg e3,if_neg (by omega)]
def uz (log:List gz):Nat→Int→List Int
  | 0,_=>[]
  | f+1,n=>if 1≤n∧n≤log.length then n::(if (log.getD (n - 1).toNat ⟨0,0⟩).up < n then uz log f (log.getD (n - 1).toNat ⟨0,0⟩).up else []) else []
theorem vr {log:List gz} {n:Int} (h:¬ (1≤n∧n≤log.length)):∀ f,uz log f n=[]
  | 0=>rfl
  | f+1=>by rw [uz,if_neg h]
theorem S7 {log:List gz}:∀ (f g:Nat) (n:Int),n≤f→n≤g→uz log f n=uz log g n
  | 0,g,n,hf,hg=>by rw [vr (by omega),vr (by omega)]
  | f+1,0,n,hf,hg=>by rw [vr (by omega),vr (by omega)]
  | f+1,g+1,n,hf,hg=>by
    rw [uz,uz]
    split
    · split
      · rw [S7 f g _ (by omega) (by omega)]
      · rfl
    · rfl
theorem Ml {log:List gz}:∀ (f:Nat) (n:Int),((uz log f n).length:Int)≤max n 0
  | 0,n=>by simp [uz]; omega
  | f+1,n=>by
    rw [uz]
    split
    · split
      · have:=Ml (log:=log) f (log.getD (n - 1).toNat ⟨0,0⟩).up
        simp only [List.length_cons]
        omega
      · simp only [List.length_cons,List.length_nil]; omega
    · simp only [List.length_nil]; omega
theorem ac4 {α:Type} {l:List α} {i:Nat} (h:i < l.length) (d:α):l.getD i d=l[i]:=by simp [List.getD_eq_getElem?_getD,h]
theorem aaQ {R:Type} {x y:R} (xs:List Int):br (U.flat (ints xs)) x y=x:=by
  have:U.flat (ints xs)=true:=by simp [U,ints,hL]
  rw [this]; rfl
theorem aik {R:Type} {x y:R} (xs:List Int):br (U.cell (ints xs)) x y=x:=by
  have:U.cell (ints xs)=true:=by simp [U,ints,cy]
  rw [this]; rfl
theorem afI {R:Type} {x y:R} (a:Int):br (U.flat [.int .i64 a]) x y=x:=aaQ [a]
section
variable (g:Bool) (w:aN) (ok:pY w)
include ok
end
def S8 (xs:List Int) (at_ n:Int):List Int:=if 0≤at_∧at_≤(xs.length:Int) - 1 then xs.set at_.toNat n else xs
theorem K8 (xs:List Int) (a n:Int):(S8 xs a n).length=xs.length:=by
  unfold S8
  split<;>simp
theorem Vk:Cm 84 [] (.sl none 1 8 (ints (List.replicate 8 0)),[]):=by
  refine Cm.fin C6 fun J=>?_
  rw [C7]
  rfl
theorem Vl:Cm 81 [] (.sl none 1 8 (ints (List.replicate 8 0)),[]):=by
  refine Cm.fin C4 fun J=>?_
  rw [C5]
  rfl
def Vm (log:List gz) (m:List Int) (n:Int):List Int:=if 1≤n∧n≤log.length then S8 m (log.getD (n - 1).toNat ⟨0,0⟩).cell n else m
def rpl (log:List gz) (list:List Int):List Int:=list.foldl (Vm log) (List.replicate 8 0)
theorem NP (log:List gz) (m:List Int) (n:Int):(Vm log m n).length=m.length:=by
  unfold Vm
  split
  · exact K8 _ _ _
  · rfl
theorem C8 (log:List gz):∀ (l:List Int) (m:List Int),(l.foldl (Vm log) m).length=m.length
  | [],_=>rfl
  | x::l,m=>by rw [List.foldl_cons,C8 log l,NP]
theorem aaR {α β:Type} (f:β→α→β) (b:β) {l:List α} {i:Nat} (h:i < l.length):(l.take (i+1)).foldl f b=f ((l.take i).foldl f b) l[i]:=by
  rw [← List.take_append_getElem h,List.foldl_append]
  rfl
end Go.Proofs.Ytockoilcnmljiaa
