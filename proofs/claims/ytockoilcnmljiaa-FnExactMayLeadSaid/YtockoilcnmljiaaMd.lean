/- What the proof of FnExactMayLead stands on, part 4: an abstract machine on plain data, its soundness, and the contracts of functions. -/
import Derived.Test.YtockoilcnmljiaaChecked
import Derived.KernelRfl
import Derived.SizedLaws
import Derived.ChangeOld
import Derived.Test.YtockoilcnmljiaaMc
set_option linter.all false
set_option linter.unusedSimpArgs false
set_option linter.unusedVariables false
set_option linter.unnecessarySimpa false
set_option linter.unusedSectionVars false
namespace Go.Proofs.Ytockoilcnmljiaa
def bs (l:List UInt8):ByteArray:=⟨l.toArray⟩
def ints (xs:List Int):List D:=xs.map (.int .i64)
def bytes (xs:List UInt8):List D:=xs.map ec
def aO (xs:List Bool):List D:=xs.map .bool
def aE {α:Type} (e:α→List D) (xs:List α):List D:=xs.flatMap e
structure aH where
  aM:List Int
  bits:List (List Int)
  dQ:Bool
  bQ:Bool
  held:Bool
  last:Int
structure aG where
  a:List UInt8
  b:List UInt8
structure ai where
  id:Int
  up:Bool
  eS:Bool
  image:List Int
  mt:aH
  dr:aG
  conn:List Bool
  sync:List (List Int)
  bp:List Bool
  wait:List Int
abbrev sI (g:Option Bool) (xs:List Int):D:=.sl g 1 xs.length (ints xs)
abbrev s8 (g:Option Bool) (xs:List UInt8):D:=.sl g 1 xs.length (bytes xs)
abbrev sB (g:Option Bool) (xs:List Bool):D:=.sl g 1 xs.length (aO xs)
def rows (g:Option Bool) (xss:List (List Int)):List D:=xss.map fun xs=>.sl g 1 xs.length (ints xs)
abbrev sR (g:Option Bool) (xss:List (List Int)):D:=.sl g 1 xss.length (rows g xss)
abbrev cd (g:Option Bool) (m:aH):List D:=[sI g m.aM,sR g m.bits,.bool m.dQ,.bool m.bQ,.bool m.held,.int .i64 m.last]
abbrev dO (g:Option Bool) (s:aG):List D:=[s8 g s.a,s8 g s.b]
abbrev af (g:Option Bool) (n:ai):List D:=[.int .i64 n.id,.bool n.up,.bool n.eS,sI g n.image,sI g n.mt.aM,sR g n.mt.bits,.bool n.mt.dQ,.bool n.mt.bQ,.bool n.mt.held,.int .i64 n.mt.last,s8 g n.dr.a,s8 g n.dr.b,sB g n.conn,sR g n.sync,sB g n.bp,sI g n.wait]
structure eH where
  src:Int
  dst:Int
  bytes:List UInt8
structure mC where
  cell:Int
  up:Int
structure kp where
  nodes:List ai
  xR:List eH
  log:List mC
  safe:List Int
  gen:Int
abbrev dJ (g:Option Bool) (x:eH):List D:=[.int .i64 x.src,.int .i64 x.dst,s8 g x.bytes]
abbrev iG (_:Option Bool) (r:mC):List D:=[.int .i64 r.cell,.int .i64 r.up]
abbrev sN (g:Option Bool) (xs:List ai):D:=.sl g 16 xs.length (aE (af g) xs)
abbrev sW (g:Option Bool) (xs:List eH):D:=.sl g 3 xs.length (aE (dJ g) xs)
abbrev sK (g:Option Bool) (xs:List mC):D:=.sl g 2 xs.length (aE (iG g) xs)
abbrev uz (g:Option Bool) (w:kp):List D:=[sN g w.nodes,sW g w.xR,sK g w.log,sI g w.safe,.int .i64 w.gen]
structure sc where
  kind:Int
  cell:Int
  val:Int
  UD:Int
  aM:List Int
structure vE where
  src:Int
  dst:Int
  msg:sc
structure oC where
  kind:Int
  a:Int
  b:Int
abbrev CR (g:Option Bool) (m:sc):List D:=[.int .i64 m.kind,.int .i64 m.cell,.int .i64 m.val,.int .i64 m.UD,sI g m.aM]
abbrev yR (g:Option Bool) (p:vE):List D:=[.int .i64 p.src,.int .i64 p.dst,.int .i64 p.msg.kind,.int .i64 p.msg.cell,.int .i64 p.msg.val,.int .i64 p.msg.UD,sI g p.msg.aM]
abbrev yS (_:Option Bool) (d:oC):List D:=[.int .i64 d.kind,.int .i64 d.a,.int .i64 d.b]
abbrev sP (g:Option Bool) (xs:List vE):D:=.sl g 7 xs.length (aE (yR g) xs)
abbrev sM (g:Option Bool) (xs:List sc):D:=.sl g 5 xs.length (aE (CR g) xs)
abbrev sD (g:Option Bool) (xs:List oC):D:=.sl g 3 xs.length (aE (yS g) xs)
inductive ic where
  | I | B | L | R | mt | dr | node | msg | post | world | LF | Av | Ns | Ws | Ks | Ps | Ms | Ds
abbrev ic.T:ic→Type
  | .I=>List Int
  | .B=>List UInt8
  | .L=>List Bool
  | .R=>List (List Int)
  | .mt=>aH
  | .dr=>aG
  | .node=>ai
  | .msg=>sc
  | .post=>vE
  | .world=>kp
  | .LF=>oC
  | .Av=>eH
  | .Ns=>List ai
  | .Ws=>List eH
  | .Ks=>List mC
  | .Ps=>List vE
  | .Ms=>List sc
  | .Ds=>List oC
def enc:(k:ic)→k.T→D
  | .I,x=>sI none x
  | .B,x=>s8 none x
  | .L,x=>sB none x
  | .R,x=>sR none x
  | .mt,x=>.agg (cd none x)
  | .dr,x=>.agg (dO none x)
  | .node,x=>.agg (af none x)
  | .msg,x=>.agg (CR none x)
  | .post,x=>.agg (yR none x)
  | .world,x=>.agg (uz none x)
  | .LF,x=>.agg (yS none x)
  | .Av,x=>.agg (dJ none x)
  | .Ns,x=>sN none x
  | .Ws,x=>sW none x
  | .Ks,x=>sK none x
  | .Ps,x=>sP none x
  | .Ms,x=>sM none x
  | .Ds,x=>sD none x
theorem map_inj {α:Type} {f:α→D} (h:∀ a b,f a=f b→a=b):∀ {xs ys:List α},xs.map f=ys.map f→xs=ys
  | [],[],_=>rfl
  | [],_::_,e=>by simp at e
  | _::_,[],e=>by simp at e
  | x::xs,y::ys,e=>by
    simp only [List.map_cons,List.cons.injEq] at e
    rw [h _ _ e.1,map_inj h e.2]
theorem kI {xs ys:List Int} (h:ints xs=ints ys):xs=ys:=map_inj (fun a b e=>by simpa using e) h
theorem bytes_inj {xs ys:List UInt8} (h:bytes xs=bytes ys):xs=ys:=map_inj (fun a b e=>by
  simp only [ec,D.int.injEq,true_and] at e
  exact UInt8.toNat_inj.1 (by omega)) h
theorem xS {xs ys:List Bool} (h:aO xs=aO ys):xs=ys:=map_inj (fun a b e=>by simpa using e) h
theorem vF {g:Option Bool} {xs ys:List (List Int)} (h:rows g xs=rows g ys):xs=ys:=map_inj (fun a b e=>by
  simp only [D.sl.injEq] at e
  exact kI e.2.2.2) h
theorem Ik {α:Type} {e:α→List D} {w:Nat} (hw:∀ x,(e x).length=w) (h:∀ a b,e a=e b→a=b):∀ {xs ys:List α},xs.length=ys.length→aE e xs=aE e ys→xs=ys
  | [],[],_,_=>rfl
  | [],_::_,hl,_=>by simp at hl
  | _::_,[],hl,_=>by simp at hl
  | x::xs,y::ys,hl,he=>by
    simp only [aE,List.flatMap_cons] at he
    have h1:=List.append_inj he (by rw [hw,hw])
    rw [h _ _ h1.1,Ik hw h (by simpa using hl) h1.2]
theorem Nn {g:Option Bool} {a b:aH} (h:cd g a=cd g b):a=b:=by
  obtain ⟨a1,a2,a3,a4,a5,a6⟩:=a
  obtain ⟨b1,b2,b3,b4,b5,b6⟩:=b
  simp only [List.cons.injEq,D.sl.injEq,D.bool.injEq,D.int.injEq,true_and,and_true] at h
  rw [kI h.1.2,vF h.2.1.2,h.2.2.1,h.2.2.2.1,h.2.2.2.2.1,h.2.2.2.2.2]
theorem LG {g:Option Bool} {a b:aG} (h:dO g a=dO g b):a=b:=by
  obtain ⟨a1,a2⟩:=a
  obtain ⟨b1,b2⟩:=b
  simp only [List.cons.injEq,D.sl.injEq,true_and,and_true] at h
  rw [bytes_inj h.1.2,bytes_inj h.2.2]
theorem xT {g:Option Bool} {a b:ai} (h:af g a=af g b):a=b:=by
  obtain ⟨a1,a2,a3,a4,a5,⟨a6,a7⟩,a8,a9,a10,a11⟩:=a
  obtain ⟨b1,b2,b3,b4,b5,⟨b6,b7⟩,b8,b9,iw,b11⟩:=b
  obtain ⟨c1,c2,c3,c4,c5,c6⟩:=a5
  obtain ⟨d1,d2,d3,d4,d5,d6⟩:=b5
  simp only [List.cons.injEq,D.sl.injEq,D.bool.injEq,D.int.injEq,true_and,and_true] at h
  obtain ⟨h1,h2,h3,⟨_,h4⟩,⟨_,h5⟩,⟨_,h6⟩,h7,h8,h9,kQ,⟨_,G0⟩,⟨_,Th⟩,⟨_,h13⟩,⟨_,h14⟩,⟨_,h15⟩,⟨_,h16⟩⟩:=h
  rw [h1,h2,h3,kI h4,kI h5,vF h6,h7,h8,h9,kQ,bytes_inj G0,bytes_inj Th,xS h13,vF h14,xS h15,kI h16]
theorem xU {g:Option Bool} {a b:eH} (h:dJ g a=dJ g b):a=b:=by
  obtain ⟨a1,a2,a3⟩:=a
  obtain ⟨b1,b2,b3⟩:=b
  simp only [List.cons.injEq,D.sl.injEq,D.int.injEq,true_and,and_true] at h
  rw [h.1,h.2.1,bytes_inj h.2.2.2]
theorem Il {g:Option Bool} {a b:mC} (h:iG g a=iG g b):a=b:=by
  obtain ⟨a1,a2⟩:=a
  obtain ⟨b1,b2⟩:=b
  simp only [List.cons.injEq,D.int.injEq,true_and,and_true] at h
  rw [h.1,h.2]
theorem Im {g:Option Bool} {a b:sc} (h:CR g a=CR g b):a=b:=by
  obtain ⟨a1,a2,a3,a4,a5⟩:=a
  obtain ⟨b1,b2,b3,b4,b5⟩:=b
  simp only [List.cons.injEq,D.sl.injEq,D.int.injEq,true_and,and_true] at h
  rw [h.1,h.2.1,h.2.2.1,h.2.2.2.1,kI h.2.2.2.2.2]
theorem EA {g:Option Bool} {a b:vE} (h:yR g a=yR g b):a=b:=by
  obtain ⟨x,y,⟨a1,a2,a3,a4,a5⟩⟩:=a
  obtain ⟨z,w,⟨b1,b2,b3,b4,b5⟩⟩:=b
  simp only [List.cons.injEq,D.sl.injEq,D.int.injEq,true_and,and_true] at h
  rw [h.1,h.2.1,h.2.2.1,h.2.2.2.1,h.2.2.2.2.1,h.2.2.2.2.2.1,kI h.2.2.2.2.2.2.2]
theorem EB {g:Option Bool} {a b:oC} (h:yS g a=yS g b):a=b:=by
  obtain ⟨a1,a2,a3⟩:=a
  obtain ⟨b1,b2,b3⟩:=b
  simp only [List.cons.injEq,D.int.injEq,true_and,and_true] at h
  rw [h.1,h.2.1,h.2.2]
theorem oD {α:Type} {e:α→List D} {w s:Nat} (hw:∀ x,(e x).length=w) (h:∀ a b,e a=e b→a=b) {xs ys:List α} (he:D.sl none s xs.length (aE e xs)=.sl none s ys.length (aE e ys)):xs=ys:=by
  simp only [D.sl.injEq,true_and] at he
  exact Ik hw h he.1 he.2
theorem R6:∀ {k:ic} {x y:k.T},enc k x=enc k y→x=y
  | .I,_,_,h=>kI (D.sl.inj h).2.2.2
  | .B,_,_,h=>bytes_inj (D.sl.inj h).2.2.2
  | .L,_,_,h=>xS (D.sl.inj h).2.2.2
  | .R,_,_,h=>vF (D.sl.inj h).2.2.2
  | .mt,_,_,h=>Nn (D.agg.inj h)
  | .dr,_,_,h=>LG (D.agg.inj h)
  | .node,_,_,h=>xT (D.agg.inj h)
  | .msg,_,_,h=>Im (D.agg.inj h)
  | .post,_,_,h=>EA (D.agg.inj h)
  | .world,x,y,h=>by
    obtain ⟨a1,a2,a3,a4,a5⟩:=x
    obtain ⟨b1,b2,b3,b4,b5⟩:=y
    have h:=D.agg.inj h
    simp only [List.cons.injEq,D.int.injEq,true_and,and_true] at h
    rw [oD (w:=16) (fun _=>rfl) (fun _ _=>xT) h.1,oD (w:=3) (fun _=>rfl) (fun _ _=>xU) h.2.1,oD (w:=2) (fun _=>rfl) (fun _ _=>Il) h.2.2.1,kI (D.sl.inj h.2.2.2.1).2.2.2,h.2.2.2.2]
  | .LF,_,_,h=>EB (g:=none) (D.agg.inj h)
  | .Av,_,_,h=>xU (D.agg.inj h)
  | .Ns,_,_,h=>oD (w:=16) (fun _=>rfl) (fun _ _=>xT) h
  | .Ws,_,_,h=>oD (w:=3) (fun _=>rfl) (fun _ _=>xU) h
  | .Ks,_,_,h=>oD (w:=2) (fun _=>rfl) (fun _ _=>Il) h
  | .Ps,_,_,h=>oD (w:=7) (fun _=>rfl) (fun _ _=>EA) h
  | .Ms,_,_,h=>oD (w:=5) (fun _=>rfl) (fun _ _=>Im) h
  | .Ds,_,_,h=>oD (w:=3) (fun _=>rfl) (fun _ _=>EB (g:=none)) h
theorem uA {ds:List D} (h:∀ d∈ds,bz d=true):bD ds=true:=by
  induction ds with
  | nil=>rfl
  | cons d ds ih=>
    simp only [bD,Bool.and_eq_true]
    exact ⟨h d (by simp),ih fun x hx=>h x (by simp [hx])⟩
theorem pP (xs:List Int):bD (ints xs)=true:=uA (by intro d hd; obtain ⟨a,_,rfl⟩:=List.mem_map.1 hd; rfl)
theorem yT (xs:List UInt8):bD (bytes xs)=true:=uA (by intro d hd; obtain ⟨a,_,rfl⟩:=List.mem_map.1 hd; rfl)
theorem LH (xs:List Bool):bD (aO xs)=true:=uA (by intro d hd; obtain ⟨a,_,rfl⟩:=List.mem_map.1 hd; rfl)
theorem GC (xs:List (List Int)):bD (rows none xs)=true:=uA (by intro d hd; obtain ⟨a,_,rfl⟩:=List.mem_map.1 hd; simp [bz,pP])
theorem q9 {α:Type} {e:α→List D} (h:∀ x,bD (e x)=true) (xs:List α):bD (aE e xs)=true:=uA (by
  intro d hd
  obtain ⟨a,_,ha⟩:=List.mem_flatMap.1 hd
  have:=h a
  generalize e a=l at this ha
  induction l with
  | nil=>simp at ha
  | cons x l ih=>
    simp only [bD,Bool.and_eq_true] at this
    rcases List.mem_cons.1 ha with rfl | ha
    · exact this.1
    · exact ih this.2 ha)
theorem Q8 (x:ai):bD (af none x)=true:=by simp [bD,bz,pP,yT,LH,GC]
theorem Q9 (x:eH):bD (dJ none x)=true:=by simp [bD,bz,yT]
theorem Ra (x:mC):bD (iG none x)=true:=by simp [bD,bz]
theorem Wx (x:vE):bD (yR none x)=true:=by simp [bD,bz,pP]
theorem Wy (x:sc):bD (CR none x)=true:=by simp [bD,bz,pP]
theorem Wz (x:oC):bD (yS none x)=true:=by simp [bD,bz]
theorem aw:∀ (k:ic) (x:k.T),dc (enc k x)=true
  | .I,x=>by simp [dc,enc,bB,cK,eM,bz,pP]
  | .B,x=>by simp [dc,enc,bB,cK,eM,bz,yT]
  | .L,x=>by simp [dc,enc,bB,cK,eM,bz,LH]
  | .R,x=>by simp [dc,enc,bB,cK,eM,bz,GC]
  | .mt,x=>by simp [dc,enc,bB,cK,eM,bz,pP,GC]
  | .dr,x=>by simp [dc,enc,bB,cK,eM,bz,yT]
  | .node,x=>by simp [dc,enc,bB,cK,eM,bz,pP,yT,LH,GC]
  | .msg,x=>by simp [dc,enc,bB,cK,eM,bz,pP]
  | .post,x=>by simp [dc,enc,bB,cK,eM,bz,pP]
  | .world,x=>by simp [dc,enc,bB,cK,eM,bz,pP,q9 Q8,q9 Q9,q9 Ra]
  | .LF,x=>by simp [dc,enc,bB,cK,eM,bz]
  | .Av,x=>by simp [dc,enc,bB,cK,eM,bz,yT]
  | .Ns,x=>by simp [dc,enc,bB,cK,eM,bz,q9 Q8]
  | .Ws,x=>by simp [dc,enc,bB,cK,eM,bz,q9 Q9]
  | .Ks,x=>by simp [dc,enc,bB,cK,eM,bz,q9 Ra]
  | .Ps,x=>by simp [dc,enc,bB,cK,eM,bz,q9 Wx]
  | .Ms,x=>by simp [dc,enc,bB,cK,eM,bz,q9 Wy]
  | .Ds,x=>by simp [dc,enc,bB,cK,eM,bz,q9 Wz]
def Kr (v:D):Bool:=(match v with | .agg cs=>cs | d=>[d]).all fun x=>eM x&&bz x
theorem bf:dc (.aQ [])=true:=rfl
theorem bg (v:D) (vs:List D):dc (.aQ (v::vs))=(Kr v&&dc (.aQ vs)):=by
  simp only [dc,bB,cK,List.flatMap_cons,List.all_append,Kr]
  rfl
theorem bE (k:ic) (x:k.T):Kr (enc k x)=true:=by
  have:=aw k x
  cases k<;>exact this
theorem bF (k:IntKind) (n:Int):Kr (.int k n)=true:=rfl
theorem bh (b:Bool):Kr (.bool b)=true:=rfl
theorem bG (b:ByteArray):Kr (.str b)=true:=rfl
end Go.Proofs.Ytockoilcnmljiaa
namespace Go.Proofs.Ytockoilcnmljiaa
inductive RS where
  | int (k:IntKind)
  | bool
  | str
  | sl (s:Nat)
  | iH (s:Nat)
  | undef
  | agg (l:List RS)
  | aQ (l:List RS)
  | aJ (l:List RS)
  | ty (k:ic)
inductive bO (R:Type) where
  | done (x:Option R)
  | int (f:Int→bO R)
  | bool (f:Bool→bO R)
  | str (f:ByteArray→bO R)
  | sl (f:Nat→List D→bO R)
  | iH (f:Bool→Nat→List D→bO R)
  | ty (k:ic) (f:k.T→bO R)
section
variable {R:Type}
mutual
def oE:RS→(D→bO R)→bO R
  | .int k,f=>.int fun x=>f (.int k x)
  | .bool,f=>.bool fun x=>f (.bool x)
  | .str,f=>.str fun x=>f (.str x)
  | .sl s,f=>.sl fun n cs=>f (.sl none s n cs)
  | .iH s,f=>.iH fun _ n cs=>f (.sl (some false) s n cs)
  | .undef,f=>f .undef
  | .agg l,f=>xV l fun ds=>f (.agg ds)
  | .aQ l,f=>xV l fun ds=>f (.aQ ds)
  | .aJ l,f=>xV l fun ds=>f (.aJ ds)
  | .ty k,f=>.ty k fun x=>f (enc k x)
def xV:List RS→(List D→bO R)→bO R
  | [],f=>f []
  | s::ss,f=>oE s fun d=>xV ss fun ds=>f (d::ds)
end
open Classical in
noncomputable def feed:bO R→List D→Option R
  | .done x,_=>x
  | .int f,.int _ n::l=>feed (f n) l
  | .bool f,.bool b::l=>feed (f b) l
  | .str f,.str s::l=>feed (f s) l
  | .sl f,.sl none _ n cs::l=>feed (f n cs) l
  | .iH f,.sl (some g) _ n cs::l=>feed (f g n cs) l
  | .ty k f,d::l=>if h:∃ x,d=enc k x then feed (f (Classical.choose h)) l else none
  | _,_=>none
end
mutual
def pC:D→List D
  | .agg ds=>tH ds
  | .aQ ds=>tH ds
  | .aJ ds=>tH ds
  | .undef=>[]
  | d=>[d]
def tH:List D→List D
  | []=>[]
  | d::ds=>pC d++tH ds
end
open Classical in
mutual
noncomputable def eu:RS→D→Bool
  | .int k,.int k' _=>eA k k'
  | .bool,.bool _=>true
  | .str,.str _=>true
  | .sl s,.sl none s' _ _=>s==s'
  | .iH s,.sl (some false) s' _ _=>s==s'
  | .undef,.undef=>true
  | .agg l,.agg ds=>iI l ds
  | .aQ l,.aQ ds=>iI l ds
  | .aJ l,.aJ ds=>iI l ds
  | .ty k,d=>decide (∃ x,d=enc k x)
  | _,_=>false
noncomputable def iI:List RS→List D→Bool
  | [],[]=>true
  | s::ss,d::ds=>eu s d&&iI ss ds
  | _,_=>false
end
open Classical in
theorem ax (k:ic) (x:k.T):eu (.ty k) (enc k x)=true:=by
  simp only [eu]
  exact decide_eq_true ⟨x,rfl⟩
theorem bH (k:IntKind) (n:Int):eu (.int k) (.int k n)=true:=by simp [eu,eA]
theorem bj (b:Bool):eu .bool (.bool b)=true:=by simp [eu]
theorem bI (b:ByteArray):eu .str (.str b)=true:=by simp [eu]
theorem bJ (l:List RS) (ds:List D):eu (.aQ l) (.aQ ds)=iI l ds:=by simp [eu]
theorem aq:iI [] []=true:=by simp [iI]
theorem aj (s:RS) (ss:List RS) (d:D) (ds:List D):iI (s::ss) (d::ds)=(eu s d&&iI ss ds):=by simp [iI]
theorem aR:eu .undef .undef=true:=by simp [eu]
mutual
def fw:RS→D→List D
  | .agg l,.agg ds=>lV l ds
  | .aQ l,.aQ ds=>lV l ds
  | .aJ l,.aJ ds=>lV l ds
  | .undef,_=>[]
  | _,d=>[d]
def lV:List RS→List D→List D
  | s::ss,d::ds=>fw s d++lV ss ds
  | _,_=>[]
end
mutual
def sd:RS→Bool
  | .ty _=>true
  | .agg l=>se l
  | .aQ l=>se l
  | .aJ l=>se l
  | _=>false
def se:List RS→Bool
  | []=>false
  | s::ss=>sd s||se ss
end
mutual
theorem Io:∀ {s:RS} {d:D},eu s d=true→sd s=false→fw s d=pC d
  | .int k,d,h,_=>by cases d<;>simp [eu,eA] at h; simp [fw,pC]
  | .bool,d,h,_=>by cases d<;>simp [eu] at h; simp [fw,pC]
  | .str,d,h,_=>by cases d<;>simp [eu] at h; simp [fw,pC]
  | .sl s,d,h,_=>by cases d<;>simp [eu] at h; simp [fw,pC]
  | .iH s,d,h,_=>by cases d<;>simp [eu] at h; simp [fw,pC]
  | .undef,d,h,_=>by cases d<;>simp [eu] at h; simp [fw,pC]
  | .ty k,d,h,ht=>by simp [sd] at ht
  | .agg ss,d,h,ht=>by
    cases d with
    | agg ds=>rw [fw,pC]; exact qm (by simpa [eu] using h) (by simpa [sd] using ht)
    | _=>simp [eu] at h
  | .aQ ss,d,h,ht=>by
    cases d with
    | aQ ds=>rw [fw,pC]; exact qm (by simpa [eu] using h) (by simpa [sd] using ht)
    | _=>simp [eu] at h
  | .aJ ss,d,h,ht=>by
    cases d with
    | aJ ds=>rw [fw,pC]; exact qm (by simpa [eu] using h) (by simpa [sd] using ht)
    | _=>simp [eu] at h
theorem qm:∀ {ss:List RS} {ds:List D},iI ss ds=true→se ss=false→lV ss ds=tH ds
  | [],ds,h,_=>by
    cases ds with
    | nil=>rfl
    | cons d ds=>simp [iI] at h
  | s::ss,ds,h,ht=>by
    cases ds with
    | nil=>simp [iI] at h
    | cons d ds=>
      simp only [iI,Bool.and_eq_true] at h
      simp only [se,Bool.or_eq_false_iff] at ht
      rw [lV,tH,Io h.1 ht.1,qm h.2 ht.2]
end
section
variable {R:Type}
open Classical in
theorem Kt (k:ic) (f:k.T→bO R) (x:k.T) (l:List D):feed (.ty k f) (enc k x::l)=feed (f x) l:=by
  have h:∃ y,enc k x=enc k y:=⟨x,rfl⟩
  have e:Classical.choose h=x:=(R6 (Classical.choose_spec h)).symm
  show (if h:∃ y,enc k x=enc k y then feed (f (Classical.choose h)) l else none)=_
  rw [dif_pos h,e]
mutual
theorem qn:∀ {s:RS} {d:D} (f:D→bO R) (l:List D),eu s d=true→feed (oE s f) (fw s d++l)=feed (f d) l
  | .int k,d,f,l,h=>by
    cases d<;>simp [eu,eA] at h
    subst h
    simp [oE,fw,feed]
  | .bool,d,f,l,h=>by
    cases d<;>simp [eu] at h
    simp [oE,fw,feed]
  | .str,d,f,l,h=>by
    cases d<;>simp [eu] at h
    simp [oE,fw,feed]
  | .sl s,d,f,l,h=>by
    cases d with
    | sl g s' n cs=>cases g with
      | none=>simp [eu] at h; subst h; simp [oE,fw,feed]
      | some g=>simp [eu] at h
    | _=>simp [eu] at h
  | .iH s,d,f,l,h=>by
    cases d with
    | sl g s' n cs=>cases g with
      | none=>simp [eu] at h
      | some g=>cases g with
        | true=>simp [eu] at h
        | false=>simp [eu] at h; subst h; simp [oE,fw,feed]
    | _=>simp [eu] at h
  | .undef,d,f,l,h=>by
    cases d<;>simp [eu] at h
    simp [oE,fw]
  | .agg ss,d,f,l,h=>by
    cases d with
    | agg ds=>rw [oE,fw]; exact kA _ l (by simpa [eu] using h)
    | _=>simp [eu] at h
  | .aQ ss,d,f,l,h=>by
    cases d with
    | aQ ds=>rw [oE,fw]; exact kA _ l (by simpa [eu] using h)
    | _=>simp [eu] at h
  | .aJ ss,d,f,l,h=>by
    cases d with
    | aJ ds=>rw [oE,fw]; exact kA _ l (by simpa [eu] using h)
    | _=>simp [eu] at h
  | .ty k,d,f,l,h=>by
    have h:∃ x,d=enc k x:=by simpa [eu] using h
    obtain ⟨x,rfl⟩:=h
    rw [oE,fw,List.singleton_append]
    · exact Kt k _ x l
    all_goals simp
theorem kA:∀ {ss:List RS} {ds:List D} (f:List D→bO R) (l:List D),iI ss ds=true→feed (xV ss f) (lV ss ds++l)=feed (f ds) l
  | [],ds,f,l,h=>by
    cases ds with
    | nil=>rfl
    | cons d ds=>simp [iI] at h
  | s::ss,ds,f,l,h=>by
    cases ds with
    | nil=>simp [iI] at h
    | cons d ds=>
      simp only [iI,Bool.and_eq_true] at h
      rw [xV,lV,List.append_assoc,qn _ _ h.1,kA _ _ h.2]
end
end
noncomputable def j1 (c:bU) (P:Program) (f:FuncId) (ds:List D):Option (D × List D):=by
  classical exact if h:∃ r,Comes c P f ds r then some (Classical.choose h) else none
theorem Pz {c:bU} {P:Program} {f:FuncId} {ds:List D} {r:D × List D} (h:j1 c P f ds=some r):Comes c P f ds r:=by
  unfold j1 at h
  split at h
  · rename_i hh
    rw [Option.some.injEq] at h
    rw [← h]
    exact Classical.choose_spec hh
  · simp at h
theorem Np {c:bU} {P:Program} {f:FuncId} {ds:List D} {r r':D × List D} (h:Comes c P f ds r) (h':Comes c P f ds r'):r=r':=by
  obtain ⟨k,hk⟩:=Ev.and h h'
  have h3:=hk k (Nat.le_refl _)
  exact Option.some.inj (h3.1.symm.trans h3.2)
theorem Ip {c:bU} {P:Program} {f:FuncId} {ds:List D} {r:D × List D} (h:Comes c P f ds r):j1 c P f ds=some r:=by
  unfold j1
  rw [dif_pos ⟨r,h⟩]
  exact congrArg some (Np (Classical.choose_spec (⟨r,h⟩:∃ r,Comes c P f ds r)) h)
structure Sg where
  sig:FuncId→Option (RS × List RS)
  em:FuncId→Bool
abbrev Cv (R:Type):=FuncId→List D→bO R→Option R
noncomputable def dR {R:Type} (c:bU) (P:Program) (sg:Sg):Cv R:=fun g ds t=>
  if g=999999 then feed t ds else
  match j1 c P g ds,sg.sig g with
  | some (r,outs),some (s,ss)=>if eu s r&&iI ss outs&&(!(sd s||se ss)||(dc r&&outs.all dc)) then feed t (fw s r++(lV ss outs++[])) else none
  | _,_=>none
theorem WA {R:Type} {c:bU} {P:Program} {sg:Sg} {g:FuncId} {ds:List D} {r:D} {outs:List D} (t:bO R) (h:Comes c P g ds (r,outs)) (hs:(match sg.sig g with | some (s,ss)=>eu s r&&iI ss outs&&!(sd s||se ss) | none=>false)=true) (hg:g≠999999):dR c P sg g ds t=feed t (pC r++(tH outs++[])):=by
  unfold dR
  rw [if_neg hg,Ip h]
  split at hs
  · rename_i s ss hg
    rw [hg]
    simp only [Bool.and_eq_true,Bool.not_eq_true',Bool.or_eq_false_iff] at hs
    simp only [hs,Bool.and_self,Bool.or_self,Bool.not_false,Bool.true_or,if_true]
    rw [Io hs.1.1 hs.2.1,qm hs.1.2 hs.2.2]
  · simp at hs
theorem WB {R:Type} {c:bU} {P:Program} {sg:Sg} {g:FuncId} {ds:List D} {r:D} {outs:List D} {s:RS} {ss:List RS} (t:bO R) (h:Comes c P g ds (r,outs)) (hs:sg.sig g=some (s,ss)) (h1:eu s r=true) (h2:iI ss outs=true) (h3:dc r=true) (h4:outs.all dc=true) (hg:g≠999999):dR c P sg g ds t=feed t (fw s r++(lV ss outs++[])):=by
  unfold dR
  rw [if_neg hg,Ip h,hs]
  simp only [h1,h2,h3,h4,Bool.and_self,Bool.or_true,if_true]
def St.Iq (st:St) (r p:Nat) (zs:List D):Option St:=
  match lk st.rt r with
  | some l=>match l[p]? with
    | some (.sl none s n _)=>some { st with rt:=Nd st.rt r (l.set p (.sl none s n zs)) }
    | _=>none
  | none=>none
theorem Jp {st:St} {r p:Nat} {ys:List D} (h:st.cells r [p]=some ys):st.Iq r p ys=some st:=by
  unfold St.cells at h
  unfold St.Iq
  split at h
  case h_2=>simp at h
  rename_i l hl
  simp only [j9] at h
  split at h
  case h_2=>simp at h
  rename_i s n xs hp
  simp only [Option.some.injEq] at h
  subst h
  simp only [hl,hp]
  have e:l.set p (.sl none s n xs)=l:=by
    apply List.ext_getElem?
    intro i
    rw [List.getElem?_set]
    split
    · rename_i hi
      subst hi
      rw [if_pos (List.getElem?_eq_some_iff.1 hp).1,hp]
    · rfl
  rw [e,Au _ _ _ hl]
section
variable {R:Type} (pr:ez) (c:bU) (sg:Sg) (cv:Cv R) (J:Nat→St→Option R) (au:FuncId)
def GD (bK:St) (t:Bool) (dst:Option Nat) (r:D) (k:St→Option R):Option R:=
  match dst with
  | some i=>k ((bK.nW (bK.of+i) (if t then fU true r else r)).1.put (some i) (bK.nW (bK.of+i) (if t then fU true r else r)).2)
  | none=>k bK
def BN (st:St) (r p:Nat) (k:St→Option R):Option R:=
  match st.cells r [p] with
  | some ys=>cv 999999 [.sl none 0 0 ys] (.sl fun _ zs=>.done (match st.Iq r p zs with
    | some st'=>k st'
    | none=>none))
  | none=>k st
def BO (st:St) (dst:Option Nat) (g:FuncId) (args:List D) (k:St→Option R):Option R:=
  if g=999999 then none else
  match kP st (c.own g) args,sg.sig g with
  | some (ds,aC),some (s,ss)=>
    br (if nj (c.own g) ds then true else Q7 pr (c.own g) ds)
    (cv g (if nj (c.own g) ds then iY (c.own g) ds else ds) (oE s fun r=>xV ss fun outs=>.done (br (match sd s||se ss with | true=>true | false=>zL pr r&&outs.all (zL pr))
      (match lU pr aC id (c.own g) args (if nj (c.own g) ds then outs.map (fU true) else outs) with
        | some (q,bK)=>br q (GD bK (nj (c.own g) ds) dst r k) none
        | none=>none) none))) none
  | _,_=>none
def xW (st:St) (dst:Option Nat) (g:FuncId) (sz r p o:Nat) (rest:List D) (k:St→Option R):Option R:=
  if g=999999 then none else
  match st.cells r [p],sg.sig g,(c.own g).headD false&&!(c.own g).tail.any id with
  | some cs,some (s,ss),true=>
    match st.gw r [p] o (.hole sz (pr.cy cs o)) with
    | some aC=>match rB aC (c.own g).tail rest with
      | some GF=>
        br (pr.qL sz cs o) (br (pr.nl (pr.cH cs o))
        (cv g (.sl none sz (pr.cy cs o) (pr.cH cs o)::GF) (oE s fun res=>xV ss fun outs=>.done (br (zL pr res&&outs.all (zL pr))
          (match outs with
            | .sl none UE n' cs'::_=>if sz=UE∧outs.length=rest.length+1 then (match (st.ej (bS r [p] o false)).gw r [p] o (.sl none UE n' cs') with
              | some bK=>br (pr.neq (pr.cy cs o) n') (BN cv bK r p fun bK=>GD bK false dst res k) none
              | none=>none) else none
            | _=>none) none))) none) none
      | none=>none
    | none=>none
  | _,_,_=>none
def GG (st:St) (o:Oper) (k:St→Option R):St→Option R:=
  if sg.em au then (match o.op with
    | .store _ a _=>(match bN c st o.type a with
      | .ptr r [p] _=>fun st'=>BN cv st' r p k
      | _=>k)
    | _=>k) else k
def LI (st:St) (o:Oper) (k:St→Option R):Option R:=
  match o.op with
  | .call cc=>match cc.callee with
    | .value f=>if cc.args.size≠cc.argTypes.size then none else match bN c st o.type f with
      | .fn g fQ=>if c.inl g then none else match sg.em au,((cc.args.toList.zip cc.argTypes.toList).map fun p=>bN c st p.2 p.1)++fQ with
        | true,.ref r [p] o' none::rest=>xW pr c sg cv st o.dst g (c.XF (cc.argTypes.toList.headD 0)) r p o' rest k
        | _,args=>BO pr c sg cv st o.dst g args k
      | _=>none
    | _=>Kh pr c (fun _ _=>none) uy au st o k
  | _=>match (if sg.em au then UA pr c st o else none) with
    | some (g,st')=>br g (GG c sg cv au st o k st') none
    | none=>Kh pr c (fun _ _=>none) uy au st o (GG c sg cv au st o k)
def BP (st:St) (o:Oper) (k:St→Option R):Option R:=
  match tQ c au st o with
  | true=>LI pr c sg cv au st o k
  | false=>none
def mD (all:Array Oper):List Oper→St→(St→Option R)→Option R
  | [],st,k=>k st
  | o::rest,st,k=>match o.guard with
    | none=>BP pr c sg cv au st o fun st'=>mD all rest st' k
    | some (j,want)=>match (all[j]?).bind (·.dst) with
      | some t=>match st.get t with
        | .bool b=>match want with
          | true=>br b (BP pr c sg cv au (st.lit t true) o fun st'=>mD all rest st' k) (mD all rest ((st.lit t false).put o.dst (.aQ [])) k)
          | false=>br b (mD all rest ((st.lit t true).put o.dst (.aQ [])) k) (BP pr c sg cv au (st.lit t false) o fun st'=>mD all rest st' k)
        | .aQ []=>mD all rest (st.put o.dst (.aQ [])) k
        | _=>none
      | none=>mD all rest (st.put o.dst (.aQ [])) k
def jmp (i:Nat) (st:St):Option R:=match Pu c au i st with
  | some h=>J i h
  | none=>none
def oF (f:St→Option R) (k:Exit→St→Option R):Exit→St→Option R
  | .normal,st=>f st
  | x,st=>k x st
def sf (id:Nat) (k:Exit→St→Option R):Exit→St→Option R
  | .exit rD,st=>if rD=id then k .normal st else k (.exit rD) st
  | x,st=>k x st
def cW:Code→Nat→St→(Exit→St→Option R)→Option R
  | .skip,_,st,k=>k .normal st
  | .region _ ops false,_,st,k=>mD pr c sg cv au ops ops.toList st (k .normal)
  | .region _ ops true,_,st,k=>match pI c au ops ops.size (Array.replicate ops.size false) with
    | some l=>mD pr c sg cv au ops (opsOf ops l) st (k .normal)
    | none=>none
  | .seq a b,i,st,k=>cW a i st (oF (fun st'=>cW b i st' k) k)
  | .cond x a b,i,st,k=>GB c st x (fun st=>cW a i st k) (fun st=>cW b i st k)
  | .block id a,_,st,k=>cW a id st (sf id k)
  | .loop _,i,st,_=>jmp c J au i st
  | .exit id,_,st,k=>k (.exit id) st
  | .ret,_,st,k=>k .ret st
  | _,_,_,_=>none
def cR:Code→Nat→(Exit→St→Option R)→Nat→Option (St→Option R)
  | .seq a b,i,k,j=>match cR a i (oF (fun st'=>cW pr c sg cv J au b i st' k) k) j with
    | some t=>some t
    | none=>cR b i k j
  | .cond _ a b,i,k,j=>match cR a i k j with
    | some t=>some t
    | none=>cR b i k j
  | .block id a,_,k,j=>cR a id (sf id k) j
  | .loop a,i,k,j=>if i=j then some fun h=>cW pr c sg cv J au a i h (oF (jmp c J au i) k)
    else cR a i (oF (jmp c J au i) k) j
  | _,_,_,_=>none
end
def j2:Code→Nat→List Nat
  | .seq a b,i=>j2 a i++j2 b i
  | .cond _ a b,i=>j2 a i++j2 b i
  | .block id a,_=>j2 a id
  | .loop a,i=>i::j2 a i
  | _,_=>[]
def oG:D→D
  | .aJ _=>.aJ []
  | .agg cs=>if cs.any gQ then .agg [.sl none 0 0 []] else .undef
  | .sl none _ _ _=>.sl none 0 0 []
  | .aQ vs=>.aQ vs
  | _=>.undef
abbrev Rz:=D × List D
section
variable (pr:ez) (c:bU) (sg:Sg) (cv:Cv Rz) (J:Nat→St→Option Rz) (au:FuncId)
def Aw (fn:Func) (sk:List D) (x:Exit) (st:St):Option Rz:=L8 (c.gone au) (At c fn sk x st)
def ra (fn:Func) (sk:List D) (j:Nat) (h:St):Option Rz:=
  match fn.body with
  | some body=>match cR pr c sg cv J au body 0 (Aw c au fn sk) j with
    | some t=>t h
    | none=>none
  | none=>none
def xX (fn:Func) (args:List D):Option Rz:=
  match fn.body with
  | some body=>cW pr c sg cv J au body 0 (lI fn.ntmps 0 args ⟨[],[],[],0⟩) (Aw c au fn (args.map oG))
  | none=>none
end
noncomputable def Jn (c:bU) (P:Program) (sg:Sg) (f:FuncId) (fn:Func) (sk:List D):Nat→Nat→St→Option Rz
  | 0=>fun _ _=>none
  | n+1=>fun j h=>ra U c sg (dR c P sg) (Jn c P sg f fn sk n) f fn sk j h
def W (c:bU) (P:Program) (sg:Sg) (f:FuncId) (fn:Func) (sk:List D) (j:Nat) (h:St) (r:Rz):Prop:=∃ n,Jn c P sg f fn sk n j h=some r
theorem LJ (st:St) (r:Nat) (d:D):mo st r (oG d)=mo st r d:=by
  cases d with
  | aJ cs=>rfl
  | agg cs=>
    by_cases h:cs.any gQ=true
    · have e:oG (.agg cs)=.agg [.sl none 0 0 []]:=by simp only [oG,h,if_true]
      have h1:dY (.agg cs)=true:=h
      have h2:dY (.agg [.sl none 0 0 []])=true:=rfl
      rw [e]
      unfold mo
      rw [h1,h2]
    · have e:oG (.agg cs)=.undef:=by simp only [oG,if_neg h]
      have h1:dY (.agg cs)=false:=Bool.eq_false_iff.2 h
      have h2:dY .undef=false:=rfl
      rw [e]
      unfold mo
      rw [h1,h2]
      rfl
  | sl g s n cs=>
    cases g with
    | none=>rfl
    | some g=>rfl
  | aQ vs=>rfl
  | _=>rfl
theorem Ax (n:Nat):∀ (i:Nat) (ds:List D) (st:St),ng n i (ds.map oG) st=ng n i ds st
  | _,[],_=>rfl
  | i,d::ds,st=>by
    simp only [List.map_cons,ng,LJ]
    split
    · rw [Ax n (i+1) ds st]
    · split
      · rename_i o st' h
        rw [Ax n (i+1) ds st']
      · rfl
theorem R7 (c:bU) (fn:Func) (args:List D):At c fn (args.map oG)=At c fn args:=by
  funext x st
  unfold At
  simp only [Ax,List.length_map]
section
variable {R:Type} {P:Program} {c:bU} (ah:dG c P) {sg:Sg} {au:FuncId}
include ah
theorem Ay {st:St} {r p:Nat} {k:St→Option R}:BN (dR c P sg) st r p k=k st:=by
  have _:=ah
  unfold BN
  split
  · rename_i ys Uf
    unfold dR
    simp only [if_true,feed,Jp Uf]
  · rfl
theorem R8 {st:St} {o:Oper} {k:St→Option R}:GG c sg (dR c P sg) au st o k=k:=by
  unfold GG
  split
  · split
    · split
      · funext st'
        exact Ay ah
      · rfl
    · rfl
  · rfl
theorem Ku {bK:St} {t:Bool} {dst:Option Nat} {r:D} {k:St→Option R} {x:R} (h:GD bK t dst r k=some x):∃ st',(match dst with
      | some i=>some ((bK.nW (bK.of+i) (if t then fU true r else r)).1.put (some i) (bK.nW (bK.of+i) (if t then fU true r else r)).2)
      | none=>some bK)=some st'∧k st'=some x∧∀ (k':St→Option R),GD bK t dst r k'=k' st':=by
  have _:=ah
  cases dst with
  | none=>exact ⟨_,rfl,h,fun _=>rfl⟩
  | some i=>exact ⟨_,rfl,h,fun _=>rfl⟩
theorem PA {st:St} {dst:Option Nat} {g:FuncId} {args:List D} {k:St→Option R} {r:R} (h:BO U c sg (dR c P sg) st dst g args k=some r):∃ st',ji c (j1 c P) st dst g args=some st'∧k st'=some r∧∀ (k':St→Option R) r',k' st'=some r'→BO U c sg (dR c P sg) st dst g args k'=some r':=by
  unfold BO at h
  split at h
  · simp at h
  rename_i hg
  split at h
  case h_2=>simp at h
  rename_i ds aC s ss ke Ir
  obtain ⟨hl,h⟩:=mw h
  unfold dR at h
  rw [if_neg hg,Ir] at h
  split at h
  case h_2=>simp at h
  rename_i rr outs s' ss' hV rJ
  simp only [Option.some.injEq,Prod.mk.injEq] at rJ
  obtain ⟨rfl,rfl⟩:=rJ
  split at h
  case isFalse=>simp at h
  rename_i ck
  have PB:=ck
  simp only [Bool.and_eq_true] at ck
  obtain ⟨ck,PC⟩:=ck
  rw [qn _ _ ck.1,kA _ _ ck.2] at h
  simp only [feed] at h
  obtain ⟨h1,h2⟩:=mw h
  have hU:(dc rr&&outs.all dc)=true:=by
    have e:zL U=dc:=funext BJ
    cases kd:sd s||se ss with
    | true=>rw [kd] at PC; simpa using PC
    | false=>
      rw [kd] at h1
      rw [← e]
      exact h1
  split at h2
  case h_2=>simp at h2
  rename_i q bK hb
  obtain ⟨hq,h2⟩:=mw h2
  have ht:eN (c.own g) ds=nj (c.own g) ds:=by
    cases cJ:nj (c.own g) ds with
    | true=>exact BM cJ
    | false=>rw [cJ] at hl; exact zM cJ (by simpa using hl)
  obtain ⟨st',k1,k2,k3⟩:=Ku ah h2
  refine ⟨st',?_,k2,fun k' r' hk=>?_⟩
  · unfold ji
    rw [ke]
    simp only [ht,hV,hU,if_true,sb hb hq]
    cases dst with
    | none=>exact k1
    | some i=>exact k1
  · unfold BO
    rw [if_neg hg,ke,Ir]
    simp only
    rw [hl]
    simp only [br]
    unfold dR
    rw [if_neg hg,hV,Ir]
    simp only
    rw [if_pos PB,qn _ _ ck.1,kA _ _ ck.2]
    simp only [feed,h1,br,hb,hq]
    rw [k3,hk]
theorem xY:∀ {b:List Bool} {ds:List D} {st:St},b.any id=false→kZ st b ds=some (ds,st)
  | _,[],_,_=>rfl
  | b,d::ds,st,h=>by
    have _:=ah
    have hb:b.headD false=false∧b.tail.any id=false:=by
      cases b with
      | nil=>simp
      | cons x xs=>simpa using h
    simp only [kZ,hb.1,Bool.false_eq_true,if_false,xY hb.2]
theorem wa:∀ {b:List Bool} {ds os:List D} {st:St} {h:D→D},b.any id=false→ds.length=os.length→gy st h b ds os=some st
  | _,[],_,_,_,_,_=>rfl
  | b,d::ds,[],st,h,hn,hl=>by simp at hl
  | b,d::ds,o::os,st,h,hn,hl=>by
    have _:=ah
    have hb:b.headD false=false∧b.tail.any id=false:=by
      cases b with
      | nil=>simp
      | cons x xs=>simpa using hn
    simp only [gy,hb.1,Bool.false_eq_true,if_false]
    exact wa hb.2 (by simpa using hl)
theorem zN:∀ {b:List Bool} {ds:List D},b.any id=false→eN b ds=false
  | _,[],_=>rfl
  | b,d::ds,hn=>by
    have _:=ah
    have hb:b.headD false=false∧b.tail.any id=false:=by
      cases b with
      | nil=>simp
      | cons x xs=>simpa using hn
    simp only [eN,hb.1,Bool.false_and,Bool.false_or]
    exact zN hb.2
theorem LK {st aC:St} {r p o:Nat} {cs:List D} {d:D} (hc:st.cells r [p]=some cs) (h:st.gw r [p] o d=some aC):aC.cells r [p]=some (cs.set o d):=by
  have _:=ah
  unfold St.cells at hc ⊢
  unfold St.gw at h
  split at h
  case h_2=>simp at h
  rename_i l hl
  rw [hl] at hc
  simp only at hc
  split at h
  case h_2=>simp at h
  rename_i l' hm
  simp only [Option.some.injEq] at h
  subst h
  simp only [jj]
  simp only [j9] at hc
  split at hc
  case h_2=>simp at hc
  rename_i s n xs hp
  simp only [Option.some.injEq] at hc
  subst hc
  simp only [nc,hp,Option.some.injEq] at hm
  subst hm
  have cJ:p < l.length:=(List.getElem?_eq_some_iff.1 hp).1
  simp only [j9,List.getElem?_set,cJ,if_true]
omit ah in
theorem Is {α:Type}:∀ (l:List (Nat × α)) (k:Nat) (u v:α),pz (pz l k u) k v=pz l k v
  | [],k,u,v=>by simp [pz]
  | (j,w)::t,k,u,v=>by
    simp only [pz]
    split
    · rename_i h
      simp only [pz,if_pos h,Is t k u v]
    · rename_i h
      split
      · simp [pz]
      · simp [pz]
omit ah in
theorem Kv {α:Type} (f:α→α):∀ (l:List (Nat × α)) (k:Nat),lk (fm f l) k=(lk l k).map f
  | [],_=>rfl
  | (j,w)::t,k=>by
    simp only [fm,lk]
    split
    · rfl
    · exact Kv f t k
theorem LL {st aC:St} {r p o:Nat} {h d:D} {b:Bool} (hs:st.gw r [p] o h=some aC):(aC.ej (bS r [p] o b)).gw r [p] o d=(st.ej (bS r [p] o b)).gw r [p] o d:=by
  have _:=ah
  unfold St.gw at hs
  split at hs
  case h_2=>simp at hs
  rename_i l hl
  split at hs
  case h_2=>simp at hs
  rename_i l' hm
  simp only [Option.some.injEq] at hs
  subst hs
  simp only [nc] at hm
  split at hm
  case h_2=>simp at hm
  rename_i s n xs hp
  simp only [Option.some.injEq] at hm
  subst hm
  have cJ:p < l.length:=(List.getElem?_eq_some_iff.1 hp).1
  have e1:(l.map (eB (bS r [p] o b)))[p]?=some (.sl none s n xs):=by
    rw [List.getElem?_map,hp]
    rfl
  have e2:((l.set p (.sl none s n (xs.set o h))).map (eB (bS r [p] o b)))[p]?=some (.sl none s n (xs.set o h)):=by
    rw [List.getElem?_map,List.getElem?_set]
    simp only [cJ,if_true]
    rfl
  have e0:lk (fm (List.map (eB (bS r [p] o b))) st.rt) r=some (l.map (eB (bS r [p] o b))):=by
    rw [Kv,hl]
    rfl
  have e3:((l.set p (.sl none s n (xs.set o h))).map (eB (bS r [p] o b))).set p (.sl none s n (xs.set o d))=(l.map (eB (bS r [p] o b))).set p (.sl none s n (xs.set o d)):=by
    rw [List.map_set,List.set_set]
  unfold St.gw
  simp only [St.ej,CK,jj,e0,nc,e1,e2,List.set_set,e3,Is]
theorem Nq {st:St} {dst:Option Nat} {g:FuncId} {sz a p o:Nat} {rest:List D} {k:St→Option R} {r:R} (h:xW U c sg (dR c P sg) st dst g sz a p o rest k=some r):∃ st',ji c (j1 c P) st dst g (.ref a [p] o none::rest)=some st'∧k st'=some r∧∀ (k':St→Option R) r',k' st'=some r'→xW U c sg (dR c P sg) st dst g sz a p o rest k'=some r':=by
  unfold xW at h
  split at h
  · simp at h
  rename_i hg
  split at h
  case h_2=>simp at h
  rename_i cs s ss dU Ir ir
  simp only [Bool.and_eq_true,Bool.not_eq_true'] at ir
  split at h
  case h_2=>simp at h
  rename_i aC hC
  split at h
  case h_2=>simp at h
  rename_i GF Yl
  obtain ⟨lv,h⟩:=mw h
  obtain ⟨QZ,h⟩:=mw h
  simp only [Ay ah] at h
  unfold dR at h
  rw [if_neg hg,Ir] at h
  split at h
  case h_2=>simp at h
  rename_i rr outs s' ss' hV rJ
  simp only [Option.some.injEq,Prod.mk.injEq] at rJ
  obtain ⟨rfl,rfl⟩:=rJ
  split at h
  case isFalse=>simp at h
  rename_i ck
  have PB:=ck
  simp only [Bool.and_eq_true] at ck
  obtain ⟨ck,PC⟩:=ck
  rw [qn _ _ ck.1,kA _ _ ck.2] at h
  simp only [feed] at h
  obtain ⟨h1,h2⟩:=mw h
  have hU:(dc rr&&outs.all dc)=true:=by
    have e:zL U=dc:=funext BJ
    rw [← e]
    exact h1
  split at h2
  case h_2=>simp at h2
  rename_i UE n' cs' WC
  split at h2
  case isFalse=>simp at h2
  rename_i Zx
  obtain ⟨rfl,Mt⟩:=Zx
  split at h2
  case h_2=>simp at h2
  rename_i bK Rb
  have Nr:=Rb
  rw [← LL ah hC] at Nr
  obtain ⟨hq,h2⟩:=mw h2
  have hn:U.cy cs o=n':=by simpa [U] using hq
  obtain ⟨st',k1,k2,k3⟩:=Ku ah h2
  have cn:st.cell a [p] o=some (.sl none sz (U.cy cs o) (U.cH cs o)):=by
    unfold St.cell
    rw [dU]
    exact CP lv
  have UF:aC.cell a [p] o=some (.hole sz (U.cy cs o)):=by
    have cJ:o < cs.length:=(List.getElem?_eq_some_iff.1 (CP lv)).1
    unfold St.cell
    rw [LK ah dU hC]
    simp only [List.getElem?_set,cJ,if_true]
  have ke:kP st (c.own g) (.ref a [p] o none::rest)=some (.sl none sz (U.cy cs o) (U.cH cs o)::GF,aC):=by
    unfold kP
    simp only [kZ,ir.1,if_true,zg,hI,cn,hC,trim,xY ah ir.2,rB,Yl]
  have WD:eN (c.own g) (.sl none sz (U.cy cs o) (U.cH cs o)::GF)=false:=by
    simp only [eN,zN ah ir.2,Bool.or_false,ir.1,Bool.true_and,bB,cK,List.all_cons,List.all_nil,Bool.and_true,bz]
    have:bD (U.cH cs o)=true:=QZ
    rw [this]
    rfl
  have Bw:gy aC id (c.own g) (.ref a [p] o none::rest) (.sl none sz n' cs'::WC)=some bK:=by
    simp only [gy,ir.1,if_true,yx,nf,id,UF]
    simp only [hn,and_self,if_true,Nr]
    exact wa ah ir.2 (by simpa using Mt.symm)
  refine ⟨st',?_,k2,fun k' r' hk=>?_⟩
  · unfold ji
    rw [ke]
    simp only [WD,Bool.false_eq_true,if_false,hV,hU,if_true,Bw]
    cases dst with
    | none=>exact k1
    | some i=>exact k1
  · unfold xW
    simp only [Ay ah]
    rw [if_neg hg,dU,Ir]
    simp only [ir.1,ir.2,Bool.not_false,Bool.and_self,hC,Yl,lv,QZ,br]
    unfold dR
    rw [if_neg hg,hV,Ir]
    simp only
    rw [if_pos PB,qn _ _ ck.1,kA _ _ ck.2]
    simp only [feed,h1,br]
    rw [if_pos ⟨trivial,Mt⟩,Rb]
    simp only [hq]
    rw [k3,hk]
theorem R9 {st:St} {o:Oper} {k:St→Option R} {r:R} (h:LI U c sg (dR c P sg) au st o k=some r):∃ st',eC c (j1 c P) uy au st o=some st'∧k st'=some r∧∀ (k':St→Option R) r',k' st'=some r'→LI U c sg (dR c P sg) au st o k'=some r':=by
  have hK:∀ (k:St→Option R),Kh U c (fun _ _=>none) uy au st o k=some r→∃ st',eC c (j1 c P) uy au st o=some st'∧k st'=some r∧∀ (k':St→Option R) r',k' st'=some r'→Kh U c (fun _ _=>none) uy au st o k'=some r':=by
    intro k h
    have hh:=h
    unfold Kh at h
    split at h
    case h_2=>simp at h
    rename_i hc
    obtain ⟨h1,h2⟩:=mw h
    split at h2
    · rename_i st' hu
      refine ⟨st',Ux ah (by simp) h1 hu,h2,fun k' r' hk=>?_⟩
      unfold Kh
      rw [hc]
      simp only
      rw [h1,hu]
      exact hk
    · simp at h2
  unfold LI at h ⊢
  simp only [R8 ah] at h ⊢
  split at h
  · rename_i cc ho
    split at h
    · rename_i f kR
      split at h
      · simp at h
      rename_i cr
      split at h
      case h_2=>simp at h
      rename_i g fQ UG
      split at h
      · simp at h
      rename_i km
      have ae:∀ {args:List D} {st':St},((cc.args.toList.zip cc.argTypes.toList).map fun p=>bN c st p.2 p.1)++fQ=args→ji c (j1 c P) st o.dst g args=some st'→eC c (j1 c P) uy au st o=some st':=by
        intro args st' ha hd
        unfold eC
        simp only [ho,kR]
        rw [if_neg cr]
        simp only [UG,if_neg km,ha]
        exact hd
      split at h
      · rename_i a p o' rest nM UH
        obtain ⟨st',h1,h2,h3⟩:=Nq ah h
        refine ⟨st',ae UH h1,h2,fun k' r' hk=>?_⟩
        rw [if_neg cr]
        simp only [UG,if_neg km,nM,UH]
        exact h3 k' r' hk
      · rename_i cA
        obtain ⟨st',h1,h2,h3⟩:=PA ah h
        refine ⟨st',ae rfl h1,h2,fun k' r' hk=>?_⟩
        rw [if_neg cr]
        simp only [UG,if_neg km]
        exact h3 k' r' hk
    · rename_i kR
      obtain ⟨st',h1,h2,h3⟩:=hK k h
      refine ⟨st',h1,h2,fun k' r' hk=>?_⟩
      exact h3 k' r' hk
  · rename_i hnc
    split at h
    · rename_i g st' he
      obtain ⟨hg,h2⟩:=mw h
      split at he
      case isFalse=>simp at he
      refine ⟨st',UB he hg,h2,fun k' r' hk=>?_⟩
      rw [hg]
      exact hk
    · rename_i he
      obtain ⟨st',h1,h2,h3⟩:=hK k h
      refine ⟨st',h1,h2,fun k' r' hk=>?_⟩
      exact h3 k' r' hk
theorem UI {st:St} {o:Oper} {k:St→Option R} {r:R} (h:BP U c sg (dR c P sg) au st o k=some r):∃ st',(if tQ c au st o then eC c (j1 c P) uy au st o else none)=some st'∧k st'=some r∧∀ (k':St→Option R) r',k' st'=some r'→BP U c sg (dR c P sg) au st o k'=some r':=by
  unfold BP at h
  split at h
  case h_2=>simp at h
  rename_i hc
  obtain ⟨st',h1,h2,h3⟩:=R9 ah h
  refine ⟨st',by rw [if_pos hc]; exact h1,h2,fun k' r' hk=>?_⟩
  unfold BP
  rw [hc]
  exact h3 k' r' hk
end
end Go.Proofs.Ytockoilcnmljiaa
namespace Go.Proofs.Ytockoilcnmljiaa
section
variable {R:Type} {P:Program} {c:bU} (ah:dG c P) {sg:Sg} {au:FuncId}
include ah
theorem la {all:Array Oper} {k:St→Option R} {r:R}:∀ {os:List Oper} {st:St},mD U c sg (dR c P sg) au all os st k=some r→∃ st',rC c (j1 c P) uy au all os st=some st'∧k st'=some r∧∀ (k':St→Option R) r',k' st'=some r'→mD U c sg (dR c P sg) au all os st k'=some r'
  | [],st,h=>⟨st,rfl,h,fun _ _ hk=>hk⟩
  | o::os,st,h=>by
    have run:∀ st,BP U c sg (dR c P sg) au st o (fun st'=>mD U c sg (dR c P sg) au all os st' k)=some r→∃ st',(if tQ c au st o then (match eC c (j1 c P) uy au st o with | some st'=>rC c (j1 c P) uy au all os st' | none=>none) else none)=some st'∧k st'=some r∧∀ (k':St→Option R) r',k' st'=some r'→BP U c sg (dR c P sg) au st o (fun st'=>mD U c sg (dR c P sg) au all os st' k')=some r':=by
      intro st h
      obtain ⟨aC,h1,h2,h3⟩:=UI ah h
      obtain ⟨bK,k1,k2,k3⟩:=la h2
      refine ⟨bK,?_,k2,fun k' r' hk=>h3 _ _ (k3 k' r' hk)⟩
      split at h1
      case isFalse=>simp at h1
      rename_i hc
      rw [if_pos hc,h1]
      exact k1
    simp only [mD] at h ⊢
    simp only [rC,vd]
    split at h
    · rename_i hg
      rw [hg]
      exact run st h
    · rename_i j want hg
      rw [hg]
      simp only
      split at h
      · rename_i t ht
        rw [ht]
        simp only
        split at h
        · rename_i b hb
          rw [hb]
          simp only
          cases want with
          | true=>
            simp only at h
            rcases lS h with ⟨rfl,h1⟩ | ⟨rfl,h1⟩
            · rw [mV hb] at h1
              obtain ⟨aC,k1,k2,k3⟩:=run st h1
              refine ⟨aC,by simp only [beq_self_eq_true]; exact k1,k2,fun k' r' hk=>?_⟩
              simp only [br]
              rw [mV hb]
              exact k3 k' r' hk
            · rw [mV hb] at h1
              obtain ⟨aC,k1,k2,k3⟩:=la h1
              refine ⟨aC,by simpa using k1,k2,fun k' r' hk=>?_⟩
              simp only [br]
              rw [mV hb]
              exact k3 k' r' hk
          | false=>
            simp only at h
            rcases lS h with ⟨rfl,h1⟩ | ⟨rfl,h1⟩
            · rw [mV hb] at h1
              obtain ⟨aC,k1,k2,k3⟩:=la h1
              refine ⟨aC,by simpa using k1,k2,fun k' r' hk=>?_⟩
              simp only [br]
              rw [mV hb]
              exact k3 k' r' hk
            · rw [mV hb] at h1
              obtain ⟨aC,k1,k2,k3⟩:=run st h1
              refine ⟨aC,by simp only [beq_self_eq_true]; exact k1,k2,fun k' r' hk=>?_⟩
              simp only [br]
              rw [mV hb]
              exact k3 k' r' hk
        · rename_i hb
          rw [hb]
          exact la h
        · simp at h
      · rename_i ht
        rw [ht]
        exact la h
theorem EC {all:Array Oper} {os:List Oper} {st:St} {k k':St→Option R} {r:R} (hk:∀ st r,k st=some r→k' st=some r) (h:mD U c sg (dR c P sg) au all os st k=some r):mD U c sg (dR c P sg) au all os st k'=some r:=by
  obtain ⟨st',_,h2,h3⟩:=la ah h
  exact h3 k' r (hk _ _ h2)
theorem Az {J J':Nat→St→Option R} (hJ:∀ j h r,J j h=some r→J' j h=some r) {i:Nat} {st:St} {r:R} (h:jmp c J au i st=some r):jmp c J' au i st=some r:=by
  have _:=ah
  unfold jmp at h ⊢
  split at h
  · exact hJ _ _ _ h
  · simp at h
omit ah in
theorem qo {f f':St→Option R} {k k':Exit→St→Option R} (hf:∀ st r,f st=some r→f' st=some r) (hk:∀ x st r,k x st=some r→k' x st=some r):∀ x st r,oF f k x st=some r→oF f' k' x st=some r:=by
  intro x st r h
  cases x with
  | normal=>exact hf _ _ h
  | _=>exact hk _ _ _ h
omit ah in
theorem xZ {id:Nat} {k k':Exit→St→Option R} (hk:∀ x st r,k x st=some r→k' x st=some r):∀ x st r,sf id k x st=some r→sf id k' x st=some r:=by
  intro x st r h
  cases x with
  | exit rD=>
    simp only [sf] at h ⊢
    split at h
    · rename_i e; rw [if_pos e]; exact hk _ _ _ h
    · rename_i e; rw [if_neg e]; exact hk _ _ _ h
  | _=>exact hk _ _ _ h
theorem vG {J J':Nat→St→Option R} (hJ:∀ j h r,J j h=some r→J' j h=some r):∀ {code:Code} {i:Nat} {st:St} {k k':Exit→St→Option R} {r:R},(∀ x st r,k x st=some r→k' x st=some r)→cW U c sg (dR c P sg) J au code i st k=some r→cW U c sg (dR c P sg) J' au code i st k'=some r:=by
  intro code
  induction code with
  | skip=>intro i st k k' r hk h; exact hk _ _ _ h
  | exit id=>intro i st k k' r hk h; exact hk _ _ _ h
  | ret=>intro i st k k' r hk h; exact hk _ _ _ h
  | region id ops draw=>
    intro i st k k' r hk h
    cases draw with
    | false=>
      simp only [cW] at h ⊢
      exact EC ah (hk _) h
    | true=>
      simp only [cW] at h ⊢
      split at h
      · exact EC ah (hk _) h
      · simp at h
  | seq a b dW jt=>
    intro i st k k' r hk h
    simp only [cW] at h ⊢
    exact dW (qo (fun st r hx=>jt hk hx) hk) h
  | cond v a b dW jt=>
    intro i st k k' r hk h
    simp only [cW,GB] at h ⊢
    split at h
    · split at h
      · rcases lS h with ⟨rfl,h1⟩ | ⟨rfl,h1⟩
        · exact dW hk h1
        · exact jt hk h1
      · simp at h
    · split at h
      · rcases lS h with ⟨rfl,h1⟩ | ⟨rfl,h1⟩
        · exact dW hk h1
        · exact jt hk h1
      · simp at h
  | block id a dW=>
    intro i st k k' r hk h
    simp only [cW] at h ⊢
    exact dW (xZ hk) h
  | loop a dW=>intro i st k k' r hk h; exact Az ah hJ h
  | _=>intro i st k k' r hk h; simp [cW] at h
end
section
variable {R:Type} {pr:ez} {c:bU} {sg:Sg} {cv:Cv R} {J:Nat→St→Option R} {au:FuncId}
theorem qp:∀ {code:Code} {i:Nat} {k:Exit→St→Option R} {j:Nat} {t:St→Option R},cR pr c sg cv J au code i k j=some t→j∈j2 code i:=by
  intro code
  induction code with
  | seq a b dW jt=>
    intro i k j t h
    simp only [cR] at h
    rw [j2,List.mem_append]
    split at h
    · rename_i t' ht
      exact .inl (dW ht)
    · exact .inr (jt h)
  | cond v a b dW jt=>
    intro i k j t h
    simp only [cR] at h
    rw [j2,List.mem_append]
    split at h
    · rename_i t' ht
      exact .inl (dW ht)
    · exact .inr (jt h)
  | block id a dW=>intro i k j t h; simp only [cR] at h; rw [j2]; exact dW h
  | loop a dW=>
    intro i k j t h
    simp only [cR] at h
    rw [j2,List.mem_cons]
    split at h
    · rename_i hij; exact .inl hij.symm
    · exact .inr (dW h)
  | _=>intro i k j t h; simp [cR] at h
end
section
variable {R:Type} {pr:ez} {c:bU} {sg:Sg} {cv:Cv R} {J J':Nat→St→Option R} {au:FuncId}
theorem rb:∀ {code:Code} {i:Nat} {k k':Exit→St→Option R} {j:Nat},cR pr c sg cv J au code i k j=none→cR pr c sg cv J' au code i k' j=none:=by
  intro code
  induction code with
  | seq a b dW jt=>
    intro i k k' j h
    simp only [cR] at h ⊢
    split at h
    · simp at h
    · rename_i h1
      rw [dW h1]
      exact jt h
  | cond v a b dW jt=>
    intro i k k' j h
    simp only [cR] at h ⊢
    split at h
    · simp at h
    · rename_i h1
      rw [dW h1]
      exact jt h
  | block id a dW=>intro i k k' j h; simp only [cR] at h ⊢; exact dW h
  | loop a dW=>
    intro i k k' j h
    simp only [cR] at h ⊢
    split at h
    · simp at h
    · rename_i e
      rw [if_neg e]
      exact dW h
  | _=>intro i k k' j h; rfl
end
section
variable {P:Program} {c:bU} (ah:dG c P) {sg:Sg} {f:FuncId} {fn:Func} {sk:List D} {body:Code} (pO:fn.body=some body)
include ah
theorem LM {J J':Nat→St→Option Rz} (hJ:∀ j h r,J j h=some r→J' j h=some r):∀ {code:Code} {i:Nat} {k k':Exit→St→Option Rz} {j:Nat} {t:St→Option Rz},(∀ x st r,k x st=some r→k' x st=some r)→cR U c sg (dR c P sg) J f code i k j=some t→∃ t',cR U c sg (dR c P sg) J' f code i k' j=some t'∧∀ h r,t h=some r→t' h=some r:=by
  intro code
  induction code with
  | seq a b dW jt=>
    intro i k k' j t hk h
    simp only [cR] at h ⊢
    have It:=qo (f:=fun st'=>cW U c sg (dR c P sg) J f b i st' k) (f':=fun st'=>cW U c sg (dR c P sg) J' f b i st' k') (fun st r hx=>vG ah hJ hk hx) hk
    split at h
    · rename_i t1 h1
      obtain ⟨t',h2,h3⟩:=dW It h1
      rw [h2]
      simp only [Option.some.injEq] at h
      subst h
      exact ⟨t',rfl,h3⟩
    · rename_i h1
      rw [rb h1]
      exact jt hk h
  | cond v a b dW jt=>
    intro i k k' j t hk h
    simp only [cR] at h ⊢
    split at h
    · rename_i t1 h1
      obtain ⟨t',h2,h3⟩:=dW hk h1
      rw [h2]
      simp only [Option.some.injEq] at h
      subst h
      exact ⟨t',rfl,h3⟩
    · rename_i h1
      rw [rb h1]
      exact jt hk h
  | block id a dW=>
    intro i k k' j t hk h
    simp only [cR] at h ⊢
    exact dW (xZ hk) h
  | loop a dW=>
    intro i k k' j t hk h
    simp only [cR] at h ⊢
    have It:=qo (f:=jmp c J f i) (f':=jmp c J' f i) (fun st r hx=>Az ah hJ hx) hk
    split at h
    · rename_i e
      simp only [Option.some.injEq] at h
      subst h
      rw [if_pos e]
      exact ⟨_,rfl,fun hh r hr=>vG ah hJ It hr⟩
    · rename_i e
      rw [if_neg e]
      exact dW It h
  | _=>intro i k k' j t hk h; simp [cR] at h
theorem yU:∀ {n m:Nat},n≤m→∀ j h r,Jn c P sg f fn sk n j h=some r→Jn c P sg f fn sk m j h=some r
  | 0,_,_,j,h,r,hh=>by simp [Jn] at hh
  | n+1,0,hle,_,_,_,_=>absurd hle (by omega)
  | n+1,m+1,hle,j,h,r,hh=>by
    have ih:∀ j h r,Jn c P sg f fn sk n j h=some r→Jn c P sg f fn sk m j h=some r:=yU (by omega)
    simp only [Jn,ra] at hh ⊢
    split at hh
    case h_2=>simp at hh
    rename_i body hb
    split at hh
    case h_2=>simp at hh
    rename_i t ht
    obtain ⟨t',h1,h2⟩:=LM ah ih (fun _ _ _ h=>h) ht
    rw [h1]
    exact h2 _ _ hh
include pO
theorem PD:∀ {code:Code} {n i:Nat} {st:St} {k:(Nat→St→Option Rz)→Exit→St→Option Rz} {r:Rz},
    (∀ J J':Nat→St→Option Rz,(∀ j h r,J j h=some r→J' j h=some r)→∀ x st r,k J x st=some r→k J' x st=some r)→
    (j2 code i).Nodup→
    (∀ m j t,cR U c sg (dR c P sg) (Jn c P sg f fn sk m) f code i (k (Jn c P sg f fn sk m)) j=some t→cR U c sg (dR c P sg) (Jn c P sg f fn sk m) f body 0 (Aw c f fn sk) j=some t)→
    cW U c sg (dR c P sg) (Jn c P sg f fn sk n) f code i st (k (Jn c P sg f fn sk n))=some r→∃ x st',LA c P f code i st (x,st')∧k (Jn c P sg f fn sk n) x st'=some r:=by
  intro code
  have tr:∀ {ops:Array Oper} {l:List Nat} {st st':St},gz c (j1 c P) uy f ops l st=some st'→Ev fun k=>gz c (lJ c P k).1 (lJ c P k).2 f ops l st=some st':=
    fun h=>yP (fun f ds r hh=>Pz hh) (fun f ds n st r hh=>by simp [uy] at hh) h
  induction code with
  | skip=>intro n i st k r _ _ _ h; exact ⟨_,_,Ev.of fun _=>rfl,h⟩
  | exit id=>intro n i st k r _ _ _ h; exact ⟨_,_,Ev.of fun _=>rfl,h⟩
  | ret=>intro n i st k r _ _ _ h; exact ⟨_,_,Ev.of fun _=>rfl,h⟩
  | region id ops draw=>
    intro n i st k r _ _ _ h
    cases draw with
    | false=>
      simp only [cW] at h
      obtain ⟨st',h1,h2,_⟩:=la ah h
      rw [vw] at h1
      refine ⟨.normal,st',(tr h1).mono fun n hn=>?_,h2⟩
      simp only [ed,vw,hn]
    | true=>
      simp only [cW] at h
      split at h
      case h_2=>simp at h
      rename_i l hl
      obtain ⟨st',h1,h2,_⟩:=la ah h
      rw [yO] at h1
      refine ⟨.normal,st',(tr h1).mono fun n hn=>?_,h2⟩
      simp only [ed,hl,hn]
  | seq a b dW jt=>
    intro n i st k r hk hn hc h
    simp only [cW] at h
    rw [j2,List.nodup_append] at hn
    obtain ⟨x,aC,h1,h2⟩:=dW (k:=fun J=>oF (fun st'=>cW U c sg (dR c P sg) J f b i st' (k J)) (k J)) (fun J J' hJ=>qo (fun st r hx=>vG ah hJ (hk J J' hJ) hx) (hk J J' hJ)) hn.1 (fun m j t ht=>hc m j t (by simp only [cR]; rw [ht])) h
    cases x with
    | normal=>
      simp only [oF] at h2
      obtain ⟨y,bK,h3,h4⟩:=jt hk hn.2.1 (fun m j t ht=>hc m j t (by
        simp only [cR]
        split
        · rename_i t' mP
          exact absurd rfl (hn.2.2 j (qp mP) j (qp ht))
        · exact ht)) h2
      exact ⟨y,bK,(Ev.and h1 h3).mono fun n hn=>by simp only [ed]; rw [hn.1]; exact hn.2,h4⟩
    | _=>exact ⟨_,aC,Ev.mono h1 fun n hn=>by simp only [ed]; rw [hn],h2⟩
  | cond v a b dW jt=>
    intro n i st k r hk hn hc h
    simp only [cW,GB] at h
    rw [j2,List.nodup_append] at hn
    have fin:∀ {t:Bool},bN c st 0 v=.bool t→(t=true→cW U c sg (dR c P sg) (Jn c P sg f fn sk n) f a i st (k (Jn c P sg f fn sk n))=some r)→(t=false→cW U c sg (dR c P sg) (Jn c P sg f fn sk n) f b i st (k (Jn c P sg f fn sk n))=some r)→∃ x st',LA c P f (.cond v a b) i st (x,st')∧k (Jn c P sg f fn sk n) x st'=some r:=by
      intro t ht h1 h2
      cases t with
      | true=>
        obtain ⟨x,st',h3,h4⟩:=dW hk hn.1 (fun m j t ht=>hc m j t (by simp only [cR]; rw [ht])) (h1 rfl)
        exact ⟨x,st',Ev.mono h3 fun n hn=>by simp only [ed,ht,if_true]; exact hn,h4⟩
      | false=>
        obtain ⟨x,st',h3,h4⟩:=jt hk hn.2.1 (fun m j t ht=>hc m j t (by
          simp only [cR]
          split
          · rename_i t' mP
            exact absurd rfl (hn.2.2 j (qp mP) j (qp ht))
          · exact ht)) (h2 rfl)
        exact ⟨x,st',Ev.mono h3 fun n hn=>by simp only [ed,ht,Bool.false_eq_true,if_false]; exact hn,h4⟩
    split at h
    · rename_i t
      split at h
      · rename_i b' hb
        refine fin (t:=b') hb (fun e=>?_) (fun e=>?_)
        · subst e
          rcases lS h with ⟨_,h1⟩ | ⟨e2,_⟩
          · rw [mV hb] at h1; exact h1
          · simp at e2
        · subst e
          rcases lS h with ⟨e2,_⟩ | ⟨_,h1⟩
          · simp at e2
          · rw [mV hb] at h1; exact h1
      · simp at h
    · split at h
      · rename_i hv
        refine fin hv (fun e=>?_) (fun e=>?_)
        · subst e; exact h
        · subst e; exact h
      · simp at h
  | block id a dW=>
    intro n i st k r hk hn hc h
    simp only [cW] at h
    obtain ⟨x,aC,h1,h2⟩:=dW (k:=fun J=>sf id (k J)) (fun J J' hJ=>xZ (hk J J' hJ)) hn (fun m j t ht=>hc m j t (by simp only [cR]; exact ht)) h
    cases x with
    | exit rD=>
      simp only [sf] at h2
      by_cases he:rD=id
      · rw [if_pos he] at h2
        exact ⟨.normal,aC,Ev.mono h1 fun n hn=>by simp only [ed]; rw [hn]; simp [he],h2⟩
      · rw [if_neg he] at h2
        exact ⟨.exit rD,aC,Ev.mono h1 fun n hn=>by simp only [ed]; rw [hn]; simp [he],h2⟩
    | _=>exact ⟨_,aC,Ev.mono h1 fun n hn=>by simp only [ed]; rw [hn],h2⟩
  | loop a dW=>
    intro n i st k r hk hn hc h
    rw [j2,List.nodup_cons] at hn
    have key:∀ (n:Nat) (st:St),jmp c (Jn c P sg f fn sk n) f i st=some r→∃ x st',LB c P f a i st (x,st')∧k (Jn c P sg f fn sk n) x st'=some r:=by
      intro n
      induction n with
      | zero=>
        intro st h
        unfold jmp at h
        split at h
        · simp [Jn] at h
        · simp at h
      | succ m ih=>
        intro st h
        unfold jmp at h
        split at h
        case h_2=>simp at h
        rename_i hd Bs
        simp only [Jn,ra] at h
        rw [pO] at h
        simp only at h
        have ht:=hc m i _ (by simp only [cR,if_true]; rfl)
        rw [ht] at h
        simp only at h
        obtain ⟨x,aC,h1,h2⟩:=dW (k:=fun J=>oF (jmp c J f i) (k J)) (fun J J' hJ=>qo (fun st r hx=>Az ah hJ hx) (hk J J' hJ)) hn.2 (fun m j t ht=>hc m j t (by
              simp only [cR]
              have cA:i≠j:=fun e=>hn.1 (by rw [e]; rw [e] at ht; exact qp ht)
              rw [if_neg cA]
              exact ht)) h
        cases x with
        | normal=>
          obtain ⟨y,bK,⟨q,h3⟩,h4⟩:=ih aC h2
          refine ⟨y,bK,⟨q+1,(Ev.and h1 h3).mono fun k hk m hm=>?_⟩,hk _ _ (yU ah (Nat.le_succ m)) _ _ _ h4⟩
          obtain ⟨m,rfl⟩:∃ m',m=m'+1:=⟨m - 1,by omega⟩
          simp only [qW,Bs,hk.1]
          exact hk.2 m (by omega)
        | _=>
          refine ⟨_,aC,⟨1,Ev.mono h1 fun k hk m hm=>?_⟩,hk _ _ (yU ah (Nat.le_succ m)) _ _ _ h2⟩
          obtain ⟨m,rfl⟩:∃ m',m=m'+1:=⟨m - 1,by omega⟩
          simp only [qW,Bs,hk]
    simp only [cW] at h
    obtain ⟨x,st',h1,h2⟩:=key n st h
    exact ⟨x,st',h1.code,h2⟩
  | _=>intro n i st k r _ _ _ h; simp [cW] at h
end
structure Told (c:bU) (P:Program) (f:FuncId) (fn:Func):Prop where
  ext:c.ext f=none
  func:P.funcs[f]?=some fn
  ids:(match fn.body with | some b=>decide (j2 b 0).Nodup | none=>false)=true
section
variable {P:Program} {c:bU} (ah:dG c P) {sg:Sg} {f:FuncId} {fn:Func} {sk:List D}
include ah
theorem W.go {j j':Nat} {h h':St} {r:Rz} (hw:W c P sg f fn sk j' h' r) (ht:∀ J:Nat→St→Option Rz,J j' h'=some r→ra U c sg (dR c P sg) J f fn sk j h=some r):W c P sg f fn sk j h r:=by
  have _:=ah
  obtain ⟨n,hn⟩:=hw
  exact ⟨n+1,ht _ hn⟩
theorem W.fin {j:Nat} {h:St} {r:Rz} (ht:∀ J:Nat→St→Option Rz,ra U c sg (dR c P sg) J f fn sk j h=some r):W c P sg f fn sk j h r:=by
  have _:=ah
  exact ⟨1,ht _⟩
theorem x4 (ok:Told c P f fn) {args:List D} {r:Rz} {n:Nat} (h:xX U c sg (dR c P sg) (Jn c P sg f fn (args.map oG) n) f fn args=some r):Comes c P f args r:=by
  unfold xX at h
  split at h
  case h_2=>simp at h
  rename_i body hb
  have UJ:=ok.ids
  rw [hb] at UJ
  obtain ⟨x,st,h1,h2⟩:=PD ah hb (k:=fun _=>Aw c f fn (args.map oG)) (fun J J' _ x st r h=>h) (of_decide_eq_true UJ) (fun m j t ht=>ht) h
  obtain ⟨k0,h1⟩:=h1
  refine ⟨k0+1,fun k hk=>?_⟩
  obtain ⟨k,rfl⟩:∃ m,k=m+1:=⟨k - 1,by omega⟩
  unfold Aw at h2
  obtain ⟨r',h2,h5⟩:∃ r',At c fn (args.map oG) x st=some r'∧L8 (c.gone f) (some r')=some r:=by
    cases hf:At c fn (args.map oG) x st with
    | none=>rw [hf] at h2; simp [L8] at h2
    | some r'=>rw [hf] at h2; exact ⟨r',rfl,h2⟩
  show AZ c P (lJ c P k).1 (lJ c P k).2 k f args=some r
  unfold AZ
  rw [ok.ext]
  simp only
  rw [← h5]
  congr 1
  unfold Gu
  rw [ok.ext,ok.func]
  simp only
  rw [hb]
  simp only
  rw [h1 k (by omega)]
  simp only
  rw [R7] at h2
  unfold At at h2
  obtain ⟨h3,h4⟩:=Ni h2
  rw [if_pos h3]
  exact h4
theorem Comes.go (ok:Told c P f fn) {args:List D} {j:Nat} {h:St} {r:Rz} (hw:W c P sg f fn (args.map oG) j h r) (ht:∀ J:Nat→St→Option Rz,J j h=some r→xX U c sg (dR c P sg) J f fn args=some r):Comes c P f args r:=by
  obtain ⟨n,hn⟩:=hw
  exact x4 ah ok (ht _ hn)
theorem Comes.fin (ok:Told c P f fn) {args:List D} {r:Rz} (ht:∀ J:Nat→St→Option Rz,xX U c sg (dR c P sg) J f fn args=some r):Comes c P f args r:=
  x4 ah ok (sg:=sg) (n:=0) (ht _)
end
end Go.Proofs.Ytockoilcnmljiaa
namespace Go.Proofs.Ytockoilcnmljiaa
section
variable {P:Program} {c:bU} (ah:dG c P) {sg:Sg} {f:FuncId} {r:Rz} {J:Nat→St→Option Rz} {J':Nat→Nat→St→Option Rz} (hJ:∀ j h,J j h=some r→Ev fun m=>J' m j h=some r)
include ah hJ
theorem vH:∀ {code:Code} {i:Nat} {st:St} {k:Exit→St→Option Rz} {k':Nat→Exit→St→Option Rz},(∀ x st,k x st=some r→Ev fun m=>k' m x st=some r)→cW U c sg (dR c P sg) J f code i st k=some r→Ev fun m=>cW U c sg (dR c P sg) (J' m) f code i st (k' m)=some r:=by
  intro code
  induction code with
  | skip=>intro i st k k' hk h; exact hk _ _ h
  | exit id=>intro i st k k' hk h; exact hk _ _ h
  | ret=>intro i st k k' hk h; exact hk _ _ h
  | region id ops draw=>
    intro i st k k' hk h
    cases draw with
    | false=>
      simp only [cW] at h ⊢
      obtain ⟨st',_,h2,h3⟩:=la ah h
      exact (hk _ _ h2).mono fun m hm=>h3 _ _ hm
    | true=>
      simp only [cW] at h ⊢
      split at h
      · obtain ⟨st',_,h2,h3⟩:=la ah h
        exact (hk _ _ h2).mono fun m hm=>h3 _ _ hm
      · simp at h
  | seq a b dW jt=>
    intro i st k k' hk h
    simp only [cW] at h ⊢
    refine dW (k':=fun m=>oF (fun st'=>cW U c sg (dR c P sg) (J' m) f b i st' (k' m)) (k' m)) (fun x st hx=>?_) h
    cases x with
    | normal=>exact jt hk hx
    | _=>exact hk _ _ hx
  | cond v a b dW jt=>
    intro i st k k' hk h
    simp only [cW,GB] at h ⊢
    split at h
    · split at h
      · rename_i hv
        rcases lS h with ⟨rfl,h1⟩ | ⟨rfl,h1⟩
        · exact dW hk h1
        · exact jt hk h1
      · simp at h
    · split at h
      · rcases lS h with ⟨rfl,h1⟩ | ⟨rfl,h1⟩
        · exact dW hk h1
        · exact jt hk h1
      · simp at h
  | block id a dW=>
    intro i st k k' hk h
    simp only [cW] at h ⊢
    refine dW (k':=fun m=>sf id (k' m)) (fun x st hx=>?_) h
    cases x with
    | exit rD=>
      simp only [sf] at hx ⊢
      split at hx
      · rename_i e; simp only [e,if_true]; exact hk _ _ hx
      · rename_i e; simp only [if_neg e]; exact hk _ _ hx
    | _=>exact hk _ _ hx
  | loop a dW=>
    intro i st k k' hk h
    simp only [cW,jmp] at h ⊢
    split at h
    · exact hJ _ _ h
    · simp at h
  | _=>intro i st k k' hk h; simp [cW] at h
theorem LN:∀ {code:Code} {i:Nat} {k:Exit→St→Option Rz} {k':Nat→Exit→St→Option Rz} {j:Nat} {t:St→Option Rz} {h:St},(∀ x st,k x st=some r→Ev fun m=>k' m x st=some r)→cR U c sg (dR c P sg) J f code i k j=some t→t h=some r→Ev fun m=>∃ t',cR U c sg (dR c P sg) (J' m) f code i (k' m) j=some t'∧t' h=some r:=by
  intro code
  induction code with
  | seq a b dW jt=>
    intro i k k' j t h hk ht hr
    simp only [cR] at ht ⊢
    split at ht
    · rename_i t1 h1
      simp only [Option.some.injEq] at ht
      subst ht
      refine (dW (k':=fun m=>oF (fun st'=>cW U c sg (dR c P sg) (J' m) f b i st' (k' m)) (k' m)) (fun x st hx=>?_) h1 hr).mono fun m hm=>?_
      · cases x with
        | normal=>exact vH ah hJ hk hx
        | _=>exact hk _ _ hx
      · obtain ⟨t',h2,h3⟩:=hm
        exact ⟨t',by rw [h2],h3⟩
    · rename_i h1
      refine (jt hk ht hr).mono fun m hm=>?_
      rw [rb h1]
      exact hm
  | cond v a b dW jt=>
    intro i k k' j t h hk ht hr
    simp only [cR] at ht ⊢
    split at ht
    · rename_i t1 h1
      simp only [Option.some.injEq] at ht
      subst ht
      refine (dW hk h1 hr).mono fun m hm=>?_
      obtain ⟨t',h2,h3⟩:=hm
      exact ⟨t',by rw [h2],h3⟩
    · rename_i h1
      refine (jt hk ht hr).mono fun m hm=>?_
      rw [rb h1]
      exact hm
  | block id a dW=>
    intro i k k' j t h hk ht hr
    simp only [cR] at ht ⊢
    refine dW (k':=fun m=>sf id (k' m)) (fun x st hx=>?_) ht hr
    cases x with
    | exit rD=>
      simp only [sf] at hx ⊢
      split at hx
      · rename_i e; simp only [e,if_true]; exact hk _ _ hx
      · rename_i e; simp only [if_neg e]; exact hk _ _ hx
    | _=>exact hk _ _ hx
  | loop a dW=>
    intro i k k' j t h hk ht hr
    simp only [cR] at ht ⊢
    have It:∀ x st,oF (jmp c J f i) k x st=some r→Ev fun m=>oF (jmp c (J' m) f i) (k' m) x st=some r:=by
      intro x st hx
      cases x with
      | normal=>
        simp only [oF,jmp] at hx ⊢
        split at hx
        · exact hJ _ _ hx
        · simp at hx
      | _=>exact hk _ _ hx
    split at ht
    · rename_i e
      simp only [Option.some.injEq] at ht
      subst ht
      refine (vH ah hJ It hr).mono fun m hm=>?_
      rw [if_pos e]
      exact ⟨_,rfl,hm⟩
    · rename_i e
      simp only [if_neg e]
      exact dW It ht hr
  | _=>intro i k k' j t h hk ht hr; simp [cR] at ht
end
section
variable {P:Program} {c:bU} (ah:dG c P) {sg:Sg} {f:FuncId} {fn:Func} {sk:List D} {r:Rz}
include ah
theorem W.ev {j:Nat} {h:St} (hw:W c P sg f fn sk j h r):Ev fun m=>Jn c P sg f fn sk m j h=some r:=by
  obtain ⟨n,hn⟩:=hw
  exact ⟨n,fun m hm=>yU ah hm _ _ _ hn⟩
theorem W.step {j:Nat} {h:St} (ht:∀ J:Nat→St→Option Rz,(∀ j' h',W c P sg f fn sk j' h' r→J j' h'=some r)→ra U c sg (dR c P sg) J f fn sk j h=some r):W c P sg f fn sk j h r:=by
  classical
  have h1:=ht (fun j' h'=>if W c P sg f fn sk j' h' r then some r else none) (fun j' h' hw=>if_pos hw)
  unfold ra at h1
  split at h1
  case h_2=>simp at h1
  rename_i body hb
  split at h1
  case h_2=>simp at h1
  rename_i t ht
  obtain ⟨n,hn⟩:=LN ah (J':=Jn c P sg f fn sk) (k':=fun _=>Aw c f fn sk) (fun j' h' hh=>by
    split at hh
    · rename_i hw; exact hw.ev ah
    · simp at hh) (fun x st hx=>⟨0,fun _ _=>hx⟩) ht h1
  obtain ⟨t',h2,h3⟩:=hn n (Nat.le_refl _)
  refine ⟨n+1,?_⟩
  simp only [Jn,ra]
  rw [hb]
  simp only
  rw [h2]
  exact h3
theorem Comes.step (ok:Told c P f fn) {args:List D} (ht:∀ J:Nat→St→Option Rz,(∀ j' h',W c P sg f fn (args.map oG) j' h' r→J j' h'=some r)→xX U c sg (dR c P sg) J f fn args=some r):Comes c P f args r:=by
  classical
  have h1:=ht (fun j' h'=>if W c P sg f fn (args.map oG) j' h' r then some r else none) (fun j' h' hw=>if_pos hw)
  unfold xX at h1
  split at h1
  case h_2=>simp at h1
  rename_i body hb
  obtain ⟨n,hn⟩:=vH ah (J':=Jn c P sg f fn (args.map oG)) (k':=fun _=>Aw c f fn (args.map oG)) (fun j' h' hh=>by
    split at hh
    · rename_i hw; exact hw.ev ah
    · simp at hh) (fun x st hx=>⟨0,fun _ _=>hx⟩) h1
  refine x4 ah ok (sg:=sg) (n:=n) ?_
  unfold xX
  rw [hb]
  exact hn n (Nat.le_refl _)
end
end Go.Proofs.Ytockoilcnmljiaa
namespace Go.Proofs.Ytockoilcnmljiaa
open Go.Shelf
def Rc:List (Nat × TI):=[
  (2,⟨.int .i64,1,8,[.int .i64 0]⟩),
  (3,⟨.int .i64,1,8,[.int .i64 0]⟩),
  (4,⟨.bool,1,1,[.bool false]⟩),
  (5,⟨.int .u8,1,1,[.int .u8 0]⟩),
  (6,⟨.int .u8,1,1,[.int .u8 0]⟩),
  (7,⟨.struct [0,1,2,3] [1,1,1,1],4,24,[.int .i64 0,.int .i64 0,.bool false,.int .u8 0]⟩),
  (8,⟨.struct [0,1,2,3] [1,1,1,1],4,24,[.int .i64 0,.int .i64 0,.bool false,.int .u8 0]⟩),
  (9,⟨.str,1,16,[.str ⟨#[]⟩]⟩),
  (10,⟨.str,1,16,[.str ⟨#[]⟩]⟩),
  (11,⟨.str,1,16,[.str ⟨#[]⟩]⟩),
  (12,⟨.int .u64,1,8,[.int .u64 0]⟩),
  (13,⟨.struct [0,1] [1,1],2,24,[.str ⟨#[]⟩,.int .u64 0]⟩),
  (14,⟨.struct [0,1] [1,1],2,24,[.str ⟨#[]⟩,.int .u64 0]⟩),
  (15,⟨.ptr 134,1,8,[.undef]⟩),
  (16,⟨.ptr 137,1,8,[.undef]⟩),
  (17,⟨.ptr 146,1,8,[.undef]⟩),
  (18,⟨.struct [0] [1],1,8,[.undef]⟩),
  (19,⟨.struct [0] [1],1,8,[.undef]⟩),
  (21,⟨.int .i32,1,4,[.int .i32 0]⟩),
  (22,⟨.slice 3,1,24,[.nil 1]⟩),
  (23,⟨.slice 22,1,24,[.nil 1]⟩),
  (24,⟨.struct [0,1,2,3,4,5] [1,1,1,1,1,1],6,64,[.nil 1,.nil 1,.bool false,.bool false,.bool false,.int .i64 0]⟩),
  (25,⟨.struct [0,1,2,3,4,5] [1,1,1,1,1,1],6,64,[.nil 1,.nil 1,.bool false,.bool false,.bool false,.int .i64 0]⟩),
  (26,⟨.slice 5,1,24,[.nil 1]⟩),
  (27,⟨.struct [0,1] [1,1],2,48,[.nil 1,.nil 1]⟩),
  (28,⟨.struct [0,1] [1,1],2,48,[.nil 1,.nil 1]⟩),
  (29,⟨.slice 4,1,24,[.nil 1]⟩),
  (30,⟨.struct [0,1,2,3,4,10,12,13,14,15] [1,1,1,1,6,2,1,1,1,1],16,248,[.int .i64 0,.bool false,.bool false,.nil 1,.nil 1,.nil 1,.bool false,.bool false,.bool false,.int .i64 0,.nil 1,.nil 1,.nil 1,.nil 1,.nil 1,.nil 1]⟩),
  (31,⟨.struct [0,1,2,3,4,10,12,13,14,15] [1,1,1,1,6,2,1,1,1,1],16,248,[.int .i64 0,.bool false,.bool false,.nil 1,.nil 1,.nil 1,.bool false,.bool false,.bool false,.int .i64 0,.nil 1,.nil 1,.nil 1,.nil 1,.nil 1,.nil 1]⟩),
  (34,⟨.struct [0,1,2,3,4,5] [1,1,1,1,1,1],6,64,[.nil 1,.nil 1,.bool false,.bool false,.bool false,.int .i64 0]⟩),
  (35,⟨.struct [0,1] [1,1],2,48,[.nil 1,.nil 1]⟩),
  (36,⟨.struct [0,1,2,3,4,10,12,13,14,15] [1,1,1,1,6,2,1,1,1,1],16,248,[.int .i64 0,.bool false,.bool false,.nil 1,.nil 1,.nil 1,.bool false,.bool false,.bool false,.int .i64 0,.nil 1,.nil 1,.nil 1,.nil 1,.nil 1,.nil 1]⟩),
  (37,⟨.struct [0,1,2,3,4,10,12,13,14,15] [1,1,1,1,6,2,1,1,1,1],16,248,[.int .i64 0,.bool false,.bool false,.nil 1,.nil 1,.nil 1,.bool false,.bool false,.bool false,.int .i64 0,.nil 1,.nil 1,.nil 1,.nil 1,.nil 1,.nil 1]⟩),
  (43,⟨.slice 37,1,24,[.nil 16]⟩),
  (44,⟨.slice 95,1,24,[.nil 3]⟩),
  (45,⟨.slice 98,1,24,[.nil 2]⟩),
  (46,⟨.struct [0,1,2,3,4] [1,1,1,1,1],5,104,[.nil 16,.nil 3,.nil 2,.nil 1,.int .i64 0]⟩),
  (47,⟨.struct [0,1,2,3,4] [1,1,1,1,1],5,104,[.nil 16,.nil 3,.nil 2,.nil 1,.int .i64 0]⟩),
  (94,⟨.struct [0,1,2] [1,1,1],3,40,[.int .i64 0,.int .i64 0,.nil 1]⟩),
  (95,⟨.struct [0,1,2] [1,1,1],3,40,[.int .i64 0,.int .i64 0,.nil 1]⟩),
  (97,⟨.struct [0,1] [1,1],2,16,[.int .i64 0,.int .i64 0]⟩),
  (98,⟨.struct [0,1] [1,1],2,16,[.int .i64 0,.int .i64 0]⟩),
  (107,⟨.int .u64,1,8,[.int .u64 0]⟩),
  (114,⟨.ptr 26,1,8,[.undef]⟩),
  (116,⟨.ptr 118,1,8,[.undef]⟩),
  (117,⟨.struct [0,1,2] [1,1,1],3,40,[.nil 1,.int .i64 0,.bool false]⟩),
  (118,⟨.struct [0,1,2] [1,1,1],3,40,[.nil 1,.int .i64 0,.bool false]⟩),
  (121,⟨.slice 26,1,24,[.nil 1]⟩),
  (125,⟨.ptr 127,1,8,[.undef]⟩),
  (126,⟨.struct [0,1,2] [1,1,1],3,40,[.nil 1,.int .i64 0,.bool false]⟩),
  (127,⟨.struct [0,1,2] [1,1,1],3,40,[.nil 1,.int .i64 0,.bool false]⟩),
  (133,⟨.struct [0,1,2,3] [1,1,1,1],4,40,[.undef,.undef,.undef,.str ⟨#[]⟩]⟩),
  (134,⟨.struct [0,1,2,3] [1,1,1,1],4,40,[.undef,.undef,.undef,.str ⟨#[]⟩]⟩),
  (138,⟨.int .u32,1,4,[.int .u32 0]⟩),
  (139,⟨.int .u8,1,1,[.int .u8 0]⟩),
  (140,⟨.int .u8,1,1,[.int .u8 0]⟩),
  (142,⟨.ptr 5,1,8,[.undef]⟩),
  (143,⟨.int .i32,1,4,[.int .i32 0]⟩),
  (144,⟨.int .i32,1,4,[.int .i32 0]⟩),
  (145,⟨.struct [0,1,2,3,4,5,6,7,8,9,10] [1,1,1,1,1,1,1,1,1,1,1],11,48,[.int .u64 0,.int .u64 0,.int .u32 0,.int .u8 0,.int .u8 0,.int .u8 0,.int .u8 0,.undef,.undef,.int .i32 0,.int .i32 0]⟩),
  (146,⟨.struct [0,1,2,3,4,5,6,7,8,9,10] [1,1,1,1,1,1,1,1,1,1,1],11,48,[.int .u64 0,.int .u64 0,.int .u32 0,.int .u8 0,.int .u8 0,.int .u8 0,.int .u8 0,.undef,.undef,.int .i32 0,.int .i32 0]⟩)]
def UK:List (Nat × List Bool):=[(19,[true,false]),(51,[true,false]),(52,[true,false]),(53,[true,false]),(54,[true,false]),(88,[true,false]),(89,[true,false]),(90,[true,false]),(123,[true]),(124,[true]),(133,[true]),(134,[true]),(148,[true]),(149,[true]),(150,[true]),(151,[true]),(152,[true])]
def Sa:List (Nat × List Bool):=[]
def UL:List Nat:=[]
def PE:List (Nat × Nat):=[]
def WE:List (Nat × Nat × List Nat × List Nat):=[(16,(0,([0,1,2],[0,1]))),(17,(0,([0,1,4],[0,1]))),(25,(0,([0,1,5],[27,28]))),(27,(0,([0,3,4],[22]))),(30,(0,([0,3,4],[22]))),(31,(0,([0,3,4],[23]))),(33,(0,([0,1,5],[26,27]))),(36,(0,([0,1,5],[26,27]))),(37,(0,([0,1,5],[27,28]))),(38,(0,([1,3],[1,99]))),(42,(0,([1,85],[1,164]))),(42,(2,([1,139,140,141],[1,164]))),(48,(0,([0,1,5],[27,28]))),(49,(0,([0,1,5],[27,28]))),(50,(0,([0,1,5],[27,28]))),(51,(0,([0,1,5],[143,144]))),(52,(0,([0,1,5],[34,35]))),(53,(0,([0,1,5],[27,28]))),(54,(0,([0,1,5],[19,20]))),(55,(0,([0,1,5],[175,176]))),(56,(0,([0,1,5],[40,41]))),(57,(0,([0,1,5],[31,32]))),(58,(0,([0,1,5],[21,22]))),(61,(0,([0,3,4],[22]))),(63,(0,([0,1,5],[26,27]))),(65,(0,([0,3],[19]))),(66,(0,([1,3],[1,47]))),(67,(0,([1,3],[1,81]))),(69,(0,([2,3,5],[2,3,68,69]))),(70,(0,([0,1,5],[18,19]))),(88,(0,([0,1,5],[19,20]))),(89,(0,([0,1,5],[20,21]))),(90,(0,([0,1,5],[21,22]))),(91,(0,([0,1,5],[21,22]))),(92,(0,([0,1,5],[22,23]))),(93,(0,([0,1,5],[23,24]))),(94,(0,([0,3],[32]))),(95,(0,([0,3],[29]))),(98,(0,([0,1,5],[32,33]))),(102,(0,([0,5,6,7],[26]))),(105,(0,([0,5,6,7],[29]))),(107,(0,([0,1,12,13],[26,27]))),(108,(0,([1,2,15,16,17],[32,33,34]))),(109,(0,([0,1,7,8],[19,20]))),(111,(0,([1,6],[29,30]))),(113,(0,([0,2,4,5,6],[2,11,5,65]))),(114,(0,([0,1,7,8],[19,20]))),(115,(0,([0,1,7,8],[19,20]))),(118,(0,([1,3,4],[1,85]))),(118,(2,([1,3,5],[1,85]))),(118,(4,([1,3,5,6],[1,85]))),(121,(0,([0,3,9,10,11],[36]))),(121,(2,([6,25,26,27],[36]))),(123,(0,([0,3,4,5],[28]))),(125,(0,([0,2,4,5,16],[2,11,5,64]))),(127,(0,([0,3],[25]))),(130,(0,([1,3,13,14,15],[1,41]))),(132,(0,([0,1,7,8],[55,56]))),(133,(0,([0,3,4,5],[28]))),(136,(0,([3,7,8,9],[19]))),(138,(0,([0,1,7,8,9],[57,58]))),(139,(0,([0,3],[27])))]
def Sb:List (Nat × List (Nat × Nat)):=[(43,[(2,3),(3,4)]),(45,[(3,4),(4,5)]),(110,[(4,2),(8,2)])]
def Sc:List (Nat × List (Nat × List Nat)):=[(43,[(5,[2,3]),(6,[2,3]),(5,[3,2]),(6,[3,2])]),(45,[(7,[3,4]),(8,[3,4]),(7,[4,3]),(8,[4,3])]),(110,[(6,[1]),(10,[1]),(2,[1])])]
def WG:List (Nat × RS × List RS):=[
  (0,(.aQ [],[])),
  (1,(.aQ [],[])),
  (2,(.aQ [],[])),
  (3,(.bool,[.undef,.undef])),
  (4,(.bool,[.undef,.undef,.undef])),
  (5,(.bool,[.undef,.undef])),
  (6,(.bool,[])),
  (7,(.int .i64,[.undef,.undef])),
  (8,(.bool,[.undef,.undef])),
  (9,(.ty .node,[.undef])),
  (10,(.bool,[.undef,.undef])),
  (11,(.bool,[.undef,.undef])),
  (12,(.bool,[.undef,.undef,.undef])),
  (13,(.bool,[.undef,.undef,.undef])),
  (14,(.int .i64,[.undef,.undef])),
  (15,(.int .i64,[.undef,.undef])),
  (16,(.ty .world,[])),
  (17,(.ty .world,[])),
  (18,(.bool,[.undef,.undef])),
  (19,(.int .i64,[.agg [.sl 16,.sl 3,.sl 2,.sl 1,.int .i64],.undef])),
  (20,(.int .i64,[.undef,.undef])),
  (21,(.int .i64,[.undef,.undef])),
  (22,(.int .i64,[.undef,.undef])),
  (23,(.int .i64,[.undef,.undef])),
  (24,(.int .i64,[.undef,.undef])),
  (25,(.int .i64,[.undef,.undef])),
  (26,(.bool,[.undef,.undef])),
  (27,(.sl 1,[.undef])),
  (28,(.agg [.sl 1,.sl 1,.bool,.bool,.bool,.int .i64],[.undef])),
  (29,(.agg [.sl 1,.sl 1],[.undef])),
  (30,(.sl 1,[.undef])),
  (31,(.sl 1,[.undef])),
  (32,(.bool,[.undef,.undef])),
  (33,(.bool,[.undef,.undef])),
  (34,(.bool,[.undef,.undef])),
  (35,(.bool,[.undef,.undef])),
  (36,(.bool,[.undef,.undef])),
  (37,(.bool,[.undef,.undef])),
  (38,(.bool,[.undef])),
  (39,(.int .i64,[.undef])),
  (40,(.bool,[.undef,.undef])),
  (41,(.int .i64,[.undef,.undef])),
  (42,(.bool,[.undef])),
  (43,(.int .i64,[.undef,.undef])),
  (44,(.int .i64,[.undef,.undef])),
  (45,(.int .i64,[.undef,.undef,.undef])),
  (46,(.ty .node,[.undef])),
  (47,(.ty .node,[.undef])),
  (48,(.bool,[.undef,.undef])),
  (49,(.bool,[.undef,.undef])),
  (50,(.bool,[.undef,.undef])),
  (51,(.int .i64,[.sl 16,.undef])),
  (52,(.int .i64,[.sl 3,.undef])),
  (53,(.int .i64,[.sl 2,.undef])),
  (54,(.int .i64,[.sl 1,.undef])),
  (55,(.int .i64,[.undef,.undef])),
  (56,(.int .i64,[.undef,.undef])),
  (57,(.int .i64,[.undef,.undef])),
  (58,(.int .i64,[.undef,.undef])),
  (59,(.int .i64,[.undef,.undef])),
  (60,(.int .i64,[.undef])),
  (61,(.sl 1,[.undef])),
  (62,(.int .i64,[.undef])),
  (63,(.bool,[.undef,.undef])),
  (64,(.bool,[.undef,.undef,.undef])),
  (65,(.bool,[.undef])),
  (66,(.bool,[.undef])),
  (67,(.bool,[.undef])),
  (68,(.aQ [.ty .mt,.int .i64,.bool],[.undef])),
  (69,(.bool,[.undef,.undef])),
  (70,(.bool,[.undef,.undef])),
  (71,(.int .i64,[.undef,.undef])),
  (72,(.bool,[.undef])),
  (73,(.bool,[.undef])),
  (74,(.bool,[.undef])),
  (75,(.bool,[.undef])),
  (76,(.aQ [.ty .mt,.int .i64,.bool],[.undef])),
  (77,(.bool,[.undef,.undef])),
  (78,(.bool,[.undef])),
  (79,(.bool,[.undef,.undef])),
  (80,(.ty .mt,[.undef])),
  (81,(.sl 1,[])),
  (82,(.ty .dr,[.undef,.undef])),
  (83,(.ty .mt,[.undef])),
  (84,(.sl 1,[])),
  (85,(.ty .dr,[.undef,.undef])),
  (86,(.bool,[.undef,.undef])),
  (87,(.bool,[.undef,.undef])),
  (88,(.int .i64,[.sl 1,.undef])),
  (89,(.int .i64,[.sl 1,.undef])),
  (90,(.int .i64,[.sl 1,.undef])),
  (91,(.int .i64,[.undef,.undef])),
  (92,(.int .i64,[.undef,.undef])),
  (93,(.int .i64,[.undef,.undef])),
  (94,(.bool,[.undef])),
  (95,(.bool,[.undef])),
  (96,(.int .i64,[.undef])),
  (97,(.aQ [.ty .mt,.int .i64,.bool],[.undef])),
  (98,(.bool,[.undef,.undef])),
  (99,(.bool,[.undef,.undef,.undef])),
  (100,(.bool,[.undef,.undef])),
  (101,(.bool,[.undef])),
  (102,(.bool,[.undef])),
  (103,(.bool,[.undef,.undef])),
  (104,(.bool,[.undef])),
  (105,(.bool,[.undef])),
  (106,(.aQ [.ty .mt,.int .i64,.bool],[.undef])),
  (107,(.bool,[.undef,.undef])),
  (108,(.bool,[.undef,.undef,.undef])),
  (109,(.int .i64,[.undef,.undef])),
  (110,(.ty .dr,[.undef])),
  (111,(.ty .B,[.undef,.undef])),
  (112,(.ty .dr,[.undef,.undef,.undef])),
  (113,(.aQ [.ty .mt,.bool],[.undef])),
  (114,(.int .i64,[.undef,.undef])),
  (115,(.int .i64,[.undef,.undef])),
  (116,(.bool,[.undef])),
  (117,(.aQ [.ty .mt,.int .i64,.bool],[.undef])),
  (118,(.sl 1,[.undef])),
  (119,(.ty .B,[.undef])),
  (120,(.ty .dr,[.undef])),
  (121,(.ty .B,[.undef])),
  (122,(.ty .B,[.undef,.undef])),
  (123,(.sl 1,[.aJ [.iH 1,.int .i64,.bool]])),
  (124,(.int .i64,[.aJ [.iH 1,.int .i64,.bool]])),
  (125,(.aQ [.ty .mt,.bool],[.undef])),
  (126,(.bool,[.undef,.undef])),
  (127,(.sl 1,[.undef])),
  (128,(.ty .B,[.undef])),
  (129,(.ty .B,[.undef,.undef])),
  (130,(.sl 1,[.undef])),
  (131,(.ty .B,[.undef])),
  (132,(.aQ [.int .i64,.int .i64,.bool],[.undef,.undef])),
  (133,(.sl 1,[.aJ [.iH 1,.int .i64,.bool]])),
  (134,(.int .i64,[.aJ [.iH 1,.int .i64,.bool]])),
  (135,(.sl 1,[.undef])),
  (136,(.sl 1,[.undef])),
  (137,(.int .i64,[.undef,.undef])),
  (138,(.aQ [.int .i64,.int .i64,.bool],[.undef,.undef])),
  (139,(.sl 1,[.undef])),
  (140,(.str,[.undef])),
  (141,(.aQ [],[.undef])),
  (142,(.str,[.undef])),
  (143,(.aQ [],[.undef])),
  (144,(.str,[.undef])),
  (145,(.aQ [],[.undef])),
  (146,(.str,[.undef])),
  (147,(.aQ [],[.undef])),
  (153,(.str,[.undef])),
  (154,(.aQ [],[.undef])),
  (155,(.str,[.undef]))]
def cfg:bU where
  ty:=lk Rc
  ext:=fun f=>if f=128 then some (BL 1 1) else none
  own:=fun f=>(lk UK f).getD []
  inl:=fun f=>UL.contains f
  nV:=fun f t=>PE.contains (f,t)
  nm:=fun f i=>(WE.find? fun r=>r.1==f&&r.2.1==i).map fun r=>r.2.2
  gone:=fun f=>(lk Sa f).getD []
  base:=fun f t=>match lk Sb f with | some l=>lk l t | none=>none
  va:=fun f t=>match lk Sc f with | some l=>(lk l t).getD [] | none=>[]
def WH:List Nat:=[31,88,51,52,53]
def sg:Sg:=⟨lk WG,fun f=>WH.contains f⟩
theorem sj:dG cfg Try.prog:=⟨Ig (l:=Rc) (by kernel_rfl)⟩
theorem PF (f : FuncId) (fn : Func) (body : Code) (hf : Try.prog.funcs[f]? = some fn) (hb : fn.body = some body) : j0 fn.ntmps body = true ∧ (fn.name == "runtime.NumGoroutine") = false :=
  RZ (by kernel_rfl) f fn body hf hb
theorem Nt:Try.prog.follows .mixedOrders=true:=by kernel_rfl
def Nu:Ren:=⟨fun | 41=>128 | n=>n,fun | 4=>4 | 22=>26 | 23=>5 | n=>n,fun n=>n⟩
theorem Nv:SlLaysE0.n41 Try.prog Nu where
  mixed:=by kernel_rfl
  f41:=⟨Try.f128.name,by kernel_rfl,Try.func128.trans (congrArg some (by kernel_rfl))⟩
  t4:=Try.underlying4
  a4:=Try.isAgg4
  z4:=Try.sizeOf4
  v4:=Try.zeroValue4
  t22:=Try.underlying26
  a22:=Try.isAgg26
  z22:=Try.sizeOf26
  v22:=Try.zeroValue26
theorem LO:qI Try.prog 128:=⟨_,Try.func128,by kernel_rfl,by kernel_rfl⟩
noncomputable def Nw:TypeInfo:=(Try.prog.info? 5).get (by kernel_rfl)
theorem Sd:∀ f e ds r outs,cfg.ext f=some e→e ds=some (r,outs)→qI Try.prog f∧∀ (w:World) (Y:Nat→Prop) (us:Array Value) (az:List Arg),kj w Y (cfg.own f) ds us.toList az→dc r=true→(∀ o∈outs,dc o=true)→
    Calls Try.prog f us w fun e w'=>∃ v,e=.returned v∧gC w w' Y (cfg.own f) az r outs v:=by
  intro f e ds r outs h h2
  have h:(if f=128 then some (BL 1 1) else none)=some e:=h
  split at h
  · rename_i hf
    subst hf
    have h:=Option.some.inj h
    subst h
    exact Pw Nv Nw (.int .u8 0) 1 1 (by kernel_rfl) (by kernel_rfl) (by kernel_rfl) (by kernel_rfl) rfl (by decide) Try.sizeOf5 LO (own:=cfg.own 128) (by kernel_rfl) h2
  · simp at h
theorem vI (k:Nat):jT Try.prog cfg.own (KO cfg Try.prog k):=(H0 sj Nt PF Sd k).1
end Go.Proofs.Ytockoilcnmljiaa
namespace Go.Proofs.Ytockoilcnmljiaa
open Go.RowKit
inductive Sh where
  | bool
  | int (k:IntKind)
  | str
  | sl (b:Nat) (e:Sh)
  | ag (fs:List Sh)
mutual
def width:Sh→Nat
  | .ag fs=>sm fs
  | _=>1
def sm:List Sh→Nat
  | []=>0
  | f::fs=>width f+sm fs
end
mutual
def WT:Sh→List D→Prop
  | .bool,ds=>∃ b,ds=[.bool b]
  | .int k,ds=>∃ n,ds=[.int k n]∧(Lit.int k n).wf=true
  | .str,ds=>∃ s,ds=[.str s]∧s.size≤reachBytes
  | .sl b e,ds=>∃ es:List (List D),ds=[.sl (some false) (width e) es.length es.flatten]∧es.length*b≤reachBytes∧∀ x∈es,WT e x
  | .ag fs,ds=>UM fs ds
def UM:List Sh→List D→Prop
  | [],ds=>ds=[]
  | f::fs,ds=>∃ a b,ds=a++b∧WT f a∧UM fs b
end
mutual
def x5 (P:Program):TypeId→Sh→Bool
  | t,.bool=>match P.underlying t with | some .bool=>true | _=>false
  | t,.int k=>match P.underlying t with | some (.int k')=>decide (k'=k) | _=>false
  | t,.str=>match P.underlying t with | some .string=>true | _=>false
  | t,.sl b e=>match P.underlying t with
    | some (.slice et)=>x5 P et e&&decide (P.cellsOf et=width e)&&decide (P.bytesOf et=b)&&decide (0 < width e)
    | _=>false
  | t,.ag fs=>match P.underlying t with
    | some (.struct fl)=>decide (P.cellsOf t=sm fs)&&yV P fl.toList 0 fs
    | _=>false
def yV (P:Program):List Field→Nat→List Sh→Bool
  | [],_,[]=>true
  | f::fl,o,s::ss=>decide (f.offset=o)&&decide (P.cellsOf f.type=width s)&&x5 P f.type s&&yV P fl (o+width s) ss
  | _,_,_=>false
end
theorem mapM_some {α β:Type} {f:α→Option β}:∀ {l:List α} {r:List β},l.mapM f=some r→l.length=r.length∧∀ (i:Nat) (a:α),l[i]?=some a→∃ b,f a=some b∧r[i]?=some b
  | [],r,h=>by
    simp only [List.mapM_nil] at h
    cases h
    exact ⟨rfl,by simp⟩
  | a::l,r,h=>by
    simp only [List.mapM_cons,Option.bind_eq_bind,Option.bind_eq_some_iff] at h
    obtain ⟨b,hb,bs,Ej,h⟩:=h
    cases h
    obtain ⟨h1,h2⟩:=mapM_some Ej
    refine ⟨by simp [h1],fun i x hx=>?_⟩
    cases i with
    | zero=>
      simp only [List.getElem?_cons_zero,Option.some.injEq] at hx
      subst hx
      exact ⟨b,hb,rfl⟩
    | succ i=>
      simp only [List.getElem?_cons_succ] at hx ⊢
      exact h2 i x hx
theorem Nx {w:World} {base:Nat} {a:Addr} {n:Nat} {vs:List Value} (h:w.cells? base a n=some vs):vs.length=n∧∀ i,i < n→w.cell? (a.add i)=vs[i]?:=by
  unfold World.cells? at h
  split at h
  · obtain ⟨h1,h2⟩:=mapM_some h
    rw [List.length_range] at h1
    refine ⟨h1.symm,fun i hi=>?_⟩
    obtain ⟨b,hb,hr⟩:=h2 i i (by rw [List.getElem?_range hi])
    rw [hb,hr]
  · simp at h
theorem Kw {w:World} {X:Bool→Nat→Prop} {a b:List D} {us vs:List Value} (h:fo w X a us) (h':fo w X b vs):fo w X (a++b) (us++vs):=by
  rw [gg] at h h' ⊢
  exact h.app h'
theorem flat_get {α:Type} {wd:Nat} (hw:0 < wd):∀ {ls:List (List α)},(∀ l∈ls,l.length=wd)→∀ j:Nat,ls.flatten[j]?=(ls[j / wd]?).bind (fun l=>l[j % wd]?)
  | [],_,j=>by simp
  | l::ls,h,j=>by
    have hl:=h l (by simp)
    rw [List.flatten_cons]
    by_cases hj:j < wd
    · rw [List.getElem?_append_left (by omega),Nat.div_eq_of_lt hj,Nat.mod_eq_of_lt hj]
      rfl
    · rw [List.getElem?_append_right (by omega),hl,flat_get hw (fun x hx=>h x (by simp [hx])) (j - wd)]
      have h1:j / wd=(j - wd) / wd+1:=by
        rw [Nat.div_eq_sub_div hw (by omega)]
      have h2:j % wd=(j - wd) % wd:=by
        rw [Nat.mod_eq_sub_mod (by omega)]
      rw [h1,h2,List.getElem?_cons_succ]
theorem Iu {α:Type} {Q:Nat→α→Prop}:∀ len:Nat,(∀ i,i < len→∃ x,Q i x)→∃ es:List α,es.length=len∧∀ (i:Nat) (x:α),es[i]?=some x→Q i x
  | 0,_=>⟨[],rfl,by simp⟩
  | n+1,h=>by
    obtain ⟨es,h1,h2⟩:=Iu n (fun i hi=>h i (by omega))
    obtain ⟨x,hx⟩:=h n (by omega)
    refine ⟨es++[x],by simp [h1],fun i y hy=>?_⟩
    by_cases hi:i < n
    · rw [List.getElem?_append_left (by omega)] at hy
      exact h2 i y hy
    · rw [List.getElem?_append_right (by omega)] at hy
      have:i=n:=by
        have:=(List.getElem?_eq_some_iff.1 hy).1
        simp at this
        omega
      subst this
      rw [h1,Nat.sub_self,List.getElem?_cons_zero,Option.some.injEq] at hy
      subst hy
      exact hx
theorem uB {H:Type} {P:Program} {e:TypeId}:∀ {ds:List (DataW H)} {i:Nat} {d:DataW H},ds[i]?=some d→∀ z∈d.weights P e,z∈DataW.weightsAll P e ds
  | [],i,d,h,_,_=>by simp at h
  | x::ds,0,d,h,z,hz=>by
    simp only [List.getElem?_cons_zero,Option.some.injEq] at h
    subst h
    simp only [DataW.weightsAll,List.mem_append]
    exact .inl hz
  | x::ds,i+1,d,h,z,hz=>by
    simp only [DataW.weightsAll,List.mem_append]
    exact .inr (uB (by simpa using h) z hz)
theorem ED {w:World} {X:Bool→Nat→Prop}:∀ {ps:List (List D × List Value)},(∀ p∈ps,fo w X p.1 p.2)→fo w X (ps.map (·.1)).flatten (ps.map (·.2)).flatten
  | [],_=>by simp [fo]
  | p::ps,h=>by
    simp only [List.map_cons,List.flatten_cons]
    exact Kw (h p (by simp)) (ED (fun q hq=>h q (by simp [hq])))
section
variable {H:Type} {enc:TypeId × Value→H} {P:Program} {w:World} {held:Bool} {X:Bool→Nat→Prop} (hX:∀ k,k < w.heap.size→X false k)
include hX
mutual
theorem uC:∀ (sh:Sh) {fuel:Nat} {t:TypeId} {cs:List Value} {x:DataW H × List MemPlace},DataW.trod enc P w 0 (fun _=>true) held fuel t cs=some x→x5 P t sh=true→(∀ z∈x.1.weights P t,z≤reachBytes)→∃ ds,WT sh ds∧fo w X ds cs
  | .bool,fuel,t,cs,x,h,hs,_=>by
    simp only [x5] at hs
    split at hs
    · rename_i ht
      obtain ⟨b,rfl,rfl⟩:=DataW.trod_bool ht h
      exact ⟨[.bool b],⟨b,rfl⟩,_,_,rfl,rfl,rfl⟩
    · simp at hs
  | .int k,fuel,t,cs,x,h,hs,_=>by
    simp only [x5] at hs
    split at hs
    · rename_i k' ht
      simp only [decide_eq_true_eq] at hs
      subst hs
      obtain ⟨n,rfl,rfl,hw⟩:=DataW.trod_int ht h
      exact ⟨[.int k' n],⟨n,rfl,hw⟩,_,_,rfl,rfl,rfl⟩
    · simp at hs
  | .str,fuel,t,cs,x,h,hs,hz=>by
    simp only [x5] at hs
    split at hs
    · rename_i ht
      obtain ⟨s,rfl,rfl,hw⟩:=DataW.trod_string ht h
      refine ⟨[.str s],⟨s,rfl,?_⟩,_,_,rfl,rfl,rfl⟩
      have:s.data.toList.length≤reachBytes:=hz _ (by unfold DataW.weights; exact List.mem_cons_self)
      rw [Array.length_toList] at this
      exact this
    · simp at hs
  | .sl b e,fuel,t,cs,x,h,hs,hz=>by
    simp only [x5] at hs
    split at hs
    case h_2=>simp at hs
    rename_i et ht
    simp only [Bool.and_eq_true,decide_eq_true_eq] at hs
    obtain ⟨⟨⟨h1,h2⟩,h3⟩,h4⟩:=hs
    rcases DataW.trod_slice ht h with ⟨rfl,rfl⟩ | ⟨a,len,cap,elems,rest,n,rfl,rfl,rfl,_,hl,hm,hlen,fP,_⟩
    · refine ⟨[.sl (some false) (width e) 0 []],⟨[],rfl,by simp,by simp⟩,_,_,rfl,?_,rfl⟩
      exact ⟨none,0,[],rfl,Nat.le_refl _,by simp,rfl,.inl rfl⟩
    · replace hz:∀ z∈((elems.map (fun y:DataW H × List MemPlace=>y.1)).length+(rest.map (fun y:DataW H × List MemPlace=>y.1)).length)*P.bytesOf et::(DataW.weightsAll P et (elems.map (fun y:DataW H × List MemPlace=>y.1))++DataW.weightsAll P et (rest.map (fun y:DataW H × List MemPlace=>y.1))),z≤reachBytes:=fun z Iv=>hz z (by
        show z∈(match P.underlying t with | some (.slice e)=>((elems.map (fun y:DataW H × List MemPlace=>y.1)).length+(rest.map (fun y:DataW H × List MemPlace=>y.1)).length)*P.bytesOf e::(DataW.weightsAll P e (elems.map (fun y:DataW H × List MemPlace=>y.1))++DataW.weightsAll P e (rest.map (fun y:DataW H × List MemPlace=>y.1))) | _=>[])
        rw [ht]
        exact Iv)
      rw [h2] at fP
      have Ei:=hz _ List.mem_cons_self
      have each:∀ i,i < len→∃ p:List D × List Value,WT e p.1∧fo w X p.1 p.2∧p.2.length=width e∧∀ j,j < width e→w.cell? ((a.add (i*width e)).add j)=p.2[j]?:=by
        intro i hi
        have h5:=fP i hi
        have qh:i < elems.length:=by omega
        rw [List.getElem?_eq_getElem qh] at h5
        rw [Option.bind_eq_some_iff] at h5
        obtain ⟨vs,h6,h7⟩:=h5
        obtain ⟨h8,h9⟩:=Nx h6
        obtain ⟨ds,kQ,G0⟩:=uC e h7 h1 (fun z Iv=>hz z (List.mem_cons_of_mem _ (List.mem_append.2 (.inl (uB (i:=i) (d:=elems[i].1) (by rw [List.getElem?_map,List.getElem?_eq_getElem qh]; rfl) z Iv)))))
        exact ⟨(ds,vs),kQ,G0,h8,h9⟩
      obtain ⟨ps,g1,g2⟩:=Iu len each
      have gm:∀ p∈ps,WT e p.1∧fo w X p.1 p.2∧p.2.length=width e:=fun p hp=>by
        obtain ⟨i,hi⟩:=List.getElem?_of_mem hp
        obtain ⟨k1,k2,k3,_⟩:=g2 i p hi
        exact ⟨k1,k2,k3⟩
      have pL:=ED (w:=w) (X:=X) (ps:=ps) (fun p hp=>(gm p hp).2.1)
      have WI:∀ l∈ps.map (·.1),l.length=width e:=fun l hl=>by
        obtain ⟨p,hp,rfl⟩:=List.mem_map.1 hl
        have:=((gg p.1 p.2).1 (gm p hp).2.1).len
        rw [this,(gm p hp).2.2]
      have WJ:∀ l∈ps.map (·.2),l.length=width e:=fun l hl=>by
        obtain ⟨p,hp,rfl⟩:=List.mem_map.1 hl
        exact (gm p hp).2.2
      refine ⟨[.sl (some false) (width e) len (ps.map (·.1)).flatten],⟨ps.map (·.1),by simp [g1],?_,fun x hx=>by obtain ⟨p,hp,rfl⟩:=List.mem_map.1 hx; exact (gm p hp).1⟩,_,_,rfl,?_,rfl⟩
      · rw [List.length_map,g1]
        rw [List.length_map,List.length_map,h3,hlen] at Ei
        exact Nat.le_trans (Nat.mul_le_mul_right b (by omega)) Ei
      · refine ⟨some a,cap,(ps.map (·.2)).flatten,rfl,hl,?_,pL,?_⟩
        · have:∀ {ls:List (List D)},(∀ l∈ls,l.length=width e)→ls.flatten.length=ls.length*width e:=by
            intro ls
            induction ls with
            | nil=>intro _; simp
            | cons l ls ih=>
              intro hh
              rw [List.flatten_cons,List.length_append,ih (fun x hx=>hh x (by simp [hx])),hh l (by simp),List.length_cons,Nat.add_mul,Nat.one_mul,Nat.add_comm]
          rw [this WI,List.length_map,g1]
        · by_cases h0:len=0
          · left
            have:ps=[]:=by cases ps with | nil=>rfl | cons _ _=>simp at g1; omega
            rw [this]; rfl
          · right
            obtain ⟨p0,Hl⟩:∃ p,ps[0]?=some p:=⟨ps[0],List.getElem?_eq_getElem (by omega)⟩
            obtain ⟨_,_,k3,k4⟩:=g2 0 p0 Hl
            have k5:=k4 0 h4
            have WK:p0.2[0]?=some (p0.2[0]):=List.getElem?_eq_getElem (by omega)
            rw [WK,Nat.zero_mul] at k5
            have Nj:(a.add 0).add 0=a:=by simp [Addr.add]
            rw [Nj] at k5
            obtain ⟨k,off,spot⟩:=a
            unfold World.cell? at k5
            split at k5
            case h_2=>simp at k5
            rename_i c ee fz ef
            split at k5
            · simp at k5
            rename_i hsp
            have WL:spot=none:=by cases spot<;>simp at hsp ⊢
            subst WL
            refine ⟨k,off,c,ee,fz,rfl,hX k ?_,ef,fun j v hj=>?_⟩
            · rcases Nat.lt_or_ge k w.heap.size with hh | hh
              · exact hh
              · rw [Array.getElem?_eq_none hh] at ef; simp at ef
            · rw [flat_get h4 WJ] at hj
              rw [List.getElem?_map] at hj
              cases hp:ps[j / width e]? with
              | none=>rw [hp] at hj; simp at hj
              | some p=>
                rw [hp] at hj
                simp only [Option.map_some,Option.bind_some] at hj
                obtain ⟨_,_,_,m4⟩:=g2 _ p hp
                have m5:=m4 (j % width e) (Nat.mod_lt _ h4)
                rw [hj,ek,ek] at m5
                unfold World.cell? at m5
                simp only [ef] at m5
                have m6:off+j / width e*width e+j % width e=off+j:=by
                  have:=Nat.div_add_mod j (width e)
                  rw [Nat.mul_comm] at this
                  omega
                rw [m6] at m5
                simpa using m5
  | .ag fs,fuel,t,cs,x,h,hs,hz=>by
    simp only [x5] at hs
    split at hs
    case h_2=>simp at hs
    rename_i fl ht
    simp only [Bool.and_eq_true,decide_eq_true_eq] at hs
    obtain ⟨h1,h2⟩:=hs
    obtain ⟨xs,n,rfl,rfl,h3,h4,h5⟩:=DataW.trod_struct ht h
    simp only [DataW.weights,ht] at hz
    obtain ⟨ds,h6,h7⟩:=Iw (cs:=cs) (n:=n) fs (fl:=fl.toList) (o:=0) (xs:=xs) (by simpa using h4.symm) (fun i f hf=>h5 i f (by simpa using hf)) h2 hz (by omega)
    refine ⟨ds,h6,?_⟩
    rw [List.drop_zero,List.take_of_length_le (by omega)] at h7
    exact h7
theorem Iw:∀ (ss:List Sh) {n:Nat} {cs:List Value} {fl:List Field} {o:Nat} {xs:List (DataW H × List MemPlace)},fl.length=xs.length→(∀ (i:Nat) (f:Field),fl[i]?=some f→DataW.trod enc P w 0 (fun _=>true) held n f.type ((cs.drop f.offset).take (P.cellsOf f.type))=xs[i]?)→yV P fl o ss=true→(∀ z∈DataW.weightsEach P (fl.map (·.type)) (xs.map (·.1)),z≤reachBytes)→o+sm ss≤cs.length→
    ∃ ds,UM ss ds∧fo w X ds ((cs.drop o).take (sm ss))
  | [],n,cs,fl,o,xs,_,_,hs,_,_=>by
    have _:=hX
    cases fl with
    | nil=>exact ⟨[],rfl,by simp [sm,fo]⟩
    | cons f fl=>simp [yV] at hs
  | s::ss,n,cs,fl,o,xs,hl,hx,hs,hz,ho=>by
    cases fl with
    | nil=>simp [yV] at hs
    | cons f fl=>
      cases xs with
      | nil=>simp at hl
      | cons x xs=>
        simp only [yV,Bool.and_eq_true,decide_eq_true_eq] at hs
        obtain ⟨⟨⟨h1,h2⟩,h3⟩,h4⟩:=hs
        subst h1
        simp only [List.map_cons,DataW.weightsEach,List.mem_append] at hz
        simp only [sm] at ho ⊢
        have h5:=hx 0 f rfl
        rw [List.getElem?_cons_zero,h2] at h5
        obtain ⟨fA,g1,g2⟩:=uC s h5 h3 (fun z Iv=>hz z (.inl Iv))
        obtain ⟨pU,g3,g4⟩:=Iw (cs:=cs) (n:=n) ss (fl:=fl) (o:=f.offset+width s) (xs:=xs) (by simpa using hl) (fun i f' hf=>by have:=hx (i+1) f' (by simpa using hf); simpa using this) h4 (fun z Iv=>hz z (.inr Iv)) (by omega)
        refine ⟨fA++pU,⟨fA,pU,rfl,g1,g3⟩,?_⟩
        rw [List.take_add,List.drop_drop]
        exact Kw g2 g4
end
end
end Go.Proofs.Ytockoilcnmljiaa
namespace Go.Proofs.Ytockoilcnmljiaa
open Go.RowKit
theorem Kx {w:World} {X:Bool→Nat→Prop}:∀ {b:List Bool} {ds:List D} {vs:List Value},b.any id=false→bC (fun d v=>∀ S,fN w X S d v) ds vs→qH w X b ds vs (vs.map fun _=>(none,[]))
  | _,[],_,_,.nil=>⟨rfl,rfl⟩
  | b,d::ds,v::vs,hn,.cons h1 h2=>by
    have hb:b.headD false=false∧b.tail.any id=false:=by
      cases b with
      | nil=>simp
      | cons x xs=>simpa using hn
    refine ⟨v,vs,(none,[]),_,rfl,rfl,?_,Kx hb.2 h2⟩
    rw [hb.1]
    exact ⟨rfl,h1⟩
theorem Ny {P:Program} {c:bU} (ja:∀ k,jT P c.own (KO c P k)) {f:FuncId} (ir:(c.own f).any id=false) {ds outs:List D} {vs:Array Value} {W:World} (hc:Comes c P f ds (.bool true,outs)) (rM:∀ o∈outs,dc o=true)
    (ha:bC (fun d v=>∀ S,fN W (Lk W [] (fun _=>True)) S d v) ds vs.toList):Calls P f vs W fun e W'=>e=.returned (.bool true)∧Below W.heap.size W W':=by
  obtain ⟨k,hk⟩:=hc
  have h1:=hk k (Nat.le_refl _)
  have vn:∀ a∈vs.toList.map (fun _=>((none,[]):Arg)),a=(none,[]):=by simp
  have ea:=tX vn
  have qJ:kj W (fun _=>True) (c.own f) ds vs.toList (vs.toList.map fun _=>(none,[])):=by
    refine ⟨?_,by rw [ea]; simp,by rw [ea]; simp,fun a Nj=>?_⟩
    · rw [ea]; exact Kx ir ha
    · rw [vn a Nj]; trivial
  refine ((ja k f ds _ outs h1).2 W _ vs _ qJ rfl rM).mono fun e W'=>?_
  rintro ⟨v,rfl,hp⟩
  have hv:v=.bool true:=by
    obtain ⟨eo,az,hr,_,_,_,hs,_⟩:=hp.res
    obtain ⟨t,rfl,he,rfl⟩:=hr
    cases t with
    | v d u=>
      have hs:=hs.1
      simp only [aT] at hs
      have:aZ d=.bool true:=he.symm
      rw [this] at hs
      exact hs
    | own s n cap a cs=>simp [T.er] at he
  subst hv
  refine ⟨rfl,hp.os,hp.tape,hp.out,hp.sz,fun k hk=>hp.bQ k hk (by rw [ea]; simp)⟩
theorem Ky {w:World} {X:Bool→Nat→Prop} {ds:List D} {us:Array Value} (h:fo w X ds us.toList):∀ S,fN w X S (.agg ds) (.agg us):=fun _=>
  ⟨us,rfl,((gg _ _).1 h).mono (fun _ _ hh=>eQ hh)⟩
theorem Se {w:World} {X:Bool→Nat→Prop} {d:D} {v:Value} (h:fo w X [d] [v]) (h1:∀ cs,d≠.agg cs) (h2:∀ f cs,d≠.fn f cs):∀ S,fN w X S d v:=fun S=>by
  obtain ⟨a,b,hv,he,_⟩:=h
  simp only [List.cons.injEq] at hv
  obtain ⟨rfl,rfl⟩:=hv
  have ht:=eQ (S:=S) he
  cases d with
  | agg cs=>exact absurd rfl (h1 cs)
  | fn f cs=>exact absurd rfl (h2 f cs)
  | _=>exact ht
theorem Ix {w:World}:∀ k,k < w.heap.size→Lk w [] (fun _=>True) false k:=fun k hk=>⟨hk,by simp,fun _=>trivial⟩
end Go.Proofs.Ytockoilcnmljiaa
namespace Go.Proofs.Ytockoilcnmljiaa
set_option maxRecDepth 100000
abbrev Cm (f:FuncId) (ds:List D) (r:Rz):Prop:=Comes cfg Try.prog f ds r
abbrev bn (pr:ez) (cv:Cv Rz) (J:Nat→St→Option Rz) (f:FuncId) (fn:Func) (args:List D):Option Rz:=xX pr cfg sg cv J f fn args
abbrev cB (pr:ez) (cv:Cv Rz) (J:Nat→St→Option Rz) (f:FuncId) (fn:Func) (sk:List D) (j:Nat) (h:St):Option Rz:=ra pr cfg sg cv J f fn sk j h
noncomputable abbrev bc:Cv Rz:=dR cfg Try.prog sg
abbrev WP (f:FuncId) (fn:Func) (sk:List D) (j:Nat) (h:St) (r:Rz):Prop:=W cfg Try.prog sg f fn sk j h r
section
variable {f:FuncId} {fn:Func} {sk:List D} {j j':Nat} {h h':St} {r:Rz}
theorem WP.go (h':St) (hw:WP f fn sk j' h' r) (ht:∀ J:Nat→St→Option Rz,J j' h'=some r→cB U bc J f fn sk j h=some r):WP f fn sk j h r:=W.go sj hw ht
theorem WP.fin (ht:∀ J:Nat→St→Option Rz,cB U bc J f fn sk j h=some r):WP f fn sk j h r:=W.fin sj ht
theorem Cm.go (ok:Told cfg Try.prog f fn) (sk:List D) (j:Nat) (h:St) {args:List D} (hw:WP f fn sk j h r) (ht:∀ J:Nat→St→Option Rz,J j h=some r→bn U bc J f fn args=some r) (vY:args.map oG=sk:=by rfl):Cm f args r:=Comes.go sj ok (vY▸hw) ht
theorem Cm.fin (ok:Told cfg Try.prog f fn) {args:List D} (ht:∀ J:Nat→St→Option Rz,bn U bc J f fn args=some r):Cm f args r:=Comes.fin (sg:=sg) sj ok ht
theorem WP.loop {H:Nat→St} {n:Nat} (inv:Nat→Prop) (hs:∀ i,i < n→inv i→(inv (i+1)→WP f fn sk j (H (i+1)) r)→WP f fn sk j (H i) r) (he:inv n→WP f fn sk j (H n) r):∀ i,i≤n→inv i→WP f fn sk j (H i) r:=by
  have key:∀ k i,i+k=n→inv i→WP f fn sk j (H i) r:=by
    intro k
    induction k with
    | zero=>intro i hi hv; obtain rfl:i=n:=(by omega); exact he hv
    | succ k ih=>intro i hi hv; exact hs i (by omega) hv fun ky=>ih (i+1) (by omega) ky
  exact fun i hi hv=>key (n - i) i (by omega) hv
end
theorem bq {g:FuncId} {ds:List D} {r:D} {outs:List D} (h:Cm g ds (r,outs)) (hs:(match sg.sig g with | some (s,ss)=>eu s r&&iI ss outs&&!(sd s||se ss) | none=>false)=true) (t:bO Rz):bc g ds t=feed t (pC r++(tH outs++[])):=by
  refine WA t h hs fun e=>?_
  subst e
  have:sg.sig 999999=none:=by kernel_rfl
  rw [this] at hs
  simp at hs
theorem bZ {g:FuncId} {ds:List D} {r:D} {outs:List D} {s:RS} {ss:List RS} (h:Cm g ds (r,outs)) (hs:sg.sig g=some (s,ss)) (h1:eu s r=true) (h2:iI ss outs=true) (h3:dc r=true) (h4:outs.all dc=true) (t:bO Rz):bc g ds t=feed t (fw s r++(lV ss outs++[])):=by
  refine WB t h hs h1 h2 h3 h4 fun e=>?_
  subst e
  have:sg.sig 999999=none:=by kernel_rfl
  rw [hs] at this
  simp at this
theorem Nz (ys:List D) (t:bO Rz):bc 999999 [.sl none 0 0 ys] t=feed t [.sl none 0 0 ys]:=by
  show dR cfg Try.prog sg 999999 _ t=_
  unfold dR
  rw [if_pos rfl]
section
variable {R:Type} {x y:R}
theorem aF:br true x y=x:=rfl
theorem aX:br false x y=y:=rfl
theorem aW (b:Bool):br b true false=b:=by cases b<;>rfl
theorem ba (b:Bool):br b false true=!b:=by cases b<;>rfl
theorem bA (b:Bool):br (!b) x y=br b y x:=by cases b<;>rfl
theorem yW (b:Bool):br b x x=x:=by cases b<;>rfl
theorem aP {a b:Int} (h:a < b):br (U.lt a b) x y=x:=by simp [U,br,h]
theorem bl {a b:Int} (h:b≤a):br (U.lt a b) x y=y:=by simp [U,br,Int.not_lt.2 h]
theorem yX {a b:Int} (h:a≤b):br (U.le a b) x y=x:=by simp [U,br,h]
theorem mW {a b:Int} (h:b < a):br (U.le a b) x y=y:=by simp [U,br,Int.not_le.2 h]
theorem fx {a b:Int} (h:a=b):br (U.eq a b) x y=x:=by simp [U,br,h]
theorem dK {a b:Int} (h:a≠b):br (U.eq a b) x y=y:=by
  have e:(a==b)=false:=by simpa using h
  simp [U,br,e]
theorem bo {i:Int} {n:Nat} (h0:0≤i) (h:i < n):br (U.cb i n) x y=x:=by simp [U,br,h0,h]
theorem BQ {l h:Int} {n:Nat} (h0:0≤l) (h1:l≤h) (h2:h≤n):br (U.zK l h n) x y=x:=by simp [U,br,h0,h1,h2]
theorem eK {n b:Nat} (h:n*b≤140737488355328):br (U.fits n b) x y=x:=by simp [U,br,h]
theorem yY {l c:Int} {b:Nat} (h0:0≤l) (h1:l≤c) (h2:c*b≤140737488355328):br (U.xJ l c b) x y=x:=by simp [U,br,h0,h1,h2]
end
theorem LP (a b:Int):U.lt a b=decide (a < b):=rfl
theorem vJ (a b:Int):U.le a b=decide (a≤b):=rfl
theorem x6 (a b:Int):U.eq a b=(a==b):=rfl
theorem aB (n:Nat):U.bu n=(n:Int):=rfl
theorem GH (n:Nat):U.kz (n:Int)=n:=rfl
theorem Re (a i s:Nat):U.idx a (i:Int) s=(a+i)*s:=rfl
theorem re (a b:Bool):U.beq a b=(a==b):=rfl
theorem wrap64 {n:Int} (h:-9223372036854775808≤n) (h':n < 9223372036854775808):IntKind.i64.wrap n=n:=by
  simp only [IntKind.wrap,IntKind.bits,IntKind.signed]
  simp
  omega
theorem LQ {a b:Int} (h:-9223372036854775808≤a+b) (h':a+b < 9223372036854775808):U.ar .add .i64 a b=a+b:=wrap64 h h'
theorem kJ {a b:Int} (h:-9223372036854775808≤a - b) (h':a - b < 9223372036854775808):U.ar .sub .i64 a b=a - b:=wrap64 h h'
theorem db {i:Nat} (h:i < 9223372036854775807):U.ar .add .i64 (i:Int) 1=((i+1:Nat):Int):=by
  rw [LQ (by omega) (by omega)]
  omega
def so (a:Int):Bool:=decide (-9223372036854775808≤a)&&decide (a < 9223372036854775808)
theorem PG {a:Int}:so a=true↔-9223372036854775808≤a∧a < 9223372036854775808:=by simp [so]
theorem kK {α:Type} {e:α→List D} {w:Nat} (hw:∀ x,(e x).length=w):∀ (xs:List α) {i k:Nat} (hi:i < xs.length),k < w→(aE e xs)[i*w+k]?=(e xs[i])[k]?
  | [],i,k,hi,_=>absurd hi (by simp)
  | x::xs,0,k,hi,hk=>by
    simp only [aE,List.flatMap_cons,Nat.zero_mul,Nat.zero_add,List.getElem_cons_zero]
    rw [List.getElem?_append_left (by rw [hw]; exact hk)]
  | x::xs,i+1,k,hi,hk=>by
    simp only [aE,List.flatMap_cons,List.getElem_cons_succ]
    rw [List.getElem?_append_right (by rw [hw,Nat.succ_mul]; omega)]
    have:(i+1)*w+k - (e x).length=i*w+k:=by rw [hw,Nat.succ_mul]; omega
    rw [this]
    exact kK hw xs (by simpa using hi) hk
section
variable {R:Type} {x y:R}
theorem dg {xs:List Int} {i:Nat} (h:i < xs.length):br (U.cV .i64 (ints xs) i) x y=x:=by simp [U,ints,br,List.getElem?_eq_getElem h,eA]
theorem dj {xs:List Int} {i:Nat} (h:i < xs.length):U.bY (ints xs) i=xs[i]:=by simp [U,ints,List.getElem?_eq_getElem h,r8]
theorem ld {xs:List UInt8} {i:Nat} (h:i < xs.length):br (U.cV .u8 (bytes xs) i) x y=x:=by simp [U,bytes,ec,br,List.getElem?_eq_getElem h,eA]
theorem uD {xs:List UInt8} {i:Nat} (h:i < xs.length):U.bY (bytes xs) i=(xs[i].toNat:Int):=by simp [U,bytes,ec,List.getElem?_eq_getElem h,r8]
theorem Iy {xs:List Bool} {i:Nat} (h:i < xs.length):br (U.fj (aO xs) i) x y=x:=by simp [U,aO,br,List.getElem?_eq_getElem h]
theorem Iz {xs:List Bool} {i:Nat} (h:i < xs.length):U.dI (aO xs) i=xs[i]:=by simp [U,aO,List.getElem?_eq_getElem h,yN]
theorem PH {xs:List Int} {i:Nat} (h:i < xs.length):br (U.slot (ints xs) i) x y=x:=by simp [U,ints,br,List.getElem?_eq_getElem h,fR]
theorem PI {xs:List UInt8} {i:Nat} (h:i < xs.length):br (U.slot (bytes xs) i) x y=x:=by simp [U,bytes,ec,br,List.getElem?_eq_getElem h,fR]
theorem PJ {xs:List Bool} {i:Nat} (h:i < xs.length):br (U.slot (aO xs) i) x y=x:=by simp [U,aO,br,List.getElem?_eq_getElem h,fR]
theorem ints_set (xs:List Int) (i:Nat) (a:Int):List.set (ints xs) i (.int .i64 a)=ints (xs.set i a):=by simp [ints,List.map_set]
theorem EE (xs:List UInt8) (i:Nat) (a:UInt8):List.set (bytes xs) i (.int .u8 a.toNat)=bytes (xs.set i a):=by simp [bytes,List.map_set,ec]
theorem EF (xs:List Bool) (i:Nat) (a:Bool):List.set (aO xs) i (.bool a)=aO (xs.set i a):=by simp [aO,List.map_set]
theorem lW:∀ {ds:List D},(∀ d∈ds,bz d=true)→bD ds=true
  | [],_=>rfl
  | d::ds,h=>by
    simp only [bD,Bool.and_eq_true]
    exact ⟨h d (by simp),lW fun x hx=>h x (by simp [hx])⟩
theorem lz (xs:List Int):U.nl (ints xs)=true:=lW (by intro d hd; obtain ⟨a,_,rfl⟩:=List.mem_map.1 hd; rfl)
theorem eI (xs:List UInt8):U.nl (bytes xs)=true:=lW (by intro d hd; obtain ⟨a,_,rfl⟩:=List.mem_map.1 hd; rfl)
theorem LR (xs:List Bool):U.nl (aO xs)=true:=lW (by intro d hd; obtain ⟨a,_,rfl⟩:=List.mem_map.1 hd; rfl)
theorem NA (n:Nat):fD n [.int .i64 0]=ints (List.replicate n 0):=by
  unfold fD
  induction n with
  | zero=>rfl
  | succ n ih=>simpa [List.replicate_succ,ints,ry] using ih
theorem NB (n:Nat):fD n [.int .u8 0]=bytes (List.replicate n 0):=by
  unfold fD
  induction n with
  | zero=>rfl
  | succ n ih=>simpa [List.replicate_succ,bytes,ry,ec] using ih
theorem NC (n:Nat):fD n [.bool false]=aO (List.replicate n false):=by
  unfold fD
  induction n with
  | zero=>rfl
  | succ n ih=>simpa [List.replicate_succ,aO,ry] using ih
end
end Go.Proofs.Ytockoilcnmljiaa
namespace Go.Proofs.Ytockoilcnmljiaa
set_option maxRecDepth 100000
section
variable (pr:ez) (cv:Cv Rz) (J:Nat→St→Option Rz)
def ju (g0:Bool) (n1:Nat) (c2:List D) (i3:Int) (n4:Nat) (c5:List D):St:=(St.mk [(0,(.sl (some g0) 1 n1 c2)),(3,(.ref 10003 [] 0 none)),(4,(.int .i64 i3))] [(10003,[(.sl none 1 n4 c5)])] [] 0)
theorem Ff:Told cfg Try.prog 27 Try.f27:=⟨by kernel_rfl,Try.func27,by kernel_rfl⟩
theorem Fg (g0:Bool) (n0:Nat) (c0:List D):bn pr cv J 27 Try.f27 [(.sl (some g0) 1 n0 c0)]=
    (br (pr.xJ (pr.bu n0) (pr.bu n0) 8) (J 0 (ju g0 n0 c0 0 (pr.kz (pr.bu n0)) (fD (pr.kz (pr.bu n0)) [(.int .i64 0)]))) none):=by kernel_rfl
theorem sq (g0:Bool) (n1:Nat) (c2:List D) (i3:Int) (n4:Nat) (c5:List D):cB pr cv J 27 Try.f27 [.undef] 0 (ju g0 n1 c2 i3 n4 c5)=
    (br (pr.lt i3 (pr.bu n1)) (br (pr.cb i3 n1) (br (br (pr.cV .i64 c2 (pr.idx 0 i3 1)) true false) (br (pr.cb i3 n4) (br (pr.slot c5 (pr.idx 0 i3 1)) (J 0 (ju g0 n1 c2 (pr.ar .add .i64 i3 1) n4 (List.set c5 (pr.idx 0 i3 1) (.int .i64 (pr.bY c2 (pr.idx 0 i3 1)))))) none) none) none) none) (some ((.sl none 1 n4 c5),[.undef]))):=by kernel_rfl
def jv (g0:Bool) (n1:Nat) (c2:List D) (g3:Bool) (n4:Nat) (c5:List D) (i6:Int):St:=(St.mk [(0,(.sl (some g0) 1 n1 c2)),(1,(.sl (some g3) 1 n4 c5)),(5,(.int .i64 i6))] [] [] 0)
theorem wb:Told cfg Try.prog 33 Try.f33:=⟨by kernel_rfl,Try.func33,by kernel_rfl⟩
theorem wc (g0:Bool) (n0:Nat) (c0:List D) (g1:Bool) (n1:Nat) (c1:List D):bn pr cv J 33 Try.f33 [(.sl (some g0) 1 n0 c0),(.sl (some g1) 1 n1 c1)]=
    (br (br (pr.eq (pr.bu n0) (pr.bu n1)) false true) (some ((.bool false),[.undef,.undef])) (J 0 (jv g0 n0 c0 g1 n1 c1 0))):=by kernel_rfl
theorem nr (g0:Bool) (n1:Nat) (c2:List D) (g3:Bool) (n4:Nat) (c5:List D) (i6:Int):cB pr cv J 33 Try.f33 [.undef,.undef] 0 (jv g0 n1 c2 g3 n4 c5 i6)=
    (br (pr.lt i6 (pr.bu n1)) (br (pr.cb i6 n1) (br (br (pr.cV .i64 c2 (pr.idx 0 i6 1)) true false) (br (pr.cb i6 n4) (br (br (pr.cV .i64 c5 (pr.idx 0 i6 1)) true false) (br (br (pr.eq (pr.bY c2 (pr.idx 0 i6 1)) (pr.bY c5 (pr.idx 0 i6 1))) false true) (some ((.bool false),[.undef,.undef])) (J 0 (jv g0 n1 c2 g3 n4 c5 (pr.ar .add .i64 i6 1)))) none) none) none) none) (some ((.bool true),[.undef,.undef]))):=by kernel_rfl
theorem Fh:Told cfg Try.prog 21 Try.f21:=⟨by kernel_rfl,Try.func21,by kernel_rfl⟩
theorem Fi (g0:Bool) (n0:Nat) (c0:List D) (a1:Int):bn pr cv J 21 Try.f21 [(.sl (some g0) 1 n0 c0),(.int .i64 a1)]=
    (br (pr.lt (pr.ar .sub .i64 a1 (pr.bu n0)) 0) (some ((.int .i64 (-1)),[.undef,.undef])) (some ((.int .i64 (pr.ar .sub .i64 a1 (pr.bu n0))),[.undef,.undef]))):=by kernel_rfl
def iJ (g0:Bool) (n1:Nat) (c2:List D) (i3:Int) (n4:Nat) (c5:List D):St:=(St.mk [(0,(.sl (some g0) 1 n1 c2)),(3,(.ref 10003 [] 0 none)),(4,(.int .i64 i3))] [(10003,[(.sl none 1 n4 c5)])] [] 0)
theorem CS:Told cfg Try.prog 61 Try.f61:=⟨by kernel_rfl,Try.func61,by kernel_rfl⟩
theorem CT (g0:Bool) (n0:Nat) (c0:List D):bn pr cv J 61 Try.f61 [(.sl (some g0) 1 n0 c0)]=
    (br (pr.xJ (pr.bu n0) (pr.bu n0) 1) (J 0 (iJ g0 n0 c0 0 (pr.kz (pr.bu n0)) (fD (pr.kz (pr.bu n0)) [(.int .u8 0)]))) none):=by kernel_rfl
theorem qO (g0:Bool) (n1:Nat) (c2:List D) (i3:Int) (n4:Nat) (c5:List D):cB pr cv J 61 Try.f61 [.undef] 0 (iJ g0 n1 c2 i3 n4 c5)=
    (br (pr.lt i3 (pr.bu n1)) (br (pr.cb i3 n1) (br (br (pr.cV .u8 c2 (pr.idx 0 i3 1)) true false) (br (pr.cb i3 n4) (br (pr.slot c5 (pr.idx 0 i3 1)) (J 0 (iJ g0 n1 c2 (pr.ar .add .i64 i3 1) n4 (List.set c5 (pr.idx 0 i3 1) (.int .u8 (pr.bY c2 (pr.idx 0 i3 1)))))) none) none) none) none) (some ((.sl none 1 n4 c5),[.undef]))):=by kernel_rfl
def iK (g0:Bool) (n1:Nat) (c2:List D) (g3:Bool) (n4:Nat) (c5:List D) (i6:Int):St:=(St.mk [(0,(.sl (some g0) 1 n1 c2)),(1,(.sl (some g3) 1 n4 c5)),(5,(.int .i64 i6))] [] [] 0)
theorem uE:Told cfg Try.prog 63 Try.f63:=⟨by kernel_rfl,Try.func63,by kernel_rfl⟩
theorem uF (g0:Bool) (n0:Nat) (c0:List D) (g1:Bool) (n1:Nat) (c1:List D):bn pr cv J 63 Try.f63 [(.sl (some g0) 1 n0 c0),(.sl (some g1) 1 n1 c1)]=
    (br (br (pr.eq (pr.bu n0) (pr.bu n1)) false true) (some ((.bool false),[.undef,.undef])) (J 0 (iK g0 n0 c0 g1 n1 c1 0))):=by kernel_rfl
theorem mE (g0:Bool) (n1:Nat) (c2:List D) (g3:Bool) (n4:Nat) (c5:List D) (i6:Int):cB pr cv J 63 Try.f63 [.undef,.undef] 0 (iK g0 n1 c2 g3 n4 c5 i6)=
    (br (pr.lt i6 (pr.bu n1)) (br (pr.cb i6 n1) (br (br (pr.cV .u8 c2 (pr.idx 0 i6 1)) true false) (br (pr.cb i6 n4) (br (br (pr.cV .u8 c5 (pr.idx 0 i6 1)) true false) (br (br (pr.eq (pr.bY c2 (pr.idx 0 i6 1)) (pr.bY c5 (pr.idx 0 i6 1))) false true) (some ((.bool false),[.undef,.undef])) (J 0 (iK g0 n1 c2 g3 n4 c5 (pr.ar .add .i64 i6 1)))) none) none) none) none) (some ((.bool true),[.undef,.undef]))):=by kernel_rfl
theorem CU:Told cfg Try.prog 59 Try.f59:=⟨by kernel_rfl,Try.func59,by kernel_rfl⟩
theorem CV (g0:Bool) (n0:Nat) (c0:List D) (a1:Int):bn pr cv J 59 Try.f59 [(.sl (some g0) 1 n0 c0),(.int .i64 a1)]=
    (br (pr.lt (pr.ar .sub .i64 a1 (pr.bu n0)) 0) (some ((.int .i64 (-1)),[.undef,.undef])) (some ((.int .i64 (pr.ar .sub .i64 a1 (pr.bu n0))),[.undef,.undef]))):=by kernel_rfl
def iL (g0:Bool) (n1:Nat) (c2:List D) (i3:Int) (n4:Nat) (c5:List D):St:=(St.mk [(0,(.sl (some g0) 1 n1 c2)),(3,(.ref 10003 [] 0 none)),(4,(.int .i64 i3))] [(10003,[(.sl none 1 n4 c5)])] [] 0)
theorem CW:Told cfg Try.prog 30 Try.f30:=⟨by kernel_rfl,Try.func30,by kernel_rfl⟩
theorem CX (g0:Bool) (n0:Nat) (c0:List D):bn pr cv J 30 Try.f30 [(.sl (some g0) 1 n0 c0)]=
    (br (pr.xJ (pr.bu n0) (pr.bu n0) 1) (J 0 (iL g0 n0 c0 0 (pr.kz (pr.bu n0)) (fD (pr.kz (pr.bu n0)) [(.bool false)]))) none):=by kernel_rfl
theorem qP (g0:Bool) (n1:Nat) (c2:List D) (i3:Int) (n4:Nat) (c5:List D):cB pr cv J 30 Try.f30 [.undef] 0 (iL g0 n1 c2 i3 n4 c5)=
    (br (pr.lt i3 (pr.bu n1)) (br (pr.cb i3 n1) (br (br (pr.fj c2 (pr.idx 0 i3 1)) true false) (br (pr.cb i3 n4) (br (pr.slot c5 (pr.idx 0 i3 1)) (J 0 (iL g0 n1 c2 (pr.ar .add .i64 i3 1) n4 (List.set c5 (pr.idx 0 i3 1) (.bool (pr.dI c2 (pr.idx 0 i3 1)))))) none) none) none) none) (some ((.sl none 1 n4 c5),[.undef]))):=by kernel_rfl
def iM (g0:Bool) (n1:Nat) (c2:List D) (g3:Bool) (n4:Nat) (c5:List D) (i6:Int):St:=(St.mk [(0,(.sl (some g0) 1 n1 c2)),(1,(.sl (some g3) 1 n4 c5)),(5,(.int .i64 i6))] [] [] 0)
theorem uG:Told cfg Try.prog 36 Try.f36:=⟨by kernel_rfl,Try.func36,by kernel_rfl⟩
theorem uH (g0:Bool) (n0:Nat) (c0:List D) (g1:Bool) (n1:Nat) (c1:List D):bn pr cv J 36 Try.f36 [(.sl (some g0) 1 n0 c0),(.sl (some g1) 1 n1 c1)]=
    (br (br (pr.eq (pr.bu n0) (pr.bu n1)) false true) (some ((.bool false),[.undef,.undef])) (J 0 (iM g0 n0 c0 g1 n1 c1 0))):=by kernel_rfl
theorem mF (g0:Bool) (n1:Nat) (c2:List D) (g3:Bool) (n4:Nat) (c5:List D) (i6:Int):cB pr cv J 36 Try.f36 [.undef,.undef] 0 (iM g0 n1 c2 g3 n4 c5 i6)=
    (br (pr.lt i6 (pr.bu n1)) (br (pr.cb i6 n1) (br (br (pr.fj c2 (pr.idx 0 i6 1)) true false) (br (pr.cb i6 n4) (br (br (pr.fj c5 (pr.idx 0 i6 1)) true false) (br (br (pr.beq (pr.dI c2 (pr.idx 0 i6 1)) (pr.dI c5 (pr.idx 0 i6 1))) false true) (some ((.bool false),[.undef,.undef])) (J 0 (iM g0 n1 c2 g3 n4 c5 (pr.ar .add .i64 i6 1)))) none) none) none) none) (some ((.bool true),[.undef,.undef]))):=by kernel_rfl
theorem CY:Told cfg Try.prog 24 Try.f24:=⟨by kernel_rfl,Try.func24,by kernel_rfl⟩
theorem CZ (g0:Bool) (n0:Nat) (c0:List D) (a1:Int):bn pr cv J 24 Try.f24 [(.sl (some g0) 1 n0 c0),(.int .i64 a1)]=
    (br (pr.lt (pr.ar .sub .i64 a1 (pr.bu n0)) 0) (some ((.int .i64 (-1)),[.undef,.undef])) (some ((.int .i64 (pr.ar .sub .i64 a1 (pr.bu n0))),[.undef,.undef]))):=by kernel_rfl
end
theorem cD (i:Nat):U.idx 0 (i:Int) 1=i:=by rw [Re]; omega
theorem vK {α:Type} {xs:List α} {i:Nat} (hi:i < xs.length) (z:α) (ys:List α) (hl:xs.length=ys.length) (hy:i < ys.length):(ys.take i++List.replicate (xs.length - i) z).set i ys[i]=ys.take (i+1)++List.replicate (xs.length - (i+1)) z:=by
  rw [List.set_append_right _ _ (by simp; omega)]
  have h1:i - (ys.take i).length=0:=by simp; omega
  obtain ⟨k,hk⟩:∃ k,xs.length - i=k+1:=⟨xs.length - i - 1,by omega⟩
  have h2:xs.length - (i+1)=k:=by omega
  rw [h1,hk,h2,List.replicate_succ,List.set_cons_zero,← List.take_append_getElem hy,List.append_assoc]
  rfl
def eX (n:Nat) (left:Int):Int:=if left < n then -1 else left - n
theorem PK (g:Bool) (xs:List Int) (hb:xs.length≤17592186044416) (wO:xs.length < 9223372036854775807):Cm 27 [.sl (some g) 1 xs.length (ints xs)] (.sl none 1 xs.length (ints xs),[.undef]):=by
  refine Cm.go Ff [.undef] 0 (ju g xs.length (ints xs) (0:Nat) xs.length (ints (List.replicate xs.length 0))) ?_ fun J hJ=>?_
  · refine WP.loop (H:=fun i=>ju g xs.length (ints xs) (i:Nat) xs.length (ints (xs.take i++List.replicate (xs.length - i) 0))) (n:=xs.length) (fun _=>True) (fun i hi _ ih=>WP.go _ (ih trivial) fun J hJ=>?_) (fun _=>WP.fin fun J=>?_) 0 (Nat.zero_le _) trivial
    · rw [sq]
      simp (disch:=first | omega | (simp; done) | (simp; omega)) only [aF,aX,aW,aB,aP,bo,cD,dg,PH,dj,ints_set,db]
      rw [← hJ]
      congr 2
      rw [vK hi _ xs rfl hi]
    · rw [sq]
      simp (disch:=omega) only [aF,aX,aB,bl,List.take_length,Nat.sub_self,List.replicate_zero,List.append_nil]
  · rw [Fg]
    simp (disch:=omega) only [aF,aX,aB,yY,GH,NA]
    exact hJ
theorem PL (g h:Bool) (xs ys:List Int) (hb:xs.length < 9223372036854775807):Cm 33 [.sl (some g) 1 xs.length (ints xs),.sl (some h) 1 ys.length (ints ys)] (.bool (decide (xs=ys)),[.undef,.undef]):=by
  by_cases hl:xs.length=ys.length
  · refine Cm.go wb [.undef,.undef] 0 (jv g xs.length (ints xs) h ys.length (ints ys) (0:Nat)) ?_ fun J hJ=>?_
    · refine WP.loop (H:=fun i=>jv g xs.length (ints xs) h ys.length (ints ys) (i:Nat)) (n:=xs.length) (fun i=>xs.take i=ys.take i) (fun i hi hv ih=>?_) (fun hv=>WP.fin fun J=>?_) 0 (Nat.zero_le _) (by simp)
      · have qh:i < ys.length:=by omega
        by_cases he:xs[i]=ys[i]
        · refine WP.go _ (ih (by rw [← List.take_append_getElem hi,← List.take_append_getElem qh,hv,he])) fun J hJ=>?_
          rw [nr]
          simp (disch:=omega) only [aF,aX,aW,ba,bA,aB,aP,bo,cD,dg,dj,db,fx,he,re,beq_self_eq_true,Bool.not_true]
          exact hJ
        · refine WP.fin fun J=>?_
          rw [nr]
          have cA:xs≠ys:=fun e=>he (by subst e; rfl)
          have Ym:=he
          have UN:=he
          simp (disch:=first | omega | assumption) only [aF,aX,aW,ba,bA,aB,aP,bo,cD,dg,dj,dK,decide_eq_false cA]
      · rw [nr]
        rw [List.take_length,hl,List.take_length] at hv
        simp (disch:=omega) only [aF,aX,aB,bl,decide_eq_true hv]
    · rw [wc]
      simp (disch:=omega) only [aF,aX,aB,ba,bA,fx]
      exact hJ
  · refine Cm.fin wb fun J=>?_
    have cA:xs≠ys:=fun e=>hl (by rw [e])
    rw [wc]
    simp (disch:=omega) only [aF,aX,aB,ba,bA,dK,decide_eq_false cA]
theorem PM (g:Bool) (n:Nat) (c:List D) (left:Int) (h0:0≤left) (h1:left≤1048576) (hn:n≤140737488355328):Cm 21 [.sl (some g) 1 n c,.int .i64 left] (.int .i64 (eX n left),[.undef,.undef]):=by
  refine Cm.fin Fh fun J=>?_
  rw [Fi]
  unfold eX
  by_cases h:left < n
  · rw [if_pos h]
    simp (disch:=omega) only [aB,kJ,aP]
  · rw [if_neg h]
    simp (disch:=omega) only [aB,kJ,bl]
theorem ND (g:Bool) (xs:List UInt8) (hb:xs.length≤140737488355328) (wO:xs.length < 9223372036854775807):Cm 61 [.sl (some g) 1 xs.length (bytes xs)] (.sl none 1 xs.length (bytes xs),[.undef]):=by
  refine Cm.go CS [.undef] 0 (iJ g xs.length (bytes xs) (0:Nat) xs.length (bytes (List.replicate xs.length 0))) ?_ fun J hJ=>?_
  · refine WP.loop (H:=fun i=>iJ g xs.length (bytes xs) (i:Nat) xs.length (bytes (xs.take i++List.replicate (xs.length - i) 0))) (n:=xs.length) (fun _=>True) (fun i hi _ ih=>WP.go _ (ih trivial) fun J hJ=>?_) (fun _=>WP.fin fun J=>?_) 0 (Nat.zero_le _) trivial
    · rw [qO]
      simp (disch:=first | omega | (simp; done) | (simp; omega)) only [aF,aX,aW,aB,aP,bo,cD,ld,PI,uD,EE,db]
      rw [← hJ]
      congr 2
      rw [vK hi _ xs rfl hi]
    · rw [qO]
      simp (disch:=omega) only [aF,aX,aB,bl,List.take_length,Nat.sub_self,List.replicate_zero,List.append_nil]
  · rw [CT]
    simp (disch:=omega) only [aF,aX,aB,yY,GH,NB]
    exact hJ
theorem NF (g h:Bool) (xs ys:List UInt8) (hb:xs.length < 9223372036854775807):Cm 63 [.sl (some g) 1 xs.length (bytes xs),.sl (some h) 1 ys.length (bytes ys)] (.bool (decide (xs=ys)),[.undef,.undef]):=by
  by_cases hl:xs.length=ys.length
  · refine Cm.go uE [.undef,.undef] 0 (iK g xs.length (bytes xs) h ys.length (bytes ys) (0:Nat)) ?_ fun J hJ=>?_
    · refine WP.loop (H:=fun i=>iK g xs.length (bytes xs) h ys.length (bytes ys) (i:Nat)) (n:=xs.length) (fun i=>xs.take i=ys.take i) (fun i hi hv ih=>?_) (fun hv=>WP.fin fun J=>?_) 0 (Nat.zero_le _) (by simp)
      · have qh:i < ys.length:=by omega
        by_cases he:xs[i]=ys[i]
        · refine WP.go _ (ih (by rw [← List.take_append_getElem hi,← List.take_append_getElem qh,hv,he])) fun J hJ=>?_
          rw [mE]
          simp (disch:=omega) only [aF,aX,aW,ba,bA,aB,aP,bo,cD,ld,uD,db,fx,he,re,beq_self_eq_true,Bool.not_true]
          exact hJ
        · refine WP.fin fun J=>?_
          rw [mE]
          have cA:xs≠ys:=fun e=>he (by subst e; rfl)
          have Ym:((xs[i].toNat:Int))≠(ys[i].toNat:Int):=fun e=>he (UInt8.toNat_inj.1 (by omega))
          have UN:=he
          simp (disch:=first | omega | assumption) only [aF,aX,aW,ba,bA,aB,aP,bo,cD,ld,uD,dK,decide_eq_false cA]
      · rw [mE]
        rw [List.take_length,hl,List.take_length] at hv
        simp (disch:=omega) only [aF,aX,aB,bl,decide_eq_true hv]
    · rw [uF]
      simp (disch:=omega) only [aF,aX,aB,ba,bA,fx]
      exact hJ
  · refine Cm.fin uE fun J=>?_
    have cA:xs≠ys:=fun e=>hl (by rw [e])
    rw [uF]
    simp (disch:=omega) only [aF,aX,aB,ba,bA,dK,decide_eq_false cA]
theorem NG (g:Bool) (n:Nat) (c:List D) (left:Int) (h0:0≤left) (h1:left≤1048576) (hn:n≤140737488355328):Cm 59 [.sl (some g) 1 n c,.int .i64 left] (.int .i64 (eX n left),[.undef,.undef]):=by
  refine Cm.fin CU fun J=>?_
  rw [CV]
  unfold eX
  by_cases h:left < n
  · rw [if_pos h]
    simp (disch:=omega) only [aB,kJ,aP]
  · rw [if_neg h]
    simp (disch:=omega) only [aB,kJ,bl]
theorem NH (g:Bool) (xs:List Bool) (hb:xs.length≤140737488355328) (wO:xs.length < 9223372036854775807):Cm 30 [.sl (some g) 1 xs.length (aO xs)] (.sl none 1 xs.length (aO xs),[.undef]):=by
  refine Cm.go CW [.undef] 0 (iL g xs.length (aO xs) (0:Nat) xs.length (aO (List.replicate xs.length false))) ?_ fun J hJ=>?_
  · refine WP.loop (H:=fun i=>iL g xs.length (aO xs) (i:Nat) xs.length (aO (xs.take i++List.replicate (xs.length - i) false))) (n:=xs.length) (fun _=>True) (fun i hi _ ih=>WP.go _ (ih trivial) fun J hJ=>?_) (fun _=>WP.fin fun J=>?_) 0 (Nat.zero_le _) trivial
    · rw [qP]
      simp (disch:=first | omega | (simp; done) | (simp; omega)) only [aF,aX,aW,aB,aP,bo,cD,Iy,PJ,Iz,EF,db]
      rw [← hJ]
      congr 2
      rw [vK hi _ xs rfl hi]
    · rw [qP]
      simp (disch:=omega) only [aF,aX,aB,bl,List.take_length,Nat.sub_self,List.replicate_zero,List.append_nil]
  · rw [CX]
    simp (disch:=omega) only [aF,aX,aB,yY,GH,NC]
    exact hJ
theorem NI (g h:Bool) (xs ys:List Bool) (hb:xs.length < 9223372036854775807):Cm 36 [.sl (some g) 1 xs.length (aO xs),.sl (some h) 1 ys.length (aO ys)] (.bool (decide (xs=ys)),[.undef,.undef]):=by
  by_cases hl:xs.length=ys.length
  · refine Cm.go uG [.undef,.undef] 0 (iM g xs.length (aO xs) h ys.length (aO ys) (0:Nat)) ?_ fun J hJ=>?_
    · refine WP.loop (H:=fun i=>iM g xs.length (aO xs) h ys.length (aO ys) (i:Nat)) (n:=xs.length) (fun i=>xs.take i=ys.take i) (fun i hi hv ih=>?_) (fun hv=>WP.fin fun J=>?_) 0 (Nat.zero_le _) (by simp)
      · have qh:i < ys.length:=by omega
        by_cases he:xs[i]=ys[i]
        · refine WP.go _ (ih (by rw [← List.take_append_getElem hi,← List.take_append_getElem qh,hv,he])) fun J hJ=>?_
          rw [mF]
          simp (disch:=omega) only [aF,aX,aW,ba,bA,aB,aP,bo,cD,Iy,Iz,db,fx,he,re,beq_self_eq_true,Bool.not_true]
          exact hJ
        · refine WP.fin fun J=>?_
          rw [mF]
          have cA:xs≠ys:=fun e=>he (by subst e; rfl)
          have Ym:=he
          have UN:(xs[i]==ys[i])=false:=by simpa using he
          simp (disch:=first | omega | assumption) only [aF,aX,aW,ba,bA,aB,aP,bo,cD,Iy,Iz,dK,decide_eq_false cA,re,UN,Bool.not_false]
      · rw [mF]
        rw [List.take_length,hl,List.take_length] at hv
        simp (disch:=omega) only [aF,aX,aB,bl,decide_eq_true hv]
    · rw [uH]
      simp (disch:=omega) only [aF,aX,aB,ba,bA,fx]
      exact hJ
  · refine Cm.fin uG fun J=>?_
    have cA:xs≠ys:=fun e=>hl (by rw [e])
    rw [uH]
    simp (disch:=omega) only [aF,aX,aB,ba,bA,dK,decide_eq_false cA]
theorem NJ (g:Bool) (n:Nat) (c:List D) (left:Int) (h0:0≤left) (h1:left≤1048576) (hn:n≤140737488355328):Cm 24 [.sl (some g) 1 n c,.int .i64 left] (.int .i64 (eX n left),[.undef,.undef]):=by
  refine Cm.fin CY fun J=>?_
  rw [CZ]
  unfold eX
  by_cases h:left < n
  · rw [if_pos h]
    simp (disch:=omega) only [aB,kJ,aP]
  · rw [if_neg h]
    simp (disch:=omega) only [aB,kJ,bl]
end Go.Proofs.Ytockoilcnmljiaa
namespace Go.Proofs.Ytockoilcnmljiaa
set_option maxRecDepth 100000
section
variable (pr:ez) (cv:Cv Rz) (J:Nat→St→Option Rz)
def iN (g0:Bool) (n1:Nat) (c2:List D) (i3:Int) (n4:Nat) (c5:List D):St:=(St.mk [(0,(.sl (some g0) 1 n1 c2)),(3,(.ref 10003 [] 0 none)),(4,(.int .i64 i3))] [(10003,[(.sl none 1 n4 c5)])] [] 0)
theorem C2:Told cfg Try.prog 31 Try.f31:=⟨by kernel_rfl,Try.func31,by kernel_rfl⟩
theorem C3 (g0:Bool) (n0:Nat) (c0:List D):bn pr cv J 31 Try.f31 [(.sl (some g0) 1 n0 c0)]=
    (br (pr.xJ (pr.bu n0) (pr.bu n0) 24) (J 0 (iN g0 n0 c0 0 (pr.kz (pr.bu n0)) (fD (pr.kz (pr.bu n0)) [(.nil 1)]))) none):=by kernel_rfl
theorem qQ (g0:Bool) (n1:Nat) (c2:List D) (i3:Int) (n4:Nat) (c5:List D):cB pr cv J 31 Try.f31 [.undef] 0 (iN g0 n1 c2 i3 n4 c5)=
    (br (pr.lt i3 (pr.bu n1)) (br (pr.cb i3 n1) (br (br (pr.eg 1 c2 (pr.idx 0 i3 1)) true false) (cv 27 [(.sl (some (pr.dn c2 (pr.idx 0 i3 1))) 1 (pr.cy c2 (pr.idx 0 i3 1)) (pr.cH c2 (pr.idx 0 i3 1)))] (.sl (fun eb=>(fun dD=>(.done (br (br (br (pr.nl dD) true false) true false) (br (pr.cb i3 n4) (br (br (pr.ne c5) (br (pr.qL 1 c5 (pr.idx 0 i3 1)) true false) false) (cv 999999 [(.sl none 0 0 (List.set c5 (pr.idx 0 i3 1) (.sl none 1 eb dD)))] (.sl (fun qq=>(fun kB=>(.done (J 0 (iN g0 n1 c2 (pr.ar .add .i64 i3 1) n4 kB))))))) none) none) none)))))) none) none) (some ((.sl none 1 n4 c5),[.undef]))):=by kernel_rfl
def iO (g0:Bool) (n1:Nat) (c2:List D) (g3:Bool) (n4:Nat) (c5:List D) (i6:Int):St:=(St.mk [(0,(.sl (some g0) 1 n1 c2)),(1,(.sl (some g3) 1 n4 c5)),(5,(.int .i64 i6))] [] [] 0)
theorem uI:Told cfg Try.prog 37 Try.f37:=⟨by kernel_rfl,Try.func37,by kernel_rfl⟩
theorem uJ (g0:Bool) (n0:Nat) (c0:List D) (g1:Bool) (n1:Nat) (c1:List D):bn pr cv J 37 Try.f37 [(.sl (some g0) 1 n0 c0),(.sl (some g1) 1 n1 c1)]=
    (br (br (pr.eq (pr.bu n0) (pr.bu n1)) false true) (some ((.bool false),[.undef,.undef])) (J 0 (iO g0 n0 c0 g1 n1 c1 0))):=by kernel_rfl
theorem mG (g0:Bool) (n1:Nat) (c2:List D) (g3:Bool) (n4:Nat) (c5:List D) (i6:Int):cB pr cv J 37 Try.f37 [.undef,.undef] 0 (iO g0 n1 c2 g3 n4 c5 i6)=
    (br (pr.lt i6 (pr.bu n1)) (br (pr.cb i6 n1) (br (br (pr.eg 1 c2 (pr.idx 0 i6 1)) true false) (br (pr.cb i6 n4) (br (br (pr.eg 1 c5 (pr.idx 0 i6 1)) true false) (cv 33 [(.sl (some (pr.dn c2 (pr.idx 0 i6 1))) 1 (pr.cy c2 (pr.idx 0 i6 1)) (pr.cH c2 (pr.idx 0 i6 1))),(.sl (some (pr.dn c5 (pr.idx 0 i6 1))) 1 (pr.cy c5 (pr.idx 0 i6 1)) (pr.cH c5 (pr.idx 0 i6 1)))] (.bool (fun cm=>(.done (br (br cm false true) (some ((.bool false),[.undef,.undef])) (J 0 (iO g0 n1 c2 g3 n4 c5 (pr.ar .add .i64 i6 1)))))))) none) none) none) none) (some ((.bool true),[.undef,.undef]))):=by kernel_rfl
def kL (g0:Bool) (n1:Nat) (c2:List D) (i3:Int) (i4:Int):St:=(St.mk [(0,(.sl (some g0) 1 n1 c2)),(1,(.int .i64 i3)),(5,(.int .i64 i4))] [] [] 0)
theorem uK:Told cfg Try.prog 25 Try.f25:=⟨by kernel_rfl,Try.func25,by kernel_rfl⟩
theorem uL (g0:Bool) (n0:Nat) (c0:List D) (a1:Int):bn pr cv J 25 Try.f25 [(.sl (some g0) 1 n0 c0),(.int .i64 a1)]=
    (br (pr.lt (pr.ar .sub .i64 a1 (pr.bu n0)) 0) (some ((.int .i64 (-1)),[.undef,.undef])) (J 0 (kL g0 n0 c0 (pr.ar .sub .i64 a1 (pr.bu n0)) 0))):=by kernel_rfl
theorem mH (g0:Bool) (n1:Nat) (c2:List D) (i3:Int) (i4:Int):cB pr cv J 25 Try.f25 [.undef,.undef] 0 (kL g0 n1 c2 i3 i4)=
    (br (pr.lt i4 (pr.bu n1)) (br (pr.cb i4 n1) (br (br (pr.eg 1 c2 (pr.idx 0 i4 1)) true false) (cv 21 [(.sl (some (pr.dn c2 (pr.idx 0 i4 1))) 1 (pr.cy c2 (pr.idx 0 i4 1)) (pr.cH c2 (pr.idx 0 i4 1))),(.int .i64 i3)] (.int (fun gF=>(.done (br (pr.lt gF 0) (some ((.int .i64 (-1)),[.undef,.undef])) (J 0 (kL g0 n1 c2 gF (pr.ar .add .i64 i4 1)))))))) none) none) (some ((.int .i64 i3),[.undef,.undef]))):=by kernel_rfl
theorem Fj:Told cfg Try.prog 28 Try.f28:=⟨by kernel_rfl,Try.func28,by kernel_rfl⟩
theorem Fk (g0:Bool) (n0:Nat) (c0:List D) (g1:Bool) (n1:Nat) (c1:List D) (a2:Bool) (a3:Bool) (a4:Bool) (a5:Int):bn pr cv J 28 Try.f28 [(.agg [(.sl (some g0) 1 n0 c0),(.sl (some g1) 1 n1 c1),(.bool a2),(.bool a3),(.bool a4),(.int .i64 a5)])]=
    (cv 27 [(.sl (some g0) 1 n0 c0)] (.sl (fun eb=>(fun dD=>(.done (br (br (br (pr.nl dD) true false) true false) (cv 31 [(.sl (some g1) 1 n1 c1)] (.sl (fun qq=>(fun kB=>(.done (br (br (br (pr.nl kB) true false) true false) (some ((.agg [(.sl none 1 eb dD),(.sl none 1 qq kB),(.bool a2),(.bool a3),(.bool a4),(.int .i64 a5)]),[.undef])) none)))))) none)))))):=by kernel_rfl
theorem Fl:Told cfg Try.prog 34 Try.f34:=⟨by kernel_rfl,Try.func34,by kernel_rfl⟩
theorem Fm (g0:Bool) (n0:Nat) (c0:List D) (g1:Bool) (n1:Nat) (c1:List D) (a2:Bool) (a3:Bool) (a4:Bool) (a5:Int) (g6:Bool) (n6:Nat) (c6:List D) (g7:Bool) (n7:Nat) (c7:List D) (a8:Bool) (a9:Bool) (a10:Bool) (a11:Int):bn pr cv J 34 Try.f34 [(.agg [(.sl (some g0) 1 n0 c0),(.sl (some g1) 1 n1 c1),(.bool a2),(.bool a3),(.bool a4),(.int .i64 a5)]),(.agg [(.sl (some g6) 1 n6 c6),(.sl (some g7) 1 n7 c7),(.bool a8),(.bool a9),(.bool a10),(.int .i64 a11)])]=
    let y1:Option (D × List D):=(some ((.bool false),[.undef,.undef]))
    (cv 33 [(.sl (some g0) 1 n0 c0),(.sl (some g6) 1 n6 c6)] (.bool (fun cm=>(.done (br (br cm false true) y1 (cv 37 [(.sl (some g1) 1 n1 c1),(.sl (some g7) 1 n7 c7)] (.bool (fun jw=>(.done (br (br jw false true) y1 (br (br (pr.beq a2 a8) false true) y1 (br (br (pr.beq a3 a9) false true) y1 (br (br (pr.beq a4 a10) false true) y1 (br (br (pr.eq a5 a11) false true) y1 (some ((.bool true),[.undef,.undef])))))))))))))))):=by kernel_rfl
theorem Fo:Told cfg Try.prog 22 Try.f22:=⟨by kernel_rfl,Try.func22,by kernel_rfl⟩
theorem Fp (g0:Bool) (n0:Nat) (c0:List D) (g1:Bool) (n1:Nat) (c1:List D) (a2:Bool) (a3:Bool) (a4:Bool) (a5:Int) (a6:Int):bn pr cv J 22 Try.f22 [(.agg [(.sl (some g0) 1 n0 c0),(.sl (some g1) 1 n1 c1),(.bool a2),(.bool a3),(.bool a4),(.int .i64 a5)]),(.int .i64 a6)]=
    let y1:Option (D × List D):=(some ((.int .i64 (-1)),[.undef,.undef]))
    (cv 21 [(.sl (some g0) 1 n0 c0),(.int .i64 a6)] (.int (fun gF=>(.done (br (pr.lt gF 0) y1 (cv 25 [(.sl (some g1) 1 n1 c1),(.int .i64 gF)] (.int (fun lX=>(.done (br (pr.lt lX 0) y1 (some ((.int .i64 lX),[.undef,.undef])))))))))))):=by kernel_rfl
theorem C4:Told cfg Try.prog 29 Try.f29:=⟨by kernel_rfl,Try.func29,by kernel_rfl⟩
theorem C5 (g0:Bool) (n0:Nat) (c0:List D) (g1:Bool) (n1:Nat) (c1:List D):bn pr cv J 29 Try.f29 [(.agg [(.sl (some g0) 1 n0 c0),(.sl (some g1) 1 n1 c1)])]=
    (cv 61 [(.sl (some g0) 1 n0 c0)] (.sl (fun eb=>(fun dD=>(.done (br (br (br (pr.nl dD) true false) true false) (cv 61 [(.sl (some g1) 1 n1 c1)] (.sl (fun qq=>(fun kB=>(.done (br (br (br (pr.nl kB) true false) true false) (some ((.agg [(.sl none 1 eb dD),(.sl none 1 qq kB)]),[.undef])) none)))))) none)))))):=by kernel_rfl
theorem C6:Told cfg Try.prog 35 Try.f35:=⟨by kernel_rfl,Try.func35,by kernel_rfl⟩
theorem C7 (g0:Bool) (n0:Nat) (c0:List D) (g1:Bool) (n1:Nat) (c1:List D) (g2:Bool) (n2:Nat) (c2:List D) (g3:Bool) (n3:Nat) (c3:List D):bn pr cv J 35 Try.f35 [(.agg [(.sl (some g0) 1 n0 c0),(.sl (some g1) 1 n1 c1)]),(.agg [(.sl (some g2) 1 n2 c2),(.sl (some g3) 1 n3 c3)])]=
    let y1:Option (D × List D):=(some ((.bool false),[.undef,.undef]))
    (cv 63 [(.sl (some g0) 1 n0 c0),(.sl (some g2) 1 n2 c2)] (.bool (fun cm=>(.done (br (br cm false true) y1 (cv 63 [(.sl (some g1) 1 n1 c1),(.sl (some g3) 1 n3 c3)] (.bool (fun jw=>(.done (br (br jw false true) y1 (some ((.bool true),[.undef,.undef])))))))))))):=by kernel_rfl
theorem C8:Told cfg Try.prog 23 Try.f23:=⟨by kernel_rfl,Try.func23,by kernel_rfl⟩
theorem C9 (g0:Bool) (n0:Nat) (c0:List D) (g1:Bool) (n1:Nat) (c1:List D) (a2:Int):bn pr cv J 23 Try.f23 [(.agg [(.sl (some g0) 1 n0 c0),(.sl (some g1) 1 n1 c1)]),(.int .i64 a2)]=
    let y1:Option (D × List D):=(some ((.int .i64 (-1)),[.undef,.undef]))
    (cv 59 [(.sl (some g0) 1 n0 c0),(.int .i64 a2)] (.int (fun gF=>(.done (br (pr.lt gF 0) y1 (cv 59 [(.sl (some g1) 1 n1 c1),(.int .i64 gF)] (.int (fun lX=>(.done (br (pr.lt lX 0) y1 (some ((.int .i64 lX),[.undef,.undef])))))))))))):=by kernel_rfl
theorem Fq:Told cfg Try.prog 9 Try.f9:=⟨by kernel_rfl,Try.func9,by kernel_rfl⟩
theorem Fs (a0:Int) (a1:Bool) (a2:Bool) (g3:Bool) (n3:Nat) (c3:List D) (g4:Bool) (n4:Nat) (c4:List D) (g5:Bool) (n5:Nat) (c5:List D) (a6:Bool) (a7:Bool) (a8:Bool) (a9:Int) (g10:Bool) (EG:Nat) (EH:List D) (g11:Bool) (eh:Nat) (EI:List D) (g12:Bool) (jW:Nat) (eL:List D) (g13:Bool) (lA:Nat) (kV:List D) (g14:Bool) (EJ:Nat) (mA:List D) (g15:Bool) (tI:Nat) (EK:List D):bn pr cv J 9 Try.f9 [(.agg [(.int .i64 a0),(.bool a1),(.bool a2),(.sl (some g3) 1 n3 c3),(.sl (some g4) 1 n4 c4),(.sl (some g5) 1 n5 c5),(.bool a6),(.bool a7),(.bool a8),(.int .i64 a9),(.sl (some g10) 1 EG EH),(.sl (some g11) 1 eh EI),(.sl (some g12) 1 jW eL),(.sl (some g13) 1 lA kV),(.sl (some g14) 1 EJ mA),(.sl (some g15) 1 tI EK)])]=
    (cv 27 [(.sl (some g3) 1 n3 c3)] (.sl (fun eb=>(fun dD=>(.done (br (br (br (pr.nl dD) true false) true false) (cv 28 [(.agg [(.sl (some g4) 1 n4 c4),(.sl (some g5) 1 n5 c5),(.bool a6),(.bool a7),(.bool a8),(.int .i64 a9)])] (.sl (fun qq=>(fun kB=>(.sl (fun vn4=>(fun Yn=>(.bool (fun qt=>(.bool (fun NK=>(.bool (fun NL=>(.int (fun vx9=>(.done (br (br (br (pr.nl kB) (br (pr.nl Yn) true false) false) true false) (cv 29 [(.agg [(.sl (some g10) 1 EG EH),(.sl (some g11) 1 eh EI)])] (.sl (fun Zy=>(fun UO=>(.sl (fun Zz=>(fun UP=>(.done (br (br (br (pr.nl UO) (br (pr.nl UP) true false) false) true false) (cv 30 [(.sl (some g12) 1 jW eL)] (.sl (fun ZA=>(fun UQ=>(.done (br (br (br (pr.nl UQ) true false) true false) (cv 31 [(.sl (some g13) 1 lA kV)] (.sl (fun ZB=>(fun UR=>(.done (br (br (br (pr.nl UR) true false) true false) (cv 30 [(.sl (some g14) 1 EJ mA)] (.sl (fun ZC=>(fun US=>(.done (br (br (br (pr.nl US) true false) true false) (cv 27 [(.sl (some g15) 1 tI EK)] (.sl (fun ZD=>(fun UT=>(.done (br (br (br (pr.nl UT) true false) true false) (some ((.agg [(.int .i64 a0),(.bool a1),(.bool a2),(.sl none 1 eb dD),(.sl none 1 qq kB),(.sl none 1 vn4 Yn),(.bool qt),(.bool NK),(.bool NL),(.int .i64 vx9),(.sl none 1 Zy UO),(.sl none 1 Zz UP),(.sl none 1 ZA UQ),(.sl none 1 ZB UR),(.sl none 1 ZC US),(.sl none 1 ZD UT)]),[.undef])) none)))))) none)))))) none)))))) none)))))) none))))))))) none))))))))))))))))) none)))))):=by kernel_rfl
theorem Ft:Told cfg Try.prog 11 Try.f11:=⟨by kernel_rfl,Try.func11,by kernel_rfl⟩
theorem Fu (a0:Int) (a1:Bool) (a2:Bool) (g3:Bool) (n3:Nat) (c3:List D) (g4:Bool) (n4:Nat) (c4:List D) (g5:Bool) (n5:Nat) (c5:List D) (a6:Bool) (a7:Bool) (a8:Bool) (a9:Int) (g10:Bool) (EG:Nat) (EH:List D) (g11:Bool) (eh:Nat) (EI:List D) (g12:Bool) (jW:Nat) (eL:List D) (g13:Bool) (lA:Nat) (kV:List D) (g14:Bool) (EJ:Nat) (mA:List D) (g15:Bool) (tI:Nat) (EK:List D) (a16:Int) (a17:Bool) (a18:Bool) (g19:Bool) (Yo:Nat) (Yp:List D) (g20:Bool) (Yq:Nat) (Yr:List D) (g21:Bool) (Yt:Nat) (Yu:List D) (a22:Bool) (a23:Bool) (a24:Bool) (a25:Int) (Yv:Bool) (Yw:Nat) (Yx:List D) (Yy:Bool) (Yz:Nat) (YA:List D) (YB:Bool) (YC:Nat) (YD:List D) (YE:Bool) (n29:Nat) (YF:List D) (YG:Bool) (n30:Nat) (YH:List D) (YI:Bool) (n31:Nat) (YJ:List D):bn pr cv J 11 Try.f11 [(.agg [(.int .i64 a0),(.bool a1),(.bool a2),(.sl (some g3) 1 n3 c3),(.sl (some g4) 1 n4 c4),(.sl (some g5) 1 n5 c5),(.bool a6),(.bool a7),(.bool a8),(.int .i64 a9),(.sl (some g10) 1 EG EH),(.sl (some g11) 1 eh EI),(.sl (some g12) 1 jW eL),(.sl (some g13) 1 lA kV),(.sl (some g14) 1 EJ mA),(.sl (some g15) 1 tI EK)]),(.agg [(.int .i64 a16),(.bool a17),(.bool a18),(.sl (some g19) 1 Yo Yp),(.sl (some g20) 1 Yq Yr),(.sl (some g21) 1 Yt Yu),(.bool a22),(.bool a23),(.bool a24),(.int .i64 a25),(.sl (some Yv) 1 Yw Yx),(.sl (some Yy) 1 Yz YA),(.sl (some YB) 1 YC YD),(.sl (some YE) 1 n29 YF),(.sl (some YG) 1 n30 YH),(.sl (some YI) 1 n31 YJ)])]=
    let y1:Option (D × List D):=(some ((.bool false),[.undef,.undef]))
    (br (br (pr.eq a0 a16) false true) y1 (br (br (pr.beq a1 a17) false true) y1 (br (br (pr.beq a2 a18) false true) y1 (cv 33 [(.sl (some g3) 1 n3 c3),(.sl (some g19) 1 Yo Yp)] (.bool (fun cm=>(.done (br (br cm false true) y1 (cv 34 [(.agg [(.sl (some g4) 1 n4 c4),(.sl (some g5) 1 n5 c5),(.bool a6),(.bool a7),(.bool a8),(.int .i64 a9)]),(.agg [(.sl (some g20) 1 Yq Yr),(.sl (some g21) 1 Yt Yu),(.bool a22),(.bool a23),(.bool a24),(.int .i64 a25)])] (.bool (fun jw=>(.done (br (br jw false true) y1 (cv 35 [(.agg [(.sl (some g10) 1 EG EH),(.sl (some g11) 1 eh EI)]),(.agg [(.sl (some Yv) 1 Yw Yx),(.sl (some Yy) 1 Yz YA)])] (.bool (fun ix=>(.done (br (br ix false true) y1 (cv 36 [(.sl (some g12) 1 jW eL),(.sl (some YB) 1 YC YD)] (.bool (fun x7=>(.done (br (br x7 false true) y1 (cv 37 [(.sl (some g13) 1 lA kV),(.sl (some YE) 1 n29 YF)] (.bool (fun IA=>(.done (br (br IA false true) y1 (cv 36 [(.sl (some g14) 1 EJ mA),(.sl (some YG) 1 n30 YH)] (.bool (fun sr=>(.done (br (br sr false true) y1 (cv 33 [(.sl (some g15) 1 tI EK),(.sl (some YI) 1 n31 YJ)] (.bool (fun qt=>(.done (br (br qt false true) y1 (some ((.bool true),[.undef,.undef])))))))))))))))))))))))))))))))))))))))):=by kernel_rfl
theorem Fv:Told cfg Try.prog 7 Try.f7:=⟨by kernel_rfl,Try.func7,by kernel_rfl⟩
theorem Fw (a0:Int) (a1:Bool) (a2:Bool) (g3:Bool) (n3:Nat) (c3:List D) (g4:Bool) (n4:Nat) (c4:List D) (g5:Bool) (n5:Nat) (c5:List D) (a6:Bool) (a7:Bool) (a8:Bool) (a9:Int) (g10:Bool) (EG:Nat) (EH:List D) (g11:Bool) (eh:Nat) (EI:List D) (g12:Bool) (jW:Nat) (eL:List D) (g13:Bool) (lA:Nat) (kV:List D) (g14:Bool) (EJ:Nat) (mA:List D) (g15:Bool) (tI:Nat) (EK:List D) (a16:Int):bn pr cv J 7 Try.f7 [(.agg [(.int .i64 a0),(.bool a1),(.bool a2),(.sl (some g3) 1 n3 c3),(.sl (some g4) 1 n4 c4),(.sl (some g5) 1 n5 c5),(.bool a6),(.bool a7),(.bool a8),(.int .i64 a9),(.sl (some g10) 1 EG EH),(.sl (some g11) 1 eh EI),(.sl (some g12) 1 jW eL),(.sl (some g13) 1 lA kV),(.sl (some g14) 1 EJ mA),(.sl (some g15) 1 tI EK)]),(.int .i64 a16)]=
    let y1:Option (D × List D):=(some ((.int .i64 (-1)),[.undef,.undef]))
    (cv 21 [(.sl (some g3) 1 n3 c3),(.int .i64 a16)] (.int (fun gF=>(.done (br (pr.lt gF 0) y1 (cv 22 [(.agg [(.sl (some g4) 1 n4 c4),(.sl (some g5) 1 n5 c5),(.bool a6),(.bool a7),(.bool a8),(.int .i64 a9)]),(.int .i64 gF)] (.int (fun lX=>(.done (br (pr.lt lX 0) y1 (cv 23 [(.agg [(.sl (some g10) 1 EG EH),(.sl (some g11) 1 eh EI)]),(.int .i64 lX)] (.int (fun uM=>(.done (br (pr.lt uM 0) y1 (cv 24 [(.sl (some g12) 1 jW eL),(.int .i64 uM)] (.int (fun Kz=>(.done (br (pr.lt Kz 0) y1 (cv 25 [(.sl (some g13) 1 lA kV),(.int .i64 Kz)] (.int (fun nN=>(.done (br (pr.lt nN 0) y1 (cv 24 [(.sl (some g14) 1 EJ mA),(.int .i64 nN)] (.int (fun su=>(.done (br (pr.lt su 0) y1 (cv 21 [(.sl (some g15) 1 tI EK),(.int .i64 su)] (.int (fun YK=>(.done (br (pr.lt YK 0) y1 (some ((.int .i64 YK),[.undef,.undef]))))))))))))))))))))))))))))))))))))):=by kernel_rfl
end
def sv (xss:List (List Int)):Prop:=xss.length≤1048576∧∀ xs∈xss,xs.length≤1048576
structure cO (m:aH):Prop where
  aM:m.aM.length≤1048576
  bits:sv m.bits
structure eT (s:aG):Prop where
  a:s.a.length≤1048576
  b:s.b.length≤1048576
structure ch (n:ai):Prop where
  image:n.image.length≤1048576
  mt:cO n.mt
  dr:eT n.dr
  conn:n.conn.length≤1048576
  sync:sv n.sync
  bp:n.bp.length≤1048576
  wait:n.wait.length≤1048576
section
variable {x y:Rz} {R:Type} {u v:R}
theorem gK {g:Bool} {xss:List (List Int)} {i:Nat} (h:i < xss.length):br (U.eg 1 (rows (some g) xss) i) u v=u:=by simp [U,rows,br,List.getElem?_eq_getElem h]
theorem gL {g:Bool} {xss:List (List Int)} {i:Nat} (h:i < xss.length):U.dn (rows (some g) xss) i=g:=by simp [U,rows,List.getElem?_eq_getElem h,cG]
theorem gM {g:Option Bool} {xss:List (List Int)} {i:Nat} (h:i < xss.length):U.cy (rows g xss) i=xss[i].length:=by simp [U,rows,List.getElem?_eq_getElem h,cN]
theorem ie {g:Option Bool} {xss:List (List Int)} {i:Nat} (h:i < xss.length):U.cH (rows g xss) i=ints xss[i]:=by simp [U,rows,List.getElem?_eq_getElem h,cC]
theorem Sf {xss:List (List Int)} {i:Nat} (h:i < xss.length):br (U.qL 1 (rows none xss) i) u v=u:=by simp [U,rows,br,List.getElem?_eq_getElem h]
theorem UU {g:Option Bool} {xss:List (List Int)} (h:0 < xss.length):br (U.ne (rows g xss)) u v=u:=by
  cases xss with
  | nil=>simp at h
  | cons _ _=>rfl
theorem IB {xss:List (List Int)} {i:Nat} {ys:List Int}:List.set (rows none xss) i (.sl none 1 ys.length (ints ys))=rows none (xss.set i ys):=by simp [rows,List.map_set]
theorem NM (n:Nat):fD n [.nil 1]=rows none (List.replicate n []):=by
  unfold fD
  induction n with
  | zero=>rfl
  | succ n ih=>simpa [List.replicate_succ,rows,ry,ints] using ih
theorem Rf {g:Option Bool} (hg:g≠some true) (xss:List (List Int)):U.nl (rows g xss)=true:=lW (by
  intro d hd
  obtain ⟨xs,_,rfl⟩:=List.mem_map.1 hd
  have h1:bD (ints xs)=true:=lz xs
  cases g with
  | none=>simpa [bz] using h1
  | some g=>cases g with
    | false=>simpa [bz] using h1
    | true=>exact absurd rfl hg)
theorem IC (xss:List (List Int)):U.nl (rows none xss)=true:=Rf (by simp) xss
end
section
variable (t:bO Rz)
theorem AA (g:Bool) (xs:List Int) (hb:xs.length≤17592186044416):bc 27 [.sl (some g) 1 xs.length (ints xs)] t=feed t [.sl none 1 xs.length (ints xs)]:=bq (PK g xs hb (by omega)) (by kernel_rfl) t
theorem NN (g:Bool) (xs:List UInt8) (hb:xs.length≤140737488355328):bc 61 [.sl (some g) 1 xs.length (bytes xs)] t=feed t [.sl none 1 xs.length (bytes xs)]:=bq (ND g xs hb (by omega)) (by kernel_rfl) t
theorem NO (g:Bool) (xs:List Bool) (hb:xs.length≤140737488355328):bc 30 [.sl (some g) 1 xs.length (aO xs)] t=feed t [.sl none 1 xs.length (aO xs)]:=bq (NH g xs hb (by omega)) (by kernel_rfl) t
theorem sw (g h:Bool) (xs ys:List Int) (hb:xs.length < 9223372036854775807):bc 33 [.sl (some g) 1 xs.length (ints xs),.sl (some h) 1 ys.length (ints ys)] t=feed t [.bool (decide (xs=ys))]:=bq (PL g h xs ys hb) (by kernel_rfl) t
theorem EL (g h:Bool) (xs ys:List UInt8) (hb:xs.length < 9223372036854775807):bc 63 [.sl (some g) 1 xs.length (bytes xs),.sl (some h) 1 ys.length (bytes ys)] t=feed t [.bool (decide (xs=ys))]:=bq (NF g h xs ys hb) (by kernel_rfl) t
theorem NP (g h:Bool) (xs ys:List Bool) (hb:xs.length < 9223372036854775807):bc 36 [.sl (some g) 1 xs.length (aO xs),.sl (some h) 1 ys.length (aO ys)] t=feed t [.bool (decide (xs=ys))]:=bq (NI g h xs ys hb) (by kernel_rfl) t
theorem sx (g:Bool) (n:Nat) (c:List D) (left:Int) (h0:0≤left) (h1:left≤1048576) (hn:n≤140737488355328):bc 21 [.sl (some g) 1 n c,.int .i64 left] t=feed t [.int .i64 (eX n left)]:=bq (PM g n c left h0 h1 hn) (by kernel_rfl) t
theorem EM (g:Bool) (n:Nat) (c:List D) (left:Int) (h0:0≤left) (h1:left≤1048576) (hn:n≤140737488355328):bc 59 [.sl (some g) 1 n c,.int .i64 left] t=feed t [.int .i64 (eX n left)]:=bq (NG g n c left h0 h1 hn) (by kernel_rfl) t
theorem EN (g:Bool) (n:Nat) (c:List D) (left:Int) (h0:0≤left) (h1:left≤1048576) (hn:n≤140737488355328):bc 24 [.sl (some g) 1 n c,.int .i64 left] t=feed t [.int .i64 (eX n left)]:=bq (NJ g n c left h0 h1 hn) (by kernel_rfl) t
end
theorem ct {R:Type} (f:Int→bO R) (k:IntKind) (n:Int) (l:List D):feed (.int f) (.int k n::l)=feed (f n) l:=rfl
theorem aA {R:Type} (f:Bool→bO R) (b:Bool) (l:List D):feed (.bool f) (.bool b::l)=feed (f b) l:=rfl
theorem dM {R:Type} (f:Nat→List D→bO R) (s n:Nat) (cs l:List D):feed (.sl f) (.sl none s n cs::l)=feed (f n cs) l:=rfl
theorem ak {R:Type} (x:Option R) (l:List D):feed (.done x) l=x:=rfl
theorem NQ (g:Bool) (xss:List (List Int)) (hb:sv xss):Cm 31 [sR (some g) xss] (sR none xss,[.undef]):=by
  have hl:=hb.1
  refine Cm.go C2 [.undef] 0 (iN g xss.length (rows (some g) xss) (0:Nat) xss.length (rows none (List.replicate xss.length []))) ?_ fun J hJ=>?_
  · refine WP.loop (H:=fun i=>iN g xss.length (rows (some g) xss) (i:Nat) xss.length (rows none (xss.take i++List.replicate (xss.length - i) []))) (n:=xss.length) (fun _=>True) (fun i hi _ ih=>WP.go _ (ih trivial) fun J hJ=>?_) (fun _=>WP.fin fun J=>?_) 0 (Nat.zero_le _) trivial
    · rw [qQ]
      have hx:xss[i].length≤1048576:=hb.2 _ (List.getElem_mem hi)
      simp (disch:=first | omega | (simp; done) | (simp; omega)) only [aF,aX,aW,aB,aP,bo,cD,gK,gL,gM,ie,AA,dM,ak,lz,Sf,UU,IB,db,Nz]
      rw [vK hi _ xss rfl hi]
      exact hJ
    · rw [qQ]
      simp (disch:=omega) only [aF,aX,aB,bl,List.take_length,Nat.sub_self,List.replicate_zero,List.append_nil]
  · rw [C3]
    simp (disch:=omega) only [aF,aX,aB,yY,GH,NM]
    exact hJ
theorem NR (g h:Bool) (xs ys:List (List Int)) (hb:sv xs):Cm 37 [sR (some g) xs,sR (some h) ys] (.bool (decide (xs=ys)),[.undef,.undef]):=by
  have hlen:=hb.1
  by_cases hl:xs.length=ys.length
  · refine Cm.go uI [.undef,.undef] 0 (iO g xs.length (rows (some g) xs) h ys.length (rows (some h) ys) (0:Nat)) ?_ fun J hJ=>?_
    · refine WP.loop (H:=fun i=>iO g xs.length (rows (some g) xs) h ys.length (rows (some h) ys) (i:Nat)) (n:=xs.length) (fun i=>xs.take i=ys.take i) (fun i hi hv ih=>?_) (fun hv=>WP.fin fun J=>?_) 0 (Nat.zero_le _) (by simp)
      · have qh:i < ys.length:=by omega
        have hx:xs[i].length≤1048576:=hb.2 _ (List.getElem_mem hi)
        by_cases he:xs[i]=ys[i]
        · refine WP.go _ (ih (by rw [← List.take_append_getElem hi,← List.take_append_getElem qh,hv,he])) fun J hJ=>?_
          rw [mG]
          simp (disch:=omega) only [aF,aX,aW,ba,bA,aB,aP,bo,cD,gK,gL,gM,ie,sw,aA,ak,decide_eq_true he,db]
          exact hJ
        · refine WP.fin fun J=>?_
          rw [mG]
          have cA:xs≠ys:=fun e=>he (by subst e; rfl)
          simp (disch:=omega) only [aF,aX,aW,ba,bA,aB,aP,bo,cD,gK,gL,gM,ie,sw,aA,ak,decide_eq_false he,decide_eq_false cA]
      · rw [mG]
        rw [List.take_length,hl,List.take_length] at hv
        simp (disch:=omega) only [aF,aX,aB,bl,decide_eq_true hv]
    · rw [uJ]
      simp (disch:=omega) only [aF,aX,aB,ba,bA,fx]
      exact hJ
  · refine Cm.fin uI fun J=>?_
    have cA:xs≠ys:=fun e=>hl (by rw [e])
    rw [uJ]
    simp (disch:=omega) only [aF,aX,aB,ba,bA,dK,decide_eq_false cA]
def ig (v:Int) (k:Int→Int):Int:=if v < 0 then -1 else k v
def tJ {α:Type} (f:α→Int→Int):List α→Int→Int
  | [],l=>l
  | x::xs,l=>ig (f x l) (tJ f xs)
theorem jx {n:Nat} {l:Int} (h:0≤l):eX n l≤l∧-1≤eX n l∧(0≤eX n l→(n:Int)≤l):=by unfold eX; split<;>omega
theorem uN {v:Int} (k:Int→Int) (h:v < 0):ig v k=-1:=if_pos h
theorem uO {v:Int} (k:Int→Int) (h:0≤v):ig v k=k v:=if_neg (by omega)
theorem BR {α:Type} {f:α→Int→Int} {Q:α→Prop} (hf:∀ x l,0≤l→f x l≤l∧-1≤f x l∧(0≤f x l→l≤1048576→Q x)):∀ (xs:List α) (l:Int),0≤l→l≤1048576→tJ f xs l≤l∧-1≤tJ f xs l∧(0≤tJ f xs l→∀ x∈xs,Q x)
  | [],l,h,_=>⟨Int.le_refl _,by show -1≤l; omega,fun _=>by simp⟩
  | x::xs,l,h,hm=>by
    obtain ⟨h1,h2,h3⟩:=hf x l h
    simp only [tJ]
    by_cases hv:f x l < 0
    · rw [uN _ hv]
      exact ⟨by omega,by omega,by omega⟩
    · rw [uO _ (by omega)]
      obtain ⟨g1,g2,g3⟩:=BR hf xs (f x l) (by omega) (by omega)
      refine ⟨by omega,g2,fun hp y hy=>?_⟩
      rcases List.mem_cons.1 hy with rfl | hy
      · exact h3 (by omega) hm
      · exact g3 hp y hy
def uP (xss:List (List Int)) (l:Int):Int:=ig (eX xss.length l) (tJ (fun xs l=>eX xs.length l) xss)
theorem ID {xss:List (List Int)} {l:Int} (h:0≤l) (hm:l≤1048576):uP xss l≤l∧-1≤uP xss l∧(0≤uP xss l→sv xss):=by
  obtain ⟨h1,h2,h3⟩:=jx (n:=xss.length) h
  unfold uP
  by_cases hv:eX xss.length l < 0
  · rw [uN _ hv]
    exact ⟨by omega,by omega,by omega⟩
  · rw [uO _ (by omega)]
    obtain ⟨g1,g2,g3⟩:=BR (f:=fun (xs:List Int) l=>eX xs.length l) (Q:=fun xs=>xs.length≤1048576) (fun xs l hl=>by
      obtain ⟨a1,a2,a3⟩:=jx (n:=xs.length) hl
      exact ⟨a1,a2,fun hh hm=>by have:=a3 hh; omega⟩) xss (eX xss.length l) (by omega) (by omega)
    exact ⟨by omega,g2,fun hp=>⟨by have:=h3 (by omega); omega,g3 hp⟩⟩
theorem NS (g:Bool) (xss:List (List Int)) (left:Int) (h0:0≤left) (h1:left≤1048576) (hn:xss.length≤140737488355328) (hx:∀ xs∈xss,xs.length≤140737488355328):Cm 25 [sR (some g) xss,.int .i64 left] (.int .i64 (uP xss left),[.undef,.undef]):=by
  have hlen:=jx (n:=xss.length) h0
  have loop:∀ k i (l:Int),i+k=xss.length→0≤l→l≤1048576→WP 25 Try.f25 [.undef,.undef] 0 (kL g xss.length (rows (some g) xss) l (i:Nat)) (.int .i64 (tJ (fun xs l=>eX xs.length l) (xss.drop i) l),[.undef,.undef]):=by
    intro k
    induction k with
    | zero=>
      intro i l hi hl hm
      refine WP.fin fun J=>?_
      rw [mH,List.drop_of_length_le (by omega)]
      simp (disch:=omega) only [aB,bl,tJ]
    | succ k ih=>
      intro i l hi hl hm
      have qh:i < xss.length:=by omega
      have hxi:=hx _ (List.getElem_mem qh)
      obtain ⟨a1,a2,a3⟩:=jx (n:=xss[i].length) hl
      have e:tJ (fun xs l=>eX xs.length l) (xss.drop i) l=ig (eX xss[i].length l) (tJ (fun xs l=>eX xs.length l) (xss.drop (i+1))):=by
        rw [← List.getElem_cons_drop qh]
        rfl
      rw [e]
      by_cases hv:eX xss[i].length l < 0
      · refine WP.fin fun J=>?_
        rw [mH,uN _ hv]
        simp (disch:=omega) only [aF,aX,aW,aB,aP,bo,cD,gK,gL,gM,ie,sx,ct,ak]
      · rw [uO _ (by omega)]
        refine WP.go _ (ih (i+1) (eX xss[i].length l) (by omega) (by omega) (by omega)) fun J hJ=>?_
        rw [mH]
        have ky:0≤eX xss[i].length l:=by omega
        simp (disch:=omega) only [aF,aX,aW,aB,aP,bo,cD,gK,gL,gM,ie,sx,ct,ak,bl,db]
        exact hJ
  by_cases h:left < xss.length
  · refine Cm.fin uK fun J=>?_
    rw [uL,uP,uN _ (by unfold eX; rw [if_pos h]; omega)]
    simp (disch:=omega) only [aB,kJ,aP]
  · have e:eX xss.length left=left - xss.length:=if_neg h
    rw [uP,uO _ (by omega),e]
    refine Cm.go uK [.undef,.undef] 0 _ (loop xss.length 0 (left - xss.length) (by omega) (by omega) (by omega)) fun J hJ=>?_
    rw [uL]
    simp (disch:=omega) only [aB,kJ,bl]
    exact hJ
section
variable (t:bO Rz)
theorem EO (g:Bool) (xss:List (List Int)) (hb:sv xss):bc 31 [.sl (some g) 1 xss.length (rows (some g) xss)] t=feed t [.sl none 1 xss.length (rows none xss)]:=bq (NQ g xss hb) (by kernel_rfl) t
theorem EP (g h:Bool) (xs ys:List (List Int)) (hb:sv xs):bc 37 [.sl (some g) 1 xs.length (rows (some g) xs),.sl (some h) 1 ys.length (rows (some h) ys)] t=feed t [.bool (decide (xs=ys))]:=bq (NR g h xs ys hb) (by kernel_rfl) t
theorem ER (g:Bool) (xss:List (List Int)) (left:Int) (h0:0≤left) (h1:left≤1048576) (hn:xss.length≤140737488355328) (hx:∀ xs∈xss,xs.length≤140737488355328):bc 25 [.sl (some g) 1 xss.length (rows (some g) xss),.int .i64 left] t=feed t [.int .i64 (uP xss left)]:=bq (NS g xss left h0 h1 hn hx) (by kernel_rfl) t
end
theorem PN (g:Bool) (m:aH) (h:cO m):Cm 28 [.agg (cd (some g) m)] (.agg (cd none m),[.undef]):=by
  have h1:=h.aM
  refine Cm.fin Fj fun J=>?_
  rw [Fk]
  simp (disch:=first | omega | exact h.bits) only [AA,EO,dM,ak,lz,IC,aF]
theorem NT (g:Bool) (s:aG) (h:eT s):Cm 29 [.agg (dO (some g) s)] (.agg (dO none s),[.undef]):=by
  have h1:=h.a
  have h2:=h.b
  refine Cm.fin C4 fun J=>?_
  rw [C5]
  simp (disch:=omega) only [NN,dM,ak,eI,aF]
theorem PO (g h:Bool) (m:aH) (ok:cO m):Cm 34 [.agg (cd (some g) m),.agg (cd (some h) m)] (.bool true,[.undef,.undef]):=by
  have h1:=ok.aM
  refine Cm.fin Fl fun J=>?_
  rw [Fm]
  simp (disch:=first | omega | exact ok.bits) only [sw,EP,aA,ak,decide_true,aF,aX,re,beq_self_eq_true,fx]
theorem NU (g h:Bool) (s:aG) (ok:eT s):Cm 35 [.agg (dO (some g) s),.agg (dO (some h) s)] (.bool true,[.undef,.undef]):=by
  have h1:=ok.a
  have h2:=ok.b
  refine Cm.fin C6 fun J=>?_
  rw [C7]
  simp (disch:=omega) only [EL,aA,ak,decide_true,aF,aX]
structure IE (m:aH):Prop where
  aM:m.aM.length≤140737488355328
  bits:m.bits.length≤140737488355328
  bit:∀ xs∈m.bits,xs.length≤140737488355328
structure sy (n:ai):Prop where
  image:n.image.length≤140737488355328
  mt:IE n.mt
  a:n.dr.a.length≤140737488355328
  b:n.dr.b.length≤140737488355328
  conn:n.conn.length≤140737488355328
  sync:n.sync.length≤140737488355328
  syn:∀ xs∈n.sync,xs.length≤140737488355328
  bp:n.bp.length≤140737488355328
  wait:n.wait.length≤140737488355328
def rq (m:aH) (l:Int):Int:=ig (eX m.aM.length l) fun l=>ig (uP m.bits l) fun l=>l
def pD (s:aG) (l:Int):Int:=ig (eX s.a.length l) fun l=>ig (eX s.b.length l) fun l=>l
def fk (n:ai) (l:Int):Int:=ig (eX n.image.length l) fun l=>ig (rq n.mt l) fun l=>ig (pD n.dr l) fun l=>ig (eX n.conn.length l) fun l=>ig (uP n.sync l) fun l=>ig (eX n.bp.length l) fun l=>ig (eX n.wait.length l) fun l=>l
theorem fX {v l:Int} {k:Int→Int} {Q Q':Prop} (hl:0≤l) (hv:v≤l∧-1≤v∧(0≤v→Q)) (hk:0≤v→k v≤v∧-1≤k v∧(0≤k v→Q')):ig v k≤l∧-1≤ig v k∧(0≤ig v k→Q∧Q'):=by
  unfold ig
  split
  · omega
  · obtain ⟨a,b,c⟩:=hk (by omega)
    exact ⟨by omega,b,fun h=>⟨hv.2.2 (by omega),c h⟩⟩
theorem BS {l:Int} (h:0≤l):l≤l∧-1≤l∧(0≤l→True):=⟨by omega,by omega,fun _=>trivial⟩
theorem mX {n:Nat} {l:Int} (h:0≤l) (hm:l≤1048576):eX n l≤l∧-1≤eX n l∧(0≤eX n l→n≤1048576):=by
  obtain ⟨a,b,c⟩:=jx (n:=n) h
  exact ⟨a,b,fun hh=>by have:=c hh; omega⟩
theorem BT {m:aH} {l:Int} (h:0≤l) (hm:l≤1048576):rq m l≤l∧-1≤rq m l∧(0≤rq m l→cO m):=by
  have a1:=mX (n:=m.aM.length) h hm
  have:=fX (k:=fun l=>ig (uP m.bits l) fun l=>l) h a1 fun h2=>fX h2 (ID (xss:=m.bits) h2 (by omega)) fun h3=>BS h3
  exact ⟨this.1,this.2.1,fun hh=>by obtain ⟨b1,b2,_⟩:=this.2.2 hh; exact ⟨b1,b2⟩⟩
theorem zO {s:aG} {l:Int} (h:0≤l) (hm:l≤1048576):pD s l≤l∧-1≤pD s l∧(0≤pD s l→eT s):=by
  have a1:=mX (n:=s.a.length) h hm
  have:=fX (k:=fun l=>ig (eX s.b.length l) fun l=>l) h a1 fun h2=>fX h2 (mX (n:=s.b.length) h2 (by omega)) fun h3=>BS h3
  exact ⟨this.1,this.2.1,fun hh=>by obtain ⟨b1,b2,_⟩:=this.2.2 hh; exact ⟨b1,b2⟩⟩
theorem vL {n:ai} {l:Int} (h:0≤l) (hm:l≤1048576):fk n l≤l∧-1≤fk n l∧(0≤fk n l→ch n):=by
  have a1:=mX (n:=n.image.length) h hm
  have a2:∀ {l:Int},0≤l→l≤1048576→_:=fun {l} h hm=>BT (m:=n.mt) (l:=l) h hm
  have a3:∀ {l:Int},0≤l→l≤1048576→_:=fun {l} h hm=>zO (s:=n.dr) (l:=l) h hm
  have a4:∀ {l:Int},0≤l→l≤1048576→_:=fun {l} h hm=>mX (n:=n.conn.length) (l:=l) h hm
  have a5:∀ {l:Int},0≤l→l≤1048576→_:=fun {l} h hm=>ID (xss:=n.sync) (l:=l) h hm
  have a6:∀ {l:Int},0≤l→l≤1048576→_:=fun {l} h hm=>mX (n:=n.bp.length) (l:=l) h hm
  have a7:∀ {l:Int},0≤l→l≤1048576→_:=fun {l} h hm=>mX (n:=n.wait.length) (l:=l) h hm
  have key:fk n l≤l∧-1≤fk n l∧(0≤fk n l→n.image.length≤1048576∧cO n.mt∧eT n.dr∧n.conn.length≤1048576∧sv n.sync∧n.bp.length≤1048576∧n.wait.length≤1048576∧True):=by
    unfold fk
    refine fX h a1 fun h1=>?_
    have k1:=a2 h1 (by omega)
    refine fX h1 k1 fun h2=>?_
    have k2:=a3 h2 (by omega)
    refine fX h2 k2 fun h3=>?_
    have k3:=a4 h3 (by omega)
    refine fX h3 k3 fun h4=>?_
    have k4:=a5 h4 (by omega)
    refine fX h4 k4 fun h5=>?_
    have k5:=a6 h5 (by omega)
    refine fX h5 k5 fun h6=>?_
    exact fX h6 (a7 h6 (by omega)) fun h7=>BS h7
  refine ⟨key.1,key.2.1,fun hh=>?_⟩
  obtain ⟨b1,b2,b3,b4,b5,b6,b7,_⟩:=key.2.2 hh
  exact ⟨b1,b2,b3,b4,b5,b6,b7⟩
theorem lY {f:Int→Option Rz} {g:Int→Int} {outs:List D} {v:Int} (h:0≤v→f v=some (.int .i64 (g v),outs)):br (U.lt v 0) (some (.int .i64 (-1),outs)) (f v)=some (.int .i64 (ig v g),outs):=by
  by_cases hv:v < 0
  · rw [aP hv,uN _ hv]
  · rw [bl (by omega),uO _ (by omega),h (by omega)]
theorem PQ (g:Bool) (m:aH) (left:Int) (h0:0≤left) (h1:left≤1048576) (ln:IE m):Cm 22 [.agg (cd (some g) m),.int .i64 left] (.int .i64 (rq m left),[.undef,.undef]):=by
  refine Cm.fin Fo fun J=>?_
  rw [Fp]
  have l1:=ln.aM
  have a1:=jx (n:=m.aM.length) h0
  simp (disch:=omega) only [sx,ct,ak]
  refine lY (f:=fun v=>bc 25 _ _) fun p1=>?_
  simp (disch:=first | omega | exact ln.bits | exact ln.bit) only [ER,ct,ak]
  exact lY (f:=fun v=>some (.int .i64 v,[.undef,.undef])) fun _=>rfl
theorem NV (g:Bool) (s:aG) (left:Int) (h0:0≤left) (h1:left≤1048576) (l1:s.a.length≤140737488355328) (l2:s.b.length≤140737488355328):Cm 23 [.agg (dO (some g) s),.int .i64 left] (.int .i64 (pD s left),[.undef,.undef]):=by
  refine Cm.fin C8 fun J=>?_
  rw [C9]
  have a1:=jx (n:=s.a.length) h0
  simp (disch:=omega) only [EM,ct,ak]
  refine lY (f:=fun v=>bc 59 _ _) fun p1=>?_
  simp (disch:=omega) only [EM,ct,ak]
  exact lY (f:=fun v=>some (.int .i64 v,[.undef,.undef])) fun _=>rfl
section
variable (t:bO Rz)
theorem PR (g:Bool) (m:aH) (h:cO m):bc 28 [.agg (cd (some g) m)] t=feed t (cd none m):=bq (PN g m h) (by kernel_rfl) t
theorem NW (g:Bool) (s:aG) (h:eT s):bc 29 [.agg (dO (some g) s)] t=feed t (dO none s):=bq (NT g s h) (by kernel_rfl) t
theorem PS (g h:Bool) (m:aH) (ok:cO m):bc 34 [.agg (cd (some g) m),.agg (cd (some h) m)] t=feed t [.bool true]:=bq (PO g h m ok) (by kernel_rfl) t
theorem NX (g h:Bool) (s:aG) (ok:eT s):bc 35 [.agg (dO (some g) s),.agg (dO (some h) s)] t=feed t [.bool true]:=bq (NU g h s ok) (by kernel_rfl) t
theorem PT (g:Bool) (m:aH) (left:Int) (h0:0≤left) (h1:left≤1048576) (ln:IE m):bc 22 [.agg (cd (some g) m),.int .i64 left] t=feed t [.int .i64 (rq m left)]:=bq (PQ g m left h0 h1 ln) (by kernel_rfl) t
theorem NY (g:Bool) (s:aG) (left:Int) (h0:0≤left) (h1:left≤1048576) (l1:s.a.length≤140737488355328) (l2:s.b.length≤140737488355328):bc 23 [.agg (dO (some g) s),.int .i64 left] t=feed t [.int .i64 (pD s left)]:=bq (NV g s left h0 h1 l1 l2) (by kernel_rfl) t
end
theorem PU (g:Bool) (n:ai) (h:ch n):Cm 9 [.agg (af (some g) n)] (.agg (af none n),[.undef]):=by
  have h1:=h.image
  have h2:=h.conn
  have h3:=h.bp
  have h4:=h.wait
  refine Cm.fin Fq fun J=>?_
  rw [Fs]
  simp (disch:=first | omega | exact h.mt | exact h.dr | exact h.sync) only [AA,EO,NO,PR,NW,dM,aA,ct,ak,lz,IC,eI,LR,aF]
theorem PV (g h:Bool) (n:ai) (ok:ch n):Cm 11 [.agg (af (some g) n),.agg (af (some h) n)] (.bool true,[.undef,.undef]):=by
  have h1:=ok.image
  have h2:=ok.conn
  have h3:=ok.bp
  have h4:=ok.wait
  refine Cm.fin Ft fun J=>?_
  rw [Fu]
  simp (disch:=first | omega | exact ok.mt | exact ok.dr | exact ok.sync) only [sw,EP,NP,PS,NX,aA,ak,decide_true,aF,aX,re,beq_self_eq_true,fx]
theorem PW (g:Bool) (n:ai) (left:Int) (h0:0≤left) (h1:left≤1048576) (ln:sy n):Cm 7 [.agg (af (some g) n),.int .i64 left] (.int .i64 (fk n left),[.undef,.undef]):=by
  refine Cm.fin Fv fun J=>?_
  rw [Fw]
  have l1:=ln.image
  have l2:=ln.conn
  have l3:=ln.bp
  have l4:=ln.wait
  have a1:=jx (n:=n.image.length) h0
  simp (disch:=omega) only [sx,ct,ak]
  refine lY (f:=fun v=>bc 22 _ _) fun p1=>?_
  have a2:=BT (m:=n.mt) p1 (by omega)
  simp (disch:=first | omega | exact ln.mt) only [PT,ct,ak]
  refine lY (f:=fun v=>bc 23 _ _) fun p2=>?_
  have a3:=zO (s:=n.dr) p2 (by omega)
  simp (disch:=first | omega | exact ln.a | exact ln.b) only [NY,ct,ak]
  refine lY (f:=fun v=>bc 24 _ _) fun p3=>?_
  have a4:=jx (n:=n.conn.length) p3
  simp (disch:=omega) only [EN,ct,ak]
  refine lY (f:=fun v=>bc 25 _ _) fun p4=>?_
  have a5:=ID (xss:=n.sync) p4 (by omega)
  simp (disch:=first | omega | exact ln.sync | exact ln.syn) only [ER,ct,ak]
  refine lY (f:=fun v=>bc 24 _ _) fun p5=>?_
  have a6:=jx (n:=n.bp.length) p5
  simp (disch:=omega) only [EN,ct,ak]
  refine lY (f:=fun v=>bc 21 _ _) fun p6=>?_
  simp (disch:=omega) only [sx,ct,ak]
  exact lY (f:=fun v=>some (.int .i64 v,[.undef,.undef])) fun _=>rfl
end Go.Proofs.Ytockoilcnmljiaa
namespace Go.Proofs.Ytockoilcnmljiaa
set_option maxRecDepth 100000
section
variable (pr:ez) (cv:Cv Rz) (J:Nat→St→Option Rz)
theorem Jq:Told cfg Try.prog 64 Try.f64:=⟨by kernel_rfl,Try.func64,by kernel_rfl⟩
theorem Jr (a0:Int) (a1:Int) (a2:Int):bn pr cv J 64 Try.f64 [(.int .i64 a0),(.int .i64 a1),(.int .i64 a2)]=
    (br (pr.le a1 a0) (some ((.bool (pr.le a0 a2)),[.undef,.undef,.undef])) (some ((.bool false),[.undef,.undef,.undef]))):=by kernel_rfl
theorem Js:Told cfg Try.prog 99 Try.f99:=⟨by kernel_rfl,Try.func99,by kernel_rfl⟩
theorem Jt (a0:Int) (a1:Int) (a2:Int):bn pr cv J 99 Try.f99 [(.int .i64 a0),(.int .i64 a1),(.int .i64 a2)]=
    (br (pr.le a1 a0) (some ((.bool (pr.le a0 a2)),[.undef,.undef,.undef])) (some ((.bool false),[.undef,.undef,.undef]))):=by kernel_rfl
end
theorem Ju (a b c:Int):Cm 99 [.int .i64 a,.int .i64 b,.int .i64 c] (.bool (decide (b≤a∧a≤c)),[.undef,.undef,.undef]):=by
  refine Cm.fin Js fun J=>?_
  rw [Jt]
  by_cases h:b≤a
  · rw [yX h,vJ]
    simp only [h,true_and]
  · simp (disch:=omega) only [mW,h,false_and,decide_false]
theorem UW (a b c:Int):Cm 64 [.int .i64 a,.int .i64 b,.int .i64 c] (.bool (decide (b≤a∧a≤c)),[.undef,.undef,.undef]):=by
  refine Cm.fin Jq fun J=>?_
  rw [Jr]
  by_cases h:b≤a
  · rw [yX h,vJ]
    simp only [h,true_and]
  · simp (disch:=omega) only [mW,h,false_and,decide_false]
section
variable (t:bO Rz)
theorem gG (a b c:Int):bc 99 [.int .i64 a,.int .i64 b,.int .i64 c] t=feed t [.bool (decide (b≤a∧a≤c))]:=bq (Ju a b c) (by kernel_rfl) t
theorem jy (a b c:Int):bc 64 [.int .i64 a,.int .i64 b,.int .i64 c] t=feed t [.bool (decide (b≤a∧a≤c))]:=bq (UW a b c) (by kernel_rfl) t
end
end Go.Proofs.Ytockoilcnmljiaa
namespace Go.Proofs.Ytockoilcnmljiaa
set_option maxRecDepth 100000
def sA (xs:List Int):Prop:=∀ x∈xs,so x=true
section
variable (t:bO Rz)
theorem PX (g:Bool) (n:ai) (h:ch n):bc 9 [.agg (af (some g) n)] t=feed t [enc .node n]:=bZ (r:=enc .node n) (s:=.ty .node) (ss:=[.undef]) (PU g n h) (by kernel_rfl) (ax _ _) (by simp only [aj,aR,aq,Bool.and_self]) (aw _ _) rfl t
theorem IF (g h:Bool) (n:ai) (ok:ch n):bc 11 [.agg (af (some g) n),.agg (af (some h) n)] t=feed t [.bool true]:=bq (PV g h n ok) (by kernel_rfl) t
theorem PY (g:Bool) (n:ai) (left:Int) (h0:0≤left) (h1:left≤1048576) (ln:sy n):bc 7 [.agg (af (some g) n),.int .i64 left] t=feed t [.int .i64 (fk n left)]:=bq (PW g n left h0 h1 ln) (by kernel_rfl) t
end
end Go.Proofs.Ytockoilcnmljiaa
namespace Go.Proofs.Ytockoilcnmljiaa
set_option maxRecDepth 100000
theorem Da {n:Int} (h:(Lit.int .i64 n).wf=true):so n=true:=by
  simp [Lit.wf,IntKind.min,IntKind.max,IntKind.bits,IntKind.signed] at h
  rw [PG]
  omega
abbrev NZ:Sh:=.sl 8 (.int .i64)
abbrev UX:Sh:=.sl 1 (.int .u8)
abbrev UY:Sh:=.sl 1 .bool
abbrev UZ:Sh:=.sl 24 (.sl 8 (.int .i64))
abbrev U0:Sh:=.ag [NZ,UZ,.bool,.bool,.bool,.int .i64]
abbrev Si:Sh:=.ag [UX,UX]
abbrev IG:Sh:=.ag [.int .i64,.bool,.bool,NZ,U0,Si,UY,UZ,UY,NZ]
theorem LS {ds:List D} (h:WT NZ ds):∃ xs,ds=[sI (some false) xs]∧xs.length≤17592186044416∧sA xs:=by
  obtain ⟨es,rfl,he,hx⟩:=h
  have key:∀ es:List (List D),(∀ x∈es,WT (.int .i64) x)→∃ xs,es.flatten=ints xs∧xs.length=es.length∧sA xs:=by
    intro es
    induction es with
    | nil=>intro _; exact ⟨[],rfl,rfl,by simp [sA]⟩
    | cons e es ih=>
      intro h
      obtain ⟨n,rfl,hn⟩:=h e (by simp)
      obtain ⟨xs,h1,h2,h3⟩:=ih (fun x hx=>h x (by simp [hx]))
      refine ⟨n::xs,by rw [List.flatten_cons,h1]; rfl,by simp [h2],fun x hx=>?_⟩
      rcases List.mem_cons.1 hx with rfl | hx
      · exact Da hn
      · exact h3 x hx
  obtain ⟨xs,h1,h2,h3⟩:=key es hx
  refine ⟨xs,by rw [h1,← h2]; rfl,?_,h3⟩
  have:reachBytes=140737488351232:=rfl
  omega
theorem U1 {ds:List D} (h:WT UX ds):∃ xs,ds=[s8 (some false) xs]∧xs.length≤140737488351232:=by
  obtain ⟨es,rfl,he,hx⟩:=h
  have key:∀ es:List (List D),(∀ x∈es,WT (.int .u8) x)→∃ xs,es.flatten=bytes xs∧xs.length=es.length:=by
    intro es
    induction es with
    | nil=>intro _; exact ⟨[],rfl,rfl⟩
    | cons e es ih=>
      intro h
      obtain ⟨n,rfl,hn⟩:=h e (by simp)
      obtain ⟨xs,h1,h2⟩:=ih (fun x hx=>h x (by simp [hx]))
      simp [Lit.wf,IntKind.min,IntKind.max,IntKind.bits,IntKind.signed] at hn
      refine ⟨UInt8.ofNat n.toNat::xs,?_,by simp [h2]⟩
      rw [List.flatten_cons,h1]
      have:((UInt8.ofNat n.toNat).toNat:Int)=n:=by simp only [UInt8.toNat_ofNat']; omega
      simp only [bytes,List.map_cons,ec,this]
      rfl
  obtain ⟨xs,h1,h2⟩:=key es hx
  refine ⟨xs,by rw [h1,← h2]; rfl,?_⟩
  have:reachBytes=140737488351232:=rfl
  omega
theorem U2 {ds:List D} (h:WT UY ds):∃ xs,ds=[sB (some false) xs]∧xs.length≤140737488351232:=by
  obtain ⟨es,rfl,he,hx⟩:=h
  have key:∀ es:List (List D),(∀ x∈es,WT .bool x)→∃ xs,es.flatten=aO xs∧xs.length=es.length:=by
    intro es
    induction es with
    | nil=>intro _; exact ⟨[],rfl,rfl⟩
    | cons e es ih=>
      intro h
      obtain ⟨n,rfl⟩:=h e (by simp)
      obtain ⟨xs,h1,h2⟩:=ih (fun x hx=>h x (by simp [hx]))
      exact ⟨n::xs,by rw [List.flatten_cons,h1]; rfl,by simp [h2]⟩
  obtain ⟨xs,h1,h2⟩:=key es hx
  refine ⟨xs,by rw [h1,← h2]; rfl,?_⟩
  have:reachBytes=140737488351232:=rfl
  omega
theorem U3 {ds:List D} (h:WT UZ ds):∃ xs,ds=[sR (some false) xs]∧xs.length≤140737488355328∧(∀ x∈xs,x.length≤140737488355328)∧∀ x∈xs,sA x:=by
  obtain ⟨es,rfl,he,hx⟩:=h
  have key:∀ es:List (List D),(∀ x∈es,WT NZ x)→∃ xs,es.flatten=rows (some false) xs∧xs.length=es.length∧(∀ x∈xs,x.length≤140737488355328)∧∀ x∈xs,sA x:=by
    intro es
    induction es with
    | nil=>intro _; exact ⟨[],rfl,rfl,by simp,by simp⟩
    | cons e es ih=>
      intro h
      obtain ⟨n,rfl,hn,h4⟩:=LS (h e (by simp))
      obtain ⟨xs,h1,h2,h3,h5⟩:=ih (fun x hx=>h x (by simp [hx]))
      refine ⟨n::xs,by rw [List.flatten_cons,h1]; rfl,by simp [h2],fun x hx=>?_,fun x hx=>?_⟩
      · rcases List.mem_cons.1 hx with rfl | hx
        · omega
        · exact h3 x hx
      · rcases List.mem_cons.1 hx with rfl | hx
        · exact h4
        · exact h5 x hx
  obtain ⟨xs,h1,h2,h3,h4⟩:=key es hx
  refine ⟨xs,by rw [h1,← h2]; rfl,?_,h3,h4⟩
  have:reachBytes=140737488351232:=rfl
  omega
structure BU (n:ai):Prop where
  id:so n.id=true
  last:so n.mt.last=true
  image:sA n.image
  aM:sA n.mt.aM
  bits:∀ x∈n.mt.bits,sA x
  sync:∀ x∈n.sync,sA x
  wait:sA n.wait
theorem KA {ds:List D} (h:WT IG ds):∃ n:ai,ds=af (some false) n∧sy n∧BU n:=by
  obtain ⟨_,_,rfl,⟨id,rfl,N0⟩,_,_,rfl,⟨up,rfl⟩,_,_,rfl,⟨eS,rfl⟩,_,_,rfl,ZE,_,_,rfl,hmt,_,_,rfl,fI,_,_,rfl,WM,_,_,rfl,WN,_,_,rfl,ZF,_,_,rfl,WO,rfl⟩:=h
  obtain ⟨image,rfl,l1,i1⟩:=LS ZE
  obtain ⟨_,_,rfl,hg,_,_,rfl,hb,_,_,rfl,⟨dQ,rfl⟩,_,_,rfl,⟨bQ,rfl⟩,_,_,rfl,⟨held,rfl⟩,_,_,rfl,⟨last,rfl,WQ⟩,rfl⟩:=hmt
  obtain ⟨aM,rfl,l2,i2⟩:=LS hg
  obtain ⟨bits,rfl,l3,l3',i3⟩:=U3 hb
  obtain ⟨_,_,rfl,ha,_,_,rfl,fg,rfl⟩:=fI
  obtain ⟨a,rfl,l4⟩:=U1 ha
  obtain ⟨b,rfl,l5⟩:=U1 fg
  obtain ⟨conn,rfl,l6⟩:=U2 WM
  obtain ⟨sync,rfl,l7,l7',i7⟩:=U3 WN
  obtain ⟨bp,rfl,l8⟩:=U2 ZF
  obtain ⟨wait,rfl,l9,i9⟩:=LS WO
  refine ⟨⟨id,up,eS,image,⟨aM,bits,dQ,bQ,held,last⟩,⟨a,b⟩,conn,sync,bp,wait⟩,rfl,⟨?_,⟨?_,l3,l3'⟩,?_,?_,?_,l7,l7',?_,?_⟩,⟨Da N0,Da WQ,i1,i2,i3,i7,i9⟩⟩<;>simp only<;>omega
theorem gh (b:Bool):∀ xs:List Int,cM b (ints xs)=ints xs
  | []=>rfl
  | x::xs=>by
    have ih:=gh b xs
    simp only [ints] at ih
    simp only [ints,List.map_cons,cM,gI,ih]
theorem gH (b:Bool):∀ xs:List UInt8,cM b (bytes xs)=bytes xs
  | []=>rfl
  | x::xs=>by
    have ih:=gH b xs
    simp only [bytes] at ih
    simp only [bytes,List.map_cons,cM,ec,gI,ih]
theorem jz (b:Bool):∀ xs:List Bool,cM b (aO xs)=aO xs
  | []=>rfl
  | x::xs=>by
    have ih:=jz b xs
    simp only [aO] at ih
    simp only [aO,List.map_cons,cM,gI,ih]
theorem gN (b:Bool):∀ xs:List (List Int),cM b (rows none xs)=rows (some b) xs
  | []=>rfl
  | x::xs=>by
    have ih:=gN b xs
    simp only [rows] at ih
    simp only [rows,List.map_cons,cM,gI,ih,gh]
end Go.Proofs.Ytockoilcnmljiaa
namespace Go.Proofs.Ytockoilcnmljiaa
set_option maxRecDepth 100000
section
variable (pr:ez) (cv:Cv Rz) (J:Nat→St→Option Rz)
def PZ (g0:Bool) (n1:Nat) (c2:List D) (i3:Int) (i4:Int):St:=(St.mk [(0,(.sl (some g0) 16 n1 c2)),(1,(.int .i64 i3)),(5,(.int .i64 i4))] [] [] 0)
def P2 (g0:Bool) (n1:Nat) (c2:List D) (i3:Int) (n4:Nat) (c5:List D):St:=(St.mk [(0,(.sl (some g0) 16 n1 c2)),(3,(.ref 10003 [] 0 none)),(4,(.int .i64 i3))] [(10003,[(.sl none 16 n4 c5)])] [] 0)
def iP (g0:Bool) (n1:Nat) (c2:List D) (g3:Bool) (n4:Nat) (c5:List D) (i6:Int):St:=(St.mk [(0,(.sl (some g0) 16 n1 c2)),(1,(.sl (some g3) 16 n4 c5)),(5,(.int .i64 i6))] [] [] 0)
theorem Db:Told cfg Try.prog 48 Try.f48:=⟨by kernel_rfl,Try.func48,by kernel_rfl⟩
theorem Dc (g0:Bool) (n0:Nat) (c0:List D) (g1:Bool) (n1:Nat) (c1:List D):bn pr cv J 48 Try.f48 [(.sl (some g0) 16 n0 c0),(.sl (some g1) 16 n1 c1)]=
    (br (br (pr.eq (pr.bu n0) (pr.bu n1)) false true) (some ((.bool false),[.undef,.undef])) (J 0 (iP g0 n0 c0 g1 n1 c1 0))):=by kernel_rfl
theorem qR (g0:Bool) (n1:Nat) (c2:List D) (g3:Bool) (n4:Nat) (c5:List D) (i6:Int):cB pr cv J 48 Try.f48 [.undef,.undef] 0 (iP g0 n1 c2 g3 n4 c5 i6)=
    (br (pr.lt i6 (pr.bu n1)) (br (pr.cb i6 n1) (br (br (pr.cV .i64 c2 (pr.idx 0 i6 16)) (br (pr.fj c2 ((pr.idx 0 i6 16)+1)) (br (pr.fj c2 ((pr.idx 0 i6 16)+2)) (br (pr.eg 1 c2 ((pr.idx 0 i6 16)+3)) (br (pr.eg 1 c2 ((pr.idx 0 i6 16)+4)) (br (pr.eg 1 c2 ((pr.idx 0 i6 16)+5)) (br (pr.fj c2 ((pr.idx 0 i6 16)+6)) (br (pr.fj c2 ((pr.idx 0 i6 16)+7)) (br (pr.fj c2 ((pr.idx 0 i6 16)+8)) (br (pr.cV .i64 c2 ((pr.idx 0 i6 16)+9)) (br (pr.eg 1 c2 ((pr.idx 0 i6 16)+10)) (br (pr.eg 1 c2 ((pr.idx 0 i6 16)+11)) (br (pr.eg 1 c2 ((pr.idx 0 i6 16)+12)) (br (pr.eg 1 c2 ((pr.idx 0 i6 16)+13)) (br (pr.eg 1 c2 ((pr.idx 0 i6 16)+14)) (br (pr.eg 1 c2 ((pr.idx 0 i6 16)+15)) true false) false) false) false) false) false) false) false) false) false) false) false) false) false) false) false) (br (pr.cb i6 n4) (br (br (pr.cV .i64 c5 (pr.idx 0 i6 16)) (br (pr.fj c5 ((pr.idx 0 i6 16)+1)) (br (pr.fj c5 ((pr.idx 0 i6 16)+2)) (br (pr.eg 1 c5 ((pr.idx 0 i6 16)+3)) (br (pr.eg 1 c5 ((pr.idx 0 i6 16)+4)) (br (pr.eg 1 c5 ((pr.idx 0 i6 16)+5)) (br (pr.fj c5 ((pr.idx 0 i6 16)+6)) (br (pr.fj c5 ((pr.idx 0 i6 16)+7)) (br (pr.fj c5 ((pr.idx 0 i6 16)+8)) (br (pr.cV .i64 c5 ((pr.idx 0 i6 16)+9)) (br (pr.eg 1 c5 ((pr.idx 0 i6 16)+10)) (br (pr.eg 1 c5 ((pr.idx 0 i6 16)+11)) (br (pr.eg 1 c5 ((pr.idx 0 i6 16)+12)) (br (pr.eg 1 c5 ((pr.idx 0 i6 16)+13)) (br (pr.eg 1 c5 ((pr.idx 0 i6 16)+14)) (br (pr.eg 1 c5 ((pr.idx 0 i6 16)+15)) true false) false) false) false) false) false) false) false) false) false) false) false) false) false) false) false) (cv 11 [(.agg [(.int .i64 (pr.bY c2 (pr.idx 0 i6 16))),(.bool (pr.dI c2 ((pr.idx 0 i6 16)+1))),(.bool (pr.dI c2 ((pr.idx 0 i6 16)+2))),(.sl (some (pr.dn c2 ((pr.idx 0 i6 16)+3))) 1 (pr.cy c2 ((pr.idx 0 i6 16)+3)) (pr.cH c2 ((pr.idx 0 i6 16)+3))),(.sl (some (pr.dn c2 ((pr.idx 0 i6 16)+4))) 1 (pr.cy c2 ((pr.idx 0 i6 16)+4)) (pr.cH c2 ((pr.idx 0 i6 16)+4))),(.sl (some (pr.dn c2 ((pr.idx 0 i6 16)+5))) 1 (pr.cy c2 ((pr.idx 0 i6 16)+5)) (pr.cH c2 ((pr.idx 0 i6 16)+5))),(.bool (pr.dI c2 ((pr.idx 0 i6 16)+6))),(.bool (pr.dI c2 ((pr.idx 0 i6 16)+7))),(.bool (pr.dI c2 ((pr.idx 0 i6 16)+8))),(.int .i64 (pr.bY c2 ((pr.idx 0 i6 16)+9))),(.sl (some (pr.dn c2 ((pr.idx 0 i6 16)+10))) 1 (pr.cy c2 ((pr.idx 0 i6 16)+10)) (pr.cH c2 ((pr.idx 0 i6 16)+10))),(.sl (some (pr.dn c2 ((pr.idx 0 i6 16)+11))) 1 (pr.cy c2 ((pr.idx 0 i6 16)+11)) (pr.cH c2 ((pr.idx 0 i6 16)+11))),(.sl (some (pr.dn c2 ((pr.idx 0 i6 16)+12))) 1 (pr.cy c2 ((pr.idx 0 i6 16)+12)) (pr.cH c2 ((pr.idx 0 i6 16)+12))),(.sl (some (pr.dn c2 ((pr.idx 0 i6 16)+13))) 1 (pr.cy c2 ((pr.idx 0 i6 16)+13)) (pr.cH c2 ((pr.idx 0 i6 16)+13))),(.sl (some (pr.dn c2 ((pr.idx 0 i6 16)+14))) 1 (pr.cy c2 ((pr.idx 0 i6 16)+14)) (pr.cH c2 ((pr.idx 0 i6 16)+14))),(.sl (some (pr.dn c2 ((pr.idx 0 i6 16)+15))) 1 (pr.cy c2 ((pr.idx 0 i6 16)+15)) (pr.cH c2 ((pr.idx 0 i6 16)+15)))]),(.agg [(.int .i64 (pr.bY c5 (pr.idx 0 i6 16))),(.bool (pr.dI c5 ((pr.idx 0 i6 16)+1))),(.bool (pr.dI c5 ((pr.idx 0 i6 16)+2))),(.sl (some (pr.dn c5 ((pr.idx 0 i6 16)+3))) 1 (pr.cy c5 ((pr.idx 0 i6 16)+3)) (pr.cH c5 ((pr.idx 0 i6 16)+3))),(.sl (some (pr.dn c5 ((pr.idx 0 i6 16)+4))) 1 (pr.cy c5 ((pr.idx 0 i6 16)+4)) (pr.cH c5 ((pr.idx 0 i6 16)+4))),(.sl (some (pr.dn c5 ((pr.idx 0 i6 16)+5))) 1 (pr.cy c5 ((pr.idx 0 i6 16)+5)) (pr.cH c5 ((pr.idx 0 i6 16)+5))),(.bool (pr.dI c5 ((pr.idx 0 i6 16)+6))),(.bool (pr.dI c5 ((pr.idx 0 i6 16)+7))),(.bool (pr.dI c5 ((pr.idx 0 i6 16)+8))),(.int .i64 (pr.bY c5 ((pr.idx 0 i6 16)+9))),(.sl (some (pr.dn c5 ((pr.idx 0 i6 16)+10))) 1 (pr.cy c5 ((pr.idx 0 i6 16)+10)) (pr.cH c5 ((pr.idx 0 i6 16)+10))),(.sl (some (pr.dn c5 ((pr.idx 0 i6 16)+11))) 1 (pr.cy c5 ((pr.idx 0 i6 16)+11)) (pr.cH c5 ((pr.idx 0 i6 16)+11))),(.sl (some (pr.dn c5 ((pr.idx 0 i6 16)+12))) 1 (pr.cy c5 ((pr.idx 0 i6 16)+12)) (pr.cH c5 ((pr.idx 0 i6 16)+12))),(.sl (some (pr.dn c5 ((pr.idx 0 i6 16)+13))) 1 (pr.cy c5 ((pr.idx 0 i6 16)+13)) (pr.cH c5 ((pr.idx 0 i6 16)+13))),(.sl (some (pr.dn c5 ((pr.idx 0 i6 16)+14))) 1 (pr.cy c5 ((pr.idx 0 i6 16)+14)) (pr.cH c5 ((pr.idx 0 i6 16)+14))),(.sl (some (pr.dn c5 ((pr.idx 0 i6 16)+15))) 1 (pr.cy c5 ((pr.idx 0 i6 16)+15)) (pr.cH c5 ((pr.idx 0 i6 16)+15)))])] (.bool (fun cm=>(.done (br (br cm false true) (some ((.bool false),[.undef,.undef])) (J 0 (iP g0 n1 c2 g3 n4 c5 (pr.ar .add .i64 i6 1)))))))) none) none) none) none) (some ((.bool true),[.undef,.undef]))):=by kernel_rfl
theorem Fx:Told cfg Try.prog 86 Try.f86:=⟨by kernel_rfl,Try.func86,by kernel_rfl⟩
theorem Fy (a0:Int) (a1:Int) (g2:Bool) (n2:Nat) (c2:List D) (a3:Int) (a4:Int) (g5:Bool) (n5:Nat) (c5:List D):bn pr cv J 86 Try.f86 [(.agg [(.int .i64 a0),(.int .i64 a1),(.sl (some g2) 1 n2 c2)]),(.agg [(.int .i64 a3),(.int .i64 a4),(.sl (some g5) 1 n5 c5)])]=
    let y1:Option (D × List D):=(some ((.bool false),[.undef,.undef]))
    (br (br (pr.eq a0 a3) false true) y1 (br (br (pr.eq a1 a4) false true) y1 (cv 63 [(.sl (some g2) 1 n2 c2),(.sl (some g5) 1 n5 c5)] (.bool (fun cm=>(.done (br (br cm false true) y1 (some ((.bool true),[.undef,.undef]))))))))):=by kernel_rfl
def P3 (g0:Bool) (n1:Nat) (c2:List D) (i3:Int) (i4:Int):St:=(St.mk [(0,(.sl (some g0) 3 n1 c2)),(1,(.int .i64 i3)),(5,(.int .i64 i4))] [] [] 0)
def P4 (g0:Bool) (n1:Nat) (c2:List D) (i3:Int) (n4:Nat) (c5:List D):St:=(St.mk [(0,(.sl (some g0) 3 n1 c2)),(3,(.ref 10003 [] 0 none)),(4,(.int .i64 i3))] [(10003,[(.sl none 3 n4 c5)])] [] 0)
def iQ (g0:Bool) (n1:Nat) (c2:List D) (g3:Bool) (n4:Nat) (c5:List D) (i6:Int):St:=(St.mk [(0,(.sl (some g0) 3 n1 c2)),(1,(.sl (some g3) 3 n4 c5)),(5,(.int .i64 i6))] [] [] 0)
theorem Dd:Told cfg Try.prog 49 Try.f49:=⟨by kernel_rfl,Try.func49,by kernel_rfl⟩
theorem De (g0:Bool) (n0:Nat) (c0:List D) (g1:Bool) (n1:Nat) (c1:List D):bn pr cv J 49 Try.f49 [(.sl (some g0) 3 n0 c0),(.sl (some g1) 3 n1 c1)]=
    (br (br (pr.eq (pr.bu n0) (pr.bu n1)) false true) (some ((.bool false),[.undef,.undef])) (J 0 (iQ g0 n0 c0 g1 n1 c1 0))):=by kernel_rfl
theorem qS (g0:Bool) (n1:Nat) (c2:List D) (g3:Bool) (n4:Nat) (c5:List D) (i6:Int):cB pr cv J 49 Try.f49 [.undef,.undef] 0 (iQ g0 n1 c2 g3 n4 c5 i6)=
    (br (pr.lt i6 (pr.bu n1)) (br (pr.cb i6 n1) (br (br (pr.cV .i64 c2 (pr.idx 0 i6 3)) (br (pr.cV .i64 c2 ((pr.idx 0 i6 3)+1)) (br (pr.eg 1 c2 ((pr.idx 0 i6 3)+2)) true false) false) false) (br (pr.cb i6 n4) (br (br (pr.cV .i64 c5 (pr.idx 0 i6 3)) (br (pr.cV .i64 c5 ((pr.idx 0 i6 3)+1)) (br (pr.eg 1 c5 ((pr.idx 0 i6 3)+2)) true false) false) false) (cv 86 [(.agg [(.int .i64 (pr.bY c2 (pr.idx 0 i6 3))),(.int .i64 (pr.bY c2 ((pr.idx 0 i6 3)+1))),(.sl (some (pr.dn c2 ((pr.idx 0 i6 3)+2))) 1 (pr.cy c2 ((pr.idx 0 i6 3)+2)) (pr.cH c2 ((pr.idx 0 i6 3)+2)))]),(.agg [(.int .i64 (pr.bY c5 (pr.idx 0 i6 3))),(.int .i64 (pr.bY c5 ((pr.idx 0 i6 3)+1))),(.sl (some (pr.dn c5 ((pr.idx 0 i6 3)+2))) 1 (pr.cy c5 ((pr.idx 0 i6 3)+2)) (pr.cH c5 ((pr.idx 0 i6 3)+2)))])] (.bool (fun cm=>(.done (br (br cm false true) (some ((.bool false),[.undef,.undef])) (J 0 (iQ g0 n1 c2 g3 n4 c5 (pr.ar .add .i64 i6 1)))))))) none) none) none) none) (some ((.bool true),[.undef,.undef]))):=by kernel_rfl
theorem IH:Told cfg Try.prog 87 Try.f87:=⟨by kernel_rfl,Try.func87,by kernel_rfl⟩
theorem II (a0:Int) (a1:Int) (a2:Int) (a3:Int):bn pr cv J 87 Try.f87 [(.agg [(.int .i64 a0),(.int .i64 a1)]),(.agg [(.int .i64 a2),(.int .i64 a3)])]=
    let y1:Option (D × List D):=(some ((.bool false),[.undef,.undef]))
    (br (br (pr.eq a0 a2) false true) y1 (br (br (pr.eq a1 a3) false true) y1 (some ((.bool true),[.undef,.undef])))):=by kernel_rfl
def Rg (g0:Bool) (n1:Nat) (c2:List D) (i3:Int) (n4:Nat) (c5:List D):St:=(St.mk [(0,(.sl (some g0) 2 n1 c2)),(3,(.ref 10003 [] 0 none)),(4,(.int .i64 i3))] [(10003,[(.sl none 2 n4 c5)])] [] 0)
def jA (g0:Bool) (n1:Nat) (c2:List D) (g3:Bool) (n4:Nat) (c5:List D) (i6:Int):St:=(St.mk [(0,(.sl (some g0) 2 n1 c2)),(1,(.sl (some g3) 2 n4 c5)),(5,(.int .i64 i6))] [] [] 0)
theorem Fz:Told cfg Try.prog 50 Try.f50:=⟨by kernel_rfl,Try.func50,by kernel_rfl⟩
theorem FB (g0:Bool) (n0:Nat) (c0:List D) (g1:Bool) (n1:Nat) (c1:List D):bn pr cv J 50 Try.f50 [(.sl (some g0) 2 n0 c0),(.sl (some g1) 2 n1 c1)]=
    (br (br (pr.eq (pr.bu n0) (pr.bu n1)) false true) (some ((.bool false),[.undef,.undef])) (J 0 (jA g0 n0 c0 g1 n1 c1 0))):=by kernel_rfl
theorem sC (g0:Bool) (n1:Nat) (c2:List D) (g3:Bool) (n4:Nat) (c5:List D) (i6:Int):cB pr cv J 50 Try.f50 [.undef,.undef] 0 (jA g0 n1 c2 g3 n4 c5 i6)=
    (br (pr.lt i6 (pr.bu n1)) (br (pr.cb i6 n1) (br (br (pr.cV .i64 c2 (pr.idx 0 i6 2)) (br (pr.cV .i64 c2 ((pr.idx 0 i6 2)+1)) true false) false) (br (pr.cb i6 n4) (br (br (pr.cV .i64 c5 (pr.idx 0 i6 2)) (br (pr.cV .i64 c5 ((pr.idx 0 i6 2)+1)) true false) false) (cv 87 [(.agg [(.int .i64 (pr.bY c2 (pr.idx 0 i6 2))),(.int .i64 (pr.bY c2 ((pr.idx 0 i6 2)+1)))]),(.agg [(.int .i64 (pr.bY c5 (pr.idx 0 i6 2))),(.int .i64 (pr.bY c5 ((pr.idx 0 i6 2)+1)))])] (.bool (fun cm=>(.done (br (br cm false true) (some ((.bool false),[.undef,.undef])) (J 0 (jA g0 n1 c2 g3 n4 c5 (pr.ar .add .i64 i6 1)))))))) none) none) none) none) (some ((.bool true),[.undef,.undef]))):=by kernel_rfl
theorem Df:Told cfg Try.prog 18 Try.f18:=⟨by kernel_rfl,Try.func18,by kernel_rfl⟩
theorem Dg (g0:Bool) (n0:Nat) (c0:List D) (g1:Bool) (n1:Nat) (c1:List D) (g2:Bool) (n2:Nat) (c2:List D) (g3:Bool) (n3:Nat) (c3:List D) (a4:Int) (g5:Bool) (n5:Nat) (c5:List D) (g6:Bool) (n6:Nat) (c6:List D) (g7:Bool) (n7:Nat) (c7:List D) (g8:Bool) (n8:Nat) (c8:List D) (a9:Int):bn pr cv J 18 Try.f18 [(.agg [(.sl (some g0) 16 n0 c0),(.sl (some g1) 3 n1 c1),(.sl (some g2) 2 n2 c2),(.sl (some g3) 1 n3 c3),(.int .i64 a4)]),(.agg [(.sl (some g5) 16 n5 c5),(.sl (some g6) 3 n6 c6),(.sl (some g7) 2 n7 c7),(.sl (some g8) 1 n8 c8),(.int .i64 a9)])]=
    let y1:Option (D × List D):=(some ((.bool false),[.undef,.undef]))
    (cv 48 [(.sl (some g0) 16 n0 c0),(.sl (some g5) 16 n5 c5)] (.bool (fun cm=>(.done (br (br cm false true) y1 (cv 49 [(.sl (some g1) 3 n1 c1),(.sl (some g6) 3 n6 c6)] (.bool (fun jw=>(.done (br (br jw false true) y1 (cv 50 [(.sl (some g2) 2 n2 c2),(.sl (some g7) 2 n7 c7)] (.bool (fun ix=>(.done (br (br ix false true) y1 (cv 33 [(.sl (some g3) 1 n3 c3),(.sl (some g8) 1 n8 c8)] (.bool (fun x7=>(.done (br (br x7 false true) y1 (br (br (pr.eq a4 a9) false true) y1 (some ((.bool true),[.undef,.undef]))))))))))))))))))))))):=by kernel_rfl
end
theorem P5 (i w:Nat):U.idx 0 (i:Int) w=i*w:=by rw [Re,Nat.zero_add]
section
variable {α:Type} {e:α→List D} {w:Nat} (hw:∀ x,(e x).length=w) {xs:List α} {i k:Nat} (hi:i < xs.length) (hk:k < w)
include hw hi hk
theorem uQ (kk:IntKind):U.cV kk (aE e xs) (i*w+k)=U.cV kk (e xs[i]) k:=by simp only [U,kK hw xs hi hk]
theorem ru:U.bY (aE e xs) (i*w+k)=U.bY (e xs[i]) k:=by simp only [U,kK hw xs hi hk]
theorem x8:U.fj (aE e xs) (i*w+k)=U.fj (e xs[i]) k:=by simp only [U,kK hw xs hi hk]
theorem uR:U.dI (aE e xs) (i*w+k)=U.dI (e xs[i]) k:=by simp only [U,kK hw xs hi hk]
theorem mY (s:Nat):U.eg s (aE e xs) (i*w+k)=U.eg s (e xs[i]) k:=by simp only [U,kK hw xs hi hk]
theorem lf:U.dn (aE e xs) (i*w+k)=U.dn (e xs[i]) k:=by simp only [U,kK hw xs hi hk]
theorem lg:U.cy (aE e xs) (i*w+k)=U.cy (e xs[i]) k:=by simp only [U,kK hw xs hi hk]
theorem lh:U.cH (aE e xs) (i*w+k)=U.cH (e xs[i]) k:=by simp only [U,kK hw xs hi hk]
end
theorem WR {g:Bool} {xs:List ai} {i:Nat} (h:i < xs.length):U.cV .i64 (aE (af (some g)) xs) (i*16)=true:=(uQ (e:=af (some g)) (w:=16) (fun _=>rfl) (k:=0) h (by omega) _).trans rfl
theorem WS {g:Bool} {xs:List ai} {i:Nat} (h:i < xs.length):U.bY (aE (af (some g)) xs) (i*16)=xs[i].id:=(ru (e:=af (some g)) (w:=16) (fun _=>rfl) (k:=0) h (by omega)).trans rfl
theorem WU {g:Bool} {xs:List ai} {i:Nat} (h:i < xs.length):U.fj (aE (af (some g)) xs) (i*16+1)=true:=(x8 (e:=af (some g)) (w:=16) (fun _=>rfl) (k:=1) h (by omega)).trans rfl
theorem WV {g:Bool} {xs:List ai} {i:Nat} (h:i < xs.length):U.dI (aE (af (some g)) xs) (i*16+1)=xs[i].up:=(uR (e:=af (some g)) (w:=16) (fun _=>rfl) (k:=1) h (by omega)).trans rfl
theorem WW {g:Bool} {xs:List ai} {i:Nat} (h:i < xs.length):U.fj (aE (af (some g)) xs) (i*16+2)=true:=(x8 (e:=af (some g)) (w:=16) (fun _=>rfl) (k:=2) h (by omega)).trans rfl
theorem WX {g:Bool} {xs:List ai} {i:Nat} (h:i < xs.length):U.dI (aE (af (some g)) xs) (i*16+2)=xs[i].eS:=(uR (e:=af (some g)) (w:=16) (fun _=>rfl) (k:=2) h (by omega)).trans rfl
theorem WY {g:Bool} {xs:List ai} {i:Nat} (h:i < xs.length):U.eg 1 (aE (af (some g)) xs) (i*16+3)=true:=(mY (e:=af (some g)) (w:=16) (fun _=>rfl) (k:=3) h (by omega) _).trans rfl
theorem WZ {g:Bool} {xs:List ai} {i:Nat} (h:i < xs.length):U.dn (aE (af (some g)) xs) (i*16+3)=g:=(lf (e:=af (some g)) (w:=16) (fun _=>rfl) (k:=3) h (by omega)).trans rfl
theorem W0 {g:Bool} {xs:List ai} {i:Nat} (h:i < xs.length):U.cy (aE (af (some g)) xs) (i*16+3)=xs[i].image.length:=(lg (e:=af (some g)) (w:=16) (fun _=>rfl) (k:=3) h (by omega)).trans rfl
theorem W1 {g:Bool} {xs:List ai} {i:Nat} (h:i < xs.length):U.cH (aE (af (some g)) xs) (i*16+3)=ints xs[i].image:=(lh (e:=af (some g)) (w:=16) (fun _=>rfl) (k:=3) h (by omega)).trans rfl
theorem W2 {g:Bool} {xs:List ai} {i:Nat} (h:i < xs.length):U.eg 1 (aE (af (some g)) xs) (i*16+4)=true:=(mY (e:=af (some g)) (w:=16) (fun _=>rfl) (k:=4) h (by omega) _).trans rfl
theorem W3 {g:Bool} {xs:List ai} {i:Nat} (h:i < xs.length):U.dn (aE (af (some g)) xs) (i*16+4)=g:=(lf (e:=af (some g)) (w:=16) (fun _=>rfl) (k:=4) h (by omega)).trans rfl
theorem W4 {g:Bool} {xs:List ai} {i:Nat} (h:i < xs.length):U.cy (aE (af (some g)) xs) (i*16+4)=xs[i].mt.aM.length:=(lg (e:=af (some g)) (w:=16) (fun _=>rfl) (k:=4) h (by omega)).trans rfl
theorem W5 {g:Bool} {xs:List ai} {i:Nat} (h:i < xs.length):U.cH (aE (af (some g)) xs) (i*16+4)=ints xs[i].mt.aM:=(lh (e:=af (some g)) (w:=16) (fun _=>rfl) (k:=4) h (by omega)).trans rfl
theorem W6 {g:Bool} {xs:List ai} {i:Nat} (h:i < xs.length):U.eg 1 (aE (af (some g)) xs) (i*16+5)=true:=(mY (e:=af (some g)) (w:=16) (fun _=>rfl) (k:=5) h (by omega) _).trans rfl
theorem W7 {g:Bool} {xs:List ai} {i:Nat} (h:i < xs.length):U.dn (aE (af (some g)) xs) (i*16+5)=g:=(lf (e:=af (some g)) (w:=16) (fun _=>rfl) (k:=5) h (by omega)).trans rfl
theorem W8 {g:Bool} {xs:List ai} {i:Nat} (h:i < xs.length):U.cy (aE (af (some g)) xs) (i*16+5)=xs[i].mt.bits.length:=(lg (e:=af (some g)) (w:=16) (fun _=>rfl) (k:=5) h (by omega)).trans rfl
theorem W9 {g:Bool} {xs:List ai} {i:Nat} (h:i < xs.length):U.cH (aE (af (some g)) xs) (i*16+5)=rows (some g) xs[i].mt.bits:=(lh (e:=af (some g)) (w:=16) (fun _=>rfl) (k:=5) h (by omega)).trans rfl
theorem Xa {g:Bool} {xs:List ai} {i:Nat} (h:i < xs.length):U.fj (aE (af (some g)) xs) (i*16+6)=true:=(x8 (e:=af (some g)) (w:=16) (fun _=>rfl) (k:=6) h (by omega)).trans rfl
theorem Xb {g:Bool} {xs:List ai} {i:Nat} (h:i < xs.length):U.dI (aE (af (some g)) xs) (i*16+6)=xs[i].mt.dQ:=(uR (e:=af (some g)) (w:=16) (fun _=>rfl) (k:=6) h (by omega)).trans rfl
theorem Xc {g:Bool} {xs:List ai} {i:Nat} (h:i < xs.length):U.fj (aE (af (some g)) xs) (i*16+7)=true:=(x8 (e:=af (some g)) (w:=16) (fun _=>rfl) (k:=7) h (by omega)).trans rfl
theorem Xd {g:Bool} {xs:List ai} {i:Nat} (h:i < xs.length):U.dI (aE (af (some g)) xs) (i*16+7)=xs[i].mt.bQ:=(uR (e:=af (some g)) (w:=16) (fun _=>rfl) (k:=7) h (by omega)).trans rfl
theorem Xe {g:Bool} {xs:List ai} {i:Nat} (h:i < xs.length):U.fj (aE (af (some g)) xs) (i*16+8)=true:=(x8 (e:=af (some g)) (w:=16) (fun _=>rfl) (k:=8) h (by omega)).trans rfl
theorem Xf {g:Bool} {xs:List ai} {i:Nat} (h:i < xs.length):U.dI (aE (af (some g)) xs) (i*16+8)=xs[i].mt.held:=(uR (e:=af (some g)) (w:=16) (fun _=>rfl) (k:=8) h (by omega)).trans rfl
theorem Xg {g:Bool} {xs:List ai} {i:Nat} (h:i < xs.length):U.cV .i64 (aE (af (some g)) xs) (i*16+9)=true:=(uQ (e:=af (some g)) (w:=16) (fun _=>rfl) (k:=9) h (by omega) _).trans rfl
theorem Xh {g:Bool} {xs:List ai} {i:Nat} (h:i < xs.length):U.bY (aE (af (some g)) xs) (i*16+9)=xs[i].mt.last:=(ru (e:=af (some g)) (w:=16) (fun _=>rfl) (k:=9) h (by omega)).trans rfl
theorem U4 {g:Bool} {xs:List ai} {i:Nat} (h:i < xs.length):U.eg 1 (aE (af (some g)) xs) (i*16+10)=true:=(mY (e:=af (some g)) (w:=16) (fun _=>rfl) (k:=10) h (by omega) _).trans rfl
theorem U5 {g:Bool} {xs:List ai} {i:Nat} (h:i < xs.length):U.dn (aE (af (some g)) xs) (i*16+10)=g:=(lf (e:=af (some g)) (w:=16) (fun _=>rfl) (k:=10) h (by omega)).trans rfl
theorem U6 {g:Bool} {xs:List ai} {i:Nat} (h:i < xs.length):U.cy (aE (af (some g)) xs) (i*16+10)=xs[i].dr.a.length:=(lg (e:=af (some g)) (w:=16) (fun _=>rfl) (k:=10) h (by omega)).trans rfl
theorem U7 {g:Bool} {xs:List ai} {i:Nat} (h:i < xs.length):U.cH (aE (af (some g)) xs) (i*16+10)=bytes xs[i].dr.a:=(lh (e:=af (some g)) (w:=16) (fun _=>rfl) (k:=10) h (by omega)).trans rfl
theorem U8 {g:Bool} {xs:List ai} {i:Nat} (h:i < xs.length):U.eg 1 (aE (af (some g)) xs) (i*16+11)=true:=(mY (e:=af (some g)) (w:=16) (fun _=>rfl) (k:=11) h (by omega) _).trans rfl
theorem U9 {g:Bool} {xs:List ai} {i:Nat} (h:i < xs.length):U.dn (aE (af (some g)) xs) (i*16+11)=g:=(lf (e:=af (some g)) (w:=16) (fun _=>rfl) (k:=11) h (by omega)).trans rfl
theorem Va {g:Bool} {xs:List ai} {i:Nat} (h:i < xs.length):U.cy (aE (af (some g)) xs) (i*16+11)=xs[i].dr.b.length:=(lg (e:=af (some g)) (w:=16) (fun _=>rfl) (k:=11) h (by omega)).trans rfl
theorem Vb {g:Bool} {xs:List ai} {i:Nat} (h:i < xs.length):U.cH (aE (af (some g)) xs) (i*16+11)=bytes xs[i].dr.b:=(lh (e:=af (some g)) (w:=16) (fun _=>rfl) (k:=11) h (by omega)).trans rfl
theorem Vc {g:Bool} {xs:List ai} {i:Nat} (h:i < xs.length):U.eg 1 (aE (af (some g)) xs) (i*16+12)=true:=(mY (e:=af (some g)) (w:=16) (fun _=>rfl) (k:=12) h (by omega) _).trans rfl
theorem Vd {g:Bool} {xs:List ai} {i:Nat} (h:i < xs.length):U.dn (aE (af (some g)) xs) (i*16+12)=g:=(lf (e:=af (some g)) (w:=16) (fun _=>rfl) (k:=12) h (by omega)).trans rfl
theorem Ve {g:Bool} {xs:List ai} {i:Nat} (h:i < xs.length):U.cy (aE (af (some g)) xs) (i*16+12)=xs[i].conn.length:=(lg (e:=af (some g)) (w:=16) (fun _=>rfl) (k:=12) h (by omega)).trans rfl
theorem Vf {g:Bool} {xs:List ai} {i:Nat} (h:i < xs.length):U.cH (aE (af (some g)) xs) (i*16+12)=aO xs[i].conn:=(lh (e:=af (some g)) (w:=16) (fun _=>rfl) (k:=12) h (by omega)).trans rfl
theorem Vg {g:Bool} {xs:List ai} {i:Nat} (h:i < xs.length):U.eg 1 (aE (af (some g)) xs) (i*16+13)=true:=(mY (e:=af (some g)) (w:=16) (fun _=>rfl) (k:=13) h (by omega) _).trans rfl
theorem Vh {g:Bool} {xs:List ai} {i:Nat} (h:i < xs.length):U.dn (aE (af (some g)) xs) (i*16+13)=g:=(lf (e:=af (some g)) (w:=16) (fun _=>rfl) (k:=13) h (by omega)).trans rfl
theorem Vi {g:Bool} {xs:List ai} {i:Nat} (h:i < xs.length):U.cy (aE (af (some g)) xs) (i*16+13)=xs[i].sync.length:=(lg (e:=af (some g)) (w:=16) (fun _=>rfl) (k:=13) h (by omega)).trans rfl
theorem Vj {g:Bool} {xs:List ai} {i:Nat} (h:i < xs.length):U.cH (aE (af (some g)) xs) (i*16+13)=rows (some g) xs[i].sync:=(lh (e:=af (some g)) (w:=16) (fun _=>rfl) (k:=13) h (by omega)).trans rfl
theorem Vk {g:Bool} {xs:List ai} {i:Nat} (h:i < xs.length):U.eg 1 (aE (af (some g)) xs) (i*16+14)=true:=(mY (e:=af (some g)) (w:=16) (fun _=>rfl) (k:=14) h (by omega) _).trans rfl
theorem Vl {g:Bool} {xs:List ai} {i:Nat} (h:i < xs.length):U.dn (aE (af (some g)) xs) (i*16+14)=g:=(lf (e:=af (some g)) (w:=16) (fun _=>rfl) (k:=14) h (by omega)).trans rfl
theorem Vm {g:Bool} {xs:List ai} {i:Nat} (h:i < xs.length):U.cy (aE (af (some g)) xs) (i*16+14)=xs[i].bp.length:=(lg (e:=af (some g)) (w:=16) (fun _=>rfl) (k:=14) h (by omega)).trans rfl
theorem Vn {g:Bool} {xs:List ai} {i:Nat} (h:i < xs.length):U.cH (aE (af (some g)) xs) (i*16+14)=aO xs[i].bp:=(lh (e:=af (some g)) (w:=16) (fun _=>rfl) (k:=14) h (by omega)).trans rfl
theorem Vo {g:Bool} {xs:List ai} {i:Nat} (h:i < xs.length):U.eg 1 (aE (af (some g)) xs) (i*16+15)=true:=(mY (e:=af (some g)) (w:=16) (fun _=>rfl) (k:=15) h (by omega) _).trans rfl
theorem Vp {g:Bool} {xs:List ai} {i:Nat} (h:i < xs.length):U.dn (aE (af (some g)) xs) (i*16+15)=g:=(lf (e:=af (some g)) (w:=16) (fun _=>rfl) (k:=15) h (by omega)).trans rfl
theorem Vq {g:Bool} {xs:List ai} {i:Nat} (h:i < xs.length):U.cy (aE (af (some g)) xs) (i*16+15)=xs[i].wait.length:=(lg (e:=af (some g)) (w:=16) (fun _=>rfl) (k:=15) h (by omega)).trans rfl
theorem Vr {g:Bool} {xs:List ai} {i:Nat} (h:i < xs.length):U.cH (aE (af (some g)) xs) (i*16+15)=ints xs[i].wait:=(lh (e:=af (some g)) (w:=16) (fun _=>rfl) (k:=15) h (by omega)).trans rfl
theorem Xi {g:Bool} {xs:List eH} {i:Nat} (h:i < xs.length):U.cV .i64 (aE (dJ (some g)) xs) (i*3)=true:=(uQ (e:=dJ (some g)) (w:=3) (fun _=>rfl) (k:=0) h (by omega) _).trans rfl
theorem Xj {g:Bool} {xs:List eH} {i:Nat} (h:i < xs.length):U.bY (aE (dJ (some g)) xs) (i*3)=xs[i].src:=(ru (e:=dJ (some g)) (w:=3) (fun _=>rfl) (k:=0) h (by omega)).trans rfl
theorem Xk {g:Bool} {xs:List eH} {i:Nat} (h:i < xs.length):U.cV .i64 (aE (dJ (some g)) xs) (i*3+1)=true:=(uQ (e:=dJ (some g)) (w:=3) (fun _=>rfl) (k:=1) h (by omega) _).trans rfl
theorem Xl {g:Bool} {xs:List eH} {i:Nat} (h:i < xs.length):U.bY (aE (dJ (some g)) xs) (i*3+1)=xs[i].dst:=(ru (e:=dJ (some g)) (w:=3) (fun _=>rfl) (k:=1) h (by omega)).trans rfl
theorem Xm {g:Bool} {xs:List eH} {i:Nat} (h:i < xs.length):U.eg 1 (aE (dJ (some g)) xs) (i*3+2)=true:=(mY (e:=dJ (some g)) (w:=3) (fun _=>rfl) (k:=2) h (by omega) _).trans rfl
theorem Xn {g:Bool} {xs:List eH} {i:Nat} (h:i < xs.length):U.dn (aE (dJ (some g)) xs) (i*3+2)=g:=(lf (e:=dJ (some g)) (w:=3) (fun _=>rfl) (k:=2) h (by omega)).trans rfl
theorem Xp {g:Bool} {xs:List eH} {i:Nat} (h:i < xs.length):U.cy (aE (dJ (some g)) xs) (i*3+2)=xs[i].bytes.length:=(lg (e:=dJ (some g)) (w:=3) (fun _=>rfl) (k:=2) h (by omega)).trans rfl
theorem Xq {g:Bool} {xs:List eH} {i:Nat} (h:i < xs.length):U.cH (aE (dJ (some g)) xs) (i*3+2)=bytes xs[i].bytes:=(lh (e:=dJ (some g)) (w:=3) (fun _=>rfl) (k:=2) h (by omega)).trans rfl
theorem Xr {g:Bool} {xs:List mC} {i:Nat} (h:i < xs.length):U.cV .i64 (aE (iG (some g)) xs) (i*2)=true:=(uQ (e:=iG (some g)) (w:=2) (fun _=>rfl) (k:=0) h (by omega) _).trans rfl
theorem Xs {g:Bool} {xs:List mC} {i:Nat} (h:i < xs.length):U.bY (aE (iG (some g)) xs) (i*2)=xs[i].cell:=(ru (e:=iG (some g)) (w:=2) (fun _=>rfl) (k:=0) h (by omega)).trans rfl
theorem Xt {g:Bool} {xs:List mC} {i:Nat} (h:i < xs.length):U.cV .i64 (aE (iG (some g)) xs) (i*2+1)=true:=(uQ (e:=iG (some g)) (w:=2) (fun _=>rfl) (k:=1) h (by omega) _).trans rfl
theorem Xu {g:Bool} {xs:List mC} {i:Nat} (h:i < xs.length):U.bY (aE (iG (some g)) xs) (i*2+1)=xs[i].up:=(ru (e:=iG (some g)) (w:=2) (fun _=>rfl) (k:=1) h (by omega)).trans rfl
section
variable {A L B:List D} {m k:Nat} {d:D}
theorem Vs (hA:A.length=m) (hk:k < L.length):List.set (A++(L++B)) (m+k) d=A++(L.set k d++B):=by
  subst hA
  rw [List.set_append_right _ _ (by omega),List.set_append_left _ _ (by omega)]
  simp
theorem aaa (hA:A.length=m) (hk:0 < L.length):List.set (A++(L++B)) m d=A++(L.set 0 d++B):=Vs (k:=0) hA hk
theorem N1 (hA:A.length=m) (hk:k < L.length):(A++(L++B))[m+k]?=L[k]?:=by
  subst hA
  rw [List.getElem?_append_right (by omega),List.getElem?_append_left (by omega)]
  simp
theorem Sj (hA:A.length=m) (hk:k < L.length):U.slot (A++(L++B)) (m+k)=U.slot L k:=by simp only [U,N1 hA hk]
theorem ZG (hA:A.length=m) (hk:0 < L.length):U.slot (A++(L++B)) m=U.slot L 0:=Sj (k:=0) hA hk
theorem aab (s:Nat) (hA:A.length=m) (hk:k < L.length):U.qL s (A++(L++B)) (m+k)=U.qL s L k:=by simp only [U,N1 hA hk]
theorem acS (hk:0 < L.length):U.ne (A++(L++B))=true:=by
  simp only [U]
  cases A with
  | nil=>cases L with
    | nil=>simp at hk
    | cons _ _=>rfl
  | cons _ _=>rfl
theorem aac (l:List D) (n:Nat):U.slot (d::l) (n+1)=U.slot l n:=rfl
theorem aad (l:List D) (kk:IntKind) (x:Int):U.slot (.int kk x::l) 0=true:=rfl
theorem aae (l:List D) (x:Bool):U.slot (.bool x::l) 0=true:=rfl
theorem aaf (s:Nat) (l:List D) (n:Nat):U.qL s (d::l) (n+1)=U.qL s l n:=rfl
theorem aag (l c:List D) (n:Nat):U.qL 1 (.sl none 1 n c::l) 0=true:=rfl
end
theorem V1 {α:Type} {e:α→List D} {w:Nat} (hw:∀ x,(e x).length=w) (xs:List α):(aE e xs).length=xs.length*w:=by
  induction xs with
  | nil=>simp [aE]
  | cons x xs ih=>
    have h:aE e (x::xs)=e x++aE e xs:=by simp [aE]
    rw [h,List.length_append,hw,ih,List.length_cons,Nat.succ_mul]
    omega
theorem IJ {α:Type} (e:α→List D) (xs ys:List α):aE e (xs++ys)=aE e xs++aE e ys:=by simp [aE]
theorem Xv {α:Type} (e:α→List D) {xs:List α} {i:Nat} (h:i < xs.length):aE e xs=aE e (xs.take i)++(e xs[i]++aE e (xs.drop (i+1))):=by
  have e1:xs.take i++xs[i]::xs.drop (i+1)=xs:=by rw [List.getElem_cons_drop h,List.take_append_drop]
  have h2:aE e (xs[i]::xs.drop (i+1))=e xs[i]++aE e (xs.drop (i+1)):=by simp only [aE,List.flatMap_cons]
  rw [← h2,← IJ,e1]
theorem ZH {α:Type} (e:α→List D) {xs:List α} {i:Nat} (h:i < xs.length) (x:α):aE e (xs.set i x)=aE e (xs.take i)++(e x++aE e (xs.drop (i+1))):=by
  have e1:xs.set i x=xs.take i++x::xs.drop (i+1):=List.set_eq_take_append_cons_drop.trans (if_pos h)
  have h2:aE e (x::xs.drop (i+1))=e x++aE e (xs.drop (i+1)):=by simp [aE]
  rw [e1,IJ,h2]
theorem YL {α:Type} (e:α→List D) (z:List D) (x:α) (h:z.map ry=e x) (n:Nat):fD n z=aE e (List.replicate n x):=by
  unfold fD aE
  rw [h]
  simp [List.flatMap]
def ZI:ai:=⟨0,false,false,[],⟨[],[],false,false,false,0⟩,⟨[],[]⟩,[],[],[],[]⟩
theorem BV:∀ l:List D,U.nl l=bD l:=fun _=>rfl
theorem Jv (a b:List D):bD (a++b)=(bD a&&bD b):=by
  induction a with
  | nil=>simp [bD]
  | cons x a ih=>simp [bD,ih,Bool.and_assoc]
theorem x9 {α:Type} {e:α→List D} (h:∀ x,U.nl (e x)=true) (xs:List α):U.nl (aE e xs)=true:=by
  induction xs with
  | nil=>rfl
  | cons x xs ih=>
    have h1:aE e (x::xs)=e x++aE e xs:=by simp [aE]
    rw [h1,BV,Jv,← BV,← BV,h,ih]
    rfl
theorem acT (xs:List ai):U.nl (aE (af none) xs)=true:=x9 (fun x=>by
  have h1:=lz; have h2:=IC; have h3:=eI; have h4:=LR
  simp only [BV] at h1 h2 h3 h4 ⊢
  simp only [bD,bz,h1,h2,h3,h4,Bool.and_self]) xs
theorem acU (xs:List eH):U.nl (aE (dJ none) xs)=true:=x9 (fun x=>by
  have h3:=eI
  simp only [BV] at h3 ⊢
  simp only [bD,bz,h3,Bool.and_self]) xs
theorem acV (g:Option Bool) (xs:List mC):U.nl (aE (iG g) xs)=true:=x9 (fun _=>rfl) xs
def oH (x:eH):Prop:=x.bytes.length≤1048576
structure Dh (w:kp):Prop where
  nodes:w.nodes.length≤1048576
  node:∀ n∈w.nodes,ch n
  xR:w.xR.length≤1048576
  Av:∀ x∈w.xR,oH x
  log:w.log.length≤1048576
  safe:w.safe.length≤1048576
theorem P6 (g h:Bool) (x:eH) (ok:oH x):Cm 86 [.agg (dJ (some g) x),.agg (dJ (some h) x)] (.bool true,[.undef,.undef]):=by
  unfold oH at ok
  refine Cm.fin Fx fun J=>?_
  rw [Fy]
  simp (disch:=omega) only [EL,aA,ak,decide_true,aF,aX,fx]
theorem Sk (g h:Option Bool) (x:mC):Cm 87 [.agg (iG g x),.agg (iG h x)] (.bool true,[.undef,.undef]):=by
  refine Cm.fin IH fun J=>?_
  rw [II]
  simp (disch:=omega) only [aF,aX,fx]
def Vt (x:eH):Prop:=x.bytes.length≤140737488355328
def pE (x:eH) (l:Int):Int:=ig (eX x.bytes.length l) fun l=>l
theorem LU {x:eH} {l:Int} (h:0≤l) (hm:l≤1048576):pE x l≤l∧-1≤pE x l∧(0≤pE x l→oH x):=by
  have:=fX (k:=fun l=>l) h (mX (n:=x.bytes.length) h hm) fun h3=>BS h3
  exact ⟨this.1,this.2.1,fun hh=>(this.2.2 hh).1⟩
theorem LV {x:ai} {l:Int} (h:0≤l) (hm:l≤1048576):fk x l≤l∧-1≤fk x l∧(0≤fk x l→ch x):=vL h hm
section
variable (t:bO Rz)
theorem P7 (g h:Bool) (x:eH) (ok:oH x):bc 86 [.agg (dJ (some g) x),.agg (dJ (some h) x)] t=feed t [.bool true]:=bq (P6 g h x ok) (by kernel_rfl) t
theorem Sl (a b:Int):bc 87 [.agg [.int .i64 a,.int .i64 b],.agg [.int .i64 a,.int .i64 b]] t=feed t [.bool true]:=bq (Sk none none ⟨a,b⟩) (by kernel_rfl) t
end
theorem N2 (g h:Bool) (xs:List ai) (hb:xs.length≤1048576) (ok:∀ x∈xs,ch x):Cm 48 [.sl (some g) 16 xs.length (aE (af (some g)) xs),.sl (some h) 16 xs.length (aE (af (some h)) xs)] (.bool true,[.undef,.undef]):=by
  refine Cm.go Db [.undef,.undef] 0 (iP g xs.length (aE (af (some g)) xs) h xs.length (aE (af (some h)) xs) (0:Nat)) ?_ fun J hJ=>?_
  · refine WP.loop (H:=fun i=>iP g xs.length (aE (af (some g)) xs) h xs.length (aE (af (some h)) xs) (i:Nat)) (n:=xs.length) (fun _=>True) (fun i hi _ ih=>WP.go _ (ih trivial) fun J hJ=>?_) (fun _=>WP.fin fun J=>?_) 0 (Nat.zero_le _) trivial
    · rw [qR]
      have hx:=ok _ (List.getElem_mem hi)
      simp (disch:=first | omega | assumption) only [aF,aX,aW,ba,aB,aP,bo,P5,WR,WS,WU,WV,WW,WX,WY,WZ,W0,W1,W2,W3,W4,W5,W6,W7,W8,W9,Xa,Xb,Xc,Xd,Xe,Xf,Xg,Xh,U4,U5,U6,U7,U8,U9,Va,Vb,Vc,Vd,Ve,Vf,Vg,Vh,Vi,Vj,Vk,Vl,Vm,Vn,Vo,Vp,Vq,Vr,IF,aA,ak,db]
      exact hJ
    · rw [qR]
      simp (disch:=omega) only [aF,aX,aB,bl]
  · rw [Dc]
    simp (disch:=omega) only [aF,aX,aB,ba,bA,fx]
    exact hJ
theorem N3 (g h:Bool) (xs:List eH) (hb:xs.length≤1048576) (ok:∀ x∈xs,oH x):Cm 49 [.sl (some g) 3 xs.length (aE (dJ (some g)) xs),.sl (some h) 3 xs.length (aE (dJ (some h)) xs)] (.bool true,[.undef,.undef]):=by
  refine Cm.go Dd [.undef,.undef] 0 (iQ g xs.length (aE (dJ (some g)) xs) h xs.length (aE (dJ (some h)) xs) (0:Nat)) ?_ fun J hJ=>?_
  · refine WP.loop (H:=fun i=>iQ g xs.length (aE (dJ (some g)) xs) h xs.length (aE (dJ (some h)) xs) (i:Nat)) (n:=xs.length) (fun _=>True) (fun i hi _ ih=>WP.go _ (ih trivial) fun J hJ=>?_) (fun _=>WP.fin fun J=>?_) 0 (Nat.zero_le _) trivial
    · rw [qS]
      have hx:=ok _ (List.getElem_mem hi)
      simp (disch:=first | omega | assumption) only [aF,aX,aW,ba,aB,aP,bo,P5,Xi,Xj,Xk,Xl,Xm,Xn,Xp,Xq,P7,aA,ak,db]
      exact hJ
    · rw [qS]
      simp (disch:=omega) only [aF,aX,aB,bl]
  · rw [De]
    simp (disch:=omega) only [aF,aX,aB,ba,bA,fx]
    exact hJ
theorem P8 (g h:Bool) (xs:List mC) (hb:xs.length≤1048576):Cm 50 [.sl (some g) 2 xs.length (aE (iG (some g)) xs),.sl (some h) 2 xs.length (aE (iG (some h)) xs)] (.bool true,[.undef,.undef]):=by
  refine Cm.go Fz [.undef,.undef] 0 (jA g xs.length (aE (iG (some g)) xs) h xs.length (aE (iG (some h)) xs) (0:Nat)) ?_ fun J hJ=>?_
  · refine WP.loop (H:=fun i=>jA g xs.length (aE (iG (some g)) xs) h xs.length (aE (iG (some h)) xs) (i:Nat)) (n:=xs.length) (fun _=>True) (fun i hi _ ih=>WP.go _ (ih trivial) fun J hJ=>?_) (fun _=>WP.fin fun J=>?_) 0 (Nat.zero_le _) trivial
    · rw [sC]
      have hx:=hi
      simp (disch:=first | omega | assumption) only [aF,aX,aW,ba,aB,aP,bo,P5,Xr,Xs,Xt,Xu,Sl,aA,ak,db]
      exact hJ
    · rw [sC]
      simp (disch:=omega) only [aF,aX,aB,bl]
  · rw [FB]
    simp (disch:=omega) only [aF,aX,aB,ba,bA,fx]
    exact hJ
def vM (xs:List ai) (l:Int):Int:=ig (eX xs.length l) (tJ fk xs)
def vN (xs:List eH) (l:Int):Int:=ig (eX xs.length l) (tJ pE xs)
end Go.Proofs.Ytockoilcnmljiaa
namespace Go.Proofs.Ytockoilcnmljiaa
set_option maxRecDepth 100000
section
variable (t:bO Rz)
theorem N4 (g h:Bool) (xs:List ai) (hb:xs.length≤1048576) (ok:∀ x∈xs,ch x):bc 48 [sN (some g) xs,sN (some h) xs] t=feed t [.bool true]:=bq (N2 g h xs hb ok) (by kernel_rfl) t
theorem N5 (g h:Bool) (xs:List eH) (hb:xs.length≤1048576) (ok:∀ x∈xs,oH x):bc 49 [sW (some g) xs,sW (some h) xs] t=feed t [.bool true]:=bq (N3 g h xs hb ok) (by kernel_rfl) t
theorem P9 (g h:Bool) (xs:List mC) (hb:xs.length≤1048576):bc 50 [sK (some g) xs,sK (some h) xs] t=feed t [.bool true]:=bq (P8 g h xs hb) (by kernel_rfl) t
end
theorem N6 (g h:Bool) (w:kp) (ok:Dh w):Cm 18 [.agg (uz (some g) w),.agg (uz (some h) w)] (.bool true,[.undef,.undef]):=by
  have h1:=ok.nodes; have h2:=ok.xR; have h3:=ok.log; have h4:=ok.safe
  refine Cm.fin Df fun J=>?_
  rw [Dg]
  simp (disch:=first | omega | exact ok.node | exact ok.Av) only [N4,N5,P9,sw,aA,ak,decide_true,aF,aX,fx]
structure aah (w:kp):Prop where
  nodes:w.nodes.length≤140737488355328
  node:∀ n∈w.nodes,sy n
  xR:w.xR.length≤140737488355328
  Av:∀ x∈w.xR,Vt x
  log:w.log.length≤140737488355328
  safe:w.safe.length≤140737488355328
def ZJ (w:kp) (l:Int):Int:=ig (vM w.nodes l) fun l=>ig (vN w.xR l) fun l=>ig (eX w.log.length l) fun l=>ig (eX w.safe.length l) fun l=>l
theorem gS {v l:Int} {k:Int→Int} (hv:v≤l∧-1≤v) (hl:0≤l) (hk:0≤v→k v≤v∧-1≤k v):ig v k≤l∧-1≤ig v k:=by
  unfold ig
  split
  · omega
  · have:=hk (by omega); omega
theorem lj {n:Nat} {l:Int} (h:0≤l):eX n l≤l∧-1≤eX n l:=⟨(jx h).1,(jx h).2.1⟩
theorem KC {α:Type} {f:α→Int→Int} (hf:∀ x l,0≤l→f x l≤l∧-1≤f x l):∀ (xs:List α) (l:Int),0≤l→tJ f xs l≤l∧-1≤tJ f xs l
  | [],l,h=>⟨Int.le_refl _,by show -1≤l; omega⟩
  | x::xs,l,h=>gS (hf x l h) h fun h1=>KC hf xs _ h1
theorem KD {xss:List (List Int)} {l:Int} (h:0≤l):uP xss l≤l∧-1≤uP xss l:=gS (lj h) h fun h1=>KC (fun _ _ hl=>lj hl) _ _ h1
theorem zP {n:ai} {l:Int} (h:0≤l):fk n l≤l∧-1≤fk n l:=by
  refine gS (lj h) h fun h=>gS ?_ h fun h=>gS ?_ h fun h=>gS (lj h) h fun h=>gS (KD h) h fun h=>gS (lj h) h fun h=>gS (lj h) h fun h=>?_
  · exact gS (lj h) h fun h=>gS (KD h) h fun h=>by omega
  · exact gS (lj h) h fun h=>gS (lj h) h fun h=>by omega
  · omega
theorem V2 {xs:List ai} {l:Int} (h:0≤l) (hm:l≤1048576):vM xs l≤l∧-1≤vM xs l∧(0≤vM xs l→xs.length≤1048576∧∀ x∈xs,ch x):=by
  refine fX h (mX h hm) fun h1=>?_
  have h2:=jx (n:=xs.length) h
  exact BR (f:=fk) (Q:=ch) (fun x l hl=>by
    by_cases hm:l≤1048576
    · obtain ⟨a,b,c⟩:=LV (x:=x) hl hm
      exact ⟨a,b,fun hh _=>c hh⟩
    · refine ⟨?_,?_,fun _ Nh=>absurd Nh hm⟩
      · exact (zP hl).1
      · exact (zP hl).2) xs _ h1 (by omega)
theorem V3 {xs:List eH} {l:Int} (h:0≤l) (hm:l≤1048576):vN xs l≤l∧-1≤vN xs l∧(0≤vN xs l→xs.length≤1048576∧∀ x∈xs,oH x):=by
  refine fX h (mX h hm) fun h1=>?_
  have h2:=jx (n:=xs.length) h
  exact BR (f:=pE) (Q:=oH) (fun x l hl=>by
    by_cases hm:l≤1048576
    · obtain ⟨a,b,c⟩:=LU (x:=x) hl hm
      exact ⟨a,b,fun hh _=>c hh⟩
    · have h3:pE x l≤l∧-1≤pE x l:=gS (k:=fun l=>l) (lj hl) hl fun h=>by show (_:Int)≤_∧_; omega
      exact ⟨h3.1,h3.2,fun _ Nh=>absurd Nh hm⟩) xs _ h1 (by omega)
section
variable (t:bO Rz)
theorem N7 (g h:Bool) (w:kp) (ok:Dh w):bc 18 [.agg (uz (some g) w),.agg (uz (some h) w)] t=feed t [.bool true]:=bq (N6 g h w ok) (by kernel_rfl) t
end
structure aai (w:kp):Prop where
  node:∀ n∈w.nodes,BU n
  src:∀ x∈w.xR,so x.src=true∧so x.dst=true
  adz:∀ x∈w.log,so x.cell=true∧so x.up=true
  safe:sA w.safe
  gen:so w.gen=true
end Go.Proofs.Ytockoilcnmljiaa
