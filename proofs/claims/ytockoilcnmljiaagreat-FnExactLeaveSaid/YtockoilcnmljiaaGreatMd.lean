/- What the proof of FnExactLeave stands on, part 4: an abstract machine on plain data, its soundness, and the contracts of functions. -/
import Derived.Test.YtockoilcnmljiaaGreatChecked
import Derived.KernelRfl
import Derived.SizedLaws
import Derived.ChangeOld
import Derived.Test.YtockoilcnmljiaaGreatMc
set_option linter.all false
set_option linter.unusedSimpArgs false
set_option linter.unusedVariables false
set_option linter.unnecessarySimpa false
set_option linter.unusedSectionVars false
namespace Go.Proofs.YtockoilcnmljiaaGreat
def bs (l:List UInt8):ByteArray:=⟨l.toArray⟩
def ints (xs:List Int):List D:=xs.map (.int .i64)
def bytes (xs:List UInt8):List D:=xs.map dq
def aD (xs:List Bool):List D:=xs.map .bool
def ab {α:Type} (e:α→List D) (xs:List α):List D:=xs.flatMap e
structure aI where
  ay:List Int
  bits:List (List Int)
  cI:Bool
  bN:Bool
  held:Bool
  last:Int
structure aG where
  a:List UInt8
  b:List UInt8
structure ae where
  id:Int
  up:Bool
  cE:Bool
  image:List Int
  mt:aI
  aM:aG
  conn:List Bool
  sync:List (List Int)
  aK:List Bool
  wait:List Int
abbrev sI (g:Option Bool) (xs:List Int):D:=.sl g 1 xs.length (ints xs)
abbrev s8 (g:Option Bool) (xs:List UInt8):D:=.sl g 1 xs.length (bytes xs)
abbrev sB (g:Option Bool) (xs:List Bool):D:=.sl g 1 xs.length (aD xs)
def rows (g:Option Bool) (xss:List (List Int)):List D:=xss.map fun xs=>.sl g 1 xs.length (ints xs)
abbrev sR (g:Option Bool) (xss:List (List Int)):D:=.sl g 1 xss.length (rows g xss)
abbrev bR (g:Option Bool) (m:aI):List D:=[sI g m.ay,sR g m.bits,.bool m.cI,.bool m.bN,.bool m.held,.int .i64 m.last]
abbrev cO (g:Option Bool) (s:aG):List D:=[s8 g s.a,s8 g s.b]
abbrev U (g:Option Bool) (n:ae):List D:=[.int .i64 n.id,.bool n.up,.bool n.cE,sI g n.image,sI g n.mt.ay,sR g n.mt.bits,.bool n.mt.cI,.bool n.mt.bN,.bool n.mt.held,.int .i64 n.mt.last,s8 g n.aM.a,s8 g n.aM.b,sB g n.conn,sR g n.sync,sB g n.aK,sI g n.wait]
structure dn where
  src:Int
  dst:Int
  bytes:List UInt8
structure ik where
  cell:Int
  up:Int
structure aW where
  nodes:List ae
  cz:List dn
  log:List ik
  safe:List Int
  gen:Int
abbrev bp (g:Option Bool) (x:dn):List D:=[.int .i64 x.src,.int .i64 x.dst,s8 g x.bytes]
abbrev cP (_:Option Bool) (r:ik):List D:=[.int .i64 r.cell,.int .i64 r.up]
abbrev sN (g:Option Bool) (xs:List ae):D:=.sl g 16 xs.length (ab (U g) xs)
abbrev sW (g:Option Bool) (xs:List dn):D:=.sl g 3 xs.length (ab (bp g) xs)
abbrev sK (g:Option Bool) (xs:List ik):D:=.sl g 2 xs.length (ab (cP g) xs)
abbrev eM (g:Option Bool) (w:aW):List D:=[sN g w.nodes,sW g w.cz,sK g w.log,sI g w.safe,.int .i64 w.gen]
structure u9 where
  kind:Int
  cell:Int
  val:Int
  who:Int
  ay:List Int
structure yy where
  src:Int
  dst:Int
  msg:u9
structure qw where
  kind:Int
  a:Int
  b:Int
abbrev HF (g:Option Bool) (m:u9):List D:=[.int .i64 m.kind,.int .i64 m.cell,.int .i64 m.val,.int .i64 m.who,sI g m.ay]
abbrev B8 (g:Option Bool) (p:yy):List D:=[.int .i64 p.src,.int .i64 p.dst,.int .i64 p.msg.kind,.int .i64 p.msg.cell,.int .i64 p.msg.val,.int .i64 p.msg.who,sI g p.msg.ay]
abbrev B9 (_:Option Bool) (d:qw):List D:=[.int .i64 d.kind,.int .i64 d.a,.int .i64 d.b]
abbrev sP (g:Option Bool) (xs:List yy):D:=.sl g 7 xs.length (ab (B8 g) xs)
abbrev sM (g:Option Bool) (xs:List u9):D:=.sl g 5 xs.length (ab (HF g) xs)
abbrev sD (g:Option Bool) (xs:List qw):D:=.sl g 3 xs.length (ab (B9 g) xs)
inductive fk where
  | I | B | L | R | mt | aM | node | msg | post | world | RU | wz | Ns | Ws | Ks | Ps | Ms | Ds
abbrev fk.T:fk→Type
  | .I=>List Int
  | .B=>List UInt8
  | .L=>List Bool
  | .R=>List (List Int)
  | .mt=>aI
  | .aM=>aG
  | .node=>ae
  | .msg=>u9
  | .post=>yy
  | .world=>aW
  | .RU=>qw
  | .wz=>dn
  | .Ns=>List ae
  | .Ws=>List dn
  | .Ks=>List ik
  | .Ps=>List yy
  | .Ms=>List u9
  | .Ds=>List qw
def enc:(k:fk)→k.T→D
  | .I,x=>sI none x
  | .B,x=>s8 none x
  | .L,x=>sB none x
  | .R,x=>sR none x
  | .mt,x=>.agg (bR none x)
  | .aM,x=>.agg (cO none x)
  | .node,x=>.agg (U none x)
  | .msg,x=>.agg (HF none x)
  | .post,x=>.agg (B8 none x)
  | .world,x=>.agg (eM none x)
  | .RU,x=>.agg (B9 none x)
  | .wz,x=>.agg (bp none x)
  | .Ns,x=>sN none x
  | .Ws,x=>sW none x
  | .Ks,x=>sK none x
  | .Ps,x=>sP none x
  | .Ms,x=>sM none x
  | .Ds,x=>sD none x
theorem map_inj {α:Type} {f:α→D} (h:∀ a b,f a=f b→a=b):∀ {xs ys:List α},xs.map f=ys.map f→xs=ys
  | [],[],_=>rfl
  | [],_::_,e=>by simp at e
  | _::_,[],e=>by simp at e
  | x::xs,y::ys,e=>by
    simp only [List.map_cons,List.cons.injEq] at e
    rw [h _ _ e.1,map_inj h e.2]
theorem mo {xs ys:List Int} (h:ints xs=ints ys):xs=ys:=map_inj (fun a b e=>by simpa using e) h
theorem bytes_inj {xs ys:List UInt8} (h:bytes xs=bytes ys):xs=ys:=map_inj (fun a b e=>by
  simp only [dq,D.int.injEq,true_and] at e
  exact UInt8.toNat_inj.1 (by omega)) h
theorem Av {xs ys:List Bool} (h:aD xs=aD ys):xs=ys:=map_inj (fun a b e=>by simpa using e) h
theorem yz {g:Option Bool} {xs ys:List (List Int)} (h:rows g xs=rows g ys):xs=ys:=map_inj (fun a b e=>by
  simp only [D.sl.injEq] at e
  exact mo e.2.2.2) h
theorem NH {α:Type} {e:α→List D} {w:Nat} (hw:∀ x,(e x).length=w) (h:∀ a b,e a=e b→a=b):∀ {xs ys:List α},xs.length=ys.length→ab e xs=ab e ys→xs=ys
  | [],[],_,_=>rfl
  | [],_::_,hl,_=>by simp at hl
  | _::_,[],hl,_=>by simp at hl
  | x::xs,y::ys,hl,he=>by
    simp only [ab,List.flatMap_cons] at he
    have h1:=List.append_inj he (by rw [hw,hw])
    rw [h _ _ h1.1,NH hw h (by simpa using hl) h1.2]
theorem T7 {g:Option Bool} {a b:aI} (h:bR g a=bR g b):a=b:=by
  obtain ⟨a1,a2,a3,a4,a5,a6⟩:=a
  obtain ⟨b1,b2,b3,b4,b5,b6⟩:=b
  simp only [List.cons.injEq,D.sl.injEq,D.bool.injEq,D.int.injEq,true_and,and_true] at h
  rw [mo h.1.2,yz h.2.1.2,h.2.2.1,h.2.2.2.1,h.2.2.2.2.1,h.2.2.2.2.2]
theorem RV {g:Option Bool} {a b:aG} (h:cO g a=cO g b):a=b:=by
  obtain ⟨a1,a2⟩:=a
  obtain ⟨b1,b2⟩:=b
  simp only [List.cons.injEq,D.sl.injEq,true_and,and_true] at h
  rw [bytes_inj h.1.2,bytes_inj h.2.2]
theorem Aw {g:Option Bool} {a b:ae} (h:U g a=U g b):a=b:=by
  obtain ⟨a1,a2,a3,a4,a5,⟨a6,a7⟩,a8,a9,a10,a11⟩:=a
  obtain ⟨b1,b2,b3,b4,b5,⟨b6,b7⟩,b8,b9,jt,b11⟩:=b
  obtain ⟨c1,c2,c3,c4,c5,c6⟩:=a5
  obtain ⟨d1,d2,d3,d4,d5,d6⟩:=b5
  simp only [List.cons.injEq,D.sl.injEq,D.bool.injEq,D.int.injEq,true_and,and_true] at h
  obtain ⟨h1,h2,h3,⟨_,h4⟩,⟨_,h5⟩,⟨_,h6⟩,h7,h8,h9,mG,⟨_,Mn⟩,⟨_,h12⟩,⟨_,h13⟩,⟨_,h14⟩,⟨_,h15⟩,⟨_,h16⟩⟩:=h
  rw [h1,h2,h3,mo h4,mo h5,yz h6,h7,h8,h9,mG,bytes_inj Mn,bytes_inj h12,Av h13,yz h14,Av h15,mo h16]
theorem Ax {g:Option Bool} {a b:dn} (h:bp g a=bp g b):a=b:=by
  obtain ⟨a1,a2,a3⟩:=a
  obtain ⟨b1,b2,b3⟩:=b
  simp only [List.cons.injEq,D.sl.injEq,D.int.injEq,true_and,and_true] at h
  rw [h.1,h.2.1,bytes_inj h.2.2.2]
theorem NI {g:Option Bool} {a b:ik} (h:cP g a=cP g b):a=b:=by
  obtain ⟨a1,a2⟩:=a
  obtain ⟨b1,b2⟩:=b
  simp only [List.cons.injEq,D.int.injEq,true_and,and_true] at h
  rw [h.1,h.2]
theorem NJ {g:Option Bool} {a b:u9} (h:HF g a=HF g b):a=b:=by
  obtain ⟨a1,a2,a3,a4,a5⟩:=a
  obtain ⟨b1,b2,b3,b4,b5⟩:=b
  simp only [List.cons.injEq,D.sl.injEq,D.int.injEq,true_and,and_true] at h
  rw [h.1,h.2.1,h.2.2.1,h.2.2.2.1,mo h.2.2.2.2.2]
theorem JQ {g:Option Bool} {a b:yy} (h:B8 g a=B8 g b):a=b:=by
  obtain ⟨x,y,⟨a1,a2,a3,a4,a5⟩⟩:=a
  obtain ⟨z,w,⟨b1,b2,b3,b4,b5⟩⟩:=b
  simp only [List.cons.injEq,D.sl.injEq,D.int.injEq,true_and,and_true] at h
  rw [h.1,h.2.1,h.2.2.1,h.2.2.2.1,h.2.2.2.2.1,h.2.2.2.2.2.1,mo h.2.2.2.2.2.2.2]
theorem JR {g:Option Bool} {a b:qw} (h:B9 g a=B9 g b):a=b:=by
  obtain ⟨a1,a2,a3⟩:=a
  obtain ⟨b1,b2,b3⟩:=b
  simp only [List.cons.injEq,D.int.injEq,true_and,and_true] at h
  rw [h.1,h.2.1,h.2.2]
theorem qx {α:Type} {e:α→List D} {w s:Nat} (hw:∀ x,(e x).length=w) (h:∀ a b,e a=e b→a=b) {xs ys:List α} (he:D.sl none s xs.length (ab e xs)=.sl none s ys.length (ab e ys)):xs=ys:=by
  simp only [D.sl.injEq,true_and] at he
  exact NH hw h he.1 he.2
theorem ZG:∀ {k:fk} {x y:k.T},enc k x=enc k y→x=y
  | .I,_,_,h=>mo (D.sl.inj h).2.2.2
  | .B,_,_,h=>bytes_inj (D.sl.inj h).2.2.2
  | .L,_,_,h=>Av (D.sl.inj h).2.2.2
  | .R,_,_,h=>yz (D.sl.inj h).2.2.2
  | .mt,_,_,h=>T7 (D.agg.inj h)
  | .aM,_,_,h=>RV (D.agg.inj h)
  | .node,_,_,h=>Aw (D.agg.inj h)
  | .msg,_,_,h=>NJ (D.agg.inj h)
  | .post,_,_,h=>JQ (D.agg.inj h)
  | .world,x,y,h=>by
    obtain ⟨a1,a2,a3,a4,a5⟩:=x
    obtain ⟨b1,b2,b3,b4,b5⟩:=y
    have h:=D.agg.inj h
    simp only [List.cons.injEq,D.int.injEq,true_and,and_true] at h
    rw [qx (w:=16) (fun _=>rfl) (fun _ _=>Aw) h.1,qx (w:=3) (fun _=>rfl) (fun _ _=>Ax) h.2.1,qx (w:=2) (fun _=>rfl) (fun _ _=>NI) h.2.2.1,mo (D.sl.inj h.2.2.2.1).2.2.2,h.2.2.2.2]
  | .RU,_,_,h=>JR (g:=none) (D.agg.inj h)
  | .wz,_,_,h=>Ax (D.agg.inj h)
  | .Ns,_,_,h=>qx (w:=16) (fun _=>rfl) (fun _ _=>Aw) h
  | .Ws,_,_,h=>qx (w:=3) (fun _=>rfl) (fun _ _=>Ax) h
  | .Ks,_,_,h=>qx (w:=2) (fun _=>rfl) (fun _ _=>NI) h
  | .Ps,_,_,h=>qx (w:=7) (fun _=>rfl) (fun _ _=>JQ) h
  | .Ms,_,_,h=>qx (w:=5) (fun _=>rfl) (fun _ _=>NJ) h
  | .Ds,_,_,h=>qx (w:=3) (fun _=>rfl) (fun _ _=>JR (g:=none)) h
theorem wW {ds:List D} (h:∀ d∈ds,bY d=true):cd ds=true:=by
  induction ds with
  | nil=>rfl
  | cons d ds ih=>
    simp only [cd,Bool.and_eq_true]
    exact ⟨h d (by simp),ih fun x hx=>h x (by simp [hx])⟩
theorem r8 (xs:List Int):cd (ints xs)=true:=wW (by intro d hd; obtain ⟨a,_,rfl⟩:=List.mem_map.1 hd; rfl)
theorem Ca (xs:List UInt8):cd (bytes xs)=true:=wW (by intro d hd; obtain ⟨a,_,rfl⟩:=List.mem_map.1 hd; rfl)
theorem RW (xs:List Bool):cd (aD xs)=true:=wW (by intro d hd; obtain ⟨a,_,rfl⟩:=List.mem_map.1 hd; rfl)
theorem L0 (xs:List (List Int)):cd (rows none xs)=true:=wW (by intro d hd; obtain ⟨a,_,rfl⟩:=List.mem_map.1 hd; simp [bY,r8])
theorem tW {α:Type} {e:α→List D} (h:∀ x,cd (e x)=true) (xs:List α):cd (ab e xs)=true:=wW (by
  intro d hd
  obtain ⟨a,_,ha⟩:=List.mem_flatMap.1 hd
  have:=h a
  generalize e a=l at this ha
  induction l with
  | nil=>simp at ha
  | cons x l ih=>
    simp only [cd,Bool.and_eq_true] at this
    rcases List.mem_cons.1 ha with rfl | ha
    · exact this.1
    · exact ih this.2 ha)
theorem YA (x:ae):cd (U none x)=true:=by simp [cd,bY,r8,Ca,RW,L0]
theorem YB (x:dn):cd (bp none x)=true:=by simp [cd,bY,Ca]
theorem YC (x:ik):cd (cP none x)=true:=by simp [cd,bY]
theorem ad5 (x:yy):cd (B8 none x)=true:=by simp [cd,bY,r8]
theorem ad6 (x:u9):cd (HF none x)=true:=by simp [cd,bY,r8]
theorem ad7 (x:qw):cd (B9 none x)=true:=by simp [cd,bY]
theorem au:∀ (k:fk) (x:k.T),dM (enc k x)=true
  | .I,x=>by simp [dM,enc,bZ,dj,fr,bY,r8]
  | .B,x=>by simp [dM,enc,bZ,dj,fr,bY,Ca]
  | .L,x=>by simp [dM,enc,bZ,dj,fr,bY,RW]
  | .R,x=>by simp [dM,enc,bZ,dj,fr,bY,L0]
  | .mt,x=>by simp [dM,enc,bZ,dj,fr,bY,r8,L0]
  | .aM,x=>by simp [dM,enc,bZ,dj,fr,bY,Ca]
  | .node,x=>by simp [dM,enc,bZ,dj,fr,bY,r8,Ca,RW,L0]
  | .msg,x=>by simp [dM,enc,bZ,dj,fr,bY,r8]
  | .post,x=>by simp [dM,enc,bZ,dj,fr,bY,r8]
  | .world,x=>by simp [dM,enc,bZ,dj,fr,bY,r8,tW YA,tW YB,tW YC]
  | .RU,x=>by simp [dM,enc,bZ,dj,fr,bY]
  | .wz,x=>by simp [dM,enc,bZ,dj,fr,bY,Ca]
  | .Ns,x=>by simp [dM,enc,bZ,dj,fr,bY,tW YA]
  | .Ws,x=>by simp [dM,enc,bZ,dj,fr,bY,tW YB]
  | .Ks,x=>by simp [dM,enc,bZ,dj,fr,bY,tW YC]
  | .Ps,x=>by simp [dM,enc,bZ,dj,fr,bY,tW ad5]
  | .Ms,x=>by simp [dM,enc,bZ,dj,fr,bY,tW ad6]
  | .Ds,x=>by simp [dM,enc,bZ,dj,fr,bY,tW ad7]
def QG (v:D):Bool:=(match v with | .agg cs=>cs | d=>[d]).all fun x=>fr x&&bY x
theorem aX:dM (.aL [])=true:=rfl
theorem aY (v:D) (vs:List D):dM (.aL (v::vs))=(QG v&&dM (.aL vs)):=by
  simp only [dM,bZ,dj,List.flatMap_cons,List.all_append,QG]
  rfl
theorem bu (k:fk) (x:k.T):QG (enc k x)=true:=by
  have:=au k x
  cases k<;>exact this
theorem bw (k:IntKind) (n:Int):QG (.int k n)=true:=rfl
theorem aZ (b:Bool):QG (.bool b)=true:=rfl
theorem bz (b:ByteArray):QG (.str b)=true:=rfl
end Go.Proofs.YtockoilcnmljiaaGreat
namespace Go.Proofs.YtockoilcnmljiaaGreat
inductive RS where
  | int (k:IntKind)
  | bool
  | str
  | sl (s:Nat)
  | jD (s:Nat)
  | undef
  | agg (l:List RS)
  | aL (l:List RS)
  | bf (l:List RS)
  | ty (k:fk)
inductive bG (R:Type) where
  | done (x:Option R)
  | int (f:Int→bG R)
  | bool (f:Bool→bG R)
  | str (f:ByteArray→bG R)
  | sl (f:Nat→List D→bG R)
  | jD (f:Bool→Nat→List D→bG R)
  | ty (k:fk) (f:k.T→bG R)
section
variable {R:Type}
mutual
def qy:RS→(D→bG R)→bG R
  | .int k,f=>.int fun x=>f (.int k x)
  | .bool,f=>.bool fun x=>f (.bool x)
  | .str,f=>.str fun x=>f (.str x)
  | .sl s,f=>.sl fun n cs=>f (.sl none s n cs)
  | .jD s,f=>.jD fun _ n cs=>f (.sl (some false) s n cs)
  | .undef,f=>f .undef
  | .agg l,f=>Ay l fun ds=>f (.agg ds)
  | .aL l,f=>Ay l fun ds=>f (.aL ds)
  | .bf l,f=>Ay l fun ds=>f (.bf ds)
  | .ty k,f=>.ty k fun x=>f (enc k x)
def Ay:List RS→(List D→bG R)→bG R
  | [],f=>f []
  | s::ss,f=>qy s fun d=>Ay ss fun ds=>f (d::ds)
end
open Classical in
noncomputable def feed:bG R→List D→Option R
  | .done x,_=>x
  | .int f,.int _ n::l=>feed (f n) l
  | .bool f,.bool b::l=>feed (f b) l
  | .str f,.str s::l=>feed (f s) l
  | .sl f,.sl none _ n cs::l=>feed (f n cs) l
  | .jD f,.sl (some g) _ n cs::l=>feed (f g n cs) l
  | .ty k f,d::l=>if h:∃ x,d=enc k x then feed (f (Classical.choose h)) l else none
  | _,_=>none
end
mutual
def rM:D→List D
  | .agg ds=>v7 ds
  | .aL ds=>v7 ds
  | .bf ds=>v7 ds
  | .undef=>[]
  | d=>[d]
def v7:List D→List D
  | []=>[]
  | d::ds=>rM d++v7 ds
end
open Classical in
mutual
noncomputable def eV:RS→D→Bool
  | .int k,.int k' _=>eY k k'
  | .bool,.bool _=>true
  | .str,.str _=>true
  | .sl s,.sl none s' _ _=>s==s'
  | .jD s,.sl (some false) s' _ _=>s==s'
  | .undef,.undef=>true
  | .agg l,.agg ds=>jE l ds
  | .aL l,.aL ds=>jE l ds
  | .bf l,.bf ds=>jE l ds
  | .ty k,d=>decide (∃ x,d=enc k x)
  | _,_=>false
noncomputable def jE:List RS→List D→Bool
  | [],[]=>true
  | s::ss,d::ds=>eV s d&&jE ss ds
  | _,_=>false
end
open Classical in
theorem av (k:fk) (x:k.T):eV (.ty k) (enc k x)=true:=by
  simp only [eV]
  exact decide_eq_true ⟨x,rfl⟩
theorem bA (k:IntKind) (n:Int):eV (.int k) (.int k n)=true:=by simp [eV,eY]
theorem ba (b:Bool):eV .bool (.bool b)=true:=by simp [eV]
theorem bB (b:ByteArray):eV .str (.str b)=true:=by simp [eV]
theorem bC (l:List RS) (ds:List D):eV (.aL l) (.aL ds)=jE l ds:=by simp [eV]
theorem aj:jE [] []=true:=by simp [jE]
theorem ai (s:RS) (ss:List RS) (d:D) (ds:List D):jE (s::ss) (d::ds)=(eV s d&&jE ss ds):=by simp [jE]
theorem aJ:eV .undef .undef=true:=by simp [eV]
mutual
def ga:RS→D→List D
  | .agg l,.agg ds=>nI l ds
  | .aL l,.aL ds=>nI l ds
  | .bf l,.bf ds=>nI l ds
  | .undef,_=>[]
  | _,d=>[d]
def nI:List RS→List D→List D
  | s::ss,d::ds=>ga s d++nI ss ds
  | _,_=>[]
end
mutual
def va:RS→Bool
  | .ty _=>true
  | .agg l=>vb l
  | .aL l=>vb l
  | .bf l=>vb l
  | _=>false
def vb:List RS→Bool
  | []=>false
  | s::ss=>va s||vb ss
end
mutual
theorem NK:∀ {s:RS} {d:D},eV s d=true→va s=false→ga s d=rM d
  | .int k,d,h,_=>by cases d<;>simp [eV,eY] at h; simp [ga,rM]
  | .bool,d,h,_=>by cases d<;>simp [eV] at h; simp [ga,rM]
  | .str,d,h,_=>by cases d<;>simp [eV] at h; simp [ga,rM]
  | .sl s,d,h,_=>by cases d<;>simp [eV] at h; simp [ga,rM]
  | .jD s,d,h,_=>by cases d<;>simp [eV] at h; simp [ga,rM]
  | .undef,d,h,_=>by cases d<;>simp [eV] at h; simp [ga,rM]
  | .ty k,d,h,ht=>by simp [va] at ht
  | .agg ss,d,h,ht=>by
    cases d with
    | agg ds=>rw [ga,rM]; exact sT (by simpa [eV] using h) (by simpa [va] using ht)
    | _=>simp [eV] at h
  | .aL ss,d,h,ht=>by
    cases d with
    | aL ds=>rw [ga,rM]; exact sT (by simpa [eV] using h) (by simpa [va] using ht)
    | _=>simp [eV] at h
  | .bf ss,d,h,ht=>by
    cases d with
    | bf ds=>rw [ga,rM]; exact sT (by simpa [eV] using h) (by simpa [va] using ht)
    | _=>simp [eV] at h
theorem sT:∀ {ss:List RS} {ds:List D},jE ss ds=true→vb ss=false→nI ss ds=v7 ds
  | [],ds,h,_=>by
    cases ds with
    | nil=>rfl
    | cons d ds=>simp [jE] at h
  | s::ss,ds,h,ht=>by
    cases ds with
    | nil=>simp [jE] at h
    | cons d ds=>
      simp only [jE,Bool.and_eq_true] at h
      simp only [vb,Bool.or_eq_false_iff] at ht
      rw [nI,v7,NK h.1 ht.1,sT h.2 ht.2]
end
section
variable {R:Type}
open Classical in
theorem HG (k:fk) (f:k.T→bG R) (x:k.T) (l:List D):feed (.ty k f) (enc k x::l)=feed (f x) l:=by
  have h:∃ y,enc k x=enc k y:=⟨x,rfl⟩
  have e:Classical.choose h=x:=(ZG (Classical.choose_spec h)).symm
  show (if h:∃ y,enc k x=enc k y then feed (f (Classical.choose h)) l else none)=_
  rw [dif_pos h,e]
mutual
theorem sU:∀ {s:RS} {d:D} (f:D→bG R) (l:List D),eV s d=true→feed (qy s f) (ga s d++l)=feed (f d) l
  | .int k,d,f,l,h=>by
    cases d<;>simp [eV,eY] at h
    subst h
    simp [qy,ga,feed]
  | .bool,d,f,l,h=>by
    cases d<;>simp [eV] at h
    simp [qy,ga,feed]
  | .str,d,f,l,h=>by
    cases d<;>simp [eV] at h
    simp [qy,ga,feed]
  | .sl s,d,f,l,h=>by
    cases d with
    | sl g s' n cs=>cases g with
      | none=>simp [eV] at h; subst h; simp [qy,ga,feed]
      | some g=>simp [eV] at h
    | _=>simp [eV] at h
  | .jD s,d,f,l,h=>by
    cases d with
    | sl g s' n cs=>cases g with
      | none=>simp [eV] at h
      | some g=>cases g with
        | true=>simp [eV] at h
        | false=>simp [eV] at h; subst h; simp [qy,ga,feed]
    | _=>simp [eV] at h
  | .undef,d,f,l,h=>by
    cases d<;>simp [eV] at h
    simp [qy,ga]
  | .agg ss,d,f,l,h=>by
    cases d with
    | agg ds=>rw [qy,ga]; exact mc _ l (by simpa [eV] using h)
    | _=>simp [eV] at h
  | .aL ss,d,f,l,h=>by
    cases d with
    | aL ds=>rw [qy,ga]; exact mc _ l (by simpa [eV] using h)
    | _=>simp [eV] at h
  | .bf ss,d,f,l,h=>by
    cases d with
    | bf ds=>rw [qy,ga]; exact mc _ l (by simpa [eV] using h)
    | _=>simp [eV] at h
  | .ty k,d,f,l,h=>by
    have h:∃ x,d=enc k x:=by simpa [eV] using h
    obtain ⟨x,rfl⟩:=h
    rw [qy,ga,List.singleton_append]
    · exact HG k _ x l
    all_goals simp
theorem mc:∀ {ss:List RS} {ds:List D} (f:List D→bG R) (l:List D),jE ss ds=true→feed (Ay ss f) (nI ss ds++l)=feed (f ds) l
  | [],ds,f,l,h=>by
    cases ds with
    | nil=>rfl
    | cons d ds=>simp [jE] at h
  | s::ss,ds,f,l,h=>by
    cases ds with
    | nil=>simp [jE] at h
    | cons d ds=>
      simp only [jE,Bool.and_eq_true] at h
      rw [Ay,nI,List.append_assoc,sU _ _ h.1,mc _ _ h.2]
end
end
noncomputable def lv (c:cx) (P:Program) (f:FuncId) (ds:List D):Option (D × List D):=by
  classical exact if h:∃ r,Comes c P f ds r then some (Classical.choose h) else none
theorem Wy {c:cx} {P:Program} {f:FuncId} {ds:List D} {r:D × List D} (h:lv c P f ds=some r):Comes c P f ds r:=by
  unfold lv at h
  split at h
  · rename_i hh
    rw [Option.some.injEq] at h
    rw [← h]
    exact Classical.choose_spec hh
  · simp at h
theorem T8 {c:cx} {P:Program} {f:FuncId} {ds:List D} {r r':D × List D} (h:Comes c P f ds r) (h':Comes c P f ds r'):r=r':=by
  obtain ⟨k,hk⟩:=Ev.and h h'
  have h3:=hk k (Nat.le_refl _)
  exact Option.some.inj (h3.1.symm.trans h3.2)
theorem NL {c:cx} {P:Program} {f:FuncId} {ds:List D} {r:D × List D} (h:Comes c P f ds r):lv c P f ds=some r:=by
  unfold lv
  rw [dif_pos ⟨r,h⟩]
  exact congrArg some (T8 (Classical.choose_spec (⟨r,h⟩:∃ r,Comes c P f ds r)) h)
structure Sg where
  sig:FuncId→Option (RS × List RS)
  em:FuncId→Bool
abbrev Cv (R:Type):=FuncId→List D→bG R→Option R
noncomputable def eA {R:Type} (c:cx) (P:Program) (sg:Sg):Cv R:=fun g ds t=>
  if g=999999 then feed t ds else
  match lv c P g ds,sg.sig g with
  | some (r,outs),some (s,ss)=>if eV s r&&jE ss outs&&(!(va s||vb ss)||(dM r&&outs.all dM)) then feed t (ga s r++(nI ss outs++[])) else none
  | _,_=>none
theorem ad8 {R:Type} {c:cx} {P:Program} {sg:Sg} {g:FuncId} {ds:List D} {r:D} {outs:List D} (t:bG R) (h:Comes c P g ds (r,outs)) (hs:(match sg.sig g with | some (s,ss)=>eV s r&&jE ss outs&&!(va s||vb ss) | none=>false)=true) (hg:g≠999999):eA c P sg g ds t=feed t (rM r++(v7 outs++[])):=by
  unfold eA
  rw [if_neg hg,NL h]
  split at hs
  · rename_i s ss hg
    rw [hg]
    simp only [Bool.and_eq_true,Bool.not_eq_true',Bool.or_eq_false_iff] at hs
    simp only [hs,Bool.and_self,Bool.or_self,Bool.not_false,Bool.true_or,if_true]
    rw [NK hs.1.1 hs.2.1,sT hs.1.2 hs.2.2]
  · simp at hs
theorem ad9 {R:Type} {c:cx} {P:Program} {sg:Sg} {g:FuncId} {ds:List D} {r:D} {outs:List D} {s:RS} {ss:List RS} (t:bG R) (h:Comes c P g ds (r,outs)) (hs:sg.sig g=some (s,ss)) (h1:eV s r=true) (h2:jE ss outs=true) (h3:dM r=true) (h4:outs.all dM=true) (hg:g≠999999):eA c P sg g ds t=feed t (ga s r++(nI ss outs++[])):=by
  unfold eA
  rw [if_neg hg,NL h,hs]
  simp only [h1,h2,h3,h4,Bool.and_self,Bool.or_true,if_true]
def St.NM (st:St) (r p:Nat) (zs:List D):Option St:=
  match lk st.rt r with
  | some l=>match l[p]? with
    | some (.sl none s n _)=>some { st with rt:=TY st.rt r (l.set p (.sl none s n zs)) }
    | _=>none
  | none=>none
theorem Pb {st:St} {r p:Nat} {ys:List D} (h:st.cells r [p]=some ys):st.NM r p ys=some st:=by
  unfold St.cells at h
  unfold St.NM
  split at h
  case h_2=>simp at h
  rename_i l hl
  simp only [lH] at h
  split at h
  case h_2=>simp at h
  rename_i s n xs hp
  simp only [Option.some.injEq] at h
  subst h
  simp only [hl,hp]
  have e:l.set p (.sl none s n xs)=l:=by
    apply List.ext_getElem?
    intro i
    rw [List.getElem?_set]
    split
    · rename_i hi
      subst hi
      rw [if_pos (List.getElem?_eq_some_iff.1 hp).1,hp]
    · rfl
  rw [e,DL _ _ _ hl]
section
variable {R:Type} (pr:dT) (c:cx) (sg:Sg) (cv:Cv R) (J:Nat→St→Option R) (aB:FuncId)
def L1 (ch:St) (t:Bool) (dst:Option Nat) (r:D) (k:St→Option R):Option R:=
  match dst with
  | some i=>k ((ch.p7 (ch.of+i) (if t then gB true r else r)).1.put (some i) (ch.p7 (ch.of+i) (if t then gB true r else r)).2)
  | none=>k ch
def FF (st:St) (r p:Nat) (k:St→Option R):Option R:=
  match st.cells r [p] with
  | some ys=>cv 999999 [.sl none 0 0 ys] (.sl fun _ zs=>.done (match st.NM r p zs with
    | some st'=>k st'
    | none=>none))
  | none=>k st
def FH (st:St) (dst:Option Nat) (g:FuncId) (args:List D) (k:St→Option R):Option R:=
  if g=999999 then none else
  match mF st (c.own g) args,sg.sig g with
  | some (ds,aN),some (s,ss)=>
    br (if pe (c.own g) ds then true else Yz pr (c.own g) ds)
    (cv g (if pe (c.own g) ds then j5 (c.own g) ds else ds) (qy s fun r=>Ay ss fun outs=>.done (br (match va s||vb ss with | true=>true | false=>C6 pr r&&outs.all (C6 pr))
      (match nG pr aN id (c.own g) args (if pe (c.own g) ds then outs.map (gB true) else outs) with
        | some (q,ch)=>br q (L1 ch (pe (c.own g) ds) dst r k) none
        | none=>none) none))) none
  | _,_=>none
def Az (st:St) (dst:Option Nat) (g:FuncId) (sz r p o:Nat) (rest:List D) (k:St→Option R):Option R:=
  if g=999999 then none else
  match st.cells r [p],sg.sig g,(c.own g).headD false&&!(c.own g).tail.any id with
  | some cs,some (s,ss),true=>
    match st.hL r [p] o (.hole sz (pr.aR cs o)) with
    | some aN=>match uB aN (c.own g).tail rest with
      | some L2=>
        br (pr.jC sz cs o) (br (pr.nl (pr.aV cs o))
        (cv g (.sl none sz (pr.aR cs o) (pr.aV cs o)::L2) (qy s fun res=>Ay ss fun outs=>.done (br (C6 pr res&&outs.all (C6 pr))
          (match outs with
            | .sl none sz' n' cs'::_=>if sz=sz'∧outs.length=rest.length+1 then (match (st.eS (ct r [p] o false)).hL r [p] o (.sl none sz' n' cs') with
              | some ch=>br (pr.neq (pr.aR cs o) n') (FF cv ch r p fun ch=>L1 ch false dst res k) none
              | none=>none) else none
            | _=>none) none))) none) none
      | none=>none
    | none=>none
  | _,_,_=>none
def L3 (st:St) (o:Oper) (k:St→Option R):St→Option R:=
  if sg.em aB then (match o.op with
    | .store _ a _=>(match cn c st o.type a with
      | .ptr r [p] _=>fun st'=>FF cv st' r p k
      | _=>k)
    | _=>k) else k
def RX (st:St) (o:Oper) (k:St→Option R):Option R:=
  match o.op with
  | .call cc=>match cc.callee with
    | .value f=>if cc.args.size≠cc.argTypes.size then none else match cn c st o.type f with
      | .fn g gz=>if c.inl g then none else match sg.em aB,((cc.args.toList.zip cc.argTypes.toList).map fun p=>cn c st p.2 p.1)++gz with
        | true,.ref r [p] o' none::rest=>Az pr c sg cv st o.dst g (c.esz (cc.argTypes.toList.headD 0)) r p o' rest k
        | _,args=>FH pr c sg cv st o.dst g args k
      | _=>none
    | _=>Qy pr c (fun _ _=>none) wV aB st o k
  | _=>match (if sg.em aB then opE pr c st o else none) with
    | some (g,st')=>br g (L3 c sg cv aB st o k st') none
    | none=>Qy pr c (fun _ _=>none) wV aB st o (L3 c sg cv aB st o k)
def FI (st:St) (o:Oper) (k:St→Option R):Option R:=
  match wk c aB st o with
  | true=>RX pr c sg cv aB st o k
  | false=>none
def oA (all:Array Oper):List Oper→St→(St→Option R)→Option R
  | [],st,k=>k st
  | o::rest,st,k=>match o.guard with
    | none=>FI pr c sg cv aB st o fun st'=>oA all rest st' k
    | some (j,want)=>match (all[j]?).bind (·.dst) with
      | some t=>match st.get t with
        | .bool b=>match want with
          | true=>br b (FI pr c sg cv aB (st.lit t true) o fun st'=>oA all rest st' k) (oA all rest ((st.lit t false).put o.dst (.aL [])) k)
          | false=>br b (oA all rest ((st.lit t true).put o.dst (.aL [])) k) (FI pr c sg cv aB (st.lit t false) o fun st'=>oA all rest st' k)
        | .aL []=>oA all rest (st.put o.dst (.aL [])) k
        | _=>none
      | none=>oA all rest (st.put o.dst (.aL [])) k
def jmp (i:Nat) (st:St):Option R:=match Wu c aB i st with
  | some h=>J i h
  | none=>none
def qz (f:St→Option R) (k:Exit→St→Option R):Exit→St→Option R
  | .normal,st=>f st
  | x,st=>k x st
def vc (id:Nat) (k:Exit→St→Option R):Exit→St→Option R
  | .exit uD,st=>if uD=id then k .normal st else k (.exit uD) st
  | x,st=>k x st
def dE:Code→Nat→St→(Exit→St→Option R)→Option R
  | .skip,_,st,k=>k .normal st
  | .region _ ops false,_,st,k=>oA pr c sg cv aB ops ops.toList st (k .normal)
  | .region _ ops true,_,st,k=>match rT c aB ops ops.size (Array.replicate ops.size false) with
    | some l=>oA pr c sg cv aB ops (opsOf ops l) st (k .normal)
    | none=>none
  | .seq a b,i,st,k=>dE a i st (qz (fun st'=>dE b i st' k) k)
  | .cond x a b,i,st,k=>LZ c st x (fun st=>dE a i st k) (fun st=>dE b i st k)
  | .block id a,_,st,k=>dE a id st (vc id k)
  | .loop _,i,st,_=>jmp c J aB i st
  | .exit id,_,st,k=>k (.exit id) st
  | .ret,_,st,k=>k .ret st
  | _,_,_,_=>none
def dv:Code→Nat→(Exit→St→Option R)→Nat→Option (St→Option R)
  | .seq a b,i,k,j=>match dv a i (qz (fun st'=>dE pr c sg cv J aB b i st' k) k) j with
    | some t=>some t
    | none=>dv b i k j
  | .cond _ a b,i,k,j=>match dv a i k j with
    | some t=>some t
    | none=>dv b i k j
  | .block id a,_,k,j=>dv a id (vc id k) j
  | .loop a,i,k,j=>if i=j then some fun h=>dE pr c sg cv J aB a i h (qz (jmp c J aB i) k)
    else dv a i (qz (jmp c J aB i) k) j
  | _,_,_,_=>none
end
def lx:Code→Nat→List Nat
  | .seq a b,i=>lx a i++lx b i
  | .cond _ a b,i=>lx a i++lx b i
  | .block id a,_=>lx a id
  | .loop a,i=>i::lx a i
  | _,_=>[]
def qA:D→D
  | .bf _=>.bf []
  | .agg cs=>if cs.any iH then .agg [.sl none 0 0 []] else .undef
  | .sl none _ _ _=>.sl none 0 0 []
  | .aL vs=>.aL vs
  | _=>.undef
abbrev Rz:=D × List D
section
variable (pr:dT) (c:cx) (sg:Sg) (cv:Cv Rz) (J:Nat→St→Option Rz) (aB:FuncId)
def DO (fn:Func) (sk:List D) (x:Exit) (st:St):Option Rz:=SN (c.gone aB) (DK c fn sk x st)
def tX (fn:Func) (sk:List D) (j:Nat) (h:St):Option Rz:=
  match fn.body with
  | some body=>match dv pr c sg cv J aB body 0 (DO c aB fn sk) j with
    | some t=>t h
    | none=>none
  | none=>none
def AA (fn:Func) (args:List D):Option Rz:=
  match fn.body with
  | some body=>dE pr c sg cv J aB body 0 (nt fn.ntmps 0 args ⟨[],[],[],0⟩) (DO c aB fn (args.map qA))
  | none=>none
end
noncomputable def Jn (c:cx) (P:Program) (sg:Sg) (f:FuncId) (fn:Func) (sk:List D):Nat→Nat→St→Option Rz
  | 0=>fun _ _=>none
  | n+1=>fun j h=>tX ad c sg (eA c P sg) (Jn c P sg f fn sk n) f fn sk j h
def W (c:cx) (P:Program) (sg:Sg) (f:FuncId) (fn:Func) (sk:List D) (j:Nat) (h:St) (r:Rz):Prop:=∃ n,Jn c P sg f fn sk n j h=some r
theorem RY (st:St) (r:Nat) (d:D):nY st r (qA d)=nY st r d:=by
  cases d with
  | bf cs=>rfl
  | agg cs=>
    by_cases h:cs.any iH=true
    · have e:qA (.agg cs)=.agg [.sl none 0 0 []]:=by simp only [qA,h,if_true]
      have h1:eI (.agg cs)=true:=h
      have h2:eI (.agg [.sl none 0 0 []])=true:=rfl
      rw [e]
      unfold nY
      rw [h1,h2]
    · have e:qA (.agg cs)=.undef:=by simp only [qA,if_neg h]
      have h1:eI (.agg cs)=false:=Bool.eq_false_iff.2 h
      have h2:eI .undef=false:=rfl
      rw [e]
      unfold nY
      rw [h1,h2]
      rfl
  | sl g s n cs=>
    cases g with
    | none=>rfl
    | some g=>rfl
  | aL vs=>rfl
  | _=>rfl
theorem DP (n:Nat):∀ (i:Nat) (ds:List D) (st:St),pb n i (ds.map qA) st=pb n i ds st
  | _,[],_=>rfl
  | i,d::ds,st=>by
    simp only [List.map_cons,pb,RY]
    split
    · rw [DP n (i+1) ds st]
    · split
      · rename_i o st' h
        rw [DP n (i+1) ds st']
      · rfl
theorem ZH (c:cx) (fn:Func) (args:List D):DK c fn (args.map qA)=DK c fn args:=by
  funext x st
  unfold DK
  simp only [DP,List.length_map]
section
variable {R:Type} {P:Program} {c:cx} (aq:ek c P) {sg:Sg} {aB:FuncId}
include aq
theorem DQ {st:St} {r p:Nat} {k:St→Option R}:FF (eA c P sg) st r p k=k st:=by
  have _:=aq
  unfold FF
  split
  · rename_i ys hys
    unfold eA
    simp only [if_true,feed,Pb hys]
  · rfl
theorem ZI {st:St} {o:Oper} {k:St→Option R}:L3 c sg (eA c P sg) aB st o k=k:=by
  unfold L3
  split
  · split
    · split
      · funext st'
        exact DQ aq
      · rfl
    · rfl
  · rfl
theorem QH {ch:St} {t:Bool} {dst:Option Nat} {r:D} {k:St→Option R} {x:R} (h:L1 ch t dst r k=some x):∃ st',(match dst with
      | some i=>some ((ch.p7 (ch.of+i) (if t then gB true r else r)).1.put (some i) (ch.p7 (ch.of+i) (if t then gB true r else r)).2)
      | none=>some ch)=some st'∧k st'=some x∧∀ (k':St→Option R),L1 ch t dst r k'=k' st':=by
  have _:=aq
  cases dst with
  | none=>exact ⟨_,rfl,h,fun _=>rfl⟩
  | some i=>exact ⟨_,rfl,h,fun _=>rfl⟩
theorem Wz {st:St} {dst:Option Nat} {g:FuncId} {args:List D} {k:St→Option R} {r:R} (h:FH ad c sg (eA c P sg) st dst g args k=some r):∃ st',km c (lv c P) st dst g args=some st'∧k st'=some r∧∀ (k':St→Option R) r',k' st'=some r'→FH ad c sg (eA c P sg) st dst g args k'=some r':=by
  unfold FH at h
  split at h
  · simp at h
  rename_i hg
  split at h
  case h_2=>simp at h
  rename_i ds aN s ss lK NN
  obtain ⟨hl,h⟩:=og h
  unfold eA at h
  rw [if_neg hg,NN] at h
  split at h
  case h_2=>simp at h
  rename_i rr outs s' ss' hV uJ
  simp only [Option.some.injEq,Prod.mk.injEq] at uJ
  obtain ⟨rfl,rfl⟩:=uJ
  split at h
  case isFalse=>simp at h
  rename_i cL
  have WA:=cL
  simp only [Bool.and_eq_true] at cL
  obtain ⟨cL,WB⟩:=cL
  rw [sU _ _ cL.1,mc _ _ cL.2] at h
  simp only [feed] at h
  obtain ⟨h1,h2⟩:=og h
  have hU:(dM rr&&outs.all dM)=true:=by
    have e:C6 ad=dM:=funext FC
    cases lJ:va s||vb ss with
    | true=>rw [lJ] at WB; simpa using WB
    | false=>
      rw [lJ] at h1
      rw [← e]
      exact h1
  split at h2
  case h_2=>simp at h2
  rename_i q ch hb
  obtain ⟨hq,h2⟩:=og h2
  have ht:fu (c.own g) ds=pe (c.own g) ds:=by
    cases cT:pe (c.own g) ds with
    | true=>exact FE cT
    | false=>rw [cT] at hl; exact C7 cT (by simpa using hl)
  obtain ⟨st',k1,k2,k3⟩:=QH aq h2
  refine ⟨st',?_,k2,fun k' r' hk=>?_⟩
  · unfold km
    rw [lK]
    simp only [ht,hV,hU,if_true,u7 hb hq]
    cases dst with
    | none=>exact k1
    | some i=>exact k1
  · unfold FH
    rw [if_neg hg,lK,NN]
    simp only
    rw [hl]
    simp only [br]
    unfold eA
    rw [if_neg hg,hV,NN]
    simp only
    rw [if_pos WA,sU _ _ cL.1,mc _ _ cL.2]
    simp only [feed,h1,br,hb,hq]
    rw [k3,hk]
theorem AB:∀ {b:List Bool} {ds:List D} {st:St},b.any id=false→mT st b ds=some (ds,st)
  | _,[],_,_=>rfl
  | b,d::ds,st,h=>by
    have _:=aq
    have hb:b.headD false=false∧b.tail.any id=false:=by
      cases b with
      | nil=>simp
      | cons x xs=>simpa using h
    simp only [mT,hb.1,Bool.false_eq_true,if_false,AB hb.2]
theorem yY:∀ {b:List Bool} {ds os:List D} {st:St} {h:D→D},b.any id=false→ds.length=os.length→hZ st h b ds os=some st
  | _,[],_,_,_,_,_=>rfl
  | b,d::ds,[],st,h,hn,hl=>by simp at hl
  | b,d::ds,o::os,st,h,hn,hl=>by
    have _:=aq
    have hb:b.headD false=false∧b.tail.any id=false:=by
      cases b with
      | nil=>simp
      | cons x xs=>simpa using hn
    simp only [hZ,hb.1,Bool.false_eq_true,if_false]
    exact yY hb.2 (by simpa using hl)
theorem C8:∀ {b:List Bool} {ds:List D},b.any id=false→fu b ds=false
  | _,[],_=>rfl
  | b,d::ds,hn=>by
    have _:=aq
    have hb:b.headD false=false∧b.tail.any id=false:=by
      cases b with
      | nil=>simp
      | cons x xs=>simpa using hn
    simp only [fu,hb.1,Bool.false_and,Bool.false_or]
    exact C8 hb.2
theorem RZ {st aN:St} {r p o:Nat} {cs:List D} {d:D} (hc:st.cells r [p]=some cs) (h:st.hL r [p] o d=some aN):aN.cells r [p]=some (cs.set o d):=by
  have _:=aq
  unfold St.cells at hc ⊢
  unfold St.hL at h
  split at h
  case h_2=>simp at h
  rename_i l hl
  rw [hl] at hc
  simp only at hc
  split at h
  case h_2=>simp at h
  rename_i l' hm
  simp only [Option.some.injEq] at h
  subst h
  simp only [kn]
  simp only [lH] at hc
  split at hc
  case h_2=>simp at hc
  rename_i s n xs hp
  simp only [Option.some.injEq] at hc
  subst hc
  simp only [o8,hp,Option.some.injEq] at hm
  subst hm
  have cT:p < l.length:=(List.getElem?_eq_some_iff.1 hp).1
  simp only [lH,List.getElem?_set,cT,if_true]
omit aq in
theorem NO {α:Type}:∀ (l:List (Nat × α)) (k:Nat) (u v:α),pz (pz l k u) k v=pz l k v
  | [],k,u,v=>by simp [pz]
  | (j,w)::t,k,u,v=>by
    simp only [pz]
    split
    · rename_i h
      simp only [pz,if_pos h,NO t k u v]
    · rename_i h
      split
      · simp [pz]
      · simp [pz]
omit aq in
theorem QI {α:Type} (f:α→α):∀ (l:List (Nat × α)) (k:Nat),lk (fR f l) k=(lk l k).map f
  | [],_=>rfl
  | (j,w)::t,k=>by
    simp only [fR,lk]
    split
    · rfl
    · exact QI f t k
theorem R4 {st aN:St} {r p o:Nat} {h d:D} {b:Bool} (hs:st.hL r [p] o h=some aN):(aN.eS (ct r [p] o b)).hL r [p] o d=(st.eS (ct r [p] o b)).hL r [p] o d:=by
  have _:=aq
  unfold St.hL at hs
  split at hs
  case h_2=>simp at hs
  rename_i l hl
  split at hs
  case h_2=>simp at hs
  rename_i l' hm
  simp only [Option.some.injEq] at hs
  subst hs
  simp only [o8] at hm
  split at hm
  case h_2=>simp at hm
  rename_i s n xs hp
  simp only [Option.some.injEq] at hm
  subst hm
  have cT:p < l.length:=(List.getElem?_eq_some_iff.1 hp).1
  have e1:(l.map (fa (ct r [p] o b)))[p]?=some (.sl none s n xs):=by
    rw [List.getElem?_map,hp]
    rfl
  have e2:((l.set p (.sl none s n (xs.set o h))).map (fa (ct r [p] o b)))[p]?=some (.sl none s n (xs.set o h)):=by
    rw [List.getElem?_map,List.getElem?_set]
    simp only [cT,if_true]
    rfl
  have e0:lk (fR (List.map (fa (ct r [p] o b))) st.rt) r=some (l.map (fa (ct r [p] o b))):=by
    rw [QI,hl]
    rfl
  have e3:((l.set p (.sl none s n (xs.set o h))).map (fa (ct r [p] o b))).set p (.sl none s n (xs.set o d))=(l.map (fa (ct r [p] o b))).set p (.sl none s n (xs.set o d)):=by
    rw [List.map_set,List.set_set]
  unfold St.hL
  simp only [St.eS,Hy,kn,e0,o8,e1,e2,List.set_set,e3,NO]
theorem T9 {st:St} {dst:Option Nat} {g:FuncId} {sz a p o:Nat} {rest:List D} {k:St→Option R} {r:R} (h:Az ad c sg (eA c P sg) st dst g sz a p o rest k=some r):∃ st',km c (lv c P) st dst g (.ref a [p] o none::rest)=some st'∧k st'=some r∧∀ (k':St→Option R) r',k' st'=some r'→Az ad c sg (eA c P sg) st dst g sz a p o rest k'=some r':=by
  unfold Az at h
  split at h
  · simp at h
  rename_i hg
  split at h
  case h_2=>simp at h
  rename_i cs s ss eE NN jk
  simp only [Bool.and_eq_true,Bool.not_eq_true'] at jk
  split at h
  case h_2=>simp at h
  rename_i aN iS
  split at h
  case h_2=>simp at h
  rename_i L2 hro
  obtain ⟨nc,h⟩:=og h
  obtain ⟨Yo,h⟩:=og h
  simp only [DQ aq] at h
  unfold eA at h
  rw [if_neg hg,NN] at h
  split at h
  case h_2=>simp at h
  rename_i rr outs s' ss' hV uJ
  simp only [Option.some.injEq,Prod.mk.injEq] at uJ
  obtain ⟨rfl,rfl⟩:=uJ
  split at h
  case isFalse=>simp at h
  rename_i cL
  have WA:=cL
  simp only [Bool.and_eq_true] at cL
  obtain ⟨cL,WB⟩:=cL
  rw [sU _ _ cL.1,mc _ _ cL.2] at h
  simp only [feed] at h
  obtain ⟨h1,h2⟩:=og h
  have hU:(dM rr&&outs.all dM)=true:=by
    have e:C6 ad=dM:=funext FC
    rw [← e]
    exact h1
  split at h2
  case h_2=>simp at h2
  rename_i sz' n' cs' aea
  split at h2
  case isFalse=>simp at h2
  rename_i agw
  obtain ⟨rfl,Te⟩:=agw
  split at h2
  case h_2=>simp at h2
  rename_i ch YD
  have Ua:=YD
  rw [← R4 aq iS] at Ua
  obtain ⟨hq,h2⟩:=og h2
  have hn:ad.aR cs o=n':=by simpa [ad] using hq
  obtain ⟨st',k1,k2,k3⟩:=QH aq h2
  have cM:st.cell a [p] o=some (.sl none sz (ad.aR cs o) (ad.aV cs o)):=by
    unfold St.cell
    rw [eE]
    exact HD nc
  have acb:aN.cell a [p] o=some (.hole sz (ad.aR cs o)):=by
    have cT:o < cs.length:=(List.getElem?_eq_some_iff.1 (HD nc)).1
    unfold St.cell
    rw [RZ aq eE iS]
    simp only [List.getElem?_set,cT,if_true]
  have lK:mF st (c.own g) (.ref a [p] o none::rest)=some (.sl none sz (ad.aR cs o) (ad.aV cs o)::L2,aN):=by
    unfold mF
    simp only [mT,jk.1,if_true,CE,iU,cM,iS,trim,AB aq jk.2,uB,hro]
  have aeb:fu (c.own g) (.sl none sz (ad.aR cs o) (ad.aV cs o)::L2)=false:=by
    simp only [fu,C8 aq jk.2,Bool.or_false,jk.1,Bool.true_and,bZ,dj,List.all_cons,List.all_nil,Bool.and_true,bY]
    have:cd (ad.aV cs o)=true:=Yo
    rw [this]
    rfl
  have Fm:hZ aN id (c.own g) (.ref a [p] o none::rest) (.sl none sz n' cs'::aea)=some ch:=by
    simp only [hZ,jk.1,if_true,BL,o9,id,acb]
    simp only [hn,and_self,if_true,Ua]
    exact yY aq jk.2 (by simpa using Te.symm)
  refine ⟨st',?_,k2,fun k' r' hk=>?_⟩
  · unfold km
    rw [lK]
    simp only [aeb,Bool.false_eq_true,if_false,hV,hU,if_true,Fm]
    cases dst with
    | none=>exact k1
    | some i=>exact k1
  · unfold Az
    simp only [DQ aq]
    rw [if_neg hg,eE,NN]
    simp only [jk.1,jk.2,Bool.not_false,Bool.and_self,iS,hro,nc,Yo,br]
    unfold eA
    rw [if_neg hg,hV,NN]
    simp only
    rw [if_pos WA,sU _ _ cL.1,mc _ _ cL.2]
    simp only [feed,h1,br]
    rw [if_pos ⟨trivial,Te⟩,YD]
    simp only [hq]
    rw [k3,hk]
theorem ZJ {st:St} {o:Oper} {k:St→Option R} {r:R} (h:RX ad c sg (eA c P sg) aB st o k=some r):∃ st',fb c (lv c P) wV aB st o=some st'∧k st'=some r∧∀ (k':St→Option R) r',k' st'=some r'→RX ad c sg (eA c P sg) aB st o k'=some r':=by
  have hK:∀ (k:St→Option R),Qy ad c (fun _ _=>none) wV aB st o k=some r→∃ st',fb c (lv c P) wV aB st o=some st'∧k st'=some r∧∀ (k':St→Option R) r',k' st'=some r'→Qy ad c (fun _ _=>none) wV aB st o k'=some r':=by
    intro k h
    have hh:=h
    unfold Qy at h
    split at h
    case h_2=>simp at h
    rename_i hc
    obtain ⟨h1,h2⟩:=og h
    split at h2
    · rename_i st' hu
      refine ⟨st',ab3 aq (by simp) h1 hu,h2,fun k' r' hk=>?_⟩
      unfold Qy
      rw [hc]
      simp only
      rw [h1,hu]
      exact hk
    · simp at h2
  unfold RX at h ⊢
  simp only [ZI aq] at h ⊢
  split at h
  · rename_i cc ho
    split at h
    · rename_i f mH
      split at h
      · simp at h
      rename_i cX
      split at h
      case h_2=>simp at h
      rename_i g gz hev
      split at h
      · simp at h
      rename_i lR
      have ak:∀ {args:List D} {st':St},((cc.args.toList.zip cc.argTypes.toList).map fun p=>cn c st p.2 p.1)++gz=args→km c (lv c P) st o.dst g args=some st'→fb c (lv c P) wV aB st o=some st':=by
        intro args st' ha hd
        unfold fb
        simp only [ho,mH]
        rw [if_neg cX]
        simp only [hev,if_neg lR,ha]
        exact hd
      split at h
      · rename_i a p o' rest pP ace
        obtain ⟨st',h1,h2,h3⟩:=T9 aq h
        refine ⟨st',ak ace h1,h2,fun k' r' hk=>?_⟩
        rw [if_neg cX]
        simp only [hev,if_neg lR,pP,ace]
        exact h3 k' r' hk
      · rename_i cZ
        obtain ⟨st',h1,h2,h3⟩:=Wz aq h
        refine ⟨st',ak rfl h1,h2,fun k' r' hk=>?_⟩
        rw [if_neg cX]
        simp only [hev,if_neg lR]
        exact h3 k' r' hk
    · rename_i mH
      obtain ⟨st',h1,h2,h3⟩:=hK k h
      refine ⟨st',h1,h2,fun k' r' hk=>?_⟩
      exact h3 k' r' hk
  · rename_i hnc
    split at h
    · rename_i g st' he
      obtain ⟨hg,h2⟩:=og h
      split at he
      case isFalse=>simp at he
      refine ⟨st',ab7 he hg,h2,fun k' r' hk=>?_⟩
      rw [hg]
      exact hk
    · rename_i he
      obtain ⟨st',h1,h2,h3⟩:=hK k h
      refine ⟨st',h1,h2,fun k' r' hk=>?_⟩
      exact h3 k' r' hk
theorem acf {st:St} {o:Oper} {k:St→Option R} {r:R} (h:FI ad c sg (eA c P sg) aB st o k=some r):∃ st',(if wk c aB st o then fb c (lv c P) wV aB st o else none)=some st'∧k st'=some r∧∀ (k':St→Option R) r',k' st'=some r'→FI ad c sg (eA c P sg) aB st o k'=some r':=by
  unfold FI at h
  split at h
  case h_2=>simp at h
  rename_i hc
  obtain ⟨st',h1,h2,h3⟩:=ZJ aq h
  refine ⟨st',by rw [if_pos hc]; exact h1,h2,fun k' r' hk=>?_⟩
  unfold FI
  rw [hc]
  exact h3 k' r' hk
end
end Go.Proofs.YtockoilcnmljiaaGreat
namespace Go.Proofs.YtockoilcnmljiaaGreat
section
variable {R:Type} {P:Program} {c:cx} (aq:ek c P) {sg:Sg} {aB:FuncId}
include aq
theorem mU {all:Array Oper} {k:St→Option R} {r:R}:∀ {os:List Oper} {st:St},oA ad c sg (eA c P sg) aB all os st k=some r→∃ st',uC c (lv c P) wV aB all os st=some st'∧k st'=some r∧∀ (k':St→Option R) r',k' st'=some r'→oA ad c sg (eA c P sg) aB all os st k'=some r'
  | [],st,h=>⟨st,rfl,h,fun _ _ hk=>hk⟩
  | o::os,st,h=>by
    have run:∀ st,FI ad c sg (eA c P sg) aB st o (fun st'=>oA ad c sg (eA c P sg) aB all os st' k)=some r→∃ st',(if wk c aB st o then (match fb c (lv c P) wV aB st o with | some st'=>uC c (lv c P) wV aB all os st' | none=>none) else none)=some st'∧k st'=some r∧∀ (k':St→Option R) r',k' st'=some r'→FI ad c sg (eA c P sg) aB st o (fun st'=>oA ad c sg (eA c P sg) aB all os st' k')=some r':=by
      intro st h
      obtain ⟨aN,h1,h2,h3⟩:=acf aq h
      obtain ⟨ch,k1,k2,k3⟩:=mU h2
      refine ⟨ch,?_,k2,fun k' r' hk=>h3 _ _ (k3 k' r' hk)⟩
      split at h1
      case isFalse=>simp at h1
      rename_i hc
      rw [if_pos hc,h1]
      exact k1
    simp only [oA] at h ⊢
    simp only [uC,x4]
    split at h
    · rename_i hg
      rw [hg]
      exact run st h
    · rename_i j want hg
      rw [hg]
      simp only
      split at h
      · rename_i t ht
        rw [ht]
        simp only
        split at h
        · rename_i b hb
          rw [hb]
          simp only
          cases want with
          | true=>
            simp only at h
            rcases nE h with ⟨rfl,h1⟩ | ⟨rfl,h1⟩
            · rw [oV hb] at h1
              obtain ⟨aN,k1,k2,k3⟩:=run st h1
              refine ⟨aN,by simp only [beq_self_eq_true]; exact k1,k2,fun k' r' hk=>?_⟩
              simp only [br]
              rw [oV hb]
              exact k3 k' r' hk
            · rw [oV hb] at h1
              obtain ⟨aN,k1,k2,k3⟩:=mU h1
              refine ⟨aN,by simpa using k1,k2,fun k' r' hk=>?_⟩
              simp only [br]
              rw [oV hb]
              exact k3 k' r' hk
          | false=>
            simp only at h
            rcases nE h with ⟨rfl,h1⟩ | ⟨rfl,h1⟩
            · rw [oV hb] at h1
              obtain ⟨aN,k1,k2,k3⟩:=mU h1
              refine ⟨aN,by simpa using k1,k2,fun k' r' hk=>?_⟩
              simp only [br]
              rw [oV hb]
              exact k3 k' r' hk
            · rw [oV hb] at h1
              obtain ⟨aN,k1,k2,k3⟩:=run st h1
              refine ⟨aN,by simp only [beq_self_eq_true]; exact k1,k2,fun k' r' hk=>?_⟩
              simp only [br]
              rw [oV hb]
              exact k3 k' r' hk
        · rename_i hb
          rw [hb]
          exact mU h
        · simp at h
      · rename_i ht
        rw [ht]
        exact mU h
theorem JS {all:Array Oper} {os:List Oper} {st:St} {k k':St→Option R} {r:R} (hk:∀ st r,k st=some r→k' st=some r) (h:oA ad c sg (eA c P sg) aB all os st k=some r):oA ad c sg (eA c P sg) aB all os st k'=some r:=by
  obtain ⟨st',_,h2,h3⟩:=mU aq h
  exact h3 k' r (hk _ _ h2)
theorem DR {J J':Nat→St→Option R} (hJ:∀ j h r,J j h=some r→J' j h=some r) {i:Nat} {st:St} {r:R} (h:jmp c J aB i st=some r):jmp c J' aB i st=some r:=by
  have _:=aq
  unfold jmp at h ⊢
  split at h
  · exact hJ _ _ _ h
  · simp at h
omit aq in
theorem sV {f f':St→Option R} {k k':Exit→St→Option R} (hf:∀ st r,f st=some r→f' st=some r) (hk:∀ x st r,k x st=some r→k' x st=some r):∀ x st r,qz f k x st=some r→qz f' k' x st=some r:=by
  intro x st r h
  cases x with
  | normal=>exact hf _ _ h
  | _=>exact hk _ _ _ h
omit aq in
theorem AD {id:Nat} {k k':Exit→St→Option R} (hk:∀ x st r,k x st=some r→k' x st=some r):∀ x st r,vc id k x st=some r→vc id k' x st=some r:=by
  intro x st r h
  cases x with
  | exit uD=>
    simp only [vc] at h ⊢
    split at h
    · rename_i e; rw [if_pos e]; exact hk _ _ _ h
    · rename_i e; rw [if_neg e]; exact hk _ _ _ h
  | _=>exact hk _ _ _ h
theorem yA {J J':Nat→St→Option R} (hJ:∀ j h r,J j h=some r→J' j h=some r):∀ {code:Code} {i:Nat} {st:St} {k k':Exit→St→Option R} {r:R},(∀ x st r,k x st=some r→k' x st=some r)→dE ad c sg (eA c P sg) J aB code i st k=some r→dE ad c sg (eA c P sg) J' aB code i st k'=some r:=by
  intro code
  induction code with
  | skip=>intro i st k k' r hk h; exact hk _ _ _ h
  | exit id=>intro i st k k' r hk h; exact hk _ _ _ h
  | ret=>intro i st k k' r hk h; exact hk _ _ _ h
  | region id ops draw=>
    intro i st k k' r hk h
    cases draw with
    | false=>
      simp only [dE] at h ⊢
      exact JS aq (hk _) h
    | true=>
      simp only [dE] at h ⊢
      split at h
      · exact JS aq (hk _) h
      · simp at h
  | seq a b eG kz=>
    intro i st k k' r hk h
    simp only [dE] at h ⊢
    exact eG (sV (fun st r hx=>kz hk hx) hk) h
  | cond v a b eG kz=>
    intro i st k k' r hk h
    simp only [dE,LZ] at h ⊢
    split at h
    · split at h
      · rcases nE h with ⟨rfl,h1⟩ | ⟨rfl,h1⟩
        · exact eG hk h1
        · exact kz hk h1
      · simp at h
    · split at h
      · rcases nE h with ⟨rfl,h1⟩ | ⟨rfl,h1⟩
        · exact eG hk h1
        · exact kz hk h1
      · simp at h
  | block id a eG=>
    intro i st k k' r hk h
    simp only [dE] at h ⊢
    exact eG (AD hk) h
  | loop a eG=>intro i st k k' r hk h; exact DR aq hJ h
  | _=>intro i st k k' r hk h; simp [dE] at h
end
section
variable {R:Type} {pr:dT} {c:cx} {sg:Sg} {cv:Cv R} {J:Nat→St→Option R} {aB:FuncId}
theorem sX:∀ {code:Code} {i:Nat} {k:Exit→St→Option R} {j:Nat} {t:St→Option R},dv pr c sg cv J aB code i k j=some t→j∈lx code i:=by
  intro code
  induction code with
  | seq a b eG kz=>
    intro i k j t h
    simp only [dv] at h
    rw [lx,List.mem_append]
    split at h
    · rename_i t' ht
      exact .inl (eG ht)
    · exact .inr (kz h)
  | cond v a b eG kz=>
    intro i k j t h
    simp only [dv] at h
    rw [lx,List.mem_append]
    split at h
    · rename_i t' ht
      exact .inl (eG ht)
    · exact .inr (kz h)
  | block id a eG=>intro i k j t h; simp only [dv] at h; rw [lx]; exact eG h
  | loop a eG=>
    intro i k j t h
    simp only [dv] at h
    rw [lx,List.mem_cons]
    split at h
    · rename_i hij; exact .inl hij.symm
    · exact .inr (eG h)
  | _=>intro i k j t h; simp [dv] at h
end
section
variable {R:Type} {pr:dT} {c:cx} {sg:Sg} {cv:Cv R} {J J':Nat→St→Option R} {aB:FuncId}
theorem tY:∀ {code:Code} {i:Nat} {k k':Exit→St→Option R} {j:Nat},dv pr c sg cv J aB code i k j=none→dv pr c sg cv J' aB code i k' j=none:=by
  intro code
  induction code with
  | seq a b eG kz=>
    intro i k k' j h
    simp only [dv] at h ⊢
    split at h
    · simp at h
    · rename_i h1
      rw [eG h1]
      exact kz h
  | cond v a b eG kz=>
    intro i k k' j h
    simp only [dv] at h ⊢
    split at h
    · simp at h
    · rename_i h1
      rw [eG h1]
      exact kz h
  | block id a eG=>intro i k k' j h; simp only [dv] at h ⊢; exact eG h
  | loop a eG=>
    intro i k k' j h
    simp only [dv] at h ⊢
    split at h
    · simp at h
    · rename_i e
      rw [if_neg e]
      exact eG h
  | _=>intro i k k' j h; rfl
end
section
variable {P:Program} {c:cx} (aq:ek c P) {sg:Sg} {f:FuncId} {fn:Func} {sk:List D} {body:Code} (rZ:fn.body=some body)
include aq
theorem R5 {J J':Nat→St→Option Rz} (hJ:∀ j h r,J j h=some r→J' j h=some r):∀ {code:Code} {i:Nat} {k k':Exit→St→Option Rz} {j:Nat} {t:St→Option Rz},(∀ x st r,k x st=some r→k' x st=some r)→dv ad c sg (eA c P sg) J f code i k j=some t→∃ t',dv ad c sg (eA c P sg) J' f code i k' j=some t'∧∀ h r,t h=some r→t' h=some r:=by
  intro code
  induction code with
  | seq a b eG kz=>
    intro i k k' j t hk h
    simp only [dv] at h ⊢
    have NP:=sV (f:=fun st'=>dE ad c sg (eA c P sg) J f b i st' k) (f':=fun st'=>dE ad c sg (eA c P sg) J' f b i st' k') (fun st r hx=>yA aq hJ hk hx) hk
    split at h
    · rename_i t1 h1
      obtain ⟨t',h2,h3⟩:=eG NP h1
      rw [h2]
      simp only [Option.some.injEq] at h
      subst h
      exact ⟨t',rfl,h3⟩
    · rename_i h1
      rw [tY h1]
      exact kz hk h
  | cond v a b eG kz=>
    intro i k k' j t hk h
    simp only [dv] at h ⊢
    split at h
    · rename_i t1 h1
      obtain ⟨t',h2,h3⟩:=eG hk h1
      rw [h2]
      simp only [Option.some.injEq] at h
      subst h
      exact ⟨t',rfl,h3⟩
    · rename_i h1
      rw [tY h1]
      exact kz hk h
  | block id a eG=>
    intro i k k' j t hk h
    simp only [dv] at h ⊢
    exact eG (AD hk) h
  | loop a eG=>
    intro i k k' j t hk h
    simp only [dv] at h ⊢
    have NP:=sV (f:=jmp c J f i) (f':=jmp c J' f i) (fun st r hx=>DR aq hJ hx) hk
    split at h
    · rename_i e
      simp only [Option.some.injEq] at h
      subst h
      rw [if_pos e]
      exact ⟨_,rfl,fun hh r hr=>yA aq hJ NP hr⟩
    · rename_i e
      rw [if_neg e]
      exact eG NP h
  | _=>intro i k k' j t hk h; simp [dv] at h
theorem Cb:∀ {n m:Nat},n≤m→∀ j h r,Jn c P sg f fn sk n j h=some r→Jn c P sg f fn sk m j h=some r
  | 0,_,_,j,h,r,hh=>by simp [Jn] at hh
  | n+1,0,hle,_,_,_,_=>absurd hle (by omega)
  | n+1,m+1,hle,j,h,r,hh=>by
    have ih:∀ j h r,Jn c P sg f fn sk n j h=some r→Jn c P sg f fn sk m j h=some r:=Cb (by omega)
    simp only [Jn,tX] at hh ⊢
    split at hh
    case h_2=>simp at hh
    rename_i body hb
    split at hh
    case h_2=>simp at hh
    rename_i t ht
    obtain ⟨t',h1,h2⟩:=R5 aq ih (fun _ _ _ h=>h) ht
    rw [h1]
    exact h2 _ _ hh
include rZ
theorem WC:∀ {code:Code} {n i:Nat} {st:St} {k:(Nat→St→Option Rz)→Exit→St→Option Rz} {r:Rz},
    (∀ J J':Nat→St→Option Rz,(∀ j h r,J j h=some r→J' j h=some r)→∀ x st r,k J x st=some r→k J' x st=some r)→
    (lx code i).Nodup→
    (∀ m j t,dv ad c sg (eA c P sg) (Jn c P sg f fn sk m) f code i (k (Jn c P sg f fn sk m)) j=some t→dv ad c sg (eA c P sg) (Jn c P sg f fn sk m) f body 0 (DO c f fn sk) j=some t)→
    dE ad c sg (eA c P sg) (Jn c P sg f fn sk n) f code i st (k (Jn c P sg f fn sk n))=some r→∃ x st',RO c P f code i st (x,st')∧k (Jn c P sg f fn sk n) x st'=some r:=by
  intro code
  have tr:∀ {ops:Array Oper} {l:List Nat} {st st':St},ia c (lv c P) wV f ops l st=some st'→Ev fun k=>ia c (nu c P k).1 (nu c P k).2 f ops l st=some st':=
    fun h=>B6 (fun f ds r hh=>Wy hh) (fun f ds n st r hh=>by simp [wV] at hh) h
  induction code with
  | skip=>intro n i st k r _ _ _ h; exact ⟨_,_,Ev.of fun _=>rfl,h⟩
  | exit id=>intro n i st k r _ _ _ h; exact ⟨_,_,Ev.of fun _=>rfl,h⟩
  | ret=>intro n i st k r _ _ _ h; exact ⟨_,_,Ev.of fun _=>rfl,h⟩
  | region id ops draw=>
    intro n i st k r _ _ _ h
    cases draw with
    | false=>
      simp only [dE] at h
      obtain ⟨st',h1,h2,_⟩:=mU aq h
      rw [yp] at h1
      refine ⟨.normal,st',(tr h1).mono fun n hn=>?_,h2⟩
      simp only [eO,yp,hn]
    | true=>
      simp only [dE] at h
      split at h
      case h_2=>simp at h
      rename_i l hl
      obtain ⟨st',h1,h2,_⟩:=mU aq h
      rw [B5] at h1
      refine ⟨.normal,st',(tr h1).mono fun n hn=>?_,h2⟩
      simp only [eO,hl,hn]
  | seq a b eG kz=>
    intro n i st k r hk hn hc h
    simp only [dE] at h
    rw [lx,List.nodup_append] at hn
    obtain ⟨x,aN,h1,h2⟩:=eG (k:=fun J=>qz (fun st'=>dE ad c sg (eA c P sg) J f b i st' (k J)) (k J)) (fun J J' hJ=>sV (fun st r hx=>yA aq hJ (hk J J' hJ) hx) (hk J J' hJ)) hn.1 (fun m j t ht=>hc m j t (by simp only [dv]; rw [ht])) h
    cases x with
    | normal=>
      simp only [qz] at h2
      obtain ⟨y,ch,h3,h4⟩:=kz hk hn.2.1 (fun m j t ht=>hc m j t (by
        simp only [dv]
        split
        · rename_i t' oP
          exact absurd rfl (hn.2.2 j (sX oP) j (sX ht))
        · exact ht)) h2
      exact ⟨y,ch,(Ev.and h1 h3).mono fun n hn=>by simp only [eO]; rw [hn.1]; exact hn.2,h4⟩
    | _=>exact ⟨_,aN,Ev.mono h1 fun n hn=>by simp only [eO]; rw [hn],h2⟩
  | cond v a b eG kz=>
    intro n i st k r hk hn hc h
    simp only [dE,LZ] at h
    rw [lx,List.nodup_append] at hn
    have fin:∀ {t:Bool},cn c st 0 v=.bool t→(t=true→dE ad c sg (eA c P sg) (Jn c P sg f fn sk n) f a i st (k (Jn c P sg f fn sk n))=some r)→(t=false→dE ad c sg (eA c P sg) (Jn c P sg f fn sk n) f b i st (k (Jn c P sg f fn sk n))=some r)→∃ x st',RO c P f (.cond v a b) i st (x,st')∧k (Jn c P sg f fn sk n) x st'=some r:=by
      intro t ht h1 h2
      cases t with
      | true=>
        obtain ⟨x,st',h3,h4⟩:=eG hk hn.1 (fun m j t ht=>hc m j t (by simp only [dv]; rw [ht])) (h1 rfl)
        exact ⟨x,st',Ev.mono h3 fun n hn=>by simp only [eO,ht,if_true]; exact hn,h4⟩
      | false=>
        obtain ⟨x,st',h3,h4⟩:=kz hk hn.2.1 (fun m j t ht=>hc m j t (by
          simp only [dv]
          split
          · rename_i t' oP
            exact absurd rfl (hn.2.2 j (sX oP) j (sX ht))
          · exact ht)) (h2 rfl)
        exact ⟨x,st',Ev.mono h3 fun n hn=>by simp only [eO,ht,Bool.false_eq_true,if_false]; exact hn,h4⟩
    split at h
    · rename_i t
      split at h
      · rename_i b' hb
        refine fin (t:=b') hb (fun e=>?_) (fun e=>?_)
        · subst e
          rcases nE h with ⟨_,h1⟩ | ⟨e2,_⟩
          · rw [oV hb] at h1; exact h1
          · simp at e2
        · subst e
          rcases nE h with ⟨e2,_⟩ | ⟨_,h1⟩
          · simp at e2
          · rw [oV hb] at h1; exact h1
      · simp at h
    · split at h
      · rename_i hv
        refine fin hv (fun e=>?_) (fun e=>?_)
        · subst e; exact h
        · subst e; exact h
      · simp at h
  | block id a eG=>
    intro n i st k r hk hn hc h
    simp only [dE] at h
    obtain ⟨x,aN,h1,h2⟩:=eG (k:=fun J=>vc id (k J)) (fun J J' hJ=>AD (hk J J' hJ)) hn (fun m j t ht=>hc m j t (by simp only [dv]; exact ht)) h
    cases x with
    | exit uD=>
      simp only [vc] at h2
      by_cases he:uD=id
      · rw [if_pos he] at h2
        exact ⟨.normal,aN,Ev.mono h1 fun n hn=>by simp only [eO]; rw [hn]; simp [he],h2⟩
      · rw [if_neg he] at h2
        exact ⟨.exit uD,aN,Ev.mono h1 fun n hn=>by simp only [eO]; rw [hn]; simp [he],h2⟩
    | _=>exact ⟨_,aN,Ev.mono h1 fun n hn=>by simp only [eO]; rw [hn],h2⟩
  | loop a eG=>
    intro n i st k r hk hn hc h
    rw [lx,List.nodup_cons] at hn
    have key:∀ (n:Nat) (st:St),jmp c (Jn c P sg f fn sk n) f i st=some r→∃ x st',RP c P f a i st (x,st')∧k (Jn c P sg f fn sk n) x st'=some r:=by
      intro n
      induction n with
      | zero=>
        intro st h
        unfold jmp at h
        split at h
        · simp [Jn] at h
        · simp at h
      | succ m ih=>
        intro st h
        unfold jmp at h
        split at h
        case h_2=>simp at h
        rename_i hd Fh
        simp only [Jn,tX] at h
        rw [rZ] at h
        simp only at h
        have ht:=hc m i _ (by simp only [dv,if_true]; rfl)
        rw [ht] at h
        simp only at h
        obtain ⟨x,aN,h1,h2⟩:=eG (k:=fun J=>qz (jmp c J f i) (k J)) (fun J J' hJ=>sV (fun st r hx=>DR aq hJ hx) (hk J J' hJ)) hn.2 (fun m j t ht=>hc m j t (by
              simp only [dv]
              have cZ:i≠j:=fun e=>hn.1 (by rw [e]; rw [e] at ht; exact sX ht)
              rw [if_neg cZ]
              exact ht)) h
        cases x with
        | normal=>
          obtain ⟨y,ch,⟨q,h3⟩,h4⟩:=ih aN h2
          refine ⟨y,ch,⟨q+1,(Ev.and h1 h3).mono fun k hk m hm=>?_⟩,hk _ _ (Cb aq (Nat.le_succ m)) _ _ _ h4⟩
          obtain ⟨m,rfl⟩:∃ m',m=m'+1:=⟨m - 1,by omega⟩
          simp only [tR,Fh,hk.1]
          exact hk.2 m (by omega)
        | _=>
          refine ⟨_,aN,⟨1,Ev.mono h1 fun k hk m hm=>?_⟩,hk _ _ (Cb aq (Nat.le_succ m)) _ _ _ h2⟩
          obtain ⟨m,rfl⟩:∃ m',m=m'+1:=⟨m - 1,by omega⟩
          simp only [tR,Fh,hk]
    simp only [dE] at h
    obtain ⟨x,st',h1,h2⟩:=key n st h
    exact ⟨x,st',h1.code,h2⟩
  | _=>intro n i st k r _ _ _ h; simp [dE] at h
end
structure Told (c:cx) (P:Program) (f:FuncId) (fn:Func):Prop where
  ext:c.ext f=none
  func:P.funcs[f]?=some fn
  ids:(match fn.body with | some b=>decide (lx b 0).Nodup | none=>false)=true
section
variable {P:Program} {c:cx} (aq:ek c P) {sg:Sg} {f:FuncId} {fn:Func} {sk:List D}
include aq
theorem W.go {j j':Nat} {h h':St} {r:Rz} (hw:W c P sg f fn sk j' h' r) (ht:∀ J:Nat→St→Option Rz,J j' h'=some r→tX ad c sg (eA c P sg) J f fn sk j h=some r):W c P sg f fn sk j h r:=by
  have _:=aq
  obtain ⟨n,hn⟩:=hw
  exact ⟨n+1,ht _ hn⟩
theorem W.fin {j:Nat} {h:St} {r:Rz} (ht:∀ J:Nat→St→Option Rz,tX ad c sg (eA c P sg) J f fn sk j h=some r):W c P sg f fn sk j h r:=by
  have _:=aq
  exact ⟨1,ht _⟩
theorem AE (ok:Told c P f fn) {args:List D} {r:Rz} {n:Nat} (h:AA ad c sg (eA c P sg) (Jn c P sg f fn (args.map qA) n) f fn args=some r):Comes c P f args r:=by
  unfold AA at h
  split at h
  case h_2=>simp at h
  rename_i body hb
  have acg:=ok.ids
  rw [hb] at acg
  obtain ⟨x,st,h1,h2⟩:=WC aq hb (k:=fun _=>DO c f fn (args.map qA)) (fun J J' _ x st r h=>h) (of_decide_eq_true acg) (fun m j t ht=>ht) h
  obtain ⟨k0,h1⟩:=h1
  refine ⟨k0+1,fun k hk=>?_⟩
  obtain ⟨k,rfl⟩:∃ m,k=m+1:=⟨k - 1,by omega⟩
  unfold DO at h2
  obtain ⟨r',h2,h5⟩:∃ r',DK c fn (args.map qA) x st=some r'∧SN (c.gone f) (some r')=some r:=by
    cases hf:DK c fn (args.map qA) x st with
    | none=>rw [hf] at h2; simp [SN] at h2
    | some r'=>rw [hf] at h2; exact ⟨r',rfl,h2⟩
  show x6 c P (nu c P k).1 (nu c P k).2 k f args=some r
  unfold x6
  rw [ok.ext]
  simp only
  rw [← h5]
  congr 1
  unfold LR
  rw [ok.ext,ok.func]
  simp only
  rw [hb]
  simp only
  rw [h1 k (by omega)]
  simp only
  rw [ZH] at h2
  unfold DK at h2
  obtain ⟨h3,h4⟩:=T3 h2
  rw [if_pos h3]
  exact h4
theorem Comes.go (ok:Told c P f fn) {args:List D} {j:Nat} {h:St} {r:Rz} (hw:W c P sg f fn (args.map qA) j h r) (ht:∀ J:Nat→St→Option Rz,J j h=some r→AA ad c sg (eA c P sg) J f fn args=some r):Comes c P f args r:=by
  obtain ⟨n,hn⟩:=hw
  exact AE aq ok (ht _ hn)
theorem Comes.fin (ok:Told c P f fn) {args:List D} {r:Rz} (ht:∀ J:Nat→St→Option Rz,AA ad c sg (eA c P sg) J f fn args=some r):Comes c P f args r:=
  AE aq ok (sg:=sg) (n:=0) (ht _)
end
end Go.Proofs.YtockoilcnmljiaaGreat
namespace Go.Proofs.YtockoilcnmljiaaGreat
section
variable {P:Program} {c:cx} (aq:ek c P) {sg:Sg} {f:FuncId} {r:Rz} {J:Nat→St→Option Rz} {J':Nat→Nat→St→Option Rz} (hJ:∀ j h,J j h=some r→Ev fun m=>J' m j h=some r)
include aq hJ
theorem yB:∀ {code:Code} {i:Nat} {st:St} {k:Exit→St→Option Rz} {k':Nat→Exit→St→Option Rz},(∀ x st,k x st=some r→Ev fun m=>k' m x st=some r)→dE ad c sg (eA c P sg) J f code i st k=some r→Ev fun m=>dE ad c sg (eA c P sg) (J' m) f code i st (k' m)=some r:=by
  intro code
  induction code with
  | skip=>intro i st k k' hk h; exact hk _ _ h
  | exit id=>intro i st k k' hk h; exact hk _ _ h
  | ret=>intro i st k k' hk h; exact hk _ _ h
  | region id ops draw=>
    intro i st k k' hk h
    cases draw with
    | false=>
      simp only [dE] at h ⊢
      obtain ⟨st',_,h2,h3⟩:=mU aq h
      exact (hk _ _ h2).mono fun m hm=>h3 _ _ hm
    | true=>
      simp only [dE] at h ⊢
      split at h
      · obtain ⟨st',_,h2,h3⟩:=mU aq h
        exact (hk _ _ h2).mono fun m hm=>h3 _ _ hm
      · simp at h
  | seq a b eG kz=>
    intro i st k k' hk h
    simp only [dE] at h ⊢
    refine eG (k':=fun m=>qz (fun st'=>dE ad c sg (eA c P sg) (J' m) f b i st' (k' m)) (k' m)) (fun x st hx=>?_) h
    cases x with
    | normal=>exact kz hk hx
    | _=>exact hk _ _ hx
  | cond v a b eG kz=>
    intro i st k k' hk h
    simp only [dE,LZ] at h ⊢
    split at h
    · split at h
      · rename_i hv
        rcases nE h with ⟨rfl,h1⟩ | ⟨rfl,h1⟩
        · exact eG hk h1
        · exact kz hk h1
      · simp at h
    · split at h
      · rcases nE h with ⟨rfl,h1⟩ | ⟨rfl,h1⟩
        · exact eG hk h1
        · exact kz hk h1
      · simp at h
  | block id a eG=>
    intro i st k k' hk h
    simp only [dE] at h ⊢
    refine eG (k':=fun m=>vc id (k' m)) (fun x st hx=>?_) h
    cases x with
    | exit uD=>
      simp only [vc] at hx ⊢
      split at hx
      · rename_i e; simp only [e,if_true]; exact hk _ _ hx
      · rename_i e; simp only [if_neg e]; exact hk _ _ hx
    | _=>exact hk _ _ hx
  | loop a eG=>
    intro i st k k' hk h
    simp only [dE,jmp] at h ⊢
    split at h
    · exact hJ _ _ h
    · simp at h
  | _=>intro i st k k' hk h; simp [dE] at h
theorem R6:∀ {code:Code} {i:Nat} {k:Exit→St→Option Rz} {k':Nat→Exit→St→Option Rz} {j:Nat} {t:St→Option Rz} {h:St},(∀ x st,k x st=some r→Ev fun m=>k' m x st=some r)→dv ad c sg (eA c P sg) J f code i k j=some t→t h=some r→Ev fun m=>∃ t',dv ad c sg (eA c P sg) (J' m) f code i (k' m) j=some t'∧t' h=some r:=by
  intro code
  induction code with
  | seq a b eG kz=>
    intro i k k' j t h hk ht hr
    simp only [dv] at ht ⊢
    split at ht
    · rename_i t1 h1
      simp only [Option.some.injEq] at ht
      subst ht
      refine (eG (k':=fun m=>qz (fun st'=>dE ad c sg (eA c P sg) (J' m) f b i st' (k' m)) (k' m)) (fun x st hx=>?_) h1 hr).mono fun m hm=>?_
      · cases x with
        | normal=>exact yB aq hJ hk hx
        | _=>exact hk _ _ hx
      · obtain ⟨t',h2,h3⟩:=hm
        exact ⟨t',by rw [h2],h3⟩
    · rename_i h1
      refine (kz hk ht hr).mono fun m hm=>?_
      rw [tY h1]
      exact hm
  | cond v a b eG kz=>
    intro i k k' j t h hk ht hr
    simp only [dv] at ht ⊢
    split at ht
    · rename_i t1 h1
      simp only [Option.some.injEq] at ht
      subst ht
      refine (eG hk h1 hr).mono fun m hm=>?_
      obtain ⟨t',h2,h3⟩:=hm
      exact ⟨t',by rw [h2],h3⟩
    · rename_i h1
      refine (kz hk ht hr).mono fun m hm=>?_
      rw [tY h1]
      exact hm
  | block id a eG=>
    intro i k k' j t h hk ht hr
    simp only [dv] at ht ⊢
    refine eG (k':=fun m=>vc id (k' m)) (fun x st hx=>?_) ht hr
    cases x with
    | exit uD=>
      simp only [vc] at hx ⊢
      split at hx
      · rename_i e; simp only [e,if_true]; exact hk _ _ hx
      · rename_i e; simp only [if_neg e]; exact hk _ _ hx
    | _=>exact hk _ _ hx
  | loop a eG=>
    intro i k k' j t h hk ht hr
    simp only [dv] at ht ⊢
    have NP:∀ x st,qz (jmp c J f i) k x st=some r→Ev fun m=>qz (jmp c (J' m) f i) (k' m) x st=some r:=by
      intro x st hx
      cases x with
      | normal=>
        simp only [qz,jmp] at hx ⊢
        split at hx
        · exact hJ _ _ hx
        · simp at hx
      | _=>exact hk _ _ hx
    split at ht
    · rename_i e
      simp only [Option.some.injEq] at ht
      subst ht
      refine (yB aq hJ NP hr).mono fun m hm=>?_
      rw [if_pos e]
      exact ⟨_,rfl,hm⟩
    · rename_i e
      simp only [if_neg e]
      exact eG NP ht hr
  | _=>intro i k k' j t h hk ht hr; simp [dv] at ht
end
section
variable {P:Program} {c:cx} (aq:ek c P) {sg:Sg} {f:FuncId} {fn:Func} {sk:List D} {r:Rz}
include aq
theorem W.ev {j:Nat} {h:St} (hw:W c P sg f fn sk j h r):Ev fun m=>Jn c P sg f fn sk m j h=some r:=by
  obtain ⟨n,hn⟩:=hw
  exact ⟨n,fun m hm=>Cb aq hm _ _ _ hn⟩
theorem W.step {j:Nat} {h:St} (ht:∀ J:Nat→St→Option Rz,(∀ j' h',W c P sg f fn sk j' h' r→J j' h'=some r)→tX ad c sg (eA c P sg) J f fn sk j h=some r):W c P sg f fn sk j h r:=by
  classical
  have h1:=ht (fun j' h'=>if W c P sg f fn sk j' h' r then some r else none) (fun j' h' hw=>if_pos hw)
  unfold tX at h1
  split at h1
  case h_2=>simp at h1
  rename_i body hb
  split at h1
  case h_2=>simp at h1
  rename_i t ht
  obtain ⟨n,hn⟩:=R6 aq (J':=Jn c P sg f fn sk) (k':=fun _=>DO c f fn sk) (fun j' h' hh=>by
    split at hh
    · rename_i hw; exact hw.ev aq
    · simp at hh) (fun x st hx=>⟨0,fun _ _=>hx⟩) ht h1
  obtain ⟨t',h2,h3⟩:=hn n (Nat.le_refl _)
  refine ⟨n+1,?_⟩
  simp only [Jn,tX]
  rw [hb]
  simp only
  rw [h2]
  exact h3
theorem Comes.step (ok:Told c P f fn) {args:List D} (ht:∀ J:Nat→St→Option Rz,(∀ j' h',W c P sg f fn (args.map qA) j' h' r→J j' h'=some r)→AA ad c sg (eA c P sg) J f fn args=some r):Comes c P f args r:=by
  classical
  have h1:=ht (fun j' h'=>if W c P sg f fn (args.map qA) j' h' r then some r else none) (fun j' h' hw=>if_pos hw)
  unfold AA at h1
  split at h1
  case h_2=>simp at h1
  rename_i body hb
  obtain ⟨n,hn⟩:=yB aq (J':=Jn c P sg f fn (args.map qA)) (k':=fun _=>DO c f fn (args.map qA)) (fun j' h' hh=>by
    split at hh
    · rename_i hw; exact hw.ev aq
    · simp at hh) (fun x st hx=>⟨0,fun _ _=>hx⟩) h1
  refine AE aq ok (sg:=sg) (n:=n) ?_
  unfold AA
  rw [hb]
  exact hn n (Nat.le_refl _)
end
end Go.Proofs.YtockoilcnmljiaaGreat
namespace Go.Proofs.YtockoilcnmljiaaGreat
open Go.Shelf
def YE:List (Nat × TI):=[
  (2,⟨.int .i64,1,8,[.int .i64 0]⟩),
  (3,⟨.int .i64,1,8,[.int .i64 0]⟩),
  (4,⟨.bool,1,1,[.bool false]⟩),
  (5,⟨.int .u8,1,1,[.int .u8 0]⟩),
  (6,⟨.int .u8,1,1,[.int .u8 0]⟩),
  (7,⟨.struct [0,1,2,3] [1,1,1,1],4,24,[.int .i64 0,.int .i64 0,.bool false,.int .u8 0]⟩),
  (8,⟨.struct [0,1,2,3] [1,1,1,1],4,24,[.int .i64 0,.int .i64 0,.bool false,.int .u8 0]⟩),
  (9,⟨.str,1,16,[.str ⟨#[]⟩]⟩),
  (10,⟨.str,1,16,[.str ⟨#[]⟩]⟩),
  (11,⟨.str,1,16,[.str ⟨#[]⟩]⟩),
  (12,⟨.int .u64,1,8,[.int .u64 0]⟩),
  (13,⟨.struct [0,1] [1,1],2,24,[.str ⟨#[]⟩,.int .u64 0]⟩),
  (14,⟨.struct [0,1] [1,1],2,24,[.str ⟨#[]⟩,.int .u64 0]⟩),
  (15,⟨.ptr 156,1,8,[.undef]⟩),
  (16,⟨.ptr 159,1,8,[.undef]⟩),
  (17,⟨.ptr 168,1,8,[.undef]⟩),
  (18,⟨.struct [0] [1],1,8,[.undef]⟩),
  (19,⟨.struct [0] [1],1,8,[.undef]⟩),
  (21,⟨.int .i32,1,4,[.int .i32 0]⟩),
  (22,⟨.slice 3,1,24,[.nil 1]⟩),
  (23,⟨.slice 22,1,24,[.nil 1]⟩),
  (24,⟨.struct [0,1,2,3,4,5] [1,1,1,1,1,1],6,64,[.nil 1,.nil 1,.bool false,.bool false,.bool false,.int .i64 0]⟩),
  (25,⟨.struct [0,1,2,3,4,5] [1,1,1,1,1,1],6,64,[.nil 1,.nil 1,.bool false,.bool false,.bool false,.int .i64 0]⟩),
  (26,⟨.slice 5,1,24,[.nil 1]⟩),
  (27,⟨.struct [0,1] [1,1],2,48,[.nil 1,.nil 1]⟩),
  (28,⟨.struct [0,1] [1,1],2,48,[.nil 1,.nil 1]⟩),
  (29,⟨.slice 4,1,24,[.nil 1]⟩),
  (30,⟨.struct [0,1,2,3,4,10,12,13,14,15] [1,1,1,1,6,2,1,1,1,1],16,248,[.int .i64 0,.bool false,.bool false,.nil 1,.nil 1,.nil 1,.bool false,.bool false,.bool false,.int .i64 0,.nil 1,.nil 1,.nil 1,.nil 1,.nil 1,.nil 1]⟩),
  (31,⟨.struct [0,1,2,3,4,10,12,13,14,15] [1,1,1,1,6,2,1,1,1,1],16,248,[.int .i64 0,.bool false,.bool false,.nil 1,.nil 1,.nil 1,.bool false,.bool false,.bool false,.int .i64 0,.nil 1,.nil 1,.nil 1,.nil 1,.nil 1,.nil 1]⟩),
  (33,⟨.struct [0,1,2,3,4,5] [1,1,1,1,1,1],6,64,[.nil 1,.nil 1,.bool false,.bool false,.bool false,.int .i64 0]⟩),
  (34,⟨.struct [0,1] [1,1],2,48,[.nil 1,.nil 1]⟩),
  (35,⟨.struct [0,1,2,3,4,10,12,13,14,15] [1,1,1,1,6,2,1,1,1,1],16,248,[.int .i64 0,.bool false,.bool false,.nil 1,.nil 1,.nil 1,.bool false,.bool false,.bool false,.int .i64 0,.nil 1,.nil 1,.nil 1,.nil 1,.nil 1,.nil 1]⟩),
  (36,⟨.struct [0,1,2,3,4,10,12,13,14,15] [1,1,1,1,6,2,1,1,1,1],16,248,[.int .i64 0,.bool false,.bool false,.nil 1,.nil 1,.nil 1,.bool false,.bool false,.bool false,.int .i64 0,.nil 1,.nil 1,.nil 1,.nil 1,.nil 1,.nil 1]⟩),
  (45,⟨.slice 31,1,24,[.nil 16]⟩),
  (46,⟨.slice 116,1,24,[.nil 3]⟩),
  (47,⟨.slice 119,1,24,[.nil 2]⟩),
  (48,⟨.struct [0,1,2,3,4] [1,1,1,1,1],5,104,[.nil 16,.nil 3,.nil 2,.nil 1,.int .i64 0]⟩),
  (49,⟨.struct [0,1,2,3,4] [1,1,1,1,1],5,104,[.nil 16,.nil 3,.nil 2,.nil 1,.int .i64 0]⟩),
  (52,⟨.slice 36,1,24,[.nil 16]⟩),
  (53,⟨.slice 93,1,24,[.nil 3]⟩),
  (54,⟨.slice 88,1,24,[.nil 2]⟩),
  (55,⟨.struct [0,1,2,3,4] [1,1,1,1,1],5,104,[.nil 16,.nil 3,.nil 2,.nil 1,.int .i64 0]⟩),
  (56,⟨.struct [0,1,2,3,4] [1,1,1,1,1],5,104,[.nil 16,.nil 3,.nil 2,.nil 1,.int .i64 0]⟩),
  (87,⟨.struct [0,1] [1,1],2,16,[.int .i64 0,.int .i64 0]⟩),
  (88,⟨.struct [0,1] [1,1],2,16,[.int .i64 0,.int .i64 0]⟩),
  (92,⟨.struct [0,1,2] [1,1,1],3,40,[.int .i64 0,.int .i64 0,.nil 1]⟩),
  (93,⟨.struct [0,1,2] [1,1,1],3,40,[.int .i64 0,.int .i64 0,.nil 1]⟩),
  (116,⟨.struct [0,1,2] [1,1,1],3,40,[.int .i64 0,.int .i64 0,.nil 1]⟩),
  (119,⟨.struct [0,1] [1,1],2,16,[.int .i64 0,.int .i64 0]⟩),
  (133,⟨.int .u64,1,8,[.int .u64 0]⟩),
  (138,⟨.ptr 140,1,8,[.undef]⟩),
  (139,⟨.struct [0,1,2] [1,1,1],3,40,[.nil 1,.int .i64 0,.bool false]⟩),
  (140,⟨.struct [0,1,2] [1,1,1],3,40,[.nil 1,.int .i64 0,.bool false]⟩),
  (147,⟨.ptr 149,1,8,[.undef]⟩),
  (148,⟨.struct [0,1,2] [1,1,1],3,40,[.nil 1,.int .i64 0,.bool false]⟩),
  (149,⟨.struct [0,1,2] [1,1,1],3,40,[.nil 1,.int .i64 0,.bool false]⟩),
  (155,⟨.struct [0,1,2,3] [1,1,1,1],4,40,[.undef,.undef,.undef,.str ⟨#[]⟩]⟩),
  (156,⟨.struct [0,1,2,3] [1,1,1,1],4,40,[.undef,.undef,.undef,.str ⟨#[]⟩]⟩),
  (160,⟨.int .u32,1,4,[.int .u32 0]⟩),
  (161,⟨.int .u8,1,1,[.int .u8 0]⟩),
  (162,⟨.int .u8,1,1,[.int .u8 0]⟩),
  (164,⟨.ptr 5,1,8,[.undef]⟩),
  (165,⟨.int .i32,1,4,[.int .i32 0]⟩),
  (166,⟨.int .i32,1,4,[.int .i32 0]⟩),
  (167,⟨.struct [0,1,2,3,4,5,6,7,8,9,10] [1,1,1,1,1,1,1,1,1,1,1],11,48,[.int .u64 0,.int .u64 0,.int .u32 0,.int .u8 0,.int .u8 0,.int .u8 0,.int .u8 0,.undef,.undef,.int .i32 0,.int .i32 0]⟩),
  (168,⟨.struct [0,1,2,3,4,5,6,7,8,9,10] [1,1,1,1,1,1,1,1,1,1,1],11,48,[.int .u64 0,.int .u64 0,.int .u32 0,.int .u8 0,.int .u8 0,.int .u8 0,.int .u8 0,.undef,.undef,.int .i32 0,.int .i32 0]⟩)]
def ach:List (Nat × List Bool):=[(16,[true,false]),(54,[true,false]),(55,[true,false]),(56,[true,false]),(57,[true,false]),(58,[true,false]),(117,[true,false]),(130,[true]),(155,[true]),(156,[true]),(164,[true]),(165,[true]),(181,[true]),(182,[true]),(183,[true]),(184,[true]),(185,[true])]
def ZK:List (Nat × List Bool):=[]
def aci:List Nat:=[]
def WD:List (Nat × Nat):=[]
def aec:List (Nat × Nat × List Nat × List Nat):=[(21,(0,([1,3],[1,127]))),(21,(2,([1,3,4,5],[1,4,127]))),(21,(4,([1,6],[1,127]))),(21,(6,([1,7],[1,127]))),(23,(0,([1,31,32,33],[1,124]))),(23,(2,([1,76,77,78],[1,124]))),(23,(4,([1,96,97,98],[1,124]))),(27,(0,([1,3,4],[1,40]))),(29,(0,([1,3],[1,68]))),(29,(2,([1,3,4],[1,68]))),(29,(4,([1,3,4,5,6,7,8],[1,5,6,68]))),(30,(0,([1,13,14,15],[1,63]))),(30,(2,([1,3,4,13,14,15,23,24,25],[1,4,63]))),(30,(4,([1,3,4,5,6,13,14,15,23,24,25,34,35,36],[1,4,6,63]))),(31,(0,([1,3],[1,59]))),(31,(2,([1,3,5,6],[1,59]))),(32,(0,([1,11,12,13],[1,48]))),(33,(0,([1,3],[1,33]))),(39,(0,([0,1,5],[27,28]))),(40,(0,([1,2,3,4],[1,2,3,55]))),(41,(0,([1,3],[1,99]))),(42,(0,([0,3,4],[22]))),(45,(0,([0,3,4],[22]))),(46,(0,([0,3,4],[23]))),(48,(0,([1,85],[1,164]))),(48,(2,([1,139,140,141],[1,164]))),(49,(0,([0,1,5],[26,27]))),(52,(0,([0,1,5],[26,27]))),(53,(0,([0,1,5],[27,28]))),(54,(0,([0,1,5],[19,20]))),(57,(0,([0,1,5],[21,22]))),(58,(0,([0,1,5],[19,20]))),(59,(0,([0,1,5],[21,22]))),(62,(0,([0,1,5],[23,24]))),(63,(0,([0,1,5],[21,22]))),(66,(0,([0,1,5],[27,28]))),(67,(0,([0,1,5],[27,28]))),(70,(0,([1,3],[1,87]))),(70,(2,([1,3,4],[1,87]))),(70,(4,([1,5],[1,87]))),(71,(0,([0,3,4],[23]))),(72,(0,([0,3,4],[23]))),(73,(0,([0,3,4],[23]))),(74,(0,([1,13,14,15],[1,75]))),(74,(2,([1,46,47,48],[1,75]))),(74,(4,([1,5,6,46,47,48,53],[1,6,75]))),(78,(0,([0,1,5],[27,28]))),(79,(0,([0,1,5],[27,28]))),(80,(0,([0,1,5],[27,28]))),(82,(0,([3,8,9,10],[23]))),(83,(0,([0,1,5,6],[43,44]))),(84,(0,([0,1,5],[18,19]))),(85,(0,([0,1,5,10],[44,45]))),(87,(0,([1,2,5],[2,37,38]))),(89,(0,([1,2,5],[2,35,36]))),(90,(0,([0,1,5],[32,33]))),(91,(0,([1,2,5,6],[2,39,40]))),(94,(0,([0,1,12,13],[26,27]))),(95,(0,([2,5,9,10,11],[2,32,33]))),(97,(0,([1,2,3,4],[1,2,3,32]))),(99,(0,([0,3],[19]))),(100,(0,([1,3],[1,47]))),(101,(0,([1,3],[1,81]))),(103,(0,([2,3,5],[2,3,68,69]))),(104,(0,([0,3,4],[22]))),(109,(0,([3,7,8,9],[20]))),(116,(0,([0,1,5],[26,27]))),(117,(0,([0,1,5],[20,21]))),(118,(0,([0,1,5],[22,23]))),(128,(0,([0,1,7,8],[19,20]))),(130,(0,([0,2,3],[28]))),(133,(0,([0,1,7,8],[19,20]))),(136,(0,([0,3],[32]))),(137,(0,([0,3],[29]))),(142,(0,([0,5,6,7],[26]))),(145,(0,([0,5,6,7],[29]))),(147,(0,([1,2,15,16,17],[32,33,34]))),(150,(0,([0,1,7,8],[19,20]))),(151,(0,([0,2,4,5,6],[2,11,5,65]))),(152,(0,([1,6],[29,30]))),(153,(0,([0,1,7,8],[19,20]))),(155,(0,([0,3,4,5],[28]))),(157,(0,([1,3,4],[1,85]))),(157,(2,([1,3,5],[1,85]))),(157,(4,([1,3,5,6],[1,85]))),(159,(0,([0,2,4,5,16],[2,11,5,64]))),(162,(0,([0,1,7,8],[55,56]))),(163,(0,([0,3],[25]))),(164,(0,([0,3,4,5],[28]))),(166,(0,([1,3,13,14,15],[1,41]))),(168,(0,([0,1,7,8,9],[57,58]))),(170,(0,([3,7,8,9],[19]))),(172,(0,([0,3],[27])))]
def ZL:List (Nat × List (Nat × Nat)):=[(29,[(21,2),(24,0),(26,2),(29,0)]),(40,[(42,4),(45,2),(48,0)]),(97,[(19,4),(22,2),(25,0)]),(98,[(4,2),(8,2)])]
def ZM:List (Nat × List (Nat × List Nat)):=[(29,[(5,[1]),(6,[1])]),(40,[(50,[3,1]),(52,[3,1]),(53,[1])]),(97,[(27,[3,1]),(29,[3,1]),(30,[1])]),(98,[(6,[1]),(10,[1]),(2,[1])])]
def aed:List (Nat × RS × List RS):=[
  (0,(.aL [],[])),
  (1,(.aL [],[])),
  (2,(.aL [],[])),
  (3,(.bool,[.undef])),
  (4,(.bool,[.undef,.undef,.undef])),
  (5,(.bool,[.undef])),
  (6,(.bool,[.undef,.undef,.undef])),
  (7,(.bool,[.undef])),
  (8,(.bool,[.undef])),
  (9,(.bool,[.undef])),
  (10,(.bool,[.undef])),
  (11,(.int .i64,[.undef,.undef])),
  (12,(.aL [.ty .node,.bool],[.undef])),
  (13,(.ty .node,[.undef])),
  (14,(.aL [.ty .node,.bool],[.undef])),
  (15,(.bool,[.undef,.undef])),
  (16,(.int .i64,[.agg [.int .i64,.bool,.bool,.sl 1,.sl 1,.sl 1,.bool,.bool,.bool,.int .i64,.sl 1,.sl 1,.sl 1,.sl 1,.sl 1,.sl 1],.undef])),
  (17,(.int .i64,[.undef,.undef])),
  (18,(.aL [.ty .node,.bool],[.undef,.undef,.undef])),
  (19,(.aL [.ty .node,.bool],[.undef,.undef,.undef])),
  (20,(.int .i64,[.undef,.undef])),
  (21,(.bool,[.undef])),
  (22,(.ty .world,[.undef])),
  (23,(.bool,[.undef])),
  (24,(.bool,[.undef,.undef])),
  (25,(.aL [.int .i64,.int .i64],[.undef,.undef,.undef])),
  (26,(.aL [.int .i64,.int .i64],[.undef,.undef,.undef])),
  (27,(.bool,[.undef])),
  (28,(.bool,[.undef])),
  (29,(.bool,[.undef])),
  (30,(.bool,[.undef])),
  (31,(.bool,[.undef])),
  (32,(.bool,[.undef])),
  (33,(.bool,[.undef])),
  (34,(.bool,[.undef])),
  (35,(.int .i64,[.undef,.undef])),
  (36,(.int .i64,[.undef,.undef])),
  (37,(.int .i64,[.undef,.undef])),
  (38,(.int .i64,[.undef,.undef])),
  (39,(.int .i64,[.undef,.undef])),
  (40,(.ty .node,[.undef])),
  (41,(.bool,[.undef])),
  (42,(.sl 1,[.undef])),
  (43,(.agg [.sl 1,.sl 1,.bool,.bool,.bool,.int .i64],[.undef])),
  (44,(.agg [.sl 1,.sl 1],[.undef])),
  (45,(.sl 1,[.undef])),
  (46,(.sl 1,[.undef])),
  (47,(.ty .node,[.undef])),
  (48,(.bool,[.undef])),
  (49,(.bool,[.undef,.undef])),
  (50,(.bool,[.undef,.undef])),
  (51,(.bool,[.undef,.undef])),
  (52,(.bool,[.undef,.undef])),
  (53,(.bool,[.undef,.undef])),
  (54,(.int .i64,[.sl 1,.undef])),
  (55,(.int .i64,[.agg [.sl 1,.sl 1,.bool,.bool,.bool,.int .i64],.undef])),
  (56,(.int .i64,[.agg [.sl 1,.sl 1],.undef])),
  (57,(.int .i64,[.sl 1,.undef])),
  (58,(.int .i64,[.sl 1,.undef])),
  (59,(.int .i64,[.undef,.undef])),
  (60,(.int .i64,[.undef,.undef])),
  (61,(.int .i64,[.undef,.undef])),
  (62,(.int .i64,[.undef,.undef])),
  (63,(.int .i64,[.undef,.undef])),
  (64,(.bool,[.undef,.undef,.undef])),
  (65,(.bool,[.undef,.undef,.undef])),
  (66,(.int .i64,[.undef,.undef])),
  (67,(.int .i64,[.undef,.undef])),
  (68,(.int .i64,[.undef,.undef])),
  (69,(.bool,[.undef,.undef,.undef])),
  (70,(.bool,[.undef])),
  (71,(.sl 16,[.undef])),
  (72,(.sl 3,[.undef])),
  (73,(.sl 2,[.undef])),
  (74,(.bool,[.undef])),
  (75,(.bool,[.undef,.undef,.undef])),
  (76,(.bool,[.undef])),
  (77,(.bool,[.undef])),
  (78,(.bool,[.undef,.undef])),
  (79,(.bool,[.undef,.undef])),
  (80,(.bool,[.undef,.undef])),
  (81,(.int .i64,[.undef])),
  (82,(.ty .I,[.undef])),
  (83,(.ty .I,[.undef,.undef])),
  (84,(.bool,[.undef,.undef])),
  (85,(.ty .I,[.undef,.undef])),
  (86,(.bool,[.undef,.undef])),
  (87,(.ty .I,[.undef,.undef])),
  (88,(.bool,[.undef,.undef])),
  (89,(.ty .I,[.undef,.undef])),
  (90,(.bool,[.undef,.undef])),
  (91,(.ty .I,[.undef,.undef])),
  (92,(.bool,[.undef,.undef])),
  (93,(.bool,[.undef,.undef])),
  (94,(.bool,[.undef,.undef])),
  (95,(.ty .I,[.undef,.undef])),
  (96,(.int .i64,[.undef,.undef])),
  (97,(.ty .mt,[.undef])),
  (98,(.ty .aM,[.undef])),
  (99,(.bool,[.undef])),
  (100,(.bool,[.undef])),
  (101,(.bool,[.undef])),
  (102,(.aL [.ty .mt,.int .i64,.bool],[.undef])),
  (103,(.bool,[.undef,.undef])),
  (104,(.sl 1,[.undef])),
  (105,(.sl 1,[.undef])),
  (106,(.ty .mt,[.undef])),
  (107,(.ty .aM,[.undef])),
  (108,(.ty .L,[.undef])),
  (109,(.ty .R,[.undef])),
  (110,(.bool,[.undef])),
  (111,(.bool,[.undef])),
  (112,(.bool,[.undef])),
  (113,(.aL [.ty .mt,.int .i64,.bool],[.undef])),
  (114,(.bool,[.undef,.undef])),
  (115,(.bool,[.undef])),
  (116,(.bool,[.undef,.undef])),
  (117,(.int .i64,[.sl 1,.undef])),
  (118,(.int .i64,[.undef,.undef])),
  (119,(.bool,[.undef,.undef])),
  (120,(.bool,[.undef,.undef])),
  (121,(.int .i64,[.undef,.undef])),
  (122,(.agg [.int .i64,.int .i64,.sl 1],[.undef])),
  (123,(.agg [.int .i64,.int .i64],[.undef])),
  (124,(.bool,[.undef,.undef])),
  (125,(.bool,[.undef,.undef])),
  (126,(.bool,[.undef,.undef])),
  (127,(.bool,[.undef,.undef])),
  (128,(.int .i64,[.undef,.undef])),
  (129,(.bool,[.undef,.undef])),
  (130,(.aL [],[.sl 1])),
  (131,(.sl 1,[])),
  (132,(.sl 1,[.undef,.undef,.undef])),
  (133,(.int .i64,[.undef,.undef])),
  (134,(.sl 1,[])),
  (135,(.sl 1,[.undef,.undef,.undef])),
  (136,(.bool,[.undef])),
  (137,(.bool,[.undef])),
  (138,(.int .i64,[.undef])),
  (139,(.aL [.ty .mt,.int .i64,.bool],[.undef])),
  (140,(.ty .B,[.undef])),
  (141,(.bool,[.undef])),
  (142,(.bool,[.undef])),
  (143,(.bool,[.undef,.undef])),
  (144,(.bool,[.undef])),
  (145,(.bool,[.undef])),
  (146,(.aL [.ty .mt,.int .i64,.bool],[.undef])),
  (147,(.bool,[.undef,.undef,.undef])),
  (148,(.int .i64,[.undef])),
  (149,(.int .i64,[.undef])),
  (150,(.int .i64,[.undef,.undef])),
  (151,(.aL [.ty .mt,.bool],[.undef])),
  (152,(.ty .B,[.undef,.undef])),
  (153,(.int .i64,[.undef,.undef])),
  (154,(.aL [.ty .mt,.int .i64,.bool],[.undef])),
  (155,(.sl 1,[.bf [.jD 1,.int .i64,.bool]])),
  (156,(.int .i64,[.bf [.jD 1,.int .i64,.bool]])),
  (157,(.sl 1,[.undef])),
  (158,(.ty .B,[.undef])),
  (159,(.aL [.ty .mt,.bool],[.undef])),
  (160,(.bool,[.undef,.undef])),
  (161,(.ty .B,[.undef,.undef])),
  (162,(.aL [.int .i64,.int .i64,.bool],[.undef,.undef])),
  (163,(.sl 1,[.undef])),
  (164,(.sl 1,[.bf [.jD 1,.int .i64,.bool]])),
  (165,(.int .i64,[.bf [.jD 1,.int .i64,.bool]])),
  (166,(.sl 1,[.undef])),
  (167,(.ty .B,[.undef])),
  (168,(.aL [.int .i64,.int .i64,.bool],[.undef,.undef])),
  (169,(.sl 1,[.undef])),
  (170,(.sl 1,[.undef])),
  (171,(.int .i64,[.undef,.undef])),
  (172,(.sl 1,[.undef])),
  (173,(.str,[.undef])),
  (174,(.aL [],[.undef])),
  (175,(.str,[.undef])),
  (176,(.aL [],[.undef])),
  (177,(.str,[.undef])),
  (178,(.aL [],[.undef])),
  (179,(.str,[.undef])),
  (180,(.aL [],[.undef])),
  (186,(.str,[.undef])),
  (187,(.aL [],[.undef])),
  (188,(.str,[.undef]))]
def cfg:cx where
  ty:=lk YE
  ext:=fun f=>if f=105 then some (ky 1 8) else if f=108 then some (ky 1 1) else if f=140 then some (ky 1 1) else none
  own:=fun f=>(lk ach f).getD []
  inl:=fun f=>aci.contains f
  pZ:=fun f t=>WD.contains (f,t)
  nm:=fun f i=>(aec.find? fun r=>r.1==f&&r.2.1==i).map fun r=>r.2.2
  gone:=fun f=>(lk ZK f).getD []
  base:=fun f t=>match lk ZL f with | some l=>lk l t | none=>none
  xX:=fun f t=>match lk ZM f with | some l=>(lk l t).getD [] | none=>[]
def aee:List Nat:=[46,71,72,73,58]
def sg:Sg:=⟨lk aed,fun f=>aee.contains f⟩
theorem vd:ek cfg Tryz.prog:=⟨NC (l:=YE) (by kernel_rfl)⟩
theorem WE (f : FuncId) (fn : Func) (body : Code) (hf : Tryz.prog.funcs[f]? = some fn) (hb : fn.body = some body) : lu fn.ntmps body = true ∧ (fn.name == "runtime.NumGoroutine") = false :=
  ZD (by kernel_rfl) f fn body hf hb
theorem Ub:Tryz.prog.follows .mixedOrders=true:=by kernel_rfl
def Uc:Ren:=⟨fun | 41=>105 | n=>n,fun | 4=>4 | 22=>22 | 23=>3 | n=>n,fun n=>n⟩
theorem Ud:SlLaysE0.n41 Tryz.prog Uc where
  mixed:=by kernel_rfl
  f41:=⟨Tryz.f105.name,by kernel_rfl,Tryz.func105.trans (congrArg some (by kernel_rfl))⟩
  t4:=Tryz.underlying4
  a4:=Tryz.isAgg4
  z4:=Tryz.sizeOf4
  v4:=Tryz.zeroValue4
  t22:=Tryz.underlying22
  a22:=Tryz.isAgg22
  z22:=Tryz.sizeOf22
  v22:=Tryz.zeroValue22
theorem R7:qp Tryz.prog 105:=⟨_,Tryz.func105,by kernel_rfl,by kernel_rfl⟩
noncomputable def Ue:TypeInfo:=(Tryz.prog.info? 3).get (by kernel_rfl)
def Uf:Ren:=⟨fun | 41=>108 | n=>n,fun | 4=>4 | 22=>29 | 23=>4 | n=>n,fun n=>n⟩
theorem Ug:SlLaysE0.n41 Tryz.prog Uf where
  mixed:=by kernel_rfl
  f41:=⟨Tryz.f108.name,by kernel_rfl,Tryz.func108.trans (congrArg some (by kernel_rfl))⟩
  t4:=Tryz.underlying4
  a4:=Tryz.isAgg4
  z4:=Tryz.sizeOf4
  v4:=Tryz.zeroValue4
  t22:=Tryz.underlying29
  a22:=Tryz.isAgg29
  z22:=Tryz.sizeOf29
  v22:=Tryz.zeroValue29
theorem R8:qp Tryz.prog 108:=⟨_,Tryz.func108,by kernel_rfl,by kernel_rfl⟩
noncomputable def Uh:TypeInfo:=(Tryz.prog.info? 4).get (by kernel_rfl)
def Ui:Ren:=⟨fun | 41=>140 | n=>n,fun | 4=>4 | 22=>26 | 23=>5 | n=>n,fun n=>n⟩
theorem Uj:SlLaysE0.n41 Tryz.prog Ui where
  mixed:=by kernel_rfl
  f41:=⟨Tryz.f140.name,by kernel_rfl,Tryz.func140.trans (congrArg some (by kernel_rfl))⟩
  t4:=Tryz.underlying4
  a4:=Tryz.isAgg4
  z4:=Tryz.sizeOf4
  v4:=Tryz.zeroValue4
  t22:=Tryz.underlying26
  a22:=Tryz.isAgg26
  z22:=Tryz.sizeOf26
  v22:=Tryz.zeroValue26
theorem R9:qp Tryz.prog 140:=⟨_,Tryz.func140,by kernel_rfl,by kernel_rfl⟩
noncomputable def Uk:TypeInfo:=(Tryz.prog.info? 5).get (by kernel_rfl)
theorem ZN:∀ f e ds r outs,cfg.ext f=some e→e ds=some (r,outs)→qp Tryz.prog f∧∀ (w:World) (Y:Nat→Prop) (us:Array Value) (az:List Arg),lQ w Y (cfg.own f) ds us.toList az→dM r=true→(∀ o∈outs,dM o=true)→
    Calls Tryz.prog f us w fun e w'=>∃ v,e=.returned v∧ig w w' Y (cfg.own f) az r outs v:=by
  intro f e ds r outs h h2
  have h:(if f=105 then some (ky 1 8) else if f=108 then some (ky 1 1) else if f=140 then some (ky 1 1) else none)=some e:=h
  split at h
  · rename_i hf
    subst hf
    have h:=Option.some.inj h
    subst h
    exact DN Ud Ue (.int .i64 0) 1 8 (by kernel_rfl) (by kernel_rfl) (by kernel_rfl) (by kernel_rfl) rfl (by decide) Tryz.sizeOf3 R7 (own:=cfg.own 105) (by kernel_rfl) h2
  split at h
  · rename_i hf
    subst hf
    have h:=Option.some.inj h
    subst h
    exact DN Ug Uh (.bool false) 1 1 (by kernel_rfl) (by kernel_rfl) (by kernel_rfl) (by kernel_rfl) rfl (by decide) Tryz.sizeOf4 R8 (own:=cfg.own 108) (by kernel_rfl) h2
  split at h
  · rename_i hf
    subst hf
    have h:=Option.some.inj h
    subst h
    exact DN Uj Uk (.int .u8 0) 1 1 (by kernel_rfl) (by kernel_rfl) (by kernel_rfl) (by kernel_rfl) rfl (by decide) Tryz.sizeOf5 R9 (own:=cfg.own 140) (by kernel_rfl) h2
  · simp at h
theorem yC (k:Nat):lf Tryz.prog cfg.own (Q2 cfg Tryz.prog k):=(Np vd Ub WE ZN k).1
end Go.Proofs.YtockoilcnmljiaaGreat
namespace Go.Proofs.YtockoilcnmljiaaGreat
open Go.RowKit
inductive Sh where
  | bool
  | int (k:IntKind)
  | str
  | sl (b:Nat) (e:Sh)
  | ag (fs:List Sh)
mutual
def width:Sh→Nat
  | .ag fs=>ve fs
  | _=>1
def ve:List Sh→Nat
  | []=>0
  | f::fs=>width f+ve fs
end
mutual
def WT:Sh→List D→Prop
  | .bool,ds=>∃ b,ds=[.bool b]
  | .int k,ds=>∃ n,ds=[.int k n]∧(Lit.int k n).wf=true
  | .str,ds=>∃ s,ds=[.str s]∧s.size≤reachBytes
  | .sl b e,ds=>∃ es:List (List D),ds=[.sl (some false) (width e) es.length es.flatten]∧es.length*b≤reachBytes∧∀ x∈es,WT e x
  | .ag fs,ds=>WTs fs ds
def WTs:List Sh→List D→Prop
  | [],ds=>ds=[]
  | f::fs,ds=>∃ a b,ds=a++b∧WT f a∧WTs fs b
end
mutual
def AF (P:Program):TypeId→Sh→Bool
  | t,.bool=>match P.underlying t with | some .bool=>true | _=>false
  | t,.int k=>match P.underlying t with | some (.int k')=>decide (k'=k) | _=>false
  | t,.str=>match P.underlying t with | some .string=>true | _=>false
  | t,.sl b e=>match P.underlying t with
    | some (.slice et)=>AF P et e&&decide (P.cellsOf et=width e)&&decide (P.bytesOf et=b)&&decide (0 < width e)
    | _=>false
  | t,.ag fs=>match P.underlying t with
    | some (.struct fl)=>decide (P.cellsOf t=ve fs)&&Cc P fl.toList 0 fs
    | _=>false
def Cc (P:Program):List Field→Nat→List Sh→Bool
  | [],_,[]=>true
  | f::fl,o,s::ss=>decide (f.offset=o)&&decide (P.cellsOf f.type=width s)&&AF P f.type s&&Cc P fl (o+width s) ss
  | _,_,_=>false
end
theorem mapM_some {α β:Type} {f:α→Option β}:∀ {l:List α} {r:List β},l.mapM f=some r→l.length=r.length∧∀ (i:Nat) (a:α),l[i]?=some a→∃ b,f a=some b∧r[i]?=some b
  | [],r,h=>by
    simp only [List.mapM_nil] at h
    cases h
    exact ⟨rfl,by simp⟩
  | a::l,r,h=>by
    simp only [List.mapM_cons,Option.bind_eq_bind,Option.bind_eq_some_iff] at h
    obtain ⟨b,hb,bs,JC,h⟩:=h
    cases h
    obtain ⟨h1,h2⟩:=mapM_some JC
    refine ⟨by simp [h1],fun i x hx=>?_⟩
    cases i with
    | zero=>
      simp only [List.getElem?_cons_zero,Option.some.injEq] at hx
      subst hx
      exact ⟨b,hb,rfl⟩
    | succ i=>
      simp only [List.getElem?_cons_succ] at hx ⊢
      exact h2 i x hx
theorem Ul {w:World} {base:Nat} {a:Addr} {n:Nat} {vs:List Value} (h:w.cells? base a n=some vs):vs.length=n∧∀ i,i < n→w.cell? (a.add i)=vs[i]?:=by
  unfold World.cells? at h
  split at h
  · obtain ⟨h1,h2⟩:=mapM_some h
    rw [List.length_range] at h1
    refine ⟨h1.symm,fun i hi=>?_⟩
    obtain ⟨b,hb,hr⟩:=h2 i i (by rw [List.getElem?_range hi])
    rw [hb,hr]
  · simp at h
theorem QJ {w:World} {X:Bool→Nat→Prop} {a b:List D} {us vs:List Value} (h:gh w X a us) (h':gh w X b vs):gh w X (a++b) (us++vs):=by
  rw [gO] at h h' ⊢
  exact h.app h'
theorem flat_get {α:Type} {wd:Nat} (hw:0 < wd):∀ {ls:List (List α)},(∀ l∈ls,l.length=wd)→∀ j:Nat,ls.flatten[j]?=(ls[j / wd]?).bind (fun l=>l[j % wd]?)
  | [],_,j=>by simp
  | l::ls,h,j=>by
    have hl:=h l (by simp)
    rw [List.flatten_cons]
    by_cases hj:j < wd
    · rw [List.getElem?_append_left (by omega),Nat.div_eq_of_lt hj,Nat.mod_eq_of_lt hj]
      rfl
    · rw [List.getElem?_append_right (by omega),hl,flat_get hw (fun x hx=>h x (by simp [hx])) (j - wd)]
      have h1:j / wd=(j - wd) / wd+1:=by
        rw [Nat.div_eq_sub_div hw (by omega)]
      have h2:j % wd=(j - wd) % wd:=by
        rw [Nat.mod_eq_sub_mod (by omega)]
      rw [h1,h2,List.getElem?_cons_succ]
theorem NQ {α:Type} {Q:Nat→α→Prop}:∀ len:Nat,(∀ i,i < len→∃ x,Q i x)→∃ es:List α,es.length=len∧∀ (i:Nat) (x:α),es[i]?=some x→Q i x
  | 0,_=>⟨[],rfl,by simp⟩
  | n+1,h=>by
    obtain ⟨es,h1,h2⟩:=NQ n (fun i hi=>h i (by omega))
    obtain ⟨x,hx⟩:=h n (by omega)
    refine ⟨es++[x],by simp [h1],fun i y hy=>?_⟩
    by_cases hi:i < n
    · rw [List.getElem?_append_left (by omega)] at hy
      exact h2 i y hy
    · rw [List.getElem?_append_right (by omega)] at hy
      have:i=n:=by
        have:=(List.getElem?_eq_some_iff.1 hy).1
        simp at this
        omega
      subst this
      rw [h1,Nat.sub_self,List.getElem?_cons_zero,Option.some.injEq] at hy
      subst hy
      exact hx
theorem wX {H:Type} {P:Program} {e:TypeId}:∀ {ds:List (DataW H)} {i:Nat} {d:DataW H},ds[i]?=some d→∀ z∈d.weights P e,z∈DataW.weightsAll P e ds
  | [],i,d,h,_,_=>by simp at h
  | x::ds,0,d,h,z,hz=>by
    simp only [List.getElem?_cons_zero,Option.some.injEq] at h
    subst h
    simp only [DataW.weightsAll,List.mem_append]
    exact .inl hz
  | x::ds,i+1,d,h,z,hz=>by
    simp only [DataW.weightsAll,List.mem_append]
    exact .inr (wX (by simpa using h) z hz)
theorem JT {w:World} {X:Bool→Nat→Prop}:∀ {ps:List (List D × List Value)},(∀ p∈ps,gh w X p.1 p.2)→gh w X (ps.map (·.1)).flatten (ps.map (·.2)).flatten
  | [],_=>by simp [gh]
  | p::ps,h=>by
    simp only [List.map_cons,List.flatten_cons]
    exact QJ (h p (by simp)) (JT (fun q hq=>h q (by simp [hq])))
section
variable {H:Type} {enc:TypeId × Value→H} {P:Program} {w:World} {held:Bool} {X:Bool→Nat→Prop} (hX:∀ k,k < w.heap.size→X false k)
include hX
mutual
theorem HH:∀ (sh:Sh) {fuel:Nat} {t:TypeId} {cs:List Value} {x:DataW H × List MemPlace},DataW.trod enc P w 0 (fun _=>true) held fuel t cs=some x→AF P t sh=true→(∀ z∈x.1.weights P t,z≤reachBytes)→∃ ds,WT sh ds∧gh w X ds cs
  | .bool,fuel,t,cs,x,h,hs,_=>by
    simp only [AF] at hs
    split at hs
    · rename_i ht
      obtain ⟨b,rfl,rfl⟩:=DataW.trod_bool ht h
      exact ⟨[.bool b],⟨b,rfl⟩,_,_,rfl,rfl,rfl⟩
    · simp at hs
  | .int k,fuel,t,cs,x,h,hs,_=>by
    simp only [AF] at hs
    split at hs
    · rename_i k' ht
      simp only [decide_eq_true_eq] at hs
      subst hs
      obtain ⟨n,rfl,rfl,hw⟩:=DataW.trod_int ht h
      exact ⟨[.int k' n],⟨n,rfl,hw⟩,_,_,rfl,rfl,rfl⟩
    · simp at hs
  | .str,fuel,t,cs,x,h,hs,hz=>by
    simp only [AF] at hs
    split at hs
    · rename_i ht
      obtain ⟨s,rfl,rfl,hw⟩:=DataW.trod_string ht h
      refine ⟨[.str s],⟨s,rfl,?_⟩,_,_,rfl,rfl,rfl⟩
      have:s.data.toList.length≤reachBytes:=hz _ (by unfold DataW.weights; exact List.mem_cons_self)
      rw [Array.length_toList] at this
      exact this
    · simp at hs
  | .sl b e,fuel,t,cs,x,h,hs,hz=>by
    simp only [AF] at hs
    split at hs
    case h_2=>simp at hs
    rename_i et ht
    simp only [Bool.and_eq_true,decide_eq_true_eq] at hs
    obtain ⟨⟨⟨h1,h2⟩,h3⟩,h4⟩:=hs
    rcases DataW.trod_slice ht h with ⟨rfl,rfl⟩ | ⟨a,len,cap,elems,rest,n,rfl,rfl,rfl,_,hl,hm,hlen,fj,_⟩
    · refine ⟨[.sl (some false) (width e) 0 []],⟨[],rfl,by simp,by simp⟩,_,_,rfl,?_,rfl⟩
      exact ⟨none,0,[],rfl,Nat.le_refl _,by simp,rfl,.inl rfl⟩
    · replace hz:∀ z∈((elems.map (fun y:DataW H × List MemPlace=>y.1)).length+(rest.map (fun y:DataW H × List MemPlace=>y.1)).length)*P.bytesOf et::(DataW.weightsAll P et (elems.map (fun y:DataW H × List MemPlace=>y.1))++DataW.weightsAll P et (rest.map (fun y:DataW H × List MemPlace=>y.1))),z≤reachBytes:=fun z NR=>hz z (by
        show z∈(match P.underlying t with | some (.slice e)=>((elems.map (fun y:DataW H × List MemPlace=>y.1)).length+(rest.map (fun y:DataW H × List MemPlace=>y.1)).length)*P.bytesOf e::(DataW.weightsAll P e (elems.map (fun y:DataW H × List MemPlace=>y.1))++DataW.weightsAll P e (rest.map (fun y:DataW H × List MemPlace=>y.1))) | _=>[])
        rw [ht]
        exact NR)
      rw [h2] at fj
      have JB:=hz _ List.mem_cons_self
      have each:∀ i,i < len→∃ p:List D × List Value,WT e p.1∧gh w X p.1 p.2∧p.2.length=width e∧∀ j,j < width e→w.cell? ((a.add (i*width e)).add j)=p.2[j]?:=by
        intro i hi
        have h5:=fj i hi
        have nD:i < elems.length:=by omega
        rw [List.getElem?_eq_getElem nD] at h5
        rw [Option.bind_eq_some_iff] at h5
        obtain ⟨vs,h6,h7⟩:=h5
        obtain ⟨h8,h9⟩:=Ul h6
        obtain ⟨ds,mG,Mn⟩:=HH e h7 h1 (fun z NR=>hz z (List.mem_cons_of_mem _ (List.mem_append.2 (.inl (wX (i:=i) (d:=elems[i].1) (by rw [List.getElem?_map,List.getElem?_eq_getElem nD]; rfl) z NR)))))
        exact ⟨(ds,vs),mG,Mn,h8,h9⟩
      obtain ⟨ps,g1,g2⟩:=NQ len each
      have gm:∀ p∈ps,WT e p.1∧gh w X p.1 p.2∧p.2.length=width e:=fun p hp=>by
        obtain ⟨i,hi⟩:=List.getElem?_of_mem hp
        obtain ⟨k1,k2,k3,_⟩:=g2 i p hi
        exact ⟨k1,k2,k3⟩
      have rW:=JT (w:=w) (X:=X) (ps:=ps) (fun p hp=>(gm p hp).2.1)
      have aef:∀ l∈ps.map (·.1),l.length=width e:=fun l hl=>by
        obtain ⟨p,hp,rfl⟩:=List.mem_map.1 hl
        have:=((gO p.1 p.2).1 (gm p hp).2.1).len
        rw [this,(gm p hp).2.2]
      have aeg:∀ l∈ps.map (·.2),l.length=width e:=fun l hl=>by
        obtain ⟨p,hp,rfl⟩:=List.mem_map.1 hl
        exact (gm p hp).2.2
      refine ⟨[.sl (some false) (width e) len (ps.map (·.1)).flatten],⟨ps.map (·.1),by simp [g1],?_,fun x hx=>by obtain ⟨p,hp,rfl⟩:=List.mem_map.1 hx; exact (gm p hp).1⟩,_,_,rfl,?_,rfl⟩
      · rw [List.length_map,g1]
        rw [List.length_map,List.length_map,h3,hlen] at JB
        exact Nat.le_trans (Nat.mul_le_mul_right b (by omega)) JB
      · refine ⟨some a,cap,(ps.map (·.2)).flatten,rfl,hl,?_,rW,?_⟩
        · have:∀ {ls:List (List D)},(∀ l∈ls,l.length=width e)→ls.flatten.length=ls.length*width e:=by
            intro ls
            induction ls with
            | nil=>intro _; simp
            | cons l ls ih=>
              intro hh
              rw [List.flatten_cons,List.length_append,ih (fun x hx=>hh x (by simp [hx])),hh l (by simp),List.length_cons,Nat.add_mul,Nat.one_mul,Nat.add_comm]
          rw [this aef,List.length_map,g1]
        · by_cases h0:len=0
          · left
            have:ps=[]:=by cases ps with | nil=>rfl | cons _ _=>simp at g1; omega
            rw [this]; rfl
          · right
            obtain ⟨p0,MJ⟩:∃ p,ps[0]?=some p:=⟨ps[0],List.getElem?_eq_getElem (by omega)⟩
            obtain ⟨_,_,k3,k4⟩:=g2 0 p0 MJ
            have k5:=k4 0 h4
            have aeh:p0.2[0]?=some (p0.2[0]):=List.getElem?_eq_getElem (by omega)
            rw [aeh,Nat.zero_mul] at k5
            have T4:(a.add 0).add 0=a:=by simp [Addr.add]
            rw [T4] at k5
            obtain ⟨k,off,spot⟩:=a
            unfold World.cell? at k5
            split at k5
            case h_2=>simp at k5
            rename_i c ee fz eP
            split at k5
            · simp at k5
            rename_i hsp
            have aei:spot=none:=by cases spot<;>simp at hsp ⊢
            subst aei
            refine ⟨k,off,c,ee,fz,rfl,hX k ?_,eP,fun j v hj=>?_⟩
            · rcases Nat.lt_or_ge k w.heap.size with hh | hh
              · exact hh
              · rw [Array.getElem?_eq_none hh] at eP; simp at eP
            · rw [flat_get h4 aeg] at hj
              rw [List.getElem?_map] at hj
              cases hp:ps[j / width e]? with
              | none=>rw [hp] at hj; simp at hj
              | some p=>
                rw [hp] at hj
                simp only [Option.map_some,Option.bind_some] at hj
                obtain ⟨_,_,_,m4⟩:=g2 _ p hp
                have m5:=m4 (j % width e) (Nat.mod_lt _ h4)
                rw [hj,eT,eT] at m5
                unfold World.cell? at m5
                simp only [eP] at m5
                have m6:off+j / width e*width e+j % width e=off+j:=by
                  have:=Nat.div_add_mod j (width e)
                  rw [Nat.mul_comm] at this
                  omega
                rw [m6] at m5
                simpa using m5
  | .ag fs,fuel,t,cs,x,h,hs,hz=>by
    simp only [AF] at hs
    split at hs
    case h_2=>simp at hs
    rename_i fl ht
    simp only [Bool.and_eq_true,decide_eq_true_eq] at hs
    obtain ⟨h1,h2⟩:=hs
    obtain ⟨xs,n,rfl,rfl,h3,h4,h5⟩:=DataW.trod_struct ht h
    simp only [DataW.weights,ht] at hz
    obtain ⟨ds,h6,h7⟩:=NS (cs:=cs) (n:=n) fs (fl:=fl.toList) (o:=0) (xs:=xs) (by simpa using h4.symm) (fun i f hf=>h5 i f (by simpa using hf)) h2 hz (by omega)
    refine ⟨ds,h6,?_⟩
    rw [List.drop_zero,List.take_of_length_le (by omega)] at h7
    exact h7
theorem NS:∀ (ss:List Sh) {n:Nat} {cs:List Value} {fl:List Field} {o:Nat} {xs:List (DataW H × List MemPlace)},fl.length=xs.length→(∀ (i:Nat) (f:Field),fl[i]?=some f→DataW.trod enc P w 0 (fun _=>true) held n f.type ((cs.drop f.offset).take (P.cellsOf f.type))=xs[i]?)→Cc P fl o ss=true→(∀ z∈DataW.weightsEach P (fl.map (·.type)) (xs.map (·.1)),z≤reachBytes)→o+ve ss≤cs.length→
    ∃ ds,WTs ss ds∧gh w X ds ((cs.drop o).take (ve ss))
  | [],n,cs,fl,o,xs,_,_,hs,_,_=>by
    have _:=hX
    cases fl with
    | nil=>exact ⟨[],rfl,by simp [ve,gh]⟩
    | cons f fl=>simp [Cc] at hs
  | s::ss,n,cs,fl,o,xs,hl,hx,hs,hz,ho=>by
    cases fl with
    | nil=>simp [Cc] at hs
    | cons f fl=>
      cases xs with
      | nil=>simp at hl
      | cons x xs=>
        simp only [Cc,Bool.and_eq_true,decide_eq_true_eq] at hs
        obtain ⟨⟨⟨h1,h2⟩,h3⟩,h4⟩:=hs
        subst h1
        simp only [List.map_cons,DataW.weightsEach,List.mem_append] at hz
        simp only [ve] at ho ⊢
        have h5:=hx 0 f rfl
        rw [List.getElem?_cons_zero,h2] at h5
        obtain ⟨gl,g1,g2⟩:=HH s h5 h3 (fun z NR=>hz z (.inl NR))
        obtain ⟨tA,g3,g4⟩:=NS (cs:=cs) (n:=n) ss (fl:=fl) (o:=f.offset+width s) (xs:=xs) (by simpa using hl) (fun i f' hf=>by have:=hx (i+1) f' (by simpa using hf); simpa using this) h4 (fun z NR=>hz z (.inr NR)) (by omega)
        refine ⟨gl++tA,⟨gl,tA,rfl,g1,g3⟩,?_⟩
        rw [List.take_add,List.drop_drop]
        exact QJ g2 g4
end
end
end Go.Proofs.YtockoilcnmljiaaGreat
namespace Go.Proofs.YtockoilcnmljiaaGreat
open Go.RowKit
theorem QK {w:World} {X:Bool→Nat→Prop}:∀ {b:List Bool} {ds:List D} {vs:List Value},b.any id=false→cb (fun d v=>∀ S,gD w X S d v) ds vs→tt w X b ds vs (vs.map fun _=>(none,[]))
  | _,[],_,_,.nil=>⟨rfl,rfl⟩
  | b,d::ds,v::vs,hn,.cons h1 h2=>by
    have hb:b.headD false=false∧b.tail.any id=false:=by
      cases b with
      | nil=>simp
      | cons x xs=>simpa using hn
    refine ⟨v,vs,(none,[]),_,rfl,rfl,?_,QK hb.2 h2⟩
    rw [hb.1]
    exact ⟨rfl,h1⟩
theorem Um {P:Program} {c:cx} (j7:∀ k,lf P c.own (Q2 c P k)) {f:FuncId} (jk:(c.own f).any id=false) {ds outs:List D} {vs:Array Value} {W:World} (hc:Comes c P f ds (.bool true,outs)) (uM:∀ o∈outs,dM o=true)
    (ha:cb (fun d v=>∀ S,gD W (Lk W [] (fun _=>True)) S d v) ds vs.toList):Calls P f vs W fun e W'=>e=.returned (.bool true)∧Below W.heap.size W W':=by
  obtain ⟨k,hk⟩:=hc
  have h1:=hk k (Nat.le_refl _)
  have yf:∀ a∈vs.toList.map (fun _=>((none,[]):Arg)),a=(none,[]):=by simp
  have eL:=wy yf
  have tu:lQ W (fun _=>True) (c.own f) ds vs.toList (vs.toList.map fun _=>(none,[])):=by
    refine ⟨?_,by rw [eL]; simp,by rw [eL]; simp,fun a T4=>?_⟩
    · rw [eL]; exact QK jk ha
    · rw [yf a T4]; trivial
  refine ((j7 k f ds _ outs h1).2 W _ vs _ tu rfl uM).mono fun e W'=>?_
  rintro ⟨v,rfl,hp⟩
  have hv:v=.bool true:=by
    obtain ⟨eU,az,hr,_,_,_,hs,_⟩:=hp.res
    obtain ⟨t,rfl,he,rfl⟩:=hr
    cases t with
    | v d u=>
      have hs:=hs.1
      simp only [bE] at hs
      have:bL d=.bool true:=he.symm
      rw [this] at hs
      exact hs
    | own s n cap a cs=>simp [T.er] at he
  subst hv
  refine ⟨rfl,hp.os,hp.tape,hp.out,hp.sz,fun k hk=>hp.bN k hk (by rw [eL]; simp)⟩
theorem ZO {w:World} {X:Bool→Nat→Prop} {ds:List D} {us:Array Value} (h:gh w X ds us.toList):∀ S,gD w X S (.agg ds) (.agg us):=fun _=>
  ⟨us,rfl,((gO _ _).1 h).mono (fun _ _ hh=>fZ hh)⟩
theorem ack {w:World}:∀ k,k < w.heap.size→Lk w [] (fun _=>True) false k:=fun k hk=>⟨hk,by simp,fun _=>trivial⟩
end Go.Proofs.YtockoilcnmljiaaGreat
namespace Go.Proofs.YtockoilcnmljiaaGreat
set_option maxRecDepth 100000
abbrev Cm (f:FuncId) (ds:List D) (r:Rz):Prop:=Comes cfg Tryz.prog f ds r
abbrev aQ (pr:dT) (cv:Cv Rz) (J:Nat→St→Option Rz) (f:FuncId) (fn:Func) (args:List D):Option Rz:=AA pr cfg sg cv J f fn args
abbrev bJ (pr:dT) (cv:Cv Rz) (J:Nat→St→Option Rz) (f:FuncId) (fn:Func) (sk:List D) (j:Nat) (h:St):Option Rz:=tX pr cfg sg cv J f fn sk j h
noncomputable abbrev aO:Cv Rz:=eA cfg Tryz.prog sg
abbrev WP (f:FuncId) (fn:Func) (sk:List D) (j:Nat) (h:St) (r:Rz):Prop:=W cfg Tryz.prog sg f fn sk j h r
section
variable {f:FuncId} {fn:Func} {sk:List D} {j j':Nat} {h h':St} {r:Rz}
theorem WP.go (h':St) (hw:WP f fn sk j' h' r) (ht:∀ J:Nat→St→Option Rz,J j' h'=some r→bJ ad aO J f fn sk j h=some r):WP f fn sk j h r:=W.go vd hw ht
theorem WP.fin (ht:∀ J:Nat→St→Option Rz,bJ ad aO J f fn sk j h=some r):WP f fn sk j h r:=W.fin vd ht
theorem Cm.go (ok:Told cfg Tryz.prog f fn) (sk:List D) (j:Nat) (h:St) {args:List D} (hw:WP f fn sk j h r) (ht:∀ J:Nat→St→Option Rz,J j h=some r→aQ ad aO J f fn args=some r) (yU:args.map qA=sk:=by rfl):Cm f args r:=Comes.go vd ok (yU▸hw) ht
theorem Cm.fin (ok:Told cfg Tryz.prog f fn) {args:List D} (ht:∀ J:Nat→St→Option Rz,aQ ad aO J f fn args=some r):Cm f args r:=Comes.fin (sg:=sg) vd ok ht
theorem WP.loop {H:Nat→St} {n:Nat} (inv:Nat→Prop) (hs:∀ i,i < n→inv i→(inv (i+1)→WP f fn sk j (H (i+1)) r)→WP f fn sk j (H i) r) (he:inv n→WP f fn sk j (H n) r):∀ i,i≤n→inv i→WP f fn sk j (H i) r:=by
  have key:∀ k i,i+k=n→inv i→WP f fn sk j (H i) r:=by
    intro k
    induction k with
    | zero=>intro i hi hv; obtain rfl:i=n:=(by omega); exact he hv
    | succ k ih=>intro i hi hv; exact hs i (by omega) hv fun ll=>ih (i+1) (by omega) ll
  exact fun i hi hv=>key (n - i) i (by omega) hv
end
theorem aT {g:FuncId} {ds:List D} {r:D} {outs:List D} (h:Cm g ds (r,outs)) (hs:(match sg.sig g with | some (s,ss)=>eV s r&&jE ss outs&&!(va s||vb ss) | none=>false)=true) (t:bG Rz):aO g ds t=feed t (rM r++(v7 outs++[])):=by
  refine ad8 t h hs fun e=>?_
  subst e
  have:sg.sig 999999=none:=by kernel_rfl
  rw [this] at hs
  simp at hs
theorem bO {g:FuncId} {ds:List D} {r:D} {outs:List D} {s:RS} {ss:List RS} (h:Cm g ds (r,outs)) (hs:sg.sig g=some (s,ss)) (h1:eV s r=true) (h2:jE ss outs=true) (h3:dM r=true) (h4:outs.all dM=true) (t:bG Rz):aO g ds t=feed t (ga s r++(nI ss outs++[])):=by
  refine ad9 t h hs h1 h2 h3 h4 fun e=>?_
  subst e
  have:sg.sig 999999=none:=by kernel_rfl
  rw [hs] at this
  simp at this
theorem wY (ys:List D) (t:bG Rz):aO 999999 [.sl none 0 0 ys] t=feed t [.sl none 0 0 ys]:=by
  show eA cfg Tryz.prog sg 999999 _ t=_
  unfold eA
  rw [if_pos rfl]
section
variable {R:Type} {x y:R}
theorem aH:br true x y=x:=rfl
theorem bc:br false x y=y:=rfl
theorem bl (b:Bool):br b true false=b:=by cases b<;>rfl
theorem bI (b:Bool):br b false true=!b:=by cases b<;>rfl
theorem bW (b:Bool):br (!b) x y=br b y x:=by cases b<;>rfl
theorem Cd (b:Bool):br b x x=x:=by cases b<;>rfl
theorem aU {a b:Int} (h:a < b):br (ad.lt a b) x y=x:=by simp [ad,br,h]
theorem bm {a b:Int} (h:b≤a):br (ad.lt a b) x y=y:=by simp [ad,br,Int.not_lt.2 h]
theorem Ce {a b:Int} (h:a≤b):br (ad.le a b) x y=x:=by simp [ad,br,h]
theorem oW {a b:Int} (h:b < a):br (ad.le a b) x y=y:=by simp [ad,br,Int.not_le.2 h]
theorem fQ {a b:Int} (h:a=b):br (ad.eq a b) x y=x:=by simp [ad,br,h]
theorem ec {a b:Int} (h:a≠b):br (ad.eq a b) x y=y:=by
  have e:(a==b)=false:=by simpa using h
  simp [ad,br,e]
theorem bq {i:Int} {n:Nat} (h0:0≤i) (h:i < n):br (ad.bD i n) x y=x:=by simp [ad,br,h0,h]
theorem FJ {l h:Int} {n:Nat} (h0:0≤l) (h1:l≤h) (h2:h≤n):br (ad.wS l h n) x y=x:=by simp [ad,br,h0,h1,h2]
theorem fm {n b:Nat} (h:n*b≤140737488355328):br (ad.fits n b) x y=x:=by simp [ad,br,h]
theorem rN {l c:Int} {b:Nat} (h0:0≤l) (h1:l≤c) (h2:c*b≤140737488355328):br (ad.u3 l c b) x y=x:=by simp [ad,br,h0,h1,h2]
end
theorem Sa (a b:Int):ad.lt a b=decide (a < b):=rfl
theorem yD (a b:Int):ad.le a b=decide (a≤b):=rfl
theorem AG (a b:Int):ad.eq a b=(a==b):=rfl
theorem aA (n:Nat):ad.aS n=(n:Int):=rfl
theorem yE (n:Nat):ad.js (n:Int)=n:=rfl
theorem YF (a i s:Nat):ad.idx a (i:Int) s=(a+i)*s:=rfl
theorem tZ (a b:Bool):ad.beq a b=(a==b):=rfl
theorem wrap64 {n:Int} (h:-9223372036854775808≤n) (h':n < 9223372036854775808):IntKind.i64.wrap n=n:=by
  simp only [IntKind.wrap,IntKind.bits,IntKind.signed]
  simp
  omega
theorem yF {a b:Int} (h:-9223372036854775808≤a+b) (h':a+b < 9223372036854775808):ad.ar .add .i64 a b=a+b:=wrap64 h h'
theorem ir {a b:Int} (h:-9223372036854775808≤a - b) (h':a - b < 9223372036854775808):ad.ar .sub .i64 a b=a - b:=wrap64 h h'
theorem db {i:Nat} (h:i < 9223372036854775807):ad.ar .add .i64 (i:Int) 1=((i+1:Nat):Int):=by
  rw [yF (by omega) (by omega)]
  omega
def vf (a:Int):Bool:=decide (-9223372036854775808≤a)&&decide (a < 9223372036854775808)
theorem WG {a:Int}:vf a=true↔-9223372036854775808≤a∧a < 9223372036854775808:=by simp [vf]
theorem mq {α:Type} {e:α→List D} {w:Nat} (hw:∀ x,(e x).length=w):∀ (xs:List α) {i k:Nat} (hi:i < xs.length),k < w→(ab e xs)[i*w+k]?=(e xs[i])[k]?
  | [],i,k,hi,_=>absurd hi (by simp)
  | x::xs,0,k,hi,hk=>by
    simp only [ab,List.flatMap_cons,Nat.zero_mul,Nat.zero_add,List.getElem_cons_zero]
    rw [List.getElem?_append_left (by rw [hw]; exact hk)]
  | x::xs,i+1,k,hi,hk=>by
    simp only [ab,List.flatMap_cons,List.getElem_cons_succ]
    rw [List.getElem?_append_right (by rw [hw,Nat.succ_mul]; omega)]
    have:(i+1)*w+k - (e x).length=i*w+k:=by rw [hw,Nat.succ_mul]; omega
    rw [this]
    exact mq hw xs (by simpa using hi) hk
section
variable {R:Type} {x y:R}
theorem dH {xs:List Int} {i:Nat} (h:i < xs.length):br (ad.cw .i64 (ints xs) i) x y=x:=by simp [ad,ints,br,List.getElem?_eq_getElem h,eY]
theorem dI {xs:List Int} {i:Nat} (h:i < xs.length):ad.bn (ints xs) i=xs[i]:=by simp [ad,ints,List.getElem?_eq_getElem h,u4]
theorem mV {xs:List UInt8} {i:Nat} (h:i < xs.length):br (ad.cw .u8 (bytes xs) i) x y=x:=by simp [ad,bytes,dq,br,List.getElem?_eq_getElem h,eY]
theorem wZ {xs:List UInt8} {i:Nat} (h:i < xs.length):ad.bn (bytes xs) i=(xs[i].toNat:Int):=by simp [ad,bytes,dq,List.getElem?_eq_getElem h,u4]
theorem NT {xs:List Bool} {i:Nat} (h:i < xs.length):br (ad.df (aD xs) i) x y=x:=by simp [ad,aD,br,List.getElem?_eq_getElem h]
theorem NU {xs:List Bool} {i:Nat} (h:i < xs.length):ad.cg (aD xs) i=xs[i]:=by simp [ad,aD,List.getElem?_eq_getElem h,B4]
theorem NV {xs:List Int} {i:Nat} (h:i < xs.length):br (ad.slot (ints xs) i) x y=x:=by simp [ad,ints,br,List.getElem?_eq_getElem h,gA]
theorem NW {xs:List UInt8} {i:Nat} (h:i < xs.length):br (ad.slot (bytes xs) i) x y=x:=by simp [ad,bytes,dq,br,List.getElem?_eq_getElem h,gA]
theorem NX {xs:List Bool} {i:Nat} (h:i < xs.length):br (ad.slot (aD xs) i) x y=x:=by simp [ad,aD,br,List.getElem?_eq_getElem h,gA]
theorem ints_set (xs:List Int) (i:Nat) (a:Int):List.set (ints xs) i (.int .i64 a)=ints (xs.set i a):=by simp [ints,List.map_set]
theorem AH (xs:List UInt8) (i:Nat) (a:UInt8):List.set (bytes xs) i (.int .u8 a.toNat)=bytes (xs.set i a):=by simp [bytes,List.map_set,dq]
theorem AI (xs:List Bool) (i:Nat) (a:Bool):List.set (aD xs) i (.bool a)=aD (xs.set i a):=by simp [aD,List.map_set]
theorem nJ:∀ {ds:List D},(∀ d∈ds,bY d=true)→cd ds=true
  | [],_=>rfl
  | d::ds,h=>by
    simp only [cd,Bool.and_eq_true]
    exact ⟨h d (by simp),nJ fun x hx=>h x (by simp [hx])⟩
theorem jl (xs:List Int):ad.nl (ints xs)=true:=nJ (by intro d hd; obtain ⟨a,_,rfl⟩:=List.mem_map.1 hd; rfl)
theorem eB (xs:List UInt8):ad.nl (bytes xs)=true:=nJ (by intro d hd; obtain ⟨a,_,rfl⟩:=List.mem_map.1 hd; rfl)
theorem Cf (xs:List Bool):ad.nl (aD xs)=true:=nJ (by intro d hd; obtain ⟨a,_,rfl⟩:=List.mem_map.1 hd; rfl)
theorem Un (n:Nat):fA n [.int .i64 0]=ints (List.replicate n 0):=by
  unfold fA
  induction n with
  | zero=>rfl
  | succ n ih=>simpa [List.replicate_succ,ints,uy] using ih
theorem Uo (n:Nat):fA n [.int .u8 0]=bytes (List.replicate n 0):=by
  unfold fA
  induction n with
  | zero=>rfl
  | succ n ih=>simpa [List.replicate_succ,bytes,uy,dq] using ih
theorem Up (n:Nat):fA n [.bool false]=aD (List.replicate n false):=by
  unfold fA
  induction n with
  | zero=>rfl
  | succ n ih=>simpa [List.replicate_succ,aD,uy] using ih
end
end Go.Proofs.YtockoilcnmljiaaGreat
namespace Go.Proofs.YtockoilcnmljiaaGreat
set_option maxRecDepth 100000
section
variable (pr:dT) (cv:Cv Rz) (J:Nat→St→Option Rz)
def kA (g0:Bool) (n1:Nat) (c2:List D) (i3:Int) (n4:Nat) (c5:List D):St:=(St.mk [(0,(.sl (some g0) 1 n1 c2)),(3,(.ref 10003 [] 0 none)),(4,(.int .i64 i3))] [(10003,[(.sl none 1 n4 c5)])] [] 0)
theorem Km:Told cfg Tryz.prog 42 Tryz.f42:=⟨by kernel_rfl,Tryz.func42,by kernel_rfl⟩
theorem Kn (g0:Bool) (n0:Nat) (c0:List D):aQ pr cv J 42 Tryz.f42 [(.sl (some g0) 1 n0 c0)]=
    (br (pr.u3 (pr.aS n0) (pr.aS n0) 8) (J 0 (kA g0 n0 c0 0 (pr.js (pr.aS n0)) (fA (pr.js (pr.aS n0)) [(.int .i64 0)]))) none):=by kernel_rfl
theorem vg (g0:Bool) (n1:Nat) (c2:List D) (i3:Int) (n4:Nat) (c5:List D):bJ pr cv J 42 Tryz.f42 [.undef] 0 (kA g0 n1 c2 i3 n4 c5)=
    (br (pr.lt i3 (pr.aS n1)) (br (pr.bD i3 n1) (br (br (pr.cw .i64 c2 (pr.idx 0 i3 1)) true false) (br (pr.bD i3 n4) (br (pr.slot c5 (pr.idx 0 i3 1)) (J 0 (kA g0 n1 c2 (pr.ar .add .i64 i3 1) n4 (List.set c5 (pr.idx 0 i3 1) (.int .i64 (pr.bn c2 (pr.idx 0 i3 1)))))) none) none) none) none) (some ((.sl none 1 n4 c5),[.undef]))):=by kernel_rfl
def kB (g0:Bool) (n1:Nat) (c2:List D) (g3:Bool) (n4:Nat) (c5:List D) (i6:Int):St:=(St.mk [(0,(.sl (some g0) 1 n1 c2)),(1,(.sl (some g3) 1 n4 c5)),(5,(.int .i64 i6))] [] [] 0)
theorem yZ:Told cfg Tryz.prog 49 Tryz.f49:=⟨by kernel_rfl,Tryz.func49,by kernel_rfl⟩
theorem za (g0:Bool) (n0:Nat) (c0:List D) (g1:Bool) (n1:Nat) (c1:List D):aQ pr cv J 49 Tryz.f49 [(.sl (some g0) 1 n0 c0),(.sl (some g1) 1 n1 c1)]=
    (br (br (pr.eq (pr.aS n0) (pr.aS n1)) false true) (some ((.bool false),[.undef,.undef])) (J 0 (kB g0 n0 c0 g1 n1 c1 0))):=by kernel_rfl
theorem pn (g0:Bool) (n1:Nat) (c2:List D) (g3:Bool) (n4:Nat) (c5:List D) (i6:Int):bJ pr cv J 49 Tryz.f49 [.undef,.undef] 0 (kB g0 n1 c2 g3 n4 c5 i6)=
    (br (pr.lt i6 (pr.aS n1)) (br (pr.bD i6 n1) (br (br (pr.cw .i64 c2 (pr.idx 0 i6 1)) true false) (br (pr.bD i6 n4) (br (br (pr.cw .i64 c5 (pr.idx 0 i6 1)) true false) (br (br (pr.eq (pr.bn c2 (pr.idx 0 i6 1)) (pr.bn c5 (pr.idx 0 i6 1))) false true) (some ((.bool false),[.undef,.undef])) (J 0 (kB g0 n1 c2 g3 n4 c5 (pr.ar .add .i64 i6 1)))) none) none) none) none) (some ((.bool true),[.undef,.undef]))):=by kernel_rfl
theorem Ko:Told cfg Tryz.prog 35 Tryz.f35:=⟨by kernel_rfl,Tryz.func35,by kernel_rfl⟩
theorem Kp (g0:Bool) (n0:Nat) (c0:List D) (a1:Int):aQ pr cv J 35 Tryz.f35 [(.sl (some g0) 1 n0 c0),(.int .i64 a1)]=
    (br (pr.lt (pr.ar .sub .i64 a1 (pr.aS n0)) 0) (some ((.int .i64 (-1)),[.undef,.undef])) (some ((.int .i64 (pr.ar .sub .i64 a1 (pr.aS n0))),[.undef,.undef]))):=by kernel_rfl
def fK (i0:Int) (i1:Int) (n2:Nat) (c3:List D):St:=(St.mk [(0,(.ref 19 [] 0 none)),(1,(.int .i64 i0)),(5,(.int .i64 i1))] [(19,[(.sl none 1 n2 c3)])] [] 0)
theorem FK:Told cfg Tryz.prog 54 Tryz.f54:=⟨by kernel_rfl,Tryz.func54,by kernel_rfl⟩
theorem FL (n0:Nat) (c0:List D) (a1:Int):aQ pr cv J 54 Tryz.f54 [(.sl none 1 n0 c0),(.int .i64 a1)]=
    (J 0 (fK a1 0 n0 c0)):=by kernel_rfl
theorem sY (i0:Int) (i1:Int) (n2:Nat) (c3:List D):bJ pr cv J 54 Tryz.f54 [(.sl none 0 0 []),.undef] 0 (fK i0 i1 n2 c3)=
    (br (pr.lt i1 (pr.aS n2)) (br (pr.bD i1 n2) (br (pr.slot c3 (pr.idx 0 i1 1)) (J 0 (fK (pr.ar .add .i64 i0 1) (pr.ar .add .i64 i1 1) n2 (List.set c3 (pr.idx 0 i1 1) (.int .i64 i0)))) none) none) (some ((.int .i64 i0),[(.sl none 1 n2 c3),.undef]))):=by kernel_rfl
def jF (g0:Bool) (n1:Nat) (c2:List D) (i3:Int) (n4:Nat) (c5:List D):St:=(St.mk [(0,(.sl (some g0) 1 n1 c2)),(3,(.ref 10003 [] 0 none)),(4,(.int .i64 i3))] [(10003,[(.sl none 1 n4 c5)])] [] 0)
theorem HI:Told cfg Tryz.prog 104 Tryz.f104:=⟨by kernel_rfl,Tryz.func104,by kernel_rfl⟩
theorem HJ (g0:Bool) (n0:Nat) (c0:List D):aQ pr cv J 104 Tryz.f104 [(.sl (some g0) 1 n0 c0)]=
    (br (pr.u3 (pr.aS n0) (pr.aS n0) 1) (J 0 (jF g0 n0 c0 0 (pr.js (pr.aS n0)) (fA (pr.js (pr.aS n0)) [(.int .u8 0)]))) none):=by kernel_rfl
theorem tC (g0:Bool) (n1:Nat) (c2:List D) (i3:Int) (n4:Nat) (c5:List D):bJ pr cv J 104 Tryz.f104 [.undef] 0 (jF g0 n1 c2 i3 n4 c5)=
    (br (pr.lt i3 (pr.aS n1)) (br (pr.bD i3 n1) (br (br (pr.cw .u8 c2 (pr.idx 0 i3 1)) true false) (br (pr.bD i3 n4) (br (pr.slot c5 (pr.idx 0 i3 1)) (J 0 (jF g0 n1 c2 (pr.ar .add .i64 i3 1) n4 (List.set c5 (pr.idx 0 i3 1) (.int .u8 (pr.bn c2 (pr.idx 0 i3 1)))))) none) none) none) none) (some ((.sl none 1 n4 c5),[.undef]))):=by kernel_rfl
def jG (g0:Bool) (n1:Nat) (c2:List D) (g3:Bool) (n4:Nat) (c5:List D) (i6:Int):St:=(St.mk [(0,(.sl (some g0) 1 n1 c2)),(1,(.sl (some g3) 1 n4 c5)),(5,(.int .i64 i6))] [] [] 0)
theorem w5:Told cfg Tryz.prog 116 Tryz.f116:=⟨by kernel_rfl,Tryz.func116,by kernel_rfl⟩
theorem w6 (g0:Bool) (n0:Nat) (c0:List D) (g1:Bool) (n1:Nat) (c1:List D):aQ pr cv J 116 Tryz.f116 [(.sl (some g0) 1 n0 c0),(.sl (some g1) 1 n1 c1)]=
    (br (br (pr.eq (pr.aS n0) (pr.aS n1)) false true) (some ((.bool false),[.undef,.undef])) (J 0 (jG g0 n0 c0 g1 n1 c1 0))):=by kernel_rfl
theorem oB (g0:Bool) (n1:Nat) (c2:List D) (g3:Bool) (n4:Nat) (c5:List D) (i6:Int):bJ pr cv J 116 Tryz.f116 [.undef,.undef] 0 (jG g0 n1 c2 g3 n4 c5 i6)=
    (br (pr.lt i6 (pr.aS n1)) (br (pr.bD i6 n1) (br (br (pr.cw .u8 c2 (pr.idx 0 i6 1)) true false) (br (pr.bD i6 n4) (br (br (pr.cw .u8 c5 (pr.idx 0 i6 1)) true false) (br (br (pr.eq (pr.bn c2 (pr.idx 0 i6 1)) (pr.bn c5 (pr.idx 0 i6 1))) false true) (some ((.bool false),[.undef,.undef])) (J 0 (jG g0 n1 c2 g3 n4 c5 (pr.ar .add .i64 i6 1)))) none) none) none) none) (some ((.bool true),[.undef,.undef]))):=by kernel_rfl
theorem HK:Told cfg Tryz.prog 96 Tryz.f96:=⟨by kernel_rfl,Tryz.func96,by kernel_rfl⟩
theorem HL (g0:Bool) (n0:Nat) (c0:List D) (a1:Int):aQ pr cv J 96 Tryz.f96 [(.sl (some g0) 1 n0 c0),(.int .i64 a1)]=
    (br (pr.lt (pr.ar .sub .i64 a1 (pr.aS n0)) 0) (some ((.int .i64 (-1)),[.undef,.undef])) (some ((.int .i64 (pr.ar .sub .i64 a1 (pr.aS n0))),[.undef,.undef]))):=by kernel_rfl
def fv (i0:Int) (i1:Int) (n2:Nat) (c3:List D):St:=(St.mk [(0,(.ref 20 [] 0 none)),(1,(.int .i64 i0)),(5,(.int .i64 i1))] [(20,[(.sl none 1 n2 c3)])] [] 0)
theorem DS:Told cfg Tryz.prog 117 Tryz.f117:=⟨by kernel_rfl,Tryz.func117,by kernel_rfl⟩
theorem DT (n0:Nat) (c0:List D) (a1:Int):aQ pr cv J 117 Tryz.f117 [(.sl none 1 n0 c0),(.int .i64 a1)]=
    (J 0 (fv a1 0 n0 c0)):=by kernel_rfl
theorem qY (i0:Int) (i1:Int) (n2:Nat) (c3:List D):bJ pr cv J 117 Tryz.f117 [(.sl none 0 0 []),.undef] 0 (fv i0 i1 n2 c3)=
    (br (pr.lt i1 (pr.aS n2)) (br (pr.bD i1 n2) (br (pr.slot c3 (pr.idx 0 i1 1)) (J 0 (fv (pr.ar .add .i64 i0 1) (pr.ar .add .i64 i1 1) n2 (List.set c3 (pr.idx 0 i1 1) (.int .u8 (pr.wrap .u8 i0))))) none) none) (some ((.int .i64 i0),[(.sl none 1 n2 c3),.undef]))):=by kernel_rfl
def jH (g0:Bool) (n1:Nat) (c2:List D) (i3:Int) (n4:Nat) (c5:List D):St:=(St.mk [(0,(.sl (some g0) 1 n1 c2)),(3,(.ref 10003 [] 0 none)),(4,(.int .i64 i3))] [(10003,[(.sl none 1 n4 c5)])] [] 0)
theorem HM:Told cfg Tryz.prog 45 Tryz.f45:=⟨by kernel_rfl,Tryz.func45,by kernel_rfl⟩
theorem HN (g0:Bool) (n0:Nat) (c0:List D):aQ pr cv J 45 Tryz.f45 [(.sl (some g0) 1 n0 c0)]=
    (br (pr.u3 (pr.aS n0) (pr.aS n0) 1) (J 0 (jH g0 n0 c0 0 (pr.js (pr.aS n0)) (fA (pr.js (pr.aS n0)) [(.bool false)]))) none):=by kernel_rfl
theorem tD (g0:Bool) (n1:Nat) (c2:List D) (i3:Int) (n4:Nat) (c5:List D):bJ pr cv J 45 Tryz.f45 [.undef] 0 (jH g0 n1 c2 i3 n4 c5)=
    (br (pr.lt i3 (pr.aS n1)) (br (pr.bD i3 n1) (br (br (pr.df c2 (pr.idx 0 i3 1)) true false) (br (pr.bD i3 n4) (br (pr.slot c5 (pr.idx 0 i3 1)) (J 0 (jH g0 n1 c2 (pr.ar .add .i64 i3 1) n4 (List.set c5 (pr.idx 0 i3 1) (.bool (pr.cg c2 (pr.idx 0 i3 1)))))) none) none) none) none) (some ((.sl none 1 n4 c5),[.undef]))):=by kernel_rfl
def jI (g0:Bool) (n1:Nat) (c2:List D) (g3:Bool) (n4:Nat) (c5:List D) (i6:Int):St:=(St.mk [(0,(.sl (some g0) 1 n1 c2)),(1,(.sl (some g3) 1 n4 c5)),(5,(.int .i64 i6))] [] [] 0)
theorem w7:Told cfg Tryz.prog 52 Tryz.f52:=⟨by kernel_rfl,Tryz.func52,by kernel_rfl⟩
theorem w8 (g0:Bool) (n0:Nat) (c0:List D) (g1:Bool) (n1:Nat) (c1:List D):aQ pr cv J 52 Tryz.f52 [(.sl (some g0) 1 n0 c0),(.sl (some g1) 1 n1 c1)]=
    (br (br (pr.eq (pr.aS n0) (pr.aS n1)) false true) (some ((.bool false),[.undef,.undef])) (J 0 (jI g0 n0 c0 g1 n1 c1 0))):=by kernel_rfl
theorem oC (g0:Bool) (n1:Nat) (c2:List D) (g3:Bool) (n4:Nat) (c5:List D) (i6:Int):bJ pr cv J 52 Tryz.f52 [.undef,.undef] 0 (jI g0 n1 c2 g3 n4 c5 i6)=
    (br (pr.lt i6 (pr.aS n1)) (br (pr.bD i6 n1) (br (br (pr.df c2 (pr.idx 0 i6 1)) true false) (br (pr.bD i6 n4) (br (br (pr.df c5 (pr.idx 0 i6 1)) true false) (br (br (pr.beq (pr.cg c2 (pr.idx 0 i6 1)) (pr.cg c5 (pr.idx 0 i6 1))) false true) (some ((.bool false),[.undef,.undef])) (J 0 (jI g0 n1 c2 g3 n4 c5 (pr.ar .add .i64 i6 1)))) none) none) none) none) (some ((.bool true),[.undef,.undef]))):=by kernel_rfl
theorem HO:Told cfg Tryz.prog 38 Tryz.f38:=⟨by kernel_rfl,Tryz.func38,by kernel_rfl⟩
theorem HP (g0:Bool) (n0:Nat) (c0:List D) (a1:Int):aQ pr cv J 38 Tryz.f38 [(.sl (some g0) 1 n0 c0),(.int .i64 a1)]=
    (br (pr.lt (pr.ar .sub .i64 a1 (pr.aS n0)) 0) (some ((.int .i64 (-1)),[.undef,.undef])) (some ((.int .i64 (pr.ar .sub .i64 a1 (pr.aS n0))),[.undef,.undef]))):=by kernel_rfl
def fw (i0:Int) (i1:Int) (n2:Nat) (c3:List D):St:=(St.mk [(0,(.ref 21 [] 0 none)),(1,(.int .i64 i0)),(5,(.int .i64 i1))] [(21,[(.sl none 1 n2 c3)])] [] 0)
theorem DU:Told cfg Tryz.prog 57 Tryz.f57:=⟨by kernel_rfl,Tryz.func57,by kernel_rfl⟩
theorem DV (n0:Nat) (c0:List D) (a1:Int):aQ pr cv J 57 Tryz.f57 [(.sl none 1 n0 c0),(.int .i64 a1)]=
    (J 0 (fw a1 0 n0 c0)):=by kernel_rfl
theorem qZ (i0:Int) (i1:Int) (n2:Nat) (c3:List D):bJ pr cv J 57 Tryz.f57 [(.sl none 0 0 []),.undef] 0 (fw i0 i1 n2 c3)=
    (br (pr.lt i1 (pr.aS n2)) (br (br (pr.eq 3 0) false true) (br (pr.bD i1 n2) (br (pr.slot c3 (pr.idx 0 i1 1)) (J 0 (fw (pr.ar .add .i64 i0 1) (pr.ar .add .i64 i1 1) n2 (List.set c3 (pr.idx 0 i1 1) (.bool (pr.eq (pr.ar .rem .i64 i0 3) 0))))) none) none) none) (some ((.int .i64 i0),[(.sl none 1 n2 c3),.undef]))):=by kernel_rfl
def fL (g0:Bool) (n1:Nat) (c2:List D) (i3:Int) (i4:Int):St:=(St.mk [(0,(.sl (some g0) 1 n1 c2)),(1,(.int .i64 i3)),(5,(.int .i64 i4))] [] [] 0)
theorem FM:Told cfg Tryz.prog 59 Tryz.f59:=⟨by kernel_rfl,Tryz.func59,by kernel_rfl⟩
theorem FN (g0:Bool) (n0:Nat) (c0:List D) (a1:Int):aQ pr cv J 59 Tryz.f59 [(.sl (some g0) 1 n0 c0),(.int .i64 a1)]=
    (J 0 (fL g0 n0 c0 a1 0)):=by kernel_rfl
theorem sZ (g0:Bool) (n1:Nat) (c2:List D) (i3:Int) (i4:Int):bJ pr cv J 59 Tryz.f59 [.undef,.undef] 0 (fL g0 n1 c2 i3 i4)=
    (br (pr.lt i4 (pr.aS n1)) (br (pr.bD i4 n1) (br (br (pr.cw .i64 c2 (pr.idx 0 i4 1)) true false) (br (br (pr.eq (pr.bn c2 (pr.idx 0 i4 1)) i3) false true) (some ((.int .i64 (-1)),[.undef,.undef])) (J 0 (fL g0 n1 c2 (pr.ar .add .i64 i3 1) (pr.ar .add .i64 i4 1)))) none) none) (some ((.int .i64 i3),[.undef,.undef]))):=by kernel_rfl
end
theorem cQ (i:Nat):ad.idx 0 (i:Int) 1=i:=by rw [YF]; omega
theorem po {α:Type} {xs:List α} {i:Nat} (hi:i < xs.length) (z:α) (ys:List α) (hl:xs.length=ys.length) (hy:i < ys.length):(ys.take i++List.replicate (xs.length - i) z).set i ys[i]=ys.take (i+1)++List.replicate (xs.length - (i+1)) z:=by
  rw [List.set_append_right _ _ (by simp; omega)]
  have h1:i - (ys.take i).length=0:=by simp; omega
  obtain ⟨k,hk⟩:∃ k,xs.length - i=k+1:=⟨xs.length - i - 1,by omega⟩
  have h2:xs.length - (i+1)=k:=by omega
  rw [h1,hk,h2,List.replicate_succ,List.set_cons_zero,← List.take_append_getElem hy,List.append_assoc]
  rfl
theorem AJ {α:Type} {xs ys:List α} {i:Nat} (hl:xs.length=ys.length) (hi:i < xs.length) (hy:i < ys.length):(ys.take i++xs.drop i).set i ys[i]=ys.take (i+1)++xs.drop (i+1):=by
  rw [List.set_append_right _ _ (by simp; omega)]
  have h1:i - (ys.take i).length=0:=by simp; omega
  rw [h1,← List.getElem_cons_drop hi,List.set_cons_zero,← List.take_append_getElem hy,List.append_assoc]
  rfl
def eQ (n:Nat) (left:Int):Int:=if left < n then -1 else left - n
def iZ (k:Int) (n:Nat):List Int:=(List.range n).map fun i:Nat=>k+(i:Int)
def oX (k:Int) (n:Nat):List UInt8:=(List.range n).map fun i:Nat=>UInt8.ofNat ((k+(i:Int)) % 256).toNat
def nK (k:Int) (n:Nat):List Bool:=(List.range n).map fun i:Nat=>(k+(i:Int)).tmod 3==0
theorem dA (k:Int) (n:Nat):(iZ k n).length=n:=by simp [iZ]
theorem dZ (k:Int) (n:Nat):(oX k n).length=n:=by simp [oX]
theorem ea (k:Int) (n:Nat):(nK k n).length=n:=by simp [nK]
theorem YG (k:Int):IntKind.u8.wrap k=((UInt8.ofNat (k % 256).toNat).toNat:Int):=by
  have h:IntKind.u8.wrap k=k % 256:=by
    simp only [IntKind.wrap,IntKind.bits,IntKind.signed]
    simp
  rw [h]
  have h2:0≤k % 256:=Int.emod_nonneg _ (by omega)
  have h3:k % 256 < 256:=Int.emod_lt_of_pos _ (by omega)
  simp only [UInt8.toNat_ofNat']
  omega
theorem WH (g:Bool) (xs:List Int) (hb:xs.length≤17592186044416) (zM:xs.length < 9223372036854775807):Cm 42 [.sl (some g) 1 xs.length (ints xs)] (.sl none 1 xs.length (ints xs),[.undef]):=by
  refine Cm.go Km [.undef] 0 (kA g xs.length (ints xs) (0:Nat) xs.length (ints (List.replicate xs.length 0))) ?_ fun J hJ=>?_
  · refine WP.loop (H:=fun i=>kA g xs.length (ints xs) (i:Nat) xs.length (ints (xs.take i++List.replicate (xs.length - i) 0))) (n:=xs.length) (fun _=>True) (fun i hi _ ih=>WP.go _ (ih trivial) fun J hJ=>?_) (fun _=>WP.fin fun J=>?_) 0 (Nat.zero_le _) trivial
    · rw [vg]
      simp (disch:=first | omega | (simp; done) | (simp; omega)) only [aH,bc,bl,aA,aU,bq,cQ,dH,NV,dI,ints_set,db]
      rw [← hJ]
      congr 2
      rw [po hi _ xs rfl hi]
    · rw [vg]
      simp (disch:=omega) only [aH,bc,aA,bm,List.take_length,Nat.sub_self,List.replicate_zero,List.append_nil]
  · rw [Kn]
    simp (disch:=omega) only [aH,bc,aA,rN,yE,Un]
    exact hJ
theorem WI (g h:Bool) (xs ys:List Int) (hb:xs.length < 9223372036854775807):Cm 49 [.sl (some g) 1 xs.length (ints xs),.sl (some h) 1 ys.length (ints ys)] (.bool (decide (xs=ys)),[.undef,.undef]):=by
  by_cases hl:xs.length=ys.length
  · refine Cm.go yZ [.undef,.undef] 0 (kB g xs.length (ints xs) h ys.length (ints ys) (0:Nat)) ?_ fun J hJ=>?_
    · refine WP.loop (H:=fun i=>kB g xs.length (ints xs) h ys.length (ints ys) (i:Nat)) (n:=xs.length) (fun i=>xs.take i=ys.take i) (fun i hi hv ih=>?_) (fun hv=>WP.fin fun J=>?_) 0 (Nat.zero_le _) (by simp)
      · have nD:i < ys.length:=by omega
        by_cases he:xs[i]=ys[i]
        · refine WP.go _ (ih (by rw [← List.take_append_getElem hi,← List.take_append_getElem nD,hv,he])) fun J hJ=>?_
          rw [pn]
          simp (disch:=omega) only [aH,bc,bl,bI,bW,aA,aU,bq,cQ,dH,dI,db,fQ,he,tZ,beq_self_eq_true,Bool.not_true]
          exact hJ
        · refine WP.fin fun J=>?_
          rw [pn]
          have cZ:xs≠ys:=fun e=>he (by subst e; rfl)
          have hn8:=he
          have hbe:=he
          simp (disch:=first | omega | assumption) only [aH,bc,bl,bI,bW,aA,aU,bq,cQ,dH,dI,ec,decide_eq_false cZ]
      · rw [pn]
        rw [List.take_length,hl,List.take_length] at hv
        simp (disch:=omega) only [aH,bc,aA,bm,decide_eq_true hv]
    · rw [za]
      simp (disch:=omega) only [aH,bc,aA,bI,bW,fQ]
      exact hJ
  · refine Cm.fin yZ fun J=>?_
    have cZ:xs≠ys:=fun e=>hl (by rw [e])
    rw [za]
    simp (disch:=omega) only [aH,bc,aA,bI,bW,ec,decide_eq_false cZ]
theorem WJ (g:Bool) (n:Nat) (c:List D) (left:Int) (h0:0≤left) (h1:left≤1048576) (hn:n≤140737488355328):Cm 35 [.sl (some g) 1 n c,.int .i64 left] (.int .i64 (eQ n left),[.undef,.undef]):=by
  refine Cm.fin Ko fun J=>?_
  rw [Kp]
  unfold eQ
  by_cases h:left < n
  · rw [if_pos h]
    simp (disch:=omega) only [aA,ir,aU]
  · rw [if_neg h]
    simp (disch:=omega) only [aA,ir,bm]
theorem Sb (xs:List Int) (k:Int) (h0:0≤k) (h1:k+xs.length < 9223372036854775807):Cm 54 [.sl none 1 xs.length (ints xs),.int .i64 k] (.int .i64 (k+xs.length),[.sl none 1 xs.length (ints (iZ k xs.length)),.undef]):=by
  refine Cm.go FK [.sl none 0 0 [],.undef] 0 (fK k (0:Nat) xs.length (ints xs)) ?_ fun J hJ=>?_
  · have e0:fK k (0:Nat) xs.length (ints xs)=(fun i:Nat=>fK (k+i) (i:Nat) xs.length (ints ((iZ k xs.length).take i++xs.drop i))) 0:=by simp
    rw [e0]
    refine WP.loop (H:=fun i:Nat=>fK (k+i) (i:Nat) xs.length (ints ((iZ k xs.length).take i++xs.drop i))) (n:=xs.length) (fun _=>True) (fun i hi _ ih=>WP.go _ (ih trivial) fun J hJ=>?_) (fun _=>WP.fin fun J=>?_) 0 (Nat.zero_le _) trivial
    · have hm:i < (iZ k xs.length).length:=by rw [dA]; exact hi
      have v8:=AJ (dA k xs.length).symm hi hm
      rw [sY]
      have fj:(iZ k xs.length)[i]=k+(i:Int):=by simp [iZ]
      have hw:=fj
      simp (disch:=first | omega | (simp; done) | (simp; omega)) only [aH,bc,bl,bI,aA,aU,bq,cQ,NV,db,yF]
      rw [fj] at v8
      rw [ints_set,v8]
      have e1:k+(i:Int)+1=k+((i+1:Nat):Int):=by omega
      rw [e1]
      exact hJ
    · rw [sY]
      simp (disch:=omega) only [aH,bc,aA,bm,List.drop_length,List.append_nil]
      rw [List.take_of_length_le (by rw [dA]; omega)]
  · rw [FL]
    exact hJ
theorem Uq (g:Bool) (xs:List UInt8) (hb:xs.length≤140737488355328) (zM:xs.length < 9223372036854775807):Cm 104 [.sl (some g) 1 xs.length (bytes xs)] (.sl none 1 xs.length (bytes xs),[.undef]):=by
  refine Cm.go HI [.undef] 0 (jF g xs.length (bytes xs) (0:Nat) xs.length (bytes (List.replicate xs.length 0))) ?_ fun J hJ=>?_
  · refine WP.loop (H:=fun i=>jF g xs.length (bytes xs) (i:Nat) xs.length (bytes (xs.take i++List.replicate (xs.length - i) 0))) (n:=xs.length) (fun _=>True) (fun i hi _ ih=>WP.go _ (ih trivial) fun J hJ=>?_) (fun _=>WP.fin fun J=>?_) 0 (Nat.zero_le _) trivial
    · rw [tC]
      simp (disch:=first | omega | (simp; done) | (simp; omega)) only [aH,bc,bl,aA,aU,bq,cQ,mV,NW,wZ,AH,db]
      rw [← hJ]
      congr 2
      rw [po hi _ xs rfl hi]
    · rw [tC]
      simp (disch:=omega) only [aH,bc,aA,bm,List.take_length,Nat.sub_self,List.replicate_zero,List.append_nil]
  · rw [HJ]
    simp (disch:=omega) only [aH,bc,aA,rN,yE,Uo]
    exact hJ
theorem Ur (g h:Bool) (xs ys:List UInt8) (hb:xs.length < 9223372036854775807):Cm 116 [.sl (some g) 1 xs.length (bytes xs),.sl (some h) 1 ys.length (bytes ys)] (.bool (decide (xs=ys)),[.undef,.undef]):=by
  by_cases hl:xs.length=ys.length
  · refine Cm.go w5 [.undef,.undef] 0 (jG g xs.length (bytes xs) h ys.length (bytes ys) (0:Nat)) ?_ fun J hJ=>?_
    · refine WP.loop (H:=fun i=>jG g xs.length (bytes xs) h ys.length (bytes ys) (i:Nat)) (n:=xs.length) (fun i=>xs.take i=ys.take i) (fun i hi hv ih=>?_) (fun hv=>WP.fin fun J=>?_) 0 (Nat.zero_le _) (by simp)
      · have nD:i < ys.length:=by omega
        by_cases he:xs[i]=ys[i]
        · refine WP.go _ (ih (by rw [← List.take_append_getElem hi,← List.take_append_getElem nD,hv,he])) fun J hJ=>?_
          rw [oB]
          simp (disch:=omega) only [aH,bc,bl,bI,bW,aA,aU,bq,cQ,mV,wZ,db,fQ,he,tZ,beq_self_eq_true,Bool.not_true]
          exact hJ
        · refine WP.fin fun J=>?_
          rw [oB]
          have cZ:xs≠ys:=fun e=>he (by subst e; rfl)
          have hn8:((xs[i].toNat:Int))≠(ys[i].toNat:Int):=fun e=>he (UInt8.toNat_inj.1 (by omega))
          have hbe:=he
          simp (disch:=first | omega | assumption) only [aH,bc,bl,bI,bW,aA,aU,bq,cQ,mV,wZ,ec,decide_eq_false cZ]
      · rw [oB]
        rw [List.take_length,hl,List.take_length] at hv
        simp (disch:=omega) only [aH,bc,aA,bm,decide_eq_true hv]
    · rw [w6]
      simp (disch:=omega) only [aH,bc,aA,bI,bW,fQ]
      exact hJ
  · refine Cm.fin w5 fun J=>?_
    have cZ:xs≠ys:=fun e=>hl (by rw [e])
    rw [w6]
    simp (disch:=omega) only [aH,bc,aA,bI,bW,ec,decide_eq_false cZ]
theorem Us (g:Bool) (n:Nat) (c:List D) (left:Int) (h0:0≤left) (h1:left≤1048576) (hn:n≤140737488355328):Cm 96 [.sl (some g) 1 n c,.int .i64 left] (.int .i64 (eQ n left),[.undef,.undef]):=by
  refine Cm.fin HK fun J=>?_
  rw [HL]
  unfold eQ
  by_cases h:left < n
  · rw [if_pos h]
    simp (disch:=omega) only [aA,ir,aU]
  · rw [if_neg h]
    simp (disch:=omega) only [aA,ir,bm]
theorem Pc (xs:List UInt8) (k:Int) (h0:0≤k) (h1:k+xs.length < 9223372036854775807):Cm 117 [.sl none 1 xs.length (bytes xs),.int .i64 k] (.int .i64 (k+xs.length),[.sl none 1 xs.length (bytes (oX k xs.length)),.undef]):=by
  refine Cm.go DS [.sl none 0 0 [],.undef] 0 (fv k (0:Nat) xs.length (bytes xs)) ?_ fun J hJ=>?_
  · have e0:fv k (0:Nat) xs.length (bytes xs)=(fun i:Nat=>fv (k+i) (i:Nat) xs.length (bytes ((oX k xs.length).take i++xs.drop i))) 0:=by simp
    rw [e0]
    refine WP.loop (H:=fun i:Nat=>fv (k+i) (i:Nat) xs.length (bytes ((oX k xs.length).take i++xs.drop i))) (n:=xs.length) (fun _=>True) (fun i hi _ ih=>WP.go _ (ih trivial) fun J hJ=>?_) (fun _=>WP.fin fun J=>?_) 0 (Nat.zero_le _) trivial
    · have hm:i < (oX k xs.length).length:=by rw [dZ]; exact hi
      have v8:=AJ (dZ k xs.length).symm hi hm
      rw [qY]
      have fj:(oX k xs.length)[i]=UInt8.ofNat ((k+(i:Int)) % 256).toNat:=by simp [oX]
      have hw:ad.wrap .u8 (k+(i:Int))=((UInt8.ofNat ((k+(i:Int)) % 256).toNat).toNat:Int):=YG _
      simp (disch:=first | omega | (simp; done) | (simp; omega)) only [aH,bc,bl,bI,aA,aU,bq,cQ,NW,db,yF,hw]
      rw [fj] at v8
      rw [AH,v8]
      have e1:k+(i:Int)+1=k+((i+1:Nat):Int):=by omega
      rw [e1]
      exact hJ
    · rw [qY]
      simp (disch:=omega) only [aH,bc,aA,bm,List.drop_length,List.append_nil]
      rw [List.take_of_length_le (by rw [dZ]; omega)]
  · rw [DT]
    exact hJ
theorem Ut (g:Bool) (xs:List Bool) (hb:xs.length≤140737488355328) (zM:xs.length < 9223372036854775807):Cm 45 [.sl (some g) 1 xs.length (aD xs)] (.sl none 1 xs.length (aD xs),[.undef]):=by
  refine Cm.go HM [.undef] 0 (jH g xs.length (aD xs) (0:Nat) xs.length (aD (List.replicate xs.length false))) ?_ fun J hJ=>?_
  · refine WP.loop (H:=fun i=>jH g xs.length (aD xs) (i:Nat) xs.length (aD (xs.take i++List.replicate (xs.length - i) false))) (n:=xs.length) (fun _=>True) (fun i hi _ ih=>WP.go _ (ih trivial) fun J hJ=>?_) (fun _=>WP.fin fun J=>?_) 0 (Nat.zero_le _) trivial
    · rw [tD]
      simp (disch:=first | omega | (simp; done) | (simp; omega)) only [aH,bc,bl,aA,aU,bq,cQ,NT,NX,NU,AI,db]
      rw [← hJ]
      congr 2
      rw [po hi _ xs rfl hi]
    · rw [tD]
      simp (disch:=omega) only [aH,bc,aA,bm,List.take_length,Nat.sub_self,List.replicate_zero,List.append_nil]
  · rw [HN]
    simp (disch:=omega) only [aH,bc,aA,rN,yE,Up]
    exact hJ
theorem Uu (g h:Bool) (xs ys:List Bool) (hb:xs.length < 9223372036854775807):Cm 52 [.sl (some g) 1 xs.length (aD xs),.sl (some h) 1 ys.length (aD ys)] (.bool (decide (xs=ys)),[.undef,.undef]):=by
  by_cases hl:xs.length=ys.length
  · refine Cm.go w7 [.undef,.undef] 0 (jI g xs.length (aD xs) h ys.length (aD ys) (0:Nat)) ?_ fun J hJ=>?_
    · refine WP.loop (H:=fun i=>jI g xs.length (aD xs) h ys.length (aD ys) (i:Nat)) (n:=xs.length) (fun i=>xs.take i=ys.take i) (fun i hi hv ih=>?_) (fun hv=>WP.fin fun J=>?_) 0 (Nat.zero_le _) (by simp)
      · have nD:i < ys.length:=by omega
        by_cases he:xs[i]=ys[i]
        · refine WP.go _ (ih (by rw [← List.take_append_getElem hi,← List.take_append_getElem nD,hv,he])) fun J hJ=>?_
          rw [oC]
          simp (disch:=omega) only [aH,bc,bl,bI,bW,aA,aU,bq,cQ,NT,NU,db,fQ,he,tZ,beq_self_eq_true,Bool.not_true]
          exact hJ
        · refine WP.fin fun J=>?_
          rw [oC]
          have cZ:xs≠ys:=fun e=>he (by subst e; rfl)
          have hn8:=he
          have hbe:(xs[i]==ys[i])=false:=by simpa using he
          simp (disch:=first | omega | assumption) only [aH,bc,bl,bI,bW,aA,aU,bq,cQ,NT,NU,ec,decide_eq_false cZ,tZ,hbe,Bool.not_false]
      · rw [oC]
        rw [List.take_length,hl,List.take_length] at hv
        simp (disch:=omega) only [aH,bc,aA,bm,decide_eq_true hv]
    · rw [w8]
      simp (disch:=omega) only [aH,bc,aA,bI,bW,fQ]
      exact hJ
  · refine Cm.fin w7 fun J=>?_
    have cZ:xs≠ys:=fun e=>hl (by rw [e])
    rw [w8]
    simp (disch:=omega) only [aH,bc,aA,bI,bW,ec,decide_eq_false cZ]
theorem Uv (g:Bool) (n:Nat) (c:List D) (left:Int) (h0:0≤left) (h1:left≤1048576) (hn:n≤140737488355328):Cm 38 [.sl (some g) 1 n c,.int .i64 left] (.int .i64 (eQ n left),[.undef,.undef]):=by
  refine Cm.fin HO fun J=>?_
  rw [HP]
  unfold eQ
  by_cases h:left < n
  · rw [if_pos h]
    simp (disch:=omega) only [aA,ir,aU]
  · rw [if_neg h]
    simp (disch:=omega) only [aA,ir,bm]
theorem Pd (xs:List Bool) (k:Int) (h0:0≤k) (h1:k+xs.length < 9223372036854775807):Cm 57 [.sl none 1 xs.length (aD xs),.int .i64 k] (.int .i64 (k+xs.length),[.sl none 1 xs.length (aD (nK k xs.length)),.undef]):=by
  refine Cm.go DU [.sl none 0 0 [],.undef] 0 (fw k (0:Nat) xs.length (aD xs)) ?_ fun J hJ=>?_
  · have e0:fw k (0:Nat) xs.length (aD xs)=(fun i:Nat=>fw (k+i) (i:Nat) xs.length (aD ((nK k xs.length).take i++xs.drop i))) 0:=by simp
    rw [e0]
    refine WP.loop (H:=fun i:Nat=>fw (k+i) (i:Nat) xs.length (aD ((nK k xs.length).take i++xs.drop i))) (n:=xs.length) (fun _=>True) (fun i hi _ ih=>WP.go _ (ih trivial) fun J hJ=>?_) (fun _=>WP.fin fun J=>?_) 0 (Nat.zero_le _) trivial
    · have hm:i < (nK k xs.length).length:=by rw [ea]; exact hi
      have v8:=AJ (ea k xs.length).symm hi hm
      rw [qZ]
      have fj:(nK k xs.length)[i]=((k+(i:Int)).tmod 3==0):=by simp [nK]
      have hw:ad.eq (ad.ar .rem .i64 (k+(i:Int)) 3) 0=((k+(i:Int)).tmod 3==0):=rfl
      simp (disch:=first | omega | (simp; done) | (simp; omega)) only [aH,bc,bl,bI,aA,aU,bq,cQ,NX,db,yF,hw,ec]
      rw [fj] at v8
      rw [AI,v8]
      have e1:k+(i:Int)+1=k+((i+1:Nat):Int):=by omega
      rw [e1]
      exact hJ
    · rw [qZ]
      simp (disch:=omega) only [aH,bc,aA,bm,List.drop_length,List.append_nil]
      rw [List.take_of_length_le (by rw [ea]; omega)]
  · rw [DV]
    exact hJ
theorem Sc (g:Bool) (k:Int) (n:Nat) (h0:0≤k) (h1:k+n < 9223372036854775807):Cm 59 [.sl (some g) 1 n (ints (iZ k n)),.int .i64 k] (.int .i64 (k+n),[.undef,.undef]):=by
  refine Cm.go FM [.undef,.undef] 0 (fL g n (ints (iZ k n)) k (0:Nat)) ?_ fun J hJ=>?_
  · have e0:fL g n (ints (iZ k n)) k (0:Nat)=(fun i:Nat=>fL g n (ints (iZ k n)) (k+i) (i:Nat)) 0:=by simp
    rw [e0]
    refine WP.loop (H:=fun i:Nat=>fL g n (ints (iZ k n)) (k+i) (i:Nat)) (n:=n) (fun _=>True) (fun i hi _ ih=>WP.go _ (ih trivial) fun J hJ=>?_) (fun _=>WP.fin fun J=>?_) 0 (Nat.zero_le _) trivial
    · have hm:i < (iZ k n).length:=by rw [dA]; exact hi
      have fj:(iZ k n)[i]=k+(i:Int):=by simp [iZ]
      rw [sZ]
      simp (disch:=first | omega | (simp; done) | (simp; omega)) only [aH,bc,bl,bI,bW,aA,aU,bq,cQ,dH,dI,fj,fQ,db,yF]
      have e1:k+(i:Int)+1=k+((i+1:Nat):Int):=by omega
      rw [e1]
      exact hJ
    · rw [sZ]
      simp (disch:=omega) only [aH,bc,aA,bm]
  · rw [FN]
    exact hJ
end Go.Proofs.YtockoilcnmljiaaGreat
namespace Go.Proofs.YtockoilcnmljiaaGreat
set_option maxRecDepth 100000
section
variable (pr:dT) (cv:Cv Rz) (J:Nat→St→Option Rz)
def jJ (g0:Bool) (n1:Nat) (c2:List D) (i3:Int) (n4:Nat) (c5:List D):St:=(St.mk [(0,(.sl (some g0) 1 n1 c2)),(3,(.ref 10003 [] 0 none)),(4,(.int .i64 i3))] [(10003,[(.sl none 1 n4 c5)])] [] 0)
theorem HQ:Told cfg Tryz.prog 46 Tryz.f46:=⟨by kernel_rfl,Tryz.func46,by kernel_rfl⟩
theorem HR (g0:Bool) (n0:Nat) (c0:List D):aQ pr cv J 46 Tryz.f46 [(.sl (some g0) 1 n0 c0)]=
    (br (pr.u3 (pr.aS n0) (pr.aS n0) 24) (J 0 (jJ g0 n0 c0 0 (pr.js (pr.aS n0)) (fA (pr.js (pr.aS n0)) [(.nil 1)]))) none):=by kernel_rfl
theorem tE (g0:Bool) (n1:Nat) (c2:List D) (i3:Int) (n4:Nat) (c5:List D):bJ pr cv J 46 Tryz.f46 [.undef] 0 (jJ g0 n1 c2 i3 n4 c5)=
    (br (pr.lt i3 (pr.aS n1)) (br (pr.bD i3 n1) (br (br (pr.bU 1 c2 (pr.idx 0 i3 1)) true false) (cv 42 [(.sl (some (pr.bo c2 (pr.idx 0 i3 1))) 1 (pr.aR c2 (pr.idx 0 i3 1)) (pr.aV c2 (pr.idx 0 i3 1)))] (.sl (fun dU=>(fun dp=>(.done (br (br (br (pr.nl dp) true false) true false) (br (pr.bD i3 n4) (br (br (pr.ne c5) (br (pr.jC 1 c5 (pr.idx 0 i3 1)) true false) false) (cv 999999 [(.sl none 0 0 (List.set c5 (pr.idx 0 i3 1) (.sl none 1 dU dp)))] (.sl (fun ou=>(fun iJ=>(.done (J 0 (jJ g0 n1 c2 (pr.ar .add .i64 i3 1) n4 iJ))))))) none) none) none)))))) none) none) (some ((.sl none 1 n4 c5),[.undef]))):=by kernel_rfl
def jK (g0:Bool) (n1:Nat) (c2:List D) (g3:Bool) (n4:Nat) (c5:List D) (i6:Int):St:=(St.mk [(0,(.sl (some g0) 1 n1 c2)),(1,(.sl (some g3) 1 n4 c5)),(5,(.int .i64 i6))] [] [] 0)
theorem w9:Told cfg Tryz.prog 53 Tryz.f53:=⟨by kernel_rfl,Tryz.func53,by kernel_rfl⟩
theorem xd (g0:Bool) (n0:Nat) (c0:List D) (g1:Bool) (n1:Nat) (c1:List D):aQ pr cv J 53 Tryz.f53 [(.sl (some g0) 1 n0 c0),(.sl (some g1) 1 n1 c1)]=
    (br (br (pr.eq (pr.aS n0) (pr.aS n1)) false true) (some ((.bool false),[.undef,.undef])) (J 0 (jK g0 n0 c0 g1 n1 c1 0))):=by kernel_rfl
theorem oD (g0:Bool) (n1:Nat) (c2:List D) (g3:Bool) (n4:Nat) (c5:List D) (i6:Int):bJ pr cv J 53 Tryz.f53 [.undef,.undef] 0 (jK g0 n1 c2 g3 n4 c5 i6)=
    (br (pr.lt i6 (pr.aS n1)) (br (pr.bD i6 n1) (br (br (pr.bU 1 c2 (pr.idx 0 i6 1)) true false) (br (pr.bD i6 n4) (br (br (pr.bU 1 c5 (pr.idx 0 i6 1)) true false) (cv 49 [(.sl (some (pr.bo c2 (pr.idx 0 i6 1))) 1 (pr.aR c2 (pr.idx 0 i6 1)) (pr.aV c2 (pr.idx 0 i6 1))),(.sl (some (pr.bo c5 (pr.idx 0 i6 1))) 1 (pr.aR c5 (pr.idx 0 i6 1)) (pr.aV c5 (pr.idx 0 i6 1)))] (.bool (fun cf=>(.done (br (br cf false true) (some ((.bool false),[.undef,.undef])) (J 0 (jK g0 n1 c2 g3 n4 c5 (pr.ar .add .i64 i6 1)))))))) none) none) none) none) (some ((.bool true),[.undef,.undef]))):=by kernel_rfl
def mr (g0:Bool) (n1:Nat) (c2:List D) (i3:Int) (i4:Int):St:=(St.mk [(0,(.sl (some g0) 1 n1 c2)),(1,(.int .i64 i3)),(5,(.int .i64 i4))] [] [] 0)
theorem xe:Told cfg Tryz.prog 39 Tryz.f39:=⟨by kernel_rfl,Tryz.func39,by kernel_rfl⟩
theorem xj (g0:Bool) (n0:Nat) (c0:List D) (a1:Int):aQ pr cv J 39 Tryz.f39 [(.sl (some g0) 1 n0 c0),(.int .i64 a1)]=
    (br (pr.lt (pr.ar .sub .i64 a1 (pr.aS n0)) 0) (some ((.int .i64 (-1)),[.undef,.undef])) (J 0 (mr g0 n0 c0 (pr.ar .sub .i64 a1 (pr.aS n0)) 0))):=by kernel_rfl
theorem oE (g0:Bool) (n1:Nat) (c2:List D) (i3:Int) (i4:Int):bJ pr cv J 39 Tryz.f39 [.undef,.undef] 0 (mr g0 n1 c2 i3 i4)=
    (br (pr.lt i4 (pr.aS n1)) (br (pr.bD i4 n1) (br (br (pr.bU 1 c2 (pr.idx 0 i4 1)) true false) (cv 35 [(.sl (some (pr.bo c2 (pr.idx 0 i4 1))) 1 (pr.aR c2 (pr.idx 0 i4 1)) (pr.aV c2 (pr.idx 0 i4 1))),(.int .i64 i3)] (.int (fun dm=>(.done (br (pr.lt dm 0) (some ((.int .i64 (-1)),[.undef,.undef])) (J 0 (mr g0 n1 c2 dm (pr.ar .add .i64 i4 1)))))))) none) none) (some ((.int .i64 i3),[.undef,.undef]))):=by kernel_rfl
theorem Kq:Told cfg Tryz.prog 43 Tryz.f43:=⟨by kernel_rfl,Tryz.func43,by kernel_rfl⟩
theorem Kr (g0:Bool) (n0:Nat) (c0:List D) (g1:Bool) (n1:Nat) (c1:List D) (a2:Bool) (a3:Bool) (a4:Bool) (a5:Int):aQ pr cv J 43 Tryz.f43 [(.agg [(.sl (some g0) 1 n0 c0),(.sl (some g1) 1 n1 c1),(.bool a2),(.bool a3),(.bool a4),(.int .i64 a5)])]=
    (cv 42 [(.sl (some g0) 1 n0 c0)] (.sl (fun dU=>(fun dp=>(.done (br (br (br (pr.nl dp) true false) true false) (cv 46 [(.sl (some g1) 1 n1 c1)] (.sl (fun ou=>(fun iJ=>(.done (br (br (br (pr.nl iJ) true false) true false) (some ((.agg [(.sl none 1 dU dp),(.sl none 1 ou iJ),(.bool a2),(.bool a3),(.bool a4),(.int .i64 a5)]),[.undef])) none)))))) none)))))):=by kernel_rfl
theorem Kt:Told cfg Tryz.prog 50 Tryz.f50:=⟨by kernel_rfl,Tryz.func50,by kernel_rfl⟩
theorem Ku (g0:Bool) (n0:Nat) (c0:List D) (g1:Bool) (n1:Nat) (c1:List D) (a2:Bool) (a3:Bool) (a4:Bool) (a5:Int) (g6:Bool) (n6:Nat) (c6:List D) (g7:Bool) (n7:Nat) (c7:List D) (a8:Bool) (a9:Bool) (a10:Bool) (a11:Int):aQ pr cv J 50 Tryz.f50 [(.agg [(.sl (some g0) 1 n0 c0),(.sl (some g1) 1 n1 c1),(.bool a2),(.bool a3),(.bool a4),(.int .i64 a5)]),(.agg [(.sl (some g6) 1 n6 c6),(.sl (some g7) 1 n7 c7),(.bool a8),(.bool a9),(.bool a10),(.int .i64 a11)])]=
    let y1:Option (D × List D):=(some ((.bool false),[.undef,.undef]))
    (cv 49 [(.sl (some g0) 1 n0 c0),(.sl (some g6) 1 n6 c6)] (.bool (fun cf=>(.done (br (br cf false true) y1 (cv 53 [(.sl (some g1) 1 n1 c1),(.sl (some g7) 1 n7 c7)] (.bool (fun eN=>(.done (br (br eN false true) y1 (br (br (pr.beq a2 a8) false true) y1 (br (br (pr.beq a3 a9) false true) y1 (br (br (pr.beq a4 a10) false true) y1 (br (br (pr.eq a5 a11) false true) y1 (some ((.bool true),[.undef,.undef])))))))))))))))):=by kernel_rfl
theorem Kv:Told cfg Tryz.prog 36 Tryz.f36:=⟨by kernel_rfl,Tryz.func36,by kernel_rfl⟩
theorem Kw (g0:Bool) (n0:Nat) (c0:List D) (g1:Bool) (n1:Nat) (c1:List D) (a2:Bool) (a3:Bool) (a4:Bool) (a5:Int) (a6:Int):aQ pr cv J 36 Tryz.f36 [(.agg [(.sl (some g0) 1 n0 c0),(.sl (some g1) 1 n1 c1),(.bool a2),(.bool a3),(.bool a4),(.int .i64 a5)]),(.int .i64 a6)]=
    let y1:Option (D × List D):=(some ((.int .i64 (-1)),[.undef,.undef]))
    (cv 35 [(.sl (some g0) 1 n0 c0),(.int .i64 a6)] (.int (fun dm=>(.done (br (pr.lt dm 0) y1 (cv 39 [(.sl (some g1) 1 n1 c1),(.int .i64 dm)] (.int (fun gP=>(.done (br (pr.lt gP 0) y1 (some ((.int .i64 gP),[.undef,.undef])))))))))))):=by kernel_rfl
theorem HS:Told cfg Tryz.prog 44 Tryz.f44:=⟨by kernel_rfl,Tryz.func44,by kernel_rfl⟩
theorem HT (g0:Bool) (n0:Nat) (c0:List D) (g1:Bool) (n1:Nat) (c1:List D):aQ pr cv J 44 Tryz.f44 [(.agg [(.sl (some g0) 1 n0 c0),(.sl (some g1) 1 n1 c1)])]=
    (cv 104 [(.sl (some g0) 1 n0 c0)] (.sl (fun dU=>(fun dp=>(.done (br (br (br (pr.nl dp) true false) true false) (cv 104 [(.sl (some g1) 1 n1 c1)] (.sl (fun ou=>(fun iJ=>(.done (br (br (br (pr.nl iJ) true false) true false) (some ((.agg [(.sl none 1 dU dp),(.sl none 1 ou iJ)]),[.undef])) none)))))) none)))))):=by kernel_rfl
theorem HU:Told cfg Tryz.prog 51 Tryz.f51:=⟨by kernel_rfl,Tryz.func51,by kernel_rfl⟩
theorem HV (g0:Bool) (n0:Nat) (c0:List D) (g1:Bool) (n1:Nat) (c1:List D) (g2:Bool) (n2:Nat) (c2:List D) (g3:Bool) (n3:Nat) (c3:List D):aQ pr cv J 51 Tryz.f51 [(.agg [(.sl (some g0) 1 n0 c0),(.sl (some g1) 1 n1 c1)]),(.agg [(.sl (some g2) 1 n2 c2),(.sl (some g3) 1 n3 c3)])]=
    let y1:Option (D × List D):=(some ((.bool false),[.undef,.undef]))
    (cv 116 [(.sl (some g0) 1 n0 c0),(.sl (some g2) 1 n2 c2)] (.bool (fun cf=>(.done (br (br cf false true) y1 (cv 116 [(.sl (some g1) 1 n1 c1),(.sl (some g3) 1 n3 c3)] (.bool (fun eN=>(.done (br (br eN false true) y1 (some ((.bool true),[.undef,.undef])))))))))))):=by kernel_rfl
theorem HW:Told cfg Tryz.prog 37 Tryz.f37:=⟨by kernel_rfl,Tryz.func37,by kernel_rfl⟩
theorem HX (g0:Bool) (n0:Nat) (c0:List D) (g1:Bool) (n1:Nat) (c1:List D) (a2:Int):aQ pr cv J 37 Tryz.f37 [(.agg [(.sl (some g0) 1 n0 c0),(.sl (some g1) 1 n1 c1)]),(.int .i64 a2)]=
    let y1:Option (D × List D):=(some ((.int .i64 (-1)),[.undef,.undef]))
    (cv 96 [(.sl (some g0) 1 n0 c0),(.int .i64 a2)] (.int (fun dm=>(.done (br (pr.lt dm 0) y1 (cv 96 [(.sl (some g1) 1 n1 c1),(.int .i64 dm)] (.int (fun gP=>(.done (br (pr.lt gP 0) y1 (some ((.int .i64 gP),[.undef,.undef])))))))))))):=by kernel_rfl
theorem Kx:Told cfg Tryz.prog 13 Tryz.f13:=⟨by kernel_rfl,Tryz.func13,by kernel_rfl⟩
theorem Ky (a0:Int) (a1:Bool) (a2:Bool) (g3:Bool) (n3:Nat) (c3:List D) (g4:Bool) (n4:Nat) (c4:List D) (g5:Bool) (n5:Nat) (c5:List D) (a6:Bool) (a7:Bool) (a8:Bool) (a9:Int) (g10:Bool) (mL:Nat) (xm:List D) (g11:Bool) (eR:Nat) (mM:List D) (g12:Bool) (fE:Nat) (fo:List D) (g13:Bool) (kC:Nat) (gg:List D) (g14:Bool) (JU:Nat) (lU:List D) (g15:Bool) (wa:Nat) (JV:List D):aQ pr cv J 13 Tryz.f13 [(.agg [(.int .i64 a0),(.bool a1),(.bool a2),(.sl (some g3) 1 n3 c3),(.sl (some g4) 1 n4 c4),(.sl (some g5) 1 n5 c5),(.bool a6),(.bool a7),(.bool a8),(.int .i64 a9),(.sl (some g10) 1 mL xm),(.sl (some g11) 1 eR mM),(.sl (some g12) 1 fE fo),(.sl (some g13) 1 kC gg),(.sl (some g14) 1 JU lU),(.sl (some g15) 1 wa JV)])]=
    (cv 42 [(.sl (some g3) 1 n3 c3)] (.sl (fun dU=>(fun dp=>(.done (br (br (br (pr.nl dp) true false) true false) (cv 43 [(.agg [(.sl (some g4) 1 n4 c4),(.sl (some g5) 1 n5 c5),(.bool a6),(.bool a7),(.bool a8),(.int .i64 a9)])] (.sl (fun ou=>(fun iJ=>(.sl (fun xq=>(fun tF=>(.bool (fun pQ=>(.bool (fun Uw=>(.bool (fun QL=>(.int (fun vx9=>(.done (br (br (br (pr.nl iJ) (br (pr.nl tF) true false) false) true false) (cv 44 [(.agg [(.sl (some g10) 1 mL xm),(.sl (some g11) 1 eR mM)])] (.sl (fun agx=>(fun acn=>(.sl (fun agy=>(fun aco=>(.done (br (br (br (pr.nl acn) (br (pr.nl aco) true false) false) true false) (cv 45 [(.sl (some g12) 1 fE fo)] (.sl (fun WK=>(fun Sd=>(.done (br (br (br (pr.nl Sd) true false) true false) (cv 46 [(.sl (some g13) 1 kC gg)] (.sl (fun WL=>(fun Se=>(.done (br (br (br (pr.nl Se) true false) true false) (cv 45 [(.sl (some g14) 1 JU lU)] (.sl (fun HY=>(fun DW=>(.done (br (br (br (pr.nl DW) true false) true false) (cv 42 [(.sl (some g15) 1 wa JV)] (.sl (fun agz=>(fun acp=>(.done (br (br (br (pr.nl acp) true false) true false) (some ((.agg [(.int .i64 a0),(.bool a1),(.bool a2),(.sl none 1 dU dp),(.sl none 1 ou iJ),(.sl none 1 xq tF),(.bool pQ),(.bool Uw),(.bool QL),(.int .i64 vx9),(.sl none 1 agx acn),(.sl none 1 agy aco),(.sl none 1 WK Sd),(.sl none 1 WL Se),(.sl none 1 HY DW),(.sl none 1 agz acp)]),[.undef])) none)))))) none)))))) none)))))) none)))))) none))))))))) none))))))))))))))))) none)))))):=by kernel_rfl
theorem Kz:Told cfg Tryz.prog 15 Tryz.f15:=⟨by kernel_rfl,Tryz.func15,by kernel_rfl⟩
theorem KA (a0:Int) (a1:Bool) (a2:Bool) (g3:Bool) (n3:Nat) (c3:List D) (g4:Bool) (n4:Nat) (c4:List D) (g5:Bool) (n5:Nat) (c5:List D) (a6:Bool) (a7:Bool) (a8:Bool) (a9:Int) (g10:Bool) (mL:Nat) (xm:List D) (g11:Bool) (eR:Nat) (mM:List D) (g12:Bool) (fE:Nat) (fo:List D) (g13:Bool) (kC:Nat) (gg:List D) (g14:Bool) (JU:Nat) (lU:List D) (g15:Bool) (wa:Nat) (JV:List D) (a16:Int) (a17:Bool) (a18:Bool) (g19:Bool) (NY:Nat) (wb:List D) (g20:Bool) (qB:Nat) (NZ:List D) (g21:Bool) (n21:Nat) (qC:List D) (a22:Bool) (a23:Bool) (a24:Bool) (a25:Int) (g26:Bool) (pR:Nat) (N0:List D) (N1:Bool) (n27:Nat) (oY:List D) (N2:Bool) (xr:Nat) (c28:List D) (g29:Bool) (n29:Nat) (xx:List D) (N3:Bool) (n30:Nat) (N4:List D) (N5:Bool) (n31:Nat) (c31:List D):aQ pr cv J 15 Tryz.f15 [(.agg [(.int .i64 a0),(.bool a1),(.bool a2),(.sl (some g3) 1 n3 c3),(.sl (some g4) 1 n4 c4),(.sl (some g5) 1 n5 c5),(.bool a6),(.bool a7),(.bool a8),(.int .i64 a9),(.sl (some g10) 1 mL xm),(.sl (some g11) 1 eR mM),(.sl (some g12) 1 fE fo),(.sl (some g13) 1 kC gg),(.sl (some g14) 1 JU lU),(.sl (some g15) 1 wa JV)]),(.agg [(.int .i64 a16),(.bool a17),(.bool a18),(.sl (some g19) 1 NY wb),(.sl (some g20) 1 qB NZ),(.sl (some g21) 1 n21 qC),(.bool a22),(.bool a23),(.bool a24),(.int .i64 a25),(.sl (some g26) 1 pR N0),(.sl (some N1) 1 n27 oY),(.sl (some N2) 1 xr c28),(.sl (some g29) 1 n29 xx),(.sl (some N3) 1 n30 N4),(.sl (some N5) 1 n31 c31)])]=
    let y1:Option (D × List D):=(some ((.bool false),[.undef,.undef]))
    (br (br (pr.eq a0 a16) false true) y1 (br (br (pr.beq a1 a17) false true) y1 (br (br (pr.beq a2 a18) false true) y1 (cv 49 [(.sl (some g3) 1 n3 c3),(.sl (some g19) 1 NY wb)] (.bool (fun cf=>(.done (br (br cf false true) y1 (cv 50 [(.agg [(.sl (some g4) 1 n4 c4),(.sl (some g5) 1 n5 c5),(.bool a6),(.bool a7),(.bool a8),(.int .i64 a9)]),(.agg [(.sl (some g20) 1 qB NZ),(.sl (some g21) 1 n21 qC),(.bool a22),(.bool a23),(.bool a24),(.int .i64 a25)])] (.bool (fun eN=>(.done (br (br eN false true) y1 (cv 51 [(.agg [(.sl (some g10) 1 mL xm),(.sl (some g11) 1 eR mM)]),(.agg [(.sl (some g26) 1 pR N0),(.sl (some N1) 1 n27 oY)])] (.bool (fun iq=>(.done (br (br iq false true) y1 (cv 52 [(.sl (some g12) 1 fE fo),(.sl (some N2) 1 xr c28)] (.bool (fun vh=>(.done (br (br vh false true) y1 (cv 53 [(.sl (some g13) 1 kC gg),(.sl (some g29) 1 n29 xx)] (.bool (fun Ux=>(.done (br (br Ux false true) y1 (cv 52 [(.sl (some g14) 1 JU lU),(.sl (some N3) 1 n30 N4)] (.bool (fun vi=>(.done (br (br vi false true) y1 (cv 49 [(.sl (some g15) 1 wa JV),(.sl (some N5) 1 n31 c31)] (.bool (fun pQ=>(.done (br (br pQ false true) y1 (some ((.bool true),[.undef,.undef])))))))))))))))))))))))))))))))))))))))):=by kernel_rfl
theorem KC:Told cfg Tryz.prog 11 Tryz.f11:=⟨by kernel_rfl,Tryz.func11,by kernel_rfl⟩
theorem KD (a0:Int) (a1:Bool) (a2:Bool) (g3:Bool) (n3:Nat) (c3:List D) (g4:Bool) (n4:Nat) (c4:List D) (g5:Bool) (n5:Nat) (c5:List D) (a6:Bool) (a7:Bool) (a8:Bool) (a9:Int) (g10:Bool) (mL:Nat) (xm:List D) (g11:Bool) (eR:Nat) (mM:List D) (g12:Bool) (fE:Nat) (fo:List D) (g13:Bool) (kC:Nat) (gg:List D) (g14:Bool) (JU:Nat) (lU:List D) (g15:Bool) (wa:Nat) (JV:List D) (a16:Int):aQ pr cv J 11 Tryz.f11 [(.agg [(.int .i64 a0),(.bool a1),(.bool a2),(.sl (some g3) 1 n3 c3),(.sl (some g4) 1 n4 c4),(.sl (some g5) 1 n5 c5),(.bool a6),(.bool a7),(.bool a8),(.int .i64 a9),(.sl (some g10) 1 mL xm),(.sl (some g11) 1 eR mM),(.sl (some g12) 1 fE fo),(.sl (some g13) 1 kC gg),(.sl (some g14) 1 JU lU),(.sl (some g15) 1 wa JV)]),(.int .i64 a16)]=
    let y1:Option (D × List D):=(some ((.int .i64 (-1)),[.undef,.undef]))
    (cv 35 [(.sl (some g3) 1 n3 c3),(.int .i64 a16)] (.int (fun dm=>(.done (br (pr.lt dm 0) y1 (cv 36 [(.agg [(.sl (some g4) 1 n4 c4),(.sl (some g5) 1 n5 c5),(.bool a6),(.bool a7),(.bool a8),(.int .i64 a9)]),(.int .i64 dm)] (.int (fun gP=>(.done (br (pr.lt gP 0) y1 (cv 37 [(.agg [(.sl (some g10) 1 mL xm),(.sl (some g11) 1 eR mM)]),(.int .i64 gP)] (.int (fun qD=>(.done (br (pr.lt qD 0) y1 (cv 38 [(.sl (some g12) 1 fE fo),(.int .i64 qD)] (.int (fun q8=>(.done (br (pr.lt q8 0) y1 (cv 39 [(.sl (some g13) 1 kC gg),(.int .i64 q8)] (.int (fun nL=>(.done (br (pr.lt nL 0) y1 (cv 38 [(.sl (some g14) 1 JU lU),(.int .i64 nL)] (.int (fun q9=>(.done (br (pr.lt q9 0) y1 (cv 35 [(.sl (some g15) 1 wa JV),(.int .i64 q9)] (.int (fun Uy=>(.done (br (pr.lt Uy 0) y1 (some ((.int .i64 Uy),[.undef,.undef]))))))))))))))))))))))))))))))))))))):=by kernel_rfl
end
def ra (xss:List (List Int)):Prop:=xss.length≤1048576∧∀ xs∈xss,xs.length≤1048576
structure cJ (m:aI):Prop where
  ay:m.ay.length≤1048576
  bits:ra m.bits
structure dJ (s:aG):Prop where
  a:s.a.length≤1048576
  b:s.b.length≤1048576
structure bS (n:ae):Prop where
  image:n.image.length≤1048576
  mt:cJ n.mt
  aM:dJ n.aM
  conn:n.conn.length≤1048576
  sync:ra n.sync
  aK:n.aK.length≤1048576
  wait:n.wait.length≤1048576
section
variable {x y:Rz} {R:Type} {u v:R}
theorem iy {g:Bool} {xss:List (List Int)} {i:Nat} (h:i < xss.length):br (ad.bU 1 (rows (some g) xss) i) u v=u:=by simp [ad,rows,br,List.getElem?_eq_getElem h]
theorem iz {g:Bool} {xss:List (List Int)} {i:Nat} (h:i < xss.length):ad.bo (rows (some g) xss) i=g:=by simp [ad,rows,List.getElem?_eq_getElem h,cG]
theorem gX {g:Option Bool} {xss:List (List Int)} {i:Nat} (h:i < xss.length):ad.aR (rows g xss) i=xss[i].length:=by simp [ad,rows,List.getElem?_eq_getElem h,cN]
theorem iA {g:Option Bool} {xss:List (List Int)} {i:Nat} (h:i < xss.length):ad.aV (rows g xss) i=ints xss[i]:=by simp [ad,rows,List.getElem?_eq_getElem h,cC]
theorem QM {xss:List (List Int)} {i:Nat} (h:i < xss.length):br (ad.jC 1 (rows none xss) i) u v=u:=by simp [ad,rows,br,List.getElem?_eq_getElem h]
theorem acq {xss:List (List Int)} {i:Nat} (h:i < xss.length):br (ad.TW (rows none xss) i) u v=u:=by simp [ad,rows,br,List.getElem?_eq_getElem h]
theorem acr {g:Option Bool} {xss:List (List Int)} (h:0 < xss.length):br (ad.ne (rows g xss)) u v=u:=by
  cases xss with
  | nil=>simp at h
  | cons _ _=>rfl
theorem DX {xss:List (List Int)} {i:Nat} {ys:List Int}:List.set (rows none xss) i (.sl none 1 ys.length (ints ys))=rows none (xss.set i ys):=by simp [rows,List.map_set]
theorem Uz (n:Nat):fA n [.nil 1]=rows none (List.replicate n []):=by
  unfold fA
  induction n with
  | zero=>rfl
  | succ n ih=>simpa [List.replicate_succ,rows,uy,ints] using ih
theorem YH {g:Option Bool} (hg:g≠some true) (xss:List (List Int)):ad.nl (rows g xss)=true:=nJ (by
  intro d hd
  obtain ⟨xs,_,rfl⟩:=List.mem_map.1 hd
  have h1:cd (ints xs)=true:=jl xs
  cases g with
  | none=>simpa [bY] using h1
  | some g=>cases g with
    | false=>simpa [bY] using h1
    | true=>exact absurd rfl hg)
theorem xz (xss:List (List Int)):ad.nl (rows none xss)=true:=YH (by simp) xss
end
section
variable (t:bG Rz)
theorem yG (g:Bool) (xs:List Int) (hb:xs.length≤17592186044416):aO 42 [.sl (some g) 1 xs.length (ints xs)] t=feed t [.sl none 1 xs.length (ints xs)]:=aT (WH g xs hb (by omega)) (by kernel_rfl) t
theorem JW (g:Bool) (xs:List UInt8) (hb:xs.length≤140737488355328):aO 104 [.sl (some g) 1 xs.length (bytes xs)] t=feed t [.sl none 1 xs.length (bytes xs)]:=aT (Uq g xs hb (by omega)) (by kernel_rfl) t
theorem UA (g:Bool) (xs:List Bool) (hb:xs.length≤140737488355328):aO 45 [.sl (some g) 1 xs.length (aD xs)] t=feed t [.sl none 1 xs.length (aD xs)]:=aT (Ut g xs hb (by omega)) (by kernel_rfl) t
theorem vj (g h:Bool) (xs ys:List Int) (hb:xs.length < 9223372036854775807):aO 49 [.sl (some g) 1 xs.length (ints xs),.sl (some h) 1 ys.length (ints ys)] t=feed t [.bool (decide (xs=ys))]:=aT (WI g h xs ys hb) (by kernel_rfl) t
theorem JX (g h:Bool) (xs ys:List UInt8) (hb:xs.length < 9223372036854775807):aO 116 [.sl (some g) 1 xs.length (bytes xs),.sl (some h) 1 ys.length (bytes ys)] t=feed t [.bool (decide (xs=ys))]:=aT (Ur g h xs ys hb) (by kernel_rfl) t
theorem UB (g h:Bool) (xs ys:List Bool) (hb:xs.length < 9223372036854775807):aO 52 [.sl (some g) 1 xs.length (aD xs),.sl (some h) 1 ys.length (aD ys)] t=feed t [.bool (decide (xs=ys))]:=aT (Uu g h xs ys hb) (by kernel_rfl) t
theorem rO (g:Bool) (n:Nat) (c:List D) (left:Int) (h0:0≤left) (h1:left≤1048576) (hn:n≤140737488355328):aO 35 [.sl (some g) 1 n c,.int .i64 left] t=feed t [.int .i64 (eQ n left)]:=aT (WJ g n c left h0 h1 hn) (by kernel_rfl) t
theorem AK (g:Bool) (n:Nat) (c:List D) (left:Int) (h0:0≤left) (h1:left≤1048576) (hn:n≤140737488355328):aO 96 [.sl (some g) 1 n c,.int .i64 left] t=feed t [.int .i64 (eQ n left)]:=aT (Us g n c left h0 h1 hn) (by kernel_rfl) t
theorem JY (g:Bool) (n:Nat) (c:List D) (left:Int) (h0:0≤left) (h1:left≤1048576) (hn:n≤140737488355328):aO 38 [.sl (some g) 1 n c,.int .i64 left] t=feed t [.int .i64 (eQ n left)]:=aT (Uv g n c left h0 h1 hn) (by kernel_rfl) t
end
theorem bX {R:Type} (f:Int→bG R) (k:IntKind) (n:Int) (l:List D):feed (.int f) (.int k n::l)=feed (f n) l:=rfl
theorem aF {R:Type} (f:Bool→bG R) (b:Bool) (l:List D):feed (.bool f) (.bool b::l)=feed (f b) l:=rfl
theorem dt {R:Type} (f:Nat→List D→bG R) (s n:Nat) (cs l:List D):feed (.sl f) (.sl none s n cs::l)=feed (f n cs) l:=rfl
theorem ao {R:Type} (x:Option R) (l:List D):feed (.done x) l=x:=rfl
theorem UC (g:Bool) (xss:List (List Int)) (hb:ra xss):Cm 46 [sR (some g) xss] (sR none xss,[.undef]):=by
  have hl:=hb.1
  refine Cm.go HQ [.undef] 0 (jJ g xss.length (rows (some g) xss) (0:Nat) xss.length (rows none (List.replicate xss.length []))) ?_ fun J hJ=>?_
  · refine WP.loop (H:=fun i=>jJ g xss.length (rows (some g) xss) (i:Nat) xss.length (rows none (xss.take i++List.replicate (xss.length - i) []))) (n:=xss.length) (fun _=>True) (fun i hi _ ih=>WP.go _ (ih trivial) fun J hJ=>?_) (fun _=>WP.fin fun J=>?_) 0 (Nat.zero_le _) trivial
    · rw [tE]
      have hx:xss[i].length≤1048576:=hb.2 _ (List.getElem_mem hi)
      simp (disch:=first | omega | (simp; done) | (simp; omega)) only [aH,bc,bl,aA,aU,bq,cQ,iy,iz,gX,iA,yG,dt,ao,jl,QM,acr,DX,db,wY]
      rw [po hi _ xss rfl hi]
      exact hJ
    · rw [tE]
      simp (disch:=omega) only [aH,bc,aA,bm,List.take_length,Nat.sub_self,List.replicate_zero,List.append_nil]
  · rw [HR]
    simp (disch:=omega) only [aH,bc,aA,rN,yE,Uz]
    exact hJ
theorem UD (g h:Bool) (xs ys:List (List Int)) (hb:ra xs):Cm 53 [sR (some g) xs,sR (some h) ys] (.bool (decide (xs=ys)),[.undef,.undef]):=by
  have hlen:=hb.1
  by_cases hl:xs.length=ys.length
  · refine Cm.go w9 [.undef,.undef] 0 (jK g xs.length (rows (some g) xs) h ys.length (rows (some h) ys) (0:Nat)) ?_ fun J hJ=>?_
    · refine WP.loop (H:=fun i=>jK g xs.length (rows (some g) xs) h ys.length (rows (some h) ys) (i:Nat)) (n:=xs.length) (fun i=>xs.take i=ys.take i) (fun i hi hv ih=>?_) (fun hv=>WP.fin fun J=>?_) 0 (Nat.zero_le _) (by simp)
      · have nD:i < ys.length:=by omega
        have hx:xs[i].length≤1048576:=hb.2 _ (List.getElem_mem hi)
        by_cases he:xs[i]=ys[i]
        · refine WP.go _ (ih (by rw [← List.take_append_getElem hi,← List.take_append_getElem nD,hv,he])) fun J hJ=>?_
          rw [oD]
          simp (disch:=omega) only [aH,bc,bl,bI,bW,aA,aU,bq,cQ,iy,iz,gX,iA,vj,aF,ao,decide_eq_true he,db]
          exact hJ
        · refine WP.fin fun J=>?_
          rw [oD]
          have cZ:xs≠ys:=fun e=>he (by subst e; rfl)
          simp (disch:=omega) only [aH,bc,bl,bI,bW,aA,aU,bq,cQ,iy,iz,gX,iA,vj,aF,ao,decide_eq_false he,decide_eq_false cZ]
      · rw [oD]
        rw [List.take_length,hl,List.take_length] at hv
        simp (disch:=omega) only [aH,bc,aA,bm,decide_eq_true hv]
    · rw [xd]
      simp (disch:=omega) only [aH,bc,aA,bI,bW,fQ]
      exact hJ
  · refine Cm.fin w9 fun J=>?_
    have cZ:xs≠ys:=fun e=>hl (by rw [e])
    rw [xd]
    simp (disch:=omega) only [aH,bc,aA,bI,bW,ec,decide_eq_false cZ]
def iB (v:Int) (k:Int→Int):Int:=if v < 0 then -1 else k v
def ov {α:Type} (f:α→Int→Int):List α→Int→Int
  | [],l=>l
  | x::xs,l=>iB (f x l) (ov f xs)
theorem iC {n:Nat} {l:Int} (h:0≤l):eQ n l≤l∧-1≤eQ n l∧(0≤eQ n l→(n:Int)≤l):=by unfold eQ; split<;>omega
theorem om {v:Int} (k:Int→Int) (h:v < 0):iB v k=-1:=if_pos h
theorem oo {v:Int} (k:Int→Int) (h:0≤v):iB v k=k v:=if_neg (by omega)
theorem FO {α:Type} {f:α→Int→Int} {Q:α→Prop} (hf:∀ x l,0≤l→f x l≤l∧-1≤f x l∧(0≤f x l→l≤1048576→Q x)):∀ (xs:List α) (l:Int),0≤l→l≤1048576→ov f xs l≤l∧-1≤ov f xs l∧(0≤ov f xs l→∀ x∈xs,Q x)
  | [],l,h,_=>⟨Int.le_refl _,by show -1≤l; omega,fun _=>by simp⟩
  | x::xs,l,h,hm=>by
    obtain ⟨h1,h2,h3⟩:=hf x l h
    simp only [ov]
    by_cases hv:f x l < 0
    · rw [om _ hv]
      exact ⟨by omega,by omega,by omega⟩
    · rw [oo _ (by omega)]
      obtain ⟨g1,g2,g3⟩:=FO hf xs (f x l) (by omega) (by omega)
      refine ⟨by omega,g2,fun hp y hy=>?_⟩
      rcases List.mem_cons.1 hy with rfl | hy
      · exact h3 (by omega) hm
      · exact g3 hp y hy
def xA (xss:List (List Int)) (l:Int):Int:=iB (eQ xss.length l) (ov (fun xs l=>eQ xs.length l) xss)
theorem N6 {xss:List (List Int)} {l:Int} (h:0≤l) (hm:l≤1048576):xA xss l≤l∧-1≤xA xss l∧(0≤xA xss l→ra xss):=by
  obtain ⟨h1,h2,h3⟩:=iC (n:=xss.length) h
  unfold xA
  by_cases hv:eQ xss.length l < 0
  · rw [om _ hv]
    exact ⟨by omega,by omega,by omega⟩
  · rw [oo _ (by omega)]
    obtain ⟨g1,g2,g3⟩:=FO (f:=fun (xs:List Int) l=>eQ xs.length l) (Q:=fun xs=>xs.length≤1048576) (fun xs l hl=>by
      obtain ⟨a1,a2,a3⟩:=iC (n:=xs.length) hl
      exact ⟨a1,a2,fun hh hm=>by have:=a3 hh; omega⟩) xss (eQ xss.length l) (by omega) (by omega)
    exact ⟨by omega,g2,fun hp=>⟨by have:=h3 (by omega); omega,g3 hp⟩⟩
theorem UE (g:Bool) (xss:List (List Int)) (left:Int) (h0:0≤left) (h1:left≤1048576) (hn:xss.length≤140737488355328) (hx:∀ xs∈xss,xs.length≤140737488355328):Cm 39 [sR (some g) xss,.int .i64 left] (.int .i64 (xA xss left),[.undef,.undef]):=by
  have hlen:=iC (n:=xss.length) h0
  have loop:∀ k i (l:Int),i+k=xss.length→0≤l→l≤1048576→WP 39 Tryz.f39 [.undef,.undef] 0 (mr g xss.length (rows (some g) xss) l (i:Nat)) (.int .i64 (ov (fun xs l=>eQ xs.length l) (xss.drop i) l),[.undef,.undef]):=by
    intro k
    induction k with
    | zero=>
      intro i l hi hl hm
      refine WP.fin fun J=>?_
      rw [oE,List.drop_of_length_le (by omega)]
      simp (disch:=omega) only [aA,bm,ov]
    | succ k ih=>
      intro i l hi hl hm
      have nD:i < xss.length:=by omega
      have hxi:=hx _ (List.getElem_mem nD)
      obtain ⟨a1,a2,a3⟩:=iC (n:=xss[i].length) hl
      have e:ov (fun xs l=>eQ xs.length l) (xss.drop i) l=iB (eQ xss[i].length l) (ov (fun xs l=>eQ xs.length l) (xss.drop (i+1))):=by
        rw [← List.getElem_cons_drop nD]
        rfl
      rw [e]
      by_cases hv:eQ xss[i].length l < 0
      · refine WP.fin fun J=>?_
        rw [oE,om _ hv]
        simp (disch:=omega) only [aH,bc,bl,aA,aU,bq,cQ,iy,iz,gX,iA,rO,bX,ao]
      · rw [oo _ (by omega)]
        refine WP.go _ (ih (i+1) (eQ xss[i].length l) (by omega) (by omega) (by omega)) fun J hJ=>?_
        rw [oE]
        have ll:0≤eQ xss[i].length l:=by omega
        simp (disch:=omega) only [aH,bc,bl,aA,aU,bq,cQ,iy,iz,gX,iA,rO,bX,ao,bm,db]
        exact hJ
  by_cases h:left < xss.length
  · refine Cm.fin xe fun J=>?_
    rw [xj,xA,om _ (by unfold eQ; rw [if_pos h]; omega)]
    simp (disch:=omega) only [aA,ir,aU]
  · have e:eQ xss.length left=left - xss.length:=if_neg h
    rw [xA,oo _ (by omega),e]
    refine Cm.go xe [.undef,.undef] 0 _ (loop xss.length 0 (left - xss.length) (by omega) (by omega) (by omega)) fun J hJ=>?_
    rw [xj]
    simp (disch:=omega) only [aA,ir,bm]
    exact hJ
section
variable (t:bG Rz)
theorem JZ (g:Bool) (xss:List (List Int)) (hb:ra xss):aO 46 [.sl (some g) 1 xss.length (rows (some g) xss)] t=feed t [.sl none 1 xss.length (rows none xss)]:=aT (UC g xss hb) (by kernel_rfl) t
theorem J0 (g h:Bool) (xs ys:List (List Int)) (hb:ra xs):aO 53 [.sl (some g) 1 xs.length (rows (some g) xs),.sl (some h) 1 ys.length (rows (some h) ys)] t=feed t [.bool (decide (xs=ys))]:=aT (UD g h xs ys hb) (by kernel_rfl) t
theorem J1 (g:Bool) (xss:List (List Int)) (left:Int) (h0:0≤left) (h1:left≤1048576) (hn:xss.length≤140737488355328) (hx:∀ xs∈xss,xs.length≤140737488355328):aO 39 [.sl (some g) 1 xss.length (rows (some g) xss),.int .i64 left] t=feed t [.int .i64 (xA xss left)]:=aT (UE g xss left h0 h1 hn hx) (by kernel_rfl) t
end
theorem WM (g:Bool) (m:aI) (h:cJ m):Cm 43 [.agg (bR (some g) m)] (.agg (bR none m),[.undef]):=by
  have h1:=h.ay
  refine Cm.fin Kq fun J=>?_
  rw [Kr]
  simp (disch:=first | omega | exact h.bits) only [yG,JZ,dt,ao,jl,xz,aH]
theorem UF (g:Bool) (s:aG) (h:dJ s):Cm 44 [.agg (cO (some g) s)] (.agg (cO none s),[.undef]):=by
  have h1:=h.a
  have h2:=h.b
  refine Cm.fin HS fun J=>?_
  rw [HT]
  simp (disch:=omega) only [JW,dt,ao,eB,aH]
theorem WN (g h:Bool) (m:aI) (ok:cJ m):Cm 50 [.agg (bR (some g) m),.agg (bR (some h) m)] (.bool true,[.undef,.undef]):=by
  have h1:=ok.ay
  refine Cm.fin Kt fun J=>?_
  rw [Ku]
  simp (disch:=first | omega | exact ok.bits) only [vj,J0,aF,ao,decide_true,aH,bc,tZ,beq_self_eq_true,fQ]
theorem UG (g h:Bool) (s:aG) (ok:dJ s):Cm 51 [.agg (cO (some g) s),.agg (cO (some h) s)] (.bool true,[.undef,.undef]):=by
  have h1:=ok.a
  have h2:=ok.b
  refine Cm.fin HU fun J=>?_
  rw [HV]
  simp (disch:=omega) only [JX,aF,ao,decide_true,aH,bc]
structure N7 (m:aI):Prop where
  ay:m.ay.length≤140737488355328
  bits:m.bits.length≤140737488355328
  bit:∀ xs∈m.bits,xs.length≤140737488355328
structure ta (n:ae):Prop where
  image:n.image.length≤140737488355328
  mt:N7 n.mt
  a:n.aM.a.length≤140737488355328
  b:n.aM.b.length≤140737488355328
  conn:n.conn.length≤140737488355328
  sync:n.sync.length≤140737488355328
  syn:∀ xs∈n.sync,xs.length≤140737488355328
  aK:n.aK.length≤140737488355328
  wait:n.wait.length≤140737488355328
def um (m:aI) (l:Int):Int:=iB (eQ m.ay.length l) fun l=>iB (xA m.bits l) fun l=>l
def rP (s:aG) (l:Int):Int:=iB (eQ s.a.length l) fun l=>iB (eQ s.b.length l) fun l=>l
def ew (n:ae) (l:Int):Int:=iB (eQ n.image.length l) fun l=>iB (um n.mt l) fun l=>iB (rP n.aM l) fun l=>iB (eQ n.conn.length l) fun l=>iB (xA n.sync l) fun l=>iB (eQ n.aK.length l) fun l=>iB (eQ n.wait.length l) fun l=>l
theorem gG {v l:Int} {k:Int→Int} {Q Q':Prop} (hl:0≤l) (hv:v≤l∧-1≤v∧(0≤v→Q)) (hk:0≤v→k v≤v∧-1≤k v∧(0≤k v→Q')):iB v k≤l∧-1≤iB v k∧(0≤iB v k→Q∧Q'):=by
  unfold iB
  split
  · omega
  · obtain ⟨a,b,c⟩:=hk (by omega)
    exact ⟨by omega,b,fun h=>⟨hv.2.2 (by omega),c h⟩⟩
theorem FP {l:Int} (h:0≤l):l≤l∧-1≤l∧(0≤l→True):=⟨by omega,by omega,fun _=>trivial⟩
theorem oZ {n:Nat} {l:Int} (h:0≤l) (hm:l≤1048576):eQ n l≤l∧-1≤eQ n l∧(0≤eQ n l→n≤1048576):=by
  obtain ⟨a,b,c⟩:=iC (n:=n) h
  exact ⟨a,b,fun hh=>by have:=c hh; omega⟩
theorem FQ {m:aI} {l:Int} (h:0≤l) (hm:l≤1048576):um m l≤l∧-1≤um m l∧(0≤um m l→cJ m):=by
  have a1:=oZ (n:=m.ay.length) h hm
  have:=gG (k:=fun l=>iB (xA m.bits l) fun l=>l) h a1 fun h2=>gG h2 (N6 (xss:=m.bits) h2 (by omega)) fun h3=>FP h3
  exact ⟨this.1,this.2.1,fun hh=>by obtain ⟨b1,b2,_⟩:=this.2.2 hh; exact ⟨b1,b2⟩⟩
theorem C9 {s:aG} {l:Int} (h:0≤l) (hm:l≤1048576):rP s l≤l∧-1≤rP s l∧(0≤rP s l→dJ s):=by
  have a1:=oZ (n:=s.a.length) h hm
  have:=gG (k:=fun l=>iB (eQ s.b.length l) fun l=>l) h a1 fun h2=>gG h2 (oZ (n:=s.b.length) h2 (by omega)) fun h3=>FP h3
  exact ⟨this.1,this.2.1,fun hh=>by obtain ⟨b1,b2,_⟩:=this.2.2 hh; exact ⟨b1,b2⟩⟩
theorem FR {n:ae} {l:Int} (h:0≤l) (hm:l≤1048576):ew n l≤l∧-1≤ew n l∧(0≤ew n l→bS n):=by
  have a1:=oZ (n:=n.image.length) h hm
  have a2:∀ {l:Int},0≤l→l≤1048576→_:=fun {l} h hm=>FQ (m:=n.mt) (l:=l) h hm
  have a3:∀ {l:Int},0≤l→l≤1048576→_:=fun {l} h hm=>C9 (s:=n.aM) (l:=l) h hm
  have a4:∀ {l:Int},0≤l→l≤1048576→_:=fun {l} h hm=>oZ (n:=n.conn.length) (l:=l) h hm
  have a5:∀ {l:Int},0≤l→l≤1048576→_:=fun {l} h hm=>N6 (xss:=n.sync) (l:=l) h hm
  have a6:∀ {l:Int},0≤l→l≤1048576→_:=fun {l} h hm=>oZ (n:=n.aK.length) (l:=l) h hm
  have a7:∀ {l:Int},0≤l→l≤1048576→_:=fun {l} h hm=>oZ (n:=n.wait.length) (l:=l) h hm
  have key:ew n l≤l∧-1≤ew n l∧(0≤ew n l→n.image.length≤1048576∧cJ n.mt∧dJ n.aM∧n.conn.length≤1048576∧ra n.sync∧n.aK.length≤1048576∧n.wait.length≤1048576∧True):=by
    unfold ew
    refine gG h a1 fun h1=>?_
    have k1:=a2 h1 (by omega)
    refine gG h1 k1 fun h2=>?_
    have k2:=a3 h2 (by omega)
    refine gG h2 k2 fun h3=>?_
    have k3:=a4 h3 (by omega)
    refine gG h3 k3 fun h4=>?_
    have k4:=a5 h4 (by omega)
    refine gG h4 k4 fun h5=>?_
    have k5:=a6 h5 (by omega)
    refine gG h5 k5 fun h6=>?_
    exact gG h6 (a7 h6 (by omega)) fun h7=>FP h7
  refine ⟨key.1,key.2.1,fun hh=>?_⟩
  obtain ⟨b1,b2,b3,b4,b5,b6,b7,_⟩:=key.2.2 hh
  exact ⟨b1,b2,b3,b4,b5,b6,b7⟩
theorem ja {f:Int→Option Rz} {g:Int→Int} {outs:List D} {v:Int} (h:0≤v→f v=some (.int .i64 (g v),outs)):br (ad.lt v 0) (some (.int .i64 (-1),outs)) (f v)=some (.int .i64 (iB v g),outs):=by
  by_cases hv:v < 0
  · rw [aU hv,om _ hv]
  · rw [bm (by omega),oo _ (by omega),h (by omega)]
theorem WO (g:Bool) (m:aI) (left:Int) (h0:0≤left) (h1:left≤1048576) (ln:N7 m):Cm 36 [.agg (bR (some g) m),.int .i64 left] (.int .i64 (um m left),[.undef,.undef]):=by
  refine Cm.fin Kv fun J=>?_
  rw [Kw]
  have l1:=ln.ay
  have a1:=iC (n:=m.ay.length) h0
  simp (disch:=omega) only [rO,bX,ao]
  refine ja (f:=fun v=>aO 39 _ _) fun p1=>?_
  simp (disch:=first | omega | exact ln.bits | exact ln.bit) only [J1,bX,ao]
  exact ja (f:=fun v=>some (.int .i64 v,[.undef,.undef])) fun _=>rfl
theorem UH (g:Bool) (s:aG) (left:Int) (h0:0≤left) (h1:left≤1048576) (l1:s.a.length≤140737488355328) (l2:s.b.length≤140737488355328):Cm 37 [.agg (cO (some g) s),.int .i64 left] (.int .i64 (rP s left),[.undef,.undef]):=by
  refine Cm.fin HW fun J=>?_
  rw [HX]
  have a1:=iC (n:=s.a.length) h0
  simp (disch:=omega) only [AK,bX,ao]
  refine ja (f:=fun v=>aO 96 _ _) fun p1=>?_
  simp (disch:=omega) only [AK,bX,ao]
  exact ja (f:=fun v=>some (.int .i64 v,[.undef,.undef])) fun _=>rfl
section
variable (t:bG Rz)
theorem WQ (g:Bool) (m:aI) (h:cJ m):aO 43 [.agg (bR (some g) m)] t=feed t (bR none m):=aT (WM g m h) (by kernel_rfl) t
theorem UI (g:Bool) (s:aG) (h:dJ s):aO 44 [.agg (cO (some g) s)] t=feed t (cO none s):=aT (UF g s h) (by kernel_rfl) t
theorem WR (g h:Bool) (m:aI) (ok:cJ m):aO 50 [.agg (bR (some g) m),.agg (bR (some h) m)] t=feed t [.bool true]:=aT (WN g h m ok) (by kernel_rfl) t
theorem UJ (g h:Bool) (s:aG) (ok:dJ s):aO 51 [.agg (cO (some g) s),.agg (cO (some h) s)] t=feed t [.bool true]:=aT (UG g h s ok) (by kernel_rfl) t
theorem WS (g:Bool) (m:aI) (left:Int) (h0:0≤left) (h1:left≤1048576) (ln:N7 m):aO 36 [.agg (bR (some g) m),.int .i64 left] t=feed t [.int .i64 (um m left)]:=aT (WO g m left h0 h1 ln) (by kernel_rfl) t
theorem UK (g:Bool) (s:aG) (left:Int) (h0:0≤left) (h1:left≤1048576) (l1:s.a.length≤140737488355328) (l2:s.b.length≤140737488355328):aO 37 [.agg (cO (some g) s),.int .i64 left] t=feed t [.int .i64 (rP s left)]:=aT (UH g s left h0 h1 l1 l2) (by kernel_rfl) t
end
theorem WU (g:Bool) (n:ae) (h:bS n):Cm 13 [.agg (U (some g) n)] (.agg (U none n),[.undef]):=by
  have h1:=h.image
  have h2:=h.conn
  have h3:=h.aK
  have h4:=h.wait
  refine Cm.fin Kx fun J=>?_
  rw [Ky]
  simp (disch:=first | omega | exact h.mt | exact h.aM | exact h.sync) only [yG,JZ,UA,WQ,UI,dt,aF,bX,ao,jl,xz,eB,Cf,aH]
theorem WV (g h:Bool) (n:ae) (ok:bS n):Cm 15 [.agg (U (some g) n),.agg (U (some h) n)] (.bool true,[.undef,.undef]):=by
  have h1:=ok.image
  have h2:=ok.conn
  have h3:=ok.aK
  have h4:=ok.wait
  refine Cm.fin Kz fun J=>?_
  rw [KA]
  simp (disch:=first | omega | exact ok.mt | exact ok.aM | exact ok.sync) only [vj,J0,UB,WR,UJ,aF,ao,decide_true,aH,bc,tZ,beq_self_eq_true,fQ]
theorem WW (g:Bool) (n:ae) (left:Int) (h0:0≤left) (h1:left≤1048576) (ln:ta n):Cm 11 [.agg (U (some g) n),.int .i64 left] (.int .i64 (ew n left),[.undef,.undef]):=by
  refine Cm.fin KC fun J=>?_
  rw [KD]
  have l1:=ln.image
  have l2:=ln.conn
  have l3:=ln.aK
  have l4:=ln.wait
  have a1:=iC (n:=n.image.length) h0
  simp (disch:=omega) only [rO,bX,ao]
  refine ja (f:=fun v=>aO 36 _ _) fun p1=>?_
  have a2:=FQ (m:=n.mt) p1 (by omega)
  simp (disch:=first | omega | exact ln.mt) only [WS,bX,ao]
  refine ja (f:=fun v=>aO 37 _ _) fun p2=>?_
  have a3:=C9 (s:=n.aM) p2 (by omega)
  simp (disch:=first | omega | exact ln.a | exact ln.b) only [UK,bX,ao]
  refine ja (f:=fun v=>aO 38 _ _) fun p3=>?_
  have a4:=iC (n:=n.conn.length) p3
  simp (disch:=omega) only [JY,bX,ao]
  refine ja (f:=fun v=>aO 39 _ _) fun p4=>?_
  have a5:=N6 (xss:=n.sync) p4 (by omega)
  simp (disch:=first | omega | exact ln.sync | exact ln.syn) only [J1,bX,ao]
  refine ja (f:=fun v=>aO 38 _ _) fun p5=>?_
  have a6:=iC (n:=n.aK.length) p5
  simp (disch:=omega) only [JY,bX,ao]
  refine ja (f:=fun v=>aO 35 _ _) fun p6=>?_
  simp (disch:=omega) only [rO,bX,ao]
  exact ja (f:=fun v=>some (.int .i64 v,[.undef,.undef])) fun _=>rfl
end Go.Proofs.YtockoilcnmljiaaGreat
namespace Go.Proofs.YtockoilcnmljiaaGreat
set_option maxRecDepth 100000
section
variable (pr:dT) (cv:Cv Rz) (J:Nat→St→Option Rz)
theorem Pe:Told cfg Tryz.prog 69 Tryz.f69:=⟨by kernel_rfl,Tryz.func69,by kernel_rfl⟩
theorem Pf (a0:Int) (a1:Int) (a2:Int):aQ pr cv J 69 Tryz.f69 [(.int .i64 a0),(.int .i64 a1),(.int .i64 a2)]=
    (br (pr.le a1 a0) (some ((.bool (pr.le a0 a2)),[.undef,.undef,.undef])) (some ((.bool false),[.undef,.undef,.undef]))):=by kernel_rfl
theorem Pg:Told cfg Tryz.prog 75 Tryz.f75:=⟨by kernel_rfl,Tryz.func75,by kernel_rfl⟩
theorem Ph (a0:Int) (a1:Int) (a2:Int):aQ pr cv J 75 Tryz.f75 [(.int .i64 a0),(.int .i64 a1),(.int .i64 a2)]=
    (br (pr.le a1 a0) (some ((.bool (pr.le a0 a2)),[.undef,.undef,.undef])) (some ((.bool false),[.undef,.undef,.undef]))):=by kernel_rfl
end
theorem Pj (a b c:Int):Cm 75 [.int .i64 a,.int .i64 b,.int .i64 c] (.bool (decide (b≤a∧a≤c)),[.undef,.undef,.undef]):=by
  refine Cm.fin Pg fun J=>?_
  rw [Ph]
  by_cases h:b≤a
  · rw [Ce h,yD]
    simp only [h,true_and]
  · simp (disch:=omega) only [oW,h,false_and,decide_false]
theorem acs (a b c:Int):Cm 69 [.int .i64 a,.int .i64 b,.int .i64 c] (.bool (decide (b≤a∧a≤c)),[.undef,.undef,.undef]):=by
  refine Cm.fin Pe fun J=>?_
  rw [Pf]
  by_cases h:b≤a
  · rw [Ce h,yD]
    simp only [h,true_and]
  · simp (disch:=omega) only [oW,h,false_and,decide_false]
section
variable (t:bG Rz)
theorem iu (a b c:Int):aO 75 [.int .i64 a,.int .i64 b,.int .i64 c] t=feed t [.bool (decide (b≤a∧a≤c))]:=aT (Pj a b c) (by kernel_rfl) t
theorem kD (a b c:Int):aO 69 [.int .i64 a,.int .i64 b,.int .i64 c] t=feed t [.bool (decide (b≤a∧a≤c))]:=aT (acs a b c) (by kernel_rfl) t
end
end Go.Proofs.YtockoilcnmljiaaGreat
namespace Go.Proofs.YtockoilcnmljiaaGreat
set_option maxRecDepth 100000
def vk (xs:List Int):Prop:=∀ x∈xs,vf x=true
section
variable (t:bG Rz)
theorem N8 (g:Bool) (n:ae) (h:bS n):aO 13 [.agg (U (some g) n)] t=feed t [enc .node n]:=bO (r:=enc .node n) (s:=.ty .node) (ss:=[.undef]) (WU g n h) (by kernel_rfl) (av _ _) (by simp only [ai,aJ,aj,Bool.and_self]) (au _ _) rfl t
theorem N9 (g h:Bool) (n:ae) (ok:bS n):aO 15 [.agg (U (some g) n),.agg (U (some h) n)] t=feed t [.bool true]:=aT (WV g h n ok) (by kernel_rfl) t
theorem DY (g:Bool) (n:ae) (left:Int) (h0:0≤left) (h1:left≤1048576) (ln:ta n):aO 11 [.agg (U (some g) n),.int .i64 left] t=feed t [.int .i64 (ew n left)]:=aT (WW g n left h0 h1 ln) (by kernel_rfl) t
end
end Go.Proofs.YtockoilcnmljiaaGreat
namespace Go.Proofs.YtockoilcnmljiaaGreat
set_option maxRecDepth 100000
theorem HZ {n:Int} (h:(Lit.int .i64 n).wf=true):vf n=true:=by
  simp [Lit.wf,IntKind.min,IntKind.max,IntKind.bits,IntKind.signed] at h
  rw [WG]
  omega
abbrev UL:Sh:=.sl 8 (.int .i64)
abbrev sh8:Sh:=.sl 1 (.int .u8)
abbrev shB:Sh:=.sl 1 .bool
abbrev shR:Sh:=.sl 24 (.sl 8 (.int .i64))
abbrev acx:Sh:=.ag [UL,shR,.bool,.bool,.bool,.int .i64]
abbrev ZP:Sh:=.ag [sh8,sh8]
abbrev UM:Sh:=.ag [.int .i64,.bool,.bool,UL,acx,ZP,shB,shR,shB,UL]
theorem Sf {ds:List D} (h:WT UL ds):∃ xs,ds=[sI (some false) xs]∧xs.length≤17592186044416∧vk xs:=by
  obtain ⟨es,rfl,he,hx⟩:=h
  have key:∀ es:List (List D),(∀ x∈es,WT (.int .i64) x)→∃ xs,es.flatten=ints xs∧xs.length=es.length∧vk xs:=by
    intro es
    induction es with
    | nil=>intro _; exact ⟨[],rfl,rfl,by simp [vk]⟩
    | cons e es ih=>
      intro h
      obtain ⟨n,rfl,hn⟩:=h e (by simp)
      obtain ⟨xs,h1,h2,h3⟩:=ih (fun x hx=>h x (by simp [hx]))
      refine ⟨n::xs,by rw [List.flatten_cons,h1]; rfl,by simp [h2],fun x hx=>?_⟩
      rcases List.mem_cons.1 hx with rfl | hx
      · exact HZ hn
      · exact h3 x hx
  obtain ⟨xs,h1,h2,h3⟩:=key es hx
  refine ⟨xs,by rw [h1,← h2]; rfl,?_,h3⟩
  have:reachBytes=140737488351232:=rfl
  omega
theorem acy {ds:List D} (h:WT sh8 ds):∃ xs,ds=[s8 (some false) xs]∧xs.length≤140737488351232:=by
  obtain ⟨es,rfl,he,hx⟩:=h
  have key:∀ es:List (List D),(∀ x∈es,WT (.int .u8) x)→∃ xs,es.flatten=bytes xs∧xs.length=es.length:=by
    intro es
    induction es with
    | nil=>intro _; exact ⟨[],rfl,rfl⟩
    | cons e es ih=>
      intro h
      obtain ⟨n,rfl,hn⟩:=h e (by simp)
      obtain ⟨xs,h1,h2⟩:=ih (fun x hx=>h x (by simp [hx]))
      simp [Lit.wf,IntKind.min,IntKind.max,IntKind.bits,IntKind.signed] at hn
      refine ⟨UInt8.ofNat n.toNat::xs,?_,by simp [h2]⟩
      rw [List.flatten_cons,h1]
      have:((UInt8.ofNat n.toNat).toNat:Int)=n:=by simp only [UInt8.toNat_ofNat']; omega
      simp only [bytes,List.map_cons,dq,this]
      rfl
  obtain ⟨xs,h1,h2⟩:=key es hx
  refine ⟨xs,by rw [h1,← h2]; rfl,?_⟩
  have:reachBytes=140737488351232:=rfl
  omega
theorem acz {ds:List D} (h:WT shB ds):∃ xs,ds=[sB (some false) xs]∧xs.length≤140737488351232:=by
  obtain ⟨es,rfl,he,hx⟩:=h
  have key:∀ es:List (List D),(∀ x∈es,WT .bool x)→∃ xs,es.flatten=aD xs∧xs.length=es.length:=by
    intro es
    induction es with
    | nil=>intro _; exact ⟨[],rfl,rfl⟩
    | cons e es ih=>
      intro h
      obtain ⟨n,rfl⟩:=h e (by simp)
      obtain ⟨xs,h1,h2⟩:=ih (fun x hx=>h x (by simp [hx]))
      exact ⟨n::xs,by rw [List.flatten_cons,h1]; rfl,by simp [h2]⟩
  obtain ⟨xs,h1,h2⟩:=key es hx
  refine ⟨xs,by rw [h1,← h2]; rfl,?_⟩
  have:reachBytes=140737488351232:=rfl
  omega
theorem acA {ds:List D} (h:WT shR ds):∃ xs,ds=[sR (some false) xs]∧xs.length≤140737488355328∧(∀ x∈xs,x.length≤140737488355328)∧∀ x∈xs,vk x:=by
  obtain ⟨es,rfl,he,hx⟩:=h
  have key:∀ es:List (List D),(∀ x∈es,WT UL x)→∃ xs,es.flatten=rows (some false) xs∧xs.length=es.length∧(∀ x∈xs,x.length≤140737488355328)∧∀ x∈xs,vk x:=by
    intro es
    induction es with
    | nil=>intro _; exact ⟨[],rfl,rfl,by simp,by simp⟩
    | cons e es ih=>
      intro h
      obtain ⟨n,rfl,hn,h4⟩:=Sf (h e (by simp))
      obtain ⟨xs,h1,h2,h3,h5⟩:=ih (fun x hx=>h x (by simp [hx]))
      refine ⟨n::xs,by rw [List.flatten_cons,h1]; rfl,by simp [h2],fun x hx=>?_,fun x hx=>?_⟩
      · rcases List.mem_cons.1 hx with rfl | hx
        · omega
        · exact h3 x hx
      · rcases List.mem_cons.1 hx with rfl | hx
        · exact h4
        · exact h5 x hx
  obtain ⟨xs,h1,h2,h3,h4⟩:=key es hx
  refine ⟨xs,by rw [h1,← h2]; rfl,?_,h3,h4⟩
  have:reachBytes=140737488351232:=rfl
  omega
structure Oa (n:ae):Prop where
  id:vf n.id=true
  last:vf n.mt.last=true
  image:vk n.image
  ay:vk n.mt.ay
  bits:∀ x∈n.mt.bits,vk x
  sync:∀ x∈n.sync,vk x
  wait:vk n.wait
theorem ZQ {ds:List D} (h:WT UM ds):∃ n:ae,ds=U (some false) n∧ta n∧Oa n:=by
  obtain ⟨_,_,rfl,⟨id,rfl,UN⟩,_,_,rfl,⟨up,rfl⟩,_,_,rfl,⟨cE,rfl⟩,_,_,rfl,agA,_,_,rfl,hmt,_,_,rfl,gq,_,_,rfl,aej,_,_,rfl,aek,_,_,rfl,agB,_,_,rfl,ael,rfl⟩:=h
  obtain ⟨image,rfl,l1,i1⟩:=Sf agA
  obtain ⟨_,_,rfl,hg,_,_,rfl,hb,_,_,rfl,⟨cI,rfl⟩,_,_,rfl,⟨bN,rfl⟩,_,_,rfl,⟨held,rfl⟩,_,_,rfl,⟨last,rfl,aem⟩,rfl⟩:=hmt
  obtain ⟨ay,rfl,l2,i2⟩:=Sf hg
  obtain ⟨bits,rfl,l3,l3',i3⟩:=acA hb
  obtain ⟨_,_,rfl,ha,_,_,rfl,fO,rfl⟩:=gq
  obtain ⟨a,rfl,l4⟩:=acy ha
  obtain ⟨b,rfl,l5⟩:=acy fO
  obtain ⟨conn,rfl,l6⟩:=acz aej
  obtain ⟨sync,rfl,l7,l7',i7⟩:=acA aek
  obtain ⟨aK,rfl,l8⟩:=acz agB
  obtain ⟨wait,rfl,l9,i9⟩:=Sf ael
  refine ⟨⟨id,up,cE,image,⟨ay,bits,cI,bN,held,last⟩,⟨a,b⟩,conn,sync,aK,wait⟩,rfl,⟨?_,⟨?_,l3,l3'⟩,?_,?_,?_,l7,l7',?_,?_⟩,⟨HZ UN,HZ aem,i1,i2,i3,i7,i9⟩⟩<;>simp only<;>omega
theorem gQ (b:Bool):∀ xs:List Int,cA b (ints xs)=ints xs
  | []=>rfl
  | x::xs=>by
    have ih:=gQ b xs
    simp only [ints] at ih
    simp only [ints,List.map_cons,cA,iw,ih]
theorem iv (b:Bool):∀ xs:List UInt8,cA b (bytes xs)=bytes xs
  | []=>rfl
  | x::xs=>by
    have ih:=iv b xs
    simp only [bytes] at ih
    simp only [bytes,List.map_cons,cA,dq,iw,ih]
theorem kE (b:Bool):∀ xs:List Bool,cA b (aD xs)=aD xs
  | []=>rfl
  | x::xs=>by
    have ih:=kE b xs
    simp only [aD] at ih
    simp only [aD,List.map_cons,cA,iw,ih]
theorem iD (b:Bool):∀ xs:List (List Int),cA b (rows none xs)=rows (some b) xs
  | []=>rfl
  | x::xs=>by
    have ih:=iD b xs
    simp only [rows] at ih
    simp only [rows,List.map_cons,cA,iw,ih,gQ]
end Go.Proofs.YtockoilcnmljiaaGreat
