/- What these proofs stand on, part 4: an abstract machine on plain data, its soundness, and the contracts of functions. -/
import Derived.Test.YtockoilcnmljiaaGreatChecked
import Derived.KernelRfl
import Derived.SizedLaws
import Derived.ChangeOld
import Derived.Test.YtockoilcnmljiaaGreatMc
set_option linter.all false
set_option linter.unusedSimpArgs false
set_option linter.unusedVariables false
set_option linter.unnecessarySimpa false
set_option linter.unusedSectionVars false
namespace Go.Proofs.YtockoilcnmljiaaGreat
def bs (l:List UInt8):ByteArray:=⟨l.toArray⟩
def ints (xs:List Int):List D:=xs.map (.int .i64)
def bytes (xs:List UInt8):List D:=xs.map dE
def bI (xs:List Bool):List D:=xs.map .bool
def U {α:Type} (e:α→List D) (xs:List α):List D:=xs.flatMap e
structure bj where
  aP:List Int
  bits:List (List Int)
  dq:Bool
  cg:Bool
  held:Bool
  last:Int
structure bc where
  a:List UInt8
  b:List UInt8
structure ae where
  id:Int
  up:Bool
  cU:Bool
  image:List Int
  mt:bj
  cJ:bc
  conn:List Bool
  sync:List (List Int)
  bV:List Bool
  wait:List Int
abbrev sI (g:Option Bool) (xs:List Int):D:=.sl g 1 xs.length (ints xs)
abbrev s8 (g:Option Bool) (xs:List UInt8):D:=.sl g 1 xs.length (bytes xs)
abbrev sB (g:Option Bool) (xs:List Bool):D:=.sl g 1 xs.length (bI xs)
def rows (g:Option Bool) (xss:List (List Int)):List D:=xss.map fun xs=>.sl g 1 xs.length (ints xs)
abbrev sR (g:Option Bool) (xss:List (List Int)):D:=.sl g 1 xss.length (rows g xss)
abbrev cL (g:Option Bool) (m:bj):List D:=[sI g m.aP,sR g m.bits,.bool m.dq,.bool m.cg,.bool m.held,.int .i64 m.last]
abbrev eF (g:Option Bool) (s:bc):List D:=[s8 g s.a,s8 g s.b]
abbrev ab (g:Option Bool) (n:ae):List D:=[.int .i64 n.id,.bool n.up,.bool n.cU,sI g n.image,sI g n.mt.aP,sR g n.mt.bits,.bool n.mt.dq,.bool n.mt.cg,.bool n.mt.held,.int .i64 n.mt.last,s8 g n.cJ.a,s8 g n.cJ.b,sB g n.conn,sR g n.sync,sB g n.bV,sI g n.wait]
structure dm where
  src:Int
  dst:Int
  bytes:List UInt8
structure fg where
  cell:Int
  up:Int
structure ai where
  nodes:List ae
  ay:List dm
  log:List fg
  safe:List Int
  gen:Int
abbrev aw (g:Option Bool) (x:dm):List D:=[.int .i64 x.src,.int .i64 x.dst,s8 g x.bytes]
abbrev aK (_:Option Bool) (r:fg):List D:=[.int .i64 r.cell,.int .i64 r.up]
abbrev sN (g:Option Bool) (xs:List ae):D:=.sl g 16 xs.length (U (ab g) xs)
abbrev sW (g:Option Bool) (xs:List dm):D:=.sl g 3 xs.length (U (aw g) xs)
abbrev sK (g:Option Bool) (xs:List fg):D:=.sl g 2 xs.length (U (aK g) xs)
abbrev bn (g:Option Bool) (w:ai):List D:=[sN g w.nodes,sW g w.ay,sK g w.log,sI g w.safe,.int .i64 w.gen]
structure wh where
  kind:Int
  cell:Int
  val:Int
  who:Int
  aP:List Int
structure z8 where
  src:Int
  dst:Int
  msg:wh
structure rz where
  kind:Int
  a:Int
  b:Int
abbrev JD (g:Option Bool) (m:wh):List D:=[.int .i64 m.kind,.int .i64 m.cell,.int .i64 m.val,.int .i64 m.who,sI g m.aP]
abbrev DV (g:Option Bool) (p:z8):List D:=[.int .i64 p.src,.int .i64 p.dst,.int .i64 p.msg.kind,.int .i64 p.msg.cell,.int .i64 p.msg.val,.int .i64 p.msg.who,sI g p.msg.aP]
abbrev DW (_:Option Bool) (d:rz):List D:=[.int .i64 d.kind,.int .i64 d.a,.int .i64 d.b]
abbrev sP (g:Option Bool) (xs:List z8):D:=.sl g 7 xs.length (U (DV g) xs)
abbrev sM (g:Option Bool) (xs:List wh):D:=.sl g 5 xs.length (U (JD g) xs)
abbrev sD (g:Option Bool) (xs:List rz):D:=.sl g 3 xs.length (U (DW g) xs)
inductive eO where
  | I | B | L | R | mt | cJ | node | msg | post | world | T3 | yi | Ns | Ws | Ks | Ps | Ms | Ds
abbrev eO.T:eO→Type
  | .I=>List Int
  | .B=>List UInt8
  | .L=>List Bool
  | .R=>List (List Int)
  | .mt=>bj
  | .cJ=>bc
  | .node=>ae
  | .msg=>wh
  | .post=>z8
  | .world=>ai
  | .T3=>rz
  | .yi=>dm
  | .Ns=>List ae
  | .Ws=>List dm
  | .Ks=>List fg
  | .Ps=>List z8
  | .Ms=>List wh
  | .Ds=>List rz
def enc:(k:eO)→k.T→D
  | .I,x=>sI none x
  | .B,x=>s8 none x
  | .L,x=>sB none x
  | .R,x=>sR none x
  | .mt,x=>.agg (cL none x)
  | .cJ,x=>.agg (eF none x)
  | .node,x=>.agg (ab none x)
  | .msg,x=>.agg (JD none x)
  | .post,x=>.agg (DV none x)
  | .world,x=>.agg (bn none x)
  | .T3,x=>.agg (DW none x)
  | .yi,x=>.agg (aw none x)
  | .Ns,x=>sN none x
  | .Ws,x=>sW none x
  | .Ks,x=>sK none x
  | .Ps,x=>sP none x
  | .Ms,x=>sM none x
  | .Ds,x=>sD none x
theorem map_inj {α:Type} {f:α→D} (h:∀ a b,f a=f b→a=b):∀ {xs ys:List α},xs.map f=ys.map f→xs=ys
  | [],[],_=>rfl
  | [],_::_,e=>by simp at e
  | _::_,[],e=>by simp at e
  | x::xs,y::ys,e=>by
    simp only [List.map_cons,List.cons.injEq] at e
    rw [h _ _ e.1,map_inj h e.2]
theorem mQ {xs ys:List Int} (h:ints xs=ints ys):xs=ys:=map_inj (fun a b e=>by simpa using e) h
theorem bytes_inj {xs ys:List UInt8} (h:bytes xs=bytes ys):xs=ys:=map_inj (fun a b e=>by
  simp only [dE,D.int.injEq,true_and] at e
  exact UInt8.toNat_inj.1 (by omega)) h
theorem B6 {xs ys:List Bool} (h:bI xs=bI ys):xs=ys:=map_inj (fun a b e=>by simpa using e) h
theorem Aa {g:Option Bool} {xs ys:List (List Int)} (h:rows g xs=rows g ys):xs=ys:=map_inj (fun a b e=>by
  simp only [D.sl.injEq] at e
  exact mQ e.2.2.2) h
theorem PQ {α:Type} {e:α→List D} {w:Nat} (hw:∀ x,(e x).length=w) (h:∀ a b,e a=e b→a=b):∀ {xs ys:List α},xs.length=ys.length→U e xs=U e ys→xs=ys
  | [],[],_,_=>rfl
  | [],_::_,hl,_=>by simp at hl
  | _::_,[],hl,_=>by simp at hl
  | x::xs,y::ys,hl,he=>by
    simp only [U,List.flatMap_cons] at he
    have h1:=List.append_inj he (by rw [hw,hw])
    rw [h _ _ h1.1,PQ hw h (by simpa using hl) h1.2]
theorem VO {g:Option Bool} {a b:bj} (h:cL g a=cL g b):a=b:=by
  obtain ⟨a1,a2,a3,a4,a5,a6⟩:=a
  obtain ⟨b1,b2,b3,b4,b5,b6⟩:=b
  simp only [List.cons.injEq,D.sl.injEq,D.bool.injEq,D.int.injEq,true_and,and_true] at h
  rw [mQ h.1.2,Aa h.2.1.2,h.2.2.1,h.2.2.2.1,h.2.2.2.2.1,h.2.2.2.2.2]
theorem T4 {g:Option Bool} {a b:bc} (h:eF g a=eF g b):a=b:=by
  obtain ⟨a1,a2⟩:=a
  obtain ⟨b1,b2⟩:=b
  simp only [List.cons.injEq,D.sl.injEq,true_and,and_true] at h
  rw [bytes_inj h.1.2,bytes_inj h.2.2]
theorem B7 {g:Option Bool} {a b:ae} (h:ab g a=ab g b):a=b:=by
  obtain ⟨a1,a2,a3,a4,a5,⟨a6,a7⟩,a8,a9,a10,a11⟩:=a
  obtain ⟨b1,b2,b3,b4,b5,⟨b6,b7⟩,b8,b9,ie,b11⟩:=b
  obtain ⟨c1,c2,c3,c4,c5,c6⟩:=a5
  obtain ⟨d1,d2,d3,d4,d5,d6⟩:=b5
  simp only [List.cons.injEq,D.sl.injEq,D.bool.injEq,D.int.injEq,true_and,and_true] at h
  obtain ⟨h1,h2,h3,⟨_,h4⟩,⟨_,h5⟩,⟨_,h6⟩,h7,h8,h9,nb,⟨_,Oz⟩,⟨_,h12⟩,⟨_,h13⟩,⟨_,h14⟩,⟨_,h15⟩,⟨_,h16⟩⟩:=h
  rw [h1,h2,h3,mQ h4,mQ h5,Aa h6,h7,h8,h9,nb,bytes_inj Oz,bytes_inj h12,B6 h13,Aa h14,B6 h15,mQ h16]
theorem B8 {g:Option Bool} {a b:dm} (h:aw g a=aw g b):a=b:=by
  obtain ⟨a1,a2,a3⟩:=a
  obtain ⟨b1,b2,b3⟩:=b
  simp only [List.cons.injEq,D.sl.injEq,D.int.injEq,true_and,and_true] at h
  rw [h.1,h.2.1,bytes_inj h.2.2.2]
theorem PR {g:Option Bool} {a b:fg} (h:aK g a=aK g b):a=b:=by
  obtain ⟨a1,a2⟩:=a
  obtain ⟨b1,b2⟩:=b
  simp only [List.cons.injEq,D.int.injEq,true_and,and_true] at h
  rw [h.1,h.2]
theorem PS {g:Option Bool} {a b:wh} (h:JD g a=JD g b):a=b:=by
  obtain ⟨a1,a2,a3,a4,a5⟩:=a
  obtain ⟨b1,b2,b3,b4,b5⟩:=b
  simp only [List.cons.injEq,D.sl.injEq,D.int.injEq,true_and,and_true] at h
  rw [h.1,h.2.1,h.2.2.1,h.2.2.2.1,mQ h.2.2.2.2.2]
theorem LF {g:Option Bool} {a b:z8} (h:DV g a=DV g b):a=b:=by
  obtain ⟨x,y,⟨a1,a2,a3,a4,a5⟩⟩:=a
  obtain ⟨z,w,⟨b1,b2,b3,b4,b5⟩⟩:=b
  simp only [List.cons.injEq,D.sl.injEq,D.int.injEq,true_and,and_true] at h
  rw [h.1,h.2.1,h.2.2.1,h.2.2.2.1,h.2.2.2.2.1,h.2.2.2.2.2.1,mQ h.2.2.2.2.2.2.2]
theorem LG {g:Option Bool} {a b:rz} (h:DW g a=DW g b):a=b:=by
  obtain ⟨a1,a2,a3⟩:=a
  obtain ⟨b1,b2,b3⟩:=b
  simp only [List.cons.injEq,D.int.injEq,true_and,and_true] at h
  rw [h.1,h.2.1,h.2.2]
theorem rA {α:Type} {e:α→List D} {w s:Nat} (hw:∀ x,(e x).length=w) (h:∀ a b,e a=e b→a=b) {xs ys:List α} (he:D.sl none s xs.length (U e xs)=.sl none s ys.length (U e ys)):xs=ys:=by
  simp only [D.sl.injEq,true_and] at he
  exact PQ hw h he.1 he.2
theorem ab5:∀ {k:eO} {x y:k.T},enc k x=enc k y→x=y
  | .I,_,_,h=>mQ (D.sl.inj h).2.2.2
  | .B,_,_,h=>bytes_inj (D.sl.inj h).2.2.2
  | .L,_,_,h=>B6 (D.sl.inj h).2.2.2
  | .R,_,_,h=>Aa (D.sl.inj h).2.2.2
  | .mt,_,_,h=>VO (D.agg.inj h)
  | .cJ,_,_,h=>T4 (D.agg.inj h)
  | .node,_,_,h=>B7 (D.agg.inj h)
  | .msg,_,_,h=>PS (D.agg.inj h)
  | .post,_,_,h=>LF (D.agg.inj h)
  | .world,x,y,h=>by
    obtain ⟨a1,a2,a3,a4,a5⟩:=x
    obtain ⟨b1,b2,b3,b4,b5⟩:=y
    have h:=D.agg.inj h
    simp only [List.cons.injEq,D.int.injEq,true_and,and_true] at h
    rw [rA (w:=16) (fun _=>rfl) (fun _ _=>B7) h.1,rA (w:=3) (fun _=>rfl) (fun _ _=>B8) h.2.1,rA (w:=2) (fun _=>rfl) (fun _ _=>PR) h.2.2.1,mQ (D.sl.inj h.2.2.2.1).2.2.2,h.2.2.2.2]
  | .T3,_,_,h=>LG (g:=none) (D.agg.inj h)
  | .yi,_,_,h=>B8 (D.agg.inj h)
  | .Ns,_,_,h=>rA (w:=16) (fun _=>rfl) (fun _ _=>B7) h
  | .Ws,_,_,h=>rA (w:=3) (fun _=>rfl) (fun _ _=>B8) h
  | .Ks,_,_,h=>rA (w:=2) (fun _=>rfl) (fun _ _=>PR) h
  | .Ps,_,_,h=>rA (w:=7) (fun _=>rfl) (fun _ _=>LF) h
  | .Ms,_,_,h=>rA (w:=5) (fun _=>rfl) (fun _ _=>PS) h
  | .Ds,_,_,h=>rA (w:=3) (fun _=>rfl) (fun _ _=>LG (g:=none)) h
theorem yH {ds:List D} (h:∀ d∈ds,bZ d=true):cq ds=true:=by
  induction ds with
  | nil=>rfl
  | cons d ds ih=>
    simp only [cq,Bool.and_eq_true]
    exact ⟨h d (by simp),ih fun x hx=>h x (by simp [hx])⟩
theorem tB (xs:List Int):cq (ints xs)=true:=yH (by intro d hd; obtain ⟨a,_,rfl⟩:=List.mem_map.1 hd; rfl)
theorem DX (xs:List UInt8):cq (bytes xs)=true:=yH (by intro d hd; obtain ⟨a,_,rfl⟩:=List.mem_map.1 hd; rfl)
theorem T5 (xs:List Bool):cq (bI xs)=true:=yH (by intro d hd; obtain ⟨a,_,rfl⟩:=List.mem_map.1 hd; rfl)
theorem Oa (xs:List (List Int)):cq (rows none xs)=true:=yH (by intro d hd; obtain ⟨a,_,rfl⟩:=List.mem_map.1 hd; simp [bZ,tB])
theorem u4 {α:Type} {e:α→List D} (h:∀ x,cq (e x)=true) (xs:List α):cq (U e xs)=true:=yH (by
  intro d hd
  obtain ⟨a,_,ha⟩:=List.mem_flatMap.1 hd
  have:=h a
  generalize e a=l at this ha
  induction l with
  | nil=>simp at ha
  | cons x l ih=>
    simp only [cq,Bool.and_eq_true] at this
    rcases List.mem_cons.1 ha with rfl | ha
    · exact this.1
    · exact ih this.2 ha)
theorem aaf (x:ae):cq (ab none x)=true:=by simp [cq,bZ,tB,DX,T5,Oa]
theorem aag (x:dm):cq (aw none x)=true:=by simp [cq,bZ,DX]
theorem aah (x:fg):cq (aK none x)=true:=by simp [cq,bZ]
theorem agj (x:z8):cq (DV none x)=true:=by simp [cq,bZ,tB]
theorem agk (x:wh):cq (JD none x)=true:=by simp [cq,bZ,tB]
theorem agl (x:rz):cq (DW none x)=true:=by simp [cq,bZ]
theorem au:∀ (k:eO) (x:k.T),dG (enc k x)=true
  | .I,x=>by simp [dG,enc,bY,cY,eD,bZ,tB]
  | .B,x=>by simp [dG,enc,bY,cY,eD,bZ,DX]
  | .L,x=>by simp [dG,enc,bY,cY,eD,bZ,T5]
  | .R,x=>by simp [dG,enc,bY,cY,eD,bZ,Oa]
  | .mt,x=>by simp [dG,enc,bY,cY,eD,bZ,tB,Oa]
  | .cJ,x=>by simp [dG,enc,bY,cY,eD,bZ,DX]
  | .node,x=>by simp [dG,enc,bY,cY,eD,bZ,tB,DX,T5,Oa]
  | .msg,x=>by simp [dG,enc,bY,cY,eD,bZ,tB]
  | .post,x=>by simp [dG,enc,bY,cY,eD,bZ,tB]
  | .world,x=>by simp [dG,enc,bY,cY,eD,bZ,tB,u4 aaf,u4 aag,u4 aah]
  | .T3,x=>by simp [dG,enc,bY,cY,eD,bZ]
  | .yi,x=>by simp [dG,enc,bY,cY,eD,bZ,DX]
  | .Ns,x=>by simp [dG,enc,bY,cY,eD,bZ,u4 aaf]
  | .Ws,x=>by simp [dG,enc,bY,cY,eD,bZ,u4 aag]
  | .Ks,x=>by simp [dG,enc,bY,cY,eD,bZ,u4 aah]
  | .Ps,x=>by simp [dG,enc,bY,cY,eD,bZ,u4 agj]
  | .Ms,x=>by simp [dG,enc,bY,cY,eD,bZ,u4 agk]
  | .Ds,x=>by simp [dG,enc,bY,cY,eD,bZ,u4 agl]
def SF (v:D):Bool:=(match v with | .agg cs=>cs | d=>[d]).all fun x=>eD x&&bZ x
theorem aV:dG (.bf [])=true:=rfl
theorem aW (v:D) (vs:List D):dG (.bf (v::vs))=(SF v&&dG (.bf vs)):=by
  simp only [dG,bY,cY,List.flatMap_cons,List.all_append,SF]
  rfl
theorem bB (k:eO) (x:k.T):SF (enc k x)=true:=by
  have:=au k x
  cases k<;>exact this
theorem bC (k:IntKind) (n:Int):SF (.int k n)=true:=rfl
theorem aX (b:Bool):SF (.bool b)=true:=rfl
theorem bD (b:ByteArray):SF (.str b)=true:=rfl
end Go.Proofs.YtockoilcnmljiaaGreat
namespace Go.Proofs.YtockoilcnmljiaaGreat
inductive RS where
  | int (k:IntKind)
  | bool
  | str
  | sl (s:Nat)
  | jT (s:Nat)
  | undef
  | agg (l:List RS)
  | bf (l:List RS)
  | bp (l:List RS)
  | ty (k:eO)
inductive bS (R:Type) where
  | done (x:Option R)
  | int (f:Int→bS R)
  | bool (f:Bool→bS R)
  | str (f:ByteArray→bS R)
  | sl (f:Nat→List D→bS R)
  | jT (f:Bool→Nat→List D→bS R)
  | ty (k:eO) (f:k.T→bS R)
section
variable {R:Type}
mutual
def rB:RS→(D→bS R)→bS R
  | .int k,f=>.int fun x=>f (.int k x)
  | .bool,f=>.bool fun x=>f (.bool x)
  | .str,f=>.str fun x=>f (.str x)
  | .sl s,f=>.sl fun n cs=>f (.sl none s n cs)
  | .jT s,f=>.jT fun _ n cs=>f (.sl (some false) s n cs)
  | .undef,f=>f .undef
  | .agg l,f=>B9 l fun ds=>f (.agg ds)
  | .bf l,f=>B9 l fun ds=>f (.bf ds)
  | .bp l,f=>B9 l fun ds=>f (.bp ds)
  | .ty k,f=>.ty k fun x=>f (enc k x)
def B9:List RS→(List D→bS R)→bS R
  | [],f=>f []
  | s::ss,f=>rB s fun d=>B9 ss fun ds=>f (d::ds)
end
open Classical in
noncomputable def feed:bS R→List D→Option R
  | .done x,_=>x
  | .int f,.int _ n::l=>feed (f n) l
  | .bool f,.bool b::l=>feed (f b) l
  | .str f,.str s::l=>feed (f s) l
  | .sl f,.sl none _ n cs::l=>feed (f n cs) l
  | .jT f,.sl (some g) _ n cs::l=>feed (f g n cs) l
  | .ty k f,d::l=>if h:∃ x,d=enc k x then feed (f (Classical.choose h)) l else none
  | _,_=>none
end
mutual
def ta:D→List D
  | .agg ds=>xP ds
  | .bf ds=>xP ds
  | .bp ds=>xP ds
  | .undef=>[]
  | d=>[d]
def xP:List D→List D
  | []=>[]
  | d::ds=>ta d++xP ds
end
open Classical in
mutual
noncomputable def fh:RS→D→Bool
  | .int k,.int k' _=>fo k k'
  | .bool,.bool _=>true
  | .str,.str _=>true
  | .sl s,.sl none s' _ _=>s==s'
  | .jT s,.sl (some false) s' _ _=>s==s'
  | .undef,.undef=>true
  | .agg l,.agg ds=>jU l ds
  | .bf l,.bf ds=>jU l ds
  | .bp l,.bp ds=>jU l ds
  | .ty k,d=>decide (∃ x,d=enc k x)
  | _,_=>false
noncomputable def jU:List RS→List D→Bool
  | [],[]=>true
  | s::ss,d::ds=>fh s d&&jU ss ds
  | _,_=>false
end
open Classical in
theorem av (k:eO) (x:k.T):fh (.ty k) (enc k x)=true:=by
  simp only [fh]
  exact decide_eq_true ⟨x,rfl⟩
theorem bE (k:IntKind) (n:Int):fh (.int k) (.int k n)=true:=by simp [fh,fo]
theorem aY (b:Bool):fh .bool (.bool b)=true:=by simp [fh]
theorem bF (b:ByteArray):fh .str (.str b)=true:=by simp [fh]
theorem bG (l:List RS) (ds:List D):fh (.bf l) (.bf ds)=jU l ds:=by simp [fh]
theorem ak:jU [] []=true:=by simp [jU]
theorem ah (s:RS) (ss:List RS) (d:D) (ds:List D):jU (s::ss) (d::ds)=(fh s d&&jU ss ds):=by simp [jU]
theorem aM:fh .undef .undef=true:=by simp [fh]
mutual
def gp:RS→D→List D
  | .agg l,.agg ds=>oF l ds
  | .bf l,.bf ds=>oF l ds
  | .bp l,.bp ds=>oF l ds
  | .undef,_=>[]
  | _,d=>[d]
def oF:List RS→List D→List D
  | s::ss,d::ds=>gp s d++oF ss ds
  | _,_=>[]
end
mutual
def wi:RS→Bool
  | .ty _=>true
  | .agg l=>wj l
  | .bf l=>wj l
  | .bp l=>wj l
  | _=>false
def wj:List RS→Bool
  | []=>false
  | s::ss=>wi s||wj ss
end
mutual
theorem PT:∀ {s:RS} {d:D},fh s d=true→wi s=false→gp s d=ta d
  | .int k,d,h,_=>by cases d<;>simp [fh,fo] at h; simp [gp,ta]
  | .bool,d,h,_=>by cases d<;>simp [fh] at h; simp [gp,ta]
  | .str,d,h,_=>by cases d<;>simp [fh] at h; simp [gp,ta]
  | .sl s,d,h,_=>by cases d<;>simp [fh] at h; simp [gp,ta]
  | .jT s,d,h,_=>by cases d<;>simp [fh] at h; simp [gp,ta]
  | .undef,d,h,_=>by cases d<;>simp [fh] at h; simp [gp,ta]
  | .ty k,d,h,ht=>by simp [wi] at ht
  | .agg ss,d,h,ht=>by
    cases d with
    | agg ds=>rw [gp,ta]; exact tY (by simpa [fh] using h) (by simpa [wi] using ht)
    | _=>simp [fh] at h
  | .bf ss,d,h,ht=>by
    cases d with
    | bf ds=>rw [gp,ta]; exact tY (by simpa [fh] using h) (by simpa [wi] using ht)
    | _=>simp [fh] at h
  | .bp ss,d,h,ht=>by
    cases d with
    | bp ds=>rw [gp,ta]; exact tY (by simpa [fh] using h) (by simpa [wi] using ht)
    | _=>simp [fh] at h
theorem tY:∀ {ss:List RS} {ds:List D},jU ss ds=true→wj ss=false→oF ss ds=xP ds
  | [],ds,h,_=>by
    cases ds with
    | nil=>rfl
    | cons d ds=>simp [jU] at h
  | s::ss,ds,h,ht=>by
    cases ds with
    | nil=>simp [jU] at h
    | cons d ds=>
      simp only [jU,Bool.and_eq_true] at h
      simp only [wj,Bool.or_eq_false_iff] at ht
      rw [oF,xP,PT h.1 ht.1,tY h.2 ht.2]
end
section
variable {R:Type}
open Classical in
theorem JE (k:eO) (f:k.T→bS R) (x:k.T) (l:List D):feed (.ty k f) (enc k x::l)=feed (f x) l:=by
  have h:∃ y,enc k x=enc k y:=⟨x,rfl⟩
  have e:Classical.choose h=x:=(ab5 (Classical.choose_spec h)).symm
  show (if h:∃ y,enc k x=enc k y then feed (f (Classical.choose h)) l else none)=_
  rw [dif_pos h,e]
mutual
theorem tZ:∀ {s:RS} {d:D} (f:D→bS R) (l:List D),fh s d=true→feed (rB s f) (gp s d++l)=feed (f d) l
  | .int k,d,f,l,h=>by
    cases d<;>simp [fh,fo] at h
    subst h
    simp [rB,gp,feed]
  | .bool,d,f,l,h=>by
    cases d<;>simp [fh] at h
    simp [rB,gp,feed]
  | .str,d,f,l,h=>by
    cases d<;>simp [fh] at h
    simp [rB,gp,feed]
  | .sl s,d,f,l,h=>by
    cases d with
    | sl g s' n cs=>cases g with
      | none=>simp [fh] at h; subst h; simp [rB,gp,feed]
      | some g=>simp [fh] at h
    | _=>simp [fh] at h
  | .jT s,d,f,l,h=>by
    cases d with
    | sl g s' n cs=>cases g with
      | none=>simp [fh] at h
      | some g=>cases g with
        | true=>simp [fh] at h
        | false=>simp [fh] at h; subst h; simp [rB,gp,feed]
    | _=>simp [fh] at h
  | .undef,d,f,l,h=>by
    cases d<;>simp [fh] at h
    simp [rB,gp]
  | .agg ss,d,f,l,h=>by
    cases d with
    | agg ds=>rw [rB,gp]; exact mH _ l (by simpa [fh] using h)
    | _=>simp [fh] at h
  | .bf ss,d,f,l,h=>by
    cases d with
    | bf ds=>rw [rB,gp]; exact mH _ l (by simpa [fh] using h)
    | _=>simp [fh] at h
  | .bp ss,d,f,l,h=>by
    cases d with
    | bp ds=>rw [rB,gp]; exact mH _ l (by simpa [fh] using h)
    | _=>simp [fh] at h
  | .ty k,d,f,l,h=>by
    have h:∃ x,d=enc k x:=by simpa [fh] using h
    obtain ⟨x,rfl⟩:=h
    rw [rB,gp,List.singleton_append]
    · exact JE k _ x l
    all_goals simp
theorem mH:∀ {ss:List RS} {ds:List D} (f:List D→bS R) (l:List D),jU ss ds=true→feed (B9 ss f) (oF ss ds++l)=feed (f ds) l
  | [],ds,f,l,h=>by
    cases ds with
    | nil=>rfl
    | cons d ds=>simp [jU] at h
  | s::ss,ds,f,l,h=>by
    cases ds with
    | nil=>simp [jU] at h
    | cons d ds=>
      simp only [jU,Bool.and_eq_true] at h
      rw [B9,oF,List.append_assoc,tZ _ _ h.1,mH _ _ h.2]
end
end
noncomputable def lS (c:cD) (P:Program) (f:FuncId) (ds:List D):Option (D × List D):=by
  classical exact if h:∃ r,Comes c P f ds r then some (Classical.choose h) else none
theorem YD {c:cD} {P:Program} {f:FuncId} {ds:List D} {r:D × List D} (h:lS c P f ds=some r):Comes c P f ds r:=by
  unfold lS at h
  split at h
  · rename_i hh
    rw [Option.some.injEq] at h
    rw [← h]
    exact Classical.choose_spec hh
  · simp at h
theorem VP {c:cD} {P:Program} {f:FuncId} {ds:List D} {r r':D × List D} (h:Comes c P f ds r) (h':Comes c P f ds r'):r=r':=by
  obtain ⟨k,hk⟩:=Ev.and h h'
  have h3:=hk k (Nat.le_refl _)
  exact Option.some.inj (h3.1.symm.trans h3.2)
theorem PU {c:cD} {P:Program} {f:FuncId} {ds:List D} {r:D × List D} (h:Comes c P f ds r):lS c P f ds=some r:=by
  unfold lS
  rw [dif_pos ⟨r,h⟩]
  exact congrArg some (VP (Classical.choose_spec (⟨r,h⟩:∃ r,Comes c P f ds r)) h)
structure Sg where
  sig:FuncId→Option (RS × List RS)
  em:FuncId→Bool
abbrev Cv (R:Type):=FuncId→List D→bS R→Option R
noncomputable def eI {R:Type} (c:cD) (P:Program) (sg:Sg):Cv R:=fun g ds t=>
  if g=999999 then feed t ds else
  match lS c P g ds,sg.sig g with
  | some (r,outs),some (s,ss)=>if fh s r&&jU ss outs&&(!(wi s||wj ss)||(dG r&&outs.all dG)) then feed t (gp s r++(oF ss outs++[])) else none
  | _,_=>none
theorem agm {R:Type} {c:cD} {P:Program} {sg:Sg} {g:FuncId} {ds:List D} {r:D} {outs:List D} (t:bS R) (h:Comes c P g ds (r,outs)) (hs:(match sg.sig g with | some (s,ss)=>fh s r&&jU ss outs&&!(wi s||wj ss) | none=>false)=true) (hg:g≠999999):eI c P sg g ds t=feed t (ta r++(xP outs++[])):=by
  unfold eI
  rw [if_neg hg,PU h]
  split at hs
  · rename_i s ss hg
    rw [hg]
    simp only [Bool.and_eq_true,Bool.not_eq_true',Bool.or_eq_false_iff] at hs
    simp only [hs,Bool.and_self,Bool.or_self,Bool.not_false,Bool.true_or,if_true]
    rw [PT hs.1.1 hs.2.1,tY hs.1.2 hs.2.2]
  · simp at hs
theorem agn {R:Type} {c:cD} {P:Program} {sg:Sg} {g:FuncId} {ds:List D} {r:D} {outs:List D} {s:RS} {ss:List RS} (t:bS R) (h:Comes c P g ds (r,outs)) (hs:sg.sig g=some (s,ss)) (h1:fh s r=true) (h2:jU ss outs=true) (h3:dG r=true) (h4:outs.all dG=true) (hg:g≠999999):eI c P sg g ds t=feed t (gp s r++(oF ss outs++[])):=by
  unfold eI
  rw [if_neg hg,PU h,hs]
  simp only [h1,h2,h3,h4,Bool.and_self,Bool.or_true,if_true]
def St.PV (st:St) (r p:Nat) (zs:List D):Option St:=
  match lk st.rt r with
  | some l=>match l[p]? with
    | some (.sl none s n _)=>some { st with rt:=VG st.rt r (l.set p (.sl none s n zs)) }
    | _=>none
  | none=>none
theorem Rj {st:St} {r p:Nat} {ys:List D} (h:st.cells r [p]=some ys):st.PV r p ys=some st:=by
  unfold St.cells at h
  unfold St.PV
  split at h
  case h_2=>simp at h
  rename_i l hl
  simp only [mc] at h
  split at h
  case h_2=>simp at h
  rename_i s n xs hp
  simp only [Option.some.injEq] at h
  subst h
  simp only [hl,hp]
  have e:l.set p (.sl none s n xs)=l:=by
    apply List.ext_getElem?
    intro i
    rw [List.getElem?_set]
    split
    · rename_i hi
      subst hi
      rw [if_pos (List.getElem?_eq_some_iff.1 hp).1,hp]
    · rfl
  rw [e,FZ _ _ _ hl]
section
variable {R:Type} (pr:dr) (c:cD) (sg:Sg) (cv:Cv R) (J:Nat→St→Option R) (aD:FuncId)
def Ob (ct:St) (t:Bool) (dst:Option Nat) (r:D) (k:St→Option R):Option R:=
  match dst with
  | some i=>k ((ct.qX (ct.of+i) (if t then gR true r else r)).1.put (some i) (ct.qX (ct.of+i) (if t then gR true r else r)).2)
  | none=>k ct
def HB (st:St) (r p:Nat) (k:St→Option R):Option R:=
  match st.cells r [p] with
  | some ys=>cv 999999 [.sl none 0 0 ys] (.sl fun _ zs=>.done (match st.PV r p zs with
    | some st'=>k st'
    | none=>none))
  | none=>k st
def HC (st:St) (dst:Option Nat) (g:FuncId) (args:List D) (k:St→Option R):Option R:=
  if g=999999 then none else
  match na st (c.own g) args,sg.sig g with
  | some (ds,aQ),some (s,ss)=>
    br (if pZ (c.own g) ds then true else nlG pr (c.own g) ds)
    (cv g (if pZ (c.own g) ds then kn (c.own g) ds else ds) (rB s fun r=>B9 ss fun outs=>.done (br (match wi s||wj ss with | true=>true | false=>Fa pr r&&outs.all (Fa pr))
      (match oE pr aQ id (c.own g) args (if pZ (c.own g) ds then outs.map (gR true) else outs) with
        | some (q,ct)=>br q (Ob ct (pZ (c.own g) ds) dst r k) none
        | none=>none) none))) none
  | _,_=>none
def Ca (st:St) (dst:Option Nat) (g:FuncId) (sz r p o:Nat) (rest:List D) (k:St→Option R):Option R:=
  if g=999999 then none else
  match st.cells r [p],sg.sig g,(c.own g).headD false&&!(c.own g).tail.any id with
  | some cs,some (s,ss),true=>
    match st.iz r [p] o (.hole sz (pr.aC cs o)) with
    | some aQ=>match vD aQ (c.own g).tail rest with
      | some Oc=>
        br (pr.kC sz cs o) (br (pr.nl (pr.aE cs o))
        (cv g (.sl none sz (pr.aC cs o) (pr.aE cs o)::Oc) (rB s fun res=>B9 ss fun outs=>.done (br (Fa pr res&&outs.all (Fa pr))
          (match outs with
            | .sl none sz' n' cs'::_=>if sz=sz'∧outs.length=rest.length+1 then (match (st.fc (cA r [p] o false)).iz r [p] o (.sl none sz' n' cs') with
              | some ct=>br (pr.neq (pr.aC cs o) n') (HB cv ct r p fun ct=>Ob ct false dst res k) none
              | none=>none) else none
            | _=>none) none))) none) none
      | none=>none
    | none=>none
  | _,_,_=>none
def Od (st:St) (o:Oper) (k:St→Option R):St→Option R:=
  if sg.em aD then (match o.op with
    | .store _ a _=>(match cx c st o.type a with
      | .ptr r [p] _=>fun st'=>HB cv st' r p k
      | _=>k)
    | _=>k) else k
def T6 (st:St) (o:Oper) (k:St→Option R):Option R:=
  match o.op with
  | .call cc=>match cc.callee with
    | .value f=>if cc.args.size≠cc.argTypes.size then none else match cx c st o.type f with
      | .fn g gP=>if c.inl g then none else match sg.em aD,((cc.args.toList.zip cc.argTypes.toList).map fun p=>cx c st p.2 p.1)++gP with
        | true,.ref r [p] o' none::rest=>Ca pr c sg cv st o.dst g (c.esz (cc.argTypes.toList.headD 0)) r p o' rest k
        | _,args=>HC pr c sg cv st o.dst g args k
      | _=>none
    | _=>Sw pr c (fun _ _=>none) yG aD st o k
  | _=>match (if sg.em aD then opE pr c st o else none) with
    | some (g,st')=>br g (Od c sg cv aD st o k st') none
    | none=>Sw pr c (fun _ _=>none) yG aD st o (Od c sg cv aD st o k)
def HD (st:St) (o:Oper) (k:St→Option R):Option R:=
  match x9 c aD st o with
  | true=>T6 pr c sg cv aD st o k
  | false=>none
def pf (all:Array Oper):List Oper→St→(St→Option R)→Option R
  | [],st,k=>k st
  | o::rest,st,k=>match o.guard with
    | none=>HD pr c sg cv aD st o fun st'=>pf all rest st' k
    | some (j,want)=>match (all[j]?).bind (·.dst) with
      | some t=>match st.get t with
        | .bool b=>match want with
          | true=>br b (HD pr c sg cv aD (st.lit t true) o fun st'=>pf all rest st' k) (pf all rest ((st.lit t false).put o.dst (.bf [])) k)
          | false=>br b (pf all rest ((st.lit t true).put o.dst (.bf [])) k) (HD pr c sg cv aD (st.lit t false) o fun st'=>pf all rest st' k)
        | .bf []=>pf all rest (st.put o.dst (.bf [])) k
        | _=>none
      | none=>pf all rest (st.put o.dst (.bf [])) k
def jmp (i:Nat) (st:St):Option R:=match Yz c aD i st with
  | some h=>J i h
  | none=>none
def rC (f:St→Option R) (k:Exit→St→Option R):Exit→St→Option R
  | .normal,st=>f st
  | x,st=>k x st
def wk (id:Nat) (k:Exit→St→Option R):Exit→St→Option R
  | .exit vF,st=>if vF=id then k .normal st else k (.exit vF) st
  | x,st=>k x st
def dM:Code→Nat→St→(Exit→St→Option R)→Option R
  | .skip,_,st,k=>k .normal st
  | .region _ ops false,_,st,k=>pf pr c sg cv aD ops ops.toList st (k .normal)
  | .region _ ops true,_,st,k=>match tp c aD ops ops.size (Array.replicate ops.size false) with
    | some l=>pf pr c sg cv aD ops (opsOf ops l) st (k .normal)
    | none=>none
  | .seq a b,i,st,k=>dM a i st (rC (fun st'=>dM b i st' k) k)
  | .cond x a b,i,st,k=>N9 c st x (fun st=>dM a i st k) (fun st=>dM b i st k)
  | .block id a,_,st,k=>dM a id st (wk id k)
  | .loop _,i,st,_=>jmp c J aD i st
  | .exit id,_,st,k=>k (.exit id) st
  | .ret,_,st,k=>k .ret st
  | _,_,_,_=>none
def dF:Code→Nat→(Exit→St→Option R)→Nat→Option (St→Option R)
  | .seq a b,i,k,j=>match dF a i (rC (fun st'=>dM pr c sg cv J aD b i st' k) k) j with
    | some t=>some t
    | none=>dF b i k j
  | .cond _ a b,i,k,j=>match dF a i k j with
    | some t=>some t
    | none=>dF b i k j
  | .block id a,_,k,j=>dF a id (wk id k) j
  | .loop a,i,k,j=>if i=j then some fun h=>dM pr c sg cv J aD a i h (rC (jmp c J aD i) k)
    else dF a i (rC (jmp c J aD i) k) j
  | _,_,_,_=>none
end
def lT:Code→Nat→List Nat
  | .seq a b,i=>lT a i++lT b i
  | .cond _ a b,i=>lT a i++lT b i
  | .block id a,_=>lT a id
  | .loop a,i=>i::lT a i
  | _,_=>[]
def rD:D→D
  | .bp _=>.bp []
  | .agg cs=>if cs.any iU then .agg [.sl none 0 0 []] else .undef
  | .sl none _ _ _=>.sl none 0 0 []
  | .bf vs=>.bf vs
  | _=>.undef
abbrev Rz:=D × List D
section
variable (pr:dr) (c:cD) (sg:Sg) (cv:Cv Rz) (J:Nat→St→Option Rz) (aD:FuncId)
def F1 (fn:Func) (sk:List D) (x:Exit) (st:St):Option Rz:=UF (c.gone aD) (FY c fn sk x st)
def u5 (fn:Func) (sk:List D) (j:Nat) (h:St):Option Rz:=
  match fn.body with
  | some body=>match dF pr c sg cv J aD body 0 (F1 c aD fn sk) j with
    | some t=>t h
    | none=>none
  | none=>none
def Cb (fn:Func) (args:List D):Option Rz:=
  match fn.body with
  | some body=>dM pr c sg cv J aD body 0 (od fn.ntmps 0 args ⟨[],[],[],0⟩) (F1 c aD fn (args.map rD))
  | none=>none
end
noncomputable def Jn (c:cD) (P:Program) (sg:Sg) (f:FuncId) (fn:Func) (sk:List D):Nat→Nat→St→Option Rz
  | 0=>fun _ _=>none
  | n+1=>fun j h=>u5 ad c sg (eI c P sg) (Jn c P sg f fn sk n) f fn sk j h
def W (c:cD) (P:Program) (sg:Sg) (f:FuncId) (fn:Func) (sk:List D) (j:Nat) (h:St) (r:Rz):Prop:=∃ n,Jn c P sg f fn sk n j h=some r
theorem T7 (st:St) (r:Nat) (d:D):oW st r (rD d)=oW st r d:=by
  cases d with
  | bp cs=>rfl
  | agg cs=>
    by_cases h:cs.any iU=true
    · have e:rD (.agg cs)=.agg [.sl none 0 0 []]:=by simp only [rD,h,if_true]
      have h1:eS (.agg cs)=true:=h
      have h2:eS (.agg [.sl none 0 0 []])=true:=rfl
      rw [e]
      unfold oW
      rw [h1,h2]
    · have e:rD (.agg cs)=.undef:=by simp only [rD,if_neg h]
      have h1:eS (.agg cs)=false:=Bool.eq_false_iff.2 h
      have h2:eS .undef=false:=rfl
      rw [e]
      unfold oW
      rw [h1,h2]
      rfl
  | sl g s n cs=>
    cases g with
    | none=>rfl
    | some g=>rfl
  | bf vs=>rfl
  | _=>rfl
theorem F2 (n:Nat):∀ (i:Nat) (ds:List D) (st:St),pW n i (ds.map rD) st=pW n i ds st
  | _,[],_=>rfl
  | i,d::ds,st=>by
    simp only [List.map_cons,pW,T7]
    split
    · rw [F2 n (i+1) ds st]
    · split
      · rename_i o st' h
        rw [F2 n (i+1) ds st']
      · rfl
theorem ab6 (c:cD) (fn:Func) (args:List D):FY c fn (args.map rD)=FY c fn args:=by
  funext x st
  unfold FY
  simp only [F2,List.length_map]
section
variable {R:Type} {P:Program} {c:cD} (ax:ey c P) {sg:Sg} {aD:FuncId}
include ax
theorem F3 {st:St} {r p:Nat} {k:St→Option R}:HB (eI c P sg) st r p k=k st:=by
  have _:=ax
  unfold HB
  split
  · rename_i ys hys
    unfold eI
    simp only [if_true,feed,Rj hys]
  · rfl
theorem ab7 {st:St} {o:Oper} {k:St→Option R}:Od c sg (eI c P sg) aD st o k=k:=by
  unfold Od
  split
  · split
    · split
      · funext st'
        exact F3 ax
      · rfl
    · rfl
  · rfl
theorem SG {ct:St} {t:Bool} {dst:Option Nat} {r:D} {k:St→Option R} {x:R} (h:Ob ct t dst r k=some x):∃ st',(match dst with
      | some i=>some ((ct.qX (ct.of+i) (if t then gR true r else r)).1.put (some i) (ct.qX (ct.of+i) (if t then gR true r else r)).2)
      | none=>some ct)=some st'∧k st'=some x∧∀ (k':St→Option R),Ob ct t dst r k'=k' st':=by
  have _:=ax
  cases dst with
  | none=>exact ⟨_,rfl,h,fun _=>rfl⟩
  | some i=>exact ⟨_,rfl,h,fun _=>rfl⟩
theorem YE {st:St} {dst:Option Nat} {g:FuncId} {args:List D} {k:St→Option R} {r:R} (h:HC ad c sg (eI c P sg) st dst g args k=some r):∃ st',kJ c (lS c P) st dst g args=some st'∧k st'=some r∧∀ (k':St→Option R) r',k' st'=some r'→HC ad c sg (eI c P sg) st dst g args k'=some r':=by
  unfold HC at h
  split at h
  · simp at h
  rename_i hg
  split at h
  case h_2=>simp at h
  rename_i ds aQ s ss mg PW
  obtain ⟨hl,h⟩:=o3 h
  unfold eI at h
  rw [if_neg hg,PW] at h
  split at h
  case h_2=>simp at h
  rename_i rr outs s' ss' hV vL
  simp only [Option.some.injEq,Prod.mk.injEq] at vL
  obtain ⟨rfl,rfl⟩:=vL
  split at h
  case isFalse=>simp at h
  rename_i cQ
  have YF:=cQ
  simp only [Bool.and_eq_true] at cQ
  obtain ⟨cQ,YG⟩:=cQ
  rw [tZ _ _ cQ.1,mH _ _ cQ.2] at h
  simp only [feed] at h
  obtain ⟨h1,h2⟩:=o3 h
  have hU:(dG rr&&outs.all dG)=true:=by
    have e:Fa ad=dG:=funext Hy
    cases mf:wi s||wj ss with
    | true=>rw [mf] at YG; simpa using YG
    | false=>
      rw [mf] at h1
      rw [← e]
      exact h1
  split at h2
  case h_2=>simp at h2
  rename_i q ct hb
  obtain ⟨hq,h2⟩:=o3 h2
  have ht:fE (c.own g) ds=pZ (c.own g) ds:=by
    cases dp:pZ (c.own g) ds with
    | true=>exact HA dp
    | false=>rw [dp] at hl; exact Fb dp (by simpa using hl)
  obtain ⟨st',k1,k2,k3⟩:=SG ax h2
  refine ⟨st',?_,k2,fun k' r' hk=>?_⟩
  · unfold kJ
    rw [mg]
    simp only [ht,hV,hU,if_true,wg hb hq]
    cases dst with
    | none=>exact k1
    | some i=>exact k1
  · unfold HC
    rw [if_neg hg,mg,PW]
    simp only
    rw [hl]
    simp only [br]
    unfold eI
    rw [if_neg hg,hV,PW]
    simp only
    rw [if_pos YF,tZ _ _ cQ.1,mH _ _ cQ.2]
    simp only [feed,h1,br,hb,hq]
    rw [k3,hk]
theorem Cc:∀ {b:List Bool} {ds:List D} {st:St},b.any id=false→nr st b ds=some (ds,st)
  | _,[],_,_=>rfl
  | b,d::ds,st,h=>by
    have _:=ax
    have hb:b.headD false=false∧b.tail.any id=false:=by
      cases b with
      | nil=>simp
      | cons x xs=>simpa using h
    simp only [nr,hb.1,Bool.false_eq_true,if_false,Cc hb.2]
theorem AH:∀ {b:List Bool} {ds os:List D} {st:St} {h:D→D},b.any id=false→ds.length=os.length→iB st h b ds os=some st
  | _,[],_,_,_,_,_=>rfl
  | b,d::ds,[],st,h,hn,hl=>by simp at hl
  | b,d::ds,o::os,st,h,hn,hl=>by
    have _:=ax
    have hb:b.headD false=false∧b.tail.any id=false:=by
      cases b with
      | nil=>simp
      | cons x xs=>simpa using hn
    simp only [iB,hb.1,Bool.false_eq_true,if_false]
    exact AH hb.2 (by simpa using hl)
theorem Fc:∀ {b:List Bool} {ds:List D},b.any id=false→fE b ds=false
  | _,[],_=>rfl
  | b,d::ds,hn=>by
    have _:=ax
    have hb:b.headD false=false∧b.tail.any id=false:=by
      cases b with
      | nil=>simp
      | cons x xs=>simpa using hn
    simp only [fE,hb.1,Bool.false_and,Bool.false_or]
    exact Fc hb.2
theorem T8 {st aQ:St} {r p o:Nat} {cs:List D} {d:D} (hc:st.cells r [p]=some cs) (h:st.iz r [p] o d=some aQ):aQ.cells r [p]=some (cs.set o d):=by
  have _:=ax
  unfold St.cells at hc ⊢
  unfold St.iz at h
  split at h
  case h_2=>simp at h
  rename_i l hl
  rw [hl] at hc
  simp only at hc
  split at h
  case h_2=>simp at h
  rename_i l' hm
  simp only [Option.some.injEq] at h
  subst h
  simp only [kK]
  simp only [mc] at hc
  split at hc
  case h_2=>simp at hc
  rename_i s n xs hp
  simp only [Option.some.injEq] at hc
  subst hc
  simp only [pU,hp,Option.some.injEq] at hm
  subst hm
  have dp:p < l.length:=(List.getElem?_eq_some_iff.1 hp).1
  simp only [mc,List.getElem?_set,dp,if_true]
omit ax in
theorem PX {α:Type}:∀ (l:List (Nat × α)) (k:Nat) (u v:α),pz (pz l k u) k v=pz l k v
  | [],k,u,v=>by simp [pz]
  | (j,w)::t,k,u,v=>by
    simp only [pz]
    split
    · rename_i h
      simp only [pz,if_pos h,PX t k u v]
    · rename_i h
      split
      · simp [pz]
      · simp [pz]
omit ax in
theorem SI {α:Type} (f:α→α):∀ (l:List (Nat × α)) (k:Nat),lk (gg f l) k=(lk l k).map f
  | [],_=>rfl
  | (j,w)::t,k=>by
    simp only [gg,lk]
    split
    · rfl
    · exact SI f t k
theorem T9 {st aQ:St} {r p o:Nat} {h d:D} {b:Bool} (hs:st.iz r [p] o h=some aQ):(aQ.fc (cA r [p] o b)).iz r [p] o d=(st.fc (cA r [p] o b)).iz r [p] o d:=by
  have _:=ax
  unfold St.iz at hs
  split at hs
  case h_2=>simp at hs
  rename_i l hl
  split at hs
  case h_2=>simp at hs
  rename_i l' hm
  simp only [Option.some.injEq] at hs
  subst hs
  simp only [pU] at hm
  split at hm
  case h_2=>simp at hm
  rename_i s n xs hp
  simp only [Option.some.injEq] at hm
  subst hm
  have dp:p < l.length:=(List.getElem?_eq_some_iff.1 hp).1
  have e1:(l.map (fr (cA r [p] o b)))[p]?=some (.sl none s n xs):=by
    rw [List.getElem?_map,hp]
    rfl
  have e2:((l.set p (.sl none s n (xs.set o h))).map (fr (cA r [p] o b)))[p]?=some (.sl none s n (xs.set o h)):=by
    rw [List.getElem?_map,List.getElem?_set]
    simp only [dp,if_true]
    rfl
  have e0:lk (gg (List.map (fr (cA r [p] o b))) st.rt) r=some (l.map (fr (cA r [p] o b))):=by
    rw [SI,hl]
    rfl
  have e3:((l.set p (.sl none s n (xs.set o h))).map (fr (cA r [p] o b))).set p (.sl none s n (xs.set o d))=(l.map (fr (cA r [p] o b))).set p (.sl none s n (xs.set o d)):=by
    rw [List.map_set,List.set_set]
  unfold St.iz
  simp only [St.fc,Jw,kK,e0,pU,e1,e2,List.set_set,e3,PX]
theorem VQ {st:St} {dst:Option Nat} {g:FuncId} {sz a p o:Nat} {rest:List D} {k:St→Option R} {r:R} (h:Ca ad c sg (eI c P sg) st dst g sz a p o rest k=some r):∃ st',kJ c (lS c P) st dst g (.ref a [p] o none::rest)=some st'∧k st'=some r∧∀ (k':St→Option R) r',k' st'=some r'→Ca ad c sg (eI c P sg) st dst g sz a p o rest k'=some r':=by
  unfold Ca at h
  split at h
  · simp at h
  rename_i hg
  split at h
  case h_2=>simp at h
  rename_i cs s ss eM PW jE
  simp only [Bool.and_eq_true,Bool.not_eq_true'] at jE
  split at h
  case h_2=>simp at h
  rename_i aQ jl
  split at h
  case h_2=>simp at h
  rename_i Oc hro
  obtain ⟨nN,h⟩:=o3 h
  obtain ⟨Z6,h⟩:=o3 h
  simp only [F3 ax] at h
  unfold eI at h
  rw [if_neg hg,PW] at h
  split at h
  case h_2=>simp at h
  rename_i rr outs s' ss' hV vL
  simp only [Option.some.injEq,Prod.mk.injEq] at vL
  obtain ⟨rfl,rfl⟩:=vL
  split at h
  case isFalse=>simp at h
  rename_i cQ
  have YF:=cQ
  simp only [Bool.and_eq_true] at cQ
  obtain ⟨cQ,YG⟩:=cQ
  rw [tZ _ _ cQ.1,mH _ _ cQ.2] at h
  simp only [feed] at h
  obtain ⟨h1,h2⟩:=o3 h
  have hU:(dG rr&&outs.all dG)=true:=by
    have e:Fa ad=dG:=funext Hy
    rw [← e]
    exact h1
  split at h2
  case h_2=>simp at h2
  rename_i sz' n' cs' ago
  split at h2
  case isFalse=>simp at h2
  rename_i aiG
  obtain ⟨rfl,U0⟩:=aiG
  split at h2
  case h_2=>simp at h2
  rename_i ct aai
  have VR:=aai
  rw [← T9 ax jl] at VR
  obtain ⟨hq,h2⟩:=o3 h2
  have hn:ad.aC cs o=n':=by simpa [ad] using hq
  obtain ⟨st',k1,k2,k3⟩:=SG ax h2
  have cR:st.cell a [p] o=some (.sl none sz (ad.aC cs o) (ad.aE cs o)):=by
    unfold St.cell
    rw [eM]
    exact JB nN
  have aeG:aQ.cell a [p] o=some (.hole sz (ad.aC cs o)):=by
    have dp:o < cs.length:=(List.getElem?_eq_some_iff.1 (JB nN)).1
    unfold St.cell
    rw [T8 ax eM jl]
    simp only [List.getElem?_set,dp,if_true]
  have mg:na st (c.own g) (.ref a [p] o none::rest)=some (.sl none sz (ad.aC cs o) (ad.aE cs o)::Oc,aQ):=by
    unfold na
    simp only [nr,jE.1,if_true,EG,jn,cR,jl,trim,Cc ax jE.2,vD,hro]
  have agp:fE (c.own g) (.sl none sz (ad.aC cs o) (ad.aE cs o)::Oc)=false:=by
    simp only [fE,Fc ax jE.2,Bool.or_false,jE.1,Bool.true_and,bY,cY,List.all_cons,List.all_nil,Bool.and_true,bZ]
    have:cq (ad.aE cs o)=true:=Z6
    rw [this]
    rfl
  have Hj:iB aQ id (c.own g) (.ref a [p] o none::rest) (.sl none sz n' cs'::ago)=some ct:=by
    simp only [iB,jE.1,if_true,DB,pV,id,aeG]
    simp only [hn,and_self,if_true,VR]
    exact AH ax jE.2 (by simpa using U0.symm)
  refine ⟨st',?_,k2,fun k' r' hk=>?_⟩
  · unfold kJ
    rw [mg]
    simp only [agp,Bool.false_eq_true,if_false,hV,hU,if_true,Hj]
    cases dst with
    | none=>exact k1
    | some i=>exact k1
  · unfold Ca
    simp only [F3 ax]
    rw [if_neg hg,eM,PW]
    simp only [jE.1,jE.2,Bool.not_false,Bool.and_self,jl,hro,nN,Z6,br]
    unfold eI
    rw [if_neg hg,hV,PW]
    simp only
    rw [if_pos YF,tZ _ _ cQ.1,mH _ _ cQ.2]
    simp only [feed,h1,br]
    rw [if_pos ⟨trivial,U0⟩,aai]
    simp only [hq]
    rw [k3,hk]
theorem ab8 {st:St} {o:Oper} {k:St→Option R} {r:R} (h:T6 ad c sg (eI c P sg) aD st o k=some r):∃ st',fu c (lS c P) yG aD st o=some st'∧k st'=some r∧∀ (k':St→Option R) r',k' st'=some r'→T6 ad c sg (eI c P sg) aD st o k'=some r':=by
  have hK:∀ (k:St→Option R),Sw ad c (fun _ _=>none) yG aD st o k=some r→∃ st',fu c (lS c P) yG aD st o=some st'∧k st'=some r∧∀ (k':St→Option R) r',k' st'=some r'→Sw ad c (fun _ _=>none) yG aD st o k'=some r':=by
    intro k h
    have hh:=h
    unfold Sw at h
    split at h
    case h_2=>simp at h
    rename_i hc
    obtain ⟨h1,h2⟩:=o3 h
    split at h2
    · rename_i st' hu
      refine ⟨st',aey ax (by simp) h1 hu,h2,fun k' r' hk=>?_⟩
      unfold Sw
      rw [hc]
      simp only
      rw [h1,hu]
      exact hk
    · simp at h2
  unfold T6 at h ⊢
  simp only [ab7 ax] at h ⊢
  split at h
  · rename_i cc ho
    split at h
    · rename_i f nc
      split at h
      · simp at h
      rename_i cE
      split at h
      case h_2=>simp at h
      rename_i g gP hev
      split at h
      · simp at h
      rename_i mr
      have aq:∀ {args:List D} {st':St},((cc.args.toList.zip cc.argTypes.toList).map fun p=>cx c st p.2 p.1)++gP=args→kJ c (lS c P) st o.dst g args=some st'→fu c (lS c P) yG aD st o=some st':=by
        intro args st' ha hd
        unfold fu
        simp only [ho,nc]
        rw [if_neg cE]
        simp only [hev,if_neg mr,ha]
        exact hd
      split at h
      · rename_i a p o' rest qI aeI
        obtain ⟨st',h1,h2,h3⟩:=VQ ax h
        refine ⟨st',aq aeI h1,h2,fun k' r' hk=>?_⟩
        rw [if_neg cE]
        simp only [hev,if_neg mr,qI,aeI]
        exact h3 k' r' hk
      · rename_i db
        obtain ⟨st',h1,h2,h3⟩:=YE ax h
        refine ⟨st',aq rfl h1,h2,fun k' r' hk=>?_⟩
        rw [if_neg cE]
        simp only [hev,if_neg mr]
        exact h3 k' r' hk
    · rename_i nc
      obtain ⟨st',h1,h2,h3⟩:=hK k h
      refine ⟨st',h1,h2,fun k' r' hk=>?_⟩
      exact h3 k' r' hk
  · rename_i hnc
    split at h
    · rename_i g st' he
      obtain ⟨hg,h2⟩:=o3 h
      split at he
      case isFalse=>simp at he
      refine ⟨st',aeC he hg,h2,fun k' r' hk=>?_⟩
      rw [hg]
      exact hk
    · rename_i he
      obtain ⟨st',h1,h2,h3⟩:=hK k h
      refine ⟨st',h1,h2,fun k' r' hk=>?_⟩
      exact h3 k' r' hk
theorem aeJ {st:St} {o:Oper} {k:St→Option R} {r:R} (h:HD ad c sg (eI c P sg) aD st o k=some r):∃ st',(if x9 c aD st o then fu c (lS c P) yG aD st o else none)=some st'∧k st'=some r∧∀ (k':St→Option R) r',k' st'=some r'→HD ad c sg (eI c P sg) aD st o k'=some r':=by
  unfold HD at h
  split at h
  case h_2=>simp at h
  rename_i hc
  obtain ⟨st',h1,h2,h3⟩:=ab8 ax h
  refine ⟨st',by rw [if_pos hc]; exact h1,h2,fun k' r' hk=>?_⟩
  unfold HD
  rw [hc]
  exact h3 k' r' hk
end
end Go.Proofs.YtockoilcnmljiaaGreat
namespace Go.Proofs.YtockoilcnmljiaaGreat
section
variable {R:Type} {P:Program} {c:cD} (ax:ey c P) {sg:Sg} {aD:FuncId}
include ax
theorem nt {all:Array Oper} {k:St→Option R} {r:R}:∀ {os:List Oper} {st:St},pf ad c sg (eI c P sg) aD all os st k=some r→∃ st',vE c (lS c P) yG aD all os st=some st'∧k st'=some r∧∀ (k':St→Option R) r',k' st'=some r'→pf ad c sg (eI c P sg) aD all os st k'=some r'
  | [],st,h=>⟨st,rfl,h,fun _ _ hk=>hk⟩
  | o::os,st,h=>by
    have run:∀ st,HD ad c sg (eI c P sg) aD st o (fun st'=>pf ad c sg (eI c P sg) aD all os st' k)=some r→∃ st',(if x9 c aD st o then (match fu c (lS c P) yG aD st o with | some st'=>vE c (lS c P) yG aD all os st' | none=>none) else none)=some st'∧k st'=some r∧∀ (k':St→Option R) r',k' st'=some r'→HD ad c sg (eI c P sg) aD st o (fun st'=>pf ad c sg (eI c P sg) aD all os st' k')=some r':=by
      intro st h
      obtain ⟨aQ,h1,h2,h3⟩:=aeJ ax h
      obtain ⟨ct,k1,k2,k3⟩:=nt h2
      refine ⟨ct,?_,k2,fun k' r' hk=>h3 _ _ (k3 k' r' hk)⟩
      split at h1
      case isFalse=>simp at h1
      rename_i hc
      rw [if_pos hc,h1]
      exact k1
    simp only [pf] at h ⊢
    simp only [vE,zC]
    split at h
    · rename_i hg
      rw [hg]
      exact run st h
    · rename_i j want hg
      rw [hg]
      simp only
      split at h
      · rename_i t ht
        rw [ht]
        simp only
        split at h
        · rename_i b hb
          rw [hb]
          simp only
          cases want with
          | true=>
            simp only at h
            rcases oC h with ⟨rfl,h1⟩ | ⟨rfl,h1⟩
            · rw [pL hb] at h1
              obtain ⟨aQ,k1,k2,k3⟩:=run st h1
              refine ⟨aQ,by simp only [beq_self_eq_true]; exact k1,k2,fun k' r' hk=>?_⟩
              simp only [br]
              rw [pL hb]
              exact k3 k' r' hk
            · rw [pL hb] at h1
              obtain ⟨aQ,k1,k2,k3⟩:=nt h1
              refine ⟨aQ,by simpa using k1,k2,fun k' r' hk=>?_⟩
              simp only [br]
              rw [pL hb]
              exact k3 k' r' hk
          | false=>
            simp only at h
            rcases oC h with ⟨rfl,h1⟩ | ⟨rfl,h1⟩
            · rw [pL hb] at h1
              obtain ⟨aQ,k1,k2,k3⟩:=nt h1
              refine ⟨aQ,by simpa using k1,k2,fun k' r' hk=>?_⟩
              simp only [br]
              rw [pL hb]
              exact k3 k' r' hk
            · rw [pL hb] at h1
              obtain ⟨aQ,k1,k2,k3⟩:=run st h1
              refine ⟨aQ,by simp only [beq_self_eq_true]; exact k1,k2,fun k' r' hk=>?_⟩
              simp only [br]
              rw [pL hb]
              exact k3 k' r' hk
        · rename_i hb
          rw [hb]
          exact nt h
        · simp at h
      · rename_i ht
        rw [ht]
        exact nt h
theorem LH {all:Array Oper} {os:List Oper} {st:St} {k k':St→Option R} {r:R} (hk:∀ st r,k st=some r→k' st=some r) (h:pf ad c sg (eI c P sg) aD all os st k=some r):pf ad c sg (eI c P sg) aD all os st k'=some r:=by
  obtain ⟨st',_,h2,h3⟩:=nt ax h
  exact h3 k' r (hk _ _ h2)
theorem F4 {J J':Nat→St→Option R} (hJ:∀ j h r,J j h=some r→J' j h=some r) {i:Nat} {st:St} {r:R} (h:jmp c J aD i st=some r):jmp c J' aD i st=some r:=by
  have _:=ax
  unfold jmp at h ⊢
  split at h
  · exact hJ _ _ _ h
  · simp at h
omit ax in
theorem ub {f f':St→Option R} {k k':Exit→St→Option R} (hf:∀ st r,f st=some r→f' st=some r) (hk:∀ x st r,k x st=some r→k' x st=some r):∀ x st r,rC f k x st=some r→rC f' k' x st=some r:=by
  intro x st r h
  cases x with
  | normal=>exact hf _ _ h
  | _=>exact hk _ _ _ h
omit ax in
theorem Cd {id:Nat} {k k':Exit→St→Option R} (hk:∀ x st r,k x st=some r→k' x st=some r):∀ x st r,wk id k x st=some r→wk id k' x st=some r:=by
  intro x st r h
  cases x with
  | exit vF=>
    simp only [wk] at h ⊢
    split at h
    · rename_i e; rw [if_pos e]; exact hk _ _ _ h
    · rename_i e; rw [if_neg e]; exact hk _ _ _ h
  | _=>exact hk _ _ _ h
theorem Ab {J J':Nat→St→Option R} (hJ:∀ j h r,J j h=some r→J' j h=some r):∀ {code:Code} {i:Nat} {st:St} {k k':Exit→St→Option R} {r:R},(∀ x st r,k x st=some r→k' x st=some r)→dM ad c sg (eI c P sg) J aD code i st k=some r→dM ad c sg (eI c P sg) J' aD code i st k'=some r:=by
  intro code
  induction code with
  | skip=>intro i st k k' r hk h; exact hk _ _ _ h
  | exit id=>intro i st k k' r hk h; exact hk _ _ _ h
  | ret=>intro i st k k' r hk h; exact hk _ _ _ h
  | region id ops draw=>
    intro i st k k' r hk h
    cases draw with
    | false=>
      simp only [dM] at h ⊢
      exact LH ax (hk _) h
    | true=>
      simp only [dM] at h ⊢
      split at h
      · exact LH ax (hk _) h
      · simp at h
  | seq a b eP kT=>
    intro i st k k' r hk h
    simp only [dM] at h ⊢
    exact eP (ub (fun st r hx=>kT hk hx) hk) h
  | cond v a b eP kT=>
    intro i st k k' r hk h
    simp only [dM,N9] at h ⊢
    split at h
    · split at h
      · rcases oC h with ⟨rfl,h1⟩ | ⟨rfl,h1⟩
        · exact eP hk h1
        · exact kT hk h1
      · simp at h
    · split at h
      · rcases oC h with ⟨rfl,h1⟩ | ⟨rfl,h1⟩
        · exact eP hk h1
        · exact kT hk h1
      · simp at h
  | block id a eP=>
    intro i st k k' r hk h
    simp only [dM] at h ⊢
    exact eP (Cd hk) h
  | loop a eP=>intro i st k k' r hk h; exact F4 ax hJ h
  | _=>intro i st k k' r hk h; simp [dM] at h
end
section
variable {R:Type} {pr:dr} {c:cD} {sg:Sg} {cv:Cv R} {J:Nat→St→Option R} {aD:FuncId}
theorem uc:∀ {code:Code} {i:Nat} {k:Exit→St→Option R} {j:Nat} {t:St→Option R},dF pr c sg cv J aD code i k j=some t→j∈lT code i:=by
  intro code
  induction code with
  | seq a b eP kT=>
    intro i k j t h
    simp only [dF] at h
    rw [lT,List.mem_append]
    split at h
    · rename_i t' ht
      exact .inl (eP ht)
    · exact .inr (kT h)
  | cond v a b eP kT=>
    intro i k j t h
    simp only [dF] at h
    rw [lT,List.mem_append]
    split at h
    · rename_i t' ht
      exact .inl (eP ht)
    · exact .inr (kT h)
  | block id a eP=>intro i k j t h; simp only [dF] at h; rw [lT]; exact eP h
  | loop a eP=>
    intro i k j t h
    simp only [dF] at h
    rw [lT,List.mem_cons]
    split at h
    · rename_i hij; exact .inl hij.symm
    · exact .inr (eP h)
  | _=>intro i k j t h; simp [dF] at h
end
section
variable {R:Type} {pr:dr} {c:cD} {sg:Sg} {cv:Cv R} {J J':Nat→St→Option R} {aD:FuncId}
theorem u6:∀ {code:Code} {i:Nat} {k k':Exit→St→Option R} {j:Nat},dF pr c sg cv J aD code i k j=none→dF pr c sg cv J' aD code i k' j=none:=by
  intro code
  induction code with
  | seq a b eP kT=>
    intro i k k' j h
    simp only [dF] at h ⊢
    split at h
    · simp at h
    · rename_i h1
      rw [eP h1]
      exact kT h
  | cond v a b eP kT=>
    intro i k k' j h
    simp only [dF] at h ⊢
    split at h
    · simp at h
    · rename_i h1
      rw [eP h1]
      exact kT h
  | block id a eP=>intro i k k' j h; simp only [dF] at h ⊢; exact eP h
  | loop a eP=>
    intro i k k' j h
    simp only [dF] at h ⊢
    split at h
    · simp at h
    · rename_i e
      rw [if_neg e]
      exact eP h
  | _=>intro i k k' j h; rfl
end
section
variable {P:Program} {c:cD} (ax:ey c P) {sg:Sg} {f:FuncId} {fn:Func} {sk:List D} {body:Code} (tA:fn.body=some body)
include ax
theorem Ua {J J':Nat→St→Option Rz} (hJ:∀ j h r,J j h=some r→J' j h=some r):∀ {code:Code} {i:Nat} {k k':Exit→St→Option Rz} {j:Nat} {t:St→Option Rz},(∀ x st r,k x st=some r→k' x st=some r)→dF ad c sg (eI c P sg) J f code i k j=some t→∃ t',dF ad c sg (eI c P sg) J' f code i k' j=some t'∧∀ h r,t h=some r→t' h=some r:=by
  intro code
  induction code with
  | seq a b eP kT=>
    intro i k k' j t hk h
    simp only [dF] at h ⊢
    have PY:=ub (f:=fun st'=>dM ad c sg (eI c P sg) J f b i st' k) (f':=fun st'=>dM ad c sg (eI c P sg) J' f b i st' k') (fun st r hx=>Ab ax hJ hk hx) hk
    split at h
    · rename_i t1 h1
      obtain ⟨t',h2,h3⟩:=eP PY h1
      rw [h2]
      simp only [Option.some.injEq] at h
      subst h
      exact ⟨t',rfl,h3⟩
    · rename_i h1
      rw [u6 h1]
      exact kT hk h
  | cond v a b eP kT=>
    intro i k k' j t hk h
    simp only [dF] at h ⊢
    split at h
    · rename_i t1 h1
      obtain ⟨t',h2,h3⟩:=eP hk h1
      rw [h2]
      simp only [Option.some.injEq] at h
      subst h
      exact ⟨t',rfl,h3⟩
    · rename_i h1
      rw [u6 h1]
      exact kT hk h
  | block id a eP=>
    intro i k k' j t hk h
    simp only [dF] at h ⊢
    exact eP (Cd hk) h
  | loop a eP=>
    intro i k k' j t hk h
    simp only [dF] at h ⊢
    have PY:=ub (f:=jmp c J f i) (f':=jmp c J' f i) (fun st r hx=>F4 ax hJ hx) hk
    split at h
    · rename_i e
      simp only [Option.some.injEq] at h
      subst h
      rw [if_pos e]
      exact ⟨_,rfl,fun hh r hr=>Ab ax hJ PY hr⟩
    · rename_i e
      rw [if_neg e]
      exact eP PY h
  | _=>intro i k k' j t hk h; simp [dF] at h
theorem DY:∀ {n m:Nat},n≤m→∀ j h r,Jn c P sg f fn sk n j h=some r→Jn c P sg f fn sk m j h=some r
  | 0,_,_,j,h,r,hh=>by simp [Jn] at hh
  | n+1,0,hle,_,_,_,_=>absurd hle (by omega)
  | n+1,m+1,hle,j,h,r,hh=>by
    have ih:∀ j h r,Jn c P sg f fn sk n j h=some r→Jn c P sg f fn sk m j h=some r:=DY (by omega)
    simp only [Jn,u5] at hh ⊢
    split at hh
    case h_2=>simp at hh
    rename_i body hb
    split at hh
    case h_2=>simp at hh
    rename_i t ht
    obtain ⟨t',h1,h2⟩:=Ua ax ih (fun _ _ _ h=>h) ht
    rw [h1]
    exact h2 _ _ hh
include tA
theorem YH:∀ {code:Code} {n i:Nat} {st:St} {k:(Nat→St→Option Rz)→Exit→St→Option Rz} {r:Rz},
    (∀ J J':Nat→St→Option Rz,(∀ j h r,J j h=some r→J' j h=some r)→∀ x st r,k J x st=some r→k J' x st=some r)→
    (lT code i).Nodup→
    (∀ m j t,dF ad c sg (eI c P sg) (Jn c P sg f fn sk m) f code i (k (Jn c P sg f fn sk m)) j=some t→dF ad c sg (eI c P sg) (Jn c P sg f fn sk m) f body 0 (F1 c f fn sk) j=some t)→
    dM ad c sg (eI c P sg) (Jn c P sg f fn sk n) f code i st (k (Jn c P sg f fn sk n))=some r→∃ x st',TY c P f code i st (x,st')∧k (Jn c P sg f fn sk n) x st'=some r:=by
  intro code
  have tr:∀ {ops:Array Oper} {l:List Nat} {st st':St},iC c (lS c P) yG f ops l st=some st'→Ev fun k=>iC c (og c P k).1 (og c P k).2 f ops l st=some st':=
    fun h=>DT (fun f ds r hh=>YD hh) (fun f ds n st r hh=>by simp [yG] at hh) h
  induction code with
  | skip=>intro n i st k r _ _ _ h; exact ⟨_,_,Ev.of fun _=>rfl,h⟩
  | exit id=>intro n i st k r _ _ _ h; exact ⟨_,_,Ev.of fun _=>rfl,h⟩
  | ret=>intro n i st k r _ _ _ h; exact ⟨_,_,Ev.of fun _=>rfl,h⟩
  | region id ops draw=>
    intro n i st k r _ _ _ h
    cases draw with
    | false=>
      simp only [dM] at h
      obtain ⟨st',h1,h2,_⟩:=nt ax h
      rw [zV] at h1
      refine ⟨.normal,st',(tr h1).mono fun n hn=>?_,h2⟩
      simp only [eX,zV,hn]
    | true=>
      simp only [dM] at h
      split at h
      case h_2=>simp at h
      rename_i l hl
      obtain ⟨st',h1,h2,_⟩:=nt ax h
      rw [DS] at h1
      refine ⟨.normal,st',(tr h1).mono fun n hn=>?_,h2⟩
      simp only [eX,hl,hn]
  | seq a b eP kT=>
    intro n i st k r hk hn hc h
    simp only [dM] at h
    rw [lT,List.nodup_append] at hn
    obtain ⟨x,aQ,h1,h2⟩:=eP (k:=fun J=>rC (fun st'=>dM ad c sg (eI c P sg) J f b i st' (k J)) (k J)) (fun J J' hJ=>ub (fun st r hx=>Ab ax hJ (hk J J' hJ) hx) (hk J J' hJ)) hn.1 (fun m j t ht=>hc m j t (by simp only [dF]; rw [ht])) h
    cases x with
    | normal=>
      simp only [rC] at h2
      obtain ⟨y,ct,h3,h4⟩:=kT hk hn.2.1 (fun m j t ht=>hc m j t (by
        simp only [dF]
        split
        · rename_i t' pF
          exact absurd rfl (hn.2.2 j (uc pF) j (uc ht))
        · exact ht)) h2
      exact ⟨y,ct,(Ev.and h1 h3).mono fun n hn=>by simp only [eX]; rw [hn.1]; exact hn.2,h4⟩
    | _=>exact ⟨_,aQ,Ev.mono h1 fun n hn=>by simp only [eX]; rw [hn],h2⟩
  | cond v a b eP kT=>
    intro n i st k r hk hn hc h
    simp only [dM,N9] at h
    rw [lT,List.nodup_append] at hn
    have fin:∀ {t:Bool},cx c st 0 v=.bool t→(t=true→dM ad c sg (eI c P sg) (Jn c P sg f fn sk n) f a i st (k (Jn c P sg f fn sk n))=some r)→(t=false→dM ad c sg (eI c P sg) (Jn c P sg f fn sk n) f b i st (k (Jn c P sg f fn sk n))=some r)→∃ x st',TY c P f (.cond v a b) i st (x,st')∧k (Jn c P sg f fn sk n) x st'=some r:=by
      intro t ht h1 h2
      cases t with
      | true=>
        obtain ⟨x,st',h3,h4⟩:=eP hk hn.1 (fun m j t ht=>hc m j t (by simp only [dF]; rw [ht])) (h1 rfl)
        exact ⟨x,st',Ev.mono h3 fun n hn=>by simp only [eX,ht,if_true]; exact hn,h4⟩
      | false=>
        obtain ⟨x,st',h3,h4⟩:=kT hk hn.2.1 (fun m j t ht=>hc m j t (by
          simp only [dF]
          split
          · rename_i t' pF
            exact absurd rfl (hn.2.2 j (uc pF) j (uc ht))
          · exact ht)) (h2 rfl)
        exact ⟨x,st',Ev.mono h3 fun n hn=>by simp only [eX,ht,Bool.false_eq_true,if_false]; exact hn,h4⟩
    split at h
    · rename_i t
      split at h
      · rename_i b' hb
        refine fin (t:=b') hb (fun e=>?_) (fun e=>?_)
        · subst e
          rcases oC h with ⟨_,h1⟩ | ⟨e2,_⟩
          · rw [pL hb] at h1; exact h1
          · simp at e2
        · subst e
          rcases oC h with ⟨e2,_⟩ | ⟨_,h1⟩
          · simp at e2
          · rw [pL hb] at h1; exact h1
      · simp at h
    · split at h
      · rename_i hv
        refine fin hv (fun e=>?_) (fun e=>?_)
        · subst e; exact h
        · subst e; exact h
      · simp at h
  | block id a eP=>
    intro n i st k r hk hn hc h
    simp only [dM] at h
    obtain ⟨x,aQ,h1,h2⟩:=eP (k:=fun J=>wk id (k J)) (fun J J' hJ=>Cd (hk J J' hJ)) hn (fun m j t ht=>hc m j t (by simp only [dF]; exact ht)) h
    cases x with
    | exit vF=>
      simp only [wk] at h2
      by_cases he:vF=id
      · rw [if_pos he] at h2
        exact ⟨.normal,aQ,Ev.mono h1 fun n hn=>by simp only [eX]; rw [hn]; simp [he],h2⟩
      · rw [if_neg he] at h2
        exact ⟨.exit vF,aQ,Ev.mono h1 fun n hn=>by simp only [eX]; rw [hn]; simp [he],h2⟩
    | _=>exact ⟨_,aQ,Ev.mono h1 fun n hn=>by simp only [eX]; rw [hn],h2⟩
  | loop a eP=>
    intro n i st k r hk hn hc h
    rw [lT,List.nodup_cons] at hn
    have key:∀ (n:Nat) (st:St),jmp c (Jn c P sg f fn sk n) f i st=some r→∃ x st',TZ c P f a i st (x,st')∧k (Jn c P sg f fn sk n) x st'=some r:=by
      intro n
      induction n with
      | zero=>
        intro st h
        unfold jmp at h
        split at h
        · simp [Jn] at h
        · simp at h
      | succ m ih=>
        intro st h
        unfold jmp at h
        split at h
        case h_2=>simp at h
        rename_i hd Hd
        simp only [Jn,u5] at h
        rw [tA] at h
        simp only at h
        have ht:=hc m i _ (by simp only [dF,if_true]; rfl)
        rw [ht] at h
        simp only at h
        obtain ⟨x,aQ,h1,h2⟩:=eP (k:=fun J=>rC (jmp c J f i) (k J)) (fun J J' hJ=>ub (fun st r hx=>F4 ax hJ hx) (hk J J' hJ)) hn.2 (fun m j t ht=>hc m j t (by
              simp only [dF]
              have db:i≠j:=fun e=>hn.1 (by rw [e]; rw [e] at ht; exact uc ht)
              rw [if_neg db]
              exact ht)) h
        cases x with
        | normal=>
          obtain ⟨y,ct,⟨q,h3⟩,h4⟩:=ih aQ h2
          refine ⟨y,ct,⟨q+1,(Ev.and h1 h3).mono fun k hk m hm=>?_⟩,hk _ _ (DY ax (Nat.le_succ m)) _ _ _ h4⟩
          obtain ⟨m,rfl⟩:∃ m',m=m'+1:=⟨m - 1,by omega⟩
          simp only [uW,Hd,hk.1]
          exact hk.2 m (by omega)
        | _=>
          refine ⟨_,aQ,⟨1,Ev.mono h1 fun k hk m hm=>?_⟩,hk _ _ (DY ax (Nat.le_succ m)) _ _ _ h2⟩
          obtain ⟨m,rfl⟩:∃ m',m=m'+1:=⟨m - 1,by omega⟩
          simp only [uW,Hd,hk]
    simp only [dM] at h
    obtain ⟨x,st',h1,h2⟩:=key n st h
    exact ⟨x,st',h1.code,h2⟩
  | _=>intro n i st k r _ _ _ h; simp [dM] at h
end
structure Told (c:cD) (P:Program) (f:FuncId) (fn:Func):Prop where
  ext:c.ext f=none
  func:P.funcs[f]?=some fn
  ids:(match fn.body with | some b=>decide (lT b 0).Nodup | none=>false)=true
section
variable {P:Program} {c:cD} (ax:ey c P) {sg:Sg} {f:FuncId} {fn:Func} {sk:List D}
include ax
theorem W.go {j j':Nat} {h h':St} {r:Rz} (hw:W c P sg f fn sk j' h' r) (ht:∀ J:Nat→St→Option Rz,J j' h'=some r→u5 ad c sg (eI c P sg) J f fn sk j h=some r):W c P sg f fn sk j h r:=by
  have _:=ax
  obtain ⟨n,hn⟩:=hw
  exact ⟨n+1,ht _ hn⟩
theorem W.fin {j:Nat} {h:St} {r:Rz} (ht:∀ J:Nat→St→Option Rz,u5 ad c sg (eI c P sg) J f fn sk j h=some r):W c P sg f fn sk j h r:=by
  have _:=ax
  exact ⟨1,ht _⟩
theorem Ce (ok:Told c P f fn) {args:List D} {r:Rz} {n:Nat} (h:Cb ad c sg (eI c P sg) (Jn c P sg f fn (args.map rD) n) f fn args=some r):Comes c P f args r:=by
  unfold Cb at h
  split at h
  case h_2=>simp at h
  rename_i body hb
  have aeK:=ok.ids
  rw [hb] at aeK
  obtain ⟨x,st,h1,h2⟩:=YH ax hb (k:=fun _=>F1 c f fn (args.map rD)) (fun J J' _ x st r h=>h) (of_decide_eq_true aeK) (fun m j t ht=>ht) h
  obtain ⟨k0,h1⟩:=h1
  refine ⟨k0+1,fun k hk=>?_⟩
  obtain ⟨k,rfl⟩:∃ m,k=m+1:=⟨k - 1,by omega⟩
  unfold F1 at h2
  obtain ⟨r',h2,h5⟩:∃ r',FY c fn (args.map rD) x st=some r'∧UF (c.gone f) (some r')=some r:=by
    cases hf:FY c fn (args.map rD) x st with
    | none=>rw [hf] at h2; simp [UF] at h2
    | some r'=>rw [hf] at h2; exact ⟨r',rfl,h2⟩
  show zE c P (og c P k).1 (og c P k).2 k f args=some r
  unfold zE
  rw [ok.ext]
  simp only
  rw [← h5]
  congr 1
  unfold N2
  rw [ok.ext,ok.func]
  simp only
  rw [hb]
  simp only
  rw [h1 k (by omega)]
  simp only
  rw [ab6] at h2
  unfold FY at h2
  obtain ⟨h3,h4⟩:=VK h2
  rw [if_pos h3]
  exact h4
theorem Comes.go (ok:Told c P f fn) {args:List D} {j:Nat} {h:St} {r:Rz} (hw:W c P sg f fn (args.map rD) j h r) (ht:∀ J:Nat→St→Option Rz,J j h=some r→Cb ad c sg (eI c P sg) J f fn args=some r):Comes c P f args r:=by
  obtain ⟨n,hn⟩:=hw
  exact Ce ax ok (ht _ hn)
theorem Comes.fin (ok:Told c P f fn) {args:List D} {r:Rz} (ht:∀ J:Nat→St→Option Rz,Cb ad c sg (eI c P sg) J f fn args=some r):Comes c P f args r:=
  Ce ax ok (sg:=sg) (n:=0) (ht _)
end
end Go.Proofs.YtockoilcnmljiaaGreat
namespace Go.Proofs.YtockoilcnmljiaaGreat
section
variable {P:Program} {c:cD} (ax:ey c P) {sg:Sg} {f:FuncId} {r:Rz} {J:Nat→St→Option Rz} {J':Nat→Nat→St→Option Rz} (hJ:∀ j h,J j h=some r→Ev fun m=>J' m j h=some r)
include ax hJ
theorem Ac:∀ {code:Code} {i:Nat} {st:St} {k:Exit→St→Option Rz} {k':Nat→Exit→St→Option Rz},(∀ x st,k x st=some r→Ev fun m=>k' m x st=some r)→dM ad c sg (eI c P sg) J f code i st k=some r→Ev fun m=>dM ad c sg (eI c P sg) (J' m) f code i st (k' m)=some r:=by
  intro code
  induction code with
  | skip=>intro i st k k' hk h; exact hk _ _ h
  | exit id=>intro i st k k' hk h; exact hk _ _ h
  | ret=>intro i st k k' hk h; exact hk _ _ h
  | region id ops draw=>
    intro i st k k' hk h
    cases draw with
    | false=>
      simp only [dM] at h ⊢
      obtain ⟨st',_,h2,h3⟩:=nt ax h
      exact (hk _ _ h2).mono fun m hm=>h3 _ _ hm
    | true=>
      simp only [dM] at h ⊢
      split at h
      · obtain ⟨st',_,h2,h3⟩:=nt ax h
        exact (hk _ _ h2).mono fun m hm=>h3 _ _ hm
      · simp at h
  | seq a b eP kT=>
    intro i st k k' hk h
    simp only [dM] at h ⊢
    refine eP (k':=fun m=>rC (fun st'=>dM ad c sg (eI c P sg) (J' m) f b i st' (k' m)) (k' m)) (fun x st hx=>?_) h
    cases x with
    | normal=>exact kT hk hx
    | _=>exact hk _ _ hx
  | cond v a b eP kT=>
    intro i st k k' hk h
    simp only [dM,N9] at h ⊢
    split at h
    · split at h
      · rename_i hv
        rcases oC h with ⟨rfl,h1⟩ | ⟨rfl,h1⟩
        · exact eP hk h1
        · exact kT hk h1
      · simp at h
    · split at h
      · rcases oC h with ⟨rfl,h1⟩ | ⟨rfl,h1⟩
        · exact eP hk h1
        · exact kT hk h1
      · simp at h
  | block id a eP=>
    intro i st k k' hk h
    simp only [dM] at h ⊢
    refine eP (k':=fun m=>wk id (k' m)) (fun x st hx=>?_) h
    cases x with
    | exit vF=>
      simp only [wk] at hx ⊢
      split at hx
      · rename_i e; simp only [e,if_true]; exact hk _ _ hx
      · rename_i e; simp only [if_neg e]; exact hk _ _ hx
    | _=>exact hk _ _ hx
  | loop a eP=>
    intro i st k k' hk h
    simp only [dM,jmp] at h ⊢
    split at h
    · exact hJ _ _ h
    · simp at h
  | _=>intro i st k k' hk h; simp [dM] at h
theorem Ub:∀ {code:Code} {i:Nat} {k:Exit→St→Option Rz} {k':Nat→Exit→St→Option Rz} {j:Nat} {t:St→Option Rz} {h:St},(∀ x st,k x st=some r→Ev fun m=>k' m x st=some r)→dF ad c sg (eI c P sg) J f code i k j=some t→t h=some r→Ev fun m=>∃ t',dF ad c sg (eI c P sg) (J' m) f code i (k' m) j=some t'∧t' h=some r:=by
  intro code
  induction code with
  | seq a b eP kT=>
    intro i k k' j t h hk ht hr
    simp only [dF] at ht ⊢
    split at ht
    · rename_i t1 h1
      simp only [Option.some.injEq] at ht
      subst ht
      refine (eP (k':=fun m=>rC (fun st'=>dM ad c sg (eI c P sg) (J' m) f b i st' (k' m)) (k' m)) (fun x st hx=>?_) h1 hr).mono fun m hm=>?_
      · cases x with
        | normal=>exact Ac ax hJ hk hx
        | _=>exact hk _ _ hx
      · obtain ⟨t',h2,h3⟩:=hm
        exact ⟨t',by rw [h2],h3⟩
    · rename_i h1
      refine (kT hk ht hr).mono fun m hm=>?_
      rw [u6 h1]
      exact hm
  | cond v a b eP kT=>
    intro i k k' j t h hk ht hr
    simp only [dF] at ht ⊢
    split at ht
    · rename_i t1 h1
      simp only [Option.some.injEq] at ht
      subst ht
      refine (eP hk h1 hr).mono fun m hm=>?_
      obtain ⟨t',h2,h3⟩:=hm
      exact ⟨t',by rw [h2],h3⟩
    · rename_i h1
      refine (kT hk ht hr).mono fun m hm=>?_
      rw [u6 h1]
      exact hm
  | block id a eP=>
    intro i k k' j t h hk ht hr
    simp only [dF] at ht ⊢
    refine eP (k':=fun m=>wk id (k' m)) (fun x st hx=>?_) ht hr
    cases x with
    | exit vF=>
      simp only [wk] at hx ⊢
      split at hx
      · rename_i e; simp only [e,if_true]; exact hk _ _ hx
      · rename_i e; simp only [if_neg e]; exact hk _ _ hx
    | _=>exact hk _ _ hx
  | loop a eP=>
    intro i k k' j t h hk ht hr
    simp only [dF] at ht ⊢
    have PY:∀ x st,rC (jmp c J f i) k x st=some r→Ev fun m=>rC (jmp c (J' m) f i) (k' m) x st=some r:=by
      intro x st hx
      cases x with
      | normal=>
        simp only [rC,jmp] at hx ⊢
        split at hx
        · exact hJ _ _ hx
        · simp at hx
      | _=>exact hk _ _ hx
    split at ht
    · rename_i e
      simp only [Option.some.injEq] at ht
      subst ht
      refine (Ac ax hJ PY hr).mono fun m hm=>?_
      rw [if_pos e]
      exact ⟨_,rfl,hm⟩
    · rename_i e
      simp only [if_neg e]
      exact eP PY ht hr
  | _=>intro i k k' j t h hk ht hr; simp [dF] at ht
end
section
variable {P:Program} {c:cD} (ax:ey c P) {sg:Sg} {f:FuncId} {fn:Func} {sk:List D} {r:Rz}
include ax
theorem W.ev {j:Nat} {h:St} (hw:W c P sg f fn sk j h r):Ev fun m=>Jn c P sg f fn sk m j h=some r:=by
  obtain ⟨n,hn⟩:=hw
  exact ⟨n,fun m hm=>DY ax hm _ _ _ hn⟩
theorem W.step {j:Nat} {h:St} (ht:∀ J:Nat→St→Option Rz,(∀ j' h',W c P sg f fn sk j' h' r→J j' h'=some r)→u5 ad c sg (eI c P sg) J f fn sk j h=some r):W c P sg f fn sk j h r:=by
  classical
  have h1:=ht (fun j' h'=>if W c P sg f fn sk j' h' r then some r else none) (fun j' h' hw=>if_pos hw)
  unfold u5 at h1
  split at h1
  case h_2=>simp at h1
  rename_i body hb
  split at h1
  case h_2=>simp at h1
  rename_i t ht
  obtain ⟨n,hn⟩:=Ub ax (J':=Jn c P sg f fn sk) (k':=fun _=>F1 c f fn sk) (fun j' h' hh=>by
    split at hh
    · rename_i hw; exact hw.ev ax
    · simp at hh) (fun x st hx=>⟨0,fun _ _=>hx⟩) ht h1
  obtain ⟨t',h2,h3⟩:=hn n (Nat.le_refl _)
  refine ⟨n+1,?_⟩
  simp only [Jn,u5]
  rw [hb]
  simp only
  rw [h2]
  exact h3
theorem Comes.step (ok:Told c P f fn) {args:List D} (ht:∀ J:Nat→St→Option Rz,(∀ j' h',W c P sg f fn (args.map rD) j' h' r→J j' h'=some r)→Cb ad c sg (eI c P sg) J f fn args=some r):Comes c P f args r:=by
  classical
  have h1:=ht (fun j' h'=>if W c P sg f fn (args.map rD) j' h' r then some r else none) (fun j' h' hw=>if_pos hw)
  unfold Cb at h1
  split at h1
  case h_2=>simp at h1
  rename_i body hb
  obtain ⟨n,hn⟩:=Ac ax (J':=Jn c P sg f fn (args.map rD)) (k':=fun _=>F1 c f fn (args.map rD)) (fun j' h' hh=>by
    split at hh
    · rename_i hw; exact hw.ev ax
    · simp at hh) (fun x st hx=>⟨0,fun _ _=>hx⟩) h1
  refine Ce ax ok (sg:=sg) (n:=n) ?_
  unfold Cb
  rw [hb]
  exact hn n (Nat.le_refl _)
end
end Go.Proofs.YtockoilcnmljiaaGreat
namespace Go.Proofs.YtockoilcnmljiaaGreat
open Go.Shelf
def aaj:List (Nat × TI):=[
  (2,⟨.int .i64,1,8,[.int .i64 0]⟩),
  (3,⟨.int .i64,1,8,[.int .i64 0]⟩),
  (4,⟨.bool,1,1,[.bool false]⟩),
  (5,⟨.int .u8,1,1,[.int .u8 0]⟩),
  (6,⟨.int .u8,1,1,[.int .u8 0]⟩),
  (7,⟨.struct [0,1,2,3] [1,1,1,1],4,24,[.int .i64 0,.int .i64 0,.bool false,.int .u8 0]⟩),
  (8,⟨.struct [0,1,2,3] [1,1,1,1],4,24,[.int .i64 0,.int .i64 0,.bool false,.int .u8 0]⟩),
  (9,⟨.str,1,16,[.str ⟨#[]⟩]⟩),
  (10,⟨.str,1,16,[.str ⟨#[]⟩]⟩),
  (11,⟨.str,1,16,[.str ⟨#[]⟩]⟩),
  (12,⟨.int .u64,1,8,[.int .u64 0]⟩),
  (13,⟨.struct [0,1] [1,1],2,24,[.str ⟨#[]⟩,.int .u64 0]⟩),
  (14,⟨.struct [0,1] [1,1],2,24,[.str ⟨#[]⟩,.int .u64 0]⟩),
  (15,⟨.ptr 156,1,8,[.undef]⟩),
  (16,⟨.ptr 159,1,8,[.undef]⟩),
  (17,⟨.ptr 168,1,8,[.undef]⟩),
  (18,⟨.struct [0] [1],1,8,[.undef]⟩),
  (19,⟨.struct [0] [1],1,8,[.undef]⟩),
  (21,⟨.int .i32,1,4,[.int .i32 0]⟩),
  (22,⟨.slice 3,1,24,[.nil 1]⟩),
  (23,⟨.slice 22,1,24,[.nil 1]⟩),
  (24,⟨.struct [0,1,2,3,4,5] [1,1,1,1,1,1],6,64,[.nil 1,.nil 1,.bool false,.bool false,.bool false,.int .i64 0]⟩),
  (25,⟨.struct [0,1,2,3,4,5] [1,1,1,1,1,1],6,64,[.nil 1,.nil 1,.bool false,.bool false,.bool false,.int .i64 0]⟩),
  (26,⟨.slice 5,1,24,[.nil 1]⟩),
  (27,⟨.struct [0,1] [1,1],2,48,[.nil 1,.nil 1]⟩),
  (28,⟨.struct [0,1] [1,1],2,48,[.nil 1,.nil 1]⟩),
  (29,⟨.slice 4,1,24,[.nil 1]⟩),
  (30,⟨.struct [0,1,2,3,4,10,12,13,14,15] [1,1,1,1,6,2,1,1,1,1],16,248,[.int .i64 0,.bool false,.bool false,.nil 1,.nil 1,.nil 1,.bool false,.bool false,.bool false,.int .i64 0,.nil 1,.nil 1,.nil 1,.nil 1,.nil 1,.nil 1]⟩),
  (31,⟨.struct [0,1,2,3,4,10,12,13,14,15] [1,1,1,1,6,2,1,1,1,1],16,248,[.int .i64 0,.bool false,.bool false,.nil 1,.nil 1,.nil 1,.bool false,.bool false,.bool false,.int .i64 0,.nil 1,.nil 1,.nil 1,.nil 1,.nil 1,.nil 1]⟩),
  (33,⟨.struct [0,1,2,3,4,5] [1,1,1,1,1,1],6,64,[.nil 1,.nil 1,.bool false,.bool false,.bool false,.int .i64 0]⟩),
  (34,⟨.struct [0,1] [1,1],2,48,[.nil 1,.nil 1]⟩),
  (35,⟨.struct [0,1,2,3,4,10,12,13,14,15] [1,1,1,1,6,2,1,1,1,1],16,248,[.int .i64 0,.bool false,.bool false,.nil 1,.nil 1,.nil 1,.bool false,.bool false,.bool false,.int .i64 0,.nil 1,.nil 1,.nil 1,.nil 1,.nil 1,.nil 1]⟩),
  (36,⟨.struct [0,1,2,3,4,10,12,13,14,15] [1,1,1,1,6,2,1,1,1,1],16,248,[.int .i64 0,.bool false,.bool false,.nil 1,.nil 1,.nil 1,.bool false,.bool false,.bool false,.int .i64 0,.nil 1,.nil 1,.nil 1,.nil 1,.nil 1,.nil 1]⟩),
  (45,⟨.slice 31,1,24,[.nil 16]⟩),
  (46,⟨.slice 116,1,24,[.nil 3]⟩),
  (47,⟨.slice 119,1,24,[.nil 2]⟩),
  (48,⟨.struct [0,1,2,3,4] [1,1,1,1,1],5,104,[.nil 16,.nil 3,.nil 2,.nil 1,.int .i64 0]⟩),
  (49,⟨.struct [0,1,2,3,4] [1,1,1,1,1],5,104,[.nil 16,.nil 3,.nil 2,.nil 1,.int .i64 0]⟩),
  (52,⟨.slice 36,1,24,[.nil 16]⟩),
  (53,⟨.slice 93,1,24,[.nil 3]⟩),
  (54,⟨.slice 88,1,24,[.nil 2]⟩),
  (55,⟨.struct [0,1,2,3,4] [1,1,1,1,1],5,104,[.nil 16,.nil 3,.nil 2,.nil 1,.int .i64 0]⟩),
  (56,⟨.struct [0,1,2,3,4] [1,1,1,1,1],5,104,[.nil 16,.nil 3,.nil 2,.nil 1,.int .i64 0]⟩),
  (87,⟨.struct [0,1] [1,1],2,16,[.int .i64 0,.int .i64 0]⟩),
  (88,⟨.struct [0,1] [1,1],2,16,[.int .i64 0,.int .i64 0]⟩),
  (92,⟨.struct [0,1,2] [1,1,1],3,40,[.int .i64 0,.int .i64 0,.nil 1]⟩),
  (93,⟨.struct [0,1,2] [1,1,1],3,40,[.int .i64 0,.int .i64 0,.nil 1]⟩),
  (116,⟨.struct [0,1,2] [1,1,1],3,40,[.int .i64 0,.int .i64 0,.nil 1]⟩),
  (119,⟨.struct [0,1] [1,1],2,16,[.int .i64 0,.int .i64 0]⟩),
  (133,⟨.int .u64,1,8,[.int .u64 0]⟩),
  (138,⟨.ptr 140,1,8,[.undef]⟩),
  (139,⟨.struct [0,1,2] [1,1,1],3,40,[.nil 1,.int .i64 0,.bool false]⟩),
  (140,⟨.struct [0,1,2] [1,1,1],3,40,[.nil 1,.int .i64 0,.bool false]⟩),
  (147,⟨.ptr 149,1,8,[.undef]⟩),
  (148,⟨.struct [0,1,2] [1,1,1],3,40,[.nil 1,.int .i64 0,.bool false]⟩),
  (149,⟨.struct [0,1,2] [1,1,1],3,40,[.nil 1,.int .i64 0,.bool false]⟩),
  (155,⟨.struct [0,1,2,3] [1,1,1,1],4,40,[.undef,.undef,.undef,.str ⟨#[]⟩]⟩),
  (156,⟨.struct [0,1,2,3] [1,1,1,1],4,40,[.undef,.undef,.undef,.str ⟨#[]⟩]⟩),
  (160,⟨.int .u32,1,4,[.int .u32 0]⟩),
  (161,⟨.int .u8,1,1,[.int .u8 0]⟩),
  (162,⟨.int .u8,1,1,[.int .u8 0]⟩),
  (164,⟨.ptr 5,1,8,[.undef]⟩),
  (165,⟨.int .i32,1,4,[.int .i32 0]⟩),
  (166,⟨.int .i32,1,4,[.int .i32 0]⟩),
  (167,⟨.struct [0,1,2,3,4,5,6,7,8,9,10] [1,1,1,1,1,1,1,1,1,1,1],11,48,[.int .u64 0,.int .u64 0,.int .u32 0,.int .u8 0,.int .u8 0,.int .u8 0,.int .u8 0,.undef,.undef,.int .i32 0,.int .i32 0]⟩),
  (168,⟨.struct [0,1,2,3,4,5,6,7,8,9,10] [1,1,1,1,1,1,1,1,1,1,1],11,48,[.int .u64 0,.int .u64 0,.int .u32 0,.int .u8 0,.int .u8 0,.int .u8 0,.int .u8 0,.undef,.undef,.int .i32 0,.int .i32 0]⟩)]
def aeL:List (Nat × List Bool):=[(16,[true,false]),(54,[true,false]),(55,[true,false]),(56,[true,false]),(57,[true,false]),(58,[true,false]),(117,[true,false]),(130,[true]),(155,[true]),(156,[true]),(164,[true]),(165,[true]),(181,[true]),(182,[true]),(183,[true]),(184,[true]),(185,[true])]
def ab9:List (Nat × List Bool):=[]
def aeM:List Nat:=[]
def YI:List (Nat × Nat):=[]
def agq:List (Nat × Nat × List Nat × List Nat):=[(21,(0,([1,3],[1,127]))),(21,(2,([1,3,4,5],[1,4,127]))),(21,(4,([1,6],[1,127]))),(21,(6,([1,7],[1,127]))),(23,(0,([1,31,32,33],[1,124]))),(23,(2,([1,76,77,78],[1,124]))),(23,(4,([1,96,97,98],[1,124]))),(27,(0,([1,3,4],[1,40]))),(29,(0,([1,3],[1,68]))),(29,(2,([1,3,4],[1,68]))),(29,(4,([1,3,4,5,6,7,8],[1,5,6,68]))),(30,(0,([1,13,14,15],[1,63]))),(30,(2,([1,3,4,13,14,15,23,24,25],[1,4,63]))),(30,(4,([1,3,4,5,6,13,14,15,23,24,25,34,35,36],[1,4,6,63]))),(31,(0,([1,3],[1,59]))),(31,(2,([1,3,5,6],[1,59]))),(32,(0,([1,11,12,13],[1,48]))),(33,(0,([1,3],[1,33]))),(39,(0,([0,1,5],[27,28]))),(40,(0,([1,2,3,4],[1,2,3,55]))),(41,(0,([1,3],[1,99]))),(42,(0,([0,3,4],[22]))),(45,(0,([0,3,4],[22]))),(46,(0,([0,3,4],[23]))),(48,(0,([1,85],[1,164]))),(48,(2,([1,139,140,141],[1,164]))),(49,(0,([0,1,5],[26,27]))),(52,(0,([0,1,5],[26,27]))),(53,(0,([0,1,5],[27,28]))),(54,(0,([0,1,5],[19,20]))),(57,(0,([0,1,5],[21,22]))),(58,(0,([0,1,5],[19,20]))),(59,(0,([0,1,5],[21,22]))),(62,(0,([0,1,5],[23,24]))),(63,(0,([0,1,5],[21,22]))),(66,(0,([0,1,5],[27,28]))),(67,(0,([0,1,5],[27,28]))),(70,(0,([1,3],[1,87]))),(70,(2,([1,3,4],[1,87]))),(70,(4,([1,5],[1,87]))),(71,(0,([0,3,4],[23]))),(72,(0,([0,3,4],[23]))),(73,(0,([0,3,4],[23]))),(74,(0,([1,13,14,15],[1,75]))),(74,(2,([1,46,47,48],[1,75]))),(74,(4,([1,5,6,46,47,48,53],[1,6,75]))),(78,(0,([0,1,5],[27,28]))),(79,(0,([0,1,5],[27,28]))),(80,(0,([0,1,5],[27,28]))),(82,(0,([3,8,9,10],[23]))),(83,(0,([0,1,5,6],[43,44]))),(84,(0,([0,1,5],[18,19]))),(85,(0,([0,1,5,10],[44,45]))),(87,(0,([1,2,5],[2,37,38]))),(89,(0,([1,2,5],[2,35,36]))),(90,(0,([0,1,5],[32,33]))),(91,(0,([1,2,5,6],[2,39,40]))),(94,(0,([0,1,12,13],[26,27]))),(95,(0,([2,5,9,10,11],[2,32,33]))),(97,(0,([1,2,3,4],[1,2,3,32]))),(99,(0,([0,3],[19]))),(100,(0,([1,3],[1,47]))),(101,(0,([1,3],[1,81]))),(103,(0,([2,3,5],[2,3,68,69]))),(104,(0,([0,3,4],[22]))),(109,(0,([3,7,8,9],[20]))),(116,(0,([0,1,5],[26,27]))),(117,(0,([0,1,5],[20,21]))),(118,(0,([0,1,5],[22,23]))),(128,(0,([0,1,7,8],[19,20]))),(130,(0,([0,2,3],[28]))),(133,(0,([0,1,7,8],[19,20]))),(136,(0,([0,3],[32]))),(137,(0,([0,3],[29]))),(142,(0,([0,5,6,7],[26]))),(145,(0,([0,5,6,7],[29]))),(147,(0,([1,2,15,16,17],[32,33,34]))),(150,(0,([0,1,7,8],[19,20]))),(151,(0,([0,2,4,5,6],[2,11,5,65]))),(152,(0,([1,6],[29,30]))),(153,(0,([0,1,7,8],[19,20]))),(155,(0,([0,3,4,5],[28]))),(157,(0,([1,3,4],[1,85]))),(157,(2,([1,3,5],[1,85]))),(157,(4,([1,3,5,6],[1,85]))),(159,(0,([0,2,4,5,16],[2,11,5,64]))),(162,(0,([0,1,7,8],[55,56]))),(163,(0,([0,3],[25]))),(164,(0,([0,3,4,5],[28]))),(166,(0,([1,3,13,14,15],[1,41]))),(168,(0,([0,1,7,8,9],[57,58]))),(170,(0,([3,7,8,9],[19]))),(172,(0,([0,3],[27])))]
def aca:List (Nat × List (Nat × Nat)):=[(29,[(21,2),(24,0),(26,2),(29,0)]),(40,[(42,4),(45,2),(48,0)]),(97,[(19,4),(22,2),(25,0)]),(98,[(4,2),(8,2)])]
def acb:List (Nat × List (Nat × List Nat)):=[(29,[(5,[1]),(6,[1])]),(40,[(50,[3,1]),(52,[3,1]),(53,[1])]),(97,[(27,[3,1]),(29,[3,1]),(30,[1])]),(98,[(6,[1]),(10,[1]),(2,[1])])]
def agr:List (Nat × RS × List RS):=[
  (0,(.bf [],[])),
  (1,(.bf [],[])),
  (2,(.bf [],[])),
  (3,(.bool,[.undef])),
  (4,(.bool,[.undef,.undef,.undef])),
  (5,(.bool,[.undef])),
  (6,(.bool,[.undef,.undef,.undef])),
  (7,(.bool,[.undef])),
  (8,(.bool,[.undef])),
  (9,(.bool,[.undef])),
  (10,(.bool,[.undef])),
  (11,(.int .i64,[.undef,.undef])),
  (12,(.bf [.ty .node,.bool],[.undef])),
  (13,(.ty .node,[.undef])),
  (14,(.bf [.ty .node,.bool],[.undef])),
  (15,(.bool,[.undef,.undef])),
  (16,(.int .i64,[.agg [.int .i64,.bool,.bool,.sl 1,.sl 1,.sl 1,.bool,.bool,.bool,.int .i64,.sl 1,.sl 1,.sl 1,.sl 1,.sl 1,.sl 1],.undef])),
  (17,(.int .i64,[.undef,.undef])),
  (18,(.bf [.ty .node,.bool],[.undef,.undef,.undef])),
  (19,(.bf [.ty .node,.bool],[.undef,.undef,.undef])),
  (20,(.int .i64,[.undef,.undef])),
  (21,(.bool,[.undef])),
  (22,(.ty .world,[.undef])),
  (23,(.bool,[.undef])),
  (24,(.bool,[.undef,.undef])),
  (25,(.bf [.int .i64,.int .i64],[.undef,.undef,.undef])),
  (26,(.bf [.int .i64,.int .i64],[.undef,.undef,.undef])),
  (27,(.bool,[.undef])),
  (28,(.bool,[.undef])),
  (29,(.bool,[.undef])),
  (30,(.bool,[.undef])),
  (31,(.bool,[.undef])),
  (32,(.bool,[.undef])),
  (33,(.bool,[.undef])),
  (34,(.bool,[.undef])),
  (35,(.int .i64,[.undef,.undef])),
  (36,(.int .i64,[.undef,.undef])),
  (37,(.int .i64,[.undef,.undef])),
  (38,(.int .i64,[.undef,.undef])),
  (39,(.int .i64,[.undef,.undef])),
  (40,(.ty .node,[.undef])),
  (41,(.bool,[.undef])),
  (42,(.sl 1,[.undef])),
  (43,(.agg [.sl 1,.sl 1,.bool,.bool,.bool,.int .i64],[.undef])),
  (44,(.agg [.sl 1,.sl 1],[.undef])),
  (45,(.sl 1,[.undef])),
  (46,(.sl 1,[.undef])),
  (47,(.ty .node,[.undef])),
  (48,(.bool,[.undef])),
  (49,(.bool,[.undef,.undef])),
  (50,(.bool,[.undef,.undef])),
  (51,(.bool,[.undef,.undef])),
  (52,(.bool,[.undef,.undef])),
  (53,(.bool,[.undef,.undef])),
  (54,(.int .i64,[.sl 1,.undef])),
  (55,(.int .i64,[.agg [.sl 1,.sl 1,.bool,.bool,.bool,.int .i64],.undef])),
  (56,(.int .i64,[.agg [.sl 1,.sl 1],.undef])),
  (57,(.int .i64,[.sl 1,.undef])),
  (58,(.int .i64,[.sl 1,.undef])),
  (59,(.int .i64,[.undef,.undef])),
  (60,(.int .i64,[.undef,.undef])),
  (61,(.int .i64,[.undef,.undef])),
  (62,(.int .i64,[.undef,.undef])),
  (63,(.int .i64,[.undef,.undef])),
  (64,(.bool,[.undef,.undef,.undef])),
  (65,(.bool,[.undef,.undef,.undef])),
  (66,(.int .i64,[.undef,.undef])),
  (67,(.int .i64,[.undef,.undef])),
  (68,(.int .i64,[.undef,.undef])),
  (69,(.bool,[.undef,.undef,.undef])),
  (70,(.bool,[.undef])),
  (71,(.sl 16,[.undef])),
  (72,(.sl 3,[.undef])),
  (73,(.sl 2,[.undef])),
  (74,(.bool,[.undef])),
  (75,(.bool,[.undef,.undef,.undef])),
  (76,(.bool,[.undef])),
  (77,(.bool,[.undef])),
  (78,(.bool,[.undef,.undef])),
  (79,(.bool,[.undef,.undef])),
  (80,(.bool,[.undef,.undef])),
  (81,(.int .i64,[.undef])),
  (82,(.ty .I,[.undef])),
  (83,(.ty .I,[.undef,.undef])),
  (84,(.bool,[.undef,.undef])),
  (85,(.ty .I,[.undef,.undef])),
  (86,(.bool,[.undef,.undef])),
  (87,(.ty .I,[.undef,.undef])),
  (88,(.bool,[.undef,.undef])),
  (89,(.ty .I,[.undef,.undef])),
  (90,(.bool,[.undef,.undef])),
  (91,(.ty .I,[.undef,.undef])),
  (92,(.bool,[.undef,.undef])),
  (93,(.bool,[.undef,.undef])),
  (94,(.bool,[.undef,.undef])),
  (95,(.ty .I,[.undef,.undef])),
  (96,(.int .i64,[.undef,.undef])),
  (97,(.ty .mt,[.undef])),
  (98,(.ty .cJ,[.undef])),
  (99,(.bool,[.undef])),
  (100,(.bool,[.undef])),
  (101,(.bool,[.undef])),
  (102,(.bf [.ty .mt,.int .i64,.bool],[.undef])),
  (103,(.bool,[.undef,.undef])),
  (104,(.sl 1,[.undef])),
  (105,(.sl 1,[.undef])),
  (106,(.ty .mt,[.undef])),
  (107,(.ty .cJ,[.undef])),
  (108,(.ty .L,[.undef])),
  (109,(.ty .R,[.undef])),
  (110,(.bool,[.undef])),
  (111,(.bool,[.undef])),
  (112,(.bool,[.undef])),
  (113,(.bf [.ty .mt,.int .i64,.bool],[.undef])),
  (114,(.bool,[.undef,.undef])),
  (115,(.bool,[.undef])),
  (116,(.bool,[.undef,.undef])),
  (117,(.int .i64,[.sl 1,.undef])),
  (118,(.int .i64,[.undef,.undef])),
  (119,(.bool,[.undef,.undef])),
  (120,(.bool,[.undef,.undef])),
  (121,(.int .i64,[.undef,.undef])),
  (122,(.agg [.int .i64,.int .i64,.sl 1],[.undef])),
  (123,(.agg [.int .i64,.int .i64],[.undef])),
  (124,(.bool,[.undef,.undef])),
  (125,(.bool,[.undef,.undef])),
  (126,(.bool,[.undef,.undef])),
  (127,(.bool,[.undef,.undef])),
  (128,(.int .i64,[.undef,.undef])),
  (129,(.bool,[.undef,.undef])),
  (130,(.bf [],[.sl 1])),
  (131,(.sl 1,[])),
  (132,(.sl 1,[.undef,.undef,.undef])),
  (133,(.int .i64,[.undef,.undef])),
  (134,(.sl 1,[])),
  (135,(.sl 1,[.undef,.undef,.undef])),
  (136,(.bool,[.undef])),
  (137,(.bool,[.undef])),
  (138,(.int .i64,[.undef])),
  (139,(.bf [.ty .mt,.int .i64,.bool],[.undef])),
  (140,(.ty .B,[.undef])),
  (141,(.bool,[.undef])),
  (142,(.bool,[.undef])),
  (143,(.bool,[.undef,.undef])),
  (144,(.bool,[.undef])),
  (145,(.bool,[.undef])),
  (146,(.bf [.ty .mt,.int .i64,.bool],[.undef])),
  (147,(.bool,[.undef,.undef,.undef])),
  (148,(.int .i64,[.undef])),
  (149,(.int .i64,[.undef])),
  (150,(.int .i64,[.undef,.undef])),
  (151,(.bf [.ty .mt,.bool],[.undef])),
  (152,(.ty .B,[.undef,.undef])),
  (153,(.int .i64,[.undef,.undef])),
  (154,(.bf [.ty .mt,.int .i64,.bool],[.undef])),
  (155,(.sl 1,[.bp [.jT 1,.int .i64,.bool]])),
  (156,(.int .i64,[.bp [.jT 1,.int .i64,.bool]])),
  (157,(.sl 1,[.undef])),
  (158,(.ty .B,[.undef])),
  (159,(.bf [.ty .mt,.bool],[.undef])),
  (160,(.bool,[.undef,.undef])),
  (161,(.ty .B,[.undef,.undef])),
  (162,(.bf [.int .i64,.int .i64,.bool],[.undef,.undef])),
  (163,(.sl 1,[.undef])),
  (164,(.sl 1,[.bp [.jT 1,.int .i64,.bool]])),
  (165,(.int .i64,[.bp [.jT 1,.int .i64,.bool]])),
  (166,(.sl 1,[.undef])),
  (167,(.ty .B,[.undef])),
  (168,(.bf [.int .i64,.int .i64,.bool],[.undef,.undef])),
  (169,(.sl 1,[.undef])),
  (170,(.sl 1,[.undef])),
  (171,(.int .i64,[.undef,.undef])),
  (172,(.sl 1,[.undef])),
  (173,(.str,[.undef])),
  (174,(.bf [],[.undef])),
  (175,(.str,[.undef])),
  (176,(.bf [],[.undef])),
  (177,(.str,[.undef])),
  (178,(.bf [],[.undef])),
  (179,(.str,[.undef])),
  (180,(.bf [],[.undef])),
  (186,(.str,[.undef])),
  (187,(.bf [],[.undef])),
  (188,(.str,[.undef]))]
def cfg:cD where
  ty:=lk aaj
  ext:=fun f=>if f=105 then some (pM 1 8) else if f=108 then some (pM 1 1) else if f=140 then some (pM 1 1) else none
  own:=fun f=>(lk aeL f).getD []
  inl:=fun f=>aeM.contains f
  qW:=fun f t=>YI.contains (f,t)
  nm:=fun f i=>(agq.find? fun r=>r.1==f&&r.2.1==i).map fun r=>r.2.2
  gone:=fun f=>(lk ab9 f).getD []
  base:=fun f t=>match lk aca f with | some l=>lk l t | none=>none
  zy:=fun f t=>match lk acb f with | some l=>(lk l t).getD [] | none=>[]
def ags:List Nat:=[46,71,72,73,58]
def sg:Sg:=⟨lk agr,fun f=>ags.contains f⟩
theorem wm:ey cfg Tryz.prog:=⟨PL (l:=aaj) (by kernel_rfl)⟩
theorem YJ (f : FuncId) (fn : Func) (body : Code) (hf : Tryz.prog.funcs[f]? = some fn) (hb : fn.body = some body) : lR fn.ntmps body = true ∧ (fn.name == "runtime.NumGoroutine") = false :=
  ab2 (by kernel_rfl) f fn body hf hb
theorem VS:Tryz.prog.follows .mixedOrders=true:=by kernel_rfl
def VT:Ren:=⟨fun | 41=>105 | n=>n,fun | 4=>4 | 22=>22 | 23=>3 | n=>n,fun n=>n⟩
theorem VU:SlLaysE0.n41 Tryz.prog VT where
  mixed:=by kernel_rfl
  f41:=⟨Tryz.f105.name,by kernel_rfl,Tryz.func105.trans (congrArg some (by kernel_rfl))⟩
  t4:=Tryz.underlying4
  a4:=Tryz.isAgg4
  z4:=Tryz.sizeOf4
  v4:=Tryz.zeroValue4
  t22:=Tryz.underlying22
  a22:=Tryz.isAgg22
  z22:=Tryz.sizeOf22
  v22:=Tryz.zeroValue22
theorem Uc:rn Tryz.prog 105:=⟨_,Tryz.func105,by kernel_rfl,by kernel_rfl⟩
noncomputable def VV:TypeInfo:=(Tryz.prog.info? 3).get (by kernel_rfl)
def VW:Ren:=⟨fun | 41=>108 | n=>n,fun | 4=>4 | 22=>29 | 23=>4 | n=>n,fun n=>n⟩
theorem VX:SlLaysE0.n41 Tryz.prog VW where
  mixed:=by kernel_rfl
  f41:=⟨Tryz.f108.name,by kernel_rfl,Tryz.func108.trans (congrArg some (by kernel_rfl))⟩
  t4:=Tryz.underlying4
  a4:=Tryz.isAgg4
  z4:=Tryz.sizeOf4
  v4:=Tryz.zeroValue4
  t22:=Tryz.underlying29
  a22:=Tryz.isAgg29
  z22:=Tryz.sizeOf29
  v22:=Tryz.zeroValue29
theorem Ud:rn Tryz.prog 108:=⟨_,Tryz.func108,by kernel_rfl,by kernel_rfl⟩
noncomputable def VY:TypeInfo:=(Tryz.prog.info? 4).get (by kernel_rfl)
def VZ:Ren:=⟨fun | 41=>140 | n=>n,fun | 4=>4 | 22=>26 | 23=>5 | n=>n,fun n=>n⟩
theorem V0:SlLaysE0.n41 Tryz.prog VZ where
  mixed:=by kernel_rfl
  f41:=⟨Tryz.f140.name,by kernel_rfl,Tryz.func140.trans (congrArg some (by kernel_rfl))⟩
  t4:=Tryz.underlying4
  a4:=Tryz.isAgg4
  z4:=Tryz.sizeOf4
  v4:=Tryz.zeroValue4
  t22:=Tryz.underlying26
  a22:=Tryz.isAgg26
  z22:=Tryz.sizeOf26
  v22:=Tryz.zeroValue26
theorem Ue:rn Tryz.prog 140:=⟨_,Tryz.func140,by kernel_rfl,by kernel_rfl⟩
noncomputable def V1:TypeInfo:=(Tryz.prog.info? 5).get (by kernel_rfl)
theorem acd:∀ f e ds r outs,cfg.ext f=some e→e ds=some (r,outs)→rn Tryz.prog f∧∀ (w:World) (Y:Nat→Prop) (us:Array Value) (az:List Arg),mq w Y (cfg.own f) ds us.toList az→dG r=true→(∀ o∈outs,dG o=true)→
    Calls Tryz.prog f us w fun e w'=>∃ v,e=.returned v∧iF w w' Y (cfg.own f) az r outs v:=by
  intro f e ds r outs h h2
  have h:(if f=105 then some (pM 1 8) else if f=108 then some (pM 1 1) else if f=140 then some (pM 1 1) else none)=some e:=h
  split at h
  · rename_i hf
    subst hf
    have h:=Option.some.inj h
    subst h
    exact F0 VU VV (.int .i64 0) 1 8 (by kernel_rfl) (by kernel_rfl) (by kernel_rfl) (by kernel_rfl) rfl (by decide) Tryz.sizeOf3 Uc (own:=cfg.own 105) (by kernel_rfl) h2
  split at h
  · rename_i hf
    subst hf
    have h:=Option.some.inj h
    subst h
    exact F0 VX VY (.bool false) 1 1 (by kernel_rfl) (by kernel_rfl) (by kernel_rfl) (by kernel_rfl) rfl (by decide) Tryz.sizeOf4 Ud (own:=cfg.own 108) (by kernel_rfl) h2
  split at h
  · rename_i hf
    subst hf
    have h:=Option.some.inj h
    subst h
    exact F0 V0 V1 (.int .u8 0) 1 1 (by kernel_rfl) (by kernel_rfl) (by kernel_rfl) (by kernel_rfl) rfl (by decide) Tryz.sizeOf5 Ue (own:=cfg.own 140) (by kernel_rfl) h2
  · simp at h
theorem rE (k:Nat):lJ Tryz.prog cfg.own (Tc cfg Tryz.prog k):=(Pz wm VS YJ acd k).1
end Go.Proofs.YtockoilcnmljiaaGreat
namespace Go.Proofs.YtockoilcnmljiaaGreat
open Go.RowKit
inductive Sh where
  | bool
  | int (k:IntKind)
  | str
  | sl (b:Nat) (e:Sh)
  | ag (fs:List Sh)
mutual
def width:Sh→Nat
  | .ag fs=>wo fs
  | _=>1
def wo:List Sh→Nat
  | []=>0
  | f::fs=>width f+wo fs
end
mutual
def WT:Sh→List D→Prop
  | .bool,ds=>∃ b,ds=[.bool b]
  | .int k,ds=>∃ n,ds=[.int k n]∧(Lit.int k n).wf=true
  | .str,ds=>∃ s,ds=[.str s]∧s.size≤reachBytes
  | .sl b e,ds=>∃ es:List (List D),ds=[.sl (some false) (width e) es.length es.flatten]∧es.length*b≤reachBytes∧∀ x∈es,WT e x
  | .ag fs,ds=>WTs fs ds
def WTs:List Sh→List D→Prop
  | [],ds=>ds=[]
  | f::fs,ds=>∃ a b,ds=a++b∧WT f a∧WTs fs b
end
mutual
def Cf (P:Program):TypeId→Sh→Bool
  | t,.bool=>match P.underlying t with | some .bool=>true | _=>false
  | t,.int k=>match P.underlying t with | some (.int k')=>decide (k'=k) | _=>false
  | t,.str=>match P.underlying t with | some .string=>true | _=>false
  | t,.sl b e=>match P.underlying t with
    | some (.slice et)=>Cf P et e&&decide (P.cellsOf et=width e)&&decide (P.bytesOf et=b)&&decide (0 < width e)
    | _=>false
  | t,.ag fs=>match P.underlying t with
    | some (.struct fl)=>decide (P.cellsOf t=wo fs)&&DZ P fl.toList 0 fs
    | _=>false
def DZ (P:Program):List Field→Nat→List Sh→Bool
  | [],_,[]=>true
  | f::fl,o,s::ss=>decide (f.offset=o)&&decide (P.cellsOf f.type=width s)&&Cf P f.type s&&DZ P fl (o+width s) ss
  | _,_,_=>false
end
theorem mapM_some {α β:Type} {f:α→Option β}:∀ {l:List α} {r:List β},l.mapM f=some r→l.length=r.length∧∀ (i:Nat) (a:α),l[i]?=some a→∃ b,f a=some b∧r[i]?=some b
  | [],r,h=>by
    simp only [List.mapM_nil] at h
    cases h
    exact ⟨rfl,by simp⟩
  | a::l,r,h=>by
    simp only [List.mapM_cons,Option.bind_eq_bind,Option.bind_eq_some_iff] at h
    obtain ⟨b,hb,bs,Lq,h⟩:=h
    cases h
    obtain ⟨h1,h2⟩:=mapM_some Lq
    refine ⟨by simp [h1],fun i x hx=>?_⟩
    cases i with
    | zero=>
      simp only [List.getElem?_cons_zero,Option.some.injEq] at hx
      subst hx
      exact ⟨b,hb,rfl⟩
    | succ i=>
      simp only [List.getElem?_cons_succ] at hx ⊢
      exact h2 i x hx
theorem V2 {w:World} {base:Nat} {a:Addr} {n:Nat} {vs:List Value} (h:w.cells? base a n=some vs):vs.length=n∧∀ i,i < n→w.cell? (a.add i)=vs[i]?:=by
  unfold World.cells? at h
  split at h
  · obtain ⟨h1,h2⟩:=mapM_some h
    rw [List.length_range] at h1
    refine ⟨h1.symm,fun i hi=>?_⟩
    obtain ⟨b,hb,hr⟩:=h2 i i (by rw [List.getElem?_range hi])
    rw [hb,hr]
  · simp at h
theorem SJ {w:World} {X:Bool→Nat→Prop} {a b:List D} {us vs:List Value} (h:gh w X a us) (h':gh w X b vs):gh w X (a++b) (us++vs):=by
  rw [hM] at h h' ⊢
  exact h.app h'
theorem flat_get {α:Type} {wd:Nat} (hw:0 < wd):∀ {ls:List (List α)},(∀ l∈ls,l.length=wd)→∀ j:Nat,ls.flatten[j]?=(ls[j / wd]?).bind (fun l=>l[j % wd]?)
  | [],_,j=>by simp
  | l::ls,h,j=>by
    have hl:=h l (by simp)
    rw [List.flatten_cons]
    by_cases hj:j < wd
    · rw [List.getElem?_append_left (by omega),Nat.div_eq_of_lt hj,Nat.mod_eq_of_lt hj]
      rfl
    · rw [List.getElem?_append_right (by omega),hl,flat_get hw (fun x hx=>h x (by simp [hx])) (j - wd)]
      have h1:j / wd=(j - wd) / wd+1:=by
        rw [Nat.div_eq_sub_div hw (by omega)]
      have h2:j % wd=(j - wd) % wd:=by
        rw [Nat.mod_eq_sub_mod (by omega)]
      rw [h1,h2,List.getElem?_cons_succ]
theorem PZ {α:Type} {Q:Nat→α→Prop}:∀ len:Nat,(∀ i,i < len→∃ x,Q i x)→∃ es:List α,es.length=len∧∀ (i:Nat) (x:α),es[i]?=some x→Q i x
  | 0,_=>⟨[],rfl,by simp⟩
  | n+1,h=>by
    obtain ⟨es,h1,h2⟩:=PZ n (fun i hi=>h i (by omega))
    obtain ⟨x,hx⟩:=h n (by omega)
    refine ⟨es++[x],by simp [h1],fun i y hy=>?_⟩
    by_cases hi:i < n
    · rw [List.getElem?_append_left (by omega)] at hy
      exact h2 i y hy
    · rw [List.getElem?_append_right (by omega)] at hy
      have:i=n:=by
        have:=(List.getElem?_eq_some_iff.1 hy).1
        simp at this
        omega
      subst this
      rw [h1,Nat.sub_self,List.getElem?_cons_zero,Option.some.injEq] at hy
      subst hy
      exact hx
theorem yI {H:Type} {P:Program} {e:TypeId}:∀ {ds:List (DataW H)} {i:Nat} {d:DataW H},ds[i]?=some d→∀ z∈d.weights P e,z∈DataW.weightsAll P e ds
  | [],i,d,h,_,_=>by simp at h
  | x::ds,0,d,h,z,hz=>by
    simp only [List.getElem?_cons_zero,Option.some.injEq] at h
    subst h
    simp only [DataW.weightsAll,List.mem_append]
    exact .inl hz
  | x::ds,i+1,d,h,z,hz=>by
    simp only [DataW.weightsAll,List.mem_append]
    exact .inr (yI (by simpa using h) z hz)
theorem LI {w:World} {X:Bool→Nat→Prop}:∀ {ps:List (List D × List Value)},(∀ p∈ps,gh w X p.1 p.2)→gh w X (ps.map (·.1)).flatten (ps.map (·.2)).flatten
  | [],_=>by simp [gh]
  | p::ps,h=>by
    simp only [List.map_cons,List.flatten_cons]
    exact SJ (h p (by simp)) (LI (fun q hq=>h q (by simp [hq])))
section
variable {H:Type} {enc:TypeId × Value→H} {P:Program} {w:World} {held:Bool} {X:Bool→Nat→Prop} (hX:∀ k,k < w.heap.size→X false k)
include hX
mutual
theorem nu:∀ (sh:Sh) {fuel:Nat} {t:TypeId} {cs:List Value} {x:DataW H × List MemPlace},DataW.trod enc P w 0 (fun _=>true) held fuel t cs=some x→Cf P t sh=true→(∀ z∈x.1.weights P t,z≤reachBytes)→∃ ds,WT sh ds∧gh w X ds cs
  | .bool,fuel,t,cs,x,h,hs,_=>by
    simp only [Cf] at hs
    split at hs
    · rename_i ht
      obtain ⟨b,rfl,rfl⟩:=DataW.trod_bool ht h
      exact ⟨[.bool b],⟨b,rfl⟩,_,_,rfl,rfl,rfl⟩
    · simp at hs
  | .int k,fuel,t,cs,x,h,hs,_=>by
    simp only [Cf] at hs
    split at hs
    · rename_i k' ht
      simp only [decide_eq_true_eq] at hs
      subst hs
      obtain ⟨n,rfl,rfl,hw⟩:=DataW.trod_int ht h
      exact ⟨[.int k' n],⟨n,rfl,hw⟩,_,_,rfl,rfl,rfl⟩
    · simp at hs
  | .str,fuel,t,cs,x,h,hs,hz=>by
    simp only [Cf] at hs
    split at hs
    · rename_i ht
      obtain ⟨s,rfl,rfl,hw⟩:=DataW.trod_string ht h
      refine ⟨[.str s],⟨s,rfl,?_⟩,_,_,rfl,rfl,rfl⟩
      have:s.data.toList.length≤reachBytes:=hz _ (by unfold DataW.weights; exact List.mem_cons_self)
      rw [Array.length_toList] at this
      exact this
    · simp at hs
  | .sl b e,fuel,t,cs,x,h,hs,hz=>by
    simp only [Cf] at hs
    split at hs
    case h_2=>simp at hs
    rename_i et ht
    simp only [Bool.and_eq_true,decide_eq_true_eq] at hs
    obtain ⟨⟨⟨h1,h2⟩,h3⟩,h4⟩:=hs
    rcases DataW.trod_slice ht h with ⟨rfl,rfl⟩ | ⟨a,len,cap,elems,rest,n,rfl,rfl,rfl,_,hl,hm,hlen,gN,_⟩
    · refine ⟨[.sl (some false) (width e) 0 []],⟨[],rfl,by simp,by simp⟩,_,_,rfl,?_,rfl⟩
      exact ⟨none,0,[],rfl,Nat.le_refl _,by simp,rfl,.inl rfl⟩
    · replace hz:∀ z∈((elems.map (fun y:DataW H × List MemPlace=>y.1)).length+(rest.map (fun y:DataW H × List MemPlace=>y.1)).length)*P.bytesOf et::(DataW.weightsAll P et (elems.map (fun y:DataW H × List MemPlace=>y.1))++DataW.weightsAll P et (rest.map (fun y:DataW H × List MemPlace=>y.1))),z≤reachBytes:=fun z P2=>hz z (by
        show z∈(match P.underlying t with | some (.slice e)=>((elems.map (fun y:DataW H × List MemPlace=>y.1)).length+(rest.map (fun y:DataW H × List MemPlace=>y.1)).length)*P.bytesOf e::(DataW.weightsAll P e (elems.map (fun y:DataW H × List MemPlace=>y.1))++DataW.weightsAll P e (rest.map (fun y:DataW H × List MemPlace=>y.1))) | _=>[])
        rw [ht]
        exact P2)
      rw [h2] at gN
      have Lp:=hz _ List.mem_cons_self
      have each:∀ i,i < len→∃ p:List D × List Value,WT e p.1∧gh w X p.1 p.2∧p.2.length=width e∧∀ j,j < width e→w.cell? ((a.add (i*width e)).add j)=p.2[j]?:=by
        intro i hi
        have h5:=gN i hi
        have oB:i < elems.length:=by omega
        rw [List.getElem?_eq_getElem oB] at h5
        rw [Option.bind_eq_some_iff] at h5
        obtain ⟨vs,h6,h7⟩:=h5
        obtain ⟨h8,h9⟩:=V2 h6
        obtain ⟨ds,nb,Oz⟩:=nu e h7 h1 (fun z P2=>hz z (List.mem_cons_of_mem _ (List.mem_append.2 (.inl (yI (i:=i) (d:=elems[i].1) (by rw [List.getElem?_map,List.getElem?_eq_getElem oB]; rfl) z P2)))))
        exact ⟨(ds,vs),nb,Oz,h8,h9⟩
      obtain ⟨ps,g1,g2⟩:=PZ len each
      have gm:∀ p∈ps,WT e p.1∧gh w X p.1 p.2∧p.2.length=width e:=fun p hp=>by
        obtain ⟨i,hi⟩:=List.getElem?_of_mem hp
        obtain ⟨k1,k2,k3,_⟩:=g2 i p hi
        exact ⟨k1,k2,k3⟩
      have tu:=LI (w:=w) (X:=X) (ps:=ps) (fun p hp=>(gm p hp).2.1)
      have agt:∀ l∈ps.map (·.1),l.length=width e:=fun l hl=>by
        obtain ⟨p,hp,rfl⟩:=List.mem_map.1 hl
        have:=((hM p.1 p.2).1 (gm p hp).2.1).len
        rw [this,(gm p hp).2.2]
      have agu:∀ l∈ps.map (·.2),l.length=width e:=fun l hl=>by
        obtain ⟨p,hp,rfl⟩:=List.mem_map.1 hl
        exact (gm p hp).2.2
      refine ⟨[.sl (some false) (width e) len (ps.map (·.1)).flatten],⟨ps.map (·.1),by simp [g1],?_,fun x hx=>by obtain ⟨p,hp,rfl⟩:=List.mem_map.1 hx; exact (gm p hp).1⟩,_,_,rfl,?_,rfl⟩
      · rw [List.length_map,g1]
        rw [List.length_map,List.length_map,h3,hlen] at Lp
        exact Nat.le_trans (Nat.mul_le_mul_right b (by omega)) Lp
      · refine ⟨some a,cap,(ps.map (·.2)).flatten,rfl,hl,?_,tu,?_⟩
        · have:∀ {ls:List (List D)},(∀ l∈ls,l.length=width e)→ls.flatten.length=ls.length*width e:=by
            intro ls
            induction ls with
            | nil=>intro _; simp
            | cons l ls ih=>
              intro hh
              rw [List.flatten_cons,List.length_append,ih (fun x hx=>hh x (by simp [hx])),hh l (by simp),List.length_cons,Nat.add_mul,Nat.one_mul,Nat.add_comm]
          rw [this agt,List.length_map,g1]
        · by_cases h0:len=0
          · left
            have:ps=[]:=by cases ps with | nil=>rfl | cons _ _=>simp at g1; omega
            rw [this]; rfl
          · right
            obtain ⟨p0,OW⟩:∃ p,ps[0]?=some p:=⟨ps[0],List.getElem?_eq_getElem (by omega)⟩
            obtain ⟨_,_,k3,k4⟩:=g2 0 p0 OW
            have k5:=k4 0 h4
            have agv:p0.2[0]?=some (p0.2[0]):=List.getElem?_eq_getElem (by omega)
            rw [agv,Nat.zero_mul] at k5
            have VL:(a.add 0).add 0=a:=by simp [Addr.add]
            rw [VL] at k5
            obtain ⟨k,off,spot⟩:=a
            unfold World.cell? at k5
            split at k5
            case h_2=>simp at k5
            rename_i c ee fz eY
            split at k5
            · simp at k5
            rename_i hsp
            have agw:spot=none:=by cases spot<;>simp at hsp ⊢
            subst agw
            refine ⟨k,off,c,ee,fz,rfl,hX k ?_,eY,fun j v hj=>?_⟩
            · rcases Nat.lt_or_ge k w.heap.size with hh | hh
              · exact hh
              · rw [Array.getElem?_eq_none hh] at eY; simp at eY
            · rw [flat_get h4 agu] at hj
              rw [List.getElem?_map] at hj
              cases hp:ps[j / width e]? with
              | none=>rw [hp] at hj; simp at hj
              | some p=>
                rw [hp] at hj
                simp only [Option.map_some,Option.bind_some] at hj
                obtain ⟨_,_,_,m4⟩:=g2 _ p hp
                have m5:=m4 (j % width e) (Nat.mod_lt _ h4)
                rw [hj,fe,fe] at m5
                unfold World.cell? at m5
                simp only [eY] at m5
                have m6:off+j / width e*width e+j % width e=off+j:=by
                  have:=Nat.div_add_mod j (width e)
                  rw [Nat.mul_comm] at this
                  omega
                rw [m6] at m5
                simpa using m5
  | .ag fs,fuel,t,cs,x,h,hs,hz=>by
    simp only [Cf] at hs
    split at hs
    case h_2=>simp at hs
    rename_i fl ht
    simp only [Bool.and_eq_true,decide_eq_true_eq] at hs
    obtain ⟨h1,h2⟩:=hs
    obtain ⟨xs,n,rfl,rfl,h3,h4,h5⟩:=DataW.trod_struct ht h
    simp only [DataW.weights,ht] at hz
    obtain ⟨ds,h6,h7⟩:=P3 (cs:=cs) (n:=n) fs (fl:=fl.toList) (o:=0) (xs:=xs) (by simpa using h4.symm) (fun i f hf=>h5 i f (by simpa using hf)) h2 hz (by omega)
    refine ⟨ds,h6,?_⟩
    rw [List.drop_zero,List.take_of_length_le (by omega)] at h7
    exact h7
theorem P3:∀ (ss:List Sh) {n:Nat} {cs:List Value} {fl:List Field} {o:Nat} {xs:List (DataW H × List MemPlace)},fl.length=xs.length→(∀ (i:Nat) (f:Field),fl[i]?=some f→DataW.trod enc P w 0 (fun _=>true) held n f.type ((cs.drop f.offset).take (P.cellsOf f.type))=xs[i]?)→DZ P fl o ss=true→(∀ z∈DataW.weightsEach P (fl.map (·.type)) (xs.map (·.1)),z≤reachBytes)→o+wo ss≤cs.length→
    ∃ ds,WTs ss ds∧gh w X ds ((cs.drop o).take (wo ss))
  | [],n,cs,fl,o,xs,_,_,hs,_,_=>by
    have _:=hX
    cases fl with
    | nil=>exact ⟨[],rfl,by simp [wo,gh]⟩
    | cons f fl=>simp [DZ] at hs
  | s::ss,n,cs,fl,o,xs,hl,hx,hs,hz,ho=>by
    cases fl with
    | nil=>simp [DZ] at hs
    | cons f fl=>
      cases xs with
      | nil=>simp at hl
      | cons x xs=>
        simp only [DZ,Bool.and_eq_true,decide_eq_true_eq] at hs
        obtain ⟨⟨⟨h1,h2⟩,h3⟩,h4⟩:=hs
        subst h1
        simp only [List.map_cons,DataW.weightsEach,List.mem_append] at hz
        simp only [wo] at ho ⊢
        have h5:=hx 0 f rfl
        rw [List.getElem?_cons_zero,h2] at h5
        obtain ⟨gv,g1,g2⟩:=nu s h5 h3 (fun z P2=>hz z (.inl P2))
        obtain ⟨tG,g3,g4⟩:=P3 (cs:=cs) (n:=n) ss (fl:=fl) (o:=f.offset+width s) (xs:=xs) (by simpa using hl) (fun i f' hf=>by have:=hx (i+1) f' (by simpa using hf); simpa using this) h4 (fun z P2=>hz z (.inr P2)) (by omega)
        refine ⟨gv++tG,⟨gv,tG,rfl,g1,g3⟩,?_⟩
        rw [List.take_add,List.drop_drop]
        exact SJ g2 g4
end
end
end Go.Proofs.YtockoilcnmljiaaGreat
namespace Go.Proofs.YtockoilcnmljiaaGreat
open Go.RowKit
theorem SK {w:World} {X:Bool→Nat→Prop}:∀ {b:List Bool} {ds:List D} {vs:List Value},b.any id=false→cm (fun d v=>∀ S,gL w X S d v) ds vs→uF w X b ds vs (vs.map fun _=>(none,[]))
  | _,[],_,_,.nil=>⟨rfl,rfl⟩
  | b,d::ds,v::vs,hn,.cons h1 h2=>by
    have hb:b.headD false=false∧b.tail.any id=false:=by
      cases b with
      | nil=>simp
      | cons x xs=>simpa using hn
    refine ⟨v,vs,(none,[]),_,rfl,rfl,?_,SK hb.2 h2⟩
    rw [hb.1]
    exact ⟨rfl,h1⟩
theorem qJ {P:Program} {c:cD} (kp:∀ k,lJ P c.own (Tc c P k)) {f:FuncId} (jE:(c.own f).any id=false) {ds outs:List D} {vs:Array Value} {W:World} (hc:Comes c P f ds (.bool true,outs)) (vO:∀ o∈outs,dG o=true)
    (ha:cm (fun d v=>∀ S,gL W (Lk W [] (fun _=>True)) S d v) ds vs.toList):Calls P f vs W fun e W'=>e=.returned (.bool true)∧Below W.heap.size W W':=by
  obtain ⟨k,hk⟩:=hc
  have h1:=hk k (Nat.le_refl _)
  have zN:∀ a∈vs.toList.map (fun _=>((none,[]):Arg)),a=(none,[]):=by simp
  have eV:=yg zN
  have uG:mq W (fun _=>True) (c.own f) ds vs.toList (vs.toList.map fun _=>(none,[])):=by
    refine ⟨?_,by rw [eV]; simp,by rw [eV]; simp,fun a VL=>?_⟩
    · rw [eV]; exact SK jE ha
    · rw [zN a VL]; trivial
  refine ((kp k f ds _ outs h1).2 W _ vs _ uG rfl vO).mono fun e W'=>?_
  rintro ⟨v,rfl,hp⟩
  have hv:v=.bool true:=by
    obtain ⟨ff,az,hr,_,_,_,hs,_⟩:=hp.res
    obtain ⟨t,rfl,he,rfl⟩:=hr
    cases t with
    | v d u=>
      have hs:=hs.1
      simp only [bM] at hs
      have:bU d=.bool true:=he.symm
      rw [this] at hs
      exact hs
    | own s n cap a cs=>simp [T.er] at he
  subst hv
  refine ⟨rfl,hp.os,hp.tape,hp.out,hp.sz,fun k hk=>hp.cg k hk (by rw [eV]; simp)⟩
theorem vw {w:World} {X:Bool→Nat→Prop} {ds:List D} {us:Array Value} (h:gh w X ds us.toList):∀ S,gL w X S (.agg ds) (.agg us):=fun _=>
  ⟨us,rfl,((hM _ _).1 h).mono (fun _ _ hh=>fK hh)⟩
theorem SL {w:World} {X:Bool→Nat→Prop} {d:D} {v:Value} (h:gh w X [d] [v]) (h1:∀ cs,d≠.agg cs) (h2:∀ f cs,d≠.fn f cs):∀ S,gL w X S d v:=fun S=>by
  obtain ⟨a,b,hv,he,_⟩:=h
  simp only [List.cons.injEq] at hv
  obtain ⟨rfl,rfl⟩:=hv
  have ht:=fK (S:=S) he
  cases d with
  | agg cs=>exact absurd rfl (h1 cs)
  | fn f cs=>exact absurd rfl (h2 f cs)
  | _=>exact ht
theorem ud {w:World}:∀ k,k < w.heap.size→Lk w [] (fun _=>True) false k:=fun k hk=>⟨hk,by simp,fun _=>trivial⟩
end Go.Proofs.YtockoilcnmljiaaGreat
namespace Go.Proofs.YtockoilcnmljiaaGreat
set_option maxRecDepth 100000
abbrev Cm (f:FuncId) (ds:List D) (r:Rz):Prop:=Comes cfg Tryz.prog f ds r
abbrev aR (pr:dr) (cv:Cv Rz) (J:Nat→St→Option Rz) (f:FuncId) (fn:Func) (args:List D):Option Rz:=Cb pr cfg sg cv J f fn args
abbrev bJ (pr:dr) (cv:Cv Rz) (J:Nat→St→Option Rz) (f:FuncId) (fn:Func) (sk:List D) (j:Nat) (h:St):Option Rz:=u5 pr cfg sg cv J f fn sk j h
noncomputable abbrev aU:Cv Rz:=eI cfg Tryz.prog sg
abbrev WP (f:FuncId) (fn:Func) (sk:List D) (j:Nat) (h:St) (r:Rz):Prop:=W cfg Tryz.prog sg f fn sk j h r
section
variable {f:FuncId} {fn:Func} {sk:List D} {j j':Nat} {h h':St} {r:Rz}
theorem WP.go (h':St) (hw:WP f fn sk j' h' r) (ht:∀ J:Nat→St→Option Rz,J j' h'=some r→bJ ad aU J f fn sk j h=some r):WP f fn sk j h r:=W.go wm hw ht
theorem WP.fin (ht:∀ J:Nat→St→Option Rz,bJ ad aU J f fn sk j h=some r):WP f fn sk j h r:=W.fin wm ht
theorem Cm.go (ok:Told cfg Tryz.prog f fn) (sk:List D) (j:Nat) (h:St) {args:List D} (hw:WP f fn sk j h r) (ht:∀ J:Nat→St→Option Rz,J j h=some r→aR ad aU J f fn args=some r) (AD:args.map rD=sk:=by rfl):Cm f args r:=Comes.go wm ok (AD▸hw) ht
theorem Cm.fin (ok:Told cfg Tryz.prog f fn) {args:List D} (ht:∀ J:Nat→St→Option Rz,aR ad aU J f fn args=some r):Cm f args r:=Comes.fin (sg:=sg) wm ok ht
theorem WP.loop {H:Nat→St} {n:Nat} (inv:Nat→Prop) (hs:∀ i,i < n→inv i→(inv (i+1)→WP f fn sk j (H (i+1)) r)→WP f fn sk j (H i) r) (he:inv n→WP f fn sk j (H n) r):∀ i,i≤n→inv i→WP f fn sk j (H i) r:=by
  have key:∀ k i,i+k=n→inv i→WP f fn sk j (H i) r:=by
    intro k
    induction k with
    | zero=>intro i hi hv; obtain rfl:i=n:=(by omega); exact he hv
    | succ k ih=>intro i hi hv; exact hs i (by omega) hv fun lN=>ih (i+1) (by omega) lN
  exact fun i hi hv=>key (n - i) i (by omega) hv
end
theorem bh {g:FuncId} {ds:List D} {r:D} {outs:List D} (h:Cm g ds (r,outs)) (hs:(match sg.sig g with | some (s,ss)=>fh s r&&jU ss outs&&!(wi s||wj ss) | none=>false)=true) (t:bS Rz):aU g ds t=feed t (ta r++(xP outs++[])):=by
  refine agm t h hs fun e=>?_
  subst e
  have:sg.sig 999999=none:=by kernel_rfl
  rw [this] at hs
  simp at hs
theorem bR {g:FuncId} {ds:List D} {r:D} {outs:List D} {s:RS} {ss:List RS} (h:Cm g ds (r,outs)) (hs:sg.sig g=some (s,ss)) (h1:fh s r=true) (h2:jU ss outs=true) (h3:dG r=true) (h4:outs.all dG=true) (t:bS Rz):aU g ds t=feed t (gp s r++(oF ss outs++[])):=by
  refine agn t h hs h1 h2 h3 h4 fun e=>?_
  subst e
  have:sg.sig 999999=none:=by kernel_rfl
  rw [hs] at this
  simp at this
theorem Cg (ys:List D) (t:bS Rz):aU 999999 [.sl none 0 0 ys] t=feed t [.sl none 0 0 ys]:=by
  show eI cfg Tryz.prog sg 999999 _ t=_
  unfold eI
  rw [if_pos rfl]
section
variable {R:Type} {x y:R}
theorem aI:br true x y=x:=rfl
theorem bd:br false x y=y:=rfl
theorem bm (b:Bool):br b true false=b:=by cases b<;>rfl
theorem bQ (b:Bool):br b false true=!b:=by cases b<;>rfl
theorem cf (b:Bool):br (!b) x y=br b y x:=by cases b<;>rfl
theorem Ch (a b:Bool) (x y:R):br (br a b false) x y=br a (br b x y) y:=by cases a<;>rfl
theorem D0 (b:Bool):br b x x=x:=by cases b<;>rfl
theorem aZ {a b:Int} (h:a < b):br (ad.lt a b) x y=x:=by simp [ad,br,h]
theorem bH {a b:Int} (h:b≤a):br (ad.lt a b) x y=y:=by simp [ad,br,Int.not_lt.2 h]
theorem xQ {a b:Int} (h:a≤b):br (ad.le a b) x y=x:=by simp [ad,br,h]
theorem ni {a b:Int} (h:b < a):br (ad.le a b) x y=y:=by simp [ad,br,Int.not_le.2 h]
theorem gq {a b:Int} (h:a=b):br (ad.eq a b) x y=x:=by simp [ad,br,h]
theorem eA {a b:Int} (h:a≠b):br (ad.eq a b) x y=y:=by
  have e:(a==b)=false:=by simpa using h
  simp [ad,br,e]
theorem bA {i:Int} {n:Nat} (h0:0≤i) (h:i < n):br (ad.bg i n) x y=x:=by simp [ad,br,h0,h]
theorem HE {l h:Int} {n:Nat} (h0:0≤l) (h1:l≤h) (h2:h≤n):br (ad.wa l h n) x y=x:=by simp [ad,br,h0,h1,h2]
theorem eu {n b:Nat} (h:n*b≤140737488355328):br (ad.fits n b) x y=x:=by simp [ad,br,h]
theorem tb {l c:Int} {b:Nat} (h0:0≤l) (h1:l≤c) (h2:c*b≤140737488355328):br (ad.sZ l c b) x y=x:=by simp [ad,br,h0,h1,h2]
end
theorem Uf (a b:Int):ad.lt a b=decide (a < b):=rfl
theorem Ad (a b:Int):ad.le a b=decide (a≤b):=rfl
theorem Ci (a b:Int):ad.eq a b=(a==b):=rfl
theorem aB (n:Nat):ad.aS n=(n:Int):=rfl
theorem Ae (n:Nat):ad.hZ (n:Int)=n:=rfl
theorem aak (a i s:Nat):ad.idx a (i:Int) s=(a+i)*s:=rfl
theorem u7 (a b:Bool):ad.beq a b=(a==b):=rfl
theorem wrap64 {n:Int} (h:-9223372036854775808≤n) (h':n < 9223372036854775808):IntKind.i64.wrap n=n:=by
  simp only [IntKind.wrap,IntKind.bits,IntKind.signed]
  simp
  omega
theorem Ug {a b:Int} (h:-9223372036854775808≤a+b) (h':a+b < 9223372036854775808):ad.ar .add .i64 a b=a+b:=wrap64 h h'
theorem eZ {a b:Int} (h:-9223372036854775808≤a - b) (h':a - b < 9223372036854775808):ad.ar .sub .i64 a b=a - b:=wrap64 h h'
theorem dn {i:Nat} (h:i < 9223372036854775807):ad.ar .add .i64 (i:Int) 1=((i+1:Nat):Int):=by
  rw [Ug (by omega) (by omega)]
  omega
def oG (a:Int):Bool:=decide (-9223372036854775808≤a)&&decide (a < 9223372036854775808)
theorem Af {a:Int}:oG a=true↔-9223372036854775808≤a∧a < 9223372036854775808:=by simp [oG]
theorem mR {α:Type} {e:α→List D} {w:Nat} (hw:∀ x,(e x).length=w):∀ (xs:List α) {i k:Nat} (hi:i < xs.length),k < w→(U e xs)[i*w+k]?=(e xs[i])[k]?
  | [],i,k,hi,_=>absurd hi (by simp)
  | x::xs,0,k,hi,hk=>by
    simp only [U,List.flatMap_cons,Nat.zero_mul,Nat.zero_add,List.getElem_cons_zero]
    rw [List.getElem?_append_left (by rw [hw]; exact hk)]
  | x::xs,i+1,k,hi,hk=>by
    simp only [U,List.flatMap_cons,List.getElem_cons_succ]
    rw [List.getElem?_append_right (by rw [hw,Nat.succ_mul]; omega)]
    have:(i+1)*w+k - (e x).length=i*w+k:=by rw [hw,Nat.succ_mul]; omega
    rw [this]
    exact mR hw xs (by simpa using hi) hk
section
variable {R:Type} {x y:R}
theorem dB {xs:List Int} {i:Nat} (h:i < xs.length):br (ad.bO .i64 (ints xs) i) x y=x:=by simp [ad,ints,br,List.getElem?_eq_getElem h,fo]
theorem dC {xs:List Int} {i:Nat} (h:i < xs.length):ad.aO (ints xs) i=xs[i]:=by simp [ad,ints,List.getElem?_eq_getElem h,wb]
theorem nv {xs:List UInt8} {i:Nat} (h:i < xs.length):br (ad.bO .u8 (bytes xs) i) x y=x:=by simp [ad,bytes,dE,br,List.getElem?_eq_getElem h,fo]
theorem yJ {xs:List UInt8} {i:Nat} (h:i < xs.length):ad.aO (bytes xs) i=(xs[i].toNat:Int):=by simp [ad,bytes,dE,List.getElem?_eq_getElem h,wb]
theorem P4 {xs:List Bool} {i:Nat} (h:i < xs.length):br (ad.cd (bI xs) i) x y=x:=by simp [ad,bI,br,List.getElem?_eq_getElem h]
theorem P5 {xs:List Bool} {i:Nat} (h:i < xs.length):ad.bw (bI xs) i=xs[i]:=by simp [ad,bI,List.getElem?_eq_getElem h,DR]
theorem Ag {xs:List Int} {i:Nat} (h:i < xs.length):br (ad.slot (ints xs) i) x y=x:=by simp [ad,ints,br,List.getElem?_eq_getElem h,gQ]
theorem YK {xs:List UInt8} {i:Nat} (h:i < xs.length):br (ad.slot (bytes xs) i) x y=x:=by simp [ad,bytes,dE,br,List.getElem?_eq_getElem h,gQ]
theorem YL {xs:List Bool} {i:Nat} (h:i < xs.length):br (ad.slot (bI xs) i) x y=x:=by simp [ad,bI,br,List.getElem?_eq_getElem h,gQ]
theorem ints_set (xs:List Int) (i:Nat) (a:Int):List.set (ints xs) i (.int .i64 a)=ints (xs.set i a):=by simp [ints,List.map_set]
theorem LJ (xs:List UInt8) (i:Nat) (a:UInt8):List.set (bytes xs) i (.int .u8 a.toNat)=bytes (xs.set i a):=by simp [bytes,List.map_set,dE]
theorem LK (xs:List Bool) (i:Nat) (a:Bool):List.set (bI xs) i (.bool a)=bI (xs.set i a):=by simp [bI,List.map_set]
theorem oH:∀ {ds:List D},(∀ d∈ds,bZ d=true)→cq ds=true
  | [],_=>rfl
  | d::ds,h=>by
    simp only [cq,Bool.and_eq_true]
    exact ⟨h d (by simp),oH fun x hx=>h x (by simp [hx])⟩
theorem gJ (xs:List Int):ad.nl (ints xs)=true:=oH (by intro d hd; obtain ⟨a,_,rfl⟩:=List.mem_map.1 hd; rfl)
theorem eK (xs:List UInt8):ad.nl (bytes xs)=true:=oH (by intro d hd; obtain ⟨a,_,rfl⟩:=List.mem_map.1 hd; rfl)
theorem D1 (xs:List Bool):ad.nl (bI xs)=true:=oH (by intro d hd; obtain ⟨a,_,rfl⟩:=List.mem_map.1 hd; rfl)
theorem V3 (n:Nat):fC n [.int .i64 0]=ints (List.replicate n 0):=by
  unfold fC
  induction n with
  | zero=>rfl
  | succ n ih=>simpa [List.replicate_succ,ints,vA] using ih
theorem V4 (n:Nat):fC n [.int .u8 0]=bytes (List.replicate n 0):=by
  unfold fC
  induction n with
  | zero=>rfl
  | succ n ih=>simpa [List.replicate_succ,bytes,vA,dE] using ih
theorem V5 (n:Nat):fC n [.bool false]=bI (List.replicate n false):=by
  unfold fC
  induction n with
  | zero=>rfl
  | succ n ih=>simpa [List.replicate_succ,bI,vA] using ih
end
end Go.Proofs.YtockoilcnmljiaaGreat
namespace Go.Proofs.YtockoilcnmljiaaGreat
set_option maxRecDepth 100000
section
variable (pr:dr) (cv:Cv Rz) (J:Nat→St→Option Rz)
def kU (g0:Bool) (n1:Nat) (c2:List D) (i3:Int) (n4:Nat) (c5:List D):St:=(St.mk [(0,(.sl (some g0) 1 n1 c2)),(3,(.ref 10003 [] 0 none)),(4,(.int .i64 i3))] [(10003,[(.sl none 1 n4 c5)])] [] 0)
theorem Mj:Told cfg Tryz.prog 42 Tryz.f42:=⟨by kernel_rfl,Tryz.func42,by kernel_rfl⟩
theorem Mk (g0:Bool) (n0:Nat) (c0:List D):aR pr cv J 42 Tryz.f42 [(.sl (some g0) 1 n0 c0)]=
    (br (pr.sZ (pr.aS n0) (pr.aS n0) 8) (J 0 (kU g0 n0 c0 0 (pr.hZ (pr.aS n0)) (fC (pr.hZ (pr.aS n0)) [(.int .i64 0)]))) none):=by kernel_rfl
theorem wq (g0:Bool) (n1:Nat) (c2:List D) (i3:Int) (n4:Nat) (c5:List D):bJ pr cv J 42 Tryz.f42 [.undef] 0 (kU g0 n1 c2 i3 n4 c5)=
    (br (pr.lt i3 (pr.aS n1)) (br (pr.bg i3 n1) (br (br (pr.bO .i64 c2 (pr.idx 0 i3 1)) true false) (br (pr.bg i3 n4) (br (pr.slot c5 (pr.idx 0 i3 1)) (J 0 (kU g0 n1 c2 (pr.ar .add .i64 i3 1) n4 (List.set c5 (pr.idx 0 i3 1) (.int .i64 (pr.aO c2 (pr.idx 0 i3 1)))))) none) none) none) none) (some ((.sl none 1 n4 c5),[.undef]))):=by kernel_rfl
def kV (g0:Bool) (n1:Nat) (c2:List D) (g3:Bool) (n4:Nat) (c5:List D) (i6:Int):St:=(St.mk [(0,(.sl (some g0) 1 n1 c2)),(1,(.sl (some g3) 1 n4 c5)),(5,(.int .i64 i6))] [] [] 0)
theorem AI:Told cfg Tryz.prog 49 Tryz.f49:=⟨by kernel_rfl,Tryz.func49,by kernel_rfl⟩
theorem AJ (g0:Bool) (n0:Nat) (c0:List D) (g1:Bool) (n1:Nat) (c1:List D):aR pr cv J 49 Tryz.f49 [(.sl (some g0) 1 n0 c0),(.sl (some g1) 1 n1 c1)]=
    (br (br (pr.eq (pr.aS n0) (pr.aS n1)) false true) (some ((.bool false),[.undef,.undef])) (J 0 (kV g0 n0 c0 g1 n1 c1 0))):=by kernel_rfl
theorem qf (g0:Bool) (n1:Nat) (c2:List D) (g3:Bool) (n4:Nat) (c5:List D) (i6:Int):bJ pr cv J 49 Tryz.f49 [.undef,.undef] 0 (kV g0 n1 c2 g3 n4 c5 i6)=
    (br (pr.lt i6 (pr.aS n1)) (br (pr.bg i6 n1) (br (br (pr.bO .i64 c2 (pr.idx 0 i6 1)) true false) (br (pr.bg i6 n4) (br (br (pr.bO .i64 c5 (pr.idx 0 i6 1)) true false) (br (br (pr.eq (pr.aO c2 (pr.idx 0 i6 1)) (pr.aO c5 (pr.idx 0 i6 1))) false true) (some ((.bool false),[.undef,.undef])) (J 0 (kV g0 n1 c2 g3 n4 c5 (pr.ar .add .i64 i6 1)))) none) none) none) none) (some ((.bool true),[.undef,.undef]))):=by kernel_rfl
theorem Ml:Told cfg Tryz.prog 35 Tryz.f35:=⟨by kernel_rfl,Tryz.func35,by kernel_rfl⟩
theorem Mm (g0:Bool) (n0:Nat) (c0:List D) (a1:Int):aR pr cv J 35 Tryz.f35 [(.sl (some g0) 1 n0 c0),(.int .i64 a1)]=
    (br (pr.lt (pr.ar .sub .i64 a1 (pr.aS n0)) 0) (some ((.int .i64 (-1)),[.undef,.undef])) (some ((.int .i64 (pr.ar .sub .i64 a1 (pr.aS n0))),[.undef,.undef]))):=by kernel_rfl
def jV (g0:Bool) (n1:Nat) (c2:List D) (i3:Int) (n4:Nat) (c5:List D):St:=(St.mk [(0,(.sl (some g0) 1 n1 c2)),(3,(.ref 10003 [] 0 none)),(4,(.int .i64 i3))] [(10003,[(.sl none 1 n4 c5)])] [] 0)
theorem JF:Told cfg Tryz.prog 104 Tryz.f104:=⟨by kernel_rfl,Tryz.func104,by kernel_rfl⟩
theorem JG (g0:Bool) (n0:Nat) (c0:List D):aR pr cv J 104 Tryz.f104 [(.sl (some g0) 1 n0 c0)]=
    (br (pr.sZ (pr.aS n0) (pr.aS n0) 1) (J 0 (jV g0 n0 c0 0 (pr.hZ (pr.aS n0)) (fC (pr.hZ (pr.aS n0)) [(.int .u8 0)]))) none):=by kernel_rfl
theorem uK (g0:Bool) (n1:Nat) (c2:List D) (i3:Int) (n4:Nat) (c5:List D):bJ pr cv J 104 Tryz.f104 [.undef] 0 (jV g0 n1 c2 i3 n4 c5)=
    (br (pr.lt i3 (pr.aS n1)) (br (pr.bg i3 n1) (br (br (pr.bO .u8 c2 (pr.idx 0 i3 1)) true false) (br (pr.bg i3 n4) (br (pr.slot c5 (pr.idx 0 i3 1)) (J 0 (jV g0 n1 c2 (pr.ar .add .i64 i3 1) n4 (List.set c5 (pr.idx 0 i3 1) (.int .u8 (pr.aO c2 (pr.idx 0 i3 1)))))) none) none) none) none) (some ((.sl none 1 n4 c5),[.undef]))):=by kernel_rfl
def jW (g0:Bool) (n1:Nat) (c2:List D) (g3:Bool) (n4:Nat) (c5:List D) (i6:Int):St:=(St.mk [(0,(.sl (some g0) 1 n1 c2)),(1,(.sl (some g3) 1 n4 c5)),(5,(.int .i64 i6))] [] [] 0)
theorem yK:Told cfg Tryz.prog 116 Tryz.f116:=⟨by kernel_rfl,Tryz.func116,by kernel_rfl⟩
theorem yL (g0:Bool) (n0:Nat) (c0:List D) (g1:Bool) (n1:Nat) (c1:List D):aR pr cv J 116 Tryz.f116 [(.sl (some g0) 1 n0 c0),(.sl (some g1) 1 n1 c1)]=
    (br (br (pr.eq (pr.aS n0) (pr.aS n1)) false true) (some ((.bool false),[.undef,.undef])) (J 0 (jW g0 n0 c0 g1 n1 c1 0))):=by kernel_rfl
theorem pg (g0:Bool) (n1:Nat) (c2:List D) (g3:Bool) (n4:Nat) (c5:List D) (i6:Int):bJ pr cv J 116 Tryz.f116 [.undef,.undef] 0 (jW g0 n1 c2 g3 n4 c5 i6)=
    (br (pr.lt i6 (pr.aS n1)) (br (pr.bg i6 n1) (br (br (pr.bO .u8 c2 (pr.idx 0 i6 1)) true false) (br (pr.bg i6 n4) (br (br (pr.bO .u8 c5 (pr.idx 0 i6 1)) true false) (br (br (pr.eq (pr.aO c2 (pr.idx 0 i6 1)) (pr.aO c5 (pr.idx 0 i6 1))) false true) (some ((.bool false),[.undef,.undef])) (J 0 (jW g0 n1 c2 g3 n4 c5 (pr.ar .add .i64 i6 1)))) none) none) none) none) (some ((.bool true),[.undef,.undef]))):=by kernel_rfl
theorem JH:Told cfg Tryz.prog 96 Tryz.f96:=⟨by kernel_rfl,Tryz.func96,by kernel_rfl⟩
theorem JI (g0:Bool) (n0:Nat) (c0:List D) (a1:Int):aR pr cv J 96 Tryz.f96 [(.sl (some g0) 1 n0 c0),(.int .i64 a1)]=
    (br (pr.lt (pr.ar .sub .i64 a1 (pr.aS n0)) 0) (some ((.int .i64 (-1)),[.undef,.undef])) (some ((.int .i64 (pr.ar .sub .i64 a1 (pr.aS n0))),[.undef,.undef]))):=by kernel_rfl
def jX (g0:Bool) (n1:Nat) (c2:List D) (i3:Int) (n4:Nat) (c5:List D):St:=(St.mk [(0,(.sl (some g0) 1 n1 c2)),(3,(.ref 10003 [] 0 none)),(4,(.int .i64 i3))] [(10003,[(.sl none 1 n4 c5)])] [] 0)
theorem JJ:Told cfg Tryz.prog 45 Tryz.f45:=⟨by kernel_rfl,Tryz.func45,by kernel_rfl⟩
theorem JK (g0:Bool) (n0:Nat) (c0:List D):aR pr cv J 45 Tryz.f45 [(.sl (some g0) 1 n0 c0)]=
    (br (pr.sZ (pr.aS n0) (pr.aS n0) 1) (J 0 (jX g0 n0 c0 0 (pr.hZ (pr.aS n0)) (fC (pr.hZ (pr.aS n0)) [(.bool false)]))) none):=by kernel_rfl
theorem uL (g0:Bool) (n1:Nat) (c2:List D) (i3:Int) (n4:Nat) (c5:List D):bJ pr cv J 45 Tryz.f45 [.undef] 0 (jX g0 n1 c2 i3 n4 c5)=
    (br (pr.lt i3 (pr.aS n1)) (br (pr.bg i3 n1) (br (br (pr.cd c2 (pr.idx 0 i3 1)) true false) (br (pr.bg i3 n4) (br (pr.slot c5 (pr.idx 0 i3 1)) (J 0 (jX g0 n1 c2 (pr.ar .add .i64 i3 1) n4 (List.set c5 (pr.idx 0 i3 1) (.bool (pr.bw c2 (pr.idx 0 i3 1)))))) none) none) none) none) (some ((.sl none 1 n4 c5),[.undef]))):=by kernel_rfl
def jY (g0:Bool) (n1:Nat) (c2:List D) (g3:Bool) (n4:Nat) (c5:List D) (i6:Int):St:=(St.mk [(0,(.sl (some g0) 1 n1 c2)),(1,(.sl (some g3) 1 n4 c5)),(5,(.int .i64 i6))] [] [] 0)
theorem yM:Told cfg Tryz.prog 52 Tryz.f52:=⟨by kernel_rfl,Tryz.func52,by kernel_rfl⟩
theorem yN (g0:Bool) (n0:Nat) (c0:List D) (g1:Bool) (n1:Nat) (c1:List D):aR pr cv J 52 Tryz.f52 [(.sl (some g0) 1 n0 c0),(.sl (some g1) 1 n1 c1)]=
    (br (br (pr.eq (pr.aS n0) (pr.aS n1)) false true) (some ((.bool false),[.undef,.undef])) (J 0 (jY g0 n0 c0 g1 n1 c1 0))):=by kernel_rfl
theorem ph (g0:Bool) (n1:Nat) (c2:List D) (g3:Bool) (n4:Nat) (c5:List D) (i6:Int):bJ pr cv J 52 Tryz.f52 [.undef,.undef] 0 (jY g0 n1 c2 g3 n4 c5 i6)=
    (br (pr.lt i6 (pr.aS n1)) (br (pr.bg i6 n1) (br (br (pr.cd c2 (pr.idx 0 i6 1)) true false) (br (pr.bg i6 n4) (br (br (pr.cd c5 (pr.idx 0 i6 1)) true false) (br (br (pr.beq (pr.bw c2 (pr.idx 0 i6 1)) (pr.bw c5 (pr.idx 0 i6 1))) false true) (some ((.bool false),[.undef,.undef])) (J 0 (jY g0 n1 c2 g3 n4 c5 (pr.ar .add .i64 i6 1)))) none) none) none) none) (some ((.bool true),[.undef,.undef]))):=by kernel_rfl
theorem JL:Told cfg Tryz.prog 38 Tryz.f38:=⟨by kernel_rfl,Tryz.func38,by kernel_rfl⟩
theorem JM (g0:Bool) (n0:Nat) (c0:List D) (a1:Int):aR pr cv J 38 Tryz.f38 [(.sl (some g0) 1 n0 c0),(.int .i64 a1)]=
    (br (pr.lt (pr.ar .sub .i64 a1 (pr.aS n0)) 0) (some ((.int .i64 (-1)),[.undef,.undef])) (some ((.int .i64 (pr.ar .sub .i64 a1 (pr.aS n0))),[.undef,.undef]))):=by kernel_rfl
end
theorem cS (i:Nat):ad.idx 0 (i:Int) 1=i:=by rw [aak]; omega
theorem qg {α:Type} {xs:List α} {i:Nat} (hi:i < xs.length) (z:α) (ys:List α) (hl:xs.length=ys.length) (hy:i < ys.length):(ys.take i++List.replicate (xs.length - i) z).set i ys[i]=ys.take (i+1)++List.replicate (xs.length - (i+1)) z:=by
  rw [List.set_append_right _ _ (by simp; omega)]
  have h1:i - (ys.take i).length=0:=by simp; omega
  obtain ⟨k,hk⟩:∃ k,xs.length - i=k+1:=⟨xs.length - i - 1,by omega⟩
  have h2:xs.length - (i+1)=k:=by omega
  rw [h1,hk,h2,List.replicate_succ,List.set_cons_zero,← List.take_append_getElem hy,List.append_assoc]
  rfl
def fa (n:Nat) (left:Int):Int:=if left < n then -1 else left - n
theorem YM (g:Bool) (xs:List Int) (hb:xs.length≤17592186044416) (Bp:xs.length < 9223372036854775807):Cm 42 [.sl (some g) 1 xs.length (ints xs)] (.sl none 1 xs.length (ints xs),[.undef]):=by
  refine Cm.go Mj [.undef] 0 (kU g xs.length (ints xs) (0:Nat) xs.length (ints (List.replicate xs.length 0))) ?_ fun J hJ=>?_
  · refine WP.loop (H:=fun i=>kU g xs.length (ints xs) (i:Nat) xs.length (ints (xs.take i++List.replicate (xs.length - i) 0))) (n:=xs.length) (fun _=>True) (fun i hi _ ih=>WP.go _ (ih trivial) fun J hJ=>?_) (fun _=>WP.fin fun J=>?_) 0 (Nat.zero_le _) trivial
    · rw [wq]
      simp (disch:=first | omega | (simp; done) | (simp; omega)) only [aI,bd,bm,aB,aZ,bA,cS,dB,Ag,dC,ints_set,dn]
      rw [← hJ]
      congr 2
      rw [qg hi _ xs rfl hi]
    · rw [wq]
      simp (disch:=omega) only [aI,bd,aB,bH,List.take_length,Nat.sub_self,List.replicate_zero,List.append_nil]
  · rw [Mk]
    simp (disch:=omega) only [aI,bd,aB,tb,Ae,V3]
    exact hJ
theorem YN (g h:Bool) (xs ys:List Int) (hb:xs.length < 9223372036854775807):Cm 49 [.sl (some g) 1 xs.length (ints xs),.sl (some h) 1 ys.length (ints ys)] (.bool (decide (xs=ys)),[.undef,.undef]):=by
  by_cases hl:xs.length=ys.length
  · refine Cm.go AI [.undef,.undef] 0 (kV g xs.length (ints xs) h ys.length (ints ys) (0:Nat)) ?_ fun J hJ=>?_
    · refine WP.loop (H:=fun i=>kV g xs.length (ints xs) h ys.length (ints ys) (i:Nat)) (n:=xs.length) (fun i=>xs.take i=ys.take i) (fun i hi hv ih=>?_) (fun hv=>WP.fin fun J=>?_) 0 (Nat.zero_le _) (by simp)
      · have oB:i < ys.length:=by omega
        by_cases he:xs[i]=ys[i]
        · refine WP.go _ (ih (by rw [← List.take_append_getElem hi,← List.take_append_getElem oB,hv,he])) fun J hJ=>?_
          rw [qf]
          simp (disch:=omega) only [aI,bd,bm,bQ,cf,aB,aZ,bA,cS,dB,dC,dn,gq,he,u7,beq_self_eq_true,Bool.not_true]
          exact hJ
        · refine WP.fin fun J=>?_
          rw [qf]
          have db:xs≠ys:=fun e=>he (by subst e; rfl)
          have hn8:=he
          have hbe:=he
          simp (disch:=first | omega | assumption) only [aI,bd,bm,bQ,cf,aB,aZ,bA,cS,dB,dC,eA,decide_eq_false db]
      · rw [qf]
        rw [List.take_length,hl,List.take_length] at hv
        simp (disch:=omega) only [aI,bd,aB,bH,decide_eq_true hv]
    · rw [AJ]
      simp (disch:=omega) only [aI,bd,aB,bQ,cf,gq]
      exact hJ
  · refine Cm.fin AI fun J=>?_
    have db:xs≠ys:=fun e=>hl (by rw [e])
    rw [AJ]
    simp (disch:=omega) only [aI,bd,aB,bQ,cf,eA,decide_eq_false db]
theorem YO (g:Bool) (n:Nat) (c:List D) (left:Int) (h0:0≤left) (h1:left≤1048576) (hn:n≤140737488355328):Cm 35 [.sl (some g) 1 n c,.int .i64 left] (.int .i64 (fa n left),[.undef,.undef]):=by
  refine Cm.fin Ml fun J=>?_
  rw [Mm]
  unfold fa
  by_cases h:left < n
  · rw [if_pos h]
    simp (disch:=omega) only [aB,eZ,aZ]
  · rw [if_neg h]
    simp (disch:=omega) only [aB,eZ,bH]
theorem V6 (g:Bool) (xs:List UInt8) (hb:xs.length≤140737488355328) (Bp:xs.length < 9223372036854775807):Cm 104 [.sl (some g) 1 xs.length (bytes xs)] (.sl none 1 xs.length (bytes xs),[.undef]):=by
  refine Cm.go JF [.undef] 0 (jV g xs.length (bytes xs) (0:Nat) xs.length (bytes (List.replicate xs.length 0))) ?_ fun J hJ=>?_
  · refine WP.loop (H:=fun i=>jV g xs.length (bytes xs) (i:Nat) xs.length (bytes (xs.take i++List.replicate (xs.length - i) 0))) (n:=xs.length) (fun _=>True) (fun i hi _ ih=>WP.go _ (ih trivial) fun J hJ=>?_) (fun _=>WP.fin fun J=>?_) 0 (Nat.zero_le _) trivial
    · rw [uK]
      simp (disch:=first | omega | (simp; done) | (simp; omega)) only [aI,bd,bm,aB,aZ,bA,cS,nv,YK,yJ,LJ,dn]
      rw [← hJ]
      congr 2
      rw [qg hi _ xs rfl hi]
    · rw [uK]
      simp (disch:=omega) only [aI,bd,aB,bH,List.take_length,Nat.sub_self,List.replicate_zero,List.append_nil]
  · rw [JG]
    simp (disch:=omega) only [aI,bd,aB,tb,Ae,V4]
    exact hJ
theorem V7 (g h:Bool) (xs ys:List UInt8) (hb:xs.length < 9223372036854775807):Cm 116 [.sl (some g) 1 xs.length (bytes xs),.sl (some h) 1 ys.length (bytes ys)] (.bool (decide (xs=ys)),[.undef,.undef]):=by
  by_cases hl:xs.length=ys.length
  · refine Cm.go yK [.undef,.undef] 0 (jW g xs.length (bytes xs) h ys.length (bytes ys) (0:Nat)) ?_ fun J hJ=>?_
    · refine WP.loop (H:=fun i=>jW g xs.length (bytes xs) h ys.length (bytes ys) (i:Nat)) (n:=xs.length) (fun i=>xs.take i=ys.take i) (fun i hi hv ih=>?_) (fun hv=>WP.fin fun J=>?_) 0 (Nat.zero_le _) (by simp)
      · have oB:i < ys.length:=by omega
        by_cases he:xs[i]=ys[i]
        · refine WP.go _ (ih (by rw [← List.take_append_getElem hi,← List.take_append_getElem oB,hv,he])) fun J hJ=>?_
          rw [pg]
          simp (disch:=omega) only [aI,bd,bm,bQ,cf,aB,aZ,bA,cS,nv,yJ,dn,gq,he,u7,beq_self_eq_true,Bool.not_true]
          exact hJ
        · refine WP.fin fun J=>?_
          rw [pg]
          have db:xs≠ys:=fun e=>he (by subst e; rfl)
          have hn8:((xs[i].toNat:Int))≠(ys[i].toNat:Int):=fun e=>he (UInt8.toNat_inj.1 (by omega))
          have hbe:=he
          simp (disch:=first | omega | assumption) only [aI,bd,bm,bQ,cf,aB,aZ,bA,cS,nv,yJ,eA,decide_eq_false db]
      · rw [pg]
        rw [List.take_length,hl,List.take_length] at hv
        simp (disch:=omega) only [aI,bd,aB,bH,decide_eq_true hv]
    · rw [yL]
      simp (disch:=omega) only [aI,bd,aB,bQ,cf,gq]
      exact hJ
  · refine Cm.fin yK fun J=>?_
    have db:xs≠ys:=fun e=>hl (by rw [e])
    rw [yL]
    simp (disch:=omega) only [aI,bd,aB,bQ,cf,eA,decide_eq_false db]
theorem V8 (g:Bool) (n:Nat) (c:List D) (left:Int) (h0:0≤left) (h1:left≤1048576) (hn:n≤140737488355328):Cm 96 [.sl (some g) 1 n c,.int .i64 left] (.int .i64 (fa n left),[.undef,.undef]):=by
  refine Cm.fin JH fun J=>?_
  rw [JI]
  unfold fa
  by_cases h:left < n
  · rw [if_pos h]
    simp (disch:=omega) only [aB,eZ,aZ]
  · rw [if_neg h]
    simp (disch:=omega) only [aB,eZ,bH]
theorem V9 (g:Bool) (xs:List Bool) (hb:xs.length≤140737488355328) (Bp:xs.length < 9223372036854775807):Cm 45 [.sl (some g) 1 xs.length (bI xs)] (.sl none 1 xs.length (bI xs),[.undef]):=by
  refine Cm.go JJ [.undef] 0 (jX g xs.length (bI xs) (0:Nat) xs.length (bI (List.replicate xs.length false))) ?_ fun J hJ=>?_
  · refine WP.loop (H:=fun i=>jX g xs.length (bI xs) (i:Nat) xs.length (bI (xs.take i++List.replicate (xs.length - i) false))) (n:=xs.length) (fun _=>True) (fun i hi _ ih=>WP.go _ (ih trivial) fun J hJ=>?_) (fun _=>WP.fin fun J=>?_) 0 (Nat.zero_le _) trivial
    · rw [uL]
      simp (disch:=first | omega | (simp; done) | (simp; omega)) only [aI,bd,bm,aB,aZ,bA,cS,P4,YL,P5,LK,dn]
      rw [← hJ]
      congr 2
      rw [qg hi _ xs rfl hi]
    · rw [uL]
      simp (disch:=omega) only [aI,bd,aB,bH,List.take_length,Nat.sub_self,List.replicate_zero,List.append_nil]
  · rw [JK]
    simp (disch:=omega) only [aI,bd,aB,tb,Ae,V5]
    exact hJ
theorem Wa (g h:Bool) (xs ys:List Bool) (hb:xs.length < 9223372036854775807):Cm 52 [.sl (some g) 1 xs.length (bI xs),.sl (some h) 1 ys.length (bI ys)] (.bool (decide (xs=ys)),[.undef,.undef]):=by
  by_cases hl:xs.length=ys.length
  · refine Cm.go yM [.undef,.undef] 0 (jY g xs.length (bI xs) h ys.length (bI ys) (0:Nat)) ?_ fun J hJ=>?_
    · refine WP.loop (H:=fun i=>jY g xs.length (bI xs) h ys.length (bI ys) (i:Nat)) (n:=xs.length) (fun i=>xs.take i=ys.take i) (fun i hi hv ih=>?_) (fun hv=>WP.fin fun J=>?_) 0 (Nat.zero_le _) (by simp)
      · have oB:i < ys.length:=by omega
        by_cases he:xs[i]=ys[i]
        · refine WP.go _ (ih (by rw [← List.take_append_getElem hi,← List.take_append_getElem oB,hv,he])) fun J hJ=>?_
          rw [ph]
          simp (disch:=omega) only [aI,bd,bm,bQ,cf,aB,aZ,bA,cS,P4,P5,dn,gq,he,u7,beq_self_eq_true,Bool.not_true]
          exact hJ
        · refine WP.fin fun J=>?_
          rw [ph]
          have db:xs≠ys:=fun e=>he (by subst e; rfl)
          have hn8:=he
          have hbe:(xs[i]==ys[i])=false:=by simpa using he
          simp (disch:=first | omega | assumption) only [aI,bd,bm,bQ,cf,aB,aZ,bA,cS,P4,P5,eA,decide_eq_false db,u7,hbe,Bool.not_false]
      · rw [ph]
        rw [List.take_length,hl,List.take_length] at hv
        simp (disch:=omega) only [aI,bd,aB,bH,decide_eq_true hv]
    · rw [yN]
      simp (disch:=omega) only [aI,bd,aB,bQ,cf,gq]
      exact hJ
  · refine Cm.fin yM fun J=>?_
    have db:xs≠ys:=fun e=>hl (by rw [e])
    rw [yN]
    simp (disch:=omega) only [aI,bd,aB,bQ,cf,eA,decide_eq_false db]
theorem Wb (g:Bool) (n:Nat) (c:List D) (left:Int) (h0:0≤left) (h1:left≤1048576) (hn:n≤140737488355328):Cm 38 [.sl (some g) 1 n c,.int .i64 left] (.int .i64 (fa n left),[.undef,.undef]):=by
  refine Cm.fin JL fun J=>?_
  rw [JM]
  unfold fa
  by_cases h:left < n
  · rw [if_pos h]
    simp (disch:=omega) only [aB,eZ,aZ]
  · rw [if_neg h]
    simp (disch:=omega) only [aB,eZ,bH]
end Go.Proofs.YtockoilcnmljiaaGreat
namespace Go.Proofs.YtockoilcnmljiaaGreat
set_option maxRecDepth 100000
section
variable (pr:dr) (cv:Cv Rz) (J:Nat→St→Option Rz)
def jZ (g0:Bool) (n1:Nat) (c2:List D) (i3:Int) (n4:Nat) (c5:List D):St:=(St.mk [(0,(.sl (some g0) 1 n1 c2)),(3,(.ref 10003 [] 0 none)),(4,(.int .i64 i3))] [(10003,[(.sl none 1 n4 c5)])] [] 0)
theorem JN:Told cfg Tryz.prog 46 Tryz.f46:=⟨by kernel_rfl,Tryz.func46,by kernel_rfl⟩
theorem JO (g0:Bool) (n0:Nat) (c0:List D):aR pr cv J 46 Tryz.f46 [(.sl (some g0) 1 n0 c0)]=
    (br (pr.sZ (pr.aS n0) (pr.aS n0) 24) (J 0 (jZ g0 n0 c0 0 (pr.hZ (pr.aS n0)) (fC (pr.hZ (pr.aS n0)) [(.nil 1)]))) none):=by kernel_rfl
theorem uM (g0:Bool) (n1:Nat) (c2:List D) (i3:Int) (n4:Nat) (c5:List D):bJ pr cv J 46 Tryz.f46 [.undef] 0 (jZ g0 n1 c2 i3 n4 c5)=
    (br (pr.lt i3 (pr.aS n1)) (br (pr.bg i3 n1) (br (br (pr.aN 1 c2 (pr.idx 0 i3 1)) true false) (cv 42 [(.sl (some (pr.aH c2 (pr.idx 0 i3 1))) 1 (pr.aC c2 (pr.idx 0 i3 1)) (pr.aE c2 (pr.idx 0 i3 1)))] (.sl (fun dQ=>(fun dt=>(.done (br (br (br (pr.nl dt) true false) true false) (br (pr.bg i3 n4) (br (br (pr.ne c5) (br (pr.kC 1 c5 (pr.idx 0 i3 1)) true false) false) (cv 999999 [(.sl none 0 0 (List.set c5 (pr.idx 0 i3 1) (.sl none 1 dQ dt)))] (.sl (fun pc=>(fun iX=>(.done (J 0 (jZ g0 n1 c2 (pr.ar .add .i64 i3 1) n4 iX))))))) none) none) none)))))) none) none) (some ((.sl none 1 n4 c5),[.undef]))):=by kernel_rfl
def j0 (g0:Bool) (n1:Nat) (c2:List D) (g3:Bool) (n4:Nat) (c5:List D) (i6:Int):St:=(St.mk [(0,(.sl (some g0) 1 n1 c2)),(1,(.sl (some g3) 1 n4 c5)),(5,(.int .i64 i6))] [] [] 0)
theorem yO:Told cfg Tryz.prog 53 Tryz.f53:=⟨by kernel_rfl,Tryz.func53,by kernel_rfl⟩
theorem yP (g0:Bool) (n0:Nat) (c0:List D) (g1:Bool) (n1:Nat) (c1:List D):aR pr cv J 53 Tryz.f53 [(.sl (some g0) 1 n0 c0),(.sl (some g1) 1 n1 c1)]=
    (br (br (pr.eq (pr.aS n0) (pr.aS n1)) false true) (some ((.bool false),[.undef,.undef])) (J 0 (j0 g0 n0 c0 g1 n1 c1 0))):=by kernel_rfl
theorem pj (g0:Bool) (n1:Nat) (c2:List D) (g3:Bool) (n4:Nat) (c5:List D) (i6:Int):bJ pr cv J 53 Tryz.f53 [.undef,.undef] 0 (j0 g0 n1 c2 g3 n4 c5 i6)=
    (br (pr.lt i6 (pr.aS n1)) (br (pr.bg i6 n1) (br (br (pr.aN 1 c2 (pr.idx 0 i6 1)) true false) (br (pr.bg i6 n4) (br (br (pr.aN 1 c5 (pr.idx 0 i6 1)) true false) (cv 49 [(.sl (some (pr.aH c2 (pr.idx 0 i6 1))) 1 (pr.aC c2 (pr.idx 0 i6 1)) (pr.aE c2 (pr.idx 0 i6 1))),(.sl (some (pr.aH c5 (pr.idx 0 i6 1))) 1 (pr.aC c5 (pr.idx 0 i6 1)) (pr.aE c5 (pr.idx 0 i6 1)))] (.bool (fun bK=>(.done (br (br bK false true) (some ((.bool false),[.undef,.undef])) (J 0 (j0 g0 n1 c2 g3 n4 c5 (pr.ar .add .i64 i6 1)))))))) none) none) none) none) (some ((.bool true),[.undef,.undef]))):=by kernel_rfl
def mS (g0:Bool) (n1:Nat) (c2:List D) (i3:Int) (i4:Int):St:=(St.mk [(0,(.sl (some g0) 1 n1 c2)),(1,(.int .i64 i3)),(5,(.int .i64 i4))] [] [] 0)
theorem yQ:Told cfg Tryz.prog 39 Tryz.f39:=⟨by kernel_rfl,Tryz.func39,by kernel_rfl⟩
theorem yR (g0:Bool) (n0:Nat) (c0:List D) (a1:Int):aR pr cv J 39 Tryz.f39 [(.sl (some g0) 1 n0 c0),(.int .i64 a1)]=
    (br (pr.lt (pr.ar .sub .i64 a1 (pr.aS n0)) 0) (some ((.int .i64 (-1)),[.undef,.undef])) (J 0 (mS g0 n0 c0 (pr.ar .sub .i64 a1 (pr.aS n0)) 0))):=by kernel_rfl
theorem pk (g0:Bool) (n1:Nat) (c2:List D) (i3:Int) (i4:Int):bJ pr cv J 39 Tryz.f39 [.undef,.undef] 0 (mS g0 n1 c2 i3 i4)=
    (br (pr.lt i4 (pr.aS n1)) (br (pr.bg i4 n1) (br (br (pr.aN 1 c2 (pr.idx 0 i4 1)) true false) (cv 35 [(.sl (some (pr.aH c2 (pr.idx 0 i4 1))) 1 (pr.aC c2 (pr.idx 0 i4 1)) (pr.aE c2 (pr.idx 0 i4 1))),(.int .i64 i3)] (.int (fun dA=>(.done (br (pr.lt dA 0) (some ((.int .i64 (-1)),[.undef,.undef])) (J 0 (mS g0 n1 c2 dA (pr.ar .add .i64 i4 1)))))))) none) none) (some ((.int .i64 i3),[.undef,.undef]))):=by kernel_rfl
theorem Mn:Told cfg Tryz.prog 43 Tryz.f43:=⟨by kernel_rfl,Tryz.func43,by kernel_rfl⟩
theorem Mo (g0:Bool) (n0:Nat) (c0:List D) (g1:Bool) (n1:Nat) (c1:List D) (a2:Bool) (a3:Bool) (a4:Bool) (a5:Int):aR pr cv J 43 Tryz.f43 [(.agg [(.sl (some g0) 1 n0 c0),(.sl (some g1) 1 n1 c1),(.bool a2),(.bool a3),(.bool a4),(.int .i64 a5)])]=
    (cv 42 [(.sl (some g0) 1 n0 c0)] (.sl (fun dQ=>(fun dt=>(.done (br (br (br (pr.nl dt) true false) true false) (cv 46 [(.sl (some g1) 1 n1 c1)] (.sl (fun pc=>(fun iX=>(.done (br (br (br (pr.nl iX) true false) true false) (some ((.agg [(.sl none 1 dQ dt),(.sl none 1 pc iX),(.bool a2),(.bool a3),(.bool a4),(.int .i64 a5)]),[.undef])) none)))))) none)))))):=by kernel_rfl
theorem Mp:Told cfg Tryz.prog 50 Tryz.f50:=⟨by kernel_rfl,Tryz.func50,by kernel_rfl⟩
theorem Mq (g0:Bool) (n0:Nat) (c0:List D) (g1:Bool) (n1:Nat) (c1:List D) (a2:Bool) (a3:Bool) (a4:Bool) (a5:Int) (g6:Bool) (n6:Nat) (c6:List D) (g7:Bool) (n7:Nat) (c7:List D) (a8:Bool) (a9:Bool) (a10:Bool) (a11:Int):aR pr cv J 50 Tryz.f50 [(.agg [(.sl (some g0) 1 n0 c0),(.sl (some g1) 1 n1 c1),(.bool a2),(.bool a3),(.bool a4),(.int .i64 a5)]),(.agg [(.sl (some g6) 1 n6 c6),(.sl (some g7) 1 n7 c7),(.bool a8),(.bool a9),(.bool a10),(.int .i64 a11)])]=
    let y1:Option (D × List D):=(some ((.bool false),[.undef,.undef]))
    (cv 49 [(.sl (some g0) 1 n0 c0),(.sl (some g6) 1 n6 c6)] (.bool (fun bK=>(.done (br (br bK false true) y1 (cv 53 [(.sl (some g1) 1 n1 c1),(.sl (some g7) 1 n7 c7)] (.bool (fun eQ=>(.done (br (br eQ false true) y1 (br (br (pr.beq a2 a8) false true) y1 (br (br (pr.beq a3 a9) false true) y1 (br (br (pr.beq a4 a10) false true) y1 (br (br (pr.eq a5 a11) false true) y1 (some ((.bool true),[.undef,.undef])))))))))))))))):=by kernel_rfl
theorem Mr:Told cfg Tryz.prog 36 Tryz.f36:=⟨by kernel_rfl,Tryz.func36,by kernel_rfl⟩
theorem Mt (g0:Bool) (n0:Nat) (c0:List D) (g1:Bool) (n1:Nat) (c1:List D) (a2:Bool) (a3:Bool) (a4:Bool) (a5:Int) (a6:Int):aR pr cv J 36 Tryz.f36 [(.agg [(.sl (some g0) 1 n0 c0),(.sl (some g1) 1 n1 c1),(.bool a2),(.bool a3),(.bool a4),(.int .i64 a5)]),(.int .i64 a6)]=
    let y1:Option (D × List D):=(some ((.int .i64 (-1)),[.undef,.undef]))
    (cv 35 [(.sl (some g0) 1 n0 c0),(.int .i64 a6)] (.int (fun dA=>(.done (br (pr.lt dA 0) y1 (cv 39 [(.sl (some g1) 1 n1 c1),(.int .i64 dA)] (.int (fun kW=>(.done (br (pr.lt kW 0) y1 (some ((.int .i64 kW),[.undef,.undef])))))))))))):=by kernel_rfl
theorem JP:Told cfg Tryz.prog 44 Tryz.f44:=⟨by kernel_rfl,Tryz.func44,by kernel_rfl⟩
theorem JQ (g0:Bool) (n0:Nat) (c0:List D) (g1:Bool) (n1:Nat) (c1:List D):aR pr cv J 44 Tryz.f44 [(.agg [(.sl (some g0) 1 n0 c0),(.sl (some g1) 1 n1 c1)])]=
    (cv 104 [(.sl (some g0) 1 n0 c0)] (.sl (fun dQ=>(fun dt=>(.done (br (br (br (pr.nl dt) true false) true false) (cv 104 [(.sl (some g1) 1 n1 c1)] (.sl (fun pc=>(fun iX=>(.done (br (br (br (pr.nl iX) true false) true false) (some ((.agg [(.sl none 1 dQ dt),(.sl none 1 pc iX)]),[.undef])) none)))))) none)))))):=by kernel_rfl
theorem JR:Told cfg Tryz.prog 51 Tryz.f51:=⟨by kernel_rfl,Tryz.func51,by kernel_rfl⟩
theorem JS (g0:Bool) (n0:Nat) (c0:List D) (g1:Bool) (n1:Nat) (c1:List D) (g2:Bool) (n2:Nat) (c2:List D) (g3:Bool) (n3:Nat) (c3:List D):aR pr cv J 51 Tryz.f51 [(.agg [(.sl (some g0) 1 n0 c0),(.sl (some g1) 1 n1 c1)]),(.agg [(.sl (some g2) 1 n2 c2),(.sl (some g3) 1 n3 c3)])]=
    let y1:Option (D × List D):=(some ((.bool false),[.undef,.undef]))
    (cv 116 [(.sl (some g0) 1 n0 c0),(.sl (some g2) 1 n2 c2)] (.bool (fun bK=>(.done (br (br bK false true) y1 (cv 116 [(.sl (some g1) 1 n1 c1),(.sl (some g3) 1 n3 c3)] (.bool (fun eQ=>(.done (br (br eQ false true) y1 (some ((.bool true),[.undef,.undef])))))))))))):=by kernel_rfl
theorem JT:Told cfg Tryz.prog 37 Tryz.f37:=⟨by kernel_rfl,Tryz.func37,by kernel_rfl⟩
theorem JU (g0:Bool) (n0:Nat) (c0:List D) (g1:Bool) (n1:Nat) (c1:List D) (a2:Int):aR pr cv J 37 Tryz.f37 [(.agg [(.sl (some g0) 1 n0 c0),(.sl (some g1) 1 n1 c1)]),(.int .i64 a2)]=
    let y1:Option (D × List D):=(some ((.int .i64 (-1)),[.undef,.undef]))
    (cv 96 [(.sl (some g0) 1 n0 c0),(.int .i64 a2)] (.int (fun dA=>(.done (br (pr.lt dA 0) y1 (cv 96 [(.sl (some g1) 1 n1 c1),(.int .i64 dA)] (.int (fun kW=>(.done (br (pr.lt kW 0) y1 (some ((.int .i64 kW),[.undef,.undef])))))))))))):=by kernel_rfl
theorem Mu:Told cfg Tryz.prog 13 Tryz.f13:=⟨by kernel_rfl,Tryz.func13,by kernel_rfl⟩
theorem Mv (a0:Int) (a1:Bool) (a2:Bool) (g3:Bool) (n3:Nat) (c3:List D) (g4:Bool) (n4:Nat) (c4:List D) (g5:Bool) (n5:Nat) (c5:List D) (a6:Bool) (a7:Bool) (a8:Bool) (a9:Int) (g10:Bool) (nQ:Nat) (rF:List D) (g11:Bool) (dH:Nat) (nR:List D) (g12:Bool) (fF:Nat) (dR:List D) (g13:Bool) (gO:Nat) (ga:List D) (g14:Bool) (kB:Nat) (gD:List D) (g15:Bool) (mI:Nat) (kX:List D):aR pr cv J 13 Tryz.f13 [(.agg [(.int .i64 a0),(.bool a1),(.bool a2),(.sl (some g3) 1 n3 c3),(.sl (some g4) 1 n4 c4),(.sl (some g5) 1 n5 c5),(.bool a6),(.bool a7),(.bool a8),(.int .i64 a9),(.sl (some g10) 1 nQ rF),(.sl (some g11) 1 dH nR),(.sl (some g12) 1 fF dR),(.sl (some g13) 1 gO ga),(.sl (some g14) 1 kB gD),(.sl (some g15) 1 mI kX)])]=
    (cv 42 [(.sl (some g3) 1 n3 c3)] (.sl (fun dQ=>(fun dt=>(.done (br (br (br (pr.nl dt) true false) true false) (cv 43 [(.agg [(.sl (some g4) 1 n4 c4),(.sl (some g5) 1 n5 c5),(.bool a6),(.bool a7),(.bool a8),(.int .i64 a9)])] (.sl (fun pc=>(fun iX=>(.sl (fun vn4=>(fun P6=>(.bool (fun mw=>(.bool (fun vb7=>(.bool (fun P7=>(.int (fun vx9=>(.done (br (br (br (pr.nl iX) (br (pr.nl P6) true false) false) true false) (cv 44 [(.agg [(.sl (some g10) 1 nQ rF),(.sl (some g11) 1 dH nR)])] (.sl (fun aiH=>(fun aeQ=>(.sl (fun aiI=>(fun aeR=>(.done (br (br (br (pr.nl aeQ) (br (pr.nl aeR) true false) false) true false) (cv 45 [(.sl (some g12) 1 fF dR)] (.sl (fun aiJ=>(fun aeS=>(.done (br (br (br (pr.nl aeS) true false) true false) (cv 46 [(.sl (some g13) 1 gO ga)] (.sl (fun aiK=>(fun aeT=>(.done (br (br (br (pr.nl aeT) true false) true false) (cv 45 [(.sl (some g14) 1 kB gD)] (.sl (fun aiL=>(fun aeU=>(.done (br (br (br (pr.nl aeU) true false) true false) (cv 42 [(.sl (some g15) 1 mI kX)] (.sl (fun aiM=>(fun aeV=>(.done (br (br (br (pr.nl aeV) true false) true false) (some ((.agg [(.int .i64 a0),(.bool a1),(.bool a2),(.sl none 1 dQ dt),(.sl none 1 pc iX),(.sl none 1 vn4 P6),(.bool mw),(.bool vb7),(.bool P7),(.int .i64 vx9),(.sl none 1 aiH aeQ),(.sl none 1 aiI aeR),(.sl none 1 aiJ aeS),(.sl none 1 aiK aeT),(.sl none 1 aiL aeU),(.sl none 1 aiM aeV)]),[.undef])) none)))))) none)))))) none)))))) none)))))) none))))))))) none))))))))))))))))) none)))))):=by kernel_rfl
theorem Mw:Told cfg Tryz.prog 15 Tryz.f15:=⟨by kernel_rfl,Tryz.func15,by kernel_rfl⟩
theorem Mx (a0:Int) (a1:Bool) (a2:Bool) (g3:Bool) (n3:Nat) (c3:List D) (g4:Bool) (n4:Nat) (c4:List D) (g5:Bool) (n5:Nat) (c5:List D) (a6:Bool) (a7:Bool) (a8:Bool) (a9:Int) (g10:Bool) (nQ:Nat) (rF:List D) (g11:Bool) (dH:Nat) (nR:List D) (g12:Bool) (fF:Nat) (dR:List D) (g13:Bool) (gO:Nat) (ga:List D) (g14:Bool) (kB:Nat) (gD:List D) (g15:Bool) (mI:Nat) (kX:List D) (a16:Int) (a17:Bool) (a18:Bool) (g19:Bool) (P8:Nat) (rG:List D) (g20:Bool) (AK:Nat) (P9:List D) (g21:Bool) (n21:Nat) (AL:List D) (a22:Bool) (a23:Bool) (a24:Bool) (a25:Int) (g26:Bool) (sa:Nat) (yS:List D) (yT:Bool) (n27:Nat) (rH:List D) (ue:Bool) (yU:Nat) (c28:List D) (g29:Bool) (n29:Nat) (yV:List D) (yW:Bool) (n30:Nat) (uf:List D) (ug:Bool) (n31:Nat) (c31:List D):aR pr cv J 15 Tryz.f15 [(.agg [(.int .i64 a0),(.bool a1),(.bool a2),(.sl (some g3) 1 n3 c3),(.sl (some g4) 1 n4 c4),(.sl (some g5) 1 n5 c5),(.bool a6),(.bool a7),(.bool a8),(.int .i64 a9),(.sl (some g10) 1 nQ rF),(.sl (some g11) 1 dH nR),(.sl (some g12) 1 fF dR),(.sl (some g13) 1 gO ga),(.sl (some g14) 1 kB gD),(.sl (some g15) 1 mI kX)]),(.agg [(.int .i64 a16),(.bool a17),(.bool a18),(.sl (some g19) 1 P8 rG),(.sl (some g20) 1 AK P9),(.sl (some g21) 1 n21 AL),(.bool a22),(.bool a23),(.bool a24),(.int .i64 a25),(.sl (some g26) 1 sa yS),(.sl (some yT) 1 n27 rH),(.sl (some ue) 1 yU c28),(.sl (some g29) 1 n29 yV),(.sl (some yW) 1 n30 uf),(.sl (some ug) 1 n31 c31)])]=
    let y1:Option (D × List D):=(some ((.bool false),[.undef,.undef]))
    (br (br (pr.eq a0 a16) false true) y1 (br (br (pr.beq a1 a17) false true) y1 (br (br (pr.beq a2 a18) false true) y1 (cv 49 [(.sl (some g3) 1 n3 c3),(.sl (some g19) 1 P8 rG)] (.bool (fun bK=>(.done (br (br bK false true) y1 (cv 50 [(.agg [(.sl (some g4) 1 n4 c4),(.sl (some g5) 1 n5 c5),(.bool a6),(.bool a7),(.bool a8),(.int .i64 a9)]),(.agg [(.sl (some g20) 1 AK P9),(.sl (some g21) 1 n21 AL),(.bool a22),(.bool a23),(.bool a24),(.int .i64 a25)])] (.bool (fun eQ=>(.done (br (br eQ false true) y1 (cv 51 [(.agg [(.sl (some g10) 1 nQ rF),(.sl (some g11) 1 dH nR)]),(.agg [(.sl (some g26) 1 sa yS),(.sl (some yT) 1 n27 rH)])] (.bool (fun fb=>(.done (br (br fb false true) y1 (cv 52 [(.sl (some g12) 1 fF dR),(.sl (some ue) 1 yU c28)] (.bool (fun Cj=>(.done (br (br Cj false true) y1 (cv 53 [(.sl (some g13) 1 gO ga),(.sl (some g29) 1 n29 yV)] (.bool (fun wu=>(.done (br (br wu false true) y1 (cv 52 [(.sl (some g14) 1 kB gD),(.sl (some yW) 1 n30 uf)] (.bool (fun wv=>(.done (br (br wv false true) y1 (cv 49 [(.sl (some g15) 1 mI kX),(.sl (some ug) 1 n31 c31)] (.bool (fun mw=>(.done (br (br mw false true) y1 (some ((.bool true),[.undef,.undef])))))))))))))))))))))))))))))))))))))))):=by kernel_rfl
theorem My:Told cfg Tryz.prog 11 Tryz.f11:=⟨by kernel_rfl,Tryz.func11,by kernel_rfl⟩
theorem Mz (a0:Int) (a1:Bool) (a2:Bool) (g3:Bool) (n3:Nat) (c3:List D) (g4:Bool) (n4:Nat) (c4:List D) (g5:Bool) (n5:Nat) (c5:List D) (a6:Bool) (a7:Bool) (a8:Bool) (a9:Int) (g10:Bool) (nQ:Nat) (rF:List D) (g11:Bool) (dH:Nat) (nR:List D) (g12:Bool) (fF:Nat) (dR:List D) (g13:Bool) (gO:Nat) (ga:List D) (g14:Bool) (kB:Nat) (gD:List D) (g15:Bool) (mI:Nat) (kX:List D) (a16:Int):aR pr cv J 11 Tryz.f11 [(.agg [(.int .i64 a0),(.bool a1),(.bool a2),(.sl (some g3) 1 n3 c3),(.sl (some g4) 1 n4 c4),(.sl (some g5) 1 n5 c5),(.bool a6),(.bool a7),(.bool a8),(.int .i64 a9),(.sl (some g10) 1 nQ rF),(.sl (some g11) 1 dH nR),(.sl (some g12) 1 fF dR),(.sl (some g13) 1 gO ga),(.sl (some g14) 1 kB gD),(.sl (some g15) 1 mI kX)]),(.int .i64 a16)]=
    let y1:Option (D × List D):=(some ((.int .i64 (-1)),[.undef,.undef]))
    (cv 35 [(.sl (some g3) 1 n3 c3),(.int .i64 a16)] (.int (fun dA=>(.done (br (pr.lt dA 0) y1 (cv 36 [(.agg [(.sl (some g4) 1 n4 c4),(.sl (some g5) 1 n5 c5),(.bool a6),(.bool a7),(.bool a8),(.int .i64 a9)]),(.int .i64 dA)] (.int (fun kW=>(.done (br (pr.lt kW 0) y1 (cv 37 [(.agg [(.sl (some g10) 1 nQ rF),(.sl (some g11) 1 dH nR)]),(.int .i64 kW)] (.int (fun sb=>(.done (br (pr.lt sb 0) y1 (cv 38 [(.sl (some g12) 1 fF dR),(.int .i64 sb)] (.int (fun Ck=>(.done (br (pr.lt Ck 0) y1 (cv 39 [(.sl (some g13) 1 gO ga),(.int .i64 Ck)] (.int (fun qK=>(.done (br (pr.lt qK 0) y1 (cv 38 [(.sl (some g14) 1 kB gD),(.int .i64 qK)] (.int (fun ui=>(.done (br (pr.lt ui 0) y1 (cv 35 [(.sl (some g15) 1 mI kX),(.int .i64 ui)] (.int (fun vx6=>(.done (br (pr.lt vx6 0) y1 (some ((.int .i64 vx6),[.undef,.undef]))))))))))))))))))))))))))))))))))))):=by kernel_rfl
end
def wx (xss:List (List Int)):Prop:=xss.length≤1048576∧∀ xs∈xss,xs.length≤1048576
structure du (m:bj):Prop where
  aP:m.aP.length≤1048576
  bits:wx m.bits
structure fM (s:bc):Prop where
  a:s.a.length≤1048576
  b:s.b.length≤1048576
structure cV (n:ae):Prop where
  image:n.image.length≤1048576
  mt:du n.mt
  cJ:fM n.cJ
  conn:n.conn.length≤1048576
  sync:wx n.sync
  bV:n.bV.length≤1048576
  wait:n.wait.length≤1048576
section
variable {x y:Rz} {R:Type} {u v:R}
theorem iK {g:Bool} {xss:List (List Int)} {i:Nat} (h:i < xss.length):br (ad.aN 1 (rows (some g) xss) i) u v=u:=by simp [ad,rows,br,List.getElem?_eq_getElem h]
theorem iL {g:Bool} {xss:List (List Int)} {i:Nat} (h:i < xss.length):ad.aH (rows (some g) xss) i=g:=by simp [ad,rows,List.getElem?_eq_getElem h,cG]
theorem iM {g:Option Bool} {xss:List (List Int)} {i:Nat} (h:i < xss.length):ad.aC (rows g xss) i=xss[i].length:=by simp [ad,rows,List.getElem?_eq_getElem h,cN]
theorem jt {g:Option Bool} {xss:List (List Int)} {i:Nat} (h:i < xss.length):ad.aE (rows g xss) i=ints xss[i]:=by simp [ad,rows,List.getElem?_eq_getElem h,cC]
theorem ace {xss:List (List Int)} {i:Nat} (h:i < xss.length):br (ad.kC 1 (rows none xss) i) u v=u:=by simp [ad,rows,br,List.getElem?_eq_getElem h]
theorem aeW {g:Option Bool} {xss:List (List Int)} (h:0 < xss.length):br (ad.ne (rows g xss)) u v=u:=by
  cases xss with
  | nil=>simp at h
  | cons _ _=>rfl
theorem Qa {xss:List (List Int)} {i:Nat} {ys:List Int}:List.set (rows none xss) i (.sl none 1 ys.length (ints ys))=rows none (xss.set i ys):=by simp [rows,List.map_set]
theorem Wc (n:Nat):fC n [.nil 1]=rows none (List.replicate n []):=by
  unfold fC
  induction n with
  | zero=>rfl
  | succ n ih=>simpa [List.replicate_succ,rows,vA,ints] using ih
theorem aan {g:Option Bool} (hg:g≠some true) (xss:List (List Int)):ad.nl (rows g xss)=true:=oH (by
  intro d hd
  obtain ⟨xs,_,rfl⟩:=List.mem_map.1 hd
  have h1:cq (ints xs)=true:=gJ xs
  cases g with
  | none=>simpa [bZ] using h1
  | some g=>cases g with
    | false=>simpa [bZ] using h1
    | true=>exact absurd rfl hg)
theorem yX (xss:List (List Int)):ad.nl (rows none xss)=true:=aan (by simp) xss
end
section
variable (t:bS Rz)
theorem Ah (g:Bool) (xs:List Int) (hb:xs.length≤17592186044416):aU 42 [.sl (some g) 1 xs.length (ints xs)] t=feed t [.sl none 1 xs.length (ints xs)]:=bh (YM g xs hb (by omega)) (by kernel_rfl) t
theorem LL (g:Bool) (xs:List UInt8) (hb:xs.length≤140737488355328):aU 104 [.sl (some g) 1 xs.length (bytes xs)] t=feed t [.sl none 1 xs.length (bytes xs)]:=bh (V6 g xs hb (by omega)) (by kernel_rfl) t
theorem Wd (g:Bool) (xs:List Bool) (hb:xs.length≤140737488355328):aU 45 [.sl (some g) 1 xs.length (bI xs)] t=feed t [.sl none 1 xs.length (bI xs)]:=bh (V9 g xs hb (by omega)) (by kernel_rfl) t
theorem wy (g h:Bool) (xs ys:List Int) (hb:xs.length < 9223372036854775807):aU 49 [.sl (some g) 1 xs.length (ints xs),.sl (some h) 1 ys.length (ints ys)] t=feed t [.bool (decide (xs=ys))]:=bh (YN g h xs ys hb) (by kernel_rfl) t
theorem LM (g h:Bool) (xs ys:List UInt8) (hb:xs.length < 9223372036854775807):aU 116 [.sl (some g) 1 xs.length (bytes xs),.sl (some h) 1 ys.length (bytes ys)] t=feed t [.bool (decide (xs=ys))]:=bh (V7 g h xs ys hb) (by kernel_rfl) t
theorem We (g h:Bool) (xs ys:List Bool) (hb:xs.length < 9223372036854775807):aU 52 [.sl (some g) 1 xs.length (bI xs),.sl (some h) 1 ys.length (bI ys)] t=feed t [.bool (decide (xs=ys))]:=bh (Wa g h xs ys hb) (by kernel_rfl) t
theorem tc (g:Bool) (n:Nat) (c:List D) (left:Int) (h0:0≤left) (h1:left≤1048576) (hn:n≤140737488355328):aU 35 [.sl (some g) 1 n c,.int .i64 left] t=feed t [.int .i64 (fa n left)]:=bh (YO g n c left h0 h1 hn) (by kernel_rfl) t
theorem Cl (g:Bool) (n:Nat) (c:List D) (left:Int) (h0:0≤left) (h1:left≤1048576) (hn:n≤140737488355328):aU 96 [.sl (some g) 1 n c,.int .i64 left] t=feed t [.int .i64 (fa n left)]:=bh (V8 g n c left h0 h1 hn) (by kernel_rfl) t
theorem LN (g:Bool) (n:Nat) (c:List D) (left:Int) (h0:0≤left) (h1:left≤1048576) (hn:n≤140737488355328):aU 38 [.sl (some g) 1 n c,.int .i64 left] t=feed t [.int .i64 (fa n left)]:=bh (Wb g n c left h0 h1 hn) (by kernel_rfl) t
end
theorem cn {R:Type} (f:Int→bS R) (k:IntKind) (n:Int) (l:List D):feed (.int f) (.int k n::l)=feed (f n) l:=rfl
theorem aF {R:Type} (f:Bool→bS R) (b:Bool) (l:List D):feed (.bool f) (.bool b::l)=feed (f b) l:=rfl
theorem dc {R:Type} (f:Nat→List D→bS R) (s n:Nat) (cs l:List D):feed (.sl f) (.sl none s n cs::l)=feed (f n cs) l:=rfl
theorem ao {R:Type} (x:Option R) (l:List D):feed (.done x) l=x:=rfl
theorem Wf (g:Bool) (xss:List (List Int)) (hb:wx xss):Cm 46 [sR (some g) xss] (sR none xss,[.undef]):=by
  have hl:=hb.1
  refine Cm.go JN [.undef] 0 (jZ g xss.length (rows (some g) xss) (0:Nat) xss.length (rows none (List.replicate xss.length []))) ?_ fun J hJ=>?_
  · refine WP.loop (H:=fun i=>jZ g xss.length (rows (some g) xss) (i:Nat) xss.length (rows none (xss.take i++List.replicate (xss.length - i) []))) (n:=xss.length) (fun _=>True) (fun i hi _ ih=>WP.go _ (ih trivial) fun J hJ=>?_) (fun _=>WP.fin fun J=>?_) 0 (Nat.zero_le _) trivial
    · rw [uM]
      have hx:xss[i].length≤1048576:=hb.2 _ (List.getElem_mem hi)
      simp (disch:=first | omega | (simp; done) | (simp; omega)) only [aI,bd,bm,aB,aZ,bA,cS,iK,iL,iM,jt,Ah,dc,ao,gJ,ace,aeW,Qa,dn,Cg]
      rw [qg hi _ xss rfl hi]
      exact hJ
    · rw [uM]
      simp (disch:=omega) only [aI,bd,aB,bH,List.take_length,Nat.sub_self,List.replicate_zero,List.append_nil]
  · rw [JO]
    simp (disch:=omega) only [aI,bd,aB,tb,Ae,Wc]
    exact hJ
theorem Wg (g h:Bool) (xs ys:List (List Int)) (hb:wx xs):Cm 53 [sR (some g) xs,sR (some h) ys] (.bool (decide (xs=ys)),[.undef,.undef]):=by
  have hlen:=hb.1
  by_cases hl:xs.length=ys.length
  · refine Cm.go yO [.undef,.undef] 0 (j0 g xs.length (rows (some g) xs) h ys.length (rows (some h) ys) (0:Nat)) ?_ fun J hJ=>?_
    · refine WP.loop (H:=fun i=>j0 g xs.length (rows (some g) xs) h ys.length (rows (some h) ys) (i:Nat)) (n:=xs.length) (fun i=>xs.take i=ys.take i) (fun i hi hv ih=>?_) (fun hv=>WP.fin fun J=>?_) 0 (Nat.zero_le _) (by simp)
      · have oB:i < ys.length:=by omega
        have hx:xs[i].length≤1048576:=hb.2 _ (List.getElem_mem hi)
        by_cases he:xs[i]=ys[i]
        · refine WP.go _ (ih (by rw [← List.take_append_getElem hi,← List.take_append_getElem oB,hv,he])) fun J hJ=>?_
          rw [pj]
          simp (disch:=omega) only [aI,bd,bm,bQ,cf,aB,aZ,bA,cS,iK,iL,iM,jt,wy,aF,ao,decide_eq_true he,dn]
          exact hJ
        · refine WP.fin fun J=>?_
          rw [pj]
          have db:xs≠ys:=fun e=>he (by subst e; rfl)
          simp (disch:=omega) only [aI,bd,bm,bQ,cf,aB,aZ,bA,cS,iK,iL,iM,jt,wy,aF,ao,decide_eq_false he,decide_eq_false db]
      · rw [pj]
        rw [List.take_length,hl,List.take_length] at hv
        simp (disch:=omega) only [aI,bd,aB,bH,decide_eq_true hv]
    · rw [yP]
      simp (disch:=omega) only [aI,bd,aB,bQ,cf,gq]
      exact hJ
  · refine Cm.fin yO fun J=>?_
    have db:xs≠ys:=fun e=>hl (by rw [e])
    rw [yP]
    simp (disch:=omega) only [aI,bd,aB,bQ,cf,eA,decide_eq_false db]
def iN (v:Int) (k:Int→Int):Int:=if v < 0 then -1 else k v
def pd {α:Type} (f:α→Int→Int):List α→Int→Int
  | [],l=>l
  | x::xs,l=>iN (f x l) (pd f xs)
theorem iO {n:Nat} {l:Int} (h:0≤l):fa n l≤l∧-1≤fa n l∧(0≤fa n l→(n:Int)≤l):=by unfold fa; split<;>omega
theorem o4 {v:Int} (k:Int→Int) (h:v < 0):iN v k=-1:=if_pos h
theorem o5 {v:Int} (k:Int→Int) (h:0≤v):iN v k=k v:=if_neg (by omega)
theorem HF {α:Type} {f:α→Int→Int} {Q:α→Prop} (hf:∀ x l,0≤l→f x l≤l∧-1≤f x l∧(0≤f x l→l≤1048576→Q x)):∀ (xs:List α) (l:Int),0≤l→l≤1048576→pd f xs l≤l∧-1≤pd f xs l∧(0≤pd f xs l→∀ x∈xs,Q x)
  | [],l,h,_=>⟨Int.le_refl _,by show -1≤l; omega,fun _=>by simp⟩
  | x::xs,l,h,hm=>by
    obtain ⟨h1,h2,h3⟩:=hf x l h
    simp only [pd]
    by_cases hv:f x l < 0
    · rw [o4 _ hv]
      exact ⟨by omega,by omega,by omega⟩
    · rw [o5 _ (by omega)]
      obtain ⟨g1,g2,g3⟩:=HF hf xs (f x l) (by omega) (by omega)
      refine ⟨by omega,g2,fun hp y hy=>?_⟩
      rcases List.mem_cons.1 hy with rfl | hy
      · exact h3 (by omega) hm
      · exact g3 hp y hy
def yY (xss:List (List Int)) (l:Int):Int:=iN (fa xss.length l) (pd (fun xs l=>fa xs.length l) xss)
theorem Qb {xss:List (List Int)} {l:Int} (h:0≤l) (hm:l≤1048576):yY xss l≤l∧-1≤yY xss l∧(0≤yY xss l→wx xss):=by
  obtain ⟨h1,h2,h3⟩:=iO (n:=xss.length) h
  unfold yY
  by_cases hv:fa xss.length l < 0
  · rw [o4 _ hv]
    exact ⟨by omega,by omega,by omega⟩
  · rw [o5 _ (by omega)]
    obtain ⟨g1,g2,g3⟩:=HF (f:=fun (xs:List Int) l=>fa xs.length l) (Q:=fun xs=>xs.length≤1048576) (fun xs l hl=>by
      obtain ⟨a1,a2,a3⟩:=iO (n:=xs.length) hl
      exact ⟨a1,a2,fun hh hm=>by have:=a3 hh; omega⟩) xss (fa xss.length l) (by omega) (by omega)
    exact ⟨by omega,g2,fun hp=>⟨by have:=h3 (by omega); omega,g3 hp⟩⟩
theorem Wh (g:Bool) (xss:List (List Int)) (left:Int) (h0:0≤left) (h1:left≤1048576) (hn:xss.length≤140737488355328) (hx:∀ xs∈xss,xs.length≤140737488355328):Cm 39 [sR (some g) xss,.int .i64 left] (.int .i64 (yY xss left),[.undef,.undef]):=by
  have hlen:=iO (n:=xss.length) h0
  have loop:∀ k i (l:Int),i+k=xss.length→0≤l→l≤1048576→WP 39 Tryz.f39 [.undef,.undef] 0 (mS g xss.length (rows (some g) xss) l (i:Nat)) (.int .i64 (pd (fun xs l=>fa xs.length l) (xss.drop i) l),[.undef,.undef]):=by
    intro k
    induction k with
    | zero=>
      intro i l hi hl hm
      refine WP.fin fun J=>?_
      rw [pk,List.drop_of_length_le (by omega)]
      simp (disch:=omega) only [aB,bH,pd]
    | succ k ih=>
      intro i l hi hl hm
      have oB:i < xss.length:=by omega
      have hxi:=hx _ (List.getElem_mem oB)
      obtain ⟨a1,a2,a3⟩:=iO (n:=xss[i].length) hl
      have e:pd (fun xs l=>fa xs.length l) (xss.drop i) l=iN (fa xss[i].length l) (pd (fun xs l=>fa xs.length l) (xss.drop (i+1))):=by
        rw [← List.getElem_cons_drop oB]
        rfl
      rw [e]
      by_cases hv:fa xss[i].length l < 0
      · refine WP.fin fun J=>?_
        rw [pk,o4 _ hv]
        simp (disch:=omega) only [aI,bd,bm,aB,aZ,bA,cS,iK,iL,iM,jt,tc,cn,ao]
      · rw [o5 _ (by omega)]
        refine WP.go _ (ih (i+1) (fa xss[i].length l) (by omega) (by omega) (by omega)) fun J hJ=>?_
        rw [pk]
        have lN:0≤fa xss[i].length l:=by omega
        simp (disch:=omega) only [aI,bd,bm,aB,aZ,bA,cS,iK,iL,iM,jt,tc,cn,ao,bH,dn]
        exact hJ
  by_cases h:left < xss.length
  · refine Cm.fin yQ fun J=>?_
    rw [yR,yY,o4 _ (by unfold fa; rw [if_pos h]; omega)]
    simp (disch:=omega) only [aB,eZ,aZ]
  · have e:fa xss.length left=left - xss.length:=if_neg h
    rw [yY,o5 _ (by omega),e]
    refine Cm.go yQ [.undef,.undef] 0 _ (loop xss.length 0 (left - xss.length) (by omega) (by omega) (by omega)) fun J hJ=>?_
    rw [yR]
    simp (disch:=omega) only [aB,eZ,bH]
    exact hJ
section
variable (t:bS Rz)
theorem LO (g:Bool) (xss:List (List Int)) (hb:wx xss):aU 46 [.sl (some g) 1 xss.length (rows (some g) xss)] t=feed t [.sl none 1 xss.length (rows none xss)]:=bh (Wf g xss hb) (by kernel_rfl) t
theorem LP (g h:Bool) (xs ys:List (List Int)) (hb:wx xs):aU 53 [.sl (some g) 1 xs.length (rows (some g) xs),.sl (some h) 1 ys.length (rows (some h) ys)] t=feed t [.bool (decide (xs=ys))]:=bh (Wg g h xs ys hb) (by kernel_rfl) t
theorem LQ (g:Bool) (xss:List (List Int)) (left:Int) (h0:0≤left) (h1:left≤1048576) (hn:xss.length≤140737488355328) (hx:∀ xs∈xss,xs.length≤140737488355328):aU 39 [.sl (some g) 1 xss.length (rows (some g) xss),.int .i64 left] t=feed t [.int .i64 (yY xss left)]:=bh (Wh g xss left h0 h1 hn hx) (by kernel_rfl) t
end
theorem YP (g:Bool) (m:bj) (h:du m):Cm 43 [.agg (cL (some g) m)] (.agg (cL none m),[.undef]):=by
  have h1:=h.aP
  refine Cm.fin Mn fun J=>?_
  rw [Mo]
  simp (disch:=first | omega | exact h.bits) only [Ah,LO,dc,ao,gJ,yX,aI]
theorem Wi (g:Bool) (s:bc) (h:fM s):Cm 44 [.agg (eF (some g) s)] (.agg (eF none s),[.undef]):=by
  have h1:=h.a
  have h2:=h.b
  refine Cm.fin JP fun J=>?_
  rw [JQ]
  simp (disch:=omega) only [LL,dc,ao,eK,aI]
theorem YQ (g h:Bool) (m:bj) (ok:du m):Cm 50 [.agg (cL (some g) m),.agg (cL (some h) m)] (.bool true,[.undef,.undef]):=by
  have h1:=ok.aP
  refine Cm.fin Mp fun J=>?_
  rw [Mq]
  simp (disch:=first | omega | exact ok.bits) only [wy,LP,aF,ao,decide_true,aI,bd,u7,beq_self_eq_true,gq]
theorem Wj (g h:Bool) (s:bc) (ok:fM s):Cm 51 [.agg (eF (some g) s),.agg (eF (some h) s)] (.bool true,[.undef,.undef]):=by
  have h1:=ok.a
  have h2:=ok.b
  refine Cm.fin JR fun J=>?_
  rw [JS]
  simp (disch:=omega) only [LM,aF,ao,decide_true,aI,bd]
structure Qc (m:bj):Prop where
  aP:m.aP.length≤140737488355328
  bits:m.bits.length≤140737488355328
  bit:∀ xs∈m.bits,xs.length≤140737488355328
structure wz (n:ae):Prop where
  image:n.image.length≤140737488355328
  mt:Qc n.mt
  a:n.cJ.a.length≤140737488355328
  b:n.cJ.b.length≤140737488355328
  conn:n.conn.length≤140737488355328
  sync:n.sync.length≤140737488355328
  syn:∀ xs∈n.sync,xs.length≤140737488355328
  bV:n.bV.length≤140737488355328
  wait:n.wait.length≤140737488355328
def vx (m:bj) (l:Int):Int:=iN (fa m.aP.length l) fun l=>iN (yY m.bits l) fun l=>l
def td (s:bc) (l:Int):Int:=iN (fa s.a.length l) fun l=>iN (fa s.b.length l) fun l=>l
def eC (n:ae) (l:Int):Int:=iN (fa n.image.length l) fun l=>iN (vx n.mt l) fun l=>iN (td n.cJ l) fun l=>iN (fa n.conn.length l) fun l=>iN (yY n.sync l) fun l=>iN (fa n.bV.length l) fun l=>iN (fa n.wait.length l) fun l=>l
theorem fy {v l:Int} {k:Int→Int} {Q Q':Prop} (hl:0≤l) (hv:v≤l∧-1≤v∧(0≤v→Q)) (hk:0≤v→k v≤v∧-1≤k v∧(0≤k v→Q')):iN v k≤l∧-1≤iN v k∧(0≤iN v k→Q∧Q'):=by
  unfold iN
  split
  · omega
  · obtain ⟨a,b,c⟩:=hk (by omega)
    exact ⟨by omega,b,fun h=>⟨hv.2.2 (by omega),c h⟩⟩
theorem Cn {l:Int} (h:0≤l):l≤l∧-1≤l∧(0≤l→True):=⟨by omega,by omega,fun _=>trivial⟩
theorem nj {n:Nat} {l:Int} (h:0≤l) (hm:l≤1048576):fa n l≤l∧-1≤fa n l∧(0≤fa n l→n≤1048576):=by
  obtain ⟨a,b,c⟩:=iO (n:=n) h
  exact ⟨a,b,fun hh=>by have:=c hh; omega⟩
theorem HG {m:bj} {l:Int} (h:0≤l) (hm:l≤1048576):vx m l≤l∧-1≤vx m l∧(0≤vx m l→du m):=by
  have a1:=nj (n:=m.aP.length) h hm
  have:=fy (k:=fun l=>iN (yY m.bits l) fun l=>l) h a1 fun h2=>fy h2 (Qb (xss:=m.bits) h2 (by omega)) fun h3=>Cn h3
  exact ⟨this.1,this.2.1,fun hh=>by obtain ⟨b1,b2,_⟩:=this.2.2 hh; exact ⟨b1,b2⟩⟩
theorem Fe {s:bc} {l:Int} (h:0≤l) (hm:l≤1048576):td s l≤l∧-1≤td s l∧(0≤td s l→fM s):=by
  have a1:=nj (n:=s.a.length) h hm
  have:=fy (k:=fun l=>iN (fa s.b.length l) fun l=>l) h a1 fun h2=>fy h2 (nj (n:=s.b.length) h2 (by omega)) fun h3=>Cn h3
  exact ⟨this.1,this.2.1,fun hh=>by obtain ⟨b1,b2,_⟩:=this.2.2 hh; exact ⟨b1,b2⟩⟩
theorem Uh {n:ae} {l:Int} (h:0≤l) (hm:l≤1048576):eC n l≤l∧-1≤eC n l∧(0≤eC n l→cV n):=by
  have a1:=nj (n:=n.image.length) h hm
  have a2:∀ {l:Int},0≤l→l≤1048576→_:=fun {l} h hm=>HG (m:=n.mt) (l:=l) h hm
  have a3:∀ {l:Int},0≤l→l≤1048576→_:=fun {l} h hm=>Fe (s:=n.cJ) (l:=l) h hm
  have a4:∀ {l:Int},0≤l→l≤1048576→_:=fun {l} h hm=>nj (n:=n.conn.length) (l:=l) h hm
  have a5:∀ {l:Int},0≤l→l≤1048576→_:=fun {l} h hm=>Qb (xss:=n.sync) (l:=l) h hm
  have a6:∀ {l:Int},0≤l→l≤1048576→_:=fun {l} h hm=>nj (n:=n.bV.length) (l:=l) h hm
  have a7:∀ {l:Int},0≤l→l≤1048576→_:=fun {l} h hm=>nj (n:=n.wait.length) (l:=l) h hm
  have key:eC n l≤l∧-1≤eC n l∧(0≤eC n l→n.image.length≤1048576∧du n.mt∧fM n.cJ∧n.conn.length≤1048576∧wx n.sync∧n.bV.length≤1048576∧n.wait.length≤1048576∧True):=by
    unfold eC
    refine fy h a1 fun h1=>?_
    have k1:=a2 h1 (by omega)
    refine fy h1 k1 fun h2=>?_
    have k2:=a3 h2 (by omega)
    refine fy h2 k2 fun h3=>?_
    have k3:=a4 h3 (by omega)
    refine fy h3 k3 fun h4=>?_
    have k4:=a5 h4 (by omega)
    refine fy h4 k4 fun h5=>?_
    have k5:=a6 h5 (by omega)
    refine fy h5 k5 fun h6=>?_
    exact fy h6 (a7 h6 (by omega)) fun h7=>Cn h7
  refine ⟨key.1,key.2.1,fun hh=>?_⟩
  obtain ⟨b1,b2,b3,b4,b5,b6,b7,_⟩:=key.2.2 hh
  exact ⟨b1,b2,b3,b4,b5,b6,b7⟩
theorem ju {f:Int→Option Rz} {g:Int→Int} {outs:List D} {v:Int} (h:0≤v→f v=some (.int .i64 (g v),outs)):br (ad.lt v 0) (some (.int .i64 (-1),outs)) (f v)=some (.int .i64 (iN v g),outs):=by
  by_cases hv:v < 0
  · rw [aZ hv,o4 _ hv]
  · rw [bH (by omega),o5 _ (by omega),h (by omega)]
theorem YR (g:Bool) (m:bj) (left:Int) (h0:0≤left) (h1:left≤1048576) (ln:Qc m):Cm 36 [.agg (cL (some g) m),.int .i64 left] (.int .i64 (vx m left),[.undef,.undef]):=by
  refine Cm.fin Mr fun J=>?_
  rw [Mt]
  have l1:=ln.aP
  have a1:=iO (n:=m.aP.length) h0
  simp (disch:=omega) only [tc,cn,ao]
  refine ju (f:=fun v=>aU 39 _ _) fun p1=>?_
  simp (disch:=first | omega | exact ln.bits | exact ln.bit) only [LQ,cn,ao]
  exact ju (f:=fun v=>some (.int .i64 v,[.undef,.undef])) fun _=>rfl
theorem Wk (g:Bool) (s:bc) (left:Int) (h0:0≤left) (h1:left≤1048576) (l1:s.a.length≤140737488355328) (l2:s.b.length≤140737488355328):Cm 37 [.agg (eF (some g) s),.int .i64 left] (.int .i64 (td s left),[.undef,.undef]):=by
  refine Cm.fin JT fun J=>?_
  rw [JU]
  have a1:=iO (n:=s.a.length) h0
  simp (disch:=omega) only [Cl,cn,ao]
  refine ju (f:=fun v=>aU 96 _ _) fun p1=>?_
  simp (disch:=omega) only [Cl,cn,ao]
  exact ju (f:=fun v=>some (.int .i64 v,[.undef,.undef])) fun _=>rfl
section
variable (t:bS Rz)
theorem YS (g:Bool) (m:bj) (h:du m):aU 43 [.agg (cL (some g) m)] t=feed t (cL none m):=bh (YP g m h) (by kernel_rfl) t
theorem Wl (g:Bool) (s:bc) (h:fM s):aU 44 [.agg (eF (some g) s)] t=feed t (eF none s):=bh (Wi g s h) (by kernel_rfl) t
theorem YT (g h:Bool) (m:bj) (ok:du m):aU 50 [.agg (cL (some g) m),.agg (cL (some h) m)] t=feed t [.bool true]:=bh (YQ g h m ok) (by kernel_rfl) t
theorem Wm (g h:Bool) (s:bc) (ok:fM s):aU 51 [.agg (eF (some g) s),.agg (eF (some h) s)] t=feed t [.bool true]:=bh (Wj g h s ok) (by kernel_rfl) t
theorem YU (g:Bool) (m:bj) (left:Int) (h0:0≤left) (h1:left≤1048576) (ln:Qc m):aU 36 [.agg (cL (some g) m),.int .i64 left] t=feed t [.int .i64 (vx m left)]:=bh (YR g m left h0 h1 ln) (by kernel_rfl) t
theorem Wn (g:Bool) (s:bc) (left:Int) (h0:0≤left) (h1:left≤1048576) (l1:s.a.length≤140737488355328) (l2:s.b.length≤140737488355328):aU 37 [.agg (eF (some g) s),.int .i64 left] t=feed t [.int .i64 (td s left)]:=bh (Wk g s left h0 h1 l1 l2) (by kernel_rfl) t
end
theorem YV (g:Bool) (n:ae) (h:cV n):Cm 13 [.agg (ab (some g) n)] (.agg (ab none n),[.undef]):=by
  have h1:=h.image
  have h2:=h.conn
  have h3:=h.bV
  have h4:=h.wait
  refine Cm.fin Mu fun J=>?_
  rw [Mv]
  simp (disch:=first | omega | exact h.mt | exact h.cJ | exact h.sync) only [Ah,LO,Wd,YS,Wl,dc,aF,cn,ao,gJ,yX,eK,D1,aI]
theorem YW (g h:Bool) (n:ae) (ok:cV n):Cm 15 [.agg (ab (some g) n),.agg (ab (some h) n)] (.bool true,[.undef,.undef]):=by
  have h1:=ok.image
  have h2:=ok.conn
  have h3:=ok.bV
  have h4:=ok.wait
  refine Cm.fin Mw fun J=>?_
  rw [Mx]
  simp (disch:=first | omega | exact ok.mt | exact ok.cJ | exact ok.sync) only [wy,LP,We,YT,Wm,aF,ao,decide_true,aI,bd,u7,beq_self_eq_true,gq]
theorem YX (g:Bool) (n:ae) (left:Int) (h0:0≤left) (h1:left≤1048576) (ln:wz n):Cm 11 [.agg (ab (some g) n),.int .i64 left] (.int .i64 (eC n left),[.undef,.undef]):=by
  refine Cm.fin My fun J=>?_
  rw [Mz]
  have l1:=ln.image
  have l2:=ln.conn
  have l3:=ln.bV
  have l4:=ln.wait
  have a1:=iO (n:=n.image.length) h0
  simp (disch:=omega) only [tc,cn,ao]
  refine ju (f:=fun v=>aU 36 _ _) fun p1=>?_
  have a2:=HG (m:=n.mt) p1 (by omega)
  simp (disch:=first | omega | exact ln.mt) only [YU,cn,ao]
  refine ju (f:=fun v=>aU 37 _ _) fun p2=>?_
  have a3:=Fe (s:=n.cJ) p2 (by omega)
  simp (disch:=first | omega | exact ln.a | exact ln.b) only [Wn,cn,ao]
  refine ju (f:=fun v=>aU 38 _ _) fun p3=>?_
  have a4:=iO (n:=n.conn.length) p3
  simp (disch:=omega) only [LN,cn,ao]
  refine ju (f:=fun v=>aU 39 _ _) fun p4=>?_
  have a5:=Qb (xss:=n.sync) p4 (by omega)
  simp (disch:=first | omega | exact ln.sync | exact ln.syn) only [LQ,cn,ao]
  refine ju (f:=fun v=>aU 38 _ _) fun p5=>?_
  have a6:=iO (n:=n.bV.length) p5
  simp (disch:=omega) only [LN,cn,ao]
  refine ju (f:=fun v=>aU 35 _ _) fun p6=>?_
  simp (disch:=omega) only [tc,cn,ao]
  exact ju (f:=fun v=>some (.int .i64 v,[.undef,.undef])) fun _=>rfl
end Go.Proofs.YtockoilcnmljiaaGreat
namespace Go.Proofs.YtockoilcnmljiaaGreat
set_option maxRecDepth 100000
section
variable (pr:dr) (cv:Cv Rz) (J:Nat→St→Option Rz)
theorem Rk:Told cfg Tryz.prog 69 Tryz.f69:=⟨by kernel_rfl,Tryz.func69,by kernel_rfl⟩
theorem Rl (a0:Int) (a1:Int) (a2:Int):aR pr cv J 69 Tryz.f69 [(.int .i64 a0),(.int .i64 a1),(.int .i64 a2)]=
    (br (pr.le a1 a0) (some ((.bool (pr.le a0 a2)),[.undef,.undef,.undef])) (some ((.bool false),[.undef,.undef,.undef]))):=by kernel_rfl
theorem Rm:Told cfg Tryz.prog 75 Tryz.f75:=⟨by kernel_rfl,Tryz.func75,by kernel_rfl⟩
theorem Rn (a0:Int) (a1:Int) (a2:Int):aR pr cv J 75 Tryz.f75 [(.int .i64 a0),(.int .i64 a1),(.int .i64 a2)]=
    (br (pr.le a1 a0) (some ((.bool (pr.le a0 a2)),[.undef,.undef,.undef])) (some ((.bool false),[.undef,.undef,.undef]))):=by kernel_rfl
end
theorem Ff (a b c:Int):Cm 75 [.int .i64 a,.int .i64 b,.int .i64 c] (.bool (decide (b≤a∧a≤c)),[.undef,.undef,.undef]):=by
  refine Cm.fin Rm fun J=>?_
  rw [Rn]
  by_cases h:b≤a
  · rw [xQ h,Ad]
    simp only [h,true_and]
  · simp (disch:=omega) only [ni,h,false_and,decide_false]
theorem aeX (a b c:Int):Cm 69 [.int .i64 a,.int .i64 b,.int .i64 c] (.bool (decide (b≤a∧a≤c)),[.undef,.undef,.undef]):=by
  refine Cm.fin Rk fun J=>?_
  rw [Rl]
  by_cases h:b≤a
  · rw [xQ h,Ad]
    simp only [h,true_and]
  · simp (disch:=omega) only [ni,h,false_and,decide_false]
section
variable (t:bS Rz)
theorem fq (a b c:Int):aU 75 [.int .i64 a,.int .i64 b,.int .i64 c] t=feed t [.bool (decide (b≤a∧a≤c))]:=bh (Ff a b c) (by kernel_rfl) t
theorem jv (a b c:Int):aU 69 [.int .i64 a,.int .i64 b,.int .i64 c] t=feed t [.bool (decide (b≤a∧a≤c))]:=bh (aeX a b c) (by kernel_rfl) t
end
end Go.Proofs.YtockoilcnmljiaaGreat
namespace Go.Proofs.YtockoilcnmljiaaGreat
set_option maxRecDepth 100000
def nL (xs:List Int):Prop:=∀ x∈xs,oG x=true
section
variable (t:bS Rz)
theorem Qd (g:Bool) (n:ae) (h:cV n):aU 13 [.agg (ab (some g) n)] t=feed t [enc .node n]:=bR (r:=enc .node n) (s:=.ty .node) (ss:=[.undef]) (YV g n h) (by kernel_rfl) (av _ _) (by simp only [ah,aM,ak,Bool.and_self]) (au _ _) rfl t
theorem Qe (g h:Bool) (n:ae) (ok:cV n):aU 15 [.agg (ab (some g) n),.agg (ab (some h) n)] t=feed t [.bool true]:=bh (YW g h n ok) (by kernel_rfl) t
theorem F5 (g:Bool) (n:ae) (left:Int) (h0:0≤left) (h1:left≤1048576) (ln:wz n):aU 11 [.agg (ab (some g) n),.int .i64 left] t=feed t [.int .i64 (eC n left)]:=bh (YX g n left h0 h1 ln) (by kernel_rfl) t
end
end Go.Proofs.YtockoilcnmljiaaGreat
namespace Go.Proofs.YtockoilcnmljiaaGreat
set_option maxRecDepth 100000
theorem nw {n:Int} (h:(Lit.int .i64 n).wf=true):oG n=true:=by
  simp [Lit.wf,IntKind.min,IntKind.max,IntKind.bits,IntKind.signed] at h
  rw [Af]
  omega
abbrev SM:Sh:=.sl 8 (.int .i64)
abbrev sh8:Sh:=.sl 1 (.int .u8)
abbrev shB:Sh:=.sl 1 .bool
abbrev shR:Sh:=.sl 24 (.sl 8 (.int .i64))
abbrev ae0:Sh:=.ag [SM,shR,.bool,.bool,.bool,.int .i64]
abbrev acf:Sh:=.ag [sh8,sh8]
abbrev Wo:Sh:=.ag [.int .i64,.bool,.bool,SM,ae0,acf,shB,shR,shB,SM]
theorem Qf {ds:List D} (h:WT SM ds):∃ xs,ds=[sI (some false) xs]∧xs.length≤17592186044416∧nL xs:=by
  obtain ⟨es,rfl,he,hx⟩:=h
  have key:∀ es:List (List D),(∀ x∈es,WT (.int .i64) x)→∃ xs,es.flatten=ints xs∧xs.length=es.length∧nL xs:=by
    intro es
    induction es with
    | nil=>intro _; exact ⟨[],rfl,rfl,by simp [nL]⟩
    | cons e es ih=>
      intro h
      obtain ⟨n,rfl,hn⟩:=h e (by simp)
      obtain ⟨xs,h1,h2,h3⟩:=ih (fun x hx=>h x (by simp [hx]))
      refine ⟨n::xs,by rw [List.flatten_cons,h1]; rfl,by simp [h2],fun x hx=>?_⟩
      rcases List.mem_cons.1 hx with rfl | hx
      · exact nw hn
      · exact h3 x hx
  obtain ⟨xs,h1,h2,h3⟩:=key es hx
  refine ⟨xs,by rw [h1,← h2]; rfl,?_,h3⟩
  have:reachBytes=140737488351232:=rfl
  omega
theorem YY {ds:List D} (h:WT sh8 ds):∃ xs,ds=[s8 (some false) xs]∧xs.length≤140737488351232:=by
  obtain ⟨es,rfl,he,hx⟩:=h
  have key:∀ es:List (List D),(∀ x∈es,WT (.int .u8) x)→∃ xs,es.flatten=bytes xs∧xs.length=es.length:=by
    intro es
    induction es with
    | nil=>intro _; exact ⟨[],rfl,rfl⟩
    | cons e es ih=>
      intro h
      obtain ⟨n,rfl,hn⟩:=h e (by simp)
      obtain ⟨xs,h1,h2⟩:=ih (fun x hx=>h x (by simp [hx]))
      simp [Lit.wf,IntKind.min,IntKind.max,IntKind.bits,IntKind.signed] at hn
      refine ⟨UInt8.ofNat n.toNat::xs,?_,by simp [h2]⟩
      rw [List.flatten_cons,h1]
      have:((UInt8.ofNat n.toNat).toNat:Int)=n:=by simp only [UInt8.toNat_ofNat']; omega
      simp only [bytes,List.map_cons,dE,this]
      rfl
  obtain ⟨xs,h1,h2⟩:=key es hx
  refine ⟨xs,by rw [h1,← h2]; rfl,?_⟩
  have:reachBytes=140737488351232:=rfl
  omega
theorem ae1 {ds:List D} (h:WT shB ds):∃ xs,ds=[sB (some false) xs]∧xs.length≤140737488351232:=by
  obtain ⟨es,rfl,he,hx⟩:=h
  have key:∀ es:List (List D),(∀ x∈es,WT .bool x)→∃ xs,es.flatten=bI xs∧xs.length=es.length:=by
    intro es
    induction es with
    | nil=>intro _; exact ⟨[],rfl,rfl⟩
    | cons e es ih=>
      intro h
      obtain ⟨n,rfl⟩:=h e (by simp)
      obtain ⟨xs,h1,h2⟩:=ih (fun x hx=>h x (by simp [hx]))
      exact ⟨n::xs,by rw [List.flatten_cons,h1]; rfl,by simp [h2]⟩
  obtain ⟨xs,h1,h2⟩:=key es hx
  refine ⟨xs,by rw [h1,← h2]; rfl,?_⟩
  have:reachBytes=140737488351232:=rfl
  omega
theorem ae2 {ds:List D} (h:WT shR ds):∃ xs,ds=[sR (some false) xs]∧xs.length≤140737488355328∧(∀ x∈xs,x.length≤140737488355328)∧∀ x∈xs,nL x:=by
  obtain ⟨es,rfl,he,hx⟩:=h
  have key:∀ es:List (List D),(∀ x∈es,WT SM x)→∃ xs,es.flatten=rows (some false) xs∧xs.length=es.length∧(∀ x∈xs,x.length≤140737488355328)∧∀ x∈xs,nL x:=by
    intro es
    induction es with
    | nil=>intro _; exact ⟨[],rfl,rfl,by simp,by simp⟩
    | cons e es ih=>
      intro h
      obtain ⟨n,rfl,hn,h4⟩:=Qf (h e (by simp))
      obtain ⟨xs,h1,h2,h3,h5⟩:=ih (fun x hx=>h x (by simp [hx]))
      refine ⟨n::xs,by rw [List.flatten_cons,h1]; rfl,by simp [h2],fun x hx=>?_,fun x hx=>?_⟩
      · rcases List.mem_cons.1 hx with rfl | hx
        · omega
        · exact h3 x hx
      · rcases List.mem_cons.1 hx with rfl | hx
        · exact h4
        · exact h5 x hx
  obtain ⟨xs,h1,h2,h3,h4⟩:=key es hx
  refine ⟨xs,by rw [h1,← h2]; rfl,?_,h3,h4⟩
  have:reachBytes=140737488351232:=rfl
  omega
structure Wp (n:ae):Prop where
  id:oG n.id=true
  last:oG n.mt.last=true
  image:nL n.image
  aP:nL n.mt.aP
  bits:∀ x∈n.mt.bits,nL x
  sync:∀ x∈n.sync,nL x
  wait:nL n.wait
theorem acg {ds:List D} (h:WT Wo ds):∃ n:ae,ds=ab (some false) n∧wz n∧Wp n:=by
  obtain ⟨_,_,rfl,⟨id,rfl,Wq⟩,_,_,rfl,⟨up,rfl⟩,_,_,rfl,⟨cU,rfl⟩,_,_,rfl,aiN,_,_,rfl,hmt,_,_,rfl,gC,_,_,rfl,agx,_,_,rfl,agy,_,_,rfl,aiO,_,_,rfl,agz,rfl⟩:=h
  obtain ⟨image,rfl,l1,i1⟩:=Qf aiN
  obtain ⟨_,_,rfl,hg,_,_,rfl,hb,_,_,rfl,⟨dq,rfl⟩,_,_,rfl,⟨cg,rfl⟩,_,_,rfl,⟨held,rfl⟩,_,_,rfl,⟨last,rfl,agA⟩,rfl⟩:=hmt
  obtain ⟨aP,rfl,l2,i2⟩:=Qf hg
  obtain ⟨bits,rfl,l3,l3',i3⟩:=ae2 hb
  obtain ⟨_,_,rfl,ha,_,_,rfl,fY,rfl⟩:=gC
  obtain ⟨a,rfl,l4⟩:=YY ha
  obtain ⟨b,rfl,l5⟩:=YY fY
  obtain ⟨conn,rfl,l6⟩:=ae1 agx
  obtain ⟨sync,rfl,l7,l7',i7⟩:=ae2 agy
  obtain ⟨bV,rfl,l8⟩:=ae1 aiO
  obtain ⟨wait,rfl,l9,i9⟩:=Qf agz
  refine ⟨⟨id,up,cU,image,⟨aP,bits,dq,cg,held,last⟩,⟨a,b⟩,conn,sync,bV,wait⟩,rfl,⟨?_,⟨?_,l3,l3'⟩,?_,?_,?_,l7,l7',?_,?_⟩,⟨nw Wq,nw agA,i1,i2,i3,i7,i9⟩⟩<;>simp only<;>omega
theorem fG (b:Bool):∀ xs:List Int,ba b (ints xs)=ints xs
  | []=>rfl
  | x::xs=>by
    have ih:=fG b xs
    simp only [ints] at ih
    simp only [ints,List.map_cons,ba,dN,ih]
theorem gr (b:Bool):∀ xs:List UInt8,ba b (bytes xs)=bytes xs
  | []=>rfl
  | x::xs=>by
    have ih:=gr b xs
    simp only [bytes] at ih
    simp only [bytes,List.map_cons,ba,dE,dN,ih]
theorem jF (b:Bool):∀ xs:List Bool,ba b (bI xs)=bI xs
  | []=>rfl
  | x::xs=>by
    have ih:=jF b xs
    simp only [bI] at ih
    simp only [bI,List.map_cons,ba,dN,ih]
theorem ig (b:Bool):∀ xs:List (List Int),ba b (rows none xs)=rows (some b) xs
  | []=>rfl
  | x::xs=>by
    have ih:=ig b xs
    simp only [rows] at ih
    simp only [rows,List.map_cons,ba,dN,ih,fG]
end Go.Proofs.YtockoilcnmljiaaGreat
