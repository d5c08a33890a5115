/- What the proof of FnExactLead stands on, part 4: an abstract machine on plain data, its soundness, and the contracts of functions. -/
import Derived.Test.YtockoilcnmljiaaGreatChecked
import Derived.KernelRfl
import Derived.SizedLaws
import Derived.ChangeOld
import Derived.Test.YtockoilcnmljiaaGreatMc
set_option linter.all false
set_option linter.unusedSimpArgs false
set_option linter.unusedVariables false
set_option linter.unnecessarySimpa false
set_option linter.unusedSectionVars false
namespace Go.Proofs.YtockoilcnmljiaaGreat
def bs (l:List UInt8):ByteArray:=⟨l.toArray⟩
def ints (xs:List Int):List D:=xs.map (.int .i64)
def bytes (xs:List UInt8):List D:=xs.map du
def aG (xs:List Bool):List D:=xs.map .bool
def ab {α:Type} (e:α→List D) (xs:List α):List D:=xs.flatMap e
structure aK where
  aA:List Int
  bits:List (List Int)
  cK:Bool
  bO:Bool
  held:Bool
  last:Int
structure aJ where
  a:List UInt8
  b:List UInt8
structure ae where
  id:Int
  up:Bool
  cn:Bool
  image:List Int
  mt:aK
  aN:aJ
  conn:List Bool
  sync:List (List Int)
  aM:List Bool
  wait:List Int
abbrev sI (g:Option Bool) (xs:List Int):D:=.sl g 1 xs.length (ints xs)
abbrev s8 (g:Option Bool) (xs:List UInt8):D:=.sl g 1 xs.length (bytes xs)
abbrev sB (g:Option Bool) (xs:List Bool):D:=.sl g 1 xs.length (aG xs)
def rows (g:Option Bool) (xss:List (List Int)):List D:=xss.map fun xs=>.sl g 1 xs.length (ints xs)
abbrev sR (g:Option Bool) (xss:List (List Int)):D:=.sl g 1 xss.length (rows g xss)
abbrev bX (g:Option Bool) (m:aK):List D:=[sI g m.aA,sR g m.bits,.bool m.cK,.bool m.bO,.bool m.held,.int .i64 m.last]
abbrev cT (g:Option Bool) (s:aJ):List D:=[s8 g s.a,s8 g s.b]
abbrev U (g:Option Bool) (n:ae):List D:=[.int .i64 n.id,.bool n.up,.bool n.cn,sI g n.image,sI g n.mt.aA,sR g n.mt.bits,.bool n.mt.cK,.bool n.mt.bO,.bool n.mt.held,.int .i64 n.mt.last,s8 g n.aN.a,s8 g n.aN.b,sB g n.conn,sR g n.sync,sB g n.aM,sI g n.wait]
structure dr where
  src:Int
  dst:Int
  bytes:List UInt8
structure gx where
  cell:Int
  up:Int
structure aB where
  nodes:List ae
  bV:List dr
  log:List gx
  safe:List Int
  gen:Int
abbrev bd (g:Option Bool) (x:dr):List D:=[.int .i64 x.src,.int .i64 x.dst,s8 g x.bytes]
abbrev cD (_:Option Bool) (r:gx):List D:=[.int .i64 r.cell,.int .i64 r.up]
abbrev sN (g:Option Bool) (xs:List ae):D:=.sl g 16 xs.length (ab (U g) xs)
abbrev sW (g:Option Bool) (xs:List dr):D:=.sl g 3 xs.length (ab (bd g) xs)
abbrev sK (g:Option Bool) (xs:List gx):D:=.sl g 2 xs.length (ab (cD g) xs)
abbrev dk (g:Option Bool) (w:aB):List D:=[sN g w.nodes,sW g w.bV,sK g w.log,sI g w.safe,.int .i64 w.gen]
structure vM where
  kind:Int
  cell:Int
  val:Int
  who:Int
  aA:List Int
structure zq where
  src:Int
  dst:Int
  msg:vM
structure rb where
  kind:Int
  a:Int
  b:Int
abbrev I2 (g:Option Bool) (m:vM):List D:=[.int .i64 m.kind,.int .i64 m.cell,.int .i64 m.val,.int .i64 m.who,sI g m.aA]
abbrev Da (g:Option Bool) (p:zq):List D:=[.int .i64 p.src,.int .i64 p.dst,.int .i64 p.msg.kind,.int .i64 p.msg.cell,.int .i64 p.msg.val,.int .i64 p.msg.who,sI g p.msg.aA]
abbrev Db (_:Option Bool) (d:rb):List D:=[.int .i64 d.kind,.int .i64 d.a,.int .i64 d.b]
abbrev sP (g:Option Bool) (xs:List zq):D:=.sl g 7 xs.length (ab (Da g) xs)
abbrev sM (g:Option Bool) (xs:List vM):D:=.sl g 5 xs.length (ab (I2 g) xs)
abbrev sD (g:Option Bool) (xs:List rb):D:=.sl g 3 xs.length (ab (Db g) xs)
inductive eG where
  | I | B | L | R | mt | aN | node | msg | post | world | TT | xD | Ns | Ws | Ks | Ps | Ms | Ds
abbrev eG.T:eG→Type
  | .I=>List Int
  | .B=>List UInt8
  | .L=>List Bool
  | .R=>List (List Int)
  | .mt=>aK
  | .aN=>aJ
  | .node=>ae
  | .msg=>vM
  | .post=>zq
  | .world=>aB
  | .TT=>rb
  | .xD=>dr
  | .Ns=>List ae
  | .Ws=>List dr
  | .Ks=>List gx
  | .Ps=>List zq
  | .Ms=>List vM
  | .Ds=>List rb
def enc:(k:eG)→k.T→D
  | .I,x=>sI none x
  | .B,x=>s8 none x
  | .L,x=>sB none x
  | .R,x=>sR none x
  | .mt,x=>.agg (bX none x)
  | .aN,x=>.agg (cT none x)
  | .node,x=>.agg (U none x)
  | .msg,x=>.agg (I2 none x)
  | .post,x=>.agg (Da none x)
  | .world,x=>.agg (dk none x)
  | .TT,x=>.agg (Db none x)
  | .xD,x=>.agg (bd none x)
  | .Ns,x=>sN none x
  | .Ws,x=>sW none x
  | .Ks,x=>sK none x
  | .Ps,x=>sP none x
  | .Ms,x=>sM none x
  | .Ds,x=>sD none x
theorem map_inj {α:Type} {f:α→D} (h:∀ a b,f a=f b→a=b):∀ {xs ys:List α},xs.map f=ys.map f→xs=ys
  | [],[],_=>rfl
  | [],_::_,e=>by simp at e
  | _::_,[],e=>by simp at e
  | x::xs,y::ys,e=>by
    simp only [List.map_cons,List.cons.injEq] at e
    rw [h _ _ e.1,map_inj h e.2]
theorem mL {xs ys:List Int} (h:ints xs=ints ys):xs=ys:=map_inj (fun a b e=>by simpa using e) h
theorem bytes_inj {xs ys:List UInt8} (h:bytes xs=bytes ys):xs=ys:=map_inj (fun a b e=>by
  simp only [du,D.int.injEq,true_and] at e
  exact UInt8.toNat_inj.1 (by omega)) h
theorem Bp {xs ys:List Bool} (h:aG xs=aG ys):xs=ys:=map_inj (fun a b e=>by simpa using e) h
theorem zr {g:Option Bool} {xs ys:List (List Int)} (h:rows g xs=rows g ys):xs=ys:=map_inj (fun a b e=>by
  simp only [D.sl.injEq] at e
  exact mL e.2.2.2) h
theorem Pb {α:Type} {e:α→List D} {w:Nat} (hw:∀ x,(e x).length=w) (h:∀ a b,e a=e b→a=b):∀ {xs ys:List α},xs.length=ys.length→ab e xs=ab e ys→xs=ys
  | [],[],_,_=>rfl
  | [],_::_,hl,_=>by simp at hl
  | _::_,[],hl,_=>by simp at hl
  | x::xs,y::ys,hl,he=>by
    simp only [ab,List.flatMap_cons] at he
    have h1:=List.append_inj he (by rw [hw,hw])
    rw [h _ _ h1.1,Pb hw h (by simpa using hl) h1.2]
theorem VO {g:Option Bool} {a b:aK} (h:bX g a=bX g b):a=b:=by
  obtain ⟨a1,a2,a3,a4,a5,a6⟩:=a
  obtain ⟨b1,b2,b3,b4,b5,b6⟩:=b
  simp only [List.cons.injEq,D.sl.injEq,D.bool.injEq,D.int.injEq,true_and,and_true] at h
  rw [mL h.1.2,zr h.2.1.2,h.2.2.1,h.2.2.2.1,h.2.2.2.2.1,h.2.2.2.2.2]
theorem TU {g:Option Bool} {a b:aJ} (h:cT g a=cT g b):a=b:=by
  obtain ⟨a1,a2⟩:=a
  obtain ⟨b1,b2⟩:=b
  simp only [List.cons.injEq,D.sl.injEq,true_and,and_true] at h
  rw [bytes_inj h.1.2,bytes_inj h.2.2]
theorem Bq {g:Option Bool} {a b:ae} (h:U g a=U g b):a=b:=by
  obtain ⟨a1,a2,a3,a4,a5,⟨a6,a7⟩,a8,a9,a10,a11⟩:=a
  obtain ⟨b1,b2,b3,b4,b5,⟨b6,b7⟩,b8,b9,jD,b11⟩:=b
  obtain ⟨c1,c2,c3,c4,c5,c6⟩:=a5
  obtain ⟨d1,d2,d3,d4,d5,d6⟩:=b5
  simp only [List.cons.injEq,D.sl.injEq,D.bool.injEq,D.int.injEq,true_and,and_true] at h
  obtain ⟨h1,h2,h3,⟨_,h4⟩,⟨_,h5⟩,⟨_,h6⟩,h7,h8,h9,mZ,⟨_,NT⟩,⟨_,h12⟩,⟨_,h13⟩,⟨_,h14⟩,⟨_,h15⟩,⟨_,h16⟩⟩:=h
  rw [h1,h2,h3,mL h4,mL h5,zr h6,h7,h8,h9,mZ,bytes_inj NT,bytes_inj h12,Bp h13,zr h14,Bp h15,mL h16]
theorem Br {g:Option Bool} {a b:dr} (h:bd g a=bd g b):a=b:=by
  obtain ⟨a1,a2,a3⟩:=a
  obtain ⟨b1,b2,b3⟩:=b
  simp only [List.cons.injEq,D.sl.injEq,D.int.injEq,true_and,and_true] at h
  rw [h.1,h.2.1,bytes_inj h.2.2.2]
theorem Pc {g:Option Bool} {a b:gx} (h:cD g a=cD g b):a=b:=by
  obtain ⟨a1,a2⟩:=a
  obtain ⟨b1,b2⟩:=b
  simp only [List.cons.injEq,D.int.injEq,true_and,and_true] at h
  rw [h.1,h.2]
theorem Pd {g:Option Bool} {a b:vM} (h:I2 g a=I2 g b):a=b:=by
  obtain ⟨a1,a2,a3,a4,a5⟩:=a
  obtain ⟨b1,b2,b3,b4,b5⟩:=b
  simp only [List.cons.injEq,D.sl.injEq,D.int.injEq,true_and,and_true] at h
  rw [h.1,h.2.1,h.2.2.1,h.2.2.2.1,mL h.2.2.2.2.2]
theorem K5 {g:Option Bool} {a b:zq} (h:Da g a=Da g b):a=b:=by
  obtain ⟨x,y,⟨a1,a2,a3,a4,a5⟩⟩:=a
  obtain ⟨z,w,⟨b1,b2,b3,b4,b5⟩⟩:=b
  simp only [List.cons.injEq,D.sl.injEq,D.int.injEq,true_and,and_true] at h
  rw [h.1,h.2.1,h.2.2.1,h.2.2.2.1,h.2.2.2.2.1,h.2.2.2.2.2.1,mL h.2.2.2.2.2.2.2]
theorem K6 {g:Option Bool} {a b:rb} (h:Db g a=Db g b):a=b:=by
  obtain ⟨a1,a2,a3⟩:=a
  obtain ⟨b1,b2,b3⟩:=b
  simp only [List.cons.injEq,D.int.injEq,true_and,and_true] at h
  rw [h.1,h.2.1,h.2.2]
theorem re {α:Type} {e:α→List D} {w s:Nat} (hw:∀ x,(e x).length=w) (h:∀ a b,e a=e b→a=b) {xs ys:List α} (he:D.sl none s xs.length (ab e xs)=.sl none s ys.length (ab e ys)):xs=ys:=by
  simp only [D.sl.injEq,true_and] at he
  exact Pb hw h he.1 he.2
theorem abl:∀ {k:eG} {x y:k.T},enc k x=enc k y→x=y
  | .I,_,_,h=>mL (D.sl.inj h).2.2.2
  | .B,_,_,h=>bytes_inj (D.sl.inj h).2.2.2
  | .L,_,_,h=>Bp (D.sl.inj h).2.2.2
  | .R,_,_,h=>zr (D.sl.inj h).2.2.2
  | .mt,_,_,h=>VO (D.agg.inj h)
  | .aN,_,_,h=>TU (D.agg.inj h)
  | .node,_,_,h=>Bq (D.agg.inj h)
  | .msg,_,_,h=>Pd (D.agg.inj h)
  | .post,_,_,h=>K5 (D.agg.inj h)
  | .world,x,y,h=>by
    obtain ⟨a1,a2,a3,a4,a5⟩:=x
    obtain ⟨b1,b2,b3,b4,b5⟩:=y
    have h:=D.agg.inj h
    simp only [List.cons.injEq,D.int.injEq,true_and,and_true] at h
    rw [re (w:=16) (fun _=>rfl) (fun _ _=>Bq) h.1,re (w:=3) (fun _=>rfl) (fun _ _=>Br) h.2.1,re (w:=2) (fun _=>rfl) (fun _ _=>Pc) h.2.2.1,mL (D.sl.inj h.2.2.2.1).2.2.2,h.2.2.2.2]
  | .TT,_,_,h=>K6 (g:=none) (D.agg.inj h)
  | .xD,_,_,h=>Br (D.agg.inj h)
  | .Ns,_,_,h=>re (w:=16) (fun _=>rfl) (fun _ _=>Bq) h
  | .Ws,_,_,h=>re (w:=3) (fun _=>rfl) (fun _ _=>Br) h
  | .Ks,_,_,h=>re (w:=2) (fun _=>rfl) (fun _ _=>Pc) h
  | .Ps,_,_,h=>re (w:=7) (fun _=>rfl) (fun _ _=>K5) h
  | .Ms,_,_,h=>re (w:=5) (fun _=>rfl) (fun _ _=>Pd) h
  | .Ds,_,_,h=>re (w:=3) (fun _=>rfl) (fun _ _=>K6 (g:=none)) h
theorem xZ {ds:List D} (h:∀ d∈ds,cf d=true):cm ds=true:=by
  induction ds with
  | nil=>rfl
  | cons d ds ih=>
    simp only [cm,Bool.and_eq_true]
    exact ⟨h d (by simp),ih fun x hx=>h x (by simp [hx])⟩
theorem te (xs:List Int):cm (ints xs)=true:=xZ (by intro d hd; obtain ⟨a,_,rfl⟩:=List.mem_map.1 hd; rfl)
theorem Dc (xs:List UInt8):cm (bytes xs)=true:=xZ (by intro d hd; obtain ⟨a,_,rfl⟩:=List.mem_map.1 hd; rfl)
theorem TV (xs:List Bool):cm (aG xs)=true:=xZ (by intro d hd; obtain ⟨a,_,rfl⟩:=List.mem_map.1 hd; rfl)
theorem Nu (xs:List (List Int)):cm (rows none xs)=true:=xZ (by intro d hd; obtain ⟨a,_,rfl⟩:=List.mem_map.1 hd; simp [cf,te])
theorem uO {α:Type} {e:α→List D} (h:∀ x,cm (e x)=true) (xs:List α):cm (ab e xs)=true:=xZ (by
  intro d hd
  obtain ⟨a,_,ha⟩:=List.mem_flatMap.1 hd
  have:=h a
  generalize e a=l at this ha
  induction l with
  | nil=>simp at ha
  | cons x l ih=>
    simp only [cm,Bool.and_eq_true] at this
    rcases List.mem_cons.1 ha with rfl | ha
    · exact this.1
    · exact ih this.2 ha)
theorem aaa (x:ae):cm (U none x)=true:=by simp [cm,cf,te,Dc,TV,Nu]
theorem aab (x:dr):cm (bd none x)=true:=by simp [cm,cf,Dc]
theorem aac (x:gx):cm (cD none x)=true:=by simp [cm,cf]
theorem afO (x:zq):cm (Da none x)=true:=by simp [cm,cf,te]
theorem afP (x:vM):cm (I2 none x)=true:=by simp [cm,cf,te]
theorem afQ (x:rb):cm (Db none x)=true:=by simp [cm,cf]
theorem aq:∀ (k:eG) (x:k.T),dQ (enc k x)=true
  | .I,x=>by simp [dQ,enc,ch,dp,fy,cf,te]
  | .B,x=>by simp [dQ,enc,ch,dp,fy,cf,Dc]
  | .L,x=>by simp [dQ,enc,ch,dp,fy,cf,TV]
  | .R,x=>by simp [dQ,enc,ch,dp,fy,cf,Nu]
  | .mt,x=>by simp [dQ,enc,ch,dp,fy,cf,te,Nu]
  | .aN,x=>by simp [dQ,enc,ch,dp,fy,cf,Dc]
  | .node,x=>by simp [dQ,enc,ch,dp,fy,cf,te,Dc,TV,Nu]
  | .msg,x=>by simp [dQ,enc,ch,dp,fy,cf,te]
  | .post,x=>by simp [dQ,enc,ch,dp,fy,cf,te]
  | .world,x=>by simp [dQ,enc,ch,dp,fy,cf,te,uO aaa,uO aab,uO aac]
  | .TT,x=>by simp [dQ,enc,ch,dp,fy,cf]
  | .xD,x=>by simp [dQ,enc,ch,dp,fy,cf,Dc]
  | .Ns,x=>by simp [dQ,enc,ch,dp,fy,cf,uO aaa]
  | .Ws,x=>by simp [dQ,enc,ch,dp,fy,cf,uO aab]
  | .Ks,x=>by simp [dQ,enc,ch,dp,fy,cf,uO aac]
  | .Ps,x=>by simp [dQ,enc,ch,dp,fy,cf,uO afO]
  | .Ms,x=>by simp [dQ,enc,ch,dp,fy,cf,uO afP]
  | .Ds,x=>by simp [dQ,enc,ch,dp,fy,cf,uO afQ]
def Ss (v:D):Bool:=(match v with | .agg cs=>cs | d=>[d]).all fun x=>fy x&&cf x
theorem aR:dQ (.aP [])=true:=rfl
theorem aS (v:D) (vs:List D):dQ (.aP (v::vs))=(Ss v&&dQ (.aP vs)):=by
  simp only [dQ,ch,dp,List.flatMap_cons,List.all_append,Ss]
  rfl
theorem bn (k:eG) (x:k.T):Ss (enc k x)=true:=by
  have:=aq k x
  cases k<;>exact this
theorem bo (k:IntKind) (n:Int):Ss (.int k n)=true:=rfl
theorem aT (b:Bool):Ss (.bool b)=true:=rfl
theorem bp (b:ByteArray):Ss (.str b)=true:=rfl
end Go.Proofs.YtockoilcnmljiaaGreat
namespace Go.Proofs.YtockoilcnmljiaaGreat
inductive RS where
  | int (k:IntKind)
  | bool
  | str
  | sl (s:Nat)
  | jO (s:Nat)
  | undef
  | agg (l:List RS)
  | aP (l:List RS)
  | bh (l:List RS)
  | ty (k:eG)
inductive bE (R:Type) where
  | done (x:Option R)
  | int (f:Int→bE R)
  | bool (f:Bool→bE R)
  | str (f:ByteArray→bE R)
  | sl (f:Nat→List D→bE R)
  | jO (f:Bool→Nat→List D→bE R)
  | ty (k:eG) (f:k.T→bE R)
section
variable {R:Type}
mutual
def rf:RS→(D→bE R)→bE R
  | .int k,f=>.int fun x=>f (.int k x)
  | .bool,f=>.bool fun x=>f (.bool x)
  | .str,f=>.str fun x=>f (.str x)
  | .sl s,f=>.sl fun n cs=>f (.sl none s n cs)
  | .jO s,f=>.jO fun _ n cs=>f (.sl (some false) s n cs)
  | .undef,f=>f .undef
  | .agg l,f=>Bs l fun ds=>f (.agg ds)
  | .aP l,f=>Bs l fun ds=>f (.aP ds)
  | .bh l,f=>Bs l fun ds=>f (.bh ds)
  | .ty k,f=>.ty k fun x=>f (enc k x)
def Bs:List RS→(List D→bE R)→bE R
  | [],f=>f []
  | s::ss,f=>rf s fun d=>Bs ss fun ds=>f (d::ds)
end
open Classical in
noncomputable def feed:bE R→List D→Option R
  | .done x,_=>x
  | .int f,.int _ n::l=>feed (f n) l
  | .bool f,.bool b::l=>feed (f b) l
  | .str f,.str s::l=>feed (f s) l
  | .sl f,.sl none _ n cs::l=>feed (f n cs) l
  | .jO f,.sl (some g) _ n cs::l=>feed (f g n cs) l
  | .ty k f,d::l=>if h:∃ x,d=enc k x then feed (f (Classical.choose h)) l else none
  | _,_=>none
end
mutual
def sO:D→List D
  | .agg ds=>wV ds
  | .aP ds=>wV ds
  | .bh ds=>wV ds
  | .undef=>[]
  | d=>[d]
def wV:List D→List D
  | []=>[]
  | d::ds=>sO d++wV ds
end
open Classical in
mutual
noncomputable def fb:RS→D→Bool
  | .int k,.int k' _=>ff k k'
  | .bool,.bool _=>true
  | .str,.str _=>true
  | .sl s,.sl none s' _ _=>s==s'
  | .jO s,.sl (some false) s' _ _=>s==s'
  | .undef,.undef=>true
  | .agg l,.agg ds=>jP l ds
  | .aP l,.aP ds=>jP l ds
  | .bh l,.bh ds=>jP l ds
  | .ty k,d=>decide (∃ x,d=enc k x)
  | _,_=>false
noncomputable def jP:List RS→List D→Bool
  | [],[]=>true
  | s::ss,d::ds=>fb s d&&jP ss ds
  | _,_=>false
end
open Classical in
theorem au (k:eG) (x:k.T):fb (.ty k) (enc k x)=true:=by
  simp only [fb]
  exact decide_eq_true ⟨x,rfl⟩
theorem bq (k:IntKind) (n:Int):fb (.int k) (.int k n)=true:=by simp [fb,ff]
theorem aU (b:Bool):fb .bool (.bool b)=true:=by simp [fb]
theorem bt (b:ByteArray):fb .str (.str b)=true:=by simp [fb]
theorem bu (l:List RS) (ds:List D):fb (.aP l) (.aP ds)=jP l ds:=by simp [fb]
theorem aj:jP [] []=true:=by simp [jP]
theorem af (s:RS) (ss:List RS) (d:D) (ds:List D):jP (s::ss) (d::ds)=(fb s d&&jP ss ds):=by simp [jP]
theorem aF:fb .undef .undef=true:=by simp [fb]
mutual
def gl:RS→D→List D
  | .agg l,.agg ds=>oo l ds
  | .aP l,.aP ds=>oo l ds
  | .bh l,.bh ds=>oo l ds
  | .undef,_=>[]
  | _,d=>[d]
def oo:List RS→List D→List D
  | s::ss,d::ds=>gl s d++oo ss ds
  | _,_=>[]
end
mutual
def vN:RS→Bool
  | .ty _=>true
  | .agg l=>vO l
  | .aP l=>vO l
  | .bh l=>vO l
  | _=>false
def vO:List RS→Bool
  | []=>false
  | s::ss=>vN s||vO ss
end
mutual
theorem Pe:∀ {s:RS} {d:D},fb s d=true→vN s=false→gl s d=sO d
  | .int k,d,h,_=>by cases d<;>simp [fb,ff] at h; simp [gl,sO]
  | .bool,d,h,_=>by cases d<;>simp [fb] at h; simp [gl,sO]
  | .str,d,h,_=>by cases d<;>simp [fb] at h; simp [gl,sO]
  | .sl s,d,h,_=>by cases d<;>simp [fb] at h; simp [gl,sO]
  | .jO s,d,h,_=>by cases d<;>simp [fb] at h; simp [gl,sO]
  | .undef,d,h,_=>by cases d<;>simp [fb] at h; simp [gl,sO]
  | .ty k,d,h,ht=>by simp [vN] at ht
  | .agg ss,d,h,ht=>by
    cases d with
    | agg ds=>rw [gl,sO]; exact tP (by simpa [fb] using h) (by simpa [vN] using ht)
    | _=>simp [fb] at h
  | .aP ss,d,h,ht=>by
    cases d with
    | aP ds=>rw [gl,sO]; exact tP (by simpa [fb] using h) (by simpa [vN] using ht)
    | _=>simp [fb] at h
  | .bh ss,d,h,ht=>by
    cases d with
    | bh ds=>rw [gl,sO]; exact tP (by simpa [fb] using h) (by simpa [vN] using ht)
    | _=>simp [fb] at h
theorem tP:∀ {ss:List RS} {ds:List D},jP ss ds=true→vO ss=false→oo ss ds=wV ds
  | [],ds,h,_=>by
    cases ds with
    | nil=>rfl
    | cons d ds=>simp [jP] at h
  | s::ss,ds,h,ht=>by
    cases ds with
    | nil=>simp [jP] at h
    | cons d ds=>
      simp only [jP,Bool.and_eq_true] at h
      simp only [vO,Bool.or_eq_false_iff] at ht
      rw [oo,wV,Pe h.1 ht.1,tP h.2 ht.2]
end
section
variable {R:Type}
open Classical in
theorem I3 (k:eG) (f:k.T→bE R) (x:k.T) (l:List D):feed (.ty k f) (enc k x::l)=feed (f x) l:=by
  have h:∃ y,enc k x=enc k y:=⟨x,rfl⟩
  have e:Classical.choose h=x:=(abl (Classical.choose_spec h)).symm
  show (if h:∃ y,enc k x=enc k y then feed (f (Classical.choose h)) l else none)=_
  rw [dif_pos h,e]
mutual
theorem tQ:∀ {s:RS} {d:D} (f:D→bE R) (l:List D),fb s d=true→feed (rf s f) (gl s d++l)=feed (f d) l
  | .int k,d,f,l,h=>by
    cases d<;>simp [fb,ff] at h
    subst h
    simp [rf,gl,feed]
  | .bool,d,f,l,h=>by
    cases d<;>simp [fb] at h
    simp [rf,gl,feed]
  | .str,d,f,l,h=>by
    cases d<;>simp [fb] at h
    simp [rf,gl,feed]
  | .sl s,d,f,l,h=>by
    cases d with
    | sl g s' n cs=>cases g with
      | none=>simp [fb] at h; subst h; simp [rf,gl,feed]
      | some g=>simp [fb] at h
    | _=>simp [fb] at h
  | .jO s,d,f,l,h=>by
    cases d with
    | sl g s' n cs=>cases g with
      | none=>simp [fb] at h
      | some g=>cases g with
        | true=>simp [fb] at h
        | false=>simp [fb] at h; subst h; simp [rf,gl,feed]
    | _=>simp [fb] at h
  | .undef,d,f,l,h=>by
    cases d<;>simp [fb] at h
    simp [rf,gl]
  | .agg ss,d,f,l,h=>by
    cases d with
    | agg ds=>rw [rf,gl]; exact mC _ l (by simpa [fb] using h)
    | _=>simp [fb] at h
  | .aP ss,d,f,l,h=>by
    cases d with
    | aP ds=>rw [rf,gl]; exact mC _ l (by simpa [fb] using h)
    | _=>simp [fb] at h
  | .bh ss,d,f,l,h=>by
    cases d with
    | bh ds=>rw [rf,gl]; exact mC _ l (by simpa [fb] using h)
    | _=>simp [fb] at h
  | .ty k,d,f,l,h=>by
    have h:∃ x,d=enc k x:=by simpa [fb] using h
    obtain ⟨x,rfl⟩:=h
    rw [rf,gl,List.singleton_append]
    · exact I3 k _ x l
    all_goals simp
theorem mC:∀ {ss:List RS} {ds:List D} (f:List D→bE R) (l:List D),jP ss ds=true→feed (Bs ss f) (oo ss ds++l)=feed (f ds) l
  | [],ds,f,l,h=>by
    cases ds with
    | nil=>rfl
    | cons d ds=>simp [jP] at h
  | s::ss,ds,f,l,h=>by
    cases ds with
    | nil=>simp [jP] at h
    | cons d ds=>
      simp only [jP,Bool.and_eq_true] at h
      rw [Bs,oo,List.append_assoc,tQ _ _ h.1,mC _ _ h.2]
end
end
noncomputable def lM (c:cB) (P:Program) (f:FuncId) (ds:List D):Option (D × List D):=by
  classical exact if h:∃ r,Comes c P f ds r then some (Classical.choose h) else none
theorem Yg {c:cB} {P:Program} {f:FuncId} {ds:List D} {r:D × List D} (h:lM c P f ds=some r):Comes c P f ds r:=by
  unfold lM at h
  split at h
  · rename_i hh
    rw [Option.some.injEq] at h
    rw [← h]
    exact Classical.choose_spec hh
  · simp at h
theorem VP {c:cB} {P:Program} {f:FuncId} {ds:List D} {r r':D × List D} (h:Comes c P f ds r) (h':Comes c P f ds r'):r=r':=by
  obtain ⟨k,hk⟩:=Ev.and h h'
  have h3:=hk k (Nat.le_refl _)
  exact Option.some.inj (h3.1.symm.trans h3.2)
theorem Pf {c:cB} {P:Program} {f:FuncId} {ds:List D} {r:D × List D} (h:Comes c P f ds r):lM c P f ds=some r:=by
  unfold lM
  rw [dif_pos ⟨r,h⟩]
  exact congrArg some (VP (Classical.choose_spec (⟨r,h⟩:∃ r,Comes c P f ds r)) h)
structure Sg where
  sig:FuncId→Option (RS × List RS)
  em:FuncId→Bool
abbrev Cv (R:Type):=FuncId→List D→bE R→Option R
noncomputable def eH {R:Type} (c:cB) (P:Program) (sg:Sg):Cv R:=fun g ds t=>
  if g=999999 then feed t ds else
  match lM c P g ds,sg.sig g with
  | some (r,outs),some (s,ss)=>if fb s r&&jP ss outs&&(!(vN s||vO ss)||(dQ r&&outs.all dQ)) then feed t (gl s r++(oo ss outs++[])) else none
  | _,_=>none
theorem afR {R:Type} {c:cB} {P:Program} {sg:Sg} {g:FuncId} {ds:List D} {r:D} {outs:List D} (t:bE R) (h:Comes c P g ds (r,outs)) (hs:(match sg.sig g with | some (s,ss)=>fb s r&&jP ss outs&&!(vN s||vO ss) | none=>false)=true) (hg:g≠999999):eH c P sg g ds t=feed t (sO r++(wV outs++[])):=by
  unfold eH
  rw [if_neg hg,Pf h]
  split at hs
  · rename_i s ss hg
    rw [hg]
    simp only [Bool.and_eq_true,Bool.not_eq_true',Bool.or_eq_false_iff] at hs
    simp only [hs,Bool.and_self,Bool.or_self,Bool.not_false,Bool.true_or,if_true]
    rw [Pe hs.1.1 hs.2.1,tP hs.1.2 hs.2.2]
  · simp at hs
theorem afS {R:Type} {c:cB} {P:Program} {sg:Sg} {g:FuncId} {ds:List D} {r:D} {outs:List D} {s:RS} {ss:List RS} (t:bE R) (h:Comes c P g ds (r,outs)) (hs:sg.sig g=some (s,ss)) (h1:fb s r=true) (h2:jP ss outs=true) (h3:dQ r=true) (h4:outs.all dQ=true) (hg:g≠999999):eH c P sg g ds t=feed t (gl s r++(oo ss outs++[])):=by
  unfold eH
  rw [if_neg hg,Pf h,hs]
  simp only [h1,h2,h3,h4,Bool.and_self,Bool.or_true,if_true]
def St.Pg (st:St) (r p:Nat) (zs:List D):Option St:=
  match lk st.rt r with
  | some l=>match l[p]? with
    | some (.sl none s n _)=>some { st with rt:=VG st.rt r (l.set p (.sl none s n zs)) }
    | _=>none
  | none=>none
theorem QS {st:St} {r p:Nat} {ys:List D} (h:st.cells r [p]=some ys):st.Pg r p ys=some st:=by
  unfold St.cells at h
  unfold St.Pg
  split at h
  case h_2=>simp at h
  rename_i l hl
  simp only [lX] at h
  split at h
  case h_2=>simp at h
  rename_i s n xs hp
  simp only [Option.some.injEq] at h
  subst h
  simp only [hl,hp]
  have e:l.set p (.sl none s n xs)=l:=by
    apply List.ext_getElem?
    intro i
    rw [List.getElem?_set]
    split
    · rename_i hi
      subst hi
      rw [if_pos (List.getElem?_eq_some_iff.1 hp).1,hp]
    · rfl
  rw [e,EM _ _ _ hl]
section
variable {R:Type} (pr:dA) (c:cB) (sg:Sg) (cv:Cv R) (J:Nat→St→Option R) (aC:FuncId)
def Nv (cq:St) (t:Bool) (dst:Option Nat) (r:D) (k:St→Option R):Option R:=
  match dst with
  | some i=>k ((cq.qI (cq.of+i) (if t then gN true r else r)).1.put (some i) (cq.qI (cq.of+i) (if t then gN true r else r)).2)
  | none=>k cq
def GP (st:St) (r p:Nat) (k:St→Option R):Option R:=
  match st.cells r [p] with
  | some ys=>cv 999999 [.sl none 0 0 ys] (.sl fun _ zs=>.done (match st.Pg r p zs with
    | some st'=>k st'
    | none=>none))
  | none=>k st
def GQ (st:St) (dst:Option Nat) (g:FuncId) (args:List D) (k:St→Option R):Option R:=
  if g=999999 then none else
  match mY st (c.own g) args,sg.sig g with
  | some (ds,aQ),some (s,ss)=>
    br (if pP (c.own g) ds then true else Z9 pr (c.own g) ds)
    (cv g (if pP (c.own g) ds then kj (c.own g) ds else ds) (rf s fun r=>Bs ss fun outs=>.done (br (match vN s||vO ss with | true=>true | false=>D5 pr r&&outs.all (D5 pr))
      (match om pr aQ id (c.own g) args (if pP (c.own g) ds then outs.map (gN true) else outs) with
        | some (q,cq)=>br q (Nv cq (pP (c.own g) ds) dst r k) none
        | none=>none) none))) none
  | _,_=>none
def Bt (st:St) (dst:Option Nat) (g:FuncId) (sz r p o:Nat) (rest:List D) (k:St→Option R):Option R:=
  if g=999999 then none else
  match st.cells r [p],sg.sig g,(c.own g).headD false&&!(c.own g).tail.any id with
  | some cs,some (s,ss),true=>
    match st.im r [p] o (.hole sz (pr.aZ cs o)) with
    | some aQ=>match vg aQ (c.own g).tail rest with
      | some Nw=>
        br (pr.jN sz cs o) (br (pr.nl (pr.ba cs o))
        (cv g (.sl none sz (pr.aZ cs o) (pr.ba cs o)::Nw) (rf s fun res=>Bs ss fun outs=>.done (br (D5 pr res&&outs.all (D5 pr))
          (match outs with
            | .sl none sz' n' cs'::_=>if sz=sz'∧outs.length=rest.length+1 then (match (st.eY (cz r [p] o false)).im r [p] o (.sl none sz' n' cs') with
              | some cq=>br (pr.neq (pr.aZ cs o) n') (GP cv cq r p fun cq=>Nv cq false dst res k) none
              | none=>none) else none
            | _=>none) none))) none) none
      | none=>none
    | none=>none
  | _,_,_=>none
def Nx (st:St) (o:Oper) (k:St→Option R):St→Option R:=
  if sg.em aC then (match o.op with
    | .store _ a _=>(match cw c st o.type a with
      | .ptr r [p] _=>fun st'=>GP cv st' r p k
      | _=>k)
    | _=>k) else k
def TW (st:St) (o:Oper) (k:St→Option R):Option R:=
  match o.op with
  | .call cc=>match cc.callee with
    | .value f=>if cc.args.size≠cc.argTypes.size then none else match cw c st o.type f with
      | .fn g gL=>if c.inl g then none else match sg.em aC,((cc.args.toList.zip cc.argTypes.toList).map fun p=>cw c st p.2 p.1)++gL with
        | true,.ref r [p] o' none::rest=>Bt pr c sg cv st o.dst g (c.esz (cc.argTypes.toList.headD 0)) r p o' rest k
        | _,args=>GQ pr c sg cv st o.dst g args k
      | _=>none
    | _=>Si pr c (fun _ _=>none) xY aC st o k
  | _=>match (if sg.em aC then opE pr c st o else none) with
    | some (g,st')=>br g (Nx c sg cv aC st o k st') none
    | none=>Si pr c (fun _ _=>none) xY aC st o (Nx c sg cv aC st o k)
def GR (st:St) (o:Oper) (k:St→Option R):Option R:=
  match xm c aC st o with
  | true=>TW pr c sg cv aC st o k
  | false=>none
def o0 (all:Array Oper):List Oper→St→(St→Option R)→Option R
  | [],st,k=>k st
  | o::rest,st,k=>match o.guard with
    | none=>GR pr c sg cv aC st o fun st'=>o0 all rest st' k
    | some (j,want)=>match (all[j]?).bind (·.dst) with
      | some t=>match st.get t with
        | .bool b=>match want with
          | true=>br b (GR pr c sg cv aC (st.lit t true) o fun st'=>o0 all rest st' k) (o0 all rest ((st.lit t false).put o.dst (.aP [])) k)
          | false=>br b (o0 all rest ((st.lit t true).put o.dst (.aP [])) k) (GR pr c sg cv aC (st.lit t false) o fun st'=>o0 all rest st' k)
        | .aP []=>o0 all rest (st.put o.dst (.aP [])) k
        | _=>none
      | none=>o0 all rest (st.put o.dst (.aP [])) k
def jmp (i:Nat) (st:St):Option R:=match Yc c aC i st with
  | some h=>J i h
  | none=>none
def rh (f:St→Option R) (k:Exit→St→Option R):Exit→St→Option R
  | .normal,st=>f st
  | x,st=>k x st
def vP (id:Nat) (k:Exit→St→Option R):Exit→St→Option R
  | .exit vi,st=>if vi=id then k .normal st else k (.exit vi) st
  | x,st=>k x st
def dK:Code→Nat→St→(Exit→St→Option R)→Option R
  | .skip,_,st,k=>k .normal st
  | .region _ ops false,_,st,k=>o0 pr c sg cv aC ops ops.toList st (k .normal)
  | .region _ ops true,_,st,k=>match sX c aC ops ops.size (Array.replicate ops.size false) with
    | some l=>o0 pr c sg cv aC ops (opsOf ops l) st (k .normal)
    | none=>none
  | .seq a b,i,st,k=>dK a i st (rh (fun st'=>dK b i st' k) k)
  | .cond x a b,i,st,k=>Nt c st x (fun st=>dK a i st k) (fun st=>dK b i st k)
  | .block id a,_,st,k=>dK a id st (vP id k)
  | .loop _,i,st,_=>jmp c J aC i st
  | .exit id,_,st,k=>k (.exit id) st
  | .ret,_,st,k=>k .ret st
  | _,_,_,_=>none
def dB:Code→Nat→(Exit→St→Option R)→Nat→Option (St→Option R)
  | .seq a b,i,k,j=>match dB a i (rh (fun st'=>dK pr c sg cv J aC b i st' k) k) j with
    | some t=>some t
    | none=>dB b i k j
  | .cond _ a b,i,k,j=>match dB a i k j with
    | some t=>some t
    | none=>dB b i k j
  | .block id a,_,k,j=>dB a id (vP id k) j
  | .loop a,i,k,j=>if i=j then some fun h=>dK pr c sg cv J aC a i h (rh (jmp c J aC i) k)
    else dB a i (rh (jmp c J aC i) k) j
  | _,_,_,_=>none
end
def lN:Code→Nat→List Nat
  | .seq a b,i=>lN a i++lN b i
  | .cond _ a b,i=>lN a i++lN b i
  | .block id a,_=>lN a id
  | .loop a,i=>i::lN a i
  | _,_=>[]
def ri:D→D
  | .bh _=>.bh []
  | .agg cs=>if cs.any iR then .agg [.sl none 0 0 []] else .undef
  | .sl none _ _ _=>.sl none 0 0 []
  | .aP vs=>.aP vs
  | _=>.undef
abbrev Rz:=D × List D
section
variable (pr:dA) (c:cB) (sg:Sg) (cv:Cv Rz) (J:Nat→St→Option Rz) (aC:FuncId)
def EP (fn:Func) (sk:List D) (x:Exit) (st:St):Option Rz:=UB (c.gone aC) (EL c fn sk x st)
def uP (fn:Func) (sk:List D) (j:Nat) (h:St):Option Rz:=
  match fn.body with
  | some body=>match dB pr c sg cv J aC body 0 (EP c aC fn sk) j with
    | some t=>t h
    | none=>none
  | none=>none
def Bu (fn:Func) (args:List D):Option Rz:=
  match fn.body with
  | some body=>dK pr c sg cv J aC body 0 (nQ fn.ntmps 0 args ⟨[],[],[],0⟩) (EP c aC fn (args.map ri))
  | none=>none
end
noncomputable def Jn (c:cB) (P:Program) (sg:Sg) (f:FuncId) (fn:Func) (sk:List D):Nat→Nat→St→Option Rz
  | 0=>fun _ _=>none
  | n+1=>fun j h=>uP ad c sg (eH c P sg) (Jn c P sg f fn sk n) f fn sk j h
def W (c:cB) (P:Program) (sg:Sg) (f:FuncId) (fn:Func) (sk:List D) (j:Nat) (h:St) (r:Rz):Prop:=∃ n,Jn c P sg f fn sk n j h=some r
theorem TX (st:St) (r:Nat) (d:D):oK st r (ri d)=oK st r d:=by
  cases d with
  | bh cs=>rfl
  | agg cs=>
    by_cases h:cs.any iR=true
    · have e:ri (.agg cs)=.agg [.sl none 0 0 []]:=by simp only [ri,h,if_true]
      have h1:eR (.agg cs)=true:=h
      have h2:eR (.agg [.sl none 0 0 []])=true:=rfl
      rw [e]
      unfold oK
      rw [h1,h2]
    · have e:ri (.agg cs)=.undef:=by simp only [ri,if_neg h]
      have h1:eR (.agg cs)=false:=Bool.eq_false_iff.2 h
      have h2:eR .undef=false:=rfl
      rw [e]
      unfold oK
      rw [h1,h2]
      rfl
  | sl g s n cs=>
    cases g with
    | none=>rfl
    | some g=>rfl
  | aP vs=>rfl
  | _=>rfl
theorem ER (n:Nat):∀ (i:Nat) (ds:List D) (st:St),pM n i (ds.map ri) st=pM n i ds st
  | _,[],_=>rfl
  | i,d::ds,st=>by
    simp only [List.map_cons,pM,TX]
    split
    · rw [ER n (i+1) ds st]
    · split
      · rename_i o st' h
        rw [ER n (i+1) ds st']
      · rfl
theorem abm (c:cB) (fn:Func) (args:List D):EL c fn (args.map ri)=EL c fn args:=by
  funext x st
  unfold EL
  simp only [ER,List.length_map]
section
variable {R:Type} {P:Program} {c:cB} (av:ez c P) {sg:Sg} {aC:FuncId}
include av
theorem ES {st:St} {r p:Nat} {k:St→Option R}:GP (eH c P sg) st r p k=k st:=by
  have _:=av
  unfold GP
  split
  · rename_i ys hys
    unfold eH
    simp only [if_true,feed,QS hys]
  · rfl
theorem abn {st:St} {o:Oper} {k:St→Option R}:Nx c sg (eH c P sg) aC st o k=k:=by
  unfold Nx
  split
  · split
    · split
      · funext st'
        exact ES av
      · rfl
    · rfl
  · rfl
theorem Su {cq:St} {t:Bool} {dst:Option Nat} {r:D} {k:St→Option R} {x:R} (h:Nv cq t dst r k=some x):∃ st',(match dst with
      | some i=>some ((cq.qI (cq.of+i) (if t then gN true r else r)).1.put (some i) (cq.qI (cq.of+i) (if t then gN true r else r)).2)
      | none=>some cq)=some st'∧k st'=some x∧∀ (k':St→Option R),Nv cq t dst r k'=k' st':=by
  have _:=av
  cases dst with
  | none=>exact ⟨_,rfl,h,fun _=>rfl⟩
  | some i=>exact ⟨_,rfl,h,fun _=>rfl⟩
theorem Yh {st:St} {dst:Option Nat} {g:FuncId} {args:List D} {k:St→Option R} {r:R} (h:GQ ad c sg (eH c P sg) st dst g args k=some r):∃ st',kA c (lM c P) st dst g args=some st'∧k st'=some r∧∀ (k':St→Option R) r',k' st'=some r'→GQ ad c sg (eH c P sg) st dst g args k'=some r':=by
  unfold GQ at h
  split at h
  · simp at h
  rename_i hg
  split at h
  case h_2=>simp at h
  rename_i ds aQ s ss ma Ph
  obtain ⟨hl,h⟩:=oP h
  unfold eH at h
  rw [if_neg hg,Ph] at h
  split at h
  case h_2=>simp at h
  rename_i rr outs s' ss' hV vo
  simp only [Option.some.injEq,Prod.mk.injEq] at vo
  obtain ⟨rfl,rfl⟩:=vo
  split at h
  case isFalse=>simp at h
  rename_i cQ
  have Yi:=cQ
  simp only [Bool.and_eq_true] at cQ
  obtain ⟨cQ,Yj⟩:=cQ
  rw [tQ _ _ cQ.1,mC _ _ cQ.2] at h
  simp only [feed] at h
  obtain ⟨h1,h2⟩:=oP h
  have hU:(dQ rr&&outs.all dQ)=true:=by
    have e:D5 ad=dQ:=funext GM
    cases lZ:vN s||vO ss with
    | true=>rw [lZ] at Yj; simpa using Yj
    | false=>
      rw [lZ] at h1
      rw [← e]
      exact h1
  split at h2
  case h_2=>simp at h2
  rename_i q cq hb
  obtain ⟨hq,h2⟩:=oP h2
  have ht:fA (c.own g) ds=pP (c.own g) ds:=by
    cases cX:pP (c.own g) ds with
    | true=>exact GO cX
    | false=>rw [cX] at hl; exact D6 cX (by simpa using hl)
  obtain ⟨st',k1,k2,k3⟩:=Su av h2
  refine ⟨st',?_,k2,fun k' r' hk=>?_⟩
  · unfold kA
    rw [ma]
    simp only [ht,hV,hU,if_true,vL hb hq]
    cases dst with
    | none=>exact k1
    | some i=>exact k1
  · unfold GQ
    rw [if_neg hg,ma,Ph]
    simp only
    rw [hl]
    simp only [br]
    unfold eH
    rw [if_neg hg,hV,Ph]
    simp only
    rw [if_pos Yi,tQ _ _ cQ.1,mC _ _ cQ.2]
    simp only [feed,h1,br,hb,hq]
    rw [k3,hk]
theorem Bv:∀ {b:List Bool} {ds:List D} {st:St},b.any id=false→nq st b ds=some (ds,st)
  | _,[],_,_=>rfl
  | b,d::ds,st,h=>by
    have _:=av
    have hb:b.headD false=false∧b.tail.any id=false:=by
      cases b with
      | nil=>simp
      | cons x xs=>simpa using h
    simp only [nq,hb.1,Bool.false_eq_true,if_false,Bv hb.2]
theorem zZ:∀ {b:List Bool} {ds os:List D} {st:St} {h:D→D},b.any id=false→ds.length=os.length→ir st h b ds os=some st
  | _,[],_,_,_,_,_=>rfl
  | b,d::ds,[],st,h,hn,hl=>by simp at hl
  | b,d::ds,o::os,st,h,hn,hl=>by
    have _:=av
    have hb:b.headD false=false∧b.tail.any id=false:=by
      cases b with
      | nil=>simp
      | cons x xs=>simpa using hn
    simp only [ir,hb.1,Bool.false_eq_true,if_false]
    exact zZ hb.2 (by simpa using hl)
theorem D7:∀ {b:List Bool} {ds:List D},b.any id=false→fA b ds=false
  | _,[],_=>rfl
  | b,d::ds,hn=>by
    have _:=av
    have hb:b.headD false=false∧b.tail.any id=false:=by
      cases b with
      | nil=>simp
      | cons x xs=>simpa using hn
    simp only [fA,hb.1,Bool.false_and,Bool.false_or]
    exact D7 hb.2
theorem TY {st aQ:St} {r p o:Nat} {cs:List D} {d:D} (hc:st.cells r [p]=some cs) (h:st.im r [p] o d=some aQ):aQ.cells r [p]=some (cs.set o d):=by
  have _:=av
  unfold St.cells at hc ⊢
  unfold St.im at h
  split at h
  case h_2=>simp at h
  rename_i l hl
  rw [hl] at hc
  simp only at hc
  split at h
  case h_2=>simp at h
  rename_i l' hm
  simp only [Option.some.injEq] at h
  subst h
  simp only [kB]
  simp only [lX] at hc
  split at hc
  case h_2=>simp at hc
  rename_i s n xs hp
  simp only [Option.some.injEq] at hc
  subst hc
  simp only [pK,hp,Option.some.injEq] at hm
  subst hm
  have cX:p < l.length:=(List.getElem?_eq_some_iff.1 hp).1
  simp only [lX,List.getElem?_set,cX,if_true]
omit av in
theorem Pj {α:Type}:∀ (l:List (Nat × α)) (k:Nat) (u v:α),pz (pz l k u) k v=pz l k v
  | [],k,u,v=>by simp [pz]
  | (j,w)::t,k,u,v=>by
    simp only [pz]
    split
    · rename_i h
      simp only [pz,if_pos h,Pj t k u v]
    · rename_i h
      split
      · simp [pz]
      · simp [pz]
omit av in
theorem Sv {α:Type} (f:α→α):∀ (l:List (Nat × α)) (k:Nat),lk (gb f l) k=(lk l k).map f
  | [],_=>rfl
  | (j,w)::t,k=>by
    simp only [gb,lk]
    split
    · rfl
    · exact Sv f t k
theorem TZ {st aQ:St} {r p o:Nat} {h d:D} {b:Bool} (hs:st.im r [p] o h=some aQ):(aQ.eY (cz r [p] o b)).im r [p] o d=(st.eY (cz r [p] o b)).im r [p] o d:=by
  have _:=av
  unfold St.im at hs
  split at hs
  case h_2=>simp at hs
  rename_i l hl
  split at hs
  case h_2=>simp at hs
  rename_i l' hm
  simp only [Option.some.injEq] at hs
  subst hs
  simp only [pK] at hm
  split at hm
  case h_2=>simp at hm
  rename_i s n xs hp
  simp only [Option.some.injEq] at hm
  subst hm
  have cX:p < l.length:=(List.getElem?_eq_some_iff.1 hp).1
  have e1:(l.map (fh (cz r [p] o b)))[p]?=some (.sl none s n xs):=by
    rw [List.getElem?_map,hp]
    rfl
  have e2:((l.set p (.sl none s n (xs.set o h))).map (fh (cz r [p] o b)))[p]?=some (.sl none s n (xs.set o h)):=by
    rw [List.getElem?_map,List.getElem?_set]
    simp only [cX,if_true]
    rfl
  have e0:lk (gb (List.map (fh (cz r [p] o b))) st.rt) r=some (l.map (fh (cz r [p] o b))):=by
    rw [Sv,hl]
    rfl
  have e3:((l.set p (.sl none s n (xs.set o h))).map (fh (cz r [p] o b))).set p (.sl none s n (xs.set o d))=(l.map (fh (cz r [p] o b))).set p (.sl none s n (xs.set o d)):=by
    rw [List.map_set,List.set_set]
  unfold St.im
  simp only [St.eY,IV,kB,e0,pK,e1,e2,List.set_set,e3,Pj]
theorem VQ {st:St} {dst:Option Nat} {g:FuncId} {sz a p o:Nat} {rest:List D} {k:St→Option R} {r:R} (h:Bt ad c sg (eH c P sg) st dst g sz a p o rest k=some r):∃ st',kA c (lM c P) st dst g (.ref a [p] o none::rest)=some st'∧k st'=some r∧∀ (k':St→Option R) r',k' st'=some r'→Bt ad c sg (eH c P sg) st dst g sz a p o rest k'=some r':=by
  unfold Bt at h
  split at h
  · simp at h
  rename_i hg
  split at h
  case h_2=>simp at h
  rename_i cs s ss eM Ph jx
  simp only [Bool.and_eq_true,Bool.not_eq_true'] at jx
  split at h
  case h_2=>simp at h
  rename_i aQ jd
  split at h
  case h_2=>simp at h
  rename_i Nw hro
  obtain ⟨nE,h⟩:=oP h
  obtain ⟨Z1,h⟩:=oP h
  simp only [ES av] at h
  unfold eH at h
  rw [if_neg hg,Ph] at h
  split at h
  case h_2=>simp at h
  rename_i rr outs s' ss' hV vo
  simp only [Option.some.injEq,Prod.mk.injEq] at vo
  obtain ⟨rfl,rfl⟩:=vo
  split at h
  case isFalse=>simp at h
  rename_i cQ
  have Yi:=cQ
  simp only [Bool.and_eq_true] at cQ
  obtain ⟨cQ,Yj⟩:=cQ
  rw [tQ _ _ cQ.1,mC _ _ cQ.2] at h
  simp only [feed] at h
  obtain ⟨h1,h2⟩:=oP h
  have hU:(dQ rr&&outs.all dQ)=true:=by
    have e:D5 ad=dQ:=funext GM
    rw [← e]
    exact h1
  split at h2
  case h_2=>simp at h2
  rename_i sz' n' cs' afT
  split at h2
  case isFalse=>simp at h2
  rename_i ail
  obtain ⟨rfl,UW⟩:=ail
  split at h2
  case h_2=>simp at h2
  rename_i cq aad
  have VR:=aad
  rw [← TZ av jd] at VR
  obtain ⟨hq,h2⟩:=oP h2
  have hn:ad.aZ cs o=n':=by simpa [ad] using hq
  obtain ⟨st',k1,k2,k3⟩:=Su av h2
  have cS:st.cell a [p] o=some (.sl none sz (ad.aZ cs o) (ad.ba cs o)):=by
    unfold St.cell
    rw [eM]
    exact I0 nE
  have adU:aQ.cell a [p] o=some (.hole sz (ad.aZ cs o)):=by
    have cX:o < cs.length:=(List.getElem?_eq_some_iff.1 (I0 nE)).1
    unfold St.cell
    rw [TY av eM jd]
    simp only [List.getElem?_set,cX,if_true]
  have ma:mY st (c.own g) (.ref a [p] o none::rest)=some (.sl none sz (ad.aZ cs o) (ad.ba cs o)::Nw,aQ):=by
    unfold mY
    simp only [nq,jx.1,if_true,DF,jf,cS,jd,trim,Bv av jx.2,vg,hro]
  have afU:fA (c.own g) (.sl none sz (ad.aZ cs o) (ad.ba cs o)::Nw)=false:=by
    simp only [fA,D7 av jx.2,Bool.or_false,jx.1,Bool.true_and,ch,dp,List.all_cons,List.all_nil,Bool.and_true,cf]
    have:cm (ad.ba cs o)=true:=Z1
    rw [this]
    rfl
  have Gy:ir aQ id (c.own g) (.ref a [p] o none::rest) (.sl none sz n' cs'::afT)=some cq:=by
    simp only [ir,jx.1,if_true,CO,pL,id,adU]
    simp only [hn,and_self,if_true,VR]
    exact zZ av jx.2 (by simpa using UW.symm)
  refine ⟨st',?_,k2,fun k' r' hk=>?_⟩
  · unfold kA
    rw [ma]
    simp only [afU,Bool.false_eq_true,if_false,hV,hU,if_true,Gy]
    cases dst with
    | none=>exact k1
    | some i=>exact k1
  · unfold Bt
    simp only [ES av]
    rw [if_neg hg,eM,Ph]
    simp only [jx.1,jx.2,Bool.not_false,Bool.and_self,jd,hro,nE,Z1,br]
    unfold eH
    rw [if_neg hg,hV,Ph]
    simp only
    rw [if_pos Yi,tQ _ _ cQ.1,mC _ _ cQ.2]
    simp only [feed,h1,br]
    rw [if_pos ⟨trivial,UW⟩,aad]
    simp only [hq]
    rw [k3,hk]
theorem abo {st:St} {o:Oper} {k:St→Option R} {r:R} (h:TW ad c sg (eH c P sg) aC st o k=some r):∃ st',fj c (lM c P) xY aC st o=some st'∧k st'=some r∧∀ (k':St→Option R) r',k' st'=some r'→TW ad c sg (eH c P sg) aC st o k'=some r':=by
  have hK:∀ (k:St→Option R),Si ad c (fun _ _=>none) xY aC st o k=some r→∃ st',fj c (lM c P) xY aC st o=some st'∧k st'=some r∧∀ (k':St→Option R) r',k' st'=some r'→Si ad c (fun _ _=>none) xY aC st o k'=some r':=by
    intro k h
    have hh:=h
    unfold Si at h
    split at h
    case h_2=>simp at h
    rename_i hc
    obtain ⟨h1,h2⟩:=oP h
    split at h2
    · rename_i st' hu
      refine ⟨st',adM av (by simp) h1 hu,h2,fun k' r' hk=>?_⟩
      unfold Si
      rw [hc]
      simp only
      rw [h1,hu]
      exact hk
    · simp at h2
  unfold TW at h ⊢
  simp only [abn av] at h ⊢
  split at h
  · rename_i cc ho
    split at h
    · rename_i f m8
      split at h
      · simp at h
      rename_i cV
      split at h
      case h_2=>simp at h
      rename_i g gL hev
      split at h
      · simp at h
      rename_i mi
      have ak:∀ {args:List D} {st':St},((cc.args.toList.zip cc.argTypes.toList).map fun p=>cw c st p.2 p.1)++gL=args→kA c (lM c P) st o.dst g args=some st'→fj c (lM c P) xY aC st o=some st':=by
        intro args st' ha hd
        unfold fj
        simp only [ho,m8]
        rw [if_neg cV]
        simp only [hev,if_neg mi,ha]
        exact hd
      split at h
      · rename_i a p o' rest qv adW
        obtain ⟨st',h1,h2,h3⟩:=VQ av h
        refine ⟨st',ak adW h1,h2,fun k' r' hk=>?_⟩
        rw [if_neg cV]
        simp only [hev,if_neg mi,qv,adW]
        exact h3 k' r' hk
      · rename_i dc
        obtain ⟨st',h1,h2,h3⟩:=Yh av h
        refine ⟨st',ak rfl h1,h2,fun k' r' hk=>?_⟩
        rw [if_neg cV]
        simp only [hev,if_neg mi]
        exact h3 k' r' hk
    · rename_i m8
      obtain ⟨st',h1,h2,h3⟩:=hK k h
      refine ⟨st',h1,h2,fun k' r' hk=>?_⟩
      exact h3 k' r' hk
  · rename_i hnc
    split at h
    · rename_i g st' he
      obtain ⟨hg,h2⟩:=oP h
      split at he
      case isFalse=>simp at he
      refine ⟨st',adQ he hg,h2,fun k' r' hk=>?_⟩
      rw [hg]
      exact hk
    · rename_i he
      obtain ⟨st',h1,h2,h3⟩:=hK k h
      refine ⟨st',h1,h2,fun k' r' hk=>?_⟩
      exact h3 k' r' hk
theorem adX {st:St} {o:Oper} {k:St→Option R} {r:R} (h:GR ad c sg (eH c P sg) aC st o k=some r):∃ st',(if xm c aC st o then fj c (lM c P) xY aC st o else none)=some st'∧k st'=some r∧∀ (k':St→Option R) r',k' st'=some r'→GR ad c sg (eH c P sg) aC st o k'=some r':=by
  unfold GR at h
  split at h
  case h_2=>simp at h
  rename_i hc
  obtain ⟨st',h1,h2,h3⟩:=abo av h
  refine ⟨st',by rw [if_pos hc]; exact h1,h2,fun k' r' hk=>?_⟩
  unfold GR
  rw [hc]
  exact h3 k' r' hk
end
end Go.Proofs.YtockoilcnmljiaaGreat
namespace Go.Proofs.YtockoilcnmljiaaGreat
section
variable {R:Type} {P:Program} {c:cB} (av:ez c P) {sg:Sg} {aC:FuncId}
include av
theorem nr {all:Array Oper} {k:St→Option R} {r:R}:∀ {os:List Oper} {st:St},o0 ad c sg (eH c P sg) aC all os st k=some r→∃ st',vh c (lM c P) xY aC all os st=some st'∧k st'=some r∧∀ (k':St→Option R) r',k' st'=some r'→o0 ad c sg (eH c P sg) aC all os st k'=some r'
  | [],st,h=>⟨st,rfl,h,fun _ _ hk=>hk⟩
  | o::os,st,h=>by
    have run:∀ st,GR ad c sg (eH c P sg) aC st o (fun st'=>o0 ad c sg (eH c P sg) aC all os st' k)=some r→∃ st',(if xm c aC st o then (match fj c (lM c P) xY aC st o with | some st'=>vh c (lM c P) xY aC all os st' | none=>none) else none)=some st'∧k st'=some r∧∀ (k':St→Option R) r',k' st'=some r'→GR ad c sg (eH c P sg) aC st o (fun st'=>o0 ad c sg (eH c P sg) aC all os st' k')=some r':=by
      intro st h
      obtain ⟨aQ,h1,h2,h3⟩:=adX av h
      obtain ⟨cq,k1,k2,k3⟩:=nr h2
      refine ⟨cq,?_,k2,fun k' r' hk=>h3 _ _ (k3 k' r' hk)⟩
      split at h1
      case isFalse=>simp at h1
      rename_i hc
      rw [if_pos hc,h1]
      exact k1
    simp only [o0] at h ⊢
    simp only [vh,yP]
    split at h
    · rename_i hg
      rw [hg]
      exact run st h
    · rename_i j want hg
      rw [hg]
      simp only
      split at h
      · rename_i t ht
        rw [ht]
        simp only
        split at h
        · rename_i b hb
          rw [hb]
          simp only
          cases want with
          | true=>
            simp only at h
            rcases od h with ⟨rfl,h1⟩ | ⟨rfl,h1⟩
            · rw [px hb] at h1
              obtain ⟨aQ,k1,k2,k3⟩:=run st h1
              refine ⟨aQ,by simp only [beq_self_eq_true]; exact k1,k2,fun k' r' hk=>?_⟩
              simp only [br]
              rw [px hb]
              exact k3 k' r' hk
            · rw [px hb] at h1
              obtain ⟨aQ,k1,k2,k3⟩:=nr h1
              refine ⟨aQ,by simpa using k1,k2,fun k' r' hk=>?_⟩
              simp only [br]
              rw [px hb]
              exact k3 k' r' hk
          | false=>
            simp only at h
            rcases od h with ⟨rfl,h1⟩ | ⟨rfl,h1⟩
            · rw [px hb] at h1
              obtain ⟨aQ,k1,k2,k3⟩:=nr h1
              refine ⟨aQ,by simpa using k1,k2,fun k' r' hk=>?_⟩
              simp only [br]
              rw [px hb]
              exact k3 k' r' hk
            · rw [px hb] at h1
              obtain ⟨aQ,k1,k2,k3⟩:=run st h1
              refine ⟨aQ,by simp only [beq_self_eq_true]; exact k1,k2,fun k' r' hk=>?_⟩
              simp only [br]
              rw [px hb]
              exact k3 k' r' hk
        · rename_i hb
          rw [hb]
          exact nr h
        · simp at h
      · rename_i ht
        rw [ht]
        exact nr h
theorem K7 {all:Array Oper} {os:List Oper} {st:St} {k k':St→Option R} {r:R} (hk:∀ st r,k st=some r→k' st=some r) (h:o0 ad c sg (eH c P sg) aC all os st k=some r):o0 ad c sg (eH c P sg) aC all os st k'=some r:=by
  obtain ⟨st',_,h2,h3⟩:=nr av h
  exact h3 k' r (hk _ _ h2)
theorem ET {J J':Nat→St→Option R} (hJ:∀ j h r,J j h=some r→J' j h=some r) {i:Nat} {st:St} {r:R} (h:jmp c J aC i st=some r):jmp c J' aC i st=some r:=by
  have _:=av
  unfold jmp at h ⊢
  split at h
  · exact hJ _ _ _ h
  · simp at h
omit av in
theorem tR {f f':St→Option R} {k k':Exit→St→Option R} (hf:∀ st r,f st=some r→f' st=some r) (hk:∀ x st r,k x st=some r→k' x st=some r):∀ x st r,rh f k x st=some r→rh f' k' x st=some r:=by
  intro x st r h
  cases x with
  | normal=>exact hf _ _ h
  | _=>exact hk _ _ _ h
omit av in
theorem Bw {id:Nat} {k k':Exit→St→Option R} (hk:∀ x st r,k x st=some r→k' x st=some r):∀ x st r,vP id k x st=some r→vP id k' x st=some r:=by
  intro x st r h
  cases x with
  | exit vi=>
    simp only [vP] at h ⊢
    split at h
    · rename_i e; rw [if_pos e]; exact hk _ _ _ h
    · rename_i e; rw [if_neg e]; exact hk _ _ _ h
  | _=>exact hk _ _ _ h
theorem zu {J J':Nat→St→Option R} (hJ:∀ j h r,J j h=some r→J' j h=some r):∀ {code:Code} {i:Nat} {st:St} {k k':Exit→St→Option R} {r:R},(∀ x st r,k x st=some r→k' x st=some r)→dK ad c sg (eH c P sg) J aC code i st k=some r→dK ad c sg (eH c P sg) J' aC code i st k'=some r:=by
  intro code
  induction code with
  | skip=>intro i st k k' r hk h; exact hk _ _ _ h
  | exit id=>intro i st k k' r hk h; exact hk _ _ _ h
  | ret=>intro i st k k' r hk h; exact hk _ _ _ h
  | region id ops draw=>
    intro i st k k' r hk h
    cases draw with
    | false=>
      simp only [dK] at h ⊢
      exact K7 av (hk _) h
    | true=>
      simp only [dK] at h ⊢
      split at h
      · exact K7 av (hk _) h
      · simp at h
  | seq a b eO kL=>
    intro i st k k' r hk h
    simp only [dK] at h ⊢
    exact eO (tR (fun st r hx=>kL hk hx) hk) h
  | cond v a b eO kL=>
    intro i st k k' r hk h
    simp only [dK,Nt] at h ⊢
    split at h
    · split at h
      · rcases od h with ⟨rfl,h1⟩ | ⟨rfl,h1⟩
        · exact eO hk h1
        · exact kL hk h1
      · simp at h
    · split at h
      · rcases od h with ⟨rfl,h1⟩ | ⟨rfl,h1⟩
        · exact eO hk h1
        · exact kL hk h1
      · simp at h
  | block id a eO=>
    intro i st k k' r hk h
    simp only [dK] at h ⊢
    exact eO (Bw hk) h
  | loop a eO=>intro i st k k' r hk h; exact ET av hJ h
  | _=>intro i st k k' r hk h; simp [dK] at h
end
section
variable {R:Type} {pr:dA} {c:cB} {sg:Sg} {cv:Cv R} {J:Nat→St→Option R} {aC:FuncId}
theorem tS:∀ {code:Code} {i:Nat} {k:Exit→St→Option R} {j:Nat} {t:St→Option R},dB pr c sg cv J aC code i k j=some t→j∈lN code i:=by
  intro code
  induction code with
  | seq a b eO kL=>
    intro i k j t h
    simp only [dB] at h
    rw [lN,List.mem_append]
    split at h
    · rename_i t' ht
      exact .inl (eO ht)
    · exact .inr (kL h)
  | cond v a b eO kL=>
    intro i k j t h
    simp only [dB] at h
    rw [lN,List.mem_append]
    split at h
    · rename_i t' ht
      exact .inl (eO ht)
    · exact .inr (kL h)
  | block id a eO=>intro i k j t h; simp only [dB] at h; rw [lN]; exact eO h
  | loop a eO=>
    intro i k j t h
    simp only [dB] at h
    rw [lN,List.mem_cons]
    split at h
    · rename_i hij; exact .inl hij.symm
    · exact .inr (eO h)
  | _=>intro i k j t h; simp [dB] at h
end
section
variable {R:Type} {pr:dA} {c:cB} {sg:Sg} {cv:Cv R} {J J':Nat→St→Option R} {aC:FuncId}
theorem uQ:∀ {code:Code} {i:Nat} {k k':Exit→St→Option R} {j:Nat},dB pr c sg cv J aC code i k j=none→dB pr c sg cv J' aC code i k' j=none:=by
  intro code
  induction code with
  | seq a b eO kL=>
    intro i k k' j h
    simp only [dB] at h ⊢
    split at h
    · simp at h
    · rename_i h1
      rw [eO h1]
      exact kL h
  | cond v a b eO kL=>
    intro i k k' j h
    simp only [dB] at h ⊢
    split at h
    · simp at h
    · rename_i h1
      rw [eO h1]
      exact kL h
  | block id a eO=>intro i k k' j h; simp only [dB] at h ⊢; exact eO h
  | loop a eO=>
    intro i k k' j h
    simp only [dB] at h ⊢
    split at h
    · simp at h
    · rename_i e
      rw [if_neg e]
      exact eO h
  | _=>intro i k k' j h; rfl
end
section
variable {P:Program} {c:cB} (av:ez c P) {sg:Sg} {f:FuncId} {fn:Func} {sk:List D} {body:Code} (td:fn.body=some body)
include av
theorem T0 {J J':Nat→St→Option Rz} (hJ:∀ j h r,J j h=some r→J' j h=some r):∀ {code:Code} {i:Nat} {k k':Exit→St→Option Rz} {j:Nat} {t:St→Option Rz},(∀ x st r,k x st=some r→k' x st=some r)→dB ad c sg (eH c P sg) J f code i k j=some t→∃ t',dB ad c sg (eH c P sg) J' f code i k' j=some t'∧∀ h r,t h=some r→t' h=some r:=by
  intro code
  induction code with
  | seq a b eO kL=>
    intro i k k' j t hk h
    simp only [dB] at h ⊢
    have Pk:=tR (f:=fun st'=>dK ad c sg (eH c P sg) J f b i st' k) (f':=fun st'=>dK ad c sg (eH c P sg) J' f b i st' k') (fun st r hx=>zu av hJ hk hx) hk
    split at h
    · rename_i t1 h1
      obtain ⟨t',h2,h3⟩:=eO Pk h1
      rw [h2]
      simp only [Option.some.injEq] at h
      subst h
      exact ⟨t',rfl,h3⟩
    · rename_i h1
      rw [uQ h1]
      exact kL hk h
  | cond v a b eO kL=>
    intro i k k' j t hk h
    simp only [dB] at h ⊢
    split at h
    · rename_i t1 h1
      obtain ⟨t',h2,h3⟩:=eO hk h1
      rw [h2]
      simp only [Option.some.injEq] at h
      subst h
      exact ⟨t',rfl,h3⟩
    · rename_i h1
      rw [uQ h1]
      exact kL hk h
  | block id a eO=>
    intro i k k' j t hk h
    simp only [dB] at h ⊢
    exact eO (Bw hk) h
  | loop a eO=>
    intro i k k' j t hk h
    simp only [dB] at h ⊢
    have Pk:=tR (f:=jmp c J f i) (f':=jmp c J' f i) (fun st r hx=>ET av hJ hx) hk
    split at h
    · rename_i e
      simp only [Option.some.injEq] at h
      subst h
      rw [if_pos e]
      exact ⟨_,rfl,fun hh r hr=>zu av hJ Pk hr⟩
    · rename_i e
      rw [if_neg e]
      exact eO Pk h
  | _=>intro i k k' j t hk h; simp [dB] at h
theorem Dd:∀ {n m:Nat},n≤m→∀ j h r,Jn c P sg f fn sk n j h=some r→Jn c P sg f fn sk m j h=some r
  | 0,_,_,j,h,r,hh=>by simp [Jn] at hh
  | n+1,0,hle,_,_,_,_=>absurd hle (by omega)
  | n+1,m+1,hle,j,h,r,hh=>by
    have ih:∀ j h r,Jn c P sg f fn sk n j h=some r→Jn c P sg f fn sk m j h=some r:=Dd (by omega)
    simp only [Jn,uP] at hh ⊢
    split at hh
    case h_2=>simp at hh
    rename_i body hb
    split at hh
    case h_2=>simp at hh
    rename_i t ht
    obtain ⟨t',h1,h2⟩:=T0 av ih (fun _ _ _ h=>h) ht
    rw [h1]
    exact h2 _ _ hh
include td
theorem Yk:∀ {code:Code} {n i:Nat} {st:St} {k:(Nat→St→Option Rz)→Exit→St→Option Rz} {r:Rz},
    (∀ J J':Nat→St→Option Rz,(∀ j h r,J j h=some r→J' j h=some r)→∀ x st r,k J x st=some r→k J' x st=some r)→
    (lN code i).Nodup→
    (∀ m j t,dB ad c sg (eH c P sg) (Jn c P sg f fn sk m) f code i (k (Jn c P sg f fn sk m)) j=some t→dB ad c sg (eH c P sg) (Jn c P sg f fn sk m) f body 0 (EP c f fn sk) j=some t)→
    dK ad c sg (eH c P sg) (Jn c P sg f fn sk n) f code i st (k (Jn c P sg f fn sk n))=some r→∃ x st',TP c P f code i st (x,st')∧k (Jn c P sg f fn sk n) x st'=some r:=by
  intro code
  have tr:∀ {ops:Array Oper} {l:List Nat} {st st':St},iu c (lM c P) xY f ops l st=some st'→Ev fun k=>iu c (nR c P k).1 (nR c P k).2 f ops l st=some st':=
    fun h=>C8 (fun f ds r hh=>Yg hh) (fun f ds n st r hh=>by simp [xY] at hh) h
  induction code with
  | skip=>intro n i st k r _ _ _ h; exact ⟨_,_,Ev.of fun _=>rfl,h⟩
  | exit id=>intro n i st k r _ _ _ h; exact ⟨_,_,Ev.of fun _=>rfl,h⟩
  | ret=>intro n i st k r _ _ _ h; exact ⟨_,_,Ev.of fun _=>rfl,h⟩
  | region id ops draw=>
    intro n i st k r _ _ _ h
    cases draw with
    | false=>
      simp only [dK] at h
      obtain ⟨st',h1,h2,_⟩:=nr av h
      rw [zi] at h1
      refine ⟨.normal,st',(tr h1).mono fun n hn=>?_,h2⟩
      simp only [eV,zi,hn]
    | true=>
      simp only [dK] at h
      split at h
      case h_2=>simp at h
      rename_i l hl
      obtain ⟨st',h1,h2,_⟩:=nr av h
      rw [C7] at h1
      refine ⟨.normal,st',(tr h1).mono fun n hn=>?_,h2⟩
      simp only [eV,hl,hn]
  | seq a b eO kL=>
    intro n i st k r hk hn hc h
    simp only [dK] at h
    rw [lN,List.nodup_append] at hn
    obtain ⟨x,aQ,h1,h2⟩:=eO (k:=fun J=>rh (fun st'=>dK ad c sg (eH c P sg) J f b i st' (k J)) (k J)) (fun J J' hJ=>tR (fun st r hx=>zu av hJ (hk J J' hJ) hx) (hk J J' hJ)) hn.1 (fun m j t ht=>hc m j t (by simp only [dB]; rw [ht])) h
    cases x with
    | normal=>
      simp only [rh] at h2
      obtain ⟨y,cq,h3,h4⟩:=kL hk hn.2.1 (fun m j t ht=>hc m j t (by
        simp only [dB]
        split
        · rename_i t' pk
          exact absurd rfl (hn.2.2 j (tS pk) j (tS ht))
        · exact ht)) h2
      exact ⟨y,cq,(Ev.and h1 h3).mono fun n hn=>by simp only [eV]; rw [hn.1]; exact hn.2,h4⟩
    | _=>exact ⟨_,aQ,Ev.mono h1 fun n hn=>by simp only [eV]; rw [hn],h2⟩
  | cond v a b eO kL=>
    intro n i st k r hk hn hc h
    simp only [dK,Nt] at h
    rw [lN,List.nodup_append] at hn
    have fin:∀ {t:Bool},cw c st 0 v=.bool t→(t=true→dK ad c sg (eH c P sg) (Jn c P sg f fn sk n) f a i st (k (Jn c P sg f fn sk n))=some r)→(t=false→dK ad c sg (eH c P sg) (Jn c P sg f fn sk n) f b i st (k (Jn c P sg f fn sk n))=some r)→∃ x st',TP c P f (.cond v a b) i st (x,st')∧k (Jn c P sg f fn sk n) x st'=some r:=by
      intro t ht h1 h2
      cases t with
      | true=>
        obtain ⟨x,st',h3,h4⟩:=eO hk hn.1 (fun m j t ht=>hc m j t (by simp only [dB]; rw [ht])) (h1 rfl)
        exact ⟨x,st',Ev.mono h3 fun n hn=>by simp only [eV,ht,if_true]; exact hn,h4⟩
      | false=>
        obtain ⟨x,st',h3,h4⟩:=kL hk hn.2.1 (fun m j t ht=>hc m j t (by
          simp only [dB]
          split
          · rename_i t' pk
            exact absurd rfl (hn.2.2 j (tS pk) j (tS ht))
          · exact ht)) (h2 rfl)
        exact ⟨x,st',Ev.mono h3 fun n hn=>by simp only [eV,ht,Bool.false_eq_true,if_false]; exact hn,h4⟩
    split at h
    · rename_i t
      split at h
      · rename_i b' hb
        refine fin (t:=b') hb (fun e=>?_) (fun e=>?_)
        · subst e
          rcases od h with ⟨_,h1⟩ | ⟨e2,_⟩
          · rw [px hb] at h1; exact h1
          · simp at e2
        · subst e
          rcases od h with ⟨e2,_⟩ | ⟨_,h1⟩
          · simp at e2
          · rw [px hb] at h1; exact h1
      · simp at h
    · split at h
      · rename_i hv
        refine fin hv (fun e=>?_) (fun e=>?_)
        · subst e; exact h
        · subst e; exact h
      · simp at h
  | block id a eO=>
    intro n i st k r hk hn hc h
    simp only [dK] at h
    obtain ⟨x,aQ,h1,h2⟩:=eO (k:=fun J=>vP id (k J)) (fun J J' hJ=>Bw (hk J J' hJ)) hn (fun m j t ht=>hc m j t (by simp only [dB]; exact ht)) h
    cases x with
    | exit vi=>
      simp only [vP] at h2
      by_cases he:vi=id
      · rw [if_pos he] at h2
        exact ⟨.normal,aQ,Ev.mono h1 fun n hn=>by simp only [eV]; rw [hn]; simp [he],h2⟩
      · rw [if_neg he] at h2
        exact ⟨.exit vi,aQ,Ev.mono h1 fun n hn=>by simp only [eV]; rw [hn]; simp [he],h2⟩
    | _=>exact ⟨_,aQ,Ev.mono h1 fun n hn=>by simp only [eV]; rw [hn],h2⟩
  | loop a eO=>
    intro n i st k r hk hn hc h
    rw [lN,List.nodup_cons] at hn
    have key:∀ (n:Nat) (st:St),jmp c (Jn c P sg f fn sk n) f i st=some r→∃ x st',TQ c P f a i st (x,st')∧k (Jn c P sg f fn sk n) x st'=some r:=by
      intro n
      induction n with
      | zero=>
        intro st h
        unfold jmp at h
        split at h
        · simp [Jn] at h
        · simp at h
      | succ m ih=>
        intro st h
        unfold jmp at h
        split at h
        case h_2=>simp at h
        rename_i hd Gt
        simp only [Jn,uP] at h
        rw [td] at h
        simp only at h
        have ht:=hc m i _ (by simp only [dB,if_true]; rfl)
        rw [ht] at h
        simp only at h
        obtain ⟨x,aQ,h1,h2⟩:=eO (k:=fun J=>rh (jmp c J f i) (k J)) (fun J J' hJ=>tR (fun st r hx=>ET av hJ hx) (hk J J' hJ)) hn.2 (fun m j t ht=>hc m j t (by
              simp only [dB]
              have dc:i≠j:=fun e=>hn.1 (by rw [e]; rw [e] at ht; exact tS ht)
              rw [if_neg dc]
              exact ht)) h
        cases x with
        | normal=>
          obtain ⟨y,cq,⟨q,h3⟩,h4⟩:=ih aQ h2
          refine ⟨y,cq,⟨q+1,(Ev.and h1 h3).mono fun k hk m hm=>?_⟩,hk _ _ (Dd av (Nat.le_succ m)) _ _ _ h4⟩
          obtain ⟨m,rfl⟩:∃ m',m=m'+1:=⟨m - 1,by omega⟩
          simp only [uJ,Gt,hk.1]
          exact hk.2 m (by omega)
        | _=>
          refine ⟨_,aQ,⟨1,Ev.mono h1 fun k hk m hm=>?_⟩,hk _ _ (Dd av (Nat.le_succ m)) _ _ _ h2⟩
          obtain ⟨m,rfl⟩:∃ m',m=m'+1:=⟨m - 1,by omega⟩
          simp only [uJ,Gt,hk]
    simp only [dK] at h
    obtain ⟨x,st',h1,h2⟩:=key n st h
    exact ⟨x,st',h1.code,h2⟩
  | _=>intro n i st k r _ _ _ h; simp [dK] at h
end
structure Told (c:cB) (P:Program) (f:FuncId) (fn:Func):Prop where
  ext:c.ext f=none
  func:P.funcs[f]?=some fn
  ids:(match fn.body with | some b=>decide (lN b 0).Nodup | none=>false)=true
section
variable {P:Program} {c:cB} (av:ez c P) {sg:Sg} {f:FuncId} {fn:Func} {sk:List D}
include av
theorem W.go {j j':Nat} {h h':St} {r:Rz} (hw:W c P sg f fn sk j' h' r) (ht:∀ J:Nat→St→Option Rz,J j' h'=some r→uP ad c sg (eH c P sg) J f fn sk j h=some r):W c P sg f fn sk j h r:=by
  have _:=av
  obtain ⟨n,hn⟩:=hw
  exact ⟨n+1,ht _ hn⟩
theorem W.fin {j:Nat} {h:St} {r:Rz} (ht:∀ J:Nat→St→Option Rz,uP ad c sg (eH c P sg) J f fn sk j h=some r):W c P sg f fn sk j h r:=by
  have _:=av
  exact ⟨1,ht _⟩
theorem Bx (ok:Told c P f fn) {args:List D} {r:Rz} {n:Nat} (h:Bu ad c sg (eH c P sg) (Jn c P sg f fn (args.map ri) n) f fn args=some r):Comes c P f args r:=by
  unfold Bu at h
  split at h
  case h_2=>simp at h
  rename_i body hb
  have adY:=ok.ids
  rw [hb] at adY
  obtain ⟨x,st,h1,h2⟩:=Yk av hb (k:=fun _=>EP c f fn (args.map ri)) (fun J J' _ x st r h=>h) (of_decide_eq_true adY) (fun m j t ht=>ht) h
  obtain ⟨k0,h1⟩:=h1
  refine ⟨k0+1,fun k hk=>?_⟩
  obtain ⟨k,rfl⟩:∃ m,k=m+1:=⟨k - 1,by omega⟩
  unfold EP at h2
  obtain ⟨r',h2,h5⟩:∃ r',EL c fn (args.map ri) x st=some r'∧UB (c.gone f) (some r')=some r:=by
    cases hf:EL c fn (args.map ri) x st with
    | none=>rw [hf] at h2; simp [UB] at h2
    | some r'=>rw [hf] at h2; exact ⟨r',rfl,h2⟩
  show yR c P (nR c P k).1 (nR c P k).2 k f args=some r
  unfold yR
  rw [ok.ext]
  simp only
  rw [← h5]
  congr 1
  unfold Nj
  rw [ok.ext,ok.func]
  simp only
  rw [hb]
  simp only
  rw [h1 k (by omega)]
  simp only
  rw [abm] at h2
  unfold EL at h2
  obtain ⟨h3,h4⟩:=VK h2
  rw [if_pos h3]
  exact h4
theorem Comes.go (ok:Told c P f fn) {args:List D} {j:Nat} {h:St} {r:Rz} (hw:W c P sg f fn (args.map ri) j h r) (ht:∀ J:Nat→St→Option Rz,J j h=some r→Bu ad c sg (eH c P sg) J f fn args=some r):Comes c P f args r:=by
  obtain ⟨n,hn⟩:=hw
  exact Bx av ok (ht _ hn)
theorem Comes.fin (ok:Told c P f fn) {args:List D} {r:Rz} (ht:∀ J:Nat→St→Option Rz,Bu ad c sg (eH c P sg) J f fn args=some r):Comes c P f args r:=
  Bx av ok (sg:=sg) (n:=0) (ht _)
end
end Go.Proofs.YtockoilcnmljiaaGreat
namespace Go.Proofs.YtockoilcnmljiaaGreat
section
variable {P:Program} {c:cB} (av:ez c P) {sg:Sg} {f:FuncId} {r:Rz} {J:Nat→St→Option Rz} {J':Nat→Nat→St→Option Rz} (hJ:∀ j h,J j h=some r→Ev fun m=>J' m j h=some r)
include av hJ
theorem zw:∀ {code:Code} {i:Nat} {st:St} {k:Exit→St→Option Rz} {k':Nat→Exit→St→Option Rz},(∀ x st,k x st=some r→Ev fun m=>k' m x st=some r)→dK ad c sg (eH c P sg) J f code i st k=some r→Ev fun m=>dK ad c sg (eH c P sg) (J' m) f code i st (k' m)=some r:=by
  intro code
  induction code with
  | skip=>intro i st k k' hk h; exact hk _ _ h
  | exit id=>intro i st k k' hk h; exact hk _ _ h
  | ret=>intro i st k k' hk h; exact hk _ _ h
  | region id ops draw=>
    intro i st k k' hk h
    cases draw with
    | false=>
      simp only [dK] at h ⊢
      obtain ⟨st',_,h2,h3⟩:=nr av h
      exact (hk _ _ h2).mono fun m hm=>h3 _ _ hm
    | true=>
      simp only [dK] at h ⊢
      split at h
      · obtain ⟨st',_,h2,h3⟩:=nr av h
        exact (hk _ _ h2).mono fun m hm=>h3 _ _ hm
      · simp at h
  | seq a b eO kL=>
    intro i st k k' hk h
    simp only [dK] at h ⊢
    refine eO (k':=fun m=>rh (fun st'=>dK ad c sg (eH c P sg) (J' m) f b i st' (k' m)) (k' m)) (fun x st hx=>?_) h
    cases x with
    | normal=>exact kL hk hx
    | _=>exact hk _ _ hx
  | cond v a b eO kL=>
    intro i st k k' hk h
    simp only [dK,Nt] at h ⊢
    split at h
    · split at h
      · rename_i hv
        rcases od h with ⟨rfl,h1⟩ | ⟨rfl,h1⟩
        · exact eO hk h1
        · exact kL hk h1
      · simp at h
    · split at h
      · rcases od h with ⟨rfl,h1⟩ | ⟨rfl,h1⟩
        · exact eO hk h1
        · exact kL hk h1
      · simp at h
  | block id a eO=>
    intro i st k k' hk h
    simp only [dK] at h ⊢
    refine eO (k':=fun m=>vP id (k' m)) (fun x st hx=>?_) h
    cases x with
    | exit vi=>
      simp only [vP] at hx ⊢
      split at hx
      · rename_i e; simp only [e,if_true]; exact hk _ _ hx
      · rename_i e; simp only [if_neg e]; exact hk _ _ hx
    | _=>exact hk _ _ hx
  | loop a eO=>
    intro i st k k' hk h
    simp only [dK,jmp] at h ⊢
    split at h
    · exact hJ _ _ h
    · simp at h
  | _=>intro i st k k' hk h; simp [dK] at h
theorem T2:∀ {code:Code} {i:Nat} {k:Exit→St→Option Rz} {k':Nat→Exit→St→Option Rz} {j:Nat} {t:St→Option Rz} {h:St},(∀ x st,k x st=some r→Ev fun m=>k' m x st=some r)→dB ad c sg (eH c P sg) J f code i k j=some t→t h=some r→Ev fun m=>∃ t',dB ad c sg (eH c P sg) (J' m) f code i (k' m) j=some t'∧t' h=some r:=by
  intro code
  induction code with
  | seq a b eO kL=>
    intro i k k' j t h hk ht hr
    simp only [dB] at ht ⊢
    split at ht
    · rename_i t1 h1
      simp only [Option.some.injEq] at ht
      subst ht
      refine (eO (k':=fun m=>rh (fun st'=>dK ad c sg (eH c P sg) (J' m) f b i st' (k' m)) (k' m)) (fun x st hx=>?_) h1 hr).mono fun m hm=>?_
      · cases x with
        | normal=>exact zw av hJ hk hx
        | _=>exact hk _ _ hx
      · obtain ⟨t',h2,h3⟩:=hm
        exact ⟨t',by rw [h2],h3⟩
    · rename_i h1
      refine (kL hk ht hr).mono fun m hm=>?_
      rw [uQ h1]
      exact hm
  | cond v a b eO kL=>
    intro i k k' j t h hk ht hr
    simp only [dB] at ht ⊢
    split at ht
    · rename_i t1 h1
      simp only [Option.some.injEq] at ht
      subst ht
      refine (eO hk h1 hr).mono fun m hm=>?_
      obtain ⟨t',h2,h3⟩:=hm
      exact ⟨t',by rw [h2],h3⟩
    · rename_i h1
      refine (kL hk ht hr).mono fun m hm=>?_
      rw [uQ h1]
      exact hm
  | block id a eO=>
    intro i k k' j t h hk ht hr
    simp only [dB] at ht ⊢
    refine eO (k':=fun m=>vP id (k' m)) (fun x st hx=>?_) ht hr
    cases x with
    | exit vi=>
      simp only [vP] at hx ⊢
      split at hx
      · rename_i e; simp only [e,if_true]; exact hk _ _ hx
      · rename_i e; simp only [if_neg e]; exact hk _ _ hx
    | _=>exact hk _ _ hx
  | loop a eO=>
    intro i k k' j t h hk ht hr
    simp only [dB] at ht ⊢
    have Pk:∀ x st,rh (jmp c J f i) k x st=some r→Ev fun m=>rh (jmp c (J' m) f i) (k' m) x st=some r:=by
      intro x st hx
      cases x with
      | normal=>
        simp only [rh,jmp] at hx ⊢
        split at hx
        · exact hJ _ _ hx
        · simp at hx
      | _=>exact hk _ _ hx
    split at ht
    · rename_i e
      simp only [Option.some.injEq] at ht
      subst ht
      refine (zw av hJ Pk hr).mono fun m hm=>?_
      rw [if_pos e]
      exact ⟨_,rfl,hm⟩
    · rename_i e
      simp only [if_neg e]
      exact eO Pk ht hr
  | _=>intro i k k' j t h hk ht hr; simp [dB] at ht
end
section
variable {P:Program} {c:cB} (av:ez c P) {sg:Sg} {f:FuncId} {fn:Func} {sk:List D} {r:Rz}
include av
theorem W.ev {j:Nat} {h:St} (hw:W c P sg f fn sk j h r):Ev fun m=>Jn c P sg f fn sk m j h=some r:=by
  obtain ⟨n,hn⟩:=hw
  exact ⟨n,fun m hm=>Dd av hm _ _ _ hn⟩
theorem W.step {j:Nat} {h:St} (ht:∀ J:Nat→St→Option Rz,(∀ j' h',W c P sg f fn sk j' h' r→J j' h'=some r)→uP ad c sg (eH c P sg) J f fn sk j h=some r):W c P sg f fn sk j h r:=by
  classical
  have h1:=ht (fun j' h'=>if W c P sg f fn sk j' h' r then some r else none) (fun j' h' hw=>if_pos hw)
  unfold uP at h1
  split at h1
  case h_2=>simp at h1
  rename_i body hb
  split at h1
  case h_2=>simp at h1
  rename_i t ht
  obtain ⟨n,hn⟩:=T2 av (J':=Jn c P sg f fn sk) (k':=fun _=>EP c f fn sk) (fun j' h' hh=>by
    split at hh
    · rename_i hw; exact hw.ev av
    · simp at hh) (fun x st hx=>⟨0,fun _ _=>hx⟩) ht h1
  obtain ⟨t',h2,h3⟩:=hn n (Nat.le_refl _)
  refine ⟨n+1,?_⟩
  simp only [Jn,uP]
  rw [hb]
  simp only
  rw [h2]
  exact h3
theorem Comes.step (ok:Told c P f fn) {args:List D} (ht:∀ J:Nat→St→Option Rz,(∀ j' h',W c P sg f fn (args.map ri) j' h' r→J j' h'=some r)→Bu ad c sg (eH c P sg) J f fn args=some r):Comes c P f args r:=by
  classical
  have h1:=ht (fun j' h'=>if W c P sg f fn (args.map ri) j' h' r then some r else none) (fun j' h' hw=>if_pos hw)
  unfold Bu at h1
  split at h1
  case h_2=>simp at h1
  rename_i body hb
  obtain ⟨n,hn⟩:=zw av (J':=Jn c P sg f fn (args.map ri)) (k':=fun _=>EP c f fn (args.map ri)) (fun j' h' hh=>by
    split at hh
    · rename_i hw; exact hw.ev av
    · simp at hh) (fun x st hx=>⟨0,fun _ _=>hx⟩) h1
  refine Bx av ok (sg:=sg) (n:=n) ?_
  unfold Bu
  rw [hb]
  exact hn n (Nat.le_refl _)
end
end Go.Proofs.YtockoilcnmljiaaGreat
namespace Go.Proofs.YtockoilcnmljiaaGreat
open Go.Shelf
def aae:List (Nat × TI):=[
  (2,⟨.int .i64,1,8,[.int .i64 0]⟩),
  (3,⟨.int .i64,1,8,[.int .i64 0]⟩),
  (4,⟨.bool,1,1,[.bool false]⟩),
  (5,⟨.int .u8,1,1,[.int .u8 0]⟩),
  (6,⟨.int .u8,1,1,[.int .u8 0]⟩),
  (7,⟨.struct [0,1,2,3] [1,1,1,1],4,24,[.int .i64 0,.int .i64 0,.bool false,.int .u8 0]⟩),
  (8,⟨.struct [0,1,2,3] [1,1,1,1],4,24,[.int .i64 0,.int .i64 0,.bool false,.int .u8 0]⟩),
  (9,⟨.str,1,16,[.str ⟨#[]⟩]⟩),
  (10,⟨.str,1,16,[.str ⟨#[]⟩]⟩),
  (11,⟨.str,1,16,[.str ⟨#[]⟩]⟩),
  (12,⟨.int .u64,1,8,[.int .u64 0]⟩),
  (13,⟨.struct [0,1] [1,1],2,24,[.str ⟨#[]⟩,.int .u64 0]⟩),
  (14,⟨.struct [0,1] [1,1],2,24,[.str ⟨#[]⟩,.int .u64 0]⟩),
  (15,⟨.ptr 156,1,8,[.undef]⟩),
  (16,⟨.ptr 159,1,8,[.undef]⟩),
  (17,⟨.ptr 168,1,8,[.undef]⟩),
  (18,⟨.struct [0] [1],1,8,[.undef]⟩),
  (19,⟨.struct [0] [1],1,8,[.undef]⟩),
  (21,⟨.int .i32,1,4,[.int .i32 0]⟩),
  (22,⟨.slice 3,1,24,[.nil 1]⟩),
  (23,⟨.slice 22,1,24,[.nil 1]⟩),
  (24,⟨.struct [0,1,2,3,4,5] [1,1,1,1,1,1],6,64,[.nil 1,.nil 1,.bool false,.bool false,.bool false,.int .i64 0]⟩),
  (25,⟨.struct [0,1,2,3,4,5] [1,1,1,1,1,1],6,64,[.nil 1,.nil 1,.bool false,.bool false,.bool false,.int .i64 0]⟩),
  (26,⟨.slice 5,1,24,[.nil 1]⟩),
  (27,⟨.struct [0,1] [1,1],2,48,[.nil 1,.nil 1]⟩),
  (28,⟨.struct [0,1] [1,1],2,48,[.nil 1,.nil 1]⟩),
  (29,⟨.slice 4,1,24,[.nil 1]⟩),
  (30,⟨.struct [0,1,2,3,4,10,12,13,14,15] [1,1,1,1,6,2,1,1,1,1],16,248,[.int .i64 0,.bool false,.bool false,.nil 1,.nil 1,.nil 1,.bool false,.bool false,.bool false,.int .i64 0,.nil 1,.nil 1,.nil 1,.nil 1,.nil 1,.nil 1]⟩),
  (31,⟨.struct [0,1,2,3,4,10,12,13,14,15] [1,1,1,1,6,2,1,1,1,1],16,248,[.int .i64 0,.bool false,.bool false,.nil 1,.nil 1,.nil 1,.bool false,.bool false,.bool false,.int .i64 0,.nil 1,.nil 1,.nil 1,.nil 1,.nil 1,.nil 1]⟩),
  (33,⟨.struct [0,1,2,3,4,5] [1,1,1,1,1,1],6,64,[.nil 1,.nil 1,.bool false,.bool false,.bool false,.int .i64 0]⟩),
  (34,⟨.struct [0,1] [1,1],2,48,[.nil 1,.nil 1]⟩),
  (35,⟨.struct [0,1,2,3,4,10,12,13,14,15] [1,1,1,1,6,2,1,1,1,1],16,248,[.int .i64 0,.bool false,.bool false,.nil 1,.nil 1,.nil 1,.bool false,.bool false,.bool false,.int .i64 0,.nil 1,.nil 1,.nil 1,.nil 1,.nil 1,.nil 1]⟩),
  (36,⟨.struct [0,1,2,3,4,10,12,13,14,15] [1,1,1,1,6,2,1,1,1,1],16,248,[.int .i64 0,.bool false,.bool false,.nil 1,.nil 1,.nil 1,.bool false,.bool false,.bool false,.int .i64 0,.nil 1,.nil 1,.nil 1,.nil 1,.nil 1,.nil 1]⟩),
  (45,⟨.slice 31,1,24,[.nil 16]⟩),
  (46,⟨.slice 116,1,24,[.nil 3]⟩),
  (47,⟨.slice 119,1,24,[.nil 2]⟩),
  (48,⟨.struct [0,1,2,3,4] [1,1,1,1,1],5,104,[.nil 16,.nil 3,.nil 2,.nil 1,.int .i64 0]⟩),
  (49,⟨.struct [0,1,2,3,4] [1,1,1,1,1],5,104,[.nil 16,.nil 3,.nil 2,.nil 1,.int .i64 0]⟩),
  (52,⟨.slice 36,1,24,[.nil 16]⟩),
  (53,⟨.slice 93,1,24,[.nil 3]⟩),
  (54,⟨.slice 88,1,24,[.nil 2]⟩),
  (55,⟨.struct [0,1,2,3,4] [1,1,1,1,1],5,104,[.nil 16,.nil 3,.nil 2,.nil 1,.int .i64 0]⟩),
  (56,⟨.struct [0,1,2,3,4] [1,1,1,1,1],5,104,[.nil 16,.nil 3,.nil 2,.nil 1,.int .i64 0]⟩),
  (87,⟨.struct [0,1] [1,1],2,16,[.int .i64 0,.int .i64 0]⟩),
  (88,⟨.struct [0,1] [1,1],2,16,[.int .i64 0,.int .i64 0]⟩),
  (92,⟨.struct [0,1,2] [1,1,1],3,40,[.int .i64 0,.int .i64 0,.nil 1]⟩),
  (93,⟨.struct [0,1,2] [1,1,1],3,40,[.int .i64 0,.int .i64 0,.nil 1]⟩),
  (116,⟨.struct [0,1,2] [1,1,1],3,40,[.int .i64 0,.int .i64 0,.nil 1]⟩),
  (119,⟨.struct [0,1] [1,1],2,16,[.int .i64 0,.int .i64 0]⟩),
  (133,⟨.int .u64,1,8,[.int .u64 0]⟩),
  (138,⟨.ptr 140,1,8,[.undef]⟩),
  (139,⟨.struct [0,1,2] [1,1,1],3,40,[.nil 1,.int .i64 0,.bool false]⟩),
  (140,⟨.struct [0,1,2] [1,1,1],3,40,[.nil 1,.int .i64 0,.bool false]⟩),
  (147,⟨.ptr 149,1,8,[.undef]⟩),
  (148,⟨.struct [0,1,2] [1,1,1],3,40,[.nil 1,.int .i64 0,.bool false]⟩),
  (149,⟨.struct [0,1,2] [1,1,1],3,40,[.nil 1,.int .i64 0,.bool false]⟩),
  (155,⟨.struct [0,1,2,3] [1,1,1,1],4,40,[.undef,.undef,.undef,.str ⟨#[]⟩]⟩),
  (156,⟨.struct [0,1,2,3] [1,1,1,1],4,40,[.undef,.undef,.undef,.str ⟨#[]⟩]⟩),
  (160,⟨.int .u32,1,4,[.int .u32 0]⟩),
  (161,⟨.int .u8,1,1,[.int .u8 0]⟩),
  (162,⟨.int .u8,1,1,[.int .u8 0]⟩),
  (164,⟨.ptr 5,1,8,[.undef]⟩),
  (165,⟨.int .i32,1,4,[.int .i32 0]⟩),
  (166,⟨.int .i32,1,4,[.int .i32 0]⟩),
  (167,⟨.struct [0,1,2,3,4,5,6,7,8,9,10] [1,1,1,1,1,1,1,1,1,1,1],11,48,[.int .u64 0,.int .u64 0,.int .u32 0,.int .u8 0,.int .u8 0,.int .u8 0,.int .u8 0,.undef,.undef,.int .i32 0,.int .i32 0]⟩),
  (168,⟨.struct [0,1,2,3,4,5,6,7,8,9,10] [1,1,1,1,1,1,1,1,1,1,1],11,48,[.int .u64 0,.int .u64 0,.int .u32 0,.int .u8 0,.int .u8 0,.int .u8 0,.int .u8 0,.undef,.undef,.int .i32 0,.int .i32 0]⟩)]
def adZ:List (Nat × List Bool):=[(16,[true,false]),(54,[true,false]),(55,[true,false]),(56,[true,false]),(57,[true,false]),(58,[true,false]),(117,[true,false]),(130,[true]),(155,[true]),(156,[true]),(164,[true]),(165,[true]),(181,[true]),(182,[true]),(183,[true]),(184,[true]),(185,[true])]
def abp:List (Nat × List Bool):=[]
def ad0:List Nat:=[]
def Yl:List (Nat × Nat):=[]
def afV:List (Nat × Nat × List Nat × List Nat):=[(21,(0,([1,3],[1,127]))),(21,(2,([1,3,4,5],[1,4,127]))),(21,(4,([1,6],[1,127]))),(21,(6,([1,7],[1,127]))),(23,(0,([1,31,32,33],[1,124]))),(23,(2,([1,76,77,78],[1,124]))),(23,(4,([1,96,97,98],[1,124]))),(27,(0,([1,3,4],[1,40]))),(29,(0,([1,3],[1,68]))),(29,(2,([1,3,4],[1,68]))),(29,(4,([1,3,4,5,6,7,8],[1,5,6,68]))),(30,(0,([1,13,14,15],[1,63]))),(30,(2,([1,3,4,13,14,15,23,24,25],[1,4,63]))),(30,(4,([1,3,4,5,6,13,14,15,23,24,25,34,35,36],[1,4,6,63]))),(31,(0,([1,3],[1,59]))),(31,(2,([1,3,5,6],[1,59]))),(32,(0,([1,11,12,13],[1,48]))),(33,(0,([1,3],[1,33]))),(39,(0,([0,1,5],[27,28]))),(40,(0,([1,2,3,4],[1,2,3,55]))),(41,(0,([1,3],[1,99]))),(42,(0,([0,3,4],[22]))),(45,(0,([0,3,4],[22]))),(46,(0,([0,3,4],[23]))),(48,(0,([1,85],[1,164]))),(48,(2,([1,139,140,141],[1,164]))),(49,(0,([0,1,5],[26,27]))),(52,(0,([0,1,5],[26,27]))),(53,(0,([0,1,5],[27,28]))),(54,(0,([0,1,5],[19,20]))),(57,(0,([0,1,5],[21,22]))),(58,(0,([0,1,5],[19,20]))),(59,(0,([0,1,5],[21,22]))),(62,(0,([0,1,5],[23,24]))),(63,(0,([0,1,5],[21,22]))),(66,(0,([0,1,5],[27,28]))),(67,(0,([0,1,5],[27,28]))),(70,(0,([1,3],[1,87]))),(70,(2,([1,3,4],[1,87]))),(70,(4,([1,5],[1,87]))),(71,(0,([0,3,4],[23]))),(72,(0,([0,3,4],[23]))),(73,(0,([0,3,4],[23]))),(74,(0,([1,13,14,15],[1,75]))),(74,(2,([1,46,47,48],[1,75]))),(74,(4,([1,5,6,46,47,48,53],[1,6,75]))),(78,(0,([0,1,5],[27,28]))),(79,(0,([0,1,5],[27,28]))),(80,(0,([0,1,5],[27,28]))),(82,(0,([3,8,9,10],[23]))),(83,(0,([0,1,5,6],[43,44]))),(84,(0,([0,1,5],[18,19]))),(85,(0,([0,1,5,10],[44,45]))),(87,(0,([1,2,5],[2,37,38]))),(89,(0,([1,2,5],[2,35,36]))),(90,(0,([0,1,5],[32,33]))),(91,(0,([1,2,5,6],[2,39,40]))),(94,(0,([0,1,12,13],[26,27]))),(95,(0,([2,5,9,10,11],[2,32,33]))),(97,(0,([1,2,3,4],[1,2,3,32]))),(99,(0,([0,3],[19]))),(100,(0,([1,3],[1,47]))),(101,(0,([1,3],[1,81]))),(103,(0,([2,3,5],[2,3,68,69]))),(104,(0,([0,3,4],[22]))),(109,(0,([3,7,8,9],[20]))),(116,(0,([0,1,5],[26,27]))),(117,(0,([0,1,5],[20,21]))),(118,(0,([0,1,5],[22,23]))),(128,(0,([0,1,7,8],[19,20]))),(130,(0,([0,2,3],[28]))),(133,(0,([0,1,7,8],[19,20]))),(136,(0,([0,3],[32]))),(137,(0,([0,3],[29]))),(142,(0,([0,5,6,7],[26]))),(145,(0,([0,5,6,7],[29]))),(147,(0,([1,2,15,16,17],[32,33,34]))),(150,(0,([0,1,7,8],[19,20]))),(151,(0,([0,2,4,5,6],[2,11,5,65]))),(152,(0,([1,6],[29,30]))),(153,(0,([0,1,7,8],[19,20]))),(155,(0,([0,3,4,5],[28]))),(157,(0,([1,3,4],[1,85]))),(157,(2,([1,3,5],[1,85]))),(157,(4,([1,3,5,6],[1,85]))),(159,(0,([0,2,4,5,16],[2,11,5,64]))),(162,(0,([0,1,7,8],[55,56]))),(163,(0,([0,3],[25]))),(164,(0,([0,3,4,5],[28]))),(166,(0,([1,3,13,14,15],[1,41]))),(168,(0,([0,1,7,8,9],[57,58]))),(170,(0,([3,7,8,9],[19]))),(172,(0,([0,3],[27])))]
def abq:List (Nat × List (Nat × Nat)):=[(29,[(21,2),(24,0),(26,2),(29,0)]),(40,[(42,4),(45,2),(48,0)]),(97,[(19,4),(22,2),(25,0)]),(98,[(4,2),(8,2)])]
def abr:List (Nat × List (Nat × List Nat)):=[(29,[(5,[1]),(6,[1])]),(40,[(50,[3,1]),(52,[3,1]),(53,[1])]),(97,[(27,[3,1]),(29,[3,1]),(30,[1])]),(98,[(6,[1]),(10,[1]),(2,[1])])]
def afW:List (Nat × RS × List RS):=[
  (0,(.aP [],[])),
  (1,(.aP [],[])),
  (2,(.aP [],[])),
  (3,(.bool,[.undef])),
  (4,(.bool,[.undef,.undef,.undef])),
  (5,(.bool,[.undef])),
  (6,(.bool,[.undef,.undef,.undef])),
  (7,(.bool,[.undef])),
  (8,(.bool,[.undef])),
  (9,(.bool,[.undef])),
  (10,(.bool,[.undef])),
  (11,(.int .i64,[.undef,.undef])),
  (12,(.aP [.ty .node,.bool],[.undef])),
  (13,(.ty .node,[.undef])),
  (14,(.aP [.ty .node,.bool],[.undef])),
  (15,(.bool,[.undef,.undef])),
  (16,(.int .i64,[.agg [.int .i64,.bool,.bool,.sl 1,.sl 1,.sl 1,.bool,.bool,.bool,.int .i64,.sl 1,.sl 1,.sl 1,.sl 1,.sl 1,.sl 1],.undef])),
  (17,(.int .i64,[.undef,.undef])),
  (18,(.aP [.ty .node,.bool],[.undef,.undef,.undef])),
  (19,(.aP [.ty .node,.bool],[.undef,.undef,.undef])),
  (20,(.int .i64,[.undef,.undef])),
  (21,(.bool,[.undef])),
  (22,(.ty .world,[.undef])),
  (23,(.bool,[.undef])),
  (24,(.bool,[.undef,.undef])),
  (25,(.aP [.int .i64,.int .i64],[.undef,.undef,.undef])),
  (26,(.aP [.int .i64,.int .i64],[.undef,.undef,.undef])),
  (27,(.bool,[.undef])),
  (28,(.bool,[.undef])),
  (29,(.bool,[.undef])),
  (30,(.bool,[.undef])),
  (31,(.bool,[.undef])),
  (32,(.bool,[.undef])),
  (33,(.bool,[.undef])),
  (34,(.bool,[.undef])),
  (35,(.int .i64,[.undef,.undef])),
  (36,(.int .i64,[.undef,.undef])),
  (37,(.int .i64,[.undef,.undef])),
  (38,(.int .i64,[.undef,.undef])),
  (39,(.int .i64,[.undef,.undef])),
  (40,(.ty .node,[.undef])),
  (41,(.bool,[.undef])),
  (42,(.sl 1,[.undef])),
  (43,(.agg [.sl 1,.sl 1,.bool,.bool,.bool,.int .i64],[.undef])),
  (44,(.agg [.sl 1,.sl 1],[.undef])),
  (45,(.sl 1,[.undef])),
  (46,(.sl 1,[.undef])),
  (47,(.ty .node,[.undef])),
  (48,(.bool,[.undef])),
  (49,(.bool,[.undef,.undef])),
  (50,(.bool,[.undef,.undef])),
  (51,(.bool,[.undef,.undef])),
  (52,(.bool,[.undef,.undef])),
  (53,(.bool,[.undef,.undef])),
  (54,(.int .i64,[.sl 1,.undef])),
  (55,(.int .i64,[.agg [.sl 1,.sl 1,.bool,.bool,.bool,.int .i64],.undef])),
  (56,(.int .i64,[.agg [.sl 1,.sl 1],.undef])),
  (57,(.int .i64,[.sl 1,.undef])),
  (58,(.int .i64,[.sl 1,.undef])),
  (59,(.int .i64,[.undef,.undef])),
  (60,(.int .i64,[.undef,.undef])),
  (61,(.int .i64,[.undef,.undef])),
  (62,(.int .i64,[.undef,.undef])),
  (63,(.int .i64,[.undef,.undef])),
  (64,(.bool,[.undef,.undef,.undef])),
  (65,(.bool,[.undef,.undef,.undef])),
  (66,(.int .i64,[.undef,.undef])),
  (67,(.int .i64,[.undef,.undef])),
  (68,(.int .i64,[.undef,.undef])),
  (69,(.bool,[.undef,.undef,.undef])),
  (70,(.bool,[.undef])),
  (71,(.sl 16,[.undef])),
  (72,(.sl 3,[.undef])),
  (73,(.sl 2,[.undef])),
  (74,(.bool,[.undef])),
  (75,(.bool,[.undef,.undef,.undef])),
  (76,(.bool,[.undef])),
  (77,(.bool,[.undef])),
  (78,(.bool,[.undef,.undef])),
  (79,(.bool,[.undef,.undef])),
  (80,(.bool,[.undef,.undef])),
  (81,(.int .i64,[.undef])),
  (82,(.ty .I,[.undef])),
  (83,(.ty .I,[.undef,.undef])),
  (84,(.bool,[.undef,.undef])),
  (85,(.ty .I,[.undef,.undef])),
  (86,(.bool,[.undef,.undef])),
  (87,(.ty .I,[.undef,.undef])),
  (88,(.bool,[.undef,.undef])),
  (89,(.ty .I,[.undef,.undef])),
  (90,(.bool,[.undef,.undef])),
  (91,(.ty .I,[.undef,.undef])),
  (92,(.bool,[.undef,.undef])),
  (93,(.bool,[.undef,.undef])),
  (94,(.bool,[.undef,.undef])),
  (95,(.ty .I,[.undef,.undef])),
  (96,(.int .i64,[.undef,.undef])),
  (97,(.ty .mt,[.undef])),
  (98,(.ty .aN,[.undef])),
  (99,(.bool,[.undef])),
  (100,(.bool,[.undef])),
  (101,(.bool,[.undef])),
  (102,(.aP [.ty .mt,.int .i64,.bool],[.undef])),
  (103,(.bool,[.undef,.undef])),
  (104,(.sl 1,[.undef])),
  (105,(.sl 1,[.undef])),
  (106,(.ty .mt,[.undef])),
  (107,(.ty .aN,[.undef])),
  (108,(.ty .L,[.undef])),
  (109,(.ty .R,[.undef])),
  (110,(.bool,[.undef])),
  (111,(.bool,[.undef])),
  (112,(.bool,[.undef])),
  (113,(.aP [.ty .mt,.int .i64,.bool],[.undef])),
  (114,(.bool,[.undef,.undef])),
  (115,(.bool,[.undef])),
  (116,(.bool,[.undef,.undef])),
  (117,(.int .i64,[.sl 1,.undef])),
  (118,(.int .i64,[.undef,.undef])),
  (119,(.bool,[.undef,.undef])),
  (120,(.bool,[.undef,.undef])),
  (121,(.int .i64,[.undef,.undef])),
  (122,(.agg [.int .i64,.int .i64,.sl 1],[.undef])),
  (123,(.agg [.int .i64,.int .i64],[.undef])),
  (124,(.bool,[.undef,.undef])),
  (125,(.bool,[.undef,.undef])),
  (126,(.bool,[.undef,.undef])),
  (127,(.bool,[.undef,.undef])),
  (128,(.int .i64,[.undef,.undef])),
  (129,(.bool,[.undef,.undef])),
  (130,(.aP [],[.sl 1])),
  (131,(.sl 1,[])),
  (132,(.sl 1,[.undef,.undef,.undef])),
  (133,(.int .i64,[.undef,.undef])),
  (134,(.sl 1,[])),
  (135,(.sl 1,[.undef,.undef,.undef])),
  (136,(.bool,[.undef])),
  (137,(.bool,[.undef])),
  (138,(.int .i64,[.undef])),
  (139,(.aP [.ty .mt,.int .i64,.bool],[.undef])),
  (140,(.ty .B,[.undef])),
  (141,(.bool,[.undef])),
  (142,(.bool,[.undef])),
  (143,(.bool,[.undef,.undef])),
  (144,(.bool,[.undef])),
  (145,(.bool,[.undef])),
  (146,(.aP [.ty .mt,.int .i64,.bool],[.undef])),
  (147,(.bool,[.undef,.undef,.undef])),
  (148,(.int .i64,[.undef])),
  (149,(.int .i64,[.undef])),
  (150,(.int .i64,[.undef,.undef])),
  (151,(.aP [.ty .mt,.bool],[.undef])),
  (152,(.ty .B,[.undef,.undef])),
  (153,(.int .i64,[.undef,.undef])),
  (154,(.aP [.ty .mt,.int .i64,.bool],[.undef])),
  (155,(.sl 1,[.bh [.jO 1,.int .i64,.bool]])),
  (156,(.int .i64,[.bh [.jO 1,.int .i64,.bool]])),
  (157,(.sl 1,[.undef])),
  (158,(.ty .B,[.undef])),
  (159,(.aP [.ty .mt,.bool],[.undef])),
  (160,(.bool,[.undef,.undef])),
  (161,(.ty .B,[.undef,.undef])),
  (162,(.aP [.int .i64,.int .i64,.bool],[.undef,.undef])),
  (163,(.sl 1,[.undef])),
  (164,(.sl 1,[.bh [.jO 1,.int .i64,.bool]])),
  (165,(.int .i64,[.bh [.jO 1,.int .i64,.bool]])),
  (166,(.sl 1,[.undef])),
  (167,(.ty .B,[.undef])),
  (168,(.aP [.int .i64,.int .i64,.bool],[.undef,.undef])),
  (169,(.sl 1,[.undef])),
  (170,(.sl 1,[.undef])),
  (171,(.int .i64,[.undef,.undef])),
  (172,(.sl 1,[.undef])),
  (173,(.str,[.undef])),
  (174,(.aP [],[.undef])),
  (175,(.str,[.undef])),
  (176,(.aP [],[.undef])),
  (177,(.str,[.undef])),
  (178,(.aP [],[.undef])),
  (179,(.str,[.undef])),
  (180,(.aP [],[.undef])),
  (186,(.str,[.undef])),
  (187,(.aP [],[.undef])),
  (188,(.str,[.undef]))]
def cfg:cB where
  ty:=lk aae
  ext:=fun f=>if f=105 then some (kK 1 8) else if f=108 then some (kK 1 1) else if f=140 then some (kK 1 1) else none
  own:=fun f=>(lk adZ f).getD []
  inl:=fun f=>ad0.contains f
  qH:=fun f t=>Yl.contains (f,t)
  nm:=fun f i=>(afV.find? fun r=>r.1==f&&r.2.1==i).map fun r=>r.2.2
  gone:=fun f=>(lk abp f).getD []
  base:=fun f t=>match lk abq f with | some l=>lk l t | none=>none
  yM:=fun f t=>match lk abr f with | some l=>(lk l t).getD [] | none=>[]
def afX:List Nat:=[46,71,72,73,58]
def sg:Sg:=⟨lk afW,fun f=>afX.contains f⟩
theorem vQ:ez cfg Tryz.prog:=⟨O7 (l:=aae) (by kernel_rfl)⟩
theorem Ym (f : FuncId) (fn : Func) (body : Code) (hf : Tryz.prog.funcs[f]? = some fn) (hb : fn.body = some body) : lL fn.ntmps body = true ∧ (fn.name == "runtime.NumGoroutine") = false :=
  abi (by kernel_rfl) f fn body hf hb
theorem VS:Tryz.prog.follows .mixedOrders=true:=by kernel_rfl
def VT:Ren:=⟨fun | 41=>105 | n=>n,fun | 4=>4 | 22=>22 | 23=>3 | n=>n,fun n=>n⟩
theorem VU:SlLaysE0.n41 Tryz.prog VT where
  mixed:=by kernel_rfl
  f41:=⟨Tryz.f105.name,by kernel_rfl,Tryz.func105.trans (congrArg some (by kernel_rfl))⟩
  t4:=Tryz.underlying4
  a4:=Tryz.isAgg4
  z4:=Tryz.sizeOf4
  v4:=Tryz.zeroValue4
  t22:=Tryz.underlying22
  a22:=Tryz.isAgg22
  z22:=Tryz.sizeOf22
  v22:=Tryz.zeroValue22
theorem T3:qY Tryz.prog 105:=⟨_,Tryz.func105,by kernel_rfl,by kernel_rfl⟩
noncomputable def VV:TypeInfo:=(Tryz.prog.info? 3).get (by kernel_rfl)
def VW:Ren:=⟨fun | 41=>108 | n=>n,fun | 4=>4 | 22=>29 | 23=>4 | n=>n,fun n=>n⟩
theorem VX:SlLaysE0.n41 Tryz.prog VW where
  mixed:=by kernel_rfl
  f41:=⟨Tryz.f108.name,by kernel_rfl,Tryz.func108.trans (congrArg some (by kernel_rfl))⟩
  t4:=Tryz.underlying4
  a4:=Tryz.isAgg4
  z4:=Tryz.sizeOf4
  v4:=Tryz.zeroValue4
  t22:=Tryz.underlying29
  a22:=Tryz.isAgg29
  z22:=Tryz.sizeOf29
  v22:=Tryz.zeroValue29
theorem T4:qY Tryz.prog 108:=⟨_,Tryz.func108,by kernel_rfl,by kernel_rfl⟩
noncomputable def VY:TypeInfo:=(Tryz.prog.info? 4).get (by kernel_rfl)
def VZ:Ren:=⟨fun | 41=>140 | n=>n,fun | 4=>4 | 22=>26 | 23=>5 | n=>n,fun n=>n⟩
theorem V0:SlLaysE0.n41 Tryz.prog VZ where
  mixed:=by kernel_rfl
  f41:=⟨Tryz.f140.name,by kernel_rfl,Tryz.func140.trans (congrArg some (by kernel_rfl))⟩
  t4:=Tryz.underlying4
  a4:=Tryz.isAgg4
  z4:=Tryz.sizeOf4
  v4:=Tryz.zeroValue4
  t22:=Tryz.underlying26
  a22:=Tryz.isAgg26
  z22:=Tryz.sizeOf26
  v22:=Tryz.zeroValue26
theorem T5:qY Tryz.prog 140:=⟨_,Tryz.func140,by kernel_rfl,by kernel_rfl⟩
noncomputable def V1:TypeInfo:=(Tryz.prog.info? 5).get (by kernel_rfl)
theorem abt:∀ f e ds r outs,cfg.ext f=some e→e ds=some (r,outs)→qY Tryz.prog f∧∀ (w:World) (Y:Nat→Prop) (us:Array Value) (az:List Arg),mh w Y (cfg.own f) ds us.toList az→dQ r=true→(∀ o∈outs,dQ o=true)→
    Calls Tryz.prog f us w fun e w'=>∃ v,e=.returned v∧ix w w' Y (cfg.own f) az r outs v:=by
  intro f e ds r outs h h2
  have h:(if f=105 then some (kK 1 8) else if f=108 then some (kK 1 1) else if f=140 then some (kK 1 1) else none)=some e:=h
  split at h
  · rename_i hf
    subst hf
    have h:=Option.some.inj h
    subst h
    exact EO VU VV (.int .i64 0) 1 8 (by kernel_rfl) (by kernel_rfl) (by kernel_rfl) (by kernel_rfl) rfl (by decide) Tryz.sizeOf3 T3 (own:=cfg.own 105) (by kernel_rfl) h2
  split at h
  · rename_i hf
    subst hf
    have h:=Option.some.inj h
    subst h
    exact EO VX VY (.bool false) 1 1 (by kernel_rfl) (by kernel_rfl) (by kernel_rfl) (by kernel_rfl) rfl (by decide) Tryz.sizeOf4 T4 (own:=cfg.own 108) (by kernel_rfl) h2
  split at h
  · rename_i hf
    subst hf
    have h:=Option.some.inj h
    subst h
    exact EO V0 V1 (.int .u8 0) 1 1 (by kernel_rfl) (by kernel_rfl) (by kernel_rfl) (by kernel_rfl) rfl (by decide) Tryz.sizeOf5 T5 (own:=cfg.own 140) (by kernel_rfl) h2
  · simp at h
theorem zx (k:Nat):lE Tryz.prog cfg.own (SY cfg Tryz.prog k):=(OV vQ VS Ym abt k).1
end Go.Proofs.YtockoilcnmljiaaGreat
namespace Go.Proofs.YtockoilcnmljiaaGreat
open Go.RowKit
inductive Sh where
  | bool
  | int (k:IntKind)
  | str
  | sl (b:Nat) (e:Sh)
  | ag (fs:List Sh)
mutual
def width:Sh→Nat
  | .ag fs=>vR fs
  | _=>1
def vR:List Sh→Nat
  | []=>0
  | f::fs=>width f+vR fs
end
mutual
def WT:Sh→List D→Prop
  | .bool,ds=>∃ b,ds=[.bool b]
  | .int k,ds=>∃ n,ds=[.int k n]∧(Lit.int k n).wf=true
  | .str,ds=>∃ s,ds=[.str s]∧s.size≤reachBytes
  | .sl b e,ds=>∃ es:List (List D),ds=[.sl (some false) (width e) es.length es.flatten]∧es.length*b≤reachBytes∧∀ x∈es,WT e x
  | .ag fs,ds=>WTs fs ds
def WTs:List Sh→List D→Prop
  | [],ds=>ds=[]
  | f::fs,ds=>∃ a b,ds=a++b∧WT f a∧WTs fs b
end
mutual
def By (P:Program):TypeId→Sh→Bool
  | t,.bool=>match P.underlying t with | some .bool=>true | _=>false
  | t,.int k=>match P.underlying t with | some (.int k')=>decide (k'=k) | _=>false
  | t,.str=>match P.underlying t with | some .string=>true | _=>false
  | t,.sl b e=>match P.underlying t with
    | some (.slice et)=>By P et e&&decide (P.cellsOf et=width e)&&decide (P.bytesOf et=b)&&decide (0 < width e)
    | _=>false
  | t,.ag fs=>match P.underlying t with
    | some (.struct fl)=>decide (P.cellsOf t=vR fs)&&De P fl.toList 0 fs
    | _=>false
def De (P:Program):List Field→Nat→List Sh→Bool
  | [],_,[]=>true
  | f::fl,o,s::ss=>decide (f.offset=o)&&decide (P.cellsOf f.type=width s)&&By P f.type s&&De P fl (o+width s) ss
  | _,_,_=>false
end
theorem mapM_some {α β:Type} {f:α→Option β}:∀ {l:List α} {r:List β},l.mapM f=some r→l.length=r.length∧∀ (i:Nat) (a:α),l[i]?=some a→∃ b,f a=some b∧r[i]?=some b
  | [],r,h=>by
    simp only [List.mapM_nil] at h
    cases h
    exact ⟨rfl,by simp⟩
  | a::l,r,h=>by
    simp only [List.mapM_cons,Option.bind_eq_bind,Option.bind_eq_some_iff] at h
    obtain ⟨b,hb,bs,KQ,h⟩:=h
    cases h
    obtain ⟨h1,h2⟩:=mapM_some KQ
    refine ⟨by simp [h1],fun i x hx=>?_⟩
    cases i with
    | zero=>
      simp only [List.getElem?_cons_zero,Option.some.injEq] at hx
      subst hx
      exact ⟨b,hb,rfl⟩
    | succ i=>
      simp only [List.getElem?_cons_succ] at hx ⊢
      exact h2 i x hx
theorem V2 {w:World} {base:Nat} {a:Addr} {n:Nat} {vs:List Value} (h:w.cells? base a n=some vs):vs.length=n∧∀ i,i < n→w.cell? (a.add i)=vs[i]?:=by
  unfold World.cells? at h
  split at h
  · obtain ⟨h1,h2⟩:=mapM_some h
    rw [List.length_range] at h1
    refine ⟨h1.symm,fun i hi=>?_⟩
    obtain ⟨b,hb,hr⟩:=h2 i i (by rw [List.getElem?_range hi])
    rw [hb,hr]
  · simp at h
theorem Sw {w:World} {X:Bool→Nat→Prop} {a b:List D} {us vs:List Value} (h:gd w X a us) (h':gd w X b vs):gd w X (a++b) (us++vs):=by
  rw [gZ] at h h' ⊢
  exact h.app h'
theorem flat_get {α:Type} {wd:Nat} (hw:0 < wd):∀ {ls:List (List α)},(∀ l∈ls,l.length=wd)→∀ j:Nat,ls.flatten[j]?=(ls[j / wd]?).bind (fun l=>l[j % wd]?)
  | [],_,j=>by simp
  | l::ls,h,j=>by
    have hl:=h l (by simp)
    rw [List.flatten_cons]
    by_cases hj:j < wd
    · rw [List.getElem?_append_left (by omega),Nat.div_eq_of_lt hj,Nat.mod_eq_of_lt hj]
      rfl
    · rw [List.getElem?_append_right (by omega),hl,flat_get hw (fun x hx=>h x (by simp [hx])) (j - wd)]
      have h1:j / wd=(j - wd) / wd+1:=by
        rw [Nat.div_eq_sub_div hw (by omega)]
      have h2:j % wd=(j - wd) % wd:=by
        rw [Nat.mod_eq_sub_mod (by omega)]
      rw [h1,h2,List.getElem?_cons_succ]
theorem Pl {α:Type} {Q:Nat→α→Prop}:∀ len:Nat,(∀ i,i < len→∃ x,Q i x)→∃ es:List α,es.length=len∧∀ (i:Nat) (x:α),es[i]?=some x→Q i x
  | 0,_=>⟨[],rfl,by simp⟩
  | n+1,h=>by
    obtain ⟨es,h1,h2⟩:=Pl n (fun i hi=>h i (by omega))
    obtain ⟨x,hx⟩:=h n (by omega)
    refine ⟨es++[x],by simp [h1],fun i y hy=>?_⟩
    by_cases hi:i < n
    · rw [List.getElem?_append_left (by omega)] at hy
      exact h2 i y hy
    · rw [List.getElem?_append_right (by omega)] at hy
      have:i=n:=by
        have:=(List.getElem?_eq_some_iff.1 hy).1
        simp at this
        omega
      subst this
      rw [h1,Nat.sub_self,List.getElem?_cons_zero,Option.some.injEq] at hy
      subst hy
      exact hx
theorem x4 {H:Type} {P:Program} {e:TypeId}:∀ {ds:List (DataW H)} {i:Nat} {d:DataW H},ds[i]?=some d→∀ z∈d.weights P e,z∈DataW.weightsAll P e ds
  | [],i,d,h,_,_=>by simp at h
  | x::ds,0,d,h,z,hz=>by
    simp only [List.getElem?_cons_zero,Option.some.injEq] at h
    subst h
    simp only [DataW.weightsAll,List.mem_append]
    exact .inl hz
  | x::ds,i+1,d,h,z,hz=>by
    simp only [DataW.weightsAll,List.mem_append]
    exact .inr (x4 (by simpa using h) z hz)
theorem K8 {w:World} {X:Bool→Nat→Prop}:∀ {ps:List (List D × List Value)},(∀ p∈ps,gd w X p.1 p.2)→gd w X (ps.map (·.1)).flatten (ps.map (·.2)).flatten
  | [],_=>by simp [gd]
  | p::ps,h=>by
    simp only [List.map_cons,List.flatten_cons]
    exact Sw (h p (by simp)) (K8 (fun q hq=>h q (by simp [hq])))
section
variable {H:Type} {enc:TypeId × Value→H} {P:Program} {w:World} {held:Bool} {X:Bool→Nat→Prop} (hX:∀ k,k < w.heap.size→X false k)
include hX
mutual
theorem x5:∀ (sh:Sh) {fuel:Nat} {t:TypeId} {cs:List Value} {x:DataW H × List MemPlace},DataW.trod enc P w 0 (fun _=>true) held fuel t cs=some x→By P t sh=true→(∀ z∈x.1.weights P t,z≤reachBytes)→∃ ds,WT sh ds∧gd w X ds cs
  | .bool,fuel,t,cs,x,h,hs,_=>by
    simp only [By] at hs
    split at hs
    · rename_i ht
      obtain ⟨b,rfl,rfl⟩:=DataW.trod_bool ht h
      exact ⟨[.bool b],⟨b,rfl⟩,_,_,rfl,rfl,rfl⟩
    · simp at hs
  | .int k,fuel,t,cs,x,h,hs,_=>by
    simp only [By] at hs
    split at hs
    · rename_i k' ht
      simp only [decide_eq_true_eq] at hs
      subst hs
      obtain ⟨n,rfl,rfl,hw⟩:=DataW.trod_int ht h
      exact ⟨[.int k' n],⟨n,rfl,hw⟩,_,_,rfl,rfl,rfl⟩
    · simp at hs
  | .str,fuel,t,cs,x,h,hs,hz=>by
    simp only [By] at hs
    split at hs
    · rename_i ht
      obtain ⟨s,rfl,rfl,hw⟩:=DataW.trod_string ht h
      refine ⟨[.str s],⟨s,rfl,?_⟩,_,_,rfl,rfl,rfl⟩
      have:s.data.toList.length≤reachBytes:=hz _ (by unfold DataW.weights; exact List.mem_cons_self)
      rw [Array.length_toList] at this
      exact this
    · simp at hs
  | .sl b e,fuel,t,cs,x,h,hs,hz=>by
    simp only [By] at hs
    split at hs
    case h_2=>simp at hs
    rename_i et ht
    simp only [Bool.and_eq_true,decide_eq_true_eq] at hs
    obtain ⟨⟨⟨h1,h2⟩,h3⟩,h4⟩:=hs
    rcases DataW.trod_slice ht h with ⟨rfl,rfl⟩ | ⟨a,len,cap,elems,rest,n,rfl,rfl,rfl,_,hl,hm,hlen,fu,_⟩
    · refine ⟨[.sl (some false) (width e) 0 []],⟨[],rfl,by simp,by simp⟩,_,_,rfl,?_,rfl⟩
      exact ⟨none,0,[],rfl,Nat.le_refl _,by simp,rfl,.inl rfl⟩
    · replace hz:∀ z∈((elems.map (fun y:DataW H × List MemPlace=>y.1)).length+(rest.map (fun y:DataW H × List MemPlace=>y.1)).length)*P.bytesOf et::(DataW.weightsAll P et (elems.map (fun y:DataW H × List MemPlace=>y.1))++DataW.weightsAll P et (rest.map (fun y:DataW H × List MemPlace=>y.1))),z≤reachBytes:=fun z Pm=>hz z (by
        show z∈(match P.underlying t with | some (.slice e)=>((elems.map (fun y:DataW H × List MemPlace=>y.1)).length+(rest.map (fun y:DataW H × List MemPlace=>y.1)).length)*P.bytesOf e::(DataW.weightsAll P e (elems.map (fun y:DataW H × List MemPlace=>y.1))++DataW.weightsAll P e (rest.map (fun y:DataW H × List MemPlace=>y.1))) | _=>[])
        rw [ht]
        exact Pm)
      rw [h2] at fu
      have KP:=hz _ List.mem_cons_self
      have each:∀ i,i < len→∃ p:List D × List Value,WT e p.1∧gd w X p.1 p.2∧p.2.length=width e∧∀ j,j < width e→w.cell? ((a.add (i*width e)).add j)=p.2[j]?:=by
        intro i hi
        have h5:=fu i hi
        have oc:i < elems.length:=by omega
        rw [List.getElem?_eq_getElem oc] at h5
        rw [Option.bind_eq_some_iff] at h5
        obtain ⟨vs,h6,h7⟩:=h5
        obtain ⟨h8,h9⟩:=V2 h6
        obtain ⟨ds,mZ,NT⟩:=x5 e h7 h1 (fun z Pm=>hz z (List.mem_cons_of_mem _ (List.mem_append.2 (.inl (x4 (i:=i) (d:=elems[i].1) (by rw [List.getElem?_map,List.getElem?_eq_getElem oc]; rfl) z Pm)))))
        exact ⟨(ds,vs),mZ,NT,h8,h9⟩
      obtain ⟨ps,g1,g2⟩:=Pl len each
      have gm:∀ p∈ps,WT e p.1∧gd w X p.1 p.2∧p.2.length=width e:=fun p hp=>by
        obtain ⟨i,hi⟩:=List.getElem?_of_mem hp
        obtain ⟨k1,k2,k3,_⟩:=g2 i p hi
        exact ⟨k1,k2,k3⟩
      have ta:=K8 (w:=w) (X:=X) (ps:=ps) (fun p hp=>(gm p hp).2.1)
      have afY:∀ l∈ps.map (·.1),l.length=width e:=fun l hl=>by
        obtain ⟨p,hp,rfl⟩:=List.mem_map.1 hl
        have:=((gZ p.1 p.2).1 (gm p hp).2.1).len
        rw [this,(gm p hp).2.2]
      have afZ:∀ l∈ps.map (·.2),l.length=width e:=fun l hl=>by
        obtain ⟨p,hp,rfl⟩:=List.mem_map.1 hl
        exact (gm p hp).2.2
      refine ⟨[.sl (some false) (width e) len (ps.map (·.1)).flatten],⟨ps.map (·.1),by simp [g1],?_,fun x hx=>by obtain ⟨p,hp,rfl⟩:=List.mem_map.1 hx; exact (gm p hp).1⟩,_,_,rfl,?_,rfl⟩
      · rw [List.length_map,g1]
        rw [List.length_map,List.length_map,h3,hlen] at KP
        exact Nat.le_trans (Nat.mul_le_mul_right b (by omega)) KP
      · refine ⟨some a,cap,(ps.map (·.2)).flatten,rfl,hl,?_,ta,?_⟩
        · have:∀ {ls:List (List D)},(∀ l∈ls,l.length=width e)→ls.flatten.length=ls.length*width e:=by
            intro ls
            induction ls with
            | nil=>intro _; simp
            | cons l ls ih=>
              intro hh
              rw [List.flatten_cons,List.length_append,ih (fun x hx=>hh x (by simp [hx])),hh l (by simp),List.length_cons,Nat.add_mul,Nat.one_mul,Nat.add_comm]
          rw [this afY,List.length_map,g1]
        · by_cases h0:len=0
          · left
            have:ps=[]:=by cases ps with | nil=>rfl | cons _ _=>simp at g1; omega
            rw [this]; rfl
          · right
            obtain ⟨p0,Oe⟩:∃ p,ps[0]?=some p:=⟨ps[0],List.getElem?_eq_getElem (by omega)⟩
            obtain ⟨_,_,k3,k4⟩:=g2 0 p0 Oe
            have k5:=k4 0 h4
            have af0:p0.2[0]?=some (p0.2[0]):=List.getElem?_eq_getElem (by omega)
            rw [af0,Nat.zero_mul] at k5
            have VL:(a.add 0).add 0=a:=by simp [Addr.add]
            rw [VL] at k5
            obtain ⟨k,off,spot⟩:=a
            unfold World.cell? at k5
            split at k5
            case h_2=>simp at k5
            rename_i c ee fz eW
            split at k5
            · simp at k5
            rename_i hsp
            have af1:spot=none:=by cases spot<;>simp at hsp ⊢
            subst af1
            refine ⟨k,off,c,ee,fz,rfl,hX k ?_,eW,fun j v hj=>?_⟩
            · rcases Nat.lt_or_ge k w.heap.size with hh | hh
              · exact hh
              · rw [Array.getElem?_eq_none hh] at eW; simp at eW
            · rw [flat_get h4 afZ] at hj
              rw [List.getElem?_map] at hj
              cases hp:ps[j / width e]? with
              | none=>rw [hp] at hj; simp at hj
              | some p=>
                rw [hp] at hj
                simp only [Option.map_some,Option.bind_some] at hj
                obtain ⟨_,_,_,m4⟩:=g2 _ p hp
                have m5:=m4 (j % width e) (Nat.mod_lt _ h4)
                rw [hj,eZ,eZ] at m5
                unfold World.cell? at m5
                simp only [eW] at m5
                have m6:off+j / width e*width e+j % width e=off+j:=by
                  have:=Nat.div_add_mod j (width e)
                  rw [Nat.mul_comm] at this
                  omega
                rw [m6] at m5
                simpa using m5
  | .ag fs,fuel,t,cs,x,h,hs,hz=>by
    simp only [By] at hs
    split at hs
    case h_2=>simp at hs
    rename_i fl ht
    simp only [Bool.and_eq_true,decide_eq_true_eq] at hs
    obtain ⟨h1,h2⟩:=hs
    obtain ⟨xs,n,rfl,rfl,h3,h4,h5⟩:=DataW.trod_struct ht h
    simp only [DataW.weights,ht] at hz
    obtain ⟨ds,h6,h7⟩:=Pn (cs:=cs) (n:=n) fs (fl:=fl.toList) (o:=0) (xs:=xs) (by simpa using h4.symm) (fun i f hf=>h5 i f (by simpa using hf)) h2 hz (by omega)
    refine ⟨ds,h6,?_⟩
    rw [List.drop_zero,List.take_of_length_le (by omega)] at h7
    exact h7
theorem Pn:∀ (ss:List Sh) {n:Nat} {cs:List Value} {fl:List Field} {o:Nat} {xs:List (DataW H × List MemPlace)},fl.length=xs.length→(∀ (i:Nat) (f:Field),fl[i]?=some f→DataW.trod enc P w 0 (fun _=>true) held n f.type ((cs.drop f.offset).take (P.cellsOf f.type))=xs[i]?)→De P fl o ss=true→(∀ z∈DataW.weightsEach P (fl.map (·.type)) (xs.map (·.1)),z≤reachBytes)→o+vR ss≤cs.length→
    ∃ ds,WTs ss ds∧gd w X ds ((cs.drop o).take (vR ss))
  | [],n,cs,fl,o,xs,_,_,hs,_,_=>by
    have _:=hX
    cases fl with
    | nil=>exact ⟨[],rfl,by simp [vR,gd]⟩
    | cons f fl=>simp [De] at hs
  | s::ss,n,cs,fl,o,xs,hl,hx,hs,hz,ho=>by
    cases fl with
    | nil=>simp [De] at hs
    | cons f fl=>
      cases xs with
      | nil=>simp at hl
      | cons x xs=>
        simp only [De,Bool.and_eq_true,decide_eq_true_eq] at hs
        obtain ⟨⟨⟨h1,h2⟩,h3⟩,h4⟩:=hs
        subst h1
        simp only [List.map_cons,DataW.weightsEach,List.mem_append] at hz
        simp only [vR] at ho ⊢
        have h5:=hx 0 f rfl
        rw [List.getElem?_cons_zero,h2] at h5
        obtain ⟨gp,g1,g2⟩:=x5 s h5 h3 (fun z Pm=>hz z (.inl Pm))
        obtain ⟨tu,g3,g4⟩:=Pn (cs:=cs) (n:=n) ss (fl:=fl) (o:=f.offset+width s) (xs:=xs) (by simpa using hl) (fun i f' hf=>by have:=hx (i+1) f' (by simpa using hf); simpa using this) h4 (fun z Pm=>hz z (.inr Pm)) (by omega)
        refine ⟨gp++tu,⟨gp,tu,rfl,g1,g3⟩,?_⟩
        rw [List.take_add,List.drop_drop]
        exact Sw g2 g4
end
end
end Go.Proofs.YtockoilcnmljiaaGreat
namespace Go.Proofs.YtockoilcnmljiaaGreat
open Go.RowKit
theorem Sx {w:World} {X:Bool→Nat→Prop}:∀ {b:List Bool} {ds:List D} {vs:List Value},b.any id=false→cj (fun d v=>∀ S,gI w X S d v) ds vs→uk w X b ds vs (vs.map fun _=>(none,[]))
  | _,[],_,_,.nil=>⟨rfl,rfl⟩
  | b,d::ds,v::vs,hn,.cons h1 h2=>by
    have hb:b.headD false=false∧b.tail.any id=false:=by
      cases b with
      | nil=>simp
      | cons x xs=>simpa using hn
    refine ⟨v,vs,(none,[]),_,rfl,rfl,?_,Sx hb.2 h2⟩
    rw [hb.1]
    exact ⟨rfl,h1⟩
theorem V3 {P:Program} {c:cB} (kn:∀ k,lE P c.own (SY c P k)) {f:FuncId} (jx:(c.own f).any id=false) {ds outs:List D} {vs:Array Value} {W:World} (hc:Comes c P f ds (.bool true,outs)) (vt:∀ o∈outs,dQ o=true)
    (ha:cj (fun d v=>∀ S,gI W (Lk W [] (fun _=>True)) S d v) ds vs.toList):Calls P f vs W fun e W'=>e=.returned (.bool true)∧Below W.heap.size W W':=by
  obtain ⟨k,hk⟩:=hc
  have h1:=hk k (Nat.le_refl _)
  have za:∀ a∈vs.toList.map (fun _=>((none,[]):Arg)),a=(none,[]):=by simp
  have eT:=xC za
  have um:mh W (fun _=>True) (c.own f) ds vs.toList (vs.toList.map fun _=>(none,[])):=by
    refine ⟨?_,by rw [eT]; simp,by rw [eT]; simp,fun a VL=>?_⟩
    · rw [eT]; exact Sx jx ha
    · rw [za a VL]; trivial
  refine ((kn k f ds _ outs h1).2 W _ vs _ um rfl vt).mono fun e W'=>?_
  rintro ⟨v,rfl,hp⟩
  have hv:v=.bool true:=by
    obtain ⟨fa,az,hr,_,_,_,hs,_⟩:=hp.res
    obtain ⟨t,rfl,he,rfl⟩:=hr
    cases t with
    | v d u=>
      have hs:=hs.1
      simp only [bL] at hs
      have:bQ d=.bool true:=he.symm
      rw [this] at hs
      exact hs
    | own s n cap a cs=>simp [T.er] at he
  subst hv
  refine ⟨rfl,hp.os,hp.tape,hp.out,hp.sz,fun k hk=>hp.bO k hk (by rw [eT]; simp)⟩
theorem Sy {w:World} {X:Bool→Nat→Prop} {ds:List D} {us:Array Value} (h:gd w X ds us.toList):∀ S,gI w X S (.agg ds) (.agg us):=fun _=>
  ⟨us,rfl,((gZ _ _).1 h).mono (fun _ _ hh=>fG hh)⟩
theorem abu {w:World} {X:Bool→Nat→Prop} {d:D} {v:Value} (h:gd w X [d] [v]) (h1:∀ cs,d≠.agg cs) (h2:∀ f cs,d≠.fn f cs):∀ S,gI w X S d v:=fun S=>by
  obtain ⟨a,b,hv,he,_⟩:=h
  simp only [List.cons.injEq] at hv
  obtain ⟨rfl,rfl⟩:=hv
  have ht:=fG (S:=S) he
  cases d with
  | agg cs=>exact absurd rfl (h1 cs)
  | fn f cs=>exact absurd rfl (h2 f cs)
  | _=>exact ht
theorem Po {w:World}:∀ k,k < w.heap.size→Lk w [] (fun _=>True) false k:=fun k hk=>⟨hk,by simp,fun _=>trivial⟩
end Go.Proofs.YtockoilcnmljiaaGreat
namespace Go.Proofs.YtockoilcnmljiaaGreat
set_option maxRecDepth 100000
abbrev Cm (f:FuncId) (ds:List D) (r:Rz):Prop:=Comes cfg Tryz.prog f ds r
abbrev aO (pr:dA) (cv:Cv Rz) (J:Nat→St→Option Rz) (f:FuncId) (fn:Func) (args:List D):Option Rz:=Bu pr cfg sg cv J f fn args
abbrev bF (pr:dA) (cv:Cv Rz) (J:Nat→St→Option Rz) (f:FuncId) (fn:Func) (sk:List D) (j:Nat) (h:St):Option Rz:=uP pr cfg sg cv J f fn sk j h
noncomputable abbrev aL:Cv Rz:=eH cfg Tryz.prog sg
abbrev WP (f:FuncId) (fn:Func) (sk:List D) (j:Nat) (h:St) (r:Rz):Prop:=W cfg Tryz.prog sg f fn sk j h r
section
variable {f:FuncId} {fn:Func} {sk:List D} {j j':Nat} {h h':St} {r:Rz}
theorem WP.go (h':St) (hw:WP f fn sk j' h' r) (ht:∀ J:Nat→St→Option Rz,J j' h'=some r→bF ad aL J f fn sk j h=some r):WP f fn sk j h r:=W.go vQ hw ht
theorem WP.fin (ht:∀ J:Nat→St→Option Rz,bF ad aL J f fn sk j h=some r):WP f fn sk j h r:=W.fin vQ ht
theorem Cm.go (ok:Told cfg Tryz.prog f fn) (sk:List D) (j:Nat) (h:St) {args:List D} (hw:WP f fn sk j h r) (ht:∀ J:Nat→St→Option Rz,J j h=some r→aO ad aL J f fn args=some r) (zV:args.map ri=sk:=by rfl):Cm f args r:=Comes.go vQ ok (zV▸hw) ht
theorem Cm.fin (ok:Told cfg Tryz.prog f fn) {args:List D} (ht:∀ J:Nat→St→Option Rz,aO ad aL J f fn args=some r):Cm f args r:=Comes.fin (sg:=sg) vQ ok ht
theorem WP.loop {H:Nat→St} {n:Nat} (inv:Nat→Prop) (hs:∀ i,i < n→inv i→(inv (i+1)→WP f fn sk j (H (i+1)) r)→WP f fn sk j (H i) r) (he:inv n→WP f fn sk j (H n) r):∀ i,i≤n→inv i→WP f fn sk j (H i) r:=by
  have key:∀ k i,i+k=n→inv i→WP f fn sk j (H i) r:=by
    intro k
    induction k with
    | zero=>intro i hi hv; obtain rfl:i=n:=(by omega); exact he hv
    | succ k ih=>intro i hi hv; exact hs i (by omega) hv fun lH=>ih (i+1) (by omega) lH
  exact fun i hi hv=>key (n - i) i (by omega) hv
end
theorem aW {g:FuncId} {ds:List D} {r:D} {outs:List D} (h:Cm g ds (r,outs)) (hs:(match sg.sig g with | some (s,ss)=>fb s r&&jP ss outs&&!(vN s||vO ss) | none=>false)=true) (t:bE Rz):aL g ds t=feed t (sO r++(wV outs++[])):=by
  refine afR t h hs fun e=>?_
  subst e
  have:sg.sig 999999=none:=by kernel_rfl
  rw [this] at hs
  simp at hs
theorem bH {g:FuncId} {ds:List D} {r:D} {outs:List D} {s:RS} {ss:List RS} (h:Cm g ds (r,outs)) (hs:sg.sig g=some (s,ss)) (h1:fb s r=true) (h2:jP ss outs=true) (h3:dQ r=true) (h4:outs.all dQ=true) (t:bE Rz):aL g ds t=feed t (gl s r++(oo ss outs++[])):=by
  refine afS t h hs h1 h2 h3 h4 fun e=>?_
  subst e
  have:sg.sig 999999=none:=by kernel_rfl
  rw [hs] at this
  simp at this
theorem x6 (ys:List D) (t:bE Rz):aL 999999 [.sl none 0 0 ys] t=feed t [.sl none 0 0 ys]:=by
  show eH cfg Tryz.prog sg 999999 _ t=_
  unfold eH
  rw [if_pos rfl]
section
variable {R:Type} {x y:R}
theorem aH:br true x y=x:=rfl
theorem bc:br false x y=y:=rfl
theorem bf (b:Bool):br b true false=b:=by cases b<;>rfl
theorem bJ (b:Bool):br b false true=!b:=by cases b<;>rfl
theorem bY (b:Bool):br (!b) x y=br b y x:=by cases b<;>rfl
theorem GS (a b:Bool) (x y:R):br (br a b false) x y=br a (br b x y) y:=by cases a<;>rfl
theorem Df (b:Bool):br b x x=x:=by cases b<;>rfl
theorem aY {a b:Int} (h:a < b):br (ad.lt a b) x y=x:=by simp [ad,br,h]
theorem bA {a b:Int} (h:b≤a):br (ad.lt a b) x y=y:=by simp [ad,br,Int.not_lt.2 h]
theorem wW {a b:Int} (h:a≤b):br (ad.le a b) x y=x:=by simp [ad,br,h]
theorem nc {a b:Int} (h:b < a):br (ad.le a b) x y=y:=by simp [ad,br,Int.not_le.2 h]
theorem fZ {a b:Int} (h:a=b):br (ad.eq a b) x y=x:=by simp [ad,br,h]
theorem ej {a b:Int} (h:a≠b):br (ad.eq a b) x y=y:=by
  have e:(a==b)=false:=by simpa using h
  simp [ad,br,e]
theorem bC {i:Int} {n:Nat} (h0:0≤i) (h:i < n):br (ad.bz i n) x y=x:=by simp [ad,br,h0,h]
theorem GU {l h:Int} {n:Nat} (h0:0≤l) (h1:l≤h) (h2:h≤n):br (ad.wT l h n) x y=x:=by simp [ad,br,h0,h1,h2]
theorem eD {n b:Nat} (h:n*b≤140737488355328):br (ad.fits n b) x y=x:=by simp [ad,br,h]
theorem sQ {l c:Int} {b:Nat} (h0:0≤l) (h1:l≤c) (h2:c*b≤140737488355328):br (ad.vH l c b) x y=x:=by simp [ad,br,h0,h1,h2]
end
theorem T6 (a b:Int):ad.lt a b=decide (a < b):=rfl
theorem zy (a b:Int):ad.le a b=decide (a≤b):=rfl
theorem Bz (a b:Int):ad.eq a b=(a==b):=rfl
theorem ay (n:Nat):ad.aX n=(n:Int):=rfl
theorem zA (n:Nat):ad.jk (n:Int)=n:=rfl
theorem aaf (a i s:Nat):ad.idx a (i:Int) s=(a+i)*s:=rfl
theorem uR (a b:Bool):ad.beq a b=(a==b):=rfl
theorem wrap64 {n:Int} (h:-9223372036854775808≤n) (h':n < 9223372036854775808):IntKind.i64.wrap n=n:=by
  simp only [IntKind.wrap,IntKind.bits,IntKind.signed]
  simp
  omega
theorem zB {a b:Int} (h:-9223372036854775808≤a+b) (h':a+b < 9223372036854775808):ad.ar .add .i64 a b=a+b:=wrap64 h h'
theorem fI {a b:Int} (h:-9223372036854775808≤a - b) (h':a - b < 9223372036854775808):ad.ar .sub .i64 a b=a - b:=wrap64 h h'
theorem df {i:Nat} (h:i < 9223372036854775807):ad.ar .add .i64 (i:Int) 1=((i+1:Nat):Int):=by
  rw [zB (by omega) (by omega)]
  omega
def vS (a:Int):Bool:=decide (-9223372036854775808≤a)&&decide (a < 9223372036854775808)
theorem Yn {a:Int}:vS a=true↔-9223372036854775808≤a∧a < 9223372036854775808:=by simp [vS]
theorem mM {α:Type} {e:α→List D} {w:Nat} (hw:∀ x,(e x).length=w):∀ (xs:List α) {i k:Nat} (hi:i < xs.length),k < w→(ab e xs)[i*w+k]?=(e xs[i])[k]?
  | [],i,k,hi,_=>absurd hi (by simp)
  | x::xs,0,k,hi,hk=>by
    simp only [ab,List.flatMap_cons,Nat.zero_mul,Nat.zero_add,List.getElem_cons_zero]
    rw [List.getElem?_append_left (by rw [hw]; exact hk)]
  | x::xs,i+1,k,hi,hk=>by
    simp only [ab,List.flatMap_cons,List.getElem_cons_succ]
    rw [List.getElem?_append_right (by rw [hw,Nat.succ_mul]; omega)]
    have:(i+1)*w+k - (e x).length=i*w+k:=by rw [hw,Nat.succ_mul]; omega
    rw [this]
    exact mM hw xs (by simpa using hi) hk
section
variable {R:Type} {x y:R}
theorem dE {xs:List Int} {i:Nat} (h:i < xs.length):br (ad.cg .i64 (ints xs) i) x y=x:=by simp [ad,ints,br,List.getElem?_eq_getElem h,ff]
theorem dF {xs:List Int} {i:Nat} (h:i < xs.length):ad.bm (ints xs) i=xs[i]:=by simp [ad,ints,List.getElem?_eq_getElem h,vI]
theorem nt {xs:List UInt8} {i:Nat} (h:i < xs.length):br (ad.cg .u8 (bytes xs) i) x y=x:=by simp [ad,bytes,du,br,List.getElem?_eq_getElem h,ff]
theorem x7 {xs:List UInt8} {i:Nat} (h:i < xs.length):ad.bm (bytes xs) i=(xs[i].toNat:Int):=by simp [ad,bytes,du,List.getElem?_eq_getElem h,vI]
theorem Pp {xs:List Bool} {i:Nat} (h:i < xs.length):br (ad.cI (aG xs) i) x y=x:=by simp [ad,aG,br,List.getElem?_eq_getElem h]
theorem Pq {xs:List Bool} {i:Nat} (h:i < xs.length):ad.bT (aG xs) i=xs[i]:=by simp [ad,aG,List.getElem?_eq_getElem h,C6]
theorem EU {xs:List Int} {i:Nat} (h:i < xs.length):br (ad.slot (ints xs) i) x y=x:=by simp [ad,ints,br,List.getElem?_eq_getElem h,gM]
theorem Pr {xs:List UInt8} {i:Nat} (h:i < xs.length):br (ad.slot (bytes xs) i) x y=x:=by simp [ad,bytes,du,br,List.getElem?_eq_getElem h,gM]
theorem Pt {xs:List Bool} {i:Nat} (h:i < xs.length):br (ad.slot (aG xs) i) x y=x:=by simp [ad,aG,br,List.getElem?_eq_getElem h,gM]
theorem ints_set (xs:List Int) (i:Nat) (a:Int):List.set (ints xs) i (.int .i64 a)=ints (xs.set i a):=by simp [ints,List.map_set]
theorem BA (xs:List UInt8) (i:Nat) (a:UInt8):List.set (bytes xs) i (.int .u8 a.toNat)=bytes (xs.set i a):=by simp [bytes,List.map_set,du]
theorem BB (xs:List Bool) (i:Nat) (a:Bool):List.set (aG xs) i (.bool a)=aG (xs.set i a):=by simp [aG,List.map_set]
theorem oq:∀ {ds:List D},(∀ d∈ds,cf d=true)→cm ds=true
  | [],_=>rfl
  | d::ds,h=>by
    simp only [cm,Bool.and_eq_true]
    exact ⟨h d (by simp),oq fun x hx=>h x (by simp [hx])⟩
theorem iT (xs:List Int):ad.nl (ints xs)=true:=oq (by intro d hd; obtain ⟨a,_,rfl⟩:=List.mem_map.1 hd; rfl)
theorem eI (xs:List UInt8):ad.nl (bytes xs)=true:=oq (by intro d hd; obtain ⟨a,_,rfl⟩:=List.mem_map.1 hd; rfl)
theorem Dg (xs:List Bool):ad.nl (aG xs)=true:=oq (by intro d hd; obtain ⟨a,_,rfl⟩:=List.mem_map.1 hd; rfl)
theorem V4 (n:Nat):fF n [.int .i64 0]=ints (List.replicate n 0):=by
  unfold fF
  induction n with
  | zero=>rfl
  | succ n ih=>simpa [List.replicate_succ,ints,vc] using ih
theorem V5 (n:Nat):fF n [.int .u8 0]=bytes (List.replicate n 0):=by
  unfold fF
  induction n with
  | zero=>rfl
  | succ n ih=>simpa [List.replicate_succ,bytes,vc,du] using ih
theorem V6 (n:Nat):fF n [.bool false]=aG (List.replicate n false):=by
  unfold fF
  induction n with
  | zero=>rfl
  | succ n ih=>simpa [List.replicate_succ,aG,vc] using ih
end
end Go.Proofs.YtockoilcnmljiaaGreat
namespace Go.Proofs.YtockoilcnmljiaaGreat
set_option maxRecDepth 100000
section
variable (pr:dA) (cv:Cv Rz) (J:Nat→St→Option Rz)
def kM (g0:Bool) (n1:Nat) (c2:List D) (i3:Int) (n4:Nat) (c5:List D):St:=(St.mk [(0,(.sl (some g0) 1 n1 c2)),(3,(.ref 10003 [] 0 none)),(4,(.int .i64 i3))] [(10003,[(.sl none 1 n4 c5)])] [] 0)
theorem LH:Told cfg Tryz.prog 42 Tryz.f42:=⟨by kernel_rfl,Tryz.func42,by kernel_rfl⟩
theorem LI (g0:Bool) (n0:Nat) (c0:List D):aO pr cv J 42 Tryz.f42 [(.sl (some g0) 1 n0 c0)]=
    (br (pr.vH (pr.aX n0) (pr.aX n0) 8) (J 0 (kM g0 n0 c0 0 (pr.jk (pr.aX n0)) (fF (pr.jk (pr.aX n0)) [(.int .i64 0)]))) none):=by kernel_rfl
theorem vT (g0:Bool) (n1:Nat) (c2:List D) (i3:Int) (n4:Nat) (c5:List D):bF pr cv J 42 Tryz.f42 [.undef] 0 (kM g0 n1 c2 i3 n4 c5)=
    (br (pr.lt i3 (pr.aX n1)) (br (pr.bz i3 n1) (br (br (pr.cg .i64 c2 (pr.idx 0 i3 1)) true false) (br (pr.bz i3 n4) (br (pr.slot c5 (pr.idx 0 i3 1)) (J 0 (kM g0 n1 c2 (pr.ar .add .i64 i3 1) n4 (List.set c5 (pr.idx 0 i3 1) (.int .i64 (pr.bm c2 (pr.idx 0 i3 1)))))) none) none) none) none) (some ((.sl none 1 n4 c5),[.undef]))):=by kernel_rfl
def kN (g0:Bool) (n1:Nat) (c2:List D) (g3:Bool) (n4:Nat) (c5:List D) (i6:Int):St:=(St.mk [(0,(.sl (some g0) 1 n1 c2)),(1,(.sl (some g3) 1 n4 c5)),(5,(.int .i64 i6))] [] [] 0)
theorem z1:Told cfg Tryz.prog 49 Tryz.f49:=⟨by kernel_rfl,Tryz.func49,by kernel_rfl⟩
theorem z6 (g0:Bool) (n0:Nat) (c0:List D) (g1:Bool) (n1:Nat) (c1:List D):aO pr cv J 49 Tryz.f49 [(.sl (some g0) 1 n0 c0),(.sl (some g1) 1 n1 c1)]=
    (br (br (pr.eq (pr.aX n0) (pr.aX n1)) false true) (some ((.bool false),[.undef,.undef])) (J 0 (kN g0 n0 c0 g1 n1 c1 0))):=by kernel_rfl
theorem pW (g0:Bool) (n1:Nat) (c2:List D) (g3:Bool) (n4:Nat) (c5:List D) (i6:Int):bF pr cv J 49 Tryz.f49 [.undef,.undef] 0 (kN g0 n1 c2 g3 n4 c5 i6)=
    (br (pr.lt i6 (pr.aX n1)) (br (pr.bz i6 n1) (br (br (pr.cg .i64 c2 (pr.idx 0 i6 1)) true false) (br (pr.bz i6 n4) (br (br (pr.cg .i64 c5 (pr.idx 0 i6 1)) true false) (br (br (pr.eq (pr.bm c2 (pr.idx 0 i6 1)) (pr.bm c5 (pr.idx 0 i6 1))) false true) (some ((.bool false),[.undef,.undef])) (J 0 (kN g0 n1 c2 g3 n4 c5 (pr.ar .add .i64 i6 1)))) none) none) none) none) (some ((.bool true),[.undef,.undef]))):=by kernel_rfl
theorem LJ:Told cfg Tryz.prog 35 Tryz.f35:=⟨by kernel_rfl,Tryz.func35,by kernel_rfl⟩
theorem LK (g0:Bool) (n0:Nat) (c0:List D) (a1:Int):aO pr cv J 35 Tryz.f35 [(.sl (some g0) 1 n0 c0),(.int .i64 a1)]=
    (br (pr.lt (pr.ar .sub .i64 a1 (pr.aX n0)) 0) (some ((.int .i64 (-1)),[.undef,.undef])) (some ((.int .i64 (pr.ar .sub .i64 a1 (pr.aX n0))),[.undef,.undef]))):=by kernel_rfl
def fR (i0:Int) (i1:Int) (n2:Nat) (c3:List D):St:=(St.mk [(0,(.ref 19 [] 0 none)),(1,(.int .i64 i0)),(5,(.int .i64 i1))] [(19,[(.sl none 1 n2 c3)])] [] 0)
theorem GV:Told cfg Tryz.prog 54 Tryz.f54:=⟨by kernel_rfl,Tryz.func54,by kernel_rfl⟩
theorem GW (n0:Nat) (c0:List D) (a1:Int):aO pr cv J 54 Tryz.f54 [(.sl none 1 n0 c0),(.int .i64 a1)]=
    (J 0 (fR a1 0 n0 c0)):=by kernel_rfl
theorem tT (i0:Int) (i1:Int) (n2:Nat) (c3:List D):bF pr cv J 54 Tryz.f54 [(.sl none 0 0 []),.undef] 0 (fR i0 i1 n2 c3)=
    (br (pr.lt i1 (pr.aX n2)) (br (pr.bz i1 n2) (br (pr.slot c3 (pr.idx 0 i1 1)) (J 0 (fR (pr.ar .add .i64 i0 1) (pr.ar .add .i64 i1 1) n2 (List.set c3 (pr.idx 0 i1 1) (.int .i64 i0)))) none) none) (some ((.int .i64 i0),[(.sl none 1 n2 c3),.undef]))):=by kernel_rfl
def jQ (g0:Bool) (n1:Nat) (c2:List D) (i3:Int) (n4:Nat) (c5:List D):St:=(St.mk [(0,(.sl (some g0) 1 n1 c2)),(3,(.ref 10003 [] 0 none)),(4,(.int .i64 i3))] [(10003,[(.sl none 1 n4 c5)])] [] 0)
theorem I4:Told cfg Tryz.prog 104 Tryz.f104:=⟨by kernel_rfl,Tryz.func104,by kernel_rfl⟩
theorem I5 (g0:Bool) (n0:Nat) (c0:List D):aO pr cv J 104 Tryz.f104 [(.sl (some g0) 1 n0 c0)]=
    (br (pr.vH (pr.aX n0) (pr.aX n0) 1) (J 0 (jQ g0 n0 c0 0 (pr.jk (pr.aX n0)) (fF (pr.jk (pr.aX n0)) [(.int .u8 0)]))) none):=by kernel_rfl
theorem ur (g0:Bool) (n1:Nat) (c2:List D) (i3:Int) (n4:Nat) (c5:List D):bF pr cv J 104 Tryz.f104 [.undef] 0 (jQ g0 n1 c2 i3 n4 c5)=
    (br (pr.lt i3 (pr.aX n1)) (br (pr.bz i3 n1) (br (br (pr.cg .u8 c2 (pr.idx 0 i3 1)) true false) (br (pr.bz i3 n4) (br (pr.slot c5 (pr.idx 0 i3 1)) (J 0 (jQ g0 n1 c2 (pr.ar .add .i64 i3 1) n4 (List.set c5 (pr.idx 0 i3 1) (.int .u8 (pr.bm c2 (pr.idx 0 i3 1)))))) none) none) none) none) (some ((.sl none 1 n4 c5),[.undef]))):=by kernel_rfl
def jR (g0:Bool) (n1:Nat) (c2:List D) (g3:Bool) (n4:Nat) (c5:List D) (i6:Int):St:=(St.mk [(0,(.sl (some g0) 1 n1 c2)),(1,(.sl (some g3) 1 n4 c5)),(5,(.int .i64 i6))] [] [] 0)
theorem x8:Told cfg Tryz.prog 116 Tryz.f116:=⟨by kernel_rfl,Tryz.func116,by kernel_rfl⟩
theorem x9 (g0:Bool) (n0:Nat) (c0:List D) (g1:Bool) (n1:Nat) (c1:List D):aO pr cv J 116 Tryz.f116 [(.sl (some g0) 1 n0 c0),(.sl (some g1) 1 n1 c1)]=
    (br (br (pr.eq (pr.aX n0) (pr.aX n1)) false true) (some ((.bool false),[.undef,.undef])) (J 0 (jR g0 n0 c0 g1 n1 c1 0))):=by kernel_rfl
theorem o3 (g0:Bool) (n1:Nat) (c2:List D) (g3:Bool) (n4:Nat) (c5:List D) (i6:Int):bF pr cv J 116 Tryz.f116 [.undef,.undef] 0 (jR g0 n1 c2 g3 n4 c5 i6)=
    (br (pr.lt i6 (pr.aX n1)) (br (pr.bz i6 n1) (br (br (pr.cg .u8 c2 (pr.idx 0 i6 1)) true false) (br (pr.bz i6 n4) (br (br (pr.cg .u8 c5 (pr.idx 0 i6 1)) true false) (br (br (pr.eq (pr.bm c2 (pr.idx 0 i6 1)) (pr.bm c5 (pr.idx 0 i6 1))) false true) (some ((.bool false),[.undef,.undef])) (J 0 (jR g0 n1 c2 g3 n4 c5 (pr.ar .add .i64 i6 1)))) none) none) none) none) (some ((.bool true),[.undef,.undef]))):=by kernel_rfl
theorem I6:Told cfg Tryz.prog 96 Tryz.f96:=⟨by kernel_rfl,Tryz.func96,by kernel_rfl⟩
theorem I7 (g0:Bool) (n0:Nat) (c0:List D) (a1:Int):aO pr cv J 96 Tryz.f96 [(.sl (some g0) 1 n0 c0),(.int .i64 a1)]=
    (br (pr.lt (pr.ar .sub .i64 a1 (pr.aX n0)) 0) (some ((.int .i64 (-1)),[.undef,.undef])) (some ((.int .i64 (pr.ar .sub .i64 a1 (pr.aX n0))),[.undef,.undef]))):=by kernel_rfl
def fB (i0:Int) (i1:Int) (n2:Nat) (c3:List D):St:=(St.mk [(0,(.ref 20 [] 0 none)),(1,(.int .i64 i0)),(5,(.int .i64 i1))] [(20,[(.sl none 1 n2 c3)])] [] 0)
theorem EV:Told cfg Tryz.prog 117 Tryz.f117:=⟨by kernel_rfl,Tryz.func117,by kernel_rfl⟩
theorem EW (n0:Nat) (c0:List D) (a1:Int):aO pr cv J 117 Tryz.f117 [(.sl none 1 n0 c0),(.int .i64 a1)]=
    (J 0 (fB a1 0 n0 c0)):=by kernel_rfl
theorem rQ (i0:Int) (i1:Int) (n2:Nat) (c3:List D):bF pr cv J 117 Tryz.f117 [(.sl none 0 0 []),.undef] 0 (fB i0 i1 n2 c3)=
    (br (pr.lt i1 (pr.aX n2)) (br (pr.bz i1 n2) (br (pr.slot c3 (pr.idx 0 i1 1)) (J 0 (fB (pr.ar .add .i64 i0 1) (pr.ar .add .i64 i1 1) n2 (List.set c3 (pr.idx 0 i1 1) (.int .u8 (pr.wrap .u8 i0))))) none) none) (some ((.int .i64 i0),[(.sl none 1 n2 c3),.undef]))):=by kernel_rfl
def jS (g0:Bool) (n1:Nat) (c2:List D) (i3:Int) (n4:Nat) (c5:List D):St:=(St.mk [(0,(.sl (some g0) 1 n1 c2)),(3,(.ref 10003 [] 0 none)),(4,(.int .i64 i3))] [(10003,[(.sl none 1 n4 c5)])] [] 0)
theorem I8:Told cfg Tryz.prog 45 Tryz.f45:=⟨by kernel_rfl,Tryz.func45,by kernel_rfl⟩
theorem I9 (g0:Bool) (n0:Nat) (c0:List D):aO pr cv J 45 Tryz.f45 [(.sl (some g0) 1 n0 c0)]=
    (br (pr.vH (pr.aX n0) (pr.aX n0) 1) (J 0 (jS g0 n0 c0 0 (pr.jk (pr.aX n0)) (fF (pr.jk (pr.aX n0)) [(.bool false)]))) none):=by kernel_rfl
theorem uw (g0:Bool) (n1:Nat) (c2:List D) (i3:Int) (n4:Nat) (c5:List D):bF pr cv J 45 Tryz.f45 [.undef] 0 (jS g0 n1 c2 i3 n4 c5)=
    (br (pr.lt i3 (pr.aX n1)) (br (pr.bz i3 n1) (br (br (pr.cI c2 (pr.idx 0 i3 1)) true false) (br (pr.bz i3 n4) (br (pr.slot c5 (pr.idx 0 i3 1)) (J 0 (jS g0 n1 c2 (pr.ar .add .i64 i3 1) n4 (List.set c5 (pr.idx 0 i3 1) (.bool (pr.bT c2 (pr.idx 0 i3 1)))))) none) none) none) none) (some ((.sl none 1 n4 c5),[.undef]))):=by kernel_rfl
def jT (g0:Bool) (n1:Nat) (c2:List D) (g3:Bool) (n4:Nat) (c5:List D) (i6:Int):St:=(St.mk [(0,(.sl (some g0) 1 n1 c2)),(1,(.sl (some g3) 1 n4 c5)),(5,(.int .i64 i6))] [] [] 0)
theorem ya:Told cfg Tryz.prog 52 Tryz.f52:=⟨by kernel_rfl,Tryz.func52,by kernel_rfl⟩
theorem yb (g0:Bool) (n0:Nat) (c0:List D) (g1:Bool) (n1:Nat) (c1:List D):aO pr cv J 52 Tryz.f52 [(.sl (some g0) 1 n0 c0),(.sl (some g1) 1 n1 c1)]=
    (br (br (pr.eq (pr.aX n0) (pr.aX n1)) false true) (some ((.bool false),[.undef,.undef])) (J 0 (jT g0 n0 c0 g1 n1 c1 0))):=by kernel_rfl
theorem o4 (g0:Bool) (n1:Nat) (c2:List D) (g3:Bool) (n4:Nat) (c5:List D) (i6:Int):bF pr cv J 52 Tryz.f52 [.undef,.undef] 0 (jT g0 n1 c2 g3 n4 c5 i6)=
    (br (pr.lt i6 (pr.aX n1)) (br (pr.bz i6 n1) (br (br (pr.cI c2 (pr.idx 0 i6 1)) true false) (br (pr.bz i6 n4) (br (br (pr.cI c5 (pr.idx 0 i6 1)) true false) (br (br (pr.beq (pr.bT c2 (pr.idx 0 i6 1)) (pr.bT c5 (pr.idx 0 i6 1))) false true) (some ((.bool false),[.undef,.undef])) (J 0 (jT g0 n1 c2 g3 n4 c5 (pr.ar .add .i64 i6 1)))) none) none) none) none) (some ((.bool true),[.undef,.undef]))):=by kernel_rfl
theorem Ja:Told cfg Tryz.prog 38 Tryz.f38:=⟨by kernel_rfl,Tryz.func38,by kernel_rfl⟩
theorem Jb (g0:Bool) (n0:Nat) (c0:List D) (a1:Int):aO pr cv J 38 Tryz.f38 [(.sl (some g0) 1 n0 c0),(.int .i64 a1)]=
    (br (pr.lt (pr.ar .sub .i64 a1 (pr.aX n0)) 0) (some ((.int .i64 (-1)),[.undef,.undef])) (some ((.int .i64 (pr.ar .sub .i64 a1 (pr.aX n0))),[.undef,.undef]))):=by kernel_rfl
def fC (i0:Int) (i1:Int) (n2:Nat) (c3:List D):St:=(St.mk [(0,(.ref 21 [] 0 none)),(1,(.int .i64 i0)),(5,(.int .i64 i1))] [(21,[(.sl none 1 n2 c3)])] [] 0)
theorem EX:Told cfg Tryz.prog 57 Tryz.f57:=⟨by kernel_rfl,Tryz.func57,by kernel_rfl⟩
theorem EY (n0:Nat) (c0:List D) (a1:Int):aO pr cv J 57 Tryz.f57 [(.sl none 1 n0 c0),(.int .i64 a1)]=
    (J 0 (fC a1 0 n0 c0)):=by kernel_rfl
theorem rR (i0:Int) (i1:Int) (n2:Nat) (c3:List D):bF pr cv J 57 Tryz.f57 [(.sl none 0 0 []),.undef] 0 (fC i0 i1 n2 c3)=
    (br (pr.lt i1 (pr.aX n2)) (br (br (pr.eq 3 0) false true) (br (pr.bz i1 n2) (br (pr.slot c3 (pr.idx 0 i1 1)) (J 0 (fC (pr.ar .add .i64 i0 1) (pr.ar .add .i64 i1 1) n2 (List.set c3 (pr.idx 0 i1 1) (.bool (pr.eq (pr.ar .rem .i64 i0 3) 0))))) none) none) none) (some ((.int .i64 i0),[(.sl none 1 n2 c3),.undef]))):=by kernel_rfl
def fU (g0:Bool) (n1:Nat) (c2:List D) (i3:Int) (i4:Int):St:=(St.mk [(0,(.sl (some g0) 1 n1 c2)),(1,(.int .i64 i3)),(5,(.int .i64 i4))] [] [] 0)
theorem GX:Told cfg Tryz.prog 59 Tryz.f59:=⟨by kernel_rfl,Tryz.func59,by kernel_rfl⟩
theorem GY (g0:Bool) (n0:Nat) (c0:List D) (a1:Int):aO pr cv J 59 Tryz.f59 [(.sl (some g0) 1 n0 c0),(.int .i64 a1)]=
    (J 0 (fU g0 n0 c0 a1 0)):=by kernel_rfl
theorem tU (g0:Bool) (n1:Nat) (c2:List D) (i3:Int) (i4:Int):bF pr cv J 59 Tryz.f59 [.undef,.undef] 0 (fU g0 n1 c2 i3 i4)=
    (br (pr.lt i4 (pr.aX n1)) (br (pr.bz i4 n1) (br (br (pr.cg .i64 c2 (pr.idx 0 i4 1)) true false) (br (br (pr.eq (pr.bm c2 (pr.idx 0 i4 1)) i3) false true) (some ((.int .i64 (-1)),[.undef,.undef])) (J 0 (fU g0 n1 c2 (pr.ar .add .i64 i3 1) (pr.ar .add .i64 i4 1)))) none) none) (some ((.int .i64 i3),[.undef,.undef]))):=by kernel_rfl
end
theorem cR (i:Nat):ad.idx 0 (i:Int) 1=i:=by rw [aaf]; omega
theorem pX {α:Type} {xs:List α} {i:Nat} (hi:i < xs.length) (z:α) (ys:List α) (hl:xs.length=ys.length) (hy:i < ys.length):(ys.take i++List.replicate (xs.length - i) z).set i ys[i]=ys.take (i+1)++List.replicate (xs.length - (i+1)) z:=by
  rw [List.set_append_right _ _ (by simp; omega)]
  have h1:i - (ys.take i).length=0:=by simp; omega
  obtain ⟨k,hk⟩:∃ k,xs.length - i=k+1:=⟨xs.length - i - 1,by omega⟩
  have h2:xs.length - (i+1)=k:=by omega
  rw [h1,hk,h2,List.replicate_succ,List.set_cons_zero,← List.take_append_getElem hy,List.append_assoc]
  rfl
theorem BC {α:Type} {xs ys:List α} {i:Nat} (hl:xs.length=ys.length) (hi:i < xs.length) (hy:i < ys.length):(ys.take i++xs.drop i).set i ys[i]=ys.take (i+1)++xs.drop (i+1):=by
  rw [List.set_append_right _ _ (by simp; omega)]
  have h1:i - (ys.take i).length=0:=by simp; omega
  rw [h1,← List.getElem_cons_drop hi,List.set_cons_zero,← List.take_append_getElem hy,List.append_assoc]
  rfl
def eX (n:Nat) (left:Int):Int:=if left < n then -1 else left - n
def jl (k:Int) (n:Nat):List Int:=(List.range n).map fun i:Nat=>k+(i:Int)
def py (k:Int) (n:Nat):List UInt8:=(List.range n).map fun i:Nat=>UInt8.ofNat ((k+(i:Int)) % 256).toNat
def ot (k:Int) (n:Nat):List Bool:=(List.range n).map fun i:Nat=>(k+(i:Int)).tmod 3==0
theorem dG (k:Int) (n:Nat):(jl k n).length=n:=by simp [jl]
theorem ec (k:Int) (n:Nat):(py k n).length=n:=by simp [py]
theorem ed (k:Int) (n:Nat):(ot k n).length=n:=by simp [ot]
theorem aag (k:Int):IntKind.u8.wrap k=((UInt8.ofNat (k % 256).toNat).toNat:Int):=by
  have h:IntKind.u8.wrap k=k % 256:=by
    simp only [IntKind.wrap,IntKind.bits,IntKind.signed]
    simp
  rw [h]
  have h2:0≤k % 256:=Int.emod_nonneg _ (by omega)
  have h3:k % 256 < 256:=Int.emod_lt_of_pos _ (by omega)
  simp only [UInt8.toNat_ofNat']
  omega
theorem Yo (g:Bool) (xs:List Int) (hb:xs.length≤17592186044416) (AI:xs.length < 9223372036854775807):Cm 42 [.sl (some g) 1 xs.length (ints xs)] (.sl none 1 xs.length (ints xs),[.undef]):=by
  refine Cm.go LH [.undef] 0 (kM g xs.length (ints xs) (0:Nat) xs.length (ints (List.replicate xs.length 0))) ?_ fun J hJ=>?_
  · refine WP.loop (H:=fun i=>kM g xs.length (ints xs) (i:Nat) xs.length (ints (xs.take i++List.replicate (xs.length - i) 0))) (n:=xs.length) (fun _=>True) (fun i hi _ ih=>WP.go _ (ih trivial) fun J hJ=>?_) (fun _=>WP.fin fun J=>?_) 0 (Nat.zero_le _) trivial
    · rw [vT]
      simp (disch:=first | omega | (simp; done) | (simp; omega)) only [aH,bc,bf,ay,aY,bC,cR,dE,EU,dF,ints_set,df]
      rw [← hJ]
      congr 2
      rw [pX hi _ xs rfl hi]
    · rw [vT]
      simp (disch:=omega) only [aH,bc,ay,bA,List.take_length,Nat.sub_self,List.replicate_zero,List.append_nil]
  · rw [LI]
    simp (disch:=omega) only [aH,bc,ay,sQ,zA,V4]
    exact hJ
theorem Yp (g h:Bool) (xs ys:List Int) (hb:xs.length < 9223372036854775807):Cm 49 [.sl (some g) 1 xs.length (ints xs),.sl (some h) 1 ys.length (ints ys)] (.bool (decide (xs=ys)),[.undef,.undef]):=by
  by_cases hl:xs.length=ys.length
  · refine Cm.go z1 [.undef,.undef] 0 (kN g xs.length (ints xs) h ys.length (ints ys) (0:Nat)) ?_ fun J hJ=>?_
    · refine WP.loop (H:=fun i=>kN g xs.length (ints xs) h ys.length (ints ys) (i:Nat)) (n:=xs.length) (fun i=>xs.take i=ys.take i) (fun i hi hv ih=>?_) (fun hv=>WP.fin fun J=>?_) 0 (Nat.zero_le _) (by simp)
      · have oc:i < ys.length:=by omega
        by_cases he:xs[i]=ys[i]
        · refine WP.go _ (ih (by rw [← List.take_append_getElem hi,← List.take_append_getElem oc,hv,he])) fun J hJ=>?_
          rw [pW]
          simp (disch:=omega) only [aH,bc,bf,bJ,bY,ay,aY,bC,cR,dE,dF,df,fZ,he,uR,beq_self_eq_true,Bool.not_true]
          exact hJ
        · refine WP.fin fun J=>?_
          rw [pW]
          have dc:xs≠ys:=fun e=>he (by subst e; rfl)
          have hn8:=he
          have hbe:=he
          simp (disch:=first | omega | assumption) only [aH,bc,bf,bJ,bY,ay,aY,bC,cR,dE,dF,ej,decide_eq_false dc]
      · rw [pW]
        rw [List.take_length,hl,List.take_length] at hv
        simp (disch:=omega) only [aH,bc,ay,bA,decide_eq_true hv]
    · rw [z6]
      simp (disch:=omega) only [aH,bc,ay,bJ,bY,fZ]
      exact hJ
  · refine Cm.fin z1 fun J=>?_
    have dc:xs≠ys:=fun e=>hl (by rw [e])
    rw [z6]
    simp (disch:=omega) only [aH,bc,ay,bJ,bY,ej,decide_eq_false dc]
theorem Yq (g:Bool) (n:Nat) (c:List D) (left:Int) (h0:0≤left) (h1:left≤1048576) (hn:n≤140737488355328):Cm 35 [.sl (some g) 1 n c,.int .i64 left] (.int .i64 (eX n left),[.undef,.undef]):=by
  refine Cm.fin LJ fun J=>?_
  rw [LK]
  unfold eX
  by_cases h:left < n
  · rw [if_pos h]
    simp (disch:=omega) only [ay,fI,aY]
  · rw [if_neg h]
    simp (disch:=omega) only [ay,fI,bA]
theorem T7 (xs:List Int) (k:Int) (h0:0≤k) (h1:k+xs.length < 9223372036854775807):Cm 54 [.sl none 1 xs.length (ints xs),.int .i64 k] (.int .i64 (k+xs.length),[.sl none 1 xs.length (ints (jl k xs.length)),.undef]):=by
  refine Cm.go GV [.sl none 0 0 [],.undef] 0 (fR k (0:Nat) xs.length (ints xs)) ?_ fun J hJ=>?_
  · have e0:fR k (0:Nat) xs.length (ints xs)=(fun i:Nat=>fR (k+i) (i:Nat) xs.length (ints ((jl k xs.length).take i++xs.drop i))) 0:=by simp
    rw [e0]
    refine WP.loop (H:=fun i:Nat=>fR (k+i) (i:Nat) xs.length (ints ((jl k xs.length).take i++xs.drop i))) (n:=xs.length) (fun _=>True) (fun i hi _ ih=>WP.go _ (ih trivial) fun J hJ=>?_) (fun _=>WP.fin fun J=>?_) 0 (Nat.zero_le _) trivial
    · have hm:i < (jl k xs.length).length:=by rw [dG]; exact hi
      have wX:=BC (dG k xs.length).symm hi hm
      rw [tT]
      have fu:(jl k xs.length)[i]=k+(i:Int):=by simp [jl]
      have hw:=fu
      simp (disch:=first | omega | (simp; done) | (simp; omega)) only [aH,bc,bf,bJ,ay,aY,bC,cR,EU,df,zB]
      rw [fu] at wX
      rw [ints_set,wX]
      have e1:k+(i:Int)+1=k+((i+1:Nat):Int):=by omega
      rw [e1]
      exact hJ
    · rw [tT]
      simp (disch:=omega) only [aH,bc,ay,bA,List.drop_length,List.append_nil]
      rw [List.take_of_length_le (by rw [dG]; omega)]
  · rw [GW]
    exact hJ
theorem V7 (g:Bool) (xs:List UInt8) (hb:xs.length≤140737488355328) (AI:xs.length < 9223372036854775807):Cm 104 [.sl (some g) 1 xs.length (bytes xs)] (.sl none 1 xs.length (bytes xs),[.undef]):=by
  refine Cm.go I4 [.undef] 0 (jQ g xs.length (bytes xs) (0:Nat) xs.length (bytes (List.replicate xs.length 0))) ?_ fun J hJ=>?_
  · refine WP.loop (H:=fun i=>jQ g xs.length (bytes xs) (i:Nat) xs.length (bytes (xs.take i++List.replicate (xs.length - i) 0))) (n:=xs.length) (fun _=>True) (fun i hi _ ih=>WP.go _ (ih trivial) fun J hJ=>?_) (fun _=>WP.fin fun J=>?_) 0 (Nat.zero_le _) trivial
    · rw [ur]
      simp (disch:=first | omega | (simp; done) | (simp; omega)) only [aH,bc,bf,ay,aY,bC,cR,nt,Pr,x7,BA,df]
      rw [← hJ]
      congr 2
      rw [pX hi _ xs rfl hi]
    · rw [ur]
      simp (disch:=omega) only [aH,bc,ay,bA,List.take_length,Nat.sub_self,List.replicate_zero,List.append_nil]
  · rw [I5]
    simp (disch:=omega) only [aH,bc,ay,sQ,zA,V5]
    exact hJ
theorem V8 (g h:Bool) (xs ys:List UInt8) (hb:xs.length < 9223372036854775807):Cm 116 [.sl (some g) 1 xs.length (bytes xs),.sl (some h) 1 ys.length (bytes ys)] (.bool (decide (xs=ys)),[.undef,.undef]):=by
  by_cases hl:xs.length=ys.length
  · refine Cm.go x8 [.undef,.undef] 0 (jR g xs.length (bytes xs) h ys.length (bytes ys) (0:Nat)) ?_ fun J hJ=>?_
    · refine WP.loop (H:=fun i=>jR g xs.length (bytes xs) h ys.length (bytes ys) (i:Nat)) (n:=xs.length) (fun i=>xs.take i=ys.take i) (fun i hi hv ih=>?_) (fun hv=>WP.fin fun J=>?_) 0 (Nat.zero_le _) (by simp)
      · have oc:i < ys.length:=by omega
        by_cases he:xs[i]=ys[i]
        · refine WP.go _ (ih (by rw [← List.take_append_getElem hi,← List.take_append_getElem oc,hv,he])) fun J hJ=>?_
          rw [o3]
          simp (disch:=omega) only [aH,bc,bf,bJ,bY,ay,aY,bC,cR,nt,x7,df,fZ,he,uR,beq_self_eq_true,Bool.not_true]
          exact hJ
        · refine WP.fin fun J=>?_
          rw [o3]
          have dc:xs≠ys:=fun e=>he (by subst e; rfl)
          have hn8:((xs[i].toNat:Int))≠(ys[i].toNat:Int):=fun e=>he (UInt8.toNat_inj.1 (by omega))
          have hbe:=he
          simp (disch:=first | omega | assumption) only [aH,bc,bf,bJ,bY,ay,aY,bC,cR,nt,x7,ej,decide_eq_false dc]
      · rw [o3]
        rw [List.take_length,hl,List.take_length] at hv
        simp (disch:=omega) only [aH,bc,ay,bA,decide_eq_true hv]
    · rw [x9]
      simp (disch:=omega) only [aH,bc,ay,bJ,bY,fZ]
      exact hJ
  · refine Cm.fin x8 fun J=>?_
    have dc:xs≠ys:=fun e=>hl (by rw [e])
    rw [x9]
    simp (disch:=omega) only [aH,bc,ay,bJ,bY,ej,decide_eq_false dc]
theorem V9 (g:Bool) (n:Nat) (c:List D) (left:Int) (h0:0≤left) (h1:left≤1048576) (hn:n≤140737488355328):Cm 96 [.sl (some g) 1 n c,.int .i64 left] (.int .i64 (eX n left),[.undef,.undef]):=by
  refine Cm.fin I6 fun J=>?_
  rw [I7]
  unfold eX
  by_cases h:left < n
  · rw [if_pos h]
    simp (disch:=omega) only [ay,fI,aY]
  · rw [if_neg h]
    simp (disch:=omega) only [ay,fI,bA]
theorem QT (xs:List UInt8) (k:Int) (h0:0≤k) (h1:k+xs.length < 9223372036854775807):Cm 117 [.sl none 1 xs.length (bytes xs),.int .i64 k] (.int .i64 (k+xs.length),[.sl none 1 xs.length (bytes (py k xs.length)),.undef]):=by
  refine Cm.go EV [.sl none 0 0 [],.undef] 0 (fB k (0:Nat) xs.length (bytes xs)) ?_ fun J hJ=>?_
  · have e0:fB k (0:Nat) xs.length (bytes xs)=(fun i:Nat=>fB (k+i) (i:Nat) xs.length (bytes ((py k xs.length).take i++xs.drop i))) 0:=by simp
    rw [e0]
    refine WP.loop (H:=fun i:Nat=>fB (k+i) (i:Nat) xs.length (bytes ((py k xs.length).take i++xs.drop i))) (n:=xs.length) (fun _=>True) (fun i hi _ ih=>WP.go _ (ih trivial) fun J hJ=>?_) (fun _=>WP.fin fun J=>?_) 0 (Nat.zero_le _) trivial
    · have hm:i < (py k xs.length).length:=by rw [ec]; exact hi
      have wX:=BC (ec k xs.length).symm hi hm
      rw [rQ]
      have fu:(py k xs.length)[i]=UInt8.ofNat ((k+(i:Int)) % 256).toNat:=by simp [py]
      have hw:ad.wrap .u8 (k+(i:Int))=((UInt8.ofNat ((k+(i:Int)) % 256).toNat).toNat:Int):=aag _
      simp (disch:=first | omega | (simp; done) | (simp; omega)) only [aH,bc,bf,bJ,ay,aY,bC,cR,Pr,df,zB,hw]
      rw [fu] at wX
      rw [BA,wX]
      have e1:k+(i:Int)+1=k+((i+1:Nat):Int):=by omega
      rw [e1]
      exact hJ
    · rw [rQ]
      simp (disch:=omega) only [aH,bc,ay,bA,List.drop_length,List.append_nil]
      rw [List.take_of_length_le (by rw [ec]; omega)]
  · rw [EW]
    exact hJ
theorem Wa (g:Bool) (xs:List Bool) (hb:xs.length≤140737488355328) (AI:xs.length < 9223372036854775807):Cm 45 [.sl (some g) 1 xs.length (aG xs)] (.sl none 1 xs.length (aG xs),[.undef]):=by
  refine Cm.go I8 [.undef] 0 (jS g xs.length (aG xs) (0:Nat) xs.length (aG (List.replicate xs.length false))) ?_ fun J hJ=>?_
  · refine WP.loop (H:=fun i=>jS g xs.length (aG xs) (i:Nat) xs.length (aG (xs.take i++List.replicate (xs.length - i) false))) (n:=xs.length) (fun _=>True) (fun i hi _ ih=>WP.go _ (ih trivial) fun J hJ=>?_) (fun _=>WP.fin fun J=>?_) 0 (Nat.zero_le _) trivial
    · rw [uw]
      simp (disch:=first | omega | (simp; done) | (simp; omega)) only [aH,bc,bf,ay,aY,bC,cR,Pp,Pt,Pq,BB,df]
      rw [← hJ]
      congr 2
      rw [pX hi _ xs rfl hi]
    · rw [uw]
      simp (disch:=omega) only [aH,bc,ay,bA,List.take_length,Nat.sub_self,List.replicate_zero,List.append_nil]
  · rw [I9]
    simp (disch:=omega) only [aH,bc,ay,sQ,zA,V6]
    exact hJ
theorem Wb (g h:Bool) (xs ys:List Bool) (hb:xs.length < 9223372036854775807):Cm 52 [.sl (some g) 1 xs.length (aG xs),.sl (some h) 1 ys.length (aG ys)] (.bool (decide (xs=ys)),[.undef,.undef]):=by
  by_cases hl:xs.length=ys.length
  · refine Cm.go ya [.undef,.undef] 0 (jT g xs.length (aG xs) h ys.length (aG ys) (0:Nat)) ?_ fun J hJ=>?_
    · refine WP.loop (H:=fun i=>jT g xs.length (aG xs) h ys.length (aG ys) (i:Nat)) (n:=xs.length) (fun i=>xs.take i=ys.take i) (fun i hi hv ih=>?_) (fun hv=>WP.fin fun J=>?_) 0 (Nat.zero_le _) (by simp)
      · have oc:i < ys.length:=by omega
        by_cases he:xs[i]=ys[i]
        · refine WP.go _ (ih (by rw [← List.take_append_getElem hi,← List.take_append_getElem oc,hv,he])) fun J hJ=>?_
          rw [o4]
          simp (disch:=omega) only [aH,bc,bf,bJ,bY,ay,aY,bC,cR,Pp,Pq,df,fZ,he,uR,beq_self_eq_true,Bool.not_true]
          exact hJ
        · refine WP.fin fun J=>?_
          rw [o4]
          have dc:xs≠ys:=fun e=>he (by subst e; rfl)
          have hn8:=he
          have hbe:(xs[i]==ys[i])=false:=by simpa using he
          simp (disch:=first | omega | assumption) only [aH,bc,bf,bJ,bY,ay,aY,bC,cR,Pp,Pq,ej,decide_eq_false dc,uR,hbe,Bool.not_false]
      · rw [o4]
        rw [List.take_length,hl,List.take_length] at hv
        simp (disch:=omega) only [aH,bc,ay,bA,decide_eq_true hv]
    · rw [yb]
      simp (disch:=omega) only [aH,bc,ay,bJ,bY,fZ]
      exact hJ
  · refine Cm.fin ya fun J=>?_
    have dc:xs≠ys:=fun e=>hl (by rw [e])
    rw [yb]
    simp (disch:=omega) only [aH,bc,ay,bJ,bY,ej,decide_eq_false dc]
theorem Wc (g:Bool) (n:Nat) (c:List D) (left:Int) (h0:0≤left) (h1:left≤1048576) (hn:n≤140737488355328):Cm 38 [.sl (some g) 1 n c,.int .i64 left] (.int .i64 (eX n left),[.undef,.undef]):=by
  refine Cm.fin Ja fun J=>?_
  rw [Jb]
  unfold eX
  by_cases h:left < n
  · rw [if_pos h]
    simp (disch:=omega) only [ay,fI,aY]
  · rw [if_neg h]
    simp (disch:=omega) only [ay,fI,bA]
theorem QU (xs:List Bool) (k:Int) (h0:0≤k) (h1:k+xs.length < 9223372036854775807):Cm 57 [.sl none 1 xs.length (aG xs),.int .i64 k] (.int .i64 (k+xs.length),[.sl none 1 xs.length (aG (ot k xs.length)),.undef]):=by
  refine Cm.go EX [.sl none 0 0 [],.undef] 0 (fC k (0:Nat) xs.length (aG xs)) ?_ fun J hJ=>?_
  · have e0:fC k (0:Nat) xs.length (aG xs)=(fun i:Nat=>fC (k+i) (i:Nat) xs.length (aG ((ot k xs.length).take i++xs.drop i))) 0:=by simp
    rw [e0]
    refine WP.loop (H:=fun i:Nat=>fC (k+i) (i:Nat) xs.length (aG ((ot k xs.length).take i++xs.drop i))) (n:=xs.length) (fun _=>True) (fun i hi _ ih=>WP.go _ (ih trivial) fun J hJ=>?_) (fun _=>WP.fin fun J=>?_) 0 (Nat.zero_le _) trivial
    · have hm:i < (ot k xs.length).length:=by rw [ed]; exact hi
      have wX:=BC (ed k xs.length).symm hi hm
      rw [rR]
      have fu:(ot k xs.length)[i]=((k+(i:Int)).tmod 3==0):=by simp [ot]
      have hw:ad.eq (ad.ar .rem .i64 (k+(i:Int)) 3) 0=((k+(i:Int)).tmod 3==0):=rfl
      simp (disch:=first | omega | (simp; done) | (simp; omega)) only [aH,bc,bf,bJ,ay,aY,bC,cR,Pt,df,zB,hw,ej]
      rw [fu] at wX
      rw [BB,wX]
      have e1:k+(i:Int)+1=k+((i+1:Nat):Int):=by omega
      rw [e1]
      exact hJ
    · rw [rR]
      simp (disch:=omega) only [aH,bc,ay,bA,List.drop_length,List.append_nil]
      rw [List.take_of_length_le (by rw [ed]; omega)]
  · rw [EY]
    exact hJ
theorem T8 (g:Bool) (k:Int) (n:Nat) (h0:0≤k) (h1:k+n < 9223372036854775807):Cm 59 [.sl (some g) 1 n (ints (jl k n)),.int .i64 k] (.int .i64 (k+n),[.undef,.undef]):=by
  refine Cm.go GX [.undef,.undef] 0 (fU g n (ints (jl k n)) k (0:Nat)) ?_ fun J hJ=>?_
  · have e0:fU g n (ints (jl k n)) k (0:Nat)=(fun i:Nat=>fU g n (ints (jl k n)) (k+i) (i:Nat)) 0:=by simp
    rw [e0]
    refine WP.loop (H:=fun i:Nat=>fU g n (ints (jl k n)) (k+i) (i:Nat)) (n:=n) (fun _=>True) (fun i hi _ ih=>WP.go _ (ih trivial) fun J hJ=>?_) (fun _=>WP.fin fun J=>?_) 0 (Nat.zero_le _) trivial
    · have hm:i < (jl k n).length:=by rw [dG]; exact hi
      have fu:(jl k n)[i]=k+(i:Int):=by simp [jl]
      rw [tU]
      simp (disch:=first | omega | (simp; done) | (simp; omega)) only [aH,bc,bf,bJ,bY,ay,aY,bC,cR,dE,dF,fu,fZ,df,zB]
      have e1:k+(i:Int)+1=k+((i+1:Nat):Int):=by omega
      rw [e1]
      exact hJ
    · rw [tU]
      simp (disch:=omega) only [aH,bc,ay,bA]
  · rw [GY]
    exact hJ
end Go.Proofs.YtockoilcnmljiaaGreat
namespace Go.Proofs.YtockoilcnmljiaaGreat
set_option maxRecDepth 100000
section
variable (pr:dA) (cv:Cv Rz) (J:Nat→St→Option Rz)
def jU (g0:Bool) (n1:Nat) (c2:List D) (i3:Int) (n4:Nat) (c5:List D):St:=(St.mk [(0,(.sl (some g0) 1 n1 c2)),(3,(.ref 10003 [] 0 none)),(4,(.int .i64 i3))] [(10003,[(.sl none 1 n4 c5)])] [] 0)
theorem Jc:Told cfg Tryz.prog 46 Tryz.f46:=⟨by kernel_rfl,Tryz.func46,by kernel_rfl⟩
theorem Jd (g0:Bool) (n0:Nat) (c0:List D):aO pr cv J 46 Tryz.f46 [(.sl (some g0) 1 n0 c0)]=
    (br (pr.vH (pr.aX n0) (pr.aX n0) 24) (J 0 (jU g0 n0 c0 0 (pr.jk (pr.aX n0)) (fF (pr.jk (pr.aX n0)) [(.nil 1)]))) none):=by kernel_rfl
theorem uy (g0:Bool) (n1:Nat) (c2:List D) (i3:Int) (n4:Nat) (c5:List D):bF pr cv J 46 Tryz.f46 [.undef] 0 (jU g0 n1 c2 i3 n4 c5)=
    (br (pr.lt i3 (pr.aX n1)) (br (pr.bz i3 n1) (br (br (pr.bG 1 c2 (pr.idx 0 i3 1)) true false) (cv 42 [(.sl (some (pr.bD c2 (pr.idx 0 i3 1))) 1 (pr.aZ c2 (pr.idx 0 i3 1)) (pr.ba c2 (pr.idx 0 i3 1)))] (.sl (fun dX=>(fun dt=>(.done (br (br (br (pr.nl dt) true false) true false) (br (pr.bz i3 n4) (br (br (pr.ne c5) (br (pr.jN 1 c5 (pr.idx 0 i3 1)) true false) false) (cv 999999 [(.sl none 0 0 (List.set c5 (pr.idx 0 i3 1) (.sl none 1 dX dt)))] (.sl (fun oW=>(fun iU=>(.done (J 0 (jU g0 n1 c2 (pr.ar .add .i64 i3 1) n4 iU))))))) none) none) none)))))) none) none) (some ((.sl none 1 n4 c5),[.undef]))):=by kernel_rfl
def jV (g0:Bool) (n1:Nat) (c2:List D) (g3:Bool) (n4:Nat) (c5:List D) (i6:Int):St:=(St.mk [(0,(.sl (some g0) 1 n1 c2)),(1,(.sl (some g3) 1 n4 c5)),(5,(.int .i64 i6))] [] [] 0)
theorem yc:Told cfg Tryz.prog 53 Tryz.f53:=⟨by kernel_rfl,Tryz.func53,by kernel_rfl⟩
theorem yd (g0:Bool) (n0:Nat) (c0:List D) (g1:Bool) (n1:Nat) (c1:List D):aO pr cv J 53 Tryz.f53 [(.sl (some g0) 1 n0 c0),(.sl (some g1) 1 n1 c1)]=
    (br (br (pr.eq (pr.aX n0) (pr.aX n1)) false true) (some ((.bool false),[.undef,.undef])) (J 0 (jV g0 n0 c0 g1 n1 c1 0))):=by kernel_rfl
theorem o5 (g0:Bool) (n1:Nat) (c2:List D) (g3:Bool) (n4:Nat) (c5:List D) (i6:Int):bF pr cv J 53 Tryz.f53 [.undef,.undef] 0 (jV g0 n1 c2 g3 n4 c5 i6)=
    (br (pr.lt i6 (pr.aX n1)) (br (pr.bz i6 n1) (br (br (pr.bG 1 c2 (pr.idx 0 i6 1)) true false) (br (pr.bz i6 n4) (br (br (pr.bG 1 c5 (pr.idx 0 i6 1)) true false) (cv 49 [(.sl (some (pr.bD c2 (pr.idx 0 i6 1))) 1 (pr.aZ c2 (pr.idx 0 i6 1)) (pr.ba c2 (pr.idx 0 i6 1))),(.sl (some (pr.bD c5 (pr.idx 0 i6 1))) 1 (pr.aZ c5 (pr.idx 0 i6 1)) (pr.ba c5 (pr.idx 0 i6 1)))] (.bool (fun bR=>(.done (br (br bR false true) (some ((.bool false),[.undef,.undef])) (J 0 (jV g0 n1 c2 g3 n4 c5 (pr.ar .add .i64 i6 1)))))))) none) none) none) none) (some ((.bool true),[.undef,.undef]))):=by kernel_rfl
def mN (g0:Bool) (n1:Nat) (c2:List D) (i3:Int) (i4:Int):St:=(St.mk [(0,(.sl (some g0) 1 n1 c2)),(1,(.int .i64 i3)),(5,(.int .i64 i4))] [] [] 0)
theorem ye:Told cfg Tryz.prog 39 Tryz.f39:=⟨by kernel_rfl,Tryz.func39,by kernel_rfl⟩
theorem yf (g0:Bool) (n0:Nat) (c0:List D) (a1:Int):aO pr cv J 39 Tryz.f39 [(.sl (some g0) 1 n0 c0),(.int .i64 a1)]=
    (br (pr.lt (pr.ar .sub .i64 a1 (pr.aX n0)) 0) (some ((.int .i64 (-1)),[.undef,.undef])) (J 0 (mN g0 n0 c0 (pr.ar .sub .i64 a1 (pr.aX n0)) 0))):=by kernel_rfl
theorem o6 (g0:Bool) (n1:Nat) (c2:List D) (i3:Int) (i4:Int):bF pr cv J 39 Tryz.f39 [.undef,.undef] 0 (mN g0 n1 c2 i3 i4)=
    (br (pr.lt i4 (pr.aX n1)) (br (pr.bz i4 n1) (br (br (pr.bG 1 c2 (pr.idx 0 i4 1)) true false) (cv 35 [(.sl (some (pr.bD c2 (pr.idx 0 i4 1))) 1 (pr.aZ c2 (pr.idx 0 i4 1)) (pr.ba c2 (pr.idx 0 i4 1))),(.int .i64 i3)] (.int (fun dm=>(.done (br (pr.lt dm 0) (some ((.int .i64 (-1)),[.undef,.undef])) (J 0 (mN g0 n1 c2 dm (pr.ar .add .i64 i4 1)))))))) none) none) (some ((.int .i64 i3),[.undef,.undef]))):=by kernel_rfl
theorem LL:Told cfg Tryz.prog 43 Tryz.f43:=⟨by kernel_rfl,Tryz.func43,by kernel_rfl⟩
theorem LM (g0:Bool) (n0:Nat) (c0:List D) (g1:Bool) (n1:Nat) (c1:List D) (a2:Bool) (a3:Bool) (a4:Bool) (a5:Int):aO pr cv J 43 Tryz.f43 [(.agg [(.sl (some g0) 1 n0 c0),(.sl (some g1) 1 n1 c1),(.bool a2),(.bool a3),(.bool a4),(.int .i64 a5)])]=
    (cv 42 [(.sl (some g0) 1 n0 c0)] (.sl (fun dX=>(fun dt=>(.done (br (br (br (pr.nl dt) true false) true false) (cv 46 [(.sl (some g1) 1 n1 c1)] (.sl (fun oW=>(fun iU=>(.done (br (br (br (pr.nl iU) true false) true false) (some ((.agg [(.sl none 1 dX dt),(.sl none 1 oW iU),(.bool a2),(.bool a3),(.bool a4),(.int .i64 a5)]),[.undef])) none)))))) none)))))):=by kernel_rfl
theorem LN:Told cfg Tryz.prog 50 Tryz.f50:=⟨by kernel_rfl,Tryz.func50,by kernel_rfl⟩
theorem LO (g0:Bool) (n0:Nat) (c0:List D) (g1:Bool) (n1:Nat) (c1:List D) (a2:Bool) (a3:Bool) (a4:Bool) (a5:Int) (g6:Bool) (n6:Nat) (c6:List D) (g7:Bool) (n7:Nat) (c7:List D) (a8:Bool) (a9:Bool) (a10:Bool) (a11:Int):aO pr cv J 50 Tryz.f50 [(.agg [(.sl (some g0) 1 n0 c0),(.sl (some g1) 1 n1 c1),(.bool a2),(.bool a3),(.bool a4),(.int .i64 a5)]),(.agg [(.sl (some g6) 1 n6 c6),(.sl (some g7) 1 n7 c7),(.bool a8),(.bool a9),(.bool a10),(.int .i64 a11)])]=
    let y1:Option (D × List D):=(some ((.bool false),[.undef,.undef]))
    (cv 49 [(.sl (some g0) 1 n0 c0),(.sl (some g6) 1 n6 c6)] (.bool (fun bR=>(.done (br (br bR false true) y1 (cv 53 [(.sl (some g1) 1 n1 c1),(.sl (some g7) 1 n7 c7)] (.bool (fun eP=>(.done (br (br eP false true) y1 (br (br (pr.beq a2 a8) false true) y1 (br (br (pr.beq a3 a9) false true) y1 (br (br (pr.beq a4 a10) false true) y1 (br (br (pr.eq a5 a11) false true) y1 (some ((.bool true),[.undef,.undef])))))))))))))))):=by kernel_rfl
theorem LP:Told cfg Tryz.prog 36 Tryz.f36:=⟨by kernel_rfl,Tryz.func36,by kernel_rfl⟩
theorem LQ (g0:Bool) (n0:Nat) (c0:List D) (g1:Bool) (n1:Nat) (c1:List D) (a2:Bool) (a3:Bool) (a4:Bool) (a5:Int) (a6:Int):aO pr cv J 36 Tryz.f36 [(.agg [(.sl (some g0) 1 n0 c0),(.sl (some g1) 1 n1 c1),(.bool a2),(.bool a3),(.bool a4),(.int .i64 a5)]),(.int .i64 a6)]=
    let y1:Option (D × List D):=(some ((.int .i64 (-1)),[.undef,.undef]))
    (cv 35 [(.sl (some g0) 1 n0 c0),(.int .i64 a6)] (.int (fun dm=>(.done (br (pr.lt dm 0) y1 (cv 39 [(.sl (some g1) 1 n1 c1),(.int .i64 dm)] (.int (fun gK=>(.done (br (pr.lt gK 0) y1 (some ((.int .i64 gK),[.undef,.undef])))))))))))):=by kernel_rfl
theorem Je:Told cfg Tryz.prog 44 Tryz.f44:=⟨by kernel_rfl,Tryz.func44,by kernel_rfl⟩
theorem Jf (g0:Bool) (n0:Nat) (c0:List D) (g1:Bool) (n1:Nat) (c1:List D):aO pr cv J 44 Tryz.f44 [(.agg [(.sl (some g0) 1 n0 c0),(.sl (some g1) 1 n1 c1)])]=
    (cv 104 [(.sl (some g0) 1 n0 c0)] (.sl (fun dX=>(fun dt=>(.done (br (br (br (pr.nl dt) true false) true false) (cv 104 [(.sl (some g1) 1 n1 c1)] (.sl (fun oW=>(fun iU=>(.done (br (br (br (pr.nl iU) true false) true false) (some ((.agg [(.sl none 1 dX dt),(.sl none 1 oW iU)]),[.undef])) none)))))) none)))))):=by kernel_rfl
theorem Jg:Told cfg Tryz.prog 51 Tryz.f51:=⟨by kernel_rfl,Tryz.func51,by kernel_rfl⟩
theorem Jh (g0:Bool) (n0:Nat) (c0:List D) (g1:Bool) (n1:Nat) (c1:List D) (g2:Bool) (n2:Nat) (c2:List D) (g3:Bool) (n3:Nat) (c3:List D):aO pr cv J 51 Tryz.f51 [(.agg [(.sl (some g0) 1 n0 c0),(.sl (some g1) 1 n1 c1)]),(.agg [(.sl (some g2) 1 n2 c2),(.sl (some g3) 1 n3 c3)])]=
    let y1:Option (D × List D):=(some ((.bool false),[.undef,.undef]))
    (cv 116 [(.sl (some g0) 1 n0 c0),(.sl (some g2) 1 n2 c2)] (.bool (fun bR=>(.done (br (br bR false true) y1 (cv 116 [(.sl (some g1) 1 n1 c1),(.sl (some g3) 1 n3 c3)] (.bool (fun eP=>(.done (br (br eP false true) y1 (some ((.bool true),[.undef,.undef])))))))))))):=by kernel_rfl
theorem Ji:Told cfg Tryz.prog 37 Tryz.f37:=⟨by kernel_rfl,Tryz.func37,by kernel_rfl⟩
theorem Jj (g0:Bool) (n0:Nat) (c0:List D) (g1:Bool) (n1:Nat) (c1:List D) (a2:Int):aO pr cv J 37 Tryz.f37 [(.agg [(.sl (some g0) 1 n0 c0),(.sl (some g1) 1 n1 c1)]),(.int .i64 a2)]=
    let y1:Option (D × List D):=(some ((.int .i64 (-1)),[.undef,.undef]))
    (cv 96 [(.sl (some g0) 1 n0 c0),(.int .i64 a2)] (.int (fun dm=>(.done (br (pr.lt dm 0) y1 (cv 96 [(.sl (some g1) 1 n1 c1),(.int .i64 dm)] (.int (fun gK=>(.done (br (pr.lt gK 0) y1 (some ((.int .i64 gK),[.undef,.undef])))))))))))):=by kernel_rfl
theorem LR:Told cfg Tryz.prog 13 Tryz.f13:=⟨by kernel_rfl,Tryz.func13,by kernel_rfl⟩
theorem LS (a0:Int) (a1:Bool) (a2:Bool) (g3:Bool) (n3:Nat) (c3:List D) (g4:Bool) (n4:Nat) (c4:List D) (g5:Bool) (n5:Nat) (c5:List D) (a6:Bool) (a7:Bool) (a8:Bool) (a9:Int) (g10:Bool) (nf:Nat) (yg:List D) (g11:Bool) (eg:Nat) (ng:List D) (g12:Bool) (fL:Nat) (eB:List D) (g13:Bool) (kO:Nat) (gu:List D) (g14:Bool) (nI:Nat) (mo:List D) (g15:Bool) (wY:Nat) (ou:List D):aO pr cv J 13 Tryz.f13 [(.agg [(.int .i64 a0),(.bool a1),(.bool a2),(.sl (some g3) 1 n3 c3),(.sl (some g4) 1 n4 c4),(.sl (some g5) 1 n5 c5),(.bool a6),(.bool a7),(.bool a8),(.int .i64 a9),(.sl (some g10) 1 nf yg),(.sl (some g11) 1 eg ng),(.sl (some g12) 1 fL eB),(.sl (some g13) 1 kO gu),(.sl (some g14) 1 nI mo),(.sl (some g15) 1 wY ou)])]=
    (cv 42 [(.sl (some g3) 1 n3 c3)] (.sl (fun dX=>(fun dt=>(.done (br (br (br (pr.nl dt) true false) true false) (cv 43 [(.agg [(.sl (some g4) 1 n4 c4),(.sl (some g5) 1 n5 c5),(.bool a6),(.bool a7),(.bool a8),(.int .i64 a9)])] (.sl (fun oW=>(fun iU=>(.sl (fun yi=>(fun uz=>(.bool (fun tV=>(.bool (fun vb7=>(.bool (fun Sz=>(.int (fun vx9=>(.done (br (br (br (pr.nl iU) (br (pr.nl uz) true false) false) true false) (cv 44 [(.agg [(.sl (some g10) 1 nf yg),(.sl (some g11) 1 eg ng)])] (.sl (fun aim=>(fun ad4=>(.sl (fun ain=>(fun ad5=>(.done (br (br (br (pr.nl ad4) (br (pr.nl ad5) true false) false) true false) (cv 45 [(.sl (some g12) 1 fL eB)] (.sl (fun aio=>(fun ad6=>(.done (br (br (br (pr.nl ad6) true false) true false) (cv 46 [(.sl (some g13) 1 kO gu)] (.sl (fun aip=>(fun ad7=>(.done (br (br (br (pr.nl ad7) true false) true false) (cv 45 [(.sl (some g14) 1 nI mo)] (.sl (fun T9=>(fun Pu=>(.done (br (br (br (pr.nl Pu) true false) true false) (cv 42 [(.sl (some g15) 1 wY ou)] (.sl (fun aiq=>(fun ad8=>(.done (br (br (br (pr.nl ad8) true false) true false) (some ((.agg [(.int .i64 a0),(.bool a1),(.bool a2),(.sl none 1 dX dt),(.sl none 1 oW iU),(.sl none 1 yi uz),(.bool tV),(.bool vb7),(.bool Sz),(.int .i64 vx9),(.sl none 1 aim ad4),(.sl none 1 ain ad5),(.sl none 1 aio ad6),(.sl none 1 aip ad7),(.sl none 1 T9 Pu),(.sl none 1 aiq ad8)]),[.undef])) none)))))) none)))))) none)))))) none)))))) none))))))))) none))))))))))))))))) none)))))):=by kernel_rfl
theorem LU:Told cfg Tryz.prog 15 Tryz.f15:=⟨by kernel_rfl,Tryz.func15,by kernel_rfl⟩
theorem LV (a0:Int) (a1:Bool) (a2:Bool) (g3:Bool) (n3:Nat) (c3:List D) (g4:Bool) (n4:Nat) (c4:List D) (g5:Bool) (n5:Nat) (c5:List D) (a6:Bool) (a7:Bool) (a8:Bool) (a9:Int) (g10:Bool) (nf:Nat) (yg:List D) (g11:Bool) (eg:Nat) (ng:List D) (g12:Bool) (fL:Nat) (eB:List D) (g13:Bool) (kO:Nat) (gu:List D) (g14:Bool) (nI:Nat) (mo:List D) (g15:Bool) (wY:Nat) (ou:List D) (a16:Int) (a17:Bool) (a18:Bool) (g19:Bool) (Pv:Nat) (wZ:List D) (g20:Bool) (rj:Nat) (Pw:List D) (g21:Bool) (n21:Nat) (rk:List D) (a22:Bool) (a23:Bool) (a24:Bool) (a25:Int) (g26:Bool) (qw:Nat) (Px:List D) (Py:Bool) (n27:Nat) (pA:List D) (Pz:Bool) (yj:Nat) (c28:List D) (g29:Bool) (n29:Nat) (yk:List D) (PA:Bool) (n30:Nat) (PB:List D) (PC:Bool) (n31:Nat) (c31:List D):aO pr cv J 15 Tryz.f15 [(.agg [(.int .i64 a0),(.bool a1),(.bool a2),(.sl (some g3) 1 n3 c3),(.sl (some g4) 1 n4 c4),(.sl (some g5) 1 n5 c5),(.bool a6),(.bool a7),(.bool a8),(.int .i64 a9),(.sl (some g10) 1 nf yg),(.sl (some g11) 1 eg ng),(.sl (some g12) 1 fL eB),(.sl (some g13) 1 kO gu),(.sl (some g14) 1 nI mo),(.sl (some g15) 1 wY ou)]),(.agg [(.int .i64 a16),(.bool a17),(.bool a18),(.sl (some g19) 1 Pv wZ),(.sl (some g20) 1 rj Pw),(.sl (some g21) 1 n21 rk),(.bool a22),(.bool a23),(.bool a24),(.int .i64 a25),(.sl (some g26) 1 qw Px),(.sl (some Py) 1 n27 pA),(.sl (some Pz) 1 yj c28),(.sl (some g29) 1 n29 yk),(.sl (some PA) 1 n30 PB),(.sl (some PC) 1 n31 c31)])]=
    let y1:Option (D × List D):=(some ((.bool false),[.undef,.undef]))
    (br (br (pr.eq a0 a16) false true) y1 (br (br (pr.beq a1 a17) false true) y1 (br (br (pr.beq a2 a18) false true) y1 (cv 49 [(.sl (some g3) 1 n3 c3),(.sl (some g19) 1 Pv wZ)] (.bool (fun bR=>(.done (br (br bR false true) y1 (cv 50 [(.agg [(.sl (some g4) 1 n4 c4),(.sl (some g5) 1 n5 c5),(.bool a6),(.bool a7),(.bool a8),(.int .i64 a9)]),(.agg [(.sl (some g20) 1 rj Pw),(.sl (some g21) 1 n21 rk),(.bool a22),(.bool a23),(.bool a24),(.int .i64 a25)])] (.bool (fun eP=>(.done (br (br eP false true) y1 (cv 51 [(.agg [(.sl (some g10) 1 nf yg),(.sl (some g11) 1 eg ng)]),(.agg [(.sl (some g26) 1 qw Px),(.sl (some Py) 1 n27 pA)])] (.bool (fun iC=>(.done (br (br iC false true) y1 (cv 52 [(.sl (some g12) 1 fL eB),(.sl (some Pz) 1 yj c28)] (.bool (fun BD=>(.done (br (br BD false true) y1 (cv 53 [(.sl (some g13) 1 kO gu),(.sl (some g29) 1 n29 yk)] (.bool (fun Wd=>(.done (br (br Wd false true) y1 (cv 52 [(.sl (some g14) 1 nI mo),(.sl (some PA) 1 n30 PB)] (.bool (fun rl=>(.done (br (br rl false true) y1 (cv 49 [(.sl (some g15) 1 wY ou),(.sl (some PC) 1 n31 c31)] (.bool (fun tV=>(.done (br (br tV false true) y1 (some ((.bool true),[.undef,.undef])))))))))))))))))))))))))))))))))))))))):=by kernel_rfl
theorem LW:Told cfg Tryz.prog 11 Tryz.f11:=⟨by kernel_rfl,Tryz.func11,by kernel_rfl⟩
theorem LX (a0:Int) (a1:Bool) (a2:Bool) (g3:Bool) (n3:Nat) (c3:List D) (g4:Bool) (n4:Nat) (c4:List D) (g5:Bool) (n5:Nat) (c5:List D) (a6:Bool) (a7:Bool) (a8:Bool) (a9:Int) (g10:Bool) (nf:Nat) (yg:List D) (g11:Bool) (eg:Nat) (ng:List D) (g12:Bool) (fL:Nat) (eB:List D) (g13:Bool) (kO:Nat) (gu:List D) (g14:Bool) (nI:Nat) (mo:List D) (g15:Bool) (wY:Nat) (ou:List D) (a16:Int):aO pr cv J 11 Tryz.f11 [(.agg [(.int .i64 a0),(.bool a1),(.bool a2),(.sl (some g3) 1 n3 c3),(.sl (some g4) 1 n4 c4),(.sl (some g5) 1 n5 c5),(.bool a6),(.bool a7),(.bool a8),(.int .i64 a9),(.sl (some g10) 1 nf yg),(.sl (some g11) 1 eg ng),(.sl (some g12) 1 fL eB),(.sl (some g13) 1 kO gu),(.sl (some g14) 1 nI mo),(.sl (some g15) 1 wY ou)]),(.int .i64 a16)]=
    let y1:Option (D × List D):=(some ((.int .i64 (-1)),[.undef,.undef]))
    (cv 35 [(.sl (some g3) 1 n3 c3),(.int .i64 a16)] (.int (fun dm=>(.done (br (pr.lt dm 0) y1 (cv 36 [(.agg [(.sl (some g4) 1 n4 c4),(.sl (some g5) 1 n5 c5),(.bool a6),(.bool a7),(.bool a8),(.int .i64 a9)]),(.int .i64 dm)] (.int (fun gK=>(.done (br (pr.lt gK 0) y1 (cv 37 [(.agg [(.sl (some g10) 1 nf yg),(.sl (some g11) 1 eg ng)]),(.int .i64 gK)] (.int (fun rm=>(.done (br (pr.lt rm 0) y1 (cv 38 [(.sl (some g12) 1 fL eB),(.int .i64 rm)] (.int (fun rS=>(.done (br (pr.lt rS 0) y1 (cv 39 [(.sl (some g13) 1 kO gu),(.int .i64 rS)] (.int (fun ov=>(.done (br (pr.lt ov 0) y1 (cv 38 [(.sl (some g14) 1 nI mo),(.int .i64 ov)] (.int (fun rT=>(.done (br (pr.lt rT 0) y1 (cv 35 [(.sl (some g15) 1 wY ou),(.int .i64 rT)] (.int (fun We=>(.done (br (pr.lt We 0) y1 (some ((.int .i64 We),[.undef,.undef]))))))))))))))))))))))))))))))))))))):=by kernel_rfl
end
def rU (xss:List (List Int)):Prop:=xss.length≤1048576∧∀ xs∈xss,xs.length≤1048576
structure cO (m:aK):Prop where
  aA:m.aA.length≤1048576
  bits:rU m.bits
structure dN (s:aJ):Prop where
  a:s.a.length≤1048576
  b:s.b.length≤1048576
structure bU (n:ae):Prop where
  image:n.image.length≤1048576
  mt:cO n.mt
  aN:dN n.aN
  conn:n.conn.length≤1048576
  sync:rU n.sync
  aM:n.aM.length≤1048576
  wait:n.wait.length≤1048576
section
variable {x y:Rz} {R:Type} {u v:R}
theorem iF {g:Bool} {xss:List (List Int)} {i:Nat} (h:i < xss.length):br (ad.bG 1 (rows (some g) xss) i) u v=u:=by simp [ad,rows,br,List.getElem?_eq_getElem h]
theorem iG {g:Bool} {xss:List (List Int)} {i:Nat} (h:i < xss.length):ad.bD (rows (some g) xss) i=g:=by simp [ad,rows,List.getElem?_eq_getElem h,cG]
theorem ic {g:Option Bool} {xss:List (List Int)} {i:Nat} (h:i < xss.length):ad.aZ (rows g xss) i=xss[i].length:=by simp [ad,rows,List.getElem?_eq_getElem h,cN]
theorem iH {g:Option Bool} {xss:List (List Int)} {i:Nat} (h:i < xss.length):ad.ba (rows g xss) i=ints xss[i]:=by simp [ad,rows,List.getElem?_eq_getElem h,cC]
theorem SA {xss:List (List Int)} {i:Nat} (h:i < xss.length):br (ad.jN 1 (rows none xss) i) u v=u:=by simp [ad,rows,br,List.getElem?_eq_getElem h]
theorem ad9 {xss:List (List Int)} {i:Nat} (h:i < xss.length):br (ad.VE (rows none xss) i) u v=u:=by simp [ad,rows,br,List.getElem?_eq_getElem h]
theorem aea {g:Option Bool} {xss:List (List Int)} (h:0 < xss.length):br (ad.ne (rows g xss)) u v=u:=by
  cases xss with
  | nil=>simp at h
  | cons _ _=>rfl
theorem EZ {xss:List (List Int)} {i:Nat} {ys:List Int}:List.set (rows none xss) i (.sl none 1 ys.length (ints ys))=rows none (xss.set i ys):=by simp [rows,List.map_set]
theorem Wf (n:Nat):fF n [.nil 1]=rows none (List.replicate n []):=by
  unfold fF
  induction n with
  | zero=>rfl
  | succ n ih=>simpa [List.replicate_succ,rows,vc,ints] using ih
theorem aah {g:Option Bool} (hg:g≠some true) (xss:List (List Int)):ad.nl (rows g xss)=true:=oq (by
  intro d hd
  obtain ⟨xs,_,rfl⟩:=List.mem_map.1 hd
  have h1:cm (ints xs)=true:=iT xs
  cases g with
  | none=>simpa [cf] using h1
  | some g=>cases g with
    | false=>simpa [cf] using h1
    | true=>exact absurd rfl hg)
theorem ym (xss:List (List Int)):ad.nl (rows none xss)=true:=aah (by simp) xss
end
section
variable (t:bE Rz)
theorem zC (g:Bool) (xs:List Int) (hb:xs.length≤17592186044416):aL 42 [.sl (some g) 1 xs.length (ints xs)] t=feed t [.sl none 1 xs.length (ints xs)]:=aW (Yo g xs hb (by omega)) (by kernel_rfl) t
theorem K9 (g:Bool) (xs:List UInt8) (hb:xs.length≤140737488355328):aL 104 [.sl (some g) 1 xs.length (bytes xs)] t=feed t [.sl none 1 xs.length (bytes xs)]:=aW (V7 g xs hb (by omega)) (by kernel_rfl) t
theorem Wg (g:Bool) (xs:List Bool) (hb:xs.length≤140737488355328):aL 45 [.sl (some g) 1 xs.length (aG xs)] t=feed t [.sl none 1 xs.length (aG xs)]:=aW (Wa g xs hb (by omega)) (by kernel_rfl) t
theorem vU (g h:Bool) (xs ys:List Int) (hb:xs.length < 9223372036854775807):aL 49 [.sl (some g) 1 xs.length (ints xs),.sl (some h) 1 ys.length (ints ys)] t=feed t [.bool (decide (xs=ys))]:=aW (Yp g h xs ys hb) (by kernel_rfl) t
theorem Lb (g h:Bool) (xs ys:List UInt8) (hb:xs.length < 9223372036854775807):aL 116 [.sl (some g) 1 xs.length (bytes xs),.sl (some h) 1 ys.length (bytes ys)] t=feed t [.bool (decide (xs=ys))]:=aW (V8 g h xs ys hb) (by kernel_rfl) t
theorem Wh (g h:Bool) (xs ys:List Bool) (hb:xs.length < 9223372036854775807):aL 52 [.sl (some g) 1 xs.length (aG xs),.sl (some h) 1 ys.length (aG ys)] t=feed t [.bool (decide (xs=ys))]:=aW (Wb g h xs ys hb) (by kernel_rfl) t
theorem sS (g:Bool) (n:Nat) (c:List D) (left:Int) (h0:0≤left) (h1:left≤1048576) (hn:n≤140737488355328):aL 35 [.sl (some g) 1 n c,.int .i64 left] t=feed t [.int .i64 (eX n left)]:=aW (Yq g n c left h0 h1 hn) (by kernel_rfl) t
theorem BE (g:Bool) (n:Nat) (c:List D) (left:Int) (h0:0≤left) (h1:left≤1048576) (hn:n≤140737488355328):aL 96 [.sl (some g) 1 n c,.int .i64 left] t=feed t [.int .i64 (eX n left)]:=aW (V9 g n c left h0 h1 hn) (by kernel_rfl) t
theorem Lc (g:Bool) (n:Nat) (c:List D) (left:Int) (h0:0≤left) (h1:left≤1048576) (hn:n≤140737488355328):aL 38 [.sl (some g) 1 n c,.int .i64 left] t=feed t [.int .i64 (eX n left)]:=aW (Wc g n c left h0 h1 hn) (by kernel_rfl) t
end
theorem cd {R:Type} (f:Int→bE R) (k:IntKind) (n:Int) (l:List D):feed (.int f) (.int k n::l)=feed (f n) l:=rfl
theorem aE {R:Type} (f:Bool→bE R) (b:Bool) (l:List D):feed (.bool f) (.bool b::l)=feed (f b) l:=rfl
theorem dv {R:Type} (f:Nat→List D→bE R) (s n:Nat) (cs l:List D):feed (.sl f) (.sl none s n cs::l)=feed (f n cs) l:=rfl
theorem ao {R:Type} (x:Option R) (l:List D):feed (.done x) l=x:=rfl
theorem Wi (g:Bool) (xss:List (List Int)) (hb:rU xss):Cm 46 [sR (some g) xss] (sR none xss,[.undef]):=by
  have hl:=hb.1
  refine Cm.go Jc [.undef] 0 (jU g xss.length (rows (some g) xss) (0:Nat) xss.length (rows none (List.replicate xss.length []))) ?_ fun J hJ=>?_
  · refine WP.loop (H:=fun i=>jU g xss.length (rows (some g) xss) (i:Nat) xss.length (rows none (xss.take i++List.replicate (xss.length - i) []))) (n:=xss.length) (fun _=>True) (fun i hi _ ih=>WP.go _ (ih trivial) fun J hJ=>?_) (fun _=>WP.fin fun J=>?_) 0 (Nat.zero_le _) trivial
    · rw [uy]
      have hx:xss[i].length≤1048576:=hb.2 _ (List.getElem_mem hi)
      simp (disch:=first | omega | (simp; done) | (simp; omega)) only [aH,bc,bf,ay,aY,bC,cR,iF,iG,ic,iH,zC,dv,ao,iT,SA,aea,EZ,df,x6]
      rw [pX hi _ xss rfl hi]
      exact hJ
    · rw [uy]
      simp (disch:=omega) only [aH,bc,ay,bA,List.take_length,Nat.sub_self,List.replicate_zero,List.append_nil]
  · rw [Jd]
    simp (disch:=omega) only [aH,bc,ay,sQ,zA,Wf]
    exact hJ
theorem Wj (g h:Bool) (xs ys:List (List Int)) (hb:rU xs):Cm 53 [sR (some g) xs,sR (some h) ys] (.bool (decide (xs=ys)),[.undef,.undef]):=by
  have hlen:=hb.1
  by_cases hl:xs.length=ys.length
  · refine Cm.go yc [.undef,.undef] 0 (jV g xs.length (rows (some g) xs) h ys.length (rows (some h) ys) (0:Nat)) ?_ fun J hJ=>?_
    · refine WP.loop (H:=fun i=>jV g xs.length (rows (some g) xs) h ys.length (rows (some h) ys) (i:Nat)) (n:=xs.length) (fun i=>xs.take i=ys.take i) (fun i hi hv ih=>?_) (fun hv=>WP.fin fun J=>?_) 0 (Nat.zero_le _) (by simp)
      · have oc:i < ys.length:=by omega
        have hx:xs[i].length≤1048576:=hb.2 _ (List.getElem_mem hi)
        by_cases he:xs[i]=ys[i]
        · refine WP.go _ (ih (by rw [← List.take_append_getElem hi,← List.take_append_getElem oc,hv,he])) fun J hJ=>?_
          rw [o5]
          simp (disch:=omega) only [aH,bc,bf,bJ,bY,ay,aY,bC,cR,iF,iG,ic,iH,vU,aE,ao,decide_eq_true he,df]
          exact hJ
        · refine WP.fin fun J=>?_
          rw [o5]
          have dc:xs≠ys:=fun e=>he (by subst e; rfl)
          simp (disch:=omega) only [aH,bc,bf,bJ,bY,ay,aY,bC,cR,iF,iG,ic,iH,vU,aE,ao,decide_eq_false he,decide_eq_false dc]
      · rw [o5]
        rw [List.take_length,hl,List.take_length] at hv
        simp (disch:=omega) only [aH,bc,ay,bA,decide_eq_true hv]
    · rw [yd]
      simp (disch:=omega) only [aH,bc,ay,bJ,bY,fZ]
      exact hJ
  · refine Cm.fin yc fun J=>?_
    have dc:xs≠ys:=fun e=>hl (by rw [e])
    rw [yd]
    simp (disch:=omega) only [aH,bc,ay,bJ,bY,ej,decide_eq_false dc]
def iI (v:Int) (k:Int→Int):Int:=if v < 0 then -1 else k v
def oX {α:Type} (f:α→Int→Int):List α→Int→Int
  | [],l=>l
  | x::xs,l=>iI (f x l) (oX f xs)
theorem iJ {n:Nat} {l:Int} (h:0≤l):eX n l≤l∧-1≤eX n l∧(0≤eX n l→(n:Int)≤l):=by unfold eX; split<;>omega
theorem oQ {v:Int} (k:Int→Int) (h:v < 0):iI v k=-1:=if_pos h
theorem oR {v:Int} (k:Int→Int) (h:0≤v):iI v k=k v:=if_neg (by omega)
theorem GZ {α:Type} {f:α→Int→Int} {Q:α→Prop} (hf:∀ x l,0≤l→f x l≤l∧-1≤f x l∧(0≤f x l→l≤1048576→Q x)):∀ (xs:List α) (l:Int),0≤l→l≤1048576→oX f xs l≤l∧-1≤oX f xs l∧(0≤oX f xs l→∀ x∈xs,Q x)
  | [],l,h,_=>⟨Int.le_refl _,by show -1≤l; omega,fun _=>by simp⟩
  | x::xs,l,h,hm=>by
    obtain ⟨h1,h2,h3⟩:=hf x l h
    simp only [oX]
    by_cases hv:f x l < 0
    · rw [oQ _ hv]
      exact ⟨by omega,by omega,by omega⟩
    · rw [oR _ (by omega)]
      obtain ⟨g1,g2,g3⟩:=GZ hf xs (f x l) (by omega) (by omega)
      refine ⟨by omega,g2,fun hp y hy=>?_⟩
      rcases List.mem_cons.1 hy with rfl | hy
      · exact h3 (by omega) hm
      · exact g3 hp y hy
def yn (xss:List (List Int)) (l:Int):Int:=iI (eX xss.length l) (oX (fun xs l=>eX xs.length l) xss)
theorem PD {xss:List (List Int)} {l:Int} (h:0≤l) (hm:l≤1048576):yn xss l≤l∧-1≤yn xss l∧(0≤yn xss l→rU xss):=by
  obtain ⟨h1,h2,h3⟩:=iJ (n:=xss.length) h
  unfold yn
  by_cases hv:eX xss.length l < 0
  · rw [oQ _ hv]
    exact ⟨by omega,by omega,by omega⟩
  · rw [oR _ (by omega)]
    obtain ⟨g1,g2,g3⟩:=GZ (f:=fun (xs:List Int) l=>eX xs.length l) (Q:=fun xs=>xs.length≤1048576) (fun xs l hl=>by
      obtain ⟨a1,a2,a3⟩:=iJ (n:=xs.length) hl
      exact ⟨a1,a2,fun hh hm=>by have:=a3 hh; omega⟩) xss (eX xss.length l) (by omega) (by omega)
    exact ⟨by omega,g2,fun hp=>⟨by have:=h3 (by omega); omega,g3 hp⟩⟩
theorem Wk (g:Bool) (xss:List (List Int)) (left:Int) (h0:0≤left) (h1:left≤1048576) (hn:xss.length≤140737488355328) (hx:∀ xs∈xss,xs.length≤140737488355328):Cm 39 [sR (some g) xss,.int .i64 left] (.int .i64 (yn xss left),[.undef,.undef]):=by
  have hlen:=iJ (n:=xss.length) h0
  have loop:∀ k i (l:Int),i+k=xss.length→0≤l→l≤1048576→WP 39 Tryz.f39 [.undef,.undef] 0 (mN g xss.length (rows (some g) xss) l (i:Nat)) (.int .i64 (oX (fun xs l=>eX xs.length l) (xss.drop i) l),[.undef,.undef]):=by
    intro k
    induction k with
    | zero=>
      intro i l hi hl hm
      refine WP.fin fun J=>?_
      rw [o6,List.drop_of_length_le (by omega)]
      simp (disch:=omega) only [ay,bA,oX]
    | succ k ih=>
      intro i l hi hl hm
      have oc:i < xss.length:=by omega
      have hxi:=hx _ (List.getElem_mem oc)
      obtain ⟨a1,a2,a3⟩:=iJ (n:=xss[i].length) hl
      have e:oX (fun xs l=>eX xs.length l) (xss.drop i) l=iI (eX xss[i].length l) (oX (fun xs l=>eX xs.length l) (xss.drop (i+1))):=by
        rw [← List.getElem_cons_drop oc]
        rfl
      rw [e]
      by_cases hv:eX xss[i].length l < 0
      · refine WP.fin fun J=>?_
        rw [o6,oQ _ hv]
        simp (disch:=omega) only [aH,bc,bf,ay,aY,bC,cR,iF,iG,ic,iH,sS,cd,ao]
      · rw [oR _ (by omega)]
        refine WP.go _ (ih (i+1) (eX xss[i].length l) (by omega) (by omega) (by omega)) fun J hJ=>?_
        rw [o6]
        have lH:0≤eX xss[i].length l:=by omega
        simp (disch:=omega) only [aH,bc,bf,ay,aY,bC,cR,iF,iG,ic,iH,sS,cd,ao,bA,df]
        exact hJ
  by_cases h:left < xss.length
  · refine Cm.fin ye fun J=>?_
    rw [yf,yn,oQ _ (by unfold eX; rw [if_pos h]; omega)]
    simp (disch:=omega) only [ay,fI,aY]
  · have e:eX xss.length left=left - xss.length:=if_neg h
    rw [yn,oR _ (by omega),e]
    refine Cm.go ye [.undef,.undef] 0 _ (loop xss.length 0 (left - xss.length) (by omega) (by omega) (by omega)) fun J hJ=>?_
    rw [yf]
    simp (disch:=omega) only [ay,fI,bA]
    exact hJ
section
variable (t:bE Rz)
theorem Ld (g:Bool) (xss:List (List Int)) (hb:rU xss):aL 46 [.sl (some g) 1 xss.length (rows (some g) xss)] t=feed t [.sl none 1 xss.length (rows none xss)]:=aW (Wi g xss hb) (by kernel_rfl) t
theorem Le (g h:Bool) (xs ys:List (List Int)) (hb:rU xs):aL 53 [.sl (some g) 1 xs.length (rows (some g) xs),.sl (some h) 1 ys.length (rows (some h) ys)] t=feed t [.bool (decide (xs=ys))]:=aW (Wj g h xs ys hb) (by kernel_rfl) t
theorem Lf (g:Bool) (xss:List (List Int)) (left:Int) (h0:0≤left) (h1:left≤1048576) (hn:xss.length≤140737488355328) (hx:∀ xs∈xss,xs.length≤140737488355328):aL 39 [.sl (some g) 1 xss.length (rows (some g) xss),.int .i64 left] t=feed t [.int .i64 (yn xss left)]:=aW (Wk g xss left h0 h1 hn hx) (by kernel_rfl) t
end
theorem Yr (g:Bool) (m:aK) (h:cO m):Cm 43 [.agg (bX (some g) m)] (.agg (bX none m),[.undef]):=by
  have h1:=h.aA
  refine Cm.fin LL fun J=>?_
  rw [LM]
  simp (disch:=first | omega | exact h.bits) only [zC,Ld,dv,ao,iT,ym,aH]
theorem Wl (g:Bool) (s:aJ) (h:dN s):Cm 44 [.agg (cT (some g) s)] (.agg (cT none s),[.undef]):=by
  have h1:=h.a
  have h2:=h.b
  refine Cm.fin Je fun J=>?_
  rw [Jf]
  simp (disch:=omega) only [K9,dv,ao,eI,aH]
theorem Yt (g h:Bool) (m:aK) (ok:cO m):Cm 50 [.agg (bX (some g) m),.agg (bX (some h) m)] (.bool true,[.undef,.undef]):=by
  have h1:=ok.aA
  refine Cm.fin LN fun J=>?_
  rw [LO]
  simp (disch:=first | omega | exact ok.bits) only [vU,Le,aE,ao,decide_true,aH,bc,uR,beq_self_eq_true,fZ]
theorem Wm (g h:Bool) (s:aJ) (ok:dN s):Cm 51 [.agg (cT (some g) s),.agg (cT (some h) s)] (.bool true,[.undef,.undef]):=by
  have h1:=ok.a
  have h2:=ok.b
  refine Cm.fin Jg fun J=>?_
  rw [Jh]
  simp (disch:=omega) only [Lb,aE,ao,decide_true,aH,bc]
structure PE (m:aK):Prop where
  aA:m.aA.length≤140737488355328
  bits:m.bits.length≤140737488355328
  bit:∀ xs∈m.bits,xs.length≤140737488355328
structure rn (n:ae):Prop where
  image:n.image.length≤140737488355328
  mt:PE n.mt
  a:n.aN.a.length≤140737488355328
  b:n.aN.b.length≤140737488355328
  conn:n.conn.length≤140737488355328
  sync:n.sync.length≤140737488355328
  syn:∀ xs∈n.sync,xs.length≤140737488355328
  aM:n.aM.length≤140737488355328
  wait:n.wait.length≤140737488355328
def u6 (m:aK) (l:Int):Int:=iI (eX m.aA.length l) fun l=>iI (yn m.bits l) fun l=>l
def sT (s:aJ) (l:Int):Int:=iI (eX s.a.length l) fun l=>iI (eX s.b.length l) fun l=>l
def ew (n:ae) (l:Int):Int:=iI (eX n.image.length l) fun l=>iI (u6 n.mt l) fun l=>iI (sT n.aN l) fun l=>iI (eX n.conn.length l) fun l=>iI (yn n.sync l) fun l=>iI (eX n.aM.length l) fun l=>iI (eX n.wait.length l) fun l=>l
theorem gQ {v l:Int} {k:Int→Int} {Q Q':Prop} (hl:0≤l) (hv:v≤l∧-1≤v∧(0≤v→Q)) (hk:0≤v→k v≤v∧-1≤k v∧(0≤k v→Q')):iI v k≤l∧-1≤iI v k∧(0≤iI v k→Q∧Q'):=by
  unfold iI
  split
  · omega
  · obtain ⟨a,b,c⟩:=hk (by omega)
    exact ⟨by omega,b,fun h=>⟨hv.2.2 (by omega),c h⟩⟩
theorem G0 {l:Int} (h:0≤l):l≤l∧-1≤l∧(0≤l→True):=⟨by omega,by omega,fun _=>trivial⟩
theorem pB {n:Nat} {l:Int} (h:0≤l) (hm:l≤1048576):eX n l≤l∧-1≤eX n l∧(0≤eX n l→n≤1048576):=by
  obtain ⟨a,b,c⟩:=iJ (n:=n) h
  exact ⟨a,b,fun hh=>by have:=c hh; omega⟩
theorem G1 {m:aK} {l:Int} (h:0≤l) (hm:l≤1048576):u6 m l≤l∧-1≤u6 m l∧(0≤u6 m l→cO m):=by
  have a1:=pB (n:=m.aA.length) h hm
  have:=gQ (k:=fun l=>iI (yn m.bits l) fun l=>l) h a1 fun h2=>gQ h2 (PD (xss:=m.bits) h2 (by omega)) fun h3=>G0 h3
  exact ⟨this.1,this.2.1,fun hh=>by obtain ⟨b1,b2,_⟩:=this.2.2 hh; exact ⟨b1,b2⟩⟩
theorem D8 {s:aJ} {l:Int} (h:0≤l) (hm:l≤1048576):sT s l≤l∧-1≤sT s l∧(0≤sT s l→dN s):=by
  have a1:=pB (n:=s.a.length) h hm
  have:=gQ (k:=fun l=>iI (eX s.b.length l) fun l=>l) h a1 fun h2=>gQ h2 (pB (n:=s.b.length) h2 (by omega)) fun h3=>G0 h3
  exact ⟨this.1,this.2.1,fun hh=>by obtain ⟨b1,b2,_⟩:=this.2.2 hh; exact ⟨b1,b2⟩⟩
theorem zD {n:ae} {l:Int} (h:0≤l) (hm:l≤1048576):ew n l≤l∧-1≤ew n l∧(0≤ew n l→bU n):=by
  have a1:=pB (n:=n.image.length) h hm
  have a2:∀ {l:Int},0≤l→l≤1048576→_:=fun {l} h hm=>G1 (m:=n.mt) (l:=l) h hm
  have a3:∀ {l:Int},0≤l→l≤1048576→_:=fun {l} h hm=>D8 (s:=n.aN) (l:=l) h hm
  have a4:∀ {l:Int},0≤l→l≤1048576→_:=fun {l} h hm=>pB (n:=n.conn.length) (l:=l) h hm
  have a5:∀ {l:Int},0≤l→l≤1048576→_:=fun {l} h hm=>PD (xss:=n.sync) (l:=l) h hm
  have a6:∀ {l:Int},0≤l→l≤1048576→_:=fun {l} h hm=>pB (n:=n.aM.length) (l:=l) h hm
  have a7:∀ {l:Int},0≤l→l≤1048576→_:=fun {l} h hm=>pB (n:=n.wait.length) (l:=l) h hm
  have key:ew n l≤l∧-1≤ew n l∧(0≤ew n l→n.image.length≤1048576∧cO n.mt∧dN n.aN∧n.conn.length≤1048576∧rU n.sync∧n.aM.length≤1048576∧n.wait.length≤1048576∧True):=by
    unfold ew
    refine gQ h a1 fun h1=>?_
    have k1:=a2 h1 (by omega)
    refine gQ h1 k1 fun h2=>?_
    have k2:=a3 h2 (by omega)
    refine gQ h2 k2 fun h3=>?_
    have k3:=a4 h3 (by omega)
    refine gQ h3 k3 fun h4=>?_
    have k4:=a5 h4 (by omega)
    refine gQ h4 k4 fun h5=>?_
    have k5:=a6 h5 (by omega)
    refine gQ h5 k5 fun h6=>?_
    exact gQ h6 (a7 h6 (by omega)) fun h7=>G0 h7
  refine ⟨key.1,key.2.1,fun hh=>?_⟩
  obtain ⟨b1,b2,b3,b4,b5,b6,b7,_⟩:=key.2.2 hh
  exact ⟨b1,b2,b3,b4,b5,b6,b7⟩
theorem jm {f:Int→Option Rz} {g:Int→Int} {outs:List D} {v:Int} (h:0≤v→f v=some (.int .i64 (g v),outs)):br (ad.lt v 0) (some (.int .i64 (-1),outs)) (f v)=some (.int .i64 (iI v g),outs):=by
  by_cases hv:v < 0
  · rw [aY hv,oQ _ hv]
  · rw [bA (by omega),oR _ (by omega),h (by omega)]
theorem Yu (g:Bool) (m:aK) (left:Int) (h0:0≤left) (h1:left≤1048576) (ln:PE m):Cm 36 [.agg (bX (some g) m),.int .i64 left] (.int .i64 (u6 m left),[.undef,.undef]):=by
  refine Cm.fin LP fun J=>?_
  rw [LQ]
  have l1:=ln.aA
  have a1:=iJ (n:=m.aA.length) h0
  simp (disch:=omega) only [sS,cd,ao]
  refine jm (f:=fun v=>aL 39 _ _) fun p1=>?_
  simp (disch:=first | omega | exact ln.bits | exact ln.bit) only [Lf,cd,ao]
  exact jm (f:=fun v=>some (.int .i64 v,[.undef,.undef])) fun _=>rfl
theorem Wn (g:Bool) (s:aJ) (left:Int) (h0:0≤left) (h1:left≤1048576) (l1:s.a.length≤140737488355328) (l2:s.b.length≤140737488355328):Cm 37 [.agg (cT (some g) s),.int .i64 left] (.int .i64 (sT s left),[.undef,.undef]):=by
  refine Cm.fin Ji fun J=>?_
  rw [Jj]
  have a1:=iJ (n:=s.a.length) h0
  simp (disch:=omega) only [BE,cd,ao]
  refine jm (f:=fun v=>aL 96 _ _) fun p1=>?_
  simp (disch:=omega) only [BE,cd,ao]
  exact jm (f:=fun v=>some (.int .i64 v,[.undef,.undef])) fun _=>rfl
section
variable (t:bE Rz)
theorem Yv (g:Bool) (m:aK) (h:cO m):aL 43 [.agg (bX (some g) m)] t=feed t (bX none m):=aW (Yr g m h) (by kernel_rfl) t
theorem Wo (g:Bool) (s:aJ) (h:dN s):aL 44 [.agg (cT (some g) s)] t=feed t (cT none s):=aW (Wl g s h) (by kernel_rfl) t
theorem Yw (g h:Bool) (m:aK) (ok:cO m):aL 50 [.agg (bX (some g) m),.agg (bX (some h) m)] t=feed t [.bool true]:=aW (Yt g h m ok) (by kernel_rfl) t
theorem Wp (g h:Bool) (s:aJ) (ok:dN s):aL 51 [.agg (cT (some g) s),.agg (cT (some h) s)] t=feed t [.bool true]:=aW (Wm g h s ok) (by kernel_rfl) t
theorem Yx (g:Bool) (m:aK) (left:Int) (h0:0≤left) (h1:left≤1048576) (ln:PE m):aL 36 [.agg (bX (some g) m),.int .i64 left] t=feed t [.int .i64 (u6 m left)]:=aW (Yu g m left h0 h1 ln) (by kernel_rfl) t
theorem Wq (g:Bool) (s:aJ) (left:Int) (h0:0≤left) (h1:left≤1048576) (l1:s.a.length≤140737488355328) (l2:s.b.length≤140737488355328):aL 37 [.agg (cT (some g) s),.int .i64 left] t=feed t [.int .i64 (sT s left)]:=aW (Wn g s left h0 h1 l1 l2) (by kernel_rfl) t
end
theorem Yy (g:Bool) (n:ae) (h:bU n):Cm 13 [.agg (U (some g) n)] (.agg (U none n),[.undef]):=by
  have h1:=h.image
  have h2:=h.conn
  have h3:=h.aM
  have h4:=h.wait
  refine Cm.fin LR fun J=>?_
  rw [LS]
  simp (disch:=first | omega | exact h.mt | exact h.aN | exact h.sync) only [zC,Ld,Wg,Yv,Wo,dv,aE,cd,ao,iT,ym,eI,Dg,aH]
theorem Yz (g h:Bool) (n:ae) (ok:bU n):Cm 15 [.agg (U (some g) n),.agg (U (some h) n)] (.bool true,[.undef,.undef]):=by
  have h1:=ok.image
  have h2:=ok.conn
  have h3:=ok.aM
  have h4:=ok.wait
  refine Cm.fin LU fun J=>?_
  rw [LV]
  simp (disch:=first | omega | exact ok.mt | exact ok.aN | exact ok.sync) only [vU,Le,Wh,Yw,Wp,aE,ao,decide_true,aH,bc,uR,beq_self_eq_true,fZ]
theorem YA (g:Bool) (n:ae) (left:Int) (h0:0≤left) (h1:left≤1048576) (ln:rn n):Cm 11 [.agg (U (some g) n),.int .i64 left] (.int .i64 (ew n left),[.undef,.undef]):=by
  refine Cm.fin LW fun J=>?_
  rw [LX]
  have l1:=ln.image
  have l2:=ln.conn
  have l3:=ln.aM
  have l4:=ln.wait
  have a1:=iJ (n:=n.image.length) h0
  simp (disch:=omega) only [sS,cd,ao]
  refine jm (f:=fun v=>aL 36 _ _) fun p1=>?_
  have a2:=G1 (m:=n.mt) p1 (by omega)
  simp (disch:=first | omega | exact ln.mt) only [Yx,cd,ao]
  refine jm (f:=fun v=>aL 37 _ _) fun p2=>?_
  have a3:=D8 (s:=n.aN) p2 (by omega)
  simp (disch:=first | omega | exact ln.a | exact ln.b) only [Wq,cd,ao]
  refine jm (f:=fun v=>aL 38 _ _) fun p3=>?_
  have a4:=iJ (n:=n.conn.length) p3
  simp (disch:=omega) only [Lc,cd,ao]
  refine jm (f:=fun v=>aL 39 _ _) fun p4=>?_
  have a5:=PD (xss:=n.sync) p4 (by omega)
  simp (disch:=first | omega | exact ln.sync | exact ln.syn) only [Lf,cd,ao]
  refine jm (f:=fun v=>aL 38 _ _) fun p5=>?_
  have a6:=iJ (n:=n.aM.length) p5
  simp (disch:=omega) only [Lc,cd,ao]
  refine jm (f:=fun v=>aL 35 _ _) fun p6=>?_
  simp (disch:=omega) only [sS,cd,ao]
  exact jm (f:=fun v=>some (.int .i64 v,[.undef,.undef])) fun _=>rfl
end Go.Proofs.YtockoilcnmljiaaGreat
namespace Go.Proofs.YtockoilcnmljiaaGreat
set_option maxRecDepth 100000
section
variable (pr:dA) (cv:Cv Rz) (J:Nat→St→Option Rz)
theorem QV:Told cfg Tryz.prog 69 Tryz.f69:=⟨by kernel_rfl,Tryz.func69,by kernel_rfl⟩
theorem QW (a0:Int) (a1:Int) (a2:Int):aO pr cv J 69 Tryz.f69 [(.int .i64 a0),(.int .i64 a1),(.int .i64 a2)]=
    (br (pr.le a1 a0) (some ((.bool (pr.le a0 a2)),[.undef,.undef,.undef])) (some ((.bool false),[.undef,.undef,.undef]))):=by kernel_rfl
theorem QX:Told cfg Tryz.prog 75 Tryz.f75:=⟨by kernel_rfl,Tryz.func75,by kernel_rfl⟩
theorem QY (a0:Int) (a1:Int) (a2:Int):aO pr cv J 75 Tryz.f75 [(.int .i64 a0),(.int .i64 a1),(.int .i64 a2)]=
    (br (pr.le a1 a0) (some ((.bool (pr.le a0 a2)),[.undef,.undef,.undef])) (some ((.bool false),[.undef,.undef,.undef]))):=by kernel_rfl
end
theorem D9 (a b c:Int):Cm 75 [.int .i64 a,.int .i64 b,.int .i64 c] (.bool (decide (b≤a∧a≤c)),[.undef,.undef,.undef]):=by
  refine Cm.fin QX fun J=>?_
  rw [QY]
  by_cases h:b≤a
  · rw [wW h,zy]
    simp only [h,true_and]
  · simp (disch:=omega) only [nc,h,false_and,decide_false]
theorem aeb (a b c:Int):Cm 69 [.int .i64 a,.int .i64 b,.int .i64 c] (.bool (decide (b≤a∧a≤c)),[.undef,.undef,.undef]):=by
  refine Cm.fin QV fun J=>?_
  rw [QW]
  by_cases h:b≤a
  · rw [wW h,zy]
    simp only [h,true_and]
  · simp (disch:=omega) only [nc,h,false_and,decide_false]
section
variable (t:bE Rz)
theorem gg (a b c:Int):aL 75 [.int .i64 a,.int .i64 b,.int .i64 c] t=feed t [.bool (decide (b≤a∧a≤c))]:=aW (D9 a b c) (by kernel_rfl) t
theorem kP (a b c:Int):aL 69 [.int .i64 a,.int .i64 b,.int .i64 c] t=feed t [.bool (decide (b≤a∧a≤c))]:=aW (aeb a b c) (by kernel_rfl) t
end
end Go.Proofs.YtockoilcnmljiaaGreat
namespace Go.Proofs.YtockoilcnmljiaaGreat
set_option maxRecDepth 100000
def vV (xs:List Int):Prop:=∀ x∈xs,vS x=true
section
variable (t:bE Rz)
theorem PF (g:Bool) (n:ae) (h:bU n):aL 13 [.agg (U (some g) n)] t=feed t [enc .node n]:=bH (r:=enc .node n) (s:=.ty .node) (ss:=[.undef]) (Yy g n h) (by kernel_rfl) (au _ _) (by simp only [af,aF,aj,Bool.and_self]) (aq _ _) rfl t
theorem PG (g h:Bool) (n:ae) (ok:bU n):aL 15 [.agg (U (some g) n),.agg (U (some h) n)] t=feed t [.bool true]:=aW (Yz g h n ok) (by kernel_rfl) t
theorem E0 (g:Bool) (n:ae) (left:Int) (h0:0≤left) (h1:left≤1048576) (ln:rn n):aL 11 [.agg (U (some g) n),.int .i64 left] t=feed t [.int .i64 (ew n left)]:=aW (YA g n left h0 h1 ln) (by kernel_rfl) t
end
end Go.Proofs.YtockoilcnmljiaaGreat
namespace Go.Proofs.YtockoilcnmljiaaGreat
set_option maxRecDepth 100000
theorem Jk {n:Int} (h:(Lit.int .i64 n).wf=true):vS n=true:=by
  simp [Lit.wf,IntKind.min,IntKind.max,IntKind.bits,IntKind.signed] at h
  rw [Yn]
  omega
abbrev Wt:Sh:=.sl 8 (.int .i64)
abbrev sh8:Sh:=.sl 1 (.int .u8)
abbrev shB:Sh:=.sl 1 .bool
abbrev shR:Sh:=.sl 24 (.sl 8 (.int .i64))
abbrev aef:Sh:=.ag [Wt,shR,.bool,.bool,.bool,.int .i64]
abbrev abv:Sh:=.ag [sh8,sh8]
abbrev PH:Sh:=.ag [.int .i64,.bool,.bool,Wt,aef,abv,shB,shR,shB,Wt]
theorem Ua {ds:List D} (h:WT Wt ds):∃ xs,ds=[sI (some false) xs]∧xs.length≤17592186044416∧vV xs:=by
  obtain ⟨es,rfl,he,hx⟩:=h
  have key:∀ es:List (List D),(∀ x∈es,WT (.int .i64) x)→∃ xs,es.flatten=ints xs∧xs.length=es.length∧vV xs:=by
    intro es
    induction es with
    | nil=>intro _; exact ⟨[],rfl,rfl,by simp [vV]⟩
    | cons e es ih=>
      intro h
      obtain ⟨n,rfl,hn⟩:=h e (by simp)
      obtain ⟨xs,h1,h2,h3⟩:=ih (fun x hx=>h x (by simp [hx]))
      refine ⟨n::xs,by rw [List.flatten_cons,h1]; rfl,by simp [h2],fun x hx=>?_⟩
      rcases List.mem_cons.1 hx with rfl | hx
      · exact Jk hn
      · exact h3 x hx
  obtain ⟨xs,h1,h2,h3⟩:=key es hx
  refine ⟨xs,by rw [h1,← h2]; rfl,?_,h3⟩
  have:reachBytes=140737488351232:=rfl
  omega
theorem aeg {ds:List D} (h:WT sh8 ds):∃ xs,ds=[s8 (some false) xs]∧xs.length≤140737488351232:=by
  obtain ⟨es,rfl,he,hx⟩:=h
  have key:∀ es:List (List D),(∀ x∈es,WT (.int .u8) x)→∃ xs,es.flatten=bytes xs∧xs.length=es.length:=by
    intro es
    induction es with
    | nil=>intro _; exact ⟨[],rfl,rfl⟩
    | cons e es ih=>
      intro h
      obtain ⟨n,rfl,hn⟩:=h e (by simp)
      obtain ⟨xs,h1,h2⟩:=ih (fun x hx=>h x (by simp [hx]))
      simp [Lit.wf,IntKind.min,IntKind.max,IntKind.bits,IntKind.signed] at hn
      refine ⟨UInt8.ofNat n.toNat::xs,?_,by simp [h2]⟩
      rw [List.flatten_cons,h1]
      have:((UInt8.ofNat n.toNat).toNat:Int)=n:=by simp only [UInt8.toNat_ofNat']; omega
      simp only [bytes,List.map_cons,du,this]
      rfl
  obtain ⟨xs,h1,h2⟩:=key es hx
  refine ⟨xs,by rw [h1,← h2]; rfl,?_⟩
  have:reachBytes=140737488351232:=rfl
  omega
theorem aeh {ds:List D} (h:WT shB ds):∃ xs,ds=[sB (some false) xs]∧xs.length≤140737488351232:=by
  obtain ⟨es,rfl,he,hx⟩:=h
  have key:∀ es:List (List D),(∀ x∈es,WT .bool x)→∃ xs,es.flatten=aG xs∧xs.length=es.length:=by
    intro es
    induction es with
    | nil=>intro _; exact ⟨[],rfl,rfl⟩
    | cons e es ih=>
      intro h
      obtain ⟨n,rfl⟩:=h e (by simp)
      obtain ⟨xs,h1,h2⟩:=ih (fun x hx=>h x (by simp [hx]))
      exact ⟨n::xs,by rw [List.flatten_cons,h1]; rfl,by simp [h2]⟩
  obtain ⟨xs,h1,h2⟩:=key es hx
  refine ⟨xs,by rw [h1,← h2]; rfl,?_⟩
  have:reachBytes=140737488351232:=rfl
  omega
theorem aei {ds:List D} (h:WT shR ds):∃ xs,ds=[sR (some false) xs]∧xs.length≤140737488355328∧(∀ x∈xs,x.length≤140737488355328)∧∀ x∈xs,vV x:=by
  obtain ⟨es,rfl,he,hx⟩:=h
  have key:∀ es:List (List D),(∀ x∈es,WT Wt x)→∃ xs,es.flatten=rows (some false) xs∧xs.length=es.length∧(∀ x∈xs,x.length≤140737488355328)∧∀ x∈xs,vV x:=by
    intro es
    induction es with
    | nil=>intro _; exact ⟨[],rfl,rfl,by simp,by simp⟩
    | cons e es ih=>
      intro h
      obtain ⟨n,rfl,hn,h4⟩:=Ua (h e (by simp))
      obtain ⟨xs,h1,h2,h3,h5⟩:=ih (fun x hx=>h x (by simp [hx]))
      refine ⟨n::xs,by rw [List.flatten_cons,h1]; rfl,by simp [h2],fun x hx=>?_,fun x hx=>?_⟩
      · rcases List.mem_cons.1 hx with rfl | hx
        · omega
        · exact h3 x hx
      · rcases List.mem_cons.1 hx with rfl | hx
        · exact h4
        · exact h5 x hx
  obtain ⟨xs,h1,h2,h3,h4⟩:=key es hx
  refine ⟨xs,by rw [h1,← h2]; rfl,?_,h3,h4⟩
  have:reachBytes=140737488351232:=rfl
  omega
structure G2 (n:ae):Prop where
  id:vS n.id=true
  last:vS n.mt.last=true
  image:vV n.image
  aA:vV n.mt.aA
  bits:∀ x∈n.mt.bits,vV x
  sync:∀ x∈n.sync,vV x
  wait:vV n.wait
theorem SB {ds:List D} (h:WT PH ds):∃ n:ae,ds=U (some false) n∧rn n∧G2 n:=by
  obtain ⟨_,_,rfl,⟨id,rfl,Wu⟩,_,_,rfl,⟨up,rfl⟩,_,_,rfl,⟨cn,rfl⟩,_,_,rfl,air,_,_,rfl,hmt,_,_,rfl,gA,_,_,rfl,af2,_,_,rfl,af3,_,_,rfl,ais,_,_,rfl,af4,rfl⟩:=h
  obtain ⟨image,rfl,l1,i1⟩:=Ua air
  obtain ⟨_,_,rfl,hg,_,_,rfl,hb,_,_,rfl,⟨cK,rfl⟩,_,_,rfl,⟨bO,rfl⟩,_,_,rfl,⟨held,rfl⟩,_,_,rfl,⟨last,rfl,af5⟩,rfl⟩:=hmt
  obtain ⟨aA,rfl,l2,i2⟩:=Ua hg
  obtain ⟨bits,rfl,l3,l3',i3⟩:=aei hb
  obtain ⟨_,_,rfl,ha,_,_,rfl,fX,rfl⟩:=gA
  obtain ⟨a,rfl,l4⟩:=aeg ha
  obtain ⟨b,rfl,l5⟩:=aeg fX
  obtain ⟨conn,rfl,l6⟩:=aeh af2
  obtain ⟨sync,rfl,l7,l7',i7⟩:=aei af3
  obtain ⟨aM,rfl,l8⟩:=aeh ais
  obtain ⟨wait,rfl,l9,i9⟩:=Ua af4
  refine ⟨⟨id,up,cn,image,⟨aA,bits,cK,bO,held,last⟩,⟨a,b⟩,conn,sync,aM,wait⟩,rfl,⟨?_,⟨?_,l3,l3'⟩,?_,?_,?_,l7,l7',?_,?_⟩,⟨Jk Wu,Jk af5,i1,i2,i3,i7,i9⟩⟩<;>simp only<;>omega
theorem hC (b:Bool):∀ xs:List Int,cu b (ints xs)=ints xs
  | []=>rfl
  | x::xs=>by
    have ih:=hC b xs
    simp only [ints] at ih
    simp only [ints,List.map_cons,cu,iB,ih]
theorem iD (b:Bool):∀ xs:List UInt8,cu b (bytes xs)=bytes xs
  | []=>rfl
  | x::xs=>by
    have ih:=iD b xs
    simp only [bytes] at ih
    simp only [bytes,List.map_cons,cu,du,iB,ih]
theorem kQ (b:Bool):∀ xs:List Bool,cu b (aG xs)=aG xs
  | []=>rfl
  | x::xs=>by
    have ih:=kQ b xs
    simp only [aG] at ih
    simp only [aG,List.map_cons,cu,iB,ih]
theorem iK (b:Bool):∀ xs:List (List Int),cu b (rows none xs)=rows (some b) xs
  | []=>rfl
  | x::xs=>by
    have ih:=iK b xs
    simp only [rows] at ih
    simp only [rows,List.map_cons,cu,iB,ih,hC]
end Go.Proofs.YtockoilcnmljiaaGreat
