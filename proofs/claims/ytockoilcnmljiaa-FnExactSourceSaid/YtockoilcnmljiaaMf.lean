/- FnExactSource: the program's Source returns what the reference's returns, for all arguments (a node, a node). No condition. -/
import Derived.Test.YtockoilcnmljiaaRows
import Derived.WalkKit
import Derived.ProofKit
import Derived.OpenShut
import Derived.ShutString
import Derived.ChangeOld
import Derived.ChangeSame
import Derived.Below
import Derived.Carry
import Derived.SizedLaws
import Derived.Test.YtockoilcnmljiaaMe
set_option linter.all false
set_option linter.unusedSimpArgs false
set_option linter.unusedVariables false
set_option linter.unnecessarySimpa false
set_option linter.unusedSectionVars false
namespace Go.Proofs.Ytockoilcnmljiaa
set_option maxRecDepth 100000
section
variable (pr:cT) (cv:Cv Rz) (J:Nat→St→Option Rz)
end
structure zW (n:af):Prop where
  conn:(n.conn.length:Int)=3
  sync:(n.sync.length:Int)=3
  bA:(n.bA.length:Int)=3
  link:∀ k,k < 3→fq (n.sync.getD k [])=true∧pb n k
open Classical in
noncomputable def mC (n:af):Bool:=decide (zW n)
open Classical in
theorem Tm {n:af} (h:mC n=true):zW n:=by unfold mC at h; exact of_decide_eq_true h
open Classical in
theorem Gj {n:af} (h:zW n):mC n=true:=by unfold mC; exact decide_eq_true h
open Classical in
theorem tP {n:af} (h:¬zW n):(some ((.bool false,[.undef]):Rz))=some (.bool (mC n),[.undef]):=by unfold mC; rw [decide_eq_false h]
theorem EW (n:af) (q0:bz n):Cm 67 [.agg (ab (some true) n)] (.bool (mC n),[.undef]):=by
  have ok:=q0
  have s5:=ok.sync.1
  have s7:=ok.sync
  refine Cm.step EU [.undef] fun J hJ=>?_
  rw [EV]
  simp (disch:=first | assumption | omega) only [go_sem]
  refine dz (fun h1=>?_) (fun h=>tP fun o=>h o.conn)
  simp (disch:=first | assumption | omega) only [go_sem]
  refine dz (fun h2=>?_) (fun h=>tP fun o=>h o.sync)
  simp (disch:=first | assumption | omega) only [go_sem]
  refine dz (fun h3=>?_) (fun h=>tP fun o=>h o.bA)
  refine hJ _ _ ?_
  refine WP.up (H:=fun i=>gP n i) 3 (fun i=>∀ k,k < i→fq (n.sync.getD k [])=true∧pb n k) (fun i hi inv J hJ next=>?_) 0 (Nat.zero_le _) (fun k hk=>absurd hk (by omega))
  rw [Ad]
  dsimp only
  simp (disch:=first | assumption | omega) only [go_sem]
  refine dz (fun cR=>?_) (fun xW=>by rw [Gj ⟨h1,h2,h3,fun k hk=>inv k (by omega)⟩])
  have Vs:i < 3:=by omega
  have s8:=WB s7 i
  simp (disch:=first | assumption | omega) only [go_sem]
  refine mz (fun hm=>?_) (fun h=>tP fun o=>h (o.link i Vs).1)
  have go:pb n i→J 0 (gP n ((i:Int)+1))=some (.bool (mC n),[.undef]):=fun hb=>next (by omega) fun k hk=>by
      by_cases e:k=i
      · subst e; exact ⟨hm,hb⟩
      · exact inv k (by omega)
  have no:¬pb n i→(some ((.bool false,[.undef]):Rz))=some (.bool (mC n),[.undef]):=fun h=>tP fun o=>h (o.link i Vs).2
  have eJ:U.ar .add .i64 (i:Int) 1=(i:Int)+1:=Vo (by omega) (by omega)
  rw [eJ]
  generalize J 0 (gP n ((i:Int)+1))=z at go ⊢
  unfold pb at go no
  cases hc:n.conn.getD i false<;>cases hk:n.bA.getD i false<;>cases hu:n.up<;>by_cases hs:0 < ((n.sync.getD i []).length:Int)<;>by_cases P3:(i:Int)=n.id<;>simp only [hc,hk,hu,hs,P3,not_true_eq_false,not_false_eq_true,false_and,and_false,and_true,true_and,forall_const,Bool.false_eq_true,false_implies,imp_self,true_implies,and_self] at go no<;>simp (disch:=first | assumption | omega) only [go_sem,hc,hk,hu]<;>first | exact no | exact go
@[go_sem] theorem WC (qW:Int) (qX:Bool) (qY:Bool) (uD:Nat) (kI:List Int) (qZ:Nat) (ij:List Int) (q8:Nat) (ik:List (List Int)) (j1:Bool) (j2:Bool) (j3:Bool) (j4:Int) (q9:Nat) (il:List UInt8) (ra:Nat) (im:List UInt8) (zf:Nat) (oq:List Bool) (zg:Nat) (ot:List (List Int)) (zh:Nat) (ou:List Bool) (zi:Nat) (ov:List Int) (e0:uD=kI.length) (e1:qZ=ij.length) (e2:q8=ik.length) (e3:q9=il.length) (e4:ra=im.length) (e5:zf=oq.length) (e6:zg=ot.length) (e7:zh=ou.length) (e8:zi=ov.length) (q0:bz (⟨qW,qX,qY,kI,(⟨ij,ik,j1,j2,j3,j4⟩:aK),(⟨il,im⟩:aG),oq,ot,ou,ov⟩:af)) (t:bJ Rz):aY 67 [.agg [.int .i64 qW,.bool qX,.bool qY,.sl (some true) 1 uD (ints kI),.sl (some true) 1 qZ (ints ij),.sl (some true) 1 q8 (rows (some true) ik),.bool j1,.bool j2,.bool j3,.int .i64 j4,.sl (some true) 1 q9 (bytes il),.sl (some true) 1 ra (bytes im),.sl (some true) 1 zf (aH oq),.sl (some true) 1 zg (rows (some true) ot),.sl (some true) 1 zh (aH ou),.sl (some true) 1 zi (ints ov)]] t=feed t [.bool (mC (⟨qW,qX,qY,kI,(⟨ij,ik,j1,j2,j3,j4⟩:aK),(⟨il,im⟩:aG),oq,ot,ou,ov⟩:af))]:=by
  subst e0
  subst e1
  subst e2
  subst e3
  subst e4
  subst e5
  subst e6
  subst e7
  subst e8
  exact bK (r:=.bool (mC (⟨qW,qX,qY,kI,(⟨ij,ik,j1,j2,j3,j4⟩:aK),(⟨il,im⟩:aG),oq,ot,ou,ov⟩:af))) (s:=.bool) (ss:=[.undef]) (EW (⟨qW,qX,qY,kI,(⟨ij,ik,j1,j2,j3,j4⟩:aK),(⟨il,im⟩:aG),oq,ot,ou,ov⟩:af) q0) (by kernel_rfl) (by simp only [aw,bo,aV,bp,bq,ai,ak,Bool.and_self]) (by simp only [ai,aI,aw,ak,Bool.and_self]) (by first | rfl | simp only [av,aT,aS,bl,bm,aU,bn,Bool.and_self]) (by first | rfl | simp only [List.all_cons,List.all_nil,av,Bool.and_self]) t
theorem xK (n:af) (q0:bz n):Cm 38 [.agg (ab (some true) n)] (.bool (dr n),[.undef]):=by
  have ok:=q0
  have s1:=ok.image
  have s2:=ok.conn
  have s3:=ok.bA
  have s4:=ok.wait
  have s5:=ok.sync.1
  have s6:=ok.mt
  have s7:=ok.sync
  have s8:=q0.cP
  have s9:=DB n.cP
  refine Cm.step HB [.undef] fun J hJ=>?_
  rw [HC]
  simp (disch:=first | assumption | omega) only [go_sem]
  refine dz (fun h1=>?_) (fun h=>dE fun o=>h o.id)
  simp (disch:=first | assumption | omega) only [go_sem]
  refine mz (fun h2=>?_) (fun h=>dE fun o=>h o.image)
  simp (disch:=first | assumption | omega) only [go_sem]
  refine mz (fun h3=>?_) (fun h=>dE fun o=>h o.mt)
  simp (disch:=first | assumption | omega) only [go_sem]
  refine mz (fun h4=>?_) (fun h=>dE fun o=>h (Gj ⟨o.conn,o.sync,o.bA,fun k hk=>⟨o.marks k (by have:=o.sync; omega),o.link k hk⟩⟩))
  have h4:=Tm h4
  have h5:=h4.sync
  refine Zp (fun h7 h8=>?_) (fun h=>dE fun o=>h (fun hp=>⟨(o.bD hp).1,decide_eq_false (o.bD hp).2⟩) fun hu=>decide_eq_false (o.down (by rw [hu]; simp)))
  have h7:n.bD=true→n.up=true∧¬n.id=2:=fun hp=>⟨(h7 hp).1,of_decide_eq_false (h7 hp).2⟩
  have h8:¬n.up=true→¬0 < (n.wait.length:Int):=fun hu=>of_decide_eq_false (h8 (by simpa using hu))
  refine hJ _ _ ?_
  refine WP.up (H:=fun i=>j0 n i) n.wait.length (fun i=>∀ k,k < i→NY n.wait k) (fun i hi inv J _ next=>?_) 0 (Nat.zero_le _) (fun k hk=>absurd hk (by omega))
  rw [BN]
  simp (disch:=first | assumption | omega) only [go_sem]
  refine dz (fun cR=>?_) (fun xW=>?_)
  · simp (disch:=first | assumption | omega) only [go_sem]
    refine dz (fun ha=>?_) (fun h=>dE fun o=>h (o.wait i (by omega)).1)
    simp (disch:=first | assumption | omega) only [go_sem]
    have go:(0 < (i:Int)→¬n.wait.getD i 0≤n.wait.getD (i - 1) 0)→J 0 (j0 n ((i:Int)+1))=some (.bool (dr n),[.undef]):=fun hb=>next (by omega) fun k hk=>by
      by_cases e:k=i
      · subst e; exact ⟨ha,hb⟩
      · exact inv k (by omega)
    refine dz (fun oF=>?_) (fun hz=>?_)
    · have e1:((i:Int) - 1).toNat=i - 1:=by omega
      simp (disch:=first | assumption | omega) only [go_sem,e1]
      exact dz (fun h=>dE fun o=>(o.wait i (by omega)).2 oF h) (fun h=>go fun _=>h)
    · exact go fun h=>absurd h hz
  · have yes:(aF n.cP).2.2=true→ko (aF n.cP).1 n.mt=true→fk n:=fun a b=>⟨h1,h2,h3,h4.conn,h4.sync,fun k hk=>(h4.link k (by omega)).1,h4.bA,h7,h8,a,b,fun k hk=>(h4.link k hk).2,fun k hk=>inv k (by omega)⟩
    simp (disch:=first | assumption | omega) only [go_sem]
    refine mz (fun h9=>?_) (fun h=>dE fun o=>h o.slot)
    simp (disch:=first | assumption | omega) only [go_sem]
    cases lh:ko (aF n.cP).1 n.mt with
    | true=>exact Gi (yes h9 lh)
    | false=>exact dE fun o=>by have:=o.same; rw [lh] at this; simp at this
@[go_sem] theorem W3 (qW:Int) (qX:Bool) (qY:Bool) (uD:Nat) (kI:List Int) (qZ:Nat) (ij:List Int) (q8:Nat) (ik:List (List Int)) (j1:Bool) (j2:Bool) (j3:Bool) (j4:Int) (q9:Nat) (il:List UInt8) (ra:Nat) (im:List UInt8) (zf:Nat) (oq:List Bool) (zg:Nat) (ot:List (List Int)) (zh:Nat) (ou:List Bool) (zi:Nat) (ov:List Int) (e0:uD=kI.length) (e1:qZ=ij.length) (e2:q8=ik.length) (e3:q9=il.length) (e4:ra=im.length) (e5:zf=oq.length) (e6:zg=ot.length) (e7:zh=ou.length) (e8:zi=ov.length) (q0:bz (⟨qW,qX,qY,kI,(⟨ij,ik,j1,j2,j3,j4⟩:aK),(⟨il,im⟩:aG),oq,ot,ou,ov⟩:af)) (t:bJ Rz):aY 38 [.agg [.int .i64 qW,.bool qX,.bool qY,.sl (some true) 1 uD (ints kI),.sl (some true) 1 qZ (ints ij),.sl (some true) 1 q8 (rows (some true) ik),.bool j1,.bool j2,.bool j3,.int .i64 j4,.sl (some true) 1 q9 (bytes il),.sl (some true) 1 ra (bytes im),.sl (some true) 1 zf (aH oq),.sl (some true) 1 zg (rows (some true) ot),.sl (some true) 1 zh (aH ou),.sl (some true) 1 zi (ints ov)]] t=feed t [.bool (dr (⟨qW,qX,qY,kI,(⟨ij,ik,j1,j2,j3,j4⟩:aK),(⟨il,im⟩:aG),oq,ot,ou,ov⟩:af))]:=by
  subst e0
  subst e1
  subst e2
  subst e3
  subst e4
  subst e5
  subst e6
  subst e7
  subst e8
  exact bK (r:=.bool (dr (⟨qW,qX,qY,kI,(⟨ij,ik,j1,j2,j3,j4⟩:aK),(⟨il,im⟩:aG),oq,ot,ou,ov⟩:af))) (s:=.bool) (ss:=[.undef]) (xK (⟨qW,qX,qY,kI,(⟨ij,ik,j1,j2,j3,j4⟩:aK),(⟨il,im⟩:aG),oq,ot,ou,ov⟩:af) q0) (by kernel_rfl) (by simp only [aw,bo,aV,bp,bq,ai,ak,Bool.and_self]) (by simp only [ai,aI,aw,ak,Bool.and_self]) (by first | rfl | simp only [av,aT,aS,bl,bm,aU,bn,Bool.and_self]) (by first | rfl | simp only [List.all_cons,List.all_nil,av,Bool.and_self]) t
theorem aea {n:af} (h:fk n) (hp:n.bD=true):0≤kn n.id∧kn n.id≤1:=by
  have h1:=h.id
  have h2:=(h.bD hp).2
  unfold kn
  split<;>omega
noncomputable def ab0 (n:af):Bool:=dr n&&(n.bD&&(n.conn.getD (kn n.id).toNat false||n.mt.held))
end Go.Proofs.Ytockoilcnmljiaa
namespace Go.Proofs.Ytockoilcnmljiaa
set_option maxRecDepth 100000
section
variable {a b:Bool} {o:List D} {X:Option Rz}
theorem iJ (h:a=true→X=some (.bool b,o)):br a X (some (.bool false,o))=some (.bool (a&&b),o):=by cases a with | true=>exact h rfl | false=>rfl
theorem mD (h:a=false→X=some (.bool b,o)):br a (some (.bool false,o)) X=some (.bool (!a&&b),o):=by cases a with | true=>rfl | false=>exact h rfl
theorem Zq (h:a=false→X=some (.bool b,o)):br a (some (.bool true,o)) X=some (.bool (a||b),o):=by cases a with | true=>rfl | false=>exact h rfl
end
def zX (g:Option Bool) (x:aK):List D:=cn g x
@[go_sem] theorem aeb (g:Option Bool) (QI:Nat) (xa:List Int) (Gk:Nat) (xb:List (List Int)) (xf:Bool) (xo:Bool) (xh:Bool) (xl:Int) (Zr:QI=xa.length) (QJ:Gk=xb.length):D.agg [.sl g 1 QI (ints xa),.sl g 1 Gk (rows g xb),.bool xf,.bool xo,.bool xh,.int .i64 xl]=.agg (zX g ⟨xa,xb,xf,xo,xh,xl⟩):=by
  subst Zr
  subst QJ
  rfl
@[go_sem] theorem aec (x:aK):cW true (zX none x)=zX (some true) x:=by
  unfold zX
  first | rfl | simp only [go_sem,gS,cW,gw,gZ,gR,jM]
def nu (g:Option Bool) (x:aG):List D:=dg g x
@[go_sem] theorem adb (g:Option Bool) (QI:Nat) (xa:List UInt8) (Gk:Nat) (xb:List UInt8) (Zr:QI=xa.length) (QJ:Gk=xb.length):D.agg [.sl g 1 QI (bytes xa),.sl g 1 Gk (bytes xb)]=.agg (nu g ⟨xa,xb⟩):=by
  subst Zr
  subst QJ
  rfl
@[go_sem] theorem ade (x:aG):cW true (nu none x)=nu (some true) x:=by
  unfold nu
  first | rfl | simp only [go_sem,gS,cW,gw,gZ,gR,jM]
def ea (g:Option Bool) (x:af):List D:=ab g x
@[go_sem] theorem aed (g:Option Bool) (xi:Int) (xu:Bool) (xp:Bool) (Zs:Nat) (Zt:List Int) (Zu:Nat) (Zv:List Int) (Zw:Nat) (Zx:List (List Int)) (xmf:Bool) (xmo:Bool) (xmh:Bool) (xml:Int) (Zy:Nat) (Zz:List UInt8) (ZA:Nat) (ZB:List UInt8) (xc0:Nat) (xc:List Bool) (xy0:Nat) (xy:List (List Int)) (xk0:Nat) (xk:List Bool) (Gl:Nat) (xw:List Int) (adf:Zs=Zt.length) (adg:Zu=Zv.length) (adh:Zw=Zx.length) (adi:Zy=Zz.length) (adj:ZA=ZB.length) (xc1:xc0=xc.length) (xy1:xy0=xy.length) (xk1:xk0=xk.length) (QK:Gl=xw.length):D.agg [.int .i64 xi,.bool xu,.bool xp,.sl g 1 Zs (ints Zt),.sl g 1 Zu (ints Zv),.sl g 1 Zw (rows g Zx),.bool xmf,.bool xmo,.bool xmh,.int .i64 xml,.sl g 1 Zy (bytes Zz),.sl g 1 ZA (bytes ZB),.sl g 1 xc0 (aH xc),.sl g 1 xy0 (rows g xy),.sl g 1 xk0 (aH xk),.sl g 1 Gl (ints xw)]=.agg (ea g ⟨xi,xu,xp,Zt,⟨Zv,Zx,xmf,xmo,xmh,xml⟩,⟨Zz,ZB⟩,xc,xy,xk,xw⟩):=by
  subst adf
  subst adg
  subst adh
  subst adi
  subst adj
  subst xc1
  subst xy1
  subst xk1
  subst QK
  rfl
@[go_sem] theorem aee (x:af):cW true (ea none x)=ea (some true) x:=by
  unfold ea
  first | rfl | simp only [go_sem,gS,cW,gw,gZ,gR,jM]
def aaW (g:Option Bool) (x:eA):List D:=bR g x
@[go_sem] theorem aef (g:Option Bool) (xf:Int) (xt:Int) (Gk:Nat) (xb:List UInt8) (QJ:Gk=xb.length):D.agg [.int .i64 xf,.int .i64 xt,.sl g 1 Gk (bytes xb)]=.agg (aaW g ⟨xf,xt,xb⟩):=by
  subst QJ
  rfl
def DD (g:Option Bool) (x:aN):List D:=eU g x
@[go_sem] theorem adk (g:Option Bool) (QL:Nat) (xn:List af) (Gl:Nat) (xw:List eA) (QM:Nat) (xl:List gz) (QN:Nat) (xs:List Int) (xg:Int) (ZC:QL=xn.length) (QK:Gl=xw.length) (ZD:QM=xl.length) (ZE:QN=xs.length):D.agg [.sl g 16 QL (ah (ab g) xn),.sl g 3 Gl (ah (bR g) xw),.sl g 2 QM (ah (da g) xl),.sl g 1 QN (ints xs),.int .i64 xg]=.agg (DD g ⟨xn,xw,xl,xs,xg⟩):=by
  subst ZC
  subst QK
  subst ZD
  subst ZE
  rfl
@[go_sem] theorem adl (g:Option Bool) (QL:Nat) (xn:List af) (Gl:Nat) (xw:List eA) (QM:Nat) (xl:List gz) (QN:Nat) (xs:List Int) (xg:Int) (ZC:QL=xn.length) (QK:Gl=xw.length) (ZD:QM=xl.length) (ZE:QN=xs.length):D.aM [.sl g 16 QL (ah (ab g) xn),.sl g 3 Gl (ah (bR g) xw),.sl g 2 QM (ah (da g) xl),.sl g 1 QN (ints xs),.int .i64 xg]=.aM (DD g ⟨xn,xw,xl,xs,xg⟩):=by
  subst ZC
  subst QK
  subst ZD
  subst ZE
  rfl
def adm (g:Option Bool) (x:sY):List D:=D2 g x
@[go_sem] theorem age (g:Option Bool) (xk:Int) (xc:Int) (xv:Int) (xw:Int) (xg0:Nat) (xg:List Int) (xg1:xg0=xg.length):D.agg [.int .i64 xk,.int .i64 xc,.int .i64 xv,.int .i64 xw,.sl g 1 xg0 (ints xg)]=.agg (adm g ⟨xk,xc,xv,xw,xg⟩):=by
  subst xg1
  rfl
def aaX (g:Option Bool) (x:wk):List D:=zK g x
@[go_sem] theorem aeg (g:Option Bool) (xf:Int) (xt:Int) (xmk:Int) (xmc:Int) (xmv:Int) (xmw:Int) (ZF:Nat) (ZG:List Int) (adn:ZF=ZG.length):D.agg [.int .i64 xf,.int .i64 xt,.int .i64 xmk,.int .i64 xmc,.int .i64 xmv,.int .i64 xmw,.sl g 1 ZF (ints ZG)]=.agg (aaX g ⟨xf,xt,⟨xmk,xmc,xmv,xmw,ZG⟩⟩):=by
  subst adn
  rfl
def Ib (g:Option Bool) (x:oT):List D:=zL g x
@[go_sem] theorem aeh (g:Option Bool) (xk:Int) (xa:Int) (xb:Int):D.agg [.int .i64 xk,.int .i64 xa,.int .i64 xb]=.agg (Ib g ⟨xk,xa,xb⟩):=by
  rfl
@[go_sem] theorem aei (x:oT):cW true (Ib none x)=Ib (some true) x:=by
  unfold Ib
  first | rfl | simp only [go_sem,gS,cW,gw,gZ,gR,jM]
section
variable (t:bJ Rz)
@[go_sem] theorem ado (g:Bool) (n:af) (h:bz n):aY 9 [.agg (ea (some g) n)] t=feed t [enc .node n]:=SP t g n h
@[go_sem] theorem adp (g h:Bool) (n:af) (ok:bz n):aY 11 [.agg (ea (some g) n),.agg (ea (some h) n)] t=feed t [.bool true]:=J5 t g h n ok
@[go_sem] theorem adq (g:Bool) (n:af) (left:Int) (h0:0≤left) (h1:left≤1048576) (ln:tn n):aY 7 [.agg (ea (some g) n),.int .i64 left] t=feed t [.int .i64 (fw n left)]:=SQ t g n left h0 h1 ln
@[go_sem] theorem ace (g h:Bool) (w:aN) (ok:pY w):aY 18 [.agg (DD (some g) w),.agg (DD (some h) w)] t=feed t [.bool true]:=Qy t g h w ok
end
end Go.Proofs.Ytockoilcnmljiaa
namespace Go.Proofs.Ytockoilcnmljiaa
set_option maxRecDepth 100000
section
variable (pr:cT) (cv:Cv Rz) (J:Nat→St→Option Rz)
theorem HD:Told cfg Try.prog 32 Try.f32:=⟨by kernel_rfl,Try.func32,by kernel_rfl⟩
theorem HE (x0:af) (x1:af):bc pr cv J 32 Try.f32 [(.agg (ab (some true) x0)),(.agg (ab (some true) x1))]=
    let y1:Option (D × List D):=(some ((.bool false),[.undef,.undef]))
    (cv 42 [(.agg (ab (some true) x0))] (.bool (fun ck=>(.done (br ck (cv 42 [(.agg (ab (some true) x1))] (.bool (fun gj=>(.done (br gj (br (br (pr.eq x0.id 2) false true) (cv 62 [(.int .i64 x0.id)] (.int (fun th=>(.done (some ((.bool (pr.eq x1.id th)),[.undef,.undef])))))) y1) y1))))) y1))))):=by kernel_rfl
theorem EX:Told cfg Try.prog 26 Try.f26:=⟨by kernel_rfl,Try.func26,by kernel_rfl⟩
theorem EY (x0:af) (x1:af):bc pr cv J 26 Try.f26 [(.agg (ab (some true) x0)),(.agg (ab (some true) x1))]=
    let y1:Option (D × List D):=(some ((.bool false),[.undef,.undef]))
    (cv 38 [(.agg (ab (some true) x0))] (.bool (fun ck=>(.done (br ck (cv 38 [(.agg (ab (some true) x1))] (.bool (fun gj=>(.done (br gj (cv 60 [(.int .i64 x0.id)] (.int (fun th=>(.done (some ((.bool (pr.eq th x1.id)),[.undef,.undef])))))) y1))))) y1))))):=by kernel_rfl
theorem EZ:Told cfg Try.prog 10 Try.f10:=⟨by kernel_rfl,Try.func10,by kernel_rfl⟩
theorem E0 (x0:af) (x1:af):bc pr cv J 10 Try.f10 [(.agg (ab (some true) x0)),(.agg (ab (some true) x1))]=
    let y1:Option (D × List D):=(some ((.bool false),[.undef,.undef]))
    (cv 32 [(.agg (ab (some true) x0)),(.agg (ab (some true) x1))] (.bool (fun ck=>(.done (br ck (br x0.up (br x0.mt.bY (br (br x0.mt.bQ false true) (br (br x0.mt.held false true) (br (pr.bT x1.id x0.conn.length) (br (br (pr.eD (aH x0.conn) (pr.idx 0 x1.id 1)) true false) (br (br (pr.cZ (aH x0.conn) (pr.idx 0 x1.id 1)) false true) (some ((.bool (br x1.bD false true)),[.undef,.undef])) y1) none) none) y1) y1) y1) y1) y1))))):=by kernel_rfl
theorem E3:Told cfg Try.prog 8 Try.f8:=⟨by kernel_rfl,Try.func8,by kernel_rfl⟩
theorem E4 (x0:af) (x1:af):bc pr cv J 8 Try.f8 [(.agg (ab (some true) x0)),(.agg (ab (some true) x1))]=
    let y1:Option (D × List D):=(some ((.bool false),[.undef,.undef]))
    (cv 26 [(.agg (ab (some true) x0)),(.agg (ab (some true) x1))] (.bool (fun ck=>(.done (br ck (br x0.up (br x0.mt.bY (br (br x0.mt.bQ false true) (br (br x0.mt.held false true) (br (pr.bT x1.id x0.conn.length) (br (br (pr.eD (aH x0.conn) (pr.idx 0 x1.id 1)) true false) (br (br (pr.cZ (aH x0.conn) (pr.idx 0 x1.id 1)) false true) (some ((.bool (br x1.bD false true)),[.undef,.undef])) y1) none) none) y1) y1) y1) y1) y1))))):=by kernel_rfl
theorem E5:Told cfg Try.prog 13 Try.f13:=⟨by kernel_rfl,Try.func13,by kernel_rfl⟩
theorem E6 (x0:af) (x1:af) (x2:Bool):bc pr cv J 13 Try.f13 [(.agg (ab (some true) x0)),(.agg (ab (some true) x1)),(.bool x2)]=
    let y1:Option (D × List D):=(some ((.bool false),[.undef,.undef,.undef]))
    (cv 32 [(.agg (ab (some true) x0)),(.agg (ab (some true) x1))] (.bool (fun ck=>(.done (br (br ck false true) y1 (br (br x0.up false true) y1 (br (br x0.mt.bY false true) y1 (br x0.mt.bQ y1 (br x0.bD y1 (br x0.mt.held (some ((.bool true),[.undef,.undef,.undef])) (br (pr.bT x1.id x0.conn.length) (br (br (pr.eD (aH x0.conn) (pr.idx 0 x1.id 1)) true false) (br (pr.cZ (aH x0.conn) (pr.idx 0 x1.id 1)) (br (pr.bT x0.id x1.conn.length) (br (br (pr.eD (aH x1.conn) (pr.idx 0 x0.id 1)) true false) (br (pr.cZ (aH x1.conn) (pr.idx 0 x0.id 1)) (br (pr.bT x1.id x0.bA.length) (br (br (pr.eD (aH x0.bA) (pr.idx 0 x1.id 1)) true false) (br (br (pr.cZ (aH x0.bA) (pr.idx 0 x1.id 1)) false true) (br (pr.bT x0.id x1.bA.length) (br (br (pr.eD (aH x1.bA) (pr.idx 0 x0.id 1)) true false) (br (br (pr.cZ (aH x1.bA) (pr.idx 0 x0.id 1)) false true) (br (br x1.bD false true) (br (pr.eq x0.mt.last x1.mt.last) (some ((.bool x2),[.undef,.undef,.undef])) y1) y1) y1) none) none) y1) none) none) y1) none) none) y1) none) none))))))))))):=by kernel_rfl
theorem E7:Told cfg Try.prog 12 Try.f12:=⟨by kernel_rfl,Try.func12,by kernel_rfl⟩
theorem E8 (x0:af) (x1:af) (x2:Bool):bc pr cv J 12 Try.f12 [(.agg (ab (some true) x0)),(.agg (ab (some true) x1)),(.bool x2)]=
    let y1:Option (D × List D):=(some ((.bool false),[.undef,.undef,.undef]))
    (cv 26 [(.agg (ab (some true) x0)),(.agg (ab (some true) x1))] (.bool (fun ck=>(.done (br (br ck false true) y1 (br (br x0.up false true) y1 (br (br x0.mt.bY false true) y1 (br x0.mt.bQ y1 (br x0.bD y1 (br x0.mt.held (some ((.bool true),[.undef,.undef,.undef])) (br (pr.bT x1.id x0.conn.length) (br (br (pr.eD (aH x0.conn) (pr.idx 0 x1.id 1)) true false) (br (pr.cZ (aH x0.conn) (pr.idx 0 x1.id 1)) (br (pr.bT x0.id x1.conn.length) (br (br (pr.eD (aH x1.conn) (pr.idx 0 x0.id 1)) true false) (br (pr.cZ (aH x1.conn) (pr.idx 0 x0.id 1)) (br (pr.bT x1.id x0.bA.length) (br (br (pr.eD (aH x0.bA) (pr.idx 0 x1.id 1)) true false) (br (br (pr.cZ (aH x0.bA) (pr.idx 0 x1.id 1)) false true) (br (pr.bT x0.id x1.bA.length) (br (br (pr.eD (aH x1.bA) (pr.idx 0 x0.id 1)) true false) (br (br (pr.cZ (aH x1.bA) (pr.idx 0 x0.id 1)) false true) (br (br x1.bD false true) (br (pr.eq x0.mt.last x1.mt.last) (some ((.bool x2),[.undef,.undef,.undef])) y1) y1) y1) none) none) y1) none) none) y1) none) none) y1) none) none))))))))))):=by kernel_rfl
end
@[go_sem] theorem W4 (n:af) (q0:bz n) (t:bJ Rz):aY 42 [.agg (ea (some true) n)] t=feed t [.bool (dr n)]:=by
  exact bK (r:=.bool (dr n)) (s:=.bool) (ss:=[.undef]) (xJ n q0) (by kernel_rfl) (by simp only [aw,bo,aV,bp,bq,ai,ak,Bool.and_self]) (by simp only [ai,aI,aw,ak,Bool.and_self]) (by first | rfl | simp only [av,aT,aS,bl,bm,aU,bn,Bool.and_self]) (by first | rfl | simp only [List.all_cons,List.all_nil,av,Bool.and_self]) t
@[go_sem] theorem W5 (n:af) (q0:bz n) (t:bJ Rz):aY 38 [.agg (ea (some true) n)] t=feed t [.bool (dr n)]:=by
  exact bK (r:=.bool (dr n)) (s:=.bool) (ss:=[.undef]) (xK n q0) (by kernel_rfl) (by simp only [aw,bo,aV,bp,bq,ai,ak,Bool.and_self]) (by simp only [ai,aI,aw,ak,Bool.and_self]) (by first | rfl | simp only [av,aT,aS,bl,bm,aU,bn,Bool.and_self]) (by first | rfl | simp only [List.all_cons,List.all_nil,av,Bool.and_self]) t
@[go_sem] theorem WD (s:aG) (q0:eo s) (t:bJ Rz):aY 76 [.agg (nu (some true) s)] t=feed t [enc .mt ((aF s).1),.int .i64 ((aF s).2.1),.bool ((aF s).2.2)]:=by
  exact bK (r:=.aR [enc .mt ((aF s).1),.int .i64 ((aF s).2.1),.bool ((aF s).2.2)]) (s:=.aR [.ty .mt,.int .i64,.bool]) (ss:=[.undef]) (vB s q0) (by kernel_rfl) (by simp only [aw,bo,aV,bp,bq,ai,ak,Bool.and_self]) (by simp only [ai,aI,aw,ak,Bool.and_self]) (by first | rfl | simp only [av,aT,aS,bl,bm,aU,bn,Bool.and_self]) (by first | rfl | simp only [List.all_cons,List.all_nil,av,Bool.and_self]) t
@[go_sem] theorem WE (s:aG) (q0:eo s) (t:bJ Rz):aY 68 [.agg (nu (some true) s)] t=feed t [enc .mt ((aF s).1),.int .i64 ((aF s).2.1),.bool ((aF s).2.2)]:=by
  exact bK (r:=.aR [enc .mt ((aF s).1),.int .i64 ((aF s).2.1),.bool ((aF s).2.2)]) (s:=.aR [.ty .mt,.int .i64,.bool]) (ss:=[.undef]) (vC s q0) (by kernel_rfl) (by simp only [aw,bo,aV,bp,bq,ai,ak,Bool.and_self]) (by simp only [ai,aI,aw,ak,Bool.and_self]) (by first | rfl | simp only [av,aT,aS,bl,bm,aU,bn,Bool.and_self]) (by first | rfl | simp only [List.all_cons,List.all_nil,av,Bool.and_self]) t
@[go_sem] theorem W6 (s:aG) (q0:eo s) (t:bJ Rz):aY 106 [.agg (nu (some true) s)] t=feed t [enc .mt ((((aF s).1,(aF s).2.1,mW s)).1),.int .i64 ((((aF s).1,(aF s).2.1,mW s)).2.1),.bool ((((aF s).1,(aF s).2.1,mW s)).2.2)]:=by
  exact bK (r:=.aR [enc .mt ((((aF s).1,(aF s).2.1,mW s)).1),.int .i64 ((((aF s).1,(aF s).2.1,mW s)).2.1),.bool ((((aF s).1,(aF s).2.1,mW s)).2.2)]) (s:=.aR [.ty .mt,.int .i64,.bool]) (ss:=[.undef]) (xI s q0) (by kernel_rfl) (by simp only [aw,bo,aV,bp,bq,ai,ak,Bool.and_self]) (by simp only [ai,aI,aw,ak,Bool.and_self]) (by first | rfl | simp only [av,aT,aS,bl,bm,aU,bn,Bool.and_self]) (by first | rfl | simp only [List.all_cons,List.all_nil,av,Bool.and_self]) t
@[go_sem] theorem WG (s:aG) (q0:eo s) (t:bJ Rz):aY 96 [.agg (nu (some true) s)] t=feed t [.int .i64 (qV s)]:=by
  exact bK (r:=.int .i64 (qV s)) (s:=.int .i64) (ss:=[.undef]) (vA s q0) (by kernel_rfl) (by simp only [aw,bo,aV,bp,bq,ai,ak,Bool.and_self]) (by simp only [ai,aI,aw,ak,Bool.and_self]) (by first | rfl | simp only [av,aT,aS,bl,bm,aU,bn,Bool.and_self]) (by first | rfl | simp only [List.all_cons,List.all_nil,av,Bool.and_self]) t
@[go_sem] theorem Tn (m:aK) (n:Nat) (q0:cU m) (q1:(ct m).length≤151) (q2:n < 4611686018427387904) (t:bJ Rz):aY 122 [.agg (zX (some true) m),.int .i64 (n:Int)] t=feed t [enc .B (lS m n)]:=by
  exact bK (r:=enc .B (lS m n)) (s:=.ty .B) (ss:=[.undef,.undef]) (tM m n q0 q1 q2) (by kernel_rfl) (by simp only [aw,bo,aV,bp,bq,ai,ak,Bool.and_self]) (by simp only [ai,aI,aw,ak,Bool.and_self]) (by first | rfl | simp only [av,aT,aS,bl,bm,aU,bn,Bool.and_self]) (by first | rfl | simp only [List.all_cons,List.all_nil,av,Bool.and_self]) t
@[go_sem] theorem W7 (m:aK) (n:Nat) (q0:cU m) (q1:(ct m).length≤151) (q2:n < 4611686018427387904) (t:bJ Rz):aY 111 [.agg (zX (some true) m),.int .i64 (n:Int)] t=feed t [enc .B (lS m n)]:=by
  exact bK (r:=enc .B (lS m n)) (s:=.ty .B) (ss:=[.undef,.undef]) (xH m n q0 q1 q2) (by kernel_rfl) (by simp only [aw,bo,aV,bp,bq,ai,ak,Bool.and_self]) (by simp only [ai,aI,aw,ak,Bool.and_self]) (by first | rfl | simp only [av,aT,aS,bl,bm,aU,bn,Bool.and_self]) (by first | rfl | simp only [List.all_cons,List.all_nil,av,Bool.and_self]) t
noncomputable def nC (x y:af):Bool:=dr x&&(dr y&&(!decide (x.id=2)&&decide (y.id=kn x.id)))
structure adr (x y:af):Prop where
  ox:fk x
  oy:fk y
  xl:0≤x.id
  xh:x.id≤1
  yl:0≤y.id
  yh:y.id≤1
  ake:y.id=kn x.id
theorem zY {x y:af} (h:nC x y=true):adr x y:=by
  unfold nC at h
  simp only [Bool.and_eq_true,Bool.not_eq_true',decide_eq_true_eq,decide_eq_false_iff_not] at h
  obtain ⟨h1,h2,h3,h4⟩:=h
  have k1:=kP h1
  have k2:=kP h2
  have i1:=k1.id
  have i2:=k2.id
  have h5:=h4
  unfold kn at h5
  exact ⟨k1,k2,i1.1,by omega,i2.1,by split at h5<;>omega,h4⟩
theorem HF (x:af) (y:af) (q0:bz x) (q1:bz y):Cm 32 [.agg (ab (some true) x),.agg (ab (some true) y)] (.bool (nC x y),[.undef,.undef]):=by
  refine Cm.step HD _ fun J _=>?_
  rw [HE]
  unfold nC
  simp (disch:=first | assumption | omega) only [go_sem]
  refine iJ fun h1=>?_
  simp (disch:=first | assumption | omega) only [go_sem]
  refine iJ fun h2=>?_
  simp (disch:=first | assumption | omega) only [go_sem]
  refine mD fun h3=>?_
  simp (disch:=first | assumption | omega) only [go_sem]
@[go_sem] theorem W8 (x:af) (y:af) (q0:bz x) (q1:bz y) (t:bJ Rz):aY 32 [.agg (ea (some true) x),.agg (ea (some true) y)] t=feed t [.bool (nC x y)]:=by
  exact bK (r:=.bool (nC x y)) (s:=.bool) (ss:=[.undef,.undef]) (HF x y q0 q1) (by kernel_rfl) (by simp only [aw,bo,aV,bp,bq,ai,ak,Bool.and_self]) (by simp only [ai,aI,aw,ak,Bool.and_self]) (by first | rfl | simp only [av,aT,aS,bl,bm,aU,bn,Bool.and_self]) (by first | rfl | simp only [List.all_cons,List.all_nil,av,Bool.and_self]) t
theorem E9 (x:af) (y:af) (q0:bz x) (q1:bz y):Cm 26 [.agg (ab (some true) x),.agg (ab (some true) y)] (.bool (nC x y),[.undef,.undef]):=by
  refine Cm.step EX _ fun J _=>?_
  rw [EY]
  unfold nC
  simp (disch:=first | assumption | omega) only [go_sem]
  refine iJ fun h1=>?_
  simp (disch:=first | assumption | omega) only [go_sem]
  refine iJ fun h2=>?_
  simp (disch:=first | assumption | omega) only [go_sem]
  have i1:=(kP h1).id
  have i2:=(kP h2).id
  unfold kn
  by_cases h:x.id=2
  · rw [h]; simp; omega
  · simp [h,eq_comm]
@[go_sem] theorem WH (x:af) (y:af) (q0:bz x) (q1:bz y) (t:bJ Rz):aY 26 [.agg (ea (some true) x),.agg (ea (some true) y)] t=feed t [.bool (nC x y)]:=by
  exact bK (r:=.bool (nC x y)) (s:=.bool) (ss:=[.undef,.undef]) (E9 x y q0 q1) (by kernel_rfl) (by simp only [aw,bo,aV,bp,bq,ai,ak,Bool.and_self]) (by simp only [ai,aI,aw,ak,Bool.and_self]) (by first | rfl | simp only [av,aT,aS,bl,bm,aU,bn,Bool.and_self]) (by first | rfl | simp only [List.all_cons,List.all_nil,av,Bool.and_self]) t
noncomputable def mE (x y:af):Bool:=nC x y&&(x.up&&(x.mt.bY&&(!x.mt.bQ&&(!x.mt.held&&(!x.conn.getD y.id.toNat false&&!y.bD)))))
theorem Fa (x:af) (y:af) (q0:bz x) (q1:bz y):Cm 10 [.agg (ab (some true) x),.agg (ab (some true) y)] (.bool (mE x y),[.undef,.undef]):=by
  refine Cm.step EZ _ fun J _=>?_
  rw [E0]
  unfold mE
  simp (disch:=first | assumption | omega) only [go_sem]
  refine iJ fun h1=>?_
  try simp (disch:=first | assumption | omega) only [go_sem]
  have p:=zY h1
  have:=p.xl; have:=p.xh; have:=p.yl; have:=p.yh; have:=p.ox.conn
  simp (disch:=first | assumption | omega) only [go_sem]
  refine iJ fun _=>?_
  try simp (disch:=first | assumption | omega) only [go_sem]
  refine iJ fun _=>?_
  try simp (disch:=first | assumption | omega) only [go_sem]
  refine mD fun _=>?_
  try simp (disch:=first | assumption | omega) only [go_sem]
  refine mD fun _=>?_
  try simp (disch:=first | assumption | omega) only [go_sem]
  exact mD fun _=>rfl
@[go_sem] theorem WI (x:af) (y:af) (q0:bz x) (q1:bz y) (t:bJ Rz):aY 10 [.agg (ea (some true) x),.agg (ea (some true) y)] t=feed t [.bool (mE x y)]:=by
  exact bK (r:=.bool (mE x y)) (s:=.bool) (ss:=[.undef,.undef]) (Fa x y q0 q1) (by kernel_rfl) (by simp only [aw,bo,aV,bp,bq,ai,ak,Bool.and_self]) (by simp only [ai,aI,aw,ak,Bool.and_self]) (by first | rfl | simp only [av,aT,aS,bl,bm,aU,bn,Bool.and_self]) (by first | rfl | simp only [List.all_cons,List.all_nil,av,Bool.and_self]) t
theorem Fb (x:af) (y:af) (q0:bz x) (q1:bz y):Cm 8 [.agg (ab (some true) x),.agg (ab (some true) y)] (.bool (mE x y),[.undef,.undef]):=by
  refine Cm.step E3 _ fun J _=>?_
  rw [E4]
  unfold mE
  simp (disch:=first | assumption | omega) only [go_sem]
  refine iJ fun h1=>?_
  try simp (disch:=first | assumption | omega) only [go_sem]
  have p:=zY h1
  have:=p.xl; have:=p.xh; have:=p.yl; have:=p.yh; have:=p.ox.conn
  simp (disch:=first | assumption | omega) only [go_sem]
  refine iJ fun _=>?_
  try simp (disch:=first | assumption | omega) only [go_sem]
  refine iJ fun _=>?_
  try simp (disch:=first | assumption | omega) only [go_sem]
  refine mD fun _=>?_
  try simp (disch:=first | assumption | omega) only [go_sem]
  refine mD fun _=>?_
  try simp (disch:=first | assumption | omega) only [go_sem]
  exact mD fun _=>rfl
@[go_sem] theorem WJ (x:af) (y:af) (q0:bz x) (q1:bz y) (t:bJ Rz):aY 8 [.agg (ea (some true) x),.agg (ea (some true) y)] t=feed t [.bool (mE x y)]:=by
  exact bK (r:=.bool (mE x y)) (s:=.bool) (ss:=[.undef,.undef]) (Fb x y q0 q1) (by kernel_rfl) (by simp only [aw,bo,aV,bp,bq,ai,ak,Bool.and_self]) (by simp only [ai,aI,aw,ak,Bool.and_self]) (by first | rfl | simp only [av,aT,aS,bl,bm,aU,bn,Bool.and_self]) (by first | rfl | simp only [List.all_cons,List.all_nil,av,Bool.and_self]) t
noncomputable def jl (x y:af) (q:Bool):Bool:=nC x y&&(x.up&&(x.mt.bY&&(!x.mt.bQ&&(!x.bD&&(x.mt.held||(x.conn.getD y.id.toNat false&&(y.conn.getD x.id.toNat false&&(!x.bA.getD y.id.toNat false&&(!y.bA.getD x.id.toNat false&&(!y.bD&&(decide (x.mt.last=y.mt.last)&&q)))))))))))
theorem Fc (x:af) (y:af) (q:Bool) (q0:bz x) (q1:bz y):Cm 13 [.agg (ab (some true) x),.agg (ab (some true) y),.bool q] (.bool (jl x y q),[.undef,.undef,.undef]):=by
  refine Cm.step E5 _ fun J _=>?_
  rw [E6]
  unfold jl
  simp (disch:=first | assumption | omega) only [go_sem]
  refine iJ fun h1=>?_
  try simp (disch:=first | assumption | omega) only [go_sem]
  have p:=zY h1
  have:=p.xl; have:=p.xh; have:=p.yl; have:=p.yh; have:=p.ox.conn; have:=p.oy.conn; have:=p.ox.bA; have:=p.oy.bA
  simp (disch:=first | assumption | omega) only [go_sem]
  refine iJ fun _=>?_
  try simp (disch:=first | assumption | omega) only [go_sem]
  refine iJ fun _=>?_
  try simp (disch:=first | assumption | omega) only [go_sem]
  refine mD fun _=>?_
  try simp (disch:=first | assumption | omega) only [go_sem]
  refine mD fun _=>?_
  try simp (disch:=first | assumption | omega) only [go_sem]
  refine Zq fun _=>?_
  try simp (disch:=first | assumption | omega) only [go_sem]
  refine iJ fun _=>?_
  try simp (disch:=first | assumption | omega) only [go_sem]
  refine iJ fun _=>?_
  try simp (disch:=first | assumption | omega) only [go_sem]
  refine mD fun _=>?_
  try simp (disch:=first | assumption | omega) only [go_sem]
  refine mD fun _=>?_
  try simp (disch:=first | assumption | omega) only [go_sem]
  refine mD fun _=>?_
  try simp (disch:=first | assumption | omega) only [go_sem]
  exact iJ fun _=>rfl
@[go_sem] theorem WK (x:af) (y:af) (q:Bool) (q0:bz x) (q1:bz y) (t:bJ Rz):aY 13 [.agg (ea (some true) x),.agg (ea (some true) y),.bool q] t=feed t [.bool (jl x y q)]:=by
  exact bK (r:=.bool (jl x y q)) (s:=.bool) (ss:=[.undef,.undef,.undef]) (Fc x y q q0 q1) (by kernel_rfl) (by simp only [aw,bo,aV,bp,bq,ai,ak,Bool.and_self]) (by simp only [ai,aI,aw,ak,Bool.and_self]) (by first | rfl | simp only [av,aT,aS,bl,bm,aU,bn,Bool.and_self]) (by first | rfl | simp only [List.all_cons,List.all_nil,av,Bool.and_self]) t
theorem Fe (x:af) (y:af) (q:Bool) (q0:bz x) (q1:bz y):Cm 12 [.agg (ab (some true) x),.agg (ab (some true) y),.bool q] (.bool (jl x y q),[.undef,.undef,.undef]):=by
  refine Cm.step E7 _ fun J _=>?_
  rw [E8]
  unfold jl
  simp (disch:=first | assumption | omega) only [go_sem]
  refine iJ fun h1=>?_
  try simp (disch:=first | assumption | omega) only [go_sem]
  have p:=zY h1
  have:=p.xl; have:=p.xh; have:=p.yl; have:=p.yh; have:=p.ox.conn; have:=p.oy.conn; have:=p.ox.bA; have:=p.oy.bA
  simp (disch:=first | assumption | omega) only [go_sem]
  refine iJ fun _=>?_
  try simp (disch:=first | assumption | omega) only [go_sem]
  refine iJ fun _=>?_
  try simp (disch:=first | assumption | omega) only [go_sem]
  refine mD fun _=>?_
  try simp (disch:=first | assumption | omega) only [go_sem]
  refine mD fun _=>?_
  try simp (disch:=first | assumption | omega) only [go_sem]
  refine Zq fun _=>?_
  try simp (disch:=first | assumption | omega) only [go_sem]
  refine iJ fun _=>?_
  try simp (disch:=first | assumption | omega) only [go_sem]
  refine iJ fun _=>?_
  try simp (disch:=first | assumption | omega) only [go_sem]
  refine mD fun _=>?_
  try simp (disch:=first | assumption | omega) only [go_sem]
  refine mD fun _=>?_
  try simp (disch:=first | assumption | omega) only [go_sem]
  refine mD fun _=>?_
  try simp (disch:=first | assumption | omega) only [go_sem]
  exact iJ fun _=>rfl
@[go_sem] theorem WL (x:af) (y:af) (q:Bool) (q0:bz x) (q1:bz y) (t:bJ Rz):aY 12 [.agg (ea (some true) x),.agg (ea (some true) y),.bool q] t=feed t [.bool (jl x y q)]:=by
  exact bK (r:=.bool (jl x y q)) (s:=.bool) (ss:=[.undef,.undef,.undef]) (Fe x y q q0 q1) (by kernel_rfl) (by simp only [aw,bo,aV,bp,bq,ai,ak,Bool.and_self]) (by simp only [ai,aI,aw,ak,Bool.and_self]) (by first | rfl | simp only [av,aT,aS,bl,bm,aU,bn,Bool.and_self]) (by first | rfl | simp only [List.all_cons,List.all_nil,av,Bool.and_self]) t
end Go.Proofs.Ytockoilcnmljiaa
namespace Go.Proofs.Ytockoilcnmljiaa
set_option maxRecDepth 100000
section
variable (pr:cT) (cv:Cv Rz) (J:Nat→St→Option Rz)
def QO (x0:List (List Int)) (i0:Int) (i1:Int) (n2:Nat) (c3:List D):St:=(St.mk [(3,(.ref 10003 [] 0 none)),(7,(sR (some true) x0)),(8,(.int .i64 i0)),(9,(.int .i64 i1))] [(10003,[(.sl none 1 n2 c3)])] [] 0)
theorem BO:Told cfg Try.prog 120 Try.f120:=⟨by kernel_rfl,Try.func120,by kernel_rfl⟩
theorem BP (x0:aG):bc pr cv J 120 Try.f120 [(.agg (dg (some true) x0))]=
    (cv 128 [(s8 (some true) x0.a)] (.ty gU.B (fun (xG:List UInt8)=>(.done (cv 128 [(s8 (some true) x0.b)] (.ty gU.B (fun (za:List UInt8)=>(.done (some ((.agg [(s8 none xG),(s8 none za)]),[.undef])))))))))):=by kernel_rfl
def Vt (x0:aK) (i0:Int) (b1:Bool) (b2:Bool) (b3:Bool) (i4:Int) (n5:Nat) (c6:List D):St:=(St.mk [(1,(.ptr 1 [] 0)),(2,(.ptr 2 [] 0)),(3,(.ptr 3 [] 0)),(4,(.int .i64 i0))] [(1,(cn (some true) x0)),(2,[(.nil 1),(.nil 1),(.bool b1),(.bool b2),(.bool b3),(.int .i64 i4)]),(3,[(.sl none 1 n5 c6),(.nil 1),(.bool x0.bY),(.bool x0.bQ),(.bool x0.held),(.int .i64 x0.last)])] [] 0)
def Q5 (x0:aK) (i0:Int) (b1:Bool) (b2:Bool) (b3:Bool) (i4:Int) (n5:Nat) (c6:List D) (n7:Nat) (c8:List D):St:=(St.mk [(1,(.ptr 1 [] 0)),(2,(.ptr 2 [] 0)),(3,(.ptr 3 [] 0)),(4,(.int .i64 i0))] [(1,(cn (some true) x0)),(2,[(.nil 1),(.nil 1),(.bool b1),(.bool b2),(.bool b3),(.int .i64 i4)]),(3,[(.sl none 1 n5 c6),(.sl none 1 n7 c8),(.bool x0.bY),(.bool x0.bQ),(.bool x0.held),(.int .i64 x0.last)])] [] 0)
theorem HG:Told cfg Try.prog 110 Try.f110:=⟨by kernel_rfl,Try.func110,by kernel_rfl⟩
theorem HH (x0:aG):bc pr cv J 110 Try.f110 [(.agg (dg (some true) x0))]=
    (br (br (pr.cell (bytes x0.a)) (pr.fits (0+x0.a.length) 1) false) (br (br (pr.cell (bytes x0.b)) (pr.fits (0+x0.b.length) 1) false) (some ((.agg [(.sl none 1 (0+x0.a.length) (List.append [] (bytes x0.a))),(.sl none 1 (0+x0.b.length) (List.append [] (bytes x0.b)))]),[.undef])) none) none):=by kernel_rfl
def Vu (x0:af) (i0:Int) (i1:Int) (b2:Bool) (b3:Bool) (b4:Bool) (b5:Bool) (b6:Bool) (i7:Int) (n8:Nat) (c9:List D) (ph:Nat) (pj:List D) (gv:Nat) (gV:List D) (tH:Bool) (jY:Bool) (o7:Bool) (i17:Int) (Ka:Nat) (AJ:List D) (AK:Nat) (AL:List D) (QP:Nat) (QQ:List D) (ZH:Nat) (ZI:List D) (wY:Nat) (wZ:List D):St:=(St.mk [(1,(.ptr 1 [] 0)),(2,(.ptr 2 [] 0)),(3,(.ptr 3 [] 0)),(4,(.int .i64 i0))] [(1,(ab (some true) x0)),(2,[(.int .i64 i1),(.bool b2),(.bool b3),(.nil 1),(.nil 1),(.nil 1),(.bool b4),(.bool b5),(.bool b6),(.int .i64 i7),(.nil 1),(.nil 1),(.nil 1),(.nil 1),(.nil 1),(.nil 1)]),(3,[(.int .i64 x0.id),(.bool x0.up),(.bool x0.bD),(.sl none 1 n8 c9),(.sl none 1 ph pj),(.sl none 1 gv gV),(.bool tH),(.bool jY),(.bool o7),(.int .i64 i17),(.sl none 1 Ka AJ),(.sl none 1 AK AL),(.sl none 1 QP QQ),(.nil 1),(.sl none 1 ZH ZI),(.sl none 1 wY wZ)])] [] 0)
def Q6 (x0:af) (i0:Int) (i1:Int) (b2:Bool) (b3:Bool) (b4:Bool) (b5:Bool) (b6:Bool) (i7:Int) (n8:Nat) (c9:List D) (ph:Nat) (pj:List D) (gv:Nat) (gV:List D) (tH:Bool) (jY:Bool) (o7:Bool) (i17:Int) (Ka:Nat) (AJ:List D) (AK:Nat) (AL:List D) (QP:Nat) (QQ:List D) (ZH:Nat) (ZI:List D) (wY:Nat) (wZ:List D) (FY:Nat) (FZ:List D):St:=(St.mk [(1,(.ptr 1 [] 0)),(2,(.ptr 2 [] 0)),(3,(.ptr 3 [] 0)),(4,(.int .i64 i0))] [(1,(ab (some true) x0)),(2,[(.int .i64 i1),(.bool b2),(.bool b3),(.nil 1),(.nil 1),(.nil 1),(.bool b4),(.bool b5),(.bool b6),(.int .i64 i7),(.nil 1),(.nil 1),(.nil 1),(.nil 1),(.nil 1),(.nil 1)]),(3,[(.int .i64 x0.id),(.bool x0.up),(.bool x0.bD),(.sl none 1 n8 c9),(.sl none 1 ph pj),(.sl none 1 gv gV),(.bool tH),(.bool jY),(.bool o7),(.int .i64 i17),(.sl none 1 Ka AJ),(.sl none 1 AK AL),(.sl none 1 QP QQ),(.sl none 1 ZH ZI),(.sl none 1 wY wZ),(.sl none 1 FY FZ)])] [] 0)
end
@[go_sem] theorem akf (xs:List Int):List.append [] (ints xs)=ints xs:=rfl
@[go_sem] theorem akg (xs:List UInt8):List.append [] (bytes xs)=bytes xs:=rfl
@[go_sem] theorem akh (xs:List Bool):List.append [] (aH xs)=aH xs:=rfl
@[go_sem] theorem aki (xs:List (List Int)):List.append [] (rows none xs)=rows none xs:=rfl
@[go_sem] theorem aiL (xs:List Int):[D.sl none 1 xs.length (ints xs)]=rows none [xs]:=rfl
@[go_sem] theorem agh (xs ys:List (List Int)):List.append (rows none xs) (rows none ys)=rows none (xs++ys):=by simp [rows]
@[go_sem] theorem agi (xs ys:List Bool):List.append (aH xs) (aH ys)=aH (xs++ys):=by simp [aH]
@[go_sem] theorem agj (xs ys:List UInt8):List.append (bytes xs) (bytes ys)=bytes (xs++ys):=by simp [bytes]
@[go_sem] theorem aej (xs:List Int):U.cell (ints xs)=true:=by simp [U,ints,cy]
@[go_sem] theorem aek (xs:List UInt8):U.cell (bytes xs)=true:=by simp [U,bytes,ef,cy]
@[go_sem] theorem ael (xs:List Bool):U.cell (aH xs)=true:=by simp [U,aH,cy]
theorem acf {α:Type} (xs:List α) (i:Nat) (d:α) (h:i < xs.length):xs.take i++[xs.getD i d]=xs.take (i+1):=by
  rw [List.take_succ_eq_append_getElem h,List.getD_eq_getElem?_getD,List.getElem?_eq_getElem h]
  rfl
theorem To (g:Bool) (xs:List UInt8) (hb:xs.length≤17592186044416):Cm 128 [.sl (some g) 1 xs.length (bytes xs)] (.sl none 1 xs.length (bytes xs),[.undef]):=by
  refine Sl (e:=va 1 1) (by kernel_rfl) ?_
  have h:(bytes xs).all hL=true:=by simp [bytes,ef,hL]
  simp only [va,h]
  rw [if_pos (by refine ⟨?_,?_,?_,?_⟩<;>first | trivial | rfl | omega)]
@[go_sem] theorem ads (g:Bool) (n:Nat) (xs:List UInt8) (e:n=xs.length) (hb:xs.length≤17592186044416) (t:bJ Rz):aY 128 [.sl (some g) 1 n (bytes xs)] t=feed t [enc .B xs]:=by
  subst e
  exact bK (r:=enc .B xs) (s:=.ty .B) (ss:=[.undef]) (To g xs hb) (by kernel_rfl) (aw _ _) (by simp only [ai,aI,ak,Bool.and_self]) (av _ _) rfl t
theorem BQ (m:aG) (q0:eo m):Cm 120 [.agg (dg (some true) m)] (.agg (dg none (m)),[.undef]):=by
  have h1:=q0.a
  have h2:=q0.b
  refine Cm.step BO [.undef] fun J hJ=>?_
  rw [BP]
  simp (disch:=first | assumption | omega) only [go_sem]
@[go_sem] theorem Tp (m:aG) (q0:eo m) (t:bJ Rz):aY 120 [.agg (nu (some true) m)] t=feed t [enc .cP (m)]:=by
  exact bK (r:=enc .cP (m)) (s:=.ty .cP) (ss:=[.undef]) (BQ m q0) (by kernel_rfl) (by simp only [aw,bo,aV,bp,bq,ai,ak,Bool.and_self]) (by simp only [ai,aI,aw,ak,Bool.and_self]) (by first | rfl | simp only [av,aT,aS,bl,bm,aU,bn,Bool.and_self]) (by first | rfl | simp only [List.all_cons,List.all_nil,av,Bool.and_self]) t
theorem HI (m:aG) (q0:eo m):Cm 110 [.agg (dg (some true) m)] (.agg (dg none (m)),[.undef]):=by
  have h1:=q0.a
  have h2:=q0.b
  refine Cm.step HG [.undef] fun J hJ=>?_
  rw [HH]
  simp (disch:=first | assumption | omega) only [go_sem]
@[go_sem] theorem W9 (m:aG) (q0:eo m) (t:bJ Rz):aY 110 [.agg (nu (some true) m)] t=feed t [enc .cP (m)]:=by
  exact bK (r:=enc .cP (m)) (s:=.ty .cP) (ss:=[.undef]) (HI m q0) (by kernel_rfl) (by simp only [aw,bo,aV,bp,bq,ai,ak,Bool.and_self]) (by simp only [ai,aI,aw,ak,Bool.and_self]) (by first | rfl | simp only [av,aT,aS,bl,bm,aU,bn,Bool.and_self]) (by first | rfl | simp only [List.all_cons,List.all_nil,av,Bool.and_self]) t
end Go.Proofs.Ytockoilcnmljiaa
namespace Go.Proofs.Ytockoilcnmljiaa
set_option maxRecDepth 100000
section
variable (pr:cT) (cv:Cv Rz) (J:Nat→St→Option Rz)
end
noncomputable def agk (n:af):af × Bool:=if (dr n&&n.bD)=true then ({ n with bD:=false,wait:=[] },true) else (n,false)
noncomputable def aiM (x y:af) (q:Bool):af × Bool:=if jl x y q=true then ({ x with bD:=true },true) else (x,false)
theorem aaY {x y:af} {q:Bool} (h:jl x y q=true):x.bD=false:=by
  unfold jl at h
  simp only [Bool.and_eq_true,Bool.not_eq_true'] at h
  exact h.2.2.2.2.1
end Go.Proofs.Ytockoilcnmljiaa
namespace Go.Proofs.Ytockoilcnmljiaa
set_option maxRecDepth 100000
@[go_sem] theorem aiN (k:Int) (n:Nat):decide (n=(Uy k n).length)=true:=by simp [NJ]
@[go_sem] theorem aiO (k:Int) (n:Nat):decide (n=(YQ k n).length)=true:=by simp [NK]
@[go_sem] theorem aiP (k:Int) (n:Nat):decide (n=(YR k n).length)=true:=by simp [NL]
@[go_sem] theorem aiQ (k:Int) (x:List (List Int)):decide (x.length=(Vh k x).length)=true:=by simp [C3]
end Go.Proofs.Ytockoilcnmljiaa
namespace Go.Proofs.Ytockoilcnmljiaa
set_option maxRecDepth 100000
def n0:af:=⟨0,false,false,[],⟨[],[],false,false,false,0⟩,⟨[],[]⟩,[],[],[],[]⟩
def w0:eA:=⟨0,0,[]⟩
def r0:gz:=⟨0,0⟩
@[go_sem] theorem aem (i:Int):U.idx 0 i 16=i.toNat*16:=by show (0+i.toNat)*16=_; omega
@[go_sem] theorem agl (i:Int):U.idx 0 i 3=i.toNat*3:=by show (0+i.toNat)*3=_; omega
@[go_sem] theorem agm (i:Int):U.idx 0 i 2=i.toNat*2:=by show (0+i.toNat)*2=_; omega
theorem dI {α:Type} {xs:List α} {i:Nat} {d:α} (h:i < xs.length):xs.getD i d=xs[i]:=by rw [List.getD_eq_getElem?_getD,List.getElem?_eq_getElem h]; rfl
section
variable {g:Bool} {xs:List af} {i:Nat} (h:i < xs.length)
include h
@[go_sem] theorem aiR:U.cL .i64 (ah (ab (some g)) xs) (i*16)=true:=UE h
@[go_sem] theorem aiS:U.bG (ah (ab (some g)) xs) (i*16)=(xs.getD i n0).id:=(UF (g:=g) h).trans (by rw [dI h])
@[go_sem] theorem aiT:U.eD (ah (ab (some g)) xs) (i*16+1)=true:=UG h
@[go_sem] theorem aiU:U.cZ (ah (ab (some g)) xs) (i*16+1)=(xs.getD i n0).up:=(UH (g:=g) h).trans (by rw [dI h])
@[go_sem] theorem aiV:U.eD (ah (ab (some g)) xs) (i*16+2)=true:=UI h
@[go_sem] theorem aiW:U.cZ (ah (ab (some g)) xs) (i*16+2)=(xs.getD i n0).bD:=(UJ (g:=g) h).trans (by rw [dI h])
@[go_sem] theorem aiX:U.dq 1 (ah (ab (some g)) xs) (i*16+3)=true:=UK h
@[go_sem] theorem aiY:U.cJ (ah (ab (some g)) xs) (i*16+3)=g:=UL h
@[go_sem] theorem aiZ:U.cg (ah (ab (some g)) xs) (i*16+3)=(xs.getD i n0).image.length:=(UM (g:=g) h).trans (by rw [dI h])
@[go_sem] theorem ai0:U.cq (ah (ab (some g)) xs) (i*16+3)=ints (xs.getD i n0).image:=(UN (g:=g) h).trans (by rw [dI h])
@[go_sem] theorem ai1:U.dq 1 (ah (ab (some g)) xs) (i*16+4)=true:=UO h
@[go_sem] theorem ai2:U.cJ (ah (ab (some g)) xs) (i*16+4)=g:=UP h
@[go_sem] theorem ai3:U.cg (ah (ab (some g)) xs) (i*16+4)=(xs.getD i n0).mt.aA.length:=(UQ (g:=g) h).trans (by rw [dI h])
@[go_sem] theorem ai4:U.cq (ah (ab (some g)) xs) (i*16+4)=ints (xs.getD i n0).mt.aA:=(UR (g:=g) h).trans (by rw [dI h])
@[go_sem] theorem ai5:U.dq 1 (ah (ab (some g)) xs) (i*16+5)=true:=US h
@[go_sem] theorem ai6:U.cJ (ah (ab (some g)) xs) (i*16+5)=g:=UT h
@[go_sem] theorem ai7:U.cg (ah (ab (some g)) xs) (i*16+5)=(xs.getD i n0).mt.bits.length:=(UU (g:=g) h).trans (by rw [dI h])
@[go_sem] theorem ai8:U.cq (ah (ab (some g)) xs) (i*16+5)=rows (some g) (xs.getD i n0).mt.bits:=(UW (g:=g) h).trans (by rw [dI h])
@[go_sem] theorem ai9:U.eD (ah (ab (some g)) xs) (i*16+6)=true:=UX h
@[go_sem] theorem aja:U.cZ (ah (ab (some g)) xs) (i*16+6)=(xs.getD i n0).mt.bY:=(UY (g:=g) h).trans (by rw [dI h])
@[go_sem] theorem ajb:U.eD (ah (ab (some g)) xs) (i*16+7)=true:=UZ h
@[go_sem] theorem ajc:U.cZ (ah (ab (some g)) xs) (i*16+7)=(xs.getD i n0).mt.bQ:=(U0 (g:=g) h).trans (by rw [dI h])
@[go_sem] theorem ajd:U.eD (ah (ab (some g)) xs) (i*16+8)=true:=U1 h
@[go_sem] theorem aje:U.cZ (ah (ab (some g)) xs) (i*16+8)=(xs.getD i n0).mt.held:=(U2 (g:=g) h).trans (by rw [dI h])
@[go_sem] theorem ajf:U.cL .i64 (ah (ab (some g)) xs) (i*16+9)=true:=U3 h
@[go_sem] theorem ajg:U.bG (ah (ab (some g)) xs) (i*16+9)=(xs.getD i n0).mt.last:=(U4 (g:=g) h).trans (by rw [dI h])
@[go_sem] theorem agn:U.dq 1 (ah (ab (some g)) xs) (i*16+10)=true:=P4 h
@[go_sem] theorem ago:U.cJ (ah (ab (some g)) xs) (i*16+10)=g:=P5 h
@[go_sem] theorem agp:U.cg (ah (ab (some g)) xs) (i*16+10)=(xs.getD i n0).cP.a.length:=(P6 (g:=g) h).trans (by rw [dI h])
@[go_sem] theorem agq:U.cq (ah (ab (some g)) xs) (i*16+10)=bytes (xs.getD i n0).cP.a:=(P7 (g:=g) h).trans (by rw [dI h])
@[go_sem] theorem agr:U.dq 1 (ah (ab (some g)) xs) (i*16+11)=true:=P8 h
@[go_sem] theorem ags:U.cJ (ah (ab (some g)) xs) (i*16+11)=g:=P9 h
@[go_sem] theorem agt:U.cg (ah (ab (some g)) xs) (i*16+11)=(xs.getD i n0).cP.b.length:=(Qa (g:=g) h).trans (by rw [dI h])
@[go_sem] theorem agu:U.cq (ah (ab (some g)) xs) (i*16+11)=bytes (xs.getD i n0).cP.b:=(Qb (g:=g) h).trans (by rw [dI h])
@[go_sem] theorem agv:U.dq 1 (ah (ab (some g)) xs) (i*16+12)=true:=Qc h
@[go_sem] theorem agw:U.cJ (ah (ab (some g)) xs) (i*16+12)=g:=Qd h
@[go_sem] theorem agx:U.cg (ah (ab (some g)) xs) (i*16+12)=(xs.getD i n0).conn.length:=(Qe (g:=g) h).trans (by rw [dI h])
@[go_sem] theorem agy:U.cq (ah (ab (some g)) xs) (i*16+12)=aH (xs.getD i n0).conn:=(Qf (g:=g) h).trans (by rw [dI h])
@[go_sem] theorem agz:U.dq 1 (ah (ab (some g)) xs) (i*16+13)=true:=Qg h
@[go_sem] theorem agA:U.cJ (ah (ab (some g)) xs) (i*16+13)=g:=Qh h
@[go_sem] theorem agB:U.cg (ah (ab (some g)) xs) (i*16+13)=(xs.getD i n0).sync.length:=(Qi (g:=g) h).trans (by rw [dI h])
@[go_sem] theorem agC:U.cq (ah (ab (some g)) xs) (i*16+13)=rows (some g) (xs.getD i n0).sync:=(Qj (g:=g) h).trans (by rw [dI h])
@[go_sem] theorem agD:U.dq 1 (ah (ab (some g)) xs) (i*16+14)=true:=Qk h
@[go_sem] theorem agE:U.cJ (ah (ab (some g)) xs) (i*16+14)=g:=Ql h
@[go_sem] theorem agF:U.cg (ah (ab (some g)) xs) (i*16+14)=(xs.getD i n0).bA.length:=(Qm (g:=g) h).trans (by rw [dI h])
@[go_sem] theorem agG:U.cq (ah (ab (some g)) xs) (i*16+14)=aH (xs.getD i n0).bA:=(Qn (g:=g) h).trans (by rw [dI h])
@[go_sem] theorem agH:U.dq 1 (ah (ab (some g)) xs) (i*16+15)=true:=Qo h
@[go_sem] theorem agI:U.cJ (ah (ab (some g)) xs) (i*16+15)=g:=Qp h
@[go_sem] theorem agJ:U.cg (ah (ab (some g)) xs) (i*16+15)=(xs.getD i n0).wait.length:=(Qq (g:=g) h).trans (by rw [dI h])
@[go_sem] theorem agK:U.cq (ah (ab (some g)) xs) (i*16+15)=ints (xs.getD i n0).wait:=(Qr (g:=g) h).trans (by rw [dI h])
end
section
variable {g:Bool} {xs:List eA} {i:Nat} (h:i < xs.length)
include h
@[go_sem] theorem ajh:U.cL .i64 (ah (bR (some g)) xs) (i*3)=true:=U5 h
@[go_sem] theorem aji:U.bG (ah (bR (some g)) xs) (i*3)=(xs.getD i w0).src:=(U6 (g:=g) h).trans (by rw [dI h])
@[go_sem] theorem ajj:U.cL .i64 (ah (bR (some g)) xs) (i*3+1)=true:=U7 h
@[go_sem] theorem ajk:U.bG (ah (bR (some g)) xs) (i*3+1)=(xs.getD i w0).dst:=(U8 (g:=g) h).trans (by rw [dI h])
@[go_sem] theorem ajl:U.dq 1 (ah (bR (some g)) xs) (i*3+2)=true:=U9 h
@[go_sem] theorem ajm:U.cJ (ah (bR (some g)) xs) (i*3+2)=g:=Va h
@[go_sem] theorem ajn:U.cg (ah (bR (some g)) xs) (i*3+2)=(xs.getD i w0).bytes.length:=(Vb (g:=g) h).trans (by rw [dI h])
@[go_sem] theorem ajo:U.cq (ah (bR (some g)) xs) (i*3+2)=bytes (xs.getD i w0).bytes:=(Vc (g:=g) h).trans (by rw [dI h])
end
section
variable {g:Bool} {xs:List gz} {i:Nat} (h:i < xs.length)
include h
@[go_sem] theorem ajp:U.cL .i64 (ah (da (some g)) xs) (i*2)=true:=Vd h
@[go_sem] theorem ajq:U.bG (ah (da (some g)) xs) (i*2)=(xs.getD i r0).cell:=(Ve (g:=g) h).trans (by rw [dI h])
@[go_sem] theorem ajr:U.cL .i64 (ah (da (some g)) xs) (i*2+1)=true:=Vf h
@[go_sem] theorem ajs:U.bG (ah (da (some g)) xs) (i*2+1)=(xs.getD i r0).up:=(Vg (g:=g) h).trans (by rw [dI h])
end
end Go.Proofs.Ytockoilcnmljiaa
namespace Go.Proofs.Ytockoilcnmljiaa
set_option maxRecDepth 100000
section
variable {α:Type} {p:α→Bool} {xs:List α} {d:α}
def BR (p:α→Bool) (xs:List α):Int:=match xs.findIdx? p with | some i=>(i:Int) | none=>-1
theorem aen:decide (0≤BR p xs)=xs.any p:=by
  unfold BR
  cases h:xs.findIdx? p with
  | none=>
    have:=List.findIdx?_eq_none_iff.1 h
    symm
    simpa using this
  | some i=>
    obtain ⟨hi,h2,_⟩:=List.findIdx?_eq_some_iff_getElem.1 h
    have h3:xs.any p=true:=List.any_eq_true.2 ⟨xs[i],List.getElem_mem hi,h2⟩
    rw [h3]
    simp
theorem Tq {i:Nat} (hi:i < xs.length) (inv:∀ j,j < i→p (xs.getD j d)=false) (h:p (xs.getD i d)=true):BR p xs=i:=by
  unfold BR
  have:xs.findIdx? p=some i:=List.findIdx?_eq_some_iff_getElem.2 ⟨hi,by rw [← dI (d:=d) hi]; exact h,fun j hj=>by
    have:=inv j hj
    rw [dI (d:=d) (by omega)] at this
    simp [this]⟩
  rw [this]
theorem QR (inv:∀ j,j < xs.length→p (xs.getD j d)=false):BR p xs=-1:=by
  unfold BR
  have:xs.findIdx? p=none:=List.findIdx?_eq_none_iff.2 fun x hx=>by
    obtain ⟨i,hi,rfl⟩:=List.getElem_of_mem hx
    have:=inv i hi
    rwa [dI (d:=d) hi] at this
  rw [this]
end
theorem adt {α:Type} {p:α→Bool} {xs:List α} {d:α} {f:FuncId} {fn:Func} {sk:List D} {j:Nat} {H:Nat→St}
    (h1:∀ i,i < xs.length→∀ J:Nat→St→Option Rz,cA U aY J f fn sk j (H i)=br (p (xs.getD i d)) (some (.int .i64 (i:Int),sk)) (J j (H (i+1))))
    (h2:∀ J:Nat→St→Option Rz,cA U aY J f fn sk j (H xs.length)=some (.int .i64 (-1),sk)):WP f fn sk j (H 0) (.int .i64 (BR p xs),sk):=by
  refine WP.up (H:=H) xs.length (fun i=>∀ j,j < i→p (xs.getD j d)=false) (fun i hi inv J _ next=>?_) 0 (Nat.zero_le _) (fun j hj=>absurd hj (by omega))
  by_cases hl:i < xs.length
  · rw [h1 i hl J]
    cases hp:p (xs.getD i d) with
    | true=>rw [Tq hl inv hp]; rfl
    | false=>
      refine next hl fun k hk=>?_
      by_cases e:k=i
      · rw [e]; exact hp
      · exact inv k (by omega)
  · rw [show i=xs.length by omega,h2 J,QR fun j hj=>inv j (by omega)]
theorem WP.upw {f:FuncId} {fn:Func} {sk:List D} {j:Nat} {r:Rz} {H:Nat→St} (n:Nat) (inv:Nat→Prop) (hs:∀ i,i≤n→inv i→(i < n→inv (i+1)→WP f fn sk j (H (i+1)) r)→WP f fn sk j (H i) r):∀ i,i≤n→inv i→WP f fn sk j (H i) r:=by
  have key:∀ k i,i+k=n→inv i→WP f fn sk j (H i) r:=by
    intro k
    induction k with
    | zero=>intro i hi hv; exact hs i (by omega) hv (fun h=>absurd h (by omega))
    | succ k ih=>intro i hi hv; exact hs i (by omega) hv (fun _ h=>ih (i+1) (by omega) h)
  exact fun i hi hv=>key (n - i) i (by omega) hv
theorem zZ {α:Type} {xs:List α} {i:Nat} {d:α} (h:i < xs.length):xs.getD i d∈xs:=by rw [dI h]; exact List.getElem_mem h
theorem okN {w:aN} (ok:pY w) {i:Nat} (h:i < w.nodes.length):bz (w.nodes.getD i n0):=ok.node _ (zZ h)
section
variable (pr:cT) (cv:Cv Rz) (J:Nat→St→Option Rz)
theorem DG:Told cfg Try.prog 114 Try.f114:=⟨by kernel_rfl,Try.func114,by kernel_rfl⟩
theorem BS:Told cfg Try.prog 100 Try.f100:=⟨by kernel_rfl,Try.func100,by kernel_rfl⟩
end
section
variable (pr:cT) (cv:Cv Rz) (J:Nat→St→Option Rz)
def Tr (x0:aN) (i0:Int) (i1:Int):St:=(St.mk [(1,(.ptr 1 [] 0)),(13,(.sl (some true) 16 x0.nodes.length (ah (ab (some true)) x0.nodes))),(14,(.int .i64 i0)),(15,(.int .i64 i1))] [(1,[(.sl (some true) 16 x0.nodes.length (ah (ab (some true)) x0.nodes)),(.sl (some true) 3 x0.cX.length (ah (bR (some true)) x0.cX)),(.sl (some true) 2 x0.log.length (ah (da (some true)) x0.log)),(sI (some true) x0.safe),(.int .i64 x0.gen)])] [] 0)
def Ts (x0:aN) (i0:Int) (i1:Int):St:=(St.mk [(1,(.ptr 1 [] 0)),(46,(.sl (some true) 16 x0.nodes.length (ah (ab (some true)) x0.nodes))),(47,(.int .i64 i0)),(48,(.int .i64 i1))] [(1,[(.sl (some true) 16 x0.nodes.length (ah (ab (some true)) x0.nodes)),(.sl (some true) 3 x0.cX.length (ah (bR (some true)) x0.cX)),(.sl (some true) 2 x0.log.length (ah (da (some true)) x0.log)),(sI (some true) x0.safe),(.int .i64 x0.gen)])] [] 0)
def Tt (x0:aN) (i0:Int) (i1:Int) (i2:Int) (i3:Int) (b4:Bool) (b5:Bool) (g6:Bool) (n7:Nat) (c8:List D) (g9:Bool) (ph:Nat) (pj:List D) (g12:Bool) (js:Nat) (ke:List D) (jY:Bool) (o7:Bool) (pn:Bool) (i18:Int) (g19:Bool) (AK:Nat) (AL:List D) (g22:Bool) (QS:Nat) (QT:List D) (QU:Bool) (wY:Nat) (wZ:List D) (FX:Bool) (n29:Nat) (F0:List D) (F1:Bool) (n32:Nat) (QV:List D) (QW:Bool) (n35:Nat) (QX:List D):St:=(St.mk [(1,(.ptr 1 [] 0)),(5,(.int .i64 i0)),(6,(.ptr 6 [] 0)),(46,(.sl (some true) 16 x0.nodes.length (ah (ab (some true)) x0.nodes))),(47,(.int .i64 i1)),(48,(.int .i64 i0)),(53,(.int .i64 i2))] [(1,[(.sl (some true) 16 x0.nodes.length (ah (ab (some true)) x0.nodes)),(.sl (some true) 3 x0.cX.length (ah (bR (some true)) x0.cX)),(.sl (some true) 2 x0.log.length (ah (da (some true)) x0.log)),(sI (some true) x0.safe),(.int .i64 x0.gen)]),(6,[(.int .i64 i3),(.bool b4),(.bool b5),(.sl (some g6) 1 n7 c8),(.sl (some g9) 1 ph pj),(.sl (some g12) 1 js ke),(.bool jY),(.bool o7),(.bool pn),(.int .i64 i18),(.sl (some g19) 1 AK AL),(.sl (some g22) 1 QS QT),(.sl (some QU) 1 wY wZ),(.sl (some FX) 1 n29 F0),(.sl (some F1) 1 n32 QV),(.sl (some QW) 1 n35 QX)])] [] 0)
end
structure adu (w:aN) (i:Nat):Prop where
  ok:dr (w.nodes.getD i n0)=true
  id:(w.nodes.getD i n0).id=i
  last:(w.nodes.getD i n0).mt.last≤w.log.length
  cells:∀ x∈(w.nodes.getD i n0).image,x≤(w.log.length:Int)
def NZ (w:aN) (i k:Nat):Prop:=(w.nodes.getD i n0).conn.getD k false=true→(w.nodes.getD k n0).conn.getD i false=true
structure Ff (w:aN):Prop where
  len:w.nodes.length=3
  nd:∀ i,i < 3→adu w i
  sy:∀ i k,i < 3→k < 3→NZ w i k
open Classical in
noncomputable def uE (w:aN):Bool:=decide (Ff w)
open Classical in
theorem ajt {w:aN} (h:uE w=true):Ff w:=by unfold uE at h; exact of_decide_eq_true h
open Classical in
theorem aju {w:aN} (h:¬Ff w):(some ((.bool false,[.undef]):Rz))=some (.bool (uE w),[.undef]):=by unfold uE; rw [decide_eq_false h]
open Classical in
theorem agL {w:aN} (h:Ff w):(some ((.bool true,[.undef]):Rz))=some (.bool (uE w),[.undef]):=by unfold uE; rw [decide_eq_true h]
theorem aeo {l:Int} {xs:List Int}:(xs.any fun a=>decide (l < a))=true↔¬∀ x∈xs,x≤l:=by
  simp
end Go.Proofs.Ytockoilcnmljiaa
namespace Go.Proofs.Ytockoilcnmljiaa
set_option maxRecDepth 100000
section
variable (pr:cT) (cv:Cv Rz) (J:Nat→St→Option Rz)
def Tu (x0:aN) (i0:Int) (i1:Int):St:=(St.mk [(1,(.ptr 1 [] 0)),(31,(.sl (some true) 3 x0.cX.length (ah (bR (some true)) x0.cX))),(32,(.int .i64 i0)),(33,(.int .i64 i1))] [(1,[(.sl (some true) 16 x0.nodes.length (ah (ab (some true)) x0.nodes)),(.sl (some true) 3 x0.cX.length (ah (bR (some true)) x0.cX)),(.sl (some true) 2 x0.log.length (ah (da (some true)) x0.log)),(sI (some true) x0.safe),(.int .i64 x0.gen)])] [] 0)
def Tv (x0:aN) (i0:Int) (i1:Int):St:=(St.mk [(1,(.ptr 1 [] 0)),(76,(.sl (some true) 2 x0.log.length (ah (da (some true)) x0.log))),(77,(.int .i64 i0)),(78,(.int .i64 i1))] [(1,[(.sl (some true) 16 x0.nodes.length (ah (ab (some true)) x0.nodes)),(.sl (some true) 3 x0.cX.length (ah (bR (some true)) x0.cX)),(.sl (some true) 2 x0.log.length (ah (da (some true)) x0.log)),(sI (some true) x0.safe),(.int .i64 x0.gen)])] [] 0)
def Tw (x0:aN) (i0:Int) (i1:Int):St:=(St.mk [(1,(.ptr 1 [] 0)),(96,(sI (some true) x0.safe)),(97,(.int .i64 i0)),(98,(.int .i64 i1))] [(1,[(.sl (some true) 16 x0.nodes.length (ah (ab (some true)) x0.nodes)),(.sl (some true) 3 x0.cX.length (ah (bR (some true)) x0.cX)),(.sl (some true) 2 x0.log.length (ah (da (some true)) x0.log)),(sI (some true) x0.safe),(.int .i64 x0.gen)])] [] 0)
def Q7 (x0:aN) (i0:Int):St:=(St.mk [(1,(.ptr 1 [] 0)),(3,(.int .i64 i0))] [(1,[(.sl (some true) 16 x0.nodes.length (ah (ab (some true)) x0.nodes)),(.sl (some true) 3 x0.cX.length (ah (bR (some true)) x0.cX)),(.sl (some true) 2 x0.log.length (ah (da (some true)) x0.log)),(sI (some true) x0.safe),(.int .i64 x0.gen)])] [] 0)
def Q8 (x0:aN) (i0:Int) (i1:Int):St:=(St.mk [(1,(.ptr 1 [] 0)),(3,(.int .i64 i0)),(4,(.int .i64 i1))] [(1,[(.sl (some true) 16 x0.nodes.length (ah (ab (some true)) x0.nodes)),(.sl (some true) 3 x0.cX.length (ah (bR (some true)) x0.cX)),(.sl (some true) 2 x0.log.length (ah (da (some true)) x0.log)),(sI (some true) x0.safe),(.int .i64 x0.gen)])] [] 0)
def Q9 (x0:aN) (i0:Int):St:=(St.mk [(1,(.ptr 1 [] 0)),(5,(.int .i64 i0))] [(1,[(.sl (some true) 16 x0.nodes.length (ah (ab (some true)) x0.nodes)),(.sl (some true) 3 x0.cX.length (ah (bR (some true)) x0.cX)),(.sl (some true) 2 x0.log.length (ah (da (some true)) x0.log)),(sI (some true) x0.safe),(.int .i64 x0.gen)])] [] 0)
def Tx (x0:aN) (i0:Int):St:=(St.mk [(1,(.ptr 1 [] 0)),(3,(.int .i64 i0))] [(1,[(.sl (some true) 16 x0.nodes.length (ah (ab (some true)) x0.nodes)),(.sl (some true) 3 x0.cX.length (ah (bR (some true)) x0.cX)),(.sl (some true) 2 x0.log.length (ah (da (some true)) x0.log)),(sI (some true) x0.safe),(.int .i64 x0.gen)])] [] 0)
def Tz (x0:aN) (i0:Int) (i1:Int) (i2:Int) (b3:Bool) (b4:Bool) (g5:Bool) (n6:Nat) (c7:List D) (g8:Bool) (n9:Nat) (wX:List D) (g11:Bool) (gv:Nat) (gV:List D) (tH:Bool) (jY:Bool) (o7:Bool) (i17:Int) (g18:Bool) (Uz:Nat) (UA:List D) (g21:Bool) (QP:Nat) (QQ:List D) (g24:Bool) (ZJ:Nat) (Mf:List D) (Mg:Bool) (FY:Nat) (FZ:List D) (Mh:Bool) (n31:Nat) (ZK:List D) (ZL:Bool) (n34:Nat) (ZM:List D):St:=(St.mk [(1,(.ptr 1 [] 0)),(3,(.int .i64 i0)),(4,(.ptr 4 [] 0)),(5,(.int .i64 i1))] [(1,[(.sl (some true) 16 x0.nodes.length (ah (ab (some true)) x0.nodes)),(.sl (some true) 3 x0.cX.length (ah (bR (some true)) x0.cX)),(.sl (some true) 2 x0.log.length (ah (da (some true)) x0.log)),(sI (some true) x0.safe),(.int .i64 x0.gen)]),(4,[(.int .i64 i2),(.bool b3),(.bool b4),(.sl (some g5) 1 n6 c7),(.sl (some g8) 1 n9 wX),(.sl (some g11) 1 gv gV),(.bool tH),(.bool jY),(.bool o7),(.int .i64 i17),(.sl (some g18) 1 Uz UA),(.sl (some g21) 1 QP QQ),(.sl (some g24) 1 ZJ Mf),(.sl (some Mg) 1 FY FZ),(.sl (some Mh) 1 n31 ZK),(.sl (some ZL) 1 n34 ZM)])] [] 0)
def TA (x0:aN) (i0:Int):St:=(St.mk [(1,(.ptr 1 [] 0)),(6,(.int .i64 i0))] [(1,[(.sl (some true) 16 x0.nodes.length (ah (ab (some true)) x0.nodes)),(.sl (some true) 3 x0.cX.length (ah (bR (some true)) x0.cX)),(.sl (some true) 2 x0.log.length (ah (da (some true)) x0.log)),(sI (some true) x0.safe),(.int .i64 x0.gen)])] [] 0)
def TB (x0:aN) (i0:Int):St:=(St.mk [(1,(.ptr 1 [] 0)),(7,(.int .i64 i0))] [(1,[(.sl (some true) 16 x0.nodes.length (ah (ab (some true)) x0.nodes)),(.sl (some true) 3 x0.cX.length (ah (bR (some true)) x0.cX)),(.sl (some true) 2 x0.log.length (ah (da (some true)) x0.log)),(sI (some true) x0.safe),(.int .i64 x0.gen)])] [] 0)
end
structure ZN (w:aN) (x:eA):Prop where
  src:0≤x.src∧x.src≤2
  dst:0≤x.dst∧x.dst≤2
  ne:¬x.src=x.dst
  conn:(w.nodes.getD x.src.toNat n0).conn.getD x.dst.toNat false=true
  len:x.bytes.length≤400
structure adv (x:gz) (i:Nat):Prop where
  cell:0≤x.cell∧x.cell≤7
  up:0≤x.up∧x.up≤i
structure adw (w:aN) (i:Nat):Prop where
  yu:1≤w.safe.getD i 0∧w.safe.getD i 0≤w.log.length
  up:0 < (i:Int)→¬w.safe.getD i 0≤w.safe.getD (i - 1) 0
structure adx (w:aN):Prop where
  sy:∀ i k,i < 3→k < 3→NZ w i k
  wr:∀ i,i < w.cX.length→ZN w (w.cX.getD i w0)
  cX:(w.cX.length:Int)≤40
structure DE (w:aN):Prop where
  ns:Ff w
  cX:(w.cX.length:Int)≤40
  log:(w.log.length:Int)≤200
  gen:2≤w.gen∧w.gen≤100000
  wr:∀ i,i < w.cX.length→ZN w (w.cX.getD i w0)
  rc:∀ i,i < w.log.length→adv (w.log.getD i r0) i
  sf:∀ i,i < w.safe.length→adw w i
open Classical in
noncomputable def tQ (p:Prop):Bool:=decide p
open Classical in
theorem Ic {p:Prop} (h:p):tQ p=true:=by unfold tQ; exact decide_eq_true h
open Classical in
theorem Vv {p:Prop} (h:¬p):tQ p=false:=by unfold tQ; exact decide_eq_false h
open Classical in
theorem ZO {p:Prop} (h:tQ p=true):p:=by unfold tQ at h; exact of_decide_eq_true h
theorem agM {p q:Prop} (h:p↔q):tQ p=tQ q:=by rw [propext h]
theorem akj {p:Prop} {l:List D} (h:¬p):(some ((.bool false,l):Rz))=some (.bool (tQ p),l):=by rw [Vv h]
theorem ajv {p:Prop} {l:List D} (h:p):(some ((.bool true,l):Rz))=some (.bool (tQ p),l):=by rw [Ic h]
noncomputable def qc (w:aN):Bool:=tQ (DE w)
noncomputable def agN (w:aN):Bool:=tQ (adx w)
theorem ZP {w:aN} (h:qc w=true):DE w:=ZO h
open Classical in
theorem ajw {w:aN} (h:Ff w):uE w=true:=by unfold uE; exact decide_eq_true h
theorem okW {w:aN} (ok:pY w) {i:Nat} (h:i < w.cX.length):nk (w.cX.getD i w0):=ok.yD _ (zZ h)
theorem acg {p:Nat→Prop} {i:Nat} (h:∀ a,a < i→p a) (hi:p i):∀ a,a < i+1→p a:=by
  intro a ha
  by_cases e:a=i
  · rw [e]; exact hi
  · exact h a (by omega)
theorem agO {w:aN} {i k:Nat} (hi:i < 3) (hk:k < 3) (o:∀ i k,i < 3→k < 3→NZ w i k):(w.nodes.getD i n0).conn.getD k false=(w.nodes.getD k n0).conn.getD i false:=by
  have h1:=o i k hi hk
  have h2:=o k i hk hi
  unfold NZ at h1 h2
  cases h:(w.nodes.getD i n0).conn.getD k false<;>cases h':(w.nodes.getD k n0).conn.getD i false<;>simp_all
theorem agP {l:Int} {xs:List Int} {n:Nat} (e:xs.length=n) (h:∀ k,k < n→xs.getD k 0≤l):∀ x∈xs,x≤l:=by
  intro x hx
  obtain ⟨k,hk,rfl⟩:=List.getElem_of_mem hx
  rw [← dI (d:=0) hk]
  exact h k (by omega)
theorem agQ {xs:List Int} (h:ji xs=true):xs.length=8:=by
  unfold ji at h
  simp only [Bool.and_eq_true,decide_eq_true_eq] at h
  omega
end Go.Proofs.Ytockoilcnmljiaa
namespace Go.Proofs.Ytockoilcnmljiaa
set_option maxRecDepth 100000
section
variable (pr:cT) (cv:Cv Rz) (J:Nat→St→Option Rz)
end
open Classical in
noncomputable def z1 (w:aN) (a c:Int):Int × Int:=if DE w∧(0≤a∧a≤2)∧(0≤c∧c≤7)∧(w.nodes.getD a.toNat n0).bD=true then ((w.nodes.getD a.toNat n0).image.getD c.toNat 0,0) else (0,2)
theorem aep {w:aN} {a c:Int} {l:List D} (h:¬(DE w∧(0≤a∧a≤2)∧(0≤c∧c≤7)∧(w.nodes.getD a.toNat n0).bD=true)):(some ((.aR [.int .i64 0,.int .i64 2],l):Rz))=some (.aR [.int .i64 (z1 w a c).1,.int .i64 (z1 w a c).2],l):=by
  unfold z1; rw [if_neg h]
theorem ady {w:aN} {a c:Int} {l:List D} (h:DE w∧(0≤a∧a≤2)∧(0≤c∧c≤7)∧(w.nodes.getD a.toNat n0).bD=true):(some ((.aR [.int .i64 ((w.nodes.getD a.toNat n0).image.getD c.toNat 0),.int .i64 0],l):Rz))=some (.aR [.int .i64 (z1 w a c).1,.int .i64 (z1 w a c).2],l):=by
  unfold z1; rw [if_pos h]
theorem agR {w:aN} (h:¬qc w=true):¬DE w:=fun o=>h (Ic o)
end Go.Proofs.Ytockoilcnmljiaa
namespace Go.Proofs.Ytockoilcnmljiaa
set_option maxRecDepth 100000
section
variable (pr:cT) (cv:Cv Rz) (J:Nat→St→Option Rz)
def Vw (x0:aN) (i0:Int) (i1:Int) (n2:Nat) (c3:List D):St:=(St.mk [(3,(.ref 10003 [] 0 none)),(8,(.sl (some true) 16 x0.nodes.length (ah (ab (some true)) x0.nodes))),(9,(.int .i64 i0)),(10,(.int .i64 i1))] [(10003,[(.sl none 1 n2 c3)])] [] 0)
def Ra (x0:aN) (i0:Int) (i1:Int):St:=(St.mk [(1,(.ptr 1 [] 0)),(3,(.int .i64 i0)),(4,(.int .i64 i1))] [(1,[(.sl (some true) 16 x0.nodes.length (ah (ab (some true)) x0.nodes)),(.sl (some true) 3 x0.cX.length (ah (bR (some true)) x0.cX)),(.sl (some true) 2 x0.log.length (ah (da (some true)) x0.log)),(sI (some true) x0.safe),(.int .i64 x0.gen)])] [] 0)
end
attribute [go_sem] EM
def lF (w:aN):Nat→List Int
  | 0=>[]
  | i+1=>if (w.nodes.getD i n0).bD=true then lF w i++[(i:Int)] else lF w i
theorem ach {w:aN} {i:Nat} (h:(w.nodes.getD i n0).bD=true):lF w (i+1)=lF w i++[(i:Int)]:=by
  show (if _ then _ else _)=_
  rw [if_pos h]
theorem aci {w:aN} {i:Nat} (h:¬(w.nodes.getD i n0).bD=true):lF w (i+1)=lF w i:=by
  show (if _ then _ else _)=_
  rw [if_neg h]
theorem Lr (w:aN):∀ i,(lF w i).length≤i
  | 0=>by simp [lF]
  | i+1=>by
    have:=Lr w i
    unfold lF
    split
    · simp; omega
    · omega
noncomputable def acj (w:aN):Bool:=qc w&&(decide (((lF w 3).length:Int)≤1)&&!((w.nodes.getD 0 n0).mt.bQ&&(w.nodes.getD 1 n0).mt.bQ))
end Go.Proofs.Ytockoilcnmljiaa
namespace Go.Proofs.Ytockoilcnmljiaa
set_option maxRecDepth 100000
def nv (w:aN) (n:Int):List Int:=(uz w.log w.log.length n).reverse
theorem QY (w:aN) (n:Int) (h:n≤w.log.length):(nv w n).length≤w.log.length:=by
  have:=Ml (log:=w.log) w.log.length n
  unfold nv
  rw [List.length_reverse]
  omega
section
variable (g:Bool) (n:Nat) (c:List D)
@[go_sem] theorem akk:U.dq 1 [.sl (some g) 1 n c] 0=true:=rfl
@[go_sem] theorem akl:U.cJ [.sl (some g) 1 n c] 0=g:=rfl
@[go_sem] theorem akm:U.cg [.sl (some g) 1 n c] 0=n:=rfl
@[go_sem] theorem akn:U.cq [.sl (some g) 1 n c] 0=c:=rfl
end
theorem Gm {α:Type} {e:α→List D} {k:Nat} (h:∀ x,(e x).length=k):∀ (xs:List α) (n:Nat),List.take (Nat.mul n k) (ah e xs)=ah e (xs.take n)
  | [],n=>by simp [ah]
  | x::xs,0=>by show List.take (0*k) _=_; simp [ah]
  | x::xs,n+1=>by
    have e1:ah e (x::xs)=e x++ah e xs:=by simp [ah]
    have e2:ah e ((x::xs).take (n+1))=e x++ah e (xs.take n):=by simp [ah]
    rw [e1,e2,List.take_append]
    have e3:Nat.mul (n+1) k=n*k+k:=Nat.succ_mul n k
    rw [e3,h x,List.take_of_length_le (by rw [h x]; omega),show n*k+k - k=Nat.mul n k by show _=n*k; omega,Gm h xs n]
@[go_sem] theorem takeN (g:Option Bool) (xs:List af) (n:Nat):List.take (Nat.mul n 16) (ah (ab g) xs)=ah (ab g) (xs.take n):=Gm (e:=ab g) (fun _=>rfl) xs n
attribute [go_sem] List.drop_zero
@[go_sem] theorem getD_take {α:Type} {xs:List α} {m i:Nat} {d:α} (h:i < m):(xs.take m).getD i d=xs.getD i d:=by
  rw [List.getD_eq_getElem?_getD,List.getD_eq_getElem?_getD,List.getElem?_take_of_lt h]
section
variable (pr:cT) (cv:Cv Rz) (J:Nat→St→Option Rz)
theorem BZ:Told cfg Try.prog 114 Try.f114:=⟨by kernel_rfl,Try.func114,by kernel_rfl⟩
theorem Ae:Told cfg Try.prog 100 Try.f100:=⟨by kernel_rfl,Try.func100,by kernel_rfl⟩
end
section
variable (pr:cT) (cv:Cv Rz) (J:Nat→St→Option Rz)
def QZ (x0:aN) (n0:Nat) (c1:List D) (i2:Int) (i3:Int):St:=(St.mk [(1,(.ptr 1 [] 0)),(11,(.sl (some true) 16 n0 c1)),(12,(.int .i64 i2)),(13,(.int .i64 i3))] [(1,[(.sl (some true) 16 x0.nodes.length (ah (ab (some true)) x0.nodes)),(.sl (some true) 3 x0.cX.length (ah (bR (some true)) x0.cX)),(.sl (some true) 2 x0.log.length (ah (da (some true)) x0.log)),(sI (some true) x0.safe),(.int .i64 x0.gen)])] [] 0)
def Q0 (x0:aN) (i0:Int):St:=(St.mk [(1,(.ptr 1 [] 0)),(3,(.int .i64 i0))] [(1,[(.sl (some true) 16 x0.nodes.length (ah (ab (some true)) x0.nodes)),(.sl (some true) 3 x0.cX.length (ah (bR (some true)) x0.cX)),(.sl (some true) 2 x0.log.length (ah (da (some true)) x0.log)),(sI (some true) x0.safe),(.int .i64 x0.gen)])] [] 0)
def Q1 (x0:aN) (i0:Int) (i1:Int) (n2:Nat) (c3:List D):St:=(St.mk [(1,(.ptr 1 [] 0)),(3,(.int .i64 i0)),(5,(.ref 10005 [] 0 none)),(6,(.int .i64 i1))] [(1,[(.sl (some true) 16 x0.nodes.length (ah (ab (some true)) x0.nodes)),(.sl (some true) 3 x0.cX.length (ah (bR (some true)) x0.cX)),(.sl (some true) 2 x0.log.length (ah (da (some true)) x0.log)),(sI (some true) x0.safe),(.int .i64 x0.gen)]),(10005,[(.sl none 1 n2 c3)])] [] 0)
end
def Mw (xs ys:List Int):Bool:=xs.all fun a=>decide (a∈ys)
theorem aaZ {xs ys:List Int}:Mw xs ys=true↔∀ x∈xs,x∈ys:=by simp [Mw]
def pc (n:af):Bool:=n.bD||(n.mt.bY&&(!n.mt.bQ&&n.mt.held))
section
variable {n:af}
theorem ld1 (hp:n.bD=true):pc n=true:=by simp [pc,hp]
theorem ld2 (hf:n.mt.bY=true) (ho:¬n.mt.bQ=true) (hh:n.mt.held=true):pc n=true:=by simp [pc,hf,ho,hh]
theorem ln1 (hp:¬n.bD=true) (ho:n.mt.bQ=true):¬pc n=true:=by simp [pc,hp,ho]
theorem ln2 (hp:¬n.bD=true) (hh:¬n.mt.held=true):¬pc n=true:=by simp [pc,hp,hh]
theorem ln3 (hp:¬n.bD=true) (hf:¬n.mt.bY=true):¬pc n=true:=by simp [pc,hp,hf]
end
def adz (w:aN) (i:Nat):Prop:=pc (w.nodes.getD i n0)=true→∀ x∈w.safe,x∈nv w (w.nodes.getD i n0).mt.last
structure aa0 (w:aN):Prop where
  ok:DE w
  all:∀ i,i < 2→adz w i
noncomputable def aa1 (w:aN):Bool:=tQ (aa0 w)
end Go.Proofs.Ytockoilcnmljiaa
namespace Go.Proofs.Ytockoilcnmljiaa
set_option maxRecDepth 100000
theorem Mx {log:List gz} {x:Int}:∀ (f:Nat) (n:Int),x∈uz log f n→1≤x∧x≤log.length
  | 0,_,h=>by simp [uz] at h
  | f+1,n,h=>by
    rw [uz] at h
    split at h
    · rename_i hn
      rw [List.mem_cons] at h
      rcases h with rfl | h
      · exact hn
      · split at h
        · exact Mx f _ h
        · simp at h
    · simp at h
theorem Q2 {w:aN} {n x:Int} (h:x∈nv w n):1≤x∧x≤w.log.length:=Mx _ _ (List.mem_reverse.1 h)
theorem adA (w:aN) (n:Int):(nv w n).length≤w.log.length:=by
  by_cases h:n≤w.log.length
  · exact QY w n h
  · unfold nv
    rw [vr (by omega)]
    simp
theorem adB {w:aN} (ok:pY w) (n:Int):rk (nv w n):=fun x hx=>by
  have:=Q2 hx
  have:=ok.log
  rw [JX]
  omega
def vF (w:aN) (l:List Int):List Int:=rpl w.log l
theorem aa2 (w:aN) (l:List Int):(vF w l).length=8:=by
  unfold vF rpl
  rw [C8]
  simp
section
variable (g:Bool) (w:aN)
@[go_sem] theorem ajx:U.dq 16 (eU (some g) w) 0=true:=rfl
@[go_sem] theorem ajy:U.cJ (eU (some g) w) 0=g:=rfl
@[go_sem] theorem ajz:U.cg (eU (some g) w) 0=w.nodes.length:=rfl
@[go_sem] theorem ajA:U.cq (eU (some g) w) 0=ah (ab (some g)) w.nodes:=rfl
@[go_sem] theorem ajB:U.dq 3 (eU (some g) w) 1=true:=rfl
@[go_sem] theorem ajC:U.cJ (eU (some g) w) 1=g:=rfl
@[go_sem] theorem ajD:U.cg (eU (some g) w) 1=w.cX.length:=rfl
@[go_sem] theorem ajE:U.cq (eU (some g) w) 1=ah (bR (some g)) w.cX:=rfl
@[go_sem] theorem ajF:U.dq 2 (eU (some g) w) 2=true:=rfl
@[go_sem] theorem ajG:U.cJ (eU (some g) w) 2=g:=rfl
@[go_sem] theorem ajH:U.cg (eU (some g) w) 2=w.log.length:=rfl
@[go_sem] theorem ajI:U.cq (eU (some g) w) 2=ah (da (some g)) w.log:=rfl
@[go_sem] theorem ajJ:U.dq 1 (eU (some g) w) 3=true:=rfl
@[go_sem] theorem ajK:U.cJ (eU (some g) w) 3=g:=rfl
@[go_sem] theorem ajL:U.cg (eU (some g) w) 3=w.safe.length:=rfl
@[go_sem] theorem ajM:U.cq (eU (some g) w) 3=ints w.safe:=rfl
@[go_sem] theorem ajN:U.cL .i64 (eU (some g) w) 4=true:=rfl
@[go_sem] theorem ajO:U.bG (eU (some g) w) 4=w.gen:=rfl
end
section
variable (pr:cT) (cv:Cv Rz) (J:Nat→St→Option Rz)
end
section
variable (pr:cT) (cv:Cv Rz) (J:Nat→St→Option Rz)
def N0 (x0:aN) (i0:Int):St:=(St.mk [(1,(.ptr 1 [] 0)),(3,(.int .i64 i0))] [(1,[(.sl (some true) 16 x0.nodes.length (ah (ab (some true)) x0.nodes)),(.sl (some true) 3 x0.cX.length (ah (bR (some true)) x0.cX)),(.sl (some true) 2 x0.log.length (ah (da (some true)) x0.log)),(sI (some true) x0.safe),(.int .i64 x0.gen)])] [] 0)
end
def wJ (w:aN) (n:af):Bool:=n.mt.bY&&!decide (n.image=vF w (nv w n.mt.last))
section
variable {w:aN} {n:af}
theorem ako (hf:n.mt.bY=true) (he:¬n.image=vF w (nv w n.mt.last)):¬wJ w n=false:=by simp [wJ,hf,he]
theorem akp (he:n.image=vF w (nv w n.mt.last)):wJ w n=false:=by simp [wJ,← he]
theorem akq (hf:¬n.mt.bY=true):wJ w n=false:=by simp [wJ,hf]
end
noncomputable def AT (w:aN):Bool:=qc w&&!w.nodes.any (wJ w)
structure Q3 (w:aN):Prop where
  ok:DE w
  all:∀ i,i < 3→wJ w (w.nodes.getD i n0)=false
theorem acm (w:aN):AT w=tQ (Q3 w):=by
  unfold AT
  by_cases h:Q3 w
  · rw [Ic h,show qc w=true from Ic h.ok]
    rw [Bool.true_and,Bool.not_eq_true',List.any_eq_false]
    intro x hx
    obtain ⟨i,hi,rfl⟩:=List.getElem_of_mem hx
    have:=h.ok.ns.len
    rw [← dI (d:=n0) hi,h.all i (by omega)]
    simp
  · rw [Vv h]
    cases hw:qc w with
    | false=>rfl
    | true=>
      rw [Bool.true_and,Bool.not_eq_false',List.any_eq_true]
      have o:=ZP hw
      have:∃ i,i < 3∧¬wJ w (w.nodes.getD i n0)=false:=Classical.byContradiction fun hn=>h ⟨o,fun i hi=>Classical.byContradiction fun hc=>hn ⟨i,hi,hc⟩⟩
      obtain ⟨i,hi,hc⟩:=this
      have:=o.ns.len
      exact ⟨_,zZ (d:=n0) (i:=i) (by omega),by simpa using hc⟩
end Go.Proofs.Ytockoilcnmljiaa
namespace Go.Proofs.Ytockoilcnmljiaa
set_option maxRecDepth 100000
section
variable (pr:cT) (cv:Cv Rz) (J:Nat→St→Option Rz)
def Vx (x0:List Int) (x1:List Int) (i0:Int) (n1:Nat) (c2:List D):St:=(St.mk [(0,(sI (some true) x0)),(1,(sI (some true) x1)),(5,(.ref 10005 [] 0 none)),(10,(.int .i64 i0))] [(10005,[(.sl none 1 n1 c2)])] [] 0)
def Vy (x0:List Int) (x1:List Int) (i0:Int) (n1:Nat) (c2:List D):St:=(St.mk [(0,(sI (some true) x0)),(1,(sI (some true) x1)),(5,(.ref 10005 [] 0 none)),(6,(.int .i64 i0))] [(10005,[(.sl none 1 n1 c2)])] [] 0)
def N1 (x0:aN) (i0:Int) (i1:Int):St:=(St.mk [(1,(.ptr 1 [] 0)),(13,(.sl (some true) 16 x0.nodes.length (ah (ab (some true)) x0.nodes))),(14,(.int .i64 i0)),(15,(.int .i64 i1))] [(1,[(.sl (some true) 16 x0.nodes.length (ah (ab (some true)) x0.nodes)),(.sl (some true) 3 x0.cX.length (ah (bR (some true)) x0.cX)),(.sl (some true) 2 x0.log.length (ah (da (some true)) x0.log)),(sI (some true) x0.safe),(.int .i64 x0.gen)])] [] 0)
def N2 (x0:aN) (i0:Int) (i1:Int) (n2:Nat) (c3:List D) (i4:Int) (i5:Int) (i6:Int) (b7:Bool) (b8:Bool) (g9:Bool) (ph:Nat) (pj:List D) (g12:Bool) (js:Nat) (ke:List D) (g15:Bool) (n16:Nat) (c17:List D) (Mo:Bool) (Mp:Bool) (ZQ:Bool) (i21:Int) (g22:Bool) (QS:Nat) (QT:List D) (QU:Bool) (wY:Nat) (wZ:List D) (FX:Bool) (n29:Nat) (F0:List D) (F1:Bool) (n32:Nat) (QV:List D) (QW:Bool) (n35:Nat) (QX:List D) (g37:Bool) (n38:Nat) (c39:List D):St:=(St.mk [(1,(.ptr 1 [] 0)),(3,(.int .i64 i0)),(4,(.ptr 4 [] 0)),(13,(.sl (some true) 16 x0.nodes.length (ah (ab (some true)) x0.nodes))),(14,(.int .i64 i1)),(15,(.int .i64 i0)),(23,(.sl (some true) 16 n2 c3)),(24,(.int .i64 i4)),(25,(.int .i64 i5))] [(1,[(.sl (some true) 16 x0.nodes.length (ah (ab (some true)) x0.nodes)),(.sl (some true) 3 x0.cX.length (ah (bR (some true)) x0.cX)),(.sl (some true) 2 x0.log.length (ah (da (some true)) x0.log)),(sI (some true) x0.safe),(.int .i64 x0.gen)]),(4,[(.int .i64 i6),(.bool b7),(.bool b8),(.sl (some g9) 1 ph pj),(.sl (some g12) 1 js ke),(.sl (some g15) 1 n16 c17),(.bool Mo),(.bool Mp),(.bool ZQ),(.int .i64 i21),(.sl (some g22) 1 QS QT),(.sl (some QU) 1 wY wZ),(.sl (some FX) 1 n29 F0),(.sl (some F1) 1 n32 QV),(.sl (some QW) 1 n35 QX),(.sl (some g37) 1 n38 c39)])] [] 0)
def N3 (x0:aN) (i0:Int) (i1:Int) (i2:Int) (n3:Nat) (c4:List D) (i5:Int) (i6:Int) (i7:Int) (i8:Int) (b9:Bool) (hZ:Bool) (g11:Bool) (gv:Nat) (gV:List D) (g14:Bool) (pk:Nat) (w5:List D) (g17:Bool) (Ka:Nat) (AJ:List D) (ZQ:Bool) (b21:Bool) (b22:Bool) (i23:Int) (g24:Bool) (ZJ:Nat) (Mf:List D) (Mg:Bool) (FY:Nat) (FZ:List D) (Mh:Bool) (n31:Nat) (ZK:List D) (ZL:Bool) (n34:Nat) (ZM:List D) (g36:Bool) (n37:Nat) (c38:List D) (g39:Bool) (n40:Nat) (c41:List D) (i42:Int) (b43:Bool) (b44:Bool) (g45:Bool) (n46:Nat) (c47:List D) (g48:Bool) (n49:Nat) (c50:List D) (g51:Bool) (n52:Nat) (c53:List D) (b54:Bool) (b55:Bool) (b56:Bool) (i57:Int) (g58:Bool) (n59:Nat) (c60:List D) (g61:Bool) (n62:Nat) (c63:List D) (g64:Bool) (n65:Nat) (c66:List D) (g67:Bool) (n68:Nat) (c69:List D) (g70:Bool) (ZR:Nat) (ZS:List D) (g73:Bool) (n74:Nat) (c75:List D) (n76:Nat) (c77:List D):St:=(St.mk [(1,(.ptr 1 [] 0)),(3,(.int .i64 i0)),(4,(.ptr 4 [] 0)),(5,(.int .i64 i1)),(6,(.ptr 6 [] 0)),(13,(.sl (some true) 16 x0.nodes.length (ah (ab (some true)) x0.nodes))),(14,(.int .i64 i2)),(15,(.int .i64 i0)),(23,(.sl (some true) 16 n3 c4)),(24,(.int .i64 i5)),(25,(.int .i64 i1)),(34,(.ref 10034 [] 0 none)),(35,(.int .i64 i6)),(36,(.int .i64 i7))] [(1,[(.sl (some true) 16 x0.nodes.length (ah (ab (some true)) x0.nodes)),(.sl (some true) 3 x0.cX.length (ah (bR (some true)) x0.cX)),(.sl (some true) 2 x0.log.length (ah (da (some true)) x0.log)),(sI (some true) x0.safe),(.int .i64 x0.gen)]),(4,[(.int .i64 i8),(.bool b9),(.bool hZ),(.sl (some g11) 1 gv gV),(.sl (some g14) 1 pk w5),(.sl (some g17) 1 Ka AJ),(.bool ZQ),(.bool b21),(.bool b22),(.int .i64 i23),(.sl (some g24) 1 ZJ Mf),(.sl (some Mg) 1 FY FZ),(.sl (some Mh) 1 n31 ZK),(.sl (some ZL) 1 n34 ZM),(.sl (some g36) 1 n37 c38),(.sl (some g39) 1 n40 c41)]),(6,[(.int .i64 i42),(.bool b43),(.bool b44),(.sl (some g45) 1 n46 c47),(.sl (some g48) 1 n49 c50),(.sl (some g51) 1 n52 c53),(.bool b54),(.bool b55),(.bool b56),(.int .i64 i57),(.sl (some g58) 1 n59 c60),(.sl (some g61) 1 n62 c63),(.sl (some g64) 1 n65 c66),(.sl (some g67) 1 n68 c69),(.sl (some g70) 1 ZR ZS),(.sl (some g73) 1 n74 c75)]),(10034,[(.sl none 1 n76 c77)])] [] 0)
def N4 (x0:aN) (i0:Int):St:=(St.mk [(1,(.ptr 1 [] 0)),(3,(.int .i64 i0))] [(1,[(.sl (some true) 16 x0.nodes.length (ah (ab (some true)) x0.nodes)),(.sl (some true) 3 x0.cX.length (ah (bR (some true)) x0.cX)),(.sl (some true) 2 x0.log.length (ah (da (some true)) x0.log)),(sI (some true) x0.safe),(.int .i64 x0.gen)])] [] 0)
def N5 (x0:aN) (i0:Int) (i1:Int):St:=(St.mk [(1,(.ptr 1 [] 0)),(3,(.int .i64 i0)),(4,(.int .i64 i1))] [(1,[(.sl (some true) 16 x0.nodes.length (ah (ab (some true)) x0.nodes)),(.sl (some true) 3 x0.cX.length (ah (bR (some true)) x0.cX)),(.sl (some true) 2 x0.log.length (ah (da (some true)) x0.log)),(sI (some true) x0.safe),(.int .i64 x0.gen)])] [] 0)
def N6 (x0:aN) (i0:Int) (i1:Int) (i2:Int) (i3:Int) (b4:Bool) (b5:Bool) (g6:Bool) (n7:Nat) (c8:List D) (g9:Bool) (ph:Nat) (pj:List D) (g12:Bool) (js:Nat) (ke:List D) (jY:Bool) (o7:Bool) (pn:Bool) (i18:Int) (g19:Bool) (AK:Nat) (AL:List D) (g22:Bool) (QS:Nat) (QT:List D) (QU:Bool) (wY:Nat) (wZ:List D) (FX:Bool) (n29:Nat) (F0:List D) (F1:Bool) (n32:Nat) (QV:List D) (QW:Bool) (n35:Nat) (QX:List D) (i37:Int) (b38:Bool) (b39:Bool) (g40:Bool) (n41:Nat) (c42:List D) (g43:Bool) (n44:Nat) (c45:List D) (g46:Bool) (n47:Nat) (c48:List D) (b49:Bool) (b50:Bool) (b51:Bool) (i52:Int) (g53:Bool) (n54:Nat) (c55:List D) (g56:Bool) (n57:Nat) (c58:List D) (g59:Bool) (n60:Nat) (c61:List D) (g62:Bool) (n63:Nat) (c64:List D) (g65:Bool) (n66:Nat) (c67:List D) (g68:Bool) (n69:Nat) (c70:List D) (ZR:Nat) (ZS:List D):St:=(St.mk [(1,(.ptr 1 [] 0)),(3,(.int .i64 i0)),(4,(.int .i64 i1)),(5,(.ptr 5 [] 0)),(6,(.ptr 6 [] 0)),(7,(.ref 10007 [] 0 none)),(8,(.int .i64 i2))] [(1,[(.sl (some true) 16 x0.nodes.length (ah (ab (some true)) x0.nodes)),(.sl (some true) 3 x0.cX.length (ah (bR (some true)) x0.cX)),(.sl (some true) 2 x0.log.length (ah (da (some true)) x0.log)),(sI (some true) x0.safe),(.int .i64 x0.gen)]),(5,[(.int .i64 i3),(.bool b4),(.bool b5),(.sl (some g6) 1 n7 c8),(.sl (some g9) 1 ph pj),(.sl (some g12) 1 js ke),(.bool jY),(.bool o7),(.bool pn),(.int .i64 i18),(.sl (some g19) 1 AK AL),(.sl (some g22) 1 QS QT),(.sl (some QU) 1 wY wZ),(.sl (some FX) 1 n29 F0),(.sl (some F1) 1 n32 QV),(.sl (some QW) 1 n35 QX)]),(6,[(.int .i64 i37),(.bool b38),(.bool b39),(.sl (some g40) 1 n41 c42),(.sl (some g43) 1 n44 c45),(.sl (some g46) 1 n47 c48),(.bool b49),(.bool b50),(.bool b51),(.int .i64 i52),(.sl (some g53) 1 n54 c55),(.sl (some g56) 1 n57 c58),(.sl (some g59) 1 n60 c61),(.sl (some g62) 1 n63 c64),(.sl (some g65) 1 n66 c67),(.sl (some g68) 1 n69 c70)]),(10007,[(.sl none 1 ZR ZS)])] [] 0)
end
def TC (a b:List Int) (i:Nat):Bool:=if i < a.length then (if i < b.length then !decide (a.getD i 0=b.getD i 0) else true) else decide (i < b.length)
def uR (a b:List Int):Nat→List Int
  | 0=>[]
  | i+1=>if TC a b i=true then uR a b i++[(i:Int)] else uR a b i
theorem ahU {a b:List Int} {i:Nat} (h:TC a b i=true):uR a b (i+1)=uR a b i++[(i:Int)]:=by
  show (if _ then _ else _)=_
  rw [if_pos h]
theorem ahV {a b:List Int} {i:Nat} (h:TC a b i=false):uR a b (i+1)=uR a b i:=by
  show (if _ then _ else _)=_
  rw [h]
  rfl
theorem TD (a b:List Int):∀ i,(uR a b i).length≤i
  | 0=>by simp [uR]
  | i+1=>by
    have:=TD a b i
    unfold uR
    split
    · simp; omega
    · omega
def WM (a b:List Int):List Int:=uR a b 8
attribute [go_sem] Nat.sub_zero
def MkP (w:aN) (i k:Nat):Prop:=∀ c∈WM (w.nodes.getD i n0).image (w.nodes.getD k n0).image,c∈(w.nodes.getD i n0).mt.bits.getD k []∨c∈(w.nodes.getD k n0).mt.bits.getD i []
structure ZT (w:aN):Prop where
  ok:DE w
  all:∀ i,i < 3→∀ k,k < i→MkP w i k
noncomputable def aaa (w:aN):Bool:=tQ (ZT w)
theorem aa3 {α:Type} {xs:List α} {d:α} {p:α→Prop} (h:∀ i,i < xs.length→p (xs.getD i d)):∀ x∈xs,p x:=by
  intro x hx
  obtain ⟨i,hi,rfl⟩:=List.getElem_of_mem hx
  rw [← dI (d:=d) hi]
  exact h i hi
theorem aeq {m:aK} (ok:cU m) {k:Nat} (h:k < m.bits.length):(m.bits.getD k []).length≤1048576:=ok.bits.2 _ (zZ h)
end Go.Proofs.Ytockoilcnmljiaa
namespace Go.Proofs.Ytockoilcnmljiaa
set_option maxRecDepth 100000
section
variable (pr:cT) (cv:Cv Rz) (J:Nat→St→Option Rz)
theorem KF:Told cfg Try.prog 44 Try.f44:=⟨by kernel_rfl,Try.func44,by kernel_rfl⟩
theorem KG (x0:List Int) (x1:List Int):bc pr cv J 44 Try.f44 [(sI (some true) x0),(sI (some true) x1)]=
    let y1:Option (D × List D):=(some ((.int .i64 0),[.undef,.undef]))
    let y2:Bool:=(br (pr.cL .i64 (ints x0) (pr.idx 0 0 1)) true false)
    let y3:Bool:=(br (pr.cL .i64 (ints x1) (pr.idx 0 0 1)) true false)
    let y4:Option (D × List D):=(some ((.int .i64 1),[.undef,.undef]))
    let y5:Option (D × List D):=(some ((.int .i64 2),[.undef,.undef]))
    let y6:Option (D × List D):=(br (pr.eq (pr.bu x1.length) 0) y4 (br (pr.bT 0 x1.length) (br y3 (cv 79 [(sI (some true) x0),(.int .i64 (pr.bG (ints x1) (pr.idx 0 0 1)))] (.bool (fun ck=>(.done (br ck y4 (br (pr.eq (pr.bu x0.length) 0) y5 (br (pr.bT 0 x0.length) (br y2 (cv 79 [(sI (some true) x1),(.int .i64 (pr.bG (ints x0) (pr.idx 0 0 1)))] (.bool (fun gj=>(.done (br gj y5 (some ((.int .i64 3),[.undef,.undef]))))))) none) none))))))) none) none))
    let y7:Option (D × List D):=(br (pr.lt 0 (pr.bu x0.length)) (br (pr.lt 0 (pr.bu x1.length)) (br (pr.bT 0 x0.length) (br y2 (br (pr.bT 0 x1.length) (br y3 (br (pr.eq (pr.bG (ints x0) (pr.idx 0 0 1)) (pr.bG (ints x1) (pr.idx 0 0 1))) y1 y6) none) none) none) none) y6) y6)
    (br (pr.eq (pr.bu x0.length) 0) (br (pr.eq (pr.bu x1.length) 0) y1 y7) y7):=by kernel_rfl
theorem KH:Told cfg Try.prog 71 Try.f71:=⟨by kernel_rfl,Try.func71,by kernel_rfl⟩
theorem KI (x0:List Int) (x1:List Int):bc pr cv J 71 Try.f71 [(sI (some true) x0),(sI (some true) x1)]=
    let y1:Option (D × List D):=(some ((.int .i64 0),[.undef,.undef]))
    let y2:Bool:=(br (pr.cL .i64 (ints x0) (pr.idx 0 0 1)) true false)
    let y3:Bool:=(br (pr.cL .i64 (ints x1) (pr.idx 0 0 1)) true false)
    let y4:Option (D × List D):=(some ((.int .i64 1),[.undef,.undef]))
    let y5:Option (D × List D):=(some ((.int .i64 2),[.undef,.undef]))
    let y6:Option (D × List D):=(br (pr.eq (pr.bu x1.length) 0) y4 (br (pr.bT 0 x1.length) (br y3 (cv 70 [(sI (some true) x0),(.int .i64 (pr.bG (ints x1) (pr.idx 0 0 1)))] (.bool (fun ck=>(.done (br ck y4 (br (pr.eq (pr.bu x0.length) 0) y5 (br (pr.bT 0 x0.length) (br y2 (cv 70 [(sI (some true) x1),(.int .i64 (pr.bG (ints x0) (pr.idx 0 0 1)))] (.bool (fun gj=>(.done (br gj y5 (some ((.int .i64 3),[.undef,.undef]))))))) none) none))))))) none) none))
    let y7:Option (D × List D):=(br (pr.lt 0 (pr.bu x0.length)) (br (pr.lt 0 (pr.bu x1.length)) (br (pr.bT 0 x0.length) (br y2 (br (pr.bT 0 x1.length) (br y3 (br (pr.eq (pr.bG (ints x0) (pr.idx 0 0 1)) (pr.bG (ints x1) (pr.idx 0 0 1))) y1 y6) none) none) none) none) y6) y6)
    (br (pr.eq (pr.bu x0.length) 0) (br (pr.eq (pr.bu x1.length) 0) y1 y7) y7):=by kernel_rfl
end
def nN:List Int→List Int→Int
  | [],[]=>0
  | [],_::_=>2
  | _::_,[]=>1
  | x::a,y::b=>if x=y then 0 else if y∈x::a then 1 else if x∈y::b then 2 else 3
theorem My (x y:Int) (a b:List Int):nN (x::a) (y::b)=if x=y then 0 else if y∈x::a then 1 else if x∈y::b then 2 else 3:=rfl
theorem Q4 {x y:Int} {a b:List Int} {l:List D}:br (decide (x=y)) (some ((.int .i64 0,l):Rz)) (br (decide (y∈x::a)) (some (.int .i64 1,l)) (br (decide (x∈y::b)) (some (.int .i64 2,l)) (some (.int .i64 3,l))))=some (.int .i64 (nN (x::a) (y::b)),l):=by
  rw [My]
  by_cases h1:x=y
  · rw [decide_eq_true h1,if_pos h1]; rfl
  · rw [decide_eq_false h1,if_neg h1]
    by_cases h2:y∈x::a
    · rw [decide_eq_true h2,if_pos h2]; rfl
    · rw [decide_eq_false h2,if_neg h2]
      by_cases h3:x∈y::b
      · rw [decide_eq_true h3,if_pos h3]; rfl
      · rw [decide_eq_false h3,if_neg h3]; rfl
theorem KJ (a:List Int) (b:List Int) (q0:a.length < 4611686018427387904) (q1:b.length < 4611686018427387904):Cm 44 [sI (some true) a,sI (some true) b] (.int .i64 (nN a b),[.undef,.undef]):=by
  refine Cm.step KF [.undef,.undef] fun J hJ=>?_
  rw [KG]
  rcases a with _ | ⟨x,a⟩<;>rcases b with _ | ⟨y,b⟩
  · rfl
  · rw [List.length_cons] at q1
    simp (disch:=first | assumption | omega) only [go_sem,List.length_cons,List.length_nil,List.getD_cons_zero,List.not_mem_nil]
    rfl
  · rw [List.length_cons] at q0
    simp (disch:=first | assumption | omega) only [go_sem,List.length_cons,List.length_nil,List.getD_cons_zero,List.not_mem_nil]
    rfl
  · have ZU:=q0
    have ZV:=q1
    rw [List.length_cons] at ZU ZV
    rw [← Q4]
    simp (disch:=first | assumption | omega) only [go_sem,List.length_cons,List.getD_cons_zero]
    refine dz (fun h=>?_) (fun h=>?_)
    · rw [decide_eq_true h]
      rfl
    · rw [decide_eq_false h]
      simp (disch:=first | assumption | omega) only [go_sem,List.length_cons,List.getD_cons_zero]
      refine dz (fun h=>?_) (fun h=>?_)
      · rw [decide_eq_true h]
        rfl
      · rw [decide_eq_false h]
        simp (disch:=first | assumption | omega) only [go_sem,List.length_cons,List.getD_cons_zero]
@[go_sem] theorem ZW (a0:Nat) (a:List Int) (b0:Nat) (b:List Int) (e0:a0=a.length) (e1:b0=b.length) (q0:a.length < 4611686018427387904) (q1:b.length < 4611686018427387904) (t:bJ Rz):aY 44 [.sl (some true) 1 a0 (ints a),.sl (some true) 1 b0 (ints b)] t=feed t [.int .i64 (nN a b)]:=by
  subst e0
  subst e1
  exact bK (r:=.int .i64 (nN a b)) (s:=.int .i64) (ss:=[.undef,.undef]) (KJ a b q0 q1) (by kernel_rfl) (by simp only [aw,bo,aV,bp,bq,ai,ak,Bool.and_self]) (by simp only [ai,aI,aw,ak,Bool.and_self]) (by first | rfl | simp only [av,aT,aS,bl,bm,aU,bn,Bool.and_self]) (by first | rfl | simp only [List.all_cons,List.all_nil,av,Bool.and_self]) t
theorem KK (a:List Int) (b:List Int) (q0:a.length < 4611686018427387904) (q1:b.length < 4611686018427387904):Cm 71 [sI (some true) a,sI (some true) b] (.int .i64 (nN a b),[.undef,.undef]):=by
  refine Cm.step KH [.undef,.undef] fun J hJ=>?_
  rw [KI]
  rcases a with _ | ⟨x,a⟩<;>rcases b with _ | ⟨y,b⟩
  · rfl
  · rw [List.length_cons] at q1
    simp (disch:=first | assumption | omega) only [go_sem,List.length_cons,List.length_nil,List.getD_cons_zero,List.not_mem_nil]
    rfl
  · rw [List.length_cons] at q0
    simp (disch:=first | assumption | omega) only [go_sem,List.length_cons,List.length_nil,List.getD_cons_zero,List.not_mem_nil]
    rfl
  · have ZU:=q0
    have ZV:=q1
    rw [List.length_cons] at ZU ZV
    rw [← Q4]
    simp (disch:=first | assumption | omega) only [go_sem,List.length_cons,List.getD_cons_zero]
    refine dz (fun h=>?_) (fun h=>?_)
    · rw [decide_eq_true h]
      rfl
    · rw [decide_eq_false h]
      simp (disch:=first | assumption | omega) only [go_sem,List.length_cons,List.getD_cons_zero]
      refine dz (fun h=>?_) (fun h=>?_)
      · rw [decide_eq_true h]
        rfl
      · rw [decide_eq_false h]
        simp (disch:=first | assumption | omega) only [go_sem,List.length_cons,List.getD_cons_zero]
@[go_sem] theorem ZX (a0:Nat) (a:List Int) (b0:Nat) (b:List Int) (e0:a0=a.length) (e1:b0=b.length) (q0:a.length < 4611686018427387904) (q1:b.length < 4611686018427387904) (t:bJ Rz):aY 71 [.sl (some true) 1 a0 (ints a),.sl (some true) 1 b0 (ints b)] t=feed t [.int .i64 (nN a b)]:=by
  subst e0
  subst e1
  exact bK (r:=.int .i64 (nN a b)) (s:=.int .i64) (ss:=[.undef,.undef]) (KK a b q0 q1) (by kernel_rfl) (by simp only [aw,bo,aV,bp,bq,ai,ak,Bool.and_self]) (by simp only [ai,aI,aw,ak,Bool.and_self]) (by first | rfl | simp only [av,aT,aS,bl,bm,aU,bn,Bool.and_self]) (by first | rfl | simp only [List.all_cons,List.all_nil,av,Bool.and_self]) t
end Go.Proofs.Ytockoilcnmljiaa
namespace Go.Proofs.Ytockoilcnmljiaa
set_option maxRecDepth 100000
section
variable (pr:cT) (cv:Cv Rz) (J:Nat→St→Option Rz)
theorem BT:Told cfg Try.prog 45 Try.f45:=⟨by kernel_rfl,Try.func45,by kernel_rfl⟩
theorem BU (x0:af) (x1:af) (x2:Int):bc pr cv J 45 Try.f45 [(.agg (ab (some true) x0)),(.agg (ab (some true) x1)),(.int .i64 x2)]=
    let y1:Option (D × List D):=(some ((.int .i64 0),[.undef,.undef,.undef]))
    let y2:Option (D × List D):=(some ((.int .i64 x2),[.undef,.undef,.undef]))
    (br (pr.eq x2 2) (br (br x1.mt.bY false true) y1 (br x0.bD y1 y2)) (br (br x0.mt.bY false true) y1 (br x1.bD y1 y2))):=by kernel_rfl
theorem BV:Told cfg Try.prog 43 Try.f43:=⟨by kernel_rfl,Try.func43,by kernel_rfl⟩
theorem BW (x0:af) (x1:af):bc pr cv J 43 Try.f43 [(.agg (ab (some true) x0)),(.agg (ab (some true) x1))]=
    let y1:Option (D × List D):=(some ((.int .i64 0),[.undef,.undef]))
    (br (pr.eq x1.id 2) (br (br x0.bD false true) y1 (br (br x0.mt.bY false true) y1 (br (pr.bT 0 x1.mt.aA.length) (br (br (pr.cL .i64 (ints x1.mt.aA) (pr.idx 0 0 1)) true false) (cv 79 [(sI (some true) x0.mt.aA),(.int .i64 (pr.bG (ints x1.mt.aA) (pr.idx 0 0 1)))] (.bool (fun ck=>(.done (br (br ck false true) y1 (some ((.int .i64 1),[.undef,.undef]))))))) none) none))) (br (br x1.bD false true) y1 (br (br x1.mt.bY false true) y1 (br (pr.bT 0 x0.mt.aA.length) (br (br (pr.cL .i64 (ints x0.mt.aA) (pr.idx 0 0 1)) true false) (cv 79 [(sI (some true) x1.mt.aA),(.int .i64 (pr.bG (ints x0.mt.aA) (pr.idx 0 0 1)))] (.bool (fun gj=>(.done (br (br gj false true) y1 (some ((.int .i64 2),[.undef,.undef]))))))) none) none)))):=by kernel_rfl
theorem KL:Told cfg Try.prog 40 Try.f40:=⟨by kernel_rfl,Try.func40,by kernel_rfl⟩
theorem KM (x0:af) (x1:af):bc pr cv J 40 Try.f40 [(.agg (ab (some true) x0)),(.agg (ab (some true) x1))]=
    let y1:Option (D × List D):=(some ((.bool false),[.undef,.undef]))
    (br x0.bD (br x0.mt.bY (br (pr.bT 0 x1.mt.aA.length) (br (br (pr.cL .i64 (ints x1.mt.aA) (pr.idx 0 0 1)) true false) (cv 70 [(sI (some true) x0.mt.aA),(.int .i64 (pr.bG (ints x1.mt.aA) (pr.idx 0 0 1)))] (.bool (fun ck=>(.done (some ((.bool ck),[.undef,.undef])))))) none) none) y1) y1):=by kernel_rfl
theorem HJ:Told cfg Try.prog 41 Try.f41:=⟨by kernel_rfl,Try.func41,by kernel_rfl⟩
theorem HK (x0:af) (x1:af):bc pr cv J 41 Try.f41 [(.agg (ab (some true) x0)),(.agg (ab (some true) x1))]=
    let y1:Option (D × List D):=(some ((.int .i64 0),[.undef,.undef]))
    let y2:Option (D × List D):=(some ((.int .i64 1),[.undef,.undef]))
    let y3:Option (D × List D):=(some ((.int .i64 2),[.undef,.undef]))
    let y4:Option (D × List D):=(br x1.bD y3 (br (br x0.mt.bY false true) y3 (br (pr.lt x0.mt.last x1.mt.last) y3 y2)))
    let y5:Option (D × List D):=(br x0.bD y2 (br (br x1.bD false true) (br (br x1.mt.bY false true) y2 y4) y4))
    let y6:Option (D × List D):=(br x1.bD (br (br x1.mt.bY false true) y1 y5) y5)
    let y7:Option Rz:=(cv 71 [(sI (some true) x0.mt.aA),(sI (some true) x1.mt.aA)] (.int (fun ga=>(.done (br (pr.eq ga 3) y1 (br (pr.eq ga 1) (br (br x0.mt.bY false true) y1 (br x1.bD y1 y2)) (br (pr.eq ga 2) (br (br x1.mt.bY false true) y1 (br x0.bD y1 y3)) (br x0.bD (br (br x0.mt.bY false true) y1 y6) y6))))))))
    let y8:Option (D × List D):=(br (br x0.mt.bY false true) (br (br x1.mt.bY false true) y1 y7) y7)
    (br x0.bD (br x1.bD y1 y8) y8):=by kernel_rfl
end
attribute [go_sem] EM
def wK (x y:af) (w:Int):Int:=if w=2 then (if (y.mt.bY&&!x.bD)=true then w else 0) else (if (x.mt.bY&&!y.bD)=true then w else 0)
theorem BX (x:af) (y:af) (w:Int):Cm 45 [.agg (ab (some true) x),.agg (ab (some true) y),.int .i64 w] (.int .i64 (wK x y w),[.undef,.undef,.undef]):=by
  refine Cm.step BT [.undef,.undef,.undef] fun J hJ=>?_
  rw [BU]
  unfold wK
  try simp (disch:=first | assumption | omega) only [go_sem]
  refine dz (fun h=>?_) (fun h=>?_)
  · rw [if_pos h]
    cases y.mt.bY<;>cases x.bD<;>rfl
  · rw [if_neg h]
    cases x.mt.bY<;>cases y.bD<;>rfl
@[go_sem] theorem TE (x:af) (y:af) (w:Int) (t:bJ Rz):aY 45 [.agg (ea (some true) x),.agg (ea (some true) y),.int .i64 w] t=feed t [.int .i64 (wK x y w)]:=by
  exact bK (r:=.int .i64 (wK x y w)) (s:=.int .i64) (ss:=[.undef,.undef,.undef]) (BX x y w) (by kernel_rfl) (by simp only [aw,bo,aV,bp,bq,ai,ak,Bool.and_self]) (by simp only [ai,aI,aw,ak,Bool.and_self]) (by first | rfl | simp only [av,aT,aS,bl,bm,aU,bn,Bool.and_self]) (by first | rfl | simp only [List.all_cons,List.all_nil,av,Bool.and_self]) t
def wL (x y:af):Bool:=x.bD&&(x.mt.bY&&decide (y.mt.aA.getD 0 0∈x.mt.aA))
def ow (x y:af):Int:=if y.id=2 then (if wL x y=true then 1 else 0) else (if wL y x=true then 2 else 0)
theorem KN (x:af) (y:af) (q0:bz x) (q1:0 < (y.mt.aA.length:Int)):Cm 40 [.agg (ab (some true) x),.agg (ab (some true) y)] (.bool (wL x y),[.undef,.undef]):=by
  refine Cm.step KL [.undef,.undef] fun J hJ=>?_
  rw [KM]
  unfold wL
  have:=q0.mt.aA
  try simp (disch:=first | assumption | omega) only [go_sem]
  refine iJ fun _=>?_
  try simp (disch:=first | assumption | omega) only [go_sem]
  refine iJ fun _=>?_
  try simp (disch:=first | assumption | omega) only [go_sem]
@[go_sem] theorem ZY (x:af) (y:af) (q0:bz x) (q1:0 < (y.mt.aA.length:Int)) (t:bJ Rz):aY 40 [.agg (ea (some true) x),.agg (ea (some true) y)] t=feed t [.bool (wL x y)]:=by
  exact bK (r:=.bool (wL x y)) (s:=.bool) (ss:=[.undef,.undef]) (KN x y q0 q1) (by kernel_rfl) (by simp only [aw,bo,aV,bp,bq,ai,ak,Bool.and_self]) (by simp only [ai,aI,aw,ak,Bool.and_self]) (by first | rfl | simp only [av,aT,aS,bl,bm,aU,bn,Bool.and_self]) (by first | rfl | simp only [List.all_cons,List.all_nil,av,Bool.and_self]) t
theorem BY (x:af) (y:af) (q0:bz x) (q1:bz y) (q2:0 < (x.mt.aA.length:Int)) (q3:0 < (y.mt.aA.length:Int)):Cm 43 [.agg (ab (some true) x),.agg (ab (some true) y)] (.int .i64 (ow x y),[.undef,.undef]):=by
  refine Cm.step BV [.undef,.undef] fun J hJ=>?_
  rw [BW]
  unfold ow wL
  have:=q0.mt.aA
  have:=q1.mt.aA
  try simp (disch:=first | assumption | omega) only [go_sem]
  refine dz (fun h=>?_) (fun h=>?_)
  · rw [if_pos h]
    cases x.bD with
    | false=>rfl
    | true=>
      cases x.mt.bY with
      | false=>rfl
      | true=>
        try simp (disch:=first | assumption | omega) only [go_sem]
        cases decide (y.mt.aA.getD 0 0∈x.mt.aA)<;>rfl
  · rw [if_neg h]
    cases y.bD with
    | false=>rfl
    | true=>
      cases y.mt.bY with
      | false=>rfl
      | true=>
        try simp (disch:=first | assumption | omega) only [go_sem]
        cases decide (x.mt.aA.getD 0 0∈y.mt.aA)<;>rfl
@[go_sem] theorem TF (x:af) (y:af) (q0:bz x) (q1:bz y) (q2:0 < (x.mt.aA.length:Int)) (q3:0 < (y.mt.aA.length:Int)) (t:bJ Rz):aY 43 [.agg (ea (some true) x),.agg (ea (some true) y)] t=feed t [.int .i64 (ow x y)]:=by
  exact bK (r:=.int .i64 (ow x y)) (s:=.int .i64) (ss:=[.undef,.undef]) (BY x y q0 q1 q2 q3) (by kernel_rfl) (by simp only [aw,bo,aV,bp,bq,ai,ak,Bool.and_self]) (by simp only [ai,aI,aw,ak,Bool.and_self]) (by first | rfl | simp only [av,aT,aS,bl,bm,aU,bn,Bool.and_self]) (by first | rfl | simp only [List.all_cons,List.all_nil,av,Bool.and_self]) t
def nO (x y:af):Int:=
  if ((x.bD&&y.bD)||(!x.mt.bY&&!y.mt.bY))=true then 0 else
  if nN x.mt.aA y.mt.aA=3 then 0 else
  if nN x.mt.aA y.mt.aA=1 then wK x y 1 else
  if nN x.mt.aA y.mt.aA=2 then wK x y 2 else
  if x.bD=true then wK x y 1 else
  if y.bD=true then wK x y 2 else
  if y.mt.bY=false then 1 else
  if x.mt.bY=false then 2 else if x.mt.last < y.mt.last then 2 else 1
end Go.Proofs.Ytockoilcnmljiaa
namespace Go.Proofs.Ytockoilcnmljiaa
set_option maxRecDepth 100000
theorem KO (a b:List Int):nN a b=0∨nN a b=1∨nN a b=2∨nN a b=3:=by
  rcases a with _ | ⟨x,a⟩<;>rcases b with _ | ⟨y,b⟩
  · exact .inl rfl
  · exact .inr (.inr (.inl rfl))
  · exact .inr (.inl rfl)
  · rw [My]
    split
    · exact .inl rfl
    · split
      · exact .inr (.inl rfl)
      · split
        · exact .inr (.inr (.inl rfl))
        · exact .inr (.inr (.inr rfl))
theorem ZZ (p:Prop) [Decidable p] (l:List D):br (decide p) (some ((.int .i64 2,l):Rz)) (some (.int .i64 1,l))=some (.int .i64 (if p then 2 else 1),l):=by
  by_cases h:p
  · rw [decide_eq_true h,if_pos h]; rfl
  · rw [decide_eq_false h,if_neg h]; rfl
theorem HL (x:af) (y:af) (q0:bz x) (q1:bz y):Cm 41 [.agg (ab (some true) x),.agg (ab (some true) y)] (.int .i64 (nO x y),[.undef,.undef]):=by
  have a1:=q0.mt.aA
  have a2:=q1.mt.aA
  refine Cm.step HJ [.undef,.undef] fun J hJ=>?_
  rw [HK]
  clear hJ
  unfold nO wK
  rcases KO x.mt.aA y.mt.aA with e | e | e | e
  all_goals
    cases hxp:x.bD<;>cases hyp:y.bD<;>cases hxf:x.mt.bY<;>cases hyf:y.mt.bY
  all_goals
    try simp (disch:=first | assumption | omega) only [go_sem,e]
  all_goals
    first | rfl | (rw [e]; rfl) | (rw [ZZ]; rfl)
@[go_sem] theorem Xa (x:af) (y:af) (q0:bz x) (q1:bz y) (t:bJ Rz):aY 41 [.agg (ea (some true) x),.agg (ea (some true) y)] t=feed t [.int .i64 (nO x y)]:=by
  exact bK (r:=.int .i64 (nO x y)) (s:=.int .i64) (ss:=[.undef,.undef]) (HL x y q0 q1) (by kernel_rfl) (by simp only [aw,bo,aV,bp,bq,ai,ak,Bool.and_self]) (by simp only [ai,aI,aw,ak,Bool.and_self]) (by first | rfl | simp only [av,aT,aS,bl,bm,aU,bn,Bool.and_self]) (by first | rfl | simp only [List.all_cons,List.all_nil,av,Bool.and_self]) t
end Go.Proofs.Ytockoilcnmljiaa
namespace Go.Proofs.Ytockoilcnmljiaa
set_option maxRecDepth 100000
section
variable (pr:cT) (cv:Cv Rz) (J:Nat→St→Option Rz)
theorem HM:Told cfg Try.prog 15 Try.f15:=⟨by kernel_rfl,Try.func15,by kernel_rfl⟩
theorem HN (x0:af) (x1:af):bc pr cv J 15 Try.f15 [(.agg (ab (some true) x0)),(.agg (ab (some true) x1))]=
    let y1:Option (D × List D):=(some ((.int .i64 0),[.undef,.undef]))
    let y2:bJ Rz:=(.int (fun th=>(.done (some ((.int .i64 th),[.undef,.undef])))))
    let y3:Option Rz:=(cv 43 [(.agg (ab (some true) x0)),(.agg (ab (some true) x1))] y2)
    let y4:Option Rz:=(cv 45 [(.agg (ab (some true) x0)),(.agg (ab (some true) x1)),(.int .i64 1)] y2)
    let y5:Option Rz:=(cv 45 [(.agg (ab (some true) x0)),(.agg (ab (some true) x1)),(.int .i64 2)] y2)
    let y6:Option (D × List D):=(some ((.int .i64 1),[.undef,.undef]))
    let y7:Option (D × List D):=(some ((.int .i64 2),[.undef,.undef]))
    let y8:Option Rz:=(cv 44 [(sI (some true) x0.mt.aA),(sI (some true) x1.mt.aA)] (.int (fun kO=>(.done (br (pr.eq kO 3) y1 (br (pr.eq kO 1) y4 (br (pr.eq kO 2) y5 (br x0.bD y4 (br x1.bD y5 (br (br x1.mt.bY false true) y6 (br (br x0.mt.bY false true) y7 (br (pr.lt x0.mt.last x1.mt.last) y7 y6))))))))))))
    let y9:Option (D × List D):=(br (br x0.mt.bY false true) (br (br x1.mt.bY false true) y1 y8) y8)
    (cv 42 [(.agg (ab (some true) x0))] (.bool (fun ck=>(.done (br (br ck false true) y1 (cv 42 [(.agg (ab (some true) x1))] (.bool (fun gj=>(.done (br (br gj false true) y1 (br (pr.eq x0.id x1.id) y1 (br (br x0.up false true) y1 (br (br x1.up false true) y1 (br (pr.bT x1.id x0.conn.length) (br (br (pr.eD (aH x0.conn) (pr.idx 0 x1.id 1)) true false) (br (pr.cZ (aH x0.conn) (pr.idx 0 x1.id 1)) y1 (br (pr.bT x0.id x1.conn.length) (br (br (pr.eD (aH x1.conn) (pr.idx 0 x0.id 1)) true false) (br (pr.cZ (aH x1.conn) (pr.idx 0 x0.id 1)) y1 (br (pr.eq x0.id 2) y3 (br (pr.eq x1.id 2) y3 (br x0.bD (br x1.bD y1 y9) y9)))) none) none)) none) none)))))))))))))):=by kernel_rfl
theorem HO:Told cfg Try.prog 14 Try.f14:=⟨by kernel_rfl,Try.func14,by kernel_rfl⟩
theorem HP (x0:af) (x1:af):bc pr cv J 14 Try.f14 [(.agg (ab (some true) x0)),(.agg (ab (some true) x1))]=
    let y1:Option (D × List D):=(some ((.int .i64 0),[.undef,.undef]))
    (cv 38 [(.agg (ab (some true) x0))] (.bool (fun ck=>(.done (br (br ck false true) y1 (cv 38 [(.agg (ab (some true) x1))] (.bool (fun gj=>(.done (br (br gj false true) y1 (br (pr.eq x0.id x1.id) y1 (br (br x0.up false true) y1 (br (br x1.up false true) y1 (br (pr.bT x1.id x0.conn.length) (br (br (pr.eD (aH x0.conn) (pr.idx 0 x1.id 1)) true false) (br (pr.cZ (aH x0.conn) (pr.idx 0 x1.id 1)) y1 (br (pr.bT x0.id x1.conn.length) (br (br (pr.eD (aH x1.conn) (pr.idx 0 x0.id 1)) true false) (br (pr.cZ (aH x1.conn) (pr.idx 0 x0.id 1)) y1 (br (pr.eq x1.id 2) (cv 40 [(.agg (ab (some true) x0)),(.agg (ab (some true) x1))] (.bool (fun ia=>(.done (cv 39 [(.bool ia)] (.int (fun F2=>(.done (some ((.int .i64 (pr.ar .mul .i64 1 F2)),[.undef,.undef])))))))))) (br (pr.eq x0.id 2) (cv 40 [(.agg (ab (some true) x1)),(.agg (ab (some true) x0))] (.bool (fun J0=>(.done (cv 39 [(.bool J0)] (.int (fun qQ=>(.done (some ((.int .i64 (pr.ar .mul .i64 2 qQ)),[.undef,.undef])))))))))) (cv 41 [(.agg (ab (some true) x0)),(.agg (ab (some true) x1))] (.int (fun UB=>(.done (some ((.int .i64 UB),[.undef,.undef]))))))))) none) none)) none) none)))))))))))))):=by kernel_rfl
end
open Classical in
noncomputable def rl (x y:af):Int:=if fk x∧fk y∧¬x.id=y.id∧x.up=true∧y.up=true∧¬x.conn.getD y.id.toNat false=true∧¬y.conn.getD x.id.toNat false=true then (if x.id=2∨y.id=2 then ow x y else nO x y) else 0
theorem j5 {x y:af} {l:List D} (h:¬(fk x∧fk y∧¬x.id=y.id∧x.up=true∧y.up=true∧¬x.conn.getD y.id.toNat false=true∧¬y.conn.getD x.id.toNat false=true)):(some ((.int .i64 0,l):Rz))=some (.int .i64 (rl x y),l):=by
  unfold rl; rw [if_neg h]
theorem z6 {x y:af} {l:List D} (h:fk x∧fk y∧¬x.id=y.id∧x.up=true∧y.up=true∧¬x.conn.getD y.id.toNat false=true∧¬y.conn.getD x.id.toNat false=true) (h2:x.id=2∨y.id=2):(some ((.int .i64 (ow x y),l):Rz))=some (.int .i64 (rl x y),l):=by
  unfold rl; rw [if_pos h,if_pos h2]
theorem KP {x y:af} {l:List D} (h:fk x∧fk y∧¬x.id=y.id∧x.up=true∧y.up=true∧¬x.conn.getD y.id.toNat false=true∧¬y.conn.getD x.id.toNat false=true) (h2:¬(x.id=2∨y.id=2)):(some ((.int .i64 (nO x y),l):Rz))=some (.int .i64 (rl x y),l):=by
  unfold rl; rw [if_pos h,if_neg h2]
theorem z7 {n:af} (o:fk n):dr n=true:=DC o
theorem qo {m:aK} (h:fx m=true):0 < (m.aA.length:Int):=by
  simp only [fx,Bool.and_eq_true,beq_iff_eq,decide_eq_true_eq] at h
  omega
theorem HQ (x:af) (y:af) (q0:bz x) (q1:bz y):Cm 15 [.agg (ab (some true) x),.agg (ab (some true) y)] (.int .i64 (rl x y),[.undef,.undef]):=by
  have a1:=q0.mt.aA
  have a2:=q1.mt.aA
  refine Cm.step HM [.undef,.undef] fun J hJ=>?_
  rw [HN]
  clear hJ
  try simp (disch:=first | assumption | omega) only [go_sem]
  refine mz (fun h1=>?_) (fun h=>j5 fun o=>h (z7 o.1))
  try simp (disch:=first | assumption | omega) only [go_sem]
  refine mz (fun h2=>?_) (fun h=>j5 fun o=>h (z7 o.2.1))
  have o1:=kP h1
  have o2:=kP h2
  have i1:=o1.id
  have i2:=o2.id
  have c1:=o1.conn
  have c2:=o2.conn
  have g1:=qo o1.mt
  have g2:=qo o2.mt
  try simp (disch:=first | assumption | omega) only [go_sem]
  refine dz (fun h=>j5 fun o=>o.2.2.1 h) (fun h3=>?_)
  try simp (disch:=first | assumption | omega) only [go_sem]
  refine mz (fun h4=>?_) (fun h=>j5 fun o=>h o.2.2.2.1)
  try simp (disch:=first | assumption | omega) only [go_sem]
  refine mz (fun h5=>?_) (fun h=>j5 fun o=>h o.2.2.2.2.1)
  try simp (disch:=first | assumption | omega) only [go_sem]
  refine mz (fun h=>j5 fun o=>o.2.2.2.2.2.1 h) (fun h6=>?_)
  try simp (disch:=first | assumption | omega) only [go_sem]
  refine mz (fun h=>j5 fun o=>o.2.2.2.2.2.2 h) (fun h7=>?_)
  have all:fk x∧fk y∧¬x.id=y.id∧x.up=true∧y.up=true∧¬x.conn.getD y.id.toNat false=true∧¬y.conn.getD x.id.toNat false=true:=⟨o1,o2,h3,h4,h5,h6,h7⟩
  try simp (disch:=first | assumption | omega) only [go_sem]
  refine dz (fun h8=>?_) (fun h8=>?_)
  · try simp (disch:=first | assumption | omega) only [go_sem]
    exact z6 all (.inl h8)
  · try simp (disch:=first | assumption | omega) only [go_sem]
    refine dz (fun h9=>?_) (fun h9=>?_)
    · try simp (disch:=first | assumption | omega) only [go_sem]
      exact z6 all (.inr h9)
    · rw [← KP all (by omega)]
      unfold nO
      rcases KO x.mt.aA y.mt.aA with e | e | e | e
      all_goals
        cases hxp:x.bD<;>cases hyp:y.bD<;>cases hxf:x.mt.bY<;>cases hyf:y.mt.bY
      all_goals
        try simp (disch:=first | assumption | omega) only [go_sem,e]
      all_goals
        first | rfl | (rw [e]; rfl) | (rw [ZZ]; rfl)
@[go_sem] theorem Xb (x:af) (y:af) (q0:bz x) (q1:bz y) (t:bJ Rz):aY 15 [.agg (ea (some true) x),.agg (ea (some true) y)] t=feed t [.int .i64 (rl x y)]:=by
  exact bK (r:=.int .i64 (rl x y)) (s:=.int .i64) (ss:=[.undef,.undef]) (HQ x y q0 q1) (by kernel_rfl) (by simp only [aw,bo,aV,bp,bq,ai,ak,Bool.and_self]) (by simp only [ai,aI,aw,ak,Bool.and_self]) (by first | rfl | simp only [av,aT,aS,bl,bm,aU,bn,Bool.and_self]) (by first | rfl | simp only [List.all_cons,List.all_nil,av,Bool.and_self]) t
theorem HR (x:af) (y:af) (q0:bz x) (q1:bz y):Cm 14 [.agg (ab (some true) x),.agg (ab (some true) y)] (.int .i64 (rl x y),[.undef,.undef]):=by
  have a1:=q0.mt.aA
  have a2:=q1.mt.aA
  refine Cm.step HO [.undef,.undef] fun J hJ=>?_
  rw [HP]
  clear hJ
  try simp (disch:=first | assumption | omega) only [go_sem]
  refine mz (fun h1=>?_) (fun h=>j5 fun o=>h (z7 o.1))
  try simp (disch:=first | assumption | omega) only [go_sem]
  refine mz (fun h2=>?_) (fun h=>j5 fun o=>h (z7 o.2.1))
  have o1:=kP h1
  have o2:=kP h2
  have i1:=o1.id
  have i2:=o2.id
  have c1:=o1.conn
  have c2:=o2.conn
  have g1:=qo o1.mt
  have g2:=qo o2.mt
  try simp (disch:=first | assumption | omega) only [go_sem]
  refine dz (fun h=>j5 fun o=>o.2.2.1 h) (fun h3=>?_)
  try simp (disch:=first | assumption | omega) only [go_sem]
  refine mz (fun h4=>?_) (fun h=>j5 fun o=>h o.2.2.2.1)
  try simp (disch:=first | assumption | omega) only [go_sem]
  refine mz (fun h5=>?_) (fun h=>j5 fun o=>h o.2.2.2.2.1)
  try simp (disch:=first | assumption | omega) only [go_sem]
  refine mz (fun h=>j5 fun o=>o.2.2.2.2.2.1 h) (fun h6=>?_)
  try simp (disch:=first | assumption | omega) only [go_sem]
  refine mz (fun h=>j5 fun o=>o.2.2.2.2.2.2 h) (fun h7=>?_)
  have all:fk x∧fk y∧¬x.id=y.id∧x.up=true∧y.up=true∧¬x.conn.getD y.id.toNat false=true∧¬y.conn.getD x.id.toNat false=true:=⟨o1,o2,h3,h4,h5,h6,h7⟩
  try simp (disch:=first | assumption | omega) only [go_sem]
  refine dz (fun h8=>?_) (fun h8=>?_)
  · rw [← z6 all (.inr h8)]
    unfold ow
    rw [if_pos h8]
    try simp (disch:=first | assumption | omega) only [go_sem]
    cases wL x y<;>rfl
  · try simp (disch:=first | assumption | omega) only [go_sem]
    refine dz (fun h9=>?_) (fun h9=>?_)
    · rw [← z6 all (.inl h9)]
      unfold ow
      rw [if_neg h8]
      try simp (disch:=first | assumption | omega) only [go_sem]
      cases wL y x<;>rfl
    · try simp (disch:=first | assumption | omega) only [go_sem]
      exact KP all (by omega)
@[go_sem] theorem Xc (x:af) (y:af) (q0:bz x) (q1:bz y) (t:bJ Rz):aY 14 [.agg (ea (some true) x),.agg (ea (some true) y)] t=feed t [.int .i64 (rl x y)]:=by
  exact bK (r:=.int .i64 (rl x y)) (s:=.int .i64) (ss:=[.undef,.undef]) (HR x y q0 q1) (by kernel_rfl) (by simp only [aw,bo,aV,bp,bq,ai,ak,Bool.and_self]) (by simp only [ai,aI,aw,ak,Bool.and_self]) (by first | rfl | simp only [av,aT,aS,bl,bm,aU,bn,Bool.and_self]) (by first | rfl | simp only [List.all_cons,List.all_nil,av,Bool.and_self]) t
end Go.Proofs.Ytockoilcnmljiaa
namespace Go.Proofs.Ytockoilcnmljiaa
set_option maxRecDepth 100000
section
variable (pr:cT) (cv:Cv Rz) (J:Nat→St→Option Rz)
theorem wM:Told cfg Try.prog 5 Try.f5:=⟨by kernel_rfl,Try.func5,by kernel_rfl⟩
theorem wN (g0:Bool) (x0:af) (g1:Bool) (x1:af):bc pr cv J 5 Try.f5 [(.agg (ab (some g0) x0)),(.agg (ab (some g1) x1))]=
    let y1:Option (D × List D):=(some ((.bool true),[.undef,.undef]))
    let y2:Option (D × List D):=(some ((.bool false),[.undef,.undef]))
    (cv 7 [(.agg (ab (some g0) x0)),(.int .i64 1048576)] (.int (fun ga=>(.done (br (pr.lt ga 0) y1 (cv 7 [(.agg (ab (some g1) x1)),(.int .i64 ga)] (.int (fun mo=>(.done (br (pr.lt mo 0) y1 (cv 9 [(.agg (ab (some g0) x0))] (.ty gU.node (fun (px:af)=>(.done (cv 9 [(.agg (ab (some g1) x1))] (.ty gU.node (fun (tK:af)=>(.done (cv 14 [(.agg (cW true (ab none px))),(.agg (cW true (ab none tK)))] (.int (fun kO=>(.done (cv 9 [(.agg (ab (some g0) x0))] (.ty gU.node (fun (vm5:af)=>(.done (cv 9 [(.agg (ab (some g1) x1))] (.ty gU.node (fun (vm6:af)=>(.done (cv 15 [(.agg (cW true (ab none vm5))),(.agg (cW true (ab none vm6)))] (.int (fun jZ=>(.done (br (br (pr.eq jZ kO) false true) y2 (cv 9 [(.agg (ab (some g0) x0))] (.ty gU.node (fun (vm8:af)=>(.done (cv 11 [(.agg (cW true (ab none vm5))),(.agg (cW true (ab none vm8)))] (.bool (fun vb9=>(.done (br (br vb9 false true) y2 (cv 9 [(.agg (ab (some g1) x1))] (.ty gU.node (fun (adC:af)=>(.done (cv 11 [(.agg (cW true (ab none vm6))),(.agg (cW true (ab none adC)))] (.bool (fun adD=>(.done (br (br adD false true) y2 y1))))))))))))))))))))))))))))))))))))))))))))))))))))):=by kernel_rfl
end
theorem DF (n:af) (ln:tn n) (hi:CZ n) (m:af) (lm:tn m) (him:CZ m):Cm 5 [.agg (ab (some false) n),.agg (ab (some false) m)] (.bool true,[.undef,.undef]):=by
  have _:=hi
  have _:=him
  refine Cm.step wM _ fun J _=>?_
  rw [wN]
  have a1:=wy (n:=n) (l:=1048576) (by omega) (by omega)
  simp (disch:=first | assumption | omega) only [go_sem]
  refine dz (fun _=>rfl) (fun hv=>?_)
  have a2:=wy (n:=m) (l:=fw n 1048576) (by omega) (by omega)
  simp (disch:=first | assumption | omega) only [go_sem]
  refine dz (fun _=>rfl) (fun hv2=>?_)
  have ok:bz n:=a1.2.2 (by omega)
  have ok2:bz m:=a2.2.2 (by omega)
  simp (disch:=first | assumption | omega) only [go_sem]
end Go.Proofs.Ytockoilcnmljiaa
namespace Go.Proofs.Ytockoilcnmljiaa.fnExactSource
open Go.ChangeShapes Go.WideShapes Go.ChangeAt Go.RowKit
set_option maxRecDepth 100000
theorem own:ownKnob Try.prog.godebug=none:=by kernel_rfl
theorem laidOut:laidOutB Try.prog=true:=by kernel_rfl
theorem lifted (os:Os) (started:os.Started) (H:Type) (enc:TypeId × Value→H):
    ReturnsInHanded {} Try.checked os 5 .any (Rows.fnExactSourceSpec.pre6 enc Try.prog Try.f5 Rows.fnExactSourceRow.domain false) (Rows.fnExactSourceSpec.post enc Try.prog Try.f5 false true false false):=by
  refine returnsInHanded_of_change_sized (C:=Try.checked) own started (by kernel_rfl) Try.func5
    (ChangeSpec.witness6 (enc:=enc) (C:=Try.checked) false ⟨#[],#[.agg #[.int .i64 0,.bool false,.bool false,.slice none 0 0,.slice none 0 0,.slice none 0 0,.bool false,.bool false,.bool false,.int .i64 0,.slice none 0 0,.slice none 0 0,.slice none 0 0,.slice none 0 0,.slice none 0 0,.slice none 0 0],.agg #[.int .i64 0,.bool false,.bool false,.slice none 0 0,.slice none 0 0,.slice none 0 0,.bool false,.bool false,.bool false,.int .i64 0,.slice none 0 0,.slice none 0 0,.slice none 0 0,.slice none 0 0,.slice none 0 0,.slice none 0 0]],[]⟩ 8 (by kernel_rfl) (by kernel_rfl) (by kernel_rfl) (by kernel_rfl)) ?_
  intro W base args ds gs before Vz hW akr Z0 _
  have cE:(DataW.weightsEach Try.prog (Try.f5.params.toList++Rows.fnExactSourceSpec.plain.varTypes Try.prog) (ds++gs)).all (·≤reachBytes)=true:=Z0
  have Bd:∀ (j:Nat) t v,Try.f5.params[j]?=some t→args[j]?=some v→Value.okWide Try.prog W .any base t v:=Vz
  have hW':=hW
  obtain ⟨p,q,OO,hV,rfl,hfz,eT⟩:=hW
  have hA:DataW.TrodAll enc Try.prog W 0 (fun _=>true) true Try.f5.params.toList args.toList ds p:=OO
  rw [Try.params5] at hA Bd cE
  obtain ⟨v0,vs0,d0,ds0,p0,q0,ah4,rfl,rfl,h0,r0⟩:=trodAll_cons hA
  obtain ⟨v1,vs1,d1,fJ,p1,q1,ah5,rfl,rfl,h1,r1⟩:=trodAll_cons r0
  obtain ⟨rfl,rfl,rfl⟩:=trodAll_nil r1
  obtain rfl:args=#[v0,v1]:=by cases args; simp_all
  obtain ⟨rfl,rfl⟩:=trodVars_none hV
  have k0:=h0
  have lt0:∀ x∈p0,x.block < W.heap.size:=by obtain ⟨m,hm⟩:=k0; exact DataW.trod_lt m _ _ _ hm
  obtain ⟨us0,rfl,_⟩:=okWide_struct Try.underlying31 (Bd 0 31 v0 rfl rfl)
  obtain ⟨ajP,hf0⟩:=h0
  have L5:∀ z∈d0.weights Try.prog 31,z≤reachBytes:=fun z hz=>by
    have:=List.all_eq_true.1 cE z (DataW.weights_mem_each (j:=0) (t:=31) (d:=d0) rfl rfl z hz)
    simpa using this
  obtain ⟨ah9,adE,aa4⟩:=zP (X:=Lk W [] (fun _=>True)) PA J6 hf0 (by kernel_rfl) L5
  obtain ⟨n0,rfl,ln0,in0⟩:=Mi adE
  have k1:=h1
  have lt1:∀ x∈p1,x.block < W.heap.size:=by obtain ⟨m,hm⟩:=k1; exact DataW.trod_lt m _ _ _ hm
  obtain ⟨FD,rfl,_⟩:=okWide_struct Try.underlying31 (Bd 1 31 v1 rfl rfl)
  obtain ⟨ajQ,Pc⟩:=h1
  have L6:∀ z∈d1.weights Try.prog 31,z≤reachBytes:=fun z hz=>by
    have:=List.all_eq_true.1 cE z (DataW.weights_mem_each (j:=1) (t:=31) (d:=d1) rfl rfl z hz)
    simpa using this
  obtain ⟨aid,adF,aa5⟩:=zP (X:=Lk W [] (fun _=>True)) PA J6 Pc (by kernel_rfl) L6
  obtain ⟨n1,rfl,ln1,in1⟩:=Mi adF
  clear OO Vz Z0 cE
  refine (Pz wu (f:=5) (vs:=#[.agg us0,.agg FD]) (by kernel_rfl) (DF n0 ln0 in0 n1 ln1 in1) (by simp [dA,bN,cS,eX,bL]) (.cons (Me aa4) (.cons (Me aa5) .nil))).mono fun e W' ⟨he,Z1⟩=>?_
  subst he
  exact ⟨_,rfl,_,_,_,[],_,[],hW',trodAll_mk1 (shut_bool Try.underlying4 _),trodAll_mk2 (Below.trod laidOut (by kernel_rfl) (of_decide_eq_true (by kernel_rfl)) k0 Z1 lt0) (Below.trod laidOut (by kernel_rfl) (of_decide_eq_true (by kernel_rfl)) k1 Z1 lt1),rfl,Z1.frame _,fun h=>by cases h⟩
theorem over:Rows.fnExactSourceRow.holds Try.pinned (OpenSpec.ofChange Rows.fnExactSourceSpec):=
  OpenClaim.holds_of_wide 5 Try.f5 rfl rfl rfl rfl rfl rfl rfl ⟨rfl,rfl,rfl,rfl,rfl⟩ rfl rfl rfl rfl rfl (by kernel_rfl) Try.func5 (by kernel_rfl)
    (of_decide_eq_true (by kernel_rfl)) (by unfold Func.isWrapper; first | (rw [if_pos (by decide+kernel)]; kernel_rfl) | (rw [if_neg (by decide+kernel)]; exact ⟨rfl,rfl⟩))
    (fun os started H enc _=>lifted os started H enc)
theorem proved:Rows.FnExactSourceSaid:=over
#print axioms proved
end Go.Proofs.Ytockoilcnmljiaa.fnExactSource
namespace Go.Proofs.Ytockoilcnmljiaa
theorem fnExactSource_holds:Rows.FnExactSourceSaid:=fnExactSource.proved
end Go.Proofs.Ytockoilcnmljiaa
