/- FnExactMayLead: the program's MayLead returns what the reference's returns, for all arguments (a node, a node, a flag). No condition. -/
import Derived.Test.YtockoilcnmljiaaRows
import Derived.WalkKit
import Derived.ProofKit
import Derived.OpenShut
import Derived.ShutString
import Derived.ChangeOld
import Derived.ChangeSame
import Derived.Below
import Derived.Carry
import Derived.SizedLaws
import Derived.Test.YtockoilcnmljiaaMe
set_option linter.all false
set_option linter.unusedSimpArgs false
set_option linter.unusedVariables false
set_option linter.unnecessarySimpa false
set_option linter.unusedSectionVars false
namespace Go.Proofs.Ytockoilcnmljiaa
set_option maxRecDepth 100000
section
variable (pr:ez) (cv:Cv Rz) (J:Nat→St→Option Rz)
end
structure y8 (n:ai):Prop where
  conn:(n.conn.length:Int)=3
  sync:(n.sync.length:Int)=3
  bp:(n.bp.length:Int)=3
  link:∀ k,k < 3→fe (n.sync.getD k [])=true∧oS n k
open Classical in
noncomputable def mh (n:ai):Bool:=decide (y8 n)
open Classical in
theorem Qn {n:ai} (h:mh n=true):y8 n:=by unfold mh at h; exact of_decide_eq_true h
open Classical in
theorem E5 {n:ai} (h:y8 n):mh n=true:=by unfold mh; exact decide_eq_true h
open Classical in
theorem te {n:ai} (h:¬y8 n):(some ((.bool false,[.undef]):Rz))=some (.bool (mh n),[.undef]):=by unfold mh; rw [decide_eq_false h]
theorem DL (n:ai) (q0:ch n):Cm 67 [.agg (af (some true) n)] (.bool (mh n),[.undef]):=by
  have ok:=q0
  have s5:=ok.sync.1
  have s7:=ok.sync
  refine Cm.step DJ [.undef] fun J hJ=>?_
  rw [DK]
  simp (disch:=first | assumption | omega) only [go_sem]
  refine eV (fun h1=>?_) (fun h=>te fun o=>h o.conn)
  simp (disch:=first | assumption | omega) only [go_sem]
  refine eV (fun h2=>?_) (fun h=>te fun o=>h o.sync)
  simp (disch:=first | assumption | omega) only [go_sem]
  refine eV (fun h3=>?_) (fun h=>te fun o=>h o.bp)
  refine hJ _ _ ?_
  refine WP.up (H:=fun i=>gE n i) 3 (fun i=>∀ k,k < i→fe (n.sync.getD k [])=true∧oS n k) (fun i hi inv J hJ next=>?_) 0 (Nat.zero_le _) (fun k hk=>absurd hk (by omega))
  rw [zf]
  dsimp only
  simp (disch:=first | assumption | omega) only [go_sem]
  refine eV (fun cJ=>?_) (fun wT=>by rw [E5 ⟨h1,h2,h3,fun k hk=>inv k (by omega)⟩])
  have Ro:i < 3:=by omega
  have s8:=SA s7 i
  simp (disch:=first | assumption | omega) only [go_sem]
  refine yj (fun hm=>?_) (fun h=>te fun o=>h (o.link i Ro).1)
  have go:oS n i→J 0 (gE n ((i:Int)+1))=some (.bool (mh n),[.undef]):=fun hb=>next (by omega) fun k hk=>by
      by_cases e:k=i
      · subst e; exact ⟨hm,hb⟩
      · exact inv k (by omega)
  have no:¬oS n i→(some ((.bool false,[.undef]):Rz))=some (.bool (mh n),[.undef]):=fun h=>te fun o=>h (o.link i Ro).2
  have eJ:U.ar .add .i64 (i:Int) 1=(i:Int)+1:=Rk (by omega) (by omega)
  rw [eJ]
  generalize J 0 (gE n ((i:Int)+1))=z at go ⊢
  unfold oS at go no
  cases hc:n.conn.getD i false<;>cases hk:n.bp.getD i false<;>cases hu:n.up<;>by_cases hs:0 < ((n.sync.getD i []).length:Int)<;>by_cases N0:(i:Int)=n.id<;>simp only [hc,hk,hu,hs,N0,not_true_eq_false,not_false_eq_true,false_and,and_false,and_true,true_and,forall_const,Bool.false_eq_true,false_implies,imp_self,true_implies,and_self] at go no<;>simp (disch:=first | assumption | omega) only [go_sem,hc,hk,hu]<;>first | exact no | exact go
@[go_sem] theorem SB (qy:Int) (qz:Bool) (qA:Bool) (tP:Nat) (kt:List Int) (qB:Nat) (gV:List Int) (qC:Nat) (gW:List (List Int)) (jM:Bool) (jN:Bool) (jO:Bool) (jP:Int) (qD:Nat) (gX:List UInt8) (qE:Nat) (gY:List UInt8) (yp:Nat) (nQ:List Bool) (yq:Nat) (nR:List (List Int)) (yr:Nat) (nT:List Bool) (yt:Nat) (nU:List Int) (e0:tP=kt.length) (e1:qB=gV.length) (e2:qC=gW.length) (e3:qD=gX.length) (e4:qE=gY.length) (e5:yp=nQ.length) (e6:yq=nR.length) (e7:yr=nT.length) (e8:yt=nU.length) (q0:ch (⟨qy,qz,qA,kt,(⟨gV,gW,jM,jN,jO,jP⟩:aH),(⟨gX,gY⟩:aG),nQ,nR,nT,nU⟩:ai)) (t:bO Rz):bc 67 [.agg [.int .i64 qy,.bool qz,.bool qA,.sl (some true) 1 tP (ints kt),.sl (some true) 1 qB (ints gV),.sl (some true) 1 qC (rows (some true) gW),.bool jM,.bool jN,.bool jO,.int .i64 jP,.sl (some true) 1 qD (bytes gX),.sl (some true) 1 qE (bytes gY),.sl (some true) 1 yp (aO nQ),.sl (some true) 1 yq (rows (some true) nR),.sl (some true) 1 yr (aO nT),.sl (some true) 1 yt (ints nU)]] t=feed t [.bool (mh (⟨qy,qz,qA,kt,(⟨gV,gW,jM,jN,jO,jP⟩:aH),(⟨gX,gY⟩:aG),nQ,nR,nT,nU⟩:ai))]:=by
  subst e0
  subst e1
  subst e2
  subst e3
  subst e4
  subst e5
  subst e6
  subst e7
  subst e8
  exact bZ (r:=.bool (mh (⟨qy,qz,qA,kt,(⟨gV,gW,jM,jN,jO,jP⟩:aH),(⟨gX,gY⟩:aG),nQ,nR,nT,nU⟩:ai))) (s:=.bool) (ss:=[.undef]) (DL (⟨qy,qz,qA,kt,(⟨gV,gW,jM,jN,jO,jP⟩:aH),(⟨gX,gY⟩:aG),nQ,nR,nT,nU⟩:ai) q0) (by kernel_rfl) (by simp only [ax,bH,bj,bI,bJ,aj,aq,Bool.and_self]) (by simp only [aj,aR,ax,aq,Bool.and_self]) (by first | rfl | simp only [aw,bg,bf,bE,bF,bh,bG,Bool.and_self]) (by first | rfl | simp only [List.all_cons,List.all_nil,aw,Bool.and_self]) t
theorem wH (n:ai) (q0:ch n):Cm 38 [.agg (af (some true) n)] (.bool (dE n),[.undef]):=by
  have ok:=q0
  have s1:=ok.image
  have s2:=ok.conn
  have s3:=ok.bp
  have s4:=ok.wait
  have s5:=ok.sync.1
  have s6:=ok.mt
  have s7:=ok.sync
  have s8:=q0.dr
  have s9:=Ct n.dr
  refine Cm.step Gn [.undef] fun J hJ=>?_
  rw [Gp]
  simp (disch:=first | assumption | omega) only [go_sem]
  refine eV (fun h1=>?_) (fun h=>dk fun o=>h o.id)
  simp (disch:=first | assumption | omega) only [go_sem]
  refine yj (fun h2=>?_) (fun h=>dk fun o=>h o.image)
  simp (disch:=first | assumption | omega) only [go_sem]
  refine yj (fun h3=>?_) (fun h=>dk fun o=>h o.mt)
  simp (disch:=first | assumption | omega) only [go_sem]
  refine yj (fun h4=>?_) (fun h=>dk fun o=>h (E5 ⟨o.conn,o.sync,o.bp,fun k hk=>⟨o.marks k (by have:=o.sync; omega),o.link k hk⟩⟩))
  have h4:=Qn h4
  have h5:=h4.sync
  refine VI (fun h7 h8=>?_) (fun h=>dk fun o=>h (fun hp=>⟨(o.eS hp).1,decide_eq_false (o.eS hp).2⟩) fun hu=>decide_eq_false (o.down (by rw [hu]; simp)))
  have h7:n.eS=true→n.up=true∧¬n.id=2:=fun hp=>⟨(h7 hp).1,of_decide_eq_false (h7 hp).2⟩
  have h8:¬n.up=true→¬0 < (n.wait.length:Int):=fun hu=>of_decide_eq_false (h8 (by simpa using hu))
  refine hJ _ _ ?_
  refine WP.up (H:=fun i=>jL n i) n.wait.length (fun i=>∀ k,k < i→L4 n.wait k) (fun i hi inv J _ next=>?_) 0 (Nat.zero_le _) (fun k hk=>absurd hk (by omega))
  rw [AT]
  simp (disch:=first | assumption | omega) only [go_sem]
  refine eV (fun cJ=>?_) (fun wT=>?_)
  · simp (disch:=first | assumption | omega) only [go_sem]
    refine eV (fun ha=>?_) (fun h=>dk fun o=>h (o.wait i (by omega)).1)
    simp (disch:=first | assumption | omega) only [go_sem]
    have go:(0 < (i:Int)→¬n.wait.getD i 0≤n.wait.getD (i - 1) 0)→J 0 (jL n ((i:Int)+1))=some (.bool (dE n),[.undef]):=fun hb=>next (by omega) fun k hk=>by
      by_cases e:k=i
      · subst e; exact ⟨ha,hb⟩
      · exact inv k (by omega)
    refine eV (fun oa=>?_) (fun hz=>?_)
    · have e1:((i:Int) - 1).toNat=i - 1:=by omega
      simp (disch:=first | assumption | omega) only [go_sem,e1]
      exact eV (fun h=>dk fun o=>(o.wait i (by omega)).2 oa h) (fun h=>go fun _=>h)
    · exact go fun h=>absurd h hz
  · have yes:(aD n.dr).2.2=true→j4 (aD n.dr).1 n.mt=true→oT n:=fun a b=>⟨h1,h2,h3,h4.conn,h4.sync,fun k hk=>(h4.link k (by omega)).1,h4.bp,h7,h8,a,b,fun k hk=>(h4.link k hk).2,fun k hk=>inv k (by omega)⟩
    simp (disch:=first | assumption | omega) only [go_sem]
    refine yj (fun h9=>?_) (fun h=>dk fun o=>h o.slot)
    simp (disch:=first | assumption | omega) only [go_sem]
    cases kQ:j4 (aD n.dr).1 n.mt with
    | true=>exact E4 (yes h9 kQ)
    | false=>exact dk fun o=>by have:=o.same; rw [kQ] at this; simp at this
@[go_sem] theorem S6 (qy:Int) (qz:Bool) (qA:Bool) (tP:Nat) (kt:List Int) (qB:Nat) (gV:List Int) (qC:Nat) (gW:List (List Int)) (jM:Bool) (jN:Bool) (jO:Bool) (jP:Int) (qD:Nat) (gX:List UInt8) (qE:Nat) (gY:List UInt8) (yp:Nat) (nQ:List Bool) (yq:Nat) (nR:List (List Int)) (yr:Nat) (nT:List Bool) (yt:Nat) (nU:List Int) (e0:tP=kt.length) (e1:qB=gV.length) (e2:qC=gW.length) (e3:qD=gX.length) (e4:qE=gY.length) (e5:yp=nQ.length) (e6:yq=nR.length) (e7:yr=nT.length) (e8:yt=nU.length) (q0:ch (⟨qy,qz,qA,kt,(⟨gV,gW,jM,jN,jO,jP⟩:aH),(⟨gX,gY⟩:aG),nQ,nR,nT,nU⟩:ai)) (t:bO Rz):bc 38 [.agg [.int .i64 qy,.bool qz,.bool qA,.sl (some true) 1 tP (ints kt),.sl (some true) 1 qB (ints gV),.sl (some true) 1 qC (rows (some true) gW),.bool jM,.bool jN,.bool jO,.int .i64 jP,.sl (some true) 1 qD (bytes gX),.sl (some true) 1 qE (bytes gY),.sl (some true) 1 yp (aO nQ),.sl (some true) 1 yq (rows (some true) nR),.sl (some true) 1 yr (aO nT),.sl (some true) 1 yt (ints nU)]] t=feed t [.bool (dE (⟨qy,qz,qA,kt,(⟨gV,gW,jM,jN,jO,jP⟩:aH),(⟨gX,gY⟩:aG),nQ,nR,nT,nU⟩:ai))]:=by
  subst e0
  subst e1
  subst e2
  subst e3
  subst e4
  subst e5
  subst e6
  subst e7
  subst e8
  exact bZ (r:=.bool (dE (⟨qy,qz,qA,kt,(⟨gV,gW,jM,jN,jO,jP⟩:aH),(⟨gX,gY⟩:aG),nQ,nR,nT,nU⟩:ai))) (s:=.bool) (ss:=[.undef]) (wH (⟨qy,qz,qA,kt,(⟨gV,gW,jM,jN,jO,jP⟩:aH),(⟨gX,gY⟩:aG),nQ,nR,nT,nU⟩:ai) q0) (by kernel_rfl) (by simp only [ax,bH,bj,bI,bJ,aj,aq,Bool.and_self]) (by simp only [aj,aR,ax,aq,Bool.and_self]) (by first | rfl | simp only [aw,bg,bf,bE,bF,bh,bG,Bool.and_self]) (by first | rfl | simp only [List.all_cons,List.all_nil,aw,Bool.and_self]) t
theorem aaC {n:ai} (h:oT n) (hp:n.eS=true):0≤j3 n.id∧j3 n.id≤1:=by
  have h1:=h.id
  have h2:=(h.eS hp).2
  unfold j3
  split<;>omega
noncomputable def YQ (n:ai):Bool:=dE n&&(n.eS&&(n.conn.getD (j3 n.id).toNat false||n.mt.held))
end Go.Proofs.Ytockoilcnmljiaa
namespace Go.Proofs.Ytockoilcnmljiaa
set_option maxRecDepth 100000
section
variable {a b:Bool} {o:List D} {X:Option Rz}
theorem jc (h:a=true→X=some (.bool b,o)):br a X (some (.bool false,o))=some (.bool (a&&b),o):=by cases a with | true=>exact h rfl | false=>rfl
theorem mi (h:a=false→X=some (.bool b,o)):br a (some (.bool false,o)) X=some (.bool (!a&&b),o):=by cases a with | true=>rfl | false=>exact h rfl
theorem VJ (h:a=false→X=some (.bool b,o)):br a (some (.bool true,o)) X=some (.bool (a||b),o):=by cases a with | true=>rfl | false=>exact h rfl
end
def y9 (g:Option Bool) (x:aH):List D:=cd g x
@[go_sem] theorem aaD (g:Option Bool) (Oh:Nat) (xa:List Int) (E6:Nat) (xb:List (List Int)) (xf:Bool) (xo:Bool) (xh:Bool) (xl:Int) (VK:Oh=xa.length) (Oi:E6=xb.length):D.agg [.sl g 1 Oh (ints xa),.sl g 1 E6 (rows g xb),.bool xf,.bool xo,.bool xh,.int .i64 xl]=.agg (y9 g ⟨xa,xb,xf,xo,xh,xl⟩):=by
  subst VK
  subst Oi
  rfl
@[go_sem] theorem aaE (x:aH):cM true (y9 none x)=y9 (some true) x:=by
  unfold y9
  first | rfl | simp only [go_sem,gI,cM,gh,gN,gH,jz]
def qF (g:Option Bool) (x:aG):List D:=dO g x
@[go_sem] theorem ZQ (g:Option Bool) (Oh:Nat) (xa:List UInt8) (E6:Nat) (xb:List UInt8) (VK:Oh=xa.length) (Oi:E6=xb.length):D.agg [.sl g 1 Oh (bytes xa),.sl g 1 E6 (bytes xb)]=.agg (qF g ⟨xa,xb⟩):=by
  subst VK
  subst Oi
  rfl
@[go_sem] theorem ZR (x:aG):cM true (qF none x)=qF (some true) x:=by
  unfold qF
  first | rfl | simp only [go_sem,gI,cM,gh,gN,gH,jz]
def gp (g:Option Bool) (x:ai):List D:=af g x
@[go_sem] theorem aaF (g:Option Bool) (xi:Int) (xu:Bool) (xp:Bool) (VL:Nat) (VM:List Int) (VN:Nat) (VO:List Int) (VP:Nat) (VQ:List (List Int)) (YR:Bool) (YS:Bool) (YT:Bool) (YU:Int) (VR:Nat) (VS:List UInt8) (VT:Nat) (VU:List UInt8) (YV:Nat) (xc:List Bool) (YW:Nat) (xy:List (List Int)) (YX:Nat) (xk:List Bool) (E7:Nat) (xw:List Int) (ZS:VL=VM.length) (ZT:VN=VO.length) (ZU:VP=VQ.length) (ZV:VR=VS.length) (ZW:VT=VU.length) (xc1:YV=xc.length) (xy1:YW=xy.length) (xk1:YX=xk.length) (Oj:E7=xw.length):D.agg [.int .i64 xi,.bool xu,.bool xp,.sl g 1 VL (ints VM),.sl g 1 VN (ints VO),.sl g 1 VP (rows g VQ),.bool YR,.bool YS,.bool YT,.int .i64 YU,.sl g 1 VR (bytes VS),.sl g 1 VT (bytes VU),.sl g 1 YV (aO xc),.sl g 1 YW (rows g xy),.sl g 1 YX (aO xk),.sl g 1 E7 (ints xw)]=.agg (gp g ⟨xi,xu,xp,VM,⟨VO,VQ,YR,YS,YT,YU⟩,⟨VS,VU⟩,xc,xy,xk,xw⟩):=by
  subst ZS
  subst ZT
  subst ZU
  subst ZV
  subst ZW
  subst xc1
  subst xy1
  subst xk1
  subst Oj
  rfl
@[go_sem] theorem aaG (x:ai):cM true (gp none x)=gp (some true) x:=by
  unfold gp
  first | rfl | simp only [go_sem,gI,cM,gh,gN,gH,jz]
def XA (g:Option Bool) (x:eH):List D:=dJ g x
@[go_sem] theorem aaH (g:Option Bool) (xf:Int) (xt:Int) (E6:Nat) (xb:List UInt8) (Oi:E6=xb.length):D.agg [.int .i64 xf,.int .i64 xt,.sl g 1 E6 (bytes xb)]=.agg (XA g ⟨xf,xt,xb⟩):=by
  subst Oi
  rfl
def Cu (g:Option Bool) (x:kp):List D:=uz g x
@[go_sem] theorem ZX (g:Option Bool) (Ok:Nat) (xn:List ai) (E7:Nat) (xw:List eH) (Ol:Nat) (xl:List mC) (Om:Nat) (xs:List Int) (xg:Int) (VV:Ok=xn.length) (Oj:E7=xw.length) (VW:Ol=xl.length) (VX:Om=xs.length):D.agg [.sl g 16 Ok (aE (af g) xn),.sl g 3 E7 (aE (dJ g) xw),.sl g 2 Ol (aE (iG g) xl),.sl g 1 Om (ints xs),.int .i64 xg]=.agg (Cu g ⟨xn,xw,xl,xs,xg⟩):=by
  subst VV
  subst Oj
  subst VW
  subst VX
  rfl
@[go_sem] theorem ZY (g:Option Bool) (Ok:Nat) (xn:List ai) (E7:Nat) (xw:List eH) (Ol:Nat) (xl:List mC) (Om:Nat) (xs:List Int) (xg:Int) (VV:Ok=xn.length) (Oj:E7=xw.length) (VW:Ol=xl.length) (VX:Om=xs.length):D.aJ [.sl g 16 Ok (aE (af g) xn),.sl g 3 E7 (aE (dJ g) xw),.sl g 2 Ol (aE (iG g) xl),.sl g 1 Om (ints xs),.int .i64 xg]=.aJ (Cu g ⟨xn,xw,xl,xs,xg⟩):=by
  subst VV
  subst Oj
  subst VW
  subst VX
  rfl
def ZZ (g:Option Bool) (x:sc):List D:=CR g x
@[go_sem] theorem acx (g:Option Bool) (xk:Int) (xc:Int) (xv:Int) (xw:Int) (YY:Nat) (xg:List Int) (xg1:YY=xg.length):D.agg [.int .i64 xk,.int .i64 xc,.int .i64 xv,.int .i64 xw,.sl g 1 YY (ints xg)]=.agg (ZZ g ⟨xk,xc,xv,xw,xg⟩):=by
  subst xg1
  rfl
def XB (g:Option Bool) (x:vE):List D:=yR g x
@[go_sem] theorem aaI (g:Option Bool) (xf:Int) (xt:Int) (YZ:Int) (Y0:Int) (Y1:Int) (Y2:Int) (VY:Nat) (VZ:List Int) (Z0:VY=VZ.length):D.agg [.int .i64 xf,.int .i64 xt,.int .i64 YZ,.int .i64 Y0,.int .i64 Y1,.int .i64 Y2,.sl g 1 VY (ints VZ)]=.agg (XB g ⟨xf,xt,⟨YZ,Y0,Y1,Y2,VZ⟩⟩):=by
  subst Z0
  rfl
def GK (g:Option Bool) (x:oC):List D:=yS g x
@[go_sem] theorem aaJ (g:Option Bool) (xk:Int) (xa:Int) (xb:Int):D.agg [.int .i64 xk,.int .i64 xa,.int .i64 xb]=.agg (GK g ⟨xk,xa,xb⟩):=by
  rfl
@[go_sem] theorem aaK (x:oC):cM true (GK none x)=GK (some true) x:=by
  unfold GK
  first | rfl | simp only [go_sem,gI,cM,gh,gN,gH,jz]
section
variable (t:bO Rz)
@[go_sem] theorem Z1 (g:Bool) (n:ai) (h:ch n):bc 9 [.agg (gp (some g) n)] t=feed t [enc .node n]:=PX t g n h
@[go_sem] theorem Z2 (g h:Bool) (n:ai) (ok:ch n):bc 11 [.agg (gp (some g) n),.agg (gp (some h) n)] t=feed t [.bool true]:=IF t g h n ok
@[go_sem] theorem Z3 (g:Bool) (n:ai) (left:Int) (h0:0≤left) (h1:left≤1048576) (ln:sy n):bc 7 [.agg (gp (some g) n),.int .i64 left] t=feed t [.int .i64 (fk n left)]:=PY t g n left h0 h1 ln
@[go_sem] theorem Y3 (g h:Bool) (w:kp) (ok:Dh w):bc 18 [.agg (Cu (some g) w),.agg (Cu (some h) w)] t=feed t [.bool true]:=N7 t g h w ok
end
end Go.Proofs.Ytockoilcnmljiaa
namespace Go.Proofs.Ytockoilcnmljiaa
set_option maxRecDepth 100000
section
variable (pr:ez) (cv:Cv Rz) (J:Nat→St→Option Rz)
theorem Gq:Told cfg Try.prog 32 Try.f32:=⟨by kernel_rfl,Try.func32,by kernel_rfl⟩
theorem Gr (x0:ai) (x1:ai):bn pr cv J 32 Try.f32 [(.agg (af (some true) x0)),(.agg (af (some true) x1))]=
    let y1:Option (D × List D):=(some ((.bool false),[.undef,.undef]))
    (cv 42 [(.agg (af (some true) x0))] (.bool (fun cm=>(.done (br cm (cv 42 [(.agg (af (some true) x1))] (.bool (fun jw=>(.done (br jw (br (br (pr.eq x0.id 2) false true) (cv 62 [(.int .i64 x0.id)] (.int (fun uM=>(.done (some ((.bool (pr.eq x1.id uM)),[.undef,.undef])))))) y1) y1))))) y1))))):=by kernel_rfl
theorem DM:Told cfg Try.prog 26 Try.f26:=⟨by kernel_rfl,Try.func26,by kernel_rfl⟩
theorem DN (x0:ai) (x1:ai):bn pr cv J 26 Try.f26 [(.agg (af (some true) x0)),(.agg (af (some true) x1))]=
    let y1:Option (D × List D):=(some ((.bool false),[.undef,.undef]))
    (cv 38 [(.agg (af (some true) x0))] (.bool (fun cm=>(.done (br cm (cv 38 [(.agg (af (some true) x1))] (.bool (fun jw=>(.done (br jw (cv 60 [(.int .i64 x0.id)] (.int (fun uM=>(.done (some ((.bool (pr.eq uM x1.id)),[.undef,.undef])))))) y1))))) y1))))):=by kernel_rfl
theorem DO:Told cfg Try.prog 10 Try.f10:=⟨by kernel_rfl,Try.func10,by kernel_rfl⟩
theorem DP (x0:ai) (x1:ai):bn pr cv J 10 Try.f10 [(.agg (af (some true) x0)),(.agg (af (some true) x1))]=
    let y1:Option (D × List D):=(some ((.bool false),[.undef,.undef]))
    (cv 32 [(.agg (af (some true) x0)),(.agg (af (some true) x1))] (.bool (fun cm=>(.done (br cm (br x0.up (br x0.mt.dQ (br (br x0.mt.bQ false true) (br (br x0.mt.held false true) (br (pr.cb x1.id x0.conn.length) (br (br (pr.fj (aO x0.conn) (pr.idx 0 x1.id 1)) true false) (br (br (pr.dI (aO x0.conn) (pr.idx 0 x1.id 1)) false true) (some ((.bool (br x1.eS false true)),[.undef,.undef])) y1) none) none) y1) y1) y1) y1) y1))))):=by kernel_rfl
theorem DQ:Told cfg Try.prog 8 Try.f8:=⟨by kernel_rfl,Try.func8,by kernel_rfl⟩
theorem DR (x0:ai) (x1:ai):bn pr cv J 8 Try.f8 [(.agg (af (some true) x0)),(.agg (af (some true) x1))]=
    let y1:Option (D × List D):=(some ((.bool false),[.undef,.undef]))
    (cv 26 [(.agg (af (some true) x0)),(.agg (af (some true) x1))] (.bool (fun cm=>(.done (br cm (br x0.up (br x0.mt.dQ (br (br x0.mt.bQ false true) (br (br x0.mt.held false true) (br (pr.cb x1.id x0.conn.length) (br (br (pr.fj (aO x0.conn) (pr.idx 0 x1.id 1)) true false) (br (br (pr.dI (aO x0.conn) (pr.idx 0 x1.id 1)) false true) (some ((.bool (br x1.eS false true)),[.undef,.undef])) y1) none) none) y1) y1) y1) y1) y1))))):=by kernel_rfl
theorem DS:Told cfg Try.prog 13 Try.f13:=⟨by kernel_rfl,Try.func13,by kernel_rfl⟩
theorem DT (x0:ai) (x1:ai) (x2:Bool):bn pr cv J 13 Try.f13 [(.agg (af (some true) x0)),(.agg (af (some true) x1)),(.bool x2)]=
    let y1:Option (D × List D):=(some ((.bool false),[.undef,.undef,.undef]))
    (cv 32 [(.agg (af (some true) x0)),(.agg (af (some true) x1))] (.bool (fun cm=>(.done (br (br cm false true) y1 (br (br x0.up false true) y1 (br (br x0.mt.dQ false true) y1 (br x0.mt.bQ y1 (br x0.eS y1 (br x0.mt.held (some ((.bool true),[.undef,.undef,.undef])) (br (pr.cb x1.id x0.conn.length) (br (br (pr.fj (aO x0.conn) (pr.idx 0 x1.id 1)) true false) (br (pr.dI (aO x0.conn) (pr.idx 0 x1.id 1)) (br (pr.cb x0.id x1.conn.length) (br (br (pr.fj (aO x1.conn) (pr.idx 0 x0.id 1)) true false) (br (pr.dI (aO x1.conn) (pr.idx 0 x0.id 1)) (br (pr.cb x1.id x0.bp.length) (br (br (pr.fj (aO x0.bp) (pr.idx 0 x1.id 1)) true false) (br (br (pr.dI (aO x0.bp) (pr.idx 0 x1.id 1)) false true) (br (pr.cb x0.id x1.bp.length) (br (br (pr.fj (aO x1.bp) (pr.idx 0 x0.id 1)) true false) (br (br (pr.dI (aO x1.bp) (pr.idx 0 x0.id 1)) false true) (br (br x1.eS false true) (br (pr.eq x0.mt.last x1.mt.last) (some ((.bool x2),[.undef,.undef,.undef])) y1) y1) y1) none) none) y1) none) none) y1) none) none) y1) none) none))))))))))):=by kernel_rfl
theorem DU:Told cfg Try.prog 12 Try.f12:=⟨by kernel_rfl,Try.func12,by kernel_rfl⟩
theorem DV (x0:ai) (x1:ai) (x2:Bool):bn pr cv J 12 Try.f12 [(.agg (af (some true) x0)),(.agg (af (some true) x1)),(.bool x2)]=
    let y1:Option (D × List D):=(some ((.bool false),[.undef,.undef,.undef]))
    (cv 26 [(.agg (af (some true) x0)),(.agg (af (some true) x1))] (.bool (fun cm=>(.done (br (br cm false true) y1 (br (br x0.up false true) y1 (br (br x0.mt.dQ false true) y1 (br x0.mt.bQ y1 (br x0.eS y1 (br x0.mt.held (some ((.bool true),[.undef,.undef,.undef])) (br (pr.cb x1.id x0.conn.length) (br (br (pr.fj (aO x0.conn) (pr.idx 0 x1.id 1)) true false) (br (pr.dI (aO x0.conn) (pr.idx 0 x1.id 1)) (br (pr.cb x0.id x1.conn.length) (br (br (pr.fj (aO x1.conn) (pr.idx 0 x0.id 1)) true false) (br (pr.dI (aO x1.conn) (pr.idx 0 x0.id 1)) (br (pr.cb x1.id x0.bp.length) (br (br (pr.fj (aO x0.bp) (pr.idx 0 x1.id 1)) true false) (br (br (pr.dI (aO x0.bp) (pr.idx 0 x1.id 1)) false true) (br (pr.cb x0.id x1.bp.length) (br (br (pr.fj (aO x1.bp) (pr.idx 0 x0.id 1)) true false) (br (br (pr.dI (aO x1.bp) (pr.idx 0 x0.id 1)) false true) (br (br x1.eS false true) (br (pr.eq x0.mt.last x1.mt.last) (some ((.bool x2),[.undef,.undef,.undef])) y1) y1) y1) none) none) y1) none) none) y1) none) none) y1) none) none))))))))))):=by kernel_rfl
end
@[go_sem] theorem S7 (n:ai) (q0:ch n) (t:bO Rz):bc 42 [.agg (gp (some true) n)] t=feed t [.bool (dE n)]:=by
  exact bZ (r:=.bool (dE n)) (s:=.bool) (ss:=[.undef]) (wG n q0) (by kernel_rfl) (by simp only [ax,bH,bj,bI,bJ,aj,aq,Bool.and_self]) (by simp only [aj,aR,ax,aq,Bool.and_self]) (by first | rfl | simp only [aw,bg,bf,bE,bF,bh,bG,Bool.and_self]) (by first | rfl | simp only [List.all_cons,List.all_nil,aw,Bool.and_self]) t
@[go_sem] theorem S8 (n:ai) (q0:ch n) (t:bO Rz):bc 38 [.agg (gp (some true) n)] t=feed t [.bool (dE n)]:=by
  exact bZ (r:=.bool (dE n)) (s:=.bool) (ss:=[.undef]) (wH n q0) (by kernel_rfl) (by simp only [ax,bH,bj,bI,bJ,aj,aq,Bool.and_self]) (by simp only [aj,aR,ax,aq,Bool.and_self]) (by first | rfl | simp only [aw,bg,bf,bE,bF,bh,bG,Bool.and_self]) (by first | rfl | simp only [List.all_cons,List.all_nil,aw,Bool.and_self]) t
@[go_sem] theorem SC (s:aG) (q0:eT s) (t:bO Rz):bc 76 [.agg (qF (some true) s)] t=feed t [enc .mt ((aD s).1),.int .i64 ((aD s).2.1),.bool ((aD s).2.2)]:=by
  exact bZ (r:=.aQ [enc .mt ((aD s).1),.int .i64 ((aD s).2.1),.bool ((aD s).2.2)]) (s:=.aQ [.ty .mt,.int .i64,.bool]) (ss:=[.undef]) (u3 s q0) (by kernel_rfl) (by simp only [ax,bH,bj,bI,bJ,aj,aq,Bool.and_self]) (by simp only [aj,aR,ax,aq,Bool.and_self]) (by first | rfl | simp only [aw,bg,bf,bE,bF,bh,bG,Bool.and_self]) (by first | rfl | simp only [List.all_cons,List.all_nil,aw,Bool.and_self]) t
@[go_sem] theorem SD (s:aG) (q0:eT s) (t:bO Rz):bc 68 [.agg (qF (some true) s)] t=feed t [enc .mt ((aD s).1),.int .i64 ((aD s).2.1),.bool ((aD s).2.2)]:=by
  exact bZ (r:=.aQ [enc .mt ((aD s).1),.int .i64 ((aD s).2.1),.bool ((aD s).2.2)]) (s:=.aQ [.ty .mt,.int .i64,.bool]) (ss:=[.undef]) (u4 s q0) (by kernel_rfl) (by simp only [ax,bH,bj,bI,bJ,aj,aq,Bool.and_self]) (by simp only [aj,aR,ax,aq,Bool.and_self]) (by first | rfl | simp only [aw,bg,bf,bE,bF,bh,bG,Bool.and_self]) (by first | rfl | simp only [List.all_cons,List.all_nil,aw,Bool.and_self]) t
@[go_sem] theorem S9 (s:aG) (q0:eT s) (t:bO Rz):bc 106 [.agg (qF (some true) s)] t=feed t [enc .mt ((((aD s).1,(aD s).2.1,mL s)).1),.int .i64 ((((aD s).1,(aD s).2.1,mL s)).2.1),.bool ((((aD s).1,(aD s).2.1,mL s)).2.2)]:=by
  exact bZ (r:=.aQ [enc .mt ((((aD s).1,(aD s).2.1,mL s)).1),.int .i64 ((((aD s).1,(aD s).2.1,mL s)).2.1),.bool ((((aD s).1,(aD s).2.1,mL s)).2.2)]) (s:=.aQ [.ty .mt,.int .i64,.bool]) (ss:=[.undef]) (wF s q0) (by kernel_rfl) (by simp only [ax,bH,bj,bI,bJ,aj,aq,Bool.and_self]) (by simp only [aj,aR,ax,aq,Bool.and_self]) (by first | rfl | simp only [aw,bg,bf,bE,bF,bh,bG,Bool.and_self]) (by first | rfl | simp only [List.all_cons,List.all_nil,aw,Bool.and_self]) t
@[go_sem] theorem SE (s:aG) (q0:eT s) (t:bO Rz):bc 96 [.agg (qF (some true) s)] t=feed t [.int .i64 (qx s)]:=by
  exact bZ (r:=.int .i64 (qx s)) (s:=.int .i64) (ss:=[.undef]) (uZ s q0) (by kernel_rfl) (by simp only [ax,bH,bj,bI,bJ,aj,aq,Bool.and_self]) (by simp only [aj,aR,ax,aq,Bool.and_self]) (by first | rfl | simp only [aw,bg,bf,bE,bF,bh,bG,Bool.and_self]) (by first | rfl | simp only [List.all_cons,List.all_nil,aw,Bool.and_self]) t
@[go_sem] theorem Qo (m:aH) (n:Nat) (q0:cO m) (q1:(cg m).length≤151) (q2:n < 4611686018427387904) (t:bO Rz):bc 122 [.agg (y9 (some true) m),.int .i64 (n:Int)] t=feed t [enc .B (lF m n)]:=by
  exact bZ (r:=enc .B (lF m n)) (s:=.ty .B) (ss:=[.undef,.undef]) (tb m n q0 q1 q2) (by kernel_rfl) (by simp only [ax,bH,bj,bI,bJ,aj,aq,Bool.and_self]) (by simp only [aj,aR,ax,aq,Bool.and_self]) (by first | rfl | simp only [aw,bg,bf,bE,bF,bh,bG,Bool.and_self]) (by first | rfl | simp only [List.all_cons,List.all_nil,aw,Bool.and_self]) t
@[go_sem] theorem Ta (m:aH) (n:Nat) (q0:cO m) (q1:(cg m).length≤151) (q2:n < 4611686018427387904) (t:bO Rz):bc 111 [.agg (y9 (some true) m),.int .i64 (n:Int)] t=feed t [enc .B (lF m n)]:=by
  exact bZ (r:=enc .B (lF m n)) (s:=.ty .B) (ss:=[.undef,.undef]) (wE m n q0 q1 q2) (by kernel_rfl) (by simp only [ax,bH,bj,bI,bJ,aj,aq,Bool.and_self]) (by simp only [aj,aR,ax,aq,Bool.and_self]) (by first | rfl | simp only [aw,bg,bf,bE,bF,bh,bG,Bool.and_self]) (by first | rfl | simp only [List.all_cons,List.all_nil,aw,Bool.and_self]) t
noncomputable def nk (x y:ai):Bool:=dE x&&(dE y&&(!decide (x.id=2)&&decide (y.id=j3 x.id)))
structure Z4 (x y:ai):Prop where
  ox:oT x
  oy:oT y
  xl:0≤x.id
  xh:x.id≤1
  yl:0≤y.id
  yh:y.id≤1
  adO:y.id=j3 x.id
theorem za {x y:ai} (h:nk x y=true):Z4 x y:=by
  unfold nk at h
  simp only [Bool.and_eq_true,Bool.not_eq_true',decide_eq_true_eq,decide_eq_false_iff_not] at h
  obtain ⟨h1,h2,h3,h4⟩:=h
  have k1:=tO h1
  have k2:=tO h2
  have i1:=k1.id
  have i2:=k2.id
  have h5:=h4
  unfold j3 at h5
  exact ⟨k1,k2,i1.1,by omega,i2.1,by split at h5<;>omega,h4⟩
theorem Gs (x:ai) (y:ai) (q0:ch x) (q1:ch y):Cm 32 [.agg (af (some true) x),.agg (af (some true) y)] (.bool (nk x y),[.undef,.undef]):=by
  refine Cm.step Gq _ fun J _=>?_
  rw [Gr]
  unfold nk
  simp (disch:=first | assumption | omega) only [go_sem]
  refine jc fun h1=>?_
  simp (disch:=first | assumption | omega) only [go_sem]
  refine jc fun h2=>?_
  simp (disch:=first | assumption | omega) only [go_sem]
  refine mi fun h3=>?_
  simp (disch:=first | assumption | omega) only [go_sem]
@[go_sem] theorem Tb (x:ai) (y:ai) (q0:ch x) (q1:ch y) (t:bO Rz):bc 32 [.agg (gp (some true) x),.agg (gp (some true) y)] t=feed t [.bool (nk x y)]:=by
  exact bZ (r:=.bool (nk x y)) (s:=.bool) (ss:=[.undef,.undef]) (Gs x y q0 q1) (by kernel_rfl) (by simp only [ax,bH,bj,bI,bJ,aj,aq,Bool.and_self]) (by simp only [aj,aR,ax,aq,Bool.and_self]) (by first | rfl | simp only [aw,bg,bf,bE,bF,bh,bG,Bool.and_self]) (by first | rfl | simp only [List.all_cons,List.all_nil,aw,Bool.and_self]) t
theorem DW (x:ai) (y:ai) (q0:ch x) (q1:ch y):Cm 26 [.agg (af (some true) x),.agg (af (some true) y)] (.bool (nk x y),[.undef,.undef]):=by
  refine Cm.step DM _ fun J _=>?_
  rw [DN]
  unfold nk
  simp (disch:=first | assumption | omega) only [go_sem]
  refine jc fun h1=>?_
  simp (disch:=first | assumption | omega) only [go_sem]
  refine jc fun h2=>?_
  simp (disch:=first | assumption | omega) only [go_sem]
  have i1:=(tO h1).id
  have i2:=(tO h2).id
  unfold j3
  by_cases h:x.id=2
  · rw [h]; simp; omega
  · simp [h,eq_comm]
@[go_sem] theorem SF (x:ai) (y:ai) (q0:ch x) (q1:ch y) (t:bO Rz):bc 26 [.agg (gp (some true) x),.agg (gp (some true) y)] t=feed t [.bool (nk x y)]:=by
  exact bZ (r:=.bool (nk x y)) (s:=.bool) (ss:=[.undef,.undef]) (DW x y q0 q1) (by kernel_rfl) (by simp only [ax,bH,bj,bI,bJ,aj,aq,Bool.and_self]) (by simp only [aj,aR,ax,aq,Bool.and_self]) (by first | rfl | simp only [aw,bg,bf,bE,bF,bh,bG,Bool.and_self]) (by first | rfl | simp only [List.all_cons,List.all_nil,aw,Bool.and_self]) t
noncomputable def mj (x y:ai):Bool:=nk x y&&(x.up&&(x.mt.dQ&&(!x.mt.bQ&&(!x.mt.held&&(!x.conn.getD y.id.toNat false&&!y.eS)))))
theorem DX (x:ai) (y:ai) (q0:ch x) (q1:ch y):Cm 10 [.agg (af (some true) x),.agg (af (some true) y)] (.bool (mj x y),[.undef,.undef]):=by
  refine Cm.step DO _ fun J _=>?_
  rw [DP]
  unfold mj
  simp (disch:=first | assumption | omega) only [go_sem]
  refine jc fun h1=>?_
  try simp (disch:=first | assumption | omega) only [go_sem]
  have p:=za h1
  have:=p.xl; have:=p.xh; have:=p.yl; have:=p.yh; have:=p.ox.conn
  simp (disch:=first | assumption | omega) only [go_sem]
  refine jc fun _=>?_
  try simp (disch:=first | assumption | omega) only [go_sem]
  refine jc fun _=>?_
  try simp (disch:=first | assumption | omega) only [go_sem]
  refine mi fun _=>?_
  try simp (disch:=first | assumption | omega) only [go_sem]
  refine mi fun _=>?_
  try simp (disch:=first | assumption | omega) only [go_sem]
  exact mi fun _=>rfl
@[go_sem] theorem SG (x:ai) (y:ai) (q0:ch x) (q1:ch y) (t:bO Rz):bc 10 [.agg (gp (some true) x),.agg (gp (some true) y)] t=feed t [.bool (mj x y)]:=by
  exact bZ (r:=.bool (mj x y)) (s:=.bool) (ss:=[.undef,.undef]) (DX x y q0 q1) (by kernel_rfl) (by simp only [ax,bH,bj,bI,bJ,aj,aq,Bool.and_self]) (by simp only [aj,aR,ax,aq,Bool.and_self]) (by first | rfl | simp only [aw,bg,bf,bE,bF,bh,bG,Bool.and_self]) (by first | rfl | simp only [List.all_cons,List.all_nil,aw,Bool.and_self]) t
theorem DY (x:ai) (y:ai) (q0:ch x) (q1:ch y):Cm 8 [.agg (af (some true) x),.agg (af (some true) y)] (.bool (mj x y),[.undef,.undef]):=by
  refine Cm.step DQ _ fun J _=>?_
  rw [DR]
  unfold mj
  simp (disch:=first | assumption | omega) only [go_sem]
  refine jc fun h1=>?_
  try simp (disch:=first | assumption | omega) only [go_sem]
  have p:=za h1
  have:=p.xl; have:=p.xh; have:=p.yl; have:=p.yh; have:=p.ox.conn
  simp (disch:=first | assumption | omega) only [go_sem]
  refine jc fun _=>?_
  try simp (disch:=first | assumption | omega) only [go_sem]
  refine jc fun _=>?_
  try simp (disch:=first | assumption | omega) only [go_sem]
  refine mi fun _=>?_
  try simp (disch:=first | assumption | omega) only [go_sem]
  refine mi fun _=>?_
  try simp (disch:=first | assumption | omega) only [go_sem]
  exact mi fun _=>rfl
@[go_sem] theorem SI (x:ai) (y:ai) (q0:ch x) (q1:ch y) (t:bO Rz):bc 8 [.agg (gp (some true) x),.agg (gp (some true) y)] t=feed t [.bool (mj x y)]:=by
  exact bZ (r:=.bool (mj x y)) (s:=.bool) (ss:=[.undef,.undef]) (DY x y q0 q1) (by kernel_rfl) (by simp only [ax,bH,bj,bI,bJ,aj,aq,Bool.and_self]) (by simp only [aj,aR,ax,aq,Bool.and_self]) (by first | rfl | simp only [aw,bg,bf,bE,bF,bh,bG,Bool.and_self]) (by first | rfl | simp only [List.all_cons,List.all_nil,aw,Bool.and_self]) t
noncomputable def mm (x y:ai) (q:Bool):Bool:=nk x y&&(x.up&&(x.mt.dQ&&(!x.mt.bQ&&(!x.eS&&(x.mt.held||(x.conn.getD y.id.toNat false&&(y.conn.getD x.id.toNat false&&(!x.bp.getD y.id.toNat false&&(!y.bp.getD x.id.toNat false&&(!y.eS&&(decide (x.mt.last=y.mt.last)&&q)))))))))))
theorem DZ (x:ai) (y:ai) (q:Bool) (q0:ch x) (q1:ch y):Cm 13 [.agg (af (some true) x),.agg (af (some true) y),.bool q] (.bool (mm x y q),[.undef,.undef,.undef]):=by
  refine Cm.step DS _ fun J _=>?_
  rw [DT]
  unfold mm
  simp (disch:=first | assumption | omega) only [go_sem]
  refine jc fun h1=>?_
  try simp (disch:=first | assumption | omega) only [go_sem]
  have p:=za h1
  have:=p.xl; have:=p.xh; have:=p.yl; have:=p.yh; have:=p.ox.conn; have:=p.oy.conn; have:=p.ox.bp; have:=p.oy.bp
  simp (disch:=first | assumption | omega) only [go_sem]
  refine jc fun _=>?_
  try simp (disch:=first | assumption | omega) only [go_sem]
  refine jc fun _=>?_
  try simp (disch:=first | assumption | omega) only [go_sem]
  refine mi fun _=>?_
  try simp (disch:=first | assumption | omega) only [go_sem]
  refine mi fun _=>?_
  try simp (disch:=first | assumption | omega) only [go_sem]
  refine VJ fun _=>?_
  try simp (disch:=first | assumption | omega) only [go_sem]
  refine jc fun _=>?_
  try simp (disch:=first | assumption | omega) only [go_sem]
  refine jc fun _=>?_
  try simp (disch:=first | assumption | omega) only [go_sem]
  refine mi fun _=>?_
  try simp (disch:=first | assumption | omega) only [go_sem]
  refine mi fun _=>?_
  try simp (disch:=first | assumption | omega) only [go_sem]
  refine mi fun _=>?_
  try simp (disch:=first | assumption | omega) only [go_sem]
  exact jc fun _=>rfl
@[go_sem] theorem SJ (x:ai) (y:ai) (q:Bool) (q0:ch x) (q1:ch y) (t:bO Rz):bc 13 [.agg (gp (some true) x),.agg (gp (some true) y),.bool q] t=feed t [.bool (mm x y q)]:=by
  exact bZ (r:=.bool (mm x y q)) (s:=.bool) (ss:=[.undef,.undef,.undef]) (DZ x y q q0 q1) (by kernel_rfl) (by simp only [ax,bH,bj,bI,bJ,aj,aq,Bool.and_self]) (by simp only [aj,aR,ax,aq,Bool.and_self]) (by first | rfl | simp only [aw,bg,bf,bE,bF,bh,bG,Bool.and_self]) (by first | rfl | simp only [List.all_cons,List.all_nil,aw,Bool.and_self]) t
theorem D0 (x:ai) (y:ai) (q:Bool) (q0:ch x) (q1:ch y):Cm 12 [.agg (af (some true) x),.agg (af (some true) y),.bool q] (.bool (mm x y q),[.undef,.undef,.undef]):=by
  refine Cm.step DU _ fun J _=>?_
  rw [DV]
  unfold mm
  simp (disch:=first | assumption | omega) only [go_sem]
  refine jc fun h1=>?_
  try simp (disch:=first | assumption | omega) only [go_sem]
  have p:=za h1
  have:=p.xl; have:=p.xh; have:=p.yl; have:=p.yh; have:=p.ox.conn; have:=p.oy.conn; have:=p.ox.bp; have:=p.oy.bp
  simp (disch:=first | assumption | omega) only [go_sem]
  refine jc fun _=>?_
  try simp (disch:=first | assumption | omega) only [go_sem]
  refine jc fun _=>?_
  try simp (disch:=first | assumption | omega) only [go_sem]
  refine mi fun _=>?_
  try simp (disch:=first | assumption | omega) only [go_sem]
  refine mi fun _=>?_
  try simp (disch:=first | assumption | omega) only [go_sem]
  refine VJ fun _=>?_
  try simp (disch:=first | assumption | omega) only [go_sem]
  refine jc fun _=>?_
  try simp (disch:=first | assumption | omega) only [go_sem]
  refine jc fun _=>?_
  try simp (disch:=first | assumption | omega) only [go_sem]
  refine mi fun _=>?_
  try simp (disch:=first | assumption | omega) only [go_sem]
  refine mi fun _=>?_
  try simp (disch:=first | assumption | omega) only [go_sem]
  refine mi fun _=>?_
  try simp (disch:=first | assumption | omega) only [go_sem]
  exact jc fun _=>rfl
@[go_sem] theorem SK (x:ai) (y:ai) (q:Bool) (q0:ch x) (q1:ch y) (t:bO Rz):bc 12 [.agg (gp (some true) x),.agg (gp (some true) y),.bool q] t=feed t [.bool (mm x y q)]:=by
  exact bZ (r:=.bool (mm x y q)) (s:=.bool) (ss:=[.undef,.undef,.undef]) (D0 x y q q0 q1) (by kernel_rfl) (by simp only [ax,bH,bj,bI,bJ,aj,aq,Bool.and_self]) (by simp only [aj,aR,ax,aq,Bool.and_self]) (by first | rfl | simp only [aw,bg,bf,bE,bF,bh,bG,Bool.and_self]) (by first | rfl | simp only [List.all_cons,List.all_nil,aw,Bool.and_self]) t
end Go.Proofs.Ytockoilcnmljiaa
namespace Go.Proofs.Ytockoilcnmljiaa
set_option maxRecDepth 100000
section
variable (pr:ez) (cv:Cv Rz) (J:Nat→St→Option Rz)
theorem u7:Told cfg Try.prog 4 Try.f4:=⟨by kernel_rfl,Try.func4,by kernel_rfl⟩
theorem u9 (g0:Bool) (x0:ai) (g1:Bool) (x1:ai) (x2:Bool):bn pr cv J 4 Try.f4 [(.agg (af (some g0) x0)),(.agg (af (some g1) x1)),(.bool x2)]=
    let y1:Option (D × List D):=(some ((.bool true),[.undef,.undef,.undef]))
    let y2:Option (D × List D):=(some ((.bool false),[.undef,.undef,.undef]))
    (cv 7 [(.agg (af (some g0) x0)),(.int .i64 1048576)] (.int (fun gF=>(.done (br (pr.lt gF 0) y1 (cv 7 [(.agg (af (some g1) x1)),(.int .i64 gF)] (.int (fun lX=>(.done (br (pr.lt lX 0) y1 (cv 9 [(.agg (af (some g0) x0))] (.ty ic.node (fun (o4:ai)=>(.done (cv 9 [(.agg (af (some g1) x1))] (.ty ic.node (fun (sZ:ai)=>(.done (cv 12 [(.agg (cM true (af none o4))),(.agg (cM true (af none sZ))),(.bool x2)] (.bool (fun IA=>(.done (cv 9 [(.agg (af (some g0) x0))] (.ty ic.node (fun (Y4:ai)=>(.done (cv 9 [(.agg (af (some g1) x1))] (.ty ic.node (fun (Y5:ai)=>(.done (cv 13 [(.agg (cM true (af none Y4))),(.agg (cM true (af none Y5))),(.bool x2)] (.bool (fun NK=>(.done (br (br (pr.beq NK IA) false true) y2 (cv 9 [(.agg (af (some g0) x0))] (.ty ic.node (fun (vm8:ai)=>(.done (cv 11 [(.agg (cM true (af none Y4))),(.agg (cM true (af none vm8)))] (.bool (fun vb9=>(.done (br (br vb9 false true) y2 (cv 9 [(.agg (af (some g1) x1))] (.ty ic.node (fun (Z5:ai)=>(.done (cv 11 [(.agg (cM true (af none Y5))),(.agg (cM true (af none Z5)))] (.bool (fun Z6=>(.done (br (br Z6 false true) y2 y1))))))))))))))))))))))))))))))))))))))))))))))))))))):=by kernel_rfl
end
theorem AU (n:ai) (ln:sy n) (hi:BU n) (m:ai) (lm:sy m) (him:BU m) (q:Bool):Cm 4 [.agg (af (some false) n),.agg (af (some false) m),.bool q] (.bool true,[.undef,.undef,.undef]):=by
  have _:=hi
  have _:=him
  refine Cm.step u7 _ fun J _=>?_
  rw [u9]
  have a1:=vL (n:=n) (l:=1048576) (by omega) (by omega)
  simp (disch:=first | assumption | omega) only [go_sem]
  refine eV (fun _=>rfl) (fun hv=>?_)
  have a2:=vL (n:=m) (l:=fk n 1048576) (by omega) (by omega)
  simp (disch:=first | assumption | omega) only [go_sem]
  refine eV (fun _=>rfl) (fun hv2=>?_)
  have ok:ch n:=a1.2.2 (by omega)
  have ok2:ch m:=a2.2.2 (by omega)
  simp (disch:=first | assumption | omega) only [go_sem]
end Go.Proofs.Ytockoilcnmljiaa
namespace Go.Proofs.Ytockoilcnmljiaa.fnExactMayLead
open Go.ChangeShapes Go.WideShapes Go.ChangeAt Go.RowKit
set_option maxRecDepth 100000
theorem own:ownKnob Try.prog.godebug=none:=by kernel_rfl
theorem laidOut:laidOutB Try.prog=true:=by kernel_rfl
theorem lifted (os:Os) (started:os.Started) (H:Type) (enc:TypeId × Value→H):
    ReturnsInHanded {} Try.checked os 4 .any (Rows.fnExactMayLeadSpec.pre6 enc Try.prog Try.f4 Rows.fnExactMayLeadRow.domain false) (Rows.fnExactMayLeadSpec.post enc Try.prog Try.f4 false true false false):=by
  refine returnsInHanded_of_change_sized (C:=Try.checked) own started (by kernel_rfl) Try.func4
    (ChangeSpec.witness6 (enc:=enc) (C:=Try.checked) false ⟨#[],#[.agg #[.int .i64 0,.bool false,.bool false,.slice none 0 0,.slice none 0 0,.slice none 0 0,.bool false,.bool false,.bool false,.int .i64 0,.slice none 0 0,.slice none 0 0,.slice none 0 0,.slice none 0 0,.slice none 0 0,.slice none 0 0],.agg #[.int .i64 0,.bool false,.bool false,.slice none 0 0,.slice none 0 0,.slice none 0 0,.bool false,.bool false,.bool false,.int .i64 0,.slice none 0 0,.slice none 0 0,.slice none 0 0,.slice none 0 0,.slice none 0 0,.slice none 0 0],.bool false],[]⟩ 8 (by kernel_rfl) (by kernel_rfl) (by kernel_rfl) (by kernel_rfl)) ?_
  intro W base args ds gs before Rp hW adP V0 _
  have cr:(DataW.weightsEach Try.prog (Try.f4.params.toList++Rows.fnExactMayLeadSpec.plain.varTypes Try.prog) (ds++gs)).all (·≤reachBytes)=true:=V0
  have xe:∀ (j:Nat) t v,Try.f4.params[j]?=some t→args[j]?=some v→Value.okWide Try.prog W .any base t v:=Rp
  have hW':=hW
  obtain ⟨p,q,MK,hV,rfl,hfz,eG⟩:=hW
  have hA:DataW.TrodAll enc Try.prog W 0 (fun _=>true) true Try.f4.params.toList args.toList ds p:=MK
  rw [Try.params4] at hA xe cr
  obtain ⟨v0,vs0,d0,ds0,p0,q0,acD,rfl,rfl,h0,r0⟩:=trodAll_cons hA
  obtain ⟨v1,vs1,d1,fA,p1,q1,acE,rfl,rfl,h1,r1⟩:=trodAll_cons r0
  obtain ⟨v2,vs2,d2,pU,p2,q2,acF,rfl,rfl,h2,r2⟩:=trodAll_cons r1
  obtain ⟨rfl,rfl,rfl⟩:=trodAll_nil r2
  obtain rfl:args=#[v0,v1,v2]:=by cases args; simp_all
  obtain ⟨rfl,rfl⟩:=trodVars_none hV
  have k0:=h0
  have lt0:∀ x∈p0,x.block < W.heap.size:=by obtain ⟨m,hm⟩:=k0; exact DataW.trod_lt m _ _ _ hm
  obtain ⟨us0,rfl,_⟩:=okWide_struct Try.underlying31 (xe 0 31 v0 rfl rfl)
  obtain ⟨ado,hf0⟩:=h0
  have Kn:∀ z∈d0.weights Try.prog 31,z≤reachBytes:=fun z hz=>by
    have:=List.all_eq_true.1 cr z (DataW.weights_mem_each (j:=0) (t:=31) (d:=d0) rfl rfl z hz)
    simpa using this
  obtain ⟨acJ,Z7,XC⟩:=uC (X:=Lk W [] (fun _=>True)) Ix IG hf0 (by kernel_rfl) Kn
  obtain ⟨n0,rfl,ln0,in0⟩:=KA Z7
  have k1:=h1
  have lt1:∀ x∈p1,x.block < W.heap.size:=by obtain ⟨m,hm⟩:=k1; exact DataW.trod_lt m _ _ _ hm
  obtain ⟨Em,rfl,_⟩:=okWide_struct Try.underlying31 (xe 1 31 v1 rfl rfl)
  obtain ⟨adp,M8⟩:=h1
  have Ko:∀ z∈d1.weights Try.prog 31,z≤reachBytes:=fun z hz=>by
    have:=List.all_eq_true.1 cr z (DataW.weights_mem_each (j:=1) (t:=31) (d:=d1) rfl rfl z hz)
    simpa using this
  obtain ⟨acN,Z8,XD⟩:=uC (X:=Lk W [] (fun _=>True)) Ix IG M8 (by kernel_rfl) Ko
  obtain ⟨n1,rfl,ln1,in1⟩:=KA Z8
  have k2:=h2
  have lt2:∀ x∈p2,x.block < W.heap.size:=by obtain ⟨m,hm⟩:=k2; exact DataW.trod_lt m _ _ _ hm
  obtain ⟨x2,rfl⟩:=okWide_bool Try.underlying4 (xe 2 4 v2 rfl rfl)
  obtain ⟨adq,M9⟩:=h2
  have Kp:∀ z∈d2.weights Try.prog 4,z≤reachBytes:=fun z hz=>by
    have:=List.all_eq_true.1 cr z (DataW.weights_mem_each (j:=2) (t:=4) (d:=d2) rfl rfl z hz)
    simpa using this
  obtain ⟨acR,Z9,XE⟩:=uC (X:=Lk W [] (fun _=>True)) Ix .bool M9 (by kernel_rfl) Kp
  obtain ⟨y2,rfl⟩:=Z9
  clear MK Rp V0 cr
  refine (Ny vI (f:=4) (vs:=#[.agg us0,.agg Em,.bool x2]) (by kernel_rfl) (AU n0 ln0 in0 n1 ln1 in1 y2) (by simp [dc,bB,cK,eM,bz]) (.cons (Ky XC) (.cons (Ky XD) (.cons (Se XE (by simp) (by simp)) .nil)))).mono fun e W' ⟨he,Rq⟩=>?_
  subst he
  exact ⟨_,rfl,_,_,_,[],_,[],hW',trodAll_mk1 (shut_bool Try.underlying4 _),trodAll_mk3 (Below.trod laidOut (by kernel_rfl) (of_decide_eq_true (by kernel_rfl)) k0 Rq lt0) (Below.trod laidOut (by kernel_rfl) (of_decide_eq_true (by kernel_rfl)) k1 Rq lt1) (Below.trod laidOut (by kernel_rfl) (of_decide_eq_true (by kernel_rfl)) k2 Rq lt2),rfl,Rq.frame _,fun h=>by cases h⟩
theorem over:Rows.fnExactMayLeadRow.holds Try.pinned (OpenSpec.ofChange Rows.fnExactMayLeadSpec):=
  OpenClaim.holds_of_wide 4 Try.f4 rfl rfl rfl rfl rfl rfl rfl ⟨rfl,rfl,rfl,rfl,rfl⟩ rfl rfl rfl rfl rfl (by kernel_rfl) Try.func4 (by kernel_rfl)
    (of_decide_eq_true (by kernel_rfl)) (by unfold Func.isWrapper; first | (rw [if_pos (by decide+kernel)]; kernel_rfl) | (rw [if_neg (by decide+kernel)]; exact ⟨rfl,rfl⟩))
    (fun os started H enc _=>lifted os started H enc)
theorem proved:Rows.FnExactMayLeadSaid:=over
#print axioms proved
end Go.Proofs.Ytockoilcnmljiaa.fnExactMayLead
namespace Go.Proofs.Ytockoilcnmljiaa
theorem fnExactMayLead_holds:Rows.FnExactMayLeadSaid:=fnExactMayLead.proved
end Go.Proofs.Ytockoilcnmljiaa
