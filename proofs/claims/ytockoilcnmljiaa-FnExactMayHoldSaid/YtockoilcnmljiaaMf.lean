/- FnExactMayHold: the program's MayHold returns what the reference's returns, for all arguments (a node, a node). No condition. -/
import Derived.Test.YtockoilcnmljiaaRows
import Derived.WalkKit
import Derived.ProofKit
import Derived.OpenShut
import Derived.ShutString
import Derived.ChangeOld
import Derived.ChangeSame
import Derived.Below
import Derived.Carry
import Derived.SizedLaws
import Derived.Test.YtockoilcnmljiaaMe
set_option linter.all false
set_option linter.unusedSimpArgs false
set_option linter.unusedVariables false
set_option linter.unnecessarySimpa false
set_option linter.unusedSectionVars false
namespace Go.Proofs.Ytockoilcnmljiaa
set_option maxRecDepth 100000
section
variable (pr:ez) (cv:Cv Rz) (J:Nat→St→Option Rz)
end
structure y7 (n:ai):Prop where
  conn:(n.conn.length:Int)=3
  sync:(n.sync.length:Int)=3
  bp:(n.bp.length:Int)=3
  link:∀ k,k < 3→fc (n.sync.getD k [])=true∧oS n k
open Classical in
noncomputable def mh (n:ai):Bool:=decide (y7 n)
open Classical in
theorem Ql {n:ai} (h:mh n=true):y7 n:=by unfold mh at h; exact of_decide_eq_true h
open Classical in
theorem E5 {n:ai} (h:y7 n):mh n=true:=by unfold mh; exact decide_eq_true h
open Classical in
theorem te {n:ai} (h:¬y7 n):(some ((.bool false,[.undef]):Rz))=some (.bool (mh n),[.undef]):=by unfold mh; rw [decide_eq_false h]
theorem DL (n:ai) (q0:ch n):Cm 67 [.agg (af (some true) n)] (.bool (mh n),[.undef]):=by
  have ok:=q0
  have s5:=ok.sync.1
  have s7:=ok.sync
  refine Cm.step DJ [.undef] fun J hJ=>?_
  rw [DK]
  simp (disch:=first | assumption | omega) only [go_sem]
  refine eU (fun h1=>?_) (fun h=>te fun o=>h o.conn)
  simp (disch:=first | assumption | omega) only [go_sem]
  refine eU (fun h2=>?_) (fun h=>te fun o=>h o.sync)
  simp (disch:=first | assumption | omega) only [go_sem]
  refine eU (fun h3=>?_) (fun h=>te fun o=>h o.bp)
  refine hJ _ _ ?_
  refine WP.up (H:=fun i=>gE n i) 3 (fun i=>∀ k,k < i→fc (n.sync.getD k [])=true∧oS n k) (fun i hi inv J hJ next=>?_) 0 (Nat.zero_le _) (fun k hk=>absurd hk (by omega))
  rw [ze]
  dsimp only
  simp (disch:=first | assumption | omega) only [go_sem]
  refine eU (fun cJ=>?_) (fun wS=>by rw [E5 ⟨h1,h2,h3,fun k hk=>inv k (by omega)⟩])
  have Rn:i < 3:=by omega
  have s8:=Sx s7 i
  simp (disch:=first | assumption | omega) only [go_sem]
  refine yg (fun hm=>?_) (fun h=>te fun o=>h (o.link i Rn).1)
  have go:oS n i→J 0 (gE n ((i:Int)+1))=some (.bool (mh n),[.undef]):=fun hb=>next (by omega) fun k hk=>by
      by_cases e:k=i
      · subst e; exact ⟨hm,hb⟩
      · exact inv k (by omega)
  have no:¬oS n i→(some ((.bool false,[.undef]):Rz))=some (.bool (mh n),[.undef]):=fun h=>te fun o=>h (o.link i Rn).2
  have eJ:U.ar .add .i64 (i:Int) 1=(i:Int)+1:=Rj (by omega) (by omega)
  rw [eJ]
  generalize J 0 (gE n ((i:Int)+1))=z at go ⊢
  unfold oS at go no
  cases hc:n.conn.getD i false<;>cases hk:n.bp.getD i false<;>cases hu:n.up<;>by_cases hs:0 < ((n.sync.getD i []).length:Int)<;>by_cases NY:(i:Int)=n.id<;>simp only [hc,hk,hu,hs,NY,not_true_eq_false,not_false_eq_true,false_and,and_false,and_true,true_and,forall_const,Bool.false_eq_true,false_implies,imp_self,true_implies,and_self] at go no<;>simp (disch:=first | assumption | omega) only [go_sem,hc,hk,hu]<;>first | exact no | exact go
@[go_sem] theorem Sy (qx:Int) (qy:Bool) (qz:Bool) (tP:Nat) (kt:List Int) (qA:Nat) (gV:List Int) (qB:Nat) (gW:List (List Int)) (jM:Bool) (jN:Bool) (jO:Bool) (jP:Int) (qC:Nat) (gX:List UInt8) (qD:Nat) (gY:List UInt8) (yn:Nat) (nQ:List Bool) (yo:Nat) (nR:List (List Int)) (yp:Nat) (nT:List Bool) (yq:Nat) (nU:List Int) (e0:tP=kt.length) (e1:qA=gV.length) (e2:qB=gW.length) (e3:qC=gX.length) (e4:qD=gY.length) (e5:yn=nQ.length) (e6:yo=nR.length) (e7:yp=nT.length) (e8:yq=nU.length) (q0:ch (⟨qx,qy,qz,kt,(⟨gV,gW,jM,jN,jO,jP⟩:aH),(⟨gX,gY⟩:aG),nQ,nR,nT,nU⟩:ai)) (t:bO Rz):bc 67 [.agg [.int .i64 qx,.bool qy,.bool qz,.sl (some true) 1 tP (ints kt),.sl (some true) 1 qA (ints gV),.sl (some true) 1 qB (rows (some true) gW),.bool jM,.bool jN,.bool jO,.int .i64 jP,.sl (some true) 1 qC (bytes gX),.sl (some true) 1 qD (bytes gY),.sl (some true) 1 yn (aO nQ),.sl (some true) 1 yo (rows (some true) nR),.sl (some true) 1 yp (aO nT),.sl (some true) 1 yq (ints nU)]] t=feed t [.bool (mh (⟨qx,qy,qz,kt,(⟨gV,gW,jM,jN,jO,jP⟩:aH),(⟨gX,gY⟩:aG),nQ,nR,nT,nU⟩:ai))]:=by
  subst e0
  subst e1
  subst e2
  subst e3
  subst e4
  subst e5
  subst e6
  subst e7
  subst e8
  exact bZ (r:=.bool (mh (⟨qx,qy,qz,kt,(⟨gV,gW,jM,jN,jO,jP⟩:aH),(⟨gX,gY⟩:aG),nQ,nR,nT,nU⟩:ai))) (s:=.bool) (ss:=[.undef]) (DL (⟨qx,qy,qz,kt,(⟨gV,gW,jM,jN,jO,jP⟩:aH),(⟨gX,gY⟩:aG),nQ,nR,nT,nU⟩:ai) q0) (by kernel_rfl) (by simp only [ax,bH,bj,bI,bJ,aj,aq,Bool.and_self]) (by simp only [aj,aR,ax,aq,Bool.and_self]) (by first | rfl | simp only [aw,bg,bf,bE,bF,bh,bG,Bool.and_self]) (by first | rfl | simp only [List.all_cons,List.all_nil,aw,Bool.and_self]) t
theorem wG (n:ai) (q0:ch n):Cm 38 [.agg (af (some true) n)] (.bool (dE n),[.undef]):=by
  have ok:=q0
  have s1:=ok.image
  have s2:=ok.conn
  have s3:=ok.bp
  have s4:=ok.wait
  have s5:=ok.sync.1
  have s6:=ok.mt
  have s7:=ok.sync
  have s8:=q0.dr
  have s9:=Ct n.dr
  refine Cm.step Gn [.undef] fun J hJ=>?_
  rw [Gp]
  simp (disch:=first | assumption | omega) only [go_sem]
  refine eU (fun h1=>?_) (fun h=>dk fun o=>h o.id)
  simp (disch:=first | assumption | omega) only [go_sem]
  refine yg (fun h2=>?_) (fun h=>dk fun o=>h o.image)
  simp (disch:=first | assumption | omega) only [go_sem]
  refine yg (fun h3=>?_) (fun h=>dk fun o=>h o.mt)
  simp (disch:=first | assumption | omega) only [go_sem]
  refine yg (fun h4=>?_) (fun h=>dk fun o=>h (E5 ⟨o.conn,o.sync,o.bp,fun k hk=>⟨o.marks k (by have:=o.sync; omega),o.link k hk⟩⟩))
  have h4:=Ql h4
  have h5:=h4.sync
  refine VG (fun h7 h8=>?_) (fun h=>dk fun o=>h (fun hp=>⟨(o.eR hp).1,decide_eq_false (o.eR hp).2⟩) fun hu=>decide_eq_false (o.down (by rw [hu]; simp)))
  have h7:n.eR=true→n.up=true∧¬n.id=2:=fun hp=>⟨(h7 hp).1,of_decide_eq_false (h7 hp).2⟩
  have h8:¬n.up=true→¬0 < (n.wait.length:Int):=fun hu=>of_decide_eq_false (h8 (by simpa using hu))
  refine hJ _ _ ?_
  refine WP.up (H:=fun i=>jL n i) n.wait.length (fun i=>∀ k,k < i→L2 n.wait k) (fun i hi inv J _ next=>?_) 0 (Nat.zero_le _) (fun k hk=>absurd hk (by omega))
  rw [AT]
  simp (disch:=first | assumption | omega) only [go_sem]
  refine eU (fun cJ=>?_) (fun wS=>?_)
  · simp (disch:=first | assumption | omega) only [go_sem]
    refine eU (fun ha=>?_) (fun h=>dk fun o=>h (o.wait i (by omega)).1)
    simp (disch:=first | assumption | omega) only [go_sem]
    have go:(0 < (i:Int)→¬n.wait.getD i 0≤n.wait.getD (i - 1) 0)→J 0 (jL n ((i:Int)+1))=some (.bool (dE n),[.undef]):=fun hb=>next (by omega) fun k hk=>by
      by_cases e:k=i
      · subst e; exact ⟨ha,hb⟩
      · exact inv k (by omega)
    refine eU (fun oa=>?_) (fun hz=>?_)
    · have e1:((i:Int) - 1).toNat=i - 1:=by omega
      simp (disch:=first | assumption | omega) only [go_sem,e1]
      exact eU (fun h=>dk fun o=>(o.wait i (by omega)).2 oa h) (fun h=>go fun _=>h)
    · exact go fun h=>absurd h hz
  · have yes:(aD n.dr).2.2=true→j4 (aD n.dr).1 n.mt=true→oT n:=fun a b=>⟨h1,h2,h3,h4.conn,h4.sync,fun k hk=>(h4.link k (by omega)).1,h4.bp,h7,h8,a,b,fun k hk=>(h4.link k hk).2,fun k hk=>inv k (by omega)⟩
    simp (disch:=first | assumption | omega) only [go_sem]
    refine yg (fun h9=>?_) (fun h=>dk fun o=>h o.slot)
    simp (disch:=first | assumption | omega) only [go_sem]
    cases kQ:j4 (aD n.dr).1 n.mt with
    | true=>exact E4 (yes h9 kQ)
    | false=>exact dk fun o=>by have:=o.same; rw [kQ] at this; simp at this
@[go_sem] theorem SY (qx:Int) (qy:Bool) (qz:Bool) (tP:Nat) (kt:List Int) (qA:Nat) (gV:List Int) (qB:Nat) (gW:List (List Int)) (jM:Bool) (jN:Bool) (jO:Bool) (jP:Int) (qC:Nat) (gX:List UInt8) (qD:Nat) (gY:List UInt8) (yn:Nat) (nQ:List Bool) (yo:Nat) (nR:List (List Int)) (yp:Nat) (nT:List Bool) (yq:Nat) (nU:List Int) (e0:tP=kt.length) (e1:qA=gV.length) (e2:qB=gW.length) (e3:qC=gX.length) (e4:qD=gY.length) (e5:yn=nQ.length) (e6:yo=nR.length) (e7:yp=nT.length) (e8:yq=nU.length) (q0:ch (⟨qx,qy,qz,kt,(⟨gV,gW,jM,jN,jO,jP⟩:aH),(⟨gX,gY⟩:aG),nQ,nR,nT,nU⟩:ai)) (t:bO Rz):bc 38 [.agg [.int .i64 qx,.bool qy,.bool qz,.sl (some true) 1 tP (ints kt),.sl (some true) 1 qA (ints gV),.sl (some true) 1 qB (rows (some true) gW),.bool jM,.bool jN,.bool jO,.int .i64 jP,.sl (some true) 1 qC (bytes gX),.sl (some true) 1 qD (bytes gY),.sl (some true) 1 yn (aO nQ),.sl (some true) 1 yo (rows (some true) nR),.sl (some true) 1 yp (aO nT),.sl (some true) 1 yq (ints nU)]] t=feed t [.bool (dE (⟨qx,qy,qz,kt,(⟨gV,gW,jM,jN,jO,jP⟩:aH),(⟨gX,gY⟩:aG),nQ,nR,nT,nU⟩:ai))]:=by
  subst e0
  subst e1
  subst e2
  subst e3
  subst e4
  subst e5
  subst e6
  subst e7
  subst e8
  exact bZ (r:=.bool (dE (⟨qx,qy,qz,kt,(⟨gV,gW,jM,jN,jO,jP⟩:aH),(⟨gX,gY⟩:aG),nQ,nR,nT,nU⟩:ai))) (s:=.bool) (ss:=[.undef]) (wG (⟨qx,qy,qz,kt,(⟨gV,gW,jM,jN,jO,jP⟩:aH),(⟨gX,gY⟩:aG),nQ,nR,nT,nU⟩:ai) q0) (by kernel_rfl) (by simp only [ax,bH,bj,bI,bJ,aj,aq,Bool.and_self]) (by simp only [aj,aR,ax,aq,Bool.and_self]) (by first | rfl | simp only [aw,bg,bf,bE,bF,bh,bG,Bool.and_self]) (by first | rfl | simp only [List.all_cons,List.all_nil,aw,Bool.and_self]) t
theorem aaz {n:ai} (h:oT n) (hp:n.eR=true):0≤j3 n.id∧j3 n.id≤1:=by
  have h1:=h.id
  have h2:=(h.eR hp).2
  unfold j3
  split<;>omega
noncomputable def YO (n:ai):Bool:=dE n&&(n.eR&&(n.conn.getD (j3 n.id).toNat false||n.mt.held))
end Go.Proofs.Ytockoilcnmljiaa
namespace Go.Proofs.Ytockoilcnmljiaa
set_option maxRecDepth 100000
section
variable {a b:Bool} {o:List D} {X:Option Rz}
theorem jc (h:a=true→X=some (.bool b,o)):br a X (some (.bool false,o))=some (.bool (a&&b),o):=by cases a with | true=>exact h rfl | false=>rfl
theorem mi (h:a=false→X=some (.bool b,o)):br a (some (.bool false,o)) X=some (.bool (!a&&b),o):=by cases a with | true=>rfl | false=>exact h rfl
theorem VH (h:a=false→X=some (.bool b,o)):br a (some (.bool true,o)) X=some (.bool (a||b),o):=by cases a with | true=>rfl | false=>exact h rfl
end
def y8 (g:Option Bool) (x:aH):List D:=cd g x
@[go_sem] theorem aaA (g:Option Bool) (Of:Nat) (xa:List Int) (E6:Nat) (xb:List (List Int)) (xf:Bool) (xo:Bool) (xh:Bool) (xl:Int) (VI:Of=xa.length) (Og:E6=xb.length):D.agg [.sl g 1 Of (ints xa),.sl g 1 E6 (rows g xb),.bool xf,.bool xo,.bool xh,.int .i64 xl]=.agg (y8 g ⟨xa,xb,xf,xo,xh,xl⟩):=by
  subst VI
  subst Og
  rfl
@[go_sem] theorem aaB (x:aH):cM true (y8 none x)=y8 (some true) x:=by
  unfold y8
  first | rfl | simp only [go_sem,gI,cM,gh,gN,gH,jz]
def qE (g:Option Bool) (x:aG):List D:=dO g x
@[go_sem] theorem ZO (g:Option Bool) (Of:Nat) (xa:List UInt8) (E6:Nat) (xb:List UInt8) (VI:Of=xa.length) (Og:E6=xb.length):D.agg [.sl g 1 Of (bytes xa),.sl g 1 E6 (bytes xb)]=.agg (qE g ⟨xa,xb⟩):=by
  subst VI
  subst Og
  rfl
@[go_sem] theorem ZP (x:aG):cM true (qE none x)=qE (some true) x:=by
  unfold qE
  first | rfl | simp only [go_sem,gI,cM,gh,gN,gH,jz]
def gp (g:Option Bool) (x:ai):List D:=af g x
@[go_sem] theorem aaC (g:Option Bool) (xi:Int) (xu:Bool) (xp:Bool) (VJ:Nat) (VK:List Int) (VL:Nat) (VM:List Int) (VN:Nat) (VO:List (List Int)) (YP:Bool) (YQ:Bool) (YR:Bool) (YS:Int) (VP:Nat) (VQ:List UInt8) (VR:Nat) (VS:List UInt8) (YT:Nat) (xc:List Bool) (YU:Nat) (xy:List (List Int)) (YV:Nat) (xk:List Bool) (E7:Nat) (xw:List Int) (ZQ:VJ=VK.length) (ZR:VL=VM.length) (ZS:VN=VO.length) (ZT:VP=VQ.length) (ZU:VR=VS.length) (xc1:YT=xc.length) (xy1:YU=xy.length) (xk1:YV=xk.length) (Oh:E7=xw.length):D.agg [.int .i64 xi,.bool xu,.bool xp,.sl g 1 VJ (ints VK),.sl g 1 VL (ints VM),.sl g 1 VN (rows g VO),.bool YP,.bool YQ,.bool YR,.int .i64 YS,.sl g 1 VP (bytes VQ),.sl g 1 VR (bytes VS),.sl g 1 YT (aO xc),.sl g 1 YU (rows g xy),.sl g 1 YV (aO xk),.sl g 1 E7 (ints xw)]=.agg (gp g ⟨xi,xu,xp,VK,⟨VM,VO,YP,YQ,YR,YS⟩,⟨VQ,VS⟩,xc,xy,xk,xw⟩):=by
  subst ZQ
  subst ZR
  subst ZS
  subst ZT
  subst ZU
  subst xc1
  subst xy1
  subst xk1
  subst Oh
  rfl
@[go_sem] theorem aaD (x:ai):cM true (gp none x)=gp (some true) x:=by
  unfold gp
  first | rfl | simp only [go_sem,gI,cM,gh,gN,gH,jz]
def Xz (g:Option Bool) (x:eH):List D:=dJ g x
@[go_sem] theorem aaE (g:Option Bool) (xf:Int) (xt:Int) (E6:Nat) (xb:List UInt8) (Og:E6=xb.length):D.agg [.int .i64 xf,.int .i64 xt,.sl g 1 E6 (bytes xb)]=.agg (Xz g ⟨xf,xt,xb⟩):=by
  subst Og
  rfl
def Cu (g:Option Bool) (x:kp):List D:=uz g x
@[go_sem] theorem ZV (g:Option Bool) (Oi:Nat) (xn:List ai) (E7:Nat) (xw:List eH) (Oj:Nat) (xl:List mC) (Ok:Nat) (xs:List Int) (xg:Int) (VT:Oi=xn.length) (Oh:E7=xw.length) (VU:Oj=xl.length) (VV:Ok=xs.length):D.agg [.sl g 16 Oi (aE (af g) xn),.sl g 3 E7 (aE (dJ g) xw),.sl g 2 Oj (aE (iG g) xl),.sl g 1 Ok (ints xs),.int .i64 xg]=.agg (Cu g ⟨xn,xw,xl,xs,xg⟩):=by
  subst VT
  subst Oh
  subst VU
  subst VV
  rfl
@[go_sem] theorem ZW (g:Option Bool) (Oi:Nat) (xn:List ai) (E7:Nat) (xw:List eH) (Oj:Nat) (xl:List mC) (Ok:Nat) (xs:List Int) (xg:Int) (VT:Oi=xn.length) (Oh:E7=xw.length) (VU:Oj=xl.length) (VV:Ok=xs.length):D.aJ [.sl g 16 Oi (aE (af g) xn),.sl g 3 E7 (aE (dJ g) xw),.sl g 2 Oj (aE (iG g) xl),.sl g 1 Ok (ints xs),.int .i64 xg]=.aJ (Cu g ⟨xn,xw,xl,xs,xg⟩):=by
  subst VT
  subst Oh
  subst VU
  subst VV
  rfl
def ZX (g:Option Bool) (x:sc):List D:=CR g x
@[go_sem] theorem acu (g:Option Bool) (xk:Int) (xc:Int) (xv:Int) (xw:Int) (YW:Nat) (xg:List Int) (xg1:YW=xg.length):D.agg [.int .i64 xk,.int .i64 xc,.int .i64 xv,.int .i64 xw,.sl g 1 YW (ints xg)]=.agg (ZX g ⟨xk,xc,xv,xw,xg⟩):=by
  subst xg1
  rfl
def XA (g:Option Bool) (x:vD):List D:=yP g x
@[go_sem] theorem aaF (g:Option Bool) (xf:Int) (xt:Int) (YX:Int) (YY:Int) (YZ:Int) (Y0:Int) (VW:Nat) (VX:List Int) (ZY:VW=VX.length):D.agg [.int .i64 xf,.int .i64 xt,.int .i64 YX,.int .i64 YY,.int .i64 YZ,.int .i64 Y0,.sl g 1 VW (ints VX)]=.agg (XA g ⟨xf,xt,⟨YX,YY,YZ,Y0,VX⟩⟩):=by
  subst ZY
  rfl
def GK (g:Option Bool) (x:oC):List D:=yQ g x
@[go_sem] theorem aaG (g:Option Bool) (xk:Int) (xa:Int) (xb:Int):D.agg [.int .i64 xk,.int .i64 xa,.int .i64 xb]=.agg (GK g ⟨xk,xa,xb⟩):=by
  rfl
@[go_sem] theorem aaH (x:oC):cM true (GK none x)=GK (some true) x:=by
  unfold GK
  first | rfl | simp only [go_sem,gI,cM,gh,gN,gH,jz]
section
variable (t:bO Rz)
@[go_sem] theorem ZZ (g:Bool) (n:ai) (h:ch n):bc 9 [.agg (gp (some g) n)] t=feed t [enc .node n]:=PV t g n h
@[go_sem] theorem Z0 (g h:Bool) (n:ai) (ok:ch n):bc 11 [.agg (gp (some g) n),.agg (gp (some h) n)] t=feed t [.bool true]:=IE t g h n ok
@[go_sem] theorem Z1 (g:Bool) (n:ai) (left:Int) (h0:0≤left) (h1:left≤1048576) (ln:sy n):bc 7 [.agg (gp (some g) n),.int .i64 left] t=feed t [.int .i64 (fj n left)]:=PW t g n left h0 h1 ln
@[go_sem] theorem Y1 (g h:Bool) (w:kp) (ok:Dh w):bc 18 [.agg (Cu (some g) w),.agg (Cu (some h) w)] t=feed t [.bool true]:=N5 t g h w ok
end
end Go.Proofs.Ytockoilcnmljiaa
namespace Go.Proofs.Ytockoilcnmljiaa
set_option maxRecDepth 100000
section
variable (pr:ez) (cv:Cv Rz) (J:Nat→St→Option Rz)
theorem Gq:Told cfg Try.prog 32 Try.f32:=⟨by kernel_rfl,Try.func32,by kernel_rfl⟩
theorem Gr (x0:ai) (x1:ai):bn pr cv J 32 Try.f32 [(.agg (af (some true) x0)),(.agg (af (some true) x1))]=
    let y1:Option (D × List D):=(some ((.bool false),[.undef,.undef]))
    (cv 42 [(.agg (af (some true) x0))] (.bool (fun cm=>(.done (br cm (cv 42 [(.agg (af (some true) x1))] (.bool (fun jw=>(.done (br jw (br (br (pr.eq x0.id 2) false true) (cv 62 [(.int .i64 x0.id)] (.int (fun uL=>(.done (some ((.bool (pr.eq x1.id uL)),[.undef,.undef])))))) y1) y1))))) y1))))):=by kernel_rfl
theorem DM:Told cfg Try.prog 26 Try.f26:=⟨by kernel_rfl,Try.func26,by kernel_rfl⟩
theorem DN (x0:ai) (x1:ai):bn pr cv J 26 Try.f26 [(.agg (af (some true) x0)),(.agg (af (some true) x1))]=
    let y1:Option (D × List D):=(some ((.bool false),[.undef,.undef]))
    (cv 38 [(.agg (af (some true) x0))] (.bool (fun cm=>(.done (br cm (cv 38 [(.agg (af (some true) x1))] (.bool (fun jw=>(.done (br jw (cv 60 [(.int .i64 x0.id)] (.int (fun uL=>(.done (some ((.bool (pr.eq uL x1.id)),[.undef,.undef])))))) y1))))) y1))))):=by kernel_rfl
theorem DO:Told cfg Try.prog 10 Try.f10:=⟨by kernel_rfl,Try.func10,by kernel_rfl⟩
theorem DP (x0:ai) (x1:ai):bn pr cv J 10 Try.f10 [(.agg (af (some true) x0)),(.agg (af (some true) x1))]=
    let y1:Option (D × List D):=(some ((.bool false),[.undef,.undef]))
    (cv 32 [(.agg (af (some true) x0)),(.agg (af (some true) x1))] (.bool (fun cm=>(.done (br cm (br x0.up (br x0.mt.dQ (br (br x0.mt.bQ false true) (br (br x0.mt.held false true) (br (pr.cb x1.id x0.conn.length) (br (br (pr.fh (aO x0.conn) (pr.idx 0 x1.id 1)) true false) (br (br (pr.dI (aO x0.conn) (pr.idx 0 x1.id 1)) false true) (some ((.bool (br x1.eR false true)),[.undef,.undef])) y1) none) none) y1) y1) y1) y1) y1))))):=by kernel_rfl
theorem DQ:Told cfg Try.prog 8 Try.f8:=⟨by kernel_rfl,Try.func8,by kernel_rfl⟩
theorem DR (x0:ai) (x1:ai):bn pr cv J 8 Try.f8 [(.agg (af (some true) x0)),(.agg (af (some true) x1))]=
    let y1:Option (D × List D):=(some ((.bool false),[.undef,.undef]))
    (cv 26 [(.agg (af (some true) x0)),(.agg (af (some true) x1))] (.bool (fun cm=>(.done (br cm (br x0.up (br x0.mt.dQ (br (br x0.mt.bQ false true) (br (br x0.mt.held false true) (br (pr.cb x1.id x0.conn.length) (br (br (pr.fh (aO x0.conn) (pr.idx 0 x1.id 1)) true false) (br (br (pr.dI (aO x0.conn) (pr.idx 0 x1.id 1)) false true) (some ((.bool (br x1.eR false true)),[.undef,.undef])) y1) none) none) y1) y1) y1) y1) y1))))):=by kernel_rfl
theorem DS:Told cfg Try.prog 13 Try.f13:=⟨by kernel_rfl,Try.func13,by kernel_rfl⟩
theorem DT (x0:ai) (x1:ai) (x2:Bool):bn pr cv J 13 Try.f13 [(.agg (af (some true) x0)),(.agg (af (some true) x1)),(.bool x2)]=
    let y1:Option (D × List D):=(some ((.bool false),[.undef,.undef,.undef]))
    (cv 32 [(.agg (af (some true) x0)),(.agg (af (some true) x1))] (.bool (fun cm=>(.done (br (br cm false true) y1 (br (br x0.up false true) y1 (br (br x0.mt.dQ false true) y1 (br x0.mt.bQ y1 (br x0.eR y1 (br x0.mt.held (some ((.bool true),[.undef,.undef,.undef])) (br (pr.cb x1.id x0.conn.length) (br (br (pr.fh (aO x0.conn) (pr.idx 0 x1.id 1)) true false) (br (pr.dI (aO x0.conn) (pr.idx 0 x1.id 1)) (br (pr.cb x0.id x1.conn.length) (br (br (pr.fh (aO x1.conn) (pr.idx 0 x0.id 1)) true false) (br (pr.dI (aO x1.conn) (pr.idx 0 x0.id 1)) (br (pr.cb x1.id x0.bp.length) (br (br (pr.fh (aO x0.bp) (pr.idx 0 x1.id 1)) true false) (br (br (pr.dI (aO x0.bp) (pr.idx 0 x1.id 1)) false true) (br (pr.cb x0.id x1.bp.length) (br (br (pr.fh (aO x1.bp) (pr.idx 0 x0.id 1)) true false) (br (br (pr.dI (aO x1.bp) (pr.idx 0 x0.id 1)) false true) (br (br x1.eR false true) (br (pr.eq x0.mt.last x1.mt.last) (some ((.bool x2),[.undef,.undef,.undef])) y1) y1) y1) none) none) y1) none) none) y1) none) none) y1) none) none))))))))))):=by kernel_rfl
theorem DU:Told cfg Try.prog 12 Try.f12:=⟨by kernel_rfl,Try.func12,by kernel_rfl⟩
theorem DV (x0:ai) (x1:ai) (x2:Bool):bn pr cv J 12 Try.f12 [(.agg (af (some true) x0)),(.agg (af (some true) x1)),(.bool x2)]=
    let y1:Option (D × List D):=(some ((.bool false),[.undef,.undef,.undef]))
    (cv 26 [(.agg (af (some true) x0)),(.agg (af (some true) x1))] (.bool (fun cm=>(.done (br (br cm false true) y1 (br (br x0.up false true) y1 (br (br x0.mt.dQ false true) y1 (br x0.mt.bQ y1 (br x0.eR y1 (br x0.mt.held (some ((.bool true),[.undef,.undef,.undef])) (br (pr.cb x1.id x0.conn.length) (br (br (pr.fh (aO x0.conn) (pr.idx 0 x1.id 1)) true false) (br (pr.dI (aO x0.conn) (pr.idx 0 x1.id 1)) (br (pr.cb x0.id x1.conn.length) (br (br (pr.fh (aO x1.conn) (pr.idx 0 x0.id 1)) true false) (br (pr.dI (aO x1.conn) (pr.idx 0 x0.id 1)) (br (pr.cb x1.id x0.bp.length) (br (br (pr.fh (aO x0.bp) (pr.idx 0 x1.id 1)) true false) (br (br (pr.dI (aO x0.bp) (pr.idx 0 x1.id 1)) false true) (br (pr.cb x0.id x1.bp.length) (br (br (pr.fh (aO x1.bp) (pr.idx 0 x0.id 1)) true false) (br (br (pr.dI (aO x1.bp) (pr.idx 0 x0.id 1)) false true) (br (br x1.eR false true) (br (pr.eq x0.mt.last x1.mt.last) (some ((.bool x2),[.undef,.undef,.undef])) y1) y1) y1) none) none) y1) none) none) y1) none) none) y1) none) none))))))))))):=by kernel_rfl
end
@[go_sem] theorem SZ (n:ai) (q0:ch n) (t:bO Rz):bc 42 [.agg (gp (some true) n)] t=feed t [.bool (dE n)]:=by
  exact bZ (r:=.bool (dE n)) (s:=.bool) (ss:=[.undef]) (wF n q0) (by kernel_rfl) (by simp only [ax,bH,bj,bI,bJ,aj,aq,Bool.and_self]) (by simp only [aj,aR,ax,aq,Bool.and_self]) (by first | rfl | simp only [aw,bg,bf,bE,bF,bh,bG,Bool.and_self]) (by first | rfl | simp only [List.all_cons,List.all_nil,aw,Bool.and_self]) t
@[go_sem] theorem S5 (n:ai) (q0:ch n) (t:bO Rz):bc 38 [.agg (gp (some true) n)] t=feed t [.bool (dE n)]:=by
  exact bZ (r:=.bool (dE n)) (s:=.bool) (ss:=[.undef]) (wG n q0) (by kernel_rfl) (by simp only [ax,bH,bj,bI,bJ,aj,aq,Bool.and_self]) (by simp only [aj,aR,ax,aq,Bool.and_self]) (by first | rfl | simp only [aw,bg,bf,bE,bF,bh,bG,Bool.and_self]) (by first | rfl | simp only [List.all_cons,List.all_nil,aw,Bool.and_self]) t
@[go_sem] theorem Sz (s:aG) (q0:eS s) (t:bO Rz):bc 76 [.agg (qE (some true) s)] t=feed t [enc .mt ((aD s).1),.int .i64 ((aD s).2.1),.bool ((aD s).2.2)]:=by
  exact bZ (r:=.aQ [enc .mt ((aD s).1),.int .i64 ((aD s).2.1),.bool ((aD s).2.2)]) (s:=.aQ [.ty .mt,.int .i64,.bool]) (ss:=[.undef]) (uZ s q0) (by kernel_rfl) (by simp only [ax,bH,bj,bI,bJ,aj,aq,Bool.and_self]) (by simp only [aj,aR,ax,aq,Bool.and_self]) (by first | rfl | simp only [aw,bg,bf,bE,bF,bh,bG,Bool.and_self]) (by first | rfl | simp only [List.all_cons,List.all_nil,aw,Bool.and_self]) t
@[go_sem] theorem SA (s:aG) (q0:eS s) (t:bO Rz):bc 68 [.agg (qE (some true) s)] t=feed t [enc .mt ((aD s).1),.int .i64 ((aD s).2.1),.bool ((aD s).2.2)]:=by
  exact bZ (r:=.aQ [enc .mt ((aD s).1),.int .i64 ((aD s).2.1),.bool ((aD s).2.2)]) (s:=.aQ [.ty .mt,.int .i64,.bool]) (ss:=[.undef]) (u3 s q0) (by kernel_rfl) (by simp only [ax,bH,bj,bI,bJ,aj,aq,Bool.and_self]) (by simp only [aj,aR,ax,aq,Bool.and_self]) (by first | rfl | simp only [aw,bg,bf,bE,bF,bh,bG,Bool.and_self]) (by first | rfl | simp only [List.all_cons,List.all_nil,aw,Bool.and_self]) t
@[go_sem] theorem S6 (s:aG) (q0:eS s) (t:bO Rz):bc 106 [.agg (qE (some true) s)] t=feed t [enc .mt ((((aD s).1,(aD s).2.1,mL s)).1),.int .i64 ((((aD s).1,(aD s).2.1,mL s)).2.1),.bool ((((aD s).1,(aD s).2.1,mL s)).2.2)]:=by
  exact bZ (r:=.aQ [enc .mt ((((aD s).1,(aD s).2.1,mL s)).1),.int .i64 ((((aD s).1,(aD s).2.1,mL s)).2.1),.bool ((((aD s).1,(aD s).2.1,mL s)).2.2)]) (s:=.aQ [.ty .mt,.int .i64,.bool]) (ss:=[.undef]) (wE s q0) (by kernel_rfl) (by simp only [ax,bH,bj,bI,bJ,aj,aq,Bool.and_self]) (by simp only [aj,aR,ax,aq,Bool.and_self]) (by first | rfl | simp only [aw,bg,bf,bE,bF,bh,bG,Bool.and_self]) (by first | rfl | simp only [List.all_cons,List.all_nil,aw,Bool.and_self]) t
@[go_sem] theorem SB (s:aG) (q0:eS s) (t:bO Rz):bc 96 [.agg (qE (some true) s)] t=feed t [.int .i64 (qw s)]:=by
  exact bZ (r:=.int .i64 (qw s)) (s:=.int .i64) (ss:=[.undef]) (uY s q0) (by kernel_rfl) (by simp only [ax,bH,bj,bI,bJ,aj,aq,Bool.and_self]) (by simp only [aj,aR,ax,aq,Bool.and_self]) (by first | rfl | simp only [aw,bg,bf,bE,bF,bh,bG,Bool.and_self]) (by first | rfl | simp only [List.all_cons,List.all_nil,aw,Bool.and_self]) t
@[go_sem] theorem Qm (m:aH) (n:Nat) (q0:cO m) (q1:(cg m).length≤151) (q2:n < 4611686018427387904) (t:bO Rz):bc 122 [.agg (y8 (some true) m),.int .i64 (n:Int)] t=feed t [enc .B (lF m n)]:=by
  exact bZ (r:=enc .B (lF m n)) (s:=.ty .B) (ss:=[.undef,.undef]) (tb m n q0 q1 q2) (by kernel_rfl) (by simp only [ax,bH,bj,bI,bJ,aj,aq,Bool.and_self]) (by simp only [aj,aR,ax,aq,Bool.and_self]) (by first | rfl | simp only [aw,bg,bf,bE,bF,bh,bG,Bool.and_self]) (by first | rfl | simp only [List.all_cons,List.all_nil,aw,Bool.and_self]) t
@[go_sem] theorem S7 (m:aH) (n:Nat) (q0:cO m) (q1:(cg m).length≤151) (q2:n < 4611686018427387904) (t:bO Rz):bc 111 [.agg (y8 (some true) m),.int .i64 (n:Int)] t=feed t [enc .B (lF m n)]:=by
  exact bZ (r:=enc .B (lF m n)) (s:=.ty .B) (ss:=[.undef,.undef]) (wD m n q0 q1 q2) (by kernel_rfl) (by simp only [ax,bH,bj,bI,bJ,aj,aq,Bool.and_self]) (by simp only [aj,aR,ax,aq,Bool.and_self]) (by first | rfl | simp only [aw,bg,bf,bE,bF,bh,bG,Bool.and_self]) (by first | rfl | simp only [List.all_cons,List.all_nil,aw,Bool.and_self]) t
noncomputable def nk (x y:ai):Bool:=dE x&&(dE y&&(!decide (x.id=2)&&decide (y.id=j3 x.id)))
structure Z2 (x y:ai):Prop where
  ox:oT x
  oy:oT y
  xl:0≤x.id
  xh:x.id≤1
  yl:0≤y.id
  yh:y.id≤1
  adH:y.id=j3 x.id
theorem y9 {x y:ai} (h:nk x y=true):Z2 x y:=by
  unfold nk at h
  simp only [Bool.and_eq_true,Bool.not_eq_true',decide_eq_true_eq,decide_eq_false_iff_not] at h
  obtain ⟨h1,h2,h3,h4⟩:=h
  have k1:=tO h1
  have k2:=tO h2
  have i1:=k1.id
  have i2:=k2.id
  have h5:=h4
  unfold j3 at h5
  exact ⟨k1,k2,i1.1,by omega,i2.1,by split at h5<;>omega,h4⟩
theorem Gs (x:ai) (y:ai) (q0:ch x) (q1:ch y):Cm 32 [.agg (af (some true) x),.agg (af (some true) y)] (.bool (nk x y),[.undef,.undef]):=by
  refine Cm.step Gq _ fun J _=>?_
  rw [Gr]
  unfold nk
  simp (disch:=first | assumption | omega) only [go_sem]
  refine jc fun h1=>?_
  simp (disch:=first | assumption | omega) only [go_sem]
  refine jc fun h2=>?_
  simp (disch:=first | assumption | omega) only [go_sem]
  refine mi fun h3=>?_
  simp (disch:=first | assumption | omega) only [go_sem]
@[go_sem] theorem S8 (x:ai) (y:ai) (q0:ch x) (q1:ch y) (t:bO Rz):bc 32 [.agg (gp (some true) x),.agg (gp (some true) y)] t=feed t [.bool (nk x y)]:=by
  exact bZ (r:=.bool (nk x y)) (s:=.bool) (ss:=[.undef,.undef]) (Gs x y q0 q1) (by kernel_rfl) (by simp only [ax,bH,bj,bI,bJ,aj,aq,Bool.and_self]) (by simp only [aj,aR,ax,aq,Bool.and_self]) (by first | rfl | simp only [aw,bg,bf,bE,bF,bh,bG,Bool.and_self]) (by first | rfl | simp only [List.all_cons,List.all_nil,aw,Bool.and_self]) t
theorem DW (x:ai) (y:ai) (q0:ch x) (q1:ch y):Cm 26 [.agg (af (some true) x),.agg (af (some true) y)] (.bool (nk x y),[.undef,.undef]):=by
  refine Cm.step DM _ fun J _=>?_
  rw [DN]
  unfold nk
  simp (disch:=first | assumption | omega) only [go_sem]
  refine jc fun h1=>?_
  simp (disch:=first | assumption | omega) only [go_sem]
  refine jc fun h2=>?_
  simp (disch:=first | assumption | omega) only [go_sem]
  have i1:=(tO h1).id
  have i2:=(tO h2).id
  unfold j3
  by_cases h:x.id=2
  · rw [h]; simp; omega
  · simp [h,eq_comm]
@[go_sem] theorem SC (x:ai) (y:ai) (q0:ch x) (q1:ch y) (t:bO Rz):bc 26 [.agg (gp (some true) x),.agg (gp (some true) y)] t=feed t [.bool (nk x y)]:=by
  exact bZ (r:=.bool (nk x y)) (s:=.bool) (ss:=[.undef,.undef]) (DW x y q0 q1) (by kernel_rfl) (by simp only [ax,bH,bj,bI,bJ,aj,aq,Bool.and_self]) (by simp only [aj,aR,ax,aq,Bool.and_self]) (by first | rfl | simp only [aw,bg,bf,bE,bF,bh,bG,Bool.and_self]) (by first | rfl | simp only [List.all_cons,List.all_nil,aw,Bool.and_self]) t
noncomputable def mj (x y:ai):Bool:=nk x y&&(x.up&&(x.mt.dQ&&(!x.mt.bQ&&(!x.mt.held&&(!x.conn.getD y.id.toNat false&&!y.eR)))))
theorem DX (x:ai) (y:ai) (q0:ch x) (q1:ch y):Cm 10 [.agg (af (some true) x),.agg (af (some true) y)] (.bool (mj x y),[.undef,.undef]):=by
  refine Cm.step DO _ fun J _=>?_
  rw [DP]
  unfold mj
  simp (disch:=first | assumption | omega) only [go_sem]
  refine jc fun h1=>?_
  try simp (disch:=first | assumption | omega) only [go_sem]
  have p:=y9 h1
  have:=p.xl; have:=p.xh; have:=p.yl; have:=p.yh; have:=p.ox.conn
  simp (disch:=first | assumption | omega) only [go_sem]
  refine jc fun _=>?_
  try simp (disch:=first | assumption | omega) only [go_sem]
  refine jc fun _=>?_
  try simp (disch:=first | assumption | omega) only [go_sem]
  refine mi fun _=>?_
  try simp (disch:=first | assumption | omega) only [go_sem]
  refine mi fun _=>?_
  try simp (disch:=first | assumption | omega) only [go_sem]
  exact mi fun _=>rfl
@[go_sem] theorem SD (x:ai) (y:ai) (q0:ch x) (q1:ch y) (t:bO Rz):bc 10 [.agg (gp (some true) x),.agg (gp (some true) y)] t=feed t [.bool (mj x y)]:=by
  exact bZ (r:=.bool (mj x y)) (s:=.bool) (ss:=[.undef,.undef]) (DX x y q0 q1) (by kernel_rfl) (by simp only [ax,bH,bj,bI,bJ,aj,aq,Bool.and_self]) (by simp only [aj,aR,ax,aq,Bool.and_self]) (by first | rfl | simp only [aw,bg,bf,bE,bF,bh,bG,Bool.and_self]) (by first | rfl | simp only [List.all_cons,List.all_nil,aw,Bool.and_self]) t
theorem DY (x:ai) (y:ai) (q0:ch x) (q1:ch y):Cm 8 [.agg (af (some true) x),.agg (af (some true) y)] (.bool (mj x y),[.undef,.undef]):=by
  refine Cm.step DQ _ fun J _=>?_
  rw [DR]
  unfold mj
  simp (disch:=first | assumption | omega) only [go_sem]
  refine jc fun h1=>?_
  try simp (disch:=first | assumption | omega) only [go_sem]
  have p:=y9 h1
  have:=p.xl; have:=p.xh; have:=p.yl; have:=p.yh; have:=p.ox.conn
  simp (disch:=first | assumption | omega) only [go_sem]
  refine jc fun _=>?_
  try simp (disch:=first | assumption | omega) only [go_sem]
  refine jc fun _=>?_
  try simp (disch:=first | assumption | omega) only [go_sem]
  refine mi fun _=>?_
  try simp (disch:=first | assumption | omega) only [go_sem]
  refine mi fun _=>?_
  try simp (disch:=first | assumption | omega) only [go_sem]
  exact mi fun _=>rfl
@[go_sem] theorem SE (x:ai) (y:ai) (q0:ch x) (q1:ch y) (t:bO Rz):bc 8 [.agg (gp (some true) x),.agg (gp (some true) y)] t=feed t [.bool (mj x y)]:=by
  exact bZ (r:=.bool (mj x y)) (s:=.bool) (ss:=[.undef,.undef]) (DY x y q0 q1) (by kernel_rfl) (by simp only [ax,bH,bj,bI,bJ,aj,aq,Bool.and_self]) (by simp only [aj,aR,ax,aq,Bool.and_self]) (by first | rfl | simp only [aw,bg,bf,bE,bF,bh,bG,Bool.and_self]) (by first | rfl | simp only [List.all_cons,List.all_nil,aw,Bool.and_self]) t
noncomputable def mm (x y:ai) (q:Bool):Bool:=nk x y&&(x.up&&(x.mt.dQ&&(!x.mt.bQ&&(!x.eR&&(x.mt.held||(x.conn.getD y.id.toNat false&&(y.conn.getD x.id.toNat false&&(!x.bp.getD y.id.toNat false&&(!y.bp.getD x.id.toNat false&&(!y.eR&&(decide (x.mt.last=y.mt.last)&&q)))))))))))
theorem DZ (x:ai) (y:ai) (q:Bool) (q0:ch x) (q1:ch y):Cm 13 [.agg (af (some true) x),.agg (af (some true) y),.bool q] (.bool (mm x y q),[.undef,.undef,.undef]):=by
  refine Cm.step DS _ fun J _=>?_
  rw [DT]
  unfold mm
  simp (disch:=first | assumption | omega) only [go_sem]
  refine jc fun h1=>?_
  try simp (disch:=first | assumption | omega) only [go_sem]
  have p:=y9 h1
  have:=p.xl; have:=p.xh; have:=p.yl; have:=p.yh; have:=p.ox.conn; have:=p.oy.conn; have:=p.ox.bp; have:=p.oy.bp
  simp (disch:=first | assumption | omega) only [go_sem]
  refine jc fun _=>?_
  try simp (disch:=first | assumption | omega) only [go_sem]
  refine jc fun _=>?_
  try simp (disch:=first | assumption | omega) only [go_sem]
  refine mi fun _=>?_
  try simp (disch:=first | assumption | omega) only [go_sem]
  refine mi fun _=>?_
  try simp (disch:=first | assumption | omega) only [go_sem]
  refine VH fun _=>?_
  try simp (disch:=first | assumption | omega) only [go_sem]
  refine jc fun _=>?_
  try simp (disch:=first | assumption | omega) only [go_sem]
  refine jc fun _=>?_
  try simp (disch:=first | assumption | omega) only [go_sem]
  refine mi fun _=>?_
  try simp (disch:=first | assumption | omega) only [go_sem]
  refine mi fun _=>?_
  try simp (disch:=first | assumption | omega) only [go_sem]
  refine mi fun _=>?_
  try simp (disch:=first | assumption | omega) only [go_sem]
  exact jc fun _=>rfl
@[go_sem] theorem SF (x:ai) (y:ai) (q:Bool) (q0:ch x) (q1:ch y) (t:bO Rz):bc 13 [.agg (gp (some true) x),.agg (gp (some true) y),.bool q] t=feed t [.bool (mm x y q)]:=by
  exact bZ (r:=.bool (mm x y q)) (s:=.bool) (ss:=[.undef,.undef,.undef]) (DZ x y q q0 q1) (by kernel_rfl) (by simp only [ax,bH,bj,bI,bJ,aj,aq,Bool.and_self]) (by simp only [aj,aR,ax,aq,Bool.and_self]) (by first | rfl | simp only [aw,bg,bf,bE,bF,bh,bG,Bool.and_self]) (by first | rfl | simp only [List.all_cons,List.all_nil,aw,Bool.and_self]) t
theorem D0 (x:ai) (y:ai) (q:Bool) (q0:ch x) (q1:ch y):Cm 12 [.agg (af (some true) x),.agg (af (some true) y),.bool q] (.bool (mm x y q),[.undef,.undef,.undef]):=by
  refine Cm.step DU _ fun J _=>?_
  rw [DV]
  unfold mm
  simp (disch:=first | assumption | omega) only [go_sem]
  refine jc fun h1=>?_
  try simp (disch:=first | assumption | omega) only [go_sem]
  have p:=y9 h1
  have:=p.xl; have:=p.xh; have:=p.yl; have:=p.yh; have:=p.ox.conn; have:=p.oy.conn; have:=p.ox.bp; have:=p.oy.bp
  simp (disch:=first | assumption | omega) only [go_sem]
  refine jc fun _=>?_
  try simp (disch:=first | assumption | omega) only [go_sem]
  refine jc fun _=>?_
  try simp (disch:=first | assumption | omega) only [go_sem]
  refine mi fun _=>?_
  try simp (disch:=first | assumption | omega) only [go_sem]
  refine mi fun _=>?_
  try simp (disch:=first | assumption | omega) only [go_sem]
  refine VH fun _=>?_
  try simp (disch:=first | assumption | omega) only [go_sem]
  refine jc fun _=>?_
  try simp (disch:=first | assumption | omega) only [go_sem]
  refine jc fun _=>?_
  try simp (disch:=first | assumption | omega) only [go_sem]
  refine mi fun _=>?_
  try simp (disch:=first | assumption | omega) only [go_sem]
  refine mi fun _=>?_
  try simp (disch:=first | assumption | omega) only [go_sem]
  refine mi fun _=>?_
  try simp (disch:=first | assumption | omega) only [go_sem]
  exact jc fun _=>rfl
@[go_sem] theorem SG (x:ai) (y:ai) (q:Bool) (q0:ch x) (q1:ch y) (t:bO Rz):bc 12 [.agg (gp (some true) x),.agg (gp (some true) y),.bool q] t=feed t [.bool (mm x y q)]:=by
  exact bZ (r:=.bool (mm x y q)) (s:=.bool) (ss:=[.undef,.undef,.undef]) (D0 x y q q0 q1) (by kernel_rfl) (by simp only [ax,bH,bj,bI,bJ,aj,aq,Bool.and_self]) (by simp only [aj,aR,ax,aq,Bool.and_self]) (by first | rfl | simp only [aw,bg,bf,bE,bF,bh,bG,Bool.and_self]) (by first | rfl | simp only [List.all_cons,List.all_nil,aw,Bool.and_self]) t
end Go.Proofs.Ytockoilcnmljiaa
namespace Go.Proofs.Ytockoilcnmljiaa
set_option maxRecDepth 100000
section
variable (pr:ez) (cv:Cv Rz) (J:Nat→St→Option Rz)
theorem u6:Told cfg Try.prog 3 Try.f3:=⟨by kernel_rfl,Try.func3,by kernel_rfl⟩
theorem u7 (g0:Bool) (x0:ai) (g1:Bool) (x1:ai):bn pr cv J 3 Try.f3 [(.agg (af (some g0) x0)),(.agg (af (some g1) x1))]=
    let y1:Option (D × List D):=(some ((.bool true),[.undef,.undef]))
    let y2:Option (D × List D):=(some ((.bool false),[.undef,.undef]))
    (cv 7 [(.agg (af (some g0) x0)),(.int .i64 1048576)] (.int (fun gF=>(.done (br (pr.lt gF 0) y1 (cv 7 [(.agg (af (some g1) x1)),(.int .i64 gF)] (.int (fun lX=>(.done (br (pr.lt lX 0) y1 (cv 9 [(.agg (af (some g0) x0))] (.ty ic.node (fun (o4:ai)=>(.done (cv 9 [(.agg (af (some g1) x1))] (.ty ic.node (fun (sZ:ai)=>(.done (cv 8 [(.agg (cM true (af none o4))),(.agg (cM true (af none sZ)))] (.bool (fun Iz=>(.done (cv 9 [(.agg (af (some g0) x0))] (.ty ic.node (fun (Y2:ai)=>(.done (cv 9 [(.agg (af (some g1) x1))] (.ty ic.node (fun (Y3:ai)=>(.done (cv 10 [(.agg (cM true (af none Y2))),(.agg (cM true (af none Y3)))] (.bool (fun NI=>(.done (br (br (pr.beq NI Iz) false true) y2 (cv 9 [(.agg (af (some g0) x0))] (.ty ic.node (fun (vm8:ai)=>(.done (cv 11 [(.agg (cM true (af none Y2))),(.agg (cM true (af none vm8)))] (.bool (fun vb9=>(.done (br (br vb9 false true) y2 (cv 9 [(.agg (af (some g1) x1))] (.ty ic.node (fun (Z3:ai)=>(.done (cv 11 [(.agg (cM true (af none Y3))),(.agg (cM true (af none Z3)))] (.bool (fun Z4=>(.done (br (br Z4 false true) y2 y1))))))))))))))))))))))))))))))))))))))))))))))))))))):=by kernel_rfl
end
theorem AU (n:ai) (ln:sy n) (hi:BU n) (m:ai) (lm:sy m) (him:BU m):Cm 3 [.agg (af (some false) n),.agg (af (some false) m)] (.bool true,[.undef,.undef]):=by
  have _:=hi
  have _:=him
  refine Cm.step u6 _ fun J _=>?_
  rw [u7]
  have a1:=vK (n:=n) (l:=1048576) (by omega) (by omega)
  simp (disch:=first | assumption | omega) only [go_sem]
  refine eU (fun _=>rfl) (fun hv=>?_)
  have a2:=vK (n:=m) (l:=fj n 1048576) (by omega) (by omega)
  simp (disch:=first | assumption | omega) only [go_sem]
  refine eU (fun _=>rfl) (fun hv2=>?_)
  have ok:ch n:=a1.2.2 (by omega)
  have ok2:ch m:=a2.2.2 (by omega)
  simp (disch:=first | assumption | omega) only [go_sem]
end Go.Proofs.Ytockoilcnmljiaa
namespace Go.Proofs.Ytockoilcnmljiaa.fnExactMayHold
open Go.ChangeShapes Go.WideShapes Go.ChangeAt Go.RowKit
set_option maxRecDepth 100000
theorem own:ownKnob Try.prog.godebug=none:=by kernel_rfl
theorem laidOut:laidOutB Try.prog=true:=by kernel_rfl
theorem lifted (os:Os) (started:os.Started) (H:Type) (enc:TypeId × Value→H):
    ReturnsInHanded {} Try.checked os 3 .any (Rows.fnExactMayHoldSpec.pre6 enc Try.prog Try.f3 Rows.fnExactMayHoldRow.domain false) (Rows.fnExactMayHoldSpec.post enc Try.prog Try.f3 false true false false):=by
  refine returnsInHanded_of_change_sized (C:=Try.checked) own started (by kernel_rfl) Try.func3
    (ChangeSpec.witness6 (enc:=enc) (C:=Try.checked) false ⟨#[],#[.agg #[.int .i64 0,.bool false,.bool false,.slice none 0 0,.slice none 0 0,.slice none 0 0,.bool false,.bool false,.bool false,.int .i64 0,.slice none 0 0,.slice none 0 0,.slice none 0 0,.slice none 0 0,.slice none 0 0,.slice none 0 0],.agg #[.int .i64 0,.bool false,.bool false,.slice none 0 0,.slice none 0 0,.slice none 0 0,.bool false,.bool false,.bool false,.int .i64 0,.slice none 0 0,.slice none 0 0,.slice none 0 0,.slice none 0 0,.slice none 0 0,.slice none 0 0]],[]⟩ 8 (by kernel_rfl) (by kernel_rfl) (by kernel_rfl) (by kernel_rfl)) ?_
  intro W base args ds gs before Ro hW adI VY _
  have cu:(DataW.weightsEach Try.prog (Try.f3.params.toList++Rows.fnExactMayHoldSpec.plain.varTypes Try.prog) (ds++gs)).all (·≤reachBytes)=true:=VY
  have Ah:∀ (j:Nat) t v,Try.f3.params[j]?=some t→args[j]?=some v→Value.okWide Try.prog W .any base t v:=Ro
  have hW':=hW
  obtain ⟨p,q,MI,hV,rfl,hfz,eG⟩:=hW
  have hA:DataW.TrodAll enc Try.prog W 0 (fun _=>true) true Try.f3.params.toList args.toList ds p:=MI
  rw [Try.params3] at hA Ah cu
  obtain ⟨v0,vs0,d0,ds0,p0,q0,acA,rfl,rfl,h0,r0⟩:=trodAll_cons hA
  obtain ⟨v1,vs1,d1,fy,p1,q1,acB,rfl,rfl,h1,r1⟩:=trodAll_cons r0
  obtain ⟨rfl,rfl,rfl⟩:=trodAll_nil r1
  obtain rfl:args=#[v0,v1]:=by cases args; simp_all
  obtain ⟨rfl,rfl⟩:=trodVars_none hV
  have k0:=h0
  have lt0:∀ x∈p0,x.block < W.heap.size:=by obtain ⟨m,hm⟩:=k0; exact DataW.trod_lt m _ _ _ hm
  obtain ⟨us0,rfl,_⟩:=okWide_struct Try.underlying31 (Ah 0 31 v0 rfl rfl)
  obtain ⟨adi,hf0⟩:=h0
  have Km:∀ z∈d0.weights Try.prog 31,z≤reachBytes:=fun z hz=>by
    have:=List.all_eq_true.1 cu z (DataW.weights_mem_each (j:=0) (t:=31) (d:=d0) rfl rfl z hz)
    simpa using this
  obtain ⟨acF,Z5,XB⟩:=yU (X:=Lk W [] (fun _=>True)) Nw IF hf0 (by kernel_rfl) Km
  obtain ⟨n0,rfl,ln0,in0⟩:=Ky Z5
  have k1:=h1
  have lt1:∀ x∈p1,x.block < W.heap.size:=by obtain ⟨m,hm⟩:=k1; exact DataW.trod_lt m _ _ _ hm
  obtain ⟨Em,rfl,_⟩:=okWide_struct Try.underlying31 (Ah 1 31 v1 rfl rfl)
  obtain ⟨adj,M6⟩:=h1
  have Kn:∀ z∈d1.weights Try.prog 31,z≤reachBytes:=fun z hz=>by
    have:=List.all_eq_true.1 cu z (DataW.weights_mem_each (j:=1) (t:=31) (d:=d1) rfl rfl z hz)
    simpa using this
  obtain ⟨acJ,Z6,XC⟩:=yU (X:=Lk W [] (fun _=>True)) Nw IF M6 (by kernel_rfl) Kn
  obtain ⟨n1,rfl,ln1,in1⟩:=Ky Z6
  clear MI Ro VY cu
  refine (Nv vH (f:=3) (vs:=#[.agg us0,.agg Em]) (by kernel_rfl) (AU n0 ln0 in0 n1 ln1 in1) (by simp [dc,bB,cK,eM,bz]) (.cons (Kw XB) (.cons (Kw XC) .nil))).mono fun e W' ⟨he,VZ⟩=>?_
  subst he
  exact ⟨_,rfl,_,_,_,[],_,[],hW',trodAll_mk1 (shut_bool Try.underlying4 _),trodAll_mk2 (Below.trod laidOut (by kernel_rfl) (of_decide_eq_true (by kernel_rfl)) k0 VZ lt0) (Below.trod laidOut (by kernel_rfl) (of_decide_eq_true (by kernel_rfl)) k1 VZ lt1),rfl,VZ.frame _,fun h=>by cases h⟩
theorem over:Rows.fnExactMayHoldRow.holds Try.pinned (OpenSpec.ofChange Rows.fnExactMayHoldSpec):=
  OpenClaim.holds_of_wide 3 Try.f3 rfl rfl rfl rfl rfl rfl rfl ⟨rfl,rfl,rfl,rfl,rfl⟩ rfl rfl rfl rfl rfl (by kernel_rfl) Try.func3 (by kernel_rfl)
    (of_decide_eq_true (by kernel_rfl)) (by unfold Func.isWrapper; first | (rw [if_pos (by decide+kernel)]; kernel_rfl) | (rw [if_neg (by decide+kernel)]; exact ⟨rfl,rfl⟩))
    (fun os started H enc _=>lifted os started H enc)
theorem proved:Rows.FnExactMayHoldSaid:=over
#print axioms proved
end Go.Proofs.Ytockoilcnmljiaa.fnExactMayHold
namespace Go.Proofs.Ytockoilcnmljiaa
theorem fnExactMayHold_holds:Rows.FnExactMayHoldSaid:=fnExactMayHold.proved
end Go.Proofs.Ytockoilcnmljiaa
