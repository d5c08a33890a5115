/- FnExactHold: the program's Hold returns what the reference's returns, for all arguments (a node, a node, a number). No condition. -/
import Derived.Test.YtckkpgcnhdllgaaGreatRows
import Derived.WalkKit
import Derived.ProofKit
import Derived.OpenShut
import Derived.ShutString
import Derived.ChangeOld
import Derived.ChangeSame
import Derived.Below
import Derived.Carry
import Derived.SizedLaws
import Derived.Test.YtckkpgcnhdllgaaGreatMf
set_option linter.all false
set_option linter.unusedSimpArgs false
set_option linter.unusedVariables false
set_option linter.unnecessarySimpa false
set_option linter.unusedSectionVars false
namespace Go.Proofs.YtckkpgcnhdllgaaGreat
set_option maxRecDepth 100000
section
variable (pr:ej) (cv:Cv Rz) (J:Nat->St->Option Rz)
theorem Qy:Told cfg Tryz.prog 108 Tryz.f108:=⟨by kernel_rfl,Tryz.func108,by kernel_rfl⟩
theorem Qz (x0:U) (x1:aB):aU pr cv J 108 Tryz.f108 [(.agg (ab none x0)),(.agg (bd (some true) x1))]=
 (cv 94 [(.agg (bd (some true) x1))] (.ty cJ.mt (fun (au:aB)=>(.done (cv 190 [(.agg (bz true (bL none x0.aA))),(.agg (bd (some true) x1))] (.ty cJ.aA (fun (ef:aD)=>(.done (cv 76 [(.agg [(.int .i64 x0.id),(.bool x0.up),(.bool x0.bS),(eb true (sI none x0.image)),(eb true (sI none au.av)),(eb true (sR none au.bits)),(.bool au.cf),(.bool au.bB),(.bool au.held),(.int .i64 au.last),(eb true (s8 none ef.a)),(eb true (s8 none ef.b)),(eb true (sB none x0.conn)),(eb true (sR none x0.sync)),(eb true (sB none x0.aH)),(eb true (sI none x0.wait))])] (.bool (fun iy=>(.done (some ((.aG [(.agg [(.int .i64 x0.id),(.bool x0.up),(.bool x0.bS),(sI none x0.image),(sI none au.av),(sR none au.bits),(.bool au.cf),(.bool au.bB),(.bool au.held),(.int .i64 au.last),(s8 none ef.a),(s8 none ef.b),(sB none x0.conn),(sR none x0.sync),(sB none x0.aH),(sI none x0.wait)]),(.bool iy)]),[.undef,.undef])))))))))))))):=by kernel_rfl
theorem LJ:Told cfg Tryz.prog 90 Tryz.f90:=⟨by kernel_rfl,Tryz.func90,by kernel_rfl⟩
theorem LK (x0:U) (x1:aB):aU pr cv J 90 Tryz.f90 [(.agg (ab none x0)),(.agg (bd (some true) x1))]=
 (cv 88 [(.agg (bd (some true) x1))] (.ty cJ.mt (fun (au:aB)=>(.done (cv 178 [(.agg (bz true (bL none x0.aA))),(.agg (bd (some true) x1))] (.ty cJ.aA (fun (ef:aD)=>(.done (some ((.agg [(.int .i64 x0.id),(.bool x0.up),(.bool x0.bS),(sI none x0.image),(sI none au.av),(sR none au.bits),(.bool au.cf),(.bool au.bB),(.bool au.held),(.int .i64 au.last),(s8 none ef.a),(s8 none ef.b),(sB none x0.conn),(sR none x0.sync),(sB none x0.aH),(sI none x0.wait)]),[.undef,.undef])))))))))):=by kernel_rfl
theorem IV:Told cfg Tryz.prog 107 Tryz.f107:=⟨by kernel_rfl,Tryz.func107,by kernel_rfl⟩
theorem IW (x0:List Int) (x1:Int):aU pr cv J 107 Tryz.f107 [(sI (some true) x0),(.int .i64 x1)]=
 let y1:Nat:=(pr.hI (pr.mn (pr.ba (1+x0.length)) 12) 0)
 let y2:List D:=(List.take (Nat.mul y1 1) (List.drop (Nat.mul (0+(pr.gF 0)) 1) ((.int .i64 x1)::(ints x0))))
 (br (br (pr.cell (ints x0)) (pr.fits (1+x0.length) 8) false) (br (pr.rj 0 (pr.mn (pr.ba (1+x0.length)) 12) (1+x0.length)) (cv 189 [(.sl (some true) 1 y1 (bz true y2))] (.bool (fun ct=>(.done (br (br ct false true) (cv 110 [(sI (some true) x0)] (.sl (fun rq=>(fun oD=>(.done (br (br (br (pr.nl oD) true false) true false) (some ((.sl none 1 rq oD),[.undef,.undef])) none)))))) (some ((.sl none 1 y1 y2),[.undef,.undef]))))))) none) none):=by kernel_rfl
theorem IX:Told cfg Tryz.prog 103 Tryz.f103:=⟨by kernel_rfl,Tryz.func103,by kernel_rfl⟩
theorem IY (x0:List Int) (x1:Int):aU pr cv J 103 Tryz.f103 [(sI (some true) x0),(.int .i64 x1)]=
 let y1:List D:=(List.take (Nat.mul (pr.hI 12 0) 1) (List.drop (Nat.mul (0+(pr.gF 0)) 1) ((.int .i64 x1)::(ints x0))))
 let y2:List D:=(List.append [] y1)
 let y3:Option (D × List D):=(br (br (pr.cell (ints x0)) (pr.fits (0+x0.length) 8) false) (some ((.sl none 1 (0+x0.length) (List.append [] (ints x0))),[.undef,.undef])) none)
 (br (br (pr.cell (ints x0)) (pr.fits (1+x0.length) 8) false) (br (pr.lt 12 (pr.ba (1+x0.length))) (br (pr.rj 0 12 (1+x0.length)) (br (br (pr.flat y1) (pr.fits (0+(pr.hI 12 0)) 8) false) (cv 186 [(.sl (some true) 1 (0+(pr.hI 12 0)) (bz true y2))] (.bool (fun ct=>(.done (br (br ct false true) y3 (some ((.sl none 1 (0+(pr.hI 12 0)) y2),[.undef,.undef]))))))) none) none) (cv 186 [(.sl (some true) 1 (1+x0.length) ((.int .i64 x1)::(bz true (ints x0))))] (.bool (fun hZ=>(.done (br (br hZ false true) y3 (some ((.sl none 1 (1+x0.length) ((.int .i64 x1)::(ints x0))),[.undef,.undef])))))))) none):=by kernel_rfl
theorem QA:Told cfg Tryz.prog 28 Tryz.f28:=⟨by kernel_rfl,Tryz.func28,by kernel_rfl⟩
theorem QB (x0:U) (x1:U) (x2:Int):aU pr cv J 28 Tryz.f28 [(.agg (ab (some true) x0)),(.agg (ab (some true) x1)),(.int .i64 x2)]=
 let y1:Option Rz:=(cv 91 [(.agg (ab (some true) x0))] (.ty cJ.node (fun (ef:U)=>(.done (cv 91 [(.agg (ab (some true) x1))] (.ty cJ.node (fun (j6:U)=>(.done (some ((.aG [(.agg (ab none ef)),(.agg (ab none j6)),(.bool false)]),[.undef,.undef,.undef]))))))))))
 (cv 104 [(.agg (ab (some true) x0)),(.agg (ab (some true) x1))] (.bool (fun ct=>(.done (br (br ct false true) y1 (cv 105 [(.int .i64 x2),(.int .i64 1),(.int .i64 100000)] (.bool (fun rm=>(.done (br (br rm false true) y1 (cv 106 [(sI (some true) x0.mt.av),(.int .i64 x2)] (.bool (fun mK=>(.done (br mK y1 (cv 94 [(.agg (bd (some true) x0.mt))] (.ty cJ.mt (fun (fI:aB)=>(.done (cv 107 [(eb true (sI none fI.av)),(.int .i64 x2)] (.ty cJ.I (fun (eU:List Int)=>(.done (cv 94 [(.agg (bd (some true) x1.mt))] (.ty cJ.mt (fun (pM:aB)=>(.done (cv 91 [(.agg (ab (some true) x0))] (.ty cJ.node (fun (dp:U)=>(.done (br (br (br (pr.nl (ints dp.image)) (br (pr.nl (ints dp.mt.av)) (br (pr.nl (rows none dp.mt.bits)) (br (pr.nl (bytes dp.aA.a)) (br (pr.nl (bytes dp.aA.b)) (br (pr.nl (aE dp.conn)) (br (pr.nl (rows none dp.sync)) (br (pr.nl (aE dp.aH)) (br (pr.nl []) true false) false) false) false) false) false) false) false) false) true false) (cv 108 [(.agg [(.int .i64 dp.id),(.bool dp.up),(.bool dp.bS),(sI none dp.image),(sI none dp.mt.av),(sR none dp.mt.bits),(.bool dp.mt.cf),(.bool dp.mt.bB),(.bool dp.mt.held),(.int .i64 dp.mt.last),(s8 none dp.aA.a),(s8 none dp.aA.b),(sB none dp.conn),(sR none dp.sync),(sB none dp.aH),(.sl none 1 0 [])]),(.agg [(eb true (sI none eU)),(eb true (sR none fI.bits)),(.bool fI.cf),(.bool fI.bB),(.bool true),(.int .i64 fI.last)])] (.ty cJ.node (fun (IZ:U)=>(.bool (fun O5=>(.done (cv 91 [(.agg (ab (some true) x1))] (.ty cJ.node (fun (sf:U)=>(.done (br (br (br (pr.nl (ints sf.image)) (br (pr.nl (ints sf.mt.av)) (br (pr.nl (rows none sf.mt.bits)) (br (pr.nl (bytes sf.aA.a)) (br (pr.nl (bytes sf.aA.b)) (br (pr.nl (aE sf.conn)) (br (pr.nl (rows none sf.sync)) (br (pr.nl (aE sf.aH)) (br (pr.nl (ints sf.wait)) true false) false) false) false) false) false) false) false) false) true false) (cv 108 [(.agg (ab none sf)),(.agg [(eb true (sI none pM.av)),(eb true (sR none pM.bits)),(.bool pM.cf),(.bool true),(.bool false),(.int .i64 pM.last)])] (.ty cJ.node (fun (YT:U)=>(.bool (fun YU=>(.done (br (br O5 false true) y1 (br (br YU false true) y1 (some ((.aG [(.agg (ab none IZ)),(.agg (ab none YT)),(.bool true)]),[.undef,.undef,.undef])))))))))) none))))))))))) none)))))))))))))))))))))))))))))))):=by kernel_rfl
theorem QC:Told cfg Tryz.prog 27 Tryz.f27:=⟨by kernel_rfl,Tryz.func27,by kernel_rfl⟩
theorem QD (x0:U) (x1:U) (x2:Int):aU pr cv J 27 Tryz.f27 [(.agg (ab (some true) x0)),(.agg (ab (some true) x1)),(.int .i64 x2)]=
 let y1:Option Rz:=(cv 86 [(.agg (ab (some true) x0))] (.ty cJ.node (fun (ef:U)=>(.done (cv 86 [(.agg (ab (some true) x1))] (.ty cJ.node (fun (j6:U)=>(.done (some ((.aG [(.agg (ab none ef)),(.agg (ab none j6)),(.bool false)]),[.undef,.undef,.undef]))))))))))
 (cv 101 [(.agg (ab (some true) x0)),(.agg (ab (some true) x1))] (.bool (fun ct=>(.done (br (br ct false true) y1 (cv 102 [(sI (some true) x0.mt.av),(.int .i64 x2)] (.bool (fun rm=>(.done (br rm y1 (cv 87 [(.int .i64 x2),(.int .i64 1),(.int .i64 100000)] (.bool (fun mK=>(.done (br (br mK false true) y1 (cv 88 [(.agg (bd (some true) x0.mt))] (.ty cJ.mt (fun (fI:aB)=>(.done (cv 103 [(eb true (sI none fI.av)),(.int .i64 x2)] (.ty cJ.I (fun (eU:List Int)=>(.done (cv 86 [(.agg (ab (some true) x0))] (.ty cJ.node (fun (pM:U)=>(.done (br (br (br (pr.nl (ints pM.image)) (br (pr.nl (ints pM.mt.av)) (br (pr.nl (rows none pM.mt.bits)) (br (pr.nl (bytes pM.aA.a)) (br (pr.nl (bytes pM.aA.b)) (br (pr.nl (aE pM.conn)) (br (pr.nl (rows none pM.sync)) (br (pr.nl (aE pM.aH)) (br (pr.nl (ints pM.wait)) true false) false) false) false) false) false) false) false) false) true false) (cv 90 [(.agg (ab none pM)),(.agg [(eb true (sI none eU)),(eb true (sR none fI.bits)),(.bool fI.cf),(.bool fI.bB),(.bool true),(.int .i64 fI.last)])] (.ty cJ.node (fun (dp:U)=>(.done (cv 88 [(.agg (bd (some true) x1.mt))] (.ty cJ.mt (fun (IZ:aB)=>(.done (cv 86 [(.agg (ab (some true) x1))] (.ty cJ.node (fun (tI:U)=>(.done (br (br (br (pr.nl (ints tI.image)) (br (pr.nl (ints tI.mt.av)) (br (pr.nl (rows none tI.mt.bits)) (br (pr.nl (bytes tI.aA.a)) (br (pr.nl (bytes tI.aA.b)) (br (pr.nl (aE tI.conn)) (br (pr.nl (rows none tI.sync)) (br (pr.nl (aE tI.aH)) (br (pr.nl (ints tI.wait)) true false) false) false) false) false) false) false) false) false) true false) (cv 90 [(.agg (ab none tI)),(.agg [(eb true (sI none IZ.av)),(eb true (sR none IZ.bits)),(.bool IZ.cf),(.bool true),(.bool false),(.int .i64 IZ.last)])] (.ty cJ.node (fun (sf:U)=>(.done (cv 69 [(.agg [(.int .i64 dp.id),(.bool dp.up),(.bool dp.bS),(eb true (sI none dp.image)),(eb true (sI none dp.mt.av)),(eb true (sR none dp.mt.bits)),(.bool dp.mt.cf),(.bool dp.mt.bB),(.bool dp.mt.held),(.int .i64 dp.mt.last),(eb true (s8 none dp.aA.a)),(eb true (s8 none dp.aA.b)),(eb true (sB none dp.conn)),(eb true (sR none dp.sync)),(eb true (sB none dp.aH)),(.sl (some true) 1 0 [])])] (.bool (fun aif=>(.done (br (br aif false true) y1 (cv 69 [(.agg (bz true (ab none sf)))] (.bool (fun aih=>(.done (br (br aih false true) y1 (some ((.aG [(.agg [(.int .i64 dp.id),(.bool dp.up),(.bool dp.bS),(sI none dp.image),(sI none dp.mt.av),(sR none dp.mt.bits),(.bool dp.mt.cf),(.bool dp.mt.bB),(.bool dp.mt.held),(.int .i64 dp.mt.last),(s8 none dp.aA.a),(s8 none dp.aA.b),(sB none dp.conn),(sR none dp.sync),(sB none dp.aH),(.sl none 1 0 [])]),(.agg (ab none sf)),(.bool true)]),[.undef,.undef,.undef])))))))))))))))) none))))))))))))) none)))))))))))))))))))))))))))):=by kernel_rfl
end
def ff (n:U) (m:aB):U:={ n with mt:=m,aA:=jf n.aA m }
theorem yt {n:U} {m:aB} (o:aV n) (om:bO m):aV (ff n m):=⟨o.image,om,Tt o.aA m,o.conn,o.sync,o.aH,o.wait⟩
theorem QE (n:U) (m:aB) (q0:aV n) (q1:bO m):Cm 108 [.agg (ab none n),.agg (bd (some true) m)] (.aG [.agg (ab none (((ff n m,cU (ff n m))).1)),.bool (((ff n m,cU (ff n m))).2)],[.undef,.undef]):=by
 have o:aV ⟨n.id,n.up,n.bS,n.image,m,jf n.aA m,n.conn,n.sync,n.aH,n.wait⟩:=yt q0 q1;have os:=q0.aA;refine Cm.step Qy _ fun J hJ=>?_;rw [Qz];simp (disch:=first | assumption | omega) only [go_sem]
 rfl
@[go_sem] theorem aeS (n:U) (m:aB) (q0:aV n) (q1:bO m) (t:bD Rz):aO 108 [.agg (dD none n),.agg (lh (some true) m)] t=feed t [enc .node (((ff n m,cU (ff n m))).1),.bool (((ff n m,cU (ff n m))).2)]:=by
 exact bw (r:=.aG [enc .node (((ff n m,cU (ff n m))).1),.bool (((ff n m,cU (ff n m))).2)]) (s:=.aG [.ty .node,.bool]) (ss:=[.undef,.undef]) (QE n m q0 q1) (by kernel_rfl) (by simp only [ao,bm,aT,bn,bo,ae,ai,sC]) (by simp only [ae,aI,ao,ai,sC]) (by first | rfl | simp only [ak,aR,aQ,bh,bj,aS,bl,sC]) (by first | rfl | simp only [TO,acd,ak,sC]) t
theorem LL (n:U) (m:aB) (q0:aV n) (q1:bO m):Cm 90 [.agg (ab none n),.agg (bd (some true) m)] (.agg (ab none (ff n m)),[.undef,.undef]):=by
 have os:=q0.aA;refine Cm.step LJ _ fun J hJ=>?_;rw [LK];simp (disch:=first | assumption | omega) only [go_sem]
 rfl
@[go_sem] theorem ab8 (n:U) (m:aB) (q0:aV n) (q1:bO m) (t:bD Rz):aO 90 [.agg (dD none n),.agg (lh (some true) m)] t=feed t [enc .node (ff n m)]:=by
 exact bw (r:=enc .node (ff n m)) (s:=.ty .node) (ss:=[.undef,.undef]) (LL n m q0 q1) (by kernel_rfl) (by simp only [ao,bm,aT,bn,bo,ae,ai,sC]) (by simp only [ae,aI,ao,ai,sC]) (by first | rfl | simp only [ak,aR,aQ,bh,bj,aS,bl,sC]) (by first | rfl | simp only [TO,acd,ak,sC]) t
def gT (g:List Int) (n:Int):List Int:=if fN ((n::g).take 12) then (n::g).take 12 else g
theorem wW {g:List Int} {n:Int} (h:g.length<=1048576):(gT g n).length<=1048576:=by
 unfold gT;split
 ·rw [acG]; omega
 ·exact h
@[go_sem] theorem aii (g:Option Bool) (xi:Int) (xu:Bool) (xp:Bool) (Pj:Nat) (Pk:List Int) (Pl:Nat) (Pm:List Int) (Pn:Nat) (Po:List (List Int)) (Wq:Bool) (Wt:Bool) (Wu:Bool) (Wv:Int) (Pp:Nat) (Pq:List UInt8) (Pr:Nat) (Pt:List UInt8) (Ww:Nat) (xc:List Bool) (Wx:Nat) (xy:List (List Int)) (Wy:Nat) (xk:List Bool) (YG:Pj=Pk.length) (YH:Pl=Pm.length) (YI:Pn=Po.length) (YJ:Pp=Pq.length) (YK:Pr=Pt.length) (xc1:Ww=xc.length) (xy1:Wx=xy.length) (xk1:Wy=xk.length):D.agg [.int .i64 xi,.bool xu,.bool xp,.sl g 1 Pj (ints Pk),.sl g 1 Pl (ints Pm),.sl g 1 Pn (rows g Po),.bool Wq,.bool Wt,.bool Wu,.int .i64 Wv,.sl g 1 Pp (bytes Pq),.sl g 1 Pr (bytes Pt),.sl g 1 Ww (aE xc),.sl g 1 Wx (rows g xy),.sl g 1 Wy (aE xk),.sl g 1 0 []]=.agg (dD g ⟨xi,xu,xp,Pk,⟨Pm,Po,Wq,Wt,Wu,Wv⟩,⟨Pq,Pt⟩,xc,xy,xk,[]⟩):=by
 subst YG;subst YH;subst YI;subst YJ;subst YK;subst xc1;subst xy1;subst xk1;rfl
theorem PD (x:Int) (xs:List Int):D.int .i64 x::ints xs=ints (x::xs):=rfl
theorem aex (xs:List Int) (x:Int):1+xs.length=(x::xs).length:=by rw [adj]; omega
theorem I0 (g:List Int) (n:Int) (q0:g.length<=1048576):Cm 107 [sI (some true) g,.int .i64 n] (sI none (gT g n),[.undef,.undef]):=by
 refine Cm.step IV [.undef,.undef] fun J hJ=>?_;rw [IW];unfold gT;simp only [aex g n,PD];have hl:(n::g).length<=1048577:=by rw [adj]; omega
 generalize n::g=l at hl ⊢;obtain ⟨k,hk,EC⟩:∃ k:Nat,min (l.length:Int) 12=(k:Int)/\k=min 12 l.length:=⟨min 12 l.length,by omega,rfl⟩
 have e:List.take k l=List.take 12 l:=by rw [EC,<- List.take_eq_take_min]
 have e2:k=(List.take 12 l).length:=by rw [acG]; omega
 have e3:sI none (List.take 12 l)=.sl none 1 k (ints (List.take 12 l)):=by rw [sI,<- e2]
 simp (disch:=first | assumption | omega) only [go_sem,hk,agw,af7,e]
 refine jE (fun h=>?_) (fun h=>?_)
 ·rw [if_pos h,e3];simp (disch:=first | assumption | omega) only [go_sem,hk,agw,af7,e]
 ·rw [if_neg h];simp (disch:=first | assumption | omega) only [go_sem]
@[go_sem] theorem abG (g0:Nat) (g:List Int) (n:Int) (e0:g0=g.length) (q0:g.length<=1048576) (t:bD Rz):aO 107 [.sl (some true) 1 g0 (ints g),.int .i64 n] t=feed t [enc .I (gT g n)]:=by
 subst e0;exact bw (r:=enc .I (gT g n)) (s:=.ty .I) (ss:=[.undef,.undef]) (I0 g n q0) (by kernel_rfl) (by simp only [ao,bm,aT,bn,bo,ae,ai,sC]) (by simp only [ae,aI,ao,ai,sC]) (by first | rfl | simp only [ak,aR,aQ,bh,bj,aS,bl,sC]) (by first | rfl | simp only [TO,acd,ak,sC]) t
theorem I1 (g:List Int) (n:Int) (q0:g.length<=1048576):Cm 103 [sI (some true) g,.int .i64 n] (sI none (gT g n),[.undef,.undef]):=by
 refine Cm.step IX [.undef,.undef] fun J hJ=>?_;rw [IY];unfold gT;simp only [aex g n,PD];have hl:(n::g).length<=1048577:=by rw [adj]; omega
 simp (disch:=first | assumption | omega) only [go_sem]
 refine dn (fun TY=>?_) (fun TY=>?_)
 ·have e2:12=(List.take 12 (n::g)).length:=by rw [acG]; omega
  have e4:sI none (List.take 12 (n::g))=.sl none 1 12 (ints (List.take 12 (n::g))):=by rw [sI,<- e2]
  simp (disch:=first | assumption | omega) only [go_sem,agw,af7,afG,aef]
  refine jE (fun h=>?_) (fun h=>?_)
  ·rw [if_pos h,e4];simp (disch:=first | assumption | omega) only [go_sem,agw,af7]
  ·rw [if_neg h];simp (disch:=first | assumption | omega) only [go_sem]
 ·have e3:List.take 12 (n::g)=n::g:=aek (by omega)
  rw [e3];simp (disch:=first | assumption | omega) only [go_sem,PD]
  refine jE (fun h=>?_) (fun h=>?_)
  ·rw [if_pos h];simp (disch:=first | assumption | omega) only [go_sem]
  ·rw [if_neg h];simp (disch:=first | assumption | omega) only [go_sem]
@[go_sem] theorem abH (g0:Nat) (g:List Int) (n:Int) (e0:g0=g.length) (q0:g.length<=1048576) (t:bD Rz):aO 103 [.sl (some true) 1 g0 (ints g),.int .i64 n] t=feed t [enc .I (gT g n)]:=by
 subst e0;exact bw (r:=enc .I (gT g n)) (s:=.ty .I) (ss:=[.undef,.undef]) (I1 g n q0) (by kernel_rfl) (by simp only [ao,bm,aT,bn,bo,ae,ai,sC]) (by simp only [ae,aI,ao,ai,sC]) (by first | rfl | simp only [ak,aR,aQ,bh,bj,aS,bl,sC]) (by first | rfl | simp only [TO,acd,ak,sC]) t
noncomputable def gU (x y:U) (k:Int):U × U × Bool:=
 if (mF x y=true/\¬k∈x.mt.av)/\1<=k/\k<=100000 then
  (if cU (ff { x with wait:=[] } { x.mt with held:=true,av:=gT x.mt.av k })=true/\cU (ff y { y.mt with bB:=true,held:=false })=true then
   (ff { x with wait:=[] } { x.mt with held:=true,av:=gT x.mt.av k },ff y { y.mt with bB:=true,held:=false },true)
  else (x,y,false))
 else (x,y,false)
theorem QF (x:U) (y:U) (k:Int) (q0:aV x) (q1:aV y):Cm 28 [.agg (ab (some true) x),.agg (ab (some true) y),.int .i64 k] (.aG [.agg (ab none ((gU x y k).1)),.agg (ab none ((gU x y k).2.1)),.bool ((gU x y k).2.2)],[.undef,.undef,.undef]):=by
 have g1:=wW (n:=k) q0.mt.av;have a1:=q0.mt.av;have a2:=q0.mt;have a3:=q1.mt;have o1:bO ⟨gT x.mt.av k,x.mt.bits,x.mt.cf,x.mt.bB,true,x.mt.last⟩:=⟨g1,a2.bits⟩;have o2:bO ⟨y.mt.av,y.mt.bits,y.mt.cf,true,false,y.mt.last⟩:=⟨a3.av,a3.bits⟩;have o3:aV ⟨x.id,x.up,x.bS,x.image,x.mt,x.aA,x.conn,x.sync,x.aH,[]⟩:=⟨q0.image,q0.mt,q0.aA,q0.conn,q0.sync,q0.aH,by simp⟩
 refine Cm.step QA _ fun J hJ=>?_;rw [QB];unfold gU;simp (disch:=first | assumption | omega) only [go_sem]
 refine jE (fun h1=>?_) (fun h1=>?_)
 ·simp (disch:=first | assumption | omega) only [go_sem]
  refine dn (fun h2=>?_) (fun h2=>?_)
  ·simp (disch:=first | assumption | omega) only [go_sem]
   refine dn (fun h3=>?_) (fun h3=>?_)
   ·rw [if_neg fun h=>h.1.2 h3];simp (disch:=first | assumption | omega) only [go_sem]
   ·rw [if_pos ⟨⟨h1,h3⟩,h2⟩];simp (disch:=first | assumption | omega) only [go_sem]
    refine jE (fun h4=>?_) (fun h4=>?_)
    ·simp (disch:=first | assumption | omega) only [go_sem]
     refine jE (fun h5=>?_) (fun h5=>?_)
     ·rw [if_pos ⟨h4,h5⟩];simp (disch:=first | assumption | omega) only [go_sem]
     ·rw [if_neg fun h=>h5 h.2];simp (disch:=first | assumption | omega) only [go_sem]
    ·rw [if_neg fun h=>h4 h.1];simp (disch:=first | assumption | omega) only [go_sem]
  ·rw [if_neg fun h=>h2 h.2];simp (disch:=first | assumption | omega) only [go_sem]
 ·rw [if_neg fun h=>h1 h.1.1];simp (disch:=first | assumption | omega) only [go_sem]
@[go_sem] theorem aeT (x:U) (y:U) (k:Int) (q0:aV x) (q1:aV y) (t:bD Rz):aO 28 [.agg (dD (some true) x),.agg (dD (some true) y),.int .i64 k] t=feed t [enc .node ((gU x y k).1),enc .node ((gU x y k).2.1),.bool ((gU x y k).2.2)]:=by
 exact bw (r:=.aG [enc .node ((gU x y k).1),enc .node ((gU x y k).2.1),.bool ((gU x y k).2.2)]) (s:=.aG [.ty .node,.ty .node,.bool]) (ss:=[.undef,.undef,.undef]) (QF x y k q0 q1) (by kernel_rfl) (by simp only [ao,bm,aT,bn,bo,ae,ai,sC]) (by simp only [ae,aI,ao,ai,sC]) (by first | rfl | simp only [ak,aR,aQ,bh,bj,aS,bl,sC]) (by first | rfl | simp only [TO,acd,ak,sC]) t
theorem WK (x:U) (m:aB):(⟨(ff x m).id,(ff x m).up,(ff x m).bS,(ff x m).image,(ff x m).mt,(ff x m).aA,(ff x m).conn,(ff x m).sync,(ff x m).aH,[]⟩:U)=ff ⟨x.id,x.up,x.bS,x.image,x.mt,x.aA,x.conn,x.sync,x.aH,[]⟩ m:=rfl
theorem QG (x:U) (y:U) (k:Int) (q0:aV x) (q1:aV y):Cm 27 [.agg (ab (some true) x),.agg (ab (some true) y),.int .i64 k] (.aG [.agg (ab none ((gU x y k).1)),.agg (ab none ((gU x y k).2.1)),.bool ((gU x y k).2.2)],[.undef,.undef,.undef]):=by
 have g1:=wW (n:=k) q0.mt.av;have a1:=q0.mt.av;have a2:=q0.mt;have a3:=q1.mt;have o1:bO ⟨gT x.mt.av k,x.mt.bits,x.mt.cf,x.mt.bB,true,x.mt.last⟩:=⟨g1,a2.bits⟩;have o2:bO ⟨y.mt.av,y.mt.bits,y.mt.cf,true,false,y.mt.last⟩:=⟨a3.av,a3.bits⟩;have o3:aV ⟨x.id,x.up,x.bS,x.image,x.mt,x.aA,x.conn,x.sync,x.aH,[]⟩:=⟨q0.image,q0.mt,q0.aA,q0.conn,q0.sync,q0.aH,by simp⟩
 have o4:=yt o3 o1;have o5:=yt q1 o2;refine Cm.step QC _ fun J hJ=>?_;rw [QD];unfold gU;simp (disch:=first | assumption | omega) only [go_sem]
 refine jE (fun h1=>?_) (fun h1=>?_)
 ·simp (disch:=first | assumption | omega) only [go_sem]
  refine dn (fun h3=>?_) (fun h3=>?_)
  ·rw [if_neg fun h=>h.1.2 h3];simp (disch:=first | assumption | omega) only [go_sem]
  ·simp (disch:=first | assumption | omega) only [go_sem]
   refine dn (fun h2=>?_) (fun h2=>?_)
   ·rw [if_pos ⟨⟨h1,h3⟩,h2⟩];simp (disch:=first | assumption | omega) only [go_sem,WK]
    refine jE (fun h4=>?_) (fun h4=>?_)
    ·simp (disch:=first | assumption | omega) only [go_sem]
     refine jE (fun h5=>?_) (fun h5=>?_)
     ·rw [if_pos ⟨h4,h5⟩];simp (disch:=first | assumption | omega) only [go_sem]
      rfl
     ·rw [if_neg fun h=>h5 h.2];simp (disch:=first | assumption | omega) only [go_sem]
    ·rw [if_neg fun h=>h4 h.1];simp (disch:=first | assumption | omega) only [go_sem]
   ·rw [if_neg fun h=>h2 h.2];simp (disch:=first | assumption | omega) only [go_sem]
 ·rw [if_neg fun h=>h1 h.1.1];simp (disch:=first | assumption | omega) only [go_sem]
@[go_sem] theorem aeU (x:U) (y:U) (k:Int) (q0:aV x) (q1:aV y) (t:bD Rz):aO 27 [.agg (dD (some true) x),.agg (dD (some true) y),.int .i64 k] t=feed t [enc .node ((gU x y k).1),enc .node ((gU x y k).2.1),.bool ((gU x y k).2.2)]:=by
 exact bw (r:=.aG [enc .node ((gU x y k).1),enc .node ((gU x y k).2.1),.bool ((gU x y k).2.2)]) (s:=.aG [.ty .node,.ty .node,.bool]) (ss:=[.undef,.undef,.undef]) (QG x y k q0 q1) (by kernel_rfl) (by simp only [ao,bm,aT,bn,bo,ae,ai,sC]) (by simp only [ae,aI,ao,ai,sC]) (by first | rfl | simp only [ak,aR,aQ,bh,bj,aS,bl,sC]) (by first | rfl | simp only [TO,acd,ak,sC]) t
set_option maxRecDepth 100000
section
variable (pr:ej) (cv:Cv Rz) (J:Nat->St->Option Rz)
theorem Bw:Told cfg Tryz.prog 5 Tryz.f5:=⟨by kernel_rfl,Tryz.func5,by kernel_rfl⟩
theorem Bx (g0:Bool) (x0:U) (g1:Bool) (x1:U) (x2:Int):aU pr cv J 5 Tryz.f5 [(.agg (ab (some g0) x0)),(.agg (ab (some g1) x1)),(.int .i64 x2)]=
 let y1:Option (D × List D):=(some ((.bool true),[.undef,.undef,.undef]))
 let y2:Option (D × List D):=(some ((.bool false),[.undef,.undef,.undef]))
 (cv 15 [(.agg (ab (some g0) x0)),(.int .i64 1048576)] (.int (fun dj=>(.done (br (pr.lt dj 0) y1 (cv 15 [(.agg (ab (some g1) x1)),(.int .i64 dj)] (.int (fun fk=>(.done (br (pr.lt fk 0) y1 (cv 17 [(.agg (ab (some g0) x0))] (.ty cJ.node (fun (j6:U)=>(.done (cv 17 [(.agg (ab (some g1) x1))] (.ty cJ.node (fun (lZ:U)=>(.done (cv 27 [(.agg (bz true (ab none j6))),(.agg (bz true (ab none lZ))),(.int .i64 x2)] (.ty cJ.node (fun (Pe:U)=>(.ty cJ.node (fun (J5:U)=>(.bool (fun mK=>(.done (cv 17 [(.agg (ab (some g0) x0))] (.ty cJ.node (fun (mi:U)=>(.done (cv 17 [(.agg (ab (some g1) x1))] (.ty cJ.node (fun (nZ:U)=>(.done (cv 28 [(.agg (bz true (ab none mi))),(.agg (bz true (ab none nZ))),(.int .i64 x2)] (.ty cJ.node (fun (fI:U)=>(.ty cJ.node (fun (eU:U)=>(.bool (fun aey=>(.done (cv 20 [(.agg (bz true (ab none fI))),(.agg (bz true (ab none Pe)))] (.bool (fun zi=>(.done (br (br zi false true) y2 (cv 20 [(.agg (bz true (ab none eU))),(.agg (bz true (ab none J5)))] (.bool (fun aij=>(.done (br (br aij false true) y2 (br (br (pr.beq aey mK) false true) y2 (cv 17 [(.agg (ab (some g0) x0))] (.ty cJ.node (fun (tI:U)=>(.done (cv 20 [(.agg (bz true (ab none mi))),(.agg (bz true (ab none tI)))] (.bool (fun aik=>(.done (br (br aik false true) y2 (cv 17 [(.agg (ab (some g1) x1))] (.ty cJ.node (fun (YT:U)=>(.done (cv 20 [(.agg (bz true (ab none nZ))),(.agg (bz true (ab none YT)))] (.bool (fun YU=>(.done (br (br YU false true) y2 (br (br (br (pr.nl (ints mi.image)) (br (pr.nl (ints mi.mt.av)) (br (pr.nl (rows none mi.mt.bits)) (br (pr.nl (bytes mi.aA.a)) (br (pr.nl (bytes mi.aA.b)) (br (pr.nl (aE mi.conn)) (br (pr.nl (rows none mi.sync)) (br (pr.nl (aE mi.aH)) (br (pr.nl (ints mi.wait)) true false) false) false) false) false) false) false) false) false) true false) (cv 21 [(.agg (ab none mi)),(.int .i64 1)] (.int (fun ail=>(.int (fun amZ=>(.bool (fun am0=>(.bool (fun Tg=>(.sl (fun aim=>(fun ain=>(.sl (fun Tl=>(fun Tm=>(.sl (fun aio=>(fun aip=>(.bool (fun am1=>(.bool (fun am2=>(.bool (fun am3=>(.int (fun am4=>(.sl (fun aiq=>(fun air=>(.sl (fun ais=>(fun ait=>(.sl (fun aiu=>(fun aiv=>(.sl (fun aiw=>(fun aix=>(.sl (fun aiy=>(fun aiz=>(.sl (fun aiA=>(fun aiB=>(.done (br (br (br (pr.nl ain) (br (pr.nl Tm) (br (pr.nl aip) (br (pr.nl air) (br (pr.nl ait) (br (pr.nl aiv) (br (pr.nl aix) (br (pr.nl aiz) (br (pr.nl aiB) true false) false) false) false) false) false) false) false) false) true false) (br (br (br (pr.neq mi.image.length aim) (br (pr.neq mi.mt.av.length Tl) (br (pr.neq mi.mt.bits.length aio) (br (pr.neq mi.aA.a.length aiq) (br (pr.neq mi.aA.b.length ais) (br (pr.neq mi.conn.length aiu) (br (pr.neq mi.sync.length aiw) (br (pr.neq mi.aH.length aiy) (br (pr.neq mi.wait.length aiA) true false) false) false) false) false) false) false) false) false) true false) (br (br (br (pr.nl (ints nZ.image)) (br (pr.nl (ints nZ.mt.av)) (br (pr.nl (rows none nZ.mt.bits)) (br (pr.nl (bytes nZ.aA.a)) (br (pr.nl (bytes nZ.aA.b)) (br (pr.nl (aE nZ.conn)) (br (pr.nl (rows none nZ.sync)) (br (pr.nl (aE nZ.aH)) (br (pr.nl (ints nZ.wait)) true false) false) false) false) false) false) false) false) false) true false) (cv 21 [(.agg (ab none nZ)),(.int .i64 ail)] (.int (fun aiC=>(.int (fun am5=>(.bool (fun am6=>(.bool (fun am7=>(.sl (fun aiD=>(fun aiE=>(.sl (fun aiF=>(fun aiG=>(.sl (fun aiH=>(fun aiI=>(.bool (fun am8=>(.bool (fun am9=>(.bool (fun ana=>(.int (fun anb=>(.sl (fun aiJ=>(fun aiK=>(.sl (fun aiL=>(fun aiM=>(.sl (fun aiN=>(fun aiO=>(.sl (fun aiP=>(fun aiQ=>(.sl (fun aiR=>(fun aiS=>(.sl (fun aiT=>(fun aiU=>(.done (br (br (br (pr.nl aiE) (br (pr.nl aiG) (br (pr.nl aiI) (br (pr.nl aiK) (br (pr.nl aiM) (br (pr.nl aiO) (br (pr.nl aiQ) (br (pr.nl aiS) (br (pr.nl aiU) true false) false) false) false) false) false) false) false) false) true false) (br (br (br (pr.neq nZ.image.length aiD) (br (pr.neq nZ.mt.av.length aiF) (br (pr.neq nZ.mt.bits.length aiH) (br (pr.neq nZ.aA.a.length aiJ) (br (pr.neq nZ.aA.b.length aiL) (br (pr.neq nZ.conn.length aiN) (br (pr.neq nZ.sync.length aiP) (br (pr.neq nZ.aH.length aiR) (br (pr.neq nZ.wait.length aiT) true false) false) false) false) false) false) false) false) false) true false) (br (pr.lt aiC 0) y2 (cv 20 [(.agg (bz true (ab none fI))),(.agg (bz true (ab none Pe)))] (.bool (fun aiV=>(.done (br (br aiV false true) y2 (cv 20 [(.agg (bz true (ab none eU))),(.agg (bz true (ab none J5)))] (.bool (fun aiW=>(.done (br (br aiW false true) y2 (br (br (pr.beq aey mK) false true) y2 (br (br (br (pr.nl (ints fI.image)) (br (pr.nl (ints fI.mt.av)) (br (pr.nl (rows none fI.mt.bits)) (br (pr.nl (bytes fI.aA.a)) (br (pr.nl (bytes fI.aA.b)) (br (pr.nl (aE fI.conn)) (br (pr.nl (rows none fI.sync)) (br (pr.nl (aE fI.aH)) (br (pr.nl (ints fI.wait)) true false) false) false) false) false) false) false) false) false) true false) (cv 21 [(.agg (ab none fI)),(.int .i64 1)] (.int (fun aiX=>(.int (fun anc=>(.bool (fun ane=>(.bool (fun anf=>(.sl (fun YV=>(fun YW=>(.sl (fun YX=>(fun YY=>(.sl (fun YZ=>(fun Y0=>(.bool (fun ang=>(.bool (fun anh=>(.bool (fun ani=>(.int (fun anj=>(.sl (fun Y1=>(fun Y2=>(.sl (fun Y3=>(fun Y4=>(.sl (fun Y5=>(fun Y6=>(.sl (fun Y7=>(fun Y8=>(.sl (fun Y9=>(fun Za=>(.sl (fun Zb=>(fun Zc=>(.done (br (br (br (pr.nl YW) (br (pr.nl YY) (br (pr.nl Y0) (br (pr.nl Y2) (br (pr.nl Y4) (br (pr.nl Y6) (br (pr.nl Y8) (br (pr.nl Za) (br (pr.nl Zc) true false) false) false) false) false) false) false) false) false) true false) (br (br (br (pr.neq fI.image.length YV) (br (pr.neq fI.mt.av.length YX) (br (pr.neq fI.mt.bits.length YZ) (br (pr.neq fI.aA.a.length Y1) (br (pr.neq fI.aA.b.length Y3) (br (pr.neq fI.conn.length Y5) (br (pr.neq fI.sync.length Y7) (br (pr.neq fI.aH.length Y9) (br (pr.neq fI.wait.length Zb) true false) false) false) false) false) false) false) false) false) true false) (br (br (br (pr.nl (ints eU.image)) (br (pr.nl (ints eU.mt.av)) (br (pr.nl (rows none eU.mt.bits)) (br (pr.nl (bytes eU.aA.a)) (br (pr.nl (bytes eU.aA.b)) (br (pr.nl (aE eU.conn)) (br (pr.nl (rows none eU.sync)) (br (pr.nl (aE eU.aH)) (br (pr.nl (ints eU.wait)) true false) false) false) false) false) false) false) false) false) true false) (cv 21 [(.agg (ab none eU)),(.int .i64 aiX)] (.int (fun aez=>(.int (fun ank=>(.bool (fun amf=>(.bool (fun amg=>(.sl (fun Tu=>(fun Tv=>(.sl (fun Tw=>(fun Tx=>(.sl (fun Tz=>(fun TA=>(.bool (fun amh=>(.bool (fun ami=>(.bool (fun amj=>(.int (fun amk=>(.sl (fun TB=>(fun TC=>(.sl (fun TD=>(fun TE=>(.sl (fun TF=>(fun TG=>(.sl (fun TH=>(fun TJ=>(.sl (fun TK=>(fun TL=>(.sl (fun TM=>(fun TN=>(.done (br (br (br (pr.nl Tv) (br (pr.nl Tx) (br (pr.nl TA) (br (pr.nl TC) (br (pr.nl TE) (br (pr.nl TG) (br (pr.nl TJ) (br (pr.nl TL) (br (pr.nl TN) true false) false) false) false) false) false) false) false) false) true false) (br (br (br (pr.neq eU.image.length Tu) (br (pr.neq eU.mt.av.length Tw) (br (pr.neq eU.mt.bits.length Tz) (br (pr.neq eU.aA.a.length TB) (br (pr.neq eU.aA.b.length TD) (br (pr.neq eU.conn.length TF) (br (pr.neq eU.sync.length TH) (br (pr.neq eU.aH.length TK) (br (pr.neq eU.wait.length TM) true false) false) false) false) false) false) false) false) false) true false) (cv 26 [(.agg [(.int .i64 fI.id),(.bool fI.up),(.bool fI.bS),(.sl (some true) 1 YV (bz true YW)),(.sl (some true) 1 YX (bz true YY)),(.sl (some true) 1 YZ (bz true Y0)),(.bool fI.mt.cf),(.bool fI.mt.bB),(.bool fI.mt.held),(.int .i64 fI.mt.last),(.sl (some true) 1 Y1 (bz true Y2)),(.sl (some true) 1 Y3 (bz true Y4)),(.sl (some true) 1 Y5 (bz true Y6)),(.sl (some true) 1 Y7 (bz true Y8)),(.sl (some true) 1 Y9 (bz true Za)),(.sl (some true) 1 Zb (bz true Zc))]),(.int .i64 1)] (.int (fun aak=>(.done (br (pr.lt aak 0) y2 (cv 26 [(.agg [(.int .i64 eU.id),(.bool eU.up),(.bool eU.bS),(.sl (some true) 1 Tu (bz true Tv)),(.sl (some true) 1 Tw (bz true Tx)),(.sl (some true) 1 Tz (bz true TA)),(.bool eU.mt.cf),(.bool eU.mt.bB),(.bool eU.mt.held),(.int .i64 eU.mt.last),(.sl (some true) 1 TB (bz true TC)),(.sl (some true) 1 TD (bz true TE)),(.sl (some true) 1 TF (bz true TG)),(.sl (some true) 1 TH (bz true TJ)),(.sl (some true) 1 TK (bz true TL)),(.sl (some true) 1 TM (bz true TN))]),(.int .i64 aak)] (.int (fun aal=>(.done (br (pr.lt aal 0) y2 (br (br (pr.eq aal aez) false true) y2 (cv 17 [(.agg (ab (some g0) x0))] (.ty cJ.node (fun (afR:U)=>(.done (cv 17 [(.agg (ab (some g1) x1))] (.ty cJ.node (fun (afS:U)=>(.done (cv 28 [(.agg (bz true (ab none afR))),(.agg (bz true (ab none afS))),(.int .i64 x2)] (.ty cJ.node (fun (afT:U)=>(.ty cJ.node (fun (afU:U)=>(.bool (fun afV=>(.done (cv 20 [(.agg (bz true (ab none afT))),(.agg (bz true (ab none Pe)))] (.bool (fun afW=>(.done (br (br afW false true) y2 (cv 20 [(.agg (bz true (ab none afU))),(.agg (bz true (ab none J5)))] (.bool (fun afX=>(.done (br (br afX false true) y2 (br (br (pr.beq afV mK) false true) y2 (cv 26 [(.agg [(.int .i64 fI.id),(.bool fI.up),(.bool fI.bS),(.sl (some true) 1 YV (bz true YW)),(.sl (some true) 1 YX (bz true YY)),(.sl (some true) 1 YZ (bz true Y0)),(.bool fI.mt.cf),(.bool fI.mt.bB),(.bool fI.mt.held),(.int .i64 fI.mt.last),(.sl (some true) 1 Y1 (bz true Y2)),(.sl (some true) 1 Y3 (bz true Y4)),(.sl (some true) 1 Y5 (bz true Y6)),(.sl (some true) 1 Y7 (bz true Y8)),(.sl (some true) 1 Y9 (bz true Za)),(.sl (some true) 1 Zb (bz true Zc))]),(.int .i64 1)] (.int (fun aam=>(.done (br (pr.lt aam 0) y2 (cv 26 [(.agg [(.int .i64 eU.id),(.bool eU.up),(.bool eU.bS),(.sl (some true) 1 Tu (bz true Tv)),(.sl (some true) 1 Tw (bz true Tx)),(.sl (some true) 1 Tz (bz true TA)),(.bool eU.mt.cf),(.bool eU.mt.bB),(.bool eU.mt.held),(.int .i64 eU.mt.last),(.sl (some true) 1 TB (bz true TC)),(.sl (some true) 1 TD (bz true TE)),(.sl (some true) 1 TF (bz true TG)),(.sl (some true) 1 TH (bz true TJ)),(.sl (some true) 1 TK (bz true TL)),(.sl (some true) 1 TM (bz true TN))]),(.int .i64 aam)] (.int (fun aan=>(.done (br (pr.lt aan 0) y2 (br (br (pr.eq aan aez) false true) y2 y1))))))))))))))))))))))))))))))))))))))))))))))))) none) none)))))))))))))))))))))))))))))))))))))))))))))) none) none) none)))))))))))))))))))))))))))))))))))))))))))))) none))))))))))))) none) none)))))))))))))))))))))))))))))))))))))))))))))) none) none) none)))))))))))))))))))))))))))))))))))))))))))))) none)))))))))))))))))))))))))))))))))))))))))))))))))))))))))))))))))))))))):=by kernel_rfl
end
theorem abI {x y:U} {k:Int} (ok:aV x) (J7:aV y):aV (gU x y k).1/\aV (gU x y k).2.1:=by
 unfold gU;split
 ·split
  ·exact ⟨yt ⟨ok.image,ok.mt,ok.aA,ok.conn,ok.sync,ok.aH,by simp⟩ ⟨wW ok.mt.av,ok.mt.bits⟩,yt J7 ⟨J7.mt.av,J7.mt.bits⟩⟩
  ·exact ⟨ok,J7⟩
 ·exact ⟨ok,J7⟩
theorem LM (n:U) (ln:qQ n) (hi:FB n) (m:U) (lm:qQ m) (him:FB m) (k:Int) (hk:tF k=true):Cm 5 [.agg (ab (some false) n),.agg (ab (some false) m),.int .i64 k] (.bool true,[.undef,.undef,.undef]):=by
 have _:=hi;have _:=him;have _:=hk;refine Cm.step Bw _ fun J _=>?_;rw [Bx];have a1:=zc (n:=n) (l:=1048576) (by omega) (by omega)
 simp (disch:=first | assumption | omega) only [go_sem]
 refine dn (fun _=>rfl) (fun hv=>?_);have a2:=zc (n:=m) (l:=eu n 1048576) (by omega) (by omega)
 simp (disch:=first | assumption | omega) only [go_sem]
 refine dn (fun _=>rfl) (fun hv2=>?_);have ok:aV n:=a1.2.2 (by omega)
 have J7:aV m:=a2.2.2 (by omega)
 obtain ⟨ok3,ok4⟩:=abI (k:=k) ok J7;have b1:=zn ok;have b2:=zn J7;have b3:=zn ok3;have b4:=zn ok4;simp (disch:=first | assumption | omega) only [go_sem]
end Go.Proofs.YtckkpgcnhdllgaaGreat
namespace Go.Proofs.YtckkpgcnhdllgaaGreat.fnExactHold
open Go.ChangeShapes Go.WideShapes Go.ChangeAt Go.RowKit
set_option maxRecDepth 100000
theorem own:ownKnob Tryz.prog.godebug=none:=by kernel_rfl
theorem laidOut:laidOutB Tryz.prog=true:=by kernel_rfl
theorem lifted (os:Os) (started:os.Started) (H:Type) (enc:TypeId × Value->H):
  ReturnsInHanded {} Tryz.checked os 5 .any (Rows.fnExactHoldSpec.pre6 enc Tryz.prog Tryz.f5 Rows.fnExactHoldRow.domain false) (Rows.fnExactHoldSpec.post enc Tryz.prog Tryz.f5 false true false false):=by
 refine returnsInHanded_of_change_sized (C:=Tryz.checked) own started (by kernel_rfl) Tryz.func5
  (ChangeSpec.witness6 (enc:=enc) (C:=Tryz.checked) false ⟨#[],#[.agg #[.int .i64 0,.bool false,.bool false,.slice none 0 0,.slice none 0 0,.slice none 0 0,.bool false,.bool false,.bool false,.int .i64 0,.slice none 0 0,.slice none 0 0,.slice none 0 0,.slice none 0 0,.slice none 0 0,.slice none 0 0],.agg #[.int .i64 0,.bool false,.bool false,.slice none 0 0,.slice none 0 0,.slice none 0 0,.bool false,.bool false,.bool false,.int .i64 0,.slice none 0 0,.slice none 0 0,.slice none 0 0,.slice none 0 0,.slice none 0 0,.slice none 0 0],.int .i64 0],[]⟩ 8 (by kernel_rfl) (by kernel_rfl) (by kernel_rfl) (by kernel_rfl)) ?_
 intro W base args ds gs before aao hW anl aeA _;have cI:(DataW.weightsEach Tryz.prog (Tryz.f5.params.toList++Rows.fnExactHoldSpec.plain.varTypes Tryz.prog) (ds++gs)).all (·<=reachBytes)=true:=aeA;have wJ:∀ (j:Nat) t v,Tryz.f5.params[j]?=some t->args[j]?=some v->Value.okWide Tryz.prog W .any base t v:=aao;have hW':=hW;obtain ⟨p,q,Uu,hV,rfl,hfz,eR⟩:=hW;have hA:DataW.TrodAll enc Tryz.prog W 0 (fun _=>true) true Tryz.f5.params.toList args.toList ds p:=Uu;rw [Tryz.params5] at hA wJ cI;obtain ⟨v0,vs0,d0,ds0,p0,q0,alr,rfl,rfl,h0,r0⟩:=trodAll_cons hA;obtain ⟨v1,vs1,d1,gn,p1,q1,als,rfl,rfl,h1,r1⟩:=trodAll_cons r0;obtain ⟨v2,vs2,d2,sG,p2,q2,alu,rfl,rfl,h2,r2⟩:=trodAll_cons r1;obtain ⟨rfl,rfl,rfl⟩:=trodAll_nil r2;obtain rfl:args=#[v0,v1,v2]:=by cases args; simp_all
 obtain ⟨rfl,rfl⟩:=trodVars_none hV;have k0:=h0;have lt0:∀ x∈p0,x.block < W.heap.size:=by obtain ⟨m,hm⟩:=k0; exact DataW.trod_lt m _ _ _ hm
 obtain ⟨us0,rfl,_⟩:=okWide_struct Tryz.underlying31 (wJ 0 31 v0 rfl rfl);obtain ⟨aml,hf0⟩:=h0;have JC:∀ z∈d0.weights Tryz.prog 31,z<=reachBytes:=fun z hz=>by
  have:=ab9.1 cI z (DataW.weights_mem_each (j:=0) (t:=31) (d:=d0) rfl rfl z hz)
  simpa using this
 obtain ⟨aly,aiY,afY⟩:=xE (X:=Lk W [] (fun _=>True)) Ou OF hf0 (by kernel_rfl) JC
 obtain ⟨n0,rfl,ln0,in0⟩:=Rr aiY;have k1:=h1;have lt1:∀ x∈p1,x.block < W.heap.size:=by obtain ⟨m,hm⟩:=k1; exact DataW.trod_lt m _ _ _ hm
 obtain ⟨E4,rfl,_⟩:=okWide_struct Tryz.underlying31 (wJ 1 31 v1 rfl rfl);obtain ⟨amm,UU⟩:=h1;have EX:∀ z∈d1.weights Tryz.prog 31,z<=reachBytes:=fun z hz=>by
  have:=ab9.1 cI z (DataW.weights_mem_each (j:=1) (t:=31) (d:=d1) rfl rfl z hz)
  simpa using this
 obtain ⟨alC,aiZ,afZ⟩:=xE (X:=Lk W [] (fun _=>True)) Ou OF UU (by kernel_rfl) EX
 obtain ⟨n1,rfl,ln1,in1⟩:=Rr aiZ;have k2:=h2;have lt2:∀ x∈p2,x.block < W.heap.size:=by obtain ⟨m,hm⟩:=k2; exact DataW.trod_lt m _ _ _ hm
 obtain ⟨x2,rfl,_⟩:=okWide_int Tryz.underlying3 (wJ 2 3 v2 rfl rfl);obtain ⟨amn,UW⟩:=h2;have zq:∀ z∈d2.weights Tryz.prog 3,z<=reachBytes:=fun z hz=>by
  have:=ab9.1 cI z (DataW.weights_mem_each (j:=2) (t:=3) (d:=d2) rfl rfl z hz)
  simpa using this
 obtain ⟨alG,ai0,af0⟩:=xE (X:=Lk W [] (fun _=>True)) Ou (.int .i64) UW (by kernel_rfl) zq
 obtain ⟨y2,rfl,hy2⟩:=ai0;clear Uu aao aeA cI;refine (Vw y7 (f:=5) (vs:=#[.agg us0,.agg E4,.int .i64 x2]) (by kernel_rfl) (LM n0 ln0 in0 n1 ln1 in1 y2 (B4 hy2)) (by simp [dw,bX,dc,fy,bW]) (.cons (Ro afY) (.cons (Ro afZ) (.cons (aa6 af0 (by simp) (by simp)) .nil)))).mono fun e W' ⟨he,bel⟩=>?_
 subst he;exact ⟨_,rfl,_,_,_,[],_,[],hW',trodAll_mk1 (shut_bool Tryz.underlying4 _),trodAll_mk3 (Below.trod laidOut (by kernel_rfl) (of_decide_eq_true (by kernel_rfl)) k0 bel lt0) (Below.trod laidOut (by kernel_rfl) (of_decide_eq_true (by kernel_rfl)) k1 bel lt1) (Below.trod laidOut (by kernel_rfl) (of_decide_eq_true (by kernel_rfl)) k2 bel lt2),rfl,bel.frame _,fun h=>by cases h⟩
theorem closed:(((Rows.fnExactHoldRow.inPlace==Tryz.prog.inPlace 5)&&(Rows.fnExactHoldRow.unfollowed==Tryz.prog.unfollowed 5))&&((Rows.fnExactHoldRow.recurses==Tryz.prog.recurses 5)&&(Rows.fnExactHoldRow.named==Tryz.prog.varsNamed 5)))=true:=by kernel_rfl
theorem words:(Tryz.prog.mayEnter&&(Rows.fnExactHoldRow.lifted==Tryz.prog.liftsFinal)&&(Tryz.prog.make==some Rows.fnExactHoldRow.make))=true:=by kernel_rfl
theorem aeB:joinedFacts Tryz.prog 5 Tryz.f5 Rows.fnExactHoldSpec Rows.fnExactHoldRow=true:=by
 have c:=closed;have w:=words;simp only [wX] at c w;simp only [joinedFacts,wX];refine ⟨⟨⟨⟨⟨⟨⟨⟨⟨⟨⟨⟨⟨⟨⟨⟨⟨⟨⟨⟨⟨⟨⟨⟨⟨⟨⟨⟨⟨⟨⟨?_,laidOut⟩,?_⟩,?_⟩,?_⟩,?_⟩,?_⟩,?_⟩,?_⟩,c.1.1⟩,c.1.2⟩,c.2.1⟩,c.2.2⟩,?_⟩,?_⟩,?_⟩,?_⟩,?_⟩,?_⟩,?_⟩,?_⟩,?_⟩,?_⟩,?_⟩,?_⟩,w.1.1⟩,w.1.2⟩,w.2⟩,?_⟩,?_⟩,?_⟩,?_⟩<;>kernel_rfl
theorem over:Rows.fnExactHoldRow.holds Tryz.pinned (OpenSpec.ofChange Rows.fnExactHoldSpec):=
 OpenClaim.holds_of_wide 5 Tryz.f5 rfl rfl rfl rfl rfl rfl rfl ⟨rfl,rfl,rfl,rfl,rfl⟩ rfl rfl rfl rfl rfl (by kernel_rfl) Tryz.func5 aeB
  (of_decide_eq_true (by kernel_rfl)) (by unfold Func.isWrapper; first | (rw [if_pos (by decide+kernel)]; kernel_rfl) | (rw [if_neg (by decide+kernel)]; exact ⟨rfl,rfl⟩))
  (fun os started H enc _=>lifted os started H enc)
theorem proved:Rows.FnExactHoldSaid:=over
#print axioms proved
end Go.Proofs.YtckkpgcnhdllgaaGreat.fnExactHold
namespace Go.Proofs.YtckkpgcnhdllgaaGreat
theorem fnExactHold_holds:Rows.FnExactHoldSaid:=fnExactHold.proved
end Go.Proofs.YtckkpgcnhdllgaaGreat
