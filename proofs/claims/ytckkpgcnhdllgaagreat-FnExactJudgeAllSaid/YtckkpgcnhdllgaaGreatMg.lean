/- FnExactJudgeAll: the program's JudgeAll returns what the reference's returns, for all arguments (a world). No condition. -/
import Derived.Test.YtckkpgcnhdllgaaGreatRows
import Derived.WalkKit
import Derived.ProofKit
import Derived.OpenShut
import Derived.ShutString
import Derived.ChangeOld
import Derived.ChangeSame
import Derived.Below
import Derived.Carry
import Derived.SizedLaws
import Derived.Test.YtckkpgcnhdllgaaGreatMf
set_option linter.all false
set_option linter.unusedSimpArgs false
set_option linter.unusedVariables false
set_option linter.unnecessarySimpa false
set_option linter.unusedSectionVars false
namespace Go.Proofs.YtckkpgcnhdllgaaGreat
set_option maxRecDepth 100000
section
variable (pr:dC) (cv:Cv Rz) (J:Nat->St->Option Rz)
end
open Classical in
noncomputable def DS (w:ak) (a c:Int):Int × Int:=if xW w/\(0<=a/\a<=2)/\(0<=c/\c<=7)/\(w.nodes.getD a.toNat n0).cQ=true then ((w.nodes.getD a.toNat n0).image.getD c.toNat 0,0) else (0,2)
theorem aku {w:ak} {a c:Int} {l:List D} (h:¬(xW w/\(0<=a/\a<=2)/\(0<=c/\c<=7)/\(w.nodes.getD a.toNat n0).cQ=true)):(some ((.aM [.int .i64 0,.int .i64 2],l):Rz))=some (.aM [.int .i64 (DS w a c).1,.int .i64 (DS w a c).2],l):=by
 unfold DS; rw [if_neg h]
theorem ajY {w:ak} {a c:Int} {l:List D} (h:xW w/\(0<=a/\a<=2)/\(0<=c/\c<=7)/\(w.nodes.getD a.toNat n0).cQ=true):(some ((.aM [.int .i64 ((w.nodes.getD a.toNat n0).image.getD c.toNat 0),.int .i64 0],l):Rz))=some (.aM [.int .i64 (DS w a c).1,.int .i64 (DS w a c).2],l):=by
 unfold DS; rw [if_pos h]
theorem Db {w:ak} (h:¬ie w=true):¬xW w:=fun o=>h (Oz o)
set_option maxRecDepth 100000
section
variable (pr:dC) (cv:Cv Rz) (J:Nat->St->Option Rz)
def lJ (x0:ak) (i0:Int) (i1:Int) (n2:Nat) (c3:List D):St:=(St.mk [(3,(.ref 10003 [] 0 none)),(8,(.sl (some true) 16 x0.nodes.length (ab (U (some true)) x0.nodes))),(9,(.int .i64 i0)),(10,(.int .i64 i1))] [(10003,[(.sl none 1 n2 c3)])] [] 0)
theorem N1:Told cfg Tryz.prog 199 Tryz.f199:=⟨by kernel_rfl,Tryz.func199,by kernel_rfl⟩
theorem N2 (x0:ak):aW pr cv J 199 Tryz.f199 [(.agg (bM (some true) x0))]=
 (J 0 (lJ x0 (pr.aV x0.nodes.length) 0 0 [])):=by kernel_rfl
theorem Gi (x0:ak) (i0:Int) (i1:Int) (n2:Nat) (c3:List D):bL pr cv J 199 Tryz.f199 [.undef] 0 (lJ x0 i0 i1 n2 c3)=
 (br (pr.lt i1 i0) (br (pr.bm i1 x0.nodes.length) (br (br (pr.bR .i64 (ab (U (some true)) x0.nodes) (pr.idx 0 i1 16)) (br (pr.bW (ab (U (some true)) x0.nodes) ((pr.idx 0 i1 16)+1)) (br (pr.bW (ab (U (some true)) x0.nodes) ((pr.idx 0 i1 16)+2)) (br (pr.aN 1 (ab (U (some true)) x0.nodes) ((pr.idx 0 i1 16)+3)) (br (pr.aN 1 (ab (U (some true)) x0.nodes) ((pr.idx 0 i1 16)+4)) (br (pr.aN 1 (ab (U (some true)) x0.nodes) ((pr.idx 0 i1 16)+5)) (br (pr.bW (ab (U (some true)) x0.nodes) ((pr.idx 0 i1 16)+6)) (br (pr.bW (ab (U (some true)) x0.nodes) ((pr.idx 0 i1 16)+7)) (br (pr.bW (ab (U (some true)) x0.nodes) ((pr.idx 0 i1 16)+8)) (br (pr.bR .i64 (ab (U (some true)) x0.nodes) ((pr.idx 0 i1 16)+9)) (br (pr.aN 1 (ab (U (some true)) x0.nodes) ((pr.idx 0 i1 16)+10)) (br (pr.aN 1 (ab (U (some true)) x0.nodes) ((pr.idx 0 i1 16)+11)) (br (pr.aN 1 (ab (U (some true)) x0.nodes) ((pr.idx 0 i1 16)+12)) (br (pr.aN 1 (ab (U (some true)) x0.nodes) ((pr.idx 0 i1 16)+13)) (br (pr.aN 1 (ab (U (some true)) x0.nodes) ((pr.idx 0 i1 16)+14)) (br (pr.aN 1 (ab (U (some true)) x0.nodes) ((pr.idx 0 i1 16)+15)) true false) false) false) false) false) false) false) false) false) false) false) false) false) false) false) false) (br (pr.bC (ab (U (some true)) x0.nodes) ((pr.idx 0 i1 16)+2)) (br (br (pr.flat [(.int .i64 i1)]) (pr.fits (n2+1) 8) false) (J 0 (lJ x0 i0 (pr.ar .add .i64 i1 1) (n2+1) (List.append c3 [(.int .i64 i1)]))) none) (J 0 (lJ x0 i0 (pr.ar .add .i64 i1 1) n2 c3))) none) none) (some ((.sl none 1 n2 c3),[.undef]))):=by kernel_rfl
theorem IV:Told cfg Tryz.prog 123 Tryz.f123:=⟨by kernel_rfl,Tryz.func123,by kernel_rfl⟩
theorem IW (x0:ak):aW pr cv J 123 Tryz.f123 [(.agg (bM (some true) x0))]=
 let y1:Option (D × List D):=(some ((.bool false),[.undef]))
 (cv 147 [(.agg [(.sl (some true) 16 x0.nodes.length (ab (U (some true)) x0.nodes)),(.sl (some true) 3 x0.aH.length (ab (aB (some true)) x0.aH)),(.sl (some true) 2 x0.log.length (ab (bj (some true)) x0.log)),(sI (some true) x0.safe),(.int .i64 x0.gen)])] (.bool (fun bH=>(.done (br bH (cv 199 [(.agg [(.sl (some true) 16 x0.nodes.length (ab (U (some true)) x0.nodes)),(.sl (some true) 3 x0.aH.length (ab (aB (some true)) x0.aH)),(.sl (some true) 2 x0.log.length (ab (bj (some true)) x0.log)),(sI (some true) x0.safe),(.int .i64 x0.gen)])] (.ty gW.I (fun (nW:List Int)=>(.done (br (pr.le (pr.aV nW.length) 1) (br (pr.bm 0 x0.nodes.length) (br (br (pr.bW (ab (U (some true)) x0.nodes) ((pr.idx 0 0 16)+7)) true false) (br (pr.bC (ab (U (some true)) x0.nodes) ((pr.idx 0 0 16)+7)) (br (pr.bm 1 x0.nodes.length) (br (br (pr.bW (ab (U (some true)) x0.nodes) ((pr.idx 0 1 16)+7)) true false) (some ((.bool (br (pr.bC (ab (U (some true)) x0.nodes) ((pr.idx 0 1 16)+7)) false true)),[.undef])) none) none) (some ((.bool true),[.undef]))) none) none) y1))))) y1))))):=by kernel_rfl
def mm (x0:ak) (i0:Int) (i1:Int):St:=(St.mk [(1,(.ptr 1 [] 0)),(3,(.int .i64 i0)),(4,(.int .i64 i1))] [(1,[(.sl (some true) 16 x0.nodes.length (ab (U (some true)) x0.nodes)),(.sl (some true) 3 x0.aH.length (ab (aB (some true)) x0.aH)),(.sl (some true) 2 x0.log.length (ab (bj (some true)) x0.log)),(sI (some true) x0.safe),(.int .i64 x0.gen)])] [] 0)
theorem IX:Told cfg Tryz.prog 116 Tryz.f116:=⟨by kernel_rfl,Tryz.func116,by kernel_rfl⟩
theorem IY (x0:ak):aW pr cv J 116 Tryz.f116 [(.agg (bM (some true) x0))]=
 (cv 144 [(.agg [(.sl (some true) 16 x0.nodes.length (ab (U (some true)) x0.nodes)),(.sl (some true) 3 x0.aH.length (ab (aB (some true)) x0.aH)),(.sl (some true) 2 x0.log.length (ab (bj (some true)) x0.log)),(sI (some true) x0.safe),(.int .i64 x0.gen)])] (.bool (fun bH=>(.done (br (br bH false true) (some ((.bool false),[.undef])) (J 0 (mm x0 0 0))))))):=by kernel_rfl
theorem Dc (x0:ak) (i0:Int) (i1:Int):bL pr cv J 116 Tryz.f116 [.undef] 0 (mm x0 i0 i1)=
 (br (pr.lt i1 3) (br (pr.bm i1 x0.nodes.length) (br (br (pr.bW (ab (U (some true)) x0.nodes) ((pr.idx 0 i1 16)+2)) true false) (cv 192 [(.bool (pr.bC (ab (U (some true)) x0.nodes) ((pr.idx 0 i1 16)+2)))] (.int (fun ef=>(.done (J 0 (mm x0 (pr.ar .add .i64 i0 ef) (pr.ar .add .i64 i1 1))))))) none) none) (br (pr.le i0 1) (br (pr.bm 0 x0.nodes.length) (br (br (pr.bW (ab (U (some true)) x0.nodes) ((pr.idx 0 0 16)+7)) true false) (br (pr.bC (ab (U (some true)) x0.nodes) ((pr.idx 0 0 16)+7)) (br (pr.bm 1 x0.nodes.length) (br (br (pr.bW (ab (U (some true)) x0.nodes) ((pr.idx 0 1 16)+7)) true false) (some ((.bool (br (pr.bC (ab (U (some true)) x0.nodes) ((pr.idx 0 1 16)+7)) false true)),[.undef])) none) none) (some ((.bool true),[.undef]))) none) none) (some ((.bool false),[.undef])))):=by kernel_rfl
end
attribute [go_sem] S7
def gl (w:ak):Nat->List Int
 | 0=>[]
 | i+1=>if (w.nodes.getD i n0).cQ=true then gl w i++[(i:Int)] else gl w i
theorem Mm {w:ak} {i:Nat} (h:(w.nodes.getD i n0).cQ=true):gl w (i+1)=gl w i++[(i:Int)]:=by
 show (if _ then _ else _)=_
 rw [if_pos h]
theorem Mn {w:ak} {i:Nat} (h:¬(w.nodes.getD i n0).cQ=true):gl w (i+1)=gl w i:=by
 show (if _ then _ else _)=_
 rw [if_neg h]
theorem yn (w:ak):∀ i,(gl w i).length<=i
 | 0=>by simp [gl]
 | i+1=>by
  have:=yn w i;unfold gl;split
  ·simp; omega
  ·omega
theorem N3 (w:ak) (q0:cd w):Cm 199 [.agg (bM (some true) w)] (sI none (gl w w.nodes.length),[.undef]):=by
 have b1:=q0.nodes;refine Cm.step N1 [.undef] fun J hJ=>?_;rw [N2]
 try simp (disch:=first | assumption | omega) only [go_sem]
 refine hJ _ _ ?_;refine WP.up (H:=fun i:Nat=>lJ w w.nodes.length (i:Int) (gl w i).length (ints (gl w i))) w.nodes.length (fun _=>True) (fun i hi _ J hJ next=>?_) 0 (by omega) trivial
 rw [Gi];have bl:=yn w i
 try simp (disch:=first | assumption | omega) only [go_sem]
 refine bK (fun hl=>?_) (fun hl=>?_)
 ·have next:=next (by omega) trivial
  try simp (disch:=first | assumption | omega) only [go_sem]
  refine gv (fun hp=>?_) (fun hp=>?_)
  ·rw [Mm hp,aad] at next
   try simp (disch:=first | assumption | omega) only [go_sem]
   exact next
  ·rw [Mn hp] at next
   try simp (disch:=first | assumption | omega) only [go_sem]
   exact next
 ·rw [show i=w.nodes.length by omega]
@[go_sem] theorem adH (w:ak) (q0:cd w) (t:bO Rz):aX 199 [.agg (fj (some true) w)] t=feed t [enc .I (gl w w.nodes.length)]:=by
 exact bN (r:=enc .I (gl w w.nodes.length)) (s:=.ty .I) (ss:=[.undef]) (N3 w q0) (by kernel_rfl) (by simp only [av,bw,aU,bz,bA,af,aj,tC]) (by simp only [af,aJ,av,aj,tC]) (by first | rfl | simp only [au,aS,aR,bq,bt,aT,bu,tC]) (by first | rfl | simp only [UL,aab,au,tC]) t
noncomputable def jc (w:ak):Bool:=ie w&&(decide (((gl w 3).length:Int)<=1)&&!((w.nodes.getD 0 n0).mt.bY&&(w.nodes.getD 1 n0).mt.bY))
theorem IZ (w:ak) (q0:cd w):Cm 123 [.agg (bM (some true) w)] (.bool (jc w),[.undef]):=by
 unfold jc;refine Cm.step IV [.undef] fun J hJ=>?_;rw [IW]
 try simp (disch:=first | assumption | omega) only [go_sem]
 refine jb fun h=>?_;have o:=uA h;have nl:=o.ns.len;rw [show gl w 3=gl w w.nodes.length by rw [nl]]
 try simp (disch:=first | assumption | omega) only [go_sem]
 refine jb fun _=>?_
 try simp (disch:=first | assumption | omega) only [go_sem]
 cases (w.nodes.getD 0 n0).mt.bY with
 | true=>
  try simp (disch:=first | assumption | omega) only [go_sem]
  rfl
 | false=>rfl
@[go_sem] theorem aa2 (w:ak) (q0:cd w) (t:bO Rz):aX 123 [.agg (fj (some true) w)] t=feed t [.bool (jc w)]:=by
 exact bN (r:=.bool (jc w)) (s:=.bool) (ss:=[.undef]) (IZ w q0) (by kernel_rfl) (by simp only [av,bw,aU,bz,bA,af,aj,tC]) (by simp only [af,aJ,av,aj,tC]) (by first | rfl | simp only [au,aS,aR,bq,bt,aT,bu,tC]) (by first | rfl | simp only [UL,aab,au,tC]) t
theorem I0 (w:ak) (q0:cd w):Cm 116 [.agg (bM (some true) w)] (.bool (jc w),[.undef]):=by
 unfold jc;refine Cm.step IX [.undef] fun J hJ=>?_;rw [IY]
 try simp (disch:=first | assumption | omega) only [go_sem]
 refine gv (fun h=>?_) (fun h=>by rw [(Bool.not_eq_true _).mp h]; rfl)
 have o:=uA h;have nl:=o.ns.len;refine hJ _ _ ?_;refine WP.up (H:=fun i:Nat=>mm w ((gl w i).length:Int) (i:Int)) 3 (fun _=>True) (fun i hi _ J hJ next=>?_) 0 (by omega) trivial
 rw [Dc];have bl:=yn w i
 try simp (disch:=first | assumption | omega) only [go_sem]
 refine bK (fun hl=>?_) (fun hl=>?_)
 ·have next:=next (by omega) trivial
  try simp (disch:=first | assumption | omega) only [go_sem]
  by_cases hp:(w.nodes.getD i n0).cQ=true
  ·rw [Mm hp,aad] at next
   rw [hp];unfold qu
   try simp (disch:=first | assumption | omega) only [go_sem]
   exact next
  ·rw [Mn hp] at next
   rw [(Bool.not_eq_true _).mp hp];unfold qu
   try simp (disch:=first | assumption | omega) only [go_sem]
   exact next
 ·rw [show i=3 by omega]
  rw [h]
  try simp (disch:=first | assumption | omega) only [go_sem]
  refine bK (fun hc=>?_) (fun hc=>?_)
  ·rw [decide_eq_true hc]
   try simp (disch:=first | assumption | omega) only [go_sem]
   cases (w.nodes.getD 0 n0).mt.bY with
   | true=>
    try simp (disch:=first | assumption | omega) only [go_sem]
    rfl
   | false=>rfl
  ·rw [decide_eq_false hc];rfl
@[go_sem] theorem aa3 (w:ak) (q0:cd w) (t:bO Rz):aX 116 [.agg (fj (some true) w)] t=feed t [.bool (jc w)]:=by
 exact bN (r:=.bool (jc w)) (s:=.bool) (ss:=[.undef]) (I0 w q0) (by kernel_rfl) (by simp only [av,bw,aU,bz,bA,af,aj,tC]) (by simp only [af,aJ,av,aj,tC]) (by first | rfl | simp only [au,aS,aR,bq,bt,aT,bu,tC]) (by first | rfl | simp only [UL,aab,au,tC]) t
set_option maxRecDepth 100000
def fA (w:ak) (n:Int):List Int:=(iY w.log w.log.length n).reverse
theorem Dd (w:ak) (n:Int) (h:n<=w.log.length):(fA w n).length<=w.log.length:=by
 have:=SX (log:=w.log) w.log.length n;unfold fA;rw [List.length_reverse];omega
theorem Rk (w:ak) (n:Int) (ok:cd w):Cm 204 [.agg (bM (some true) w),.int .i64 n] (sI none (fA w n),[.undef,.undef]):=QP true w ok n
theorem Rl (w:ak) (n:Int) (ok:cd w):Cm 195 [.agg (bM (some true) w),.int .i64 n] (sI none (fA w n),[.undef,.undef]):=QO true w ok n
@[go_sem] theorem agp (w:ak) (n:Int) (q0:cd w) (t:bO Rz):aX 204 [.agg (fj (some true) w),.int .i64 n] t=feed t [enc .I (fA w n)]:=by
 exact bN (r:=enc .I (fA w n)) (s:=.ty .I) (ss:=[.undef,.undef]) (Rk w n q0) (by kernel_rfl) (by simp only [av,bw,aU,bz,bA,af,aj,tC]) (by simp only [af,aJ,av,aj,tC]) (by first | rfl | simp only [au,aS,aR,bq,bt,aT,bu,tC]) (by first | rfl | simp only [UL,aab,au,tC]) t
@[go_sem] theorem agq (w:ak) (n:Int) (q0:cd w) (t:bO Rz):aX 195 [.agg (fj (some true) w),.int .i64 n] t=feed t [enc .I (fA w n)]:=by
 exact bN (r:=enc .I (fA w n)) (s:=.ty .I) (ss:=[.undef,.undef]) (Rl w n q0) (by kernel_rfl) (by simp only [av,bw,aU,bz,bA,af,aj,tC]) (by simp only [af,aJ,av,aj,tC]) (by first | rfl | simp only [au,aS,aR,bq,bt,aT,bu,tC]) (by first | rfl | simp only [UL,aab,au,tC]) t
section
variable (g:Bool) (n:Nat) (c:List D)
@[go_sem] theorem aoW:ad.aN 1 [.sl (some g) 1 n c] 0=true:=rfl
@[go_sem] theorem aoX:ad.aG [.sl (some g) 1 n c] 0=g:=rfl
@[go_sem] theorem aoY:ad.aD [.sl (some g) 1 n c] 0=n:=rfl
@[go_sem] theorem aoZ:ad.aF [.sl (some g) 1 n c] 0=c:=rfl
end
theorem Mo {α:Type} {e:α->List D} {k:Nat} (h:∀ x,(e x).length=k):∀ (xs:List α) (n:Nat),List.take (Nat.mul n k) (ab e xs)=ab e (xs.take n)
 | [],n=>by simp [ab]
 | x::xs,0=>by show List.take (0*k) _=_; simp [ab]
 | x::xs,n+1=>by
  have e1:ab e (x::xs)=e x++ab e xs:=by simp [ab]
  have e2:ab e ((x::xs).take (n+1))=e x++ab e (xs.take n):=by simp [ab]
  rw [e1,e2,List.take_append];have e3:Nat.mul (n+1) k=n*k+k:=Nat.succ_mul n k;rw [e3,h x,ad8 (by rw [h x]; omega),show n*k+k - k=Nat.mul n k by show _=n*k; omega,Mo h xs n]
@[go_sem] theorem takeN (g:Option Bool) (xs:List ae) (n:Nat):List.take (Nat.mul n 16) (ab (U g) xs)=ab (U g) (xs.take n):=Mo (e:=U g) (fun _=>rfl) xs n
attribute [go_sem] af0
@[go_sem] theorem getD_take {α:Type} {xs:List α} {m i:Nat} {d:α} (h:i < m):(xs.take m).getD i d=xs.getD i d:=by
 rw [abi,abi,aeK h]
section
variable (pr:dC) (cv:Cv Rz) (J:Nat->St->Option Rz)
def eU (g:Bool) (xs:List Int) (c0:List D) (n1:Nat) (i2:Int) (i3:Int):St:=(St.mk [(0,(sI (some g) xs)),(1,(.fn 251 [(.cr c0 n1)])),(7,(.int .i64 i2)),(8,(.int .i64 i3))] [] [] 0)
theorem qW:Told cfg Tryz.prog 216 Tryz.f216:=⟨by kernel_rfl,Tryz.func216,by kernel_rfl⟩
theorem qX (u0:List D) (v0:Nat) (g:Bool) (xs:List Int):aW pr cv J 216 Tryz.f216 [(sI (some g) xs),(.fn 251 [(.cr u0 v0)])]=
 (J 0 (eU g xs u0 v0 (pr.aV xs.length) 0)):=by kernel_rfl
theorem jD (g:Bool) (xs:List Int) (c0:List D) (n1:Nat) (i2:Int) (i3:Int):bL pr cv J 216 Tryz.f216 [.undef,.undef] 0 (eU g xs c0 n1 i2 i3)=
 (br (pr.lt i3 i2) (br (pr.bm i3 xs.length) (br (br (pr.bR .i64 (ints xs) (pr.idx 0 i3 1)) true false) (cv 251 [(.int .i64 (pr.aO (ints xs) (pr.idx 0 i3 1))),(.cr c0 n1)] (.bool (fun bH=>(.done (br bH (some ((.int .i64 i3),[.undef,.undef])) (J 0 (eU g xs c0 n1 i2 (pr.ar .add .i64 i3 1)))))))) none) none) (some ((.int .i64 (-1)),[.undef,.undef]))):=by kernel_rfl
theorem pG:Told cfg Tryz.prog 135 Tryz.f135:=⟨by kernel_rfl,Tryz.func135,by kernel_rfl⟩
theorem pH (u0:List D) (v0:Nat) (g:Bool) (xs:List Int):aW pr cv J 135 Tryz.f135 [(sI (some g) xs),(.fn 251 [(.cr u0 v0)])]=
 (cv 216 [(sI (some g) xs),(.fn 251 [(.cr u0 v0)])] (.int (fun ef=>(.done (some ((.bool (pr.le 0 ef)),[.undef,.undef])))))):=by kernel_rfl
end
theorem N4 (u0:List D) (v0:Nat) (g:Bool) (xs:List Int) (p:Int->Bool) (hb:xs.length < 4611686018427387904) (hc:∀ i,i < xs.length->∀ t:bO Rz,aX 251 [.int .i64 (xs.getD i 0),.cr u0 v0] t=feed t [.bool (p (xs.getD i 0))]):Cm 216 [.sl (some g) 1 xs.length (ints xs),.fn 251 [.cr u0 v0]] (.int .i64 (tg p xs),[.undef,.undef]):=by
 refine Cm.step qW [.undef,.undef] fun J hJ=>?_;rw [qX];refine hJ _ _ ?_;refine Gd (d:=0) (H:=fun i=>eU g xs u0 v0 xs.length (i:Nat)) (fun i hi J=>?_) (fun J=>?_)
 ·rw [jD];simp (disch:=first | assumption | omega) only [go_sem,hc i hi]
  cases p (xs.getD i 0) with
  | true=>rfl
  | false=>
   simp (disch:=first | assumption | omega) only [go_sem]
   rfl
 ·rw [jD];simp (disch:=first | assumption | omega) only [go_sem]
theorem Gj (u0:List D) (v0:Nat) (g:Bool) (xs:List Int) (p:Int->Bool) (hb:xs.length < 4611686018427387904) (hc:∀ i,i < xs.length->∀ t:bO Rz,aX 251 [.int .i64 (xs.getD i 0),.cr u0 v0] t=feed t [.bool (p (xs.getD i 0))]):Cm 135 [.sl (some g) 1 xs.length (ints xs),.fn 251 [.cr u0 v0]] (.bool (xs.any p),[.undef,.undef]):=by
 refine Cm.step pG [.undef,.undef] fun J hJ=>?_;rw [pH];have:=bh (N4 u0 v0 g xs p hb hc) (by kernel_rfl)
 rw [this];show some ((.bool (decide (0<=tg p xs)),[.undef,.undef]):Rz)=_;rw [K2]
section
variable (pr:dC) (cv:Cv Rz) (J:Nat->St->Option Rz)
theorem I1:Told cfg Tryz.prog 251 Tryz.f251:=⟨by kernel_rfl,Tryz.func251,by kernel_rfl⟩
theorem I2 (ys:List Int) (g:Bool) (a:Int):aW pr cv J 251 Tryz.f251 [(.int .i64 a),(.cr [(sI (some g) ys)] 0)]=
 (br (br (pr.aN 1 [(sI (some g) ys)] 0) true false) (cv 106 [(.sl (some (pr.aG [(sI (some g) ys)] 0)) 1 (pr.aD [(sI (some g) ys)] 0) (pr.aF [(sI (some g) ys)] 0)),(.int .i64 a)] (.bool (fun bH=>(.done (some ((.bool (br bH false true)),[.undef,.undef])))))) none):=by kernel_rfl
theorem N5:Told cfg Tryz.prog 206 Tryz.f206:=⟨by kernel_rfl,Tryz.func206,by kernel_rfl⟩
theorem N6 (x0:List Int) (x1:List Int):aW pr cv J 206 Tryz.f206 [(sI (some true) x0),(sI (some true) x1)]=
 (cv 135 [(sI (some true) x0),(.fn 251 [(.cr [(sI (some true) x1)] 0)])] (.bool (fun bH=>(.done (some ((.bool (br bH false true)),[.undef,.undef])))))):=by kernel_rfl
def jd (x0:ak) (n0:Nat) (c1:List D) (i2:Int) (i3:Int):St:=(St.mk [(1,(.ptr 1 [] 0)),(11,(.sl (some true) 16 n0 c1)),(12,(.int .i64 i2)),(13,(.int .i64 i3))] [(1,[(.sl (some true) 16 x0.nodes.length (ab (U (some true)) x0.nodes)),(.sl (some true) 3 x0.aH.length (ab (aB (some true)) x0.aH)),(.sl (some true) 2 x0.log.length (ab (bj (some true)) x0.log)),(sI (some true) x0.safe),(.int .i64 x0.gen)])] [] 0)
theorem Gk:Told cfg Tryz.prog 126 Tryz.f126:=⟨by kernel_rfl,Tryz.func126,by kernel_rfl⟩
theorem Gl (x0:ak):aW pr cv J 126 Tryz.f126 [(.agg (bM (some true) x0))]=
 (cv 147 [(.agg [(.sl (some true) 16 x0.nodes.length (ab (U (some true)) x0.nodes)),(.sl (some true) 3 x0.aH.length (ab (aB (some true)) x0.aH)),(.sl (some true) 2 x0.log.length (ab (bj (some true)) x0.log)),(sI (some true) x0.safe),(.int .i64 x0.gen)])] (.bool (fun bH=>(.done (br (br bH false true) (some ((.bool false),[.undef])) (br (pr.vX 0 2 x0.nodes.length) (J 0 (jd x0 (pr.nF 2 0) (List.take (Nat.mul (pr.nF 2 0) 16) (List.drop (Nat.mul (pr.iv 0) 16) (ab (U (some true)) x0.nodes))) (pr.aV (pr.nF 2 0)) 0)) none)))))):=by kernel_rfl
theorem Bb (x0:ak) (n0:Nat) (c1:List D) (i2:Int) (i3:Int):bL pr cv J 126 Tryz.f126 [.undef] 0 (jd x0 n0 c1 i2 i3)=
 let y1:Option Rz:=(J 0 (jd x0 n0 c1 i2 (pr.ar .add .i64 i3 1)))
 let y2:Option Rz:=(cv 204 [(.agg [(.sl (some true) 16 x0.nodes.length (ab (U (some true)) x0.nodes)),(.sl (some true) 3 x0.aH.length (ab (aB (some true)) x0.aH)),(.sl (some true) 2 x0.log.length (ab (bj (some true)) x0.log)),(sI (some true) x0.safe),(.int .i64 x0.gen)]),(.int .i64 (pr.aO c1 ((pr.idx 0 i3 16)+9)))] (.ty gW.I (fun (aL:List Int)=>(.done (cv 206 [(sI (some true) x0.safe),(fC true (sI none aL))] (.bool (fun eQ=>(.done (br (br eQ false true) (some ((.bool false),[.undef])) y1)))))))))
 (br (pr.lt i3 i2) (br (pr.bm i3 n0) (br (br (pr.bR .i64 c1 (pr.idx 0 i3 16)) (br (pr.bW c1 ((pr.idx 0 i3 16)+1)) (br (pr.bW c1 ((pr.idx 0 i3 16)+2)) (br (pr.aN 1 c1 ((pr.idx 0 i3 16)+3)) (br (pr.aN 1 c1 ((pr.idx 0 i3 16)+4)) (br (pr.aN 1 c1 ((pr.idx 0 i3 16)+5)) (br (pr.bW c1 ((pr.idx 0 i3 16)+6)) (br (pr.bW c1 ((pr.idx 0 i3 16)+7)) (br (pr.bW c1 ((pr.idx 0 i3 16)+8)) (br (pr.bR .i64 c1 ((pr.idx 0 i3 16)+9)) (br (pr.aN 1 c1 ((pr.idx 0 i3 16)+10)) (br (pr.aN 1 c1 ((pr.idx 0 i3 16)+11)) (br (pr.aN 1 c1 ((pr.idx 0 i3 16)+12)) (br (pr.aN 1 c1 ((pr.idx 0 i3 16)+13)) (br (pr.aN 1 c1 ((pr.idx 0 i3 16)+14)) (br (pr.aN 1 c1 ((pr.idx 0 i3 16)+15)) true false) false) false) false) false) false) false) false) false) false) false) false) false) false) false) false) (br (pr.bC c1 ((pr.idx 0 i3 16)+2)) y2 (br (pr.bC c1 ((pr.idx 0 i3 16)+6)) (br (br (pr.bC c1 ((pr.idx 0 i3 16)+7)) false true) (br (pr.bC c1 ((pr.idx 0 i3 16)+8)) y2 y1) y1) y1)) none) none) (some ((.bool true),[.undef]))):=by kernel_rfl
def gO (x0:ak) (i0:Int):St:=(St.mk [(1,(.ptr 1 [] 0)),(3,(.int .i64 i0))] [(1,[(.sl (some true) 16 x0.nodes.length (ab (U (some true)) x0.nodes)),(.sl (some true) 3 x0.aH.length (ab (aB (some true)) x0.aH)),(.sl (some true) 2 x0.log.length (ab (bj (some true)) x0.log)),(sI (some true) x0.safe),(.int .i64 x0.gen)])] [] 0)
def je (x0:ak) (i0:Int) (i1:Int) (n2:Nat) (c3:List D):St:=(St.mk [(1,(.ptr 1 [] 0)),(3,(.int .i64 i0)),(5,(.ref 10005 [] 0 none)),(6,(.int .i64 i1))] [(1,[(.sl (some true) 16 x0.nodes.length (ab (U (some true)) x0.nodes)),(.sl (some true) 3 x0.aH.length (ab (aB (some true)) x0.aH)),(.sl (some true) 2 x0.log.length (ab (bj (some true)) x0.log)),(sI (some true) x0.safe),(.int .i64 x0.gen)]),(10005,[(.sl none 1 n2 c3)])] [] 0)
theorem Gm:Told cfg Tryz.prog 119 Tryz.f119:=⟨by kernel_rfl,Tryz.func119,by kernel_rfl⟩
theorem Gn (x0:ak):aW pr cv J 119 Tryz.f119 [(.agg (bM (some true) x0))]=
 (cv 144 [(.agg [(.sl (some true) 16 x0.nodes.length (ab (U (some true)) x0.nodes)),(.sl (some true) 3 x0.aH.length (ab (aB (some true)) x0.aH)),(.sl (some true) 2 x0.log.length (ab (bj (some true)) x0.log)),(sI (some true) x0.safe),(.int .i64 x0.gen)])] (.bool (fun bH=>(.done (br (br bH false true) (some ((.bool false),[.undef])) (J 0 (gO x0 0))))))):=by kernel_rfl
theorem Bc (x0:ak) (i0:Int):bL pr cv J 119 Tryz.f119 [.undef] 0 (gO x0 i0)=
 let y1:Option Rz:=(J 0 (gO x0 (pr.ar .add .i64 i0 1)))
 let y2:Option Rz:=(cv 195 [(.agg [(.sl (some true) 16 x0.nodes.length (ab (U (some true)) x0.nodes)),(.sl (some true) 3 x0.aH.length (ab (aB (some true)) x0.aH)),(.sl (some true) 2 x0.log.length (ab (bj (some true)) x0.log)),(sI (some true) x0.safe),(.int .i64 x0.gen)]),(.int .i64 (pr.aO (ab (U (some true)) x0.nodes) ((pr.idx 0 i0 16)+9)))] (.ty gW.I (fun (aL:List Int)=>(.done (J 2 (je x0 i0 0 aL.length (ints aL)))))))
 (br (pr.lt i0 2) (br (pr.bm i0 x0.nodes.length) (br (br (pr.bR .i64 (ab (U (some true)) x0.nodes) (pr.idx 0 i0 16)) (br (pr.bW (ab (U (some true)) x0.nodes) ((pr.idx 0 i0 16)+1)) (br (pr.bW (ab (U (some true)) x0.nodes) ((pr.idx 0 i0 16)+2)) (br (pr.aN 1 (ab (U (some true)) x0.nodes) ((pr.idx 0 i0 16)+3)) (br (pr.aN 1 (ab (U (some true)) x0.nodes) ((pr.idx 0 i0 16)+4)) (br (pr.aN 1 (ab (U (some true)) x0.nodes) ((pr.idx 0 i0 16)+5)) (br (pr.bW (ab (U (some true)) x0.nodes) ((pr.idx 0 i0 16)+6)) (br (pr.bW (ab (U (some true)) x0.nodes) ((pr.idx 0 i0 16)+7)) (br (pr.bW (ab (U (some true)) x0.nodes) ((pr.idx 0 i0 16)+8)) (br (pr.bR .i64 (ab (U (some true)) x0.nodes) ((pr.idx 0 i0 16)+9)) (br (pr.aN 1 (ab (U (some true)) x0.nodes) ((pr.idx 0 i0 16)+10)) (br (pr.aN 1 (ab (U (some true)) x0.nodes) ((pr.idx 0 i0 16)+11)) (br (pr.aN 1 (ab (U (some true)) x0.nodes) ((pr.idx 0 i0 16)+12)) (br (pr.aN 1 (ab (U (some true)) x0.nodes) ((pr.idx 0 i0 16)+13)) (br (pr.aN 1 (ab (U (some true)) x0.nodes) ((pr.idx 0 i0 16)+14)) (br (pr.aN 1 (ab (U (some true)) x0.nodes) ((pr.idx 0 i0 16)+15)) true false) false) false) false) false) false) false) false) false) false) false) false) false) false) false) false) (br (br (pr.bC (ab (U (some true)) x0.nodes) ((pr.idx 0 i0 16)+2)) false true) (br (pr.bC (ab (U (some true)) x0.nodes) ((pr.idx 0 i0 16)+6)) (br (br (pr.bC (ab (U (some true)) x0.nodes) ((pr.idx 0 i0 16)+7)) false true) (br (br (pr.bC (ab (U (some true)) x0.nodes) ((pr.idx 0 i0 16)+8)) false true) y1 y2) y1) y1) y2) none) none) (some ((.bool true),[.undef]))):=by kernel_rfl
theorem Bd (x0:ak) (i0:Int) (i1:Int) (n2:Nat) (c3:List D):bL pr cv J 119 Tryz.f119 [.undef] 2 (je x0 i0 i1 n2 c3)=
 (br (pr.lt i1 (pr.aV x0.safe.length)) (br (pr.bm i1 x0.safe.length) (br (br (pr.bR .i64 (ints x0.safe) (pr.idx 0 i1 1)) true false) (cv 102 [(.sl (some true) 1 n2 (cI true c3)),(.int .i64 (pr.aO (ints x0.safe) (pr.idx 0 i1 1)))] (.bool (fun bH=>(.done (br (br bH false true) (some ((.bool false),[.undef])) (J 2 (je x0 i0 (pr.ar .add .i64 i1 1) n2 c3))))))) none) none) (J 0 (gO x0 (pr.ar .add .i64 i0 1)))):=by kernel_rfl
end
theorem I3 (ys:List Int) (a:Int) (h:ys.length < 4611686018427387904):Cm 251 [.int .i64 a,.cr [sI (some true) ys] 0] (.bool (!decide (a∈ys)),[.undef,.undef]):=by
 refine Cm.step I1 [.undef,.undef] fun J hJ=>?_;rw [I2];simp (disch:=first | assumption | omega) only [go_sem]
 cases decide (a∈ys)<;>rfl
@[go_sem] theorem ZV (ys:List Int) (g:Bool) (m n:Nat) (xs:List Int) (hn:n=xs.length) (hm:m=ys.length) (hb:xs.length < 4611686018427387904) (h:ys.length < 4611686018427387904) (t:bO Rz):aX 135 [.sl (some g) 1 n (ints xs),.fn 251 [.cr [.sl (some true) 1 m (ints ys)] 0]] t=feed t [.bool (xs.any fun a=>!decide (a∈ys))]:=by
 subst hn;subst hm;exact bh (Gj _ _ g xs _ hb fun i hi t=>bh (I3 ys _ h) (by kernel_rfl) t) (by kernel_rfl) t
def th (xs ys:List Int):Bool:=xs.all fun a=>decide (a∈ys)
theorem vg {xs ys:List Int}:th xs ys=true↔∀ x∈xs,x∈ys:=by simp [th]
theorem N7 (xs:List Int) (ys:List Int) (q0:xs.length < 4611686018427387904) (q1:ys.length < 4611686018427387904):Cm 206 [sI (some true) xs,sI (some true) ys] (.bool (th xs ys),[.undef,.undef]):=by
 refine Cm.step N5 [.undef,.undef] fun J hJ=>?_;rw [N6];simp (disch:=first | assumption | omega) only [go_sem]
 rw [show th xs ys=!(xs.any fun a=>!decide (a∈ys)) by simp [th,List.all_eq_not_any_not]]
 cases xs.any fun a=>!decide (a∈ys)<;>rfl
@[go_sem] theorem adI (Mk:Nat) (xs:List Int) (ys0:Nat) (ys:List Int) (e0:Mk=xs.length) (e1:ys0=ys.length) (q0:xs.length < 4611686018427387904) (q1:ys.length < 4611686018427387904) (t:bO Rz):aX 206 [.sl (some true) 1 Mk (ints xs),.sl (some true) 1 ys0 (ints ys)] t=feed t [.bool (th xs ys)]:=by
 subst e0;subst e1;exact bN (r:=.bool (th xs ys)) (s:=.bool) (ss:=[.undef,.undef]) (N7 xs ys q0 q1) (by kernel_rfl) (by simp only [av,bw,aU,bz,bA,af,aj,tC]) (by simp only [af,aJ,av,aj,tC]) (by first | rfl | simp only [au,aS,aR,bq,bt,aT,bu,tC]) (by first | rfl | simp only [UL,aab,au,tC]) t
def iC (n:ae):Bool:=n.cQ||(n.mt.dk&&(!n.mt.bY&&n.mt.held))
section
variable {n:ae}
theorem ld1 (hp:n.cQ=true):iC n=true:=by simp [iC,hp]
theorem ld2 (hf:n.mt.dk=true) (ho:¬n.mt.bY=true) (hh:n.mt.held=true):iC n=true:=by simp [iC,hf,ho,hh]
theorem ln1 (hp:¬n.cQ=true) (ho:n.mt.bY=true):¬iC n=true:=by simp [iC,hp,ho]
theorem ln2 (hp:¬n.cQ=true) (hh:¬n.mt.held=true):¬iC n=true:=by simp [iC,hp,hh]
theorem ln3 (hp:¬n.cQ=true) (hf:¬n.mt.dk=true):¬iC n=true:=by simp [iC,hp,hf]
end
def Rm (w:ak) (i:Nat):Prop:=iC (w.nodes.getD i n0)=true->∀ x∈w.safe,x∈fA w (w.nodes.getD i n0).mt.last
structure OA (w:ak):Prop where
 ok:xW w
 all:∀ i,i < 2->Rm w i
noncomputable def jL (w:ak):Bool:=oV (OA w)
theorem Gp (w:ak) (q0:cd w):Cm 126 [.agg (bM (some true) w)] (.bool (jL w),[.undef]):=by
 unfold jL;have b3:=q0.log;have b4:=q0.safe;refine Cm.step Gk [.undef] fun J hJ=>?_;rw [Gl]
 try simp (disch:=first | assumption | omega) only [go_sem]
 refine gv (fun h=>?_) (fun h=>eK fun o=>Db h o.ok);have o:=uA h;have nl:=o.ns.len;have tl:(w.nodes.take 2).length=2:=by rw [aaB]; omega
 try simp (disch:=first | assumption | omega) only [go_sem]
 refine hJ _ _ ?_;refine WP.up (H:=fun i:Nat=>jd w 2 (ab (U (some true)) (w.nodes.take 2)) 2 (i:Int)) 2 (fun i=>∀ a,a < i->Rm w a) (fun i hi inv J hJ next=>?_) 0 (by omega) (fun a h=>absurd h (by omega))
 rw [Bb]
 try simp (disch:=first | assumption | omega) only [go_sem]
 refine bK (fun hl=>?_) (fun hl=>As ⟨o,fun a ha=>inv a (by omega)⟩)
 have nx:=(o.ns.nd i (by omega)).last
 have cl:=Dd w (w.nodes.getD i n0).mt.last (by omega)
 try simp (disch:=first | assumption | omega) only [go_sem]
 have vh:Rm w i->J 0 (jd w 2 (ab (U (some true)) (List.take 2 w.nodes)) 2 ((i:Int)+1))=some (.bool (oV (OA w)),[.undef]):=fun h=>next (by omega) (dm inv h)
 refine gv (fun hp=>?_) (fun hp=>?_)
 ·have le:iC (w.nodes.getD i n0)=true:=ld1 hp
  try simp (disch:=first | assumption | omega) only [go_sem]
  refine gv (fun ha=>?_) (fun ha=>eK fun o=>ha (vg.2 (o.all i (by omega) le)))
  try simp (disch:=first | assumption | omega) only [go_sem]
  exact vh fun _=>vg.1 ha
 ·try simp (disch:=first | assumption | omega) only [go_sem]
  refine gv (fun hf=>?_) (fun hf=>?_)
  ·try simp (disch:=first | assumption | omega) only [go_sem]
   refine gv (fun ho=>?_) (fun ho=>?_)
   ·have le:¬iC (w.nodes.getD i n0)=true:=ln1 hp ho
    try simp (disch:=first | assumption | omega) only [go_sem]
    exact vh fun h=>absurd h le
   ·try simp (disch:=first | assumption | omega) only [go_sem]
    refine gv (fun hh=>?_) (fun hh=>?_)
    ·have le:iC (w.nodes.getD i n0)=true:=ld2 hf ho hh
     try simp (disch:=first | assumption | omega) only [go_sem]
     refine gv (fun ha=>?_) (fun ha=>eK fun o=>ha (vg.2 (o.all i (by omega) le)))
     try simp (disch:=first | assumption | omega) only [go_sem]
     exact vh fun _=>vg.1 ha
    ·have le:¬iC (w.nodes.getD i n0)=true:=ln2 hp hh
     try simp (disch:=first | assumption | omega) only [go_sem]
     exact vh fun h=>absurd h le
  ·have le:¬iC (w.nodes.getD i n0)=true:=ln3 hp hf
   try simp (disch:=first | assumption | omega) only [go_sem]
   exact vh fun h=>absurd h le
@[go_sem] theorem ZW (w:ak) (q0:cd w) (t:bO Rz):aX 126 [.agg (fj (some true) w)] t=feed t [.bool (jL w)]:=by
 exact bN (r:=.bool (jL w)) (s:=.bool) (ss:=[.undef]) (Gp w q0) (by kernel_rfl) (by simp only [av,bw,aU,bz,bA,af,aj,tC]) (by simp only [af,aJ,av,aj,tC]) (by first | rfl | simp only [au,aS,aR,bq,bt,aT,bu,tC]) (by first | rfl | simp only [UL,aab,au,tC]) t
theorem Gq (w:ak) (q0:cd w):Cm 119 [.agg (bM (some true) w)] (.bool (jL w),[.undef]):=by
 unfold jL;have b3:=q0.log;have b4:=q0.safe;refine Cm.step Gm [.undef] fun J hJ=>?_;rw [Gn]
 try simp (disch:=first | assumption | omega) only [go_sem]
 refine gv (fun h=>?_) (fun h=>eK fun o=>Db h o.ok);have o:=uA h;have nl:=o.ns.len
 try simp (disch:=first | assumption | omega) only [go_sem]
 refine hJ _ _ ?_;refine WP.Ml (H:=fun i:Nat=>gO w (i:Int)) 2 (fun i=>∀ a,a < i->Rm w a) (fun i hi inv next=>?_) 0 (by omega) (fun a h=>absurd h (by omega))
 refine WP.step fun J hJ=>?_;rw [Bc]
 try simp (disch:=first | assumption | omega) only [go_sem]
 refine bK (fun hl=>?_) (fun hl=>As ⟨o,fun a ha=>inv a (by omega)⟩)
 have nx:=(o.ns.nd i (by omega)).last
 have cl:=Dd w (w.nodes.getD i n0).mt.last (by omega)
 have vh:Rm w i->J 0 (gO w ((i:Int)+1))=some (.bool (oV (OA w)),[.undef]):=fun h=>hJ _ _ (next (by omega) (dm inv h))
 have inner:iC (w.nodes.getD i n0)=true->WP 119 Tryz.f119 [.undef] 2 (je w i ((0:Nat):Int) (fA w (w.nodes.getD i n0).mt.last).length (ints (fA w (w.nodes.getD i n0).mt.last))) (.bool (oV (OA w)),[.undef]):=by
  intro le;refine WP.up (H:=fun k:Nat=>je w i (k:Int) (fA w (w.nodes.getD i n0).mt.last).length (ints (fA w (w.nodes.getD i n0).mt.last))) w.safe.length (fun k=>∀ b,b < k->w.safe.getD b 0∈fA w (w.nodes.getD i n0).mt.last) (fun k hk inv2 J hJ qe=>?_) 0 (by omega) (fun a h=>absurd h (by omega))
  rw [Bd]
  try simp (disch:=first | assumption | omega) only [go_sem]
  refine bK (fun yv=>?_) (fun yv=>?_)
  ·try simp (disch:=first | assumption | omega) only [go_sem]
   refine bK (fun hm=>?_) (fun hm=>eK fun o=>hm (o.all i (by omega) le _ (pc (by omega))))
   try simp (disch:=first | assumption | omega) only [go_sem]
   exact qe (by omega) (dm inv2 hm)
  ·try simp (disch:=first | assumption | omega) only [go_sem]
   refine hJ _ _ (next (by omega) (dm inv fun _ x hx=>?_))
   obtain ⟨b,hb,rfl⟩:=aeQ hx;rw [<- dT (d:=0) hb];exact inv2 b (by omega)
 try simp (disch:=first | assumption | omega) only [go_sem]
 refine gv (fun hp=>?_) (fun hp=>?_)
 ·have le:iC (w.nodes.getD i n0)=true:=ld1 hp
  try simp (disch:=first | assumption | omega) only [go_sem]
  exact hJ _ _ (inner le)
 ·try simp (disch:=first | assumption | omega) only [go_sem]
  refine gv (fun hf=>?_) (fun hf=>?_)
  ·try simp (disch:=first | assumption | omega) only [go_sem]
   refine gv (fun ho=>?_) (fun ho=>?_)
   ·have le:¬iC (w.nodes.getD i n0)=true:=ln1 hp ho
    try simp (disch:=first | assumption | omega) only [go_sem]
    exact vh fun h=>absurd h le
   ·try simp (disch:=first | assumption | omega) only [go_sem]
    refine gv (fun hh=>?_) (fun hh=>?_)
    ·have le:iC (w.nodes.getD i n0)=true:=ld2 hf ho hh
     try simp (disch:=first | assumption | omega) only [go_sem]
     exact hJ _ _ (inner le)
    ·have le:¬iC (w.nodes.getD i n0)=true:=ln2 hp hh
     try simp (disch:=first | assumption | omega) only [go_sem]
     exact vh fun h=>absurd h le
  ·have le:¬iC (w.nodes.getD i n0)=true:=ln3 hp hf
   try simp (disch:=first | assumption | omega) only [go_sem]
   exact vh fun h=>absurd h le
@[go_sem] theorem ZX (w:ak) (q0:cd w) (t:bO Rz):aX 119 [.agg (fj (some true) w)] t=feed t [.bool (jL w)]:=by
 exact bN (r:=.bool (jL w)) (s:=.bool) (ss:=[.undef]) (Gq w q0) (by kernel_rfl) (by simp only [av,bw,aU,bz,bA,af,aj,tC]) (by simp only [af,aJ,av,aj,tC]) (by first | rfl | simp only [au,aS,aR,bq,bt,aT,bu,tC]) (by first | rfl | simp only [UL,aab,au,tC]) t
set_option maxRecDepth 100000
theorem Td {log:List fe} {x:Int}:∀ (f:Nat) (n:Int),x∈iY log f n->1<=x/\x<=log.length
 | 0,_,h=>by simp [iY] at h
 | f+1,n,h=>by
  rw [iY] at h;split at h
  ·rename_i hn;rw [aap] at h;rcases h with rfl | h
   ·exact hn
   ·split at h
    ·exact Td f _ h
    ·simp at h
  ·simp at h
theorem Xx {w:ak} {n x:Int} (h:x∈fA w n):1<=x/\x<=w.log.length:=Td _ _ (List.mem_reverse.1 h)
theorem Rn (w:ak) (n:Int):(fA w n).length<=w.log.length:=by
 by_cases h:n<=w.log.length
 ·exact Dd w n h
 ·unfold fA;rw [kQ (by omega)]
  simp
theorem Ro {w:ak} (ok:cd w) (n:Int):nG (fA w n):=fun x hx=>by
 have:=Xx hx;have:=ok.log;rw [Af];omega
def ju (w:ak) (l:List Int):List Int:=rpl w.log l
theorem vj (w:ak) (l:List Int):(ju w l).length=8:=by
 unfold ju rpl;rw [ve];simp
theorem N8 (w:ak) (l:List Int) (ok:cd w) (hl:l.length<=17592186044416) (h:nG l):Cm 203 [.agg (bM (some true) w),sI (some true) l] (sI none (ju w l),[.undef,.undef]):=by
 show Cm _ _ (.sl none 1 (ju w l).length _,_);rw [vj];exact M7 true true w ok l hl h
theorem N9 (w:ak) (l:List Int) (ok:cd w) (hl:l.length<=17592186044416) (h:nG l):Cm 194 [.agg (bM (some true) w),sI (some true) l] (sI none (ju w l),[.undef,.undef]):=by
 show Cm _ _ (.sl none 1 (ju w l).length _,_);rw [vj];exact M6 true true w ok l hl h
@[go_sem] theorem adJ (w:ak) (l0:Nat) (l:List Int) (e0:l0=l.length) (q0:cd w) (q1:l.length<=17592186044416) (q2:nG l) (t:bO Rz):aX 203 [.agg (fj (some true) w),.sl (some true) 1 l0 (ints l)] t=feed t [enc .I (ju w l)]:=by
 subst e0;exact bN (r:=enc .I (ju w l)) (s:=.ty .I) (ss:=[.undef,.undef]) (N8 w l q0 q1 q2) (by kernel_rfl) (by simp only [av,bw,aU,bz,bA,af,aj,tC]) (by simp only [af,aJ,av,aj,tC]) (by first | rfl | simp only [au,aS,aR,bq,bt,aT,bu,tC]) (by first | rfl | simp only [UL,aab,au,tC]) t
@[go_sem] theorem adK (w:ak) (l0:Nat) (l:List Int) (e0:l0=l.length) (q0:cd w) (q1:l.length<=17592186044416) (q2:nG l) (t:bO Rz):aX 194 [.agg (fj (some true) w),.sl (some true) 1 l0 (ints l)] t=feed t [enc .I (ju w l)]:=by
 subst e0;exact bN (r:=enc .I (ju w l)) (s:=.ty .I) (ss:=[.undef,.undef]) (N9 w l q0 q1 q2) (by kernel_rfl) (by simp only [av,bw,aU,bz,bA,af,aj,tC]) (by simp only [af,aJ,av,aj,tC]) (by first | rfl | simp only [au,aS,aR,bq,bt,aT,bu,tC]) (by first | rfl | simp only [UL,aab,au,tC]) t
section
variable (g:Bool) (w:ak)
@[go_sem] theorem aog:ad.aN 16 (bM (some g) w) 0=true:=rfl
@[go_sem] theorem aoh:ad.aG (bM (some g) w) 0=g:=rfl
@[go_sem] theorem aoi:ad.aD (bM (some g) w) 0=w.nodes.length:=rfl
@[go_sem] theorem aoj:ad.aF (bM (some g) w) 0=ab (U (some g)) w.nodes:=rfl
@[go_sem] theorem aok:ad.aN 3 (bM (some g) w) 1=true:=rfl
@[go_sem] theorem aol:ad.aG (bM (some g) w) 1=g:=rfl
@[go_sem] theorem aom:ad.aD (bM (some g) w) 1=w.aH.length:=rfl
@[go_sem] theorem aon:ad.aF (bM (some g) w) 1=ab (aB (some g)) w.aH:=rfl
@[go_sem] theorem aoo:ad.aN 2 (bM (some g) w) 2=true:=rfl
@[go_sem] theorem aop:ad.aG (bM (some g) w) 2=g:=rfl
@[go_sem] theorem aoq:ad.aD (bM (some g) w) 2=w.log.length:=rfl
@[go_sem] theorem aor:ad.aF (bM (some g) w) 2=ab (bj (some g)) w.log:=rfl
@[go_sem] theorem aos:ad.aN 1 (bM (some g) w) 3=true:=rfl
@[go_sem] theorem aot:ad.aG (bM (some g) w) 3=g:=rfl
@[go_sem] theorem aou:ad.aD (bM (some g) w) 3=w.safe.length:=rfl
@[go_sem] theorem aov:ad.aF (bM (some g) w) 3=ints w.safe:=rfl
@[go_sem] theorem aow:ad.bR .i64 (bM (some g) w) 4=true:=rfl
@[go_sem] theorem aox:ad.aO (bM (some g) w) 4=w.gen:=rfl
end
section
variable (pr:dC) (cv:Cv Rz) (J:Nat->St->Option Rz)
def dw (g:Bool) (xs:List ae) (c0:List D) (n1:Nat) (i2:Int) (i3:Int):St:=(St.mk [(0,(.sl (some g) 16 xs.length (ab (U (some g)) xs))),(1,(.fn 201 [(.cr c0 n1)])),(7,(.int .i64 i2)),(8,(.int .i64 i3))] [] [] 0)
theorem mD:Told cfg Tryz.prog 247 Tryz.f247:=⟨by kernel_rfl,Tryz.func247,by kernel_rfl⟩
theorem mE (u0:List D) (v0:Nat) (g:Bool) (xs:List ae):aW pr cv J 247 Tryz.f247 [(.sl (some g) 16 xs.length (ab (U (some g)) xs)),(.fn 201 [(.cr u0 v0)])]=
 (J 0 (dw g xs u0 v0 (pr.aV xs.length) 0)):=by kernel_rfl
theorem gk (g:Bool) (xs:List ae) (c0:List D) (n1:Nat) (i2:Int) (i3:Int):bL pr cv J 247 Tryz.f247 [.undef,.undef] 0 (dw g xs c0 n1 i2 i3)=
 (br (pr.lt i3 i2) (br (pr.bm i3 xs.length) (br (br (pr.bR .i64 (ab (U (some g)) xs) (pr.idx 0 i3 16)) (br (pr.bW (ab (U (some g)) xs) ((pr.idx 0 i3 16)+1)) (br (pr.bW (ab (U (some g)) xs) ((pr.idx 0 i3 16)+2)) (br (pr.aN 1 (ab (U (some g)) xs) ((pr.idx 0 i3 16)+3)) (br (pr.aN 1 (ab (U (some g)) xs) ((pr.idx 0 i3 16)+4)) (br (pr.aN 1 (ab (U (some g)) xs) ((pr.idx 0 i3 16)+5)) (br (pr.bW (ab (U (some g)) xs) ((pr.idx 0 i3 16)+6)) (br (pr.bW (ab (U (some g)) xs) ((pr.idx 0 i3 16)+7)) (br (pr.bW (ab (U (some g)) xs) ((pr.idx 0 i3 16)+8)) (br (pr.bR .i64 (ab (U (some g)) xs) ((pr.idx 0 i3 16)+9)) (br (pr.aN 1 (ab (U (some g)) xs) ((pr.idx 0 i3 16)+10)) (br (pr.aN 1 (ab (U (some g)) xs) ((pr.idx 0 i3 16)+11)) (br (pr.aN 1 (ab (U (some g)) xs) ((pr.idx 0 i3 16)+12)) (br (pr.aN 1 (ab (U (some g)) xs) ((pr.idx 0 i3 16)+13)) (br (pr.aN 1 (ab (U (some g)) xs) ((pr.idx 0 i3 16)+14)) (br (pr.aN 1 (ab (U (some g)) xs) ((pr.idx 0 i3 16)+15)) true false) false) false) false) false) false) false) false) false) false) false) false) false) false) false) false) (cv 201 [(.agg [(.int .i64 (pr.aO (ab (U (some g)) xs) (pr.idx 0 i3 16))),(.bool (pr.bC (ab (U (some g)) xs) ((pr.idx 0 i3 16)+1))),(.bool (pr.bC (ab (U (some g)) xs) ((pr.idx 0 i3 16)+2))),(.sl (some (pr.aG (ab (U (some g)) xs) ((pr.idx 0 i3 16)+3))) 1 (pr.aD (ab (U (some g)) xs) ((pr.idx 0 i3 16)+3)) (pr.aF (ab (U (some g)) xs) ((pr.idx 0 i3 16)+3))),(.sl (some (pr.aG (ab (U (some g)) xs) ((pr.idx 0 i3 16)+4))) 1 (pr.aD (ab (U (some g)) xs) ((pr.idx 0 i3 16)+4)) (pr.aF (ab (U (some g)) xs) ((pr.idx 0 i3 16)+4))),(.sl (some (pr.aG (ab (U (some g)) xs) ((pr.idx 0 i3 16)+5))) 1 (pr.aD (ab (U (some g)) xs) ((pr.idx 0 i3 16)+5)) (pr.aF (ab (U (some g)) xs) ((pr.idx 0 i3 16)+5))),(.bool (pr.bC (ab (U (some g)) xs) ((pr.idx 0 i3 16)+6))),(.bool (pr.bC (ab (U (some g)) xs) ((pr.idx 0 i3 16)+7))),(.bool (pr.bC (ab (U (some g)) xs) ((pr.idx 0 i3 16)+8))),(.int .i64 (pr.aO (ab (U (some g)) xs) ((pr.idx 0 i3 16)+9))),(.sl (some (pr.aG (ab (U (some g)) xs) ((pr.idx 0 i3 16)+10))) 1 (pr.aD (ab (U (some g)) xs) ((pr.idx 0 i3 16)+10)) (pr.aF (ab (U (some g)) xs) ((pr.idx 0 i3 16)+10))),(.sl (some (pr.aG (ab (U (some g)) xs) ((pr.idx 0 i3 16)+11))) 1 (pr.aD (ab (U (some g)) xs) ((pr.idx 0 i3 16)+11)) (pr.aF (ab (U (some g)) xs) ((pr.idx 0 i3 16)+11))),(.sl (some (pr.aG (ab (U (some g)) xs) ((pr.idx 0 i3 16)+12))) 1 (pr.aD (ab (U (some g)) xs) ((pr.idx 0 i3 16)+12)) (pr.aF (ab (U (some g)) xs) ((pr.idx 0 i3 16)+12))),(.sl (some (pr.aG (ab (U (some g)) xs) ((pr.idx 0 i3 16)+13))) 1 (pr.aD (ab (U (some g)) xs) ((pr.idx 0 i3 16)+13)) (pr.aF (ab (U (some g)) xs) ((pr.idx 0 i3 16)+13))),(.sl (some (pr.aG (ab (U (some g)) xs) ((pr.idx 0 i3 16)+14))) 1 (pr.aD (ab (U (some g)) xs) ((pr.idx 0 i3 16)+14)) (pr.aF (ab (U (some g)) xs) ((pr.idx 0 i3 16)+14))),(.sl (some (pr.aG (ab (U (some g)) xs) ((pr.idx 0 i3 16)+15))) 1 (pr.aD (ab (U (some g)) xs) ((pr.idx 0 i3 16)+15)) (pr.aF (ab (U (some g)) xs) ((pr.idx 0 i3 16)+15)))]),(.cr c0 n1)] (.bool (fun bH=>(.done (br bH (some ((.int .i64 i3),[.undef,.undef])) (J 0 (dw g xs c0 n1 i2 (pr.ar .add .i64 i3 1)))))))) none) none) (some ((.int .i64 (-1)),[.undef,.undef]))):=by kernel_rfl
theorem lK:Told cfg Tryz.prog 200 Tryz.f200:=⟨by kernel_rfl,Tryz.func200,by kernel_rfl⟩
theorem lL (u0:List D) (v0:Nat) (g:Bool) (xs:List ae):aW pr cv J 200 Tryz.f200 [(.sl (some g) 16 xs.length (ab (U (some g)) xs)),(.fn 201 [(.cr u0 v0)])]=
 (cv 247 [(.sl (some g) 16 xs.length (ab (U (some g)) xs)),(.fn 201 [(.cr u0 v0)])] (.int (fun ef=>(.done (some ((.bool (pr.le 0 ef)),[.undef,.undef])))))):=by kernel_rfl
end
theorem Rp (u0:List D) (v0:Nat) (g:Bool) (xs:List ae) (p:ae->Bool) (hb:xs.length < 4611686018427387904) (hc:∀ i,i < xs.length->∀ t:bO Rz,aX 201 [.agg (gj (some g) (xs.getD i n0)),.cr u0 v0] t=feed t [.bool (p (xs.getD i n0))]):Cm 247 [.sl (some g) 16 xs.length (ab (U (some g)) xs),.fn 201 [.cr u0 v0]] (.int .i64 (tg p xs),[.undef,.undef]):=by
 refine Cm.step mD [.undef,.undef] fun J hJ=>?_;rw [mE];refine hJ _ _ ?_;refine Gd (d:=n0) (H:=fun i=>dw g xs u0 v0 xs.length (i:Nat)) (fun i hi J=>?_) (fun J=>?_)
 ·rw [gk];simp (disch:=first | assumption | omega) only [go_sem,hc i hi]
  cases p (xs.getD i n0) with
  | true=>rfl
  | false=>
   simp (disch:=first | assumption | omega) only [go_sem]
   rfl
 ·rw [gk];simp (disch:=first | assumption | omega) only [go_sem]
theorem I4 (u0:List D) (v0:Nat) (g:Bool) (xs:List ae) (p:ae->Bool) (hb:xs.length < 4611686018427387904) (hc:∀ i,i < xs.length->∀ t:bO Rz,aX 201 [.agg (gj (some g) (xs.getD i n0)),.cr u0 v0] t=feed t [.bool (p (xs.getD i n0))]):Cm 200 [.sl (some g) 16 xs.length (ab (U (some g)) xs),.fn 201 [.cr u0 v0]] (.bool (xs.any p),[.undef,.undef]):=by
 refine Cm.step lK [.undef,.undef] fun J hJ=>?_;rw [lL];have:=bh (Rp u0 v0 g xs p hb hc) (by kernel_rfl)
 rw [this];show some ((.bool (decide (0<=tg p xs)),[.undef,.undef]):Rz)=_;rw [K2]
section
variable (pr:dC) (cv:Cv Rz) (J:Nat->St->Option Rz)
theorem Be:Told cfg Tryz.prog 201 Tryz.f201:=⟨by kernel_rfl,Tryz.func201,by kernel_rfl⟩
theorem Bf (w:ak) (n:ae):aW pr cv J 201 Tryz.f201 [(.agg (U (some true) n)),(.cr (bM (some true) w) 0)]=
 let y1:Bool:=(br (pr.aN 16 [(.sl (some true) 16 w.nodes.length (ab (U (some true)) w.nodes)),(.sl (some true) 3 w.aH.length (ab (aB (some true)) w.aH)),(.sl (some true) 2 w.log.length (ab (bj (some true)) w.log)),(sI (some true) w.safe),(.int .i64 w.gen)] 0) (br (pr.aN 3 [(.sl (some true) 16 w.nodes.length (ab (U (some true)) w.nodes)),(.sl (some true) 3 w.aH.length (ab (aB (some true)) w.aH)),(.sl (some true) 2 w.log.length (ab (bj (some true)) w.log)),(sI (some true) w.safe),(.int .i64 w.gen)] 1) (br (pr.aN 2 [(.sl (some true) 16 w.nodes.length (ab (U (some true)) w.nodes)),(.sl (some true) 3 w.aH.length (ab (aB (some true)) w.aH)),(.sl (some true) 2 w.log.length (ab (bj (some true)) w.log)),(sI (some true) w.safe),(.int .i64 w.gen)] 2) (br (pr.aN 1 [(.sl (some true) 16 w.nodes.length (ab (U (some true)) w.nodes)),(.sl (some true) 3 w.aH.length (ab (aB (some true)) w.aH)),(.sl (some true) 2 w.log.length (ab (bj (some true)) w.log)),(sI (some true) w.safe),(.int .i64 w.gen)] 3) (br (pr.bR .i64 [(.sl (some true) 16 w.nodes.length (ab (U (some true)) w.nodes)),(.sl (some true) 3 w.aH.length (ab (aB (some true)) w.aH)),(.sl (some true) 2 w.log.length (ab (bj (some true)) w.log)),(sI (some true) w.safe),(.int .i64 w.gen)] 4) true false) false) false) false) false)
 let y2:Option Bool:=(some (pr.aG [(.sl (some true) 16 w.nodes.length (ab (U (some true)) w.nodes)),(.sl (some true) 3 w.aH.length (ab (aB (some true)) w.aH)),(.sl (some true) 2 w.log.length (ab (bj (some true)) w.log)),(sI (some true) w.safe),(.int .i64 w.gen)] 0))
 let y3:Nat:=(pr.aD [(.sl (some true) 16 w.nodes.length (ab (U (some true)) w.nodes)),(.sl (some true) 3 w.aH.length (ab (aB (some true)) w.aH)),(.sl (some true) 2 w.log.length (ab (bj (some true)) w.log)),(sI (some true) w.safe),(.int .i64 w.gen)] 0)
 let y4:List D:=(pr.aF [(.sl (some true) 16 w.nodes.length (ab (U (some true)) w.nodes)),(.sl (some true) 3 w.aH.length (ab (aB (some true)) w.aH)),(.sl (some true) 2 w.log.length (ab (bj (some true)) w.log)),(sI (some true) w.safe),(.int .i64 w.gen)] 0)
 let y5:Option Bool:=(some (pr.aG [(.sl (some true) 16 w.nodes.length (ab (U (some true)) w.nodes)),(.sl (some true) 3 w.aH.length (ab (aB (some true)) w.aH)),(.sl (some true) 2 w.log.length (ab (bj (some true)) w.log)),(sI (some true) w.safe),(.int .i64 w.gen)] 1))
 let y6:Nat:=(pr.aD [(.sl (some true) 16 w.nodes.length (ab (U (some true)) w.nodes)),(.sl (some true) 3 w.aH.length (ab (aB (some true)) w.aH)),(.sl (some true) 2 w.log.length (ab (bj (some true)) w.log)),(sI (some true) w.safe),(.int .i64 w.gen)] 1)
 let y7:List D:=(pr.aF [(.sl (some true) 16 w.nodes.length (ab (U (some true)) w.nodes)),(.sl (some true) 3 w.aH.length (ab (aB (some true)) w.aH)),(.sl (some true) 2 w.log.length (ab (bj (some true)) w.log)),(sI (some true) w.safe),(.int .i64 w.gen)] 1)
 let y8:Option Bool:=(some (pr.aG [(.sl (some true) 16 w.nodes.length (ab (U (some true)) w.nodes)),(.sl (some true) 3 w.aH.length (ab (aB (some true)) w.aH)),(.sl (some true) 2 w.log.length (ab (bj (some true)) w.log)),(sI (some true) w.safe),(.int .i64 w.gen)] 2))
 let y9:Nat:=(pr.aD [(.sl (some true) 16 w.nodes.length (ab (U (some true)) w.nodes)),(.sl (some true) 3 w.aH.length (ab (aB (some true)) w.aH)),(.sl (some true) 2 w.log.length (ab (bj (some true)) w.log)),(sI (some true) w.safe),(.int .i64 w.gen)] 2)
 let Xt:List D:=(pr.aF [(.sl (some true) 16 w.nodes.length (ab (U (some true)) w.nodes)),(.sl (some true) 3 w.aH.length (ab (aB (some true)) w.aH)),(.sl (some true) 2 w.log.length (ab (bj (some true)) w.log)),(sI (some true) w.safe),(.int .i64 w.gen)] 2)
 let Xu:Option Bool:=(some (pr.aG [(.sl (some true) 16 w.nodes.length (ab (U (some true)) w.nodes)),(.sl (some true) 3 w.aH.length (ab (aB (some true)) w.aH)),(.sl (some true) 2 w.log.length (ab (bj (some true)) w.log)),(sI (some true) w.safe),(.int .i64 w.gen)] 3))
 let y12:Nat:=(pr.aD [(.sl (some true) 16 w.nodes.length (ab (U (some true)) w.nodes)),(.sl (some true) 3 w.aH.length (ab (aB (some true)) w.aH)),(.sl (some true) 2 w.log.length (ab (bj (some true)) w.log)),(sI (some true) w.safe),(.int .i64 w.gen)] 3)
 let Xv:List D:=(pr.aF [(.sl (some true) 16 w.nodes.length (ab (U (some true)) w.nodes)),(.sl (some true) 3 w.aH.length (ab (aB (some true)) w.aH)),(.sl (some true) 2 w.log.length (ab (bj (some true)) w.log)),(sI (some true) w.safe),(.int .i64 w.gen)] 3)
 let Xw:D:=(.int .i64 (pr.aO [(.sl (some true) 16 w.nodes.length (ab (U (some true)) w.nodes)),(.sl (some true) 3 w.aH.length (ab (aB (some true)) w.aH)),(.sl (some true) 2 w.log.length (ab (bj (some true)) w.log)),(sI (some true) w.safe),(.int .i64 w.gen)] 4))
 (br n.mt.dk (br y1 (br y1 (cv 204 [(.agg [(.sl y2 16 y3 y4),(.sl y5 3 y6 y7),(.sl y8 2 y9 Xt),(.sl Xu 1 y12 Xv),Xw]),(.int .i64 n.mt.last)] (.ty gW.I (fun (aL:List Int)=>(.done (cv 203 [(.agg [(.sl y2 16 y3 y4),(.sl y5 3 y6 y7),(.sl y8 2 y9 Xt),(.sl Xu 1 y12 Xv),Xw]),(fC true (sI none aL))] (.ty gW.I (fun (nW:List Int)=>(.done (cv 202 [(sI (some true) n.image),(fC true (sI none nW))] (.bool (fun gi=>(.done (some ((.bool (br gi false true)),[.undef,.undef])))))))))))))) none) none) (some ((.bool false),[.undef,.undef]))):=by kernel_rfl
theorem D9:Told cfg Tryz.prog 124 Tryz.f124:=⟨by kernel_rfl,Tryz.func124,by kernel_rfl⟩
theorem Eb (x0:ak):aW pr cv J 124 Tryz.f124 [(.agg (bM (some true) x0))]=
 (cv 147 [(.agg [(.sl (some true) 16 x0.nodes.length (ab (U (some true)) x0.nodes)),(.sl (some true) 3 x0.aH.length (ab (aB (some true)) x0.aH)),(.sl (some true) 2 x0.log.length (ab (bj (some true)) x0.log)),(sI (some true) x0.safe),(.int .i64 x0.gen)])] (.bool (fun bH=>(.done (br bH (cv 200 [(.sl (some true) 16 x0.nodes.length (ab (U (some true)) x0.nodes)),(.fn 201 [(.cr [(.sl (some true) 16 x0.nodes.length (ab (U (some true)) x0.nodes)),(.sl (some true) 3 x0.aH.length (ab (aB (some true)) x0.aH)),(.sl (some true) 2 x0.log.length (ab (bj (some true)) x0.log)),(sI (some true) x0.safe),(.int .i64 x0.gen)] 0)])] (.bool (fun eQ=>(.done (some ((.bool (br eQ false true)),[.undef])))))) (some ((.bool false),[.undef]))))))):=by kernel_rfl
def ky (x0:ak) (i0:Int):St:=(St.mk [(1,(.ptr 1 [] 0)),(3,(.int .i64 i0))] [(1,[(.sl (some true) 16 x0.nodes.length (ab (U (some true)) x0.nodes)),(.sl (some true) 3 x0.aH.length (ab (aB (some true)) x0.aH)),(.sl (some true) 2 x0.log.length (ab (bj (some true)) x0.log)),(sI (some true) x0.safe),(.int .i64 x0.gen)])] [] 0)
theorem Ec:Told cfg Tryz.prog 117 Tryz.f117:=⟨by kernel_rfl,Tryz.func117,by kernel_rfl⟩
theorem Ed (x0:ak):aW pr cv J 117 Tryz.f117 [(.agg (bM (some true) x0))]=
 (cv 144 [(.agg [(.sl (some true) 16 x0.nodes.length (ab (U (some true)) x0.nodes)),(.sl (some true) 3 x0.aH.length (ab (aB (some true)) x0.aH)),(.sl (some true) 2 x0.log.length (ab (bj (some true)) x0.log)),(sI (some true) x0.safe),(.int .i64 x0.gen)])] (.bool (fun bH=>(.done (br (br bH false true) (some ((.bool false),[.undef])) (J 0 (ky x0 0))))))):=by kernel_rfl
theorem At (x0:ak) (i0:Int):bL pr cv J 117 Tryz.f117 [.undef] 0 (ky x0 i0)=
 let y1:Option Rz:=(J 0 (ky x0 (pr.ar .add .i64 i0 1)))
 (br (pr.lt i0 3) (br (pr.bm i0 x0.nodes.length) (br (br (pr.bR .i64 (ab (U (some true)) x0.nodes) (pr.idx 0 i0 16)) (br (pr.bW (ab (U (some true)) x0.nodes) ((pr.idx 0 i0 16)+1)) (br (pr.bW (ab (U (some true)) x0.nodes) ((pr.idx 0 i0 16)+2)) (br (pr.aN 1 (ab (U (some true)) x0.nodes) ((pr.idx 0 i0 16)+3)) (br (pr.aN 1 (ab (U (some true)) x0.nodes) ((pr.idx 0 i0 16)+4)) (br (pr.aN 1 (ab (U (some true)) x0.nodes) ((pr.idx 0 i0 16)+5)) (br (pr.bW (ab (U (some true)) x0.nodes) ((pr.idx 0 i0 16)+6)) (br (pr.bW (ab (U (some true)) x0.nodes) ((pr.idx 0 i0 16)+7)) (br (pr.bW (ab (U (some true)) x0.nodes) ((pr.idx 0 i0 16)+8)) (br (pr.bR .i64 (ab (U (some true)) x0.nodes) ((pr.idx 0 i0 16)+9)) (br (pr.aN 1 (ab (U (some true)) x0.nodes) ((pr.idx 0 i0 16)+10)) (br (pr.aN 1 (ab (U (some true)) x0.nodes) ((pr.idx 0 i0 16)+11)) (br (pr.aN 1 (ab (U (some true)) x0.nodes) ((pr.idx 0 i0 16)+12)) (br (pr.aN 1 (ab (U (some true)) x0.nodes) ((pr.idx 0 i0 16)+13)) (br (pr.aN 1 (ab (U (some true)) x0.nodes) ((pr.idx 0 i0 16)+14)) (br (pr.aN 1 (ab (U (some true)) x0.nodes) ((pr.idx 0 i0 16)+15)) true false) false) false) false) false) false) false) false) false) false) false) false) false) false) false) false) (br (pr.bC (ab (U (some true)) x0.nodes) ((pr.idx 0 i0 16)+6)) (cv 195 [(.agg [(.sl (some true) 16 x0.nodes.length (ab (U (some true)) x0.nodes)),(.sl (some true) 3 x0.aH.length (ab (aB (some true)) x0.aH)),(.sl (some true) 2 x0.log.length (ab (bj (some true)) x0.log)),(sI (some true) x0.safe),(.int .i64 x0.gen)]),(.int .i64 (pr.aO (ab (U (some true)) x0.nodes) ((pr.idx 0 i0 16)+9)))] (.ty gW.I (fun (aL:List Int)=>(.done (cv 194 [(.agg [(.sl (some true) 16 x0.nodes.length (ab (U (some true)) x0.nodes)),(.sl (some true) 3 x0.aH.length (ab (aB (some true)) x0.aH)),(.sl (some true) 2 x0.log.length (ab (bj (some true)) x0.log)),(sI (some true) x0.safe),(.int .i64 x0.gen)]),(fC true (sI none aL))] (.ty gW.I (fun (nW:List Int)=>(.done (cv 193 [(.sl (some (pr.aG (ab (U (some true)) x0.nodes) ((pr.idx 0 i0 16)+3))) 1 (pr.aD (ab (U (some true)) x0.nodes) ((pr.idx 0 i0 16)+3)) (pr.aF (ab (U (some true)) x0.nodes) ((pr.idx 0 i0 16)+3))),(fC true (sI none nW))] (.bool (fun gi=>(.done (br (br gi false true) (some ((.bool false),[.undef])) y1))))))))))))) y1) none) none) (some ((.bool true),[.undef]))):=by kernel_rfl
end
def rX (w:ak) (n:ae):Bool:=n.mt.dk&&!decide (n.image=ju w (fA w n.mt.last))
theorem Bg (w:ak) (n:ae) (ok:cd w) (on:cz n):Cm 201 [.agg (U (some true) n),.cr (bM (some true) w) 0] (.bool (rX w n),[.undef,.undef]):=by
 refine Cm.step Be [.undef,.undef] fun J hJ=>?_;rw [Bf];have b3:=ok.log;have h1:=Rn w n.mt.last;have h2:=Ro ok n.mt.last;have h3:=vj w (fA w n.mt.last);have h4:=on.image;unfold rX;refine jb fun hf=>?_;simp (disch:=first | assumption | omega) only [go_sem]
 cases decide (n.image=ju w (fA w n.mt.last))<;>rfl
@[go_sem] theorem aa4 (w:ak) (n:Nat) (xs:List ae) (hn:n=xs.length) (hb:xs.length < 4611686018427387904) (ok:cd w) (on:∀ x∈xs,cz x) (t:bO Rz):aX 200 [.sl (some true) 16 n (ab (U (some true)) xs),.fn 201 [.cr (bM (some true) w) 0]] t=feed t [.bool (xs.any (rX w))]:=by
 subst hn;exact bh (I4 _ _ true xs _ hb fun i hi t=>bh (Bg w _ ok (on _ (pc hi))) (by kernel_rfl) t) (by kernel_rfl) t
section
variable {w:ak} {n:ae}
theorem ajZ (hf:n.mt.dk=true) (he:¬n.image=ju w (fA w n.mt.last)):¬rX w n=false:=by simp [rX,hf,he]
theorem aj0 (he:n.image=ju w (fA w n.mt.last)):rX w n=false:=by simp [rX,<- he]
theorem aj1 (hf:¬n.mt.dk=true):rX w n=false:=by simp [rX,hf]
end
noncomputable def fN (w:ak):Bool:=ie w&&!w.nodes.any (rX w)
theorem Ee (w:ak) (q0:cd w):Cm 124 [.agg (bM (some true) w)] (.bool (fN w),[.undef]):=by
 unfold fN;refine Cm.step D9 [.undef] fun J hJ=>?_;rw [Eb];have b1:=q0.nodes;have b2:=q0.node
 try simp (disch:=first | assumption | omega) only [go_sem]
 refine jb fun h=>?_
 try simp (disch:=first | assumption | omega) only [go_sem]
 cases w.nodes.any (rX w)<;>rfl
@[go_sem] theorem XL (w:ak) (q0:cd w) (t:bO Rz):aX 124 [.agg (fj (some true) w)] t=feed t [.bool (fN w)]:=by
 exact bN (r:=.bool (fN w)) (s:=.bool) (ss:=[.undef]) (Ee w q0) (by kernel_rfl) (by simp only [av,bw,aU,bz,bA,af,aj,tC]) (by simp only [af,aJ,av,aj,tC]) (by first | rfl | simp only [au,aS,aR,bq,bt,aT,bu,tC]) (by first | rfl | simp only [UL,aab,au,tC]) t
structure Xy (w:ak):Prop where
 ok:xW w
 all:∀ i,i < 3->rX w (w.nodes.getD i n0)=false
theorem Xz (w:ak):fN w=oV (Xy w):=by
 unfold fN;by_cases h:Xy w
 ·rw [Oz h,show ie w=true from Oz h.ok];rw [abU,abb,List.any_eq_false];intro x hx;obtain ⟨i,hi,rfl⟩:=aeQ hx;have:=h.ok.ns.len;rw [<- dT (d:=n0) hi,h.all i (by omega)]
  simp
 ·rw [aa0 h];cases hw:ie w with
  | false=>rfl
  | true=>
   rw [abU,afq,List.any_eq_true];have o:=uA hw;have:∃ i,i < 3/\¬rX w (w.nodes.getD i n0)=false:=adQ fun hn=>h ⟨o,fun i hi=>adQ fun hc=>hn ⟨i,hi,hc⟩⟩;obtain ⟨i,hi,hc⟩:=this;have:=o.ns.len;exact ⟨_,pc (d:=n0) (i:=i) (by omega),by simpa using hc⟩
theorem Ef (w:ak) (q0:cd w):Cm 117 [.agg (bM (some true) w)] (.bool (fN w),[.undef]):=by
 rw [Xz];have b1:=q0.nodes;have b3:=q0.log;refine Cm.step Ec [.undef] fun J hJ=>?_;rw [Ed]
 try simp (disch:=first | assumption | omega) only [go_sem]
 refine gv (fun h=>?_) (fun h=>eK fun o=>Db h o.ok);have o:=uA h;have nl:=o.ns.len
 try simp (disch:=first | assumption | omega) only [go_sem]
 refine hJ _ _ ?_;refine WP.up (H:=fun i:Nat=>ky w (i:Int)) 3 (fun i=>∀ a,a < i->rX w (w.nodes.getD a n0)=false) (fun i hi inv J hJ next=>?_) 0 (by omega) (fun a h=>absurd h (by omega))
 rw [At]
 try simp (disch:=first | assumption | omega) only [go_sem]
 refine bK (fun hl=>?_) (fun hl=>As ⟨o,fun a ha=>inv a (by omega)⟩)
 have h1:=Rn w (w.nodes.getD i n0).mt.last;have h2:=Ro q0 (w.nodes.getD i n0).mt.last;have h3:=vj w (fA w (w.nodes.getD i n0).mt.last);have h4:=(Ri q0 (show i < w.nodes.length by omega)).image
 try simp (disch:=first | assumption | omega) only [go_sem]
 refine gv (fun hf=>?_) (fun hf=>?_)
 ·try simp (disch:=first | assumption | omega) only [go_sem]
  refine bK (fun he=>?_) (fun he=>eK fun o=>absurd (o.all i (by omega)) (ajZ hf he))
  try simp (disch:=first | assumption | omega) only [go_sem]
  exact next (by omega) (dm inv (aj0 he))
 ·try simp (disch:=first | assumption | omega) only [go_sem]
  exact next (by omega) (dm inv (aj1 hf))
@[go_sem] theorem XM (w:ak) (q0:cd w) (t:bO Rz):aX 117 [.agg (fj (some true) w)] t=feed t [.bool (fN w)]:=by
 exact bN (r:=.bool (fN w)) (s:=.bool) (ss:=[.undef]) (Ef w q0) (by kernel_rfl) (by simp only [av,bw,aU,bz,bA,af,aj,tC]) (by simp only [af,aJ,av,aj,tC]) (by first | rfl | simp only [au,aS,aR,bq,bt,aT,bu,tC]) (by first | rfl | simp only [UL,aab,au,tC]) t
set_option maxRecDepth 100000
section
variable (pr:dC) (cv:Cv Rz) (J:Nat->St->Option Rz)
def ig (x0:List Int) (x1:List Int) (i0:Int) (n1:Nat) (c2:List D):St:=(St.mk [(0,(sI (some true) x0)),(1,(sI (some true) x1)),(5,(.ref 10005 [] 0 none)),(10,(.int .i64 i0))] [(10005,[(.sl none 1 n1 c2)])] [] 0)
theorem Oa:Told cfg Tryz.prog 205 Tryz.f205:=⟨by kernel_rfl,Tryz.func205,by kernel_rfl⟩
theorem Ob (x0:List Int) (x1:List Int):aW pr cv J 205 Tryz.f205 [(sI (some true) x0),(sI (some true) x1)]=
 (J 0 (ig x0 x1 0 0 [])):=by kernel_rfl
theorem Gr (x0:List Int) (x1:List Int) (i0:Int) (n1:Nat) (c2:List D):bL pr cv J 205 Tryz.f205 [.undef,.undef] 0 (ig x0 x1 i0 n1 c2)=
 let y1:Option Rz:=(br (br (pr.flat [(.int .i64 i0)]) (pr.fits (n1+1) 8) false) (J 0 (ig x0 x1 (pr.ar .add .i64 i0 1) (n1+1) (List.append c2 [(.int .i64 i0)]))) none)
 let y2:Option Rz:=(J 0 (ig x0 x1 (pr.ar .add .i64 i0 1) n1 c2))
 (br (pr.lt i0 8) (br (br (pr.beq (pr.lt i0 (pr.aV x0.length)) (pr.lt i0 (pr.aV x1.length))) false true) y1 (br (pr.lt i0 (pr.aV x0.length)) (br (pr.bm i0 x0.length) (br (br (pr.bR .i64 (ints x0) (pr.idx 0 i0 1)) true false) (br (pr.bm i0 x1.length) (br (br (pr.bR .i64 (ints x1) (pr.idx 0 i0 1)) true false) (br (br (pr.eq (pr.aO (ints x0) (pr.idx 0 i0 1)) (pr.aO (ints x1) (pr.idx 0 i0 1))) false true) y1 y2) none) none) none) none) y2)) (some ((.sl none 1 n1 c2),[.undef,.undef]))):=by kernel_rfl
def ij (x0:List Int) (x1:List Int) (i0:Int) (n1:Nat) (c2:List D):St:=(St.mk [(0,(sI (some true) x0)),(1,(sI (some true) x1)),(5,(.ref 10005 [] 0 none)),(6,(.int .i64 i0))] [(10005,[(.sl none 1 n1 c2)])] [] 0)
theorem Oc:Told cfg Tryz.prog 196 Tryz.f196:=⟨by kernel_rfl,Tryz.func196,by kernel_rfl⟩
theorem Od (x0:List Int) (x1:List Int):aW pr cv J 196 Tryz.f196 [(sI (some true) x0),(sI (some true) x1)]=
 (J 0 (ij x0 x1 0 0 [])):=by kernel_rfl
theorem Gs (x0:List Int) (x1:List Int) (i0:Int) (n1:Nat) (c2:List D):bL pr cv J 196 Tryz.f196 [.undef,.undef] 0 (ij x0 x1 i0 n1 c2)=
 let y1:Option Rz:=(br (br (pr.flat [(.int .i64 i0)]) (pr.fits (n1+1) 8) false) (J 0 (ij x0 x1 (pr.ar .add .i64 i0 1) (n1+1) (List.append c2 [(.int .i64 i0)]))) none)
 let y2:Option Rz:=(J 0 (ij x0 x1 (pr.ar .add .i64 i0 1) n1 c2))
 (br (pr.lt i0 8) (br (br (pr.beq (pr.lt i0 (pr.aV x0.length)) (pr.lt i0 (pr.aV x1.length))) false true) y1 (br (pr.lt i0 (pr.aV x0.length)) (br (pr.bm i0 x0.length) (br (br (pr.bR .i64 (ints x0) (pr.idx 0 i0 1)) true false) (br (pr.bm i0 x1.length) (br (br (pr.bR .i64 (ints x1) (pr.idx 0 i0 1)) true false) (br (br (pr.eq (pr.aO (ints x0) (pr.idx 0 i0 1)) (pr.aO (ints x1) (pr.idx 0 i0 1))) false true) y1 y2) none) none) none) none) y2)) (some ((.sl none 1 n1 c2),[.undef,.undef]))):=by kernel_rfl
def kz (x0:ak) (i0:Int) (i1:Int):St:=(St.mk [(1,(.ptr 1 [] 0)),(13,(.sl (some true) 16 x0.nodes.length (ab (U (some true)) x0.nodes))),(14,(.int .i64 i0)),(15,(.int .i64 i1))] [(1,[(.sl (some true) 16 x0.nodes.length (ab (U (some true)) x0.nodes)),(.sl (some true) 3 x0.aH.length (ab (aB (some true)) x0.aH)),(.sl (some true) 2 x0.log.length (ab (bj (some true)) x0.log)),(sI (some true) x0.safe),(.int .i64 x0.gen)])] [] 0)
def kA (x0:ak) (i0:Int) (i1:Int) (n2:Nat) (c3:List D) (i4:Int) (i5:Int) (i6:Int) (b7:Bool) (b8:Bool) (g9:Bool) (nN:Nat) (nO:List D) (g12:Bool) (gX:Nat) (gL:List D) (g15:Bool) (n16:Nat) (c17:List D) (Ik:Bool) (Il:Bool) (E9:Bool) (i21:Int) (g22:Bool) (n23:Nat) (xR:List D) (xS:Bool) (n26:Nat) (rL:List D) (ub:Bool) (n29:Nat) (uc:List D) (ud:Bool) (n32:Nat) (xT:List D) (xU:Bool) (n35:Nat) (xV:List D) (g37:Bool) (n38:Nat) (c39:List D):St:=(St.mk [(1,(.ptr 1 [] 0)),(3,(.int .i64 i0)),(4,(.ptr 4 [] 0)),(13,(.sl (some true) 16 x0.nodes.length (ab (U (some true)) x0.nodes))),(14,(.int .i64 i1)),(15,(.int .i64 i0)),(23,(.sl (some true) 16 n2 c3)),(24,(.int .i64 i4)),(25,(.int .i64 i5))] [(1,[(.sl (some true) 16 x0.nodes.length (ab (U (some true)) x0.nodes)),(.sl (some true) 3 x0.aH.length (ab (aB (some true)) x0.aH)),(.sl (some true) 2 x0.log.length (ab (bj (some true)) x0.log)),(sI (some true) x0.safe),(.int .i64 x0.gen)]),(4,[(.int .i64 i6),(.bool b7),(.bool b8),(.sl (some g9) 1 nN nO),(.sl (some g12) 1 gX gL),(.sl (some g15) 1 n16 c17),(.bool Ik),(.bool Il),(.bool E9),(.int .i64 i21),(.sl (some g22) 1 n23 xR),(.sl (some xS) 1 n26 rL),(.sl (some ub) 1 n29 uc),(.sl (some ud) 1 n32 xT),(.sl (some xU) 1 n35 xV),(.sl (some g37) 1 n38 c39)])] [] 0)
def kB (x0:ak) (i0:Int) (i1:Int) (i2:Int) (n3:Nat) (c4:List D) (i5:Int) (i6:Int) (i7:Int) (i8:Int) (b9:Bool) (ix:Bool) (g11:Bool) (fI:Nat) (gh:List D) (g14:Bool) (n15:Nat) (qO:List D) (g17:Bool) (n18:Nat) (rK:List D) (E9:Bool) (XA:Bool) (XB:Bool) (i23:Int) (g24:Bool) (n25:Nat) (yV:List D) (yW:Bool) (n28:Nat) (yX:List D) (yY:Bool) (n31:Nat) (E6:List D) (E7:Bool) (n34:Nat) (E8:List D) (XC:Bool) (n37:Nat) (XD:List D) (XE:Bool) (n40:Nat) (XF:List D) (i42:Int) (b43:Bool) (b44:Bool) (g45:Bool) (n46:Nat) (c47:List D) (g48:Bool) (n49:Nat) (c50:List D) (g51:Bool) (n52:Nat) (Mp:List D) (b54:Bool) (b55:Bool) (b56:Bool) (i57:Int) (g58:Bool) (n59:Nat) (c60:List D) (g61:Bool) (n62:Nat) (c63:List D) (g64:Bool) (n65:Nat) (c66:List D) (g67:Bool) (n68:Nat) (c69:List D) (g70:Bool) (Ba:Nat) (zx:List D) (g73:Bool) (n74:Nat) (c75:List D) (XG:Nat) (Rq:List D):St:=(St.mk [(1,(.ptr 1 [] 0)),(3,(.int .i64 i0)),(4,(.ptr 4 [] 0)),(5,(.int .i64 i1)),(6,(.ptr 6 [] 0)),(13,(.sl (some true) 16 x0.nodes.length (ab (U (some true)) x0.nodes))),(14,(.int .i64 i2)),(15,(.int .i64 i0)),(23,(.sl (some true) 16 n3 c4)),(24,(.int .i64 i5)),(25,(.int .i64 i1)),(34,(.ref 10034 [] 0 none)),(35,(.int .i64 i6)),(36,(.int .i64 i7))] [(1,[(.sl (some true) 16 x0.nodes.length (ab (U (some true)) x0.nodes)),(.sl (some true) 3 x0.aH.length (ab (aB (some true)) x0.aH)),(.sl (some true) 2 x0.log.length (ab (bj (some true)) x0.log)),(sI (some true) x0.safe),(.int .i64 x0.gen)]),(4,[(.int .i64 i8),(.bool b9),(.bool ix),(.sl (some g11) 1 fI gh),(.sl (some g14) 1 n15 qO),(.sl (some g17) 1 n18 rK),(.bool E9),(.bool XA),(.bool XB),(.int .i64 i23),(.sl (some g24) 1 n25 yV),(.sl (some yW) 1 n28 yX),(.sl (some yY) 1 n31 E6),(.sl (some E7) 1 n34 E8),(.sl (some XC) 1 n37 XD),(.sl (some XE) 1 n40 XF)]),(6,[(.int .i64 i42),(.bool b43),(.bool b44),(.sl (some g45) 1 n46 c47),(.sl (some g48) 1 n49 c50),(.sl (some g51) 1 n52 Mp),(.bool b54),(.bool b55),(.bool b56),(.int .i64 i57),(.sl (some g58) 1 n59 c60),(.sl (some g61) 1 n62 c63),(.sl (some g64) 1 n65 c66),(.sl (some g67) 1 n68 c69),(.sl (some g70) 1 Ba zx),(.sl (some g73) 1 n74 c75)]),(10034,[(.sl none 1 XG Rq)])] [] 0)
theorem Eg:Told cfg Tryz.prog 125 Tryz.f125:=⟨by kernel_rfl,Tryz.func125,by kernel_rfl⟩
theorem Eh (x0:ak):aW pr cv J 125 Tryz.f125 [(.agg (bM (some true) x0))]=
 (cv 147 [(.agg [(.sl (some true) 16 x0.nodes.length (ab (U (some true)) x0.nodes)),(.sl (some true) 3 x0.aH.length (ab (aB (some true)) x0.aH)),(.sl (some true) 2 x0.log.length (ab (bj (some true)) x0.log)),(sI (some true) x0.safe),(.int .i64 x0.gen)])] (.bool (fun bH=>(.done (br (br bH false true) (some ((.bool false),[.undef])) (J 0 (kz x0 (pr.aV x0.nodes.length) 0))))))):=by kernel_rfl
theorem Au (x0:ak) (i0:Int) (i1:Int):bL pr cv J 125 Tryz.f125 [.undef] 0 (kz x0 i0 i1)=
 (br (pr.lt i1 i0) (br (pr.bm i1 x0.nodes.length) (br (br (pr.bR .i64 (ab (U (some true)) x0.nodes) (pr.idx 0 i1 16)) (br (pr.bW (ab (U (some true)) x0.nodes) ((pr.idx 0 i1 16)+1)) (br (pr.bW (ab (U (some true)) x0.nodes) ((pr.idx 0 i1 16)+2)) (br (pr.aN 1 (ab (U (some true)) x0.nodes) ((pr.idx 0 i1 16)+3)) (br (pr.aN 1 (ab (U (some true)) x0.nodes) ((pr.idx 0 i1 16)+4)) (br (pr.aN 1 (ab (U (some true)) x0.nodes) ((pr.idx 0 i1 16)+5)) (br (pr.bW (ab (U (some true)) x0.nodes) ((pr.idx 0 i1 16)+6)) (br (pr.bW (ab (U (some true)) x0.nodes) ((pr.idx 0 i1 16)+7)) (br (pr.bW (ab (U (some true)) x0.nodes) ((pr.idx 0 i1 16)+8)) (br (pr.bR .i64 (ab (U (some true)) x0.nodes) ((pr.idx 0 i1 16)+9)) (br (pr.aN 1 (ab (U (some true)) x0.nodes) ((pr.idx 0 i1 16)+10)) (br (pr.aN 1 (ab (U (some true)) x0.nodes) ((pr.idx 0 i1 16)+11)) (br (pr.aN 1 (ab (U (some true)) x0.nodes) ((pr.idx 0 i1 16)+12)) (br (pr.aN 1 (ab (U (some true)) x0.nodes) ((pr.idx 0 i1 16)+13)) (br (pr.aN 1 (ab (U (some true)) x0.nodes) ((pr.idx 0 i1 16)+14)) (br (pr.aN 1 (ab (U (some true)) x0.nodes) ((pr.idx 0 i1 16)+15)) true false) false) false) false) false) false) false) false) false) false) false) false) false) false) false) false) (br (pr.vX 0 i1 x0.nodes.length) (J 2 (kA x0 i1 i0 (pr.nF i1 0) (List.take (Nat.mul (pr.nF i1 0) 16) (List.drop (Nat.mul (pr.iv 0) 16) (ab (U (some true)) x0.nodes))) (pr.aV (pr.nF i1 0)) 0 (pr.aO (ab (U (some true)) x0.nodes) (pr.idx 0 i1 16)) (pr.bC (ab (U (some true)) x0.nodes) ((pr.idx 0 i1 16)+1)) (pr.bC (ab (U (some true)) x0.nodes) ((pr.idx 0 i1 16)+2)) (pr.aG (ab (U (some true)) x0.nodes) ((pr.idx 0 i1 16)+3)) (pr.aD (ab (U (some true)) x0.nodes) ((pr.idx 0 i1 16)+3)) (pr.aF (ab (U (some true)) x0.nodes) ((pr.idx 0 i1 16)+3)) (pr.aG (ab (U (some true)) x0.nodes) ((pr.idx 0 i1 16)+4)) (pr.aD (ab (U (some true)) x0.nodes) ((pr.idx 0 i1 16)+4)) (pr.aF (ab (U (some true)) x0.nodes) ((pr.idx 0 i1 16)+4)) (pr.aG (ab (U (some true)) x0.nodes) ((pr.idx 0 i1 16)+5)) (pr.aD (ab (U (some true)) x0.nodes) ((pr.idx 0 i1 16)+5)) (pr.aF (ab (U (some true)) x0.nodes) ((pr.idx 0 i1 16)+5)) (pr.bC (ab (U (some true)) x0.nodes) ((pr.idx 0 i1 16)+6)) (pr.bC (ab (U (some true)) x0.nodes) ((pr.idx 0 i1 16)+7)) (pr.bC (ab (U (some true)) x0.nodes) ((pr.idx 0 i1 16)+8)) (pr.aO (ab (U (some true)) x0.nodes) ((pr.idx 0 i1 16)+9)) (pr.aG (ab (U (some true)) x0.nodes) ((pr.idx 0 i1 16)+10)) (pr.aD (ab (U (some true)) x0.nodes) ((pr.idx 0 i1 16)+10)) (pr.aF (ab (U (some true)) x0.nodes) ((pr.idx 0 i1 16)+10)) (pr.aG (ab (U (some true)) x0.nodes) ((pr.idx 0 i1 16)+11)) (pr.aD (ab (U (some true)) x0.nodes) ((pr.idx 0 i1 16)+11)) (pr.aF (ab (U (some true)) x0.nodes) ((pr.idx 0 i1 16)+11)) (pr.aG (ab (U (some true)) x0.nodes) ((pr.idx 0 i1 16)+12)) (pr.aD (ab (U (some true)) x0.nodes) ((pr.idx 0 i1 16)+12)) (pr.aF (ab (U (some true)) x0.nodes) ((pr.idx 0 i1 16)+12)) (pr.aG (ab (U (some true)) x0.nodes) ((pr.idx 0 i1 16)+13)) (pr.aD (ab (U (some true)) x0.nodes) ((pr.idx 0 i1 16)+13)) (pr.aF (ab (U (some true)) x0.nodes) ((pr.idx 0 i1 16)+13)) (pr.aG (ab (U (some true)) x0.nodes) ((pr.idx 0 i1 16)+14)) (pr.aD (ab (U (some true)) x0.nodes) ((pr.idx 0 i1 16)+14)) (pr.aF (ab (U (some true)) x0.nodes) ((pr.idx 0 i1 16)+14)) (pr.aG (ab (U (some true)) x0.nodes) ((pr.idx 0 i1 16)+15)) (pr.aD (ab (U (some true)) x0.nodes) ((pr.idx 0 i1 16)+15)) (pr.aF (ab (U (some true)) x0.nodes) ((pr.idx 0 i1 16)+15)))) none) none) none) (some ((.bool true),[.undef]))):=by kernel_rfl
theorem Av (x0:ak) (i0:Int) (i1:Int) (n2:Nat) (c3:List D) (i4:Int) (i5:Int) (i6:Int) (b7:Bool) (b8:Bool) (g9:Bool) (nN:Nat) (nO:List D) (g12:Bool) (gX:Nat) (gL:List D) (g15:Bool) (n16:Nat) (c17:List D) (Ik:Bool) (Il:Bool) (E9:Bool) (i21:Int) (g22:Bool) (n23:Nat) (xR:List D) (xS:Bool) (n26:Nat) (rL:List D) (ub:Bool) (n29:Nat) (uc:List D) (ud:Bool) (n32:Nat) (xT:List D) (xU:Bool) (n35:Nat) (xV:List D) (g37:Bool) (n38:Nat) (c39:List D):bL pr cv J 125 Tryz.f125 [.undef] 2 (kA x0 i0 i1 n2 c3 i4 i5 i6 b7 b8 g9 nN nO g12 gX gL g15 n16 c17 Ik Il E9 i21 g22 n23 xR xS n26 rL ub n29 uc ud n32 xT xU n35 xV g37 n38 c39)=
 (br (pr.lt i5 i4) (br (pr.bm i5 n2) (br (br (pr.bR .i64 c3 (pr.idx 0 i5 16)) (br (pr.bW c3 ((pr.idx 0 i5 16)+1)) (br (pr.bW c3 ((pr.idx 0 i5 16)+2)) (br (pr.aN 1 c3 ((pr.idx 0 i5 16)+3)) (br (pr.aN 1 c3 ((pr.idx 0 i5 16)+4)) (br (pr.aN 1 c3 ((pr.idx 0 i5 16)+5)) (br (pr.bW c3 ((pr.idx 0 i5 16)+6)) (br (pr.bW c3 ((pr.idx 0 i5 16)+7)) (br (pr.bW c3 ((pr.idx 0 i5 16)+8)) (br (pr.bR .i64 c3 ((pr.idx 0 i5 16)+9)) (br (pr.aN 1 c3 ((pr.idx 0 i5 16)+10)) (br (pr.aN 1 c3 ((pr.idx 0 i5 16)+11)) (br (pr.aN 1 c3 ((pr.idx 0 i5 16)+12)) (br (pr.aN 1 c3 ((pr.idx 0 i5 16)+13)) (br (pr.aN 1 c3 ((pr.idx 0 i5 16)+14)) (br (pr.aN 1 c3 ((pr.idx 0 i5 16)+15)) true false) false) false) false) false) false) false) false) false) false) false) false) false) false) false) false) (cv 205 [(.sl (some g9) 1 nN nO),(.sl (some (pr.aG c3 ((pr.idx 0 i5 16)+3))) 1 (pr.aD c3 ((pr.idx 0 i5 16)+3)) (pr.aF c3 ((pr.idx 0 i5 16)+3)))] (.ty gW.I (fun (aL:List Int)=>(.done (J 4 (kB x0 i0 i5 i1 n2 c3 i4 (pr.aV aL.length) 0 i6 b7 b8 g9 nN nO g12 gX gL g15 n16 c17 Ik Il E9 i21 g22 n23 xR xS n26 rL ub n29 uc ud n32 xT xU n35 xV g37 n38 c39 (pr.aO c3 (pr.idx 0 i5 16)) (pr.bC c3 ((pr.idx 0 i5 16)+1)) (pr.bC c3 ((pr.idx 0 i5 16)+2)) (pr.aG c3 ((pr.idx 0 i5 16)+3)) (pr.aD c3 ((pr.idx 0 i5 16)+3)) (pr.aF c3 ((pr.idx 0 i5 16)+3)) (pr.aG c3 ((pr.idx 0 i5 16)+4)) (pr.aD c3 ((pr.idx 0 i5 16)+4)) (pr.aF c3 ((pr.idx 0 i5 16)+4)) (pr.aG c3 ((pr.idx 0 i5 16)+5)) (pr.aD c3 ((pr.idx 0 i5 16)+5)) (pr.aF c3 ((pr.idx 0 i5 16)+5)) (pr.bC c3 ((pr.idx 0 i5 16)+6)) (pr.bC c3 ((pr.idx 0 i5 16)+7)) (pr.bC c3 ((pr.idx 0 i5 16)+8)) (pr.aO c3 ((pr.idx 0 i5 16)+9)) (pr.aG c3 ((pr.idx 0 i5 16)+10)) (pr.aD c3 ((pr.idx 0 i5 16)+10)) (pr.aF c3 ((pr.idx 0 i5 16)+10)) (pr.aG c3 ((pr.idx 0 i5 16)+11)) (pr.aD c3 ((pr.idx 0 i5 16)+11)) (pr.aF c3 ((pr.idx 0 i5 16)+11)) (pr.aG c3 ((pr.idx 0 i5 16)+12)) (pr.aD c3 ((pr.idx 0 i5 16)+12)) (pr.aF c3 ((pr.idx 0 i5 16)+12)) (pr.aG c3 ((pr.idx 0 i5 16)+13)) (pr.aD c3 ((pr.idx 0 i5 16)+13)) (pr.aF c3 ((pr.idx 0 i5 16)+13)) (pr.aG c3 ((pr.idx 0 i5 16)+14)) (pr.aD c3 ((pr.idx 0 i5 16)+14)) (pr.aF c3 ((pr.idx 0 i5 16)+14)) (pr.aG c3 ((pr.idx 0 i5 16)+15)) (pr.aD c3 ((pr.idx 0 i5 16)+15)) (pr.aF c3 ((pr.idx 0 i5 16)+15)) aL.length (ints aL))))))) none) none) (J 0 (kz x0 i1 (pr.ar .add .i64 i0 1)))):=by kernel_rfl
theorem Aw (x0:ak) (i0:Int) (i1:Int) (i2:Int) (n3:Nat) (c4:List D) (i5:Int) (i6:Int) (i7:Int) (i8:Int) (b9:Bool) (ix:Bool) (g11:Bool) (fI:Nat) (gh:List D) (g14:Bool) (n15:Nat) (qO:List D) (g17:Bool) (n18:Nat) (rK:List D) (E9:Bool) (XA:Bool) (XB:Bool) (i23:Int) (g24:Bool) (n25:Nat) (yV:List D) (yW:Bool) (n28:Nat) (yX:List D) (yY:Bool) (n31:Nat) (E6:List D) (E7:Bool) (n34:Nat) (E8:List D) (XC:Bool) (n37:Nat) (XD:List D) (XE:Bool) (n40:Nat) (XF:List D) (i42:Int) (b43:Bool) (b44:Bool) (g45:Bool) (n46:Nat) (c47:List D) (g48:Bool) (n49:Nat) (c50:List D) (g51:Bool) (n52:Nat) (Mp:List D) (b54:Bool) (b55:Bool) (b56:Bool) (i57:Int) (g58:Bool) (n59:Nat) (c60:List D) (g61:Bool) (n62:Nat) (c63:List D) (g64:Bool) (n65:Nat) (c66:List D) (g67:Bool) (n68:Nat) (c69:List D) (g70:Bool) (Ba:Nat) (zx:List D) (g73:Bool) (n74:Nat) (c75:List D) (XG:Nat) (Rq:List D):bL pr cv J 125 Tryz.f125 [.undef] 4 (kB x0 i0 i1 i2 n3 c4 i5 i6 i7 i8 b9 ix g11 fI gh g14 n15 qO g17 n18 rK E9 XA XB i23 g24 n25 yV yW n28 yX yY n31 E6 E7 n34 E8 XC n37 XD XE n40 XF i42 b43 b44 g45 n46 c47 g48 n49 c50 g51 n52 Mp b54 b55 b56 i57 g58 n59 c60 g61 n62 c63 g64 n65 c66 g67 n68 c69 g70 Ba zx g73 n74 c75 XG Rq)=
 let y1:Option Rz:=(J 4 (kB x0 i0 i1 i2 n3 c4 i5 i6 (pr.ar .add .i64 i7 1) i8 b9 ix g11 fI gh g14 n15 qO g17 n18 rK E9 XA XB i23 g24 n25 yV yW n28 yX yY n31 E6 E7 n34 E8 XC n37 XD XE n40 XF i42 b43 b44 g45 n46 c47 g48 n49 c50 g51 n52 Mp b54 b55 b56 i57 g58 n59 c60 g61 n62 c63 g64 n65 c66 g67 n68 c69 g70 Ba zx g73 n74 c75 XG Rq))
 (br (pr.lt i7 i6) (br (pr.bm i7 XG) (br (br (pr.bR .i64 Rq (pr.idx 0 i7 1)) true false) (br (pr.bm i1 n18) (br (br (pr.aN 1 rK (pr.idx 0 i1 1)) true false) (cv 106 [(.sl (some (pr.aG rK (pr.idx 0 i1 1))) 1 (pr.aD rK (pr.idx 0 i1 1)) (pr.aF rK (pr.idx 0 i1 1))),(.int .i64 (pr.aO Rq (pr.idx 0 i7 1)))] (.bool (fun bH=>(.done (br (br bH false true) (br (pr.bm i0 n52) (br (br (pr.aN 1 Mp (pr.idx 0 i0 1)) true false) (cv 106 [(.sl (some (pr.aG Mp (pr.idx 0 i0 1))) 1 (pr.aD Mp (pr.idx 0 i0 1)) (pr.aF Mp (pr.idx 0 i0 1))),(.int .i64 (pr.aO Rq (pr.idx 0 i7 1)))] (.bool (fun eQ=>(.done (br (br eQ false true) (some ((.bool false),[.undef])) y1))))) none) none) y1))))) none) none) none) none) (J 2 (kA x0 i0 i2 n3 c4 i5 (pr.ar .add .i64 i1 1) i8 b9 ix g11 fI gh g14 n15 qO g17 n18 rK E9 XA XB i23 g24 n25 yV yW n28 yX yY n31 E6 E7 n34 E8 XC n37 XD XE n40 XF))):=by kernel_rfl
def kC (x0:ak) (i0:Int):St:=(St.mk [(1,(.ptr 1 [] 0)),(3,(.int .i64 i0))] [(1,[(.sl (some true) 16 x0.nodes.length (ab (U (some true)) x0.nodes)),(.sl (some true) 3 x0.aH.length (ab (aB (some true)) x0.aH)),(.sl (some true) 2 x0.log.length (ab (bj (some true)) x0.log)),(sI (some true) x0.safe),(.int .i64 x0.gen)])] [] 0)
def kD (x0:ak) (i0:Int) (i1:Int):St:=(St.mk [(1,(.ptr 1 [] 0)),(3,(.int .i64 i0)),(4,(.int .i64 i1))] [(1,[(.sl (some true) 16 x0.nodes.length (ab (U (some true)) x0.nodes)),(.sl (some true) 3 x0.aH.length (ab (aB (some true)) x0.aH)),(.sl (some true) 2 x0.log.length (ab (bj (some true)) x0.log)),(sI (some true) x0.safe),(.int .i64 x0.gen)])] [] 0)
def kE (x0:ak) (i0:Int) (i1:Int) (i2:Int) (i3:Int) (b4:Bool) (b5:Bool) (g6:Bool) (n7:Nat) (c8:List D) (g9:Bool) (nN:Nat) (nO:List D) (g12:Bool) (gX:Nat) (gL:List D) (jm:Bool) (nU:Bool) (nP:Bool) (i18:Int) (g19:Bool) (n20:Nat) (AK:List D) (g22:Bool) (n23:Nat) (xR:List D) (xS:Bool) (n26:Nat) (rL:List D) (ub:Bool) (n29:Nat) (uc:List D) (ud:Bool) (n32:Nat) (xT:List D) (xU:Bool) (n35:Nat) (xV:List D) (i37:Int) (b38:Bool) (b39:Bool) (g40:Bool) (n41:Nat) (c42:List D) (g43:Bool) (n44:Nat) (c45:List D) (g46:Bool) (XH:Nat) (Mq:List D) (b49:Bool) (b50:Bool) (b51:Bool) (i52:Int) (g53:Bool) (n54:Nat) (c55:List D) (g56:Bool) (n57:Nat) (c58:List D) (g59:Bool) (n60:Nat) (c61:List D) (g62:Bool) (n63:Nat) (c64:List D) (g65:Bool) (n66:Nat) (c67:List D) (g68:Bool) (n69:Nat) (c70:List D) (Ba:Nat) (zx:List D):St:=(St.mk [(1,(.ptr 1 [] 0)),(3,(.int .i64 i0)),(4,(.int .i64 i1)),(5,(.ptr 5 [] 0)),(6,(.ptr 6 [] 0)),(7,(.ref 10007 [] 0 none)),(8,(.int .i64 i2))] [(1,[(.sl (some true) 16 x0.nodes.length (ab (U (some true)) x0.nodes)),(.sl (some true) 3 x0.aH.length (ab (aB (some true)) x0.aH)),(.sl (some true) 2 x0.log.length (ab (bj (some true)) x0.log)),(sI (some true) x0.safe),(.int .i64 x0.gen)]),(5,[(.int .i64 i3),(.bool b4),(.bool b5),(.sl (some g6) 1 n7 c8),(.sl (some g9) 1 nN nO),(.sl (some g12) 1 gX gL),(.bool jm),(.bool nU),(.bool nP),(.int .i64 i18),(.sl (some g19) 1 n20 AK),(.sl (some g22) 1 n23 xR),(.sl (some xS) 1 n26 rL),(.sl (some ub) 1 n29 uc),(.sl (some ud) 1 n32 xT),(.sl (some xU) 1 n35 xV)]),(6,[(.int .i64 i37),(.bool b38),(.bool b39),(.sl (some g40) 1 n41 c42),(.sl (some g43) 1 n44 c45),(.sl (some g46) 1 XH Mq),(.bool b49),(.bool b50),(.bool b51),(.int .i64 i52),(.sl (some g53) 1 n54 c55),(.sl (some g56) 1 n57 c58),(.sl (some g59) 1 n60 c61),(.sl (some g62) 1 n63 c64),(.sl (some g65) 1 n66 c67),(.sl (some g68) 1 n69 c70)]),(10007,[(.sl none 1 Ba zx)])] [] 0)
theorem Ei:Told cfg Tryz.prog 118 Tryz.f118:=⟨by kernel_rfl,Tryz.func118,by kernel_rfl⟩
theorem Ej (x0:ak):aW pr cv J 118 Tryz.f118 [(.agg (bM (some true) x0))]=
 (cv 144 [(.agg [(.sl (some true) 16 x0.nodes.length (ab (U (some true)) x0.nodes)),(.sl (some true) 3 x0.aH.length (ab (aB (some true)) x0.aH)),(.sl (some true) 2 x0.log.length (ab (bj (some true)) x0.log)),(sI (some true) x0.safe),(.int .i64 x0.gen)])] (.bool (fun bH=>(.done (br (br bH false true) (some ((.bool false),[.undef])) (J 0 (kC x0 0))))))):=by kernel_rfl
theorem Ax (x0:ak) (i0:Int):bL pr cv J 118 Tryz.f118 [.undef] 0 (kC x0 i0)=
 (br (pr.lt i0 3) (J 2 (kD x0 i0 0)) (some ((.bool true),[.undef]))):=by kernel_rfl
theorem Ay (x0:ak) (i0:Int) (i1:Int):bL pr cv J 118 Tryz.f118 [.undef] 2 (kD x0 i0 i1)=
 let y1:Option Bool:=(some (pr.aG (ab (U (some true)) x0.nodes) ((pr.idx 0 i0 16)+3)))
 let y2:Nat:=(pr.aD (ab (U (some true)) x0.nodes) ((pr.idx 0 i0 16)+3))
 let y3:List D:=(pr.aF (ab (U (some true)) x0.nodes) ((pr.idx 0 i0 16)+3))
 let y4:Option Bool:=(some (pr.aG (ab (U (some true)) x0.nodes) ((pr.idx 0 i1 16)+3)))
 let y5:Nat:=(pr.aD (ab (U (some true)) x0.nodes) ((pr.idx 0 i1 16)+3))
 let y6:List D:=(pr.aF (ab (U (some true)) x0.nodes) ((pr.idx 0 i1 16)+3))
 (br (pr.lt i1 i0) (br (pr.bm i0 x0.nodes.length) (br (br (pr.bR .i64 (ab (U (some true)) x0.nodes) (pr.idx 0 i0 16)) (br (pr.bW (ab (U (some true)) x0.nodes) ((pr.idx 0 i0 16)+1)) (br (pr.bW (ab (U (some true)) x0.nodes) ((pr.idx 0 i0 16)+2)) (br (pr.aN 1 (ab (U (some true)) x0.nodes) ((pr.idx 0 i0 16)+3)) (br (pr.aN 1 (ab (U (some true)) x0.nodes) ((pr.idx 0 i0 16)+4)) (br (pr.aN 1 (ab (U (some true)) x0.nodes) ((pr.idx 0 i0 16)+5)) (br (pr.bW (ab (U (some true)) x0.nodes) ((pr.idx 0 i0 16)+6)) (br (pr.bW (ab (U (some true)) x0.nodes) ((pr.idx 0 i0 16)+7)) (br (pr.bW (ab (U (some true)) x0.nodes) ((pr.idx 0 i0 16)+8)) (br (pr.bR .i64 (ab (U (some true)) x0.nodes) ((pr.idx 0 i0 16)+9)) (br (pr.aN 1 (ab (U (some true)) x0.nodes) ((pr.idx 0 i0 16)+10)) (br (pr.aN 1 (ab (U (some true)) x0.nodes) ((pr.idx 0 i0 16)+11)) (br (pr.aN 1 (ab (U (some true)) x0.nodes) ((pr.idx 0 i0 16)+12)) (br (pr.aN 1 (ab (U (some true)) x0.nodes) ((pr.idx 0 i0 16)+13)) (br (pr.aN 1 (ab (U (some true)) x0.nodes) ((pr.idx 0 i0 16)+14)) (br (pr.aN 1 (ab (U (some true)) x0.nodes) ((pr.idx 0 i0 16)+15)) true false) false) false) false) false) false) false) false) false) false) false) false) false) false) false) false) (br (pr.bm i1 x0.nodes.length) (br (br (pr.bR .i64 (ab (U (some true)) x0.nodes) (pr.idx 0 i1 16)) (br (pr.bW (ab (U (some true)) x0.nodes) ((pr.idx 0 i1 16)+1)) (br (pr.bW (ab (U (some true)) x0.nodes) ((pr.idx 0 i1 16)+2)) (br (pr.aN 1 (ab (U (some true)) x0.nodes) ((pr.idx 0 i1 16)+3)) (br (pr.aN 1 (ab (U (some true)) x0.nodes) ((pr.idx 0 i1 16)+4)) (br (pr.aN 1 (ab (U (some true)) x0.nodes) ((pr.idx 0 i1 16)+5)) (br (pr.bW (ab (U (some true)) x0.nodes) ((pr.idx 0 i1 16)+6)) (br (pr.bW (ab (U (some true)) x0.nodes) ((pr.idx 0 i1 16)+7)) (br (pr.bW (ab (U (some true)) x0.nodes) ((pr.idx 0 i1 16)+8)) (br (pr.bR .i64 (ab (U (some true)) x0.nodes) ((pr.idx 0 i1 16)+9)) (br (pr.aN 1 (ab (U (some true)) x0.nodes) ((pr.idx 0 i1 16)+10)) (br (pr.aN 1 (ab (U (some true)) x0.nodes) ((pr.idx 0 i1 16)+11)) (br (pr.aN 1 (ab (U (some true)) x0.nodes) ((pr.idx 0 i1 16)+12)) (br (pr.aN 1 (ab (U (some true)) x0.nodes) ((pr.idx 0 i1 16)+13)) (br (pr.aN 1 (ab (U (some true)) x0.nodes) ((pr.idx 0 i1 16)+14)) (br (pr.aN 1 (ab (U (some true)) x0.nodes) ((pr.idx 0 i1 16)+15)) true false) false) false) false) false) false) false) false) false) false) false) false) false) false) false) false) (cv 196 [(.sl y1 1 y2 y3),(.sl y4 1 y5 y6)] (.ty gW.I (fun (aL:List Int)=>(.done (J 4 (kE x0 i0 i1 0 (pr.aO (ab (U (some true)) x0.nodes) (pr.idx 0 i0 16)) (pr.bC (ab (U (some true)) x0.nodes) ((pr.idx 0 i0 16)+1)) (pr.bC (ab (U (some true)) x0.nodes) ((pr.idx 0 i0 16)+2)) (pr.aG (ab (U (some true)) x0.nodes) ((pr.idx 0 i0 16)+3)) y2 y3 (pr.aG (ab (U (some true)) x0.nodes) ((pr.idx 0 i0 16)+4)) (pr.aD (ab (U (some true)) x0.nodes) ((pr.idx 0 i0 16)+4)) (pr.aF (ab (U (some true)) x0.nodes) ((pr.idx 0 i0 16)+4)) (pr.aG (ab (U (some true)) x0.nodes) ((pr.idx 0 i0 16)+5)) (pr.aD (ab (U (some true)) x0.nodes) ((pr.idx 0 i0 16)+5)) (pr.aF (ab (U (some true)) x0.nodes) ((pr.idx 0 i0 16)+5)) (pr.bC (ab (U (some true)) x0.nodes) ((pr.idx 0 i0 16)+6)) (pr.bC (ab (U (some true)) x0.nodes) ((pr.idx 0 i0 16)+7)) (pr.bC (ab (U (some true)) x0.nodes) ((pr.idx 0 i0 16)+8)) (pr.aO (ab (U (some true)) x0.nodes) ((pr.idx 0 i0 16)+9)) (pr.aG (ab (U (some true)) x0.nodes) ((pr.idx 0 i0 16)+10)) (pr.aD (ab (U (some true)) x0.nodes) ((pr.idx 0 i0 16)+10)) (pr.aF (ab (U (some true)) x0.nodes) ((pr.idx 0 i0 16)+10)) (pr.aG (ab (U (some true)) x0.nodes) ((pr.idx 0 i0 16)+11)) (pr.aD (ab (U (some true)) x0.nodes) ((pr.idx 0 i0 16)+11)) (pr.aF (ab (U (some true)) x0.nodes) ((pr.idx 0 i0 16)+11)) (pr.aG (ab (U (some true)) x0.nodes) ((pr.idx 0 i0 16)+12)) (pr.aD (ab (U (some true)) x0.nodes) ((pr.idx 0 i0 16)+12)) (pr.aF (ab (U (some true)) x0.nodes) ((pr.idx 0 i0 16)+12)) (pr.aG (ab (U (some true)) x0.nodes) ((pr.idx 0 i0 16)+13)) (pr.aD (ab (U (some true)) x0.nodes) ((pr.idx 0 i0 16)+13)) (pr.aF (ab (U (some true)) x0.nodes) ((pr.idx 0 i0 16)+13)) (pr.aG (ab (U (some true)) x0.nodes) ((pr.idx 0 i0 16)+14)) (pr.aD (ab (U (some true)) x0.nodes) ((pr.idx 0 i0 16)+14)) (pr.aF (ab (U (some true)) x0.nodes) ((pr.idx 0 i0 16)+14)) (pr.aG (ab (U (some true)) x0.nodes) ((pr.idx 0 i0 16)+15)) (pr.aD (ab (U (some true)) x0.nodes) ((pr.idx 0 i0 16)+15)) (pr.aF (ab (U (some true)) x0.nodes) ((pr.idx 0 i0 16)+15)) (pr.aO (ab (U (some true)) x0.nodes) (pr.idx 0 i1 16)) (pr.bC (ab (U (some true)) x0.nodes) ((pr.idx 0 i1 16)+1)) (pr.bC (ab (U (some true)) x0.nodes) ((pr.idx 0 i1 16)+2)) (pr.aG (ab (U (some true)) x0.nodes) ((pr.idx 0 i1 16)+3)) y5 y6 (pr.aG (ab (U (some true)) x0.nodes) ((pr.idx 0 i1 16)+4)) (pr.aD (ab (U (some true)) x0.nodes) ((pr.idx 0 i1 16)+4)) (pr.aF (ab (U (some true)) x0.nodes) ((pr.idx 0 i1 16)+4)) (pr.aG (ab (U (some true)) x0.nodes) ((pr.idx 0 i1 16)+5)) (pr.aD (ab (U (some true)) x0.nodes) ((pr.idx 0 i1 16)+5)) (pr.aF (ab (U (some true)) x0.nodes) ((pr.idx 0 i1 16)+5)) (pr.bC (ab (U (some true)) x0.nodes) ((pr.idx 0 i1 16)+6)) (pr.bC (ab (U (some true)) x0.nodes) ((pr.idx 0 i1 16)+7)) (pr.bC (ab (U (some true)) x0.nodes) ((pr.idx 0 i1 16)+8)) (pr.aO (ab (U (some true)) x0.nodes) ((pr.idx 0 i1 16)+9)) (pr.aG (ab (U (some true)) x0.nodes) ((pr.idx 0 i1 16)+10)) (pr.aD (ab (U (some true)) x0.nodes) ((pr.idx 0 i1 16)+10)) (pr.aF (ab (U (some true)) x0.nodes) ((pr.idx 0 i1 16)+10)) (pr.aG (ab (U (some true)) x0.nodes) ((pr.idx 0 i1 16)+11)) (pr.aD (ab (U (some true)) x0.nodes) ((pr.idx 0 i1 16)+11)) (pr.aF (ab (U (some true)) x0.nodes) ((pr.idx 0 i1 16)+11)) (pr.aG (ab (U (some true)) x0.nodes) ((pr.idx 0 i1 16)+12)) (pr.aD (ab (U (some true)) x0.nodes) ((pr.idx 0 i1 16)+12)) (pr.aF (ab (U (some true)) x0.nodes) ((pr.idx 0 i1 16)+12)) (pr.aG (ab (U (some true)) x0.nodes) ((pr.idx 0 i1 16)+13)) (pr.aD (ab (U (some true)) x0.nodes) ((pr.idx 0 i1 16)+13)) (pr.aF (ab (U (some true)) x0.nodes) ((pr.idx 0 i1 16)+13)) (pr.aG (ab (U (some true)) x0.nodes) ((pr.idx 0 i1 16)+14)) (pr.aD (ab (U (some true)) x0.nodes) ((pr.idx 0 i1 16)+14)) (pr.aF (ab (U (some true)) x0.nodes) ((pr.idx 0 i1 16)+14)) (pr.aG (ab (U (some true)) x0.nodes) ((pr.idx 0 i1 16)+15)) (pr.aD (ab (U (some true)) x0.nodes) ((pr.idx 0 i1 16)+15)) (pr.aF (ab (U (some true)) x0.nodes) ((pr.idx 0 i1 16)+15)) aL.length (ints aL))))))) none) none) none) none) (J 0 (kC x0 (pr.ar .add .i64 i0 1)))):=by kernel_rfl
theorem Az (x0:ak) (i0:Int) (i1:Int) (i2:Int) (i3:Int) (b4:Bool) (b5:Bool) (g6:Bool) (n7:Nat) (c8:List D) (g9:Bool) (nN:Nat) (nO:List D) (g12:Bool) (gX:Nat) (gL:List D) (jm:Bool) (nU:Bool) (nP:Bool) (i18:Int) (g19:Bool) (n20:Nat) (AK:List D) (g22:Bool) (n23:Nat) (xR:List D) (xS:Bool) (n26:Nat) (rL:List D) (ub:Bool) (n29:Nat) (uc:List D) (ud:Bool) (n32:Nat) (xT:List D) (xU:Bool) (n35:Nat) (xV:List D) (i37:Int) (b38:Bool) (b39:Bool) (g40:Bool) (n41:Nat) (c42:List D) (g43:Bool) (n44:Nat) (c45:List D) (g46:Bool) (XH:Nat) (Mq:List D) (b49:Bool) (b50:Bool) (b51:Bool) (i52:Int) (g53:Bool) (n54:Nat) (c55:List D) (g56:Bool) (n57:Nat) (c58:List D) (g59:Bool) (n60:Nat) (c61:List D) (g62:Bool) (n63:Nat) (c64:List D) (g65:Bool) (n66:Nat) (c67:List D) (g68:Bool) (n69:Nat) (c70:List D) (Ba:Nat) (zx:List D):bL pr cv J 118 Tryz.f118 [.undef] 4 (kE x0 i0 i1 i2 i3 b4 b5 g6 n7 c8 g9 nN nO g12 gX gL jm nU nP i18 g19 n20 AK g22 n23 xR xS n26 rL ub n29 uc ud n32 xT xU n35 xV i37 b38 b39 g40 n41 c42 g43 n44 c45 g46 XH Mq b49 b50 b51 i52 g53 n54 c55 g56 n57 c58 g59 n60 c61 g62 n63 c64 g65 n66 c67 g68 n69 c70 Ba zx)=
 let y1:Option Rz:=(J 4 (kE x0 i0 i1 (pr.ar .add .i64 i2 1) i3 b4 b5 g6 n7 c8 g9 nN nO g12 gX gL jm nU nP i18 g19 n20 AK g22 n23 xR xS n26 rL ub n29 uc ud n32 xT xU n35 xV i37 b38 b39 g40 n41 c42 g43 n44 c45 g46 XH Mq b49 b50 b51 i52 g53 n54 c55 g56 n57 c58 g59 n60 c61 g62 n63 c64 g65 n66 c67 g68 n69 c70 Ba zx))
 (br (pr.lt i2 (pr.aV Ba)) (br (pr.bm i1 gX) (br (br (pr.aN 1 gL (pr.idx 0 i1 1)) true false) (br (pr.bm i2 Ba) (br (br (pr.bR .i64 zx (pr.idx 0 i2 1)) true false) (cv 102 [(.sl (some (pr.aG gL (pr.idx 0 i1 1))) 1 (pr.aD gL (pr.idx 0 i1 1)) (pr.aF gL (pr.idx 0 i1 1))),(.int .i64 (pr.aO zx (pr.idx 0 i2 1)))] (.bool (fun bH=>(.done (br (br bH false true) (br (pr.bm i0 XH) (br (br (pr.aN 1 Mq (pr.idx 0 i0 1)) true false) (br (pr.bm i2 Ba) (br (br (pr.bR .i64 zx (pr.idx 0 i2 1)) true false) (cv 102 [(.sl (some (pr.aG Mq (pr.idx 0 i0 1))) 1 (pr.aD Mq (pr.idx 0 i0 1)) (pr.aF Mq (pr.idx 0 i0 1))),(.int .i64 (pr.aO zx (pr.idx 0 i2 1)))] (.bool (fun eQ=>(.done (br (br eQ false true) (some ((.bool false),[.undef])) y1))))) none) none) none) none) y1))))) none) none) none) none) (J 2 (kD x0 i0 (pr.ar .add .i64 i1 1)))):=by kernel_rfl
end
def oW (a b:List Int) (i:Nat):Bool:=if i < a.length then (if i < b.length then !decide (a.getD i 0=b.getD i 0) else true) else decide (i < b.length)
def kM (a b:List Int):Nat->List Int
 | 0=>[]
 | i+1=>if oW a b i=true then kM a b i++[(i:Int)] else kM a b i
theorem XI {a b:List Int} {i:Nat} (h:oW a b i=true):kM a b (i+1)=kM a b i++[(i:Int)]:=by
 show (if _ then _ else _)=_
 rw [if_pos h]
theorem XJ {a b:List Int} {i:Nat} (h:oW a b i=false):kM a b (i+1)=kM a b i:=by
 show (if _ then _ else _)=_
 rw [h];rfl
theorem wW (a b:List Int):∀ i,(kM a b i).length<=i
 | 0=>by simp [kM]
 | i+1=>by
  have:=wW a b i;unfold kM;split
  ·simp; omega
  ·omega
def fB (a b:List Int):List Int:=kM a b 8
theorem Oe (a:List Int) (b:List Int) (q0:a.length < 4611686018427387904) (q1:b.length < 4611686018427387904):Cm 205 [sI (some true) a,sI (some true) b] (sI none (fB a b),[.undef,.undef]):=by
 refine Cm.step Oa [.undef,.undef] fun J hJ=>?_;rw [Ob];refine hJ _ _ ?_;refine WP.up (H:=fun i:Nat=>ig a b (i:Int) (kM a b i).length (ints (kM a b i))) 8 (fun _=>True) (fun i hi _ J hJ next=>?_) 0 (by omega) trivial
 rw [Gr];have bl:=wW a b i
 try simp (disch:=first | assumption | omega) only [go_sem]
 refine bK (fun hl=>?_) (fun hl=>?_)
 ·have next:=next (by omega) trivial
  have yes:oW a b i=true->J 0 (ig a b ((i:Int)+1) ((kM a b i).length+1) (ints (kM a b i++[(i:Int)])))=some (sI none (fB a b),[.undef,.undef]):=fun h=>by rw [XI h,aad] at next; exact next
  have no:oW a b i=false->J 0 (ig a b ((i:Int)+1) (kM a b i).length (ints (kM a b i)))=some (sI none (fB a b),[.undef,.undef]):=fun h=>by rw [XJ h] at next; exact next
  by_cases ha:i < a.length
  ·by_cases hb:i < b.length
   ·try simp (disch:=first | assumption | omega) only [go_sem,show decide ((i:Int) < a.length)=true from decide_eq_true (by omega),show decide ((i:Int) < b.length)=true from decide_eq_true (by omega),eq_self]
    refine bK (fun he=>?_) (fun he=>?_)
    ·try simp (disch:=first | assumption | omega) only [go_sem]
     exact no (by unfold oW; rw [if_pos ha,if_pos hb,decide_eq_true he]; rfl)
    ·try simp (disch:=first | assumption | omega) only [go_sem]
     exact yes (by unfold oW; rw [if_pos ha,if_pos hb,decide_eq_false he]; rfl)
   ·try simp (disch:=first | assumption | omega) only [go_sem,show decide ((i:Int) < a.length)=true from decide_eq_true (by omega),show decide ((i:Int) < b.length)=false from decide_eq_false (by omega),Bool.true_eq_false]
    exact yes (by unfold oW; rw [if_pos ha,if_neg hb])
  ·by_cases hb:i < b.length
   ·try simp (disch:=first | assumption | omega) only [go_sem,show decide ((i:Int) < a.length)=false from decide_eq_false (by omega),show decide ((i:Int) < b.length)=true from decide_eq_true (by omega),aai]
    exact yes (by unfold oW; rw [if_neg ha,decide_eq_true hb])
   ·try simp (disch:=first | assumption | omega) only [go_sem,show decide ((i:Int) < a.length)=false from decide_eq_false (by omega),show decide ((i:Int) < b.length)=false from decide_eq_false (by omega),eq_self]
    exact no (by unfold oW; rw [if_neg ha,decide_eq_false hb])
 ·rw [show i=8 by omega]
  rfl
@[go_sem] theorem adL (a0:Nat) (a:List Int) (b0:Nat) (b:List Int) (e0:a0=a.length) (e1:b0=b.length) (q0:a.length < 4611686018427387904) (q1:b.length < 4611686018427387904) (t:bO Rz):aX 205 [.sl (some true) 1 a0 (ints a),.sl (some true) 1 b0 (ints b)] t=feed t [enc .I (fB a b)]:=by
 subst e0;subst e1;exact bN (r:=enc .I (fB a b)) (s:=.ty .I) (ss:=[.undef,.undef]) (Oe a b q0 q1) (by kernel_rfl) (by simp only [av,bw,aU,bz,bA,af,aj,tC]) (by simp only [af,aJ,av,aj,tC]) (by first | rfl | simp only [au,aS,aR,bq,bt,aT,bu,tC]) (by first | rfl | simp only [UL,aab,au,tC]) t
theorem Of (a:List Int) (b:List Int) (q0:a.length < 4611686018427387904) (q1:b.length < 4611686018427387904):Cm 196 [sI (some true) a,sI (some true) b] (sI none (fB a b),[.undef,.undef]):=by
 refine Cm.step Oc [.undef,.undef] fun J hJ=>?_;rw [Od];refine hJ _ _ ?_;refine WP.up (H:=fun i:Nat=>ij a b (i:Int) (kM a b i).length (ints (kM a b i))) 8 (fun _=>True) (fun i hi _ J hJ next=>?_) 0 (by omega) trivial
 rw [Gs];have bl:=wW a b i
 try simp (disch:=first | assumption | omega) only [go_sem]
 refine bK (fun hl=>?_) (fun hl=>?_)
 ·have next:=next (by omega) trivial
  have yes:oW a b i=true->J 0 (ij a b ((i:Int)+1) ((kM a b i).length+1) (ints (kM a b i++[(i:Int)])))=some (sI none (fB a b),[.undef,.undef]):=fun h=>by rw [XI h,aad] at next; exact next
  have no:oW a b i=false->J 0 (ij a b ((i:Int)+1) (kM a b i).length (ints (kM a b i)))=some (sI none (fB a b),[.undef,.undef]):=fun h=>by rw [XJ h] at next; exact next
  by_cases ha:i < a.length
  ·by_cases hb:i < b.length
   ·try simp (disch:=first | assumption | omega) only [go_sem,show decide ((i:Int) < a.length)=true from decide_eq_true (by omega),show decide ((i:Int) < b.length)=true from decide_eq_true (by omega),eq_self]
    refine bK (fun he=>?_) (fun he=>?_)
    ·try simp (disch:=first | assumption | omega) only [go_sem]
     exact no (by unfold oW; rw [if_pos ha,if_pos hb,decide_eq_true he]; rfl)
    ·try simp (disch:=first | assumption | omega) only [go_sem]
     exact yes (by unfold oW; rw [if_pos ha,if_pos hb,decide_eq_false he]; rfl)
   ·try simp (disch:=first | assumption | omega) only [go_sem,show decide ((i:Int) < a.length)=true from decide_eq_true (by omega),show decide ((i:Int) < b.length)=false from decide_eq_false (by omega),Bool.true_eq_false]
    exact yes (by unfold oW; rw [if_pos ha,if_neg hb])
  ·by_cases hb:i < b.length
   ·try simp (disch:=first | assumption | omega) only [go_sem,show decide ((i:Int) < a.length)=false from decide_eq_false (by omega),show decide ((i:Int) < b.length)=true from decide_eq_true (by omega),aai]
    exact yes (by unfold oW; rw [if_neg ha,decide_eq_true hb])
   ·try simp (disch:=first | assumption | omega) only [go_sem,show decide ((i:Int) < a.length)=false from decide_eq_false (by omega),show decide ((i:Int) < b.length)=false from decide_eq_false (by omega),eq_self]
    exact no (by unfold oW; rw [if_neg ha,decide_eq_false hb])
 ·rw [show i=8 by omega]
  rfl
@[go_sem] theorem adM (a0:Nat) (a:List Int) (b0:Nat) (b:List Int) (e0:a0=a.length) (e1:b0=b.length) (q0:a.length < 4611686018427387904) (q1:b.length < 4611686018427387904) (t:bO Rz):aX 196 [.sl (some true) 1 a0 (ints a),.sl (some true) 1 b0 (ints b)] t=feed t [enc .I (fB a b)]:=by
 subst e0;subst e1;exact bN (r:=enc .I (fB a b)) (s:=.ty .I) (ss:=[.undef,.undef]) (Of a b q0 q1) (by kernel_rfl) (by simp only [av,bw,aU,bz,bA,af,aj,tC]) (by simp only [af,aJ,av,aj,tC]) (by first | rfl | simp only [au,aS,aR,bq,bt,aT,bu,tC]) (by first | rfl | simp only [UL,aab,au,tC]) t
attribute [go_sem] Nat.sub_zero
def XK (w:ak) (i k:Nat):Prop:=∀ c∈fB (w.nodes.getD i n0).image (w.nodes.getD k n0).image,c∈(w.nodes.getD i n0).mt.bits.getD k []∨c∈(w.nodes.getD k n0).mt.bits.getD i []
structure agr (w:ak):Prop where
 ok:xW w
 all:∀ i,i < 3->∀ k,k < i->XK w i k
noncomputable def gy (w:ak):Bool:=oV (agr w)
theorem I5 {α:Type} {xs:List α} {d:α} {p:α->Prop} (h:∀ i,i < xs.length->p (xs.getD i d)):∀ x∈xs,p x:=by
 intro x hx;obtain ⟨i,hi,rfl⟩:=aeQ hx;rw [<- dT (d:=d) hi];exact h i hi
theorem DT {m:bn} (ok:dt m) {k:Nat} (h:k < m.bits.length):(m.bits.getD k []).length<=1048576:=ok.bits.2 _ (pc h)
theorem Ek (w:ak) (q0:cd w):Cm 125 [.agg (bM (some true) w)] (.bool (gy w),[.undef]):=by
 unfold gy;have b1:=q0.nodes;refine Cm.step Eg [.undef] fun J hJ=>?_;rw [Eh]
 try simp (disch:=first | assumption | omega) only [go_sem]
 refine gv (fun h=>?_) (fun h=>eK fun o=>Db h o.ok);have o:=uA h;have nl:=o.ns.len
 try simp (disch:=first | assumption | omega) only [go_sem]
 refine hJ _ _ ?_;refine WP.Ml (H:=fun i:Nat=>kz w w.nodes.length (i:Int)) 3 (fun i=>∀ a,a < i->∀ k,k < a->XK w a k) (fun i hi inv next=>?_) 0 (by omega) (fun a h=>absurd h (by omega))
 refine WP.step fun J hJ=>?_;rw [Au]
 try simp (disch:=first | assumption | omega) only [go_sem]
 refine bK (fun hl=>?_) (fun hl=>As ⟨o,fun a ha=>inv a (by omega)⟩)
 try simp (disch:=first | assumption | omega) only [go_sem]
 refine hJ _ _ ?_;have oi:=Ri q0 (show i < w.nodes.length by omega)
 have bi:=nC (fL (o.ns.nd i (by omega)).ok).mt
 have mi:=oi.image;refine WP.Ml (H:=fun k:Nat=>kA w i w.nodes.length i (ab (U (some true)) (w.nodes.take i)) i k _ _ _ _ _ _ _ _ _ _ _ _ _ _ _ _ _ _ _ _ _ _ _ _ _ _ _ _ _ _ _ _ _ _) i (fun k=>∀ b,b < k->XK w i b) (fun k hk inv2 qe=>?_) 0 (by omega) (fun a h=>absurd h (by omega))
 refine WP.step fun J hJ=>?_;rw [Av];have tl:(w.nodes.take i).length=i:=by rw [aaB]; omega
 try simp (disch:=first | assumption | omega) only [go_sem]
 refine bK (fun yv=>?_) (fun yv=>?_)
 ·have ok:=Ri q0 (show k < w.nodes.length by omega)
  have bk:=nC (fL (o.ns.nd k (by omega)).ok).mt
  have mk:=ok.image;have s1:=DT oi.mt (k:=k) (by omega)
  have s2:=DT ok.mt (k:=i) (by omega)
  try simp (disch:=first | assumption | omega) only [go_sem]
  refine hJ _ _ ?_;refine WP.up (H:=fun c:Nat=>kB w i k w.nodes.length i (ab (U (some true)) (w.nodes.take i)) i (fB (w.nodes.getD i n0).image (w.nodes.getD k n0).image).length c _ _ _ _ _ _ _ _ _ _ _ _ _ _ _ _ _ _ _ _ _ _ _ _ _ _ _ _ _ _ _ _ _ _ _ _ _ _ _ _ _ _ _ _ _ _ _ _ _ _ _ _ _ _ _ _ _ _ _ _ _ _ _ _ _ _ _ _ _ _) (fB (w.nodes.getD i n0).image (w.nodes.getD k n0).image).length (fun c=>∀ a,a < c->(fB (w.nodes.getD i n0).image (w.nodes.getD k n0).image).getD a 0∈(w.nodes.getD i n0).mt.bits.getD k []∨(fB (w.nodes.getD i n0).image (w.nodes.getD k n0).image).getD a 0∈(w.nodes.getD k n0).mt.bits.getD i []) (fun c hc Gt J hJ I6=>?_) 0 (by omega) (fun a h=>absurd h (by omega))
  rw [Aw];have dl:=wW (w.nodes.getD i n0).image (w.nodes.getD k n0).image 8;have dl:(fB (w.nodes.getD i n0).image (w.nodes.getD k n0).image).length<=8:=dl
  try simp (disch:=first | assumption | omega) only [go_sem]
  refine bK (fun AF=>?_) (fun AF=>?_)
  ·try simp (disch:=first | assumption | omega) only [go_sem]
   refine bK (fun h1=>?_) (fun h1=>?_)
   ·try simp (disch:=first | assumption | omega) only [go_sem]
    exact I6 (by omega) (dm Gt (.inl h1))
   ·try simp (disch:=first | assumption | omega) only [go_sem]
    refine bK (fun h2=>?_) (fun h2=>eK fun o=>(o.all i (by omega) k (by omega) _ (pc (d:=0) (i:=c) (by omega))).elim h1 h2)
    try simp (disch:=first | assumption | omega) only [go_sem]
    exact I6 (by omega) (dm Gt (.inr h2))
  ·try simp (disch:=first | assumption | omega) only [go_sem]
   exact hJ _ _ (qe (by omega) (dm inv2 (I5 (d:=0) fun a ha=>Gt a (by omega))))
 ·try simp (disch:=first | assumption | omega) only [go_sem]
  exact hJ _ _ (next (by omega) (dm inv fun b hb=>inv2 b (by omega)))
@[go_sem] theorem XN (w:ak) (q0:cd w) (t:bO Rz):aX 125 [.agg (fj (some true) w)] t=feed t [.bool (gy w)]:=by
 exact bN (r:=.bool (gy w)) (s:=.bool) (ss:=[.undef]) (Ek w q0) (by kernel_rfl) (by simp only [av,bw,aU,bz,bA,af,aj,tC]) (by simp only [af,aJ,av,aj,tC]) (by first | rfl | simp only [au,aS,aR,bq,bt,aT,bu,tC]) (by first | rfl | simp only [UL,aab,au,tC]) t
theorem El (w:ak) (q0:cd w):Cm 118 [.agg (bM (some true) w)] (.bool (gy w),[.undef]):=by
 unfold gy;have b1:=q0.nodes;refine Cm.step Ei [.undef] fun J hJ=>?_;rw [Ej]
 try simp (disch:=first | assumption | omega) only [go_sem]
 refine gv (fun h=>?_) (fun h=>eK fun o=>Db h o.ok);have o:=uA h;have nl:=o.ns.len
 try simp (disch:=first | assumption | omega) only [go_sem]
 refine hJ _ _ ?_;refine WP.Ml (H:=fun i:Nat=>kC w (i:Int)) 3 (fun i=>∀ a,a < i->∀ k,k < a->XK w a k) (fun i hi inv next=>?_) 0 (by omega) (fun a h=>absurd h (by omega))
 refine WP.step fun J hJ=>?_;rw [Ax]
 try simp (disch:=first | assumption | omega) only [go_sem]
 refine bK (fun hl=>?_) (fun hl=>As ⟨o,fun a ha=>inv a (by omega)⟩)
 try simp (disch:=first | assumption | omega) only [go_sem]
 refine hJ _ _ ?_;have oi:=Ri q0 (show i < w.nodes.length by omega)
 have bi:=nC (fL (o.ns.nd i (by omega)).ok).mt
 have mi:=oi.image;refine WP.Ml (H:=fun k:Nat=>kD w i k) i (fun k=>∀ b,b < k->XK w i b) (fun k hk inv2 qe=>?_) 0 (by omega) (fun a h=>absurd h (by omega))
 refine WP.step fun J hJ=>?_;rw [Ay]
 try simp (disch:=first | assumption | omega) only [go_sem]
 refine bK (fun yv=>?_) (fun yv=>?_)
 ·have ok:=Ri q0 (show k < w.nodes.length by omega)
  have bk:=nC (fL (o.ns.nd k (by omega)).ok).mt
  have mk:=ok.image;have s1:=DT oi.mt (k:=k) (by omega)
  have s2:=DT ok.mt (k:=i) (by omega)
  try simp (disch:=first | assumption | omega) only [go_sem]
  refine hJ _ _ ?_;refine WP.up (H:=fun c:Nat=>kE w i k c _ _ _ _ _ _ _ _ _ _ _ _ _ _ _ _ _ _ _ _ _ _ _ _ _ _ _ _ _ _ _ _ _ _ _ _ _ _ _ _ _ _ _ _ _ _ _ _ _ _ _ _ _ _ _ _ _ _ _ _ _ _ _ _ _ _ _ _ _ _) (fB (w.nodes.getD i n0).image (w.nodes.getD k n0).image).length (fun c=>∀ a,a < c->(fB (w.nodes.getD i n0).image (w.nodes.getD k n0).image).getD a 0∈(w.nodes.getD i n0).mt.bits.getD k []∨(fB (w.nodes.getD i n0).image (w.nodes.getD k n0).image).getD a 0∈(w.nodes.getD k n0).mt.bits.getD i []) (fun c hc Gt J hJ I6=>?_) 0 (by omega) (fun a h=>absurd h (by omega))
  rw [Az];have dl:=wW (w.nodes.getD i n0).image (w.nodes.getD k n0).image 8;have dl:(fB (w.nodes.getD i n0).image (w.nodes.getD k n0).image).length<=8:=dl
  try simp (disch:=first | assumption | omega) only [go_sem]
  refine bK (fun AF=>?_) (fun AF=>?_)
  ·try simp (disch:=first | assumption | omega) only [go_sem]
   refine bK (fun h1=>?_) (fun h1=>?_)
   ·try simp (disch:=first | assumption | omega) only [go_sem]
    exact I6 (by omega) (dm Gt (.inl h1))
   ·try simp (disch:=first | assumption | omega) only [go_sem]
    refine bK (fun h2=>?_) (fun h2=>eK fun o=>(o.all i (by omega) k (by omega) _ (pc (d:=0) (i:=c) (by omega))).elim h1 h2)
    try simp (disch:=first | assumption | omega) only [go_sem]
    exact I6 (by omega) (dm Gt (.inr h2))
  ·try simp (disch:=first | assumption | omega) only [go_sem]
   exact hJ _ _ (qe (by omega) (dm inv2 (I5 (d:=0) fun a ha=>Gt a (by omega))))
 ·try simp (disch:=first | assumption | omega) only [go_sem]
  exact hJ _ _ (next (by omega) (dm inv fun b hb=>inv2 b (by omega)))
@[go_sem] theorem XO (w:ak) (q0:cd w) (t:bO Rz):aX 118 [.agg (fj (some true) w)] t=feed t [.bool (gy w)]:=by
 exact bN (r:=.bool (gy w)) (s:=.bool) (ss:=[.undef]) (El w q0) (by kernel_rfl) (by simp only [av,bw,aU,bz,bA,af,aj,tC]) (by simp only [af,aJ,av,aj,tC]) (by first | rfl | simp only [au,aS,aR,bq,bt,aT,bu,tC]) (by first | rfl | simp only [UL,aab,au,tC]) t
set_option maxRecDepth 100000
section
variable (pr:dC) (cv:Cv Rz) (J:Nat->St->Option Rz)
theorem I7:Told cfg Tryz.prog 37 Tryz.f37:=⟨by kernel_rfl,Tryz.func37,by kernel_rfl⟩
theorem I8 (x0:ak):aW pr cv J 37 Tryz.f37 [(.agg (bM (some true) x0))]=
 let y1:Option (D × List D):=(some ((.bool false),[.undef]))
 (cv 123 [(.agg [(.sl (some true) 16 x0.nodes.length (ab (U (some true)) x0.nodes)),(.sl (some true) 3 x0.aH.length (ab (aB (some true)) x0.aH)),(.sl (some true) 2 x0.log.length (ab (bj (some true)) x0.log)),(sI (some true) x0.safe),(.int .i64 x0.gen)])] (.bool (fun bH=>(.done (br bH (cv 124 [(.agg [(.sl (some true) 16 x0.nodes.length (ab (U (some true)) x0.nodes)),(.sl (some true) 3 x0.aH.length (ab (aB (some true)) x0.aH)),(.sl (some true) 2 x0.log.length (ab (bj (some true)) x0.log)),(sI (some true) x0.safe),(.int .i64 x0.gen)])] (.bool (fun eQ=>(.done (br eQ (cv 125 [(.agg [(.sl (some true) 16 x0.nodes.length (ab (U (some true)) x0.nodes)),(.sl (some true) 3 x0.aH.length (ab (aB (some true)) x0.aH)),(.sl (some true) 2 x0.log.length (ab (bj (some true)) x0.log)),(sI (some true) x0.safe),(.int .i64 x0.gen)])] (.bool (fun gi=>(.done (br gi (cv 126 [(.agg [(.sl (some true) 16 x0.nodes.length (ab (U (some true)) x0.nodes)),(.sl (some true) 3 x0.aH.length (ab (aB (some true)) x0.aH)),(.sl (some true) 2 x0.log.length (ab (bj (some true)) x0.log)),(sI (some true) x0.safe),(.int .i64 x0.gen)])] (.bool (fun wk=>(.done (some ((.bool wk),[.undef])))))) y1))))) y1))))) y1))))):=by kernel_rfl
theorem I9:Told cfg Tryz.prog 35 Tryz.f35:=⟨by kernel_rfl,Tryz.func35,by kernel_rfl⟩
theorem Ja (x0:ak):aW pr cv J 35 Tryz.f35 [(.agg (bM (some true) x0))]=
 let y1:Option (D × List D):=(some ((.bool false),[.undef]))
 (cv 116 [(.agg [(.sl (some true) 16 x0.nodes.length (ab (U (some true)) x0.nodes)),(.sl (some true) 3 x0.aH.length (ab (aB (some true)) x0.aH)),(.sl (some true) 2 x0.log.length (ab (bj (some true)) x0.log)),(sI (some true) x0.safe),(.int .i64 x0.gen)])] (.bool (fun bH=>(.done (br bH (cv 117 [(.agg [(.sl (some true) 16 x0.nodes.length (ab (U (some true)) x0.nodes)),(.sl (some true) 3 x0.aH.length (ab (aB (some true)) x0.aH)),(.sl (some true) 2 x0.log.length (ab (bj (some true)) x0.log)),(sI (some true) x0.safe),(.int .i64 x0.gen)])] (.bool (fun eQ=>(.done (br eQ (cv 118 [(.agg [(.sl (some true) 16 x0.nodes.length (ab (U (some true)) x0.nodes)),(.sl (some true) 3 x0.aH.length (ab (aB (some true)) x0.aH)),(.sl (some true) 2 x0.log.length (ab (bj (some true)) x0.log)),(sI (some true) x0.safe),(.int .i64 x0.gen)])] (.bool (fun gi=>(.done (br gi (cv 119 [(.agg [(.sl (some true) 16 x0.nodes.length (ab (U (some true)) x0.nodes)),(.sl (some true) 3 x0.aH.length (ab (aB (some true)) x0.aH)),(.sl (some true) 2 x0.log.length (ab (bj (some true)) x0.log)),(sI (some true) x0.safe),(.int .i64 x0.gen)])] (.bool (fun wk=>(.done (some ((.bool wk),[.undef])))))) y1))))) y1))))) y1))))):=by kernel_rfl
end
noncomputable def mL (w:ak):Bool:=jc w&&(fN w&&(gy w&&jL w))
theorem Jb (w:ak) (q0:cd w):Cm 37 [.agg (bM (some true) w)] (.bool (mL w),[.undef]):=by
 refine Cm.step I7 [.undef] fun J hJ=>?_;rw [I8];unfold mL;simp (disch:=first | assumption | omega) only [go_sem]
 cases jc w with
 | false=>rfl
 | true=>
  simp (disch:=first | assumption | omega) only [go_sem]
  cases fN w with
  | false=>rfl
  | true=>
   simp (disch:=first | assumption | omega) only [go_sem]
   cases gy w with
   | false=>rfl
   | true=>
    simp (disch:=first | assumption | omega) only [go_sem]
    rfl
@[go_sem] theorem abW (w:ak) (q0:cd w) (t:bO Rz):aX 37 [.agg (fj (some true) w)] t=feed t [.bool (mL w)]:=by
 exact bN (r:=.bool (mL w)) (s:=.bool) (ss:=[.undef]) (Jb w q0) (by kernel_rfl) (by simp only [av,bw,aU,bz,bA,af,aj,tC]) (by simp only [af,aJ,av,aj,tC]) (by first | rfl | simp only [au,aS,aR,bq,bt,aT,bu,tC]) (by first | rfl | simp only [UL,aab,au,tC]) t
theorem Jc (w:ak) (q0:cd w):Cm 35 [.agg (bM (some true) w)] (.bool (mL w),[.undef]):=by
 refine Cm.step I9 [.undef] fun J hJ=>?_;rw [Ja];unfold mL;simp (disch:=first | assumption | omega) only [go_sem]
 cases jc w with
 | false=>rfl
 | true=>
  simp (disch:=first | assumption | omega) only [go_sem]
  cases fN w with
  | false=>rfl
  | true=>
   simp (disch:=first | assumption | omega) only [go_sem]
   cases gy w with
   | false=>rfl
   | true=>
    simp (disch:=first | assumption | omega) only [go_sem]
    rfl
@[go_sem] theorem abX (w:ak) (q0:cd w) (t:bO Rz):aX 35 [.agg (fj (some true) w)] t=feed t [.bool (mL w)]:=by
 exact bN (r:=.bool (mL w)) (s:=.bool) (ss:=[.undef]) (Jc w q0) (by kernel_rfl) (by simp only [av,bw,aU,bz,bA,af,aj,tC]) (by simp only [af,aJ,av,aj,tC]) (by first | rfl | simp only [au,aS,aR,bq,bt,aT,bu,tC]) (by first | rfl | simp only [UL,aab,au,tC]) t
set_option maxRecDepth 100000
section
variable (pr:dC) (cv:Cv Rz) (J:Nat->St->Option Rz)
theorem yo:Told cfg Tryz.prog 7 Tryz.f7:=⟨by kernel_rfl,Tryz.func7,by kernel_rfl⟩
theorem yp (g0:Bool) (x0:ak):aW pr cv J 7 Tryz.f7 [(.agg (bM (some g0) x0))]=
 let y1:Option (D × List D):=(some ((.bool true),[.undef]))
 let y2:Option (D × List D):=(some ((.bool false),[.undef]))
 (cv 34 [(.agg [(.sl (some g0) 16 x0.nodes.length (ab (U (some g0)) x0.nodes)),(.sl (some g0) 3 x0.aH.length (ab (aB (some g0)) x0.aH)),(.sl (some g0) 2 x0.log.length (ab (bj (some g0)) x0.log)),(sI (some g0) x0.safe),(.int .i64 x0.gen)]),(.int .i64 1048576)] (.int (fun ef=>(.done (br (pr.lt ef 0) y1 (cv 36 [(.agg [(.sl (some g0) 16 x0.nodes.length (ab (U (some g0)) x0.nodes)),(.sl (some g0) 3 x0.aH.length (ab (aB (some g0)) x0.aH)),(.sl (some g0) 2 x0.log.length (ab (bj (some g0)) x0.log)),(sI (some g0) x0.safe),(.int .i64 x0.gen)])] (.ty gW.world (fun (nW:ak)=>(.done (cv 35 [(.agg [(.sl (some true) 16 nW.nodes.length (cI true (ab (U none) nW.nodes))),(.sl (some true) 3 nW.aH.length (cI true (ab (aB none) nW.aH))),(.sl (some true) 2 nW.log.length (cI true (ab (bj none) nW.log))),(fC true (sI none nW.safe)),(.int .i64 nW.gen)])] (.bool (fun gi=>(.done (cv 36 [(.agg [(.sl (some g0) 16 x0.nodes.length (ab (U (some g0)) x0.nodes)),(.sl (some g0) 3 x0.aH.length (ab (aB (some g0)) x0.aH)),(.sl (some g0) 2 x0.log.length (ab (bj (some g0)) x0.log)),(sI (some g0) x0.safe),(.int .i64 x0.gen)])] (.ty gW.world (fun (kJ:ak)=>(.done (cv 37 [(.agg [(.sl (some true) 16 kJ.nodes.length (cI true (ab (U none) kJ.nodes))),(.sl (some true) 3 kJ.aH.length (cI true (ab (aB none) kJ.aH))),(.sl (some true) 2 kJ.log.length (cI true (ab (bj none) kJ.log))),(fC true (sI none kJ.safe)),(.int .i64 kJ.gen)])] (.bool (fun Qv=>(.done (br (br (pr.beq Qv gi) false true) y2 (cv 36 [(.agg [(.sl (some g0) 16 x0.nodes.length (ab (U (some g0)) x0.nodes)),(.sl (some g0) 3 x0.aH.length (ab (aB (some g0)) x0.aH)),(.sl (some g0) 2 x0.log.length (ab (bj (some g0)) x0.log)),(sI (some g0) x0.safe),(.int .i64 x0.gen)])] (.ty gW.world (fun (Mr:ak)=>(.done (cv 38 [(.agg [(.sl (some true) 16 kJ.nodes.length (cI true (ab (U none) kJ.nodes))),(.sl (some true) 3 kJ.aH.length (cI true (ab (aB none) kJ.aH))),(.sl (some true) 2 kJ.log.length (cI true (ab (bj none) kJ.log))),(fC true (sI none kJ.safe)),(.int .i64 kJ.gen)]),(.agg [(.sl (some true) 16 Mr.nodes.length (cI true (ab (U none) Mr.nodes))),(.sl (some true) 3 Mr.aH.length (cI true (ab (aB none) Mr.aH))),(.sl (some true) 2 Mr.log.length (cI true (ab (bj none) Mr.log))),(fC true (sI none Mr.safe)),(.int .i64 Mr.gen)])] (.bool (fun rJ=>(.done (br (br rJ false true) y2 y1))))))))))))))))))))))))))))))):=by kernel_rfl
end
theorem Em (w:ak) (lw:zh w) (iw:SV w):Cm 7 [.agg (bM (some false) w)] (.bool true,[.undef]):=by
 have _:=iw;refine Cm.step yo _ fun J _=>?_;rw [yp];have a1:=RH (w:=w) (l:=1048576) (by omega) (by omega)
 simp (disch:=first | assumption | omega) only [go_sem]
 refine bK (fun _=>rfl) (fun hv=>?_);have ok:cd w:=a1.2.2 (by omega)
 simp (disch:=first | assumption | omega) only [go_sem]
end Go.Proofs.YtckkpgcnhdllgaaGreat
namespace Go.Proofs.YtckkpgcnhdllgaaGreat.fnExactJudgeAll
open Go.ChangeShapes Go.WideShapes Go.ChangeAt Go.RowKit
set_option maxRecDepth 100000
theorem own:ownKnob Tryz.prog.godebug=none:=by kernel_rfl
theorem laidOut:laidOutB Tryz.prog=true:=by kernel_rfl
theorem lifted (os:Os) (started:os.Started) (H:Type) (enc:TypeId × Value->H):
  ReturnsInHanded {} Tryz.checked os 7 .any (Rows.fnExactJudgeAllSpec.pre6 enc Tryz.prog Tryz.f7 Rows.fnExactJudgeAllRow.domain false) (Rows.fnExactJudgeAllSpec.post enc Tryz.prog Tryz.f7 false true false false):=by
 refine returnsInHanded_of_change_sized (C:=Tryz.checked) own started (by kernel_rfl) Tryz.func7
  (ChangeSpec.witness6 (enc:=enc) (C:=Tryz.checked) false ⟨#[],#[.agg #[.slice none 0 0,.slice none 0 0,.slice none 0 0,.slice none 0 0,.int .i64 0]],[]⟩ 8 (by kernel_rfl) (by kernel_rfl) (by kernel_rfl) (by kernel_rfl)) ?_
 intro W base args ds gs before abY hW ao0 ags _;have cU:(DataW.weightsEach Tryz.prog (Tryz.f7.params.toList++Rows.fnExactJudgeAllSpec.plain.varTypes Tryz.prog) (ds++gs)).all (·<=reachBytes)=true:=ags;have BD:∀ (j:Nat) t v,Tryz.f7.params[j]?=some t->args[j]?=some v->Value.okWide Tryz.prog W .any base t v:=abY;have hW':=hW;obtain ⟨p,q,Vq,hV,rfl,hfz,eT⟩:=hW;have hA:DataW.TrodAll enc Tryz.prog W 0 (fun _=>true) true Tryz.f7.params.toList args.toList ds p:=Vq;rw [Tryz.params7] at hA BD cU;obtain ⟨v0,vs0,d0,ds0,p0,q0,am5,rfl,rfl,h0,r0⟩:=trodAll_cons hA;obtain ⟨rfl,rfl,rfl⟩:=trodAll_nil r0;obtain rfl:args=#[v0]:=by cases args; simp_all
 obtain ⟨rfl,rfl⟩:=trodVars_none hV;have k0:=h0;have lt0:∀ x∈p0,x.block < W.heap.size:=by obtain ⟨m,hm⟩:=k0; exact DataW.trod_lt m _ _ _ hm
 obtain ⟨us0,rfl,_⟩:=okWide_struct Tryz.underlying59 (BD 0 59 v0 rfl rfl);obtain ⟨aoy,hf0⟩:=h0;have LU:∀ z∈d0.weights Tryz.prog 59,z<=reachBytes:=fun z hz=>by
  have:=aac.1 cU z (DataW.weights_mem_each (j:=0) (t:=59) (d:=d0) rfl rfl z hz)
  simpa using this
 obtain ⟨am9,aj2,ahr⟩:=JH (X:=Lk W [] (fun _=>True)) afo SU hf0 (by kernel_rfl) LU
 obtain ⟨w0,rfl,lw0,iw0⟩:=ZA aj2;clear Vq abY ags cU;refine (Wo Ac (f:=7) (vs:=#[.agg us0]) (by kernel_rfl) (Em w0 lw0 iw0) (by simp [dG,ch,dq,fD,cg]) (.cons (acI ahr) .nil)).mono fun e W' ⟨he,bel⟩=>?_
 subst he;exact ⟨_,rfl,_,_,_,[],_,[],hW',trodAll_mk1 (shut_bool Tryz.underlying4 _),trodAll_mk1 (Below.trod laidOut (by kernel_rfl) (of_decide_eq_true (by kernel_rfl)) k0 bel lt0),rfl,bel.frame _,fun h=>by cases h⟩
theorem closed:(((Rows.fnExactJudgeAllRow.inPlace==Tryz.prog.inPlace 7)&&(Rows.fnExactJudgeAllRow.unfollowed==Tryz.prog.unfollowed 7))&&((Rows.fnExactJudgeAllRow.recurses==Tryz.prog.recurses 7)&&(Rows.fnExactJudgeAllRow.named==Tryz.prog.varsNamed 7)))=true:=by kernel_rfl
theorem words:(Tryz.prog.mayEnter&&(Rows.fnExactJudgeAllRow.lifted==Tryz.prog.liftsFinal)&&(Tryz.prog.make==some Rows.fnExactJudgeAllRow.make))=true:=by kernel_rfl
theorem agt:joinedFacts Tryz.prog 7 Tryz.f7 Rows.fnExactJudgeAllSpec Rows.fnExactJudgeAllRow=true:=by
 have c:=closed;have w:=words;simp only [Bh] at c w;simp only [joinedFacts,Bh];refine ⟨⟨⟨⟨⟨⟨⟨⟨⟨⟨⟨⟨⟨⟨⟨⟨⟨⟨⟨⟨⟨⟨⟨⟨⟨⟨⟨⟨⟨⟨⟨?_,laidOut⟩,?_⟩,?_⟩,?_⟩,?_⟩,?_⟩,?_⟩,?_⟩,c.1.1⟩,c.1.2⟩,c.2.1⟩,c.2.2⟩,?_⟩,?_⟩,?_⟩,?_⟩,?_⟩,?_⟩,?_⟩,?_⟩,?_⟩,?_⟩,?_⟩,?_⟩,w.1.1⟩,w.1.2⟩,w.2⟩,?_⟩,?_⟩,?_⟩,?_⟩<;>kernel_rfl
theorem over:Rows.fnExactJudgeAllRow.holds Tryz.pinned (OpenSpec.ofChange Rows.fnExactJudgeAllSpec):=
 OpenClaim.holds_of_wide 7 Tryz.f7 rfl rfl rfl rfl rfl rfl rfl ⟨rfl,rfl,rfl,rfl,rfl⟩ rfl rfl rfl rfl rfl (by kernel_rfl) Tryz.func7 agt
  (of_decide_eq_true (by kernel_rfl)) (by unfold Func.isWrapper; first | (rw [if_pos (by decide+kernel)]; kernel_rfl) | (rw [if_neg (by decide+kernel)]; exact ⟨rfl,rfl⟩))
  (fun os started H enc _=>lifted os started H enc)
theorem proved:Rows.FnExactJudgeAllSaid:=over
#print axioms proved
end Go.Proofs.YtckkpgcnhdllgaaGreat.fnExactJudgeAll
namespace Go.Proofs.YtckkpgcnhdllgaaGreat
theorem fnExactJudgeAll_holds:Rows.FnExactJudgeAllSaid:=fnExactJudgeAll.proved
end Go.Proofs.YtckkpgcnhdllgaaGreat
