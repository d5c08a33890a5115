/- What the proof of FnExactJudgeAll stands on, part 6: an abstract machine on plain data, its soundness, and the contracts of functions. -/
import Derived.Attr
import Derived.Test.YtckkpgcnhdllgaaGreatMe
set_option linter.all false
set_option linter.unusedSimpArgs false
set_option linter.unusedVariables false
set_option linter.unnecessarySimpa false
set_option linter.unusedSectionVars false
namespace Go.Proofs.YtckkpgcnhdllgaaGreat
set_option maxRecDepth 100000
section
variable (pr:dC) (cv:Cv Rz) (J:Nat->St->Option Rz)
def km (g0:Bool) (n1:Nat) (c2:List D) (i3:Int) (i4:Int) (n5:Nat) (c6:List D):St:=(St.mk [(3,(.ref 10003 [] 0 none)),(7,(.sl (some g0) 1 n1 c2)),(8,(.int .i64 i3)),(9,(.int .i64 i4))] [(10003,[(.sl none 1 n5 c6)])] [] 0)
theorem Kz:Told cfg Tryz.prog 333 Tryz.f333:=⟨by kernel_rfl,Tryz.func333,by kernel_rfl⟩
theorem KA (g0:Bool) (n0:Nat) (c0:List D):aW pr cv J 333 Tryz.f333 [(.sl (some g0) 1 n0 c0)]=
 (J 0 (km g0 n0 c0 (pr.aV n0) 0 0 [])):=by kernel_rfl
theorem uQ (g0:Bool) (n1:Nat) (c2:List D) (i3:Int) (i4:Int) (n5:Nat) (c6:List D):bL pr cv J 333 Tryz.f333 [.undef] 0 (km g0 n1 c2 i3 i4 n5 c6)=
 (br (pr.lt i4 i3) (br (pr.bm i4 n1) (br (br (pr.bR .i64 c2 (pr.idx 0 i4 1)) true false) (cv 341 [(.int .i64 (pr.aO c2 (pr.idx 0 i4 1)))] (.sl (fun dN=>(fun dr=>(.done (br (br (br (pr.nl dr) true false) true false) (br (br (pr.flat dr) (pr.fits (n5+dN) 1) false) (J 0 (km g0 n1 c2 i3 (pr.ar .add .i64 i4 1) (n5+dN) (List.append c6 dr))) none) none)))))) none) none) (some ((.sl none 1 n5 c6),[.undef]))):=by kernel_rfl
theorem KC:Told cfg Tryz.prog 332 Tryz.f332:=⟨by kernel_rfl,Tryz.func332,by kernel_rfl⟩
theorem KD (g0:Bool) (n0:Nat) (c0:List D):aW pr cv J 332 Tryz.f332 [(.sl (some g0) 1 n0 c0)]=
 (cv 333 [(.sl (some true) 1 1 [(.int .i64 (pr.aV n0))])] (.sl (fun dN=>(fun dr=>(.done (br (br (br (pr.nl dr) true false) true false) (cv 333 [(.sl (some g0) 1 n0 c0)] (.sl (fun pg=>(fun ji=>(.done (br (br (br (pr.nl ji) true false) true false) (br (br (pr.flat ji) (pr.fits (dN+pg) 1) false) (some ((.sl none 1 (dN+pg) (List.append dr ji)),[.undef])) none) none)))))) none)))))):=by kernel_rfl
def lB (i0:Int) (g1:Bool) (n2:Nat) (c3:List D) (g4:Bool) (n5:Nat) (c6:List D) (b7:Bool) (b8:Bool) (b9:Bool) (i10:Int) (dE:Nat) (dO:List D):St:=(St.mk [(1,(.ptr 1 [] 0)),(3,(.ref 10003 [] 0 none)),(4,(.int .i64 i0))] [(1,[(.sl (some g1) 1 n2 c3),(.sl (some g4) 1 n5 c6),(.bool b7),(.bool b8),(.bool b9),(.int .i64 i10)]),(10003,[(.sl none 1 dE dO)])] [] 0)
def lC (i0:Int) (g1:Bool) (n2:Nat) (c3:List D) (g4:Bool) (n5:Nat) (c6:List D) (b7:Bool) (b8:Bool) (b9:Bool) (i10:Int) (dE:Nat) (dO:List D):St:=(St.mk [(1,(.ptr 1 [] 0)),(3,(.ref 10003 [] 0 none)),(5,(.int .i64 i0))] [(1,[(.sl (some g1) 1 n2 c3),(.sl (some g4) 1 n5 c6),(.bool b7),(.bool b8),(.bool b9),(.int .i64 i10)]),(10003,[(.sl none 1 dE dO)])] [] 0)
def lD (i0:Int) (i1:Int) (g2:Bool) (n3:Nat) (c4:List D) (g5:Bool) (n6:Nat) (c7:List D) (b8:Bool) (b9:Bool) (ix:Bool) (i11:Int) (fI:Nat) (gh:List D):St:=(St.mk [(1,(.ptr 1 [] 0)),(3,(.ref 10003 [] 0 none)),(5,(.int .i64 i0)),(6,(.int .i64 i1))] [(1,[(.sl (some g2) 1 n3 c4),(.sl (some g5) 1 n6 c7),(.bool b8),(.bool b9),(.bool ix),(.int .i64 i11)]),(10003,[(.sl none 1 fI gh)])] [] 0)
theorem wJ:Told cfg Tryz.prog 282 Tryz.f282:=⟨by kernel_rfl,Tryz.func282,by kernel_rfl⟩
theorem wK (g0:Bool) (n0:Nat) (c0:List D) (g1:Bool) (n1:Nat) (c1:List D) (a2:Bool) (a3:Bool) (a4:Bool) (a5:Int):aW pr cv J 282 Tryz.f282 [(.agg [(.sl (some g0) 1 n0 c0),(.sl (some g1) 1 n1 c1),(.bool a2),(.bool a3),(.bool a4),(.int .i64 a5)])]=
 let y1:List D:=[(.sl (some g0) 1 n0 c0),(.sl (some g1) 1 n1 c1),(.bool a2),(.bool a3),(.bool a4),(.int .i64 a5)]
 (cv 161 [(.agg y1)] (.bool (fun bH=>(.done (br (br bH false true) (some ((.sl none 1 0 []),[.undef])) (cv 314 [(.int .i64 (pr.aV n0))] (.sl (fun Ch=>(fun uM=>(.done (br (br (br (pr.nl uM) true false) true false) (J 0 (lB 0 g0 n0 c0 g1 n1 c1 a2 a3 a4 a5 Ch uM)) none))))))))))):=by kernel_rfl
theorem sc (i0:Int) (g1:Bool) (n2:Nat) (c3:List D) (g4:Bool) (n5:Nat) (c6:List D) (b7:Bool) (b8:Bool) (b9:Bool) (i10:Int) (dE:Nat) (dO:List D):bL pr cv J 282 Tryz.f282 [.undef] 0 (lB i0 g1 n2 c3 g4 n5 c6 b7 b8 b9 i10 dE dO)=
 (br (pr.lt i0 (pr.aV n2)) (br (pr.bm i0 n2) (br (br (pr.bR .i64 c3 (pr.idx 0 i0 1)) true false) (cv 314 [(.int .i64 (pr.aO c3 (pr.idx 0 i0 1)))] (.sl (fun dN=>(fun dr=>(.done (br (br (br (pr.nl dr) true false) true false) (br (br (pr.flat dr) (pr.fits (dE+dN) 1) false) (J 0 (lB (pr.ar .add .i64 i0 1) g1 n2 c3 g4 n5 c6 b7 b8 b9 i10 (dE+dN) (List.append dO dr))) none) none)))))) none) none) (J 2 (lC 0 g1 n2 c3 g4 n5 c6 b7 b8 b9 i10 dE dO))):=by kernel_rfl
theorem sd (i0:Int) (g1:Bool) (n2:Nat) (c3:List D) (g4:Bool) (n5:Nat) (c6:List D) (b7:Bool) (b8:Bool) (b9:Bool) (i10:Int) (dE:Nat) (dO:List D):bL pr cv J 282 Tryz.f282 [.undef] 2 (lC i0 g1 n2 c3 g4 n5 c6 b7 b8 b9 i10 dE dO)=
 (br (pr.lt i0 3) (br (pr.bm i0 n5) (br (br (pr.aN 1 c6 (pr.idx 0 i0 1)) true false) (cv 314 [(.int .i64 (pr.aV (pr.aD c6 (pr.idx 0 i0 1))))] (.sl (fun dN=>(fun dr=>(.done (br (br (br (pr.nl dr) true false) true false) (br (br (pr.flat dr) (pr.fits (dE+dN) 1) false) (J 4 (lD i0 0 g1 n2 c3 g4 n5 c6 b7 b8 b9 i10 (dE+dN) (List.append dO dr))) none) none)))))) none) none) (cv 192 [(.bool b7)] (.int (fun uK=>(.done (cv 192 [(.bool b8)] (.int (fun Ho=>(.done (cv 192 [(.bool b9)] (.int (fun qM=>(.done (cv 314 [(.int .i64 (pr.ar .add .i64 (pr.ar .add .i64 uK (pr.ar .mul .i64 2 Ho)) (pr.ar .mul .i64 4 qM)))] (.sl (fun S6=>(fun Q5=>(.done (br (br (br (pr.nl Q5) true false) true false) (br (br (pr.flat Q5) (pr.fits (dE+S6) 1) false) (cv 314 [(.int .i64 i10)] (.sl (fun vn7=>(fun vc8=>(.done (br (br (br (pr.nl vc8) true false) true false) (br (br (pr.flat vc8) (pr.fits ((dE+S6)+vn7) 1) false) (some ((.sl none 1 ((dE+S6)+vn7) (List.append (List.append dO Q5) vc8)),[.undef])) none) none)))))) none) none))))))))))))))))))):=by kernel_rfl
theorem se (i0:Int) (i1:Int) (g2:Bool) (n3:Nat) (c4:List D) (g5:Bool) (n6:Nat) (c7:List D) (b8:Bool) (b9:Bool) (ix:Bool) (i11:Int) (fI:Nat) (gh:List D):bL pr cv J 282 Tryz.f282 [.undef] 4 (lD i0 i1 g2 n3 c4 g5 n6 c7 b8 b9 ix i11 fI gh)=
 (br (pr.bm i0 n6) (br (br (pr.aN 1 c7 (pr.idx 0 i0 1)) true false) (br (pr.lt i1 (pr.aV (pr.aD c7 (pr.idx 0 i0 1)))) (br (pr.bm i0 n6) (br (br (pr.aN 1 c7 (pr.idx 0 i0 1)) true false) (br (pr.bm i1 (pr.aD c7 (pr.idx 0 i0 1))) (br (br (pr.bR .i64 (pr.aF c7 (pr.idx 0 i0 1)) (pr.idx 0 i1 1)) true false) (cv 314 [(.int .i64 (pr.aO (pr.aF c7 (pr.idx 0 i0 1)) (pr.idx 0 i1 1)))] (.sl (fun dN=>(fun dr=>(.done (br (br (br (pr.nl dr) true false) true false) (br (br (pr.flat dr) (pr.fits (fI+dN) 1) false) (J 4 (lD i0 (pr.ar .add .i64 i1 1) g2 n3 c4 g5 n6 c7 b8 b9 ix i11 (fI+dN) (List.append gh dr))) none) none)))))) none) none) none) none) (J 2 (lC (pr.ar .add .i64 i0 1) g2 n3 c4 g5 n6 c7 b8 b9 ix i11 fI gh))) none) none):=by kernel_rfl
def ja (g0:Bool) (n1:Nat) (c2:List D) (i3:Int) (i4:Int) (g5:Bool) (n6:Nat) (c7:List D) (b8:Bool) (b9:Bool) (ix:Bool) (i11:Int) (fI:Nat) (gh:List D):St:=(St.mk [(1,(.ptr 1 [] 0)),(3,(.ref 10003 [] 0 none)),(13,(.sl (some g0) 1 n1 c2)),(14,(.int .i64 i3)),(15,(.int .i64 i4))] [(1,[(.sl (some g5) 1 n6 c7),(.sl (some g0) 1 n1 c2),(.bool b8),(.bool b9),(.bool ix),(.int .i64 i11)]),(10003,[(.sl none 1 fI gh)])] [] 0)
theorem wL:Told cfg Tryz.prog 316 Tryz.f316:=⟨by kernel_rfl,Tryz.func316,by kernel_rfl⟩
theorem wM (g0:Bool) (n0:Nat) (c0:List D) (g1:Bool) (n1:Nat) (c1:List D) (a2:Bool) (a3:Bool) (a4:Bool) (a5:Int):aW pr cv J 316 Tryz.f316 [(.agg [(.sl (some g0) 1 n0 c0),(.sl (some g1) 1 n1 c1),(.bool a2),(.bool a3),(.bool a4),(.int .i64 a5)])]=
 let y1:List D:=[(.sl (some g0) 1 n0 c0),(.sl (some g1) 1 n1 c1),(.bool a2),(.bool a3),(.bool a4),(.int .i64 a5)]
 (cv 168 [(.agg y1)] (.bool (fun bH=>(.done (br (br bH false true) (some ((.sl none 1 0 []),[.undef])) (cv 332 [(.sl (some g0) 1 n0 c0)] (.sl (fun Ch=>(fun uM=>(.done (br (br (br (pr.nl uM) true false) true false) (J 0 (ja g1 n1 c1 (pr.aV n1) 0 g0 n0 c0 a2 a3 a4 a5 Ch uM)) none))))))))))):=by kernel_rfl
theorem sj (g0:Bool) (n1:Nat) (c2:List D) (i3:Int) (i4:Int) (g5:Bool) (n6:Nat) (c7:List D) (b8:Bool) (b9:Bool) (ix:Bool) (i11:Int) (fI:Nat) (gh:List D):bL pr cv J 316 Tryz.f316 [.undef] 0 (ja g0 n1 c2 i3 i4 g5 n6 c7 b8 b9 ix i11 fI gh)=
 (br (pr.lt i4 i3) (br (pr.bm i4 n1) (br (br (pr.aN 1 c2 (pr.idx 0 i4 1)) true false) (cv 332 [(.sl (some (pr.aG c2 (pr.idx 0 i4 1))) 1 (pr.aD c2 (pr.idx 0 i4 1)) (pr.aF c2 (pr.idx 0 i4 1)))] (.sl (fun dN=>(fun dr=>(.done (br (br (br (pr.nl dr) true false) true false) (br (br (pr.flat dr) (pr.fits (fI+dN) 1) false) (J 0 (ja g0 n1 c2 i3 (pr.ar .add .i64 i4 1) g5 n6 c7 b8 b9 ix i11 (fI+dN) (List.append gh dr))) none) none)))))) none) none) (cv 334 [(.bool b8),(.int .i64 1)] (.int (fun uK=>(.done (cv 334 [(.bool b9),(.int .i64 2)] (.int (fun Ho=>(.done (cv 334 [(.bool ix),(.int .i64 4)] (.int (fun qM=>(.done (cv 333 [(.sl (some true) 1 2 [(.int .i64 (pr.ar .add .i64 (pr.ar .add .i64 uK Ho) qM)),(.int .i64 i11)])] (.sl (fun S6=>(fun Q5=>(.done (br (br (br (pr.nl Q5) true false) true false) (br (br (pr.flat Q5) (pr.fits (fI+S6) 1) false) (some ((.sl none 1 (fI+S6) (List.append gh Q5)),[.undef])) none) none))))))))))))))))))):=by kernel_rfl
end
def eR (xs:List Int):List UInt8:=xs.flatMap dB
theorem kR:∀ xs:List Int,(eR xs).length<=5*xs.length
 | []=>by simp [eR]
 | x::xs=>by
  have h1:=kR xs;have h2:=fM x;simp only [eR,abo,aad,aa7] at h1 ⊢;omega
theorem yk {xs:List Int} {i:Nat} (h:i < xs.length):eR (xs.take (i+1))=eR (xs.take i)++dB xs[i]:=by
 unfold eR;rw [<- aba h,List.flatMap_append,abo,List.flatMap_nil,aah]
def dj (xs:List Int):List UInt8:=dB (xs.length:Int)++eR xs
theorem nT (xs:List Int):(dj xs).length<=5+5*xs.length:=by
 have h1:=kR xs;have h2:=fM (xs.length:Int);simp only [dj,aad];omega
def fV (xss:List (List Int)):List UInt8:=xss.flatMap dj
theorem oM:∀ xss:List (List Int),(∀ xs∈xss,xs.length<=1048576)->(fV xss).length<=5242885*xss.length
 | [],_=>by simp [fV]
 | xs::xss,h=>by
  have h1:=oM xss fun x hx=>h x (List.mem_cons_of_mem _ hx);have h2:=nT xs;have h3:=h xs aeY;simp only [fV,abo,aad,aa7] at h1 ⊢;omega
theorem IC {xss:List (List Int)} {i:Nat} (h:i < xss.length):fV (xss.take (i+1))=fV (xss.take i)++dj xss[i]:=by
 unfold fV;rw [<- aba h,List.flatMap_append,abo,List.flatMap_nil,aah]
def qu (b:Bool) (k:Int):Int:=if b then k else 0
def nq (m:bn):Int:=qu m.dk 1+qu m.bY 2+qu m.held 4
def cP (m:bn):List UInt8:=if il m then (dj m.aP++fV m.bits)++(dB (nq m)++dB m.last) else []
theorem acX (b:Bool):Cm 192 [.bool b] (.int .i64 (qu b 1),[.undef]):=by
 refine Cm.fin QS fun J=>?_;rw [QT];cases b<;>rfl
theorem afO (b:Bool) (k:Int):Cm 334 [.bool b,.int .i64 k] (.int .i64 (qu b k),[.undef,.undef]):=by
 refine Cm.fin RJ fun J=>?_;rw [RK];cases b<;>rfl
theorem Xh (g:Bool) (xs:List Int) (hb:xs.length<=1048576):Cm 333 [.sl (some g) 1 xs.length (ints xs)] (.sl none 1 (eR xs).length (bytes (eR xs)),[.undef]):=by
 refine Cm.go Kz [.undef] 0 (km g xs.length (ints xs) xs.length (0:Nat) 0 []) ?_ fun J hJ=>?_
 ·refine WP.loop (H:=fun i:Nat=>km g xs.length (ints xs) xs.length (i:Nat) (eR (xs.take i)).length (bytes (eR (xs.take i)))) (n:=xs.length) (fun _=>True) (fun i hi _ ih=>WP.go _ (ih trivial) fun J hJ=>?_) (fun _=>WP.fin fun J=>?_) 0 (aa9 _) trivial
  ·have l1:=kR (xs.take i);have l2:=fM xs[i];have l3:(xs.take i).length<=xs.length:=by simp; omega
   rw [uQ];simp (disch:=first | omega | assumption) only [bc,bF,cV,dz,dA,Nw,df,ao,eN,aK,bo,jv,ek,gM,dp]
   rw [yk hi,aad] at hJ;exact hJ
  ·rw [uQ];simp (disch:=omega) only [bG,aaO]
 ·rw [KA];exact hJ
section
variable (t:bO Rz)
theorem S7 (b:Bool):aX 192 [.bool b] t=feed t [.int .i64 (qu b 1)]:=bh (acX b) (by kernel_rfl) t
theorem afP (b:Bool) (k:Int):aX 334 [.bool b,.int .i64 k] t=feed t [.int .i64 (qu b k)]:=bh (afO b k) (by kernel_rfl) t
theorem CT (g:Bool) (xs:List Int) (n:Nat) (hn:n=xs.length) (hb:xs.length<=1048576):aX 333 [.sl (some g) 1 n (ints xs)] t=feed t [.sl none 1 (eR xs).length (bytes (eR xs))]:=by subst hn; exact bh (Xh g xs hb) (by kernel_rfl) t
theorem UF (g:Bool) (a:Int):aX 333 [.sl (some g) 1 1 [.int .i64 a]] t=feed t [.sl none 1 (dB a).length (bytes (dB a))]:=by
 have e:eR [a]=dB a:=by simp [eR]
 rw [<- e];exact CT t g [a] 1 rfl (by simp)
theorem UG (g:Bool) (a b:Int):aX 333 [.sl (some g) 1 2 [.int .i64 a,.int .i64 b]] t=feed t [.sl none 1 (dB a++dB b).length (bytes (dB a++dB b))]:=by
 have e:eR [a,b]=dB a++dB b:=by simp [eR]
 rw [<- e];exact CT t g [a,b] 2 rfl (by simp)
end
theorem Xi (g:Bool) (xs:List Int) (hb:xs.length<=1048576):Cm 332 [.sl (some g) 1 xs.length (ints xs)] (.sl none 1 (dj xs).length (bytes (dj xs)),[.undef]):=by
 refine Cm.fin KC fun J=>?_;rw [KD];have l1:=kR xs;have l2:=fM (xs.length:Int);simp (disch:=first | omega | assumption | rfl) only [aC,UF,CT,df,ao,eN,aK,bo,jv,ek,gM]
 unfold dj;rw [aad]
theorem Mb (g:Bool) (xs:List Int) (n:Nat) (hn:n=xs.length) (hb:xs.length<=1048576) (t:bO Rz):aX 332 [.sl (some g) 1 n (ints xs)] t=feed t [.sl none 1 (dj xs).length (bytes (dj xs))]:=by subst hn; exact bh (Xi g xs hb) (by kernel_rfl) t
theorem nC {m:bn} (h:il m=true):m.bits.length=3:=by
 simp only [il,Bh,beq_iff_eq] at h;omega
abbrev Mc (l:List UInt8):Rz:=(.sl none 1 l.length (bytes l),[.undef])
theorem FX (g:Bool) (m:bn) (hm:dt m):Cm 316 [.agg (cL (some g) m)] (Mc (cP m)):=by
 unfold cP;have b0:=hm.aP;cases cS:il m with
 | false=>
  refine Cm.fin wL fun J=>?_;rw [wM];simp (disch:=assumption) only [AQ,aE,ao,cS,bQ,cb,bg];rfl
 | true=>
  rw [if_pos rfl];have hl:=nC cS;have l0:=nT m.aP;have l3:=fM (nq m);have l4:=fM m.last;refine Cm.go wL [.undef] 0 (ja g m.bits.length (rows (some g) m.bits) m.bits.length (0:Nat) g m.aP.length (ints m.aP) m.dk m.bY m.held m.last (dj m.aP).length (bytes (dj m.aP))) ?_ fun J hJ=>?_
  ·have:=WP.loop (f:=316) (fn:=Tryz.f316) (sk:=[.undef]) (j:=0) (r:=Mc ((dj m.aP++fV m.bits)++(dB (nq m)++dB m.last))) (H:=fun i:Nat=>ja g m.bits.length (rows (some g) m.bits) m.bits.length (i:Nat) g m.aP.length (ints m.aP) m.dk m.bY m.held m.last (dj m.aP++fV (m.bits.take i)).length (bytes (dj m.aP++fV (m.bits.take i)))) (n:=m.bits.length) (fun _=>True) (fun i hi _ ih=>WP.go _ (ih trivial) fun J hJ=>?_) (fun _=>WP.fin fun J=>?_) 0 (aa9 _) trivial
   ·simpa [fV] using this
   ·have l1:=oM (m.bits.take i) fun x hx=>hm.bits.2 x (ael hx);have l5:(m.bits.take i).length<=3:=by simp; omega
    have l2:=nT m.bits[i];have b2:=hm.bits.2 _ (aan hi);have l6:(dj m.aP++fV (m.bits.take i)).length<=30000000:=by rw [aad]; omega
    rw [sj];simp (disch:=first | omega | assumption) only [bc,bF,cV,iT,iU,iV,jx,Mb,df,ao,eN,aK,bo,jv,ek,gM,dp]
    rw [IC hi,<- aay,aad (bs:=dj m.bits[i])] at hJ;exact hJ
   ·have l1:=oM m.bits hm.bits.2;have l6:(dj m.aP++fV m.bits).length<=30000000:=by rw [aad]; omega
    have l7:(dB (nq m)++dB m.last).length<=10:=by rw [aad]; omega
    have hf:ad.ar .add .i64 (ad.ar .add .i64 (qu m.dk 1) (qu m.bY 2)) (qu m.held 4)=nq m:=by
     unfold nq;cases m.dk<;>cases m.bY<;>cases m.held<;>rfl
    rw [sj];simp (disch:=first | omega | assumption) only [bG,aaO,afP,cn,ao,hf,UG,df,eN,aK,bo,jv,ek,gM]
    simp only [Mc,aad]
  ·rw [wM];simp (disch:=first | omega | assumption | rfl) only [AQ,aE,ao,cS,bQ,cb,aK,Mb,df,eN,bo,aC]
   exact hJ
theorem FY (g:Bool) (m:bn) (hm:dt m):Cm 282 [.agg (cL (some g) m)] (Mc (cP m)):=by
 unfold cP;have b0:=hm.aP;cases cS:il m with
 | false=>
  refine Cm.fin wJ fun J=>?_;rw [wK];simp (disch:=assumption) only [AP,aE,ao,cS,bQ,cb,bg];rfl
 | true=>
  rw [if_pos rfl];have hl:=nC cS;have l0:=nT m.aP;have l3:=fM (nq m);have l4:=fM m.last;have w2:∀ k i,i+k=3->WP 282 Tryz.f282 [.undef] 2 (lC (i:Nat) g m.aP.length (ints m.aP) g m.bits.length (rows (some g) m.bits) m.dk m.bY m.held m.last (dj m.aP++fV (m.bits.take i)).length (bytes (dj m.aP++fV (m.bits.take i)))) (Mc ((dj m.aP++fV m.bits)++(dB (nq m)++dB m.last))):=by
   intro k
   induction k with
   | zero=>
    intro i hi;obtain rfl:i=3:=by omega
    have l1:=oM m.bits hm.bits.2;have l6:(dj m.aP++fV m.bits).length<=30000000:=by rw [aad]; omega
    have ht:m.bits.take 3=m.bits:=by rw [<- hl,aaO]
    have hf:ad.ar .add .i64 (ad.ar .add .i64 (qu m.dk 1) (ad.ar .mul .i64 2 (qu m.bY 1))) (ad.ar .mul .i64 4 (qu m.held 1))=nq m:=by
     unfold nq;cases m.dk<;>cases m.bY<;>cases m.held<;>rfl
    refine WP.fin fun J=>?_;rw [sd,ht];simp (disch:=first | omega | assumption) only [bG,S7,cn,ao,hf,np,df,eN,aK,bo,jv,ek,gM]
    simp only [Mc,aad,aay,abh]
   | succ k ih=>
    intro i hi;have Su:i < m.bits.length:=by omega
    have ih:=ih (i+1) (by omega)
    have l1:=oM (m.bits.take i) fun x hx=>hm.bits.2 x (ael hx);have l5:(m.bits.take i).length<=3:=by simp; omega
    have b2:=hm.bits.2 _ (aan Su);have l6:(dj m.aP++fV (m.bits.take i)).length<=30000000:=by rw [aad]; omega
    have l8:=fM (m.bits[i].length:Int);have w4:=WP.loop (f:=282) (fn:=Tryz.f282) (sk:=[.undef]) (j:=4) (r:=Mc ((dj m.aP++fV m.bits)++(dB (nq m)++dB m.last))) (H:=fun j:Nat=>lD (i:Nat) (j:Nat) g m.aP.length (ints m.aP) g m.bits.length (rows (some g) m.bits) m.dk m.bY m.held m.last ((dj m.aP++fV (m.bits.take i))++dB (m.bits[i].length:Int)++eR (m.bits[i].take j)).length (bytes ((dj m.aP++fV (m.bits.take i))++dB (m.bits[i].length:Int)++eR (m.bits[i].take j)))) (n:=m.bits[i].length) (fun _=>True) (fun j hj _ ih4=>WP.go _ (ih4 trivial) fun J hJ=>?_) (fun _=>WP.go _ ih fun J hJ=>?_) 0 (aa9 _) trivial
    ·refine WP.go _ w4 fun J hJ=>?_;rw [sd];simp (disch:=first | omega | assumption) only [bc,bF,cV,iT,iU,iV,jx,aC,np,df,ao,eN,aK,bo,jv,ek,gM]
     simp only [List.take_zero,eR,List.flatMap_nil,aah] at hJ;rw [aad (bs:=dB (m.bits[i].length:Int))] at hJ;exact hJ
    ·have l9:=kR (m.bits[i].take j);have l10:(m.bits[i].take j).length<=m.bits[i].length:=by simp; omega
     have l11:=fM m.bits[i][j];have l12:((dj m.aP++fV (m.bits.take i))++dB (m.bits[i].length:Int)++eR (m.bits[i].take j)).length<=60000000:=by rw [aad,aad]; omega
     rw [se];simp (disch:=first | omega | assumption) only [bc,bF,cV,iT,dz,dA,iU,iV,jx,aC,np,df,ao,eN,aK,bo,jv,ek,gM,dp]
     rw [yk hj,<- aay,aad (bs:=dB m.bits[i][j])] at hJ;exact hJ
    ·rw [se];simp (disch:=first | omega | assumption) only [bG,bF,cV,iT,iV,aC,aK,bo,dp,aaO]
     have e:fV (m.bits.take (i+1))=fV (m.bits.take i)++(dB (m.bits[i].length:Int)++eR m.bits[i]):=IC Su;rw [e,<- aay,<- aay] at hJ;exact hJ
  have w0:=WP.loop (f:=282) (fn:=Tryz.f282) (sk:=[.undef]) (j:=0) (r:=Mc ((dj m.aP++fV m.bits)++(dB (nq m)++dB m.last))) (H:=fun i:Nat=>lB (i:Nat) g m.aP.length (ints m.aP) g m.bits.length (rows (some g) m.bits) m.dk m.bY m.held m.last (dB (m.aP.length:Int)++eR (m.aP.take i)).length (bytes (dB (m.aP.length:Int)++eR (m.aP.take i)))) (n:=m.aP.length) (fun _=>True) (fun i hi _ ih=>WP.go _ (ih trivial) fun J hJ=>?_) (fun _=>WP.go _ (w2 3 0 rfl) fun J hJ=>?_) 0 (aa9 _) trivial
  ·refine Cm.go wJ [.undef] 0 _ w0 fun J hJ=>?_;rw [wK];simp (disch:=first | omega | assumption | rfl) only [AP,aE,ao,cS,bQ,cb,aK,np,df,eN,bo,aC]
   simp only [List.take_zero,eR,List.flatMap_nil,aah] at hJ;exact hJ
  ·have l9:=kR (m.aP.take i);have l10:(m.aP.take i).length<=m.aP.length:=by simp; omega
   have l11:=fM m.aP[i];have l8:=fM (m.aP.length:Int);have l12:(dB (m.aP.length:Int)++eR (m.aP.take i)).length<=30000000:=by rw [aad]; omega
   rw [sc];simp (disch:=first | omega | assumption) only [bc,bF,cV,dz,dA,aC,np,df,ao,eN,aK,bo,jv,ek,gM,dp]
   rw [yk hi,<- aay,aad (bs:=dB m.aP[i])] at hJ;exact hJ
  ·rw [sc];simp (disch:=omega) only [aC,bG,aaO];have e:dj m.aP++fV (m.bits.take 0)=dB (m.aP.length:Int)++eR m.aP:=by simp [fV,dj]
   rw [e] at hJ;exact hJ
section
variable (t:bO Rz)
theorem wN (g:Bool) (m:bn) (hm:dt m):aX 282 [.agg (cL (some g) m)] t=feed t [.sl none 1 (cP m).length (bytes (cP m))]:=bh (FY g m hm) (by kernel_rfl) t
theorem wO (g:Bool) (m:bn) (hm:dt m):aX 316 [.agg (cL (some g) m)] t=feed t [.sl none 1 (cP m).length (bytes (cP m))]:=bh (FX g m hm) (by kernel_rfl) t
end
set_option maxRecDepth 100000
section
variable (pr:dC) (cv:Cv Rz) (J:Nat->St->Option Rz)
def rS (n0:Nat) (c1:List D) (i2:Int) (b3:Bool) (b4:Bool) (b5:Bool) (i6:Int) (n7:Nat) (c8:List D) (i9:Int) (ix:Bool) (dE:Nat) (dO:List D) (ID:Bool) (xP:Bool) (jm:Bool) (i16:Int):St:=(St.mk [(0,(.sl (some true) 1 n0 c1)),(2,(.ptr 2 [] 0)),(4,(.ptr 11 [] 0)),(5,(.ptr 5 [] 0)),(6,(.int .i64 i2))] [(2,[(.nil 1),(.nil 1),(.bool b3),(.bool b4),(.bool b5),(.int .i64 i6)]),(11,[(.sl (some true) 1 n7 c8),(.int .i64 i9),(.bool ix)]),(5,[(.sl none 1 dE dO),(.nil 1),(.bool ID),(.bool xP),(.bool jm),(.int .i64 i16)])] [] 0)
def im (n0:Nat) (c1:List D) (i2:Int) (b3:Bool) (b4:Bool) (b5:Bool) (i6:Int) (n7:Nat) (c8:List D) (i9:Int) (ix:Bool) (dE:Nat) (dO:List D) (gX:Nat) (gL:List D) (jm:Bool) (nU:Bool) (nP:Bool) (i18:Int):St:=(St.mk [(0,(.sl (some true) 1 n0 c1)),(2,(.ptr 2 [] 0)),(4,(.ptr 11 [] 0)),(5,(.ptr 5 [] 0)),(6,(.int .i64 i2))] [(2,[(.nil 1),(.nil 1),(.bool b3),(.bool b4),(.bool b5),(.int .i64 i6)]),(11,[(.sl (some true) 1 n7 c8),(.int .i64 i9),(.bool ix)]),(5,[(.sl none 1 dE dO),(.sl none 1 gX gL),(.bool jm),(.bool nU),(.bool nP),(.int .i64 i18)])] [] 0)
theorem ND:Told cfg Tryz.prog 279 Tryz.f279:=⟨by kernel_rfl,Tryz.func279,by kernel_rfl⟩
theorem NF (n0:Nat) (c0:List D):aW pr cv J 279 Tryz.f279 [(.sl (some true) 1 n0 c0)]=
 (cv 310 [(.aZ [(.sl (some false) 1 n0 (ej false c0)),(.int .i64 0),(.bool true)])] (.sl (fun dN=>(fun dr=>(.dc (fun gi=>(fun CU=>(fun ui=>(.int (fun wo=>(.bool (fun rJ=>(.done (br (br (br (pr.nl dr) true false) (br (br (pr.nl ui) true false) true false) false) (J 0 (rS n0 c0 0 false false false 0 CU (ej true ui) wo rJ dN (ej true dr) false false false 0)) none)))))))))))))):=by kernel_rfl
theorem FZ (n0:Nat) (c1:List D) (i2:Int) (b3:Bool) (b4:Bool) (b5:Bool) (i6:Int) (n7:Nat) (c8:List D) (i9:Int) (ix:Bool) (dE:Nat) (dO:List D) (ID:Bool) (xP:Bool) (jm:Bool) (i16:Int):bL pr cv J 279 Tryz.f279 [.undef] 0 (rS n0 c1 i2 b3 b4 b5 i6 n7 c8 i9 ix dE dO ID xP jm i16)=
 let y1:List D:=[(.aZ [(.sl (some false) 1 n7 (ej false c8)),(.int .i64 i9),(.bool ix)])]
 let y2:Option (D × List D):=(some ((.aM [(.agg [(.sl none 1 0 []),(.sl none 1 0 []),(.bool false),(.bool false),(.bool false),(.int .i64 0)]),(.bool false)]),[.undef]))
 (br (pr.lt i2 3) (cv 310 y1 (.sl (fun dN=>(fun dr=>(.dc (fun gi=>(fun CU=>(fun ui=>(.int (fun wo=>(.bool (fun rJ=>(.done (br (br (br (pr.nl dr) true false) (br (br (pr.nl ui) true false) true false) false) (br (pr.fits 1 24) (J 0 (im n0 c1 (pr.ar .add .i64 i2 1) b3 b4 b5 i6 CU (ej true ui) wo rJ dE dO 1 [(.sl none 1 dN (ej true dr))] ID xP jm i16)) none) none)))))))))))))) (cv 311 y1 (.int (fun mB=>(.dc (fun WA=>(fun Q6=>(fun wP=>(.int (fun F0=>(.bool (fun F1=>(.done (br (br (br (pr.nl wP) true false) true false) (cv 311 [(.aZ [(.sl (some false) 1 Q6 (ej false (ej true wP))),(.int .i64 F0),(.bool F1)])] (.int (fun wQ=>(.dc (fun ZI=>(fun ZJ=>(fun F2=>(.int (fun ZK=>(.bool (fun F3=>(.done (br (br (br (pr.nl F2) true false) true false) (br (br F3 false true) y2 (br (pr.sY c1) (cv 282 [(.agg [(.sl (some true) 1 dE (cI true dO)),(.sl (some true) 1 0 []),(.bool (br (pr.eq (pr.ar .and .i64 mB 1) 0) false true)),(.bool (br (pr.eq (pr.ar .and .i64 mB 2) 0) false true)),(.bool (br (pr.eq (pr.ar .and .i64 mB 4) 0) false true)),(.int .i64 wQ)])] (.sl (fun F4=>(fun tf=>(.done (br (br (br (pr.nl tf) true false) true false) (br (pr.sY tf) (br (br (pr.seq (pr.BR tf) (pr.BR c1)) false true) y2 (br (pr.eq (pr.aV n0) 0) y2 (some ((.aM [(.agg [(.sl none 1 dE dO),(.sl none 1 0 []),(.bool (br (pr.eq (pr.ar .and .i64 mB 1) 0) false true)),(.bool (br (pr.eq (pr.ar .and .i64 mB 2) 0) false true)),(.bool (br (pr.eq (pr.ar .and .i64 mB 4) 0) false true)),(.int .i64 wQ)]),(.bool true)]),[.undef])))) none) none)))))) none)) none))))))))))))) none)))))))))))))):=by kernel_rfl
theorem oN (n0:Nat) (c1:List D) (i2:Int) (b3:Bool) (b4:Bool) (b5:Bool) (i6:Int) (n7:Nat) (c8:List D) (i9:Int) (ix:Bool) (dE:Nat) (dO:List D) (gX:Nat) (gL:List D) (jm:Bool) (nU:Bool) (nP:Bool) (i18:Int):bL pr cv J 279 Tryz.f279 [.undef] 0 (im n0 c1 i2 b3 b4 b5 i6 n7 c8 i9 ix dE dO gX gL jm nU nP i18)=
 let y1:List D:=[(.aZ [(.sl (some false) 1 n7 (ej false c8)),(.int .i64 i9),(.bool ix)])]
 let y2:Option (D × List D):=(some ((.aM [(.agg [(.sl none 1 0 []),(.sl none 1 0 []),(.bool false),(.bool false),(.bool false),(.int .i64 0)]),(.bool false)]),[.undef]))
 (br (pr.lt i2 3) (cv 310 y1 (.sl (fun dN=>(fun dr=>(.dc (fun gi=>(fun CU=>(fun ui=>(.int (fun wo=>(.bool (fun rJ=>(.done (br (br (br (pr.nl dr) true false) (br (br (pr.nl ui) true false) true false) false) (br (pr.fits (gX+1) 24) (J 0 (im n0 c1 (pr.ar .add .i64 i2 1) b3 b4 b5 i6 CU (ej true ui) wo rJ dE dO (gX+1) (List.append gL [(.sl none 1 dN (ej true dr))]) jm nU nP i18)) none) none)))))))))))))) (cv 311 y1 (.int (fun mB=>(.dc (fun WA=>(fun Q6=>(fun wP=>(.int (fun F0=>(.bool (fun F1=>(.done (br (br (br (pr.nl wP) true false) true false) (cv 311 [(.aZ [(.sl (some false) 1 Q6 (ej false (ej true wP))),(.int .i64 F0),(.bool F1)])] (.int (fun wQ=>(.dc (fun ZI=>(fun ZJ=>(fun F2=>(.int (fun ZK=>(.bool (fun F3=>(.done (br (br (br (pr.nl F2) true false) true false) (br (br F3 false true) y2 (br (pr.sY c1) (cv 282 [(.agg [(.sl (some true) 1 dE (cI true dO)),(.sl (some true) 1 gX (cI true gL)),(.bool (br (pr.eq (pr.ar .and .i64 mB 1) 0) false true)),(.bool (br (pr.eq (pr.ar .and .i64 mB 2) 0) false true)),(.bool (br (pr.eq (pr.ar .and .i64 mB 4) 0) false true)),(.int .i64 wQ)])] (.sl (fun F4=>(fun tf=>(.done (br (br (br (pr.nl tf) true false) true false) (br (pr.sY tf) (br (br (pr.seq (pr.BR tf) (pr.BR c1)) false true) y2 (br (pr.eq (pr.aV n0) 0) y2 (some ((.aM [(.agg [(.sl none 1 dE dO),(.sl none 1 gX gL),(.bool (br (pr.eq (pr.ar .and .i64 mB 1) 0) false true)),(.bool (br (pr.eq (pr.ar .and .i64 mB 2) 0) false true)),(.bool (br (pr.eq (pr.ar .and .i64 mB 4) 0) false true)),(.int .i64 wQ)]),(.bool true)]),[.undef])))) none) none)))))) none)) none))))))))))))) none)))))))))))))):=by kernel_rfl
def rT (n0:Nat) (c1:List D) (i2:Int) (b3:Bool) (b4:Bool) (b5:Bool) (i6:Int) (n7:Nat) (c8:List D) (i9:Int) (ix:Bool) (dE:Nat) (dO:List D) (ID:Bool) (xP:Bool) (jm:Bool) (i16:Int):St:=(St.mk [(0,(.sl (some true) 1 n0 c1)),(2,(.ptr 2 [] 0)),(4,(.ptr 11 [] 0)),(5,(.ptr 5 [] 0)),(16,(.int .i64 i2))] [(2,[(.nil 1),(.nil 1),(.bool b3),(.bool b4),(.bool b5),(.int .i64 i6)]),(11,[(.sl (some true) 1 n7 c8),(.int .i64 i9),(.bool ix)]),(5,[(.sl none 1 dE dO),(.nil 1),(.bool ID),(.bool xP),(.bool jm),(.int .i64 i16)])] [] 0)
def iq (n0:Nat) (c1:List D) (i2:Int) (b3:Bool) (b4:Bool) (b5:Bool) (i6:Int) (n7:Nat) (c8:List D) (i9:Int) (ix:Bool) (dE:Nat) (dO:List D) (gX:Nat) (gL:List D) (jm:Bool) (nU:Bool) (nP:Bool) (i18:Int):St:=(St.mk [(0,(.sl (some true) 1 n0 c1)),(2,(.ptr 2 [] 0)),(4,(.ptr 11 [] 0)),(5,(.ptr 5 [] 0)),(16,(.int .i64 i2))] [(2,[(.nil 1),(.nil 1),(.bool b3),(.bool b4),(.bool b5),(.int .i64 i6)]),(11,[(.sl (some true) 1 n7 c8),(.int .i64 i9),(.bool ix)]),(5,[(.sl none 1 dE dO),(.sl none 1 gX gL),(.bool jm),(.bool nU),(.bool nP),(.int .i64 i18)])] [] 0)
theorem NG:Told cfg Tryz.prog 312 Tryz.f312:=⟨by kernel_rfl,Tryz.func312,by kernel_rfl⟩
theorem NH (n0:Nat) (c0:List D):aW pr cv J 312 Tryz.f312 [(.sl (some true) 1 n0 c0)]=
 (cv 330 [(.aZ [(.sl (some false) 1 n0 (ej false c0)),(.int .i64 0),(.bool true)])] (.sl (fun dN=>(fun dr=>(.dc (fun gi=>(fun CU=>(fun ui=>(.int (fun wo=>(.bool (fun rJ=>(.done (br (br (br (pr.nl dr) true false) (br (br (pr.nl ui) true false) true false) false) (J 0 (rT n0 c0 0 false false false 0 CU (ej true ui) wo rJ dN (ej true dr) false false false 0)) none)))))))))))))):=by kernel_rfl
theorem F5 (n0:Nat) (c1:List D) (i2:Int) (b3:Bool) (b4:Bool) (b5:Bool) (i6:Int) (n7:Nat) (c8:List D) (i9:Int) (ix:Bool) (dE:Nat) (dO:List D) (ID:Bool) (xP:Bool) (jm:Bool) (i16:Int):bL pr cv J 312 Tryz.f312 [.undef] 0 (rT n0 c1 i2 b3 b4 b5 i6 n7 c8 i9 ix dE dO ID xP jm i16)=
 let y1:List D:=[(.aZ [(.sl (some false) 1 n7 (ej false c8)),(.int .i64 i9),(.bool ix)])]
 let y2:Option (D × List D):=(some ((.aM [(.agg [(.sl none 1 0 []),(.sl none 1 0 []),(.bool false),(.bool false),(.bool false),(.int .i64 0)]),(.bool false)]),[.undef]))
 (br (pr.lt i2 3) (cv 330 y1 (.sl (fun dN=>(fun dr=>(.dc (fun gi=>(fun CU=>(fun ui=>(.int (fun wo=>(.bool (fun rJ=>(.done (br (br (br (pr.nl dr) true false) (br (br (pr.nl ui) true false) true false) false) (br (pr.fits 1 24) (J 0 (iq n0 c1 (pr.ar .add .i64 i2 1) b3 b4 b5 i6 CU (ej true ui) wo rJ dE dO 1 [(.sl none 1 dN (ej true dr))] ID xP jm i16)) none) none)))))))))))))) (cv 331 y1 (.int (fun mB=>(.dc (fun WA=>(fun Q6=>(fun wP=>(.int (fun F0=>(.bool (fun F1=>(.done (br (br (br (pr.nl wP) true false) true false) (cv 331 [(.aZ [(.sl (some false) 1 Q6 (ej false (ej true wP))),(.int .i64 F0),(.bool F1)])] (.int (fun wQ=>(.dc (fun ZI=>(fun ZJ=>(fun F2=>(.int (fun ZK=>(.bool (fun F3=>(.done (br (br (br (pr.nl F2) true false) true false) (cv 316 [(.agg [(.sl (some true) 1 dE (cI true dO)),(.sl (some true) 1 0 []),(.bool (br (pr.eq (pr.ar .and .i64 mB 1) 0) false true)),(.bool (br (pr.eq (pr.ar .and .i64 mB 2) 0) false true)),(.bool (br (pr.eq (pr.ar .and .i64 mB 4) 0) false true)),(.int .i64 wQ)])] (.sl (fun F4=>(fun tf=>(.done (br (br (br (pr.nl tf) true false) true false) (br (br F3 false true) y2 (br (pr.eq (pr.aV F4) 0) y2 (cv 313 [(.sl (some true) 1 F4 (cI true tf)),(.sl (some true) 1 n0 c1)] (.bool (fun ZL=>(.done (br (br ZL false true) y2 (some ((.aM [(.agg [(.sl none 1 dE dO),(.sl none 1 0 []),(.bool (br (pr.eq (pr.ar .and .i64 mB 1) 0) false true)),(.bool (br (pr.eq (pr.ar .and .i64 mB 2) 0) false true)),(.bool (br (pr.eq (pr.ar .and .i64 mB 4) 0) false true)),(.int .i64 wQ)]),(.bool true)]),[.undef]))))))))) none)))))) none))))))))))))) none)))))))))))))):=by kernel_rfl
theorem oO (n0:Nat) (c1:List D) (i2:Int) (b3:Bool) (b4:Bool) (b5:Bool) (i6:Int) (n7:Nat) (c8:List D) (i9:Int) (ix:Bool) (dE:Nat) (dO:List D) (gX:Nat) (gL:List D) (jm:Bool) (nU:Bool) (nP:Bool) (i18:Int):bL pr cv J 312 Tryz.f312 [.undef] 0 (iq n0 c1 i2 b3 b4 b5 i6 n7 c8 i9 ix dE dO gX gL jm nU nP i18)=
 let y1:List D:=[(.aZ [(.sl (some false) 1 n7 (ej false c8)),(.int .i64 i9),(.bool ix)])]
 let y2:Option (D × List D):=(some ((.aM [(.agg [(.sl none 1 0 []),(.sl none 1 0 []),(.bool false),(.bool false),(.bool false),(.int .i64 0)]),(.bool false)]),[.undef]))
 (br (pr.lt i2 3) (cv 330 y1 (.sl (fun dN=>(fun dr=>(.dc (fun gi=>(fun CU=>(fun ui=>(.int (fun wo=>(.bool (fun rJ=>(.done (br (br (br (pr.nl dr) true false) (br (br (pr.nl ui) true false) true false) false) (br (pr.fits (gX+1) 24) (J 0 (iq n0 c1 (pr.ar .add .i64 i2 1) b3 b4 b5 i6 CU (ej true ui) wo rJ dE dO (gX+1) (List.append gL [(.sl none 1 dN (ej true dr))]) jm nU nP i18)) none) none)))))))))))))) (cv 331 y1 (.int (fun mB=>(.dc (fun WA=>(fun Q6=>(fun wP=>(.int (fun F0=>(.bool (fun F1=>(.done (br (br (br (pr.nl wP) true false) true false) (cv 331 [(.aZ [(.sl (some false) 1 Q6 (ej false (ej true wP))),(.int .i64 F0),(.bool F1)])] (.int (fun wQ=>(.dc (fun ZI=>(fun ZJ=>(fun F2=>(.int (fun ZK=>(.bool (fun F3=>(.done (br (br (br (pr.nl F2) true false) true false) (cv 316 [(.agg [(.sl (some true) 1 dE (cI true dO)),(.sl (some true) 1 gX (cI true gL)),(.bool (br (pr.eq (pr.ar .and .i64 mB 1) 0) false true)),(.bool (br (pr.eq (pr.ar .and .i64 mB 2) 0) false true)),(.bool (br (pr.eq (pr.ar .and .i64 mB 4) 0) false true)),(.int .i64 wQ)])] (.sl (fun F4=>(fun tf=>(.done (br (br (br (pr.nl tf) true false) true false) (br (br F3 false true) y2 (br (pr.eq (pr.aV F4) 0) y2 (cv 313 [(.sl (some true) 1 F4 (cI true tf)),(.sl (some true) 1 n0 c1)] (.bool (fun ZL=>(.done (br (br ZL false true) y2 (some ((.aM [(.agg [(.sl none 1 dE dO),(.sl none 1 gX gL),(.bool (br (pr.eq (pr.ar .and .i64 mB 1) 0) false true)),(.bool (br (pr.eq (pr.ar .and .i64 mB 2) 0) false true)),(.bool (br (pr.eq (pr.ar .and .i64 mB 4) 0) false true)),(.int .i64 wQ)]),(.bool true)]),[.undef]))))))))) none)))))) none))))))))))))) none)))))))))))))):=by kernel_rfl
end
theorem Q7 (x:UInt8):byteOf (dP x)=some x:=by
 have:=x.toNat_lt;simp [dP,byteOf]
theorem Ap:∀ xs:List UInt8,lM byteOf (bytes xs)=some xs
 | []=>rfl
 | x::xs=>by
  have h:=Ap xs;simp only [bytes] at h;simp only [bytes,aaM,lM,Q7,h]
theorem F6 {R:Type} {x y:R} (xs:List UInt8):br (ad.sY (bytes xs)) x y=x:=by
 have:ad.sY (bytes xs)=true:=by
  show (lM byteOf (bytes xs)).isSome=true;rw [Ap];rfl
 rw [this,aK]
theorem Q8 (xs:List UInt8):ad.BR (bytes xs)=bs xs:=by
 show (⟨((lM byteOf (bytes xs)).getD []).toArray⟩:ByteArray)=bs xs;rw [Ap];rfl
theorem Q9 (xs ys:List UInt8):ad.seq (bs xs) (bs ys)=decide (xs=ys):=by
 show ((bs xs).toList==(bs ys).toList)=_;rw [ByteArray.toList_eq,ByteArray.toList_eq];show (xs==ys)=_;by_cases h:xs=ys<;>simp [h]
theorem Ra (g h:Bool) (xs ys:List UInt8):Cm 313 [.sl (some g) 1 xs.length (bytes xs),.sl (some h) 1 ys.length (bytes ys)] (.bool (decide (xs=ys)),[.undef,.undef]):=by
 refine Cm.fin Nj fun J=>?_;rw [Nk];simp only [F6,Q8,Q9]
theorem CV (g h:Bool) (xs ys:List UInt8) (t:bO Rz):aX 313 [.sl (some g) 1 xs.length (bytes xs),.sl (some h) 1 ys.length (bytes ys)] t=feed t [.bool (decide (xs=ys))]:=bh (Ra g h xs ys) (by kernel_rfl) t
theorem jR (b:Bool):∀ xs:List Int,ej b (ints xs)=ints xs
 | []=>rfl
 | x::xs=>by
  have h:=jR b xs;simp only [ints] at h;simp only [ints,aaM,ej,iI,h]
theorem gC (b:Bool):∀ xs:List UInt8,ej b (bytes xs)=bytes xs
 | []=>rfl
 | x::xs=>by
  have h:=gC b xs;simp only [bytes] at h;simp only [bytes,aaM,ej,iI,dP,h]
theorem Md (b:List UInt8) (p:Nat):∀ k i acc,(iZ b p k i acc).2.2=false->iZ b p k i acc=mf
 | 0,_,_,_=>rfl
 | k+1,i,acc,h=>by
  rw [iZ] at h ⊢;split at h
  ·rename_i h1;rw [dif_pos h1];split at h
   ·rename_i h2;rw [if_pos h2];exact Md b p k _ _ h
   ·rename_i h2;rw [if_neg h2];split at h
    ·rename_i h3;rw [if_pos h3]
    ·simp at h
  ·rename_i h1;rw [dif_neg h1]
theorem Xj (b:List UInt8) (a:Int) (h:(iA b a).2.2=false):iA b a=mf:=by
 unfold iA at h ⊢;split at h
 ·rename_i h1;rw [if_pos h1]
 ·rename_i h1;rw [if_neg h1];exact Md b _ _ _ _ h
def IE (c c':Int × Bool):Prop:=c.2=c'.2/\(c.2=true->c.1=c'.1)
theorem DM (b:List UInt8) {c c':Int × Bool} (h:IE c c'):(bP b c).1=(bT b c').1/\IE (bP b c).2 (bT b c').2:=by
 obtain ⟨p,q⟩:=c;obtain ⟨p',q'⟩:=c';obtain ⟨h1,h2⟩:=h;simp only at h1 h2;subst h1;cases q with
 | false=>exact ⟨by simp [bP,bT],by simp [bP,bT,IE]⟩
 | true=>
  have:=h2 rfl;subst this;cases hg:(iA b p).2.2 with
  | true=>exact ⟨by simp [bP,bT,hg],by simp [bP,bT,IE,hg]⟩
  | false=>
   have:=Xj b p hg;exact ⟨by simp [bP,bT,this,mf],by simp [bP,bT,IE,this,mf]⟩
theorem Xk (b:List UInt8):∀ (k:Nat) {c c':Int × Bool} (out:List Int),IE c c'->(oL bP b k c out).1=(oL bT b k c' out).1/\IE (oL bP b k c out).2 (oL bT b k c' out).2
 | 0,_,_,_,h=>⟨rfl,h⟩
 | k+1,c,c',out,h=>by
  simp only [oL];rw [<- h.1];cases hc:c.2 with
  | false=>exact ⟨rfl,h⟩
  | true=>
   have hn:=DM b h;simp only [if_true];rw [hn.1];exact Xk b k _ hn.2
theorem Aq (b:List UInt8) {c c':Int × Bool} (h:IE c c'):(bp bP b c).1=(bp bT b c').1/\IE (bp bP b c).2 (bp bT b c').2:=by
 have hn:=DM b h;unfold bp;rw [hn.1];exact Xk b _ _ hn.2
def Xl (num:List UInt8->Int × Bool->Int × (Int × Bool)):Prop:=∀ b p q,(num b (p,q)).2.2=true->0<=p/\p < (num b (p,q)).2.1/\(num b (p,q)).2.1<=b.length
theorem aaR:Xl bP:=by
 intro b p q h;unfold bP at h ⊢;split at h
 ·rename_i h1;rw [if_pos h1];simp only [Bh] at h1;exact L9 b p h1.1
 ·simp at h
theorem ahj:Xl bT:=by
 intro b p q h;unfold bT at h ⊢;cases q with
 | true=>exact L9 b p h
 | false=>simp at h
theorem Me {num:List UInt8->Int × Bool->Int × (Int × Bool)} (hf:Xl num) (b:List UInt8):∀ (k:Nat) (p:Int) (q:Bool) (out:List Int),(oL num b k (p,q) out).1.length<=out.length+(if q then ((b.length:Int) - p).toNat+1 else 0)
 | 0,_,_,_=>by simp [oL]
 | k+1,p,q,out=>by
  cases q with
  | false=>simp [oL]
  | true=>
   simp only [oL,if_true];have ih:=Me hf b k (num b (p,true)).2.1 (num b (p,true)).2.2 (out++[(num b (p,true)).1]);cases hq:(num b (p,true)).2.2 with
   | false=>
    rw [hq] at ih;simp only [aad,abg] at ih;have e:(num b (p,true)).2=((num b (p,true)).2.1,false):=Prod.ext rfl hq;rw [e];simp only [aai,if_false] at ih;omega
   | true=>
    have h:=hf b p true hq;rw [hq] at ih;simp only [aad,abg,if_true] at ih;have e:(num b (p,true)).2=((num b (p,true)).2.1,true):=Prod.ext rfl hq;rw [e];omega
theorem E5 {num:List UInt8->Int × Bool->Int × (Int × Bool)} (hf:Xl num) (b:List UInt8) (c:Int × Bool):(bp num b c).1.length<=b.length+1:=by
 have h:=Me hf b (num b c).1.toNat (num b c).2.1 (num b c).2.2 [];unfold bp;obtain ⟨p,q⟩:=c;cases hq:(num b (p,q)).2.2 with
 | false=>
  rw [hq] at h;have e:(num b (p,q)).2=((num b (p,q)).2.1,false):=Prod.ext rfl hq;rw [e];simp only [aai,if_false,abx] at h;omega
 | true=>
  have h1:=hf b p q hq;rw [hq] at h;have e:(num b (p,q)).2=((num b (p,q)).2.1,true):=Prod.ext rfl hq;rw [e];simp only [if_true,abx] at h;omega
def ga (x k:Int):Bool:=!(ad.eq (ad.ar .and .i64 x k) 0)
def nr (num:List UInt8->Int × Bool->Int × (Int × Bool)) (b:List UInt8):bn × Bool:=
 let r0:=bp num b (0,true)
 let r1:=bp num b r0.2
 let r2:=bp num b r1.2
 let r3:=bp num b r2.2
 let x:=num b r3.2
 let y:=num b x.2
 (⟨r0.1,[r1.1,r2.1,r3.1],ga x.1 1,ga x.1 2,ga x.1 4,y.1⟩,y.2.2)
def gg:bn:=⟨[],[],false,false,false,0⟩
def dY (b:List UInt8):bn × Bool:=if (nr bP b).2&&(decide (cP (nr bP b).1=b)&&!b.isEmpty) then ((nr bP b).1,true) else (gg,false)
theorem ZM (b:List UInt8):nr bP b=nr bT b:=by
 have h0:=Aq b (c:=(0,true)) (c':=(0,true)) ⟨rfl,fun _=>rfl⟩;have h1:=Aq b h0.2;have h2:=Aq b h1.2;have h3:=Aq b h2.2;have h4:=DM b h3.2;have h5:=DM b h4.2;simp only [nr];rw [h0.1,h1.1,h2.1,h3.1,h4.1,h5.1,h5.2.1]
theorem F7 {num:List UInt8->Int × Bool->Int × (Int × Bool)} (hf:Xl num) (b:List UInt8) (hb:b.length<=1000000):dt (nr num b).1:=by
 refine ⟨?_,?_,?_⟩
 ·have:=E5 hf b (0,true);simp only [nr];omega
 ·simp [nr]
 ·intro xs hx;simp only [nr,aap,List.not_mem_nil,or_false] at hx;rcases hx with rfl | rfl | rfl
  all_goals exact abI (E5 hf b _) (by omega)
theorem Rb (x k:Int):(!(ad.eq (ad.ar .and .i64 x k) 0))=ga x k:=rfl
abbrev IF (r:bn × Bool):Rz:=(.aM [.agg (cL none r.1),.bool r.2],[.undef])
theorem NI (b:List UInt8) (hb:b.length<=1000000):Cm 279 [.sl (some true) 1 b.length (bytes b)] (IF (dY b)):=by
 have w3:∀ (c:Int × Bool) (aP x1 x2 x3:List Int),nr bP b=(⟨aP,[x1,x2,x3],ga (bP b c).1 1,ga (bP b c).1 2,ga (bP b c).1 4,(bP b (bP b c).2).1⟩,(bP b (bP b c).2).2.2)->WP 279 Tryz.f279 [.undef] 0 (im b.length (bytes b) 3 false false false 0 b.length (bytes b) c.1 c.2 aP.length (ints aP) 3 (rows none [x1,x2,x3]) false false false 0) (IF (dY b)):=by
  intro c aP x1 x2 x3 hp;have cS:=F7 aaR b hb;refine WP.fin fun J=>?_;rw [oN];unfold dY;rw [hp] at cS ⊢;have hv:=wN (g:=true) (m:=⟨aP,[x1,x2,x3],ga (bP b c).1 1,ga (bP b c).1 2,ga (bP b c).1 4,(bP b (bP b c).2).1⟩) (hm:=cS);have lV:∀ t:bO Rz,aX 282 [.agg [.sl (some true) 1 aP.length (ints aP),.sl (some true) 1 3 (rows (some true) [x1,x2,x3]),.bool (ga (bP b c).1 1),.bool (ga (bP b c).1 2),.bool (ga (bP b c).1 4),.int .i64 (bP b (bP b c).2).1]] t=_:=hv;simp (disch:=first | omega | assumption) only [bG,gC,An,cn,ia,aE,ao,eN,aK,bo,bQ,Rb,fJ,iy,F6,lV,df,Q8,Q9]
  generalize (bP b (bP b c).2).2.2=q1;generalize cP _=l;cases q1 with
  | false=>rfl
  | true=>
   by_cases h1:l=b
   ·subst h1;cases l with
    | nil=>simp [br,ad,gg,rows,ints]
    | cons a l=>
     simp only [cb,aK,decide_true];rw [eA (by simp only [aC,aa7]; omega)]
     simp [gg]
   ·simp [br,h1,gg,rows,ints]
 have w2:=WP.go (f:=279) (fn:=Tryz.f279) (sk:=[.undef]) (j:=0) (h:=im b.length (bytes b) 2 false false false 0 b.length (bytes b) (bp bP b (bp bP b (bp bP b (0,true)).2).2).2.1 (bp bP b (bp bP b (bp bP b (0,true)).2).2).2.2 (bp bP b (0,true)).1.length (ints (bp bP b (0,true)).1) 2 (rows none [(bp bP b (bp bP b (0,true)).2).1,(bp bP b (bp bP b (bp bP b (0,true)).2).2).1]) false false false 0) _ (w3 (bp bP b (bp bP b (bp bP b (bp bP b (0,true)).2).2).2).2 (bp bP b (0,true)).1 (bp bP b (bp bP b (0,true)).2).1 (bp bP b (bp bP b (bp bP b (0,true)).2).2).1 (bp bP b (bp bP b (bp bP b (bp bP b (0,true)).2).2).2).1 rfl) fun J hJ=>by
  rw [oN];simp (disch:=first | omega | assumption) only [bc,gC,jR,tA,df,cn,ia,aE,ao,eN,gR,aK,bo,ek]
  exact hJ
 have w1:=WP.go (f:=279) (fn:=Tryz.f279) (sk:=[.undef]) (j:=0) (h:=im b.length (bytes b) 1 false false false 0 b.length (bytes b) (bp bP b (bp bP b (0,true)).2).2.1 (bp bP b (bp bP b (0,true)).2).2.2 (bp bP b (0,true)).1.length (ints (bp bP b (0,true)).1) 1 (rows none [(bp bP b (bp bP b (0,true)).2).1]) false false false 0) _ w2 fun J hJ=>by
  rw [oN];simp (disch:=first | omega | assumption) only [bc,gC,jR,tA,df,cn,ia,aE,ao,eN,gR,aK,bo,ek]
  exact hJ
 have w0:=WP.go (f:=279) (fn:=Tryz.f279) (sk:=[.undef]) (j:=0) (h:=rS b.length (bytes b) 0 false false false 0 b.length (bytes b) (bp bP b (0,true)).2.1 (bp bP b (0,true)).2.2 (bp bP b (0,true)).1.length (ints (bp bP b (0,true)).1) false false false 0) _ w1 fun J hJ=>by
  rw [FZ];simp (disch:=first | omega | assumption) only [bc,gC,jR,tA,df,cn,ia,aE,ao,eN,gR,aK,bo,ek]
  exact hJ
 refine Cm.go ND [.undef] 0 _ w0 fun J hJ=>?_;rw [NF];simp (disch:=first | omega | assumption) only [gC,jR,tA,df,cn,ia,aE,ao,eN,gR,aK,bo]
 exact hJ
theorem NJ (b:List UInt8) (hb:b.length<=1000000):Cm 312 [.sl (some true) 1 b.length (bytes b)] (IF (dY b)):=by
 have w3:∀ (c:Int × Bool) (aP x1 x2 x3:List Int),nr bT b=(⟨aP,[x1,x2,x3],ga (bT b c).1 1,ga (bT b c).1 2,ga (bT b c).1 4,(bT b (bT b c).2).1⟩,(bT b (bT b c).2).2.2)->WP 312 Tryz.f312 [.undef] 0 (iq b.length (bytes b) 3 false false false 0 b.length (bytes b) c.1 c.2 aP.length (ints aP) 3 (rows none [x1,x2,x3]) false false false 0) (IF (dY b)):=by
  intro c aP x1 x2 x3 hp;have cS:=F7 ahj b hb;refine WP.fin fun J=>?_;rw [oO];unfold dY;rw [ZM,hp];rw [hp] at cS;have hv:=wO (g:=true) (m:=⟨aP,[x1,x2,x3],ga (bT b c).1 1,ga (bT b c).1 2,ga (bT b c).1 4,(bT b (bT b c).2).1⟩) (hm:=cS);have lV:∀ t:bO Rz,aX 316 [.agg [.sl (some true) 1 aP.length (ints aP),.sl (some true) 1 3 (rows (some true) [x1,x2,x3]),.bool (ga (bT b c).1 1),.bool (ga (bT b c).1 2),.bool (ga (bT b c).1 4),.int .i64 (bT b (bT b c).2).1]] t=_:=hv;simp (disch:=first | omega | assumption) only [bG,gC,Ao,cn,ia,aE,ao,eN,aK,bo,bQ,Rb,fJ,iy,gB,lV,df,CV]
  generalize (bT b (bT b c).2).2.2=q1;generalize cP _=l;cases q1 with
  | false=>rfl
  | true=>
   by_cases h1:l=b
   ·subst h1;cases l with
    | nil=>simp [br,ad,gg,rows,ints]
    | cons a l=>
     simp only [cb,aK,decide_true];rw [eA (by simp only [aC,aa7]; omega)]
     simp [gg]
   ·cases ad.eq (ad.aV l.length) 0<;>simp [br,h1,gg,rows,ints]
 have w2:=WP.go (f:=312) (fn:=Tryz.f312) (sk:=[.undef]) (j:=0) (h:=iq b.length (bytes b) 2 false false false 0 b.length (bytes b) (bp bT b (bp bT b (bp bT b (0,true)).2).2).2.1 (bp bT b (bp bT b (bp bT b (0,true)).2).2).2.2 (bp bT b (0,true)).1.length (ints (bp bT b (0,true)).1) 2 (rows none [(bp bT b (bp bT b (0,true)).2).1,(bp bT b (bp bT b (bp bT b (0,true)).2).2).1]) false false false 0) _ (w3 (bp bT b (bp bT b (bp bT b (bp bT b (0,true)).2).2).2).2 (bp bT b (0,true)).1 (bp bT b (bp bT b (0,true)).2).1 (bp bT b (bp bT b (bp bT b (0,true)).2).2).1 (bp bT b (bp bT b (bp bT b (bp bT b (0,true)).2).2).2).1 rfl) fun J hJ=>by
  rw [oO];simp (disch:=first | omega | assumption) only [bc,gC,jR,tB,df,cn,ia,aE,ao,eN,gR,aK,bo,ek]
  exact hJ
 have w1:=WP.go (f:=312) (fn:=Tryz.f312) (sk:=[.undef]) (j:=0) (h:=iq b.length (bytes b) 1 false false false 0 b.length (bytes b) (bp bT b (bp bT b (0,true)).2).2.1 (bp bT b (bp bT b (0,true)).2).2.2 (bp bT b (0,true)).1.length (ints (bp bT b (0,true)).1) 1 (rows none [(bp bT b (bp bT b (0,true)).2).1]) false false false 0) _ w2 fun J hJ=>by
  rw [oO];simp (disch:=first | omega | assumption) only [bc,gC,jR,tB,df,cn,ia,aE,ao,eN,gR,aK,bo,ek]
  exact hJ
 have w0:=WP.go (f:=312) (fn:=Tryz.f312) (sk:=[.undef]) (j:=0) (h:=rT b.length (bytes b) 0 false false false 0 b.length (bytes b) (bp bT b (0,true)).2.1 (bp bT b (0,true)).2.2 (bp bT b (0,true)).1.length (ints (bp bT b (0,true)).1) false false false 0) _ w1 fun J hJ=>by
  rw [F5];simp (disch:=first | omega | assumption) only [bc,gC,jR,tB,df,cn,ia,aE,ao,eN,gR,aK,bo,ek]
  exact hJ
 refine Cm.go NG [.undef] 0 _ w0 fun J hJ=>?_;rw [NH];simp (disch:=first | omega | assumption) only [gC,jR,tB,df,cn,ia,aE,ao,eN,gR,aK,bo]
 exact hJ
theorem CW (b:List UInt8) (hb:b.length<=1000000):dt (dY b).1:=by
 unfold dY;split
 ·exact F7 aaR b hb
 ·exact ⟨by simp [gg],by simp [gg],by simp [gg]⟩
set_option maxRecDepth 100000
theorem WP.step {f:FuncId} {fn:Func} {sk:List D} {j:Nat} {h:St} {r:Rz} (ht:∀ J:Nat->St->Option Rz,(∀ j' h',WP f fn sk j' h' r->J j' h'=some r)->bL ad aX J f fn sk j h=some r):WP f fn sk j h r:=W.step wh ht
theorem Cm.step {f:FuncId} {fn:Func} {r:Rz} (ok:Told cfg Tryz.prog f fn) (sk:List D) {args:List D} (ht:∀ J:Nat->St->Option Rz,(∀ j' h',WP f fn sk j' h' r->J j' h'=some r)->aW ad aX J f fn args=some r) (Pj:args.map rH=sk:=by rfl):Cm f args r:=by subst Pj; exact Comes.step wh ok ht
section
variable {R:Type} {x y:R}
def tick (n:Nat):Nat:=n+1
@[go_sem] theorem al1:tick 0=1:=by unfold tick; omega
@[congr] theorem ajC {c c':Bool} {z:Nat} (h:c=c') (_:tick 0=z):br c x y=br c' x y:=by rw [h]
@[congr] theorem ajD {g:FuncId} {ds ds':List D} {t:bO Rz} {z:Nat} (h:ds=ds') (_:tick 0=z):aX g ds t=aX g ds' t:=by rw [h]
@[congr] theorem ahk {t:bO R} {l l':List D} {z:Nat} (h:l=l') (_:tick 0=z):feed t l=feed t l':=by rw [h]
attribute [go_sem ↓] aK bg
@[go_sem ↓] theorem al2 (a b c:Bool) (x y:R):br (br a b c) x y=br a (br b x y) (br c x y):=by cases a<;>rfl
@[go_sem ↓] theorem anc (b:Bool) (x y:R):br (!b) x y=br b y x:=by cases b<;>rfl
@[go_sem] theorem ajE {p:Prop} [Decidable p] (h:p):br (decide p) x y=x:=by rw [decide_eq_true h]; rfl
@[go_sem] theorem ajF {p:Prop} [Decidable p] (h:¬p):br (decide p) x y=y:=by rw [decide_eq_false h]; rfl
theorem S8 {b:Bool} {r:R} (h1:b=true->x=r) (h2:b=false->y=r):br b x y=r:=by cases b with | true=>exact h1 rfl | false=>exact h2 rfl
theorem bK {p:Prop} [Decidable p] {r:R} (h1:p->x=r) (h2:¬p->y=r):br (decide p) x y=r:=by
 by_cases h:p
 ·rw [ajE h]; exact h1 h
 ·rw [ajF h]; exact h2 h
theorem gv {b:Bool} {r:R} (h1:b=true->x=r) (h2:¬b=true->y=r):br b x y=r:=by cases b with | true=>exact h1 rfl | false=>exact h2 (by simp)
end
theorem WP.up {f:FuncId} {fn:Func} {sk:List D} {j:Nat} {r:Rz} {H:Nat->St} (n:Nat) (inv:Nat->Prop) (hs:∀ i,i<=n->inv i->∀ J:Nat->St->Option Rz,(∀ j' h',WP f fn sk j' h' r->J j' h'=some r)->(i < n->inv (i+1)->J j (H (i+1))=some r)->bL ad aX J f fn sk j (H i)=some r):∀ i,i<=n->inv i->WP f fn sk j (H i) r:=by
 have key:∀ k i,i+k=n->inv i->WP f fn sk j (H i) r:=by
  intro k
  induction k with
  | zero=>intro i hi hv; exact WP.step fun J hJ=>hs i (by omega) hv J hJ (fun h=>absurd h (by omega))
  | succ k ih=>intro i hi hv; exact WP.step fun J hJ=>hs i (by omega) hv J hJ (fun _ h=>hJ _ _ (ih (i+1) (by omega) h))
 exact fun i hi hv=>key (n - i) i (by omega) hv
section
variable {R:Type}
@[go_sem ↓] theorem al3 (x:Option R) (l:List D):feed (.done x) l=x:=rfl
@[go_sem ↓] theorem ane (f:Int->bO R) (k:IntKind) (n:Int) (l:List D):feed (.int f) (.int k n::l)=feed (f n) l:=rfl
@[go_sem ↓] theorem al4 (f:Bool->bO R) (b:Bool) (l:List D):feed (.bool f) (.bool b::l)=feed (f b) l:=rfl
@[go_sem ↓] theorem anf (f:ByteArray->bO R) (s:ByteArray) (l:List D):feed (.str f) (.str s::l)=feed (f s) l:=rfl
@[go_sem ↓] theorem aoH (f:Nat->List D->bO R) (s n:Nat) (cs l:List D):feed (.sl f) (.sl none s n cs::l)=feed (f n cs) l:=rfl
@[go_sem ↓] theorem ang (f:Bool->Nat->List D->bO R) (g:Bool) (s n:Nat) (cs l:List D):feed (.dc f) (.sl (some g) s n cs::l)=feed (f g n cs) l:=rfl
end
@[go_sem ↓] theorem aoI (k:gW) (f:k.T->bO Rz) (x:k.T) (l:List D):feed (.ty k f) (enc k x::l)=feed (f x) l:=JG k f x l
attribute [go_sem] enc
@[go_sem ↓] theorem aoJ (ys:List D) (t:bO Rz):aX 999999 [.sl none 0 0 ys] t=feed t [.sl none 0 0 ys]:=Cc ys t
@[go_sem] theorem bn.eta (m:bn):(⟨m.aP,m.bits,m.dk,m.bY,m.held,m.last⟩:bn)=m:=rfl
@[go_sem] theorem bf.eta (s:bf):(⟨s.a,s.b⟩:bf)=s:=rfl
@[go_sem] theorem ae.eta (n:ae):(⟨n.id,n.up,n.cQ,n.image,n.mt,n.cE,n.conn,n.sync,n.bU,n.wait⟩:ae)=n:=rfl
@[go_sem] theorem wb.eta (n:wb):(⟨n.kind,n.cell,n.val,n.who,n.aP⟩:wb)=n:=rfl
@[go_sem] theorem rD.eta (n:rD):(⟨n.kind,n.a,n.b⟩:rD)=n:=rfl
@[go_sem] theorem ak.eta (n:ak):(⟨n.nodes,n.aH,n.log,n.safe,n.gen⟩:ak)=n:=rfl
@[go_sem] theorem aoK:Int.toNat 2=2:=rfl
@[go_sem] theorem aoL:Int.toNat 3=3:=rfl
@[go_sem] theorem aoM:Int.toNat 4=4:=rfl
@[go_sem] theorem aoN:Int.toNat 5=5:=rfl
@[go_sem] theorem aoO:Int.toNat 6=6:=rfl
@[go_sem] theorem aoP:Int.toNat 7=7:=rfl
@[go_sem] theorem aoQ:Int.toNat 8=8:=rfl
@[go_sem] theorem aoR:Int.toNat 9=9:=rfl
@[go_sem] theorem anh:Int.toNat 10=10:=rfl
@[go_sem] theorem ani:Int.toNat 11=11:=rfl
@[go_sem] theorem anj:Int.toNat 12=12:=rfl
@[go_sem] theorem ank:Int.toNat 13=13:=rfl
@[go_sem] theorem anl:Int.toNat 14=14:=rfl
@[go_sem] theorem anm:Int.toNat 15=15:=rfl
@[go_sem] theorem ann:Int.toNat 16=16:=rfl
@[go_sem] theorem ano:Int.toNat 17=17:=rfl
attribute [go_sem] decide_true decide_false Un Ad aC abn adV Int.toNat_zero Int.toNat_one if_true
@[go_sem] theorem aoS (a b:Int):ad.eq a b=decide (a=b):=by
 show (a==b)=_;rfl
@[go_sem] theorem anp (a b:Bool):ad.beq a b=decide (a=b):=by cases a<;>cases b<;>rfl
@[go_sem] theorem anq (i:Int) (n:Nat):ad.bm i n=decide (0<=i/\i < (n:Int)):=by simp [ad]
@[go_sem] theorem anr (l h:Int) (n:Nat):ad.vX l h n=decide (0<=l/\l<=h/\h<=(n:Int)):=by simp [ad,Bool.and_assoc]
@[go_sem] theorem al5 (n b:Nat):ad.fits n b=decide (n*b<=140737488355328):=rfl
@[go_sem] theorem al6 (l c:Int) (b:Nat):ad.sZ l c b=decide (0<=l/\l<=c/\c*(b:Int)<=140737488355328):=by simp [ad,Bool.and_assoc]
@[go_sem] theorem ans (a b:Nat):ad.neq a b=decide (a=b):=rfl
@[go_sem] theorem ant (i:Int):ad.iv i=i.toNat:=rfl
@[go_sem] theorem al7 (a b:Int):ad.nF a b=a.toNat - b.toNat:=rfl
@[go_sem] theorem al8 (a:Nat) (i:Int):ad.idx a i 1=a+i.toNat:=by show (a+i.toNat)*1=_; omega
@[go_sem] theorem al9 (n:Nat):Nat.mul n 1=n:=Nat.mul_one n
@[go_sem] theorem ama (n:Nat):Nat.mul 0 n=0:=Nat.zero_mul n
@[go_sem] theorem anu (a b:Bool):br a b false=(a&&b):=by cases a<;>rfl
@[go_sem] theorem aoT (a b:Bool):br a true b=(a||b):=by cases a<;>rfl
@[go_sem] theorem anv (xs:List Int) (i:Nat):ad.bR .i64 (ints xs) i=decide (i < xs.length):=by
 by_cases h:i < xs.length
 ·simp [ad,ints,h,fk]
 ·simp [ad,ints,aaD (abP.1 h),h]
@[go_sem] theorem amb (xs:List Int) (i:Nat):ad.aO (ints xs) i=xs.getD i 0:=by
 by_cases h:i < xs.length
 ·simp [ad,ints,h,vY]
 ·simp [ad,ints,aaD (abP.1 h),vY]
@[go_sem] theorem amc (xs:List UInt8) (i:Nat):ad.bR .u8 (bytes xs) i=decide (i < xs.length):=by
 by_cases h:i < xs.length
 ·simp [ad,bytes,dP,h,fk]
 ·simp [ad,bytes,aaD (abP.1 h),h]
@[go_sem] theorem aj3 (xs:List UInt8) (i:Nat):ad.aO (bytes xs) i=((xs.getD i 0).toNat:Int):=by
 by_cases h:i < xs.length
 ·simp [ad,bytes,dP,h,vY]
 ·simp [ad,bytes,aaD (abP.1 h),vY]
@[go_sem] theorem anw (xs:List Bool) (i:Nat):ad.bW (bB xs) i=decide (i < xs.length):=by
 by_cases h:i < xs.length
 ·simp [ad,bB,h]
 ·simp [ad,bB,aaD (abP.1 h),h]
@[go_sem] theorem amd (xs:List Bool) (i:Nat):ad.bC (bB xs) i=xs.getD i false:=by
 by_cases h:i < xs.length
 ·simp [ad,bB,h,Dx]
 ·simp [ad,bB,aaD (abP.1 h),Dx]
@[go_sem] theorem anx (g:Bool) (xs:List (List Int)) (i:Nat):ad.aN 1 (rows (some g) xs) i=decide (i < xs.length):=by
 by_cases h:i < xs.length
 ·simp [ad,rows,h]
 ·simp [ad,rows,aaD (abP.1 h),h]
@[go_sem] theorem ame {g:Bool} {xs:List (List Int)} {i:Nat} (h:i < xs.length):ad.aG (rows (some g) xs) i=g:=iU h
@[go_sem] theorem amf (xs:List (List Int)) (i:Nat):ad.kL 1 (rows none xs) i=decide (i < xs.length):=by
 by_cases h:i < xs.length
 ·simp [ad,rows,h]
 ·simp [ad,rows,aaD (abP.1 h),h]
@[go_sem] theorem anz (xs:List (List Int)) (i:Nat):ad.isO (rows none xs) i=decide (i < xs.length):=by
 by_cases h:i < xs.length
 ·simp [ad,rows,h]
 ·simp [ad,rows,aaD (abP.1 h),h]
@[go_sem] theorem amg (g:Option Bool) (xs:List (List Int)) (i:Nat):ad.aD (rows g xs) i=(xs.getD i []).length:=by
 by_cases h:i < xs.length
 ·simp [ad,rows,h,cN]
 ·simp [ad,rows,aaD (abP.1 h),cN]
@[go_sem] theorem amh (g:Option Bool) (xs:List (List Int)) (i:Nat):ad.aF (rows g xs) i=ints (xs.getD i []):=by
 by_cases h:i < xs.length
 ·simp [ad,rows,h,cC]
 ·simp [ad,rows,aaD (abP.1 h),cC,ints]
@[go_sem] theorem aj4 (xs:List Int) (i:Nat):ad.slot (ints xs) i=decide (i < xs.length):=by
 by_cases h:i < xs.length
 ·simp [ad,ints,h,gE]
 ·simp [ad,ints,aaD (abP.1 h),h]
@[go_sem] theorem aj5 (xs:List UInt8) (i:Nat):ad.slot (bytes xs) i=decide (i < xs.length):=by
 by_cases h:i < xs.length
 ·simp [ad,bytes,dP,h,gE]
 ·simp [ad,bytes,aaD (abP.1 h),h]
@[go_sem] theorem aj6 (xs:List Bool) (i:Nat):ad.slot (bB xs) i=decide (i < xs.length):=by
 by_cases h:i < xs.length
 ·simp [ad,bB,h,gE]
 ·simp [ad,bB,aaD (abP.1 h),h]
@[go_sem] theorem anA (xs:List (List Int)):ad.nl (rows none xs)=true:=aaN (by simp) xs
attribute [go_sem] gR eN DI ints_set LZ L0 uf gM gB jJ fJ iy jR gC te Q8
@[go_sem] theorem ami (xs:List (List Int)) (i n:Nat) (l:List Int) (h:n=l.length):List.set (rows none xs) i (.sl none 1 n (ints l))=rows none (xs.set i l):=by subst h; exact Qw
@[go_sem] theorem aj7 (xs:List Int):ad.flat (ints xs)=true:=aac.2 (by intro d hd; obtain ⟨a,_,rfl⟩:=aam.1 hd; rfl)
@[go_sem] theorem aj8 (xs:List UInt8):ad.flat (bytes xs)=true:=aac.2 (by intro d hd; obtain ⟨a,_,rfl⟩:=aam.1 hd; rfl)
@[go_sem] theorem aj9 (xs:List Bool):ad.flat (bB xs)=true:=aac.2 (by intro d hd; obtain ⟨a,_,rfl⟩:=aam.1 hd; rfl)
@[go_sem] theorem amj (xs:List UInt8):ad.sY (bytes xs)=true:=by
 have:=F6 (x:=true) (y:=false) xs
 rwa [bo] at this
@[go_sem] theorem anB (xs ys:List UInt8):ad.seq (bs xs) (bs ys)=decide (xs=ys):=Q9 xs ys
@[go_sem] theorem agu (xs:List Int) (i:Nat):List.drop i (ints xs)=ints (xs.drop i):=by simp [ints,ae4]
@[go_sem] theorem ahl (xs ys:List Int):List.append (ints xs) (ints ys)=ints (xs++ys):=by simp [ints]
@[go_sem] theorem aka (xs:List Int) (x:Int):List.append (ints xs) [D.int .i64 x]=ints (xs++[x]):=by simp [ints]
@[go_sem] theorem ajG (xs:List UInt8) (x:UInt8):List.append (bytes xs) [dP x]=bytes (xs++[x]):=by simp [bytes]
@[go_sem] theorem ain (xs:List UInt8):List.append (bytes xs) [D.int .u8 0]=bytes (xs++[0]):=by simp [bytes,dP]
@[go_sem] theorem ajH (x:Int):List.append [] [D.int .i64 x]=ints [x]:=rfl
@[go_sem] theorem aio (x:UInt8):List.append [] [dP x]=bytes [x]:=rfl
@[go_sem] theorem akb (x:UInt8):ad.flat [dP x]=true:=rfl
@[go_sem] theorem akc (k:IntKind) (x:Int):ad.flat [D.int k x]=true:=rfl
@[go_sem] theorem anC:ad.nl []=true:=rfl
@[go_sem] theorem akd (n:Nat):fa n [.int .u8 0]=bytes (List.replicate n 0):=Wq n
@[go_sem] theorem ake (n:Nat):fa n [.int .i64 0]=ints (List.replicate n 0):=Wp n
@[go_sem] theorem akf (n:Nat):fa n [.bool false]=bB (List.replicate n false):=Wt n
@[go_sem] theorem akg (n:Nat):fa n [.nil 1]=rows none (List.replicate n []):=WB n
@[go_sem] theorem akh (xs:List UInt8) (i:Nat):List.drop i (bytes xs)=bytes (xs.drop i):=by simp [bytes,ae4]
@[go_sem] theorem aki (xs:List UInt8) (i:Nat):List.take i (bytes xs)=bytes (xs.take i):=by simp [bytes,ae7]
@[go_sem] theorem e_I (x:List Int):fC true (sI none x)=sI (some true) x:=by simp [fC,fJ]
@[go_sem] theorem e_B (x:List UInt8):fC true (s8 none x)=s8 (some true) x:=by simp [fC,gB]
@[go_sem] theorem e_L (x:List Bool):fC true (sB none x)=sB (some true) x:=by simp [fC,jJ]
@[go_sem] theorem e_R (x:List (List Int)):fC true (sR none x)=sR (some true) x:=by simp [fC,iy]
@[go_sem] theorem amk (x:bn):cI true (cL none x)=cL (some true) x:=by simp [fC,cI,fJ,iy]
@[go_sem] theorem akj (x:bf):cI true (eH none x)=eH (some true) x:=by simp [fC,cI,gB]
@[go_sem] theorem aml (x:ae):cI true (U none x)=U (some true) x:=by simp [fC,cI,fJ,iy,gB,jJ]
@[go_sem] theorem anD {a b:Int} (h:-9223372036854775808<=a - b) (h':a - b < 9223372036854775808):ad.ar .sub .i64 a b=a - b:=eX h h'
@[go_sem] theorem aaS {a b:Int} (h:-9223372036854775808<=a+b) (h':a+b < 9223372036854775808):ad.ar .add .i64 a b=a+b:=Uo h h'
@[go_sem] theorem akk (x:UInt8):ad.wrap .i64 (x.toNat:Int)=x.toNat:=wrap64 (by omega) (by have:=x.toNat_lt; omega)set_option maxRecDepth 100000
set_option profiler true
set_option profiler.threshold 1000
section
variable (pr:dC) (cv:Cv Rz) (J:Nat->St->Option Rz)
theorem F8:Told cfg Tryz.prog 285 Tryz.f285:=⟨by kernel_rfl,Tryz.func285,by kernel_rfl⟩
theorem F9 (x0:bn) (x1:Int):aW pr cv J 285 Tryz.f285 [(.agg (cL (some true) x0)),(.int .i64 x1)]=
 (cv 316 [(.agg (cL (some true) x0))] (.sl (fun dN=>(fun dr=>(.done (br (br (br (pr.nl dr) true false) true false) (cv 317 [(.int .i64 x1)] (.ty gW.B (fun (uR:List UInt8)=>(.done (br (br (pr.flat [(.int .u8 (pr.wrap .u8 (pr.aV dN)))]) (pr.fits (uR.length+1) 1) false) (br (br (pr.flat dr) (pr.fits ((uR.length+1)+dN) 1) false) (br (br (pr.le 0 (pr.ar .sub .i64 156 (pr.aV ((uR.length+1)+dN)))) (pr.fits (((uR.length+1)+dN)+(pr.iv (pr.ar .sub .i64 156 (pr.aV ((uR.length+1)+dN))))) 1) false) (cv 317 [(.int .i64 x1)] (.ty gW.B (fun (kJ:List UInt8)=>(.done (br (br (pr.flat (bytes kJ)) (pr.fits ((((uR.length+1)+dN)+(pr.iv (pr.ar .sub .i64 156 (pr.aV ((uR.length+1)+dN)))))+kJ.length) 1) false) (some ((.sl none 1 ((((uR.length+1)+dN)+(pr.iv (pr.ar .sub .i64 156 (pr.aV ((uR.length+1)+dN)))))+kJ.length) (List.append (List.append (List.append (List.append (bytes uR) [(.int .u8 (pr.wrap .u8 (pr.aV dN)))]) dr) (fa (pr.iv (pr.ar .sub .i64 156 (pr.aV ((uR.length+1)+dN)))) [(.int .u8 0)])) (bytes kJ))),[.undef,.undef])) none))))) none) none) none))))) none)))))):=by kernel_rfl
def nV (x1:Int) (n0:Nat) (c1:List D):St:=(St.mk [(1,(.int .i64 x1)),(6,(.ref 10006 [] 0 none))] [(10006,[(.sl none 1 n0 c1)])] [] 0)
theorem NK:Told cfg Tryz.prog 243 Tryz.f243:=⟨by kernel_rfl,Tryz.func243,by kernel_rfl⟩
theorem NL (x0:bn) (x1:Int):aW pr cv J 243 Tryz.f243 [(.agg (cL (some true) x0)),(.int .i64 x1)]=
 (cv 282 [(.agg (cL (some true) x0))] (.sl (fun dN=>(fun dr=>(.done (br (br (br (pr.nl dr) true false) true false) (cv 283 [(.int .i64 x1)] (.ty gW.B (fun (uR:List UInt8)=>(.done (br (br (pr.flat [(.int .u8 (pr.wrap .u8 (pr.aV dN)))]) (pr.fits (uR.length+1) 1) false) (br (br (pr.flat dr) (pr.fits ((uR.length+1)+dN) 1) false) (J 0 (nV x1 ((uR.length+1)+dN) (List.append (List.append (bytes uR) [(.int .u8 (pr.wrap .u8 (pr.aV dN)))]) dr))) none) none))))) none)))))):=by kernel_rfl
theorem wR (x1:Int) (n0:Nat) (c1:List D):bL pr cv J 243 Tryz.f243 [.undef,.undef] 0 (nV x1 n0 c1)=
 (br (pr.lt (pr.aV n0) 156) (br (br (pr.flat [(.int .u8 0)]) (pr.fits (n0+1) 1) false) (J 0 (nV x1 (n0+1) (List.append c1 [(.int .u8 0)]))) none) (cv 283 [(.int .i64 x1)] (.ty gW.B (fun (aL:List UInt8)=>(.done (br (br (pr.flat (bytes aL)) (pr.fits (n0+aL.length) 1) false) (some ((.sl none 1 (n0+aL.length) (List.append c1 (bytes aL))),[.undef,.undef])) none)))))):=by kernel_rfl
theorem NM:Told cfg Tryz.prog 281 Tryz.f281:=⟨by kernel_rfl,Tryz.func281,by kernel_rfl⟩
theorem NN (x0:List UInt8):aW pr cv J 281 Tryz.f281 [(s8 (some true) x0)]=
 let y1:Option (D × List D):=(some ((.aM [(.agg [(.sl none 1 0 []),(.sl none 1 0 []),(.bool false),(.bool false),(.bool false),(.int .i64 0)]),(.int .i64 0),(.bool false)]),[.undef]))
 let y2:D:=(.int .i64 (pr.ar .or .i64 (pr.ar .or .i64 (pr.ar .or .i64 (pr.wrap .i64 (pr.aO (bytes x0) (pr.idx 0 0 1))) (pr.ar .shl .i64 (pr.wrap .i64 (pr.aO (bytes x0) (pr.idx 0 1 1))) 8)) (pr.ar .shl .i64 (pr.wrap .i64 (pr.aO (bytes x0) (pr.idx 0 2 1))) 16)) (pr.ar .shl .i64 (pr.wrap .i64 (pr.aO (bytes x0) (pr.idx 0 3 1))) 24)))
 let y3:Int:=(pr.ar .add .i64 5 (pr.wrap .i64 (pr.aO (bytes x0) (pr.idx 0 4 1))))
 let y4:Nat:=(pr.nF y3 5)
 (br (br (pr.eq (pr.aV x0.length) 160) false true) y1 (br (pr.bm 0 x0.length) (br (br (pr.bR .u8 (bytes x0) (pr.idx 0 0 1)) true false) (br (pr.bm 1 x0.length) (br (br (pr.bR .u8 (bytes x0) (pr.idx 0 1 1)) true false) (br (br (pr.lt 8 0) false true) (br (pr.bm 2 x0.length) (br (br (pr.bR .u8 (bytes x0) (pr.idx 0 2 1)) true false) (br (br (pr.lt 16 0) false true) (br (pr.bm 3 x0.length) (br (br (pr.bR .u8 (bytes x0) (pr.idx 0 3 1)) true false) (br (br (pr.lt 24 0) false true) (br (pr.bm 4 x0.length) (br (br (pr.bR .u8 (bytes x0) (pr.idx 0 4 1)) true false) (cv 105 [y2,(.int .i64 1),(.int .i64 1000000)] (.bool (fun bH=>(.done (br (br bH false true) y1 (br (pr.lt 151 (pr.wrap .i64 (pr.aO (bytes x0) (pr.idx 0 4 1)))) y1 (br (pr.vX 5 y3 x0.length) (cv 312 [(.sl (some true) 1 y4 (List.take (Nat.mul y4 1) (List.drop (Nat.mul (pr.iv 5) 1) (bytes x0))))] (.ty gW.mt (fun (nW:bn)=>(.bool (fun gi=>(.done (br (br gi false true) y1 (cv 285 [(.agg (cI true (cL none nW))),y2] (.ty gW.B (fun (kJ:List UInt8)=>(.done (cv 313 [(fC true (s8 none kJ)),(s8 (some true) x0)] (.bool (fun Qv=>(.done (br (br Qv false true) y1 (some ((.aM [(.agg (cL none nW)),y2,(.bool true)]),[.undef])))))))))))))))))) none))))))) none) none) none) none) none) none) none) none) none) none) none) none) none)):=by kernel_rfl
theorem NO:Told cfg Tryz.prog 235 Tryz.f235:=⟨by kernel_rfl,Tryz.func235,by kernel_rfl⟩
theorem NP (x0:List UInt8):aW pr cv J 235 Tryz.f235 [(s8 (some true) x0)]=
 let y1:Option (D × List D):=(some ((.aM [(.agg [(.sl none 1 0 []),(.sl none 1 0 []),(.bool false),(.bool false),(.bool false),(.int .i64 0)]),(.int .i64 0),(.bool false)]),[.undef]))
 let y2:D:=(.int .i64 (pr.ar .add .i64 (pr.ar .add .i64 (pr.ar .add .i64 (pr.wrap .i64 (pr.aO (bytes x0) (pr.idx 0 0 1))) (pr.ar .shl .i64 (pr.wrap .i64 (pr.aO (bytes x0) (pr.idx 0 1 1))) 8)) (pr.ar .shl .i64 (pr.wrap .i64 (pr.aO (bytes x0) (pr.idx 0 2 1))) 16)) (pr.ar .shl .i64 (pr.wrap .i64 (pr.aO (bytes x0) (pr.idx 0 3 1))) 24)))
 let y3:Int:=(pr.ar .add .i64 5 (pr.wrap .i64 (pr.aO (bytes x0) (pr.idx 0 4 1))))
 let y4:Nat:=(pr.nF y3 5)
 (br (br (pr.eq (pr.aV x0.length) 160) false true) y1 (br (pr.bm 0 x0.length) (br (br (pr.bR .u8 (bytes x0) (pr.idx 0 0 1)) true false) (br (pr.bm 1 x0.length) (br (br (pr.bR .u8 (bytes x0) (pr.idx 0 1 1)) true false) (br (br (pr.lt 8 0) false true) (br (pr.bm 2 x0.length) (br (br (pr.bR .u8 (bytes x0) (pr.idx 0 2 1)) true false) (br (br (pr.lt 16 0) false true) (br (pr.bm 3 x0.length) (br (br (pr.bR .u8 (bytes x0) (pr.idx 0 3 1)) true false) (br (br (pr.lt 24 0) false true) (br (pr.bm 4 x0.length) (br (br (pr.bR .u8 (bytes x0) (pr.idx 0 4 1)) true false) (cv 87 [y2,(.int .i64 1),(.int .i64 1000000)] (.bool (fun bH=>(.done (br (br bH false true) y1 (br (pr.lt 151 (pr.wrap .i64 (pr.aO (bytes x0) (pr.idx 0 4 1)))) y1 (br (pr.vX 5 y3 x0.length) (cv 279 [(.sl (some true) 1 y4 (List.take (Nat.mul y4 1) (List.drop (Nat.mul (pr.iv 5) 1) (bytes x0))))] (.ty gW.mt (fun (nW:bn)=>(.bool (fun gi=>(.done (br (br gi false true) y1 (br (pr.sY (bytes x0)) (cv 243 [(.agg (cI true (cL none nW))),y2] (.ty gW.B (fun (kJ:List UInt8)=>(.done (br (pr.sY (bytes kJ)) (br (br (pr.seq (pr.BR (bytes kJ)) (pr.BR (bytes x0))) false true) y1 (some ((.aM [(.agg (cL none nW)),y2,(.bool true)]),[.undef]))) none))))) none)))))))) none))))))) none) none) none) none) none) none) none) none) none) none) none) none) none)):=by kernel_rfl
theorem NQ:Told cfg Tryz.prog 240 Tryz.f240:=⟨by kernel_rfl,Tryz.func240,by kernel_rfl⟩
theorem NR (x0:bf):aW pr cv J 240 Tryz.f240 [(.agg (eH (some true) x0))]=
 (cv 281 [(s8 (some true) x0.a)] (.ty gW.mt (fun (aL:bn)=>(.int (fun iD=>(.bool (fun gi=>(.done (cv 281 [(s8 (some true) x0.b)] (.ty gW.mt (fun (kJ:bn)=>(.int (fun qM=>(.bool (fun wm=>(.done (br wm (br (br gi false true) (some ((.aM [(.agg (cL none kJ)),(.int .i64 qM),(.bool false)]),[.undef])) (br (pr.lt iD qM) (some ((.aM [(.agg (cL none kJ)),(.int .i64 qM),(.bool false)]),[.undef])) (some ((.aM [(.agg (cL none aL)),(.int .i64 iD),(.bool gi)]),[.undef])))) (some ((.aM [(.agg (cL none aL)),(.int .i64 iD),(.bool gi)]),[.undef]))))))))))))))))))):=by kernel_rfl
theorem KE:Told cfg Tryz.prog 234 Tryz.f234:=⟨by kernel_rfl,Tryz.func234,by kernel_rfl⟩
theorem KF (x0:bf):aW pr cv J 234 Tryz.f234 [(.agg (eH (some true) x0))]=
 let y1:Option (D × List D):=(some ((.int .i64 0),[.undef]))
 let y2:Option (D × List D):=(some ((.int .i64 1),[.undef]))
 let y3:Option (D × List D):=(some ((.int .i64 (-1)),[.undef]))
 (cv 235 [(s8 (some true) x0.a)] (.ty gW.mt (fun (aL:bn)=>(.int (fun iD=>(.bool (fun gi=>(.done (cv 235 [(s8 (some true) x0.b)] (.ty gW.mt (fun (kJ:bn)=>(.int (fun qM=>(.bool (fun wm=>(.done (br gi (br (br wm false true) y1 (br (pr.le qM iD) y1 (br wm y2 y3))) (br wm y2 y3)))))))))))))))))):=by kernel_rfl
theorem KG:Told cfg Tryz.prog 170 Tryz.f170:=⟨by kernel_rfl,Tryz.func170,by kernel_rfl⟩
theorem KH (x0:bf):aW pr cv J 170 Tryz.f170 [(.agg (eH (some true) x0))]=
 (cv 240 [(.agg (eH (some true) x0))] (.ty gW.mt (fun (aL:bn)=>(.int (fun iD=>(.bool (fun gi=>(.done (some ((.aM [(.agg (cL none aL)),(.int .i64 iD),(.bool (pr.lt 0 iD))]),[.undef])))))))))):=by kernel_rfl
theorem KI:Told cfg Tryz.prog 163 Tryz.f163:=⟨by kernel_rfl,Tryz.func163,by kernel_rfl⟩
theorem KJ (x0:bf):aW pr cv J 163 Tryz.f163 [(.agg (eH (some true) x0))]=
 let y1:bO Rz:=(.ty gW.mt (fun (nW:bn)=>(.int (fun uK=>(.bool (fun wk=>(.done (some ((.aM [(.agg (cL none nW)),(.int .i64 uK),(.bool wk)]),[.undef])))))))))
 (cv 234 [(.agg (eH (some true) x0))] (.int (fun ef=>(.done (br (pr.eq ef 1) (cv 235 [(s8 (some true) x0.b)] y1) (cv 235 [(s8 (some true) x0.a)] y1)))))):=by kernel_rfl
end
@[go_sem] theorem rU (a:Nat):(rR a).length=4:=rfl
attribute [go_sem] CV jz fo
@[go_sem] theorem adm (b0:Nat) (b:List UInt8) (e0:b0=b.length) (q0:b.length<=1000000) (t:bO Rz):aX 312 [.sl (some true) 1 b0 (bytes b)] t=feed t [enc .mt ((dY b).1),.bool ((dY b).2)]:=by
 subst e0;exact bN (r:=.aM [enc .mt ((dY b).1),.bool ((dY b).2)]) (s:=.aM [.ty .mt,.bool]) (ss:=[.undef]) (NJ b q0) (by kernel_rfl) (by simp only [av,bw,aU,bz,bA,af,aj,tC]) (by simp only [af,aJ,av,aj,tC]) (by first | rfl | simp only [au,aS,aR,bq,bt,aT,bu,tC]) (by first | rfl | simp only [UL,aab,au,tC]) t
@[go_sem] theorem adn (b0:Nat) (b:List UInt8) (e0:b0=b.length) (q0:b.length<=1000000) (t:bO Rz):aX 279 [.sl (some true) 1 b0 (bytes b)] t=feed t [enc .mt ((dY b).1),.bool ((dY b).2)]:=by
 subst e0;exact bN (r:=.aM [enc .mt ((dY b).1),.bool ((dY b).2)]) (s:=.aM [.ty .mt,.bool]) (ss:=[.undef]) (NI b q0) (by kernel_rfl) (by simp only [av,bw,aU,bz,bA,af,aj,tC]) (by simp only [af,aJ,av,aj,tC]) (by first | rfl | simp only [au,aS,aR,bq,bt,aT,bu,tC]) (by first | rfl | simp only [UL,aab,au,tC]) t
@[go_sem] theorem agv (a:Nat) (q0:a < 4611686018427387904) (t:bO Rz):aX 317 [.int .i64 (a:Int)] t=feed t [enc .B (rR a)]:=by
 exact bN (r:=enc .B (rR a)) (s:=.ty .B) (ss:=[.undef]) (afM a q0) (by kernel_rfl) (by simp only [av,bw,aU,bz,bA,af,aj,tC]) (by simp only [af,aJ,av,aj,tC]) (by first | rfl | simp only [au,aS,aR,bq,bt,aT,bu,tC]) (by first | rfl | simp only [UL,aab,au,tC]) t
@[go_sem] theorem afQ (a:Nat) (q0:a < 4611686018427387904) (t:bO Rz):aX 283 [.int .i64 (a:Int)] t=feed t [enc .B (rR a)]:=by
 exact bN (r:=enc .B (rR a)) (s:=.ty .B) (ss:=[.undef]) (acW a q0) (by kernel_rfl) (by simp only [av,bw,aU,bz,bA,af,aj,tC]) (by simp only [af,aJ,av,aj,tC]) (by first | rfl | simp only [au,aS,aR,bq,bt,aT,bu,tC]) (by first | rfl | simp only [UL,aab,au,tC]) t
def nX (m:bn) (n:Nat):List UInt8:=rR n++[UInt8.ofNat (cP m).length]++cP m++List.replicate (151 - (cP m).length) 0++rR n
@[go_sem] theorem ZN (n k:Nat) (a:List Int) (b:List (List Int)) (f o h:Bool) (l:Int) (e1:n=a.length) (e2:k=b.length) (q:dt ⟨a,b,f,o,h,l⟩) (t:bO Rz):aX 282 [.agg [.sl (some true) 1 n (ints a),.sl (some true) 1 k (rows (some true) b),.bool f,.bool o,.bool h,.int .i64 l]] t=feed t [s8 none (cP ⟨a,b,f,o,h,l⟩)]:=by
 subst e1;subst e2;exact wN (g:=true) (m:=⟨a,b,f,o,h,l⟩) (hm:=q) t
@[go_sem] theorem ZO (n k:Nat) (a:List Int) (b:List (List Int)) (f o h:Bool) (l:Int) (e1:n=a.length) (e2:k=b.length) (q:dt ⟨a,b,f,o,h,l⟩) (t:bO Rz):aX 316 [.agg [.sl (some true) 1 n (ints a),.sl (some true) 1 k (rows (some true) b),.bool f,.bool o,.bool h,.int .i64 l]] t=feed t [s8 none (cP ⟨a,b,f,o,h,l⟩)]:=by
 subst e1;subst e2;exact wO (g:=true) (m:=⟨a,b,f,o,h,l⟩) (hm:=q) t
theorem wS (m:bn) (n:Nat) (q0:dt m) (q1:(cP m).length<=151) (q2:n < 4611686018427387904):Cm 285 [.agg (cL (some true) m),.int .i64 (n:Int)] (s8 none (nX m n),[.undef,.undef]):=by
 refine Cm.step F8 _ fun J _=>?_;rw [F9];unfold nX;simp (disch:=first | assumption | omega) only [go_sem,aC]
 have e:(156 - ((4+1+(cP m).length:Nat):Int)).toNat=151 - (cP m).length:=by omega
 rw [e];simp only [s8,aad,rU,List.length_replicate,abg]
@[go_sem] theorem ZP (oP:Nat) (gw:List Int) (oQ:Nat) (gx:List (List Int)) (iE:Bool) (iF:Bool) (iG:Bool) (iH:Int) (n:Nat) (e0:oP=gw.length) (e1:oQ=gx.length) (q0:dt (⟨gw,gx,iE,iF,iG,iH⟩:bn)) (q1:(cP (⟨gw,gx,iE,iF,iG,iH⟩:bn)).length<=151) (q2:n < 4611686018427387904) (t:bO Rz):aX 285 [.agg [.sl (some true) 1 oP (ints gw),.sl (some true) 1 oQ (rows (some true) gx),.bool iE,.bool iF,.bool iG,.int .i64 iH],.int .i64 (n:Int)] t=feed t [enc .B (nX (⟨gw,gx,iE,iF,iG,iH⟩:bn) n)]:=by
 subst e0;subst e1;exact bN (r:=enc .B (nX (⟨gw,gx,iE,iF,iG,iH⟩:bn) n)) (s:=.ty .B) (ss:=[.undef,.undef]) (wS (⟨gw,gx,iE,iF,iG,iH⟩:bn) n q0 q1 q2) (by kernel_rfl) (by simp only [av,bw,aU,bz,bA,af,aj,tC]) (by simp only [af,aJ,av,aj,tC]) (by first | rfl | simp only [au,aS,aR,bq,bt,aT,bu,tC]) (by first | rfl | simp only [UL,aab,au,tC]) t
theorem A6 (m:bn) (n:Nat) (q0:dt m) (q1:(cP m).length<=151) (q2:n < 4611686018427387904):Cm 243 [.agg (cL (some true) m),.int .i64 (n:Int)] (s8 none (nX m n),[.undef,.undef]):=by
 have key:∀ k (o:List UInt8),o.length+k=156->WP 243 Tryz.f243 [.undef,.undef] 0 (nV (n:Int) o.length (bytes o)) (s8 none (o++List.replicate k 0++rR n),[.undef,.undef]):=by
  intro k
  induction k with
  | zero=>
   intro o ho;refine WP.step fun J _=>?_;rw [wR];simp (disch:=first | assumption | omega) only [go_sem]
   simp only [s8,abA,aah,aad,rU]
  | succ k ih=>
   intro o ho;refine WP.step fun J hJ=>?_;rw [wR];simp (disch:=first | assumption | omega) only [go_sem]
   have h:=ih (o++[0]) (by simp only [aad,abg]; omega)
   rw [aad,abg,aay o,abp,<- abq] at h;exact hJ _ _ h
 refine Cm.step NK [.undef,.undef] fun J hJ=>?_;rw [NL];simp (disch:=first | assumption | omega) only [go_sem]
 have h:=key (151 - (cP m).length) (rR n++[UInt8.ofNat (cP m).length]++cP m) (by simp only [aad,rU,abg]; omega)
 rw [aad,aad,rU,abg] at h;exact hJ _ _ h
@[go_sem] theorem ado (oP:Nat) (gw:List Int) (oQ:Nat) (gx:List (List Int)) (iE:Bool) (iF:Bool) (iG:Bool) (iH:Int) (n:Nat) (e0:oP=gw.length) (e1:oQ=gx.length) (q0:dt (⟨gw,gx,iE,iF,iG,iH⟩:bn)) (q1:(cP (⟨gw,gx,iE,iF,iG,iH⟩:bn)).length<=151) (q2:n < 4611686018427387904) (t:bO Rz):aX 243 [.agg [.sl (some true) 1 oP (ints gw),.sl (some true) 1 oQ (rows (some true) gx),.bool iE,.bool iF,.bool iG,.int .i64 iH],.int .i64 (n:Int)] t=feed t [enc .B (nX (⟨gw,gx,iE,iF,iG,iH⟩:bn) n)]:=by
 subst e0;subst e1;exact bN (r:=enc .B (nX (⟨gw,gx,iE,iF,iG,iH⟩:bn) n)) (s:=.ty .B) (ss:=[.undef,.undef]) (A6 (⟨gw,gx,iE,iF,iG,iH⟩:bn) n q0 q1 q2) (by kernel_rfl) (by simp only [av,bw,aU,bz,bA,af,aj,tC]) (by simp only [af,aJ,av,aj,tC]) (by first | rfl | simp only [au,aS,aR,bq,bt,aT,bu,tC]) (by first | rfl | simp only [UL,aab,au,tC]) t
def mZ (b:List UInt8):Nat:=(b.getD 0 0).toNat+(b.getD 1 0).toNat*256+(b.getD 2 0).toNat*65536+(b.getD 3 0).toNat*16777216
def mg (b:List UInt8):List UInt8:=(b.drop 5).take (b.getD 4 0).toNat
def gN (b:List UInt8):Bool:=decide ((b.length:Int)=160)&&(decide (1<=(mZ b:Int)/\(mZ b:Int)<=1000000)&&(!decide (151 < ((b.getD 4 0).toNat:Int))&&((dY (mg b)).2&&decide (nX (dY (mg b)).1 (mZ b)=b))))
def cw (b:List UInt8):bn × Int × Bool:=if gN b then ((dY (mg b)).1,(mZ b:Int),true) else (gg,0,false)
theorem IG {b:List UInt8} (h:(dY b).2=true):cP (dY b).1=b:=by
 unfold dY at h ⊢;split at h
 ·rename_i h1;rw [if_pos h1];simp only [Bh,decide_eq_true_eq] at h1;exact h1.2.1
 ·simp at h
theorem ic {b:List UInt8} (h:gN b=false):cw b=(gg,0,false):=by unfold cw; rw [h]; rfl
theorem ym {b:List UInt8} (h:gN b=true):cw b=((dY (mg b)).1,(mZ b:Int),true):=by unfold cw; rw [h]; rfl
theorem Rc {b:List UInt8} (h:b.length=160) (h4:(b.getD 4 0).toNat<=151):(mg b).length=(b.getD 4 0).toNat:=by simp only [mg,aaB,abE]; omega
theorem S9 (b:List UInt8):mZ b < 4294967296:=by
 have:=(b.getD 0 0).toNat_lt; have:=(b.getD 1 0).toNat_lt; have:=(b.getD 2 0).toNat_lt; have:=(b.getD 3 0).toNat_lt;unfold mZ; omega
theorem Ar (b:List UInt8):ad.ar .add .i64 (ad.ar .add .i64 (ad.ar .add .i64 ((b.getD 0 0).toNat:Int) (ad.ar .shl .i64 ((b.getD 1 0).toNat:Int) 8)) (ad.ar .shl .i64 ((b.getD 2 0).toNat:Int) 16)) (ad.ar .shl .i64 ((b.getD 3 0).toNat:Int) 24)=((mZ b:Nat):Int):=by
 have h0:=(b.getD 0 0).toNat_lt; have h1:=(b.getD 1 0).toNat_lt; have h2:=(b.getD 2 0).toNat_lt; have h3:=(b.getD 3 0).toNat_lt;have s1:ad.ar .shl .i64 ((b.getD 1 0).toNat:Int) 8=_:=wI (k:=8) (by omega) (by omega)
 have s2:ad.ar .shl .i64 ((b.getD 2 0).toNat:Int) 16=_:=wI (k:=16) (by omega) (by omega)
 have s3:ad.ar .shl .i64 ((b.getD 3 0).toNat:Int) 24=_:=wI (k:=24) (by omega) (by omega)
 rw [s1,s2,s3,ug (by omega),ug (by omega),ug (by omega)]
 rfl
theorem DN (b:List UInt8):ad.ar .or .i64 (ad.ar .or .i64 (ad.ar .or .i64 ((b.getD 0 0).toNat:Int) (ad.ar .shl .i64 ((b.getD 1 0).toNat:Int) 8)) (ad.ar .shl .i64 ((b.getD 2 0).toNat:Int) 16)) (ad.ar .shl .i64 ((b.getD 3 0).toNat:Int) 24)=((mZ b:Nat):Int):=by
 have h0:=(b.getD 0 0).toNat_lt; have h1:=(b.getD 1 0).toNat_lt; have h2:=(b.getD 2 0).toNat_lt; have h3:=(b.getD 3 0).toNat_lt;have s1:ad.ar .shl .i64 ((b.getD 1 0).toNat:Int) 8=_:=wI (k:=8) (by omega) (by omega)
 have s2:ad.ar .shl .i64 ((b.getD 2 0).toNat:Int) 16=_:=wI (k:=16) (by omega) (by omega)
 have s3:ad.ar .shl .i64 ((b.getD 3 0).toNat:Int) 24=_:=wI (k:=24) (by omega) (by omega)
 rw [s1,s2,s3,Ow (by omega) (by omega),Ix (k:=8) h0,Ow (by omega) (by omega),Ix (k:=16) (by omega),Ow (by omega) (by omega),Ix (k:=24) (by omega)]
 rfl
theorem afR {b:List UInt8} (h:¬((b.length:Int)=160)):gN b=false:=by simp only [gN,h,decide_false,abL]
theorem afS {b:List UInt8} (h:¬(1<=(mZ b:Int)/\(mZ b:Int)<=1000000)):gN b=false:=by simp only [gN,h,decide_false,abL,aeo]
theorem afT {b:List UInt8} (h:151 < ((b.getD 4 0).toNat:Int)):gN b=false:=by simp only [gN,h,decide_true,afa,abL,aeo]
theorem afU {b:List UInt8} (h:(dY (mg b)).2=false):gN b=false:=by simp only [gN,h,abL,aeo]
theorem afV {b:List UInt8} (h:¬(nX (dY (mg b)).1 (mZ b)=b)):gN b=false:=by simp only [gN,h,decide_false,aeo]
theorem afW {b:List UInt8} (h1:(b.length:Int)=160) (h2:1<=(mZ b:Int)/\(mZ b:Int)<=1000000) (h3:¬(151 < ((b.getD 4 0).toNat:Int))) (h4:(dY (mg b)).2=true) (h5:nX (dY (mg b)).1 (mZ b)=b):gN b=true:=by simp only [gN,h1,h2,h3,h4,h5,and_self,decide_true,decide_false,Bool.not_false,tC]
theorem NS (b:List UInt8) (q0:b.length<=1048576):Cm 235 [s8 (some true) b] (.aM [.agg (cL none ((cw b).1)),.int .i64 ((cw b).2.1),.bool ((cw b).2.2)],[.undef]):=by
 refine Cm.step NO _ fun J _=>?_;rw [NP];simp (disch:=first | assumption | omega) only [go_sem]
 refine bK (fun hl=>?_) (fun hl=>by rw [ic (afR hl)]; rfl)
 have h4:=(b.getD 4 0).toNat_lt;have hw:=S9 b;simp (disch:=first | assumption | omega) only [go_sem,Ar]
 refine bK (fun hn=>?_) (fun hn=>by rw [ic (afS hn)]; rfl)
 simp (disch:=first | assumption | omega) only [go_sem]
 refine bK (fun hs=>by rw [ic (afT hs)]; rfl) (fun hs=>?_)
 have hp:=Rc (b:=b) (by omega) (by omega)
 have ep:List.take (b.getD 4 0).toNat (List.drop 5 b)=mg b:=rfl;have cS:=CW (mg b) (by omega)
 have e5:(5+((b.getD 4 0).toNat:Int)).toNat - 5=(b.getD 4 0).toNat:=by omega
 simp (disch:=first | assumption | omega) only [go_sem,e5,ep,Ar]
 refine S8 (fun hq=>?_) (fun hq=>by rw [ic (afU hq)]; rfl)
 have hm:=IG hq;simp (disch:=first | assumption | (rw [hm]; omega) | omega) only [go_sem,Ar]
 refine bK (fun he=>?_) (fun he=>by rw [ic (afV he)]; rfl)
 simp (disch:=first | assumption | omega) only [go_sem,Ar,ym (afW hl hn hs hq he)]
@[go_sem] theorem adp (b0:Nat) (b:List UInt8) (e0:b0=b.length) (q0:b.length<=1048576) (t:bO Rz):aX 235 [.sl (some true) 1 b0 (bytes b)] t=feed t [enc .mt ((cw b).1),.int .i64 ((cw b).2.1),.bool ((cw b).2.2)]:=by
 subst e0;exact bN (r:=.aM [enc .mt ((cw b).1),.int .i64 ((cw b).2.1),.bool ((cw b).2.2)]) (s:=.aM [.ty .mt,.int .i64,.bool]) (ss:=[.undef]) (NS b q0) (by kernel_rfl) (by simp only [av,bw,aU,bz,bA,af,aj,tC]) (by simp only [af,aJ,av,aj,tC]) (by first | rfl | simp only [au,aS,aR,bq,bt,aT,bu,tC]) (by first | rfl | simp only [UL,aab,au,tC]) t
theorem NT (b:List UInt8) (q0:b.length<=1048576):Cm 281 [s8 (some true) b] (.aM [.agg (cL none ((cw b).1)),.int .i64 ((cw b).2.1),.bool ((cw b).2.2)],[.undef]):=by
 refine Cm.step NM _ fun J _=>?_;rw [NN];simp (disch:=first | assumption | omega) only [go_sem]
 refine bK (fun hl=>?_) (fun hl=>by rw [ic (afR hl)]; rfl)
 have h4:=(b.getD 4 0).toNat_lt;have hw:=S9 b;simp (disch:=first | assumption | omega) only [go_sem,DN]
 refine bK (fun hn=>?_) (fun hn=>by rw [ic (afS hn)]; rfl)
 simp (disch:=first | assumption | omega) only [go_sem]
 refine bK (fun hs=>by rw [ic (afT hs)]; rfl) (fun hs=>?_)
 have hp:=Rc (b:=b) (by omega) (by omega)
 have ep:List.take (b.getD 4 0).toNat (List.drop 5 b)=mg b:=rfl;have cS:=CW (mg b) (by omega)
 have e5:(5+((b.getD 4 0).toNat:Int)).toNat - 5=(b.getD 4 0).toNat:=by omega
 simp (disch:=first | assumption | omega) only [go_sem,e5,ep,DN]
 refine S8 (fun hq=>?_) (fun hq=>by rw [ic (afU hq)]; rfl)
 have hm:=IG hq;simp (disch:=first | assumption | (rw [hm]; omega) | omega) only [go_sem,DN]
 refine bK (fun he=>?_) (fun he=>by rw [ic (afV he)]; rfl)
 simp (disch:=first | assumption | omega) only [go_sem,DN,ym (afW hl hn hs hq he)]
@[go_sem] theorem adq (b0:Nat) (b:List UInt8) (e0:b0=b.length) (q0:b.length<=1048576) (t:bO Rz):aX 281 [.sl (some true) 1 b0 (bytes b)] t=feed t [enc .mt ((cw b).1),.int .i64 ((cw b).2.1),.bool ((cw b).2.2)]:=by
 subst e0;exact bN (r:=.aM [enc .mt ((cw b).1),.int .i64 ((cw b).2.1),.bool ((cw b).2.2)]) (s:=.aM [.ty .mt,.int .i64,.bool]) (ss:=[.undef]) (NT b q0) (by kernel_rfl) (by simp only [av,bw,aU,bz,bA,af,aj,tC]) (by simp only [af,aJ,av,aj,tC]) (by first | rfl | simp only [au,aS,aR,bq,bt,aT,bu,tC]) (by first | rfl | simp only [UL,aab,au,tC]) t
theorem Mf (b:List UInt8):dt (cw b).1:=by
 unfold cw;split
 ·exact CW (mg b) (by have:=(b.getD 4 0).toNat_lt; simp only [mg,aaB,abE]; omega)
 ·exact ⟨by simp [gg],by simp [gg],by simp [gg]⟩
theorem IH (b:List UInt8):if (cw b).2.2 then 1<=(cw b).2.1/\(cw b).2.1<=1000000 else cw b=(gg,0,false):=by
 cases h:gN b with
 | false=>rw [ic h]; rfl
 | true=>
  rw [ym h];simp only [gN,Bh,decide_eq_true_eq] at h;exact h.2.1
def II (s:bf):Bool:=(cw s.b).2.2&&(!(cw s.a).2.2||decide ((cw s.a).2.1 < (cw s.b).2.1))
def aY (s:bf):bn × Int × Bool:=if II s then cw s.b else cw s.a
def pF (s:bf):Bool:=!II s&&(cw s.a).2.2
theorem A7 (s:bf) (q0:fU s):Cm 240 [.agg (eH (some true) s)] (.aM [.agg (cL none ((((aY s).1,(aY s).2.1,pF s)).1)),.int .i64 ((((aY s).1,(aY s).2.1,pF s)).2.1),.bool ((((aY s).1,(aY s).2.1,pF s)).2.2)],[.undef]):=by
 have qa:=q0.a;have qb:=q0.b;have h1:=IH s.a;refine Cm.step NQ _ fun J _=>?_;rw [NR];simp (disch:=first | assumption | omega) only [go_sem]
 unfold aY pF II;generalize cw s.a=a at*;generalize cw s.b=b at*;obtain ⟨a1,a2,a3⟩:=a;obtain ⟨b1,b2,b3⟩:=b;cases a3<;>cases b3<;>by_cases h:a2 < b2<;>simp [br,h,enc,Un]
@[go_sem] theorem ads (wT:Nat) (fg:List UInt8) (wU:Nat) (fh:List UInt8) (e0:wT=fg.length) (e1:wU=fh.length) (q0:fU (⟨fg,fh⟩:bf)) (t:bO Rz):aX 240 [.agg [.sl (some true) 1 wT (bytes fg),.sl (some true) 1 wU (bytes fh)]] t=feed t [enc .mt ((((aY (⟨fg,fh⟩:bf)).1,(aY (⟨fg,fh⟩:bf)).2.1,pF (⟨fg,fh⟩:bf))).1),.int .i64 ((((aY (⟨fg,fh⟩:bf)).1,(aY (⟨fg,fh⟩:bf)).2.1,pF (⟨fg,fh⟩:bf))).2.1),.bool ((((aY (⟨fg,fh⟩:bf)).1,(aY (⟨fg,fh⟩:bf)).2.1,pF (⟨fg,fh⟩:bf))).2.2)]:=by
 subst e0;subst e1;exact bN (r:=.aM [enc .mt ((((aY (⟨fg,fh⟩:bf)).1,(aY (⟨fg,fh⟩:bf)).2.1,pF (⟨fg,fh⟩:bf))).1),.int .i64 ((((aY (⟨fg,fh⟩:bf)).1,(aY (⟨fg,fh⟩:bf)).2.1,pF (⟨fg,fh⟩:bf))).2.1),.bool ((((aY (⟨fg,fh⟩:bf)).1,(aY (⟨fg,fh⟩:bf)).2.1,pF (⟨fg,fh⟩:bf))).2.2)]) (s:=.aM [.ty .mt,.int .i64,.bool]) (ss:=[.undef]) (A7 (⟨fg,fh⟩:bf) q0) (by kernel_rfl) (by simp only [av,bw,aU,bz,bA,af,aj,tC]) (by simp only [af,aJ,av,aj,tC]) (by first | rfl | simp only [au,aS,aR,bq,bt,aT,bu,tC]) (by first | rfl | simp only [UL,aab,au,tC]) t
def uj (s:bf):Int:=if (cw s.a).2.2&&(!(cw s.b).2.2||decide ((cw s.b).2.1<=(cw s.a).2.1)) then 0 else if (cw s.b).2.2 then 1 else -1
theorem zp (s:bf) (q0:fU s):Cm 234 [.agg (eH (some true) s)] (.int .i64 (uj s),[.undef]):=by
 have qa:=q0.a;have qb:=q0.b;refine Cm.step KE _ fun J _=>?_;rw [KF];simp (disch:=first | assumption | omega) only [go_sem]
 unfold uj;generalize cw s.a=a;generalize cw s.b=b;obtain ⟨a1,a2,a3⟩:=a;obtain ⟨b1,b2,b3⟩:=b;cases a3<;>cases b3<;>by_cases h:b2<=a2<;>simp [br,h,Ad]
@[go_sem] theorem acY (wT:Nat) (fg:List UInt8) (wU:Nat) (fh:List UInt8) (e0:wT=fg.length) (e1:wU=fh.length) (q0:fU (⟨fg,fh⟩:bf)) (t:bO Rz):aX 234 [.agg [.sl (some true) 1 wT (bytes fg),.sl (some true) 1 wU (bytes fh)]] t=feed t [.int .i64 (uj (⟨fg,fh⟩:bf))]:=by
 subst e0;subst e1;exact bN (r:=.int .i64 (uj (⟨fg,fh⟩:bf))) (s:=.int .i64) (ss:=[.undef]) (zp (⟨fg,fh⟩:bf) q0) (by kernel_rfl) (by simp only [av,bw,aU,bz,bA,af,aj,tC]) (by simp only [af,aJ,av,aj,tC]) (by first | rfl | simp only [au,aS,aR,bq,bt,aT,bu,tC]) (by first | rfl | simp only [UL,aab,au,tC]) t
theorem UH (s:bf):decide (uj s=1)=II s:=by
 unfold uj II;generalize cw s.a=a;generalize cw s.b=b;obtain ⟨a1,a2,a3⟩:=a;obtain ⟨b1,b2,b3⟩:=b;cases a3<;>cases b3<;>by_cases h:b2<=a2<;>simp [h]<;>omega
theorem RZ (s:bf):decide (0 < (aY s).2.1)=(aY s).2.2:=by
 unfold aY;have key:∀ b,decide (0 < (cw b).2.1)=(cw b).2.2:=fun b=>by
  have h:=IH b;split at h
  ·rename_i h1;rw [h1,decide_eq_true (by omega)]
  ·rw [h]; rfl
 split<;>exact key _
theorem IJ (s:bf):dt (aY s).1:=by
 unfold aY;split
 ·exact Mf _
 ·exact Mf _
theorem zq (s:bf) (q0:fU s):Cm 170 [.agg (eH (some true) s)] (.aM [.agg (cL none ((aY s).1)),.int .i64 ((aY s).2.1),.bool ((aY s).2.2)],[.undef]):=by
 refine Cm.step KG _ fun J _=>?_;rw [KH];simp (disch:=first | assumption | omega) only [go_sem,RZ]
@[go_sem] theorem acZ (wT:Nat) (fg:List UInt8) (wU:Nat) (fh:List UInt8) (e0:wT=fg.length) (e1:wU=fh.length) (q0:fU (⟨fg,fh⟩:bf)) (t:bO Rz):aX 170 [.agg [.sl (some true) 1 wT (bytes fg),.sl (some true) 1 wU (bytes fh)]] t=feed t [enc .mt ((aY (⟨fg,fh⟩:bf)).1),.int .i64 ((aY (⟨fg,fh⟩:bf)).2.1),.bool ((aY (⟨fg,fh⟩:bf)).2.2)]:=by
 subst e0;subst e1;exact bN (r:=.aM [enc .mt ((aY (⟨fg,fh⟩:bf)).1),.int .i64 ((aY (⟨fg,fh⟩:bf)).2.1),.bool ((aY (⟨fg,fh⟩:bf)).2.2)]) (s:=.aM [.ty .mt,.int .i64,.bool]) (ss:=[.undef]) (zq (⟨fg,fh⟩:bf) q0) (by kernel_rfl) (by simp only [av,bw,aU,bz,bA,af,aj,tC]) (by simp only [af,aJ,av,aj,tC]) (by first | rfl | simp only [au,aS,aR,bq,bt,aT,bu,tC]) (by first | rfl | simp only [UL,aab,au,tC]) t
theorem zr (s:bf) (q0:fU s):Cm 163 [.agg (eH (some true) s)] (.aM [.agg (cL none ((aY s).1)),.int .i64 ((aY s).2.1),.bool ((aY s).2.2)],[.undef]):=by
 have qa:=q0.a;have qb:=q0.b;refine Cm.step KI _ fun J _=>?_;rw [KJ];simp (disch:=first | assumption | omega) only [go_sem,UH]
 unfold aY;refine gv (fun h=>?_) (fun h=>?_)
 ·simp (disch:=first | assumption | omega) only [go_sem,h]
 ·simp (disch:=first | assumption | omega) only [go_sem,if_neg h]
@[go_sem] theorem ac0 (wT:Nat) (fg:List UInt8) (wU:Nat) (fh:List UInt8) (e0:wT=fg.length) (e1:wU=fh.length) (q0:fU (⟨fg,fh⟩:bf)) (t:bO Rz):aX 163 [.agg [.sl (some true) 1 wT (bytes fg),.sl (some true) 1 wU (bytes fh)]] t=feed t [enc .mt ((aY (⟨fg,fh⟩:bf)).1),.int .i64 ((aY (⟨fg,fh⟩:bf)).2.1),.bool ((aY (⟨fg,fh⟩:bf)).2.2)]:=by
 subst e0;subst e1;exact bN (r:=.aM [enc .mt ((aY (⟨fg,fh⟩:bf)).1),.int .i64 ((aY (⟨fg,fh⟩:bf)).2.1),.bool ((aY (⟨fg,fh⟩:bf)).2.2)]) (s:=.aM [.ty .mt,.int .i64,.bool]) (ss:=[.undef]) (zr (⟨fg,fh⟩:bf) q0) (by kernel_rfl) (by simp only [av,bw,aU,bz,bA,af,aj,tC]) (by simp only [af,aJ,av,aj,tC]) (by first | rfl | simp only [au,aS,aR,bq,bt,aT,bu,tC]) (by first | rfl | simp only [UL,aab,au,tC]) t
set_option maxRecDepth 100000
section
variable (pr:dC) (cv:Cv Rz) (J:Nat->St->Option Rz)
def jn (x0:ae) (i0:Int):St:=(St.mk [(1,(.ptr 1 [] 0)),(85,(.int .i64 i0))] [(1,(U (some true) x0))] [] 0)
def jo (x0:ae) (i0:Int) (i1:Int):St:=(St.mk [(1,(.ptr 1 [] 0)),(139,(sI (some true) x0.wait)),(140,(.int .i64 i0)),(141,(.int .i64 i1))] [(1,(U (some true) x0))] [] 0)
theorem NU:Told cfg Tryz.prog 76 Tryz.f76:=⟨by kernel_rfl,Tryz.func76,by kernel_rfl⟩
theorem NV (x0:ae):aW pr cv J 76 Tryz.f76 [(.agg (U (some true) x0))]=
 let y1:Option (D × List D):=(some ((.bool false),[.undef]))
 let y2:Option Rz:=(cv 170 [(.agg (eH (some true) x0.cE))] (.ty gW.mt (fun (vm4:bn)=>(.int (fun wo=>(.bool (fun rJ=>(.done (br (br rJ false true) y1 (cv 171 [(.agg (cI true (cL none vm4))),(.agg (cL (some true) x0.mt))] (.bool (fun vb7=>(.done (br (br vb7 false true) y1 (J 0 (jn x0 0))))))))))))))))
 let y3:Option (D × List D):=(br (br x0.up false true) (br (pr.lt 0 (pr.aV x0.wait.length)) y1 y2) y2)
 (cv 92 [(.int .i64 x0.id)] (.bool (fun bH=>(.done (br (br bH false true) y1 (cv 167 [(sI (some true) x0.image)] (.bool (fun eQ=>(.done (br (br eQ false true) y1 (cv 168 [(.agg (cL (some true) x0.mt))] (.bool (fun gi=>(.done (br (br gi false true) y1 (br (br (pr.eq (pr.aV x0.conn.length) 3) false true) y1 (cv 169 [(sR (some true) x0.sync)] (.bool (fun wk=>(.done (br (br wk false true) y1 (br (br (pr.eq (pr.aV x0.bU.length) 3) false true) y1 (br x0.cQ (br (br x0.up false true) y1 (br (pr.eq x0.id 2) y1 y3)) y3))))))))))))))))))))))):=by kernel_rfl
theorem Ga (x0:ae) (i0:Int):bL pr cv J 76 Tryz.f76 [.undef] 0 (jn x0 i0)=
 let y1:Option (D × List D):=(some ((.bool false),[.undef]))
 let y2:Option Rz:=(J 0 (jn x0 (pr.ar .add .i64 i0 1)))
 let y3:Option (D × List D):=(br (pr.bm i0 x0.sync.length) (br (br (pr.aN 1 (rows (some true) x0.sync) (pr.idx 0 i0 1)) true false) (br (pr.lt 0 (pr.aV (pr.aD (rows (some true) x0.sync) (pr.idx 0 i0 1)))) (br (pr.bm i0 x0.bU.length) (br (br (pr.bW (bB x0.bU) (pr.idx 0 i0 1)) true false) (br (br (pr.bC (bB x0.bU) (pr.idx 0 i0 1)) false true) y1 y2) none) none) y2) none) none)
 let y4:Option (D × List D):=(br (pr.bm i0 x0.bU.length) (br (br (pr.bW (bB x0.bU) (pr.idx 0 i0 1)) true false) (br (pr.bC (bB x0.bU) (pr.idx 0 i0 1)) (br (pr.bm i0 x0.conn.length) (br (br (pr.bW (bB x0.conn) (pr.idx 0 i0 1)) true false) (br (br (pr.bC (bB x0.conn) (pr.idx 0 i0 1)) false true) y1 y3) none) none) y3) none) none)
 (br (pr.lt i0 3) (br x0.up (br (pr.bm i0 x0.conn.length) (br (br (pr.bW (bB x0.conn) (pr.idx 0 i0 1)) true false) (br (pr.bC (bB x0.conn) (pr.idx 0 i0 1)) (br (br (br (pr.eq i0 x0.id) false true) false true) y1 y4) y4) none) none) (br (pr.bm i0 x0.conn.length) (br (br (pr.bW (bB x0.conn) (pr.idx 0 i0 1)) true false) (br (pr.bC (bB x0.conn) (pr.idx 0 i0 1)) y1 y4) none) none)) (J 2 (jo x0 (pr.aV x0.wait.length) 0))):=by kernel_rfl
theorem Gb (x0:ae) (i0:Int) (i1:Int):bL pr cv J 76 Tryz.f76 [.undef] 2 (jo x0 i0 i1)=
 let y1:Option (D × List D):=(some ((.bool false),[.undef]))
 let y2:Option Rz:=(J 2 (jo x0 i0 (pr.ar .add .i64 i1 1)))
 (br (pr.lt i1 i0) (br (pr.bm i1 x0.wait.length) (br (br (pr.bR .i64 (ints x0.wait) (pr.idx 0 i1 1)) true false) (cv 172 [(.int .i64 (pr.aO (ints x0.wait) (pr.idx 0 i1 1)))] (.bool (fun bH=>(.done (br (br bH false true) y1 (br (pr.lt 0 i1) (br (pr.bm (pr.ar .sub .i64 i1 1) x0.wait.length) (br (br (pr.bR .i64 (ints x0.wait) (pr.idx 0 (pr.ar .sub .i64 i1 1) 1)) true false) (br (pr.le (pr.aO (ints x0.wait) (pr.idx 0 i1 1)) (pr.aO (ints x0.wait) (pr.idx 0 (pr.ar .sub .i64 i1 1) 1))) y1 y2) none) none) y2)))))) none) none) (some ((.bool true),[.undef]))):=by kernel_rfl
def lE (x0:ae) (i0:Int):St:=(St.mk [(1,(.ptr 1 [] 0)),(3,(.int .i64 i0))] [(1,(U (some true) x0))] [] 0)
theorem NW:Told cfg Tryz.prog 69 Tryz.f69:=⟨by kernel_rfl,Tryz.func69,by kernel_rfl⟩
theorem NX (x0:ae):aW pr cv J 69 Tryz.f69 [(.agg (U (some true) x0))]=
 let y1:Option (D × List D):=(some ((.bool false),[.undef]))
 let y2:Option Rz:=(J 0 (lE x0 0))
 let y3:Option (D × List D):=(br (br x0.up false true) (br (pr.lt 0 (pr.aV x0.wait.length)) y1 y2) y2)
 (cv 87 [(.int .i64 x0.id),(.int .i64 0),(.int .i64 2)] (.bool (fun bH=>(.done (br (br bH false true) y1 (cv 160 [(sI (some true) x0.image)] (.bool (fun eQ=>(.done (br (br eQ false true) y1 (cv 161 [(.agg (cL (some true) x0.mt))] (.bool (fun gi=>(.done (br (br gi false true) y1 (cv 162 [(.agg (U (some true) x0))] (.bool (fun wk=>(.done (br (br wk false true) y1 (br x0.cQ (br (br x0.up false true) y1 (br (pr.eq x0.id 2) y1 y3)) y3))))))))))))))))))))):=by kernel_rfl
theorem Gc (x0:ae) (i0:Int):bL pr cv J 69 Tryz.f69 [.undef] 0 (lE x0 i0)=
 let y1:Bool:=(br (pr.bR .i64 (ints x0.wait) (pr.idx 0 i0 1)) true false)
 let y2:Option (D × List D):=(some ((.bool false),[.undef]))
 let y3:Option Rz:=(J 0 (lE x0 (pr.ar .add .i64 i0 1)))
 (br (pr.lt i0 (pr.aV x0.wait.length)) (br (pr.bm i0 x0.wait.length) (br y1 (cv 87 [(.int .i64 (pr.aO (ints x0.wait) (pr.idx 0 i0 1))),(.int .i64 1),(.int .i64 200)] (.bool (fun bH=>(.done (br (br bH false true) y2 (br (pr.lt 0 i0) (br (pr.bm (pr.ar .sub .i64 i0 1) x0.wait.length) (br (br (pr.bR .i64 (ints x0.wait) (pr.idx 0 (pr.ar .sub .i64 i0 1) 1)) true false) (br (pr.bm i0 x0.wait.length) (br y1 (br (pr.le (pr.aO (ints x0.wait) (pr.idx 0 i0 1)) (pr.aO (ints x0.wait) (pr.idx 0 (pr.ar .sub .i64 i0 1) 1))) y2 y3) none) none) none) none) y3)))))) none) none) (cv 163 [(.agg (eH (some true) x0.cE))] (.ty gW.mt (fun (nW:bn)=>(.int (fun uK=>(.bool (fun wk=>(.done (br wk (cv 164 [(.agg (cI true (cL none nW))),(.agg (cL (some true) x0.mt))] (.bool (fun Qv=>(.done (some ((.bool Qv),[.undef])))))) y2)))))))))):=by kernel_rfl
def iO (x0:ae) (i0:Int):St:=(St.mk [(1,(.ptr 1 [] 0)),(3,(.int .i64 i0))] [(1,(U (some true) x0))] [] 0)
theorem KK:Told cfg Tryz.prog 162 Tryz.f162:=⟨by kernel_rfl,Tryz.func162,by kernel_rfl⟩
theorem KL (x0:ae):aW pr cv J 162 Tryz.f162 [(.agg (U (some true) x0))]=
 let y1:Option (D × List D):=(some ((.bool false),[.undef]))
 (br (br (pr.eq (pr.aV x0.conn.length) 3) false true) y1 (br (br (pr.eq (pr.aV x0.sync.length) 3) false true) y1 (br (br (pr.eq (pr.aV x0.bU.length) 3) false true) y1 (J 0 (iO x0 0))))):=by kernel_rfl
theorem DY (x0:ae) (i0:Int):bL pr cv J 162 Tryz.f162 [.undef] 0 (iO x0 i0)=
 let y1:Bool:=(br (pr.aN 1 (rows (some true) x0.sync) (pr.idx 0 i0 1)) true false)
 let y2:Option (D × List D):=(some ((.bool false),[.undef]))
 let y3:Option Rz:=(J 0 (iO x0 (pr.ar .add .i64 i0 1)))
 let y4:Option (D × List D):=(br (pr.bm i0 x0.conn.length) (br (br (pr.bW (bB x0.conn) (pr.idx 0 i0 1)) true false) (br (pr.bC (bB x0.conn) (pr.idx 0 i0 1)) (br (br x0.up false true) y2 (br (pr.eq i0 x0.id) y2 y3)) y3) none) none)
 let y5:Option (D × List D):=(br (pr.bm i0 x0.bU.length) (br (br (pr.bW (bB x0.bU) (pr.idx 0 i0 1)) true false) (br (pr.bC (bB x0.bU) (pr.idx 0 i0 1)) (br (pr.bm i0 x0.conn.length) (br (br (pr.bW (bB x0.conn) (pr.idx 0 i0 1)) true false) (br (br (pr.bC (bB x0.conn) (pr.idx 0 i0 1)) false true) y2 y4) none) none) y4) none) none)
 (br (pr.lt i0 3) (br (pr.bm i0 x0.sync.length) (br y1 (cv 233 [(.sl (some (pr.aG (rows (some true) x0.sync) (pr.idx 0 i0 1))) 1 (pr.aD (rows (some true) x0.sync) (pr.idx 0 i0 1)) (pr.aF (rows (some true) x0.sync) (pr.idx 0 i0 1)))] (.bool (fun bH=>(.done (br (br bH false true) y2 (br (pr.bm i0 x0.sync.length) (br y1 (br (pr.lt 0 (pr.aV (pr.aD (rows (some true) x0.sync) (pr.idx 0 i0 1)))) (br (pr.bm i0 x0.bU.length) (br (br (pr.bW (bB x0.bU) (pr.idx 0 i0 1)) true false) (br (br (pr.bC (bB x0.bU) (pr.idx 0 i0 1)) false true) y2 y5) none) none) y5) none) none)))))) none) none) (some ((.bool true),[.undef]))):=by kernel_rfl
end
@[go_sem] theorem adt (oP:Nat) (gw:List Int) (oQ:Nat) (gx:List (List Int)) (iE:Bool) (iF:Bool) (iG:Bool) (iH:Int) (e0:oP=gw.length) (e1:oQ=gx.length) (q0:dt (⟨gw,gx,iE,iF,iG,iH⟩:bn)) (t:bO Rz):aX 168 [.agg [.sl (some true) 1 oP (ints gw),.sl (some true) 1 oQ (rows (some true) gx),.bool iE,.bool iF,.bool iG,.int .i64 iH]] t=feed t [.bool (il (⟨gw,gx,iE,iF,iG,iH⟩:bn))]:=by
 subst e0;subst e1;exact bN (r:=.bool (il (⟨gw,gx,iE,iF,iG,iH⟩:bn))) (s:=.bool) (ss:=[.undef]) (AO true (⟨gw,gx,iE,iF,iG,iH⟩:bn) q0) (by kernel_rfl) (by simp only [av,bw,aU,bz,bA,af,aj,tC]) (by simp only [af,aJ,av,aj,tC]) (by first | rfl | simp only [au,aS,aR,bq,bt,aT,bu,tC]) (by first | rfl | simp only [UL,aab,au,tC]) t
@[go_sem] theorem adu (oP:Nat) (gw:List Int) (oQ:Nat) (gx:List (List Int)) (iE:Bool) (iF:Bool) (iG:Bool) (iH:Int) (e0:oP=gw.length) (e1:oQ=gx.length) (q0:dt (⟨gw,gx,iE,iF,iG,iH⟩:bn)) (t:bO Rz):aX 161 [.agg [.sl (some true) 1 oP (ints gw),.sl (some true) 1 oQ (rows (some true) gx),.bool iE,.bool iF,.bool iG,.int .i64 iH]] t=feed t [.bool (il (⟨gw,gx,iE,iF,iG,iH⟩:bn))]:=by
 subst e0;subst e1;exact bN (r:=.bool (il (⟨gw,gx,iE,iF,iG,iH⟩:bn))) (s:=.bool) (ss:=[.undef]) (AN true (⟨gw,gx,iE,iF,iG,iH⟩:bn) q0) (by kernel_rfl) (by simp only [av,bw,aU,bz,bA,af,aj,tC]) (by simp only [af,aJ,av,aj,tC]) (by first | rfl | simp only [au,aS,aR,bq,bt,aT,bu,tC]) (by first | rfl | simp only [UL,aab,au,tC]) t
@[go_sem] theorem aaT (oP:Nat) (gw:List Int) (oQ:Nat) (gx:List (List Int)) (iE:Bool) (iF:Bool) (iG:Bool) (iH:Int) (Re:Nat) (zu:List Int) (Rf:Nat) (zw:List (List Int)) (CX:Bool) (CY:Bool) (CZ:Bool) (C2:Int) (e0:oP=gw.length) (e1:oQ=gx.length) (e2:Re=zu.length) (e3:Rf=zw.length) (q0:dt (⟨gw,gx,iE,iF,iG,iH⟩:bn)) (q1:dt (⟨zu,zw,CX,CY,CZ,C2⟩:bn)) (t:bO Rz):aX 171 [.agg [.sl (some true) 1 oP (ints gw),.sl (some true) 1 oQ (rows (some true) gx),.bool iE,.bool iF,.bool iG,.int .i64 iH],.agg [.sl (some true) 1 Re (ints zu),.sl (some true) 1 Rf (rows (some true) zw),.bool CX,.bool CY,.bool CZ,.int .i64 C2]] t=feed t [.bool (me (⟨gw,gx,iE,iF,iG,iH⟩:bn) (⟨zu,zw,CX,CY,CZ,C2⟩:bn))]:=by
 subst e0;subst e1;subst e2;subst e3;exact bN (r:=.bool (me (⟨gw,gx,iE,iF,iG,iH⟩:bn) (⟨zu,zw,CX,CY,CZ,C2⟩:bn))) (s:=.bool) (ss:=[.undef,.undef]) (Iv true true (⟨gw,gx,iE,iF,iG,iH⟩:bn) (⟨zu,zw,CX,CY,CZ,C2⟩:bn) q0 q1) (by kernel_rfl) (by simp only [av,bw,aU,bz,bA,af,aj,tC]) (by simp only [af,aJ,av,aj,tC]) (by first | rfl | simp only [au,aS,aR,bq,bt,aT,bu,tC]) (by first | rfl | simp only [UL,aab,au,tC]) t
@[go_sem] theorem aaU (oP:Nat) (gw:List Int) (oQ:Nat) (gx:List (List Int)) (iE:Bool) (iF:Bool) (iG:Bool) (iH:Int) (Re:Nat) (zu:List Int) (Rf:Nat) (zw:List (List Int)) (CX:Bool) (CY:Bool) (CZ:Bool) (C2:Int) (e0:oP=gw.length) (e1:oQ=gx.length) (e2:Re=zu.length) (e3:Rf=zw.length) (q0:dt (⟨gw,gx,iE,iF,iG,iH⟩:bn)) (q1:dt (⟨zu,zw,CX,CY,CZ,C2⟩:bn)) (t:bO Rz):aX 164 [.agg [.sl (some true) 1 oP (ints gw),.sl (some true) 1 oQ (rows (some true) gx),.bool iE,.bool iF,.bool iG,.int .i64 iH],.agg [.sl (some true) 1 Re (ints zu),.sl (some true) 1 Rf (rows (some true) zw),.bool CX,.bool CY,.bool CZ,.int .i64 C2]] t=feed t [.bool (me (⟨gw,gx,iE,iF,iG,iH⟩:bn) (⟨zu,zw,CX,CY,CZ,C2⟩:bn))]:=by
 subst e0;subst e1;subst e2;subst e3;exact bN (r:=.bool (me (⟨gw,gx,iE,iF,iG,iH⟩:bn) (⟨zu,zw,CX,CY,CZ,C2⟩:bn))) (s:=.bool) (ss:=[.undef,.undef]) (Iw true true (⟨gw,gx,iE,iF,iG,iH⟩:bn) (⟨zu,zw,CX,CY,CZ,C2⟩:bn) q0 q1) (by kernel_rfl) (by simp only [av,bw,aU,bz,bA,af,aj,tC]) (by simp only [af,aJ,av,aj,tC]) (by first | rfl | simp only [au,aS,aR,bq,bt,aT,bu,tC]) (by first | rfl | simp only [UL,aab,au,tC]) t
@[go_sem] theorem ac1 (m0:Nat) (m:List Int) (e0:m0=m.length) (q0:m.length < 4611686018427387904) (t:bO Rz):aX 167 [.sl (some true) 1 m0 (ints m)] t=feed t [.bool (ki m)]:=by
 subst e0;exact bN (r:=.bool (ki m)) (s:=.bool) (ss:=[.undef]) (Kw true m q0) (by kernel_rfl) (by simp only [av,bw,aU,bz,bA,af,aj,tC]) (by simp only [af,aJ,av,aj,tC]) (by first | rfl | simp only [au,aS,aR,bq,bt,aT,bu,tC]) (by first | rfl | simp only [UL,aab,au,tC]) t
@[go_sem] theorem ac2 (m0:Nat) (m:List Int) (e0:m0=m.length) (q0:m.length < 4611686018427387904) (t:bO Rz):aX 160 [.sl (some true) 1 m0 (ints m)] t=feed t [.bool (ki m)]:=by
 subst e0;exact bN (r:=.bool (ki m)) (s:=.bool) (ss:=[.undef]) (Kv true m q0) (by kernel_rfl) (by simp only [av,bw,aU,bz,bA,af,aj,tC]) (by simp only [af,aJ,av,aj,tC]) (by first | rfl | simp only [au,aS,aR,bq,bt,aT,bu,tC]) (by first | rfl | simp only [UL,aab,au,tC]) t
@[go_sem] theorem ac3 (m0:Nat) (m:List Int) (e0:m0=m.length) (q0:m.length < 4611686018427387904) (t:bO Rz):aX 239 [.sl (some true) 1 m0 (ints m)] t=feed t [.bool (gf m)]:=by
 subst e0;exact bN (r:=.bool (gf m)) (s:=.bool) (ss:=[.undef]) (zm true m q0) (by kernel_rfl) (by simp only [av,bw,aU,bz,bA,af,aj,tC]) (by simp only [af,aJ,av,aj,tC]) (by first | rfl | simp only [au,aS,aR,bq,bt,aT,bu,tC]) (by first | rfl | simp only [UL,aab,au,tC]) t
@[go_sem] theorem ac4 (m0:Nat) (m:List Int) (e0:m0=m.length) (q0:m.length < 4611686018427387904) (t:bO Rz):aX 233 [.sl (some true) 1 m0 (ints m)] t=feed t [.bool (gf m)]:=by
 subst e0;exact bN (r:=.bool (gf m)) (s:=.bool) (ss:=[.undef]) (zl true m q0) (by kernel_rfl) (by simp only [av,bw,aU,bz,bA,af,aj,tC]) (by simp only [af,aJ,av,aj,tC]) (by first | rfl | simp only [au,aS,aR,bq,bt,aT,bu,tC]) (by first | rfl | simp only [UL,aab,au,tC]) t
@[go_sem] theorem adv (m0:Nat) (m:List Int) (e0:m0=m.length) (q0:m.length < 4611686018427387904) (t:bO Rz):aX 189 [.sl (some true) 1 m0 (ints m)] t=feed t [.bool (jU m)]:=by
 subst e0;exact bN (r:=.bool (jU m)) (s:=.bool) (ss:=[.undef]) (AM true m q0) (by kernel_rfl) (by simp only [av,bw,aU,bz,bA,af,aj,tC]) (by simp only [af,aJ,av,aj,tC]) (by first | rfl | simp only [au,aS,aR,bq,bt,aT,bu,tC]) (by first | rfl | simp only [UL,aab,au,tC]) t
@[go_sem] theorem adw (m0:Nat) (m:List Int) (e0:m0=m.length) (q0:m.length < 4611686018427387904) (t:bO Rz):aX 186 [.sl (some true) 1 m0 (ints m)] t=feed t [.bool (jU m)]:=by
 subst e0;exact bN (r:=.bool (jU m)) (s:=.bool) (ss:=[.undef]) (AL true m q0) (by kernel_rfl) (by simp only [av,bw,aU,bz,bA,af,aj,tC]) (by simp only [af,aJ,av,aj,tC]) (by first | rfl | simp only [au,aS,aR,bq,bt,aT,bu,tC]) (by first | rfl | simp only [UL,aab,au,tC]) t
@[go_sem] theorem aaV (m0:Nat) (m:List (List Int)) (e0:m0=m.length) (q0:wq m) (t:bO Rz):aX 169 [.sl (some true) 1 m0 (rows (some true) m)] t=feed t [.bool ((((m.length:Int)==3)&&iz m))]:=by
 subst e0;exact bN (r:=.bool ((((m.length:Int)==3)&&iz m))) (s:=.bool) (ss:=[.undef]) (Iu true m q0) (by kernel_rfl) (by simp only [av,bw,aU,bz,bA,af,aj,tC]) (by simp only [af,aJ,av,aj,tC]) (by first | rfl | simp only [au,aS,aR,bq,bt,aT,bu,tC]) (by first | rfl | simp only [UL,aab,au,tC]) t
@[go_sem] theorem adx (a:Int) (t:bO Rz):aX 92 [.int .i64 a] t=feed t [.bool (decide (0<=a/\a<=2))]:=by
 exact bN (r:=.bool (decide (0<=a/\a<=2))) (s:=.bool) (ss:=[.undef]) (ZG a) (by kernel_rfl) (by simp only [av,bw,aU,bz,bA,af,aj,tC]) (by simp only [af,aJ,av,aj,tC]) (by first | rfl | simp only [au,aS,aR,bq,bt,aT,bu,tC]) (by first | rfl | simp only [UL,aab,au,tC]) t
@[go_sem] theorem ady (a:Int) (t:bO Rz):aX 93 [.int .i64 a] t=feed t [.bool (decide (0<=a/\a<=7))]:=by
 exact bN (r:=.bool (decide (0<=a/\a<=7))) (s:=.bool) (ss:=[.undef]) (QU a) (by kernel_rfl) (by simp only [av,bw,aU,bz,bA,af,aj,tC]) (by simp only [af,aJ,av,aj,tC]) (by first | rfl | simp only [au,aS,aR,bq,bt,aT,bu,tC]) (by first | rfl | simp only [UL,aab,au,tC]) t
@[go_sem] theorem ac5 (a:Int) (t:bO Rz):aX 172 [.int .i64 a] t=feed t [.bool (decide (1<=a/\a<=200))]:=by
 exact bN (r:=.bool (decide (1<=a/\a<=200))) (s:=.bool) (ss:=[.undef]) (Xe a) (by kernel_rfl) (by simp only [av,bw,aU,bz,bA,af,aj,tC]) (by simp only [af,aJ,av,aj,tC]) (by first | rfl | simp only [au,aS,aR,bq,bt,aT,bu,tC]) (by first | rfl | simp only [UL,aab,au,tC]) t
@[go_sem] theorem agw (a:Int) (t:bO Rz):aX 111 [.int .i64 a] t=feed t [.int .i64 (mc a)]:=by
 exact bN (r:=.int .i64 (mc a)) (s:=.int .i64) (ss:=[.undef]) (RP a) (by kernel_rfl) (by simp only [av,bw,aU,bz,bA,af,aj,tC]) (by simp only [af,aJ,av,aj,tC]) (by first | rfl | simp only [au,aS,aR,bq,bt,aT,bu,tC]) (by first | rfl | simp only [UL,aab,au,tC]) t
@[go_sem] theorem agx (a:Int) (t:bO Rz):aX 109 [.int .i64 a] t=feed t [.int .i64 (mc a)]:=by
 exact bN (r:=.int .i64 (mc a)) (s:=.int .i64) (ss:=[.undef]) (RQ a) (by kernel_rfl) (by simp only [av,bw,aU,bz,bA,af,aj,tC]) (by simp only [af,aJ,av,aj,tC]) (by first | rfl | simp only [au,aS,aR,bq,bt,aT,bu,tC]) (by first | rfl | simp only [UL,aab,au,tC]) t
@[go_sem] theorem afX (m0:Nat) (m:List Int) (a:Int) (e0:m0=m.length) (q0:m.length < 4611686018427387904) (t:bO Rz):aX 102 [.sl (some true) 1 m0 (ints m),.int .i64 a] t=feed t [.bool (decide (a∈m))]:=by
 subst e0;exact bN (r:=.bool (decide (a∈m))) (s:=.bool) (ss:=[.undef,.undef]) (SY true m a q0) (by kernel_rfl) (by simp only [av,bw,aU,bz,bA,af,aj,tC]) (by simp only [af,aJ,av,aj,tC]) (by first | rfl | simp only [au,aS,aR,bq,bt,aT,bu,tC]) (by first | rfl | simp only [UL,aab,au,tC]) t
@[go_sem] theorem Rg (m0:Nat) (m:List Int) (a:Int) (e0:m0=m.length) (q0:m.length < 4611686018427387904) (t:bO Rz):aX 106 [.sl (some true) 1 m0 (ints m),.int .i64 a] t=feed t [.bool (decide (a∈m))]:=by
 subst e0;exact bN (r:=.bool (decide (a∈m))) (s:=.bool) (ss:=[.undef,.undef]) (Ii true m a q0) (by kernel_rfl) (by simp only [av,bw,aU,bz,bA,af,aj,tC]) (by simp only [af,aJ,av,aj,tC]) (by first | rfl | simp only [au,aS,aR,bq,bt,aT,bu,tC]) (by first | rfl | simp only [UL,aab,au,tC]) t
@[go_sem] theorem adz (m0:Nat) (m:List Int) (k0:Nat) (k:List Int) (e0:m0=m.length) (e1:k0=k.length) (q0:m.length < 4611686018427387904) (q1:k.length < 4611686018427387904) (t:bO Rz):aX 193 [.sl (some true) 1 m0 (ints m),.sl (some true) 1 k0 (ints k)] t=feed t [.bool (decide (m=k))]:=by
 subst e0;subst e1;exact bN (r:=.bool (decide (m=k))) (s:=.bool) (ss:=[.undef,.undef]) (QX true true m k q0 q1) (by kernel_rfl) (by simp only [av,bw,aU,bz,bA,af,aj,tC]) (by simp only [af,aJ,av,aj,tC]) (by first | rfl | simp only [au,aS,aR,bq,bt,aT,bu,tC]) (by first | rfl | simp only [UL,aab,au,tC]) t
@[go_sem] theorem Ta (m0:Nat) (m:List Int) (k0:Nat) (k:List Int) (e0:m0=m.length) (e1:k0=k.length) (q0:m.length < 4611686018427387904) (q1:k.length < 4611686018427387904) (t:bO Rz):aX 202 [.sl (some true) 1 m0 (ints m),.sl (some true) 1 k0 (ints k)] t=feed t [.bool (decide (m=k))]:=by
 subst e0;subst e1;exact bN (r:=.bool (decide (m=k))) (s:=.bool) (ss:=[.undef,.undef]) (S5 true true m k q0 q1) (by kernel_rfl) (by simp only [av,bw,aU,bz,bA,af,aj,tC]) (by simp only [af,aJ,av,aj,tC]) (by first | rfl | simp only [au,aS,aR,bq,bt,aT,bu,tC]) (by first | rfl | simp only [UL,aab,au,tC]) t
def rV (n:ae) (k:Nat):Prop:=(n.conn.getD k false=true->n.up=true/\¬(k:Int)=n.id)/\(n.bU.getD k false=true->n.conn.getD k false=true)/\(0 < ((n.sync.getD k []).length:Int)->n.bU.getD k false=true)
def UI (w:List Int) (i:Nat):Prop:=(1<=w.getD i 0/\w.getD i 0<=200)/\(0 < (i:Int)->¬w.getD i 0<=w.getD (i - 1) 0)
structure rW (n:ae):Prop where
 id:0<=n.id/\n.id<=2
 image:ki n.image=true
 mt:il n.mt=true
 conn:(n.conn.length:Int)=3
 sync:(n.sync.length:Int)=3
 marks:∀ k,k < n.sync.length->gf (n.sync.getD k [])=true
 bU:(n.bU.length:Int)=3
 cQ:n.cQ=true->n.up=true/\¬n.id=2
 down:¬n.up=true->¬0 < (n.wait.length:Int)
 slot:(aY n.cE).2.2=true
 same:me (aY n.cE).1 n.mt=true
 link:∀ k,k < 3->rV n k
 wait:∀ i,i < n.wait.length->UI n.wait i
open Classical in
noncomputable def eg (n:ae):Bool:=decide (rW n)
open Classical in
theorem UJ {n:ae} (h:rW n):eg n=true:=by unfold eg; exact decide_eq_true h
open Classical in
theorem fL {n:ae} (h:eg n=true):rW n:=by unfold eg at h; exact of_decide_eq_true h
open Classical in
theorem dW {n:ae} (h:¬rW n):(some ((.bool false,[.undef]):Rz))=some (.bool (eg n),[.undef]):=by unfold eg; rw [decide_eq_false h]
theorem Mg {n:ae} (h:rW n):(some ((.bool true,[.undef]):Rz))=some (.bool (eg n),[.undef]):=by rw [UJ h]
theorem Rh {xss:List (List Int)} (h:iz xss=true):∀ k,k < xss.length->gf (xss.getD k [])=true:=fun k hk=>by
 unfold iz at h;exact aac.1 h k (List.mem_range.2 hk)
theorem R4 {xss:List (List Int)} (h:∀ k,k < xss.length->gf (xss.getD k [])=true):iz xss=true:=by
 unfold iz;exact aac.2 fun k hk=>h k (List.mem_range.1 hk)
theorem ac6 {xss:List (List Int)} (h:wq xss) (k:Nat):(xss.getD k []).length<=1048576:=by
 by_cases hk:k < xss.length
 ·rw [bX hk];exact h.2 _ (aan hk)
 ·rw [abi,aaD (abP.1 hk)];simp
theorem afY {R:Type} {p u b2 b3:Bool} {T F r:R} (hT:(p=true->u=true/\b2=false)->(u=false->b3=false)->T=r) (hF:((p=true->u=true/\b2=false)->(u=false->b3=false)->False)->F=r):br p (br (br u false true) F (br b2 F (br (br u false true) (br b3 F T) T))) (br (br u false true) (br b3 F T) T)=r:=by
 cases p<;>cases u<;>cases b2<;>cases b3<;>simp only [br]<;>first | exact hT (by simp) (by simp) | exact hF (by simp)
theorem A8 (n:ae) (q0:cz n):Cm 76 [.agg (U (some true) n)] (.bool (eg n),[.undef]):=by
 have ok:=q0;have s1:=ok.image;have s2:=ok.conn;have s3:=ok.bU;have s4:=ok.wait;have s5:=ok.sync.1;have s6:=ok.mt;have s7:=ok.sync;have s8:=q0.cE;have s9:=IJ n.cE;refine Cm.step NU [.undef] fun J hJ=>?_;rw [NV];simp (disch:=first | assumption | omega) only [go_sem]
 refine bK (fun h1=>?_) (fun h=>dW fun o=>h o.id);simp (disch:=first | assumption | omega) only [go_sem]
 refine gv (fun h2=>?_) (fun h=>dW fun o=>h o.image);simp (disch:=first | assumption | omega) only [go_sem]
 refine gv (fun h3=>?_) (fun h=>dW fun o=>h o.mt);simp (disch:=first | assumption | omega) only [go_sem]
 refine bK (fun h4=>?_) (fun h=>dW fun o=>h o.conn);simp (disch:=first | assumption | omega) only [go_sem]
 refine gv (fun h5=>?_) (fun h=>dW fun o=>h (by simp only [o.sync,R4 o.marks,ae9]; rfl))
 simp only [Bh,beq_iff_eq] at h5;simp (disch:=first | assumption | omega) only [go_sem]
 refine bK (fun h6=>?_) (fun h=>dW fun o=>h o.bU);refine afY (fun h7 h8=>?_) (fun h=>dW fun o=>h (fun hp=>⟨(o.cQ hp).1,decide_eq_false (o.cQ hp).2⟩) fun hu=>decide_eq_false (o.down (by rw [hu]; simp)))
 have h7:n.cQ=true->n.up=true/\¬n.id=2:=fun hp=>⟨(h7 hp).1,of_decide_eq_false (h7 hp).2⟩;have h8:¬n.up=true->¬0 < (n.wait.length:Int):=fun hu=>of_decide_eq_false (h8 (by simpa using hu))
 simp (disch:=first | assumption | omega) only [go_sem]
 refine gv (fun h9=>?_) (fun h=>dW fun o=>h o.slot);simp (disch:=first | assumption | omega) only [go_sem]
 refine gv (fun lT=>?_) (fun h=>dW fun o=>h o.same);have ahm:(∀ k,k < 3->rV n k)->WP 76 Tryz.f76 [.undef] 2 (jo n n.wait.length 0) (.bool (eg n),[.undef]):=by
  intro OO;refine WP.up (H:=fun i=>jo n n.wait.length i) n.wait.length (fun i=>∀ k,k < i->UI n.wait k) (fun i hi inv J _ next=>?_) 0 (aa9 _) (fun k hk=>absurd hk (by omega))
  rw [Gb];simp (disch:=first | assumption | omega) only [go_sem]
  refine bK (fun dg=>?_) (fun Bs=>Mg ⟨h1,h2,h3,h4,h5.1,Rh h5.2,h6,h7,h8,h9,lT,OO,fun k hk=>inv k (by omega)⟩)
  simp (disch:=first | assumption | omega) only [go_sem]
  refine bK (fun ha=>?_) (fun h=>dW fun o=>h (o.wait i (by omega)).1)
  have go:(0 < (i:Int)->¬n.wait.getD i 0<=n.wait.getD (i - 1) 0)->J 2 (jo n n.wait.length ((i:Int)+1))=some (.bool (eg n),[.undef]):=fun hb=>next (by omega) fun k hk=>by
   by_cases e:k=i
   ·subst e; exact ⟨ha,hb⟩
   ·exact inv k (by omega)
  refine bK (fun pj=>?_) (fun hz=>?_)
  ·simp (disch:=first | assumption | omega) only [go_sem]
   have e1:((i:Int) - 1).toNat=i - 1:=by omega
   simp (disch:=first | assumption | omega) only [go_sem,e1]
   exact bK (fun h=>dW fun o=>(o.wait i (by omega)).2 pj h) (fun h=>go fun _=>h)
  ·simp (disch:=first | assumption | omega) only [go_sem]
   exact go fun h=>absurd h hz
 refine hJ _ _ ?_;refine WP.up (H:=fun i=>jn n i) 3 (fun i=>∀ k,k < i->rV n k) (fun i hi inv J hJ next=>?_) 0 (aa9 _) (fun k hk=>absurd hk (by omega))
 rw [Ga];dsimp only;simp (disch:=first | assumption | omega) only [go_sem]
 refine bK (fun dg=>?_) (fun Bs=>hJ _ _ (ahm fun k hk=>inv k (by omega)))
 have Vs:i < 3:=by omega
 have go:rV n i->J 0 (jn n ((i:Int)+1))=some (.bool (eg n),[.undef]):=fun hb=>next (by omega) fun k hk=>by
   by_cases e:k=i
   ·subst e; exact hb
   ·exact inv k (by omega)
 have no:¬rV n i->(some ((.bool false,[.undef]):Rz))=some (.bool (eg n),[.undef]):=fun h=>dW fun o=>h (o.link i Vs);have eJ:ad.ar .add .i64 (i:Int) 1=(i:Int)+1:=aaS (by omega) (by omega)
 rw [eJ];generalize J 0 (jn n ((i:Int)+1))=z at go ⊢;unfold rV at go no;cases hc:n.conn.getD i false<;>cases hk:n.bU.getD i false<;>cases hu:n.up<;>by_cases hs:0 < ((n.sync.getD i []).length:Int)<;>by_cases WR:(i:Int)=n.id<;>simp only [hc,hk,hu,hs,WR,not_true_eq_false,not_false_eq_true,false_and,and_false,and_true,true_and,forall_const,aai,false_implies,imp_self,true_implies,and_self] at go no<;>simp (disch:=first | assumption | omega) only [go_sem,hc,hk,hu]<;>first | exact no | exact go
@[go_sem] theorem adA (uk:Int) (um:Bool) (uo:Bool) (xQ:Nat) (mC:List Int) (uq:Nat) (jq:List Int) (ur:Nat) (jr:List (List Int)) (lF:Bool) (lG:Bool) (lH:Bool) (lI:Int) (uw:Nat) (js:List UInt8) (uy:Nat) (jt:List UInt8) (C3:Nat) (qS:List Bool) (C4:Nat) (qT:List (List Int)) (C5:Nat) (qU:List Bool) (C6:Nat) (qV:List Int) (e0:xQ=mC.length) (e1:uq=jq.length) (e2:ur=jr.length) (e3:uw=js.length) (e4:uy=jt.length) (e5:C3=qS.length) (e6:C4=qT.length) (e7:C5=qU.length) (e8:C6=qV.length) (q0:cz (⟨uk,um,uo,mC,(⟨jq,jr,lF,lG,lH,lI⟩:bn),(⟨js,jt⟩:bf),qS,qT,qU,qV⟩:ae)) (t:bO Rz):aX 76 [.agg [.int .i64 uk,.bool um,.bool uo,.sl (some true) 1 xQ (ints mC),.sl (some true) 1 uq (ints jq),.sl (some true) 1 ur (rows (some true) jr),.bool lF,.bool lG,.bool lH,.int .i64 lI,.sl (some true) 1 uw (bytes js),.sl (some true) 1 uy (bytes jt),.sl (some true) 1 C3 (bB qS),.sl (some true) 1 C4 (rows (some true) qT),.sl (some true) 1 C5 (bB qU),.sl (some true) 1 C6 (ints qV)]] t=feed t [.bool (eg (⟨uk,um,uo,mC,(⟨jq,jr,lF,lG,lH,lI⟩:bn),(⟨js,jt⟩:bf),qS,qT,qU,qV⟩:ae))]:=by
 subst e0;subst e1;subst e2;subst e3;subst e4;subst e5;subst e6;subst e7;subst e8;exact bN (r:=.bool (eg (⟨uk,um,uo,mC,(⟨jq,jr,lF,lG,lH,lI⟩:bn),(⟨js,jt⟩:bf),qS,qT,qU,qV⟩:ae))) (s:=.bool) (ss:=[.undef]) (A8 (⟨uk,um,uo,mC,(⟨jq,jr,lF,lG,lH,lI⟩:bn),(⟨js,jt⟩:bf),qS,qT,qU,qV⟩:ae) q0) (by kernel_rfl) (by simp only [av,bw,aU,bz,bA,af,aj,tC]) (by simp only [af,aJ,av,aj,tC]) (by first | rfl | simp only [au,aS,aR,bq,bt,aT,bu,tC]) (by first | rfl | simp only [UL,aab,au,tC]) t
set_option maxRecDepth 100000
section
variable (pr:dC) (cv:Cv Rz) (J:Nat->St->Option Rz)
theorem IK:Told cfg Tryz.prog 294 Tryz.f294:=⟨by kernel_rfl,Tryz.func294,by kernel_rfl⟩
theorem IL (x0:ae):aW pr cv J 294 Tryz.f294 [(.agg (U (some true) x0))]=
 let y1:Option (D × List D):=(some ((.bool false),[.undef]))
 (cv 76 [(.agg (U (some true) x0))] (.bool (fun bH=>(.done (br bH (br x0.cQ (cv 111 [(.int .i64 x0.id)] (.int (fun iD=>(.done (br (pr.bm iD x0.conn.length) (br (br (pr.bW (bB x0.conn) (pr.idx 0 iD 1)) true false) (br (pr.bC (bB x0.conn) (pr.idx 0 iD 1)) (some ((.bool true),[.undef])) (some ((.bool x0.mt.held),[.undef]))) none) none))))) y1) y1))))):=by kernel_rfl
theorem IM:Told cfg Tryz.prog 259 Tryz.f259:=⟨by kernel_rfl,Tryz.func259,by kernel_rfl⟩
theorem IN (x0:ae):aW pr cv J 259 Tryz.f259 [(.agg (U (some true) x0))]=
 let y1:Option (D × List D):=(some ((.bool false),[.undef]))
 (cv 69 [(.agg (U (some true) x0))] (.bool (fun bH=>(.done (br bH (br x0.cQ (cv 109 [(.int .i64 x0.id)] (.int (fun iD=>(.done (br (pr.bm iD x0.conn.length) (br (br (pr.bW (bB x0.conn) (pr.idx 0 iD 1)) true false) (br (pr.bC (bB x0.conn) (pr.idx 0 iD 1)) (some ((.bool true),[.undef])) (some ((.bool x0.mt.held),[.undef]))) none) none))))) y1) y1))))):=by kernel_rfl
end
structure DO (n:ae):Prop where
 conn:(n.conn.length:Int)=3
 sync:(n.sync.length:Int)=3
 bU:(n.bU.length:Int)=3
 link:∀ k,k < 3->gf (n.sync.getD k [])=true/\rV n k
open Classical in
noncomputable def oR (n:ae):Bool:=decide (DO n)
open Classical in
theorem ZQ {n:ae} (h:oR n=true):DO n:=by unfold oR at h; exact of_decide_eq_true h
open Classical in
theorem Mh {n:ae} (h:DO n):oR n=true:=by unfold oR; exact decide_eq_true h
open Classical in
theorem wV {n:ae} (h:¬DO n):(some ((.bool false,[.undef]):Rz))=some (.bool (oR n),[.undef]):=by unfold oR; rw [decide_eq_false h]
theorem KM (n:ae) (q0:cz n):Cm 162 [.agg (U (some true) n)] (.bool (oR n),[.undef]):=by
 have ok:=q0;have s5:=ok.sync.1;have s7:=ok.sync;refine Cm.step KK [.undef] fun J hJ=>?_;rw [KL];simp (disch:=first | assumption | omega) only [go_sem]
 refine bK (fun h1=>?_) (fun h=>wV fun o=>h o.conn);simp (disch:=first | assumption | omega) only [go_sem]
 refine bK (fun h2=>?_) (fun h=>wV fun o=>h o.sync);simp (disch:=first | assumption | omega) only [go_sem]
 refine bK (fun h3=>?_) (fun h=>wV fun o=>h o.bU);refine hJ _ _ ?_;refine WP.up (H:=fun i=>iO n i) 3 (fun i=>∀ k,k < i->gf (n.sync.getD k [])=true/\rV n k) (fun i hi inv J hJ next=>?_) 0 (aa9 _) (fun k hk=>absurd hk (by omega))
 rw [DY];dsimp only;simp (disch:=first | assumption | omega) only [go_sem]
 refine bK (fun dg=>?_) (fun Bs=>by rw [Mh ⟨h1,h2,h3,fun k hk=>inv k (by omega)⟩])
 have Vs:i < 3:=by omega
 have s8:=ac6 s7 i;simp (disch:=first | assumption | omega) only [go_sem]
 refine gv (fun hm=>?_) (fun h=>wV fun o=>h (o.link i Vs).1);have go:rV n i->J 0 (iO n ((i:Int)+1))=some (.bool (oR n),[.undef]):=fun hb=>next (by omega) fun k hk=>by
  by_cases e:k=i
  ·subst e; exact ⟨hm,hb⟩
  ·exact inv k (by omega)
 have no:¬rV n i->(some ((.bool false,[.undef]):Rz))=some (.bool (oR n),[.undef]):=fun h=>wV fun o=>h (o.link i Vs).2;have eJ:ad.ar .add .i64 (i:Int) 1=(i:Int)+1:=aaS (by omega) (by omega)
 rw [eJ];generalize J 0 (iO n ((i:Int)+1))=z at go ⊢;unfold rV at go no;cases hc:n.conn.getD i false<;>cases hk:n.bU.getD i false<;>cases hu:n.up<;>by_cases hs:0 < ((n.sync.getD i []).length:Int)<;>by_cases WR:(i:Int)=n.id<;>simp only [hc,hk,hu,hs,WR,not_true_eq_false,not_false_eq_true,false_and,and_false,and_true,true_and,forall_const,aai,false_implies,imp_self,true_implies,and_self] at go no<;>simp (disch:=first | assumption | omega) only [go_sem,hc,hk,hu]<;>first | exact no | exact go
@[go_sem] theorem ac7 (uk:Int) (um:Bool) (uo:Bool) (xQ:Nat) (mC:List Int) (uq:Nat) (jq:List Int) (ur:Nat) (jr:List (List Int)) (lF:Bool) (lG:Bool) (lH:Bool) (lI:Int) (uw:Nat) (js:List UInt8) (uy:Nat) (jt:List UInt8) (C3:Nat) (qS:List Bool) (C4:Nat) (qT:List (List Int)) (C5:Nat) (qU:List Bool) (C6:Nat) (qV:List Int) (e0:xQ=mC.length) (e1:uq=jq.length) (e2:ur=jr.length) (e3:uw=js.length) (e4:uy=jt.length) (e5:C3=qS.length) (e6:C4=qT.length) (e7:C5=qU.length) (e8:C6=qV.length) (q0:cz (⟨uk,um,uo,mC,(⟨jq,jr,lF,lG,lH,lI⟩:bn),(⟨js,jt⟩:bf),qS,qT,qU,qV⟩:ae)) (t:bO Rz):aX 162 [.agg [.int .i64 uk,.bool um,.bool uo,.sl (some true) 1 xQ (ints mC),.sl (some true) 1 uq (ints jq),.sl (some true) 1 ur (rows (some true) jr),.bool lF,.bool lG,.bool lH,.int .i64 lI,.sl (some true) 1 uw (bytes js),.sl (some true) 1 uy (bytes jt),.sl (some true) 1 C3 (bB qS),.sl (some true) 1 C4 (rows (some true) qT),.sl (some true) 1 C5 (bB qU),.sl (some true) 1 C6 (ints qV)]] t=feed t [.bool (oR (⟨uk,um,uo,mC,(⟨jq,jr,lF,lG,lH,lI⟩:bn),(⟨js,jt⟩:bf),qS,qT,qU,qV⟩:ae))]:=by
 subst e0;subst e1;subst e2;subst e3;subst e4;subst e5;subst e6;subst e7;subst e8;exact bN (r:=.bool (oR (⟨uk,um,uo,mC,(⟨jq,jr,lF,lG,lH,lI⟩:bn),(⟨js,jt⟩:bf),qS,qT,qU,qV⟩:ae))) (s:=.bool) (ss:=[.undef]) (KM (⟨uk,um,uo,mC,(⟨jq,jr,lF,lG,lH,lI⟩:bn),(⟨js,jt⟩:bf),qS,qT,qU,qV⟩:ae) q0) (by kernel_rfl) (by simp only [av,bw,aU,bz,bA,af,aj,tC]) (by simp only [af,aJ,av,aj,tC]) (by first | rfl | simp only [au,aS,aR,bq,bt,aT,bu,tC]) (by first | rfl | simp only [UL,aab,au,tC]) t
theorem A9 (n:ae) (q0:cz n):Cm 69 [.agg (U (some true) n)] (.bool (eg n),[.undef]):=by
 have ok:=q0;have s1:=ok.image;have s2:=ok.conn;have s3:=ok.bU;have s4:=ok.wait;have s5:=ok.sync.1;have s6:=ok.mt;have s7:=ok.sync;have s8:=q0.cE;have s9:=IJ n.cE;refine Cm.step NW [.undef] fun J hJ=>?_;rw [NX];simp (disch:=first | assumption | omega) only [go_sem]
 refine bK (fun h1=>?_) (fun h=>dW fun o=>h o.id);simp (disch:=first | assumption | omega) only [go_sem]
 refine gv (fun h2=>?_) (fun h=>dW fun o=>h o.image);simp (disch:=first | assumption | omega) only [go_sem]
 refine gv (fun h3=>?_) (fun h=>dW fun o=>h o.mt);simp (disch:=first | assumption | omega) only [go_sem]
 refine gv (fun h4=>?_) (fun h=>dW fun o=>h (Mh ⟨o.conn,o.sync,o.bU,fun k hk=>⟨o.marks k (by have:=o.sync; omega),o.link k hk⟩⟩))
 have h4:=ZQ h4;have h5:=h4.sync;refine afY (fun h7 h8=>?_) (fun h=>dW fun o=>h (fun hp=>⟨(o.cQ hp).1,decide_eq_false (o.cQ hp).2⟩) fun hu=>decide_eq_false (o.down (by rw [hu]; simp)))
 have h7:n.cQ=true->n.up=true/\¬n.id=2:=fun hp=>⟨(h7 hp).1,of_decide_eq_false (h7 hp).2⟩;have h8:¬n.up=true->¬0 < (n.wait.length:Int):=fun hu=>of_decide_eq_false (h8 (by simpa using hu))
 refine hJ _ _ ?_;refine WP.up (H:=fun i=>lE n i) n.wait.length (fun i=>∀ k,k < i->UI n.wait k) (fun i hi inv J _ next=>?_) 0 (aa9 _) (fun k hk=>absurd hk (by omega))
 rw [Gc];simp (disch:=first | assumption | omega) only [go_sem]
 refine bK (fun dg=>?_) (fun Bs=>?_)
 ·simp (disch:=first | assumption | omega) only [go_sem]
  refine bK (fun ha=>?_) (fun h=>dW fun o=>h (o.wait i (by omega)).1)
  simp (disch:=first | assumption | omega) only [go_sem]
  have go:(0 < (i:Int)->¬n.wait.getD i 0<=n.wait.getD (i - 1) 0)->J 0 (lE n ((i:Int)+1))=some (.bool (eg n),[.undef]):=fun hb=>next (by omega) fun k hk=>by
   by_cases e:k=i
   ·subst e; exact ⟨ha,hb⟩
   ·exact inv k (by omega)
  refine bK (fun pj=>?_) (fun hz=>?_)
  ·have e1:((i:Int) - 1).toNat=i - 1:=by omega
   simp (disch:=first | assumption | omega) only [go_sem,e1]
   exact bK (fun h=>dW fun o=>(o.wait i (by omega)).2 pj h) (fun h=>go fun _=>h)
  ·exact go fun h=>absurd h hz
 ·have yes:(aY n.cE).2.2=true->me (aY n.cE).1 n.mt=true->rW n:=fun a b=>⟨h1,h2,h3,h4.conn,h4.sync,fun k hk=>(h4.link k (by omega)).1,h4.bU,h7,h8,a,b,fun k hk=>(h4.link k hk).2,fun k hk=>inv k (by omega)⟩
  simp (disch:=first | assumption | omega) only [go_sem]
  refine gv (fun h9=>?_) (fun h=>dW fun o=>h o.slot);simp (disch:=first | assumption | omega) only [go_sem]
  cases lT:me (aY n.cE).1 n.mt with
  | true=>exact Mg (yes h9 lT)
  | false=>exact dW fun o=>by have:=o.same; rw [lT] at this; simp at this
@[go_sem] theorem adB (uk:Int) (um:Bool) (uo:Bool) (xQ:Nat) (mC:List Int) (uq:Nat) (jq:List Int) (ur:Nat) (jr:List (List Int)) (lF:Bool) (lG:Bool) (lH:Bool) (lI:Int) (uw:Nat) (js:List UInt8) (uy:Nat) (jt:List UInt8) (C3:Nat) (qS:List Bool) (C4:Nat) (qT:List (List Int)) (C5:Nat) (qU:List Bool) (C6:Nat) (qV:List Int) (e0:xQ=mC.length) (e1:uq=jq.length) (e2:ur=jr.length) (e3:uw=js.length) (e4:uy=jt.length) (e5:C3=qS.length) (e6:C4=qT.length) (e7:C5=qU.length) (e8:C6=qV.length) (q0:cz (⟨uk,um,uo,mC,(⟨jq,jr,lF,lG,lH,lI⟩:bn),(⟨js,jt⟩:bf),qS,qT,qU,qV⟩:ae)) (t:bO Rz):aX 69 [.agg [.int .i64 uk,.bool um,.bool uo,.sl (some true) 1 xQ (ints mC),.sl (some true) 1 uq (ints jq),.sl (some true) 1 ur (rows (some true) jr),.bool lF,.bool lG,.bool lH,.int .i64 lI,.sl (some true) 1 uw (bytes js),.sl (some true) 1 uy (bytes jt),.sl (some true) 1 C3 (bB qS),.sl (some true) 1 C4 (rows (some true) qT),.sl (some true) 1 C5 (bB qU),.sl (some true) 1 C6 (ints qV)]] t=feed t [.bool (eg (⟨uk,um,uo,mC,(⟨jq,jr,lF,lG,lH,lI⟩:bn),(⟨js,jt⟩:bf),qS,qT,qU,qV⟩:ae))]:=by
 subst e0;subst e1;subst e2;subst e3;subst e4;subst e5;subst e6;subst e7;subst e8;exact bN (r:=.bool (eg (⟨uk,um,uo,mC,(⟨jq,jr,lF,lG,lH,lI⟩:bn),(⟨js,jt⟩:bf),qS,qT,qU,qV⟩:ae))) (s:=.bool) (ss:=[.undef]) (A9 (⟨uk,um,uo,mC,(⟨jq,jr,lF,lG,lH,lI⟩:bn),(⟨js,jt⟩:bf),qS,qT,qU,qV⟩:ae) q0) (by kernel_rfl) (by simp only [av,bw,aU,bz,bA,af,aj,tC]) (by simp only [af,aJ,av,aj,tC]) (by first | rfl | simp only [au,aS,aR,bq,bt,aT,bu,tC]) (by first | rfl | simp only [UL,aab,au,tC]) t
theorem Tb {n:ae} (h:rW n) (hp:n.cQ=true):0<=mc n.id/\mc n.id<=1:=by
 have h1:=h.id;have h2:=(h.cQ hp).2;unfold mc;split<;>omega
noncomputable def mK (n:ae):Bool:=eg n&&(n.cQ&&(n.conn.getD (mc n.id).toNat false||n.mt.held))
theorem IP (n:ae) (q0:cz n):Cm 294 [.agg (U (some true) n)] (.bool (mK n),[.undef]):=by
 refine Cm.step IK _ fun J hJ=>?_;rw [IL];unfold mK;simp (disch:=first | assumption | omega) only [go_sem]
 refine gv (fun h1=>?_) (fun h=>by rw [eq_false_of_ne_true h]; rfl)
 rw [h1];simp (disch:=first | assumption | omega) only [go_sem]
 refine gv (fun h2=>?_) (fun h=>by rw [eq_false_of_ne_true h]; rfl)
 have ok:=fL h1;have m:=Tb ok h2;have c:=ok.conn;rw [h2];simp (disch:=first | assumption | omega) only [go_sem]
 refine gv (fun h3=>?_) (fun h3=>?_)
 ·rw [h3]; rfl
 ·rw [eq_false_of_ne_true h3]; rfl
theorem IQ (n:ae) (q0:cz n):Cm 259 [.agg (U (some true) n)] (.bool (mK n),[.undef]):=by
 refine Cm.step IM _ fun J hJ=>?_;rw [IN];unfold mK;simp (disch:=first | assumption | omega) only [go_sem]
 refine gv (fun h1=>?_) (fun h=>by rw [eq_false_of_ne_true h]; rfl)
 rw [h1];simp (disch:=first | assumption | omega) only [go_sem]
 refine gv (fun h2=>?_) (fun h=>by rw [eq_false_of_ne_true h]; rfl)
 have ok:=fL h1;have m:=Tb ok h2;have c:=ok.conn;rw [h2];simp (disch:=first | assumption | omega) only [go_sem]
 refine gv (fun h3=>?_) (fun h3=>?_)
 ·rw [h3]; rfl
 ·rw [eq_false_of_ne_true h3]; rfl
set_option maxRecDepth 100000
section
variable {a b:Bool} {o:List D} {X:Option Rz}
theorem jb (h:a=true->X=some (.bool b,o)):br a X (some (.bool false,o))=some (.bool (a&&b),o):=by cases a with | true=>exact h rfl | false=>rfl
theorem oS (h:a=false->X=some (.bool b,o)):br a (some (.bool false,o)) X=some (.bool (!a&&b),o):=by cases a with | true=>rfl | false=>exact h rfl
theorem afZ (h:a=false->X=some (.bool b,o)):br a (some (.bool true,o)) X=some (.bool (a||b),o):=by cases a with | true=>rfl | false=>exact h rfl
end
def DP (g:Option Bool) (x:bn):List D:=cL g x
@[go_sem] theorem akl (g:Option Bool) (Xm:Nat) (xa:List Int) (Mi:Nat) (xb:List (List Int)) (xf:Bool) (xo:Bool) (xh:Bool) (xl:Int) (xa1:Xm=xa.length) (Xn:Mi=xb.length):D.agg [.sl g 1 Xm (ints xa),.sl g 1 Mi (rows g xb),.bool xf,.bool xo,.bool xh,.int .i64 xl]=.agg (DP g ⟨xa,xb,xf,xo,xh,xl⟩):=by
 subst xa1;subst Xn;rfl
@[go_sem] theorem akm (x:bn):cI true (DP none x)=DP (some true) x:=by
 unfold DP
 first | rfl | simp only [go_sem,fC,cI,fJ,iy,gB,jJ]
def uz (g:Option Bool) (x:bf):List D:=eH g x
@[go_sem] theorem ajI (g:Option Bool) (Xm:Nat) (xa:List UInt8) (Mi:Nat) (xb:List UInt8) (xa1:Xm=xa.length) (Xn:Mi=xb.length):D.agg [.sl g 1 Xm (bytes xa),.sl g 1 Mi (bytes xb)]=.agg (uz g ⟨xa,xb⟩):=by
 subst xa1;subst Xn;rfl
@[go_sem] theorem ajJ (x:bf):cI true (uz none x)=uz (some true) x:=by
 unfold uz
 first | rfl | simp only [go_sem,fC,cI,fJ,iy,gB,jJ]
def gj (g:Option Bool) (x:ae):List D:=U g x
@[go_sem] theorem akn (g:Option Bool) (xi:Int) (xu:Bool) (xp:Bool) (af1:Nat) (xim:List Int) (af3:Nat) (xma:List Int) (af5:Nat) (xmb:List (List Int)) (xmf:Bool) (xmo:Bool) (xmh:Bool) (xml:Int) (af7:Nat) (xsa:List UInt8) (af9:Nat) (xsb:List UInt8) (xc0:Nat) (xc:List Bool) (xy0:Nat) (xy:List (List Int)) (xk0:Nat) (xk:List Bool) (Mj:Nat) (xw:List Int) (ajK:af1=xim.length) (ajL:af3=xma.length) (ajM:af5=xmb.length) (ajN:af7=xsa.length) (ajO:af9=xsb.length) (xc1:xc0=xc.length) (xy1:xy0=xy.length) (xk1:xk0=xk.length) (Xp:Mj=xw.length):D.agg [.int .i64 xi,.bool xu,.bool xp,.sl g 1 af1 (ints xim),.sl g 1 af3 (ints xma),.sl g 1 af5 (rows g xmb),.bool xmf,.bool xmo,.bool xmh,.int .i64 xml,.sl g 1 af7 (bytes xsa),.sl g 1 af9 (bytes xsb),.sl g 1 xc0 (bB xc),.sl g 1 xy0 (rows g xy),.sl g 1 xk0 (bB xk),.sl g 1 Mj (ints xw)]=.agg (gj g ⟨xi,xu,xp,xim,⟨xma,xmb,xmf,xmo,xmh,xml⟩,⟨xsa,xsb⟩,xc,xy,xk,xw⟩):=by
 subst ajK;subst ajL;subst ajM;subst ajN;subst ajO;subst xc1;subst xy1;subst xk1;subst Xp;rfl
@[go_sem] theorem ako (x:ae):cI true (gj none x)=gj (some true) x:=by
 unfold gj
 first | rfl | simp only [go_sem,fC,cI,fJ,iy,gB,jJ]
def ahn (g:Option Bool) (x:dn):List D:=aB g x
@[go_sem] theorem akp (g:Option Bool) (xf:Int) (xt:Int) (Mi:Nat) (xb:List UInt8) (Xn:Mi=xb.length):D.agg [.int .i64 xf,.int .i64 xt,.sl g 1 Mi (bytes xb)]=.agg (ahn g ⟨xf,xt,xb⟩):=by
 subst Xn;rfl
def fj (g:Option Bool) (x:ak):List D:=bM g x
@[go_sem] theorem ajP (g:Option Bool) (Xq:Nat) (xn:List ae) (Mj:Nat) (xw:List dn) (Xr:Nat) (xl:List fe) (Mk:Nat) (xs:List Int) (xg:Int) (xn1:Xq=xn.length) (Xp:Mj=xw.length) (xl1:Xr=xl.length) (xs1:Mk=xs.length):D.agg [.sl g 16 Xq (ab (U g) xn),.sl g 3 Mj (ab (aB g) xw),.sl g 2 Xr (ab (bj g) xl),.sl g 1 Mk (ints xs),.int .i64 xg]=.agg (fj g ⟨xn,xw,xl,xs,xg⟩):=by
 subst xn1;subst Xp;subst xl1;subst xs1;rfl
@[go_sem] theorem ajQ (g:Option Bool) (Xq:Nat) (xn:List ae) (Mj:Nat) (xw:List dn) (Xr:Nat) (xl:List fe) (Mk:Nat) (xs:List Int) (xg:Int) (xn1:Xq=xn.length) (Xp:Mj=xw.length) (xl1:Xr=xl.length) (xs1:Mk=xs.length):D.aZ [.sl g 16 Xq (ab (U g) xn),.sl g 3 Mj (ab (aB g) xw),.sl g 2 Xr (ab (bj g) xl),.sl g 1 Mk (ints xs),.int .i64 xg]=.aZ (fj g ⟨xn,xw,xl,xs,xg⟩):=by
 subst xn1;subst Xp;subst xl1;subst xs1;rfl
def ajR (g:Option Bool) (x:wb):List D:=JE g x
@[go_sem] theorem amq (g:Option Bool) (xk:Int) (xc:Int) (xv:Int) (xw:Int) (xg0:Nat) (xg:List Int) (xg1:xg0=xg.length):D.agg [.int .i64 xk,.int .i64 xc,.int .i64 xv,.int .i64 xw,.sl g 1 xg0 (ints xg)]=.agg (ajR g ⟨xk,xc,xv,xw,xg⟩):=by
 subst xg1;rfl
def aho (g:Option Bool) (x:z7):List D:=DC g x
@[go_sem] theorem akq (g:Option Bool) (xf:Int) (xt:Int) (xmk:Int) (xmc:Int) (xmv:Int) (xmw:Int) (age:Nat) (xmg:List Int) (ajS:age=xmg.length):D.agg [.int .i64 xf,.int .i64 xt,.int .i64 xmk,.int .i64 xmc,.int .i64 xmv,.int .i64 xmw,.sl g 1 age (ints xmg)]=.agg (aho g ⟨xf,xt,⟨xmk,xmc,xmv,xmw,xmg⟩⟩):=by
 subst ajS;rfl
def Oy (g:Option Bool) (x:rD):List D:=DD g x
@[go_sem] theorem akr (g:Option Bool) (xk:Int) (xa:Int) (xb:Int):D.agg [.int .i64 xk,.int .i64 xa,.int .i64 xb]=.agg (Oy g ⟨xk,xa,xb⟩):=by
 rfl
@[go_sem] theorem aks (x:rD):cI true (Oy none x)=Oy (some true) x:=by
 unfold Oy
 first | rfl | simp only [go_sem,fC,cI,fJ,iy,gB,jJ]
section
variable (t:bO Rz)
@[go_sem] theorem ajT (g:Bool) (n:ae) (h:cz n):aX 17 [.agg (gj (some g) n)] t=feed t [enc .node n]:=Qz t g n h
@[go_sem] theorem ajU (g h:Bool) (n:ae) (ok:cz n):aX 20 [.agg (gj (some g) n),.agg (gj (some h) n)] t=feed t [.bool true]:=QA t g h n ok
@[go_sem] theorem ajV (g:Bool) (n:ae) (left:Int) (h0:0<=left) (h1:left<=1048576) (ln:wv n):aX 15 [.agg (gj (some g) n),.int .i64 left] t=feed t [.int .i64 (eE n left)]:=FR t g n left h0 h1 ln
@[go_sem] theorem aiB (g:Bool) (w:ak) (h:cd w):aX 36 [.agg (fj (some g) w)] t=feed t [enc .world w]:=W9 t g w h
@[go_sem] theorem aiC (g h:Bool) (w:ak) (ok:cd w):aX 38 [.agg (fj (some g) w),.agg (fj (some h) w)] t=feed t [.bool true]:=Xa t g h w ok
@[go_sem] theorem aiD (g:Bool) (w:ak) (left:Int) (h0:0<=left) (h1:left<=1048576) (ln:zh w):aX 34 [.agg (fj (some g) w),.int .i64 left] t=feed t [.int .i64 (lQ w left)]:=Xb t g w left h0 h1 ln
end
set_option maxRecDepth 100000
section
variable (pr:dC) (cv:Cv Rz) (J:Nat->St->Option Rz)
theorem NY:Told cfg Tryz.prog 187 Tryz.f187:=⟨by kernel_rfl,Tryz.func187,by kernel_rfl⟩
theorem NZ (x0:ae) (x1:ae):aW pr cv J 187 Tryz.f187 [(.agg (U (some true) x0)),(.agg (U (some true) x1))]=
 let y1:Option (D × List D):=(some ((.bool false),[.undef,.undef]))
 (cv 76 [(.agg (U (some true) x0))] (.bool (fun bH=>(.done (br bH (cv 76 [(.agg (U (some true) x1))] (.bool (fun eQ=>(.done (br eQ (br (br (pr.eq x0.id 2) false true) (cv 111 [(.int .i64 x0.id)] (.int (fun uK=>(.done (some ((.bool (pr.eq x1.id uK)),[.undef,.undef])))))) y1) y1))))) y1))))):=by kernel_rfl
theorem KN:Told cfg Tryz.prog 185 Tryz.f185:=⟨by kernel_rfl,Tryz.func185,by kernel_rfl⟩
theorem KO (x0:ae) (x1:ae):aW pr cv J 185 Tryz.f185 [(.agg (U (some true) x0)),(.agg (U (some true) x1))]=
 let y1:Option (D × List D):=(some ((.bool false),[.undef,.undef]))
 (cv 69 [(.agg (U (some true) x0))] (.bool (fun bH=>(.done (br bH (cv 69 [(.agg (U (some true) x1))] (.bool (fun eQ=>(.done (br eQ (cv 109 [(.int .i64 x0.id)] (.int (fun uK=>(.done (some ((.bool (pr.eq uK x1.id)),[.undef,.undef])))))) y1))))) y1))))):=by kernel_rfl
theorem KP:Told cfg Tryz.prog 104 Tryz.f104:=⟨by kernel_rfl,Tryz.func104,by kernel_rfl⟩
theorem KQ (x0:ae) (x1:ae):aW pr cv J 104 Tryz.f104 [(.agg (U (some true) x0)),(.agg (U (some true) x1))]=
 let y1:Option (D × List D):=(some ((.bool false),[.undef,.undef]))
 (cv 187 [(.agg (U (some true) x0)),(.agg (U (some true) x1))] (.bool (fun bH=>(.done (br bH (br x0.up (br x0.mt.dk (br (br x0.mt.bY false true) (br (br x0.mt.held false true) (br (pr.bm x1.id x0.conn.length) (br (br (pr.bW (bB x0.conn) (pr.idx 0 x1.id 1)) true false) (br (br (pr.bC (bB x0.conn) (pr.idx 0 x1.id 1)) false true) (some ((.bool (br x1.cQ false true)),[.undef,.undef])) y1) none) none) y1) y1) y1) y1) y1))))):=by kernel_rfl
theorem KR:Told cfg Tryz.prog 101 Tryz.f101:=⟨by kernel_rfl,Tryz.func101,by kernel_rfl⟩
theorem KS (x0:ae) (x1:ae):aW pr cv J 101 Tryz.f101 [(.agg (U (some true) x0)),(.agg (U (some true) x1))]=
 let y1:Option (D × List D):=(some ((.bool false),[.undef,.undef]))
 (cv 185 [(.agg (U (some true) x0)),(.agg (U (some true) x1))] (.bool (fun bH=>(.done (br bH (br x0.up (br x0.mt.dk (br (br x0.mt.bY false true) (br (br x0.mt.held false true) (br (pr.bm x1.id x0.conn.length) (br (br (pr.bW (bB x0.conn) (pr.idx 0 x1.id 1)) true false) (br (br (pr.bC (bB x0.conn) (pr.idx 0 x1.id 1)) false true) (some ((.bool (br x1.cQ false true)),[.undef,.undef])) y1) none) none) y1) y1) y1) y1) y1))))):=by kernel_rfl
theorem KT:Told cfg Tryz.prog 328 Tryz.f328:=⟨by kernel_rfl,Tryz.func328,by kernel_rfl⟩
theorem KU (x0:ae) (x1:ae) (x2:Bool):aW pr cv J 328 Tryz.f328 [(.agg (U (some true) x0)),(.agg (U (some true) x1)),(.bool x2)]=
 let y1:Option (D × List D):=(some ((.bool false),[.undef,.undef,.undef]))
 (cv 187 [(.agg (U (some true) x0)),(.agg (U (some true) x1))] (.bool (fun bH=>(.done (br (br bH false true) y1 (br (br x0.up false true) y1 (br (br x0.mt.dk false true) y1 (br x0.mt.bY y1 (br x0.cQ y1 (br x0.mt.held (some ((.bool true),[.undef,.undef,.undef])) (br (pr.bm x1.id x0.conn.length) (br (br (pr.bW (bB x0.conn) (pr.idx 0 x1.id 1)) true false) (br (pr.bC (bB x0.conn) (pr.idx 0 x1.id 1)) (br (pr.bm x0.id x1.conn.length) (br (br (pr.bW (bB x1.conn) (pr.idx 0 x0.id 1)) true false) (br (pr.bC (bB x1.conn) (pr.idx 0 x0.id 1)) (br (pr.bm x1.id x0.bU.length) (br (br (pr.bW (bB x0.bU) (pr.idx 0 x1.id 1)) true false) (br (br (pr.bC (bB x0.bU) (pr.idx 0 x1.id 1)) false true) (br (pr.bm x0.id x1.bU.length) (br (br (pr.bW (bB x1.bU) (pr.idx 0 x0.id 1)) true false) (br (br (pr.bC (bB x1.bU) (pr.idx 0 x0.id 1)) false true) (br (br x1.cQ false true) (br (pr.eq x0.mt.last x1.mt.last) (some ((.bool x2),[.undef,.undef,.undef])) y1) y1) y1) none) none) y1) none) none) y1) none) none) y1) none) none))))))))))):=by kernel_rfl
theorem KV:Told cfg Tryz.prog 293 Tryz.f293:=⟨by kernel_rfl,Tryz.func293,by kernel_rfl⟩
theorem KW (x0:ae) (x1:ae) (x2:Bool):aW pr cv J 293 Tryz.f293 [(.agg (U (some true) x0)),(.agg (U (some true) x1)),(.bool x2)]=
 let y1:Option (D × List D):=(some ((.bool false),[.undef,.undef,.undef]))
 (cv 185 [(.agg (U (some true) x0)),(.agg (U (some true) x1))] (.bool (fun bH=>(.done (br (br bH false true) y1 (br (br x0.up false true) y1 (br (br x0.mt.dk false true) y1 (br x0.mt.bY y1 (br x0.cQ y1 (br x0.mt.held (some ((.bool true),[.undef,.undef,.undef])) (br (pr.bm x1.id x0.conn.length) (br (br (pr.bW (bB x0.conn) (pr.idx 0 x1.id 1)) true false) (br (pr.bC (bB x0.conn) (pr.idx 0 x1.id 1)) (br (pr.bm x0.id x1.conn.length) (br (br (pr.bW (bB x1.conn) (pr.idx 0 x0.id 1)) true false) (br (pr.bC (bB x1.conn) (pr.idx 0 x0.id 1)) (br (pr.bm x1.id x0.bU.length) (br (br (pr.bW (bB x0.bU) (pr.idx 0 x1.id 1)) true false) (br (br (pr.bC (bB x0.bU) (pr.idx 0 x1.id 1)) false true) (br (pr.bm x0.id x1.bU.length) (br (br (pr.bW (bB x1.bU) (pr.idx 0 x0.id 1)) true false) (br (br (pr.bC (bB x1.bU) (pr.idx 0 x0.id 1)) false true) (br (br x1.cQ false true) (br (pr.eq x0.mt.last x1.mt.last) (some ((.bool x2),[.undef,.undef,.undef])) y1) y1) y1) none) none) y1) none) none) y1) none) none) y1) none) none))))))))))):=by kernel_rfl
end
@[go_sem] theorem adC (n:ae) (q0:cz n) (t:bO Rz):aX 76 [.agg (gj (some true) n)] t=feed t [.bool (eg n)]:=by
 exact bN (r:=.bool (eg n)) (s:=.bool) (ss:=[.undef]) (A8 n q0) (by kernel_rfl) (by simp only [av,bw,aU,bz,bA,af,aj,tC]) (by simp only [af,aJ,av,aj,tC]) (by first | rfl | simp only [au,aS,aR,bq,bt,aT,bu,tC]) (by first | rfl | simp only [UL,aab,au,tC]) t
@[go_sem] theorem adD (n:ae) (q0:cz n) (t:bO Rz):aX 69 [.agg (gj (some true) n)] t=feed t [.bool (eg n)]:=by
 exact bN (r:=.bool (eg n)) (s:=.bool) (ss:=[.undef]) (A9 n q0) (by kernel_rfl) (by simp only [av,bw,aU,bz,bA,af,aj,tC]) (by simp only [af,aJ,av,aj,tC]) (by first | rfl | simp only [au,aS,aR,bq,bt,aT,bu,tC]) (by first | rfl | simp only [UL,aab,au,tC]) t
@[go_sem] theorem ac8 (s:bf) (q0:fU s) (t:bO Rz):aX 170 [.agg (uz (some true) s)] t=feed t [enc .mt ((aY s).1),.int .i64 ((aY s).2.1),.bool ((aY s).2.2)]:=by
 exact bN (r:=.aM [enc .mt ((aY s).1),.int .i64 ((aY s).2.1),.bool ((aY s).2.2)]) (s:=.aM [.ty .mt,.int .i64,.bool]) (ss:=[.undef]) (zq s q0) (by kernel_rfl) (by simp only [av,bw,aU,bz,bA,af,aj,tC]) (by simp only [af,aJ,av,aj,tC]) (by first | rfl | simp only [au,aS,aR,bq,bt,aT,bu,tC]) (by first | rfl | simp only [UL,aab,au,tC]) t
@[go_sem] theorem ac9 (s:bf) (q0:fU s) (t:bO Rz):aX 163 [.agg (uz (some true) s)] t=feed t [enc .mt ((aY s).1),.int .i64 ((aY s).2.1),.bool ((aY s).2.2)]:=by
 exact bN (r:=.aM [enc .mt ((aY s).1),.int .i64 ((aY s).2.1),.bool ((aY s).2.2)]) (s:=.aM [.ty .mt,.int .i64,.bool]) (ss:=[.undef]) (zr s q0) (by kernel_rfl) (by simp only [av,bw,aU,bz,bA,af,aj,tC]) (by simp only [af,aJ,av,aj,tC]) (by first | rfl | simp only [au,aS,aR,bq,bt,aT,bu,tC]) (by first | rfl | simp only [UL,aab,au,tC]) t
@[go_sem] theorem adE (s:bf) (q0:fU s) (t:bO Rz):aX 240 [.agg (uz (some true) s)] t=feed t [enc .mt ((((aY s).1,(aY s).2.1,pF s)).1),.int .i64 ((((aY s).1,(aY s).2.1,pF s)).2.1),.bool ((((aY s).1,(aY s).2.1,pF s)).2.2)]:=by
 exact bN (r:=.aM [enc .mt ((((aY s).1,(aY s).2.1,pF s)).1),.int .i64 ((((aY s).1,(aY s).2.1,pF s)).2.1),.bool ((((aY s).1,(aY s).2.1,pF s)).2.2)]) (s:=.aM [.ty .mt,.int .i64,.bool]) (ss:=[.undef]) (A7 s q0) (by kernel_rfl) (by simp only [av,bw,aU,bz,bA,af,aj,tC]) (by simp only [af,aJ,av,aj,tC]) (by first | rfl | simp only [au,aS,aR,bq,bt,aT,bu,tC]) (by first | rfl | simp only [UL,aab,au,tC]) t
@[go_sem] theorem ada (s:bf) (q0:fU s) (t:bO Rz):aX 234 [.agg (uz (some true) s)] t=feed t [.int .i64 (uj s)]:=by
 exact bN (r:=.int .i64 (uj s)) (s:=.int .i64) (ss:=[.undef]) (zp s q0) (by kernel_rfl) (by simp only [av,bw,aU,bz,bA,af,aj,tC]) (by simp only [af,aJ,av,aj,tC]) (by first | rfl | simp only [au,aS,aR,bq,bt,aT,bu,tC]) (by first | rfl | simp only [UL,aab,au,tC]) t
@[go_sem] theorem ZR (m:bn) (n:Nat) (q0:dt m) (q1:(cP m).length<=151) (q2:n < 4611686018427387904) (t:bO Rz):aX 285 [.agg (DP (some true) m),.int .i64 (n:Int)] t=feed t [enc .B (nX m n)]:=by
 exact bN (r:=enc .B (nX m n)) (s:=.ty .B) (ss:=[.undef,.undef]) (wS m n q0 q1 q2) (by kernel_rfl) (by simp only [av,bw,aU,bz,bA,af,aj,tC]) (by simp only [af,aJ,av,aj,tC]) (by first | rfl | simp only [au,aS,aR,bq,bt,aT,bu,tC]) (by first | rfl | simp only [UL,aab,au,tC]) t
@[go_sem] theorem adF (m:bn) (n:Nat) (q0:dt m) (q1:(cP m).length<=151) (q2:n < 4611686018427387904) (t:bO Rz):aX 243 [.agg (DP (some true) m),.int .i64 (n:Int)] t=feed t [enc .B (nX m n)]:=by
 exact bN (r:=enc .B (nX m n)) (s:=.ty .B) (ss:=[.undef,.undef]) (A6 m n q0 q1 q2) (by kernel_rfl) (by simp only [av,bw,aU,bz,bA,af,aj,tC]) (by simp only [af,aJ,av,aj,tC]) (by first | rfl | simp only [au,aS,aR,bq,bt,aT,bu,tC]) (by first | rfl | simp only [UL,aab,au,tC]) t
@[go_sem] theorem aaW (n:ae) (q0:cz n) (t:bO Rz):aX 294 [.agg (gj (some true) n)] t=feed t [.bool (mK n)]:=by
 exact bN (r:=.bool (mK n)) (s:=.bool) (ss:=[.undef]) (IP n q0) (by kernel_rfl) (by simp only [av,bw,aU,bz,bA,af,aj,tC]) (by simp only [af,aJ,av,aj,tC]) (by first | rfl | simp only [au,aS,aR,bq,bt,aT,bu,tC]) (by first | rfl | simp only [UL,aab,au,tC]) t
@[go_sem] theorem aaX (n:ae) (q0:cz n) (t:bO Rz):aX 259 [.agg (gj (some true) n)] t=feed t [.bool (mK n)]:=by
 exact bN (r:=.bool (mK n)) (s:=.bool) (ss:=[.undef]) (IQ n q0) (by kernel_rfl) (by simp only [av,bw,aU,bz,bA,af,aj,tC]) (by simp only [af,aJ,av,aj,tC]) (by first | rfl | simp only [au,aS,aR,bq,bt,aT,bu,tC]) (by first | rfl | simp only [UL,aab,au,tC]) t
noncomputable def qc (x y:ae):Bool:=eg x&&(eg y&&(!decide (x.id=2)&&decide (y.id=mc x.id)))
structure ajW (x y:ae):Prop where
 ox:rW x
 oy:rW y
 xl:0<=x.id
 xh:x.id<=1
 yl:0<=y.id
 yh:y.id<=1
 aoU:y.id=mc x.id
theorem DQ {x y:ae} (h:qc x y=true):ajW x y:=by
 unfold qc at h;simp only [Bh,abb,decide_eq_true_eq,decide_eq_false_iff_not] at h;obtain ⟨h1,h2,h3,h4⟩:=h;have k1:=fL h1;have k2:=fL h2;have i1:=k1.id;have i2:=k2.id;have h5:=h4;unfold mc at h5;exact ⟨k1,k2,i1.1,by omega,i2.1,by split at h5<;>omega,h4⟩
theorem N0 (x:ae) (y:ae) (q0:cz x) (q1:cz y):Cm 187 [.agg (U (some true) x),.agg (U (some true) y)] (.bool (qc x y),[.undef,.undef]):=by
 refine Cm.step NY _ fun J _=>?_;rw [NZ];unfold qc;simp (disch:=first | assumption | omega) only [go_sem]
 refine jb fun h1=>?_;simp (disch:=first | assumption | omega) only [go_sem]
 refine jb fun h2=>?_;simp (disch:=first | assumption | omega) only [go_sem]
 refine oS fun h3=>?_;simp (disch:=first | assumption | omega) only [go_sem]
@[go_sem] theorem adG (x:ae) (y:ae) (q0:cz x) (q1:cz y) (t:bO Rz):aX 187 [.agg (gj (some true) x),.agg (gj (some true) y)] t=feed t [.bool (qc x y)]:=by
 exact bN (r:=.bool (qc x y)) (s:=.bool) (ss:=[.undef,.undef]) (N0 x y q0 q1) (by kernel_rfl) (by simp only [av,bw,aU,bz,bA,af,aj,tC]) (by simp only [af,aJ,av,aj,tC]) (by first | rfl | simp only [au,aS,aR,bq,bt,aT,bu,tC]) (by first | rfl | simp only [UL,aab,au,tC]) t
theorem KX (x:ae) (y:ae) (q0:cz x) (q1:cz y):Cm 185 [.agg (U (some true) x),.agg (U (some true) y)] (.bool (qc x y),[.undef,.undef]):=by
 refine Cm.step KN _ fun J _=>?_;rw [KO];unfold qc;simp (disch:=first | assumption | omega) only [go_sem]
 refine jb fun h1=>?_;simp (disch:=first | assumption | omega) only [go_sem]
 refine jb fun h2=>?_;simp (disch:=first | assumption | omega) only [go_sem]
 have i1:=(fL h1).id;have i2:=(fL h2).id;unfold mc;by_cases h:x.id=2
 ·rw [h]; simp; omega
 ·simp [h,eq_comm]
@[go_sem] theorem adb (x:ae) (y:ae) (q0:cz x) (q1:cz y) (t:bO Rz):aX 185 [.agg (gj (some true) x),.agg (gj (some true) y)] t=feed t [.bool (qc x y)]:=by
 exact bN (r:=.bool (qc x y)) (s:=.bool) (ss:=[.undef,.undef]) (KX x y q0 q1) (by kernel_rfl) (by simp only [av,bw,aU,bz,bA,af,aj,tC]) (by simp only [af,aJ,av,aj,tC]) (by first | rfl | simp only [au,aS,aR,bq,bt,aT,bu,tC]) (by first | rfl | simp only [UL,aab,au,tC]) t
noncomputable def oT (x y:ae):Bool:=qc x y&&(x.up&&(x.mt.dk&&(!x.mt.bY&&(!x.mt.held&&(!x.conn.getD y.id.toNat false&&!y.cQ)))))
theorem KY (x:ae) (y:ae) (q0:cz x) (q1:cz y):Cm 104 [.agg (U (some true) x),.agg (U (some true) y)] (.bool (oT x y),[.undef,.undef]):=by
 refine Cm.step KP _ fun J _=>?_;rw [KQ];unfold oT;simp (disch:=first | assumption | omega) only [go_sem]
 refine jb fun h1=>?_
 try simp (disch:=first | assumption | omega) only [go_sem]
 have p:=DQ h1;have:=p.xl; have:=p.xh; have:=p.yl; have:=p.yh; have:=p.ox.conn;simp (disch:=first | assumption | omega) only [go_sem]
 refine jb fun _=>?_
 try simp (disch:=first | assumption | omega) only [go_sem]
 refine jb fun _=>?_
 try simp (disch:=first | assumption | omega) only [go_sem]
 refine oS fun _=>?_
 try simp (disch:=first | assumption | omega) only [go_sem]
 refine oS fun _=>?_
 try simp (disch:=first | assumption | omega) only [go_sem]
 exact oS fun _=>rfl
@[go_sem] theorem ade (x:ae) (y:ae) (q0:cz x) (q1:cz y) (t:bO Rz):aX 104 [.agg (gj (some true) x),.agg (gj (some true) y)] t=feed t [.bool (oT x y)]:=by
 exact bN (r:=.bool (oT x y)) (s:=.bool) (ss:=[.undef,.undef]) (KY x y q0 q1) (by kernel_rfl) (by simp only [av,bw,aU,bz,bA,af,aj,tC]) (by simp only [af,aJ,av,aj,tC]) (by first | rfl | simp only [au,aS,aR,bq,bt,aT,bu,tC]) (by first | rfl | simp only [UL,aab,au,tC]) t
theorem KZ (x:ae) (y:ae) (q0:cz x) (q1:cz y):Cm 101 [.agg (U (some true) x),.agg (U (some true) y)] (.bool (oT x y),[.undef,.undef]):=by
 refine Cm.step KR _ fun J _=>?_;rw [KS];unfold oT;simp (disch:=first | assumption | omega) only [go_sem]
 refine jb fun h1=>?_
 try simp (disch:=first | assumption | omega) only [go_sem]
 have p:=DQ h1;have:=p.xl; have:=p.xh; have:=p.yl; have:=p.yh; have:=p.ox.conn;simp (disch:=first | assumption | omega) only [go_sem]
 refine jb fun _=>?_
 try simp (disch:=first | assumption | omega) only [go_sem]
 refine jb fun _=>?_
 try simp (disch:=first | assumption | omega) only [go_sem]
 refine oS fun _=>?_
 try simp (disch:=first | assumption | omega) only [go_sem]
 refine oS fun _=>?_
 try simp (disch:=first | assumption | omega) only [go_sem]
 exact oS fun _=>rfl
@[go_sem] theorem adf (x:ae) (y:ae) (q0:cz x) (q1:cz y) (t:bO Rz):aX 101 [.agg (gj (some true) x),.agg (gj (some true) y)] t=feed t [.bool (oT x y)]:=by
 exact bN (r:=.bool (oT x y)) (s:=.bool) (ss:=[.undef,.undef]) (KZ x y q0 q1) (by kernel_rfl) (by simp only [av,bw,aU,bz,bA,af,aj,tC]) (by simp only [af,aJ,av,aj,tC]) (by first | rfl | simp only [au,aS,aR,bq,bt,aT,bu,tC]) (by first | rfl | simp only [UL,aab,au,tC]) t
noncomputable def oU (x y:ae) (q:Bool):Bool:=qc x y&&(x.up&&(x.mt.dk&&(!x.mt.bY&&(!x.cQ&&(x.mt.held||(x.conn.getD y.id.toNat false&&(y.conn.getD x.id.toNat false&&(!x.bU.getD y.id.toNat false&&(!y.bU.getD x.id.toNat false&&(!y.cQ&&(decide (x.mt.last=y.mt.last)&&q)))))))))))
theorem K0 (x:ae) (y:ae) (q:Bool) (q0:cz x) (q1:cz y):Cm 328 [.agg (U (some true) x),.agg (U (some true) y),.bool q] (.bool (oU x y q),[.undef,.undef,.undef]):=by
 refine Cm.step KT _ fun J _=>?_;rw [KU];unfold oU;simp (disch:=first | assumption | omega) only [go_sem]
 refine jb fun h1=>?_
 try simp (disch:=first | assumption | omega) only [go_sem]
 have p:=DQ h1;have:=p.xl; have:=p.xh; have:=p.yl; have:=p.yh; have:=p.ox.conn; have:=p.oy.conn; have:=p.ox.bU; have:=p.oy.bU;simp (disch:=first | assumption | omega) only [go_sem]
 refine jb fun _=>?_
 try simp (disch:=first | assumption | omega) only [go_sem]
 refine jb fun _=>?_
 try simp (disch:=first | assumption | omega) only [go_sem]
 refine oS fun _=>?_
 try simp (disch:=first | assumption | omega) only [go_sem]
 refine oS fun _=>?_
 try simp (disch:=first | assumption | omega) only [go_sem]
 refine afZ fun _=>?_
 try simp (disch:=first | assumption | omega) only [go_sem]
 refine jb fun _=>?_
 try simp (disch:=first | assumption | omega) only [go_sem]
 refine jb fun _=>?_
 try simp (disch:=first | assumption | omega) only [go_sem]
 refine oS fun _=>?_
 try simp (disch:=first | assumption | omega) only [go_sem]
 refine oS fun _=>?_
 try simp (disch:=first | assumption | omega) only [go_sem]
 refine oS fun _=>?_
 try simp (disch:=first | assumption | omega) only [go_sem]
 exact jb fun _=>rfl
@[go_sem] theorem adg (x:ae) (y:ae) (q:Bool) (q0:cz x) (q1:cz y) (t:bO Rz):aX 328 [.agg (gj (some true) x),.agg (gj (some true) y),.bool q] t=feed t [.bool (oU x y q)]:=by
 exact bN (r:=.bool (oU x y q)) (s:=.bool) (ss:=[.undef,.undef,.undef]) (K0 x y q q0 q1) (by kernel_rfl) (by simp only [av,bw,aU,bz,bA,af,aj,tC]) (by simp only [af,aJ,av,aj,tC]) (by first | rfl | simp only [au,aS,aR,bq,bt,aT,bu,tC]) (by first | rfl | simp only [UL,aab,au,tC]) t
theorem K1 (x:ae) (y:ae) (q:Bool) (q0:cz x) (q1:cz y):Cm 293 [.agg (U (some true) x),.agg (U (some true) y),.bool q] (.bool (oU x y q),[.undef,.undef,.undef]):=by
 refine Cm.step KV _ fun J _=>?_;rw [KW];unfold oU;simp (disch:=first | assumption | omega) only [go_sem]
 refine jb fun h1=>?_
 try simp (disch:=first | assumption | omega) only [go_sem]
 have p:=DQ h1;have:=p.xl; have:=p.xh; have:=p.yl; have:=p.yh; have:=p.ox.conn; have:=p.oy.conn; have:=p.ox.bU; have:=p.oy.bU;simp (disch:=first | assumption | omega) only [go_sem]
 refine jb fun _=>?_
 try simp (disch:=first | assumption | omega) only [go_sem]
 refine jb fun _=>?_
 try simp (disch:=first | assumption | omega) only [go_sem]
 refine oS fun _=>?_
 try simp (disch:=first | assumption | omega) only [go_sem]
 refine oS fun _=>?_
 try simp (disch:=first | assumption | omega) only [go_sem]
 refine afZ fun _=>?_
 try simp (disch:=first | assumption | omega) only [go_sem]
 refine jb fun _=>?_
 try simp (disch:=first | assumption | omega) only [go_sem]
 refine jb fun _=>?_
 try simp (disch:=first | assumption | omega) only [go_sem]
 refine oS fun _=>?_
 try simp (disch:=first | assumption | omega) only [go_sem]
 refine oS fun _=>?_
 try simp (disch:=first | assumption | omega) only [go_sem]
 refine oS fun _=>?_
 try simp (disch:=first | assumption | omega) only [go_sem]
 exact jb fun _=>rfl
@[go_sem] theorem adh (x:ae) (y:ae) (q:Bool) (q0:cz x) (q1:cz y) (t:bO Rz):aX 293 [.agg (gj (some true) x),.agg (gj (some true) y),.bool q] t=feed t [.bool (oU x y q)]:=by
 exact bN (r:=.bool (oU x y q)) (s:=.bool) (ss:=[.undef,.undef,.undef]) (K1 x y q q0 q1) (by kernel_rfl) (by simp only [av,bw,aU,bz,bA,af,aj,tC]) (by simp only [af,aJ,av,aj,tC]) (by first | rfl | simp only [au,aS,aR,bq,bt,aT,bu,tC]) (by first | rfl | simp only [UL,aab,au,tC]) t
set_option maxRecDepth 100000
attribute [go_sem] afF afG afH
def n0:ae:=⟨0,false,false,[],⟨[],[],false,false,false,0⟩,⟨[],[]⟩,[],[],[],[]⟩
def w0:dn:=⟨0,0,[]⟩
def r0:fe:=⟨0,0⟩
@[go_sem] theorem akt (i:Int):ad.idx 0 i 16=i.toNat*16:=by show (0+i.toNat)*16=_; omega
@[go_sem] theorem ams (i:Int):ad.idx 0 i 3=i.toNat*3:=by show (0+i.toNat)*3=_; omega
@[go_sem] theorem amt (i:Int):ad.idx 0 i 2=i.toNat*2:=by show (0+i.toNat)*2=_; omega
theorem dT {α:Type} {xs:List α} {i:Nat} {d:α} (h:i < xs.length):xs.getD i d=xs[i]:=by rw [abi,aaf h]; rfl
section
variable {g:Bool} {xs:List ae} {i:Nat} (h:i < xs.length)
include h
@[go_sem] theorem anE:ad.bR .i64 (ab (U (some g)) xs) (i*16)=true:=Hr h
@[go_sem] theorem anF:ad.aO (ab (U (some g)) xs) (i*16)=(xs.getD i n0).id:=(Ht (g:=g) h).trans (by rw [dT h])
@[go_sem] theorem anG:ad.bW (ab (U (some g)) xs) (i*16+1)=true:=Hu h
@[go_sem] theorem anH:ad.bC (ab (U (some g)) xs) (i*16+1)=(xs.getD i n0).up:=(Hv (g:=g) h).trans (by rw [dT h])
@[go_sem] theorem anI:ad.bW (ab (U (some g)) xs) (i*16+2)=true:=Hw h
@[go_sem] theorem anJ:ad.bC (ab (U (some g)) xs) (i*16+2)=(xs.getD i n0).cQ:=(Hy (g:=g) h).trans (by rw [dT h])
@[go_sem] theorem anK:ad.aN 1 (ab (U (some g)) xs) (i*16+3)=true:=Hz h
@[go_sem] theorem anL:ad.aG (ab (U (some g)) xs) (i*16+3)=g:=HA h
@[go_sem] theorem anM:ad.aD (ab (U (some g)) xs) (i*16+3)=(xs.getD i n0).image.length:=(HB (g:=g) h).trans (by rw [dT h])
@[go_sem] theorem anN:ad.aF (ab (U (some g)) xs) (i*16+3)=ints (xs.getD i n0).image:=(HC (g:=g) h).trans (by rw [dT h])
@[go_sem] theorem anO:ad.aN 1 (ab (U (some g)) xs) (i*16+4)=true:=HD h
@[go_sem] theorem anP:ad.aG (ab (U (some g)) xs) (i*16+4)=g:=HE h
@[go_sem] theorem anQ:ad.aD (ab (U (some g)) xs) (i*16+4)=(xs.getD i n0).mt.aP.length:=(HF (g:=g) h).trans (by rw [dT h])
@[go_sem] theorem anR:ad.aF (ab (U (some g)) xs) (i*16+4)=ints (xs.getD i n0).mt.aP:=(HG (g:=g) h).trans (by rw [dT h])
@[go_sem] theorem anS:ad.aN 1 (ab (U (some g)) xs) (i*16+5)=true:=HH h
@[go_sem] theorem anT:ad.aG (ab (U (some g)) xs) (i*16+5)=g:=HI h
@[go_sem] theorem anU:ad.aD (ab (U (some g)) xs) (i*16+5)=(xs.getD i n0).mt.bits.length:=(HJ (g:=g) h).trans (by rw [dT h])
@[go_sem] theorem anV:ad.aF (ab (U (some g)) xs) (i*16+5)=rows (some g) (xs.getD i n0).mt.bits:=(HK (g:=g) h).trans (by rw [dT h])
@[go_sem] theorem anW:ad.bW (ab (U (some g)) xs) (i*16+6)=true:=HL h
@[go_sem] theorem anX:ad.bC (ab (U (some g)) xs) (i*16+6)=(xs.getD i n0).mt.dk:=(HM (g:=g) h).trans (by rw [dT h])
@[go_sem] theorem anY:ad.bW (ab (U (some g)) xs) (i*16+7)=true:=HN h
@[go_sem] theorem anZ:ad.bC (ab (U (some g)) xs) (i*16+7)=(xs.getD i n0).mt.bY:=(HO (g:=g) h).trans (by rw [dT h])
@[go_sem] theorem an0:ad.bW (ab (U (some g)) xs) (i*16+8)=true:=HP h
@[go_sem] theorem an1:ad.bC (ab (U (some g)) xs) (i*16+8)=(xs.getD i n0).mt.held:=(HQ (g:=g) h).trans (by rw [dT h])
@[go_sem] theorem an2:ad.bR .i64 (ab (U (some g)) xs) (i*16+9)=true:=HR h
@[go_sem] theorem an3:ad.aO (ab (U (some g)) xs) (i*16+9)=(xs.getD i n0).mt.last:=(HS (g:=g) h).trans (by rw [dT h])
@[go_sem] theorem amu:ad.aN 1 (ab (U (some g)) xs) (i*16+10)=true:=Cj h
@[go_sem] theorem amv:ad.aG (ab (U (some g)) xs) (i*16+10)=g:=Ck h
@[go_sem] theorem amw:ad.aD (ab (U (some g)) xs) (i*16+10)=(xs.getD i n0).cE.a.length:=(Cl (g:=g) h).trans (by rw [dT h])
@[go_sem] theorem amx:ad.aF (ab (U (some g)) xs) (i*16+10)=bytes (xs.getD i n0).cE.a:=(Cn (g:=g) h).trans (by rw [dT h])
@[go_sem] theorem amy:ad.aN 1 (ab (U (some g)) xs) (i*16+11)=true:=Co h
@[go_sem] theorem amz:ad.aG (ab (U (some g)) xs) (i*16+11)=g:=Cp h
@[go_sem] theorem amA:ad.aD (ab (U (some g)) xs) (i*16+11)=(xs.getD i n0).cE.b.length:=(Cq (g:=g) h).trans (by rw [dT h])
@[go_sem] theorem amB:ad.aF (ab (U (some g)) xs) (i*16+11)=bytes (xs.getD i n0).cE.b:=(Cr (g:=g) h).trans (by rw [dT h])
@[go_sem] theorem amC:ad.aN 1 (ab (U (some g)) xs) (i*16+12)=true:=Cs h
@[go_sem] theorem amD:ad.aG (ab (U (some g)) xs) (i*16+12)=g:=Ct h
@[go_sem] theorem amE:ad.aD (ab (U (some g)) xs) (i*16+12)=(xs.getD i n0).conn.length:=(Cu (g:=g) h).trans (by rw [dT h])
@[go_sem] theorem amF:ad.aF (ab (U (some g)) xs) (i*16+12)=bB (xs.getD i n0).conn:=(Cw (g:=g) h).trans (by rw [dT h])
@[go_sem] theorem amG:ad.aN 1 (ab (U (some g)) xs) (i*16+13)=true:=Cx h
@[go_sem] theorem amH:ad.aG (ab (U (some g)) xs) (i*16+13)=g:=Cy h
@[go_sem] theorem amI:ad.aD (ab (U (some g)) xs) (i*16+13)=(xs.getD i n0).sync.length:=(Cz (g:=g) h).trans (by rw [dT h])
@[go_sem] theorem amJ:ad.aF (ab (U (some g)) xs) (i*16+13)=rows (some g) (xs.getD i n0).sync:=(CA (g:=g) h).trans (by rw [dT h])
@[go_sem] theorem amK:ad.aN 1 (ab (U (some g)) xs) (i*16+14)=true:=CB h
@[go_sem] theorem amL:ad.aG (ab (U (some g)) xs) (i*16+14)=g:=CC h
@[go_sem] theorem amM:ad.aD (ab (U (some g)) xs) (i*16+14)=(xs.getD i n0).bU.length:=(CD (g:=g) h).trans (by rw [dT h])
@[go_sem] theorem amN:ad.aF (ab (U (some g)) xs) (i*16+14)=bB (xs.getD i n0).bU:=(CE (g:=g) h).trans (by rw [dT h])
@[go_sem] theorem amO:ad.aN 1 (ab (U (some g)) xs) (i*16+15)=true:=CF h
@[go_sem] theorem amP:ad.aG (ab (U (some g)) xs) (i*16+15)=g:=CG h
@[go_sem] theorem amQ:ad.aD (ab (U (some g)) xs) (i*16+15)=(xs.getD i n0).wait.length:=(CH (g:=g) h).trans (by rw [dT h])
@[go_sem] theorem amR:ad.aF (ab (U (some g)) xs) (i*16+15)=ints (xs.getD i n0).wait:=(CI (g:=g) h).trans (by rw [dT h])
end
section
variable {g:Bool} {xs:List dn} {i:Nat} (h:i < xs.length)
include h
@[go_sem] theorem an4:ad.bR .i64 (ab (aB (some g)) xs) (i*3)=true:=HT h
@[go_sem] theorem an5:ad.aO (ab (aB (some g)) xs) (i*3)=(xs.getD i w0).src:=(HU (g:=g) h).trans (by rw [dT h])
@[go_sem] theorem an6:ad.bR .i64 (ab (aB (some g)) xs) (i*3+1)=true:=HV h
@[go_sem] theorem an7:ad.aO (ab (aB (some g)) xs) (i*3+1)=(xs.getD i w0).dst:=(HW (g:=g) h).trans (by rw [dT h])
@[go_sem] theorem an8:ad.aN 1 (ab (aB (some g)) xs) (i*3+2)=true:=HX h
@[go_sem] theorem an9:ad.aG (ab (aB (some g)) xs) (i*3+2)=g:=HY h
@[go_sem] theorem aoa:ad.aD (ab (aB (some g)) xs) (i*3+2)=(xs.getD i w0).bytes.length:=(HZ (g:=g) h).trans (by rw [dT h])
@[go_sem] theorem aob:ad.aF (ab (aB (some g)) xs) (i*3+2)=bytes (xs.getD i w0).bytes:=(H0 (g:=g) h).trans (by rw [dT h])
end
section
variable {g:Bool} {xs:List fe} {i:Nat} (h:i < xs.length)
include h
@[go_sem] theorem aoc:ad.bR .i64 (ab (bj (some g)) xs) (i*2)=true:=u7 h
@[go_sem] theorem aod:ad.aO (ab (bj (some g)) xs) (i*2)=(xs.getD i r0).cell:=(u9 (g:=g) h).trans (by rw [dT h])
@[go_sem] theorem aoe:ad.bR .i64 (ab (bj (some g)) xs) (i*2+1)=true:=va h
@[go_sem] theorem aof:ad.aO (ab (bj (some g)) xs) (i*2+1)=(xs.getD i r0).up:=(vd (g:=g) h).trans (by rw [dT h])
end
set_option maxRecDepth 100000
section
variable {α:Type} {p:α->Bool} {xs:List α} {d:α}
def tg (p:α->Bool) (xs:List α):Int:=match xs.findIdx? p with | some i=>(i:Int) | none=>-1
theorem K2:decide (0<=tg p xs)=xs.any p:=by
 unfold tg;cases h:xs.findIdx? p with
 | none=>
  have:=List.findIdx?_eq_none_iff.1 h;symm
  simpa using this
 | some i=>
  obtain ⟨hi,h2,_⟩:=List.findIdx?_eq_some_iff_getElem.1 h;have h3:xs.any p=true:=List.any_eq_true.2 ⟨xs[i],aan hi,h2⟩;rw [h3];simp
theorem ZS {i:Nat} (hi:i < xs.length) (inv:∀ j,j < i->p (xs.getD j d)=false) (h:p (xs.getD i d)=true):tg p xs=i:=by
 unfold tg;have:xs.findIdx? p=some i:=List.findIdx?_eq_some_iff_getElem.2 ⟨hi,by rw [<- dT (d:=d) hi]; exact h,fun j hj=>by
  have:=inv j hj;rw [dT (d:=d) (by omega)] at this
  simp [this]⟩
 rw [this]
theorem Xs (inv:∀ j,j < xs.length->p (xs.getD j d)=false):tg p xs=-1:=by
 unfold tg;have:xs.findIdx? p=none:=List.findIdx?_eq_none_iff.2 fun x hx=>by
  obtain ⟨i,hi,rfl⟩:=aeQ hx;have:=inv i hi
  rwa [dT (d:=d) hi] at this
 rw [this]
end
theorem Gd {α:Type} {p:α->Bool} {xs:List α} {d:α} {f:FuncId} {fn:Func} {sk:List D} {j:Nat} {H:Nat->St}
  (h1:∀ i,i < xs.length->∀ J:Nat->St->Option Rz,bL ad aX J f fn sk j (H i)=br (p (xs.getD i d)) (some (.int .i64 (i:Int),sk)) (J j (H (i+1))))
  (h2:∀ J:Nat->St->Option Rz,bL ad aX J f fn sk j (H xs.length)=some (.int .i64 (-1),sk)):WP f fn sk j (H 0) (.int .i64 (tg p xs),sk):=by
 refine WP.up (H:=H) xs.length (fun i=>∀ j,j < i->p (xs.getD j d)=false) (fun i hi inv J _ next=>?_) 0 (aa9 _) (fun j hj=>absurd hj (by omega))
 by_cases hl:i < xs.length
 ·rw [h1 i hl J];cases hp:p (xs.getD i d) with
  | true=>rw [ZS hl inv hp]; rfl
  | false=>
   refine next hl fun k hk=>?_
   by_cases e:k=i
   ·rw [e]; exact hp
   ·exact inv k (by omega)
 ·rw [show i=xs.length by omega,h2 J,Xs fun j hj=>inv j (by omega)]
theorem WP.Ml {f:FuncId} {fn:Func} {sk:List D} {j:Nat} {r:Rz} {H:Nat->St} (n:Nat) (inv:Nat->Prop) (hs:∀ i,i<=n->inv i->(i < n->inv (i+1)->WP f fn sk j (H (i+1)) r)->WP f fn sk j (H i) r):∀ i,i<=n->inv i->WP f fn sk j (H i) r:=by
 have key:∀ k i,i+k=n->inv i->WP f fn sk j (H i) r:=by
  intro k
  induction k with
  | zero=>intro i hi hv; exact hs i (by omega) hv (fun h=>absurd h (by omega))
  | succ k ih=>intro i hi hv; exact hs i (by omega) hv (fun _ h=>ih (i+1) (by omega) h)
 exact fun i hi hv=>key (n - i) i (by omega) hv
theorem pc {α:Type} {xs:List α} {i:Nat} {d:α} (h:i < xs.length):xs.getD i d∈xs:=by rw [dT h]; exact aan h
theorem Ri {w:ak} (ok:cd w) {i:Nat} (h:i < w.nodes.length):cz (w.nodes.getD i n0):=ok.node _ (pc h)
section
variable (pr:dC) (cv:Cv Rz) (J:Nat->St->Option Rz)
def fm (g:Bool) (xs:List Int) (c0:List D) (n1:Nat) (i2:Int) (i3:Int):St:=(St.mk [(0,(sI (some g) xs)),(1,(.fn 268 [(.cr c0 n1)])),(7,(.int .i64 i2)),(8,(.int .i64 i3))] [] [] 0)
theorem rY:Told cfg Tryz.prog 216 Tryz.f216:=⟨by kernel_rfl,Tryz.func216,by kernel_rfl⟩
theorem rZ (u0:List D) (v0:Nat) (g:Bool) (xs:List Int):aW pr cv J 216 Tryz.f216 [(sI (some g) xs),(.fn 268 [(.cr u0 v0)])]=
 (J 0 (fm g xs u0 v0 (pr.aV xs.length) 0)):=by kernel_rfl
theorem kn (g:Bool) (xs:List Int) (c0:List D) (n1:Nat) (i2:Int) (i3:Int):bL pr cv J 216 Tryz.f216 [.undef,.undef] 0 (fm g xs c0 n1 i2 i3)=
 (br (pr.lt i3 i2) (br (pr.bm i3 xs.length) (br (br (pr.bR .i64 (ints xs) (pr.idx 0 i3 1)) true false) (cv 268 [(.int .i64 (pr.aO (ints xs) (pr.idx 0 i3 1))),(.cr c0 n1)] (.bool (fun bH=>(.done (br bH (some ((.int .i64 i3),[.undef,.undef])) (J 0 (fm g xs c0 n1 i2 (pr.ar .add .i64 i3 1)))))))) none) none) (some ((.int .i64 (-1)),[.undef,.undef]))):=by kernel_rfl
theorem qv:Told cfg Tryz.prog 135 Tryz.f135:=⟨by kernel_rfl,Tryz.func135,by kernel_rfl⟩
theorem qw (u0:List D) (v0:Nat) (g:Bool) (xs:List Int):aW pr cv J 135 Tryz.f135 [(sI (some g) xs),(.fn 268 [(.cr u0 v0)])]=
 (cv 216 [(sI (some g) xs),(.fn 268 [(.cr u0 v0)])] (.int (fun ef=>(.done (some ((.bool (pr.le 0 ef)),[.undef,.undef])))))):=by kernel_rfl
end
theorem R5 (u0:List D) (v0:Nat) (g:Bool) (xs:List Int) (p:Int->Bool) (hb:xs.length < 4611686018427387904) (hc:∀ i,i < xs.length->∀ t:bO Rz,aX 268 [.int .i64 (xs.getD i 0),.cr u0 v0] t=feed t [.bool (p (xs.getD i 0))]):Cm 216 [.sl (some g) 1 xs.length (ints xs),.fn 268 [.cr u0 v0]] (.int .i64 (tg p xs),[.undef,.undef]):=by
 refine Cm.step rY [.undef,.undef] fun J hJ=>?_;rw [rZ];refine hJ _ _ ?_;refine Gd (d:=0) (H:=fun i=>fm g xs u0 v0 xs.length (i:Nat)) (fun i hi J=>?_) (fun J=>?_)
 ·rw [kn];simp (disch:=first | assumption | omega) only [go_sem,hc i hi]
  cases p (xs.getD i 0) with
  | true=>rfl
  | false=>
   simp (disch:=first | assumption | omega) only [go_sem]
   rfl
 ·rw [kn];simp (disch:=first | assumption | omega) only [go_sem]
theorem K3 (u0:List D) (v0:Nat) (g:Bool) (xs:List Int) (p:Int->Bool) (hb:xs.length < 4611686018427387904) (hc:∀ i,i < xs.length->∀ t:bO Rz,aX 268 [.int .i64 (xs.getD i 0),.cr u0 v0] t=feed t [.bool (p (xs.getD i 0))]):Cm 135 [.sl (some g) 1 xs.length (ints xs),.fn 268 [.cr u0 v0]] (.bool (xs.any p),[.undef,.undef]):=by
 refine Cm.step qv [.undef,.undef] fun J hJ=>?_;rw [qw];have:=bh (R5 u0 v0 g xs p hb hc) (by kernel_rfl)
 rw [this];show some ((.bool (decide (0<=tg p xs)),[.undef,.undef]):Rz)=_;rw [K2]
section
variable (pr:dC) (cv:Cv Rz) (J:Nat->St->Option Rz)
theorem Ge:Told cfg Tryz.prog 268 Tryz.f268:=⟨by kernel_rfl,Tryz.func268,by kernel_rfl⟩
theorem Gf (w:ak) (a:Int):aW pr cv J 268 Tryz.f268 [(.int .i64 a),(.cr (bM (some true) w) 0)]=
 (br (br (pr.aN 2 [(.sl (some true) 16 w.nodes.length (ab (U (some true)) w.nodes)),(.sl (some true) 3 w.aH.length (ab (aB (some true)) w.aH)),(.sl (some true) 2 w.log.length (ab (bj (some true)) w.log)),(sI (some true) w.safe),(.int .i64 w.gen)] 2) true false) (some ((.bool (pr.lt (pr.aV (pr.aD [(.sl (some true) 16 w.nodes.length (ab (U (some true)) w.nodes)),(.sl (some true) 3 w.aH.length (ab (aB (some true)) w.aH)),(.sl (some true) 2 w.log.length (ab (bj (some true)) w.log)),(sI (some true) w.safe),(.int .i64 w.gen)] 2)) a)),[.undef,.undef])) none):=by kernel_rfl
def m8 (x0:ak) (i0:Int) (i1:Int):St:=(St.mk [(1,(.ptr 1 [] 0)),(13,(.sl (some true) 16 x0.nodes.length (ab (U (some true)) x0.nodes))),(14,(.int .i64 i0)),(15,(.int .i64 i1))] [(1,[(.sl (some true) 16 x0.nodes.length (ab (U (some true)) x0.nodes)),(.sl (some true) 3 x0.aH.length (ab (aB (some true)) x0.aH)),(.sl (some true) 2 x0.log.length (ab (bj (some true)) x0.log)),(sI (some true) x0.safe),(.int .i64 x0.gen)])] [] 0)
def ko (x0:ak) (i0:Int) (i1:Int):St:=(St.mk [(1,(.ptr 1 [] 0)),(46,(.sl (some true) 16 x0.nodes.length (ab (U (some true)) x0.nodes))),(47,(.int .i64 i0)),(48,(.int .i64 i1))] [(1,[(.sl (some true) 16 x0.nodes.length (ab (U (some true)) x0.nodes)),(.sl (some true) 3 x0.aH.length (ab (aB (some true)) x0.aH)),(.sl (some true) 2 x0.log.length (ab (bj (some true)) x0.log)),(sI (some true) x0.safe),(.int .i64 x0.gen)])] [] 0)
def m9 (x0:ak) (i0:Int) (i1:Int) (i2:Int) (i3:Int) (b4:Bool) (b5:Bool) (g6:Bool) (n7:Nat) (c8:List D) (g9:Bool) (nN:Nat) (nO:List D) (g12:Bool) (gX:Nat) (gL:List D) (jm:Bool) (nU:Bool) (nP:Bool) (i18:Int) (g19:Bool) (n20:Nat) (AK:List D) (g22:Bool) (n23:Nat) (xR:List D) (xS:Bool) (n26:Nat) (rL:List D) (ub:Bool) (n29:Nat) (uc:List D) (ud:Bool) (n32:Nat) (xT:List D) (xU:Bool) (n35:Nat) (xV:List D):St:=(St.mk [(1,(.ptr 1 [] 0)),(5,(.int .i64 i0)),(6,(.ptr 6 [] 0)),(46,(.sl (some true) 16 x0.nodes.length (ab (U (some true)) x0.nodes))),(47,(.int .i64 i1)),(48,(.int .i64 i0)),(53,(.int .i64 i2))] [(1,[(.sl (some true) 16 x0.nodes.length (ab (U (some true)) x0.nodes)),(.sl (some true) 3 x0.aH.length (ab (aB (some true)) x0.aH)),(.sl (some true) 2 x0.log.length (ab (bj (some true)) x0.log)),(sI (some true) x0.safe),(.int .i64 x0.gen)]),(6,[(.int .i64 i3),(.bool b4),(.bool b5),(.sl (some g6) 1 n7 c8),(.sl (some g9) 1 nN nO),(.sl (some g12) 1 gX gL),(.bool jm),(.bool nU),(.bool nP),(.int .i64 i18),(.sl (some g19) 1 n20 AK),(.sl (some g22) 1 n23 xR),(.sl (some xS) 1 n26 rL),(.sl (some ub) 1 n29 uc),(.sl (some ud) 1 n32 xT),(.sl (some xU) 1 n35 xV)])] [] 0)
theorem K4:Told cfg Tryz.prog 226 Tryz.f226:=⟨by kernel_rfl,Tryz.func226,by kernel_rfl⟩
theorem K5 (x0:ak):aW pr cv J 226 Tryz.f226 [(.agg (bM (some true) x0))]=
 (br (br (pr.eq (pr.aV x0.nodes.length) 3) false true) (some ((.bool false),[.undef])) (J 0 (m8 x0 (pr.aV x0.nodes.length) 0))):=by kernel_rfl
theorem DZ (x0:ak) (i0:Int) (i1:Int):bL pr cv J 226 Tryz.f226 [.undef] 0 (m8 x0 i0 i1)=
 let y1:Int:=(pr.aO (ab (U (some true)) x0.nodes) (pr.idx 0 i1 16))
 let y2:Option Bool:=(some (pr.aG (ab (U (some true)) x0.nodes) ((pr.idx 0 i1 16)+3)))
 let y3:Nat:=(pr.aD (ab (U (some true)) x0.nodes) ((pr.idx 0 i1 16)+3))
 let y4:List D:=(pr.aF (ab (U (some true)) x0.nodes) ((pr.idx 0 i1 16)+3))
 let y5:Int:=(pr.aO (ab (U (some true)) x0.nodes) ((pr.idx 0 i1 16)+9))
 let y6:Option (D × List D):=(some ((.bool false),[.undef]))
 (br (pr.lt i1 i0) (br (pr.bm i1 x0.nodes.length) (br (br (pr.bR .i64 (ab (U (some true)) x0.nodes) (pr.idx 0 i1 16)) (br (pr.bW (ab (U (some true)) x0.nodes) ((pr.idx 0 i1 16)+1)) (br (pr.bW (ab (U (some true)) x0.nodes) ((pr.idx 0 i1 16)+2)) (br (pr.aN 1 (ab (U (some true)) x0.nodes) ((pr.idx 0 i1 16)+3)) (br (pr.aN 1 (ab (U (some true)) x0.nodes) ((pr.idx 0 i1 16)+4)) (br (pr.aN 1 (ab (U (some true)) x0.nodes) ((pr.idx 0 i1 16)+5)) (br (pr.bW (ab (U (some true)) x0.nodes) ((pr.idx 0 i1 16)+6)) (br (pr.bW (ab (U (some true)) x0.nodes) ((pr.idx 0 i1 16)+7)) (br (pr.bW (ab (U (some true)) x0.nodes) ((pr.idx 0 i1 16)+8)) (br (pr.bR .i64 (ab (U (some true)) x0.nodes) ((pr.idx 0 i1 16)+9)) (br (pr.aN 1 (ab (U (some true)) x0.nodes) ((pr.idx 0 i1 16)+10)) (br (pr.aN 1 (ab (U (some true)) x0.nodes) ((pr.idx 0 i1 16)+11)) (br (pr.aN 1 (ab (U (some true)) x0.nodes) ((pr.idx 0 i1 16)+12)) (br (pr.aN 1 (ab (U (some true)) x0.nodes) ((pr.idx 0 i1 16)+13)) (br (pr.aN 1 (ab (U (some true)) x0.nodes) ((pr.idx 0 i1 16)+14)) (br (pr.aN 1 (ab (U (some true)) x0.nodes) ((pr.idx 0 i1 16)+15)) true false) false) false) false) false) false) false) false) false) false) false) false) false) false) false) false) (cv 76 [(.agg [(.int .i64 y1),(.bool (pr.bC (ab (U (some true)) x0.nodes) ((pr.idx 0 i1 16)+1))),(.bool (pr.bC (ab (U (some true)) x0.nodes) ((pr.idx 0 i1 16)+2))),(.sl y2 1 y3 y4),(.sl (some (pr.aG (ab (U (some true)) x0.nodes) ((pr.idx 0 i1 16)+4))) 1 (pr.aD (ab (U (some true)) x0.nodes) ((pr.idx 0 i1 16)+4)) (pr.aF (ab (U (some true)) x0.nodes) ((pr.idx 0 i1 16)+4))),(.sl (some (pr.aG (ab (U (some true)) x0.nodes) ((pr.idx 0 i1 16)+5))) 1 (pr.aD (ab (U (some true)) x0.nodes) ((pr.idx 0 i1 16)+5)) (pr.aF (ab (U (some true)) x0.nodes) ((pr.idx 0 i1 16)+5))),(.bool (pr.bC (ab (U (some true)) x0.nodes) ((pr.idx 0 i1 16)+6))),(.bool (pr.bC (ab (U (some true)) x0.nodes) ((pr.idx 0 i1 16)+7))),(.bool (pr.bC (ab (U (some true)) x0.nodes) ((pr.idx 0 i1 16)+8))),(.int .i64 y5),(.sl (some (pr.aG (ab (U (some true)) x0.nodes) ((pr.idx 0 i1 16)+10))) 1 (pr.aD (ab (U (some true)) x0.nodes) ((pr.idx 0 i1 16)+10)) (pr.aF (ab (U (some true)) x0.nodes) ((pr.idx 0 i1 16)+10))),(.sl (some (pr.aG (ab (U (some true)) x0.nodes) ((pr.idx 0 i1 16)+11))) 1 (pr.aD (ab (U (some true)) x0.nodes) ((pr.idx 0 i1 16)+11)) (pr.aF (ab (U (some true)) x0.nodes) ((pr.idx 0 i1 16)+11))),(.sl (some (pr.aG (ab (U (some true)) x0.nodes) ((pr.idx 0 i1 16)+12))) 1 (pr.aD (ab (U (some true)) x0.nodes) ((pr.idx 0 i1 16)+12)) (pr.aF (ab (U (some true)) x0.nodes) ((pr.idx 0 i1 16)+12))),(.sl (some (pr.aG (ab (U (some true)) x0.nodes) ((pr.idx 0 i1 16)+13))) 1 (pr.aD (ab (U (some true)) x0.nodes) ((pr.idx 0 i1 16)+13)) (pr.aF (ab (U (some true)) x0.nodes) ((pr.idx 0 i1 16)+13))),(.sl (some (pr.aG (ab (U (some true)) x0.nodes) ((pr.idx 0 i1 16)+14))) 1 (pr.aD (ab (U (some true)) x0.nodes) ((pr.idx 0 i1 16)+14)) (pr.aF (ab (U (some true)) x0.nodes) ((pr.idx 0 i1 16)+14))),(.sl (some (pr.aG (ab (U (some true)) x0.nodes) ((pr.idx 0 i1 16)+15))) 1 (pr.aD (ab (U (some true)) x0.nodes) ((pr.idx 0 i1 16)+15)) (pr.aF (ab (U (some true)) x0.nodes) ((pr.idx 0 i1 16)+15)))])] (.bool (fun bH=>(.done (br (br bH false true) y6 (br (br (pr.eq y1 i1) false true) y6 (br (pr.lt (pr.aV x0.log.length) y5) y6 (cv 135 [(.sl y2 1 y3 y4),(.fn 268 [(.cr [(.sl (some true) 16 x0.nodes.length (ab (U (some true)) x0.nodes)),(.sl (some true) 3 x0.aH.length (ab (aB (some true)) x0.aH)),(.sl (some true) 2 x0.log.length (ab (bj (some true)) x0.log)),(sI (some true) x0.safe),(.int .i64 x0.gen)] 0)])] (.bool (fun eQ=>(.done (br eQ y6 (J 0 (m8 x0 i0 (pr.ar .add .i64 i1 1))))))))))))))) none) none) (J 2 (ko x0 (pr.aV x0.nodes.length) 0))):=by kernel_rfl
theorem D0 (x0:ak) (i0:Int) (i1:Int):bL pr cv J 226 Tryz.f226 [.undef] 2 (ko x0 i0 i1)=
 (br (pr.lt i1 i0) (br (pr.bm i1 x0.nodes.length) (br (br (pr.bR .i64 (ab (U (some true)) x0.nodes) (pr.idx 0 i1 16)) (br (pr.bW (ab (U (some true)) x0.nodes) ((pr.idx 0 i1 16)+1)) (br (pr.bW (ab (U (some true)) x0.nodes) ((pr.idx 0 i1 16)+2)) (br (pr.aN 1 (ab (U (some true)) x0.nodes) ((pr.idx 0 i1 16)+3)) (br (pr.aN 1 (ab (U (some true)) x0.nodes) ((pr.idx 0 i1 16)+4)) (br (pr.aN 1 (ab (U (some true)) x0.nodes) ((pr.idx 0 i1 16)+5)) (br (pr.bW (ab (U (some true)) x0.nodes) ((pr.idx 0 i1 16)+6)) (br (pr.bW (ab (U (some true)) x0.nodes) ((pr.idx 0 i1 16)+7)) (br (pr.bW (ab (U (some true)) x0.nodes) ((pr.idx 0 i1 16)+8)) (br (pr.bR .i64 (ab (U (some true)) x0.nodes) ((pr.idx 0 i1 16)+9)) (br (pr.aN 1 (ab (U (some true)) x0.nodes) ((pr.idx 0 i1 16)+10)) (br (pr.aN 1 (ab (U (some true)) x0.nodes) ((pr.idx 0 i1 16)+11)) (br (pr.aN 1 (ab (U (some true)) x0.nodes) ((pr.idx 0 i1 16)+12)) (br (pr.aN 1 (ab (U (some true)) x0.nodes) ((pr.idx 0 i1 16)+13)) (br (pr.aN 1 (ab (U (some true)) x0.nodes) ((pr.idx 0 i1 16)+14)) (br (pr.aN 1 (ab (U (some true)) x0.nodes) ((pr.idx 0 i1 16)+15)) true false) false) false) false) false) false) false) false) false) false) false) false) false) false) false) false) (J 4 (m9 x0 i1 i0 0 (pr.aO (ab (U (some true)) x0.nodes) (pr.idx 0 i1 16)) (pr.bC (ab (U (some true)) x0.nodes) ((pr.idx 0 i1 16)+1)) (pr.bC (ab (U (some true)) x0.nodes) ((pr.idx 0 i1 16)+2)) (pr.aG (ab (U (some true)) x0.nodes) ((pr.idx 0 i1 16)+3)) (pr.aD (ab (U (some true)) x0.nodes) ((pr.idx 0 i1 16)+3)) (pr.aF (ab (U (some true)) x0.nodes) ((pr.idx 0 i1 16)+3)) (pr.aG (ab (U (some true)) x0.nodes) ((pr.idx 0 i1 16)+4)) (pr.aD (ab (U (some true)) x0.nodes) ((pr.idx 0 i1 16)+4)) (pr.aF (ab (U (some true)) x0.nodes) ((pr.idx 0 i1 16)+4)) (pr.aG (ab (U (some true)) x0.nodes) ((pr.idx 0 i1 16)+5)) (pr.aD (ab (U (some true)) x0.nodes) ((pr.idx 0 i1 16)+5)) (pr.aF (ab (U (some true)) x0.nodes) ((pr.idx 0 i1 16)+5)) (pr.bC (ab (U (some true)) x0.nodes) ((pr.idx 0 i1 16)+6)) (pr.bC (ab (U (some true)) x0.nodes) ((pr.idx 0 i1 16)+7)) (pr.bC (ab (U (some true)) x0.nodes) ((pr.idx 0 i1 16)+8)) (pr.aO (ab (U (some true)) x0.nodes) ((pr.idx 0 i1 16)+9)) (pr.aG (ab (U (some true)) x0.nodes) ((pr.idx 0 i1 16)+10)) (pr.aD (ab (U (some true)) x0.nodes) ((pr.idx 0 i1 16)+10)) (pr.aF (ab (U (some true)) x0.nodes) ((pr.idx 0 i1 16)+10)) (pr.aG (ab (U (some true)) x0.nodes) ((pr.idx 0 i1 16)+11)) (pr.aD (ab (U (some true)) x0.nodes) ((pr.idx 0 i1 16)+11)) (pr.aF (ab (U (some true)) x0.nodes) ((pr.idx 0 i1 16)+11)) (pr.aG (ab (U (some true)) x0.nodes) ((pr.idx 0 i1 16)+12)) (pr.aD (ab (U (some true)) x0.nodes) ((pr.idx 0 i1 16)+12)) (pr.aF (ab (U (some true)) x0.nodes) ((pr.idx 0 i1 16)+12)) (pr.aG (ab (U (some true)) x0.nodes) ((pr.idx 0 i1 16)+13)) (pr.aD (ab (U (some true)) x0.nodes) ((pr.idx 0 i1 16)+13)) (pr.aF (ab (U (some true)) x0.nodes) ((pr.idx 0 i1 16)+13)) (pr.aG (ab (U (some true)) x0.nodes) ((pr.idx 0 i1 16)+14)) (pr.aD (ab (U (some true)) x0.nodes) ((pr.idx 0 i1 16)+14)) (pr.aF (ab (U (some true)) x0.nodes) ((pr.idx 0 i1 16)+14)) (pr.aG (ab (U (some true)) x0.nodes) ((pr.idx 0 i1 16)+15)) (pr.aD (ab (U (some true)) x0.nodes) ((pr.idx 0 i1 16)+15)) (pr.aF (ab (U (some true)) x0.nodes) ((pr.idx 0 i1 16)+15)))) none) none) (some ((.bool true),[.undef]))):=by kernel_rfl
theorem D1 (x0:ak) (i0:Int) (i1:Int) (i2:Int) (i3:Int) (b4:Bool) (b5:Bool) (g6:Bool) (n7:Nat) (c8:List D) (g9:Bool) (nN:Nat) (nO:List D) (g12:Bool) (gX:Nat) (gL:List D) (jm:Bool) (nU:Bool) (nP:Bool) (i18:Int) (g19:Bool) (n20:Nat) (AK:List D) (g22:Bool) (n23:Nat) (xR:List D) (xS:Bool) (n26:Nat) (rL:List D) (ub:Bool) (n29:Nat) (uc:List D) (ud:Bool) (n32:Nat) (xT:List D) (xU:Bool) (n35:Nat) (xV:List D):bL pr cv J 226 Tryz.f226 [.undef] 4 (m9 x0 i0 i1 i2 i3 b4 b5 g6 n7 c8 g9 nN nO g12 gX gL jm nU nP i18 g19 n20 AK g22 n23 xR xS n26 rL ub n29 uc ud n32 xT xU n35 xV)=
 let y1:List D:=(pr.aF (ab (U (some true)) x0.nodes) ((pr.idx 0 i2 16)+12))
 let y2:Option Rz:=(J 4 (m9 x0 i0 i1 (pr.ar .add .i64 i2 1) i3 b4 b5 g6 n7 c8 g9 nN nO g12 gX gL jm nU nP i18 g19 n20 AK g22 n23 xR xS n26 rL ub n29 uc ud n32 xT xU n35 xV))
 (br (pr.lt i2 3) (br (pr.bm i2 n26) (br (br (pr.bW rL (pr.idx 0 i2 1)) true false) (br (pr.bC rL (pr.idx 0 i2 1)) (br (pr.bm i2 x0.nodes.length) (br (br (pr.aN 1 (ab (U (some true)) x0.nodes) ((pr.idx 0 i2 16)+12)) true false) (br (pr.bm i0 (pr.aD (ab (U (some true)) x0.nodes) ((pr.idx 0 i2 16)+12))) (br (br (pr.bW y1 (pr.idx 0 i0 1)) true false) (br (br (pr.bC y1 (pr.idx 0 i0 1)) false true) (some ((.bool false),[.undef])) y2) none) none) none) none) y2) none) none) (J 2 (ko x0 i1 (pr.ar .add .i64 i0 1)))):=by kernel_rfl
end
theorem Gg (w:ak) (a:Int):Cm 268 [.int .i64 a,.cr (bM (some true) w) 0] (.bool (decide ((w.log.length:Int) < a)),[.undef,.undef]):=by
 refine Cm.step Ge [.undef,.undef] fun J hJ=>?_;rw [Gf];rfl
@[go_sem] theorem adi (w:ak) (g:Bool) (n:Nat) (xs:List Int) (hn:n=xs.length) (hb:xs.length < 4611686018427387904) (t:bO Rz):aX 135 [.sl (some g) 1 n (ints xs),.fn 268 [.cr (bM (some true) w) 0]] t=feed t [.bool (xs.any fun a=>decide ((w.log.length:Int) < a))]:=by
 subst hn;exact bh (K3 _ _ g xs _ hb fun i hi t=>bh (Gg w _) (by kernel_rfl) t) (by kernel_rfl) t
structure K6 (w:ak) (i:Nat):Prop where
 ok:eg (w.nodes.getD i n0)=true
 id:(w.nodes.getD i n0).id=i
 last:(w.nodes.getD i n0).mt.last<=w.log.length
 cells:∀ x∈(w.nodes.getD i n0).image,x<=(w.log.length:Int)
def Gh (w:ak) (i k:Nat):Prop:=(w.nodes.getD i n0).conn.getD k false=true->(w.nodes.getD k n0).conn.getD i false=true
structure K7 (w:ak):Prop where
 len:w.nodes.length=3
 nd:∀ i,i < 3->K6 w i
 sy:∀ i k,i < 3->k < 3->Gh w i k
open Classical in
noncomputable def qd (w:ak):Bool:=decide (K7 w)
open Classical in
theorem ahp {w:ak} (h:qd w=true):K7 w:=by unfold qd at h; exact of_decide_eq_true h
open Classical in
theorem DR {w:ak} (h:¬K7 w):(some ((.bool false,[.undef]):Rz))=some (.bool (qd w),[.undef]):=by unfold qd; rw [decide_eq_false h]
open Classical in
theorem agh {w:ak} (h:K7 w):(some ((.bool true,[.undef]):Rz))=some (.bool (qd w),[.undef]):=by unfold qd; rw [decide_eq_true h]
theorem Tc {l:Int} {xs:List Int}:(xs.any fun a=>decide (l < a))=true↔¬∀ x∈xs,x<=l:=by
 simp
theorem K8 (w:ak) (q0:cd w):Cm 226 [.agg (bM (some true) w)] (.bool (qd w),[.undef]):=by
 refine Cm.step K4 [.undef] fun J hJ=>?_;rw [K5];have b1:=q0.nodes;simp (disch:=first | assumption | omega) only [go_sem]
 refine bK (fun h3=>?_) (fun h=>DR fun o=>h (by have:=o.len; omega))
 have GX:w.nodes.length=3:=by omega
 refine hJ _ _ ?_;have second:(∀ i,i < 3->K6 w i)->WP 226 Tryz.f226 [.undef] 2 (ko w w.nodes.length ((0:Nat):Int)) (.bool (qd w),[.undef]):=by
  intro nd;refine WP.Ml (H:=fun i:Nat=>ko w w.nodes.length (i:Int)) 3 (fun i=>∀ a,a < i->∀ k,k < 3->Gh w a k) (fun i hi inv next=>?_) 0 (by omega) (fun a h=>absurd h (by omega))
  refine WP.step fun J hJ=>?_;rw [D0];simp (disch:=first | assumption | omega) only [go_sem]
  refine bK (fun hl=>?_) (fun hl=>agh ⟨GX,nd,fun a k ha hk=>inv a (by omega) k hk⟩)
  simp (disch:=first | assumption | omega) only [go_sem]
  refine hJ _ _ ?_;refine WP.up (H:=fun k:Nat=>m9 w i w.nodes.length k _ _ _ _ _ _ _ _ _ _ _ _ _ _ _ _ _ _ _ _ _ _ _ _ _ _ _ _ _ _ _ _ _ _) 3 (fun k=>∀ b,b < k->Gh w i b) (fun k hk inv2 J hJ qe=>?_) 0 (by omega) (fun a h=>absurd h (by omega))
  rw [D1];have ci:=(fL (nd i (by omega)).ok).conn
  simp (disch:=first | assumption | omega) only [go_sem]
  refine bK (fun G3=>?_) (fun G3=>?_)
  ·have ck:=(fL (nd k (by omega)).ok).conn
   simp (disch:=first | assumption | omega) only [go_sem]
   refine gv (fun hc=>?_) (fun hc=>?_)
   ·simp (disch:=first | assumption | omega) only [go_sem]
    refine gv (fun hd=>?_) (fun hd=>DR fun o=>hd (o.sy i k (by omega) (by omega) hc))
    simp (disch:=first | assumption | omega) only [go_sem]
    refine qe (by omega) fun b hb=>?_
    by_cases e:b=k
    ·rw [e]; exact fun _=>hd
    ·exact inv2 b (by omega)
   ·simp (disch:=first | assumption | omega) only [go_sem]
    refine qe (by omega) fun b hb=>?_
    by_cases e:b=k
    ·rw [e]; exact fun h=>absurd h hc
    ·exact inv2 b (by omega)
  ·refine hJ _ _ (next (by omega) fun a ha b hb=>?_)
   by_cases e:a=i
   ·rw [e]; exact inv2 b (by omega)
   ·exact inv a (by omega) b hb
 refine WP.up (H:=fun i:Nat=>m8 w w.nodes.length (i:Int)) 3 (fun i=>∀ a,a < i->K6 w a) (fun i hi inv J hJ next=>?_) 0 (by omega) (fun a h=>absurd h (by omega))
 rw [DZ];simp (disch:=first | assumption | omega) only [go_sem]
 refine bK (fun hl=>?_) (fun hl=>hJ _ _ (second fun a ha=>inv a (by omega)))
 have oi:=Ri q0 (show i < w.nodes.length by omega)
 have oim:=oi.image;simp (disch:=first | assumption | omega) only [go_sem]
 refine gv (fun hn=>?_) (fun h=>DR fun o=>h (o.nd i (by omega)).ok)
 simp (disch:=first | assumption | omega) only [go_sem]
 refine bK (fun hd=>?_) (fun h=>DR fun o=>h (o.nd i (by omega)).id)
 simp (disch:=first | assumption | omega) only [go_sem]
 refine bK (fun h=>DR fun o=>absurd (o.nd i (by omega)).last (by omega)) (fun hla=>?_)
 simp (disch:=first | assumption | omega) only [go_sem]
 refine gv (fun h=>DR fun o=>Tc.1 h (o.nd i (by omega)).cells) (fun hc=>?_)
 simp (disch:=first | assumption | omega) only [go_sem]
 refine next (by omega) fun a ha=>?_
 by_cases e:a=i
 ·rw [e]; exact ⟨hn,hd,by omega,Classical.not_not.1 fun x=>hc (Tc.2 x)⟩
 ·exact inv a (by omega)
@[go_sem] theorem adj (w:ak) (q0:cd w) (t:bO Rz):aX 226 [.agg (fj (some true) w)] t=feed t [.bool (qd w)]:=by
 exact bN (r:=.bool (qd w)) (s:=.bool) (ss:=[.undef]) (K8 w q0) (by kernel_rfl) (by simp only [av,bw,aU,bz,bA,af,aj,tC]) (by simp only [af,aJ,av,aj,tC]) (by first | rfl | simp only [au,aS,aR,bq,bt,aT,bu,tC]) (by first | rfl | simp only [UL,aab,au,tC]) t
set_option maxRecDepth 100000
section
variable (pr:dC) (cv:Cv Rz) (J:Nat->St->Option Rz)
def na (x0:ak) (i0:Int) (i1:Int):St:=(St.mk [(1,(.ptr 1 [] 0)),(31,(.sl (some true) 3 x0.aH.length (ab (aB (some true)) x0.aH))),(32,(.int .i64 i0)),(33,(.int .i64 i1))] [(1,[(.sl (some true) 16 x0.nodes.length (ab (U (some true)) x0.nodes)),(.sl (some true) 3 x0.aH.length (ab (aB (some true)) x0.aH)),(.sl (some true) 2 x0.log.length (ab (bj (some true)) x0.log)),(sI (some true) x0.safe),(.int .i64 x0.gen)])] [] 0)
def kp (x0:ak) (i0:Int) (i1:Int):St:=(St.mk [(1,(.ptr 1 [] 0)),(76,(.sl (some true) 2 x0.log.length (ab (bj (some true)) x0.log))),(77,(.int .i64 i0)),(78,(.int .i64 i1))] [(1,[(.sl (some true) 16 x0.nodes.length (ab (U (some true)) x0.nodes)),(.sl (some true) 3 x0.aH.length (ab (aB (some true)) x0.aH)),(.sl (some true) 2 x0.log.length (ab (bj (some true)) x0.log)),(sI (some true) x0.safe),(.int .i64 x0.gen)])] [] 0)
def kq (x0:ak) (i0:Int) (i1:Int):St:=(St.mk [(1,(.ptr 1 [] 0)),(96,(sI (some true) x0.safe)),(97,(.int .i64 i0)),(98,(.int .i64 i1))] [(1,[(.sl (some true) 16 x0.nodes.length (ab (U (some true)) x0.nodes)),(.sl (some true) 3 x0.aH.length (ab (aB (some true)) x0.aH)),(.sl (some true) 2 x0.log.length (ab (bj (some true)) x0.log)),(sI (some true) x0.safe),(.int .i64 x0.gen)])] [] 0)
theorem K9:Told cfg Tryz.prog 147 Tryz.f147:=⟨by kernel_rfl,Tryz.func147,by kernel_rfl⟩
theorem Lb (x0:ak):aW pr cv J 147 Tryz.f147 [(.agg (bM (some true) x0))]=
 let y1:Option (D × List D):=(some ((.bool false),[.undef]))
 (cv 226 [(.agg [(.sl (some true) 16 x0.nodes.length (ab (U (some true)) x0.nodes)),(.sl (some true) 3 x0.aH.length (ab (aB (some true)) x0.aH)),(.sl (some true) 2 x0.log.length (ab (bj (some true)) x0.log)),(sI (some true) x0.safe),(.int .i64 x0.gen)])] (.bool (fun bH=>(.done (br (br bH false true) y1 (br (pr.lt 40 (pr.aV x0.aH.length)) y1 (br (pr.lt 200 (pr.aV x0.log.length)) y1 (cv 105 [(.int .i64 x0.gen),(.int .i64 2),(.int .i64 100000)] (.bool (fun eQ=>(.done (br (br eQ false true) y1 (J 0 (na x0 (pr.aV x0.aH.length) 0)))))))))))))):=by kernel_rfl
theorem D2 (x0:ak) (i0:Int) (i1:Int):bL pr cv J 147 Tryz.f147 [.undef] 0 (na x0 i0 i1)=
 let y1:Int:=(pr.aO (ab (aB (some true)) x0.aH) (pr.idx 0 i1 3))
 let y2:Option (D × List D):=(some ((.bool false),[.undef]))
 let y3:Int:=(pr.aO (ab (aB (some true)) x0.aH) ((pr.idx 0 i1 3)+1))
 let y4:List D:=(pr.aF (ab (U (some true)) x0.nodes) ((pr.idx 0 y1 16)+12))
 let y5:Nat:=(pr.idx 0 y3 1)
 (br (pr.lt i1 i0) (br (pr.bm i1 x0.aH.length) (br (br (pr.bR .i64 (ab (aB (some true)) x0.aH) (pr.idx 0 i1 3)) (br (pr.bR .i64 (ab (aB (some true)) x0.aH) ((pr.idx 0 i1 3)+1)) (br (pr.aN 1 (ab (aB (some true)) x0.aH) ((pr.idx 0 i1 3)+2)) true false) false) false) (cv 92 [(.int .i64 y1)] (.bool (fun bH=>(.done (br (br bH false true) y2 (cv 92 [(.int .i64 y3)] (.bool (fun eQ=>(.done (br (br eQ false true) y2 (br (pr.eq y1 y3) y2 (br (pr.bm y1 x0.nodes.length) (br (br (pr.aN 1 (ab (U (some true)) x0.nodes) ((pr.idx 0 y1 16)+12)) true false) (br (pr.bm y3 (pr.aD (ab (U (some true)) x0.nodes) ((pr.idx 0 y1 16)+12))) (br (br (pr.bW y4 y5) true false) (br (br (pr.bC y4 y5) false true) y2 (br (pr.lt 400 (pr.aV (pr.aD (ab (aB (some true)) x0.aH) ((pr.idx 0 i1 3)+2)))) y2 (J 0 (na x0 i0 (pr.ar .add .i64 i1 1))))) none) none) none) none)))))))))))) none) none) (J 2 (kp x0 (pr.aV x0.log.length) 0))):=by kernel_rfl
theorem D3 (x0:ak) (i0:Int) (i1:Int):bL pr cv J 147 Tryz.f147 [.undef] 2 (kp x0 i0 i1)=
 let y1:Option (D × List D):=(some ((.bool false),[.undef]))
 (br (pr.lt i1 i0) (br (pr.bm i1 x0.log.length) (br (br (pr.bR .i64 (ab (bj (some true)) x0.log) (pr.idx 0 i1 2)) (br (pr.bR .i64 (ab (bj (some true)) x0.log) ((pr.idx 0 i1 2)+1)) true false) false) (cv 93 [(.int .i64 (pr.aO (ab (bj (some true)) x0.log) (pr.idx 0 i1 2)))] (.bool (fun bH=>(.done (br (br bH false true) y1 (cv 105 [(.int .i64 (pr.aO (ab (bj (some true)) x0.log) ((pr.idx 0 i1 2)+1))),(.int .i64 0),(.int .i64 i1)] (.bool (fun eQ=>(.done (br (br eQ false true) y1 (J 2 (kp x0 i0 (pr.ar .add .i64 i1 1))))))))))))) none) none) (J 4 (kq x0 (pr.aV x0.safe.length) 0))):=by kernel_rfl
theorem D4 (x0:ak) (i0:Int) (i1:Int):bL pr cv J 147 Tryz.f147 [.undef] 4 (kq x0 i0 i1)=
 let y1:Option (D × List D):=(some ((.bool false),[.undef]))
 let y2:Option Rz:=(J 4 (kq x0 i0 (pr.ar .add .i64 i1 1)))
 (br (pr.lt i1 i0) (br (pr.bm i1 x0.safe.length) (br (br (pr.bR .i64 (ints x0.safe) (pr.idx 0 i1 1)) true false) (cv 105 [(.int .i64 (pr.aO (ints x0.safe) (pr.idx 0 i1 1))),(.int .i64 1),(.int .i64 (pr.aV x0.log.length))] (.bool (fun bH=>(.done (br (br bH false true) y1 (br (pr.lt 0 i1) (br (pr.bm (pr.ar .sub .i64 i1 1) x0.safe.length) (br (br (pr.bR .i64 (ints x0.safe) (pr.idx 0 (pr.ar .sub .i64 i1 1) 1)) true false) (br (pr.le (pr.aO (ints x0.safe) (pr.idx 0 i1 1)) (pr.aO (ints x0.safe) (pr.idx 0 (pr.ar .sub .i64 i1 1) 1))) y1 y2) none) none) y2)))))) none) none) (some ((.bool true),[.undef]))):=by kernel_rfl
def mh (x0:ak) (i0:Int):St:=(St.mk [(1,(.ptr 1 [] 0)),(3,(.int .i64 i0))] [(1,[(.sl (some true) 16 x0.nodes.length (ab (U (some true)) x0.nodes)),(.sl (some true) 3 x0.aH.length (ab (aB (some true)) x0.aH)),(.sl (some true) 2 x0.log.length (ab (bj (some true)) x0.log)),(sI (some true) x0.safe),(.int .i64 x0.gen)])] [] 0)
def mj (x0:ak) (i0:Int) (i1:Int):St:=(St.mk [(1,(.ptr 1 [] 0)),(3,(.int .i64 i0)),(4,(.int .i64 i1))] [(1,[(.sl (some true) 16 x0.nodes.length (ab (U (some true)) x0.nodes)),(.sl (some true) 3 x0.aH.length (ab (aB (some true)) x0.aH)),(.sl (some true) 2 x0.log.length (ab (bj (some true)) x0.log)),(sI (some true) x0.safe),(.int .i64 x0.gen)])] [] 0)
def jC (x0:ak) (i0:Int):St:=(St.mk [(1,(.ptr 1 [] 0)),(5,(.int .i64 i0))] [(1,[(.sl (some true) 16 x0.nodes.length (ab (U (some true)) x0.nodes)),(.sl (some true) 3 x0.aH.length (ab (aB (some true)) x0.aH)),(.sl (some true) 2 x0.log.length (ab (bj (some true)) x0.log)),(sI (some true) x0.safe),(.int .i64 x0.gen)])] [] 0)
theorem IS:Told cfg Tryz.prog 220 Tryz.f220:=⟨by kernel_rfl,Tryz.func220,by kernel_rfl⟩
theorem IT (x0:ak):aW pr cv J 220 Tryz.f220 [(.agg (bM (some true) x0))]=
 (J 0 (mh x0 0)):=by kernel_rfl
theorem C7 (x0:ak) (i0:Int):bL pr cv J 220 Tryz.f220 [.undef] 0 (mh x0 i0)=
 (br (pr.lt i0 3) (J 2 (mj x0 i0 0)) (J 4 (jC x0 0))):=by kernel_rfl
theorem C8 (x0:ak) (i0:Int) (i1:Int):bL pr cv J 220 Tryz.f220 [.undef] 2 (mj x0 i0 i1)=
 let y1:List D:=(pr.aF (ab (U (some true)) x0.nodes) ((pr.idx 0 i0 16)+12))
 let y2:List D:=(pr.aF (ab (U (some true)) x0.nodes) ((pr.idx 0 i1 16)+12))
 (br (pr.lt i1 3) (br (pr.bm i0 x0.nodes.length) (br (br (pr.aN 1 (ab (U (some true)) x0.nodes) ((pr.idx 0 i0 16)+12)) true false) (br (pr.bm i1 (pr.aD (ab (U (some true)) x0.nodes) ((pr.idx 0 i0 16)+12))) (br (br (pr.bW y1 (pr.idx 0 i1 1)) true false) (br (pr.bm i1 x0.nodes.length) (br (br (pr.aN 1 (ab (U (some true)) x0.nodes) ((pr.idx 0 i1 16)+12)) true false) (br (pr.bm i0 (pr.aD (ab (U (some true)) x0.nodes) ((pr.idx 0 i1 16)+12))) (br (br (pr.bW y2 (pr.idx 0 i0 1)) true false) (br (br (pr.beq (pr.bC y1 (pr.idx 0 i1 1)) (pr.bC y2 (pr.idx 0 i0 1))) false true) (some ((.bool false),[.undef])) (J 2 (mj x0 i0 (pr.ar .add .i64 i1 1)))) none) none) none) none) none) none) none) none) (J 0 (mh x0 (pr.ar .add .i64 i0 1)))):=by kernel_rfl
theorem C9 (x0:ak) (i0:Int):bL pr cv J 220 Tryz.f220 [.undef] 4 (jC x0 i0)=
 let y1:Int:=(pr.aO (ab (aB (some true)) x0.aH) (pr.idx 0 i0 3))
 let y2:Option (D × List D):=(some ((.bool false),[.undef]))
 let y3:Int:=(pr.aO (ab (aB (some true)) x0.aH) ((pr.idx 0 i0 3)+1))
 let y4:List D:=(pr.aF (ab (U (some true)) x0.nodes) ((pr.idx 0 y1 16)+12))
 let y5:Nat:=(pr.idx 0 y3 1)
 (br (pr.lt i0 (pr.aV x0.aH.length)) (br (pr.bm i0 x0.aH.length) (br (br (pr.bR .i64 (ab (aB (some true)) x0.aH) (pr.idx 0 i0 3)) (br (pr.bR .i64 (ab (aB (some true)) x0.aH) ((pr.idx 0 i0 3)+1)) (br (pr.aN 1 (ab (aB (some true)) x0.aH) ((pr.idx 0 i0 3)+2)) true false) false) false) (cv 87 [(.int .i64 y1),(.int .i64 0),(.int .i64 2)] (.bool (fun bH=>(.done (br (br bH false true) y2 (cv 87 [(.int .i64 y3),(.int .i64 0),(.int .i64 2)] (.bool (fun eQ=>(.done (br (br eQ false true) y2 (br (pr.eq y1 y3) y2 (br (pr.bm y1 x0.nodes.length) (br (br (pr.aN 1 (ab (U (some true)) x0.nodes) ((pr.idx 0 y1 16)+12)) true false) (br (pr.bm y3 (pr.aD (ab (U (some true)) x0.nodes) ((pr.idx 0 y1 16)+12))) (br (br (pr.bW y4 y5) true false) (br (br (pr.bC y4 y5) false true) y2 (br (pr.lt 400 (pr.aV (pr.aD (ab (aB (some true)) x0.aH) ((pr.idx 0 i0 3)+2)))) y2 (J 4 (jC x0 (pr.ar .add .i64 i0 1))))) none) none) none) none)))))))))))) none) none) (some ((.bool (pr.le (pr.aV x0.aH.length) 40)),[.undef]))):=by kernel_rfl
def nb (x0:ak) (i0:Int):St:=(St.mk [(1,(.ptr 1 [] 0)),(3,(.int .i64 i0))] [(1,[(.sl (some true) 16 x0.nodes.length (ab (U (some true)) x0.nodes)),(.sl (some true) 3 x0.aH.length (ab (aB (some true)) x0.aH)),(.sl (some true) 2 x0.log.length (ab (bj (some true)) x0.log)),(sI (some true) x0.safe),(.int .i64 x0.gen)])] [] 0)
def nc (x0:ak) (i0:Int) (i1:Int) (i2:Int) (b3:Bool) (b4:Bool) (g5:Bool) (n6:Nat) (c7:List D) (g8:Bool) (n9:Nat) (rI:List D) (g11:Bool) (fI:Nat) (gh:List D) (xP:Bool) (jm:Bool) (nU:Bool) (i17:Int) (g18:Bool) (n19:Nat) (Qu:List D) (g21:Bool) (n22:Nat) (c23:List D) (g24:Bool) (n25:Nat) (yV:List D) (yW:Bool) (n28:Nat) (yX:List D) (yY:Bool) (n31:Nat) (E6:List D) (E7:Bool) (n34:Nat) (E8:List D):St:=(St.mk [(1,(.ptr 1 [] 0)),(3,(.int .i64 i0)),(4,(.ptr 4 [] 0)),(5,(.int .i64 i1))] [(1,[(.sl (some true) 16 x0.nodes.length (ab (U (some true)) x0.nodes)),(.sl (some true) 3 x0.aH.length (ab (aB (some true)) x0.aH)),(.sl (some true) 2 x0.log.length (ab (bj (some true)) x0.log)),(sI (some true) x0.safe),(.int .i64 x0.gen)]),(4,[(.int .i64 i2),(.bool b3),(.bool b4),(.sl (some g5) 1 n6 c7),(.sl (some g8) 1 n9 rI),(.sl (some g11) 1 fI gh),(.bool xP),(.bool jm),(.bool nU),(.int .i64 i17),(.sl (some g18) 1 n19 Qu),(.sl (some g21) 1 n22 c23),(.sl (some g24) 1 n25 yV),(.sl (some yW) 1 n28 yX),(.sl (some yY) 1 n31 E6),(.sl (some E7) 1 n34 E8)])] [] 0)
def kr (x0:ak) (i0:Int):St:=(St.mk [(1,(.ptr 1 [] 0)),(6,(.int .i64 i0))] [(1,[(.sl (some true) 16 x0.nodes.length (ab (U (some true)) x0.nodes)),(.sl (some true) 3 x0.aH.length (ab (aB (some true)) x0.aH)),(.sl (some true) 2 x0.log.length (ab (bj (some true)) x0.log)),(sI (some true) x0.safe),(.int .i64 x0.gen)])] [] 0)
def ks (x0:ak) (i0:Int):St:=(St.mk [(1,(.ptr 1 [] 0)),(7,(.int .i64 i0))] [(1,[(.sl (some true) 16 x0.nodes.length (ab (U (some true)) x0.nodes)),(.sl (some true) 3 x0.aH.length (ab (aB (some true)) x0.aH)),(.sl (some true) 2 x0.log.length (ab (bj (some true)) x0.log)),(sI (some true) x0.safe),(.int .i64 x0.gen)])] [] 0)
theorem Lc:Told cfg Tryz.prog 144 Tryz.f144:=⟨by kernel_rfl,Tryz.func144,by kernel_rfl⟩
theorem Ld (x0:ak):aW pr cv J 144 Tryz.f144 [(.agg (bM (some true) x0))]=
 let y1:Option (D × List D):=(some ((.bool false),[.undef]))
 (br (br (pr.eq (pr.aV x0.nodes.length) 3) false true) y1 (br (pr.lt 200 (pr.aV x0.log.length)) y1 (cv 87 [(.int .i64 x0.gen),(.int .i64 2),(.int .i64 100000)] (.bool (fun bH=>(.done (br (br bH false true) y1 (J 0 (nb x0 0))))))))):=by kernel_rfl
theorem D5 (x0:ak) (i0:Int):bL pr cv J 144 Tryz.f144 [.undef] 0 (nb x0 i0)=
 let y1:Int:=(pr.aO (ab (U (some true)) x0.nodes) (pr.idx 0 i0 16))
 let y2:Option (D × List D):=(some ((.bool false),[.undef]))
 let y3:D:=(.int .i64 y1)
 let y4:D:=(.bool (pr.bC (ab (U (some true)) x0.nodes) ((pr.idx 0 i0 16)+1)))
 let y5:D:=(.bool (pr.bC (ab (U (some true)) x0.nodes) ((pr.idx 0 i0 16)+2)))
 let y6:Option Bool:=(some (pr.aG (ab (U (some true)) x0.nodes) ((pr.idx 0 i0 16)+3)))
 let y7:Nat:=(pr.aD (ab (U (some true)) x0.nodes) ((pr.idx 0 i0 16)+3))
 let y8:List D:=(pr.aF (ab (U (some true)) x0.nodes) ((pr.idx 0 i0 16)+3))
 let y9:Option Bool:=(some (pr.aG (ab (U (some true)) x0.nodes) ((pr.idx 0 i0 16)+4)))
 let Xt:Nat:=(pr.aD (ab (U (some true)) x0.nodes) ((pr.idx 0 i0 16)+4))
 let Xu:List D:=(pr.aF (ab (U (some true)) x0.nodes) ((pr.idx 0 i0 16)+4))
 let y12:Option Bool:=(some (pr.aG (ab (U (some true)) x0.nodes) ((pr.idx 0 i0 16)+5)))
 let Xv:Nat:=(pr.aD (ab (U (some true)) x0.nodes) ((pr.idx 0 i0 16)+5))
 let Xw:List D:=(pr.aF (ab (U (some true)) x0.nodes) ((pr.idx 0 i0 16)+5))
 let y15:D:=(.bool (pr.bC (ab (U (some true)) x0.nodes) ((pr.idx 0 i0 16)+6)))
 let y16:D:=(.bool (pr.bC (ab (U (some true)) x0.nodes) ((pr.idx 0 i0 16)+7)))
 let y17:D:=(.bool (pr.bC (ab (U (some true)) x0.nodes) ((pr.idx 0 i0 16)+8)))
 let y18:Int:=(pr.aO (ab (U (some true)) x0.nodes) ((pr.idx 0 i0 16)+9))
 let y19:D:=(.int .i64 y18)
 let y20:Option Bool:=(some (pr.aG (ab (U (some true)) x0.nodes) ((pr.idx 0 i0 16)+10)))
 let y21:Nat:=(pr.aD (ab (U (some true)) x0.nodes) ((pr.idx 0 i0 16)+10))
 let y22:List D:=(pr.aF (ab (U (some true)) x0.nodes) ((pr.idx 0 i0 16)+10))
 let y23:Option Bool:=(some (pr.aG (ab (U (some true)) x0.nodes) ((pr.idx 0 i0 16)+11)))
 let y24:Nat:=(pr.aD (ab (U (some true)) x0.nodes) ((pr.idx 0 i0 16)+11))
 let y25:List D:=(pr.aF (ab (U (some true)) x0.nodes) ((pr.idx 0 i0 16)+11))
 let y26:Option Bool:=(some (pr.aG (ab (U (some true)) x0.nodes) ((pr.idx 0 i0 16)+12)))
 let y27:Nat:=(pr.aD (ab (U (some true)) x0.nodes) ((pr.idx 0 i0 16)+12))
 let y28:List D:=(pr.aF (ab (U (some true)) x0.nodes) ((pr.idx 0 i0 16)+12))
 let y29:Option Bool:=(some (pr.aG (ab (U (some true)) x0.nodes) ((pr.idx 0 i0 16)+13)))
 let y30:Nat:=(pr.aD (ab (U (some true)) x0.nodes) ((pr.idx 0 i0 16)+13))
 let y31:List D:=(pr.aF (ab (U (some true)) x0.nodes) ((pr.idx 0 i0 16)+13))
 let y32:Option Bool:=(some (pr.aG (ab (U (some true)) x0.nodes) ((pr.idx 0 i0 16)+14)))
 let y33:Nat:=(pr.aD (ab (U (some true)) x0.nodes) ((pr.idx 0 i0 16)+14))
 let y34:List D:=(pr.aF (ab (U (some true)) x0.nodes) ((pr.idx 0 i0 16)+14))
 let y35:Option Bool:=(some (pr.aG (ab (U (some true)) x0.nodes) ((pr.idx 0 i0 16)+15)))
 let y36:Nat:=(pr.aD (ab (U (some true)) x0.nodes) ((pr.idx 0 i0 16)+15))
 let y37:List D:=(pr.aF (ab (U (some true)) x0.nodes) ((pr.idx 0 i0 16)+15))
 (br (pr.lt i0 3) (br (pr.bm i0 x0.nodes.length) (br (br (pr.bR .i64 (ab (U (some true)) x0.nodes) (pr.idx 0 i0 16)) (br (pr.bW (ab (U (some true)) x0.nodes) ((pr.idx 0 i0 16)+1)) (br (pr.bW (ab (U (some true)) x0.nodes) ((pr.idx 0 i0 16)+2)) (br (pr.aN 1 (ab (U (some true)) x0.nodes) ((pr.idx 0 i0 16)+3)) (br (pr.aN 1 (ab (U (some true)) x0.nodes) ((pr.idx 0 i0 16)+4)) (br (pr.aN 1 (ab (U (some true)) x0.nodes) ((pr.idx 0 i0 16)+5)) (br (pr.bW (ab (U (some true)) x0.nodes) ((pr.idx 0 i0 16)+6)) (br (pr.bW (ab (U (some true)) x0.nodes) ((pr.idx 0 i0 16)+7)) (br (pr.bW (ab (U (some true)) x0.nodes) ((pr.idx 0 i0 16)+8)) (br (pr.bR .i64 (ab (U (some true)) x0.nodes) ((pr.idx 0 i0 16)+9)) (br (pr.aN 1 (ab (U (some true)) x0.nodes) ((pr.idx 0 i0 16)+10)) (br (pr.aN 1 (ab (U (some true)) x0.nodes) ((pr.idx 0 i0 16)+11)) (br (pr.aN 1 (ab (U (some true)) x0.nodes) ((pr.idx 0 i0 16)+12)) (br (pr.aN 1 (ab (U (some true)) x0.nodes) ((pr.idx 0 i0 16)+13)) (br (pr.aN 1 (ab (U (some true)) x0.nodes) ((pr.idx 0 i0 16)+14)) (br (pr.aN 1 (ab (U (some true)) x0.nodes) ((pr.idx 0 i0 16)+15)) true false) false) false) false) false) false) false) false) false) false) false) false) false) false) false) false) (br (br (pr.eq y1 i0) false true) y2 (cv 69 [(.agg [y3,y4,y5,(.sl y6 1 y7 y8),(.sl y9 1 Xt Xu),(.sl y12 1 Xv Xw),y15,y16,y17,y19,(.sl y20 1 y21 y22),(.sl y23 1 y24 y25),(.sl y26 1 y27 y28),(.sl y29 1 y30 y31),(.sl y32 1 y33 y34),(.sl y35 1 y36 y37)])] (.bool (fun bH=>(.done (br (br bH false true) y2 (br (pr.lt (pr.aV x0.log.length) y18) y2 (J 2 (nc x0 i0 0 y1 (pr.bC (ab (U (some true)) x0.nodes) ((pr.idx 0 i0 16)+1)) (pr.bC (ab (U (some true)) x0.nodes) ((pr.idx 0 i0 16)+2)) (pr.aG (ab (U (some true)) x0.nodes) ((pr.idx 0 i0 16)+3)) y7 y8 (pr.aG (ab (U (some true)) x0.nodes) ((pr.idx 0 i0 16)+4)) Xt Xu (pr.aG (ab (U (some true)) x0.nodes) ((pr.idx 0 i0 16)+5)) Xv Xw (pr.bC (ab (U (some true)) x0.nodes) ((pr.idx 0 i0 16)+6)) (pr.bC (ab (U (some true)) x0.nodes) ((pr.idx 0 i0 16)+7)) (pr.bC (ab (U (some true)) x0.nodes) ((pr.idx 0 i0 16)+8)) y18 (pr.aG (ab (U (some true)) x0.nodes) ((pr.idx 0 i0 16)+10)) y21 y22 (pr.aG (ab (U (some true)) x0.nodes) ((pr.idx 0 i0 16)+11)) y24 y25 (pr.aG (ab (U (some true)) x0.nodes) ((pr.idx 0 i0 16)+12)) y27 y28 (pr.aG (ab (U (some true)) x0.nodes) ((pr.idx 0 i0 16)+13)) y30 y31 (pr.aG (ab (U (some true)) x0.nodes) ((pr.idx 0 i0 16)+14)) y33 y34 (pr.aG (ab (U (some true)) x0.nodes) ((pr.idx 0 i0 16)+15)) y36 y37))))))))) none) none) (J 4 (kr x0 0))):=by kernel_rfl
theorem D6 (x0:ak) (i0:Int) (i1:Int) (i2:Int) (b3:Bool) (b4:Bool) (g5:Bool) (n6:Nat) (c7:List D) (g8:Bool) (n9:Nat) (rI:List D) (g11:Bool) (fI:Nat) (gh:List D) (xP:Bool) (jm:Bool) (nU:Bool) (i17:Int) (g18:Bool) (n19:Nat) (Qu:List D) (g21:Bool) (n22:Nat) (c23:List D) (g24:Bool) (n25:Nat) (yV:List D) (yW:Bool) (n28:Nat) (yX:List D) (yY:Bool) (n31:Nat) (E6:List D) (E7:Bool) (n34:Nat) (E8:List D):bL pr cv J 144 Tryz.f144 [.undef] 2 (nc x0 i0 i1 i2 b3 b4 g5 n6 c7 g8 n9 rI g11 fI gh xP jm nU i17 g18 n19 Qu g21 n22 c23 g24 n25 yV yW n28 yX yY n31 E6 E7 n34 E8)=
 (br (pr.lt i1 8) (br (pr.bm i1 n6) (br (br (pr.bR .i64 c7 (pr.idx 0 i1 1)) true false) (br (pr.lt (pr.aV x0.log.length) (pr.aO c7 (pr.idx 0 i1 1))) (some ((.bool false),[.undef])) (J 2 (nc x0 i0 (pr.ar .add .i64 i1 1) i2 b3 b4 g5 n6 c7 g8 n9 rI g11 fI gh xP jm nU i17 g18 n19 Qu g21 n22 c23 g24 n25 yV yW n28 yX yY n31 E6 E7 n34 E8))) none) none) (J 0 (nb x0 (pr.ar .add .i64 i0 1)))):=by kernel_rfl
theorem D7 (x0:ak) (i0:Int):bL pr cv J 144 Tryz.f144 [.undef] 4 (kr x0 i0)=
 let y1:Option (D × List D):=(some ((.bool false),[.undef]))
 (br (pr.lt i0 (pr.aV x0.log.length)) (br (pr.bm i0 x0.log.length) (br (br (pr.bR .i64 (ab (bj (some true)) x0.log) (pr.idx 0 i0 2)) true false) (cv 87 [(.int .i64 (pr.aO (ab (bj (some true)) x0.log) (pr.idx 0 i0 2))),(.int .i64 0),(.int .i64 7)] (.bool (fun bH=>(.done (br (br bH false true) y1 (br (pr.bm i0 x0.log.length) (br (br (pr.bR .i64 (ab (bj (some true)) x0.log) ((pr.idx 0 i0 2)+1)) true false) (cv 87 [(.int .i64 (pr.aO (ab (bj (some true)) x0.log) ((pr.idx 0 i0 2)+1))),(.int .i64 0),(.int .i64 i0)] (.bool (fun eQ=>(.done (br (br eQ false true) y1 (J 4 (kr x0 (pr.ar .add .i64 i0 1)))))))) none) none)))))) none) none) (J 6 (ks x0 0))):=by kernel_rfl
theorem D8 (x0:ak) (i0:Int):bL pr cv J 144 Tryz.f144 [.undef] 6 (ks x0 i0)=
 let y1:Bool:=(br (pr.bR .i64 (ints x0.safe) (pr.idx 0 i0 1)) true false)
 let y2:Option (D × List D):=(some ((.bool false),[.undef]))
 let y3:Option Rz:=(J 6 (ks x0 (pr.ar .add .i64 i0 1)))
 (br (pr.lt i0 (pr.aV x0.safe.length)) (br (pr.bm i0 x0.safe.length) (br y1 (cv 87 [(.int .i64 (pr.aO (ints x0.safe) (pr.idx 0 i0 1))),(.int .i64 1),(.int .i64 (pr.aV x0.log.length))] (.bool (fun bH=>(.done (br (br bH false true) y2 (br (pr.lt 0 i0) (br (pr.bm (pr.ar .sub .i64 i0 1) x0.safe.length) (br (br (pr.bR .i64 (ints x0.safe) (pr.idx 0 (pr.ar .sub .i64 i0 1) 1)) true false) (br (pr.bm i0 x0.safe.length) (br y1 (br (pr.le (pr.aO (ints x0.safe) (pr.idx 0 i0 1)) (pr.aO (ints x0.safe) (pr.idx 0 (pr.ar .sub .i64 i0 1) 1))) y2 y3) none) none) none) none) y3)))))) none) none) (cv 220 [(.agg [(.sl (some true) 16 x0.nodes.length (ab (U (some true)) x0.nodes)),(.sl (some true) 3 x0.aH.length (ab (aB (some true)) x0.aH)),(.sl (some true) 2 x0.log.length (ab (bj (some true)) x0.log)),(sI (some true) x0.safe),(.int .i64 x0.gen)])] (.bool (fun eQ=>(.done (some ((.bool eQ),[.undef]))))))):=by kernel_rfl
end
structure Le (w:ak) (x:dn):Prop where
 src:0<=x.src/\x.src<=2
 dst:0<=x.dst/\x.dst<=2
 ne:¬x.src=x.dst
 conn:(w.nodes.getD x.src.toNat n0).conn.getD x.dst.toNat false=true
 len:x.bytes.length<=400
structure Rj (x:fe) (i:Nat):Prop where
 cell:0<=x.cell/\x.cell<=7
 up:0<=x.up/\x.up<=i
structure ZT (w:ak) (i:Nat):Prop where
 vX:1<=w.safe.getD i 0/\w.safe.getD i 0<=w.log.length
 up:0 < (i:Int)->¬w.safe.getD i 0<=w.safe.getD (i - 1) 0
structure ZU (w:ak):Prop where
 sy:∀ i k,i < 3->k < 3->Gh w i k
 wr:∀ i,i < w.aH.length->Le w (w.aH.getD i w0)
 aH:(w.aH.length:Int)<=40
structure xW (w:ak):Prop where
 ns:K7 w
 aH:(w.aH.length:Int)<=40
 log:(w.log.length:Int)<=200
 gen:2<=w.gen/\w.gen<=100000
 wr:∀ i,i < w.aH.length->Le w (w.aH.getD i w0)
 rc:∀ i,i < w.log.length->Rj (w.log.getD i r0) i
 sf:∀ i,i < w.safe.length->ZT w i
open Classical in
noncomputable def oV (p:Prop):Bool:=decide p
open Classical in
theorem Oz {p:Prop} (h:p):oV p=true:=by unfold oV; exact decide_eq_true h
open Classical in
theorem aa0 {p:Prop} (h:¬p):oV p=false:=by unfold oV; exact decide_eq_false h
open Classical in
theorem agj {p:Prop} (h:oV p=true):p:=by unfold oV at h; exact of_decide_eq_true h
theorem agk {p q:Prop} (h:p↔q):oV p=oV q:=by rw [propext h]
theorem eK {p:Prop} {l:List D} (h:¬p):(some ((.bool false,l):Rz))=some (.bool (oV p),l):=by rw [aa0 h]
theorem As {p:Prop} {l:List D} (h:p):(some ((.bool true,l):Rz))=some (.bool (oV p),l):=by rw [Oz h]
noncomputable def ie (w:ak):Bool:=oV (xW w)
noncomputable def Da (w:ak):Bool:=oV (ZU w)
theorem uA {w:ak} (h:ie w=true):xW w:=agj h
open Classical in
theorem ahq {w:ak} (h:K7 w):qd w=true:=by unfold qd; exact decide_eq_true h
theorem okW {w:ak} (ok:cd w) {i:Nat} (h:i < w.aH.length):jA (w.aH.getD i w0):=ok.yg _ (pc h)
theorem dm {p:Nat->Prop} {i:Nat} (h:∀ a,a < i->p a) (hi:p i):∀ a,a < i+1->p a:=by
 intro a ha;by_cases e:a=i
 ·rw [e]; exact hi
 ·exact h a (by omega)
theorem Lf (w:ak) (q0:cd w):Cm 147 [.agg (bM (some true) w)] (.bool (ie w),[.undef]):=by
 unfold ie;have b1:=q0.nodes;have b2:=q0.aH;have b3:=q0.log;have b4:=q0.safe;refine Cm.step K9 [.undef] fun J hJ=>?_;rw [Lb]
 try simp (disch:=first | assumption | omega) only [go_sem]
 refine gv (fun h=>?_) (fun h=>eK fun o=>h (ahq o.ns));have ns:=ahp h;have nl:=ns.len
 try simp (disch:=first | assumption | omega) only [go_sem]
 refine bK (fun h=>eK fun o=>absurd o.aH (by omega)) (fun h1=>?_)
 try simp (disch:=first | assumption | omega) only [go_sem]
 refine bK (fun h=>eK fun o=>absurd o.log (by omega)) (fun h2=>?_)
 try simp (disch:=first | assumption | omega) only [go_sem]
 refine bK (fun h3=>?_) (fun h=>eK fun o=>h o.gen);have UK:(∀ i,i < w.aH.length->Le w (w.aH.getD i w0))->(∀ i,i < w.log.length->Rj (w.log.getD i r0) i)->WP 147 Tryz.f147 [.undef] 4 (kq w w.safe.length ((0:Nat):Int)) (.bool (oV (xW w)),[.undef]):=by
  intro wr rc;refine WP.up (H:=fun i:Nat=>kq w w.safe.length (i:Int)) w.safe.length (fun i=>∀ a,a < i->ZT w a) (fun i hi inv J hJ next=>?_) 0 (by omega) (fun a h=>absurd h (by omega))
  rw [D4]
  try simp (disch:=first | assumption | omega) only [go_sem]
  refine bK (fun hl=>?_) (fun hl=>As ⟨ns,by omega,by omega,h3,wr,rc,fun a ha=>inv a (by omega)⟩)
  try simp (disch:=first | assumption | omega) only [go_sem]
  refine bK (fun hr=>?_) (fun h=>eK fun o=>h (o.sf i (by omega)).vX)
  try simp (disch:=first | assumption | omega) only [go_sem]
  refine bK (fun hp=>?_) (fun hp=>?_)
  ·try simp (disch:=first | assumption | omega) only [go_sem]
   rw [show ((i:Int) - 1).toNat=i - 1 by omega]
   refine bK (fun h=>eK fun o=>(o.sf i (by omega)).up hp h) (fun hu=>?_)
   exact next (by omega) (dm inv ⟨hr,fun _=>hu⟩)
  ·try simp (disch:=first | assumption | omega) only [go_sem]
   exact next (by omega) (dm inv ⟨hr,fun h=>absurd h hp⟩)
 have second:(∀ i,i < w.aH.length->Le w (w.aH.getD i w0))->WP 147 Tryz.f147 [.undef] 2 (kp w w.log.length ((0:Nat):Int)) (.bool (oV (xW w)),[.undef]):=by
  intro wr;refine WP.up (H:=fun i:Nat=>kp w w.log.length (i:Int)) w.log.length (fun i=>∀ a,a < i->Rj (w.log.getD a r0) a) (fun i hi inv J hJ next=>?_) 0 (by omega) (fun a h=>absurd h (by omega))
  rw [D3]
  try simp (disch:=first | assumption | omega) only [go_sem]
  refine bK (fun hl=>?_) (fun hl=>hJ _ _ (UK wr fun a ha=>inv a (by omega)))
  try simp (disch:=first | assumption | omega) only [go_sem]
  refine bK (fun hr=>?_) (fun h=>eK fun o=>h (o.rc i (by omega)).cell)
  try simp (disch:=first | assumption | omega) only [go_sem]
  refine bK (fun hu=>?_) (fun h=>eK fun o=>h (o.rc i (by omega)).up)
  try simp (disch:=first | assumption | omega) only [go_sem]
  exact next (by omega) (dm inv ⟨hr,hu⟩)
 refine hJ _ _ ?_;refine WP.up (H:=fun i:Nat=>na w w.aH.length (i:Int)) w.aH.length (fun i=>∀ a,a < i->Le w (w.aH.getD a w0)) (fun i hi inv J hJ next=>?_) 0 (by omega) (fun a h=>absurd h (by omega))
 rw [D2]
 try simp (disch:=first | assumption | omega) only [go_sem]
 refine bK (fun hl=>?_) (fun hl=>hJ _ _ (second fun a ha=>inv a (by omega)))
 have ow:=okW q0 (show i < w.aH.length by omega)
 try simp (disch:=first | assumption | omega) only [go_sem]
 refine bK (fun hs=>?_) (fun h=>eK fun o=>h (o.wr i (by omega)).src)
 try simp (disch:=first | assumption | omega) only [go_sem]
 refine bK (fun hd=>?_) (fun h=>eK fun o=>h (o.wr i (by omega)).dst)
 try simp (disch:=first | assumption | omega) only [go_sem]
 refine bK (fun h=>eK fun o=>(o.wr i (by omega)).ne h) (fun hn=>?_)
 have cs:=(fL (ns.nd (w.aH.getD i w0).src.toNat (by omega)).ok).conn
 try simp (disch:=first | assumption | omega) only [go_sem]
 refine gv (fun hc=>?_) (fun h=>eK fun o=>h (o.wr i (by omega)).conn)
 try simp (disch:=first | assumption | omega) only [go_sem]
 refine bK (fun h=>eK fun o=>absurd (o.wr i (by omega)).len (by omega)) (fun hb=>?_)
 try simp (disch:=first | assumption | omega) only [go_sem]
 exact next (by omega) (dm inv ⟨hs,hd,hn,hc,by omega⟩)
@[go_sem] theorem adk (w:ak) (q0:cd w) (t:bO Rz):aX 147 [.agg (fj (some true) w)] t=feed t [.bool (ie w)]:=by
 exact bN (r:=.bool (ie w)) (s:=.bool) (ss:=[.undef]) (Lf w q0) (by kernel_rfl) (by simp only [av,bw,aU,bz,bA,af,aj,tC]) (by simp only [af,aJ,av,aj,tC]) (by first | rfl | simp only [au,aS,aR,bq,bt,aT,bu,tC]) (by first | rfl | simp only [UL,aab,au,tC]) t
theorem agl {w:ak} {i k:Nat} (hi:i < 3) (hk:k < 3) (o:∀ i k,i < 3->k < 3->Gh w i k):(w.nodes.getD i n0).conn.getD k false=(w.nodes.getD k n0).conn.getD i false:=by
 have h1:=o i k hi hk;have h2:=o k i hk hi;unfold Gh at h1 h2;cases h:(w.nodes.getD i n0).conn.getD k false<;>cases h':(w.nodes.getD k n0).conn.getD i false<;>simp_all
theorem IU (w:ak) (q0:cd w) (q1:w.nodes.length=3) (q2:∀ i,i < 3->((w.nodes.getD i n0).conn.length:Int)=3):Cm 220 [.agg (bM (some true) w)] (.bool (Da w),[.undef]):=by
 unfold Da;have b2:=q0.aH;refine Cm.step IS [.undef] fun J hJ=>?_;rw [IT];have second:(∀ i k,i < 3->k < 3->Gh w i k)->WP 220 Tryz.f220 [.undef] 4 (jC w ((0:Nat):Int)) (.bool (oV (ZU w)),[.undef]):=by
  intro sy;refine WP.up (H:=fun i:Nat=>jC w (i:Int)) w.aH.length (fun i=>∀ a,a < i->Le w (w.aH.getD a w0)) (fun i hi inv J hJ next=>?_) 0 (by omega) (fun a h=>absurd h (by omega))
  rw [C9]
  try simp (disch:=first | assumption | omega) only [go_sem]
  refine bK (fun hl=>?_) (fun hl=>?_)
  ·have ow:=okW q0 (show i < w.aH.length by omega)
   try simp (disch:=first | assumption | omega) only [go_sem]
   refine bK (fun hs=>?_) (fun h=>eK fun o=>h (o.wr i (by omega)).src)
   try simp (disch:=first | assumption | omega) only [go_sem]
   refine bK (fun hd=>?_) (fun h=>eK fun o=>h (o.wr i (by omega)).dst)
   try simp (disch:=first | assumption | omega) only [go_sem]
   refine bK (fun h=>eK fun o=>(o.wr i (by omega)).ne h) (fun hn=>?_)
   have cs:=q2 (w.aH.getD i w0).src.toNat (by omega)
   try simp (disch:=first | assumption | omega) only [go_sem]
   refine gv (fun hc=>?_) (fun h=>eK fun o=>h (o.wr i (by omega)).conn)
   try simp (disch:=first | assumption | omega) only [go_sem]
   refine bK (fun h=>eK fun o=>absurd (o.wr i (by omega)).len (by omega)) (fun hb=>?_)
   try simp (disch:=first | assumption | omega) only [go_sem]
   exact next (by omega) (dm inv ⟨hs,hd,hn,hc,by omega⟩)
  ·by_cases h:(w.aH.length:Int)<=40
   ·rw [decide_eq_true h];exact As ⟨sy,fun a ha=>inv a (by omega),h⟩
   ·rw [decide_eq_false h];exact eK fun o=>h o.aH
 refine hJ _ _ ?_;refine WP.Ml (H:=fun i:Nat=>mh w (i:Int)) 3 (fun i=>∀ a,a < i->∀ k,k < 3->(w.nodes.getD a n0).conn.getD k false=(w.nodes.getD k n0).conn.getD a false) (fun i hi inv next=>?_) 0 (by omega) (fun a h=>absurd h (by omega))
 refine WP.step fun J hJ=>?_;rw [C7]
 try simp (disch:=first | assumption | omega) only [go_sem]
 refine bK (fun hl=>?_) (fun hl=>hJ _ _ (second fun a k ha hk h=>by rw [<- inv a (by omega) k hk]; exact h))
 refine hJ _ _ ?_;refine WP.up (H:=fun k:Nat=>mj w (i:Int) (k:Int)) 3 (fun k=>∀ b,b < k->(w.nodes.getD i n0).conn.getD b false=(w.nodes.getD b n0).conn.getD i false) (fun k hk inv2 J hJ qe=>?_) 0 (by omega) (fun a h=>absurd h (by omega))
 rw [C8]
 try simp (disch:=first | assumption | omega) only [go_sem]
 refine bK (fun G3=>?_) (fun G3=>?_)
 ·have ci:=q2 i (by omega)
  have ck:=q2 k (by omega)
  try simp (disch:=first | assumption | omega) only [go_sem]
  refine bK (fun he=>?_) (fun h=>eK fun o=>h (agl (by omega) (by omega) o.sy))
  try simp (disch:=first | assumption | omega) only [go_sem]
  exact qe (by omega) (dm inv2 he)
 ·try simp (disch:=first | assumption | omega) only [go_sem]
  exact hJ _ _ (next (by omega) (dm inv fun b hb=>inv2 b (by omega)))
@[go_sem] theorem aa1 (w:ak) (q0:cd w) (q1:w.nodes.length=3) (q2:∀ i,i < 3->((w.nodes.getD i n0).conn.length:Int)=3) (t:bO Rz):aX 220 [.agg (fj (some true) w)] t=feed t [.bool (Da w)]:=by
 exact bN (r:=.bool (Da w)) (s:=.bool) (ss:=[.undef]) (IU w q0 q1 q2) (by kernel_rfl) (by simp only [av,bw,aU,bz,bA,af,aj,tC]) (by simp only [af,aJ,av,aj,tC]) (by first | rfl | simp only [au,aS,aR,bq,bt,aT,bu,tC]) (by first | rfl | simp only [UL,aab,au,tC]) t
theorem agm {l:Int} {xs:List Int} {n:Nat} (e:xs.length=n) (h:∀ k,k < n->xs.getD k 0<=l):∀ x∈xs,x<=l:=by
 intro x hx;obtain ⟨k,hk,rfl⟩:=aeQ hx;rw [<- dT (d:=0) hk];exact h k (by omega)
theorem agn {xs:List Int} (h:ki xs=true):xs.length=8:=by
 unfold ki at h;simp only [Bh,decide_eq_true_eq] at h;omega
theorem Lg (w:ak) (q0:cd w):Cm 144 [.agg (bM (some true) w)] (.bool (ie w),[.undef]):=by
 unfold ie;have b1:=q0.nodes;have b2:=q0.aH;have b3:=q0.log;have b4:=q0.safe;refine Cm.step Lc [.undef] fun J hJ=>?_;rw [Ld]
 try simp (disch:=first | assumption | omega) only [go_sem]
 refine bK (fun h3=>?_) (fun h=>eK fun o=>h (by have:=o.ns.len; omega))
 have nl:w.nodes.length=3:=by omega
 try simp (disch:=first | assumption | omega) only [go_sem]
 refine bK (fun h=>eK fun o=>absurd o.log (by omega)) (fun h2=>?_)
 try simp (disch:=first | assumption | omega) only [go_sem]
 refine bK (fun h3=>?_) (fun h=>eK fun o=>h o.gen)
 try simp (disch:=first | assumption | omega) only [go_sem]
 have ago:(∀ i,i < 3->K6 w i)->(∀ i,i < w.log.length->Rj (w.log.getD i r0) i)->WP 144 Tryz.f144 [.undef] 6 (ks w ((0:Nat):Int)) (.bool (oV (xW w)),[.undef]):=by
  intro nd rc;refine WP.up (H:=fun i:Nat=>ks w (i:Int)) w.safe.length (fun i=>∀ a,a < i->ZT w a) (fun i hi inv J hJ next=>?_) 0 (by omega) (fun a h=>absurd h (by omega))
  rw [D8]
  try simp (disch:=first | assumption | omega) only [go_sem]
  refine bK (fun hl=>?_) (fun hl=>?_)
  ·try simp (disch:=first | assumption | omega) only [go_sem]
   refine bK (fun hr=>?_) (fun h=>eK fun o=>h (o.sf i (by omega)).vX)
   try simp (disch:=first | assumption | omega) only [go_sem]
   refine bK (fun hp=>?_) (fun hp=>?_)
   ·try simp (disch:=first | assumption | omega) only [go_sem]
    rw [show ((i:Int) - 1).toNat=i - 1 by omega]
    refine bK (fun h=>eK fun o=>(o.sf i (by omega)).up hp h) (fun hu=>?_)
    exact next (by omega) (dm inv ⟨hr,fun _=>hu⟩)
   ·try simp (disch:=first | assumption | omega) only [go_sem]
    exact next (by omega) (dm inv ⟨hr,fun h=>absurd h hp⟩)
  ·have hc:∀ i,i < 3->((w.nodes.getD i n0).conn.length:Int)=3:=fun i hi=>(fL (nd i hi).ok).conn
   try simp (disch:=first | assumption | omega) only [go_sem]
   unfold Da;rw [agk (p:=ZU w) (q:=xW w) ⟨fun o=>⟨⟨nl,nd,o.sy⟩,o.aH,by omega,h3,o.wr,rc,fun a ha=>inv a (by omega)⟩,fun o=>⟨o.ns.sy,o.wr,o.aH⟩⟩]
 have UK:(∀ i,i < 3->K6 w i)->WP 144 Tryz.f144 [.undef] 4 (kr w ((0:Nat):Int)) (.bool (oV (xW w)),[.undef]):=by
  intro nd;refine WP.up (H:=fun i:Nat=>kr w (i:Int)) w.log.length (fun i=>∀ a,a < i->Rj (w.log.getD a r0) a) (fun i hi inv J hJ next=>?_) 0 (by omega) (fun a h=>absurd h (by omega))
  rw [D7]
  try simp (disch:=first | assumption | omega) only [go_sem]
  refine bK (fun hl=>?_) (fun hl=>hJ _ _ (ago nd fun a ha=>inv a (by omega)))
  try simp (disch:=first | assumption | omega) only [go_sem]
  refine bK (fun hr=>?_) (fun h=>eK fun o=>h (o.rc i (by omega)).cell)
  try simp (disch:=first | assumption | omega) only [go_sem]
  refine bK (fun hu=>?_) (fun h=>eK fun o=>h (o.rc i (by omega)).up)
  try simp (disch:=first | assumption | omega) only [go_sem]
  exact next (by omega) (dm inv ⟨hr,hu⟩)
 refine hJ _ _ ?_;refine WP.Ml (H:=fun i:Nat=>nb w (i:Int)) 3 (fun i=>∀ a,a < i->K6 w a) (fun i hi inv next=>?_) 0 (by omega) (fun a h=>absurd h (by omega))
 refine WP.step fun J hJ=>?_;rw [D5]
 try simp (disch:=first | assumption | omega) only [go_sem]
 refine bK (fun hl=>?_) (fun hl=>hJ _ _ (UK fun a ha=>inv a (by omega)))
 have oi:=Ri q0 (show i < w.nodes.length by omega)
 try simp (disch:=first | assumption | omega) only [go_sem]
 refine bK (fun hd=>?_) (fun h=>eK fun o=>h (o.ns.nd i (by omega)).id)
 try simp (disch:=first | assumption | omega) only [go_sem]
 refine gv (fun hn=>?_) (fun h=>eK fun o=>h (o.ns.nd i (by omega)).ok)
 try simp (disch:=first | assumption | omega) only [go_sem]
 refine bK (fun h=>eK fun o=>absurd (o.ns.nd i (by omega)).last (by omega)) (fun hla=>?_)
 try simp (disch:=first | assumption | omega) only [go_sem]
 have i8:=agn (fL hn).image;refine hJ _ _ ?_;refine WP.up (H:=fun k:Nat=>nc w i k _ _ _ _ _ _ _ _ _ _ _ _ _ _ _ _ _ _ _ _ _ _ _ _ _ _ _ _ _ _ _ _ _ _) 8 (fun k=>∀ b,b < k->(w.nodes.getD i n0).image.getD b 0<=w.log.length) (fun k hk inv2 J hJ qe=>?_) 0 (by omega) (fun a h=>absurd h (by omega))
 rw [D6]
 try simp (disch:=first | assumption | omega) only [go_sem]
 refine bK (fun hk8=>?_) (fun hk8=>?_)
 ·try simp (disch:=first | assumption | omega) only [go_sem]
  refine bK (fun h=>eK fun o=>absurd ((o.ns.nd i (by omega)).cells _ (pc (d:=0) (show k < (w.nodes.getD i n0).image.length by omega))) (by omega)) (fun hc=>?_)
  try simp (disch:=first | assumption | omega) only [go_sem]
  exact qe (by omega) (dm inv2 (by omega))
 ·try simp (disch:=first | assumption | omega) only [go_sem]
  exact hJ _ _ (next (by omega) (dm inv ⟨hn,hd,by omega,agm i8 fun k hk=>inv2 k (by omega)⟩))
@[go_sem] theorem adl (w:ak) (q0:cd w) (t:bO Rz):aX 144 [.agg (fj (some true) w)] t=feed t [.bool (ie w)]:=by
 exact bN (r:=.bool (ie w)) (s:=.bool) (ss:=[.undef]) (Lg w q0) (by kernel_rfl) (by simp only [av,bw,aU,bz,bA,af,aj,tC]) (by simp only [af,aJ,av,aj,tC]) (by first | rfl | simp only [au,aS,aR,bq,bt,aT,bu,tC]) (by first | rfl | simp only [UL,aab,au,tC]) t
end Go.Proofs.YtckkpgcnhdllgaaGreat
