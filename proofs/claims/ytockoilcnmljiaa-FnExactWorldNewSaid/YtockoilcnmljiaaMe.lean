/- What the proof of FnExactWorldNew stands on, part 5: an abstract machine on plain data, its soundness, and the contracts of functions. -/
import Derived.Attr
import Derived.Test.YtockoilcnmljiaaMd
set_option linter.all false
set_option linter.unusedSimpArgs false
set_option linter.unusedVariables false
set_option linter.unnecessarySimpa false
set_option linter.unusedSectionVars false
namespace Go.Proofs.Ytockoilcnmljiaa
set_option maxRecDepth 100000
section
variable (pr:dA) (cv:Cv Rz) (J:Nat->St->Option Rz)
def kB (i0:Int) (i1:Int) (n2:Nat) (c3:List D):St:=(St.mk [(0,(.ref 19 [] 0 none)),(1,(.int .i64 i0)),(5,(.int .i64 i1))] [(19,[(.sl none 1 n2 c3)])] [] 0)
theorem Dp:Told cfg Try.prog 88 Try.f88:=⟨by kernel_rfl,Try.func88,by kernel_rfl⟩
theorem Dq (n0:Nat) (c0:List D) (a1:Int):aR pr cv J 88 Try.f88 [(.sl none 1 n0 c0),(.int .i64 a1)]=
 (J 0 (kB a1 0 n0 c0)):=by kernel_rfl
theorem qH (i0:Int) (i1:Int) (n2:Nat) (c3:List D):bR pr cv J 88 Try.f88 [(.sl none 0 0 []),.undef] 0 (kB i0 i1 n2 c3)=
 (br (pr.lt i1 (pr.bc n2)) (br (pr.bh i1 n2) (br (br (pr.pC c3 (pr.idx 0 i1 1)) true false) (br (pr.jC 1 c3 (pr.idx 0 i1 1)) (br (pr.nl (pr.bn c3 (pr.idx 0 i1 1))) (cv 54 [(.sl none 1 (pr.bf c3 (pr.idx 0 i1 1)) (pr.bn c3 (pr.idx 0 i1 1))),(.int .i64 i0)] (.int (fun fh=>(.sl (fun Fk=>(fun As=>(.done (br (br (br (pr.nl As) true false) true false) (br (pr.neq (pr.bf c3 (pr.idx 0 i1 1)) Fk) (cv 999999 [(.sl none 0 0 (List.set c3 (pr.idx 0 i1 1) (.sl none 1 Fk As)))] (.sl (fun yQ=>(fun qj=>(.done (J 0 (kB fh (pr.ar .add .i64 i1 1) n2 qj))))))) none) none)))))))) none) none) none) none) (some ((.int .i64 i0),[(.sl none 1 n2 c3),.undef]))):=by kernel_rfl
def gw (i0:Int) (i1:Int) (n2:Nat) (c3:List D):St:=(St.mk [(0,(.ref 34 [] 0 none)),(1,(.int .i64 i0)),(5,(.int .i64 i1))] [(34,[(.sl none 3 n2 c3)])] [] 0)
theorem Dr:Told cfg Try.prog 52 Try.f52:=⟨by kernel_rfl,Try.func52,by kernel_rfl⟩
theorem Dt (n0:Nat) (c0:List D) (a1:Int):aR pr cv J 52 Try.f52 [(.sl none 3 n0 c0),(.int .i64 a1)]=
 (J 0 (gw a1 0 n0 c0)):=by kernel_rfl
theorem qI (i0:Int) (i1:Int) (n2:Nat) (c3:List D):bR pr cv J 52 Try.f52 [(.sl none 0 0 []),.undef] 0 (gw i0 i1 n2 c3)=
 (br (pr.lt i1 (pr.bc n2)) (br (pr.bh i1 n2) (br (pr.ne c3) (br (pr.slot c3 (pr.idx 0 i1 3)) (cv 999999 [(.sl none 0 0 (List.set c3 (pr.idx 0 i1 3) (.int .i64 i0)))] (.sl (fun eC=>(fun dq=>(.done (br (pr.bh i1 n2) (br (pr.ne dq) (br (pr.slot dq ((pr.idx 0 i1 3)+1)) (cv 999999 [(.sl none 0 0 (List.set dq ((pr.idx 0 i1 3)+1) (.int .i64 (pr.ar .add .i64 i0 1))))] (.sl (fun mU=>(fun fx=>(.done (br (pr.bh i1 n2) (br (pr.ne fx) (br (br (pr.pC fx ((pr.idx 0 i1 3)+2)) true false) (br (pr.jC 1 fx ((pr.idx 0 i1 3)+2)) (br (pr.nl (pr.bn fx ((pr.idx 0 i1 3)+2))) (cv 89 [(.sl none 1 (pr.bf fx ((pr.idx 0 i1 3)+2)) (pr.bn fx ((pr.idx 0 i1 3)+2))),(.int .i64 (pr.ar .add .i64 (pr.ar .add .i64 i0 1) 1))] (.int (fun mv=>(.sl (fun Fl=>(fun Cq=>(.done (br (br (br (pr.nl Cq) true false) true false) (br (pr.neq (pr.bf fx ((pr.idx 0 i1 3)+2)) Fl) (cv 999999 [(.sl none 0 0 (List.set fx ((pr.idx 0 i1 3)+2) (.sl none 1 Fl Cq)))] (.sl (fun Fm=>(fun At=>(.done (J 0 (gw mv (pr.ar .add .i64 i1 1) n2 At))))))) none) none)))))))) none) none) none) none) none)))))) none) none) none)))))) none) none) none) (some ((.int .i64 i0),[(.sl none 3 n2 c3),.undef]))):=by kernel_rfl
def gU (i0:Int) (i1:Int) (n2:Nat) (c3:List D):St:=(St.mk [(0,(.ref 27 [] 0 none)),(1,(.int .i64 i0)),(5,(.int .i64 i1))] [(27,[(.sl none 2 n2 c3)])] [] 0)
theorem Fo:Told cfg Try.prog 53 Try.f53:=⟨by kernel_rfl,Try.func53,by kernel_rfl⟩
theorem Fp (n0:Nat) (c0:List D) (a1:Int):aR pr cv J 53 Try.f53 [(.sl none 2 n0 c0),(.int .i64 a1)]=
 (J 0 (gU a1 0 n0 c0)):=by kernel_rfl
theorem sr (i0:Int) (i1:Int) (n2:Nat) (c3:List D):bR pr cv J 53 Try.f53 [(.sl none 0 0 []),.undef] 0 (gU i0 i1 n2 c3)=
 (br (pr.lt i1 (pr.bc n2)) (br (pr.bh i1 n2) (br (pr.ne c3) (br (pr.slot c3 (pr.idx 0 i1 2)) (cv 999999 [(.sl none 0 0 (List.set c3 (pr.idx 0 i1 2) (.int .i64 i0)))] (.sl (fun eC=>(fun dq=>(.done (br (pr.bh i1 n2) (br (pr.ne dq) (br (pr.slot dq ((pr.idx 0 i1 2)+1)) (cv 999999 [(.sl none 0 0 (List.set dq ((pr.idx 0 i1 2)+1) (.int .i64 (pr.ar .add .i64 i0 1))))] (.sl (fun mU=>(fun fx=>(.done (J 0 (gU (pr.ar .add .i64 (pr.ar .add .i64 i0 1) 1) (pr.ar .add .i64 i1 1) n2 fx))))))) none) none) none)))))) none) none) none) (some ((.int .i64 i0),[(.sl none 2 n2 c3),.undef]))):=by kernel_rfl
def gx (i0:Int) (i1:Int) (n2:Nat) (c3:List D):St:=(St.mk [(0,(.ref 143 [] 0 none)),(1,(.int .i64 i0)),(5,(.int .i64 i1))] [(143,[(.sl none 16 n2 c3)])] [] 0)
theorem Du:Told cfg Try.prog 51 Try.f51:=⟨by kernel_rfl,Try.func51,by kernel_rfl⟩
theorem Dv (n0:Nat) (c0:List D) (a1:Int):aR pr cv J 51 Try.f51 [(.sl none 16 n0 c0),(.int .i64 a1)]=
 (J 0 (gx a1 0 n0 c0)):=by kernel_rfl
theorem qJ (i0:Int) (i1:Int) (n2:Nat) (c3:List D):bR pr cv J 51 Try.f51 [(.sl none 0 0 []),.undef] 0 (gx i0 i1 n2 c3)=
 (br (pr.lt i1 (pr.bc n2)) (br (pr.bh i1 n2) (br (pr.ne c3) (br (pr.slot c3 (pr.idx 0 i1 16)) (cv 999999 [(.sl none 0 0 (List.set c3 (pr.idx 0 i1 16) (.int .i64 i0)))] (.sl (fun eC=>(fun dq=>(.done (br (br (pr.eq 3 0) false true) (br (pr.bh i1 n2) (br (pr.ne dq) (br (pr.slot dq ((pr.idx 0 i1 16)+1)) (cv 999999 [(.sl none 0 0 (List.set dq ((pr.idx 0 i1 16)+1) (.bool (pr.eq (pr.ar .rem .i64 (pr.ar .add .i64 i0 1) 3) 0))))] (.sl (fun mU=>(fun fx=>(.done (br (br (pr.eq 3 0) false true) (br (pr.bh i1 n2) (br (pr.ne fx) (br (pr.slot fx ((pr.idx 0 i1 16)+2)) (cv 999999 [(.sl none 0 0 (List.set fx ((pr.idx 0 i1 16)+2) (.bool (pr.eq (pr.ar .rem .i64 (pr.ar .add .i64 (pr.ar .add .i64 i0 1) 1) 3) 0))))] (.sl (fun Fa=>(fun qG=>(.done (br (pr.bh i1 n2) (br (pr.ne qG) (br (br (pr.pC qG ((pr.idx 0 i1 16)+3)) true false) (br (pr.jC 1 qG ((pr.idx 0 i1 16)+3)) (br (pr.nl (pr.bn qG ((pr.idx 0 i1 16)+3))) (cv 54 [(.sl none 1 (pr.bf qG ((pr.idx 0 i1 16)+3)) (pr.bn qG ((pr.idx 0 i1 16)+3))),(.int .i64 (pr.ar .add .i64 (pr.ar .add .i64 (pr.ar .add .i64 i0 1) 1) 1))] (.int (fun Fb=>(.sl (fun Fm=>(fun At=>(.done (br (br (br (pr.nl At) true false) true false) (br (pr.neq (pr.bf qG ((pr.idx 0 i1 16)+3)) Fm) (cv 999999 [(.sl none 0 0 (List.set qG ((pr.idx 0 i1 16)+3) (.sl none 1 Fm At)))] (.sl (fun IY=>(fun kX=>(.done (br (pr.bh i1 n2) (br (pr.ne kX) (br (pr.ne kX) (br (br (pr.pC kX ((pr.idx 0 i1 16)+4)) true false) (br (pr.jC 1 kX ((pr.idx 0 i1 16)+4)) (br (pr.nl (pr.bn kX ((pr.idx 0 i1 16)+4))) (cv 54 [(.sl none 1 (pr.bf kX ((pr.idx 0 i1 16)+4)) (pr.bn kX ((pr.idx 0 i1 16)+4))),(.int .i64 Fb)] (.int (fun ym=>(.sl (fun Qt=>(fun ME=>(.done (br (br (br (pr.nl ME) true false) true false) (br (pr.neq (pr.bf kX ((pr.idx 0 i1 16)+4)) Qt) (cv 999999 [(.sl none 0 0 (List.set kX ((pr.idx 0 i1 16)+4) (.sl none 1 Qt ME)))] (.sl (fun abt=>(fun sO=>(.done (br (pr.bh i1 n2) (br (pr.ne sO) (br (pr.ne sO) (br (br (pr.pC sO ((pr.idx 0 i1 16)+5)) true false) (br (pr.jC 1 sO ((pr.idx 0 i1 16)+5)) (br (pr.nl (pr.bn sO ((pr.idx 0 i1 16)+5))) (cv 88 [(.sl none 1 (pr.bf sO ((pr.idx 0 i1 16)+5)) (pr.bn sO ((pr.idx 0 i1 16)+5))),(.int .i64 ym)] (.int (fun Au=>(.sl (fun abF=>(fun abG=>(.done (br (br (br (pr.nl abG) true false) true false) (br (pr.neq (pr.bf sO ((pr.idx 0 i1 16)+5)) abF) (cv 999999 [(.sl none 0 0 (List.set sO ((pr.idx 0 i1 16)+5) (.sl none 1 abF abG)))] (.sl (fun Av=>(fun mN=>(.done (br (br (pr.eq 3 0) false true) (br (pr.bh i1 n2) (br (pr.ne mN) (br (pr.ne mN) (br (pr.slot mN ((pr.idx 0 i1 16)+6)) (cv 999999 [(.sl none 0 0 (List.set mN ((pr.idx 0 i1 16)+6) (.bool (pr.eq (pr.ar .rem .i64 Au 3) 0))))] (.sl (fun akz=>(fun Qy=>(.done (br (br (pr.eq 3 0) false true) (br (pr.bh i1 n2) (br (pr.ne Qy) (br (pr.ne Qy) (br (pr.slot Qy ((pr.idx 0 i1 16)+7)) (cv 999999 [(.sl none 0 0 (List.set Qy ((pr.idx 0 i1 16)+7) (.bool (pr.eq (pr.ar .rem .i64 (pr.ar .add .i64 Au 1) 3) 0))))] (.sl (fun akA=>(fun Qz=>(.done (br (br (pr.eq 3 0) false true) (br (pr.bh i1 n2) (br (pr.ne Qz) (br (pr.ne Qz) (br (pr.slot Qz ((pr.idx 0 i1 16)+8)) (cv 999999 [(.sl none 0 0 (List.set Qz ((pr.idx 0 i1 16)+8) (.bool (pr.eq (pr.ar .rem .i64 (pr.ar .add .i64 (pr.ar .add .i64 Au 1) 1) 3) 0))))] (.sl (fun akB=>(fun QA=>(.done (br (pr.bh i1 n2) (br (pr.ne QA) (br (pr.ne QA) (br (pr.slot QA ((pr.idx 0 i1 16)+9)) (cv 999999 [(.sl none 0 0 (List.set QA ((pr.idx 0 i1 16)+9) (.int .i64 (pr.ar .add .i64 (pr.ar .add .i64 (pr.ar .add .i64 Au 1) 1) 1))))] (.sl (fun akC=>(fun yn=>(.done (br (pr.bh i1 n2) (br (pr.ne yn) (br (pr.ne yn) (br (br (pr.pC yn ((pr.idx 0 i1 16)+10)) true false) (br (pr.jC 1 yn ((pr.idx 0 i1 16)+10)) (br (pr.nl (pr.bn yn ((pr.idx 0 i1 16)+10))) (cv 89 [(.sl none 1 (pr.bf yn ((pr.idx 0 i1 16)+10)) (pr.bn yn ((pr.idx 0 i1 16)+10))),(.int .i64 (pr.ar .add .i64 (pr.ar .add .i64 (pr.ar .add .i64 (pr.ar .add .i64 Au 1) 1) 1) 1))] (.int (fun aft=>(.sl (fun abH=>(fun abI=>(.done (br (br (br (pr.nl abI) true false) true false) (br (pr.neq (pr.bf yn ((pr.idx 0 i1 16)+10)) abH) (cv 999999 [(.sl none 0 0 (List.set yn ((pr.idx 0 i1 16)+10) (.sl none 1 abH abI)))] (.sl (fun akD=>(fun yo=>(.done (br (pr.bh i1 n2) (br (pr.ne yo) (br (pr.ne yo) (br (br (pr.pC yo ((pr.idx 0 i1 16)+11)) true false) (br (pr.jC 1 yo ((pr.idx 0 i1 16)+11)) (br (pr.nl (pr.bn yo ((pr.idx 0 i1 16)+11))) (cv 89 [(.sl none 1 (pr.bf yo ((pr.idx 0 i1 16)+11)) (pr.bn yo ((pr.idx 0 i1 16)+11))),(.int .i64 aft)] (.int (fun afu=>(.sl (fun abJ=>(fun abK=>(.done (br (br (br (pr.nl abK) true false) true false) (br (pr.neq (pr.bf yo ((pr.idx 0 i1 16)+11)) abJ) (cv 999999 [(.sl none 0 0 (List.set yo ((pr.idx 0 i1 16)+11) (.sl none 1 abJ abK)))] (.sl (fun akE=>(fun Aw=>(.done (br (pr.bh i1 n2) (br (pr.ne Aw) (br (br (pr.pC Aw ((pr.idx 0 i1 16)+12)) true false) (br (pr.jC 1 Aw ((pr.idx 0 i1 16)+12)) (br (pr.nl (pr.bn Aw ((pr.idx 0 i1 16)+12))) (cv 90 [(.sl none 1 (pr.bf Aw ((pr.idx 0 i1 16)+12)) (pr.bn Aw ((pr.idx 0 i1 16)+12))),(.int .i64 afu)] (.int (fun afv=>(.sl (fun abL=>(fun abM=>(.done (br (br (br (pr.nl abM) true false) true false) (br (pr.neq (pr.bf Aw ((pr.idx 0 i1 16)+12)) abL) (cv 999999 [(.sl none 0 0 (List.set Aw ((pr.idx 0 i1 16)+12) (.sl none 1 abL abM)))] (.sl (fun akF=>(fun Ax=>(.done (br (pr.bh i1 n2) (br (pr.ne Ax) (br (br (pr.pC Ax ((pr.idx 0 i1 16)+13)) true false) (br (pr.jC 1 Ax ((pr.idx 0 i1 16)+13)) (br (pr.nl (pr.bn Ax ((pr.idx 0 i1 16)+13))) (cv 88 [(.sl none 1 (pr.bf Ax ((pr.idx 0 i1 16)+13)) (pr.bn Ax ((pr.idx 0 i1 16)+13))),(.int .i64 afv)] (.int (fun afw=>(.sl (fun abN=>(fun abO=>(.done (br (br (br (pr.nl abO) true false) true false) (br (pr.neq (pr.bf Ax ((pr.idx 0 i1 16)+13)) abN) (cv 999999 [(.sl none 0 0 (List.set Ax ((pr.idx 0 i1 16)+13) (.sl none 1 abN abO)))] (.sl (fun akG=>(fun Ay=>(.done (br (pr.bh i1 n2) (br (pr.ne Ay) (br (br (pr.pC Ay ((pr.idx 0 i1 16)+14)) true false) (br (pr.jC 1 Ay ((pr.idx 0 i1 16)+14)) (br (pr.nl (pr.bn Ay ((pr.idx 0 i1 16)+14))) (cv 90 [(.sl none 1 (pr.bf Ay ((pr.idx 0 i1 16)+14)) (pr.bn Ay ((pr.idx 0 i1 16)+14))),(.int .i64 afw)] (.int (fun afx=>(.sl (fun abP=>(fun abQ=>(.done (br (br (br (pr.nl abQ) true false) true false) (br (pr.neq (pr.bf Ay ((pr.idx 0 i1 16)+14)) abP) (cv 999999 [(.sl none 0 0 (List.set Ay ((pr.idx 0 i1 16)+14) (.sl none 1 abP abQ)))] (.sl (fun akH=>(fun Az=>(.done (br (pr.bh i1 n2) (br (pr.ne Az) (br (br (pr.pC Az ((pr.idx 0 i1 16)+15)) true false) (br (pr.jC 1 Az ((pr.idx 0 i1 16)+15)) (br (pr.nl (pr.bn Az ((pr.idx 0 i1 16)+15))) (cv 54 [(.sl none 1 (pr.bf Az ((pr.idx 0 i1 16)+15)) (pr.bn Az ((pr.idx 0 i1 16)+15))),(.int .i64 afx)] (.int (fun afy=>(.sl (fun abR=>(fun abS=>(.done (br (br (br (pr.nl abS) true false) true false) (br (pr.neq (pr.bf Az ((pr.idx 0 i1 16)+15)) abR) (cv 999999 [(.sl none 0 0 (List.set Az ((pr.idx 0 i1 16)+15) (.sl none 1 abR abS)))] (.sl (fun akI=>(fun afz=>(.done (J 0 (gx afy (pr.ar .add .i64 i1 1) n2 afz))))))) none) none)))))))) none) none) none) none) none)))))) none) none)))))))) none) none) none) none) none)))))) none) none)))))))) none) none) none) none) none)))))) none) none)))))))) none) none) none) none) none)))))) none) none)))))))) none) none) none) none) none) none)))))) none) none)))))))) none) none) none) none) none) none)))))) none) none) none) none)))))) none) none) none) none) none)))))) none) none) none) none) none)))))) none) none) none) none) none)))))) none) none)))))))) none) none) none) none) none) none)))))) none) none)))))))) none) none) none) none) none) none)))))) none) none)))))))) none) none) none) none) none)))))) none) none) none) none)))))) none) none) none) none)))))) none) none) none) (some ((.int .i64 i0),[(.sl none 16 n2 c3),.undef]))):=by kernel_rfl
theorem Dw:Told cfg Try.prog 19 Try.f19:=⟨by kernel_rfl,Try.func19,by kernel_rfl⟩
theorem Dx (n0:Nat) (c0:List D) (n1:Nat) (c1:List D) (n2:Nat) (c2:List D) (n3:Nat) (c3:List D) (a4:Int) (a5:Int):aR pr cv J 19 Try.f19 [(.agg [(.sl none 16 n0 c0),(.sl none 3 n1 c1),(.sl none 2 n2 c2),(.sl none 1 n3 c3),(.int .i64 a4)]),(.int .i64 a5)]=
 (br (br (br (pr.nl c0) true false) true false) (cv 51 [(.sl none 16 n0 c0),(.int .i64 a5)] (.int (fun fh=>(.sl (fun Fk=>(fun As=>(.done (br (br (br (pr.nl As) true false) true false) (br (br (br (pr.neq n0 Fk) true false) true false) (br (br (br (pr.nl c1) true false) true false) (cv 52 [(.sl none 3 n1 c1),(.int .i64 fh)] (.int (fun so=>(.sl (fun Fa=>(fun qG=>(.done (br (br (br (pr.nl qG) true false) true false) (br (br (br (pr.neq n1 Fa) true false) true false) (br (br (br (pr.nl c2) true false) true false) (cv 53 [(.sl none 2 n2 c2),(.int .i64 so)] (.int (fun Fb=>(.sl (fun Fm=>(fun At=>(.done (br (br (br (pr.nl At) true false) true false) (br (br (br (pr.neq n2 Fm) true false) true false) (br (br (br (pr.nl c3) true false) true false) (cv 54 [(.sl none 1 n3 c3),(.int .i64 Fb)] (.int (fun vx9=>(.sl (fun An=>(fun yi=>(.done (br (br (br (pr.nl yi) true false) true false) (br (br (br (pr.neq n3 An) true false) true false) (some ((.int .i64 vx9),[(.agg [(.sl none 16 Fk As),(.sl none 3 Fa qG),(.sl none 2 Fm At),(.sl none 1 An yi),(.int .i64 a4)]),.undef])) none) none)))))))) none) none) none)))))))) none) none) none)))))))) none) none) none)))))))) none):=by kernel_rfl
end
section
variable (t:bE Rz)
theorem tw (n:Nat) (xs:List Int) (k:Int) (hn:n=xs.length) (h0:0<=k) (h1:k+xs.length < 9223372036854775807):aL 54 [.sl none 1 n (ints xs),.int .i64 k] t=feed t [.int .i64 (k+xs.length),.sl none 1 xs.length (ints (ix k xs.length))]:=by subst hn; exact aX (Qr xs k h0 h1) (by kernel_rfl) t
theorem v7 (n:Nat) (xs:List UInt8) (k:Int) (hn:n=xs.length) (h0:0<=k) (h1:k+xs.length < 9223372036854775807):aL 89 [.sl none 1 n (bytes xs),.int .i64 k] t=feed t [.int .i64 (k+xs.length),.sl none 1 xs.length (bytes (js k xs.length))]:=by subst hn; exact aX (Nw xs k h0 h1) (by kernel_rfl) t
theorem Cr (n:Nat) (xs:List Bool) (k:Int) (hn:n=xs.length) (h0:0<=k) (h1:k+xs.length < 9223372036854775807):aL 90 [.sl none 1 n (aJ xs),.int .i64 k] t=feed t [.int .i64 (k+xs.length),.sl none 1 xs.length (aJ (ny k xs.length))]:=by subst hn; exact aX (Nx xs k h0 h1) (by kernel_rfl) t
end
theorem Bz {R:Type} {a b:Nat} {u v:R} (h:a=b):br (U.neq a b) u v=u:=by simp [U,br,h]
def dR (xss:List (List Int)):Nat:=(xss.map List.length).sum
def lJ:Int->List (List Int)->List (List Int)
 | _,[]=>[]
 | k,xs::r=>ix k xs.length::lJ (k+xs.length) r
theorem dM:∀ (k:Int) (xss:List (List Int)),(lJ k xss).length=xss.length
 | _,[]=>rfl
 | k,xs::r=>by simp [lJ,dM]
theorem Tt {α:Type} (a:List α) (x y:α) (b:List α):(a++x::b).set a.length y=(a++[y])++b:=by
 rw [aev _ _ (aaM _)];simp
theorem Cs:∀ (rest done:List (List Int)) (k:Int) (n:Nat),n=done.length+rest.length->0<=k->k+dR rest < 9223372036854775807->n < 9223372036854775807->
  WP 88 Try.f88 [.sl none 0 0 [],.undef] 0 (kB k (done.length:Nat) n (rows none (done++rest))) (.int .i64 (k+dR rest),[.sl none 1 n (rows none (done++lJ k rest)),.undef])
 | [],done,k,n,hn,h0,h1,hs=>by
  refine WP.fin fun J=>?_;rw [qH];simp (disch:=(simp at hn; omega)) only [aB,bo,dR,ad9,List.sum_nil,lJ,Int.natCast_zero,ael]
 | xs::rest,done,k,n,hn,h0,h1,hs=>by
  have ht:dR (xs::rest)=xs.length+dR rest:=by simp [dR]
  rw [ht] at h1;have hlen:done.length < (done++xs::rest).length:=by simp
  have lD:(done++xs::rest)[done.length]=xs:=by simp
  have yC:done.length < n:=by rw [hn]; simp
  have ih:=Cs rest (done++[ix k xs.length]) (k+xs.length) n (by rw [hn]; simp; omega) (by omega) (by omega) hs
  have e1:((done++[ix k xs.length]).length:Nat)=done.length+1:=by simp
  have e2:(done++[ix k xs.length])++lJ (k+xs.length) rest=done++lJ k (xs::rest):=by simp [lJ]
  have e3:k+(xs.length:Int)+(dR rest:Int)=k+((dR (xs::rest):Nat):Int):=by rw [ht]; omega
  rw [e1,e2,e3] at ih;refine WP.go _ ih fun J hJ=>?_;rw [qH];simp (disch:=first | omega | assumption | (simp only [cS]; done)) only [aG,aY,ba,aB,aP,bA,cK,abx,O1,hM,iE,lD,kq,tw,cy,dv,aq,Bz,wE,dg]
  have e4:(D.sl none 1 xs.length (ints (ix k xs.length)))=.sl none 1 (ix k xs.length).length (ints (ix k xs.length)):=by rw [cS]
  rw [e4,Dl,Tt];exact hJ
theorem NF (xss:List (List Int)) (k:Int) (h0:0<=k) (h1:k+dR xss < 9223372036854775807) (hs:xss.length < 9223372036854775807):Cm 88 [.sl none 1 xss.length (rows none xss),.int .i64 k] (.int .i64 (k+dR xss),[.sl none 1 xss.length (rows none (lJ k xss)),.undef]):=by
 refine Cm.go Dp [.sl none 0 0 [],.undef] 0 _ (Cs xss [] k xss.length (by simp) h0 h1 hs) fun J hJ=>?_
 rw [Dq];exact hJ
section
variable (t:bE Rz)
theorem Ct (n:Nat) (xss:List (List Int)) (k:Int) (hn:n=xss.length) (h0:0<=k) (h1:k+dR xss < 9223372036854775807) (hs:xss.length < 9223372036854775807):aL 88 [.sl none 1 n (rows none xss),.int .i64 k] t=feed t [.int .i64 (k+dR xss),.sl none 1 xss.length (rows none (lJ k xss))]:=by subst hn; exact aX (NF xss k h0 h1 hs) (by kernel_rfl) t
end
def yp (k:Int):Bool:=k.tmod 3==0
theorem VB (k:Int):U.eq (U.ar .rem .i64 k 3) 0=yp k:=rfl
def wT (k0:Int) (n:ak):ak:=
 let k3:=k0+1+1+1
 let k4:=k3+n.image.length
 let k5:=k4+n.mt.aK.length
 let k6:=k5+dR n.mt.bits
 let k10:=k6+1+1+1+1
 let k11:=k10+n.bJ.a.length
 let k12:=k11+n.bJ.b.length
 let k13:=k12+n.conn.length
 let k14:=k13+dR n.sync
 let k15:=k14+n.bC.length
 ⟨k0,yp (k0+1),yp (k0+1+1),ix k3 n.image.length,⟨ix k4 n.mt.aK.length,lJ k5 n.mt.bits,yp k6,yp (k6+1),yp (k6+1+1),k6+1+1+1⟩,⟨js k10 n.bJ.a.length,js k11 n.bJ.b.length⟩,ny k12 n.conn.length,lJ k13 n.sync,ny k14 n.bC.length,ix k15 n.wait.length⟩
def nA (n:ak):Nat:=7+n.image.length+n.mt.aK.length+dR n.mt.bits+n.bJ.a.length+n.bJ.b.length+n.conn.length+dR n.sync+n.bC.length+n.wait.length
def cu (ns:List ak):Nat:=(ns.map nA).sum
def iU:Int->List ak->List ak
 | _,[]=>[]
 | k,n::r=>wT k n::iU (k+nA n) r
theorem mG:∀ (k:Int) (ns:List ak),(iU k ns).length=ns.length
 | _,[]=>rfl
 | k,n::r=>by simp [iU,mG]
theorem tL {xss:List (List Int)} (h:sq xss):dR xss<=1099511627776:=by
 have key:∀ l:List (List Int),(∀ x∈l,x.length<=1048576)->(l.map List.length).sum<=l.length*1048576:=by
  intro l
  induction l with
  | nil=>intro _; simp
  | cons x l ih=>
   intro hh;have h1:=ih (fun y hy=>hh y (by simp [hy]))
   have h2:=hh x (by simp)
   simp only [aa0,List.sum_cons,abc,acs];omega
 have:=key xss h.2;have:=h.1;unfold dR;omega
theorem ru {α:Type} (e:α->List D) (a:List α) (x:α) (b:List α):ad e (a++x::b)=ad e a++(e x++ad e b):=by simp [ad]
set_option maxHeartbeats 1000000 in
theorem Cu:∀ (rest done:List ak) (k:Int) (n:Nat),n=done.length+rest.length->0<=k->k+cu rest < 4611686018427387904->n<=1048576->(∀ x∈rest,cd x)->
  WP 51 Try.f51 [.sl none 0 0 [],.undef] 0 (gx k (done.length:Nat) n (ad (ab none) (done++rest))) (.int .i64 (k+cu rest),[.sl none 16 n (ad (ab none) (done++iU k rest)),.undef])
 | [],done,k,n,hn,h0,h1,hs,_=>by
  refine WP.fin fun J=>?_;rw [qJ];simp (disch:=(simp at hn; omega)) only [aB,bo,cu,ad9,List.sum_nil,iU,Int.natCast_zero,ael]
 | x::rest,done,k,n,hn,h0,h1,hs,ok=>by
  have ht:cu (x::rest)=nA x+cu rest:=by simp [cu]
  rw [ht] at h1;have lK:=ok x (by simp)
  have yC:done.length < n:=by rw [hn]; simp
  have ih:=Cu rest (done++[wT k x]) (k+nA x) n (by rw [hn]; simp; omega) (by omega) (by omega) hs (fun y hy=>ok y (by simp [hy]))
  have e1:((done++[wT k x]).length:Nat)=done.length+1:=by simp
  have e2:(done++[wT k x])++iU (k+nA x) rest=done++iU k (x::rest):=by simp [iU]
  have e3:k+(nA x:Int)+(cu rest:Int)=k+((cu (x::rest):Nat):Int):=by rw [ht]; omega
  have e5:(done++[wT k x])++rest=done++wT k x::rest:=by simp
  rw [e1,e2,e3,e5,ru] at ih;refine WP.go _ ih fun J hJ=>?_;have hA:(ad (ab none) done).length=done.length*16:=vZ (w:=16) (fun _=>rfl) done;have l1:=lK.image; have l2:=lK.mt.aK; have l3:=tL lK.mt.bits; have l3':=lK.mt.bits.1; have l4:=lK.bJ.a; have l5:=lK.bJ.b; have l6:=lK.conn; have l7:=tL lK.sync; have l7':=lK.sync.1; have l8:=lK.bC; have l9:=lK.wait;have hT:nA x=7+x.image.length+x.mt.aK.length+dR x.mt.bits+x.bJ.a.length+x.bJ.b.length+x.conn.length+dR x.sync+x.bC.length+x.wait.length:=rfl;rw [qJ,ru];simp (disch:=first | omega | assumption | exact hA | (simp; done)) only [aG,aY,ba,bl,dV,aB,aP,bA,G0,Qv,By,Dn,O2,Tl,O3,O4,Fi,G1,aeq,aeM,G2,G3,YP,O5,O6,O7,Tm,O8,O9,Pa,Pb,kq,Fc,eR,KN,VB,rG,dg,tw,Ct,v7,Cr,cy,dv,aq,Bz,wE]
  have key:∀ (a b:Int) (c:List D),a=k+nA x->b=((done.length+1:Nat):Int)->c=ab none (wT k x)->J 0 (gx a b n (ad (ab none) done++(c++ad (ab none) rest)))=some (.int .i64 (k+((cu (x::rest):Nat):Int)),[.sl none 16 n (ad (ab none) (done++iU k (x::rest))),.undef]):=by
   rintro _ _ _ rfl rfl rfl;exact hJ
  refine key _ _ _ (by omega) (by omega) ?_
  simp only [ab,sI,sR,s8,sB,wT,cS,dM,dj,dp]
theorem NG (ns:List ak) (k:Int) (h0:0<=k) (h1:k+cu ns < 4611686018427387904) (hs:ns.length<=1048576) (ok:∀ x∈ns,cd x):Cm 51 [sN none ns,.int .i64 k] (.int .i64 (k+cu ns),[sN none (iU k ns),.undef]):=by
 have hw:=Cu ns [] k ns.length (by simp) h0 h1 hs ok
 refine Cm.go Du [.sl none 0 0 [],.undef] 0 _ (?_:WP _ _ _ _ (gx k (0:Nat) ns.length (ad (ab none) ns)) _) fun J hJ=>?_
 ·rw [show (sN none (iU k ns))=.sl none 16 ns.length (ad (ab none) ([]++iU k ns)) from by simp only [sN,mG,aan]]
  exact hw
 ·rw [Dv];exact hJ
def iV:Int->List cD->List cD
 | _,[]=>[]
 | k,x::r=>⟨k,k+1,js (k+1+1) x.bytes.length⟩::iV (k+(2+x.bytes.length:Nat)) r
def cr (xs:List cD):Nat:=(xs.map fun x=>2+x.bytes.length).sum
theorem mH:∀ (k:Int) (ns:List cD),(iV k ns).length=ns.length
 | _,[]=>rfl
 | k,n::r=>by simp [iV,mH]
theorem Cw:∀ (rest done:List cD) (k:Int) (n:Nat),n=done.length+rest.length->0<=k->k+cr rest < 4611686018427387904->n<=1048576->(∀ x∈rest,gv x)->
  WP 52 Try.f52 [.sl none 0 0 [],.undef] 0 (gw k (done.length:Nat) n (ad (bj none) (done++rest))) (.int .i64 (k+cr rest),[.sl none 3 n (ad (bj none) (done++iV k rest)),.undef])
 | [],done,k,n,hn,h0,h1,hs,_=>by
  refine WP.fin fun J=>?_;rw [qI];simp (disch:=(simp at hn; omega)) only [aB,bo,cr,ad9,List.sum_nil,iV,Int.natCast_zero,ael]
 | x::rest,done,k,n,hn,h0,h1,hs,ok=>by
  have ht:cr (x::rest)=(2+x.bytes.length)+cr rest:=by simp [cr]
  rw [ht] at h1;have lK:=ok x (by simp)
  unfold gv at lK;have yC:done.length < n:=by rw [hn]; simp
  have ih:=Cw rest (done++[⟨k,k+1,js (k+1+1) x.bytes.length⟩]) (k+(2+x.bytes.length:Nat)) n (by rw [hn]; simp; omega) (by omega) (by omega) hs (fun y hy=>ok y (by simp [hy]))
  have e1:((done++[(⟨k,k+1,js (k+1+1) x.bytes.length⟩:cD)]).length:Nat)=done.length+1:=by simp
  have e2:(done++[⟨k,k+1,js (k+1+1) x.bytes.length⟩])++iV (k+(2+x.bytes.length:Nat)) rest=done++iV k (x::rest):=by simp [iV]
  have e3:k+((2+x.bytes.length:Nat):Int)+(cr rest:Int)=k+((cr (x::rest):Nat):Int):=by rw [ht]; omega
  have e5:(done++[(⟨k,k+1,js (k+1+1) x.bytes.length⟩:cD)])++rest=done++⟨k,k+1,js (k+1+1) x.bytes.length⟩::rest:=by simp
  rw [e1,e2,e3,e5,ru] at ih;refine WP.go _ ih fun J hJ=>?_;have hA:(ad (bj none) done).length=done.length*3:=vZ (w:=3) (fun _=>rfl) done;rw [qI,ru];simp (disch:=first | omega | assumption | exact hA | (simp; done)) only [aG,aY,ba,bl,aB,aP,bA,G0,Qv,By,Dn,O2,Tl,O3,O4,Fi,G1,aeq,aeM,G2,G3,O5,O6,O7,Tm,O8,O9,Pa,Pb,eR,rG,v7,cy,dv,aq,Bz,wE]
  have key:∀ (a b:Int) (c:List D),a=k+((2+x.bytes.length:Nat):Int)->b=((done.length+1:Nat):Int)->c=bj none ⟨k,k+1,js (k+1+1) x.bytes.length⟩->J 0 (gw a b n (ad (bj none) done++(c++ad (bj none) rest)))=some (.int .i64 (k+((cr (x::rest):Nat):Int)),[.sl none 3 n (ad (bj none) (done++iV k (x::rest))),.undef]):=by
   rintro _ _ _ rfl rfl rfl;exact hJ
  refine key _ _ _ (by omega) (by omega) ?_
  simp only [bj,s8,dj]
theorem NH (ns:List cD) (k:Int) (h0:0<=k) (h1:k+cr ns < 4611686018427387904) (hs:ns.length<=1048576) (ok:∀ x∈ns,gv x):Cm 52 [sW none ns,.int .i64 k] (.int .i64 (k+cr ns),[sW none (iV k ns),.undef]):=by
 have hw:=Cw ns [] k ns.length (by simp) h0 h1 hs ok
 refine Cm.go Dr [.sl none 0 0 [],.undef] 0 _ (?_:WP _ _ _ _ (gw k (0:Nat) ns.length (ad (bj none) ns)) _) fun J hJ=>?_
 ·rw [show (sW none (iV k ns))=.sl none 3 ns.length (ad (bj none) ([]++iV k ns)) from by simp only [sW,mH,aan]]
  exact hw
 ·rw [Dt];exact hJ
def iW:Int->List ff->List ff
 | _,[]=>[]
 | k,_::r=>⟨k,k+1⟩::iW (k+2) r
theorem mI:∀ (k:Int) (ns:List ff),(iW k ns).length=ns.length
 | _,[]=>rfl
 | k,n::r=>by simp [iW,mI]
theorem Fq:∀ (rest done:List ff) (k:Int) (n:Nat),n=done.length+rest.length->0<=k->k+2*rest.length < 4611686018427387904->n<=1048576->
  WP 53 Try.f53 [.sl none 0 0 [],.undef] 0 (gU k (done.length:Nat) n (ad (cJ none) (done++rest))) (.int .i64 (k+2*rest.length),[.sl none 2 n (ad (cJ none) (done++iW k rest)),.undef])
 | [],done,k,n,hn,h0,h1,hs=>by
  refine WP.fin fun J=>?_;rw [sr];simp (disch:=(simp at hn; omega)) only [aB,bo,iW,acd,Int.natCast_zero,Int.mul_zero,ael]
 | x::rest,done,k,n,hn,h0,h1,hs=>by
  have ht:(x::rest).length=rest.length+1:=rfl;rw [ht] at h1 hn;have yC:done.length < n:=by omega
  have ih:=Fq rest (done++[⟨k,k+1⟩]) (k+2) n (by rw [hn]; simp; omega) (by omega) (by omega) hs
  have e1:((done++[(⟨k,k+1⟩:ff)]).length:Nat)=done.length+1:=by simp
  have e2:(done++[⟨k,k+1⟩])++iW (k+2) rest=done++iW k (x::rest):=by simp [iW]
  have e3:k+2+2*(rest.length:Int)=k+2*(((x::rest).length:Nat):Int):=by rw [ht]; omega
  have e5:(done++[(⟨k,k+1⟩:ff)])++rest=done++⟨k,k+1⟩::rest:=by simp
  rw [e1,e2,e3,e5,ru] at ih;refine WP.go _ ih fun J hJ=>?_;have hA:(ad (cJ none) done).length=done.length*2:=vZ (w:=2) (fun _=>rfl) done;rw [sr,ru];simp (disch:=first | omega | assumption | exact hA | (simp; done)) only [aG,aY,ba,bl,aB,aP,bA,G0,Qv,By,Dn,Fi,G1,aeq,aeM,G2,G3,rG,dv,aq,wE]
  have key:∀ (a b:Int) (c:List D),a=k+2->b=((done.length+1:Nat):Int)->c=cJ none ⟨k,k+1⟩->J 0 (gU a b n (ad (cJ none) done++(c++ad (cJ none) rest)))=some (.int .i64 (k+2*(((x::rest).length:Nat):Int)),[.sl none 2 n (ad (cJ none) (done++iW k (x::rest))),.undef]):=by
   rintro _ _ _ rfl rfl rfl;exact hJ
  exact key _ _ _ (by omega) (by omega) rfl
theorem QB (ns:List ff) (k:Int) (h0:0<=k) (h1:k+2*ns.length < 4611686018427387904) (hs:ns.length<=1048576):Cm 53 [sK none ns,.int .i64 k] (.int .i64 (k+2*ns.length),[sK none (iW k ns),.undef]):=by
 have hw:=Fq ns [] k ns.length (by simp) h0 h1 hs
 refine Cm.go Fo [.sl none 0 0 [],.undef] 0 _ (?_:WP _ _ _ _ (gU k (0:Nat) ns.length (ad (cJ none) ns)) _) fun J hJ=>?_
 ·rw [show (sK none (iW k ns))=.sl none 2 ns.length (ad (cJ none) ([]++iW k ns)) from by simp only [sK,mI,aan]]
  exact hw
 ·rw [Fp];exact hJ
section
variable (t:bE Rz)
theorem NI (n:Nat) (ns:List ak) (k:Int) (hn:n=ns.length) (h0:0<=k) (h1:k+cu ns < 4611686018427387904) (hs:ns.length<=1048576) (ok:∀ x∈ns,cd x):aL 51 [.sl none 16 n (ad (ab none) ns),.int .i64 k] t=feed t [.int .i64 (k+cu ns),sN none (iU k ns)]:=by subst hn; exact aX (NG ns k h0 h1 hs ok) (by kernel_rfl) t
theorem NJ (n:Nat) (ns:List cD) (k:Int) (hn:n=ns.length) (h0:0<=k) (h1:k+cr ns < 4611686018427387904) (hs:ns.length<=1048576) (ok:∀ x∈ns,gv x):aL 52 [.sl none 3 n (ad (bj none) ns),.int .i64 k] t=feed t [.int .i64 (k+cr ns),sW none (iV k ns)]:=by subst hn; exact aX (NH ns k h0 h1 hs ok) (by kernel_rfl) t
theorem QC (n:Nat) (ns:List ff) (k:Int) (hn:n=ns.length) (h0:0<=k) (h1:k+2*ns.length < 4611686018427387904) (hs:ns.length<=1048576):aL 53 [.sl none 2 n (ad (cJ none) ns),.int .i64 k] t=feed t [.int .i64 (k+2*ns.length),sK none (iW k ns)]:=by subst hn; exact aX (QB ns k h0 h1 hs) (by kernel_rfl) t
end
theorem MM {α:Type} (f:α->Nat) (B:Nat):∀ l:List α,(∀ x∈l,f x<=B)->(l.map f).sum<=l.length*B
 | [],_=>by simp
 | x::l,h=>by
  have h1:=MM f B l (fun y hy=>h y (by simp [hy]))
  have h2:=h x (by simp)
  simp only [aa0,List.sum_cons,abc,acs];omega
theorem YS {x:ak} (ok:cd x):nA x<=2199033184263:=by
 have l1:=ok.image; have l2:=ok.mt.aK; have l3:=tL ok.mt.bits; have l4:=ok.bJ.a; have l5:=ok.bJ.b; have l6:=ok.conn; have l7:=tL ok.sync; have l8:=ok.bC; have l9:=ok.wait;unfold nA;omega
theorem Dy {ns:List ak} (h:ns.length<=1048576) (ok:∀ x∈ns,cd x):cu ns<=2305853420225761280:=by
 have:=MM nA 2199033184263 ns (fun x hx=>YS (ok x hx));unfold cu;omega
theorem Dz {ns:List cD} (h:ns.length<=1048576) (ok:∀ x∈ns,gv x):cr ns<=1099513724928:=by
 have:=MM (fun x:cD=>2+x.bytes.length) 1048578 ns (fun x hx=>by have:=ok x hx; unfold gv at this; show 2+x.bytes.length<=1048578; omega)
 unfold cr;omega
def wU (k:Int) (w:ck):ck:=⟨iU k w.nodes,iV (k+cu w.nodes) w.cX,iW (k+cu w.nodes+cr w.cX) w.log,ix (k+cu w.nodes+cr w.cX+2*w.log.length) w.safe.length,w.gen⟩
def o6 (w:ck):Int:=cu w.nodes+cr w.cX+2*w.log.length+w.safe.length
theorem NK (w:ck) (k:Int) (h0:0<=k) (h1:k<=1048576) (ok:nW w):Cm 19 [.agg (lI none w),.int .i64 k] (.int .i64 (k+o6 w),[.agg (lI none (wU k w)),.undef]):=by
 have l1:=ok.nodes; have l2:=ok.cX; have l3:=ok.log; have l4:=ok.safe;have t1:=Dy l1 ok.node; have t2:=Dz l2 ok.qe;refine Cm.fin Dw fun J=>?_;rw [Dx];simp (disch:=first | omega | exact ok.node | exact ok.qe | (simp only [mG,mH,mI,cS]; done)) only [NI,NJ,QC,tw,cy,dv,aq,kq,XN,XO,XP,aG,aY,ba,Bz]
 simp only [lI,sN,sW,sK,sI,wU,o6,cS];have e:k+(cu w.nodes:Int)+(cr w.cX:Int)+2*(w.log.length:Int)+(w.safe.length:Int)=k+(cu w.nodes+cr w.cX+2*w.log.length+w.safe.length):=by omega
 rw [e]
set_option maxRecDepth 100000
section
variable (pr:dA) (cv:Cv Rz) (J:Nat->St->Option Rz)
theorem Fs:Told cfg Try.prog 81 Try.f81:=⟨by kernel_rfl,Try.func81,by kernel_rfl⟩
theorem Ft :aR pr cv J 81 Try.f81 []=
 (br (pr.mM 8 8 8) (some ((.sl none 1 (pr.eE 8) (eg (pr.eE 8) [(.int .i64 0)])),[])) none):=by kernel_rfl
theorem Fu:Told cfg Try.prog 84 Try.f84:=⟨by kernel_rfl,Try.func84,by kernel_rfl⟩
theorem Fv :aR pr cv J 84 Try.f84 []=
 (br (pr.mM 8 8 8) (some ((.sl none 1 (pr.eE 8) (eg (pr.eE 8) [(.int .i64 0)])),[])) none):=by kernel_rfl
end
theorem Fw:Cm 84 [] (.sl none 1 8 (ints (List.replicate 8 0)),[]):=by
 refine Cm.fin Fu fun J=>?_;rw [Fv];rfl
theorem Fx:Cm 81 [] (.sl none 1 8 (ints (List.replicate 8 0)),[]):=by
 refine Cm.fin Fs fun J=>?_;rw [Ft];rfl
set_option maxRecDepth 100000
section
variable (pr:dA) (cv:Cv Rz) (J:Nat->St->Option Rz)
def lL (g0:Bool) (n1:Nat) (c2:List D) (i3:Int) (i4:Int):St:=(St.mk [(0,(.sl (some g0) 1 n1 c2)),(1,(.int .i64 i3)),(5,(.int .i64 i4))] [] [] 0)
theorem MN:Told cfg Try.prog 70 Try.f70:=⟨by kernel_rfl,Try.func70,by kernel_rfl⟩
theorem MO (g0:Bool) (n0:Nat) (c0:List D) (a1:Int):aR pr cv J 70 Try.f70 [(.sl (some g0) 1 n0 c0),(.int .i64 a1)]=
 (J 0 (lL g0 n0 c0 a1 0)):=by kernel_rfl
theorem qk (g0:Bool) (n1:Nat) (c2:List D) (i3:Int) (i4:Int):bR pr cv J 70 Try.f70 [.undef,.undef] 0 (lL g0 n1 c2 i3 i4)=
 (br (pr.lt i4 (pr.bc n1)) (br (pr.bh i4 n1) (br (br (pr.cW .i64 c2 (pr.idx 0 i4 1)) true false) (br (pr.eq (pr.bT c2 (pr.idx 0 i4 1)) i3) (some ((.bool true),[.undef,.undef])) (J 0 (lL g0 n1 c2 i3 (pr.ar .add .i64 i4 1)))) none) none) (some ((.bool false),[.undef,.undef]))):=by kernel_rfl
def kC (g0:Bool) (n1:Nat) (c2:List D) (g3:Bool) (n4:Nat) (c5:List D) (i6:Int):St:=(St.mk [(0,(.sl (some g0) 1 n1 c2)),(1,(.sl (some g3) 1 n4 c5)),(5,(.int .i64 i6))] [] [] 0)
theorem JG:Told cfg Try.prog 98 Try.f98:=⟨by kernel_rfl,Try.func98,by kernel_rfl⟩
theorem JH (g0:Bool) (n0:Nat) (c0:List D) (g1:Bool) (n1:Nat) (c1:List D):aR pr cv J 98 Try.f98 [(.sl (some g0) 1 n0 c0),(.sl (some g1) 1 n1 c1)]=
 (J 0 (kC g0 n0 c0 g1 n1 c1 0)):=by kernel_rfl
theorem o7 (g0:Bool) (n1:Nat) (c2:List D) (g3:Bool) (n4:Nat) (c5:List D) (i6:Int):bR pr cv J 98 Try.f98 [.undef,.undef] 0 (kC g0 n1 c2 g3 n4 c5 i6)=
 let y1:Option (D × List D):=(some ((.bool (pr.eq (pr.bc n1) (pr.bc n4))),[.undef,.undef]))
 (br (pr.lt i6 (pr.bc n1)) (br (pr.lt i6 (pr.bc n4)) (br (pr.bh i6 n1) (br (br (pr.cW .i64 c2 (pr.idx 0 i6 1)) true false) (br (pr.bh i6 n4) (br (br (pr.cW .i64 c5 (pr.idx 0 i6 1)) true false) (br (br (pr.eq (pr.bT c2 (pr.idx 0 i6 1)) (pr.bT c5 (pr.idx 0 i6 1))) false true) (some ((.bool false),[.undef,.undef])) (J 0 (kC g0 n1 c2 g3 n4 c5 (pr.ar .add .i64 i6 1)))) none) none) none) none) y1) y1):=by kernel_rfl
theorem MP:Told cfg Try.prog 39 Try.f39:=⟨by kernel_rfl,Try.func39,by kernel_rfl⟩
theorem MQ (a0:Bool):aR pr cv J 39 Try.f39 [(.bool a0)]=
 (br a0 (some ((.int .i64 1),[.undef])) (some ((.int .i64 0),[.undef]))):=by kernel_rfl
theorem JI:Told cfg Try.prog 72 Try.f72:=⟨by kernel_rfl,Try.func72,by kernel_rfl⟩
theorem JJ (a0:Int):aR pr cv J 72 Try.f72 [(.int .i64 a0)]=
 (cv 99 [(.int .i64 a0),(.int .i64 0),(.int .i64 2)] (.bool (fun cx=>(.done (some ((.bool cx),[.undef])))))):=by kernel_rfl
theorem JK:Told cfg Try.prog 116 Try.f116:=⟨by kernel_rfl,Try.func116,by kernel_rfl⟩
theorem JL (a0:Int):aR pr cv J 116 Try.f116 [(.int .i64 a0)]=
 (cv 99 [(.int .i64 a0),(.int .i64 0),(.int .i64 7)] (.bool (fun cx=>(.done (some ((.bool cx),[.undef])))))):=by kernel_rfl
theorem G4:Told cfg Try.prog 78 Try.f78:=⟨by kernel_rfl,Try.func78,by kernel_rfl⟩
theorem G5 (a0:Int):aR pr cv J 78 Try.f78 [(.int .i64 a0)]=
 (cv 99 [(.int .i64 a0),(.int .i64 1),(.int .i64 200)] (.bool (fun cx=>(.done (some ((.bool cx),[.undef])))))):=by kernel_rfl
theorem NL:Told cfg Try.prog 137 Try.f137:=⟨by kernel_rfl,Try.func137,by kernel_rfl⟩
theorem NM (a0:Bool) (a1:Int):aR pr cv J 137 Try.f137 [(.bool a0),(.int .i64 a1)]=
 (br a0 (some ((.int .i64 a1),[.undef,.undef])) (some ((.int .i64 0),[.undef,.undef]))):=by kernel_rfl
theorem NN:Told cfg Try.prog 62 Try.f62:=⟨by kernel_rfl,Try.func62,by kernel_rfl⟩
theorem NO (a0:Int):aR pr cv J 62 Try.f62 [(.int .i64 a0)]=
 let y1:Option (D × List D):=(some ((.int .i64 (pr.ar .sub .i64 1 a0)),[.undef]))
 (br (pr.eq a0 0) y1 (br (pr.eq a0 1) y1 (some ((.int .i64 (-1)),[.undef])))):=by kernel_rfl
theorem NP:Told cfg Try.prog 60 Try.f60:=⟨by kernel_rfl,Try.func60,by kernel_rfl⟩
theorem NQ (a0:Int):aR pr cv J 60 Try.f60 [(.int .i64 a0)]=
 (cv 64 [(.int .i64 a0),(.int .i64 0),(.int .i64 1)] (.bool (fun cx=>(.done (br cx (some ((.int .i64 (pr.ar .sub .i64 1 a0)),[.undef])) (some ((.int .i64 (-1)),[.undef]))))))):=by kernel_rfl
def jP (g0:Bool) (n1:Nat) (c2:List D) (i3:Int):St:=(St.mk [(0,(.sl (some g0) 1 n1 c2)),(3,(.int .i64 i3))] [] [] 0)
theorem G6:Told cfg Try.prog 94 Try.f94:=⟨by kernel_rfl,Try.func94,by kernel_rfl⟩
theorem G7 (g0:Bool) (n0:Nat) (c0:List D):aR pr cv J 94 Try.f94 [(.sl (some g0) 1 n0 c0)]=
 (J 0 (jP g0 n0 c0 0)):=by kernel_rfl
theorem ot (g0:Bool) (n1:Nat) (c2:List D) (i3:Int):bR pr cv J 94 Try.f94 [.undef] 0 (jP g0 n1 c2 i3)=
 let y1:Option (D × List D):=(some ((.bool false),[.undef]))
 let y2:Option Rz:=(J 0 (jP g0 n1 c2 (pr.ar .add .i64 i3 1)))
 (br (pr.lt i3 (pr.bc n1)) (br (pr.bh i3 n1) (br (br (pr.cW .i64 c2 (pr.idx 0 i3 1)) true false) (cv 64 [(.int .i64 (pr.bT c2 (pr.idx 0 i3 1))),(.int .i64 0),(.int .i64 7)] (.bool (fun cx=>(.done (br (br cx false true) y1 (br (pr.lt 0 i3) (br (pr.bh (pr.ar .sub .i64 i3 1) n1) (br (br (pr.cW .i64 c2 (pr.idx 0 (pr.ar .sub .i64 i3 1) 1)) true false) (br (pr.bh i3 n1) (br (br (pr.cW .i64 c2 (pr.idx 0 i3 1)) true false) (br (pr.le (pr.bT c2 (pr.idx 0 i3 1)) (pr.bT c2 (pr.idx 0 (pr.ar .sub .i64 i3 1) 1))) y1 y2) none) none) none) none) y2)))))) none) none) (some ((.bool true),[.undef]))):=by kernel_rfl
def jQ (g0:Bool) (n1:Nat) (c2:List D) (i3:Int) (i4:Int):St:=(St.mk [(0,(.sl (some g0) 1 n1 c2)),(5,(.sl (some g0) 1 n1 c2)),(6,(.int .i64 i3)),(7,(.int .i64 i4))] [] [] 0)
theorem G8:Told cfg Try.prog 105 Try.f105:=⟨by kernel_rfl,Try.func105,by kernel_rfl⟩
theorem G9 (g0:Bool) (n0:Nat) (c0:List D):aR pr cv J 105 Try.f105 [(.sl (some g0) 1 n0 c0)]=
 (J 0 (jQ g0 n0 c0 (pr.bc n0) 0)):=by kernel_rfl
theorem ou (g0:Bool) (n1:Nat) (c2:List D) (i3:Int) (i4:Int):bR pr cv J 105 Try.f105 [.undef] 0 (jQ g0 n1 c2 i3 i4)=
 let y1:Option (D × List D):=(some ((.bool false),[.undef]))
 let y2:Option Rz:=(J 0 (jQ g0 n1 c2 i3 (pr.ar .add .i64 i4 1)))
 (br (pr.lt i4 i3) (br (pr.bh i4 n1) (br (br (pr.cW .i64 c2 (pr.idx 0 i4 1)) true false) (cv 116 [(.int .i64 (pr.bT c2 (pr.idx 0 i4 1)))] (.bool (fun cx=>(.done (br (br cx false true) y1 (br (pr.lt 0 i4) (br (pr.bh (pr.ar .sub .i64 i4 1) n1) (br (br (pr.cW .i64 c2 (pr.idx 0 (pr.ar .sub .i64 i4 1) 1)) true false) (br (pr.le (pr.bT c2 (pr.idx 0 i4 1)) (pr.bT c2 (pr.idx 0 (pr.ar .sub .i64 i4 1) 1))) y1 y2) none) none) y2)))))) none) none) (some ((.bool true),[.undef]))):=by kernel_rfl
def kD (g0:Bool) (n1:Nat) (c2:List D) (i3:Int):St:=(St.mk [(0,(.sl (some g0) 1 n1 c2)),(3,(.int .i64 i3))] [] [] 0)
theorem JM:Told cfg Try.prog 95 Try.f95:=⟨by kernel_rfl,Try.func95,by kernel_rfl⟩
theorem JN (g0:Bool) (n0:Nat) (c0:List D):aR pr cv J 95 Try.f95 [(.sl (some g0) 1 n0 c0)]=
 (J 0 (kD g0 n0 c0 0)):=by kernel_rfl
theorem o8 (g0:Bool) (n1:Nat) (c2:List D) (i3:Int):bR pr cv J 95 Try.f95 [.undef] 0 (kD g0 n1 c2 i3)=
 let y1:Option (D × List D):=(some ((.bool false),[.undef]))
 (br (pr.lt i3 (pr.bc n1)) (br (pr.bh i3 n1) (br (br (pr.cW .i64 c2 (pr.idx 0 i3 1)) true false) (cv 64 [(.int .i64 (pr.bT c2 (pr.idx 0 i3 1))),(.int .i64 1),(.int .i64 100000)] (.bool (fun cx=>(.done (br (br cx false true) y1 (br (pr.rZ 0 i3 n1) (br (pr.bh i3 n1) (br (br (pr.cW .i64 c2 (pr.idx 0 i3 1)) true false) (cv 70 [(.sl (some g0) 1 (pr.jB i3 0) (List.take (Nat.mul (pr.jB i3 0) 1) (List.drop (Nat.mul (pr.eE 0) 1) c2))),(.int .i64 (pr.bT c2 (pr.idx 0 i3 1)))] (.bool (fun ku=>(.done (br ku y1 (J 0 (kD g0 n1 c2 (pr.ar .add .i64 i3 1)))))))) none) none) none)))))) none) none) (some ((.bool (pr.le (pr.bc n1) 12)),[.undef]))):=by kernel_rfl
def kE (g0:Bool) (n1:Nat) (c2:List D) (i3:Int) (i4:Int):St:=(St.mk [(0,(.sl (some g0) 1 n1 c2)),(5,(.sl (some g0) 1 n1 c2)),(6,(.int .i64 i3)),(7,(.int .i64 i4))] [] [] 0)
theorem JO:Told cfg Try.prog 102 Try.f102:=⟨by kernel_rfl,Try.func102,by kernel_rfl⟩
theorem JP (g0:Bool) (n0:Nat) (c0:List D):aR pr cv J 102 Try.f102 [(.sl (some g0) 1 n0 c0)]=
 (J 0 (kE g0 n0 c0 (pr.bc n0) 0)):=by kernel_rfl
theorem o9 (g0:Bool) (n1:Nat) (c2:List D) (i3:Int) (i4:Int):bR pr cv J 102 Try.f102 [.undef] 0 (kE g0 n1 c2 i3 i4)=
 let y1:Option (D × List D):=(some ((.bool false),[.undef]))
 (br (pr.lt i4 i3) (br (pr.bh i4 n1) (br (br (pr.cW .i64 c2 (pr.idx 0 i4 1)) true false) (cv 99 [(.int .i64 (pr.bT c2 (pr.idx 0 i4 1))),(.int .i64 1),(.int .i64 100000)] (.bool (fun cx=>(.done (br (br cx false true) y1 (br (pr.rZ 0 i4 n1) (cv 79 [(.sl (some g0) 1 (pr.jB i4 0) (List.take (Nat.mul (pr.jB i4 0) 1) (List.drop (Nat.mul (pr.eE 0) 1) c2))),(.int .i64 (pr.bT c2 (pr.idx 0 i4 1)))] (.bool (fun ku=>(.done (br ku y1 (J 0 (kE g0 n1 c2 i3 (pr.ar .add .i64 i4 1)))))))) none)))))) none) none) (some ((.bool (pr.le (pr.bc n1) 12)),[.undef]))):=by kernel_rfl
def jR (g0:Bool) (n1:Nat) (c2:List D) (i3:Int):St:=(St.mk [(0,(.sl (some g0) 1 n1 c2)),(3,(.int .i64 i3))] [] [] 0)
theorem Ha:Told cfg Try.prog 65 Try.f65:=⟨by kernel_rfl,Try.func65,by kernel_rfl⟩
theorem Hb (g0:Bool) (n0:Nat) (c0:List D):aR pr cv J 65 Try.f65 [(.sl (some g0) 1 n0 c0)]=
 (J 0 (jR g0 n0 c0 0)):=by kernel_rfl
theorem ov (g0:Bool) (n1:Nat) (c2:List D) (i3:Int):bR pr cv J 65 Try.f65 [.undef] 0 (jR g0 n1 c2 i3)=
 (br (pr.lt i3 (pr.bc n1)) (br (pr.bh i3 n1) (br (br (pr.cW .i64 c2 (pr.idx 0 i3 1)) true false) (cv 64 [(.int .i64 (pr.bT c2 (pr.idx 0 i3 1))),(.int .i64 0),(.int .i64 200)] (.bool (fun cx=>(.done (br (br cx false true) (some ((.bool false),[.undef])) (J 0 (jR g0 n1 c2 (pr.ar .add .i64 i3 1)))))))) none) none) (some ((.bool (pr.eq (pr.bc n1) 8)),[.undef]))):=by kernel_rfl
theorem uS:Told cfg Try.prog 79 Try.f79:=⟨by kernel_rfl,Try.func79,by kernel_rfl⟩
theorem uT (g0:Bool) (n0:Nat) (c0:List D) (a1:Int):aR pr cv J 79 Try.f79 [(.sl (some g0) 1 n0 c0),(.int .i64 a1)]=
 (cv 109 [(.sl (some g0) 1 n0 c0),(.int .i64 a1)] (.int (fun fh=>(.done (some ((.bool (pr.le 0 fh)),[.undef,.undef])))))):=by kernel_rfl
def fI (g0:Bool) (n1:Nat) (c2:List D) (i3:Int) (i4:Int) (i5:Int):St:=(St.mk [(0,(.sl (some g0) 1 n1 c2)),(1,(.int .i64 i3)),(7,(.int .i64 i4)),(8,(.int .i64 i5))] [] [] 0)
theorem wV:Told cfg Try.prog 109 Try.f109:=⟨by kernel_rfl,Try.func109,by kernel_rfl⟩
theorem wW (g0:Bool) (n0:Nat) (c0:List D) (a1:Int):aR pr cv J 109 Try.f109 [(.sl (some g0) 1 n0 c0),(.int .i64 a1)]=
 (J 0 (fI g0 n0 c0 a1 (pr.bc n0) 0)):=by kernel_rfl
theorem jS (g0:Bool) (n1:Nat) (c2:List D) (i3:Int) (i4:Int) (i5:Int):bR pr cv J 109 Try.f109 [.undef,.undef] 0 (fI g0 n1 c2 i3 i4 i5)=
 (br (pr.lt i5 i4) (br (pr.bh i5 n1) (br (br (pr.cW .i64 c2 (pr.idx 0 i5 1)) true false) (br (pr.eq i3 (pr.bT c2 (pr.idx 0 i5 1))) (some ((.int .i64 i5),[.undef,.undef])) (J 0 (fI g0 n1 c2 i3 i4 (pr.ar .add .i64 i5 1)))) none) none) (some ((.int .i64 (-1)),[.undef,.undef]))):=by kernel_rfl
def fJ (g0:Bool) (n1:Nat) (c2:List D) (g3:Bool) (n4:Nat) (c5:List D) (i6:Int) (i7:Int):St:=(St.mk [(0,(.sl (some g0) 1 n1 c2)),(1,(.sl (some g3) 1 n4 c5)),(12,(.int .i64 i6)),(13,(.int .i64 i7))] [] [] 0)
theorem pE:Told cfg Try.prog 107 Try.f107:=⟨by kernel_rfl,Try.func107,by kernel_rfl⟩
theorem pF (g0:Bool) (n0:Nat) (c0:List D) (g1:Bool) (n1:Nat) (c1:List D):aR pr cv J 107 Try.f107 [(.sl (some g0) 1 n0 c0),(.sl (some g1) 1 n1 c1)]=
 (br (br (pr.eq (pr.bc n0) (pr.bc n1)) false true) (some ((.bool false),[.undef,.undef])) (J 0 (fJ g0 n0 c0 g1 n1 c1 (pr.bc n0) 0))):=by kernel_rfl
theorem jT (g0:Bool) (n1:Nat) (c2:List D) (g3:Bool) (n4:Nat) (c5:List D) (i6:Int) (i7:Int):bR pr cv J 107 Try.f107 [.undef,.undef] 0 (fJ g0 n1 c2 g3 n4 c5 i6 i7)=
 (br (pr.lt i7 i6) (br (pr.bh i7 n1) (br (br (pr.cW .i64 c2 (pr.idx 0 i7 1)) true false) (br (pr.bh i7 n4) (br (br (pr.cW .i64 c5 (pr.idx 0 i7 1)) true false) (br (br (pr.eq (pr.bT c2 (pr.idx 0 i7 1)) (pr.bT c5 (pr.idx 0 i7 1))) false true) (some ((.bool false),[.undef,.undef])) (J 0 (fJ g0 n1 c2 g3 n4 c5 i6 (pr.ar .add .i64 i7 1)))) none) none) none) none) (some ((.bool true),[.undef,.undef]))):=by kernel_rfl
theorem JQ:Told cfg Try.prog 126 Try.f126:=⟨by kernel_rfl,Try.func126,by kernel_rfl⟩
theorem JR (g0:Bool) (n0:Nat) (c0:List D) (g1:Bool) (n1:Nat) (c1:List D):aR pr cv J 126 Try.f126 [(.sl (some g0) 1 n0 c0),(.sl (some g1) 1 n1 c1)]=
 (br (pr.rm c0) (br (pr.rm c1) (some ((.bool (pr.seq (pr.zW c0) (pr.zW c1))),[.undef,.undef])) none) none):=by kernel_rfl
theorem DA:Told cfg Try.prog 101 Try.f101:=⟨by kernel_rfl,Try.func101,by kernel_rfl⟩
theorem DB (a0:Int):aR pr cv J 101 Try.f101 [(.int .i64 a0)]=
 (cv 99 [(.int .i64 a0),(.int .i64 0),(.int .i64 200)] (.bool (fun cx=>(.done (some ((.bool (br cx false true)),[.undef])))))):=by kernel_rfl
theorem BK:Told cfg Try.prog 104 Try.f104:=⟨by kernel_rfl,Try.func104,by kernel_rfl⟩
theorem BL (g0:Bool) (n0:Nat) (c0:List D):aR pr cv J 104 Try.f104 [(.sl (some g0) 1 n0 c0)]=
 (cv 105 [(.sl (some g0) 1 n0 c0)] (.bool (fun cx=>(.done (some ((.bool (br cx false true)),[.undef])))))):=by kernel_rfl
theorem Fy:Told cfg Try.prog 75 Try.f75:=⟨by kernel_rfl,Try.func75,by kernel_rfl⟩
theorem Fz (g0:Bool) (n0:Nat) (c0:List D):aR pr cv J 75 Try.f75 [(.sl (some g0) 1 n0 c0)]=
 (br (pr.eq (pr.bc n0) 3) (cv 103 [(.sl (some g0) 1 n0 c0),(.fn 104 [])] (.bool (fun cx=>(.done (some ((.bool (br cx false true)),[.undef])))))) (some ((.bool false),[.undef]))):=by kernel_rfl
theorem Hc:Told cfg Try.prog 73 Try.f73:=⟨by kernel_rfl,Try.func73,by kernel_rfl⟩
theorem Hd (g0:Bool) (n0:Nat) (c0:List D):aR pr cv J 73 Try.f73 [(.sl (some g0) 1 n0 c0)]=
 (br (pr.eq (pr.bc n0) 8) (cv 100 [(.sl (some g0) 1 n0 c0),(.fn 101 [])] (.bool (fun cx=>(.done (some ((.bool (br cx false true)),[.undef])))))) (some ((.bool false),[.undef]))):=by kernel_rfl
theorem oL:Told cfg Try.prog 100 Try.f100:=⟨by kernel_rfl,Try.func100,by kernel_rfl⟩
theorem oM (g0:Bool) (n0:Nat) (c0:List D):aR pr cv J 100 Try.f100 [(.sl (some g0) 1 n0 c0),(.fn 101 [])]=
 (cv 114 [(.sl (some g0) 1 n0 c0),(.fn 101 [])] (.int (fun fh=>(.done (some ((.bool (pr.le 0 fh)),[.undef,.undef])))))):=by kernel_rfl
def dW (g0:Bool) (n1:Nat) (c2:List D) (i3:Int) (i4:Int):St:=(St.mk [(0,(.sl (some g0) 1 n1 c2)),(1,(.fn 101 [])),(7,(.int .i64 i3)),(8,(.int .i64 i4))] [] [] 0)
theorem ql:Told cfg Try.prog 114 Try.f114:=⟨by kernel_rfl,Try.func114,by kernel_rfl⟩
theorem qm (g0:Bool) (n0:Nat) (c0:List D):aR pr cv J 114 Try.f114 [(.sl (some g0) 1 n0 c0),(.fn 101 [])]=
 (J 0 (dW g0 n0 c0 (pr.bc n0) 0)):=by kernel_rfl
theorem fY (g0:Bool) (n1:Nat) (c2:List D) (i3:Int) (i4:Int):bR pr cv J 114 Try.f114 [.undef,.undef] 0 (dW g0 n1 c2 i3 i4)=
 (br (pr.lt i4 i3) (br (pr.bh i4 n1) (br (br (pr.cW .i64 c2 (pr.idx 0 i4 1)) true false) (cv 101 [(.int .i64 (pr.bT c2 (pr.idx 0 i4 1)))] (.bool (fun cx=>(.done (br cx (some ((.int .i64 i4),[.undef,.undef])) (J 0 (dW g0 n1 c2 i3 (pr.ar .add .i64 i4 1)))))))) none) none) (some ((.int .i64 (-1)),[.undef,.undef]))):=by kernel_rfl
theorem oN:Told cfg Try.prog 103 Try.f103:=⟨by kernel_rfl,Try.func103,by kernel_rfl⟩
theorem oO (g0:Bool) (n0:Nat) (c0:List D):aR pr cv J 103 Try.f103 [(.sl (some g0) 1 n0 c0),(.fn 104 [])]=
 (cv 115 [(.sl (some g0) 1 n0 c0),(.fn 104 [])] (.int (fun fh=>(.done (some ((.bool (pr.le 0 fh)),[.undef,.undef])))))):=by kernel_rfl
def dX (g0:Bool) (n1:Nat) (c2:List D) (i3:Int) (i4:Int):St:=(St.mk [(0,(.sl (some g0) 1 n1 c2)),(1,(.fn 104 [])),(7,(.int .i64 i3)),(8,(.int .i64 i4))] [] [] 0)
theorem qn:Told cfg Try.prog 115 Try.f115:=⟨by kernel_rfl,Try.func115,by kernel_rfl⟩
theorem qo (g0:Bool) (n0:Nat) (c0:List D):aR pr cv J 115 Try.f115 [(.sl (some g0) 1 n0 c0),(.fn 104 [])]=
 (J 0 (dX g0 n0 c0 (pr.bc n0) 0)):=by kernel_rfl
theorem fZ (g0:Bool) (n1:Nat) (c2:List D) (i3:Int) (i4:Int):bR pr cv J 115 Try.f115 [.undef,.undef] 0 (dX g0 n1 c2 i3 i4)=
 (br (pr.lt i4 i3) (br (pr.bh i4 n1) (br (br (pr.dc 1 c2 (pr.idx 0 i4 1)) true false) (cv 104 [(.sl (some (pr.cF c2 (pr.idx 0 i4 1))) 1 (pr.bf c2 (pr.idx 0 i4 1)) (pr.bn c2 (pr.idx 0 i4 1)))] (.bool (fun cx=>(.done (br cx (some ((.int .i64 i4),[.undef,.undef])) (J 0 (dX g0 n1 c2 i3 (pr.ar .add .i64 i4 1)))))))) none) none) (some ((.int .i64 (-1)),[.undef,.undef]))):=by kernel_rfl
end
theorem WP.scan {f:FuncId} {fn:Func} {sk:List D} {j:Nat} {H:Nat->St} {n:Nat} (p:Nat->Bool) {bad ye:Rz} (EB:∀ i r,i < n->p i=true->WP f fn sk j (H (i+1)) r->WP f fn sk j (H i) r) (VC:∀ i,i < n->p i=false->WP f fn sk j (H i) bad) (VD:WP f fn sk j (H n) ye):WP f fn sk j (H 0) (if (List.range n).all p then ye else bad):=by
 have key:∀ k i,i+k=n->WP f fn sk j (H i) (if ((List.range n).drop i).all p then ye else bad):=by
  intro k
  induction k with
  | zero=>
   intro i hi;obtain rfl:i=n:=by omega
   rw [List.drop_of_length_le (by simp)]
   exact VD
  | succ k ih=>
   intro i hi;have cU:i < (List.range n).length:=by simp; omega
   have e:((List.range n).drop i).all p=(p i&&((List.range n).drop (i+1)).all p):=by
    rw [<- adW cU];simp
   rw [e];cases hp:p i with
   | true=>
    rw [aef];exact EB i _ (by omega) hp (ih (i+1) (by omega))
   | false=>
    rw [adL];exact VC i (by omega) hp
 exact key n 0 (by omega)
theorem bF {α:Type} {l:List α} {i:Nat} (h:i < l.length) {d:α}:l.getD i d=l[i]:=by simp [acv,h]
theorem VE {α:Type} (p:α->Bool) (d:α) (xs:List α):((List.range xs.length).all fun i=>p (xs.getD i d))=xs.all p:=by
 rw [Bool.eq_iff_iff,aag,aag];constructor
 ·intro h x hx;obtain ⟨i,hi,rfl⟩:=List.mem_iff_getElem.1 hx;have:=h i (adS.2 hi)
  rwa [bF hi] at this
 ·intro h i hi;rw [bF (adS.1 hi)];exact h _ (aaT _)
def Rz.bool (b:Bool) (k:Nat):Rz:=(.bool b,List.replicate k .undef)
theorem Pe (g:Bool) (xs:List Int) (a:Int) (hb:xs.length < 4611686018427387904):Cm 70 [.sl (some g) 1 xs.length (ints xs),.int .i64 a] (.bool (decide (a∈xs)),[.undef,.undef]):=by
 have e0:(Rz.bool (decide (a∈xs)) 2)=(if (List.range xs.length).all fun i=>!(xs.getD i 0==a) then Rz.bool false 2 else Rz.bool true 2):=by
  rw [VE (fun x=>!(x==a))];by_cases h:a∈xs
  ·have:(xs.all fun x=>!(x==a))=false:=by
    rw [List.all_eq_false];exact ⟨a,h,by simp⟩
   simp [this,h]
  ·have:(xs.all fun x=>!(x==a))=true:=by
    rw [aag];intro x hx;have:x≠a:=fun e=>h (e▸hx);simp [this]
   simp [this,h]
 show Cm _ _ (Rz.bool (decide (a∈xs)) 2);rw [e0];refine Cm.go MN [.undef,.undef] 0 (lL g xs.length (ints xs) a (0:Nat)) ?_ fun J hJ=>?_
 ·refine WP.scan (H:=fun i:Nat=>lL g xs.length (ints xs) a (i:Nat)) _ (fun i r hi hp ih=>WP.go _ ih fun J hJ=>?_) (fun i hi hp=>WP.fin fun J=>?_) (WP.fin fun J=>?_)
  ·rw [qk];rw [bF hi] at hp;have cV:xs[i]≠a:=by simpa using hp
   simp (disch:=first | omega | assumption) only [aG,aY,ba,aB,aP,bA,cK,dG,dH,dV,dg]
   exact hJ
  ·rw [qk];rw [bF hi] at hp;have he:xs[i]=a:=by simpa using hp
   simp (disch:=first | omega | assumption) only [aG,aY,ba,aB,aP,bA,cK,dG,dH,fU]
   rfl
  ·rw [qk];simp (disch:=omega) only [aB,bo];rfl
 ·rw [MO];exact hJ
def He (xs:List Int) (a:Int):Int:=if a∈xs then (xs.idxOf a:Int) else -1
theorem YT (g:Bool) (xs:List Int) (a:Int) (hb:xs.length < 4611686018427387904):Cm 109 [.sl (some g) 1 xs.length (ints xs),.int .i64 a] (.int .i64 (He xs a),[.undef,.undef]):=by
 refine Cm.go wV [.undef,.undef] 0 (fI g xs.length (ints xs) a xs.length (0:Nat)) ?_ fun J hJ=>?_
 ·refine WP.loop (H:=fun i:Nat=>fI g xs.length (ints xs) a xs.length (i:Nat)) (n:=xs.length) (fun i=>a∉xs.take i) (fun i hi hv ih=>?_) (fun hv=>WP.fin fun J=>?_) 0 (abh _) (by simp)
  ·by_cases he:a=xs[i]
   ·refine WP.fin fun J=>?_;rw [jS];have hm:a∈xs:=he▸aaT hi;have hix:xs.idxOf a=i:=by
     have e1:xs=xs.take i++xs[i]::xs.drop (i+1):=by rw [adW hi,aeb]
     rw [e1,List.idxOf_append,if_neg hv,he,List.idxOf_cons_self,acA];omega
    unfold He;rw [if_pos hm,hix];simp (disch:=first | omega | assumption) only [aG,aY,ba,aP,bA,cK,dG,dH,fU]
   ·refine WP.go _ (ih (by
     rw [<- abd hi];simp only [vh,ach,not_or];exact ⟨hv,he⟩)) fun J hJ=>?_
    rw [jS];simp (disch:=first | omega | assumption) only [aG,aY,ba,aP,bA,cK,dG,dH,dV,dg]
    exact hJ
  ·rw [jS];rw [aa9] at hv;unfold He;rw [if_neg hv];simp (disch:=omega) only [bo]
 ·rw [wW];exact hJ
theorem FB (g:Bool) (xs:List Int) (a:Int) (hb:xs.length < 4611686018427387904):Cm 79 [.sl (some g) 1 xs.length (ints xs),.int .i64 a] (.bool (decide (a∈xs)),[.undef,.undef]):=by
 refine Cm.fin uS fun J=>?_;rw [uT];have:=aX (YT g xs a hb) (by kernel_rfl)
 simp only [this,aq,yf];have e:decide (0<=He xs a)=decide (a∈xs):=by
  unfold He;by_cases h:a∈xs<;>simp [h]
 show some (D.bool (decide (0<=He xs a)),_)=_;rw [e]
section
variable (t:bE Rz)
theorem Pf (g:Bool) (xs:List Int) (a:Int) (n:Nat) (hn:n=xs.length) (hb:xs.length < 4611686018427387904):aL 70 [.sl (some g) 1 n (ints xs),.int .i64 a] t=feed t [.bool (decide (a∈xs))]:=by subst hn; exact aX (Pe g xs a hb) (by kernel_rfl) t
theorem FC (g:Bool) (xs:List Int) (a:Int) (n:Nat) (hn:n=xs.length) (hb:xs.length < 4611686018427387904):aL 79 [.sl (some g) 1 n (ints xs),.int .i64 a] t=feed t [.bool (decide (a∈xs))]:=by subst hn; exact aX (FB g xs a hb) (by kernel_rfl) t
end
theorem VF (a:Int):Cm 72 [.int .i64 a] (.bool (decide (0<=a/\a<=2)),[.undef]):=by
 refine Cm.fin JI fun J=>?_;rw [JJ];simp only [iz,aF,aq]
theorem MR (a:Int):Cm 116 [.int .i64 a] (.bool (decide (0<=a/\a<=7)),[.undef]):=by
 refine Cm.fin JK fun J=>?_;rw [JL];simp only [iz,aF,aq]
theorem Tu (a:Int):Cm 78 [.int .i64 a] (.bool (decide (1<=a/\a<=200)),[.undef]):=by
 refine Cm.fin G4 fun J=>?_;rw [G5];simp only [iz,aF,aq]
def lp (a:Int):Int:=if a=0∨a=1 then 1 - a else -1
theorem NR (a:Int):Cm 62 [.int .i64 a] (.int .i64 (lp a),[.undef]):=by
 refine Cm.fin NN fun J=>?_;rw [NO];unfold lp;by_cases h0:a=0
 ·subst h0; rfl
 ·by_cases h1:a=1
  ·subst h1; rfl
  ·rw [if_neg (by omega)]
   simp (disch:=omega) only [dV]
section
variable (t:bE Rz)
theorem yq (a:Int):aL 116 [.int .i64 a] t=feed t [.bool (decide (0<=a/\a<=7))]:=aX (MR a) (by kernel_rfl) t
end
theorem NS (a:Int):Cm 60 [.int .i64 a] (.int .i64 (lp a),[.undef]):=by
 refine Cm.fin NP fun J=>?_;rw [NQ];simp only [kz,aF,aq];unfold lp;by_cases h0:a=0
 ·subst h0; rfl
 ·by_cases h1:a=1
  ·subst h1; rfl
  ·rw [if_neg (by omega),decide_eq_false (by omega)]
   rfl
def oP (xs:List Int) (i:Nat):Bool:=decide (0<=xs.getD i 0/\xs.getD i 0<=7)&&(decide (i=0)||decide (xs.getD (i - 1) 0 < xs.getD i 0))
def ej (xs:List Int):Bool:=(List.range xs.length).all (oP xs)
theorem wX {b:Bool} {outs:List D}:(if b=true then ((D.bool true,outs):Rz) else (D.bool false,outs))=(D.bool b,outs):=by cases b<;>rfl
theorem wY (g:Bool) (xs:List Int) (hb:xs.length < 4611686018427387904):Cm 94 [.sl (some g) 1 xs.length (ints xs)] (.bool (ej xs),[.undef]):=by
 rw [<- wX];refine Cm.go G6 [.undef] 0 (jP g xs.length (ints xs) (0:Nat)) ?_ fun J hJ=>?_
 ·refine WP.scan (H:=fun i:Nat=>jP g xs.length (ints xs) (i:Nat)) (oP xs) (fun i r hi hp ih=>WP.go _ ih fun J hJ=>?_) (fun i hi hp=>WP.fin fun J=>?_) (WP.fin fun J=>?_)
  ·rw [ot];unfold oP at hp;rw [bF hi] at hp;simp only [D8,decide_eq_true_eq,acr] at hp;by_cases h0:i=0
   ·subst h0;simp (disch:=first | omega | assumption) only [aG,aY,ba,bl,bO,aB,aP,bo,bA,cK,dG,dH,kz,aF,aq,decide_eq_true hp.1,dg]
    exact hJ
   ·obtain ⟨k,rfl⟩:∃ k,i=k+1:=⟨i - 1,by omega⟩
    have hk:k < xs.length:=by omega
    have e1:((k+1:Nat):Int) - 1=(k:Int):=by omega
    have Oo:xs[k] < xs[k+1]:=by
     have:=hp.2.resolve_left h0
     rwa [aer,bF hk] at this
    simp (disch:=first | omega | assumption) only [aG,aY,ba,bl,bO,aB,aP,bA,cK,dG,dH,kz,aF,aq,decide_eq_true hp.1,me,e1,oI,dg]
    exact hJ
  ·rw [ot];unfold oP at hp;rw [bF hi] at hp;by_cases hc:0<=xs[i]/\xs[i]<=7
   ·rw [decide_eq_true hc,aef,adI,decide_eq_false_iff_not,decide_eq_false_iff_not] at hp;obtain ⟨k,rfl⟩:∃ k,i=k+1:=⟨i - 1,by omega⟩
    have hk:k < xs.length:=by omega
    have e1:((k+1:Nat):Int) - 1=(k:Int):=by omega
    have Oo:xs[k+1]<=xs[k]:=by
     have:=hp.2;rw [aer,bF hk] at this;omega
    simp (disch:=first | omega | assumption) only [aG,aY,ba,bl,bO,aB,aP,bA,cK,dG,dH,kz,aF,aq,decide_eq_true hc,me,e1,Bw]
   ·simp (disch:=first | omega | assumption) only [aG,aY,ba,bl,bO,aB,aP,bA,cK,dG,dH,kz,aF,aq,decide_eq_false hc]
  ·rw [ot];simp (disch:=omega) only [aB,bo]
 ·rw [G7];exact hJ
theorem wZ (g:Bool) (xs:List Int) (hb:xs.length < 4611686018427387904):Cm 105 [.sl (some g) 1 xs.length (ints xs)] (.bool (ej xs),[.undef]):=by
 rw [<- wX];refine Cm.go G8 [.undef] 0 (jQ g xs.length (ints xs) xs.length (0:Nat)) ?_ fun J hJ=>?_
 ·refine WP.scan (H:=fun i:Nat=>jQ g xs.length (ints xs) xs.length (i:Nat)) (oP xs) (fun i r hi hp ih=>WP.go _ ih fun J hJ=>?_) (fun i hi hp=>WP.fin fun J=>?_) (WP.fin fun J=>?_)
  ·rw [ou];unfold oP at hp;rw [bF hi] at hp;simp only [D8,decide_eq_true_eq,acr] at hp;by_cases h0:i=0
   ·subst h0;simp (disch:=first | omega | assumption) only [aG,aY,ba,bl,bO,aB,aP,bo,bA,cK,dG,dH,yq,aF,aq,decide_eq_true hp.1,dg]
    exact hJ
   ·obtain ⟨k,rfl⟩:∃ k,i=k+1:=⟨i - 1,by omega⟩
    have hk:k < xs.length:=by omega
    have e1:((k+1:Nat):Int) - 1=(k:Int):=by omega
    have Oo:xs[k] < xs[k+1]:=by
     have:=hp.2.resolve_left h0
     rwa [aer,bF hk] at this
    simp (disch:=first | omega | assumption) only [aG,aY,ba,bl,bO,aB,aP,bA,cK,dG,dH,yq,aF,aq,decide_eq_true hp.1,me,e1,oI,dg]
    exact hJ
  ·rw [ou];unfold oP at hp;rw [bF hi] at hp;by_cases hc:0<=xs[i]/\xs[i]<=7
   ·rw [decide_eq_true hc,aef,adI,decide_eq_false_iff_not,decide_eq_false_iff_not] at hp;obtain ⟨k,rfl⟩:∃ k,i=k+1:=⟨i - 1,by omega⟩
    have hk:k < xs.length:=by omega
    have e1:((k+1:Nat):Int) - 1=(k:Int):=by omega
    have Oo:xs[k+1]<=xs[k]:=by
     have:=hp.2;rw [aer,bF hk] at this;omega
    simp (disch:=first | omega | assumption) only [aG,aY,ba,bl,bO,aB,aP,bA,cK,dG,dH,yq,aF,aq,decide_eq_true hc,me,e1,Bw]
   ·simp (disch:=first | omega | assumption) only [aG,aY,ba,bl,bO,aB,aP,bA,cK,dG,dH,yq,aF,aq,decide_eq_false hc]
  ·rw [ou];simp (disch:=omega) only [bo]
 ·rw [G9];exact hJ
set_option maxRecDepth 100000
section
variable (pr:dA) (cv:Cv Rz) (J:Nat->St->Option Rz)
def kF (i0:Int) (g1:Bool) (n2:Nat) (c3:List D) (g4:Bool) (n5:Nat) (c6:List D) (b7:Bool) (b8:Bool) (b9:Bool) (i10:Int):St:=(St.mk [(1,(.ptr 1 [] 0)),(3,(.int .i64 i0))] [(1,[(.sl (some g1) 1 n2 c3),(.sl (some g4) 1 n5 c6),(.bool b7),(.bool b8),(.bool b9),(.int .i64 i10)])] [] 0)
theorem JS:Told cfg Try.prog 66 Try.f66:=⟨by kernel_rfl,Try.func66,by kernel_rfl⟩
theorem JT (g0:Bool) (n0:Nat) (c0:List D) (g1:Bool) (n1:Nat) (c1:List D) (a2:Bool) (a3:Bool) (a4:Bool) (a5:Int):aR pr cv J 66 Try.f66 [(.agg [(.sl (some g0) 1 n0 c0),(.sl (some g1) 1 n1 c1),(.bool a2),(.bool a3),(.bool a4),(.int .i64 a5)])]=
 (J 0 (kF 0 g0 n0 c0 g1 n1 c1 a2 a3 a4 a5)):=by kernel_rfl
theorem pb (i0:Int) (g1:Bool) (n2:Nat) (c3:List D) (g4:Bool) (n5:Nat) (c6:List D) (b7:Bool) (b8:Bool) (b9:Bool) (i10:Int):bR pr cv J 66 Try.f66 [.undef] 0 (kF i0 g1 n2 c3 g4 n5 c6 b7 b8 b9 i10)=
 let y1:Option (D × List D):=(some ((.bool false),[.undef]))
 (br (pr.lt i0 (pr.bc n5)) (br (pr.bh i0 n5) (br (br (pr.dc 1 c6 (pr.idx 0 i0 1)) true false) (cv 94 [(.sl (some (pr.cF c6 (pr.idx 0 i0 1))) 1 (pr.bf c6 (pr.idx 0 i0 1)) (pr.bn c6 (pr.idx 0 i0 1)))] (.bool (fun cx=>(.done (br (br cx false true) y1 (J 0 (kF (pr.ar .add .i64 i0 1) g1 n2 c3 g4 n5 c6 b7 b8 b9 i10))))))) none) none) (cv 95 [(.sl (some g1) 1 n2 c3)] (.bool (fun ku=>(.done (br ku (br (pr.lt 0 (pr.bc n2)) (br (pr.eq (pr.bc n5) 3) (cv 64 [(.int .i64 i10),(.int .i64 0),(.int .i64 200)] (.bool (fun iy=>(.done (br iy (br b8 (some ((.bool (br b9 false true)),[.undef])) (some ((.bool true),[.undef]))) y1))))) y1) y1) y1)))))):=by kernel_rfl
theorem JU:Told cfg Try.prog 74 Try.f74:=⟨by kernel_rfl,Try.func74,by kernel_rfl⟩
theorem JV (g0:Bool) (n0:Nat) (c0:List D) (g1:Bool) (n1:Nat) (c1:List D) (a2:Bool) (a3:Bool) (a4:Bool) (a5:Int):aR pr cv J 74 Try.f74 [(.agg [(.sl (some g0) 1 n0 c0),(.sl (some g1) 1 n1 c1),(.bool a2),(.bool a3),(.bool a4),(.int .i64 a5)])]=
 let y1:Option (D × List D):=(some ((.bool false),[.undef]))
 (cv 102 [(.sl (some g0) 1 n0 c0)] (.bool (fun cx=>(.done (br cx (br (pr.lt 0 (pr.bc n0)) (cv 75 [(.sl (some g1) 1 n1 c1)] (.bool (fun ku=>(.done (br ku (cv 99 [(.int .i64 a5),(.int .i64 0),(.int .i64 200)] (.bool (fun iy=>(.done (br iy (br a3 (some ((.bool (br a4 false true)),[.undef])) (some ((.bool true),[.undef]))) y1))))) y1))))) y1) y1))))):=by kernel_rfl
def je (i0:Int) (g1:Bool) (n2:Nat) (c3:List D) (g4:Bool) (n5:Nat) (c6:List D) (b7:Bool) (b8:Bool) (b9:Bool) (i10:Int) (g11:Bool) (iL:Nat) (jL:List D) (g14:Bool) (vG:Nat) (IZ:List D) (tb:Bool) (XQ:Bool) (XR:Bool) (i20:Int):St:=(St.mk [(2,(.ptr 2 [] 0)),(3,(.ptr 3 [] 0)),(5,(.int .i64 i0))] [(2,[(.sl (some g1) 1 n2 c3),(.sl (some g4) 1 n5 c6),(.bool b7),(.bool b8),(.bool b9),(.int .i64 i10)]),(3,[(.sl (some g11) 1 iL jL),(.sl (some g14) 1 vG IZ),(.bool tb),(.bool XQ),(.bool XR),(.int .i64 i20)])] [] 0)
theorem vK:Told cfg Try.prog 69 Try.f69:=⟨by kernel_rfl,Try.func69,by kernel_rfl⟩
theorem vL (g0:Bool) (n0:Nat) (c0:List D) (g1:Bool) (n1:Nat) (c1:List D) (a2:Bool) (a3:Bool) (a4:Bool) (a5:Int) (g6:Bool) (n6:Nat) (c6:List D) (g7:Bool) (n7:Nat) (c7:List D) (a8:Bool) (a9:Bool) (a10:Bool) (a11:Int):aR pr cv J 69 Try.f69 [(.agg [(.sl (some g0) 1 n0 c0),(.sl (some g1) 1 n1 c1),(.bool a2),(.bool a3),(.bool a4),(.int .i64 a5)]),(.agg [(.sl (some g6) 1 n6 c6),(.sl (some g7) 1 n7 c7),(.bool a8),(.bool a9),(.bool a10),(.int .i64 a11)])]=
 let y1:Option (D × List D):=(some ((.bool false),[.undef,.undef]))
 (br (br (pr.eq (pr.bc n1) (pr.bc n7)) false true) y1 (cv 98 [(.sl (some g0) 1 n0 c0),(.sl (some g6) 1 n6 c6)] (.bool (fun cx=>(.done (br (br cx false true) y1 (br (br (pr.beq a2 a8) false true) y1 (br (br (pr.beq a3 a9) false true) y1 (br (br (pr.beq a4 a10) false true) y1 (br (br (pr.eq a5 a11) false true) y1 (J 0 (je 0 g0 n0 c0 g1 n1 c1 a2 a3 a4 a5 g6 n6 c6 g7 n7 c7 a8 a9 a10 a11)))))))))))):=by kernel_rfl
theorem nB (i0:Int) (g1:Bool) (n2:Nat) (c3:List D) (g4:Bool) (n5:Nat) (c6:List D) (b7:Bool) (b8:Bool) (b9:Bool) (i10:Int) (g11:Bool) (iL:Nat) (jL:List D) (g14:Bool) (vG:Nat) (IZ:List D) (tb:Bool) (XQ:Bool) (XR:Bool) (i20:Int):bR pr cv J 69 Try.f69 [.undef,.undef] 0 (je i0 g1 n2 c3 g4 n5 c6 b7 b8 b9 i10 g11 iL jL g14 vG IZ tb XQ XR i20)=
 (br (pr.lt i0 (pr.bc n5)) (br (pr.bh i0 n5) (br (br (pr.dc 1 c6 (pr.idx 0 i0 1)) true false) (br (pr.bh i0 vG) (br (br (pr.dc 1 IZ (pr.idx 0 i0 1)) true false) (cv 98 [(.sl (some (pr.cF c6 (pr.idx 0 i0 1))) 1 (pr.bf c6 (pr.idx 0 i0 1)) (pr.bn c6 (pr.idx 0 i0 1))),(.sl (some (pr.cF IZ (pr.idx 0 i0 1))) 1 (pr.bf IZ (pr.idx 0 i0 1)) (pr.bn IZ (pr.idx 0 i0 1)))] (.bool (fun cx=>(.done (br (br cx false true) (some ((.bool false),[.undef,.undef])) (J 0 (je (pr.ar .add .i64 i0 1) g1 n2 c3 g4 n5 c6 b7 b8 b9 i10 g11 iL jL g14 vG IZ tb XQ XR i20))))))) none) none) none) none) (some ((.bool true),[.undef,.undef]))):=by kernel_rfl
theorem FD:Told cfg Try.prog 77 Try.f77:=⟨by kernel_rfl,Try.func77,by kernel_rfl⟩
theorem FE (g0:Bool) (n0:Nat) (c0:List D) (g1:Bool) (n1:Nat) (c1:List D) (a2:Bool) (a3:Bool) (a4:Bool) (a5:Int) (g6:Bool) (n6:Nat) (c6:List D) (g7:Bool) (n7:Nat) (c7:List D) (a8:Bool) (a9:Bool) (a10:Bool) (a11:Int):aR pr cv J 77 Try.f77 [(.agg [(.sl (some g0) 1 n0 c0),(.sl (some g1) 1 n1 c1),(.bool a2),(.bool a3),(.bool a4),(.int .i64 a5)]),(.agg [(.sl (some g6) 1 n6 c6),(.sl (some g7) 1 n7 c7),(.bool a8),(.bool a9),(.bool a10),(.int .i64 a11)])]=
 let y1:Option (D × List D):=(some ((.bool false),[.undef,.undef]))
 (cv 107 [(.sl (some g0) 1 n0 c0),(.sl (some g6) 1 n6 c6)] (.bool (fun cx=>(.done (br cx (cv 108 [(.sl (some g1) 1 n1 c1),(.sl (some g7) 1 n7 c7),(.fn 107 [])] (.bool (fun ku=>(.done (br ku (br (pr.beq a2 a8) (br (pr.beq a3 a9) (br (pr.beq a4 a10) (some ((.bool (pr.eq a5 a11)),[.undef,.undef])) y1) y1) y1) y1))))) y1))))):=by kernel_rfl
end
theorem WP.find {f:FuncId} {fn:Func} {sk:List D} {j:Nat} {H:Nat->St} {n:Nat} (p:Nat->Bool) {bad:Nat->Rz} {ye:Rz} (EB:∀ i r,i < n->p i=false->WP f fn sk j (H (i+1)) r->WP f fn sk j (H i) r) (VC:∀ i,i < n->p i=true->WP f fn sk j (H i) (bad i)) (VD:WP f fn sk j (H n) ye):WP f fn sk j (H 0) (match (List.range n).find? p with | some i=>bad i | none=>ye):=by
 have key:∀ k i,i+k=n->WP f fn sk j (H i) (match ((List.range n).drop i).find? p with | some i=>bad i | none=>ye):=by
  intro k
  induction k with
  | zero=>
   intro i hi;obtain rfl:i=n:=by omega
   rw [List.drop_of_length_le (by simp)]
   exact VD
  | succ k ih=>
   intro i hi;have cU:i < (List.range n).length:=by simp; omega
   rw [<- adW cU,List.getElem_range,List.find?_cons];cases hp:p i with
   | false=>exact EB i _ (by omega) hp (ih (i+1) (by omega))
   | true=>exact VC i (by omega) hp
 exact key n 0 (by omega)
theorem VG {n:Nat} (p:Nat->Bool) (k:Nat->Int) (hk:∀ i,0<=k i):decide (0<=(match (List.range n).find? p with | some i=>k i | none=>-1))=!((List.range n).all fun i=>!p i):=by
 cases h:(List.range n).find? p with
 | none=>
  rw [List.find?_eq_none] at h;have:((List.range n).all fun i=>!p i)=true:=by
   rw [aag];intro x hx
   simpa using h x hx
  rw [this];rfl
 | some i=>
  have h1:=ad2 h;have h2:=List.find?_some h;have:((List.range n).all fun i=>!p i)=false:=by
   rw [List.all_eq_false];exact ⟨i,h1,by simp [h2]⟩
  rw [this];simp [hk i]
theorem AA {a b:Bool} {outs:List D}:(if a=true then ((D.bool b,outs):Rz) else (D.bool false,outs))=(D.bool (a&&b),outs):=by cases a<;>rfl
theorem BA (n:Nat):U.jB (n:Int) 0=n:=by simp [U]
theorem FF:U.eE 0=0:=rfl
theorem FH (n:Nat):Nat.mul n 1=n:=Nat.mul_one n
theorem FI (n:Nat):Nat.mul 0 n=0:=Nat.zero_mul n
theorem su (xs:List Int) (i:Nat):List.take i (ints xs)=ints (xs.take i):=by simp [ints,List.map_take]
def vM (xs:List Int) (i:Nat):Bool:=decide (1<=xs.getD i 0/\xs.getD i 0<=100000)&&!decide (xs.getD i 0∈xs.take i)
def fV (xs:List Int):Bool:=(List.range xs.length).all (vM xs)&&decide ((xs.length:Int)<=12)
theorem yR (g:Bool) (xs:List Int) (hb:xs.length < 4611686018427387904):Cm 95 [.sl (some g) 1 xs.length (ints xs)] (.bool (fV xs),[.undef]):=by
 unfold fV;rw [<- AA];refine Cm.go JM [.undef] 0 (kD g xs.length (ints xs) (0:Nat)) ?_ fun J hJ=>?_
 ·refine WP.scan (H:=fun i:Nat=>kD g xs.length (ints xs) (i:Nat)) (vM xs) (fun i r hi hp ih=>WP.go _ ih fun J hJ=>?_) (fun i hi hp=>WP.fin fun J=>?_) (WP.fin fun J=>?_)
  ·rw [o8];unfold vM at hp;rw [bF hi,D8,decide_eq_true_eq,abf,decide_eq_false_iff_not] at hp;simp (disch:=first | omega | assumption | (simp; omega)) only [aG,aY,ba,bl,bO,aB,aP,E5,bA,cK,dG,dH,kz,aF,aq,decide_eq_true hp.1,BA,FF,FH,FI,ad5,su,Pf,decide_eq_false hp.2,dg]
   exact hJ
  ·rw [o8];unfold vM at hp;rw [bF hi] at hp;by_cases hc:1<=xs[i]/\xs[i]<=100000
   ·rw [decide_eq_true hc,aef,Bool.not_eq_false',decide_eq_true_eq] at hp;simp (disch:=first | omega | assumption | (simp; omega)) only [aG,aY,ba,bl,bO,aB,aP,E5,bA,cK,dG,dH,kz,aF,aq,decide_eq_true hc,BA,FF,FH,FI,ad5,su,Pf,decide_eq_true hp]
   ·simp (disch:=first | omega | assumption) only [aG,aY,ba,bl,bO,aB,aP,bA,cK,dG,dH,kz,aF,aq,decide_eq_false hc]
  ·rw [o8];simp (disch:=omega) only [aB,bo,yf]
 ·rw [JN];exact hJ
theorem yS (g:Bool) (xs:List Int) (hb:xs.length < 4611686018427387904):Cm 102 [.sl (some g) 1 xs.length (ints xs)] (.bool (fV xs),[.undef]):=by
 unfold fV;rw [<- AA];refine Cm.go JO [.undef] 0 (kE g xs.length (ints xs) xs.length (0:Nat)) ?_ fun J hJ=>?_
 ·refine WP.scan (H:=fun i:Nat=>kE g xs.length (ints xs) xs.length (i:Nat)) (vM xs) (fun i r hi hp ih=>WP.go _ ih fun J hJ=>?_) (fun i hi hp=>WP.fin fun J=>?_) (WP.fin fun J=>?_)
  ·rw [o9];unfold vM at hp;rw [bF hi,D8,decide_eq_true_eq,abf,decide_eq_false_iff_not] at hp;simp (disch:=first | omega | assumption | (simp; omega)) only [aG,aY,ba,bl,bO,aB,aP,E5,bA,cK,dG,dH,iz,aF,aq,decide_eq_true hp.1,BA,FF,FH,FI,ad5,su,FC,decide_eq_false hp.2,dg]
   exact hJ
  ·rw [o9];unfold vM at hp;rw [bF hi] at hp;by_cases hc:1<=xs[i]/\xs[i]<=100000
   ·rw [decide_eq_true hc,aef,Bool.not_eq_false',decide_eq_true_eq] at hp;simp (disch:=first | omega | assumption | (simp; omega)) only [aG,aY,ba,bl,bO,aB,aP,E5,bA,cK,dG,dH,iz,aF,aq,decide_eq_true hc,BA,FF,FH,FI,ad5,su,FC,decide_eq_true hp]
   ·simp (disch:=first | omega | assumption) only [aG,aY,ba,bl,bO,aB,aP,bA,cK,dG,dH,iz,aF,aq,decide_eq_false hc]
  ·rw [o9];simp (disch:=omega) only [aB,bo,yf]
 ·rw [JP];exact hJ
def oQ (xs:List Int) (i:Nat):Bool:=decide (0<=xs.getD i 0/\xs.getD i 0<=200)
def jU (xs:List Int):Bool:=(List.range xs.length).all (oQ xs)&&decide ((xs.length:Int)=8)
theorem Hf (g:Bool) (xs:List Int) (hb:xs.length < 4611686018427387904):Cm 65 [.sl (some g) 1 xs.length (ints xs)] (.bool (jU xs),[.undef]):=by
 unfold jU;rw [<- AA];refine Cm.go Ha [.undef] 0 (jR g xs.length (ints xs) (0:Nat)) ?_ fun J hJ=>?_
 ·refine WP.scan (H:=fun i:Nat=>jR g xs.length (ints xs) (i:Nat)) (oQ xs) (fun i r hi hp ih=>WP.go _ ih fun J hJ=>?_) (fun i hi hp=>WP.fin fun J=>?_) (WP.fin fun J=>?_)
  ·rw [ov];unfold oQ at hp;rw [bF hi] at hp;simp (disch:=first | omega | assumption) only [aG,aY,ba,bl,bO,aB,aP,bA,cK,dG,dH,kz,aF,aq,hp,dg]
   exact hJ
  ·rw [ov];unfold oQ at hp;rw [bF hi] at hp;simp (disch:=first | omega | assumption) only [aG,aY,ba,bl,bO,aB,aP,bA,cK,dG,dH,kz,aF,aq,hp]
  ·rw [ov];simp (disch:=omega) only [aB,bo,Ai];rfl
 ·rw [Hb];exact hJ
theorem NT (a:Int):Cm 101 [.int .i64 a] (.bool (!decide (0<=a/\a<=200)),[.undef]):=by
 refine Cm.fin DA fun J=>?_;rw [DB];simp only [iz,aF,aq,bl]
theorem Cx (a:Int) (t:bE Rz):aL 101 [.int .i64 a] t=feed t [.bool (!decide (0<=a/\a<=200))]:=aX (NT a) (by kernel_rfl) t
def vN (n:Nat) (p:Nat->Bool):Int:=match (List.range n).find? (fun i=>!p i) with | some i=>(i:Int) | none=>-1
theorem MS (n:Nat) (p:Nat->Bool):decide (0<=vN n p)=!(List.range n).all p:=by
 unfold vN;rw [VG _ _ (fun i=>Int.natCast_nonneg i)];simp
theorem MT (g:Bool) (xs:List Int) (hb:xs.length < 4611686018427387904):Cm 114 [.sl (some g) 1 xs.length (ints xs),.fn 101 []] (.int .i64 (vN xs.length (oQ xs)),[.undef,.undef]):=by
 have e:((.int .i64 (vN xs.length (oQ xs)),[.undef,.undef]):Rz)=(match (List.range xs.length).find? (fun i=>!oQ xs i) with | some i=>((.int .i64 (i:Int),[.undef,.undef]):Rz) | none=>(.int .i64 (-1),[.undef,.undef])):=by
  unfold vN;split<;>rfl
 rw [e];refine Cm.go ql [.undef,.undef] 0 (dW g xs.length (ints xs) xs.length (0:Nat)) ?_ fun J hJ=>?_
 ·refine WP.find (H:=fun i:Nat=>dW g xs.length (ints xs) xs.length (i:Nat)) _ (fun i r hi hp ih=>WP.go _ ih fun J hJ=>?_) (fun i hi hp=>WP.fin fun J=>?_) (WP.fin fun J=>?_)
  ·rw [fY];unfold oQ at hp;rw [bF hi] at hp;simp (disch:=first | omega | assumption) only [aG,aY,ba,bl,bO,aB,aP,bA,cK,dG,dH,Cx,aF,aq,hp,dg]
   exact hJ
  ·rw [fY];unfold oQ at hp;rw [bF hi] at hp;simp (disch:=first | omega | assumption) only [aG,aY,ba,bl,aB,aP,bA,cK,dG,dH,Cx,aF,aq,hp]
  ·rw [fY];simp (disch:=omega) only [aB,bo]
 ·rw [qm];exact hJ
theorem FJ (g:Bool) (xs:List Int) (hb:xs.length < 4611686018427387904):Cm 100 [.sl (some g) 1 xs.length (ints xs),.fn 101 []] (.bool (!(List.range xs.length).all (oQ xs)),[.undef,.undef]):=by
 refine Cm.fin oL fun J=>?_;rw [oM];have:=aX (MT g xs hb) (by kernel_rfl)
 simp only [this,aq,yf];rw [<- MS];rfl
theorem Hg (g:Bool) (xs:List Int) (hb:xs.length < 4611686018427387904):Cm 73 [.sl (some g) 1 xs.length (ints xs)] (.bool (jU xs),[.undef]):=by
 refine Cm.fin Hc fun J=>?_;rw [Hd];have:=aX (FJ g xs hb) (by kernel_rfl)
 unfold jU;by_cases h:(xs.length:Int)=8
 ·simp (disch:=first | omega | assumption) only [aB,fU,this,bl]
  rw [decide_eq_true h,aeB];show some (D.bool (!!_),_)=_;rw [Bool.not_not]
 ·simp (disch:=first | omega | assumption) only [aB,dV]
  rw [decide_eq_false h,aei]
section
variable (t:bE Rz)
theorem JW (g:Bool) (xs:List Int) (n:Nat) (hn:n=xs.length) (hb:xs.length < 4611686018427387904):aL 95 [.sl (some g) 1 n (ints xs)] t=feed t [.bool (fV xs)]:=by subst hn; exact aX (yR g xs hb) (by kernel_rfl) t
theorem JX (g:Bool) (xs:List Int) (n:Nat) (hn:n=xs.length) (hb:xs.length < 4611686018427387904):aL 102 [.sl (some g) 1 n (ints xs)] t=feed t [.bool (fV xs)]:=by subst hn; exact aX (yS g xs hb) (by kernel_rfl) t
theorem w5 (g:Bool) (xs:List Int) (n:Nat) (hn:n=xs.length) (hb:xs.length < 4611686018427387904):aL 94 [.sl (some g) 1 n (ints xs)] t=feed t [.bool (ej xs)]:=by subst hn; exact aX (wY g xs hb) (by kernel_rfl) t
theorem Hh (g:Bool) (xs:List Int) (n:Nat) (hn:n=xs.length) (hb:xs.length < 4611686018427387904):aL 105 [.sl (some g) 1 n (ints xs)] t=feed t [.bool (ej xs)]:=by subst hn; exact aX (wZ g xs hb) (by kernel_rfl) t
end
set_option maxRecDepth 100000
section
variable (pr:dA) (cv:Cv Rz) (J:Nat->St->Option Rz)
def dw (g0:Bool) (n1:Nat) (c2:List D) (g3:Bool) (n4:Nat) (c5:List D) (i6:Int) (i7:Int):St:=(St.mk [(1,(.sl (some g0) 1 n1 c2)),(2,(.fn 107 [])),(15,(.sl (some g3) 1 n4 c5)),(16,(.int .i64 i6)),(17,(.int .i64 i7))] [] [] 0)
theorem jt:Told cfg Try.prog 108 Try.f108:=⟨by kernel_rfl,Try.func108,by kernel_rfl⟩
theorem ju (g0:Bool) (n0:Nat) (c0:List D) (g1:Bool) (n1:Nat) (c1:List D):aR pr cv J 108 Try.f108 [(.sl (some g0) 1 n0 c0),(.sl (some g1) 1 n1 c1),(.fn 107 [])]=
 (br (br (pr.eq (pr.bc n0) (pr.bc n1)) false true) (some ((.bool false),[.undef,.undef,.undef])) (J 0 (dw g1 n1 c1 g0 n0 c0 (pr.bc n0) 0))):=by kernel_rfl
theorem fy (g0:Bool) (n1:Nat) (c2:List D) (g3:Bool) (n4:Nat) (c5:List D) (i6:Int) (i7:Int):bR pr cv J 108 Try.f108 [.undef,.undef,.undef] 0 (dw g0 n1 c2 g3 n4 c5 i6 i7)=
 (br (pr.lt i7 i6) (br (pr.bh i7 n4) (br (br (pr.dc 1 c5 (pr.idx 0 i7 1)) true false) (br (pr.bh i7 n1) (br (br (pr.dc 1 c2 (pr.idx 0 i7 1)) true false) (cv 107 [(.sl (some (pr.cF c5 (pr.idx 0 i7 1))) 1 (pr.bf c5 (pr.idx 0 i7 1)) (pr.bn c5 (pr.idx 0 i7 1))),(.sl (some (pr.cF c2 (pr.idx 0 i7 1))) 1 (pr.bf c2 (pr.idx 0 i7 1)) (pr.bn c2 (pr.idx 0 i7 1)))] (.bool (fun cx=>(.done (br (br cx false true) (some ((.bool false),[.undef,.undef,.undef])) (J 0 (dw g0 n1 c2 g3 n4 c5 i6 (pr.ar .add .i64 i7 1)))))))) none) none) none) none) (some ((.bool true),[.undef,.undef,.undef]))):=by kernel_rfl
theorem NU:Told cfg Try.prog 131 Try.f131:=⟨by kernel_rfl,Try.func131,by kernel_rfl⟩
theorem NV (a0:Int):aR pr cv J 131 Try.f131 [(.int .i64 a0)]=
 (br (br (pr.lt 8 0) false true) (br (br (pr.lt 16 0) false true) (br (br (pr.lt 24 0) false true) (some ((.sl none 1 4 [(.int .u8 (pr.wrap .u8 a0)),(.int .u8 (pr.wrap .u8 (pr.ar .shr .i64 a0 8))),(.int .u8 (pr.wrap .u8 (pr.ar .shr .i64 a0 16))),(.int .u8 (pr.wrap .u8 (pr.ar .shr .i64 a0 24)))]),[.undef])) none) none) none):=by kernel_rfl
end
theorem all_eq {α:Type} [DecidableEq α] (d:α):∀ (xs ys:List α),xs.length=ys.length->((List.range xs.length).all fun i=>decide (xs.getD i d=ys.getD i d))=decide (xs=ys):=by
 intro xs ys hl;rw [Bool.eq_iff_iff,aag,decide_eq_true_eq];constructor
 ·intro h;apply List.ext_getElem hl;intro i hi vx;have:=h i (adS.2 hi)
  rwa [decide_eq_true_eq,bF hi,bF vx] at this
 ·intro h;subst h;intro i _;simp
theorem QD {α:Type} [DecidableEq α] (d:α) (xs ys:List α):(((List.range (min xs.length ys.length)).all fun i=>decide (xs.getD i d=ys.getD i d))&&decide ((xs.length:Int)=(ys.length:Int)))=decide (xs=ys):=by
 by_cases h:xs.length=ys.length
 ·rw [<- h,Nat.min_self,all_eq d xs ys h];simp
 ·have:xs≠ys:=fun e=>h (e▸rfl);have h':¬ (xs.length:Int)=(ys.length:Int):=by omega
  rw [decide_eq_false h',decide_eq_false this,aei]
theorem MU (g h:Bool) (xs ys:List Int) (hx:xs.length < 4611686018427387904) (hy:ys.length < 4611686018427387904):Cm 98 [.sl (some g) 1 xs.length (ints xs),.sl (some h) 1 ys.length (ints ys)] (.bool (decide (xs=ys)),[.undef,.undef]):=by
 rw [<- QD 0,<- AA];refine Cm.go JG [.undef,.undef] 0 (kC g xs.length (ints xs) h ys.length (ints ys) (0:Nat)) ?_ fun J hJ=>?_
 ·refine WP.scan (H:=fun i:Nat=>kC g xs.length (ints xs) h ys.length (ints ys) (i:Nat)) _ (fun i r hi hp ih=>WP.go _ ih fun J hJ=>?_) (fun i hi hp=>WP.fin fun J=>?_) (WP.fin fun J=>?_)
  ·rw [o7];have h1:i < xs.length:=by omega
   have h2:i < ys.length:=by omega
   rw [bF h1,bF h2,decide_eq_true_eq] at hp;simp (disch:=first | omega | assumption) only [aG,aY,ba,bl,bO,aB,aP,bA,cK,dG,dH,fU,dg]
   exact hJ
  ·rw [o7];have h1:i < xs.length:=by omega
   have h2:i < ys.length:=by omega
   rw [bF h1,bF h2,decide_eq_false_iff_not] at hp;simp (disch:=first | omega | assumption) only [aG,aY,ba,bl,bO,aB,aP,bA,cK,dG,dH,dV]
  ·rw [o7];by_cases h1:min xs.length ys.length < xs.length
   ·simp (disch:=omega) only [aB,aP,bo,Ai];rfl
   ·simp (disch:=omega) only [aB,bo,Ai];rfl
 ·rw [JH];exact hJ
theorem Pg (g h:Bool) (xs ys:List Int) (hx:xs.length < 4611686018427387904) (hy:ys.length < 4611686018427387904):Cm 107 [.sl (some g) 1 xs.length (ints xs),.sl (some h) 1 ys.length (ints ys)] (.bool (decide (xs=ys)),[.undef,.undef]):=by
 by_cases hl:xs.length=ys.length
 ·rw [<- all_eq 0 xs ys hl,<- wX];refine Cm.go pE [.undef,.undef] 0 (fJ g xs.length (ints xs) h ys.length (ints ys) xs.length (0:Nat)) ?_ fun J hJ=>?_
  ·refine WP.scan (H:=fun i:Nat=>fJ g xs.length (ints xs) h ys.length (ints ys) xs.length (i:Nat)) _ (fun i r hi hp ih=>WP.go _ ih fun J hJ=>?_) (fun i hi hp=>WP.fin fun J=>?_) (WP.fin fun J=>?_)
   ·rw [jT];have h2:i < ys.length:=by omega
    rw [bF hi,bF h2,decide_eq_true_eq] at hp;simp (disch:=first | omega | assumption) only [aG,aY,ba,bl,bO,aB,aP,bA,cK,dG,dH,fU,dg]
    exact hJ
   ·rw [jT];have h2:i < ys.length:=by omega
    rw [bF hi,bF h2,decide_eq_false_iff_not] at hp;simp (disch:=first | omega | assumption) only [aG,aY,ba,bl,bO,aB,aP,bA,cK,dG,dH,dV]
   ·rw [jT];simp (disch:=omega) only [aB,bo]
  ·rw [pF];simp (disch:=omega) only [aB,fU,bl,bO,aG,aY];exact hJ
 ·have cV:xs≠ys:=fun e=>hl (e▸rfl);refine Cm.fin pE fun J=>?_;rw [pF,decide_eq_false cV];simp (disch:=omega) only [aB,dV,bl,bO,aG,aY]
section
variable (t:bE Rz)
theorem yr (g h:Bool) (xs ys:List Int) (n k:Nat) (hn:n=xs.length) (hk:k=ys.length) (hx:xs.length < 4611686018427387904) (hy:ys.length < 4611686018427387904):aL 98 [.sl (some g) 1 n (ints xs),.sl (some h) 1 k (ints ys)] t=feed t [.bool (decide (xs=ys))]:=by subst hn hk; exact aX (MU g h xs ys hx hy) (by kernel_rfl) t
theorem Hi (g h:Bool) (xs ys:List Int) (n k:Nat) (hn:n=xs.length) (hk:k=ys.length) (hx:xs.length < 4611686018427387904) (hy:ys.length < 4611686018427387904):aL 107 [.sl (some g) 1 n (ints xs),.sl (some h) 1 k (ints ys)] t=feed t [.bool (decide (xs=ys))]:=by subst hn hk; exact aX (Pg g h xs ys hx hy) (by kernel_rfl) t
end
theorem NW (g h:Bool) (xs ys:List (List Int)) (hx:sq xs) (hy:sq ys):Cm 108 [sR (some g) xs,sR (some h) ys,.fn 107 []] (.bool (decide (xs=ys)),[.undef,.undef,.undef]):=by
 by_cases hl:xs.length=ys.length
 ·rw [<- all_eq [] xs ys hl,<- wX];refine Cm.go jt [.undef,.undef,.undef] 0 (dw h ys.length (rows (some h) ys) g xs.length (rows (some g) xs) xs.length (0:Nat)) ?_ fun J hJ=>?_
  ·refine WP.scan (H:=fun i:Nat=>dw h ys.length (rows (some h) ys) g xs.length (rows (some g) xs) xs.length (i:Nat)) _ (fun i r hi hp ih=>WP.go _ ih fun J hJ=>?_) (fun i hi hp=>WP.fin fun J=>?_) (WP.fin fun J=>?_)
   ·have b1:=hx.1;have h2:i < ys.length:=by omega
    have b2:=hx.2 _ (aaT hi);have b3:=hy.2 _ (aaT h2);rw [fy];rw [bF hi,bF h2] at hp;simp (disch:=first | omega | assumption) only [aG,aY,ba,bl,bO,aB,aP,bA,cK,iC,iD,hM,iE,Hi,aF,aq,hp,dg]
    exact hJ
   ·have b1:=hx.1;have h2:i < ys.length:=by omega
    have b2:=hx.2 _ (aaT hi);have b3:=hy.2 _ (aaT h2);rw [fy];rw [bF hi,bF h2] at hp;simp (disch:=first | omega | assumption) only [aG,aY,ba,bl,bO,aB,aP,bA,cK,iC,iD,hM,iE,Hi,aF,aq,hp]
   ·rw [fy];simp (disch:=omega) only [aB,bo]
  ·rw [ju];simp (disch:=omega) only [aB,fU,bl,bO,aG,aY];exact hJ
 ·have cV:xs≠ys:=fun e=>hl (e▸rfl);refine Cm.fin jt fun J=>?_;rw [ju,decide_eq_false cV];simp (disch:=omega) only [aB,dV,bl,bO,aG,aY]
def mJ (xss:List (List Int)) (i:Nat):Bool:=ej (xss.getD i [])
def hC (xss:List (List Int)):Bool:=(List.range xss.length).all (mJ xss)
theorem MV (g:Bool) (xs:List Int) (hb:xs.length < 4611686018427387904):Cm 104 [.sl (some g) 1 xs.length (ints xs)] (.bool (!ej xs),[.undef]):=by
 refine Cm.fin BK fun J=>?_;rw [BL];simp (disch:=first | rfl | assumption) only [Hh,aF,aq,bl]
theorem AB (g:Bool) (xs:List Int) (n:Nat) (hn:n=xs.length) (hb:xs.length < 4611686018427387904) (t:bE Rz):aL 104 [.sl (some g) 1 n (ints xs)] t=feed t [.bool (!ej xs)]:=by subst hn; exact aX (MV g xs hb) (by kernel_rfl) t
theorem MW (g:Bool) (xss:List (List Int)) (hb:sq xss):Cm 115 [sR (some g) xss,.fn 104 []] (.int .i64 (vN xss.length (mJ xss)),[.undef,.undef]):=by
 have e:((.int .i64 (vN xss.length (mJ xss)),[.undef,.undef]):Rz)=(match (List.range xss.length).find? (fun i=>!mJ xss i) with | some i=>((.int .i64 (i:Int),[.undef,.undef]):Rz) | none=>(.int .i64 (-1),[.undef,.undef])):=by
  unfold vN;cases (List.range xss.length).find? (fun i=>!mJ xss i)<;>rfl
 rw [e];have b1:=hb.1;refine Cm.go qn [.undef,.undef] 0 (dX g xss.length (rows (some g) xss) xss.length (0:Nat)) ?_ fun J hJ=>?_
 ·refine WP.find (H:=fun i:Nat=>dX g xss.length (rows (some g) xss) xss.length (i:Nat)) _ (fun i r hi hp ih=>WP.go _ ih fun J hJ=>?_) (fun i hi hp=>WP.fin fun J=>?_) (WP.fin fun J=>?_)
  ·have b2:=hb.2 _ (aaT hi);rw [fZ];unfold mJ at hp;rw [bF hi] at hp;simp (disch:=first | omega | assumption) only [aG,aY,ba,bl,aB,aP,bA,cK,iC,iD,hM,iE,AB,aF,aq,hp,dg]
   exact hJ
  ·have b2:=hb.2 _ (aaT hi);rw [fZ];unfold mJ at hp;rw [bF hi] at hp;simp (disch:=first | omega | assumption) only [aG,aY,ba,bl,aB,aP,bA,cK,iC,iD,hM,iE,AB,aF,aq,hp]
  ·rw [fZ];simp (disch:=omega) only [aB,bo]
 ·rw [qo];exact hJ
theorem FK (g:Bool) (xss:List (List Int)) (hb:sq xss):Cm 103 [sR (some g) xss,.fn 104 []] (.bool (!hC xss),[.undef,.undef]):=by
 refine Cm.fin oN fun J=>?_;rw [oO];have:=aX (MW g xss hb) (by kernel_rfl)
 simp only [this,aq,yf];unfold hC;rw [<- MS];rfl
theorem FL (g:Bool) (xss:List (List Int)) (hb:sq xss):Cm 75 [sR (some g) xss] (.bool (((xss.length:Int)==3)&&hC xss),[.undef]):=by
 refine Cm.fin Fy fun J=>?_;rw [Fz];have:=aX (FK g xss hb) (by kernel_rfl)
 simp only [this,aB,Ai];cases (xss.length:Int)==3 with
 | true=>
  show some (D.bool (br (!hC xss) false true),_)=_;rw [bl,Bool.not_not];rfl
 | false=>rfl
def dZ (m:aE):Bool:=hC m.bits&&(fV m.aK&&(decide (0 < (m.aK.length:Int))&&(((m.bits.length:Int)==3)&&(decide (0<=m.last/\m.last<=200)&&!(m.bW&&m.held)))))
theorem sQ (g:Bool) (m:aE) (hb:cz m):Cm 66 [.agg (bK (some g) m)] (.bool (dZ m),[.undef]):=by
 unfold dZ;rw [<- AA];have b0:=hb.aK;have b1:=hb.bits.1;refine Cm.go JS [.undef] 0 (kF (0:Nat) g m.aK.length (ints m.aK) g m.bits.length (rows (some g) m.bits) m.eb m.bW m.held m.last) ?_ fun J hJ=>?_
 ·refine WP.scan (H:=fun i:Nat=>kF (i:Nat) g m.aK.length (ints m.aK) g m.bits.length (rows (some g) m.bits) m.eb m.bW m.held m.last) (mJ m.bits) (fun i r hi hp ih=>WP.go _ ih fun J hJ=>?_) (fun i hi hp=>WP.fin fun J=>?_) (WP.fin fun J=>?_)
  ·have b2:=hb.bits.2 _ (aaT hi);rw [pb];unfold mJ at hp;rw [bF hi] at hp;simp (disch:=first | omega | assumption) only [aG,aY,ba,bl,bO,aB,aP,bA,cK,iC,iD,hM,iE,w5,aF,aq,hp,dg]
   exact hJ
  ·have b2:=hb.bits.2 _ (aaT hi);rw [pb];unfold mJ at hp;rw [bF hi] at hp;simp (disch:=first | omega | assumption) only [aG,aY,ba,bl,bO,aB,aP,bA,cK,iC,iD,hM,iE,w5,aF,aq,hp]
  ·rw [pb];simp (disch:=first | omega | assumption) only [aB,bo,JW,aF,aq,kz]
   simp only [Qq,Ai];generalize fV m.aK=a;generalize decide (0 < (m.aK.length:Int))=b;generalize ((m.bits.length:Int)==3)=c;generalize decide (0<=m.last/\m.last<=200)=d;generalize m.bW=e;generalize m.held=f;cases a<;>cases b<;>cases c<;>cases d<;>cases e<;>cases f<;>rfl
 ·rw [JT];exact hJ
theorem sS (g:Bool) (m:aE) (hb:cz m):Cm 74 [.agg (bK (some g) m)] (.bool (dZ m),[.undef]):=by
 have b0:=hb.aK;have hm:=aX (FL g m.bits hb.bits) (by kernel_rfl)
 refine Cm.fin JU fun J=>?_;rw [JV];simp (disch:=first | omega | assumption) only [aB,JX,hm,aF,aq,iz,Qq]
 unfold dZ;generalize fV m.aK=a;generalize decide (0 < (m.aK.length:Int))=b;generalize ((m.bits.length:Int)==3)=c;generalize decide (0<=m.last/\m.last<=200)=d;generalize m.bW=e;generalize m.held=f;generalize hC m.bits=k;show (br a (br b (br (c&&k) _ _) _) _)=_;cases a<;>cases b<;>cases c<;>cases d<;>cases e<;>cases f<;>cases k<;>rfl
section
variable (t:bE Rz)
theorem yT (g:Bool) (m:aE) (hb:cz m):aL 66 [.agg (bK (some g) m)] t=feed t [.bool (dZ m)]:=aX (sQ g m hb) (by kernel_rfl) t
theorem yU (g:Bool) (m:aE) (hb:cz m):aL 74 [.agg (bK (some g) m)] t=feed t [.bool (dZ m)]:=aX (sS g m hb) (by kernel_rfl) t
end
def lq (m k:aE):Bool:=decide (m.aK=k.aK)&&(decide (m.bits=k.bits)&&((m.eb==k.eb)&&((m.bW==k.bW)&&((m.held==k.held)&&(m.last==k.last)))))
theorem FM (g h:Bool) (m k:aE) (hm:cz m) (hk:cz k):Cm 77 [.agg (bK (some g) m),.agg (bK (some h) k)] (.bool (lq m k),[.undef,.undef]):=by
 have b0:=hm.aK;have b1:=hk.aK;have he:=aX (NW g h m.bits k.bits hm.bits hk.bits) (by kernel_rfl)
 refine Cm.fin FD fun J=>?_;rw [FE];simp (disch:=first | omega | assumption) only [Hi,he,aF,aq,tv,Ai]
 unfold lq;generalize decide (m.aK=k.aK)=a;generalize decide (m.bits=k.bits)=b;generalize (m.eb==k.eb)=c;generalize (m.bW==k.bW)=d;generalize (m.held==k.held)=e;generalize (m.last==k.last)=f;show (br a (br b _ _) _)=_;cases a<;>cases b<;>cases c<;>cases d<;>cases e<;>cases f<;>rfl
theorem FN (g h:Bool) (m k:aE) (hm:cz m) (hk:cz k):Cm 69 [.agg (bK (some g) m),.agg (bK (some h) k)] (.bool (lq m k),[.undef,.undef]):=by
 have b0:=hm.aK;have b1:=hk.aK;have b2:=hm.bits.1;have fin:lq m k=false->(m.bits.length=k.bits.length->(decide (m.aK=k.aK)&&((m.eb==k.eb)&&((m.bW==k.bW)&&((m.held==k.held)&&(m.last==k.last)))))=false)->Cm 69 [.agg (bK (some g) m),.agg (bK (some h) k)] (.bool (lq m k),[.undef,.undef]):=by
  intro hs hq;rw [hs];refine Cm.fin vK fun J=>?_;rw [vL];by_cases hl:m.bits.length=k.bits.length
  ·have hq:=hq hl;simp (disch:=first | omega | assumption) only [yr,aF,aq,tv,aB,fU,bl,bO,aG,aY]
   simp only [Ai];revert hq;generalize decide (m.aK=k.aK)=a;generalize (m.eb==k.eb)=c;generalize (m.bW==k.bW)=d;generalize (m.held==k.held)=e;generalize (m.last==k.last)=f;cases a<;>cases c<;>cases d<;>cases e<;>cases f<;>first | (intro _; rfl) | (intro hq; exact absurd hq (by decide))
  ·simp (disch:=first | omega | assumption) only [aB,dV,bl,bO,aG,aY]
 by_cases hl:m.bits.length=k.bits.length
 ·cases hq:(decide (m.aK=k.aK)&&((m.eb==k.eb)&&((m.bW==k.bW)&&((m.held==k.held)&&(m.last==k.last))))) with
  | false=>
   refine fin ?_ fun _=>hq;revert hq;unfold lq;generalize decide (m.aK=k.aK)=a;generalize decide (m.bits=k.bits)=b;generalize ((m.eb==k.eb)&&((m.bW==k.bW)&&((m.held==k.held)&&(m.last==k.last))))=c;cases a<;>cases b<;>cases c<;>simp
  | true=>
   have hs:lq m k=decide (m.bits=k.bits):=by
    revert hq;unfold lq;generalize decide (m.aK=k.aK)=a;generalize decide (m.bits=k.bits)=b;generalize ((m.eb==k.eb)&&((m.bW==k.bW)&&((m.held==k.held)&&(m.last==k.last))))=c;cases a<;>cases b<;>cases c<;>simp
   simp only [D8] at hq;rw [hs,<- all_eq [] _ _ hl,<- wX];refine Cm.go vK [.undef,.undef] 0 (je (0:Nat) g m.aK.length (ints m.aK) g m.bits.length (rows (some g) m.bits) m.eb m.bW m.held m.last h k.aK.length (ints k.aK) h k.bits.length (rows (some h) k.bits) k.eb k.bW k.held k.last) ?_ fun J hJ=>?_
   ·refine WP.scan (H:=fun i:Nat=>je (i:Nat) g m.aK.length (ints m.aK) g m.bits.length (rows (some g) m.bits) m.eb m.bW m.held m.last h k.aK.length (ints k.aK) h k.bits.length (rows (some h) k.bits) k.eb k.bW k.held k.last) _ (fun i r hi hp ih=>WP.go _ ih fun J hJ=>?_) (fun i hi hp=>WP.fin fun J=>?_) (WP.fin fun J=>?_)
    ·have h2:i < k.bits.length:=by omega
     have b3:=hm.bits.2 _ (aaT hi);have b4:=hk.bits.2 _ (aaT h2);rw [nB];rw [bF hi,bF h2] at hp;simp (disch:=first | omega | assumption) only [aG,aY,ba,bl,bO,aB,aP,bA,cK,iC,iD,hM,iE,yr,aF,aq,hp,dg]
     exact hJ
    ·have h2:i < k.bits.length:=by omega
     have b3:=hm.bits.2 _ (aaT hi);have b4:=hk.bits.2 _ (aaT h2);rw [nB];rw [bF hi,bF h2] at hp;simp (disch:=first | omega | assumption) only [aG,aY,ba,bl,bO,aB,aP,bA,cK,iC,iD,hM,iE,yr,aF,aq,hp]
    ·rw [nB];simp (disch:=omega) only [aB,bo]
   ·rw [vL];simp (disch:=first | omega | assumption) only [yr,aF,aq,tv,aB,Ai,hq.1,hq.2.1,hq.2.2.1,hq.2.2.2.1,hq.2.2.2.2,bl,bO,aG]
    have e1:((m.bits.length:Int)==(k.bits.length:Int))=true:=by simp [hl]
    rw [e1];exact hJ
 ·refine fin ?_ fun h=>absurd h hl;have:m.bits≠k.bits:=fun e=>hl (e▸rfl);unfold lq;rw [decide_eq_false this,adL,aei]
set_option maxRecDepth 100000
section
variable (pr:dA) (cv:Cv Rz) (J:Nat->St->Option Rz)
def kG (i0:Int) (n1:Nat) (c2:List D):St:=(St.mk [(0,(.int .i64 i0)),(3,(.ref 10003 [] 0 none))] [(10003,[(.sl none 1 n1 c2)])] [] 0)
theorem yV:Told cfg Try.prog 127 Try.f127:=⟨by kernel_rfl,Try.func127,by kernel_rfl⟩
theorem yW (a0:Int):aR pr cv J 127 Try.f127 [(.int .i64 a0)]=
 (cv 64 [(.int .i64 a0),(.int .i64 0),(.int .i64 2147483647)] (.bool (fun cx=>(.done (br (br cx false true) (some ((.sl none 1 0 []),[.undef])) (J 0 (kG a0 0 []))))))):=by kernel_rfl
theorem uU (i0:Int) (n1:Nat) (c2:List D):bR pr cv J 127 Try.f127 [.undef] 0 (kG i0 n1 c2)=
 let y1:List D:=[(.int .u8 (pr.wrap .u8 (pr.ar .add .i64 (pr.ar .rem .i64 i0 128) 128)))]
 (br (pr.lt 127 i0) (br (br (pr.eq 128 0) false true) (br (br (pr.flat y1) (pr.fits (n1+1) 1) false) (br (br (pr.eq 128 0) false true) (J 0 (kG (pr.ar .quo .i64 i0 128) (n1+1) (List.append c2 y1))) none) none) none) (br (br (pr.flat [(.int .u8 (pr.wrap .u8 i0))]) (pr.fits (n1+1) 1) false) (some ((.sl none 1 (n1+1) (List.append c2 [(.int .u8 (pr.wrap .u8 i0))])),[.undef])) none)):=by kernel_rfl
def kH (i0:Int) (n1:Nat) (c2:List D):St:=(St.mk [(0,(.int .i64 i0)),(3,(.ref 10003 [] 0 none))] [(10003,[(.sl none 1 n1 c2)])] [] 0)
theorem yX:Told cfg Try.prog 139 Try.f139:=⟨by kernel_rfl,Try.func139,by kernel_rfl⟩
theorem yY (a0:Int):aR pr cv J 139 Try.f139 [(.int .i64 a0)]=
 let y1:Option (D × List D):=(some ((.sl none 1 0 []),[.undef]))
 (br (pr.lt a0 0) y1 (br (pr.lt 2147483647 a0) y1 (J 0 (kH a0 0 [])))):=by kernel_rfl
theorem uV (i0:Int) (n1:Nat) (c2:List D):bR pr cv J 139 Try.f139 [.undef] 0 (kH i0 n1 c2)=
 let y1:List D:=[(.int .u8 (pr.wrap .u8 (pr.ar .add .i64 (pr.ar .rem .i64 i0 128) 128)))]
 (br (pr.lt 127 i0) (br (br (pr.eq 128 0) false true) (br (br (pr.flat y1) (pr.fits (Nat.succ n1) 1) false) (br (br (pr.eq 128 0) false true) (J 0 (kH (pr.ar .quo .i64 i0 128) (Nat.succ n1) (List.append c2 y1))) none) none) none) (br (br (pr.flat [(.int .u8 (pr.wrap .u8 i0))]) (pr.fits (Nat.succ n1) 1) false) (some ((.sl none 1 (Nat.succ n1) (List.append c2 [(.int .u8 (pr.wrap .u8 i0))])),[.undef])) none)):=by kernel_rfl
def kI (g0:Bool) (n1:Nat) (c2:List D) (i3:Int) (i4:Int) (i5:Int):St:=(St.mk [(0,(.sl (some g0) 1 n1 c2)),(1,(.int .i64 i3)),(7,(.int .i64 i4)),(8,(.int .i64 i5))] [] [] 0)
theorem yZ:Told cfg Try.prog 132 Try.f132:=⟨by kernel_rfl,Try.func132,by kernel_rfl⟩
theorem y6 (g0:Bool) (n0:Nat) (c0:List D) (a1:Int):aR pr cv J 132 Try.f132 [(.sl (some g0) 1 n0 c0),(.int .i64 a1)]=
 (J 0 (kI g0 n0 c0 a1 0 0)):=by kernel_rfl
theorem jV (g0:Bool) (n1:Nat) (c2:List D) (i3:Int) (i4:Int) (i5:Int):bR pr cv J 132 Try.f132 [.undef,.undef] 0 (kI g0 n1 c2 i3 i4 i5)=
 let y1:Option (D × List D):=(some ((.aZ [(.int .i64 0),(.int .i64 0),(.bool false)]),[.undef,.undef]))
 let y2:Int:=(pr.wrap .i64 (pr.bT c2 (pr.idx 0 (pr.ar .add .i64 i3 i5) 1)))
 let y3:Int:=(pr.ar .or .i64 i4 (pr.ar .shl .i64 (pr.ar .rem .i64 y2 128) (pr.ar .mul .i64 7 i5)))
 let y4:D:=(.int .i64 y3)
 let y5:Option (D × List D):=(br (pr.lt 2147483647 y3) y1 (some ((.aZ [y4,(.int .i64 (pr.ar .add .i64 (pr.ar .add .i64 i3 i5) 1)),(.bool true)]),[.undef,.undef])))
 (br (pr.lt i5 5) (br (pr.lt i3 0) y1 (br (pr.le (pr.ar .sub .i64 (pr.bc n1) i5) i3) y1 (br (pr.bh (pr.ar .add .i64 i3 i5) n1) (br (br (pr.cW .u8 c2 (pr.idx 0 (pr.ar .add .i64 i3 i5) 1)) true false) (br (br (pr.eq 128 0) false true) (br (br (pr.lt (pr.ar .mul .i64 7 i5) 0) false true) (br (pr.lt y2 128) (br (pr.lt 0 i5) (br (pr.eq y2 0) y1 y5) y5) (J 0 (kI g0 n1 c2 i3 y3 (pr.ar .add .i64 i5 1)))) none) none) none) none))) y1):=by kernel_rfl
def mW (g0:Bool) (n1:Nat) (c2:List D) (i3:Int) (i4:Int) (i5:Int) (i6:Int):St:=(St.mk [(0,(.sl (some g0) 1 n1 c2)),(1,(.int .i64 i3)),(7,(.int .i64 i4)),(8,(.int .i64 i5)),(9,(.int .i64 i6))] [] [] 0)
theorem y7:Told cfg Try.prog 138 Try.f138:=⟨by kernel_rfl,Try.func138,by kernel_rfl⟩
theorem y8 (g0:Bool) (n0:Nat) (c0:List D) (a1:Int):aR pr cv J 138 Try.f138 [(.sl (some g0) 1 n0 c0),(.int .i64 a1)]=
 (br (pr.lt a1 0) (some ((.aZ [(.int .i64 0),(.int .i64 0),(.bool false)]),[.undef,.undef])) (J 0 (mW g0 n0 c0 a1 0 1 0))):=by kernel_rfl
theorem mh (g0:Bool) (n1:Nat) (c2:List D) (i3:Int) (i4:Int) (i5:Int) (i6:Int):bR pr cv J 138 Try.f138 [.undef,.undef] 0 (mW g0 n1 c2 i3 i4 i5 i6)=
 let y1:Int:=(pr.wrap .i64 (pr.bT c2 (pr.idx 0 (pr.ar .add .i64 i3 i6) 1)))
 let y2:Int:=(pr.ar .add .i64 i4 (pr.ar .mul .i64 (pr.ar .rem .i64 y1 128) i5))
 let y3:Option (D × List D):=(some ((.aZ [(.int .i64 0),(.int .i64 0),(.bool false)]),[.undef,.undef]))
 let y4:D:=(.int .i64 y2)
 let y5:Option (D × List D):=(some ((.aZ [y4,(.int .i64 (pr.ar .add .i64 (pr.ar .add .i64 i3 i6) 1)),(.bool true)]),[.undef,.undef]))
 (br (pr.lt i6 5) (br (pr.lt i3 (pr.ar .sub .i64 (pr.bc n1) i6)) (br (pr.bh (pr.ar .add .i64 i3 i6) n1) (br (br (pr.cW .u8 c2 (pr.idx 0 (pr.ar .add .i64 i3 i6) 1)) true false) (br (br (pr.eq 128 0) false true) (br (pr.le 128 y1) (J 0 (mW g0 n1 c2 i3 y2 (pr.ar .mul .i64 i5 128) (pr.ar .add .i64 i6 1))) (br (pr.lt 2147483647 y2) y3 (br (pr.eq y1 0) (br (pr.lt 0 i6) y3 y5) y5))) none) none) none) y3) y3):=by kernel_rfl
theorem MX:Told cfg Try.prog 119 Try.f119:=⟨by kernel_rfl,Try.func119,by kernel_rfl⟩
theorem MY (a0:Int):aR pr cv J 119 Try.f119 [(.int .i64 a0)]=
 (br (br (pr.lt 8 0) false true) (br (br (pr.lt 16 0) false true) (br (br (pr.lt 24 0) false true) (some ((.sl none 1 4 [(.int .u8 (pr.wrap .u8 (pr.ar .and .i64 a0 255))),(.int .u8 (pr.wrap .u8 (pr.ar .and .i64 (pr.ar .shr .i64 a0 8) 255))),(.int .u8 (pr.wrap .u8 (pr.ar .and .i64 (pr.ar .shr .i64 a0 16) 255))),(.int .u8 (pr.wrap .u8 (pr.ar .and .i64 (pr.ar .shr .i64 a0 24) 255)))]),[.undef])) none) none) none):=by kernel_rfl
end
theorem Tv {a b:Nat} (h:a < 9223372036854775808):U.ar .quo .i64 (a:Int) (b:Int)=((a / b:Nat):Int):=by
 have e:(a:Int).tdiv (b:Int)=((a / b:Nat):Int):=rfl;have:=Nat.div_le_self a b;show IntKind.i64.wrap ((a:Int).tdiv (b:Int))=_;rw [e];generalize a / b=q at this;rw [wrap64 (by omega) (by omega)]
theorem sv {a b:Nat} (h:a+b < 9223372036854775808):U.ar .add .i64 (a:Int) (b:Int)=((a+b:Nat):Int):=by
 rw [rG (by omega) (by omega)]
 omega
theorem MZ {a b:Nat} (h:a*b < 9223372036854775808):U.ar .mul .i64 (a:Int) (b:Int)=((a*b:Nat):Int):=by
 have e:(a:Int)*(b:Int)=((a*b:Nat):Int):=by simp
 show IntKind.i64.wrap ((a:Int)*(b:Int))=_;rw [e,wrap64 (by omega) (by omega)]
theorem I0 {a:Nat} (h:a < 9223372036854775808):U.wrap .i64 (a:Int)=(a:Int):=wrap64 (by omega) (by omega)
theorem KO {a b:Nat} (ha:a < 4611686018427387904) (hb:b < 4611686018427387904):U.ar .or .i64 (a:Int) (b:Int)=((a||| b:Nat):Int):=by
 show IntKind.i64.wrap ((BitVec.ofInt 64 (a:Int)||| BitVec.ofInt 64 (b:Int)).toNat:Int)=_;have h:(a||| b) < 2 ^ 62:=Nat.or_lt_two_pow (by omega) (by omega)
 have e:(BitVec.ofInt 64 (a:Int)||| BitVec.ofInt 64 (b:Int)).toNat=a||| b:=by
  rw [BitVec.toNat_or,aey,aey,aeO,aeO,aex (by omega),aex (by omega)]
 rw [e,wrap64 (by omega) (by omega)]
theorem abT {a b:Nat} (ha:a < 4611686018427387904) (hb:b < 4611686018427387904):U.ar .and .i64 (a:Int) (b:Int)=((a&&& b:Nat):Int):=by
 show IntKind.i64.wrap ((BitVec.ofInt 64 (a:Int)&&& BitVec.ofInt 64 (b:Int)).toNat:Int)=_;have h:(a&&& b)<=b:=Nat.and_le_right;have e:(BitVec.ofInt 64 (a:Int)&&& BitVec.ofInt 64 (b:Int)).toNat=a&&& b:=by
  rw [BitVec.toNat_and,aey,aey,aeO,aeO,aex (by omega),aex (by omega)]
 rw [e,wrap64 (by omega) (by omega)]
theorem uW {a k:Nat} (hk:k<=64) (h:a*2 ^ k < 9223372036854775808):U.ar .shl .i64 (a:Int) (k:Int)=((a*2 ^ k:Nat):Int):=by
 show IntKind.i64.wrap ((a:Int)*2 ^ (min ((k:Int).toNat) 64))=_;have e:min ((k:Int).toNat) 64=k:=by omega
 have e2:(a:Int)*2 ^ k=((a*2 ^ k:Nat):Int):=by simp
 rw [e,e2,wrap64 (by omega) (by omega)]
theorem w6 (a:Nat) {k:Nat} (hk:k<=64):U.ar .shr .i64 (a:Int) (k:Int)=((a / 2 ^ k:Nat):Int):=by
 show (a:Int).fdiv (2 ^ (min ((k:Int).toNat) 64))=_;have e:min ((k:Int).toNat) 64=k:=by omega
 have e2:((2:Int) ^ k)=((2 ^ k:Nat):Int):=by simp
 rw [e,e2,<- Int.ofNat_fdiv]
theorem FO {a x k:Nat} (h:a < 2 ^ k):a||| x*2 ^ k=a+x*2 ^ k:=by
 rw [Nat.or_comm,Nat.mul_comm x,<- Nat.two_pow_add_eq_or_of_lt h,Nat.add_comm]
theorem rv (x:Nat):D.int .u8 (U.wrap .u8 (x:Int))=eM (UInt8.ofNat x):=by
 show D.int .u8 (IntKind.u8.wrap (x:Int))=_;simp only [eM,IntKind.wrap,IntKind.bits,IntKind.signed];simp
theorem iX {R:Type} {x y:R} (xs:List UInt8):br (U.flat (bytes xs)) x y=x:=by
 have:U.flat (bytes xs)=true:=by
  show (bytes xs).all fQ=true;rw [aag];intro d hd;obtain ⟨a,_,rfl⟩:=aaK.1 hd;rfl
 rw [this,aG]
theorem FP (x:UInt8):[eM x]=bytes [x]:=rfl
theorem gy (xs ys:List UInt8):List.append (bytes xs) (bytes ys)=bytes (xs++ys):=by simp [bytes]
def gP (n:Nat):List UInt8:=if h:n < 128 then [UInt8.ofNat n] else UInt8.ofNat (n % 128+128)::gP (n / 128)
termination_by n
decreasing_by omega
theorem oR:∀ (k n:Nat),n < 128 ^ (k+1)->(gP n).length<=k+1
 | 0,n,h=>by
  rw [gP,dif_pos (by omega)]
  simp
 | k+1,n,h=>by
  rw [gP];split
  ·simp
  ·have:n / 128 < 128 ^ (k+1):=by
    apply Nat.div_lt_of_lt_mul;rw [aeS] at h;omega
   have:=oR k (n / 128) this;simp only [abc];omega
def da (a:Int):List UInt8:=if 0<=a/\a<=2147483647 then gP a.toNat else []
theorem fA (a:Int):(da a).length<=5:=by
 unfold da;split
 ·exact oR 4 _ (by omega)
 ·simp
theorem y9:∀ (k n:Nat) (acc:List UInt8),n < 128 ^ (k+1)->n < 2147483648->acc.length+(gP n).length < 1000000->WP 127 Try.f127 [.undef] 0 (kG (n:Int) acc.length (bytes acc)) (.sl none 1 (acc++gP n).length (bytes (acc++gP n)),[.undef])
 | k,n,acc,hk,hn,hl=>by
  by_cases h:n < 128
  ·refine WP.fin fun J=>?_;rw [uU,gP,dif_pos h];rw [gP,dif_pos h] at hl;simp only [abp] at hl;simp (disch:=omega) only [bo,rv,FP,iX,fj,aG,gy,ba,Bv];simp
  ·cases k with
   | zero=>omega
   | succ k=>
    have e:acc++gP n=(acc++[UInt8.ofNat (n % 128+128)])++gP (n / 128):=by
     conv=>lhs; rw [gP,dif_neg h]
     simp
    have hlen:(gP n).length=(gP (n / 128)).length+1:=by
     conv=>lhs; rw [gP,dif_neg h]
     simp
    have hd:n / 128 < 128 ^ (k+1):=by
     apply Nat.div_lt_of_lt_mul;rw [aeS] at hk;omega
    have ih:=y9 k (n / 128) (acc++[UInt8.ofNat (n % 128+128)]) hd (by omega) (by simp only [aab,abp]; omega)
    rw [e];refine WP.go _ ih fun J hJ=>?_;rw [uU];have r1:U.ar .rem .i64 (n:Int) 128=((n % 128:Nat):Int):=rfl;have r2:U.ar .add .i64 ((n % 128:Nat):Int) 128=((n % 128+128:Nat):Int):=sv (b:=128) (by omega)
    have r3:U.ar .quo .i64 (n:Int) 128=((n / 128:Nat):Int):=Tv (b:=128) (by omega)
    simp (disch:=omega) only [aP,dV,bl,bO,aG,aY,r1,r2,r3,rv,FP,iX,fj,gy];have e2:(acc++[UInt8.ofNat (n % 128+128)]).length=acc.length+1:=by simp
    rw [e2] at hJ;exact hJ
theorem JY (a:Int):Cm 127 [.int .i64 a] (.sl none 1 (da a).length (bytes (da a)),[.undef]):=by
 by_cases h:0<=a/\a<=2147483647
 ·obtain ⟨n,rfl⟩:∃ n:Nat,a=n:=⟨a.toNat,by omega⟩
  have e:da (n:Int)=gP n:=by unfold da; rw [if_pos h]; rfl
  rw [e];have hl:=oR 4 n (by omega)
  refine Cm.go yV [.undef] 0 (kG (n:Int) 0 []) (y9 4 n [] (by omega) (by omega) (by simp; omega)) fun J hJ=>?_
  rw [yW];simp only [kz,aF,aq,decide_eq_true h,bl,bO,aG,aY];exact hJ
 ·have e:da a=[]:=by unfold da; rw [if_neg h]
  rw [e];refine Cm.fin yV fun J=>?_;rw [yW];simp only [kz,aF,aq,decide_eq_false h,bl,bO,aG,aY];rfl
theorem za:∀ (k n:Nat) (acc:List UInt8),n < 128 ^ (k+1)->n < 2147483648->acc.length+(gP n).length < 1000000->WP 139 Try.f139 [.undef] 0 (kH (n:Int) acc.length (bytes acc)) (.sl none 1 (acc++gP n).length (bytes (acc++gP n)),[.undef])
 | k,n,acc,hk,hn,hl=>by
  by_cases h:n < 128
  ·refine WP.fin fun J=>?_;rw [uV,gP,dif_pos h];rw [gP,dif_pos h] at hl;simp only [abp] at hl;simp (disch:=omega) only [bo,rv,FP,iX,fj,aG,gy,ba,Bv];simp
  ·cases k with
   | zero=>omega
   | succ k=>
    have e:acc++gP n=(acc++[UInt8.ofNat (n % 128+128)])++gP (n / 128):=by
     conv=>lhs; rw [gP,dif_neg h]
     simp
    have hlen:(gP n).length=(gP (n / 128)).length+1:=by
     conv=>lhs; rw [gP,dif_neg h]
     simp
    have hd:n / 128 < 128 ^ (k+1):=by
     apply Nat.div_lt_of_lt_mul;rw [aeS] at hk;omega
    have ih:=za k (n / 128) (acc++[UInt8.ofNat (n % 128+128)]) hd (by omega) (by simp only [aab,abp]; omega)
    rw [e];refine WP.go _ ih fun J hJ=>?_;rw [uV];have r1:U.ar .rem .i64 (n:Int) 128=((n % 128:Nat):Int):=rfl;have r2:U.ar .add .i64 ((n % 128:Nat):Int) 128=((n % 128+128:Nat):Int):=sv (b:=128) (by omega)
    have r3:U.ar .quo .i64 (n:Int) 128=((n / 128:Nat):Int):=Tv (b:=128) (by omega)
    simp (disch:=omega) only [aP,dV,bl,bO,aG,aY,r1,r2,r3,rv,FP,iX,fj,gy];have e2:(acc++[UInt8.ofNat (n % 128+128)]).length=acc.length+1:=by simp
    rw [e2] at hJ;exact hJ
theorem JZ (a:Int):Cm 139 [.int .i64 a] (.sl none 1 (da a).length (bytes (da a)),[.undef]):=by
 by_cases h:0<=a/\a<=2147483647
 ·obtain ⟨n,rfl⟩:∃ n:Nat,a=n:=⟨a.toNat,by omega⟩
  have e:da (n:Int)=gP n:=by unfold da; rw [if_pos h]; rfl
  rw [e];have hl:=oR 4 n (by omega)
  refine Cm.go yX [.undef] 0 (kH (n:Int) 0 []) (za 4 n [] (by omega) (by omega) (by simp; omega)) fun J hJ=>?_
  rw [yY];simp (disch:=omega) only [bo];exact hJ
 ·have e:da a=[]:=by unfold da; rw [if_neg h]
  rw [e];refine Cm.fin yX fun J=>?_;rw [yY];by_cases h0:a < 0
  ·simp (disch:=omega) only [aP];rfl
  ·simp (disch:=omega) only [bo,aP];rfl
section
variable (t:bE Rz)
theorem mw (a:Int):aL 127 [.int .i64 a] t=feed t [.sl none 1 (da a).length (bytes (da a))]:=aX (JY a) (by kernel_rfl) t
theorem J0 (a:Int):aL 139 [.int .i64 a] t=feed t [.sl none 1 (da a).length (bytes (da a))]:=aX (JZ a) (by kernel_rfl) t
end
def qp (a:Nat):List UInt8:=[UInt8.ofNat a,UInt8.ofNat (a / 256),UInt8.ofNat (a / 65536),UInt8.ofNat (a / 16777216)]
theorem abU (a:Nat) (h:a < 4611686018427387904):Cm 131 [.int .i64 (a:Int)] (.sl none 1 4 (bytes (qp a)),[.undef]):=by
 refine Cm.fin NU fun J=>?_;rw [NV];have r1:U.ar .shr .i64 (a:Int) 8=((a / 256:Nat):Int):=w6 a (k:=8) (by omega)
 have r2:U.ar .shr .i64 (a:Int) 16=((a / 65536:Nat):Int):=w6 a (k:=16) (by omega)
 have r3:U.ar .shr .i64 (a:Int) 24=((a / 16777216:Nat):Int):=w6 a (k:=24) (by omega)
 simp (disch:=omega) only [bo,bl,bO,aG,aY,r1,r2,r3,rv];rfl
theorem YU (x:Nat):UInt8.ofNat (x&&& 255)=UInt8.ofNat x:=by
 apply UInt8.toNat_inj.1;have:x&&& 255=x % 256:=Nat.and_two_pow_sub_one_eq_mod x 8;rw [this];simp
theorem YV (a:Nat) (h:a < 4611686018427387904):Cm 119 [.int .i64 (a:Int)] (.sl none 1 4 (bytes (qp a)),[.undef]):=by
 refine Cm.fin MX fun J=>?_;rw [MY];have r1:U.ar .shr .i64 (a:Int) 8=((a / 256:Nat):Int):=w6 a (k:=8) (by omega)
 have r2:U.ar .shr .i64 (a:Int) 16=((a / 65536:Nat):Int):=w6 a (k:=16) (by omega)
 have r3:U.ar .shr .i64 (a:Int) 24=((a / 16777216:Nat):Int):=w6 a (k:=24) (by omega)
 have q:∀ x:Nat,x < 4611686018427387904->U.ar .and .i64 (x:Int) 255=((x&&& 255:Nat):Int):=fun x hx=>abT (b:=255) hx (by omega)
 simp (disch:=omega) only [bo,bl,bO,aG,aY,r1,r2,r3,q,rv,YU];rfl
def lr:Int × Int × Bool:=(0,0,false)
def iF (b:List UInt8) (p:Nat):Nat->Nat->Nat->Int × Int × Bool
 | 0,_,_=>lr
 | k+1,i,acc=>
  if h:p+i < b.length then
   if 128<=b[p+i].toNat then iF b p k (i+1) (acc+b[p+i].toNat % 128*128 ^ i)
   else if 2147483647 < acc+b[p+i].toNat % 128*128 ^ i∨(b[p+i].toNat=0/\0 < i) then lr
   else (((acc+b[p+i].toNat % 128*128 ^ i:Nat):Int),((p+i+1:Nat):Int),true)
  else lr
def hD (b:List UInt8) (a:Int):Int × Int × Bool:=if a < 0 then lr else iF b a.toNat 5 0 0
abbrev KP (x:Int × Int × Bool):Rz:=(.aZ [.int .i64 x.1,.int .i64 x.2.1,.bool x.2.2],[.undef,.undef])
theorem FQ (i:Nat):128 ^ i=2 ^ (7*i):=by rw [Nat.pow_mul]
theorem zb (g:Bool) (b:List UInt8) (p:Nat) (hb:b.length < 4611686018427387904):∀ (k i acc:Nat),i+k=5->acc < 128 ^ i->WP 138 Try.f138 [.undef,.undef] 0 (mW g b.length (bytes b) (p:Int) (acc:Int) ((128 ^ i:Nat):Int) (i:Int)) (KP (iF b p k i acc))
 | 0,i,acc,hi,ha=>by
  obtain rfl:i=5:=by omega
  refine WP.fin fun J=>?_;rw [mh];simp (disch:=omega) only [bo];rfl
 | k+1,i,acc,hi,ha=>by
  have hpw:128 ^ i<=268435456:=by
   have:128 ^ i<=128 ^ 4:=Nat.pow_le_pow_right (by omega) (by omega)
   omega
  have hs:U.ar .sub .i64 (U.bc b.length) (i:Int)=(b.length:Int) - (i:Int):=me (by simp only [aB]; omega) (by simp only [aB]; omega)
  by_cases h:p+i < b.length
  ·have hd:b[p+i].toNat < 256:=b[p+i].toNat_lt;have hm:b[p+i].toNat % 128 < 128:=Nat.mod_lt _ (by omega)
   have hx:b[p+i].toNat % 128*128 ^ i<=127*128 ^ i:=aa4 _ (by omega)
   have r0:U.ar .add .i64 (p:Int) (i:Int)=((p+i:Nat):Int):=sv (by omega)
   have r1:U.bT (bytes b) (p+i)=(b[p+i].toNat:Int):=wF h;have r2:U.wrap .i64 (b[p+i].toNat:Int)=(b[p+i].toNat:Int):=I0 (by omega)
   have r3:U.ar .rem .i64 (b[p+i].toNat:Int) 128=((b[p+i].toNat % 128:Nat):Int):=rfl;have r4:U.ar .mul .i64 ((b[p+i].toNat % 128:Nat):Int) ((128 ^ i:Nat):Int)=((b[p+i].toNat % 128*128 ^ i:Nat):Int):=MZ (by omega)
   have r5:U.ar .add .i64 (acc:Int) ((b[p+i].toNat % 128*128 ^ i:Nat):Int)=((acc+b[p+i].toNat % 128*128 ^ i:Nat):Int):=sv (by omega)
   by_cases hc:128<=b[p+i].toNat
   ·have e:iF b p (k+1) i acc=iF b p k (i+1) (acc+b[p+i].toNat % 128*128 ^ i):=by
     rw [iF,dif_pos h,if_pos hc]
    rw [e];have ih:=zb g b p hb k (i+1) (acc+b[p+i].toNat % 128*128 ^ i) (by omega) (by rw [aeS]; omega)
    refine WP.go _ ih fun J hJ=>?_;rw [mh];have r6:U.ar .mul .i64 ((128 ^ i:Nat):Int) 128=((128 ^ i*128:Nat):Int):=MZ (b:=128) (by omega)
    simp (disch:=first | omega | assumption) only [hs,r0,cK,r1,r2,r3,r4,r5,aP,bA,mB,dV,ba,bl,bO,aG,aY,Bw,r6,dg]
    rw [<- aeS];exact hJ
   ·have r7:U.ar .add .i64 ((p+i:Nat):Int) 1=((p+i+1:Nat):Int):=dg (by omega)
    refine WP.fin fun J=>?_;rw [mh,iF,dif_pos h,if_neg hc];simp (disch:=first | omega | assumption) only [hs,r0,cK,r1,r2,r3,r4,r5,aP,bA,mB,dV,ba,bl,bO,aG,aY,oI,r7]
    by_cases h1:2147483647 < acc+b[p+i].toNat % 128*128 ^ i
    ·rw [if_pos (Or.inl h1),aP (by omega)]
     rfl
    ·rw [bo (by omega)]
     by_cases h2:b[p+i].toNat=0
     ·rw [fU (by omega)]
      by_cases h3:0 < i
      ·rw [if_pos (Or.inr ⟨h2,h3⟩),aP (by omega)]
       rfl
      ·rw [if_neg (by omega),bo (by omega)]
     ·rw [if_neg (by omega),dV (by omega)]
  ·refine WP.fin fun J=>?_;rw [mh,iF,dif_neg h];simp (disch:=omega) only [hs,aP,bo];rfl
theorem zc (g:Bool) (b:List UInt8) (p:Nat) (hb:b.length < 4611686018427387904):∀ (k i acc:Nat),i+k=5->acc < 128 ^ i->WP 132 Try.f132 [.undef,.undef] 0 (kI g b.length (bytes b) (p:Int) (acc:Int) (i:Int)) (KP (iF b p k i acc))
 | 0,i,acc,hi,ha=>by
  obtain rfl:i=5:=by omega
  refine WP.fin fun J=>?_;rw [jV];simp (disch:=omega) only [bo];rfl
 | k+1,i,acc,hi,ha=>by
  have hpw:128 ^ i<=268435456:=by
   have:128 ^ i<=128 ^ 4:=Nat.pow_le_pow_right (by omega) (by omega)
   omega
  have hs:U.ar .sub .i64 (U.bc b.length) (i:Int)=(b.length:Int) - (i:Int):=me (by simp only [aB]; omega) (by simp only [aB]; omega)
  by_cases h:p+i < b.length
  ·have hd:b[p+i].toNat < 256:=b[p+i].toNat_lt;have hm:b[p+i].toNat % 128 < 128:=Nat.mod_lt _ (by omega)
   have hx:b[p+i].toNat % 128*128 ^ i<=127*128 ^ i:=aa4 _ (by omega)
   have r0:U.ar .add .i64 (p:Int) (i:Int)=((p+i:Nat):Int):=sv (by omega)
   have r1:U.bT (bytes b) (p+i)=(b[p+i].toNat:Int):=wF h;have r2:U.wrap .i64 (b[p+i].toNat:Int)=(b[p+i].toNat:Int):=I0 (by omega)
   have r3:U.ar .rem .i64 (b[p+i].toNat:Int) 128=((b[p+i].toNat % 128:Nat):Int):=rfl;have r4:U.ar .mul .i64 7 (i:Int)=((7*i:Nat):Int):=MZ (a:=7) (by omega)
   have r5:U.ar .shl .i64 ((b[p+i].toNat % 128:Nat):Int) ((7*i:Nat):Int)=((b[p+i].toNat % 128*128 ^ i:Nat):Int):=by
    rw [FQ];exact uW (by omega) (by rw [<- FQ]; omega)
   have r6:U.ar .or .i64 (acc:Int) ((b[p+i].toNat % 128*128 ^ i:Nat):Int)=((acc+b[p+i].toNat % 128*128 ^ i:Nat):Int):=by
    rw [KO (by omega) (by omega),FQ,FO (by rw [<- FQ]; exact ha)]
   by_cases hc:128<=b[p+i].toNat
   ·have e:iF b p (k+1) i acc=iF b p k (i+1) (acc+b[p+i].toNat % 128*128 ^ i):=by
     rw [iF,dif_pos h,if_pos hc]
    rw [e];have ih:=zc g b p hb k (i+1) (acc+b[p+i].toNat % 128*128 ^ i) (by omega) (by rw [aeS]; omega)
    refine WP.go _ ih fun J hJ=>?_;rw [jV];simp (disch:=first | omega | assumption) only [hs,r0,cK,r1,r2,r3,r4,r5,r6,aP,bo,oI,bA,mB,dV,ba,bl,bO,aG,aY,dg]
    exact hJ
   ·have r7:U.ar .add .i64 ((p+i:Nat):Int) 1=((p+i+1:Nat):Int):=dg (by omega)
    refine WP.fin fun J=>?_;rw [jV,iF,dif_pos h,if_neg hc];have Oy:(b[p+i].toNat:Int) < 128:=by omega
    by_cases h1:2147483647 < acc+b[p+i].toNat % 128*128 ^ i
    ·have oz:(2147483647:Int) < ((acc+b[p+i].toNat % 128*128 ^ i:Nat):Int):=by omega
     rw [if_pos (Or.inl h1)];simp (disch:=first | omega | assumption) only [hs,r0,cK,r1,r2,r3,r4,r5,r6,aP Oy,aP oz,bo,oI,bA,mB,dV,ba,bl,bO,aG,aY,r7,Bv]
     rfl
    ·have oz:((acc+b[p+i].toNat % 128*128 ^ i:Nat):Int)<=2147483647:=by omega
     have h0:(i:Int) < 5:=by omega
     by_cases h2:b[p+i].toNat=0
     ·have RO:(b[p+i].toNat:Int)=0:=by omega
      by_cases h3:0 < i
      ·have Lq:(0:Int) < (i:Int):=by omega
       rw [if_pos (Or.inr ⟨h2,h3⟩)];simp (disch:=first | omega | assumption) only [hs,r0,cK,r1,r2,r3,r4,r5,r6,aP h0,aP Oy,aP Lq,fU RO,bo,oI,bA,mB,dV,ba,bl,bO,aG,aY,r7]
       rfl
      ·have Lq:(i:Int)<=0:=by omega
       rw [if_neg (by omega)]
       simp (disch:=first | omega | assumption) only [hs,r0,cK,r1,r2,r3,r4,r5,r6,aP h0,aP Oy,bo Lq,bo oz,bo,oI,bA,mB,dV,ba,bl,bO,aG,aY,r7]
     ·have RO:(b[p+i].toNat:Int)≠0:=by omega
      rw [if_neg (by omega)]
      simp (disch:=first | omega | assumption) only [hs,r0,cK,r1,r2,r3,r4,r5,r6,aP h0,aP Oy,dV RO,bo oz,bo,oI,bA,mB,dV,ba,bl,bO,aG,aY,r7,Bv]
  ·refine WP.fin fun J=>?_;rw [jV,iF,dif_neg h];simp (disch:=omega) only [hs,aP,bo,Bw];rfl
theorem J1 (g:Bool) (b:List UInt8) (a:Int) (hb:b.length < 4611686018427387904):Cm 138 [.sl (some g) 1 b.length (bytes b),.int .i64 a] (KP (hD b a)):=by
 unfold hD;by_cases h:a < 0
 ·rw [if_pos h];refine Cm.fin y7 fun J=>?_;rw [y8];simp (disch:=omega) only [aP];rfl
 ·rw [if_neg h];obtain ⟨p,rfl⟩:∃ n:Nat,a=n:=⟨a.toNat,by omega⟩
  refine Cm.go y7 [.undef,.undef] 0 _ (zb g b p hb 5 0 0 rfl (by omega)) fun J hJ=>?_
  rw [y8];simp (disch:=omega) only [bo];exact hJ
theorem J2 (g:Bool) (b:List UInt8) (a:Int) (hb:b.length < 4611686018427387904):Cm 132 [.sl (some g) 1 b.length (bytes b),.int .i64 a] (KP (hD b a)):=by
 unfold hD;by_cases h:a < 0
 ·rw [if_pos h];refine Cm.go yZ [.undef,.undef] 0 (kI g b.length (bytes b) a 0 0) (WP.fin fun J=>?_) fun J hJ=>?_
  ·rw [jV];simp (disch:=omega) only [aP];rfl
  ·rw [y6];exact hJ
 ·rw [if_neg h];obtain ⟨p,rfl⟩:∃ n:Nat,a=n:=⟨a.toNat,by omega⟩
  refine Cm.go yZ [.undef,.undef] 0 _ (zc g b p hb 5 0 0 rfl (by omega)) fun J hJ=>?_
  rw [y6];exact hJ
section
variable (t:bE Rz)
theorem J3 (g:Bool) (b:List UInt8) (a:Int) (hb:b.length < 4611686018427387904):aL 138 [.sl (some g) 1 b.length (bytes b),.int .i64 a] t=feed t [.int .i64 (hD b a).1,.int .i64 (hD b a).2.1,.bool (hD b a).2.2]:=aX (J1 g b a hb) (by kernel_rfl) t
theorem J4 (g:Bool) (b:List UInt8) (a:Int) (hb:b.length < 4611686018427387904):aL 132 [.sl (some g) 1 b.length (bytes b),.int .i64 a] t=feed t [.int .i64 (hD b a).1,.int .i64 (hD b a).2.1,.bool (hD b a).2.2]:=aX (J2 g b a hb) (by kernel_rfl) t
end
set_option maxRecDepth 100000
section
variable (pr:dA) (cv:Cv Rz) (J:Nat->St->Option Rz)
theorem M0:Told cfg Try.prog 124 Try.f124:=⟨by kernel_rfl,Try.func124,by kernel_rfl⟩
theorem M1 (n0:Nat) (c0:List D) (a1:Int) (a2:Bool):aR pr cv J 124 Try.f124 [(.aN [(.sl (some false) 1 n0 c0),(.int .i64 a1),(.bool a2)])]=
 let y1:Option (D × List D):=(some ((.int .i64 0),[(.aN [(.sl (some false) 1 n0 c0),(.int .i64 a1),(.bool false)])]))
 (cv 132 [(.sl (some false) 1 n0 c0),(.int .i64 a1)] (.int (fun fh=>(.int (fun kv=>(.bool (fun iy=>(.done (br (br iy false true) y1 (br (br a2 false true) y1 (some ((.int .i64 fh),[(.aN [(.sl (some false) 1 n0 c0),(.int .i64 kv),(.bool a2)])])))))))))))):=by kernel_rfl
theorem BM:Told cfg Try.prog 134 Try.f134:=⟨by kernel_rfl,Try.func134,by kernel_rfl⟩
theorem BN (n0:Nat) (c0:List D) (a1:Int) (a2:Bool):aR pr cv J 134 Try.f134 [(.aN [(.sl (some false) 1 n0 c0),(.int .i64 a1),(.bool a2)])]=
 (br (br a2 false true) (some ((.int .i64 0),[(.aN [(.sl (some false) 1 n0 c0),(.int .i64 a1),(.bool a2)])])) (cv 138 [(.sl (some false) 1 n0 c0),(.int .i64 a1)] (.int (fun fh=>(.int (fun kv=>(.bool (fun iy=>(.done (some ((.int .i64 fh),[(.aN [(.sl (some false) 1 n0 c0),(.int .i64 kv),(.bool iy)])]))))))))))):=by kernel_rfl
def mX (i0:Int) (i1:Int) (n2:Nat) (c3:List D) (i4:Int) (b5:Bool) (n6:Nat) (c7:List D):St:=(St.mk [(0,(.ptr 28 [] 0)),(3,(.ref 10003 [] 0 none)),(4,(.int .i64 i0)),(5,(.int .i64 i1))] [(28,[(.sl (some false) 1 n2 c3),(.int .i64 i4),(.bool b5)]),(10003,[(.sl none 1 n6 c7)])] [] 0)
theorem J5:Told cfg Try.prog 123 Try.f123:=⟨by kernel_rfl,Try.func123,by kernel_rfl⟩
theorem J6 (n0:Nat) (c0:List D) (a1:Int) (a2:Bool):aR pr cv J 123 Try.f123 [(.aN [(.sl (some false) 1 n0 c0),(.int .i64 a1),(.bool a2)])]=
 (br (br (br (pr.nl c0) true false) true false) (cv 124 [(.aN [(.sl (some false) 1 n0 c0),(.int .i64 a1),(.bool a2)])] (.int (fun fh=>(.jD (fun ku=>(fun mU=>(fun fx=>(.int (fun mv=>(.bool (fun uO=>(.done (br (br (br (pr.nl fx) true false) true false) (J 0 (mX fh 0 mU fx mv uO 0 [])) none))))))))))))) none):=by kernel_rfl
theorem pc (i0:Int) (i1:Int) (n2:Nat) (c3:List D) (i4:Int) (b5:Bool) (n6:Nat) (c7:List D):bR pr cv J 123 Try.f123 [(.aN [])] 0 (mX i0 i1 n2 c3 i4 b5 n6 c7)=
 let y1:List D:=[(.aN [(.sl (some false) 1 n2 c3),(.int .i64 i4),(.bool b5)])]
 let y2:Option (D × List D):=(some ((.sl none 1 n6 c7),y1))
 (br (pr.lt i1 i0) (br b5 (br (br (br (pr.nl c3) true false) true false) (cv 124 y1 (.int (fun fh=>(.jD (fun ku=>(fun mU=>(fun fx=>(.int (fun mv=>(.bool (fun uO=>(.done (br (br (br (pr.nl fx) true false) true false) (br (br (pr.flat [(.int .i64 fh)]) (pr.fits (n6+1) 8) false) (J 0 (mX i0 (pr.ar .add .i64 i1 1) mU fx mv uO (n6+1) (List.append c7 [(.int .i64 fh)]))) none) none))))))))))))) none) y2) y2):=by kernel_rfl
def jl (i0:Int) (i1:Int) (n2:Nat) (c3:List D) (i4:Int) (b5:Bool) (n6:Nat) (c7:List D):St:=(St.mk [(0,(.ptr 28 [] 0)),(3,(.ref 10003 [] 0 none)),(4,(.int .i64 i0)),(5,(.int .i64 i1))] [(28,[(.sl (some false) 1 n2 c3),(.int .i64 i4),(.bool b5)]),(10003,[(.sl none 1 n6 c7)])] [] 0)
theorem AD:Told cfg Try.prog 133 Try.f133:=⟨by kernel_rfl,Try.func133,by kernel_rfl⟩
theorem AE (n0:Nat) (c0:List D) (a1:Int) (a2:Bool):aR pr cv J 133 Try.f133 [(.aN [(.sl (some false) 1 n0 c0),(.int .i64 a1),(.bool a2)])]=
 (br (br (br (pr.nl c0) true false) true false) (cv 134 [(.aN [(.sl (some false) 1 n0 c0),(.int .i64 a1),(.bool a2)])] (.int (fun fh=>(.jD (fun ku=>(fun mU=>(fun fx=>(.int (fun mv=>(.bool (fun uO=>(.done (br (br (br (pr.nl fx) true false) true false) (J 0 (jl fh 0 mU fx mv uO 0 [])) none))))))))))))) none):=by kernel_rfl
theorem lM (i0:Int) (i1:Int) (n2:Nat) (c3:List D) (i4:Int) (b5:Bool) (n6:Nat) (c7:List D):bR pr cv J 133 Try.f133 [(.aN [])] 0 (jl i0 i1 n2 c3 i4 b5 n6 c7)=
 let y1:List D:=[(.aN [(.sl (some false) 1 n2 c3),(.int .i64 i4),(.bool b5)])]
 let y2:Option (D × List D):=(some ((.sl none 1 n6 c7),y1))
 (br (pr.lt i1 i0) (br b5 (br (br (br (pr.nl c3) true false) true false) (cv 134 y1 (.int (fun fh=>(.jD (fun ku=>(fun mU=>(fun fx=>(.int (fun mv=>(.bool (fun uO=>(.done (br (br (br (pr.nl fx) true false) true false) (br (br (pr.flat [(.int .i64 fh)]) (pr.fits (n6+1) 8) false) (J 0 (jl i0 (pr.ar .add .i64 i1 1) mU fx mv uO (n6+1) (List.append c7 [(.int .i64 fh)]))) none) none))))))))))))) none) y2) y2):=by kernel_rfl
end
theorem gQ {R:Type} (f:Bool->Nat->List D->bE R) (g:Bool) (s n:Nat) (cs l:List D):feed (.jD f) (.sl (some g) s n cs::l)=feed (f g n cs) l:=rfl
theorem FR (b:List UInt8) (p:Nat):∀ k i acc,0<=(iF b p k i acc).1/\(iF b p k i acc).1<=2147483647
 | 0,_,_=>by simp [iF,lr]
 | k+1,i,acc=>by
  rw [iF];split
  ·split
   ·exact FR b p k _ _
   ·split
    ·simp [lr]
    ·simp only;omega
  ·simp [lr]
theorem FT (b:List UInt8) (a:Int):0<=(hD b a).1/\(hD b a).1<=2147483647:=by
 unfold hD;split
 ·simp [lr]
 ·exact FR b _ _ _ _
theorem I1 (b:List UInt8) (p:Nat):∀ k i acc,(iF b p k i acc).2.2=true->(p:Int) < (iF b p k i acc).2.1/\(iF b p k i acc).2.1<=b.length
 | 0,_,_,h=>by simp [iF,lr] at h
 | k+1,i,acc,h=>by
  rw [iF] at h ⊢;split at h
  ·rename_i h1;rw [dif_pos h1];split at h
   ·rename_i h2;rw [if_pos h2];exact I1 b p k _ _ h
   ·rename_i h2;rw [if_neg h2];split at h
    ·simp [lr] at h
    ·rename_i h3;rw [if_neg h3];simp only;omega
  ·simp [lr] at h
theorem I2 (b:List UInt8) (a:Int) (h:(hD b a).2.2=true):0<=a/\a < (hD b a).2.1/\(hD b a).2.1<=b.length:=by
 unfold hD at h ⊢;split at h
 ·simp [lr] at h
 ·rename_i h1;rw [if_neg h1];have:=I1 b a.toNat _ _ _ h;omega
abbrev v8 (b:List UInt8) (c:Int × Bool):D:=.aN [s8 (some false) b,.int .i64 c.1,.bool c.2]
def bB (b:List UInt8) (c:Int × Bool):Int × (Int × Bool):=if (hD b c.1).2.2&&c.2 then ((hD b c.1).1,((hD b c.1).2.1,true)) else (0,(c.1,false))
def bD (b:List UInt8) (c:Int × Bool):Int × (Int × Bool):=if c.2 then ((hD b c.1).1,((hD b c.1).2.1,(hD b c.1).2.2)) else (0,c)
theorem QE (b:List UInt8) (c:Int × Bool):0<=(bB b c).1/\(bB b c).1<=2147483647:=by
 have:=FT b c.1;unfold bB;split<;>simp [this]
theorem QF (b:List UInt8) (c:Int × Bool):0<=(bD b c).1/\(bD b c).1<=2147483647:=by
 have:=FT b c.1;unfold bD;split<;>simp [this]
theorem QG (b:List UInt8) (c:Int × Bool) (hb:b.length < 4611686018427387904):Cm 124 [v8 b c] (.int .i64 (bB b c).1,[v8 b (bB b c).2]):=by
 obtain ⟨p,k⟩:=c;refine Cm.fin M0 fun J=>?_;rw [M1];simp (disch:=assumption) only [J4,cy,aF,aq];unfold bB;cases (hD b p).2.2<;>cases k<;>rfl
theorem QH (b:List UInt8) (c:Int × Bool) (hb:b.length < 4611686018427387904):Cm 134 [v8 b c] (.int .i64 (bD b c).1,[v8 b (bD b c).2]):=by
 obtain ⟨p,k⟩:=c;refine Cm.fin BM fun J=>?_;rw [BN];simp (disch:=assumption) only [J3,cy,aF,aq];unfold bD;cases k<;>rfl
section
variable (t:bE Rz)
theorem yt (b:List UInt8) (p:Int) (k:Bool) (hb:b.length < 4611686018427387904):aL 124 [.aN [.sl (some false) 1 b.length (bytes b),.int .i64 p,.bool k]] t=feed t [.int .i64 (bB b (p,k)).1,.sl (some false) 1 b.length (bytes b),.int .i64 (bB b (p,k)).2.1,.bool (bB b (p,k)).2.2]:=aX (QG b (p,k) hb) (by kernel_rfl) t
theorem yu (b:List UInt8) (p:Int) (k:Bool) (hb:b.length < 4611686018427387904):aL 134 [.aN [.sl (some false) 1 b.length (bytes b),.int .i64 p,.bool k]] t=feed t [.int .i64 (bD b (p,k)).1,.sl (some false) 1 b.length (bytes b),.int .i64 (bD b (p,k)).2.1,.bool (bD b (p,k)).2.2]:=aX (QH b (p,k) hb) (by kernel_rfl) t
end
def nC (num:List UInt8->Int × Bool->Int × (Int × Bool)) (b:List UInt8):Nat->Int × Bool->List Int->List Int × (Int × Bool)
 | 0,c,out=>(out,c)
 | k+1,c,out=>if c.2 then nC num b k (num b c).2 (out++[(num b c).1]) else (out,c)
def aM (num:List UInt8->Int × Bool->Int × (Int × Bool)) (b:List UInt8) (c:Int × Bool):List Int × (Int × Bool):=nC num b (num b c).1.toNat (num b c).2 []
theorem Tw {R:Type} {x y:R} (a:Int):br (U.flat [.int .i64 a]) x y=x:=rfl
theorem I3 (xs:List Int) (a:Int):List.append (ints xs) [.int .i64 a]=ints (xs++[a]):=by simp [ints]
theorem Cy (b:List UInt8) (hb:b.length < 4611686018427387904) (n:Nat) (hn:n<=2147483647):∀ (k i:Nat) (c:Int × Bool) (out:List Int),i+k=n->out.length<=i->WP 123 Try.f123 [.aN []] 0 (mX (n:Int) (i:Int) b.length (bytes b) c.1 c.2 out.length (ints out)) (.sl none 1 (nC bB b k c out).1.length (ints (nC bB b k c out).1),[v8 b (nC bB b k c out).2])
 | 0,i,c,out,hi,ho=>by
  refine WP.fin fun J=>?_;rw [pc];simp (disch:=omega) only [bo];rfl
 | k+1,i,c,out,hi,ho=>by
  obtain ⟨p,q⟩:=c;cases q with
  | false=>
   refine WP.fin fun J=>?_;rw [pc];simp (disch:=omega) only [aP,aY];rfl
  | true=>
   have e:nC bB b (k+1) (p,true) out=nC bB b k (bB b (p,true)).2 (out++[(bB b (p,true)).1]):=by rw [nC,if_pos rfl]
   rw [e];have ih:=Cy b hb n hn k (i+1) (bB b (p,true)).2 (out++[(bB b (p,true)).1]) (by omega) (by simp only [aab,abp]; omega)
   refine WP.go _ ih fun J hJ=>?_;rw [pc];simp (disch:=first | omega | assumption) only [aP,aG,eR,ba,yt,cy,gQ,aF,aq,Tw,fj,I3,dg]
   have e2:(out++[(bB b (p,true)).1]).length=out.length+1:=by simp
   rw [e2] at hJ;exact hJ
theorem NX (b:List UInt8) (c:Int × Bool) (hb:b.length < 4611686018427387904):Cm 123 [v8 b c] (.sl none 1 (aM bB b c).1.length (ints (aM bB b c).1),[v8 b (aM bB b c).2]):=by
 obtain ⟨p,q⟩:=c;have hn:=QE b (p,q);have en:(((bB b (p,q)).1.toNat:Nat):Int)=(bB b (p,q)).1:=by omega
 refine Cm.go J5 [.aN []] 0 _ (Cy b hb (bB b (p,q)).1.toNat (by omega) (bB b (p,q)).1.toNat 0 (bB b (p,q)).2 [] (by omega) (by simp)) fun J hJ=>?_
 rw [J6];simp (disch:=first | omega | assumption) only [aG,eR,ba,yt,cy,gQ,aF,aq]
 rw [en] at hJ;exact hJ
theorem rH (b:List UInt8) (p:Int) (k:Bool) (hb:b.length < 4611686018427387904) (t:bE Rz):aL 123 [.aN [.sl (some false) 1 b.length (bytes b),.int .i64 p,.bool k]] t=feed t [.sl none 1 (aM bB b (p,k)).1.length (ints (aM bB b (p,k)).1),.sl (some false) 1 b.length (bytes b),.int .i64 (aM bB b (p,k)).2.1,.bool (aM bB b (p,k)).2.2]:=aX (NX b (p,k) hb) (by kernel_rfl) t
theorem Cz (b:List UInt8) (hb:b.length < 4611686018427387904) (n:Nat) (hn:n<=2147483647):∀ (k i:Nat) (c:Int × Bool) (out:List Int),i+k=n->out.length<=i->WP 133 Try.f133 [.aN []] 0 (jl (n:Int) (i:Int) b.length (bytes b) c.1 c.2 out.length (ints out)) (.sl none 1 (nC bD b k c out).1.length (ints (nC bD b k c out).1),[v8 b (nC bD b k c out).2])
 | 0,i,c,out,hi,ho=>by
  refine WP.fin fun J=>?_;rw [lM];simp (disch:=omega) only [bo];rfl
 | k+1,i,c,out,hi,ho=>by
  obtain ⟨p,q⟩:=c;cases q with
  | false=>
   refine WP.fin fun J=>?_;rw [lM];simp (disch:=omega) only [aP,aY];rfl
  | true=>
   have e:nC bD b (k+1) (p,true) out=nC bD b k (bD b (p,true)).2 (out++[(bD b (p,true)).1]):=by rw [nC,if_pos rfl]
   rw [e];have ih:=Cz b hb n hn k (i+1) (bD b (p,true)).2 (out++[(bD b (p,true)).1]) (by omega) (by simp only [aab,abp]; omega)
   refine WP.go _ ih fun J hJ=>?_;rw [lM];simp (disch:=first | omega | assumption) only [aP,aG,eR,ba,yu,cy,gQ,aF,aq,Tw,fj,I3,dg]
   have e2:(out++[(bD b (p,true)).1]).length=out.length+1:=by simp
   rw [e2] at hJ;exact hJ
theorem NY (b:List UInt8) (c:Int × Bool) (hb:b.length < 4611686018427387904):Cm 133 [v8 b c] (.sl none 1 (aM bD b c).1.length (ints (aM bD b c).1),[v8 b (aM bD b c).2]):=by
 obtain ⟨p,q⟩:=c;have hn:=QF b (p,q);have en:(((bD b (p,q)).1.toNat:Nat):Int)=(bD b (p,q)).1:=by omega
 refine Cm.go AD [.aN []] 0 _ (Cz b hb (bD b (p,q)).1.toNat (by omega) (bD b (p,q)).1.toNat 0 (bD b (p,q)).2 [] (by omega) (by simp)) fun J hJ=>?_
 rw [AE];simp (disch:=first | omega | assumption) only [aG,eR,ba,yu,cy,gQ,aF,aq]
 rw [en] at hJ;exact hJ
theorem rI (b:List UInt8) (p:Int) (k:Bool) (hb:b.length < 4611686018427387904) (t:bE Rz):aL 133 [.aN [.sl (some false) 1 b.length (bytes b),.int .i64 p,.bool k]] t=feed t [.sl none 1 (aM bD b (p,k)).1.length (ints (aM bD b (p,k)).1),.sl (some false) 1 b.length (bytes b),.int .i64 (aM bD b (p,k)).2.1,.bool (aM bD b (p,k)).2.2]:=aX (NY b (p,k) hb) (by kernel_rfl) t
set_option maxRecDepth 100000
section
variable (pr:dA) (cv:Cv Rz) (J:Nat->St->Option Rz)
def jW (g0:Bool) (n1:Nat) (c2:List D) (i3:Int) (i4:Int) (n5:Nat) (c6:List D):St:=(St.mk [(3,(.ref 10003 [] 0 none)),(7,(.sl (some g0) 1 n1 c2)),(8,(.int .i64 i3)),(9,(.int .i64 i4))] [(10003,[(.sl none 1 n5 c6)])] [] 0)
theorem Hj:Told cfg Try.prog 136 Try.f136:=⟨by kernel_rfl,Try.func136,by kernel_rfl⟩
theorem Hk (g0:Bool) (n0:Nat) (c0:List D):aR pr cv J 136 Try.f136 [(.sl (some g0) 1 n0 c0)]=
 (J 0 (jW g0 n0 c0 (pr.bc n0) 0 0 [])):=by kernel_rfl
theorem tc (g0:Bool) (n1:Nat) (c2:List D) (i3:Int) (i4:Int) (n5:Nat) (c6:List D):bR pr cv J 136 Try.f136 [.undef] 0 (jW g0 n1 c2 i3 i4 n5 c6)=
 (br (pr.lt i4 i3) (br (pr.bh i4 n1) (br (br (pr.cW .i64 c2 (pr.idx 0 i4 1)) true false) (cv 139 [(.int .i64 (pr.bT c2 (pr.idx 0 i4 1)))] (.sl (fun eC=>(fun dq=>(.done (br (br (br (pr.nl dq) true false) true false) (br (br (pr.flat dq) (pr.fits (n5+eC) 1) false) (J 0 (jW g0 n1 c2 i3 (pr.ar .add .i64 i4 1) (n5+eC) (List.append c6 dq))) none) none)))))) none) none) (some ((.sl none 1 n5 c6),[.undef]))):=by kernel_rfl
theorem Hl:Told cfg Try.prog 135 Try.f135:=⟨by kernel_rfl,Try.func135,by kernel_rfl⟩
theorem Hm (g0:Bool) (n0:Nat) (c0:List D):aR pr cv J 135 Try.f135 [(.sl (some g0) 1 n0 c0)]=
 (cv 136 [(.sl (some true) 1 1 [(.int .i64 (pr.bc n0))])] (.sl (fun eC=>(fun dq=>(.done (br (br (br (pr.nl dq) true false) true false) (cv 136 [(.sl (some g0) 1 n0 c0)] (.sl (fun mU=>(fun fx=>(.done (br (br (br (pr.nl fx) true false) true false) (br (br (pr.flat fx) (pr.fits (eC+mU) 1) false) (some ((.sl none 1 (eC+mU) (List.append dq fx)),[.undef])) none) none)))))) none)))))):=by kernel_rfl
def kJ (i0:Int) (g1:Bool) (n2:Nat) (c3:List D) (g4:Bool) (n5:Nat) (c6:List D) (b7:Bool) (b8:Bool) (b9:Bool) (i10:Int) (eS:Nat) (fk:List D):St:=(St.mk [(1,(.ptr 1 [] 0)),(3,(.ref 10003 [] 0 none)),(4,(.int .i64 i0))] [(1,[(.sl (some g1) 1 n2 c3),(.sl (some g4) 1 n5 c6),(.bool b7),(.bool b8),(.bool b9),(.int .i64 i10)]),(10003,[(.sl none 1 eS fk)])] [] 0)
def kK (i0:Int) (g1:Bool) (n2:Nat) (c3:List D) (g4:Bool) (n5:Nat) (c6:List D) (b7:Bool) (b8:Bool) (b9:Bool) (i10:Int) (eS:Nat) (fk:List D):St:=(St.mk [(1,(.ptr 1 [] 0)),(3,(.ref 10003 [] 0 none)),(5,(.int .i64 i0))] [(1,[(.sl (some g1) 1 n2 c3),(.sl (some g4) 1 n5 c6),(.bool b7),(.bool b8),(.bool b9),(.int .i64 i10)]),(10003,[(.sl none 1 eS fk)])] [] 0)
def kL (i0:Int) (i1:Int) (g2:Bool) (n3:Nat) (c4:List D) (g5:Bool) (n6:Nat) (c7:List D) (b8:Bool) (b9:Bool) (jr:Bool) (i11:Int) (iL:Nat) (jL:List D):St:=(St.mk [(1,(.ptr 1 [] 0)),(3,(.ref 10003 [] 0 none)),(5,(.int .i64 i0)),(6,(.int .i64 i1))] [(1,[(.sl (some g2) 1 n3 c4),(.sl (some g5) 1 n6 c7),(.bool b8),(.bool b9),(.bool jr),(.int .i64 i11)]),(10003,[(.sl none 1 iL jL)])] [] 0)
theorem uX:Told cfg Try.prog 118 Try.f118:=⟨by kernel_rfl,Try.func118,by kernel_rfl⟩
theorem uY (g0:Bool) (n0:Nat) (c0:List D) (g1:Bool) (n1:Nat) (c1:List D) (a2:Bool) (a3:Bool) (a4:Bool) (a5:Int):aR pr cv J 118 Try.f118 [(.agg [(.sl (some g0) 1 n0 c0),(.sl (some g1) 1 n1 c1),(.bool a2),(.bool a3),(.bool a4),(.int .i64 a5)])]=
 let y1:List D:=[(.sl (some g0) 1 n0 c0),(.sl (some g1) 1 n1 c1),(.bool a2),(.bool a3),(.bool a4),(.int .i64 a5)]
 (cv 66 [(.agg y1)] (.bool (fun cx=>(.done (br (br cx false true) (some ((.sl none 1 0 []),[.undef])) (cv 127 [(.int .i64 (pr.bc n0))] (.sl (fun Fk=>(fun As=>(.done (br (br (br (pr.nl As) true false) true false) (J 0 (kJ 0 g0 n0 c0 g1 n1 c1 a2 a3 a4 a5 Fk As)) none))))))))))):=by kernel_rfl
theorem qK (i0:Int) (g1:Bool) (n2:Nat) (c3:List D) (g4:Bool) (n5:Nat) (c6:List D) (b7:Bool) (b8:Bool) (b9:Bool) (i10:Int) (eS:Nat) (fk:List D):bR pr cv J 118 Try.f118 [.undef] 0 (kJ i0 g1 n2 c3 g4 n5 c6 b7 b8 b9 i10 eS fk)=
 (br (pr.lt i0 (pr.bc n2)) (br (pr.bh i0 n2) (br (br (pr.cW .i64 c3 (pr.idx 0 i0 1)) true false) (cv 127 [(.int .i64 (pr.bT c3 (pr.idx 0 i0 1)))] (.sl (fun eC=>(fun dq=>(.done (br (br (br (pr.nl dq) true false) true false) (br (br (pr.flat dq) (pr.fits (eS+eC) 1) false) (J 0 (kJ (pr.ar .add .i64 i0 1) g1 n2 c3 g4 n5 c6 b7 b8 b9 i10 (eS+eC) (List.append fk dq))) none) none)))))) none) none) (J 2 (kK 0 g1 n2 c3 g4 n5 c6 b7 b8 b9 i10 eS fk))):=by kernel_rfl
theorem qL (i0:Int) (g1:Bool) (n2:Nat) (c3:List D) (g4:Bool) (n5:Nat) (c6:List D) (b7:Bool) (b8:Bool) (b9:Bool) (i10:Int) (eS:Nat) (fk:List D):bR pr cv J 118 Try.f118 [.undef] 2 (kK i0 g1 n2 c3 g4 n5 c6 b7 b8 b9 i10 eS fk)=
 (br (pr.lt i0 3) (br (pr.bh i0 n5) (br (br (pr.dc 1 c6 (pr.idx 0 i0 1)) true false) (cv 127 [(.int .i64 (pr.bc (pr.bf c6 (pr.idx 0 i0 1))))] (.sl (fun eC=>(fun dq=>(.done (br (br (br (pr.nl dq) true false) true false) (br (br (pr.flat dq) (pr.fits (eS+eC) 1) false) (J 4 (kL i0 0 g1 n2 c3 g4 n5 c6 b7 b8 b9 i10 (eS+eC) (List.append fk dq))) none) none)))))) none) none) (cv 39 [(.bool b7)] (.int (fun jM=>(.done (cv 39 [(.bool b8)] (.int (fun so=>(.done (cv 39 [(.bool b9)] (.int (fun mv=>(.done (cv 127 [(.int .i64 (pr.ar .add .i64 (pr.ar .add .i64 jM (pr.ar .mul .i64 2 so)) (pr.ar .mul .i64 4 mv)))] (.sl (fun Fl=>(fun Cq=>(.done (br (br (br (pr.nl Cq) true false) true false) (br (br (pr.flat Cq) (pr.fits (eS+Fl) 1) false) (cv 127 [(.int .i64 i10)] (.sl (fun Fm=>(fun At=>(.done (br (br (br (pr.nl At) true false) true false) (br (br (pr.flat At) (pr.fits ((eS+Fl)+Fm) 1) false) (some ((.sl none 1 ((eS+Fl)+Fm) (List.append (List.append fk Cq) At)),[.undef])) none) none)))))) none) none))))))))))))))))))):=by kernel_rfl
theorem qM (i0:Int) (i1:Int) (g2:Bool) (n3:Nat) (c4:List D) (g5:Bool) (n6:Nat) (c7:List D) (b8:Bool) (b9:Bool) (jr:Bool) (i11:Int) (iL:Nat) (jL:List D):bR pr cv J 118 Try.f118 [.undef] 4 (kL i0 i1 g2 n3 c4 g5 n6 c7 b8 b9 jr i11 iL jL)=
 (br (pr.bh i0 n6) (br (br (pr.dc 1 c7 (pr.idx 0 i0 1)) true false) (br (pr.lt i1 (pr.bc (pr.bf c7 (pr.idx 0 i0 1)))) (br (pr.bh i0 n6) (br (br (pr.dc 1 c7 (pr.idx 0 i0 1)) true false) (br (pr.bh i1 (pr.bf c7 (pr.idx 0 i0 1))) (br (br (pr.cW .i64 (pr.bn c7 (pr.idx 0 i0 1)) (pr.idx 0 i1 1)) true false) (cv 127 [(.int .i64 (pr.bT (pr.bn c7 (pr.idx 0 i0 1)) (pr.idx 0 i1 1)))] (.sl (fun eC=>(fun dq=>(.done (br (br (br (pr.nl dq) true false) true false) (br (br (pr.flat dq) (pr.fits (iL+eC) 1) false) (J 4 (kL i0 (pr.ar .add .i64 i1 1) g2 n3 c4 g5 n6 c7 b8 b9 jr i11 (iL+eC) (List.append jL dq))) none) none)))))) none) none) none) none) (J 2 (kK (pr.ar .add .i64 i0 1) g2 n3 c4 g5 n6 c7 b8 b9 jr i11 iL jL))) none) none):=by kernel_rfl
def iG (g0:Bool) (n1:Nat) (c2:List D) (i3:Int) (i4:Int) (g5:Bool) (n6:Nat) (c7:List D) (b8:Bool) (b9:Bool) (jr:Bool) (i11:Int) (iL:Nat) (jL:List D):St:=(St.mk [(1,(.ptr 1 [] 0)),(3,(.ref 10003 [] 0 none)),(13,(.sl (some g0) 1 n1 c2)),(14,(.int .i64 i3)),(15,(.int .i64 i4))] [(1,[(.sl (some g5) 1 n6 c7),(.sl (some g0) 1 n1 c2),(.bool b8),(.bool b9),(.bool jr),(.int .i64 i11)]),(10003,[(.sl none 1 iL jL)])] [] 0)
theorem uZ:Told cfg Try.prog 130 Try.f130:=⟨by kernel_rfl,Try.func130,by kernel_rfl⟩
theorem u3 (g0:Bool) (n0:Nat) (c0:List D) (g1:Bool) (n1:Nat) (c1:List D) (a2:Bool) (a3:Bool) (a4:Bool) (a5:Int):aR pr cv J 130 Try.f130 [(.agg [(.sl (some g0) 1 n0 c0),(.sl (some g1) 1 n1 c1),(.bool a2),(.bool a3),(.bool a4),(.int .i64 a5)])]=
 let y1:List D:=[(.sl (some g0) 1 n0 c0),(.sl (some g1) 1 n1 c1),(.bool a2),(.bool a3),(.bool a4),(.int .i64 a5)]
 (cv 74 [(.agg y1)] (.bool (fun cx=>(.done (br (br cx false true) (some ((.sl none 1 0 []),[.undef])) (cv 135 [(.sl (some g0) 1 n0 c0)] (.sl (fun Fk=>(fun As=>(.done (br (br (br (pr.nl As) true false) true false) (J 0 (iG g1 n1 c1 (pr.bc n1) 0 g0 n0 c0 a2 a3 a4 a5 Fk As)) none))))))))))):=by kernel_rfl
theorem qN (g0:Bool) (n1:Nat) (c2:List D) (i3:Int) (i4:Int) (g5:Bool) (n6:Nat) (c7:List D) (b8:Bool) (b9:Bool) (jr:Bool) (i11:Int) (iL:Nat) (jL:List D):bR pr cv J 130 Try.f130 [.undef] 0 (iG g0 n1 c2 i3 i4 g5 n6 c7 b8 b9 jr i11 iL jL)=
 (br (pr.lt i4 i3) (br (pr.bh i4 n1) (br (br (pr.dc 1 c2 (pr.idx 0 i4 1)) true false) (cv 135 [(.sl (some (pr.cF c2 (pr.idx 0 i4 1))) 1 (pr.bf c2 (pr.idx 0 i4 1)) (pr.bn c2 (pr.idx 0 i4 1)))] (.sl (fun eC=>(fun dq=>(.done (br (br (br (pr.nl dq) true false) true false) (br (br (pr.flat dq) (pr.fits (iL+eC) 1) false) (J 0 (iG g0 n1 c2 i3 (pr.ar .add .i64 i4 1) g5 n6 c7 b8 b9 jr i11 (iL+eC) (List.append jL dq))) none) none)))))) none) none) (cv 137 [(.bool b8),(.int .i64 1)] (.int (fun jM=>(.done (cv 137 [(.bool b9),(.int .i64 2)] (.int (fun so=>(.done (cv 137 [(.bool jr),(.int .i64 4)] (.int (fun mv=>(.done (cv 136 [(.sl (some true) 1 2 [(.int .i64 (pr.ar .add .i64 (pr.ar .add .i64 jM so) mv)),(.int .i64 i11)])] (.sl (fun Fl=>(fun Cq=>(.done (br (br (br (pr.nl Cq) true false) true false) (br (br (pr.flat Cq) (pr.fits (iL+Fl) 1) false) (some ((.sl none 1 (iL+Fl) (List.append jL Cq)),[.undef])) none) none))))))))))))))))))):=by kernel_rfl
end
def ez (xs:List Int):List UInt8:=xs.flatMap da
theorem j9:∀ xs:List Int,(ez xs).length<=5*xs.length
 | []=>by simp [ez]
 | x::xs=>by
  have h1:=j9 xs;have h2:=fA x;simp only [ez,ab8,aab,abc] at h1 ⊢;omega
theorem wa {xs:List Int} {i:Nat} (h:i < xs.length):ez (xs.take (i+1))=ez (xs.take i)++da xs[i]:=by
 unfold ez;rw [<- abd h,List.flatMap_append,ab8,List.flatMap_nil,aat]
def cP (xs:List Int):List UInt8:=da (xs.length:Int)++ez xs
theorem mY (xs:List Int):(cP xs).length<=5+5*xs.length:=by
 have h1:=j9 xs;have h2:=fA (xs.length:Int);simp only [cP,aab];omega
def fo (xss:List (List Int)):List UInt8:=xss.flatMap cP
theorem nD:∀ xss:List (List Int),(∀ xs∈xss,xs.length<=1048576)->(fo xss).length<=5242885*xss.length
 | [],_=>by simp [fo]
 | xs::xss,h=>by
  have h1:=nD xss fun x hx=>h x (List.mem_cons_of_mem _ hx);have h2:=mY xs;have h3:=h xs List.mem_cons_self;simp only [fo,ab8,aab,abc] at h1 ⊢;omega
theorem FU {xss:List (List Int)} {i:Nat} (h:i < xss.length):fo (xss.take (i+1))=fo (xss.take i)++cP xss[i]:=by
 unfold fo;rw [<- abd h,List.flatMap_append,ab8,List.flatMap_nil,aat]
def qq (b:Bool) (k:Int):Int:=if b then k else 0
def kM (m:aE):Int:=qq m.eb 1+qq m.bW 2+qq m.held 4
def cw (m:aE):List UInt8:=if dZ m then (cP m.aK++fo m.bits)++(da (kM m)++da m.last) else []
theorem YW (b:Bool):Cm 39 [.bool b] (.int .i64 (qq b 1),[.undef]):=by
 refine Cm.fin MP fun J=>?_;rw [MQ];cases b<;>rfl
theorem abV (b:Bool) (k:Int):Cm 137 [.bool b,.int .i64 k] (.int .i64 (qq b k),[.undef,.undef]):=by
 refine Cm.fin NL fun J=>?_;rw [NM];cases b<;>rfl
theorem Tx (g:Bool) (xs:List Int) (hb:xs.length<=1048576):Cm 136 [.sl (some g) 1 xs.length (ints xs)] (.sl none 1 (ez xs).length (bytes (ez xs)),[.undef]):=by
 refine Cm.go Hj [.undef] 0 (jW g xs.length (ints xs) xs.length (0:Nat) 0 []) ?_ fun J hJ=>?_
 ·refine WP.loop (H:=fun i:Nat=>jW g xs.length (ints xs) xs.length (i:Nat) (ez (xs.take i)).length (bytes (ez (xs.take i)))) (n:=xs.length) (fun _=>True) (fun i hi _ ih=>WP.go _ (ih trivial) fun J hJ=>?_) (fun _=>WP.fin fun J=>?_) 0 (abh _) trivial
  ·have l1:=j9 (xs.take i);have l2:=fA xs[i];have l3:(xs.take i).length<=xs.length:=by simp; omega
   rw [tc];simp (disch:=first | omega | assumption) only [aP,bA,cK,dG,dH,J0,dv,aq,eR,aG,ba,iX,fj,gy,dg]
   rw [wa hi,aab] at hJ;exact hJ
  ·rw [tc];simp (disch:=omega) only [bo,aa9]
 ·rw [Hk];exact hJ
section
variable (t:bE Rz)
theorem YX (b:Bool):aL 39 [.bool b] t=feed t [.int .i64 (qq b 1)]:=aX (YW b) (by kernel_rfl) t
theorem abW (b:Bool) (k:Int):aL 137 [.bool b,.int .i64 k] t=feed t [.int .i64 (qq b k)]:=aX (abV b k) (by kernel_rfl) t
theorem AF (g:Bool) (xs:List Int) (n:Nat) (hn:n=xs.length) (hb:xs.length<=1048576):aL 136 [.sl (some g) 1 n (ints xs)] t=feed t [.sl none 1 (ez xs).length (bytes (ez xs))]:=by subst hn; exact aX (Tx g xs hb) (by kernel_rfl) t
theorem QI (g:Bool) (a:Int):aL 136 [.sl (some g) 1 1 [.int .i64 a]] t=feed t [.sl none 1 (da a).length (bytes (da a))]:=by
 have e:ez [a]=da a:=by simp [ez]
 rw [<- e];exact AF t g [a] 1 rfl (by simp)
theorem QJ (g:Bool) (a b:Int):aL 136 [.sl (some g) 1 2 [.int .i64 a,.int .i64 b]] t=feed t [.sl none 1 (da a++da b).length (bytes (da a++da b))]:=by
 have e:ez [a,b]=da a++da b:=by simp [ez]
 rw [<- e];exact AF t g [a,b] 2 rfl (by simp)
end
theorem Tz (g:Bool) (xs:List Int) (hb:xs.length<=1048576):Cm 135 [.sl (some g) 1 xs.length (ints xs)] (.sl none 1 (cP xs).length (bytes (cP xs)),[.undef]):=by
 refine Cm.fin Hl fun J=>?_;rw [Hm];have l1:=j9 xs;have l2:=fA (xs.length:Int);simp (disch:=first | omega | assumption | rfl) only [aB,QI,AF,dv,aq,eR,aG,ba,iX,fj,gy]
 unfold cP;rw [aab]
theorem I4 (g:Bool) (xs:List Int) (n:Nat) (hn:n=xs.length) (hb:xs.length<=1048576) (t:bE Rz):aL 135 [.sl (some g) 1 n (ints xs)] t=feed t [.sl none 1 (cP xs).length (bytes (cP xs))]:=by subst hn; exact aX (Tz g xs hb) (by kernel_rfl) t
theorem CA {m:aE} (h:dZ m=true):m.bits.length=3:=by
 simp only [dZ,D8,beq_iff_eq] at h;omega
abbrev I5 (l:List UInt8):Rz:=(.sl none 1 l.length (bytes l),[.undef])
theorem DC (g:Bool) (m:aE) (hm:cz m):Cm 130 [.agg (bK (some g) m)] (I5 (cw m)):=by
 unfold cw;have b0:=hm.aK;cases cH:dZ m with
 | false=>
  refine Cm.fin uZ fun J=>?_;rw [u3];simp (disch:=assumption) only [yU,aF,aq,cH,bl,bO,aY];rfl
 | true=>
  rw [if_pos rfl];have hl:=CA cH;have l0:=mY m.aK;have l3:=fA (kM m);have l4:=fA m.last;refine Cm.go uZ [.undef] 0 (iG g m.bits.length (rows (some g) m.bits) m.bits.length (0:Nat) g m.aK.length (ints m.aK) m.eb m.bW m.held m.last (cP m.aK).length (bytes (cP m.aK))) ?_ fun J hJ=>?_
  ·have:=WP.loop (f:=130) (fn:=Try.f130) (sk:=[.undef]) (j:=0) (r:=I5 ((cP m.aK++fo m.bits)++(da (kM m)++da m.last))) (H:=fun i:Nat=>iG g m.bits.length (rows (some g) m.bits) m.bits.length (i:Nat) g m.aK.length (ints m.aK) m.eb m.bW m.held m.last (cP m.aK++fo (m.bits.take i)).length (bytes (cP m.aK++fo (m.bits.take i)))) (n:=m.bits.length) (fun _=>True) (fun i hi _ ih=>WP.go _ (ih trivial) fun J hJ=>?_) (fun _=>WP.fin fun J=>?_) 0 (abh _) trivial
   ·simpa [fo] using this
   ·have l1:=nD (m.bits.take i) fun x hx=>hm.bits.2 x (aew hx);have l5:(m.bits.take i).length<=3:=by simp; omega
    have l2:=mY m.bits[i];have b2:=hm.bits.2 _ (aaT hi);have l6:(cP m.aK++fo (m.bits.take i)).length<=30000000:=by rw [aab]; omega
    rw [qN];simp (disch:=first | omega | assumption) only [aP,bA,cK,iC,iD,hM,iE,I4,dv,aq,eR,aG,ba,iX,fj,gy,dg]
    rw [FU hi,<- aay,aab (bs:=cP m.bits[i])] at hJ;exact hJ
   ·have l1:=nD m.bits hm.bits.2;have l6:(cP m.aK++fo m.bits).length<=30000000:=by rw [aab]; omega
    have l7:(da (kM m)++da m.last).length<=10:=by rw [aab]; omega
    have hf:U.ar .add .i64 (U.ar .add .i64 (qq m.eb 1) (qq m.bW 2)) (qq m.held 4)=kM m:=by
     unfold kM;cases m.eb<;>cases m.bW<;>cases m.held<;>rfl
    rw [qN];simp (disch:=first | omega | assumption) only [bo,aa9,abW,cy,aq,hf,QJ,dv,eR,aG,ba,iX,fj,gy]
    simp only [I5,aab]
  ·rw [u3];simp (disch:=first | omega | assumption | rfl) only [yU,aF,aq,cH,bl,bO,aG,I4,dv,eR,ba,aB]
   exact hJ
theorem DD (g:Bool) (m:aE) (hm:cz m):Cm 118 [.agg (bK (some g) m)] (I5 (cw m)):=by
 unfold cw;have b0:=hm.aK;cases cH:dZ m with
 | false=>
  refine Cm.fin uX fun J=>?_;rw [uY];simp (disch:=assumption) only [yT,aF,aq,cH,bl,bO,aY];rfl
 | true=>
  rw [if_pos rfl];have hl:=CA cH;have l0:=mY m.aK;have l3:=fA (kM m);have l4:=fA m.last;have w2:∀ k i,i+k=3->WP 118 Try.f118 [.undef] 2 (kK (i:Nat) g m.aK.length (ints m.aK) g m.bits.length (rows (some g) m.bits) m.eb m.bW m.held m.last (cP m.aK++fo (m.bits.take i)).length (bytes (cP m.aK++fo (m.bits.take i)))) (I5 ((cP m.aK++fo m.bits)++(da (kM m)++da m.last))):=by
   intro k
   induction k with
   | zero=>
    intro i hi;obtain rfl:i=3:=by omega
    have l1:=nD m.bits hm.bits.2;have l6:(cP m.aK++fo m.bits).length<=30000000:=by rw [aab]; omega
    have ht:m.bits.take 3=m.bits:=by rw [<- hl,aa9]
    have hf:U.ar .add .i64 (U.ar .add .i64 (qq m.eb 1) (U.ar .mul .i64 2 (qq m.bW 1))) (U.ar .mul .i64 4 (qq m.held 1))=kM m:=by
     unfold kM;cases m.eb<;>cases m.bW<;>cases m.held<;>rfl
    refine WP.fin fun J=>?_;rw [qL,ht];simp (disch:=first | omega | assumption) only [bo,YX,cy,aq,hf,mw,dv,eR,aG,ba,iX,fj,gy]
    simp only [I5,aab,aay,acf]
   | succ k ih=>
    intro i hi;have OC:i < m.bits.length:=by omega
    have ih:=ih (i+1) (by omega)
    have l1:=nD (m.bits.take i) fun x hx=>hm.bits.2 x (aew hx);have l5:(m.bits.take i).length<=3:=by simp; omega
    have b2:=hm.bits.2 _ (aaT OC);have l6:(cP m.aK++fo (m.bits.take i)).length<=30000000:=by rw [aab]; omega
    have l8:=fA (m.bits[i].length:Int);have w4:=WP.loop (f:=118) (fn:=Try.f118) (sk:=[.undef]) (j:=4) (r:=I5 ((cP m.aK++fo m.bits)++(da (kM m)++da m.last))) (H:=fun j:Nat=>kL (i:Nat) (j:Nat) g m.aK.length (ints m.aK) g m.bits.length (rows (some g) m.bits) m.eb m.bW m.held m.last ((cP m.aK++fo (m.bits.take i))++da (m.bits[i].length:Int)++ez (m.bits[i].take j)).length (bytes ((cP m.aK++fo (m.bits.take i))++da (m.bits[i].length:Int)++ez (m.bits[i].take j)))) (n:=m.bits[i].length) (fun _=>True) (fun j hj _ ih4=>WP.go _ (ih4 trivial) fun J hJ=>?_) (fun _=>WP.go _ ih fun J hJ=>?_) 0 (abh _) trivial
    ·refine WP.go _ w4 fun J hJ=>?_;rw [qL];simp (disch:=first | omega | assumption) only [aP,bA,cK,iC,iD,hM,iE,aB,mw,dv,aq,eR,aG,ba,iX,fj,gy]
     simp only [aeU,ez,List.flatMap_nil,aat] at hJ;rw [aab (bs:=da (m.bits[i].length:Int))] at hJ;exact hJ
    ·have l9:=j9 (m.bits[i].take j);have l10:(m.bits[i].take j).length<=m.bits[i].length:=by simp; omega
     have l11:=fA m.bits[i][j];have l12:((cP m.aK++fo (m.bits.take i))++da (m.bits[i].length:Int)++ez (m.bits[i].take j)).length<=60000000:=by rw [aab,aab]; omega
     rw [qM];simp (disch:=first | omega | assumption) only [aP,bA,cK,iC,dG,dH,iD,hM,iE,aB,mw,dv,aq,eR,aG,ba,iX,fj,gy,dg]
     rw [wa hj,<- aay,aab (bs:=da m.bits[i][j])] at hJ;exact hJ
    ·rw [qM];simp (disch:=first | omega | assumption) only [bo,bA,cK,iC,hM,aB,aG,ba,dg,aa9]
     have e:fo (m.bits.take (i+1))=fo (m.bits.take i)++(da (m.bits[i].length:Int)++ez m.bits[i]):=FU OC;rw [e,<- aay,<- aay] at hJ;exact hJ
  have w0:=WP.loop (f:=118) (fn:=Try.f118) (sk:=[.undef]) (j:=0) (r:=I5 ((cP m.aK++fo m.bits)++(da (kM m)++da m.last))) (H:=fun i:Nat=>kJ (i:Nat) g m.aK.length (ints m.aK) g m.bits.length (rows (some g) m.bits) m.eb m.bW m.held m.last (da (m.aK.length:Int)++ez (m.aK.take i)).length (bytes (da (m.aK.length:Int)++ez (m.aK.take i)))) (n:=m.aK.length) (fun _=>True) (fun i hi _ ih=>WP.go _ (ih trivial) fun J hJ=>?_) (fun _=>WP.go _ (w2 3 0 rfl) fun J hJ=>?_) 0 (abh _) trivial
  ·refine Cm.go uX [.undef] 0 _ w0 fun J hJ=>?_;rw [uY];simp (disch:=first | omega | assumption | rfl) only [yT,aF,aq,cH,bl,bO,aG,mw,dv,eR,ba,aB]
   simp only [aeU,ez,List.flatMap_nil,aat] at hJ;exact hJ
  ·have l9:=j9 (m.aK.take i);have l10:(m.aK.take i).length<=m.aK.length:=by simp; omega
   have l11:=fA m.aK[i];have l8:=fA (m.aK.length:Int);have l12:(da (m.aK.length:Int)++ez (m.aK.take i)).length<=30000000:=by rw [aab]; omega
   rw [qK];simp (disch:=first | omega | assumption) only [aP,bA,cK,dG,dH,aB,mw,dv,aq,eR,aG,ba,iX,fj,gy,dg]
   rw [wa hi,<- aay,aab (bs:=da m.aK[i])] at hJ;exact hJ
  ·rw [qK];simp (disch:=omega) only [aB,bo,aa9];have e:cP m.aK++fo (m.bits.take 0)=da (m.aK.length:Int)++ez m.aK:=by simp [fo,cP]
   rw [e] at hJ;exact hJ
section
variable (t:bE Rz)
theorem u4 (g:Bool) (m:aE) (hm:cz m):aL 118 [.agg (bK (some g) m)] t=feed t [.sl none 1 (cw m).length (bytes (cw m))]:=aX (DD g m hm) (by kernel_rfl) t
theorem u5 (g:Bool) (m:aE) (hm:cz m):aL 130 [.agg (bK (some g) m)] t=feed t [.sl none 1 (cw m).length (bytes (cw m))]:=aX (DC g m hm) (by kernel_rfl) t
end
set_option maxRecDepth 100000
section
variable (pr:dA) (cv:Cv Rz) (J:Nat->St->Option Rz)
def qt (n0:Nat) (c1:List D) (i2:Int) (b3:Bool) (b4:Bool) (b5:Bool) (i6:Int) (n7:Nat) (c8:List D) (i9:Int) (jr:Bool) (eS:Nat) (fk:List D) (FV:Bool) (u6:Bool) (lN:Bool) (i16:Int):St:=(St.mk [(0,(.sl (some true) 1 n0 c1)),(2,(.ptr 2 [] 0)),(4,(.ptr 11 [] 0)),(5,(.ptr 5 [] 0)),(6,(.int .i64 i2))] [(2,[(.nil 1),(.nil 1),(.bool b3),(.bool b4),(.bool b5),(.int .i64 i6)]),(11,[(.sl (some true) 1 n7 c8),(.int .i64 i9),(.bool jr)]),(5,[(.sl none 1 eS fk),(.nil 1),(.bool FV),(.bool u6),(.bool lN),(.int .i64 i16)])] [] 0)
def gV (n0:Nat) (c1:List D) (i2:Int) (b3:Bool) (b4:Bool) (b5:Bool) (i6:Int) (n7:Nat) (c8:List D) (i9:Int) (jr:Bool) (eS:Nat) (fk:List D) (lV:Nat) (mV:List D) (lN:Bool) (sw:Bool) (tb:Bool) (i18:Int):St:=(St.mk [(0,(.sl (some true) 1 n0 c1)),(2,(.ptr 2 [] 0)),(4,(.ptr 11 [] 0)),(5,(.ptr 5 [] 0)),(6,(.int .i64 i2))] [(2,[(.nil 1),(.nil 1),(.bool b3),(.bool b4),(.bool b5),(.int .i64 i6)]),(11,[(.sl (some true) 1 n7 c8),(.int .i64 i9),(.bool jr)]),(5,[(.sl none 1 eS fk),(.sl none 1 lV mV),(.bool lN),(.bool sw),(.bool tb),(.int .i64 i18)])] [] 0)
theorem J7:Told cfg Try.prog 113 Try.f113:=⟨by kernel_rfl,Try.func113,by kernel_rfl⟩
theorem J8 (n0:Nat) (c0:List D):aR pr cv J 113 Try.f113 [(.sl (some true) 1 n0 c0)]=
 (cv 123 [(.aN [(.sl (some false) 1 n0 (ef false c0)),(.int .i64 0),(.bool true)])] (.sl (fun eC=>(fun dq=>(.jD (fun iy=>(fun yQ=>(fun qj=>(.int (fun pD=>(.bool (fun sm=>(.done (br (br (br (pr.nl dq) true false) (br (br (pr.nl qj) true false) true false) false) (J 0 (qt n0 c0 0 false false false 0 yQ (ef true qj) pD sm eC (ef true dq) false false false 0)) none)))))))))))))):=by kernel_rfl
theorem DE (n0:Nat) (c1:List D) (i2:Int) (b3:Bool) (b4:Bool) (b5:Bool) (i6:Int) (n7:Nat) (c8:List D) (i9:Int) (jr:Bool) (eS:Nat) (fk:List D) (FV:Bool) (u6:Bool) (lN:Bool) (i16:Int):bR pr cv J 113 Try.f113 [.undef] 0 (qt n0 c1 i2 b3 b4 b5 i6 n7 c8 i9 jr eS fk FV u6 lN i16)=
 let y1:List D:=[(.aN [(.sl (some false) 1 n7 (ef false c8)),(.int .i64 i9),(.bool jr)])]
 let y2:Option (D × List D):=(some ((.aZ [(.agg [(.sl none 1 0 []),(.sl none 1 0 []),(.bool false),(.bool false),(.bool false),(.int .i64 0)]),(.bool false)]),[.undef]))
 (br (pr.lt i2 3) (cv 123 y1 (.sl (fun eC=>(fun dq=>(.jD (fun iy=>(fun yQ=>(fun qj=>(.int (fun pD=>(.bool (fun sm=>(.done (br (br (br (pr.nl dq) true false) (br (br (pr.nl qj) true false) true false) false) (br (pr.fits 1 24) (J 0 (gV n0 c1 (pr.ar .add .i64 i2 1) b3 b4 b5 i6 yQ (ef true qj) pD sm eS fk 1 [(.sl none 1 eC (ef true dq))] FV u6 lN i16)) none) none)))))))))))))) (cv 124 y1 (.int (fun j4=>(.jD (fun SB=>(fun IY=>(fun kX=>(.int (fun ym=>(.bool (fun DF=>(.done (br (br (br (pr.nl kX) true false) true false) (cv 124 [(.aN [(.sl (some false) 1 IY (ef false (ef true kX))),(.int .i64 ym),(.bool DF)])] (.int (fun qu=>(.jD (fun VH=>(fun VI=>(fun DG=>(.int (fun VJ=>(.bool (fun DH=>(.done (br (br (br (pr.nl DG) true false) true false) (br (br DH false true) y2 (br (pr.rm c1) (cv 118 [(.agg [(.sl (some true) 1 eS (bP true fk)),(.sl (some true) 1 0 []),(.bool (br (pr.eq (pr.ar .and .i64 j4 1) 0) false true)),(.bool (br (pr.eq (pr.ar .and .i64 j4 2) 0) false true)),(.bool (br (pr.eq (pr.ar .and .i64 j4 4) 0) false true)),(.int .i64 qu)])] (.sl (fun Av=>(fun mN=>(.done (br (br (br (pr.nl mN) true false) true false) (br (pr.rm mN) (br (br (pr.seq (pr.zW mN) (pr.zW c1)) false true) y2 (br (pr.eq (pr.bc n0) 0) y2 (some ((.aZ [(.agg [(.sl none 1 eS fk),(.sl none 1 0 []),(.bool (br (pr.eq (pr.ar .and .i64 j4 1) 0) false true)),(.bool (br (pr.eq (pr.ar .and .i64 j4 2) 0) false true)),(.bool (br (pr.eq (pr.ar .and .i64 j4 4) 0) false true)),(.int .i64 qu)]),(.bool true)]),[.undef])))) none) none)))))) none)) none))))))))))))) none)))))))))))))):=by kernel_rfl
theorem nE (n0:Nat) (c1:List D) (i2:Int) (b3:Bool) (b4:Bool) (b5:Bool) (i6:Int) (n7:Nat) (c8:List D) (i9:Int) (jr:Bool) (eS:Nat) (fk:List D) (lV:Nat) (mV:List D) (lN:Bool) (sw:Bool) (tb:Bool) (i18:Int):bR pr cv J 113 Try.f113 [.undef] 0 (gV n0 c1 i2 b3 b4 b5 i6 n7 c8 i9 jr eS fk lV mV lN sw tb i18)=
 let y1:List D:=[(.aN [(.sl (some false) 1 n7 (ef false c8)),(.int .i64 i9),(.bool jr)])]
 let y2:Option (D × List D):=(some ((.aZ [(.agg [(.sl none 1 0 []),(.sl none 1 0 []),(.bool false),(.bool false),(.bool false),(.int .i64 0)]),(.bool false)]),[.undef]))
 (br (pr.lt i2 3) (cv 123 y1 (.sl (fun eC=>(fun dq=>(.jD (fun iy=>(fun yQ=>(fun qj=>(.int (fun pD=>(.bool (fun sm=>(.done (br (br (br (pr.nl dq) true false) (br (br (pr.nl qj) true false) true false) false) (br (pr.fits (lV+1) 24) (J 0 (gV n0 c1 (pr.ar .add .i64 i2 1) b3 b4 b5 i6 yQ (ef true qj) pD sm eS fk (lV+1) (List.append mV [(.sl none 1 eC (ef true dq))]) lN sw tb i18)) none) none)))))))))))))) (cv 124 y1 (.int (fun j4=>(.jD (fun SB=>(fun IY=>(fun kX=>(.int (fun ym=>(.bool (fun DF=>(.done (br (br (br (pr.nl kX) true false) true false) (cv 124 [(.aN [(.sl (some false) 1 IY (ef false (ef true kX))),(.int .i64 ym),(.bool DF)])] (.int (fun qu=>(.jD (fun VH=>(fun VI=>(fun DG=>(.int (fun VJ=>(.bool (fun DH=>(.done (br (br (br (pr.nl DG) true false) true false) (br (br DH false true) y2 (br (pr.rm c1) (cv 118 [(.agg [(.sl (some true) 1 eS (bP true fk)),(.sl (some true) 1 lV (bP true mV)),(.bool (br (pr.eq (pr.ar .and .i64 j4 1) 0) false true)),(.bool (br (pr.eq (pr.ar .and .i64 j4 2) 0) false true)),(.bool (br (pr.eq (pr.ar .and .i64 j4 4) 0) false true)),(.int .i64 qu)])] (.sl (fun Av=>(fun mN=>(.done (br (br (br (pr.nl mN) true false) true false) (br (pr.rm mN) (br (br (pr.seq (pr.zW mN) (pr.zW c1)) false true) y2 (br (pr.eq (pr.bc n0) 0) y2 (some ((.aZ [(.agg [(.sl none 1 eS fk),(.sl none 1 lV mV),(.bool (br (pr.eq (pr.ar .and .i64 j4 1) 0) false true)),(.bool (br (pr.eq (pr.ar .and .i64 j4 2) 0) false true)),(.bool (br (pr.eq (pr.ar .and .i64 j4 4) 0) false true)),(.int .i64 qu)]),(.bool true)]),[.undef])))) none) none)))))) none)) none))))))))))))) none)))))))))))))):=by kernel_rfl
def qv (n0:Nat) (c1:List D) (i2:Int) (b3:Bool) (b4:Bool) (b5:Bool) (i6:Int) (n7:Nat) (c8:List D) (i9:Int) (jr:Bool) (eS:Nat) (fk:List D) (FV:Bool) (u6:Bool) (lN:Bool) (i16:Int):St:=(St.mk [(0,(.sl (some true) 1 n0 c1)),(2,(.ptr 2 [] 0)),(4,(.ptr 11 [] 0)),(5,(.ptr 5 [] 0)),(16,(.int .i64 i2))] [(2,[(.nil 1),(.nil 1),(.bool b3),(.bool b4),(.bool b5),(.int .i64 i6)]),(11,[(.sl (some true) 1 n7 c8),(.int .i64 i9),(.bool jr)]),(5,[(.sl none 1 eS fk),(.nil 1),(.bool FV),(.bool u6),(.bool lN),(.int .i64 i16)])] [] 0)
def gW (n0:Nat) (c1:List D) (i2:Int) (b3:Bool) (b4:Bool) (b5:Bool) (i6:Int) (n7:Nat) (c8:List D) (i9:Int) (jr:Bool) (eS:Nat) (fk:List D) (lV:Nat) (mV:List D) (lN:Bool) (sw:Bool) (tb:Bool) (i18:Int):St:=(St.mk [(0,(.sl (some true) 1 n0 c1)),(2,(.ptr 2 [] 0)),(4,(.ptr 11 [] 0)),(5,(.ptr 5 [] 0)),(16,(.int .i64 i2))] [(2,[(.nil 1),(.nil 1),(.bool b3),(.bool b4),(.bool b5),(.int .i64 i6)]),(11,[(.sl (some true) 1 n7 c8),(.int .i64 i9),(.bool jr)]),(5,[(.sl none 1 eS fk),(.sl none 1 lV mV),(.bool lN),(.bool sw),(.bool tb),(.int .i64 i18)])] [] 0)
theorem J9:Told cfg Try.prog 125 Try.f125:=⟨by kernel_rfl,Try.func125,by kernel_rfl⟩
theorem Ka (n0:Nat) (c0:List D):aR pr cv J 125 Try.f125 [(.sl (some true) 1 n0 c0)]=
 (cv 133 [(.aN [(.sl (some false) 1 n0 (ef false c0)),(.int .i64 0),(.bool true)])] (.sl (fun eC=>(fun dq=>(.jD (fun iy=>(fun yQ=>(fun qj=>(.int (fun pD=>(.bool (fun sm=>(.done (br (br (br (pr.nl dq) true false) (br (br (pr.nl qj) true false) true false) false) (J 0 (qv n0 c0 0 false false false 0 yQ (ef true qj) pD sm eC (ef true dq) false false false 0)) none)))))))))))))):=by kernel_rfl
theorem DI (n0:Nat) (c1:List D) (i2:Int) (b3:Bool) (b4:Bool) (b5:Bool) (i6:Int) (n7:Nat) (c8:List D) (i9:Int) (jr:Bool) (eS:Nat) (fk:List D) (FV:Bool) (u6:Bool) (lN:Bool) (i16:Int):bR pr cv J 125 Try.f125 [.undef] 0 (qv n0 c1 i2 b3 b4 b5 i6 n7 c8 i9 jr eS fk FV u6 lN i16)=
 let y1:List D:=[(.aN [(.sl (some false) 1 n7 (ef false c8)),(.int .i64 i9),(.bool jr)])]
 let y2:Option (D × List D):=(some ((.aZ [(.agg [(.sl none 1 0 []),(.sl none 1 0 []),(.bool false),(.bool false),(.bool false),(.int .i64 0)]),(.bool false)]),[.undef]))
 (br (pr.lt i2 3) (cv 133 y1 (.sl (fun eC=>(fun dq=>(.jD (fun iy=>(fun yQ=>(fun qj=>(.int (fun pD=>(.bool (fun sm=>(.done (br (br (br (pr.nl dq) true false) (br (br (pr.nl qj) true false) true false) false) (br (pr.fits 1 24) (J 0 (gW n0 c1 (pr.ar .add .i64 i2 1) b3 b4 b5 i6 yQ (ef true qj) pD sm eS fk 1 [(.sl none 1 eC (ef true dq))] FV u6 lN i16)) none) none)))))))))))))) (cv 134 y1 (.int (fun j4=>(.jD (fun SB=>(fun IY=>(fun kX=>(.int (fun ym=>(.bool (fun DF=>(.done (br (br (br (pr.nl kX) true false) true false) (cv 134 [(.aN [(.sl (some false) 1 IY (ef false (ef true kX))),(.int .i64 ym),(.bool DF)])] (.int (fun qu=>(.jD (fun VH=>(fun VI=>(fun DG=>(.int (fun VJ=>(.bool (fun DH=>(.done (br (br (br (pr.nl DG) true false) true false) (cv 130 [(.agg [(.sl (some true) 1 eS (bP true fk)),(.sl (some true) 1 0 []),(.bool (br (pr.eq (pr.ar .and .i64 j4 1) 0) false true)),(.bool (br (pr.eq (pr.ar .and .i64 j4 2) 0) false true)),(.bool (br (pr.eq (pr.ar .and .i64 j4 4) 0) false true)),(.int .i64 qu)])] (.sl (fun Av=>(fun mN=>(.done (br (br (br (pr.nl mN) true false) true false) (br (br DH false true) y2 (br (pr.eq (pr.bc Av) 0) y2 (cv 126 [(.sl (some true) 1 Av (bP true mN)),(.sl (some true) 1 n0 c1)] (.bool (fun VK=>(.done (br (br VK false true) y2 (some ((.aZ [(.agg [(.sl none 1 eS fk),(.sl none 1 0 []),(.bool (br (pr.eq (pr.ar .and .i64 j4 1) 0) false true)),(.bool (br (pr.eq (pr.ar .and .i64 j4 2) 0) false true)),(.bool (br (pr.eq (pr.ar .and .i64 j4 4) 0) false true)),(.int .i64 qu)]),(.bool true)]),[.undef]))))))))) none)))))) none))))))))))))) none)))))))))))))):=by kernel_rfl
theorem nF (n0:Nat) (c1:List D) (i2:Int) (b3:Bool) (b4:Bool) (b5:Bool) (i6:Int) (n7:Nat) (c8:List D) (i9:Int) (jr:Bool) (eS:Nat) (fk:List D) (lV:Nat) (mV:List D) (lN:Bool) (sw:Bool) (tb:Bool) (i18:Int):bR pr cv J 125 Try.f125 [.undef] 0 (gW n0 c1 i2 b3 b4 b5 i6 n7 c8 i9 jr eS fk lV mV lN sw tb i18)=
 let y1:List D:=[(.aN [(.sl (some false) 1 n7 (ef false c8)),(.int .i64 i9),(.bool jr)])]
 let y2:Option (D × List D):=(some ((.aZ [(.agg [(.sl none 1 0 []),(.sl none 1 0 []),(.bool false),(.bool false),(.bool false),(.int .i64 0)]),(.bool false)]),[.undef]))
 (br (pr.lt i2 3) (cv 133 y1 (.sl (fun eC=>(fun dq=>(.jD (fun iy=>(fun yQ=>(fun qj=>(.int (fun pD=>(.bool (fun sm=>(.done (br (br (br (pr.nl dq) true false) (br (br (pr.nl qj) true false) true false) false) (br (pr.fits (lV+1) 24) (J 0 (gW n0 c1 (pr.ar .add .i64 i2 1) b3 b4 b5 i6 yQ (ef true qj) pD sm eS fk (lV+1) (List.append mV [(.sl none 1 eC (ef true dq))]) lN sw tb i18)) none) none)))))))))))))) (cv 134 y1 (.int (fun j4=>(.jD (fun SB=>(fun IY=>(fun kX=>(.int (fun ym=>(.bool (fun DF=>(.done (br (br (br (pr.nl kX) true false) true false) (cv 134 [(.aN [(.sl (some false) 1 IY (ef false (ef true kX))),(.int .i64 ym),(.bool DF)])] (.int (fun qu=>(.jD (fun VH=>(fun VI=>(fun DG=>(.int (fun VJ=>(.bool (fun DH=>(.done (br (br (br (pr.nl DG) true false) true false) (cv 130 [(.agg [(.sl (some true) 1 eS (bP true fk)),(.sl (some true) 1 lV (bP true mV)),(.bool (br (pr.eq (pr.ar .and .i64 j4 1) 0) false true)),(.bool (br (pr.eq (pr.ar .and .i64 j4 2) 0) false true)),(.bool (br (pr.eq (pr.ar .and .i64 j4 4) 0) false true)),(.int .i64 qu)])] (.sl (fun Av=>(fun mN=>(.done (br (br (br (pr.nl mN) true false) true false) (br (br DH false true) y2 (br (pr.eq (pr.bc Av) 0) y2 (cv 126 [(.sl (some true) 1 Av (bP true mN)),(.sl (some true) 1 n0 c1)] (.bool (fun VK=>(.done (br (br VK false true) y2 (some ((.aZ [(.agg [(.sl none 1 eS fk),(.sl none 1 lV mV),(.bool (br (pr.eq (pr.ar .and .i64 j4 1) 0) false true)),(.bool (br (pr.eq (pr.ar .and .i64 j4 2) 0) false true)),(.bool (br (pr.eq (pr.ar .and .i64 j4 4) 0) false true)),(.int .i64 qu)]),(.bool true)]),[.undef]))))))))) none)))))) none))))))))))))) none)))))))))))))):=by kernel_rfl
end
theorem M3 (x:UInt8):byteOf (eM x)=some x:=by
 have:=x.toNat_lt;simp [eM,byteOf]
theorem yv:∀ xs:List UInt8,kT byteOf (bytes xs)=some xs
 | []=>rfl
 | x::xs=>by
  have h:=yv xs;simp only [bytes] at h;simp only [bytes,aa0,kT,M3,h]
theorem DJ {R:Type} {x y:R} (xs:List UInt8):br (U.rm (bytes xs)) x y=x:=by
 have:U.rm (bytes xs)=true:=by
  show (kT byteOf (bytes xs)).isSome=true;rw [yv];rfl
 rw [this,aG]
theorem M4 (xs:List UInt8):U.zW (bytes xs)=bs xs:=by
 show (⟨((kT byteOf (bytes xs)).getD []).toArray⟩:ByteArray)=bs xs;rw [yv];rfl
theorem M5 (xs ys:List UInt8):U.seq (bs xs) (bs ys)=decide (xs=ys):=by
 show ((bs xs).toList==(bs ys).toList)=_;rw [ByteArray.toList_eq,ByteArray.toList_eq];show (xs==ys)=_;by_cases h:xs=ys<;>simp [h]
theorem M6 (g h:Bool) (xs ys:List UInt8):Cm 126 [.sl (some g) 1 xs.length (bytes xs),.sl (some h) 1 ys.length (bytes ys)] (.bool (decide (xs=ys)),[.undef,.undef]):=by
 refine Cm.fin JQ fun J=>?_;rw [JR];simp only [DJ,M4,M5]
theorem AG (g h:Bool) (xs ys:List UInt8) (t:bE Rz):aL 126 [.sl (some g) 1 xs.length (bytes xs),.sl (some h) 1 ys.length (bytes ys)] t=feed t [.bool (decide (xs=ys))]:=aX (M6 g h xs ys) (by kernel_rfl) t
theorem jv (b:Bool):∀ xs:List Int,ef b (ints xs)=ints xs
 | []=>rfl
 | x::xs=>by
  have h:=jv b xs;simp only [ints] at h;simp only [ints,aa0,ef,ij,h]
theorem gh (b:Bool):∀ xs:List UInt8,ef b (bytes xs)=bytes xs
 | []=>rfl
 | x::xs=>by
  have h:=gh b xs;simp only [bytes] at h;simp only [bytes,aa0,ef,ij,eM,h]
theorem I6 (b:List UInt8) (p:Nat):∀ k i acc,(iF b p k i acc).2.2=false->iF b p k i acc=lr
 | 0,_,_,_=>rfl
 | k+1,i,acc,h=>by
  rw [iF] at h ⊢;split at h
  ·rename_i h1;rw [dif_pos h1];split at h
   ·rename_i h2;rw [if_pos h2];exact I6 b p k _ _ h
   ·rename_i h2;rw [if_neg h2];split at h
    ·rename_i h3;rw [if_pos h3]
    ·simp at h
  ·rename_i h1;rw [dif_neg h1]
theorem TA (b:List UInt8) (a:Int) (h:(hD b a).2.2=false):hD b a=lr:=by
 unfold hD at h ⊢;split at h
 ·rename_i h1;rw [if_pos h1]
 ·rename_i h1;rw [if_neg h1];exact I6 b _ _ _ _ h
def FW (c c':Int × Bool):Prop:=c.2=c'.2/\(c.2=true->c.1=c'.1)
theorem BB (b:List UInt8) {c c':Int × Bool} (h:FW c c'):(bB b c).1=(bD b c').1/\FW (bB b c).2 (bD b c').2:=by
 obtain ⟨p,q⟩:=c;obtain ⟨p',q'⟩:=c';obtain ⟨h1,h2⟩:=h;simp only at h1 h2;subst h1;cases q with
 | false=>exact ⟨by simp [bB,bD],by simp [bB,bD,FW]⟩
 | true=>
  have:=h2 rfl;subst this;cases hg:(hD b p).2.2 with
  | true=>exact ⟨by simp [bB,bD,hg],by simp [bB,bD,FW,hg]⟩
  | false=>
   have:=TA b p hg;exact ⟨by simp [bB,bD,this,lr],by simp [bB,bD,FW,this,lr]⟩
theorem TB (b:List UInt8):∀ (k:Nat) {c c':Int × Bool} (out:List Int),FW c c'->(nC bB b k c out).1=(nC bD b k c' out).1/\FW (nC bB b k c out).2 (nC bD b k c' out).2
 | 0,_,_,_,h=>⟨rfl,h⟩
 | k+1,c,c',out,h=>by
  simp only [nC];rw [<- h.1];cases hc:c.2 with
  | false=>exact ⟨rfl,h⟩
  | true=>
   have hn:=BB b h;simp only [if_true];rw [hn.1];exact TB b k _ hn.2
theorem yw (b:List UInt8) {c c':Int × Bool} (h:FW c c'):(aM bB b c).1=(aM bD b c').1/\FW (aM bB b c).2 (aM bD b c').2:=by
 have hn:=BB b h;unfold aM;rw [hn.1];exact TB b _ _ hn.2
def TC (num:List UInt8->Int × Bool->Int × (Int × Bool)):Prop:=∀ b p q,(num b (p,q)).2.2=true->0<=p/\p < (num b (p,q)).2.1/\(num b (p,q)).2.1<=b.length
theorem XS:TC bB:=by
 intro b p q h;unfold bB at h ⊢;split at h
 ·rename_i h1;rw [if_pos h1];simp only [D8] at h1;exact I2 b p h1.1
 ·simp at h
theorem adt:TC bD:=by
 intro b p q h;unfold bD at h ⊢;cases q with
 | true=>exact I2 b p h
 | false=>simp at h
theorem I7 {num:List UInt8->Int × Bool->Int × (Int × Bool)} (hf:TC num) (b:List UInt8):∀ (k:Nat) (p:Int) (q:Bool) (out:List Int),(nC num b k (p,q) out).1.length<=out.length+(if q then ((b.length:Int) - p).toNat+1 else 0)
 | 0,_,_,_=>by simp [nC]
 | k+1,p,q,out=>by
  cases q with
  | false=>simp [nC]
  | true=>
   simp only [nC,if_true];have ih:=I7 hf b k (num b (p,true)).2.1 (num b (p,true)).2.2 (out++[(num b (p,true)).1]);cases hq:(num b (p,true)).2.2 with
   | false=>
    rw [hq] at ih;simp only [aab,abp] at ih;have e:(num b (p,true)).2=((num b (p,true)).2.1,false):=Prod.ext rfl hq;rw [e];simp only [aal,if_false] at ih;omega
   | true=>
    have h:=hf b p true hq;rw [hq] at ih;simp only [aab,abp,if_true] at ih;have e:(num b (p,true)).2=((num b (p,true)).2.1,true):=Prod.ext rfl hq;rw [e];omega
theorem CB {num:List UInt8->Int × Bool->Int × (Int × Bool)} (hf:TC num) (b:List UInt8) (c:Int × Bool):(aM num b c).1.length<=b.length+1:=by
 have h:=I7 hf b (num b c).1.toNat (num b c).2.1 (num b c).2.2 [];unfold aM;obtain ⟨p,q⟩:=c;cases hq:(num b (p,q)).2.2 with
 | false=>
  rw [hq] at h;have e:(num b (p,q)).2=((num b (p,q)).2.1,false):=Prod.ext rfl hq;rw [e];simp only [aal,if_false,acd] at h;omega
 | true=>
  have h1:=hf b p q hq;rw [hq] at h;have e:(num b (p,q)).2=((num b (p,q)).2.1,true):=Prod.ext rfl hq;rw [e];simp only [if_true,acd] at h;omega
def fK (x k:Int):Bool:=!(U.eq (U.ar .and .i64 x k) 0)
def my (num:List UInt8->Int × Bool->Int × (Int × Bool)) (b:List UInt8):aE × Bool:=
 let r0:=aM num b (0,true)
 let r1:=aM num b r0.2
 let r2:=aM num b r1.2
 let r3:=aM num b r2.2
 let x:=num b r3.2
 let y:=num b x.2
 (⟨r0.1,[r1.1,r2.1,r3.1],fK x.1 1,fK x.1 2,fK x.1 4,y.1⟩,y.2.2)
def ek:aE:=⟨[],[],false,false,false,0⟩
def dT (b:List UInt8):aE × Bool:=if (my bB b).2&&(decide (cw (my bB b).1=b)&&!b.isEmpty) then ((my bB b).1,true) else (ek,false)
theorem VL (b:List UInt8):my bB b=my bD b:=by
 have h0:=yw b (c:=(0,true)) (c':=(0,true)) ⟨rfl,fun _=>rfl⟩;have h1:=yw b h0.2;have h2:=yw b h1.2;have h3:=yw b h2.2;have h4:=BB b h3.2;have h5:=BB b h4.2;simp only [my];rw [h0.1,h1.1,h2.1,h3.1,h4.1,h5.1,h5.2.1]
theorem DK {num:List UInt8->Int × Bool->Int × (Int × Bool)} (hf:TC num) (b:List UInt8) (hb:b.length<=1000000):cz (my num b).1:=by
 refine ⟨?_,?_,?_⟩
 ·have:=CB hf b (0,true);simp only [my];omega
 ·simp [my]
 ·intro xs hx;simp only [my,aaZ,List.not_mem_nil,or_false] at hx;rcases hx with rfl | rfl | rfl
  all_goals exact adQ (CB hf b _) (by omega)
theorem M7 (x k:Int):(!(U.eq (U.ar .and .i64 x k) 0))=fK x k:=rfl
abbrev FX (r:aE × Bool):Rz:=(.aZ [.agg (bK none r.1),.bool r.2],[.undef])
theorem Kb (b:List UInt8) (hb:b.length<=1000000):Cm 113 [.sl (some true) 1 b.length (bytes b)] (FX (dT b)):=by
 have w3:∀ (c:Int × Bool) (aK x1 x2 x3:List Int),my bB b=(⟨aK,[x1,x2,x3],fK (bB b c).1 1,fK (bB b c).1 2,fK (bB b c).1 4,(bB b (bB b c).2).1⟩,(bB b (bB b c).2).2.2)->WP 113 Try.f113 [.undef] 0 (gV b.length (bytes b) 3 false false false 0 b.length (bytes b) c.1 c.2 aK.length (ints aK) 3 (rows none [x1,x2,x3]) false false false 0) (FX (dT b)):=by
  intro c aK x1 x2 x3 hp;have cH:=DK XS b hb;refine WP.fin fun J=>?_;rw [nE];unfold dT;rw [hp] at cH ⊢;have hv:=u4 (g:=true) (m:=⟨aK,[x1,x2,x3],fK (bB b c).1 1,fK (bB b c).1 2,fK (bB b c).1 4,(bB b (bB b c).2).1⟩) (hm:=cH);have lS:∀ t:bE Rz,aL 118 [.agg [.sl (some true) 1 aK.length (ints aK),.sl (some true) 1 3 (rows (some true) [x1,x2,x3]),.bool (fK (bB b c).1 1),.bool (fK (bB b c).1 2),.bool (fK (bB b c).1 4),.int .i64 (bB b (bB b c).2).1]] t=_:=hv;simp (disch:=first | omega | assumption) only [bo,gh,yt,cy,gQ,aF,aq,eR,aG,ba,bl,M7,gu,gZ,DJ,lS,dv,M4,M5]
  generalize (bB b (bB b c).2).2.2=q1;generalize cw _=l;cases q1 with
  | false=>rfl
  | true=>
   by_cases h1:l=b
   ·subst h1;cases l with
    | nil=>simp [br,U,ek,rows,ints]
    | cons a l=>
     simp only [bO,aG,decide_true];rw [dV (by simp only [aB,abc]; omega)]
     simp [ek]
   ·simp [br,h1,ek,rows,ints]
 have w2:=WP.go (f:=113) (fn:=Try.f113) (sk:=[.undef]) (j:=0) (h:=gV b.length (bytes b) 2 false false false 0 b.length (bytes b) (aM bB b (aM bB b (aM bB b (0,true)).2).2).2.1 (aM bB b (aM bB b (aM bB b (0,true)).2).2).2.2 (aM bB b (0,true)).1.length (ints (aM bB b (0,true)).1) 2 (rows none [(aM bB b (aM bB b (0,true)).2).1,(aM bB b (aM bB b (aM bB b (0,true)).2).2).1]) false false false 0) _ (w3 (aM bB b (aM bB b (aM bB b (aM bB b (0,true)).2).2).2).2 (aM bB b (0,true)).1 (aM bB b (aM bB b (0,true)).2).1 (aM bB b (aM bB b (aM bB b (0,true)).2).2).1 (aM bB b (aM bB b (aM bB b (aM bB b (0,true)).2).2).2).1 rfl) fun J hJ=>by
  rw [nE];simp (disch:=first | omega | assumption) only [aP,gh,jv,rH,dv,cy,gQ,aF,aq,eR,kq,aG,ba,fj]
  exact hJ
 have w1:=WP.go (f:=113) (fn:=Try.f113) (sk:=[.undef]) (j:=0) (h:=gV b.length (bytes b) 1 false false false 0 b.length (bytes b) (aM bB b (aM bB b (0,true)).2).2.1 (aM bB b (aM bB b (0,true)).2).2.2 (aM bB b (0,true)).1.length (ints (aM bB b (0,true)).1) 1 (rows none [(aM bB b (aM bB b (0,true)).2).1]) false false false 0) _ w2 fun J hJ=>by
  rw [nE];simp (disch:=first | omega | assumption) only [aP,gh,jv,rH,dv,cy,gQ,aF,aq,eR,kq,aG,ba,fj]
  exact hJ
 have w0:=WP.go (f:=113) (fn:=Try.f113) (sk:=[.undef]) (j:=0) (h:=qt b.length (bytes b) 0 false false false 0 b.length (bytes b) (aM bB b (0,true)).2.1 (aM bB b (0,true)).2.2 (aM bB b (0,true)).1.length (ints (aM bB b (0,true)).1) false false false 0) _ w1 fun J hJ=>by
  rw [DE];simp (disch:=first | omega | assumption) only [aP,gh,jv,rH,dv,cy,gQ,aF,aq,eR,kq,aG,ba,fj]
  exact hJ
 refine Cm.go J7 [.undef] 0 _ w0 fun J hJ=>?_;rw [J8];simp (disch:=first | omega | assumption) only [gh,jv,rH,dv,cy,gQ,aF,aq,eR,kq,aG,ba]
 exact hJ
theorem Kc (b:List UInt8) (hb:b.length<=1000000):Cm 125 [.sl (some true) 1 b.length (bytes b)] (FX (dT b)):=by
 have w3:∀ (c:Int × Bool) (aK x1 x2 x3:List Int),my bD b=(⟨aK,[x1,x2,x3],fK (bD b c).1 1,fK (bD b c).1 2,fK (bD b c).1 4,(bD b (bD b c).2).1⟩,(bD b (bD b c).2).2.2)->WP 125 Try.f125 [.undef] 0 (gW b.length (bytes b) 3 false false false 0 b.length (bytes b) c.1 c.2 aK.length (ints aK) 3 (rows none [x1,x2,x3]) false false false 0) (FX (dT b)):=by
  intro c aK x1 x2 x3 hp;have cH:=DK adt b hb;refine WP.fin fun J=>?_;rw [nF];unfold dT;rw [VL,hp];rw [hp] at cH;have hv:=u5 (g:=true) (m:=⟨aK,[x1,x2,x3],fK (bD b c).1 1,fK (bD b c).1 2,fK (bD b c).1 4,(bD b (bD b c).2).1⟩) (hm:=cH);have lS:∀ t:bE Rz,aL 130 [.agg [.sl (some true) 1 aK.length (ints aK),.sl (some true) 1 3 (rows (some true) [x1,x2,x3]),.bool (fK (bD b c).1 1),.bool (fK (bD b c).1 2),.bool (fK (bD b c).1 4),.int .i64 (bD b (bD b c).2).1]] t=_:=hv;simp (disch:=first | omega | assumption) only [bo,gh,yu,cy,gQ,aF,aq,eR,aG,ba,bl,M7,gu,gZ,gg,lS,dv,AG]
  generalize (bD b (bD b c).2).2.2=q1;generalize cw _=l;cases q1 with
  | false=>rfl
  | true=>
   by_cases h1:l=b
   ·subst h1;cases l with
    | nil=>simp [br,U,ek,rows,ints]
    | cons a l=>
     simp only [bO,aG,decide_true];rw [dV (by simp only [aB,abc]; omega)]
     simp [ek]
   ·cases U.eq (U.bc l.length) 0<;>simp [br,h1,ek,rows,ints]
 have w2:=WP.go (f:=125) (fn:=Try.f125) (sk:=[.undef]) (j:=0) (h:=gW b.length (bytes b) 2 false false false 0 b.length (bytes b) (aM bD b (aM bD b (aM bD b (0,true)).2).2).2.1 (aM bD b (aM bD b (aM bD b (0,true)).2).2).2.2 (aM bD b (0,true)).1.length (ints (aM bD b (0,true)).1) 2 (rows none [(aM bD b (aM bD b (0,true)).2).1,(aM bD b (aM bD b (aM bD b (0,true)).2).2).1]) false false false 0) _ (w3 (aM bD b (aM bD b (aM bD b (aM bD b (0,true)).2).2).2).2 (aM bD b (0,true)).1 (aM bD b (aM bD b (0,true)).2).1 (aM bD b (aM bD b (aM bD b (0,true)).2).2).1 (aM bD b (aM bD b (aM bD b (aM bD b (0,true)).2).2).2).1 rfl) fun J hJ=>by
  rw [nF];simp (disch:=first | omega | assumption) only [aP,gh,jv,rI,dv,cy,gQ,aF,aq,eR,kq,aG,ba,fj]
  exact hJ
 have w1:=WP.go (f:=125) (fn:=Try.f125) (sk:=[.undef]) (j:=0) (h:=gW b.length (bytes b) 1 false false false 0 b.length (bytes b) (aM bD b (aM bD b (0,true)).2).2.1 (aM bD b (aM bD b (0,true)).2).2.2 (aM bD b (0,true)).1.length (ints (aM bD b (0,true)).1) 1 (rows none [(aM bD b (aM bD b (0,true)).2).1]) false false false 0) _ w2 fun J hJ=>by
  rw [nF];simp (disch:=first | omega | assumption) only [aP,gh,jv,rI,dv,cy,gQ,aF,aq,eR,kq,aG,ba,fj]
  exact hJ
 have w0:=WP.go (f:=125) (fn:=Try.f125) (sk:=[.undef]) (j:=0) (h:=qv b.length (bytes b) 0 false false false 0 b.length (bytes b) (aM bD b (0,true)).2.1 (aM bD b (0,true)).2.2 (aM bD b (0,true)).1.length (ints (aM bD b (0,true)).1) false false false 0) _ w1 fun J hJ=>by
  rw [DI];simp (disch:=first | omega | assumption) only [aP,gh,jv,rI,dv,cy,gQ,aF,aq,eR,kq,aG,ba,fj]
  exact hJ
 refine Cm.go J9 [.undef] 0 _ w0 fun J hJ=>?_;rw [Ka];simp (disch:=first | omega | assumption) only [gh,jv,rI,dv,cy,gQ,aF,aq,eR,kq,aG,ba]
 exact hJ
theorem AH (b:List UInt8) (hb:b.length<=1000000):cz (dT b).1:=by
 unfold dT;split
 ·exact DK XS b hb
 ·exact ⟨by simp [ek],by simp [ek],by simp [ek]⟩
set_option maxRecDepth 100000
theorem WP.step {f:FuncId} {fn:Func} {sk:List D} {j:Nat} {h:St} {r:Rz} (ht:∀ J:Nat->St->Option Rz,(∀ j' h',WP f fn sk j' h' r->J j' h'=some r)->bR U aL J f fn sk j h=some r):WP f fn sk j h r:=W.step uM ht
theorem Cm.step {f:FuncId} {fn:Func} {r:Rz} (ok:Told cfg Try.prog f fn) (sk:List D) {args:List D} (ht:∀ J:Nat->St->Option Rz,(∀ j' h',WP f fn sk j' h' r->J j' h'=some r)->aR U aL J f fn args=some r) (yI:args.map qi=sk:=by rfl):Cm f args r:=by subst yI; exact Comes.step uM ok ht
section
variable {R:Type} {x y:R}
def tick (n:Nat):Nat:=n+1
@[go_sem] theorem ahY:tick 0=1:=by unfold tick; omega
@[congr] theorem afA {c c':Bool} {z:Nat} (h:c=c') (_:tick 0=z):br c x y=br c' x y:=by rw [h]
@[congr] theorem afB {g:FuncId} {ds ds':List D} {t:bE Rz} {z:Nat} (h:ds=ds') (_:tick 0=z):aL g ds t=aL g ds' t:=by rw [h]
@[congr] theorem adu {t:bE R} {l l':List D} {z:Nat} (h:l=l') (_:tick 0=z):feed t l=feed t l':=by rw [h]
attribute [go_sem ↓] aG aY
@[go_sem ↓] theorem ahZ (a b c:Bool) (x y:R):br (br a b c) x y=br a (br b x y) (br c x y):=by cases a<;>rfl
@[go_sem ↓] theorem ajc (b:Bool) (x y:R):br (!b) x y=br b y x:=by cases b<;>rfl
@[go_sem] theorem afC {p:Prop} [Decidable p] (h:p):br (decide p) x y=x:=by rw [decide_eq_true h]; rfl
@[go_sem] theorem afD {p:Prop} [Decidable p] (h:¬p):br (decide p) x y=y:=by rw [decide_eq_false h]; rfl
theorem Ph {b:Bool} {r:R} (h1:b=true->x=r) (h2:b=false->y=r):br b x y=r:=by cases b with | true=>exact h1 rfl | false=>exact h2 rfl
theorem ed {p:Prop} [Decidable p] {r:R} (h1:p->x=r) (h2:¬p->y=r):br (decide p) x y=r:=by
 by_cases h:p
 ·rw [afC h]; exact h1 h
 ·rw [afD h]; exact h2 h
theorem qw {b:Bool} {r:R} (h1:b=true->x=r) (h2:¬b=true->y=r):br b x y=r:=by cases b with | true=>exact h1 rfl | false=>exact h2 (by simp)
end
theorem WP.up {f:FuncId} {fn:Func} {sk:List D} {j:Nat} {r:Rz} {H:Nat->St} (n:Nat) (inv:Nat->Prop) (hs:∀ i,i<=n->inv i->∀ J:Nat->St->Option Rz,(∀ j' h',WP f fn sk j' h' r->J j' h'=some r)->(i < n->inv (i+1)->J j (H (i+1))=some r)->bR U aL J f fn sk j (H i)=some r):∀ i,i<=n->inv i->WP f fn sk j (H i) r:=by
 have key:∀ k i,i+k=n->inv i->WP f fn sk j (H i) r:=by
  intro k
  induction k with
  | zero=>intro i hi hv; exact WP.step fun J hJ=>hs i (by omega) hv J hJ (fun h=>absurd h (by omega))
  | succ k ih=>intro i hi hv; exact WP.step fun J hJ=>hs i (by omega) hv J hJ (fun _ h=>hJ _ _ (ih (i+1) (by omega) h))
 exact fun i hi hv=>key (n - i) i (by omega) hv
section
variable {R:Type}
@[go_sem ↓] theorem ah0 (x:Option R) (l:List D):feed (.done x) l=x:=rfl
@[go_sem ↓] theorem ajd (f:Int->bE R) (k:IntKind) (n:Int) (l:List D):feed (.int f) (.int k n::l)=feed (f n) l:=rfl
@[go_sem ↓] theorem ah1 (f:Bool->bE R) (b:Bool) (l:List D):feed (.bool f) (.bool b::l)=feed (f b) l:=rfl
@[go_sem ↓] theorem aje (f:ByteArray->bE R) (s:ByteArray) (l:List D):feed (.str f) (.str s::l)=feed (f s) l:=rfl
@[go_sem ↓] theorem akJ (f:Nat->List D->bE R) (s n:Nat) (cs l:List D):feed (.sl f) (.sl none s n cs::l)=feed (f n cs) l:=rfl
@[go_sem ↓] theorem ajf (f:Bool->Nat->List D->bE R) (g:Bool) (s n:Nat) (cs l:List D):feed (.jD f) (.sl (some g) s n cs::l)=feed (f g n cs) l:=rfl
end
@[go_sem ↓] theorem akK (k:eP) (f:k.T->bE Rz) (x:k.T) (l:List D):feed (.ty k f) (enc k x::l)=feed (f x) l:=OU k f x l
attribute [go_sem] enc
@[go_sem ↓] theorem akL (ys:List D) (t:bE Rz):aL 999999 [.sl none 0 0 ys] t=feed t [.sl none 0 0 ys]:=wE ys t
@[go_sem] theorem aE.eta (m:aE):(⟨m.aK,m.bits,m.eb,m.bW,m.held,m.last⟩:aE)=m:=rfl
@[go_sem] theorem aA.eta (s:aA):(⟨s.a,s.b⟩:aA)=s:=rfl
@[go_sem] theorem ak.eta (n:ak):(⟨n.id,n.up,n.fm,n.image,n.mt,n.bJ,n.conn,n.sync,n.bC,n.wait⟩:ak)=n:=rfl
@[go_sem] theorem uI.eta (n:uI):(⟨n.kind,n.cell,n.val,n.who,n.aK⟩:uI)=n:=rfl
@[go_sem] theorem qd.eta (n:qd):(⟨n.kind,n.a,n.b⟩:qd)=n:=rfl
@[go_sem] theorem ck.eta (n:ck):(⟨n.nodes,n.cX,n.log,n.safe,n.gen⟩:ck)=n:=rfl
@[go_sem] theorem akM:Int.toNat 2=2:=rfl
@[go_sem] theorem akN:Int.toNat 3=3:=rfl
@[go_sem] theorem akO:Int.toNat 4=4:=rfl
@[go_sem] theorem akP:Int.toNat 5=5:=rfl
@[go_sem] theorem akQ:Int.toNat 6=6:=rfl
@[go_sem] theorem akR:Int.toNat 7=7:=rfl
@[go_sem] theorem akS:Int.toNat 8=8:=rfl
@[go_sem] theorem akT:Int.toNat 9=9:=rfl
@[go_sem] theorem ajg:Int.toNat 10=10:=rfl
@[go_sem] theorem ajh:Int.toNat 11=11:=rfl
@[go_sem] theorem aji:Int.toNat 12=12:=rfl
@[go_sem] theorem ajj:Int.toNat 13=13:=rfl
@[go_sem] theorem ajk:Int.toNat 14=14:=rfl
@[go_sem] theorem ajl:Int.toNat 15=15:=rfl
@[go_sem] theorem ajm:Int.toNat 16=16:=rfl
@[go_sem] theorem ajn:Int.toNat 17=17:=rfl
attribute [go_sem] decide_true decide_false Qq yf aB ack Int.toNat_natCast Int.toNat_zero Int.toNat_one if_true
@[go_sem] theorem akU (a b:Int):U.eq a b=decide (a=b):=by
 show (a==b)=_;rfl
@[go_sem] theorem ajo (a b:Bool):U.beq a b=decide (a=b):=by cases a<;>cases b<;>rfl
@[go_sem] theorem ajp (i:Int) (n:Nat):U.bh i n=decide (0<=i/\i < (n:Int)):=by simp [U]
@[go_sem] theorem ajq (l h:Int) (n:Nat):U.rZ l h n=decide (0<=l/\l<=h/\h<=(n:Int)):=by simp [U,Bool.and_assoc]
@[go_sem] theorem ah2 (n b:Nat):U.fits n b=decide (n*b<=140737488355328):=rfl
@[go_sem] theorem ah3 (l c:Int) (b:Nat):U.mM l c b=decide (0<=l/\l<=c/\c*(b:Int)<=140737488355328):=by simp [U,Bool.and_assoc]
@[go_sem] theorem ajr (a b:Nat):U.neq a b=decide (a=b):=rfl
@[go_sem] theorem ajs (i:Int):U.eE i=i.toNat:=rfl
@[go_sem] theorem ah4 (a b:Int):U.jB a b=a.toNat - b.toNat:=rfl
@[go_sem] theorem ah5 (a:Nat) (i:Int):U.idx a i 1=a+i.toNat:=by show (a+i.toNat)*1=_; omega
@[go_sem] theorem ah6 (n:Nat):Nat.mul n 1=n:=Nat.mul_one n
@[go_sem] theorem ah7 (n:Nat):Nat.mul 0 n=0:=Nat.zero_mul n
@[go_sem] theorem ajt (a b:Bool):br a b false=(a&&b):=by cases a<;>rfl
@[go_sem] theorem akV (a b:Bool):br a true b=(a||b):=by cases a<;>rfl
@[go_sem] theorem aju (xs:List Int) (i:Nat):U.cW .i64 (ints xs) i=decide (i < xs.length):=by
 by_cases h:i < xs.length
 ·simp [U,ints,h,eZ]
 ·simp [U,ints,aaO (adO.1 h),h]
@[go_sem] theorem ah8 (xs:List Int) (i:Nat):U.bT (ints xs) i=xs.getD i 0:=by
 by_cases h:i < xs.length
 ·simp [U,ints,h,uE]
 ·simp [U,ints,aaO (adO.1 h),uE]
@[go_sem] theorem ah9 (xs:List UInt8) (i:Nat):U.cW .u8 (bytes xs) i=decide (i < xs.length):=by
 by_cases h:i < xs.length
 ·simp [U,bytes,eM,h,eZ]
 ·simp [U,bytes,aaO (adO.1 h),h]
@[go_sem] theorem af6 (xs:List UInt8) (i:Nat):U.bT (bytes xs) i=((xs.getD i 0).toNat:Int):=by
 by_cases h:i < xs.length
 ·simp [U,bytes,eM,h,uE]
 ·simp [U,bytes,aaO (adO.1 h),uE]
@[go_sem] theorem ajv (xs:List Bool) (i:Nat):U.eK (aJ xs) i=decide (i < xs.length):=by
 by_cases h:i < xs.length
 ·simp [U,aJ,h]
 ·simp [U,aJ,aaO (adO.1 h),h]
@[go_sem] theorem aia (xs:List Bool) (i:Nat):U.dm (aJ xs) i=xs.getD i false:=by
 by_cases h:i < xs.length
 ·simp [U,aJ,h,Bm]
 ·simp [U,aJ,aaO (adO.1 h),Bm]
@[go_sem] theorem ajw (g:Bool) (xs:List (List Int)) (i:Nat):U.dc 1 (rows (some g) xs) i=decide (i < xs.length):=by
 by_cases h:i < xs.length
 ·simp [U,rows,h]
 ·simp [U,rows,aaO (adO.1 h),h]
@[go_sem] theorem aib {g:Bool} {xs:List (List Int)} {i:Nat} (h:i < xs.length):U.cF (rows (some g) xs) i=g:=iD h
@[go_sem] theorem aic (xs:List (List Int)) (i:Nat):U.jC 1 (rows none xs) i=decide (i < xs.length):=by
 by_cases h:i < xs.length
 ·simp [U,rows,h]
 ·simp [U,rows,aaO (adO.1 h),h]
@[go_sem] theorem ajx (xs:List (List Int)) (i:Nat):U.pC (rows none xs) i=decide (i < xs.length):=by
 by_cases h:i < xs.length
 ·simp [U,rows,h]
 ·simp [U,rows,aaO (adO.1 h),h]
@[go_sem] theorem aid (g:Option Bool) (xs:List (List Int)) (i:Nat):U.bf (rows g xs) i=(xs.getD i []).length:=by
 by_cases h:i < xs.length
 ·simp [U,rows,h,cN]
 ·simp [U,rows,aaO (adO.1 h),cN]
@[go_sem] theorem aie (g:Option Bool) (xs:List (List Int)) (i:Nat):U.bn (rows g xs) i=ints (xs.getD i []):=by
 by_cases h:i < xs.length
 ·simp [U,rows,h,cC]
 ·simp [U,rows,aaO (adO.1 h),cC,ints]
@[go_sem] theorem af7 (xs:List Int) (i:Nat):U.slot (ints xs) i=decide (i < xs.length):=by
 by_cases h:i < xs.length
 ·simp [U,ints,h,gk]
 ·simp [U,ints,aaO (adO.1 h),h]
@[go_sem] theorem af8 (xs:List UInt8) (i:Nat):U.slot (bytes xs) i=decide (i < xs.length):=by
 by_cases h:i < xs.length
 ·simp [U,bytes,eM,h,gk]
 ·simp [U,bytes,aaO (adO.1 h),h]
@[go_sem] theorem af9 (xs:List Bool) (i:Nat):U.slot (aJ xs) i=decide (i < xs.length):=by
 by_cases h:i < xs.length
 ·simp [U,aJ,h,gk]
 ·simp [U,aJ,aaO (adO.1 h),h]
@[go_sem] theorem ajy (xs:List (List Int)):U.nl (rows none xs)=true:=W8 (by simp) xs
attribute [go_sem] kq eR KN ints_set Ak Al su gy gg jk gu gZ jv gh rv M4
@[go_sem] theorem aif (xs:List (List Int)) (i n:Nat) (l:List Int) (h:n=l.length):List.set (rows none xs) i (.sl none 1 n (ints l))=rows none (xs.set i l):=by subst h; exact Dl
@[go_sem] theorem aga (xs:List Int):U.flat (ints xs)=true:=aag.2 (by intro d hd; obtain ⟨a,_,rfl⟩:=aaK.1 hd; rfl)
@[go_sem] theorem agb (xs:List UInt8):U.flat (bytes xs)=true:=aag.2 (by intro d hd; obtain ⟨a,_,rfl⟩:=aaK.1 hd; rfl)
@[go_sem] theorem agc (xs:List Bool):U.flat (aJ xs)=true:=aag.2 (by intro d hd; obtain ⟨a,_,rfl⟩:=aaK.1 hd; rfl)
@[go_sem] theorem aih (xs:List UInt8):U.rm (bytes xs)=true:=by
 have:=DJ (x:=true) (y:=false) xs
 rwa [ba] at this
@[go_sem] theorem ajz (xs ys:List UInt8):U.seq (bs xs) (bs ys)=decide (xs=ys):=M5 xs ys
@[go_sem] theorem acE (xs:List Int) (i:Nat):List.drop i (ints xs)=ints (xs.drop i):=by simp [ints,List.map_drop]
@[go_sem] theorem adv (xs ys:List Int):List.append (ints xs) (ints ys)=ints (xs++ys):=by simp [ints]
@[go_sem] theorem agd (xs:List Int) (x:Int):List.append (ints xs) [D.int .i64 x]=ints (xs++[x]):=by simp [ints]
@[go_sem] theorem afE (xs:List UInt8) (x:UInt8):List.append (bytes xs) [eM x]=bytes (xs++[x]):=by simp [bytes]
@[go_sem] theorem aez (xs:List UInt8):List.append (bytes xs) [D.int .u8 0]=bytes (xs++[0]):=by simp [bytes,eM]
@[go_sem] theorem afF (x:Int):List.append [] [D.int .i64 x]=ints [x]:=rfl
@[go_sem] theorem aeA (x:UInt8):List.append [] [eM x]=bytes [x]:=rfl
@[go_sem] theorem age (x:UInt8):U.flat [eM x]=true:=rfl
@[go_sem] theorem agf (k:IntKind) (x:Int):U.flat [D.int k x]=true:=rfl
@[go_sem] theorem ajA:U.nl []=true:=rfl
@[go_sem] theorem agh (n:Nat):eg n [.int .u8 0]=bytes (List.replicate n 0):=Ss n
@[go_sem] theorem agi (n:Nat):eg n [.int .i64 0]=ints (List.replicate n 0):=Sr n
@[go_sem] theorem agj (n:Nat):eg n [.bool false]=aJ (List.replicate n false):=Su n
@[go_sem] theorem agk (n:Nat):eg n [.nil 1]=rows none (List.replicate n []):=SC n
@[go_sem] theorem agl (xs:List UInt8) (i:Nat):List.drop i (bytes xs)=bytes (xs.drop i):=by simp [bytes,List.map_drop]
@[go_sem] theorem agm (xs:List UInt8) (i:Nat):List.take i (bytes xs)=bytes (xs.take i):=by simp [bytes,List.map_take]
@[go_sem] theorem e_I (x:List Int):gi true (sI none x)=sI (some true) x:=by simp [gi,gu]
@[go_sem] theorem e_B (x:List UInt8):gi true (s8 none x)=s8 (some true) x:=by simp [gi,gg]
@[go_sem] theorem e_L (x:List Bool):gi true (sB none x)=sB (some true) x:=by simp [gi,jk]
@[go_sem] theorem e_R (x:List (List Int)):gi true (sR none x)=sR (some true) x:=by simp [gi,gZ]
@[go_sem] theorem aii (x:aE):bP true (bK none x)=bK (some true) x:=by simp [gi,bP,gu,gZ]
@[go_sem] theorem agn (x:aA):bP true (cb none x)=cb (some true) x:=by simp [gi,bP,gg]
@[go_sem] theorem aij (x:ak):bP true (ab none x)=ab (some true) x:=by simp [gi,bP,gu,gZ,gg,jk]
@[go_sem] theorem ajB {a b:Int} (h:-9223372036854775808<=a - b) (h':a - b < 9223372036854775808):U.ar .sub .i64 a b=a - b:=me h h'
@[go_sem] theorem XT {a b:Int} (h:-9223372036854775808<=a+b) (h':a+b < 9223372036854775808):U.ar .add .i64 a b=a+b:=rG h h'
@[go_sem] theorem ago (x:UInt8):U.wrap .i64 (x.toNat:Int)=x.toNat:=wrap64 (by omega) (by have:=x.toNat_lt; omega)set_option maxRecDepth 100000
set_option profiler true
set_option profiler.threshold 1000
section
variable (pr:dA) (cv:Cv Rz) (J:Nat->St->Option Rz)
theorem DL:Told cfg Try.prog 122 Try.f122:=⟨by kernel_rfl,Try.func122,by kernel_rfl⟩
theorem DM (x0:aE) (x1:Int):aR pr cv J 122 Try.f122 [(.agg (bK (some true) x0)),(.int .i64 x1)]=
 (cv 130 [(.agg (bK (some true) x0))] (.sl (fun eC=>(fun dq=>(.done (br (br (br (pr.nl dq) true false) true false) (cv 131 [(.int .i64 x1)] (.ty eP.B (fun (td:List UInt8)=>(.done (br (br (pr.flat [(.int .u8 (pr.wrap .u8 (pr.bc eC)))]) (pr.fits (td.length+1) 1) false) (br (br (pr.flat dq) (pr.fits ((td.length+1)+eC) 1) false) (br (br (pr.le 0 (pr.ar .sub .i64 156 (pr.bc ((td.length+1)+eC)))) (pr.fits (((td.length+1)+eC)+(pr.eE (pr.ar .sub .i64 156 (pr.bc ((td.length+1)+eC))))) 1) false) (cv 131 [(.int .i64 x1)] (.ty eP.B (fun (nZ:List UInt8)=>(.done (br (br (pr.flat (bytes nZ)) (pr.fits ((((td.length+1)+eC)+(pr.eE (pr.ar .sub .i64 156 (pr.bc ((td.length+1)+eC)))))+nZ.length) 1) false) (some ((.sl none 1 ((((td.length+1)+eC)+(pr.eE (pr.ar .sub .i64 156 (pr.bc ((td.length+1)+eC)))))+nZ.length) (List.append (List.append (List.append (List.append (bytes td) [(.int .u8 (pr.wrap .u8 (pr.bc eC)))]) dq) (eg (pr.eE (pr.ar .sub .i64 156 (pr.bc ((td.length+1)+eC)))) [(.int .u8 0)])) (bytes nZ))),[.undef,.undef])) none))))) none) none) none))))) none)))))):=by kernel_rfl
def mZ (x1:Int) (n0:Nat) (c1:List D):St:=(St.mk [(1,(.int .i64 x1)),(6,(.ref 10006 [] 0 none))] [(10006,[(.sl none 1 n0 c1)])] [] 0)
theorem Kd:Told cfg Try.prog 111 Try.f111:=⟨by kernel_rfl,Try.func111,by kernel_rfl⟩
theorem Ke (x0:aE) (x1:Int):aR pr cv J 111 Try.f111 [(.agg (bK (some true) x0)),(.int .i64 x1)]=
 (cv 118 [(.agg (bK (some true) x0))] (.sl (fun eC=>(fun dq=>(.done (br (br (br (pr.nl dq) true false) true false) (cv 119 [(.int .i64 x1)] (.ty eP.B (fun (td:List UInt8)=>(.done (br (br (pr.flat [(.int .u8 (pr.wrap .u8 (pr.bc eC)))]) (pr.fits (td.length+1) 1) false) (br (br (pr.flat dq) (pr.fits ((td.length+1)+eC) 1) false) (J 0 (mZ x1 ((td.length+1)+eC) (List.append (List.append (bytes td) [(.int .u8 (pr.wrap .u8 (pr.bc eC)))]) dq))) none) none))))) none)))))):=by kernel_rfl
theorem u7 (x1:Int) (n0:Nat) (c1:List D):bR pr cv J 111 Try.f111 [.undef,.undef] 0 (mZ x1 n0 c1)=
 (br (pr.lt (pr.bc n0) 156) (br (br (pr.flat [(.int .u8 0)]) (pr.fits (n0+1) 1) false) (J 0 (mZ x1 (n0+1) (List.append c1 [(.int .u8 0)]))) none) (cv 119 [(.int .i64 x1)] (.ty eP.B (fun (dt:List UInt8)=>(.done (br (br (pr.flat (bytes dt)) (pr.fits (n0+dt.length) 1) false) (some ((.sl none 1 (n0+dt.length) (List.append c1 (bytes dt))),[.undef,.undef])) none)))))):=by kernel_rfl
theorem Kf:Told cfg Try.prog 117 Try.f117:=⟨by kernel_rfl,Try.func117,by kernel_rfl⟩
theorem Kg (x0:List UInt8):aR pr cv J 117 Try.f117 [(s8 (some true) x0)]=
 let y1:Option (D × List D):=(some ((.aZ [(.agg [(.sl none 1 0 []),(.sl none 1 0 []),(.bool false),(.bool false),(.bool false),(.int .i64 0)]),(.int .i64 0),(.bool false)]),[.undef]))
 let y2:D:=(.int .i64 (pr.ar .or .i64 (pr.ar .or .i64 (pr.ar .or .i64 (pr.wrap .i64 (pr.bT (bytes x0) (pr.idx 0 0 1))) (pr.ar .shl .i64 (pr.wrap .i64 (pr.bT (bytes x0) (pr.idx 0 1 1))) 8)) (pr.ar .shl .i64 (pr.wrap .i64 (pr.bT (bytes x0) (pr.idx 0 2 1))) 16)) (pr.ar .shl .i64 (pr.wrap .i64 (pr.bT (bytes x0) (pr.idx 0 3 1))) 24)))
 let y3:Int:=(pr.ar .add .i64 5 (pr.wrap .i64 (pr.bT (bytes x0) (pr.idx 0 4 1))))
 let y4:Nat:=(pr.jB y3 5)
 (br (br (pr.eq (pr.bc x0.length) 160) false true) y1 (br (pr.bh 0 x0.length) (br (br (pr.cW .u8 (bytes x0) (pr.idx 0 0 1)) true false) (br (pr.bh 1 x0.length) (br (br (pr.cW .u8 (bytes x0) (pr.idx 0 1 1)) true false) (br (br (pr.lt 8 0) false true) (br (pr.bh 2 x0.length) (br (br (pr.cW .u8 (bytes x0) (pr.idx 0 2 1)) true false) (br (br (pr.lt 16 0) false true) (br (pr.bh 3 x0.length) (br (br (pr.cW .u8 (bytes x0) (pr.idx 0 3 1)) true false) (br (br (pr.lt 24 0) false true) (br (pr.bh 4 x0.length) (br (br (pr.cW .u8 (bytes x0) (pr.idx 0 4 1)) true false) (cv 99 [y2,(.int .i64 1),(.int .i64 1000000)] (.bool (fun cx=>(.done (br (br cx false true) y1 (br (pr.lt 151 (pr.wrap .i64 (pr.bT (bytes x0) (pr.idx 0 4 1)))) y1 (br (pr.rZ 5 y3 x0.length) (cv 125 [(.sl (some true) 1 y4 (List.take (Nat.mul y4 1) (List.drop (Nat.mul (pr.eE 5) 1) (bytes x0))))] (.ty eP.mt (fun (eG:aE)=>(.bool (fun iy=>(.done (br (br iy false true) y1 (cv 122 [(.agg (bP true (bK none eG))),y2] (.ty eP.B (fun (nZ:List UInt8)=>(.done (cv 126 [(gi true (s8 none nZ)),(s8 (some true) x0)] (.bool (fun Ao=>(.done (br (br Ao false true) y1 (some ((.aZ [(.agg (bK none eG)),y2,(.bool true)]),[.undef])))))))))))))))))) none))))))) none) none) none) none) none) none) none) none) none) none) none) none) none)):=by kernel_rfl
theorem Kh:Told cfg Try.prog 97 Try.f97:=⟨by kernel_rfl,Try.func97,by kernel_rfl⟩
theorem Ki (x0:List UInt8):aR pr cv J 97 Try.f97 [(s8 (some true) x0)]=
 let y1:Option (D × List D):=(some ((.aZ [(.agg [(.sl none 1 0 []),(.sl none 1 0 []),(.bool false),(.bool false),(.bool false),(.int .i64 0)]),(.int .i64 0),(.bool false)]),[.undef]))
 let y2:D:=(.int .i64 (pr.ar .add .i64 (pr.ar .add .i64 (pr.ar .add .i64 (pr.wrap .i64 (pr.bT (bytes x0) (pr.idx 0 0 1))) (pr.ar .shl .i64 (pr.wrap .i64 (pr.bT (bytes x0) (pr.idx 0 1 1))) 8)) (pr.ar .shl .i64 (pr.wrap .i64 (pr.bT (bytes x0) (pr.idx 0 2 1))) 16)) (pr.ar .shl .i64 (pr.wrap .i64 (pr.bT (bytes x0) (pr.idx 0 3 1))) 24)))
 let y3:Int:=(pr.ar .add .i64 5 (pr.wrap .i64 (pr.bT (bytes x0) (pr.idx 0 4 1))))
 let y4:Nat:=(pr.jB y3 5)
 (br (br (pr.eq (pr.bc x0.length) 160) false true) y1 (br (pr.bh 0 x0.length) (br (br (pr.cW .u8 (bytes x0) (pr.idx 0 0 1)) true false) (br (pr.bh 1 x0.length) (br (br (pr.cW .u8 (bytes x0) (pr.idx 0 1 1)) true false) (br (br (pr.lt 8 0) false true) (br (pr.bh 2 x0.length) (br (br (pr.cW .u8 (bytes x0) (pr.idx 0 2 1)) true false) (br (br (pr.lt 16 0) false true) (br (pr.bh 3 x0.length) (br (br (pr.cW .u8 (bytes x0) (pr.idx 0 3 1)) true false) (br (br (pr.lt 24 0) false true) (br (pr.bh 4 x0.length) (br (br (pr.cW .u8 (bytes x0) (pr.idx 0 4 1)) true false) (cv 64 [y2,(.int .i64 1),(.int .i64 1000000)] (.bool (fun cx=>(.done (br (br cx false true) y1 (br (pr.lt 151 (pr.wrap .i64 (pr.bT (bytes x0) (pr.idx 0 4 1)))) y1 (br (pr.rZ 5 y3 x0.length) (cv 113 [(.sl (some true) 1 y4 (List.take (Nat.mul y4 1) (List.drop (Nat.mul (pr.eE 5) 1) (bytes x0))))] (.ty eP.mt (fun (eG:aE)=>(.bool (fun iy=>(.done (br (br iy false true) y1 (br (pr.rm (bytes x0)) (cv 111 [(.agg (bP true (bK none eG))),y2] (.ty eP.B (fun (nZ:List UInt8)=>(.done (br (pr.rm (bytes nZ)) (br (br (pr.seq (pr.zW (bytes nZ)) (pr.zW (bytes x0))) false true) y1 (some ((.aZ [(.agg (bK none eG)),y2,(.bool true)]),[.undef]))) none))))) none)))))))) none))))))) none) none) none) none) none) none) none) none) none) none) none) none) none)):=by kernel_rfl
theorem Kj:Told cfg Try.prog 106 Try.f106:=⟨by kernel_rfl,Try.func106,by kernel_rfl⟩
theorem Kk (x0:aA):aR pr cv J 106 Try.f106 [(.agg (cb (some true) x0))]=
 (cv 117 [(s8 (some true) x0.a)] (.ty eP.mt (fun (dt:aE)=>(.int (fun kv=>(.bool (fun iy=>(.done (cv 117 [(s8 (some true) x0.b)] (.ty eP.mt (fun (nZ:aE)=>(.int (fun mv=>(.bool (fun uO=>(.done (br uO (br (br iy false true) (some ((.aZ [(.agg (bK none nZ)),(.int .i64 mv),(.bool false)]),[.undef])) (br (pr.lt kv mv) (some ((.aZ [(.agg (bK none nZ)),(.int .i64 mv),(.bool false)]),[.undef])) (some ((.aZ [(.agg (bK none dt)),(.int .i64 kv),(.bool iy)]),[.undef])))) (some ((.aZ [(.agg (bK none dt)),(.int .i64 kv),(.bool iy)]),[.undef]))))))))))))))))))):=by kernel_rfl
theorem Hn:Told cfg Try.prog 96 Try.f96:=⟨by kernel_rfl,Try.func96,by kernel_rfl⟩
theorem Ho (x0:aA):aR pr cv J 96 Try.f96 [(.agg (cb (some true) x0))]=
 let y1:Option (D × List D):=(some ((.int .i64 0),[.undef]))
 let y2:Option (D × List D):=(some ((.int .i64 1),[.undef]))
 let y3:Option (D × List D):=(some ((.int .i64 (-1)),[.undef]))
 (cv 97 [(s8 (some true) x0.a)] (.ty eP.mt (fun (dt:aE)=>(.int (fun kv=>(.bool (fun iy=>(.done (cv 97 [(s8 (some true) x0.b)] (.ty eP.mt (fun (nZ:aE)=>(.int (fun mv=>(.bool (fun uO=>(.done (br iy (br (br uO false true) y1 (br (pr.le mv kv) y1 (br uO y2 y3))) (br uO y2 y3)))))))))))))))))):=by kernel_rfl
theorem Hp:Told cfg Try.prog 76 Try.f76:=⟨by kernel_rfl,Try.func76,by kernel_rfl⟩
theorem Hq (x0:aA):aR pr cv J 76 Try.f76 [(.agg (cb (some true) x0))]=
 (cv 106 [(.agg (cb (some true) x0))] (.ty eP.mt (fun (dt:aE)=>(.int (fun kv=>(.bool (fun iy=>(.done (some ((.aZ [(.agg (bK none dt)),(.int .i64 kv),(.bool (pr.lt 0 kv))]),[.undef])))))))))):=by kernel_rfl
theorem Hr:Told cfg Try.prog 68 Try.f68:=⟨by kernel_rfl,Try.func68,by kernel_rfl⟩
theorem Ht (x0:aA):aR pr cv J 68 Try.f68 [(.agg (cb (some true) x0))]=
 let y1:bE Rz:=(.ty eP.mt (fun (eG:aE)=>(.int (fun jM=>(.bool (fun vH=>(.done (some ((.aZ [(.agg (bK none eG)),(.int .i64 jM),(.bool vH)]),[.undef])))))))))
 (cv 96 [(.agg (cb (some true) x0))] (.int (fun fh=>(.done (br (pr.eq fh 1) (cv 97 [(s8 (some true) x0.b)] y1) (cv 97 [(s8 (some true) x0.a)] y1)))))):=by kernel_rfl
end
@[go_sem] theorem nG (a:Nat):(qp a).length=4:=rfl
attribute [go_sem] AG kz iz
@[go_sem] theorem Zr (b0:Nat) (b:List UInt8) (e0:b0=b.length) (q0:b.length<=1000000) (t:bE Rz):aL 125 [.sl (some true) 1 b0 (bytes b)] t=feed t [enc .mt ((dT b).1),.bool ((dT b).2)]:=by
 subst e0;exact bI (r:=.aZ [enc .mt ((dT b).1),.bool ((dT b).2)]) (s:=.aZ [.ty .mt,.bool]) (ss:=[.undef]) (Kc b q0) (by kernel_rfl) (by simp only [av,bu,aW,bw,bz,ah,aj,vg]) (by simp only [ah,aI,av,aj,vg]) (by first | rfl | simp only [au,aU,aT,bp,bq,aV,bt,vg]) (by first | rfl | simp only [aaf,aah,au,vg]) t
@[go_sem] theorem Zs (b0:Nat) (b:List UInt8) (e0:b0=b.length) (q0:b.length<=1000000) (t:bE Rz):aL 113 [.sl (some true) 1 b0 (bytes b)] t=feed t [enc .mt ((dT b).1),.bool ((dT b).2)]:=by
 subst e0;exact bI (r:=.aZ [enc .mt ((dT b).1),.bool ((dT b).2)]) (s:=.aZ [.ty .mt,.bool]) (ss:=[.undef]) (Kb b q0) (by kernel_rfl) (by simp only [av,bu,aW,bw,bz,ah,aj,vg]) (by simp only [ah,aI,av,aj,vg]) (by first | rfl | simp only [au,aU,aT,bp,bq,aV,bt,vg]) (by first | rfl | simp only [aaf,aah,au,vg]) t
@[go_sem] theorem acF (a:Nat) (q0:a < 4611686018427387904) (t:bE Rz):aL 131 [.int .i64 (a:Int)] t=feed t [enc .B (qp a)]:=by
 exact bI (r:=enc .B (qp a)) (s:=.ty .B) (ss:=[.undef]) (abU a q0) (by kernel_rfl) (by simp only [av,bu,aW,bw,bz,ah,aj,vg]) (by simp only [ah,aI,av,aj,vg]) (by first | rfl | simp only [au,aU,aT,bp,bq,aV,bt,vg]) (by first | rfl | simp only [aaf,aah,au,vg]) t
@[go_sem] theorem abX (a:Nat) (q0:a < 4611686018427387904) (t:bE Rz):aL 119 [.int .i64 (a:Int)] t=feed t [enc .B (qp a)]:=by
 exact bI (r:=enc .B (qp a)) (s:=.ty .B) (ss:=[.undef]) (YV a q0) (by kernel_rfl) (by simp only [av,bu,aW,bw,bz,ah,aj,vg]) (by simp only [ah,aI,av,aj,vg]) (by first | rfl | simp only [au,aU,aT,bp,bq,aV,bt,vg]) (by first | rfl | simp only [aaf,aah,au,vg]) t
def j0 (m:aE) (n:Nat):List UInt8:=qp n++[UInt8.ofNat (cw m).length]++cw m++List.replicate (151 - (cw m).length) 0++qp n
@[go_sem] theorem VM (n k:Nat) (a:List Int) (b:List (List Int)) (f o h:Bool) (l:Int) (e1:n=a.length) (e2:k=b.length) (q:cz ⟨a,b,f,o,h,l⟩) (t:bE Rz):aL 118 [.agg [.sl (some true) 1 n (ints a),.sl (some true) 1 k (rows (some true) b),.bool f,.bool o,.bool h,.int .i64 l]] t=feed t [s8 none (cw ⟨a,b,f,o,h,l⟩)]:=by
 subst e1;subst e2;exact u4 (g:=true) (m:=⟨a,b,f,o,h,l⟩) (hm:=q) t
@[go_sem] theorem VN (n k:Nat) (a:List Int) (b:List (List Int)) (f o h:Bool) (l:Int) (e1:n=a.length) (e2:k=b.length) (q:cz ⟨a,b,f,o,h,l⟩) (t:bE Rz):aL 130 [.agg [.sl (some true) 1 n (ints a),.sl (some true) 1 k (rows (some true) b),.bool f,.bool o,.bool h,.int .i64 l]] t=feed t [s8 none (cw ⟨a,b,f,o,h,l⟩)]:=by
 subst e1;subst e2;exact u5 (g:=true) (m:=⟨a,b,f,o,h,l⟩) (hm:=q) t
theorem u9 (m:aE) (n:Nat) (q0:cz m) (q1:(cw m).length<=151) (q2:n < 4611686018427387904):Cm 122 [.agg (bK (some true) m),.int .i64 (n:Int)] (s8 none (j0 m n),[.undef,.undef]):=by
 refine Cm.step DL _ fun J _=>?_;rw [DM];unfold j0;simp (disch:=first | assumption | omega) only [go_sem,aB]
 have e:(156 - ((4+1+(cw m).length:Nat):Int)).toNat=151 - (cw m).length:=by omega
 rw [e];simp only [s8,aab,nG,aec,abp]
@[go_sem] theorem VO (nI:Nat) (ga:List Int) (nJ:Nat) (gb:List (List Int)) (hZ:Bool) (ia:Bool) (ic:Bool) (ie:Int) (n:Nat) (e0:nI=ga.length) (e1:nJ=gb.length) (q0:cz (⟨ga,gb,hZ,ia,ic,ie⟩:aE)) (q1:(cw (⟨ga,gb,hZ,ia,ic,ie⟩:aE)).length<=151) (q2:n < 4611686018427387904) (t:bE Rz):aL 122 [.agg [.sl (some true) 1 nI (ints ga),.sl (some true) 1 nJ (rows (some true) gb),.bool hZ,.bool ia,.bool ic,.int .i64 ie],.int .i64 (n:Int)] t=feed t [enc .B (j0 (⟨ga,gb,hZ,ia,ic,ie⟩:aE) n)]:=by
 subst e0;subst e1;exact bI (r:=enc .B (j0 (⟨ga,gb,hZ,ia,ic,ie⟩:aE) n)) (s:=.ty .B) (ss:=[.undef,.undef]) (u9 (⟨ga,gb,hZ,ia,ic,ie⟩:aE) n q0 q1 q2) (by kernel_rfl) (by simp only [av,bu,aW,bw,bz,ah,aj,vg]) (by simp only [ah,aI,av,aj,vg]) (by first | rfl | simp only [au,aU,aT,bp,bq,aV,bt,vg]) (by first | rfl | simp only [aaf,aah,au,vg]) t
theorem zd (m:aE) (n:Nat) (q0:cz m) (q1:(cw m).length<=151) (q2:n < 4611686018427387904):Cm 111 [.agg (bK (some true) m),.int .i64 (n:Int)] (s8 none (j0 m n),[.undef,.undef]):=by
 have key:∀ k (o:List UInt8),o.length+k=156->WP 111 Try.f111 [.undef,.undef] 0 (mZ (n:Int) o.length (bytes o)) (s8 none (o++List.replicate k 0++qp n),[.undef,.undef]):=by
  intro k
  induction k with
  | zero=>
   intro o ho;refine WP.step fun J _=>?_;rw [u7];simp (disch:=first | assumption | omega) only [go_sem]
   simp only [s8,adU,aat,aab,nG]
  | succ k ih=>
   intro o ho;refine WP.step fun J hJ=>?_;rw [u7];simp (disch:=first | assumption | omega) only [go_sem]
   have h:=ih (o++[0]) (by simp only [aab,abp]; omega)
   rw [aab,abp,aay o,acj,<- acm] at h;exact hJ _ _ h
 refine Cm.step Kd [.undef,.undef] fun J hJ=>?_;rw [Ke];simp (disch:=first | assumption | omega) only [go_sem]
 have h:=key (151 - (cw m).length) (qp n++[UInt8.ofNat (cw m).length]++cw m) (by simp only [aab,nG,abp]; omega)
 rw [aab,aab,nG,abp] at h;exact hJ _ _ h
@[go_sem] theorem Zt (nI:Nat) (ga:List Int) (nJ:Nat) (gb:List (List Int)) (hZ:Bool) (ia:Bool) (ic:Bool) (ie:Int) (n:Nat) (e0:nI=ga.length) (e1:nJ=gb.length) (q0:cz (⟨ga,gb,hZ,ia,ic,ie⟩:aE)) (q1:(cw (⟨ga,gb,hZ,ia,ic,ie⟩:aE)).length<=151) (q2:n < 4611686018427387904) (t:bE Rz):aL 111 [.agg [.sl (some true) 1 nI (ints ga),.sl (some true) 1 nJ (rows (some true) gb),.bool hZ,.bool ia,.bool ic,.int .i64 ie],.int .i64 (n:Int)] t=feed t [enc .B (j0 (⟨ga,gb,hZ,ia,ic,ie⟩:aE) n)]:=by
 subst e0;subst e1;exact bI (r:=enc .B (j0 (⟨ga,gb,hZ,ia,ic,ie⟩:aE) n)) (s:=.ty .B) (ss:=[.undef,.undef]) (zd (⟨ga,gb,hZ,ia,ic,ie⟩:aE) n q0 q1 q2) (by kernel_rfl) (by simp only [av,bu,aW,bw,bz,ah,aj,vg]) (by simp only [ah,aI,av,aj,vg]) (by first | rfl | simp only [au,aU,aT,bp,bq,aV,bt,vg]) (by first | rfl | simp only [aaf,aah,au,vg]) t
def mi (b:List UInt8):Nat:=(b.getD 0 0).toNat+(b.getD 1 0).toNat*256+(b.getD 2 0).toNat*65536+(b.getD 3 0).toNat*16777216
def lu (b:List UInt8):List UInt8:=(b.drop 5).take (b.getD 4 0).toNat
def gz (b:List UInt8):Bool:=decide ((b.length:Int)=160)&&(decide (1<=(mi b:Int)/\(mi b:Int)<=1000000)&&(!decide (151 < ((b.getD 4 0).toNat:Int))&&((dT (lu b)).2&&decide (j0 (dT (lu b)).1 (mi b)=b))))
def bN (b:List UInt8):aE × Int × Bool:=if gz b then ((dT (lu b)).1,(mi b:Int),true) else (ek,0,false)
theorem FY {b:List UInt8} (h:(dT b).2=true):cw (dT b).1=b:=by
 unfold dT at h ⊢;split at h
 ·rename_i h1;rw [if_pos h1];simp only [D8,decide_eq_true_eq] at h1;exact h1.2.1
 ·simp at h
theorem gR {b:List UInt8} (h:gz b=false):bN b=(ek,0,false):=by unfold bN; rw [h]; rfl
theorem wb {b:List UInt8} (h:gz b=true):bN b=((dT (lu b)).1,(mi b:Int),true):=by unfold bN; rw [h]; rfl
theorem M8 {b:List UInt8} (h:b.length=160) (h4:(b.getD 4 0).toNat<=151):(lu b).length=(b.getD 4 0).toNat:=by simp only [lu,acA,adH]; omega
theorem Pj (b:List UInt8):mi b < 4294967296:=by
 have:=(b.getD 0 0).toNat_lt; have:=(b.getD 1 0).toNat_lt; have:=(b.getD 2 0).toNat_lt; have:=(b.getD 3 0).toNat_lt;unfold mi; omega
theorem yx (b:List UInt8):U.ar .add .i64 (U.ar .add .i64 (U.ar .add .i64 ((b.getD 0 0).toNat:Int) (U.ar .shl .i64 ((b.getD 1 0).toNat:Int) 8)) (U.ar .shl .i64 ((b.getD 2 0).toNat:Int) 16)) (U.ar .shl .i64 ((b.getD 3 0).toNat:Int) 24)=((mi b:Nat):Int):=by
 have h0:=(b.getD 0 0).toNat_lt; have h1:=(b.getD 1 0).toNat_lt; have h2:=(b.getD 2 0).toNat_lt; have h3:=(b.getD 3 0).toNat_lt;have s1:U.ar .shl .i64 ((b.getD 1 0).toNat:Int) 8=_:=uW (k:=8) (by omega) (by omega)
 have s2:U.ar .shl .i64 ((b.getD 2 0).toNat:Int) 16=_:=uW (k:=16) (by omega) (by omega)
 have s3:U.ar .shl .i64 ((b.getD 3 0).toNat:Int) 24=_:=uW (k:=24) (by omega) (by omega)
 rw [s1,s2,s3,sv (by omega),sv (by omega),sv (by omega)]
 rfl
theorem BC (b:List UInt8):U.ar .or .i64 (U.ar .or .i64 (U.ar .or .i64 ((b.getD 0 0).toNat:Int) (U.ar .shl .i64 ((b.getD 1 0).toNat:Int) 8)) (U.ar .shl .i64 ((b.getD 2 0).toNat:Int) 16)) (U.ar .shl .i64 ((b.getD 3 0).toNat:Int) 24)=((mi b:Nat):Int):=by
 have h0:=(b.getD 0 0).toNat_lt; have h1:=(b.getD 1 0).toNat_lt; have h2:=(b.getD 2 0).toNat_lt; have h3:=(b.getD 3 0).toNat_lt;have s1:U.ar .shl .i64 ((b.getD 1 0).toNat:Int) 8=_:=uW (k:=8) (by omega) (by omega)
 have s2:U.ar .shl .i64 ((b.getD 2 0).toNat:Int) 16=_:=uW (k:=16) (by omega) (by omega)
 have s3:U.ar .shl .i64 ((b.getD 3 0).toNat:Int) 24=_:=uW (k:=24) (by omega) (by omega)
 rw [s1,s2,s3,KO (by omega) (by omega),FO (k:=8) h0,KO (by omega) (by omega),FO (k:=16) (by omega),KO (by omega) (by omega),FO (k:=24) (by omega)]
 rfl
theorem abY {b:List UInt8} (h:¬((b.length:Int)=160)):gz b=false:=by simp only [gz,h,decide_false,adL]
theorem abZ {b:List UInt8} (h:¬(1<=(mi b:Int)/\(mi b:Int)<=1000000)):gz b=false:=by simp only [gz,h,decide_false,adL,aei]
theorem ab0 {b:List UInt8} (h:151 < ((b.getD 4 0).toNat:Int)):gz b=false:=by simp only [gz,h,decide_true,aeD,adL,aei]
theorem ab1 {b:List UInt8} (h:(dT (lu b)).2=false):gz b=false:=by simp only [gz,h,adL,aei]
theorem ab2 {b:List UInt8} (h:¬(j0 (dT (lu b)).1 (mi b)=b)):gz b=false:=by simp only [gz,h,decide_false,aei]
theorem ab3 {b:List UInt8} (h1:(b.length:Int)=160) (h2:1<=(mi b:Int)/\(mi b:Int)<=1000000) (h3:¬(151 < ((b.getD 4 0).toNat:Int))) (h4:(dT (lu b)).2=true) (h5:j0 (dT (lu b)).1 (mi b)=b):gz b=true:=by simp only [gz,h1,h2,h3,h4,h5,and_self,decide_true,decide_false,Bool.not_false,vg]
theorem Kl (b:List UInt8) (q0:b.length<=1048576):Cm 97 [s8 (some true) b] (.aZ [.agg (bK none ((bN b).1)),.int .i64 ((bN b).2.1),.bool ((bN b).2.2)],[.undef]):=by
 refine Cm.step Kh _ fun J _=>?_;rw [Ki];simp (disch:=first | assumption | omega) only [go_sem]
 refine ed (fun hl=>?_) (fun hl=>by rw [gR (abY hl)]; rfl)
 have h4:=(b.getD 4 0).toNat_lt;have hw:=Pj b;simp (disch:=first | assumption | omega) only [go_sem,yx]
 refine ed (fun hn=>?_) (fun hn=>by rw [gR (abZ hn)]; rfl)
 simp (disch:=first | assumption | omega) only [go_sem]
 refine ed (fun hs=>by rw [gR (ab0 hs)]; rfl) (fun hs=>?_)
 have hp:=M8 (b:=b) (by omega) (by omega)
 have ep:List.take (b.getD 4 0).toNat (List.drop 5 b)=lu b:=rfl;have cH:=AH (lu b) (by omega)
 have e5:(5+((b.getD 4 0).toNat:Int)).toNat - 5=(b.getD 4 0).toNat:=by omega
 simp (disch:=first | assumption | omega) only [go_sem,e5,ep,yx]
 refine Ph (fun hq=>?_) (fun hq=>by rw [gR (ab1 hq)]; rfl)
 have hm:=FY hq;simp (disch:=first | assumption | (rw [hm]; omega) | omega) only [go_sem,yx]
 refine ed (fun he=>?_) (fun he=>by rw [gR (ab2 he)]; rfl)
 simp (disch:=first | assumption | omega) only [go_sem,yx,wb (ab3 hl hn hs hq he)]
@[go_sem] theorem Zu (b0:Nat) (b:List UInt8) (e0:b0=b.length) (q0:b.length<=1048576) (t:bE Rz):aL 97 [.sl (some true) 1 b0 (bytes b)] t=feed t [enc .mt ((bN b).1),.int .i64 ((bN b).2.1),.bool ((bN b).2.2)]:=by
 subst e0;exact bI (r:=.aZ [enc .mt ((bN b).1),.int .i64 ((bN b).2.1),.bool ((bN b).2.2)]) (s:=.aZ [.ty .mt,.int .i64,.bool]) (ss:=[.undef]) (Kl b q0) (by kernel_rfl) (by simp only [av,bu,aW,bw,bz,ah,aj,vg]) (by simp only [ah,aI,av,aj,vg]) (by first | rfl | simp only [au,aU,aT,bp,bq,aV,bt,vg]) (by first | rfl | simp only [aaf,aah,au,vg]) t
theorem Km (b:List UInt8) (q0:b.length<=1048576):Cm 117 [s8 (some true) b] (.aZ [.agg (bK none ((bN b).1)),.int .i64 ((bN b).2.1),.bool ((bN b).2.2)],[.undef]):=by
 refine Cm.step Kf _ fun J _=>?_;rw [Kg];simp (disch:=first | assumption | omega) only [go_sem]
 refine ed (fun hl=>?_) (fun hl=>by rw [gR (abY hl)]; rfl)
 have h4:=(b.getD 4 0).toNat_lt;have hw:=Pj b;simp (disch:=first | assumption | omega) only [go_sem,BC]
 refine ed (fun hn=>?_) (fun hn=>by rw [gR (abZ hn)]; rfl)
 simp (disch:=first | assumption | omega) only [go_sem]
 refine ed (fun hs=>by rw [gR (ab0 hs)]; rfl) (fun hs=>?_)
 have hp:=M8 (b:=b) (by omega) (by omega)
 have ep:List.take (b.getD 4 0).toNat (List.drop 5 b)=lu b:=rfl;have cH:=AH (lu b) (by omega)
 have e5:(5+((b.getD 4 0).toNat:Int)).toNat - 5=(b.getD 4 0).toNat:=by omega
 simp (disch:=first | assumption | omega) only [go_sem,e5,ep,BC]
 refine Ph (fun hq=>?_) (fun hq=>by rw [gR (ab1 hq)]; rfl)
 have hm:=FY hq;simp (disch:=first | assumption | (rw [hm]; omega) | omega) only [go_sem,BC]
 refine ed (fun he=>?_) (fun he=>by rw [gR (ab2 he)]; rfl)
 simp (disch:=first | assumption | omega) only [go_sem,BC,wb (ab3 hl hn hs hq he)]
@[go_sem] theorem Zv (b0:Nat) (b:List UInt8) (e0:b0=b.length) (q0:b.length<=1048576) (t:bE Rz):aL 117 [.sl (some true) 1 b0 (bytes b)] t=feed t [enc .mt ((bN b).1),.int .i64 ((bN b).2.1),.bool ((bN b).2.2)]:=by
 subst e0;exact bI (r:=.aZ [enc .mt ((bN b).1),.int .i64 ((bN b).2.1),.bool ((bN b).2.2)]) (s:=.aZ [.ty .mt,.int .i64,.bool]) (ss:=[.undef]) (Km b q0) (by kernel_rfl) (by simp only [av,bu,aW,bw,bz,ah,aj,vg]) (by simp only [ah,aI,av,aj,vg]) (by first | rfl | simp only [au,aU,aT,bp,bq,aV,bt,vg]) (by first | rfl | simp only [aaf,aah,au,vg]) t
theorem I8 (b:List UInt8):cz (bN b).1:=by
 unfold bN;split
 ·exact AH (lu b) (by have:=(b.getD 4 0).toNat_lt; simp only [lu,acA,adH]; omega)
 ·exact ⟨by simp [ek],by simp [ek],by simp [ek]⟩
theorem yy (b:List UInt8):if (bN b).2.2 then 1<=(bN b).2.1/\(bN b).2.1<=1000000 else bN b=(ek,0,false):=by
 cases h:gz b with
 | false=>rw [gR h]; rfl
 | true=>
  rw [wb h];simp only [gz,D8,decide_eq_true_eq] at h;exact h.2.1
def BD (s:aA):Bool:=(bN s.b).2.2&&(!(bN s.a).2.2||decide ((bN s.a).2.1 < (bN s.b).2.1))
def aD (s:aA):aE × Int × Bool:=if BD s then bN s.b else bN s.a
def kY (s:aA):Bool:=!BD s&&(bN s.a).2.2
theorem ze (s:aA) (q0:cY s):Cm 106 [.agg (cb (some true) s)] (.aZ [.agg (bK none ((((aD s).1,(aD s).2.1,kY s)).1)),.int .i64 ((((aD s).1,(aD s).2.1,kY s)).2.1),.bool ((((aD s).1,(aD s).2.1,kY s)).2.2)],[.undef]):=by
 have qa:=q0.a;have qb:=q0.b;have h1:=yy s.a;refine Cm.step Kj _ fun J _=>?_;rw [Kk];simp (disch:=first | assumption | omega) only [go_sem]
 unfold aD kY BD;generalize bN s.a=a at*;generalize bN s.b=b at*;obtain ⟨a1,a2,a3⟩:=a;obtain ⟨b1,b2,b3⟩:=b;cases a3<;>cases b3<;>by_cases h:a2 < b2<;>simp [br,h,enc,Qq]
@[go_sem] theorem Zw (va:Nat) (eX:List UInt8) (vb:Nat) (eY:List UInt8) (e0:va=eX.length) (e1:vb=eY.length) (q0:cY (⟨eX,eY⟩:aA)) (t:bE Rz):aL 106 [.agg [.sl (some true) 1 va (bytes eX),.sl (some true) 1 vb (bytes eY)]] t=feed t [enc .mt ((((aD (⟨eX,eY⟩:aA)).1,(aD (⟨eX,eY⟩:aA)).2.1,kY (⟨eX,eY⟩:aA))).1),.int .i64 ((((aD (⟨eX,eY⟩:aA)).1,(aD (⟨eX,eY⟩:aA)).2.1,kY (⟨eX,eY⟩:aA))).2.1),.bool ((((aD (⟨eX,eY⟩:aA)).1,(aD (⟨eX,eY⟩:aA)).2.1,kY (⟨eX,eY⟩:aA))).2.2)]:=by
 subst e0;subst e1;exact bI (r:=.aZ [enc .mt ((((aD (⟨eX,eY⟩:aA)).1,(aD (⟨eX,eY⟩:aA)).2.1,kY (⟨eX,eY⟩:aA))).1),.int .i64 ((((aD (⟨eX,eY⟩:aA)).1,(aD (⟨eX,eY⟩:aA)).2.1,kY (⟨eX,eY⟩:aA))).2.1),.bool ((((aD (⟨eX,eY⟩:aA)).1,(aD (⟨eX,eY⟩:aA)).2.1,kY (⟨eX,eY⟩:aA))).2.2)]) (s:=.aZ [.ty .mt,.int .i64,.bool]) (ss:=[.undef]) (ze (⟨eX,eY⟩:aA) q0) (by kernel_rfl) (by simp only [av,bu,aW,bw,bz,ah,aj,vg]) (by simp only [ah,aI,av,aj,vg]) (by first | rfl | simp only [au,aU,aT,bp,bq,aV,bt,vg]) (by first | rfl | simp only [aaf,aah,au,vg]) t
def oS (s:aA):Int:=if (bN s.a).2.2&&(!(bN s.b).2.2||decide ((bN s.b).2.1<=(bN s.a).2.1)) then 0 else if (bN s.b).2.2 then 1 else -1
theorem w7 (s:aA) (q0:cY s):Cm 96 [.agg (cb (some true) s)] (.int .i64 (oS s),[.undef]):=by
 have qa:=q0.a;have qb:=q0.b;refine Cm.step Hn _ fun J _=>?_;rw [Ho];simp (disch:=first | assumption | omega) only [go_sem]
 unfold oS;generalize bN s.a=a;generalize bN s.b=b;obtain ⟨a1,a2,a3⟩:=a;obtain ⟨b1,b2,b3⟩:=b;cases a3<;>cases b3<;>by_cases h:b2<=a2<;>simp [br,h,yf]
@[go_sem] theorem YY (va:Nat) (eX:List UInt8) (vb:Nat) (eY:List UInt8) (e0:va=eX.length) (e1:vb=eY.length) (q0:cY (⟨eX,eY⟩:aA)) (t:bE Rz):aL 96 [.agg [.sl (some true) 1 va (bytes eX),.sl (some true) 1 vb (bytes eY)]] t=feed t [.int .i64 (oS (⟨eX,eY⟩:aA))]:=by
 subst e0;subst e1;exact bI (r:=.int .i64 (oS (⟨eX,eY⟩:aA))) (s:=.int .i64) (ss:=[.undef]) (w7 (⟨eX,eY⟩:aA) q0) (by kernel_rfl) (by simp only [av,bu,aW,bw,bz,ah,aj,vg]) (by simp only [ah,aI,av,aj,vg]) (by first | rfl | simp only [au,aU,aT,bp,bq,aV,bt,vg]) (by first | rfl | simp only [aaf,aah,au,vg]) t
theorem QK (s:aA):decide (oS s=1)=BD s:=by
 unfold oS BD;generalize bN s.a=a;generalize bN s.b=b;obtain ⟨a1,a2,a3⟩:=a;obtain ⟨b1,b2,b3⟩:=b;cases a3<;>cases b3<;>by_cases h:b2<=a2<;>simp [h]<;>omega
theorem NZ (s:aA):decide (0 < (aD s).2.1)=(aD s).2.2:=by
 unfold aD;have key:∀ b,decide (0 < (bN b).2.1)=(bN b).2.2:=fun b=>by
  have h:=yy b;split at h
  ·rename_i h1;rw [h1,decide_eq_true (by omega)]
  ·rw [h]; rfl
 split<;>exact key _
theorem FZ (s:aA):cz (aD s).1:=by
 unfold aD;split
 ·exact I8 _
 ·exact I8 _
theorem w8 (s:aA) (q0:cY s):Cm 76 [.agg (cb (some true) s)] (.aZ [.agg (bK none ((aD s).1)),.int .i64 ((aD s).2.1),.bool ((aD s).2.2)],[.undef]):=by
 refine Cm.step Hp _ fun J _=>?_;rw [Hq];simp (disch:=first | assumption | omega) only [go_sem,NZ]
@[go_sem] theorem YZ (va:Nat) (eX:List UInt8) (vb:Nat) (eY:List UInt8) (e0:va=eX.length) (e1:vb=eY.length) (q0:cY (⟨eX,eY⟩:aA)) (t:bE Rz):aL 76 [.agg [.sl (some true) 1 va (bytes eX),.sl (some true) 1 vb (bytes eY)]] t=feed t [enc .mt ((aD (⟨eX,eY⟩:aA)).1),.int .i64 ((aD (⟨eX,eY⟩:aA)).2.1),.bool ((aD (⟨eX,eY⟩:aA)).2.2)]:=by
 subst e0;subst e1;exact bI (r:=.aZ [enc .mt ((aD (⟨eX,eY⟩:aA)).1),.int .i64 ((aD (⟨eX,eY⟩:aA)).2.1),.bool ((aD (⟨eX,eY⟩:aA)).2.2)]) (s:=.aZ [.ty .mt,.int .i64,.bool]) (ss:=[.undef]) (w8 (⟨eX,eY⟩:aA) q0) (by kernel_rfl) (by simp only [av,bu,aW,bw,bz,ah,aj,vg]) (by simp only [ah,aI,av,aj,vg]) (by first | rfl | simp only [au,aU,aT,bp,bq,aV,bt,vg]) (by first | rfl | simp only [aaf,aah,au,vg]) t
theorem w9 (s:aA) (q0:cY s):Cm 68 [.agg (cb (some true) s)] (.aZ [.agg (bK none ((aD s).1)),.int .i64 ((aD s).2.1),.bool ((aD s).2.2)],[.undef]):=by
 have qa:=q0.a;have qb:=q0.b;refine Cm.step Hr _ fun J _=>?_;rw [Ht];simp (disch:=first | assumption | omega) only [go_sem,QK]
 unfold aD;refine qw (fun h=>?_) (fun h=>?_)
 ·simp (disch:=first | assumption | omega) only [go_sem,h]
 ·simp (disch:=first | assumption | omega) only [go_sem,if_neg h]
@[go_sem] theorem Y0 (va:Nat) (eX:List UInt8) (vb:Nat) (eY:List UInt8) (e0:va=eX.length) (e1:vb=eY.length) (q0:cY (⟨eX,eY⟩:aA)) (t:bE Rz):aL 68 [.agg [.sl (some true) 1 va (bytes eX),.sl (some true) 1 vb (bytes eY)]] t=feed t [enc .mt ((aD (⟨eX,eY⟩:aA)).1),.int .i64 ((aD (⟨eX,eY⟩:aA)).2.1),.bool ((aD (⟨eX,eY⟩:aA)).2.2)]:=by
 subst e0;subst e1;exact bI (r:=.aZ [enc .mt ((aD (⟨eX,eY⟩:aA)).1),.int .i64 ((aD (⟨eX,eY⟩:aA)).2.1),.bool ((aD (⟨eX,eY⟩:aA)).2.2)]) (s:=.aZ [.ty .mt,.int .i64,.bool]) (ss:=[.undef]) (w9 (⟨eX,eY⟩:aA) q0) (by kernel_rfl) (by simp only [av,bu,aW,bw,bz,ah,aj,vg]) (by simp only [ah,aI,av,aj,vg]) (by first | rfl | simp only [au,aU,aT,bp,bq,aV,bt,vg]) (by first | rfl | simp only [aaf,aah,au,vg]) t
end Go.Proofs.Ytockoilcnmljiaa
